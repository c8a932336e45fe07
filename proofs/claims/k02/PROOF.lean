import PyProof.Rows.All
import Wide.All
import OpenK.AllK
import Wide.FinOn
import KE.KStateDown
import Lean
import HandS.Base
import HandS.Call
import HandS.Ends
import HandS.More
import HandS.Words
import HandS.WordsExc
import HandS.Defaults
import HandS.Head0
import HandS.Head1
import HandS.Head2
import HandS.HeadEnd
import HandS.HeadHook1
import HandS.HeadHook2
import HandS.ForMost
import HandS.ForExc
import HandS.Deep
import HandS.TupLe
import HandS.IsInst
import HandS.SetKeys
import HandS.SortInts
import HandS.Style
import HandS.Wide
import HandS.Flow
import HandS.Conv
import HandS.ExcIs
import HandS.HotCalls
import HandS.Zip
import HandS.Sort
import PySem.Challenge.RW_folklist_k02_the_first_list
set_option Elab.async false
set_option linter.all false
set_option maxRecDepth 100000
set_option maxHeartbeats 4000000
/-! ## The value layer: tuples and frozen lists as values, a small heap of what may change -/
namespace WL
open PySem L2

/-- a value: scr: the script (a list of ints that stays); tup, fls: a tuple, a list that is never changed again, by what they hold; ref: an object by its address -/
inductive W where
  | non | bl (b : Bool) | int (i : Int) | str (x : Str) | ref (a : Addr) | scr (ns : List Int) | tup (xs : List W) | fls (xs : List W)
/-- what may change -/
inductive HW where
  | lst (xs : List W)
  | dct (kvs : List (Key × W))
  | ins (C : Addr) (fs : List (Str × W))
abbrev Hw := Addr → Option HW
abbrev Sw := List (Option W)

mutual
def RelW (K : PySem.W.Frag) (F : Hp) : W → V → Prop
  | .non, v => v = .non
  | .bl b, v => v = .bl b
  | .int i, v => v = .int i
  | .str x, v => v = .str x
  | .ref a, v => v = .ref a
  | .scr ns, v => ∃ a, v = .ref a ∧ SqL K F a (ns.map V.int)
  | .tup xs, v => ∃ a vs, v = .ref a ∧ F a = some (.tup vs) ∧ RelWs K F xs vs
  | .fls xs, v => ∃ a vs, v = .ref a ∧ F a = some (.lst vs) ∧ RelWs K F xs vs
def RelWs (K : PySem.W.Frag) (F : Hp) : List W → List V → Prop
  | [], vs => vs = []
  | x :: xs, vs => ∃ v r, vs = v :: r ∧ RelW K F x v ∧ RelWs K F xs r
end
section
variable {K : PySem.W.Frag} {F F1 : Hp}
mutual
theorem RelW.mono (s : Same F F1) : ∀ (w : W) {v : V}, RelW K F w v → RelW K F1 w v
  | .non, _, h => h
  | .bl _, _, h => h
  | .int _, _, h => h
  | .str _, _, h => h
  | .ref _, _, h => h
  | .scr _, _, ⟨a, e, h⟩ => ⟨a, e, s.seq h⟩
  | .tup xs, _, ⟨a, vs, e, h, r⟩ => ⟨a, vs, e, s _ _ h, RelWs.mono s xs r⟩
  | .fls xs, _, ⟨a, vs, e, h, r⟩ => ⟨a, vs, e, s _ _ h, RelWs.mono s xs r⟩
theorem RelWs.mono (s : Same F F1) : ∀ (ws : List W) {vs : List V}, RelWs K F ws vs → RelWs K F1 ws vs
  | [], _, h => h
  | x :: xs, _, ⟨v, r, e, h, t⟩ => ⟨v, r, e, RelW.mono s x h, RelWs.mono s xs t⟩
end
theorem RelWs.nil : RelWs K F [] [] := rfl
theorem RelWs.cons {w : W} {v : V} {ws : List W} {vs : List V} (h : RelW K F w v) (t : RelWs K F ws vs) : RelWs K F (w :: ws) (v :: vs) := ⟨v, vs, rfl, h, t⟩
theorem RelWs.length : ∀ {ws : List W} {vs : List V}, RelWs K F ws vs → ws.length = vs.length
  | [], _, h => by
    have e : _ = [] := h
    rw [e]
    rfl
  | w :: ws, _, ⟨v, r, e, _, t⟩ => by
    rw [e, List.length_cons, List.length_cons, RelWs.length t]
theorem RelWs.append : ∀ {ws ws' : List W} {vs vs' : List V}, RelWs K F ws vs → RelWs K F ws' vs' → RelWs K F (ws ++ ws') (vs ++ vs')
  | [], _, _, _, h, t => by
    have e : _ = [] := h
    rw [e]
    exact t
  | w :: ws, _, _, _, ⟨v, r, e, h, t⟩, t' => by
    rw [e]
    exact .cons h (RelWs.append t t')
theorem RelWs.get : ∀ {ws : List W} {vs : List V} {i : Nat} {w : W}, RelWs K F ws vs → ws[i]? = some w → ∃ v, vs[i]? = some v ∧ RelW K F w v
  | [], _, _, _, _, h => by simp at h
  | w :: ws, _, 0, w', ⟨v, r, e, h, t⟩, q => by
    have e2 : w = w' := Option.some.inj q
    rw [e, ← e2]
    exact ⟨v, rfl, h⟩
  | w :: ws, _, i + 1, w', ⟨v, r, e, h, t⟩, q => by
    rw [e]
    exact RelWs.get (i := i) t q
theorem RelWs.take : ∀ {ws : List W} {vs : List V} (n : Nat), RelWs K F ws vs → RelWs K F (ws.take n) (vs.take n)
  | [], _, n, h => by
    have e : _ = [] := h
    rw [e, List.take_nil, List.take_nil]
    exact .nil
  | _ :: _, _, 0, _ => by
    rw [List.take_zero, List.take_zero]
    exact .nil
  | w :: ws, _, n + 1, ⟨v, r, e, h, t⟩ => by
    rw [e]
    exact .cons h (RelWs.take n t)
theorem RelWs.drop : ∀ {ws : List W} {vs : List V} (n : Nat), RelWs K F ws vs → RelWs K F (ws.drop n) (vs.drop n)
  | [], _, n, h => by
    have e : _ = [] := h
    rw [e, List.drop_nil, List.drop_nil]
    exact .nil
  | w :: ws, _, 0, h => h
  | w :: ws, _, n + 1, ⟨v, r, e, h, t⟩ => by
    rw [e]
    exact RelWs.drop n t
theorem RelWs.eraseIdx : ∀ {ws : List W} {vs : List V} (n : Nat), RelWs K F ws vs → RelWs K F (ws.eraseIdx n) (vs.eraseIdx n)
  | [], _, n, h => by
    have e : _ = [] := h
    rw [e]
    exact .nil
  | w :: ws, _, 0, ⟨v, r, e, h, t⟩ => by
    rw [e]
    exact t
  | w :: ws, _, n + 1, ⟨v, r, e, h, t⟩ => by
    rw [e]
    exact .cons h (RelWs.eraseIdx n t)
theorem RelWs.reverse : ∀ {ws : List W} {vs : List V}, RelWs K F ws vs → RelWs K F ws.reverse vs.reverse
  | [], _, h => by
    have e : _ = [] := h
    rw [e]
    exact .nil
  | w :: ws, _, ⟨v, r, e, h, t⟩ => by
    rw [e, List.reverse_cons, List.reverse_cons]
    exact (RelWs.reverse t).append (.cons h .nil)
theorem RelWs.ints : ∀ {ns : List Int} {vs : List V}, RelWs K F (ns.map W.int) vs → vs = ns.map V.int
  | [], _, h => h
  | n :: ns, _, ⟨v, r, e, h, t⟩ => by
    have e1 : v = V.int n := h
    rw [e, e1, RelWs.ints t]
    rfl
theorem RelWs.of_ints : ∀ ns : List Int, RelWs K F (ns.map W.int) (ns.map V.int)
  | [] => rfl
  | n :: ns => .cons (show RelW K F (.int n) (.int n) from rfl) (RelWs.of_ints ns)
theorem RelWs.one {w : W} {vs : List V} (h : RelWs K F [w] vs) : ∃ v, vs = [v] ∧ RelW K F w v := by
  obtain ⟨v, r, e, h, t⟩ := h
  have er : r = [] := t
  rw [er] at e
  exact ⟨v, e, h⟩
theorem RelWs.two {w w' : W} {vs : List V} (h : RelWs K F [w, w'] vs) : ∃ v v', vs = [v, v'] ∧ RelW K F w v ∧ RelW K F w' v' := by
  obtain ⟨v, r, e, h, t⟩ := h
  obtain ⟨v', er, h'⟩ := RelWs.one t
  rw [er] at e
  exact ⟨v, v', e, h, h'⟩
end

/-- the pairs of a dict, of an instance -/
def RelKs (K : PySem.W.Frag) (F : Hp) {α : Type} : List (α × W) → List (α × V) → Prop
  | [], vs => vs = []
  | x :: xs, vs => ∃ v r, vs = (x.1, v) :: r ∧ RelW K F x.2 v ∧ RelKs K F xs r
section
variable {K : PySem.W.Frag} {F F1 : Hp} {α : Type}
theorem RelKs.mono (s : Same F F1) : ∀ {ws : List (α × W)} {vs : List (α × V)}, RelKs K F ws vs → RelKs K F1 ws vs
  | [], _, h => h
  | _ :: _, _, ⟨v, r, e, h, t⟩ => ⟨v, r, e, RelW.mono s _ h, RelKs.mono s t⟩
theorem RelKs.length : ∀ {ws : List (α × W)} {vs : List (α × V)}, RelKs K F ws vs → ws.length = vs.length
  | [], _, h => by
    have e : _ = [] := h
    rw [e]
    rfl
  | _ :: _, _, ⟨v, r, e, _, t⟩ => by
    rw [e, List.length_cons, List.length_cons, RelKs.length t]
end

/-- an object as it stands below -/
def RelH (K : PySem.W.Frag) (F : Hp) (o : Option HO) : HW → Prop
  | .lst xs => ∃ vs, o = some (.lst vs) ∧ RelWs K F xs vs
  | .dct kvs => ∃ vs, o = some (.dK vs) ∧ RelKs K F kvs vs
  | .ins C fs => ∃ dx vs, o = some (.ins C dx vs) ∧ RelKs K F fs vs
theorem RelH.mono {K : PySem.W.Frag} {F F1 : Hp} (s : Same F F1) {o : Option HO} : ∀ {w : HW}, RelH K F o w → RelH K F1 o w
  | .lst _, ⟨vs, e, r⟩ => ⟨vs, e, RelWs.mono s _ r⟩
  | .dct _, ⟨vs, e, r⟩ => ⟨vs, e, r.mono s⟩
  | .ins _ _, ⟨dx, vs, e, r⟩ => ⟨dx, vs, e, r.mono s⟩
/-- the heap below: F frozen, H' what may change -/
structure AbH (K : PySem.W.Frag) (F : Hp) (H' : Hw) (H : Hp) : Prop where
  sub : Same F H
  obj : ∀ a o, H' a = some o → F a = none ∧ RelH K F (H a) o

def updW (H : Hw) (a : Addr) (o : HW) : Hw := fun b => if b = a then some o else H b
theorem updW_same {H : Hw} {a : Addr} {o : HW} : updW H a o a = some o := by unfold updW; rw [if_pos rfl]
theorem updW_ne {H : Hw} {a b : Addr} {o : HW} (h : b ≠ a) : updW H a o b = H b := by unfold updW; rw [if_neg h]
theorem neW_of {H : Hw} {a b : Addr} {o u : HW} (h : H a = some o) (h' : H b = some u) (d : o ≠ u) : a ≠ b := by
  intro e; subst e; rw [h] at h'; exact d (Option.some.inj h')
theorem neW_none {H : Hw} {a b : Addr} {o : HW} (h : H a = some o) (h' : H b = none) : a ≠ b := by
  intro e; subst e; rw [h] at h'; cases h'

section
variable {K : PySem.W.Frag} {F : Hp} {H' : Hw} {H : Hp} {a : Addr}
theorem same_upd {p : Addr} {o : HO} (h : H p = none) : Same H (upd H p o) := fun b x e => by
  rw [upd_ne (ne_of_none e h)]
  exact e
theorem AbH.noF (A : AbH K F H' H) (h : H a = none) : F a = none := A.sub.free h
theorem AbH.noH (A : AbH K F H' H) (h : H a = none) : H' a = none := by
  cases e : H' a with
  | none => rfl
  | some o =>
    obtain ⟨_, r⟩ := A.obj a o e
    rw [h] at r
    cases o with
    | lst _ => obtain ⟨_, q, _⟩ := r; cases q
    | dct _ => obtain ⟨_, q, _⟩ := r; cases q
    | ins _ _ => obtain ⟨_, _, q, _⟩ := r; cases q
/-- what is written is an object of ours -/
theorem AbH.write (A : AbH K F H' H) {u : HW} {o : HO} {w : HW} (h : H' a = some u) (r : RelH K F (some o) w) : AbH K F (updW H' a w) (upd H a o) := by
  have na := (A.obj a u h).1
  refine ⟨fun b x e => ?_, fun b x e => ?_⟩
  · rw [upd_ne (ne_of_none e na)]
    exact A.sub b x e
  · by_cases hb : b = a
    · subst hb
      rw [updW_same] at e
      cases e
      rw [upd_same]
      exact ⟨na, r⟩
    · rw [updW_ne hb] at e
      rw [upd_ne hb]
      exact A.obj b x e
/-- a new object of ours -/
theorem AbH.new (A : AbH K F H' H) {o : HO} {w : HW} (h : H a = none) (r : RelH K F (some o) w) : AbH K F (updW H' a w) (upd H a o) := by
  refine ⟨fun b x e => ?_, fun b x e => ?_⟩
  · rw [upd_ne (ne_of_none (A.sub b x e) h)]
    exact A.sub b x e
  · by_cases hb : b = a
    · subst hb
      rw [updW_same] at e
      cases e
      rw [upd_same]
      exact ⟨A.noF h, r⟩
    · rw [updW_ne hb] at e
      rw [upd_ne hb]
      exact A.obj b x e
/-- a new object that is frozen at once, or that we never look at -/
theorem AbH.frz (A : AbH K F H' H) {o : HO} (h : H a = none) : Same F (upd F a o) ∧ AbH K (upd F a o) H' (upd H a o) := by
  have s : Same F (upd F a o) := same_upd (A.noF h)
  refine ⟨s, fun b x e => ?_, fun b x e => ?_⟩
  · by_cases hb : b = a
    · subst hb
      rw [upd_same] at e ⊢
      exact e
    · rw [upd_ne hb] at e ⊢
      exact A.sub b x e
  · obtain ⟨n, r⟩ := A.obj b x e
    have hb : b ≠ a := fun q => by
      rw [q, A.noH h] at e
      cases e
    rw [upd_ne hb, upd_ne hb]
    exact ⟨n, r.mono s⟩
theorem AbH.skip (A : AbH K F H' H) {o : HO} (h : H a = none) : AbH K F H' (upd H a o) := by
  refine ⟨fun b x e => ?_, fun b x e => ?_⟩
  · rw [upd_ne (ne_of_none (A.sub b x e) h)]
    exact A.sub b x e
  · have hb : b ≠ a := fun q => by
      rw [q, A.noH h] at e
      cases e
    rw [upd_ne hb]
    exact A.obj b x e
theorem AbH.list (A : AbH K F H' H) {xs : List W} (h : H' a = some (.lst xs)) : ∃ vs, H a = some (.lst vs) ∧ RelWs K F xs vs := (A.obj a _ h).2
theorem AbH.dict (A : AbH K F H' H) {kvs : List (Key × W)} (h : H' a = some (.dct kvs)) : ∃ vs, H a = some (.dK vs) ∧ RelKs K F kvs vs := (A.obj a _ h).2
theorem AbH.inst (A : AbH K F H' H) {C : Addr} {fs : List (Str × W)} (h : H' a = some (.ins C fs)) : ∃ dx vs, H a = some (.ins C dx vs) ∧ RelKs K F fs vs := (A.obj a _ h).2
end

/-- the slots -/
def RelS (K : PySem.W.Frag) (F : Hp) : Sw → St → Prop
  | [], σ => σ = []
  | x :: xs, σ => ∃ v r, σ = v :: r ∧ (∀ w, x = some w → ∃ u, v = some u ∧ RelW K F w u) ∧ RelS K F xs r
section
variable {K : PySem.W.Frag} {F F1 : Hp}
theorem RelS.mono (s : Same F F1) : ∀ {ws : Sw} {σ : St}, RelS K F ws σ → RelS K F1 ws σ
  | [], _, h => h
  | _ :: _, _, ⟨v, r, e, h, t⟩ => ⟨v, r, e, fun w q => (h w q).imp fun u z => ⟨z.1, RelW.mono s _ z.2⟩, RelS.mono s t⟩
theorem RelS.length : ∀ {ws : Sw} {σ : St}, RelS K F ws σ → ws.length = σ.length
  | [], _, h => by
    have e : _ = [] := h
    rw [e]
    rfl
  | _ :: _, _, ⟨v, r, e, _, t⟩ => by rw [e, List.length_cons, List.length_cons, RelS.length t]
theorem RelS.get : ∀ {ws : Sw} {σ : St} {i : Nat} {w : W}, RelS K F ws σ → ws[i]? = some (some w) → ∃ u, σ[i]? = some (some u) ∧ RelW K F w u
  | [], _, _, _, _, h => by simp at h
  | x :: ws, _, 0, w, ⟨v, r, e, h, t⟩, q => by
    obtain ⟨u, eu, ru⟩ := h w (Option.some.inj q)
    rw [e, eu]
    exact ⟨u, rfl, ru⟩
  | x :: ws, _, i + 1, w, ⟨v, r, e, h, t⟩, q => by
    rw [e]
    exact RelS.get (i := i) t q
theorem RelS.set {w : W} {u : V} (ru : RelW K F w u) : ∀ {ws : Sw} {σ : St} (i : Nat), RelS K F ws σ → RelS K F (ws.set i (some w)) (σ.set i (some u))
  | [], _, _, h => by
    have e : _ = [] := h
    rw [e]
    exact rfl
  | x :: ws, _, 0, ⟨v, r, e, h, t⟩ => by
    rw [e]
    exact ⟨some u, r, rfl, fun w' q => ⟨u, rfl, by rw [← Option.some.inj q]; exact ru⟩, t⟩
  | x :: ws, _, i + 1, ⟨v, r, e, h, t⟩ => by
    rw [e]
    exact ⟨v, r.set i (some u), rfl, h, RelS.set ru i t⟩
theorem RelS.unset : ∀ {ws : Sw} {σ : St} (i : Nat), RelS K F ws σ → RelS K F (ws.set i none) (σ.set i none)
  | [], _, _, h => by
    have e : _ = [] := h
    rw [e]
    exact rfl
  | x :: ws, _, 0, ⟨v, r, e, h, t⟩ => by
    rw [e]
    exact ⟨none, r, rfl, (fun w' q => by cases q), t⟩
  | x :: ws, _, i + 1, ⟨v, r, e, h, t⟩ => by
    rw [e]
    exact ⟨v, r.set i none, rfl, h, RelS.unset i t⟩
/-- a slot that is no longer known -/
theorem RelS.forget : ∀ {ws : Sw} {σ : St} (i : Nat), RelS K F ws σ → RelS K F (ws.set i none) σ
  | [], _, _, h => by
    have e : _ = [] := h
    rw [e]
    exact rfl
  | x :: ws, _, 0, ⟨v, r, e, h, t⟩ => by
    rw [e]
    exact ⟨v, r, rfl, (fun w' q => by cases q), t⟩
  | x :: ws, _, i + 1, ⟨v, r, e, h, t⟩ => by
    rw [e]
    exact ⟨v, r, rfl, h, RelS.forget i t⟩
theorem RelS.start : ∀ {ws : List W} {vs : List V} (n : Nat), RelWs K F ws vs → RelS K F (ws.map some ++ List.replicate n none) (vs.map some ++ List.replicate n none)
  | [], _, n, h => by
    have e : _ = [] := h
    rw [e]
    show RelS K F (List.replicate n none) (List.replicate n none)
    induction n with
    | zero => exact rfl
    | succ n ih => exact ⟨none, _, rfl, (fun w' q => by cases q), ih⟩
  | w :: ws, _, n, ⟨v, r, e, h, t⟩ => by
    rw [e]
    exact ⟨some v, _, rfl, (fun w' q => ⟨v, rfl, by rw [← Option.some.inj q]; exact h⟩), RelS.start n t⟩
end
end WL

/-! ## in range(a, b), whatever is searched for; texts times numbers; how many are different -/
namespace WL
open PySem L2 Builtin Builtin.Range
theorem plain_rc : plainId "range.__contains__.loop" = true := by decide +kernel
theorem entry_rc : entryFor table "range.__contains__.loop" = some Builtin.«range.__contains__.loop» := entryFor_of_tree (by kernel_rfl)
theorem rsize (a : Int) (n : Nat) : rangeSize a (a + n) 1 = n := by
  unfold rangeSize
  rw [if_pos (by decide)]
  split
  · rw [Int.ediv_one]; omega
  · omega
def anyR (e : Int → Bool) (a : Int) (n i : Nat) : Bool := ((List.range' i (n - i)).any fun j => e (a + (j : Nat)))
theorem rc_loop (r : Addr) (a : Int) (n : Nat) (t u v : Tok) (x : Value) (e : Int → Bool) (k : Nat) : ∀ i : Nat, n - i = k → Meets (Builtin.«range.__contains__.loop» ⟨[.ref r, x, rawInt i], []⟩)
    (fun A R s => s.heap.get? r = some { cls := .type "range", dict := none, data := .fields #[.int a t, .int (a + n) u, .int 1 v], slots := #[] } ∧ (∀ (s' : Shared) j tk, SeqAt.EqAt A.in1 s' (.int j tk) x (e j)) ∧
      (∀ tk, R (.ok (.ret (.bool (anyR e a n i)))) { s with toks := tk })) := by
  induction k with
  | zero =>
    intro i hk prog w A R s h
    obtain ⟨hp, g, d, tk, os⟩ := s; obtain ⟨hl, he, h⟩ := h
    wp_walk using AutoSeq1.wpAny_loadPart' hl
    rw [rsize]
    refine wpAny_ite_true (decide_eq_true (by omega)) ?_
    have e0 : anyR e a n i = false := by unfold anyR; rw [hk]; rfl
    rw [e0] at h
    wp_walk
    exact h tk
  | succ k ih =>
    intro i hk prog w A R s h
    obtain ⟨hp, g, d, tk, os⟩ := s; obtain ⟨hl, he, h⟩ := h
    wp_walk using AutoSeq1.wpAny_loadPart' hl
    rw [rsize]
    refine wpAny_ite_false (decide_eq_false (by omega)) ?_
    have e0 : anyR e a n i = (e (a + (i : Nat)) || anyR e a n (i + 1)) := by
      unfold anyR
      rw [show n - i = (n - (i + 1)) + 1 from by omega, List.range'_succ, List.any_cons]
    rw [e0] at h
    refine wpAny_bind (wpAny_mkInt ?_)
    rw [Int.mul_one]
    refine wpAny_bind (he _ _ _ prog w _ _ ?_)
    cases hb : e (a + (i : Nat)) with
    | true =>
      rw [hb] at h
      wp_walk
      exact h _
    | false =>
      rw [hb] at h
      have hc : ((i : Int) + 1) = ((i + 1 : Nat) : Int) := by push_cast; rfl
      wp_walk
      rw [hc]
      exact ⟨plainId_quiet plain_rc _, codeAny_builtin entry_rc (by
        rw [Around.under_plainId plain_rc _]
        exact ih (i + 1) (by omega) prog w A R _ ⟨hl, he, fun tk => h tk⟩)⟩
theorem rc_at (r : Addr) (a : Int) (n : Nat) (t u v : Tok) (x : Value) (e : Int → Bool) (hx : rangeExactInt? x = none) : Meets (Builtin.«range.__contains__» ⟨[.ref r, x], []⟩)
    (fun A R s => s.heap.get? r = some { cls := .type "range", dict := none, data := .fields #[.int a t, .int (a + n) u, .int 1 v], slots := #[] } ∧ (∀ (s' : Shared) j tk, SeqAt.EqAt A.in1 s' (.int j tk) x (e j)) ∧
      (∀ tk, R (.ok (.ret (.bool (anyR e a n 0)))) { s with toks := tk })) := by
  intro prog w A R s h
  obtain ⟨hp, g, d, tk, os⟩ := s; obtain ⟨hl, he, h⟩ := h
  wp_walk using AutoSeq1.wpAny_loadPart' hl
  rw [hx]
  wp_walk
  exact ⟨plainId_quiet plain_rc _, codeAny_builtin entry_rc (by
    rw [Around.under_plainId plain_rc _]
    exact rc_loop r a n t u v x e _ 0 rfl prog w A R _ ⟨hl, he, h⟩)⟩
theorem q_containsB (r : Addr) (a b : Int) (k : Bool) (t u v : Tok) :
    Meets (Builtin.«range.__contains__» ⟨[.ref r, .bool k], []⟩) (fun _ R s => s.heap.get? r = some { cls := .type "range", dict := none, data := .fields #[.int a t, .int b u, .int 1 v], slots := #[] } ∧ R (.ok (.ret (.bool (Builtin.Range.rangePlace? a b 1 (if k = true then 1 else 0)).isSome))) s) :=
  .of_wp fun prog w A R s h => by obtain ⟨hp, g, d, tk, os⟩ := s; obtain ⟨hl, h⟩ := h; wp_walk; exact ⟨_, rfl, h⟩
/-- whether x is in range(lo, hi) -/
def inRv (x : V) (lo hi : Int) : Option Bool := match x with
  | .int i => some (decide (lo ≤ i ∧ i < hi))
  | .bl b => some (decide (lo ≤ (if b = true then 1 else 0) ∧ (if b = true then 1 else 0) < hi))
  | .str _ => some false
  | .non => some false
  | _ => none
theorem anyR_none {x : V} (h : ∀ j : Int, eqV (.int j) x = false) (a : Int) (n : Nat) : anyR (fun j => eqV (.int j) x) a n 0 = false := by
  unfold anyR
  rw [List.any_eq_false]
  intro j _
  show ¬ (eqV (.int (a + (j : Nat))) x = true)
  rw [h]
  decide
theorem has_rng {X : Cx} {pins : List (Addr × Obj)} {s : Shared} {σ : St} {H : Hp} {x : V} {v : Value} {a : Addr} {lo : Int} {n : Nat} {b : Bool} {Q : Bool → Shared → Prop} (I : Inv X pins σ H s) (rx : RelV x v) (ha : H a = some (.rng lo (lo + n))) (hb : inRv x lo (lo + n) = some b)
    (hQ : ∀ s', Inv X pins σ H s' → Q b s') : wpAny (model X.prog X.w) X.A (contains (Value.ref a) v) Q X.xe s := by
  obtain ⟨t1, t2, t3, ho⟩ := I.hok a _ ha
  have num : ∀ i : Int, (rangePlace? lo (lo + n) 1 i).isSome = decide (lo ≤ i ∧ i < lo + n) := fun i => place1 _ _ _
  have search : rangeExactInt? v = none → flatV x = true → (∀ j : Int, eqV (.int j) x = false) → b = false → wpAny (model X.prog X.w) X.A (contains (Value.ref a) v) Q X.xe s := fun h1 h2 h3 h4 =>
    wpAny_contains_slot (T := "range") ⟨_, ho, rfl⟩ F.slot_range_contains (call_meets F.slot_range_contains ⟨_, ho, rfl⟩ F.entry_range_contains (F.args_range_contains_2 _ _) (rc_at a lo n t1 t2 t3 v (fun j => eqV (.int j) x) h1)
      ⟨ho, fun s' j tk => eqAt_V (y := .int j) ⟨tk, rfl⟩ rx rfl h2, fun tk => by
        rw [anyR_none h3]
        subst h4
        exact wpAny_truthy_bool (hQ _ (I.tok _))⟩)
  cases x with
  | int i =>
    obtain ⟨k, rfl⟩ := rx
    refine wpAny_contains_slot (T := "range") ⟨_, ho, rfl⟩ F.slot_range_contains (call_meets F.slot_range_contains ⟨_, ho, rfl⟩ F.entry_range_contains (F.args_range_contains_2 _ _) (q_contains a lo _ i t1 t2 t3 k)
      ⟨ho, ?_⟩)
    rw [num]
    cases hb
    exact wpAny_truthy_bool (hQ _ I)
  | bl k =>
    obtain rfl : v = Value.bool k := rx
    refine wpAny_contains_slot (T := "range") ⟨_, ho, rfl⟩ F.slot_range_contains (call_meets F.slot_range_contains ⟨_, ho, rfl⟩ F.entry_range_contains (F.args_range_contains_2 _ _) (q_containsB a lo _ k t1 t2 t3)
      ⟨ho, ?_⟩)
    rw [num]
    cases hb
    exact wpAny_truthy_bool (hQ _ I)
  | str y =>
    obtain ⟨k, rfl⟩ := rx
    cases hb
    exact search rfl rfl (fun _ => rfl) rfl
  | non =>
    obtain rfl : v = Value.none := rx
    cases hb
    exact search rfl rfl (fun _ => rfl) rfl
  | _ => cases hb
/-- in (not in) range(lo, hi) -/
def rInr (neg : Bool) (lo hi : Int) : V → Hp → VK → Prop := fun x H Q => ∃ b, inRv x lo hi = some b ∧ ∀ H2, Same H H2 → Q (.bl (Bool.xor neg b)) H2
theorem op_inr {X : Cx} {pins : List (Addr × Obj)} {s : Shared} {σ : St} {H : Hp} {x : V} {v : Value} {a : Addr} {lo hi : Int} (hl : lo ≤ hi) {neg : Bool} {Q : VK} (I : Inv X pins σ H s) (rx : RelV x v) (ha : H a = some (.rng lo hi)) {b : Bool} (hb : inRv x lo hi = some b) (hQ : Q (.bl (Bool.xor neg b)) H) :
    wpAny (model X.prog X.w) X.A (compareOp (if neg = true then .NotIn else .In) v (Value.ref a)) (EP X pins σ Q) X.xe s := by
  obtain ⟨n, rfl⟩ : ∃ n : Nat, hi = lo + n := ⟨(hi - lo).toNat, by omega⟩
  cases neg with
  | false =>
    show wpAny _ _ (do return Value.bool (← contains (Value.ref a) v)) _ _ s
    exact wpAny_bind (has_rng I rx ha hb fun s' I' => wpAny_pure ⟨.bl _, H, I', rfl, by simpa using hQ⟩)
  | true =>
    show wpAny _ _ (do return Value.bool (!(← contains (Value.ref a) v))) _ _ s
    exact wpAny_bind (has_rng I rx ha hb fun s' I' => wpAny_pure ⟨.bl _, H, I', rfl, by simpa using hQ⟩)
section
variable {X : Cx} {e : Expr} {te : TE} {p q pos p1 p2 : Pos} {k1 k2 : Nat} {lo hi : Int} {neg : Bool}
theorem pe_rngC (hg : Gl X "range") (hm : X.mg "range" = none) : PE X (.Call (.Name "range" p) [.Constant (.int lo) k1 p1, .Constant (.int hi) k2 p2] [] q) (fun σ H Q => ∀ a, H a = none → Q (.ref a) (upd H a (.rng lo hi))) := by
  exact ⟨fun pins s σ H Q I h => (pe_callTy cr_range2 hg hm PyProof.Rows.boot_range (pa_cons pe_int (pa_cons pe_int pa_nil rfl) rfl) (by decide) (by decide) rfl rfl).run pins s σ H Q I ⟨lo, hi, rfl, h⟩⟩
theorem same_new {H : Hp} {a : Addr} {o : HO} (h : H a = none) : Same H (upd H a o) := fun b u e => by
  unfold upd
  split
  · rename_i z
    rw [z, h] at e
    cases e
  · exact e
theorem upd_at {H : Hp} {a : Addr} {o : HO} : upd H a o a = some o := by
  unfold upd
  rw [if_pos rfl]
theorem pe_inr (hl : lo ≤ hi) (hg : Gl X "range") (hm : X.mg "range" = none) (he : PE X e te) : PE X (.Compare e [if neg = true then .NotIn else .In] [.Call (.Name "range" p) [.Constant (.int lo) k1 p1, .Constant (.int hi) k2 p2] [] q] pos) (fun σ H Q => te σ H fun x H1 => rInr neg lo hi x H1 Q) := by
  refine ⟨fun pins s σ H Q I h => wpAny_Compare1 ?_ (by cases neg <;> rfl)⟩
  refine thn (he.run pins s σ H _ I h) fun v s1 ⟨x, H1, I1, r1, b, hb, q1⟩ => ?_
  refine thn ((pe_rngC (p := p) (q := q) (p1 := p1) (p2 := p2) (k1 := k1) (k2 := k2) (lo := lo) (hi := hi) hg hm).run pins s1 σ H1 (fun y H2 => ∃ a, y = .ref a ∧ Same H1 H2 ∧ H2 a = some (.rng lo hi)) I1 fun a ha => ⟨a, rfl, same_new ha, upd_at⟩) fun u s2 ⟨y, H2, I2, r2, a, ey, sm, ha⟩ => ?_
  subst ey
  obtain rfl : u = Value.ref a := r2
  exact op_inr hl I2 r1 ha hb (q1 H2 sm)
theorem pt_inr (hl : lo ≤ hi) (hg : Gl X "range") (hm : X.mg "range" = none) (he : PE X e te) : PT X (.Compare e [if neg = true then .NotIn else .In] [.Call (.Name "range" p) [.Constant (.int lo) k1 p1, .Constant (.int hi) k2 p2] [] q] pos) (tTest fun σ H Q => te σ H fun x H1 => rInr neg lo hi x H1 Q) := by
  refine ⟨fun pins s σ H Q I h => wpAny_isTrue_Compare1 ?_ (by cases neg <;> rfl)⟩
  refine thn (he.run pins s σ H _ I h) fun v s1 ⟨x, H1, I1, r1, b, hb, q1⟩ => ?_
  refine thn ((pe_rngC (p := p) (q := q) (p1 := p1) (p2 := p2) (k1 := k1) (k2 := k2) (lo := lo) (hi := hi) hg hm).run pins s1 σ H1 (fun y H2 => ∃ a, y = .ref a ∧ Same H1 H2 ∧ H2 a = some (.rng lo hi)) I1 fun a ha => ⟨a, rfl, same_new ha, upd_at⟩) fun u s2 ⟨y, H2, I2, r2, a, ey, sm, ha⟩ => ?_
  subst ey
  obtain rfl : u = Value.ref a := r2
  refine thn (op_inr (Q := fun x H' => ∃ k, x = .bl k ∧ Q k H') hl I2 r1 ha hb (q1 H2 sm)) fun c s3 ⟨z, H3, I3, r3, k, e, q3⟩ => ?_
  subst e
  cases r3
  exact wpAny_truthy_bool ⟨H3, I3, q3⟩
end
/-! a text times a number -/
def repS (x : Str) (n : Nat) : Str := ⟨(List.replicate n x.cps).foldl (· ++ ·) #[]⟩
theorem foldl_arr : ∀ (l : List (Array Nat)) (acc : Array Nat), (l.foldl (· ++ ·) acc).toList = acc.toList ++ (l.map Array.toList).flatten
  | [], acc => by simp
  | a :: l, acc => by
    rw [List.foldl_cons, foldl_arr l (acc ++ a)]
    simp
theorem repS_list (x : Str) (n : Nat) : (repS x n).cps.toList = (List.replicate n x.cps.toList).flatten := by
  unfold repS
  rw [foldl_arr, List.map_replicate]
  rfl
theorem repS_len (x : Str) (n : Nat) : (repS x n).length = n * x.length := by
  show (repS x n).cps.size = n * x.cps.size
  rw [← Array.length_toList, repS_list, ← Array.length_toList]
  simp
theorem repS_zero (x : Str) : repS x 0 = "" := rfl
theorem str_ext {x y : Str} (h : x.cps.toList = y.cps.toList) : x = y := by
  cases x with
  | mk a => cases y with
    | mk b => rw [show a = b from Array.toList_inj.mp h]
theorem repS_one (x : Str) : repS x 1 = x := str_ext (by rw [repS_list]; simp)
theorem repS_empty {x : Str} (h : x.length = 0) (n : Nat) : repS x n = x := str_ext (by
  rw [repS_list]
  have : x.cps.toList = [] := List.length_eq_zero_iff.mp (by rw [Array.length_toList]; exact h)
  rw [this]
  simp)
theorem repS_ok {x : Str} (h : PyData.strOk x = true) (n : Nat) : PyData.strOk (repS x n) = true := by
  have h : x.cps.all (· < 1114112) = true := h
  show (repS x n).cps.all (· < 1114112) = true
  rw [← Array.all_toList] at h ⊢
  rw [repS_list, List.all_eq_true] at *
  intro c hc
  obtain ⟨l, hl, hcl⟩ := List.mem_flatten.mp hc
  rw [(List.mem_replicate.mp hl).2] at hcl
  exact h c hcl
def rRepS : R2 := fun x y H Q => ∃ i k, x = .str i ∧ y = .int k ∧ 0 ≤ k ∧ k ≤ 1000 ∧ i.length ≤ 1000 ∧ Q (.str (repS i k.toNat)) H
theorem op_repS {X : Cx} : OpR X (binaryOp .Mult) rRepS := by
  intro pins s σ H x y v u Q I rx ry h
  obtain ⟨i, k, rfl, rfl, k0, k1, hi, q⟩ := h
  obtain ⟨t, rfl⟩ := rx
  obtain ⟨t', rfl⟩ := ry
  refine PySem.P.mul_str ?_ ?_ ?_ ?_
  · rw [decide_eq_false (by omega), decide_eq_false (by omega)]; rfl
  · intro h1 _ h2
    have : (2 ^ 63 - 1) / k ≥ 1000 := Int.le_ediv_of_mul_le (by omega) (by omega)
    omega
  · intro h1 _
    refine decide_eq_false ?_
    have h3 : i.length * k.toNat ≤ 1000 * 1000 := Nat.mul_le_mul hi (by omega)
    have h4 : 1000 * 1000 ≤ (sizeLine : Nat) := by decide
    omega
  · by_cases h1 : k < 1
    · rw [if_pos h1]
      have e : repS i k.toNat = Str.empty := by
        rw [show k.toNat = 0 from by omega]
        rfl
      rw [e] at q
      exact ⟨by decide, .str _, H, I.tok _, ⟨_, rfl⟩, q⟩
    · rw [if_neg h1]
      by_cases h2 : (k == 1 || i.length == 0) = true
      · rw [if_pos h2]
        have e : repS i k.toNat = i := by
          rcases Bool.or_eq_true_iff.mp h2 with z | z
          · rw [show k = 1 from eq_of_beq z]
            exact repS_one i
          · exact repS_empty (eq_of_beq z) _
        rw [e] at q
        exact ⟨.str _, H, I, ⟨_, rfl⟩, q⟩
      · rw [if_neg h2]
        have hl : (repS i k.toNat).length ≤ sizeLine := by
          rw [repS_len]
          have h3 : k.toNat * i.length ≤ 1000 * 1000 := Nat.mul_le_mul (by omega) hi
          have h4 : 1000 * 1000 ≤ (sizeLine : Nat) := by decide
          omega
        exact ⟨hl, .str _, H, I.tok _, ⟨_, rfl⟩, q⟩
end WL

/-! ## Readings over the value layer, and how they are lowered -/
namespace WL
open PySem L2

abbrev KW := W → Hw → Prop
abbrev EW := Addr → Hw → Prop
abbrev TEW := Sw → Hw → KW → EW → Prop
abbrev TTW := Sw → Hw → (Bool → Hw → Prop) → EW → Prop
abbrev TAW := Sw → Hw → (List W → Hw → Prop) → EW → Prop
abbrev R2W := W → W → Hw → KW → Prop
abbrev RLW := List W → Hw → KW → Prop

def QR (K : PySem.W.Frag) (F : Hp) (Q' : KW) (Q : VK) : Prop := ∀ w H', Q' w H' → ∀ F1 v H, Same F F1 → RelW K F1 w v → AbH K F1 H' H → Q v H
def QB (K : PySem.W.Frag) (F : Hp) (Q' : Bool → Hw → Prop) (Q : Bool → Hp → Prop) : Prop := ∀ b H', Q' b H' → ∀ F1 H, Same F F1 → AbH K F1 H' H → Q b H
def QL (K : PySem.W.Frag) (F : Hp) (Q' : List W → Hw → Prop) (Q : List V → Hp → Prop) : Prop := ∀ ws H', Q' ws H' → ∀ F1 vs H, Same F F1 → RelWs K F1 ws vs → AbH K F1 H' H → Q vs H
def ER (K : PySem.W.Frag) (F : Hp) (Wx : WX) (σ : L2.St) (E' : EW) : Prop := ∀ C H', E' C H' → ∀ F1 H, Same F F1 → AbH K F1 H' H → Wx (.ref C) none σ H
section
variable {K : PySem.W.Frag} {F F1 : Hp}
theorem QR.mono {Q' : KW} {Q : VK} (q : QR K F Q' Q) (s : Same F F1) : QR K F1 Q' Q := fun w H' h F2 v H s2 => q w H' h F2 v H (s.trans s2)
theorem QB.mono {Q' : Bool → Hw → Prop} {Q : Bool → Hp → Prop} (q : QB K F Q' Q) (s : Same F F1) : QB K F1 Q' Q := fun w H' h F2 H s2 => q w H' h F2 H (s.trans s2)
theorem QL.mono {Q' : List W → Hw → Prop} {Q : List V → Hp → Prop} (q : QL K F Q' Q) (s : Same F F1) : QL K F1 Q' Q := fun w H' h F2 v H s2 => q w H' h F2 v H (s.trans s2)
theorem ER.mono {Wx : WX} {σ : L2.St} {E' : EW} (q : ER K F Wx σ E') (s : Same F F1) : ER K F1 Wx σ E' := fun w H' h F2 H s2 => q w H' h F2 H (s.trans s2)
end
def lowE (K : PySem.W.Frag) (Wx : WX) (t : TEW) : TE := fun σ H Q => ∃ F σ' H' Q' E', RelS K F σ' σ ∧ AbH K F H' H ∧ QR K F Q' Q ∧ ER K F Wx σ E' ∧ t σ' H' Q' E'
def lowT (K : PySem.W.Frag) (Wx : WX) (t : TTW) : TT := fun σ H Q => ∃ F σ' H' Q' E', RelS K F σ' σ ∧ AbH K F H' H ∧ QB K F Q' Q ∧ ER K F Wx σ E' ∧ t σ' H' Q' E'
def lowA (K : PySem.W.Frag) (Wx : WX) (t : TAW) : TA := fun σ H Q => ∃ F σ' H' Q' E', RelS K F σ' σ ∧ AbH K F H' H ∧ QL K F Q' Q ∧ ER K F Wx σ E' ∧ t σ' H' Q' E'

/-! ### weaker readings -/
theorem PE.imp {X : Cx} {e : Expr} {t t' : TE} (h : PE X e t) (i : ∀ σ H Q, t' σ H Q → t σ H Q) : PE X e t' := ⟨fun pins s σ H Q I q => h.run pins s σ H Q I (i σ H Q q)⟩
theorem PT.imp {X : Cx} {e : Expr} {t t' : TT} (h : PT X e t) (i : ∀ σ H Q, t' σ H Q → t σ H Q) : PT X e t' := ⟨fun pins s σ H Q I q => h.run pins s σ H Q I (i σ H Q q)⟩
theorem PW.imp {X : Cx} {e : Expr} {t t' : TT} (h : PW X e t) (i : ∀ σ H Q, t' σ H Q → t σ H Q) : PW X e t' := ⟨fun w pins s σ H Q I q => h.run w pins s σ H Q I (i σ H Q q)⟩
theorem PA.imp {X : Cx} {es : List Expr} {t t' : TA} (h : PA X es t) (i : ∀ σ H Q, t' σ H Q → t σ H Q) : PA X es t' := ⟨fun pos pins s σ H Q I q => h.run pos pins s σ H Q I (i σ H Q q)⟩
theorem PS.imp {X : Cx} {st : Stmt} {t t' : TS} (h : PS X st t) (i : ∀ D σ H, t' D σ H → t D σ H) : PS X st t' := ⟨fun pins s σ H D I q => h.run pins s σ H D I (i D σ H q)⟩
theorem PSs.imp {X : Cx} {st : List Stmt} {t t' : TS} (h : PSs X st t) (i : ∀ D σ H, t' D σ H → t D σ H) : PSs X st t' := ⟨fun pins s σ H D I q => h.run pins s σ H D I (i D σ H q)⟩
theorem PE.or {X : Cx} {e : Expr} {t t' : TE} (h : PE X e t) (h' : PE X e t') : PE X e (fun σ H Q => t σ H Q ∨ t' σ H Q) := ⟨fun pins s σ H Q I q => q.elim (h.run pins s σ H Q I) (h'.run pins s σ H Q I)⟩
theorem PT.or {X : Cx} {e : Expr} {t t' : TT} (h : PT X e t) (h' : PT X e t') : PT X e (fun σ H Q => t σ H Q ∨ t' σ H Q) := ⟨fun pins s σ H Q I q => q.elim (h.run pins s σ H Q I) (h'.run pins s σ H Q I)⟩
theorem PE.ex {X : Cx} {e : Expr} {α : Sort _} {t : α → TE} (h : ∀ a, PE X e (t a)) : PE X e (fun σ H Q => ∃ a, t a σ H Q) := ⟨fun pins s σ H Q I ⟨a, q⟩ => (h a).run pins s σ H Q I q⟩
theorem PE.all {X : Cx} {e : Expr} {P : Prop} {t : TE} (h : P → PE X e t) : PE X e (fun σ H Q => P ∧ t σ H Q) := ⟨fun pins s σ H Q I ⟨a, q⟩ => (h a).run pins s σ H Q I q⟩
theorem PS.or {X : Cx} {st : Stmt} {t t' : TS} (h : PS X st t) (h' : PS X st t') : PS X st (fun D σ H => t D σ H ∨ t' D σ H) := ⟨fun pins s σ H D I q => q.elim (h.run pins s σ H D I) (h'.run pins s σ H D I)⟩

/-! ### two expressions, a list of them -/
def tOpW (r : R2W) (a b : TEW) : TEW := fun σ H Q E => a σ H (fun x H1 => b σ H1 (fun y H2 => r x y H2 Q) E) E
def tUnW (r : W → Hw → KW → Prop) (a : TEW) : TEW := fun σ H Q E => a σ H (fun x H1 => r x H1 Q) E
def tNilW : TAW := fun _ H Q _ => Q [] H
def tConsW (a : TEW) (r : TAW) : TAW := fun σ H Q E => a σ H (fun x H1 => r σ H1 (fun xs H2 => Q (x :: xs) H2) E) E
def OpLow (K : PySem.W.Frag) (rW : R2W) (rV : R2) : Prop := ∀ F w w' v v' H' H Q' Q, RelW K F w v → RelW K F w' v' → AbH K F H' H → QR K F Q' Q → rW w w' H' Q' → rV v v' H Q
def UnLow (K : PySem.W.Frag) (rW : W → Hw → KW → Prop) (rV : V → Hp → VK → Prop) : Prop := ∀ F w v H' H Q' Q, RelW K F w v → AbH K F H' H → QR K F Q' Q → rW w H' Q' → rV v H Q
def ListLow (K : PySem.W.Frag) (rW : RLW) (rV : List V → Hp → VK → Prop) : Prop := ∀ F ws vs H' H Q' Q, RelWs K F ws vs → AbH K F H' H → QR K F Q' Q → rW ws H' Q' → rV vs H Q
section
variable {K : PySem.W.Frag} {Wx : WX} {σ : L2.St} {H : Hp} {Q : VK} {a b : TEW}
theorem low_op {rW : R2W} {rV : R2} (o : OpLow K rW rV) (h : lowE K Wx (tOpW rW a b) σ H Q) : tOp rV (lowE K Wx a) (lowE K Wx b) σ H Q := by
  obtain ⟨F, σ', H', Q', E', rs, ab, qr, er, h⟩ := h
  refine ⟨F, σ', H', _, E', rs, ab, fun x H1' hx F1 v H1 s1 rx ab1 => ?_, er, h⟩
  refine ⟨F1, σ', H1', _, E', rs.mono s1, ab1, fun y H2' hy F2 v' H2 s2 ry ab2 => ?_, er.mono s1, hx⟩
  exact o F2 x y v v' H2' H2 Q' Q (RelW.mono s2 x rx) ry ab2 (qr.mono (s1.trans s2)) hy
theorem low_un {rW : W → Hw → KW → Prop} {rV : V → Hp → VK → Prop} (o : UnLow K rW rV) (h : lowE K Wx (tUnW rW a) σ H Q) : tUn rV (lowE K Wx a) σ H Q := by
  obtain ⟨F, σ', H', Q', E', rs, ab, qr, er, h⟩ := h
  refine ⟨F, σ', H', _, E', rs, ab, fun x H1' hx F1 v H1 s1 rx ab1 => ?_, er, h⟩
  exact o F1 x v H1' H1 Q' Q rx ab1 (qr.mono s1) hx
theorem low_nil {Q : List V → Hp → Prop} (h : lowA K Wx tNilW σ H Q) : tNil σ H Q := by
  obtain ⟨F, σ', H', Q', E', rs, ab, qr, er, h⟩ := h
  exact qr [] H' h F [] H (Same.refl _) rfl ab
theorem low_cons {r : TAW} {Q : List V → Hp → Prop} (h : lowA K Wx (tConsW a r) σ H Q) : tCons (lowE K Wx a) (lowA K Wx r) σ H Q := by
  obtain ⟨F, σ', H', Q', E', rs, ab, qr, er, h⟩ := h
  refine ⟨F, σ', H', _, E', rs, ab, fun x H1' hx F1 v H1 s1 rx ab1 => ?_, er, h⟩
  refine ⟨F1, σ', H1', _, E', rs.mono s1, ab1, fun ys H2' hy F2 vs' H2 s2 ry ab2 => ?_, er.mono s1, hx⟩
  exact qr _ H2' hy F2 _ H2 (s1.trans s2) (.cons (RelW.mono s2 x rx) ry) ab2
/-- behind arguments: a value -/
theorem low_args {t : TAW} {rW : RLW} {rV : List V → Hp → VK → Prop} (o : ListLow K rW rV) (h : lowE K Wx (fun σ H Q E => t σ H (fun ws H1 => rW ws H1 Q) E) σ H Q) : tCB rV (lowA K Wx t) σ H Q := by
  obtain ⟨F, σ', H', Q', E', rs, ab, qr, er, h⟩ := h
  refine ⟨F, σ', H', _, E', rs, ab, fun xs H1' hx F1 vs H1 s1 rx ab1 => ?_, er, h⟩
  exact o F1 xs vs H1' H1 Q' Q rx ab1 (qr.mono s1) hx
end

/-! ### lists and tuples that are read, made -/
def seqL (H : Hw) : W → List W → Prop
  | .fls l, xs => l = xs
  | .ref a, xs => H a = some (.lst xs)
  | .scr ns, xs => xs = ns.map W.int
  | _, _ => False
/-- .. not the script -/
def seqM (H : Hw) : W → List W → Prop
  | .fls l, xs => l = xs
  | .ref a, xs => H a = some (.lst xs)
  | _, _ => False
def seqA (H : Hw) : W → List W → Prop
  | .tup l, xs => l = xs
  | w, xs => seqL H w xs
def newL (xs : List W) (H : Hw) (Q : KW) : Prop := (∀ p, H p = none → Q (.ref p) (updW H p (.lst xs))) ∨ Q (.fls xs) H
section
variable {K : PySem.W.Frag} {F : Hp} {H' : Hw} {H : Hp} {Q' : KW} {Q : VK} {w : W} {v : V} {xs : List W}
theorem seqL_low (A : AbH K F H' H) (r : RelW K F w v) (h : seqL H' w xs) : ∃ a vs, v = .ref a ∧ SqL K H a vs ∧ RelWs K F xs vs := by
  cases w with
  | fls l =>
    obtain ⟨a, vs, e, q, t⟩ := r
    have el : l = xs := h
    rw [← el]
    exact ⟨a, vs, e, SqL.of (A.sub _ _ q), t⟩
  | ref a =>
    obtain ⟨vs, e, t⟩ := A.list (show H' a = some (.lst xs) from h)
    exact ⟨a, vs, r, SqL.of e, t⟩
  | scr ns =>
    obtain ⟨a, e, q⟩ := r
    have el : xs = ns.map W.int := h
    rw [el]
    exact ⟨a, _, e, A.sub.seq q, RelWs.of_ints ns⟩
  | _ => exact (show False from h).elim
theorem seqM_low (A : AbH K F H' H) (r : RelW K F w v) (h : seqM H' w xs) : ∃ a vs, v = .ref a ∧ H a = some (.lst vs) ∧ RelWs K F xs vs := by
  cases w with
  | fls l =>
    obtain ⟨a, vs, e, q, t⟩ := r
    have el : l = xs := h
    rw [← el]
    exact ⟨a, vs, e, A.sub _ _ q, t⟩
  | ref a =>
    obtain ⟨vs, e, t⟩ := A.list (show H' a = some (.lst xs) from h)
    exact ⟨a, vs, r, e, t⟩
  | _ => exact (show False from h).elim
theorem seqA_low (A : AbH K F H' H) (r : RelW K F w v) (h : seqA H' w xs) : ∃ a vs, v = .ref a ∧ (SqL K H a vs ∨ SqT K H a vs) ∧ RelWs K F xs vs := by
  cases w with
  | tup l =>
    obtain ⟨a, vs, e, q, t⟩ := r
    have el : l = xs := h
    rw [← el]
    exact ⟨a, vs, e, .inr (SqT.of (A.sub _ _ q)), t⟩
  | _ =>
    obtain ⟨a, vs, e, q, t⟩ := seqL_low A r h
    exact ⟨a, vs, e, .inl q, t⟩
theorem newL_low (A : AbH K F H' H) (q : QR K F Q' Q) {vs : List V} (r : RelWs K F xs vs) (h : newL xs H' Q') : ∀ p, H p = none → Q (.ref p) (upd H p (.lst vs)) := fun p hp => by
  rcases h with h | h
  · exact q _ _ (h p (A.noH hp)) F _ _ (Same.refl _) rfl (A.new hp ⟨vs, rfl, r⟩)
  · obtain ⟨s, A1⟩ := A.frz (o := .lst vs) hp
    exact q _ _ h _ _ _ s ⟨p, vs, rfl, upd_same, RelWs.mono s _ r⟩ A1
theorem newT_low (A : AbH K F H' H) (q : QR K F Q' Q) {vs : List V} (r : RelWs K F xs vs) (h : Q' (.tup xs) H') : ∀ p, H p = none → Q (.ref p) (upd H p (.tup vs)) := fun p hp => by
  obtain ⟨s, A1⟩ := A.frz (o := .tup vs) hp
  exact q _ _ h _ _ _ s ⟨p, vs, rfl, upd_same, RelWs.mono s _ r⟩ A1
/-- a value without an object of its own -/
theorem QR.at (q : QR K F Q' Q) (A : AbH K F H' H) (r : RelW K F w v) (h : Q' w H') : Q v H := q w H' h F v H (Same.refl _) r A
theorem QR.int {i : Int} (q : QR K F Q' Q) (A : AbH K F H' H) (h : Q' (.int i) H') : Q (.int i) H := q.at A (show RelW K F (.int i) (.int i) from rfl) h
theorem QR.bl {b : Bool} (q : QR K F Q' Q) (A : AbH K F H' H) (h : Q' (.bl b) H') : Q (.bl b) H := q.at A (show RelW K F (.bl b) (.bl b) from rfl) h
theorem QR.str {x : Str} (q : QR K F Q' Q) (A : AbH K F H' H) (h : Q' (.str x) H') : Q (.str x) H := q.at A (show RelW K F (.str x) (.str x) from rfl) h
theorem QR.non (q : QR K F Q' Q) (A : AbH K F H' H) (h : Q' .non H') : Q .non H := q.at A (show RelW K F .non .non from rfl) h
theorem QR.ref {a : Addr} (q : QR K F Q' Q) (A : AbH K F H' H) (h : Q' (.ref a) H') : Q (.ref a) H := q.at A (show RelW K F (.ref a) (.ref a) from rfl) h
end

/-! ### data, for == -/
mutual
inductive DW (H : Hw) : W → PyData → Prop
  | non : DW H .non .none
  | bl (b : Bool) : DW H (.bl b) (.bool b)
  | int (i : Int) : DW H (.int i) (.int i)
  | str (x : Str) : DW H (.str x) (.str x)
  | tup {xs : List W} {ds : List PyData} : DWs H xs ds → DW H (.tup xs) (.tuple ds)
  | lst {w : W} {xs : List W} {ds : List PyData} : seqL H w xs → DWs H xs ds → DW H w (.list ds)
inductive DWs (H : Hw) : List W → List PyData → Prop
  | nil : DWs H [] []
  | cons {w : W} {ws : List W} {d : PyData} {ds : List PyData} : DW H w d → DWs H ws ds → DWs H (w :: ws) (d :: ds)
end
section
variable {K : PySem.W.Frag} {F : Hp} {H' : Hw} {H : Hp}
mutual
theorem DW.low (A : AbH K F H' H) : ∀ (d : PyData) {w : W} {v : V}, DW H' w d → RelW K F w v → Dp K H v d
  | .none, _, _, h, r => by
    cases h
    rw [show _ = V.non from r]
    exact .non
  | .bool b, _, _, h, r => by
    cases h
    rw [show _ = V.bl b from r]
    exact .bl b
  | .int i, _, _, h, r => by
    cases h
    rw [show _ = V.int i from r]
    exact .int i
  | .str x, _, _, h, r => by
    cases h
    rw [show _ = V.str x from r]
    exact .str x
  | .list ds, _, _, h, r => by
    cases h with
    | lst hs ha =>
      obtain ⟨a, vs, e, q, t⟩ := seqL_low A r hs
      rw [e]
      exact .lst q (DWs.low A ds ha t)
  | .tuple ds, _, _, h, r => by
    cases h with
    | tup ha =>
      obtain ⟨a, vs, e, q, t⟩ := r
      rw [e]
      exact .tup (SqT.of (A.sub _ _ q)) (DWs.low A ds ha t)
  | .dict _, _, _, h, _ => by cases h
theorem DWs.low (A : AbH K F H' H) : ∀ (ds : List PyData) {ws : List W} {vs : List V}, DWs H' ws ds → RelWs K F ws vs → DpAll K H vs ds
  | [], _, _, h, r => by
    cases h
    rw [show _ = [] from r]
    exact .nil
  | d :: ds, _, _, h, r => by
    cases h with
    | cons h1 h2 =>
      obtain ⟨v, vs, e, r1, r2⟩ := r
      rw [e]
      exact .cons (DW.low A d h1 r1) (DWs.low A ds h2 r2)
end
end

/-! ### operators -/
/-- the operators' readings -/
def addW : R2W := fun x y H Q => match x, y with
  | .int i, .int j => Q (.int (i + j)) H
  | .str i, .str j => i.length + j.length ≤ sizeLine ∧ Q (.str (i ++ j)) H
  | x, y => ∃ xs ys, seqM H x xs ∧ seqM H y ys ∧ xs.length + ys.length ≤ sizeLine ∧ newL (xs ++ ys) H Q
def intW (C : Int → Int → Prop) (g : Int → Int → W) : R2W := fun x y H Q => match x, y with
  | .int i, .int j => C i j ∧ Q (g i j) H
  | _, _ => False
def mulW : R2W := fun x y H Q => match x, y with
  | .int i, .int j => CMul i j ∧ Q (.int (i * j)) H
  | .str x, .int k => 0 ≤ k ∧ k ≤ 1000 ∧ x.length ≤ 1000 ∧ Q (.str (repS x k.toNat)) H
  | x, .int k => ∃ xs, seqM H x xs ∧ -(2 ^ 63) ≤ k ∧ k < 2 ^ 63 ∧ xs.length * k.toNat ≤ sizeLine ∧ newL (List.replicate k.toNat xs).flatten H Q
  | _, _ => False
def binW : Operator → R2W
  | .Add => addW
  | .Sub => intW (fun _ _ => True) fun i j => .int (i - j)
  | .Mult => mulW
  | .FloorDiv => intW CDiv fun i j => .int (i / j)
  | .Mod => intW (fun _ j => 0 < j) fun i j => .int (i % j)
  | .Pow => intW CPow fun i j => .int (i ^ j.toNat)
  | _ => fun _ _ _ _ => False
def rAddV : R2 := fun x y H Q => rI0 (fun i j => .int (i + j)) x y H Q ∨ (∃ i j, x = .str i ∧ y = .str j ∧ i.length + j.length ≤ sizeLine ∧ Q (.str (i ++ j)) H) ∨ rCat x y H Q
def rMulV : R2 := fun x y H Q => rI CMul (fun i j => .int (i * j)) x y H Q ∨ rRep x y H Q ∨ rRepS x y H Q
def binV : Operator → R2
  | .Add => rAddV
  | .Sub => rI0 fun i j => .int (i - j)
  | .Mult => rMulV
  | .FloorDiv => rI CDiv fun i j => .int (i / j)
  | .Mod => rI (fun _ j => 0 < j) fun i j => .int (i % j)
  | .Pow => rI CPow fun i j => .int (i ^ j.toNat)
  | _ => fun _ _ _ _ => False
theorem binV_ok {X : Cx} (op : Operator) : OpR X (binaryOp op) (binV op) := by
  cases op with
  | Add => exact op_add.or (op_add_str.or op_cat)
  | Sub => exact op_sub
  | Mult => exact op_mul.or (op_rep.or op_repS)
  | FloorDiv => exact op_fdiv
  | Mod => exact op_mod
  | Pow => exact op_pow
  | _ => exact fun _ _ _ _ _ _ _ _ _ _ _ _ h => (show False from h).elim
theorem cat_low {K : PySem.W.Frag} {F : Hp} {x y : W} {v v' : V} {H' : Hw} {H : Hp} {Q' : KW} {Q : VK} (rx : RelW K F x v) (ry : RelW K F y v') (A : AbH K F H' H) (q : QR K F Q' Q)
    (h : ∃ xs ys, seqM H' x xs ∧ seqM H' y ys ∧ xs.length + ys.length ≤ sizeLine ∧ newL (xs ++ ys) H' Q') : rCat v v' H Q := by
  obtain ⟨xs, ys, h1, h2, hl, hn⟩ := h
  obtain ⟨a, vs, e1, q1, t1⟩ := seqM_low A rx h1
  obtain ⟨b, us, e2, q2, t2⟩ := seqM_low A ry h2
  exact ⟨a, b, vs, us, e1, e2, q1, q2, by rw [← t1.length, ← t2.length]; exact hl, newL_low A q (t1.append t2) hn⟩
theorem RelWs.rep {K : PySem.W.Frag} {F : Hp} {xs : List W} {vs : List V} (r : RelWs K F xs vs) : ∀ k : Nat, RelWs K F (List.replicate k xs).flatten (List.replicate k vs).flatten
  | 0 => rfl
  | k + 1 => by
    rw [List.replicate_succ, List.replicate_succ, List.flatten_cons, List.flatten_cons]
    exact r.append (RelWs.rep r k)
theorem rep_low {K : PySem.W.Frag} {F : Hp} {x : W} {k : Int} {v : V} {H' : Hw} {H : Hp} {Q' : KW} {Q : VK} (rx : RelW K F x v) (A : AbH K F H' H) (q : QR K F Q' Q)
    (h : ∃ xs, seqM H' x xs ∧ -(2 ^ 63) ≤ k ∧ k < 2 ^ 63 ∧ xs.length * k.toNat ≤ sizeLine ∧ newL (List.replicate k.toNat xs).flatten H' Q') : rRep v (.int k) H Q := by
  obtain ⟨xs, h1, h2, h3, h4, hn⟩ := h
  obtain ⟨a, vs, e1, q1, t1⟩ := seqM_low A rx h1
  exact ⟨a, k, vs, e1, rfl, q1, h2, h3, by rw [← t1.length]; exact h4, newL_low A q (t1.rep k.toNat) hn⟩
theorem binW_low {K : PySem.W.Frag} (op : Operator) : OpLow K (binW op) (binV op) := by
  intro F x y v v' H' H Q' Q rx ry A q h
  have ii : ∀ (C : Int → Int → Prop) (g : Int → Int → Int), intW C (fun i j => .int (g i j)) x y H' Q' → rI C (fun i j => .int (g i j)) v v' H Q := fun C g h => by
    cases x with
    | int i =>
      cases y with
      | int j => exact ⟨i, j, rx, ry, h.1, q.int A h.2⟩
      | _ => exact (show False from h).elim
    | _ => exact (show False from h).elim
  cases op with
  | Add =>
    cases x with
    | int i =>
      cases y with
      | int j => exact .inl ⟨i, j, rx, ry, q.int A h⟩
      | _ => exact .inr (.inr (cat_low rx ry A q h))
    | str i =>
      cases y with
      | str j => exact .inr (.inl ⟨i, j, rx, ry, h.1, q.str A h.2⟩)
      | _ => exact .inr (.inr (cat_low rx ry A q h))
    | _ => cases y <;> exact .inr (.inr (cat_low rx ry A q h))
  | Sub =>
    cases x with
    | int i =>
      cases y with
      | int j => exact ⟨i, j, rx, ry, q.int A h.2⟩
      | _ => exact (show False from h).elim
    | _ => exact (show False from h).elim
  | Mult =>
    cases y with
    | int k =>
      cases x with
      | int i => exact .inl ⟨i, k, rx, ry, h.1, q.int A h.2⟩
      | str i => exact .inr (.inr ⟨i, k, rx, ry, h.1, h.2.1, h.2.2.1, q.str A h.2.2.2⟩)
      | _ =>
        rw [show v' = V.int k from ry]
        exact .inr (.inl (rep_low rx A q h))
    | _ => cases x <;> exact (show False from h).elim
  | FloorDiv => exact ii _ _ h
  | Mod => exact ii _ _ h
  | Pow => exact ii _ _ h
  | _ => exact (show False from h).elim

/-- whether a value is in range(lo, hi) -/
def inRW (x : W) (lo hi : Int) : Option Bool := match x with
  | .int i => some (decide (lo ≤ i ∧ i < hi))
  | .bl b => some (decide (lo ≤ (if b = true then 1 else 0) ∧ (if b = true then 1 else 0) < hi))
  | .str _ => some false
  | .non => some false
  | _ => none
theorem inRW_low {K : PySem.W.Frag} {F : Hp} {x : W} {v : V} {lo hi : Int} {b : Bool} (r : RelW K F x v) (h : inRW x lo hi = some b) : inRv v lo hi = some b := by
  cases x with
  | int i => rw [show v = V.int i from r]; exact h
  | bl k => rw [show v = V.bl k from r]; exact h
  | str y => rw [show v = V.str y from r]; exact h
  | non => rw [show v = V.non from r]; exact h
  | _ => cases h
/-- in (not in) range(lo, hi) -/
def inrW (neg : Bool) (lo hi : Int) : W → Hw → KW → Prop := fun x H Q => ∃ b, inRW x lo hi = some b ∧ Q (.bl (Bool.xor neg b)) H
/-- len(set(x)), all different -/
def nsetW : W → Hw → KW → Prop := fun x H Q => ∃ ns : List Int, seqL H x (ns.map W.int) ∧ ns.Nodup ∧ ns.length ≤ 4000 ∧ Q (.int (ns.length : Nat)) H
/-! ### comparisons -/
def eqW : W → W → Hw → (Bool → Prop) → Prop := fun x y H P => match x, y with
  | .int i, .int j => P (i == j)
  | .str i, .str j => P (decide (i = j))
  | .bl i, .bl j => P (i == j)
  | .non, .non => P true
  | x, y => ∃ d e, DW H x d ∧ DW H y e ∧ SeqAt.shaped d = true ∧ SeqAt.shaped e = true ∧ P (PyData.eqv d e)
/-- the ints of a tuple -/
def intsT : W → List Int → Prop
  | .tup xs, ns => xs = ns.map W.int
  | _, _ => False
def gtI (ns ms : List Int) : Bool := Ob.lexAt (fun j => decide (ns.getD j 0 = ms.getD j 0)) (fun j => decide (ms.getD j 0 < ns.getD j 0)) (decide (ms.length < ns.length)) 0 (min ns.length ms.length)
def leI (ns ms : List Int) : Bool := Ob.lexAt (fun j => decide (ns.getD j 0 = ms.getD j 0)) (fun j => decide (ns.getD j 0 ≤ ms.getD j 0)) (decide (ns.length ≤ ms.length)) 0 (min ns.length ms.length)
def ordW (f : Int → Int → Bool) (g : List Int → List Int → Bool) : R2W := fun x y H Q => match x, y with
  | .int i, .int j => Q (.bl (f i j)) H
  | x, y => ∃ ns ms, intsT x ns ∧ intsT y ms ∧ Q (.bl (g ns ms)) H
def flatW : W → Bool
  | .non => true
  | .bl _ => true
  | .int _ => true
  | .str _ => true
  | _ => false
def eqF : W → W → Bool
  | .non, .non => true
  | .bl a, .bl b => a == b
  | .bl a, .int b => (if a then 1 else 0) == b
  | .int a, .bl b => a == (if b then 1 else 0)
  | .int a, .int b => a == b
  | .str a, .str b => a == b
  | _, _ => false
def valW {α : Type} [DecidableEq α] (kvs : List (α × W)) (k : α) : Option W := (kvs.find? fun kv => decide (kv.1 = k)).map (·.2)
def putKW {α : Type} [DecidableEq α] (kvs : List (α × W)) (k : α) (v : W) : List (α × W) :=
  if kvs.any (fun kv => decide (kv.1 = k)) then kvs.map fun kv => if kv.1 = k then (kv.1, v) else kv else kvs ++ [(k, v)]
def keyW : W → Option Key
  | .int i => some (.inl i)
  | .str x => some (.inr x)
  | _ => none
/-- x in y: three ways, by the kind of y and of x -/
def inW : W → W → Hw → (Bool → Prop) → Prop := fun x y H P =>
  (∃ xs, seqA H y xs ∧ flatW x = true ∧ xs.all flatW = true ∧ P (xs.any fun z => eqF z x)) ∨
  (∃ d ds, DW H x d ∧ DW H y (.list ds) ∧ SeqAt.shaped d = true ∧ SeqAt.shaped (.list ds) = true ∧ P (ds.any fun z => PyData.eqv z d)) ∨
  (∃ a kvs k, y = .ref a ∧ H a = some (.dct kvs) ∧ keyW x = some k ∧ P (valW kvs k).isSome)
def isW : W → W → (Bool → Prop) → Prop := fun x y P => match y with
  | .non => (match x with
    | .non => P true
    | _ => P false)
  | .bl b => (match x with
    | .bl a => P (a == b)
    | .scr _ => False
    | _ => P false)
  | _ => False
def cmpW : CmpOp → R2W
  | .Eq => fun x y H Q => eqW x y H fun b => Q (.bl b) H
  | .NotEq => fun x y H Q => eqW x y H fun b => Q (.bl (!b)) H
  | .Lt => ordW (fun i j => decide (i < j)) HT.lexLt
  | .LtE => ordW (fun i j => decide (i ≤ j)) leI
  | .Gt => ordW (fun i j => decide (j < i)) gtI
  | .GtE => fun x y H Q => match x, y with
    | .int i, .int j => Q (.bl (decide (j ≤ i))) H
    | _, _ => False
  | .In => fun x y H Q => inW x y H fun b => Q (.bl b) H
  | .NotIn => fun x y H Q => inW x y H fun b => Q (.bl (!b)) H
  | .Is => fun x y H Q => isW x y fun b => Q (.bl b) H
  | .IsNot => fun x y H Q => isW x y fun b => Q (.bl (!b)) H
end WL

/-! ## Comparisons lowered; dicts; built-in calls -/
namespace WL
open PySem L2

theorem is_with_bool {X : Cx} {pins : List (Addr × Obj)} {σ : L2.St} {H : Hp} {s : Shared} {v : Value} {b c : Bool} {Q : VK} (I : Inv X pins σ H s) (hv : plainIs v (.bool b) = true) (hc : (v == Value.bool b) = c) (h : Q (.bl c) H) :
    wpAny (model X.prog X.w) X.A (compareOp .Is v (.bool b)) (EP X pins σ Q) X.xe s := wpAny_is_plain hv (by rw [hc]; exact ⟨.bl c, H, I, rfl, h⟩)
theorem isnot_with_bool {X : Cx} {pins : List (Addr × Obj)} {σ : L2.St} {H : Hp} {s : Shared} {v : Value} {b c : Bool} {Q : VK} (I : Inv X pins σ H s) (hv : plainIs v (.bool b) = true) (hc : (v == Value.bool b) = c) (h : Q (.bl (!c)) H) :
    wpAny (model X.prog X.w) X.A (compareOp .IsNot v (.bool b)) (EP X pins σ Q) X.xe s := wpAny_isNot_plain hv (by rw [hc]; exact ⟨.bl (!c), H, I, rfl, h⟩)
def isBV (neg : Bool) : R2 := fun x y H Q => ∃ b, y = .bl b ∧ (match x with
  | .bl a => Q (.bl (neg ^^ (a == b))) H
  | .flt _ => False
  | .byt _ => False
  | _ => Q (.bl neg) H)
theorem op_isB {X : Cx} : OpR X (compareOp .Is) (isBV false) := by
  intro pins s σ H x y v u Q I rx ry h
  obtain ⟨b, rfl, q⟩ := h
  cases (show u = Value.bool b from ry)
  cases x with
  | non => cases (show v = Value.none from rx); exact is_with_bool I rfl (c := false) rfl q
  | bl a =>
    cases (show v = Value.bool a from rx)
    refine is_with_bool I rfl (c := a == b) ?_ (by simpa using q)
    cases a <;> cases b <;> rfl
  | int i => obtain ⟨t, e⟩ := (show ∃ t, v = Value.int i t from rx); cases e; exact is_with_bool I rfl (c := false) rfl q
  | str i => obtain ⟨t, e⟩ := (show ∃ t, v = Value.str i t from rx); cases e; exact is_with_bool I rfl (c := false) rfl q
  | ref a => cases (show v = Value.ref a from rx); exact is_with_bool I rfl (c := false) rfl q
  | ty n => cases (show v = Value.type n from rx); exact is_with_bool I rfl (c := false) rfl q
  | flt _ => exact (show False from q).elim
  | byt _ => exact (show False from q).elim
theorem op_isnotB {X : Cx} : OpR X (compareOp .IsNot) (isBV true) := by
  intro pins s σ H x y v u Q I rx ry h
  obtain ⟨b, rfl, q⟩ := h
  cases (show u = Value.bool b from ry)
  cases x with
  | non => cases (show v = Value.none from rx); exact isnot_with_bool I rfl (c := false) rfl q
  | bl a =>
    cases (show v = Value.bool a from rx)
    refine isnot_with_bool I rfl (c := a == b) ?_ (by simpa using q)
    cases a <;> cases b <;> rfl
  | int i => obtain ⟨t, e⟩ := (show ∃ t, v = Value.int i t from rx); cases e; exact isnot_with_bool I rfl (c := false) rfl q
  | str i => obtain ⟨t, e⟩ := (show ∃ t, v = Value.str i t from rx); cases e; exact isnot_with_bool I rfl (c := false) rfl q
  | ref a => cases (show v = Value.ref a from rx); exact isnot_with_bool I rfl (c := false) rfl q
  | ty n => cases (show v = Value.type n from rx); exact isnot_with_bool I rfl (c := false) rfl q
  | flt _ => exact (show False from q).elim
  | byt _ => exact (show False from q).elim

/-- t > u of two tuples of ints -/
def rGtT (K : PySem.W.Frag) : R2 := fun x y H Q => ∃ (a b : Addr) (ns ms : List Int), x = .ref a ∧ y = .ref b ∧ SqT K H a (ns.map V.int) ∧ SqT K H b (ms.map V.int) ∧ Q (.bl (gtI ns ms)) H
theorem op_gtT {X : Cx} (hu : X.A.units < cLine) : OpR X (compareOp .Gt) (rGtT X.K) := by
  intro pins s σ H x y v u Q I rx ry h
  obtain ⟨a, b, ns, ms, rfl, rfl, sa, sb, goal⟩ := h
  cases rx
  cases ry
  obtain ⟨ja, va, oa, _⟩ := I.tuple sa
  obtain ⟨jb, vb, ob, _⟩ := I.tuple sb
  have na : PyProof.Rows.IntsAre ja ns := Vals.ints va
  have nb' : PyProof.Rows.IntsAre jb ms := Vals.ints vb
  have za : ja.toArray.size = ns.length := by rw [List.size_toArray]; exact na.length
  have zb : jb.toArray.size = ms.length := by rw [List.size_toArray]; exact nb'.length
  have ga : ∀ j (h1 : j < ja.toArray.size), ∃ t, ja.toArray[j] = .int (ns.getD j 0) t := fun j h1 => PyProof.Rows.IntsAre.int_at na _ _ (by simp at h1; simp [h1])
  have gb : ∀ j (h1 : j < jb.toArray.size), ∃ t, jb.toArray[j] = .int (ms.getD j 0) t := fun j h1 => PyProof.Rows.IntsAre.int_at nb' _ _ (by simp at h1; simp [h1])
  have R := Ob.RcOp.tuples_gt (A := X.A) (s := s) (e := fun j => decide (ns.getD j 0 = ms.getD j 0)) (r := fun j => decide (ms.getD j 0 < ns.getD j 0)) oa ob hu (fun j h1 h2 => by
    obtain ⟨t, et⟩ := ga j h1
    obtain ⟨t', et'⟩ := gb j h2
    rw [et, et']
    have same : decide (ns.getD j 0 = ms.getD j 0) = (ns.getD j 0 == ms.getD j 0) := by
      cases w : (ns.getD j 0 == ms.getD j 0) with
      | true => exact decide_eq_true (beq_iff_eq.mp w)
      | false => exact decide_eq_false (beq_eq_false_iff_ne.mp w)
    rw [same]; exact SeqAt.EqAt.int_int _ _ _ _) (fun j h1 h2 _ => by
    obtain ⟨t, et⟩ := ga j h1
    obtain ⟨t', et'⟩ := gb j h2
    rw [et, et']
    exact Ob.RcOp.gt_int _ _ _ _)
  rw [za, zb] at R
  exact R X.prog X.w X.xe (EP X pins σ Q) ⟨.bl _, H, I, rfl, goal⟩

def cmpV (K : PySem.W.Frag) : CmpOp → R2
  | .Eq => fun x y H Q => rEq x y H Q ∨ rEqD K x y H Q
  | .NotEq => fun x y H Q => rNe x y H Q ∨ rNeD K x y H Q
  | .Lt => fun x y H Q => rI0 (fun i j => .bl (decide (i < j))) x y H Q ∨ rLtT K x y H Q
  | .LtE => fun x y H Q => rI0 (fun i j => .bl (decide (i ≤ j))) x y H Q ∨ rLeT K x y H Q
  | .Gt => fun x y H Q => rI0 (fun i j => .bl (decide (j < i))) x y H Q ∨ rGtT K x y H Q
  | .GtE => rI0 (fun i j => .bl (decide (j ≤ i)))
  | .In => fun x y H Q => rIn K false x y H Q ∨ rInD K x y H Q
  | .NotIn => fun x y H Q => rIn K true x y H Q ∨ rNotInD K x y H Q
  | .Is => fun x y H Q => (y = .non ∧ Q (.bl (decide (x = .non))) H) ∨ isBV false x y H Q
  | .IsNot => fun x y H Q => (y = .non ∧ Q (.bl (!decide (x = .non))) H) ∨ isBV true x y H Q
theorem cmpV_ok {X : Cx} (hu : X.A.units + 65 < cLine) (op : CmpOp) : OpR X (compareOp op) (cmpV X.K op) := by
  have h64 : X.A.units + 64 < cLine := by omega
  have h0 : X.A.units < cLine := by omega
  cases op with
  | Eq => exact op_eq.or (op_eqD h64)
  | NotEq => exact op_ne.or (op_neD h64)
  | Lt => exact op_lt.or (op_ltT h0)
  | LtE => exact op_le.or (op_leT h0)
  | Gt => exact op_gt.or (op_gtT h0)
  | GtE => exact op_ge
  | In => exact op_in_seq.or (op_inD hu)
  | NotIn => exact op_notIn_seq.or (op_notInD hu)
  | Is => exact op_isN.or op_isB
  | IsNot => exact op_notN.or op_isnotB
/-- as cmpW, but without the keys of dicts -/
def inW0 : W → W → Hw → (Bool → Prop) → Prop := fun x y H P =>
  (∃ xs, seqA H y xs ∧ flatW x = true ∧ xs.all flatW = true ∧ P (xs.any fun z => eqF z x)) ∨
  (∃ d ds, DW H x d ∧ DW H y (.list ds) ∧ SeqAt.shaped d = true ∧ SeqAt.shaped (.list ds) = true ∧ P (ds.any fun z => PyData.eqv z d))
def cmpW0 : CmpOp → R2W
  | .In => fun x y H Q => inW0 x y H fun b => Q (.bl b) H
  | .NotIn => fun x y H Q => inW0 x y H fun b => Q (.bl (!b)) H
  | op => cmpW op
section
variable {K : PySem.W.Frag} {F : Hp} {x y : W} {v v' : V} {H' : Hw} {H : Hp} {Q' : KW} {Q : VK}
theorem flat_low {w : W} {v : V} (r : RelW K F w v) (f : flatW w = true) : flatV v = true := by
  cases w with
  | non => rw [show v = V.non from r]; rfl
  | bl b => rw [show v = V.bl b from r]; rfl
  | int b => rw [show v = V.int b from r]; rfl
  | str b => rw [show v = V.str b from r]; rfl
  | _ => cases f
theorem eqF_low {w w' : W} {v v' : V} (r : RelW K F w v) (r' : RelW K F w' v') (f : flatW w = true) (f' : flatW w' = true) : eqV v v' = eqF w w' := by
  cases w with
  | non =>
    rw [show v = V.non from r]
    cases w' with
    | non => rw [show v' = V.non from r']; rfl
    | bl b => rw [show v' = V.bl b from r']; rfl
    | int b => rw [show v' = V.int b from r']; rfl
    | str b => rw [show v' = V.str b from r']; rfl
    | _ => cases f'
  | bl a =>
    rw [show v = V.bl a from r]
    cases w' with
    | non => rw [show v' = V.non from r']; rfl
    | bl b => rw [show v' = V.bl b from r']; rfl
    | int b => rw [show v' = V.int b from r']; rfl
    | str b => rw [show v' = V.str b from r']; rfl
    | _ => cases f'
  | int a =>
    rw [show v = V.int a from r]
    cases w' with
    | non => rw [show v' = V.non from r']; rfl
    | bl b => rw [show v' = V.bl b from r']; rfl
    | int b => rw [show v' = V.int b from r']; rfl
    | str b => rw [show v' = V.str b from r']; rfl
    | _ => cases f'
  | str a =>
    rw [show v = V.str a from r]
    cases w' with
    | non => rw [show v' = V.non from r']; rfl
    | bl b => rw [show v' = V.bl b from r']; rfl
    | int b => rw [show v' = V.int b from r']; rfl
    | str b => rw [show v' = V.str b from r']; rfl
    | _ => cases f'
  | _ => cases f
theorem flats_low : ∀ {ws : List W} {vs : List V}, RelWs K F ws vs → ws.all flatW = true → vs.all flatV = true
  | [], _, r, _ => by rw [show _ = [] from r]; rfl
  | w :: ws, _, ⟨v, vs, e, r, t⟩, f => by
    rw [List.all_cons, Bool.and_eq_true] at f
    rw [e, List.all_cons, flat_low r f.1, flats_low t f.2]
    rfl
theorem any_low {x : W} {v : V} (rx : RelW K F x v) (fx : flatW x = true) : ∀ {ws : List W} {vs : List V}, RelWs K F ws vs → ws.all flatW = true → inV v vs = ws.any fun z => eqF z x
  | [], _, r, _ => by rw [show _ = [] from r]; rfl
  | w :: ws, _, ⟨u, vs, e, r, t⟩, f => by
    rw [List.all_cons, Bool.and_eq_true] at f
    rw [e, List.any_cons, ← any_low rx fx t f.2, ← eqF_low r rx f.1 fx]
    rfl
theorem eqW_low {P : Bool → Prop} (rx : RelW K F x v) (ry : RelW K F y v') (A : AbH K F H' H) (h : eqW x y H' P) : (∃ b, P b ∧ scal v v' = true ∧ decide (v = v') = b) ∨ ∃ d e, Dp K H v d ∧ Dp K H v' e ∧ SeqAt.shaped d = true ∧ SeqAt.shaped e = true ∧ P (PyData.eqv d e) := by
  have deep : (∃ d e, DW H' x d ∧ DW H' y e ∧ SeqAt.shaped d = true ∧ SeqAt.shaped e = true ∧ P (PyData.eqv d e)) → ∃ d e, Dp K H v d ∧ Dp K H v' e ∧ SeqAt.shaped d = true ∧ SeqAt.shaped e = true ∧ P (PyData.eqv d e) := fun ⟨d, e, h1, h2, h3, h4, h5⟩ =>
    ⟨d, e, h1.low A d rx, h2.low A e ry, h3, h4, h5⟩
  cases x with
  | int i =>
    cases y with
    | int j =>
      refine .inl ⟨i == j, h, ?_⟩
      rw [show v = V.int i from rx, show v' = V.int j from ry]
      exact ⟨rfl, dec_int⟩
    | _ => exact .inr (deep h)
  | str i =>
    cases y with
    | str j =>
      refine .inl ⟨decide (i = j), h, ?_⟩
      rw [show v = V.str i from rx, show v' = V.str j from ry]
      refine ⟨rfl, ?_⟩
      by_cases e : i = j
      · rw [e]; simp
      · rw [decide_eq_false e, decide_eq_false (fun z => e (V.str.inj z))]
    | _ => exact .inr (deep h)
  | bl i =>
    cases y with
    | bl j =>
      refine .inl ⟨i == j, h, ?_⟩
      rw [show v = V.bl i from rx, show v' = V.bl j from ry]
      exact ⟨rfl, dec_bl⟩
    | _ => exact .inr (deep h)
  | non =>
    cases y with
    | non =>
      refine .inl ⟨true, h, ?_⟩
      rw [show v = V.non from rx, show v' = V.non from ry]
      exact ⟨rfl, by decide⟩
    | _ => exact .inr (deep h)
  | _ => cases y <;> exact .inr (deep h)
theorem intsT_low {w : W} {v : V} {ns : List Int} (A : AbH K F H' H) (r : RelW K F w v) (h : intsT w ns) : ∃ a, v = .ref a ∧ SqT K H a (ns.map V.int) := by
  cases w with
  | tup xs =>
    obtain ⟨a, vs, e, q, t⟩ := r
    have ex : xs = ns.map W.int := h
    rw [ex] at t
    rw [RelWs.ints t] at q
    exact ⟨a, e, SqT.of (A.sub _ _ q)⟩
  | _ => exact (show False from h).elim
theorem ordW_low {f : Int → Int → Bool} {g : List Int → List Int → Bool} {rT : R2} (hT : ∀ v v' H Q, (∃ a b ns ms, v = V.ref a ∧ v' = V.ref b ∧ SqT K H a (ns.map V.int) ∧ SqT K H b (ms.map V.int) ∧ Q (.bl (g ns ms)) H) → rT v v' H Q)
    (rx : RelW K F x v) (ry : RelW K F y v') (A : AbH K F H' H) (q : QR K F Q' Q) (h : ordW f g x y H' Q') : rI0 (fun i j => .bl (f i j)) v v' H Q ∨ rT v v' H Q := by
  have deep : (∃ ns ms, intsT x ns ∧ intsT y ms ∧ Q' (.bl (g ns ms)) H') → rT v v' H Q := fun ⟨ns, ms, h1, h2, h3⟩ => by
    obtain ⟨a, e1, q1⟩ := intsT_low A rx h1
    obtain ⟨b, e2, q2⟩ := intsT_low A ry h2
    exact hT _ _ _ _ ⟨a, b, ns, ms, e1, e2, q1, q2, q.bl A h3⟩
  cases x with
  | int i =>
    cases y with
    | int j => exact .inl ⟨i, j, rx, ry, q.bl A h⟩
    | _ => exact .inr (deep h)
  | _ => cases y <;> exact .inr (deep h)
theorem inW0_low {P : Bool → Prop} (rx : RelW K F x v) (ry : RelW K F y v') (A : AbH K F H' H) (h : inW0 x y H' P) :
    (∃ p xs, v' = .ref p ∧ (SqL K H p xs ∨ SqT K H p xs) ∧ flatV v = true ∧ xs.all flatV = true ∧ P (inV v xs)) ∨ ∃ d ds, Dp K H v d ∧ Dp K H v' (.list ds) ∧ SeqAt.shaped d = true ∧ SeqAt.shaped (.list ds) = true ∧ P (ds.any fun z => PyData.eqv z d) := by
  rcases h with ⟨xs, h1, h2, h3, h4⟩ | ⟨d, ds, h1, h2, h3, h4, h5⟩
  · obtain ⟨a, vs, e, q, t⟩ := seqA_low A ry h1
    exact .inl ⟨a, vs, e, q, flat_low rx h2, flats_low t h3, by rw [any_low rx h2 t h3]; exact h4⟩
  · exact .inr ⟨d, ds, h1.low A d rx, h2.low A _ ry, h3, h4, h5⟩
theorem isW_low {neg : Bool} {P : Bool → Prop} (rx : RelW K F x v) (ry : RelW K F y v') (hP : ∀ b, P b → Q (.bl (neg ^^ b)) H) (h : isW x y P) : (v' = .non ∧ Q (.bl (neg ^^ decide (v = .non))) H) ∨ isBV neg v v' H Q := by
  have nf : ∀ {c : Bool}, c = false → (neg ^^ c) = neg := fun {c} e => by rw [e]; simp
  cases y with
  | non =>
    refine .inl ⟨ry, ?_⟩
    cases x with
    | non => rw [show v = V.non from rx]; exact hP true h
    | bl b => rw [show v = V.bl b from rx]; exact hP false h
    | int b => rw [show v = V.int b from rx]; exact hP false h
    | str b => rw [show v = V.str b from rx]; exact hP false h
    | ref b => rw [show v = V.ref b from rx]; exact hP false h
    | scr ns => obtain ⟨a, e, _⟩ := rx; rw [e]; exact hP false h
    | tup xs => obtain ⟨a, vs, e, _⟩ := rx; rw [e]; exact hP false h
    | fls xs => obtain ⟨a, vs, e, _⟩ := rx; rw [e]; exact hP false h
  | bl b =>
    refine .inr ⟨b, ry, ?_⟩
    have pf : P false → Q (.bl neg) H := fun z => by
      have := hP false z
      rwa [nf rfl] at this
    cases x with
    | non => rw [show v = V.non from rx]; exact pf h
    | bl a => rw [show v = V.bl a from rx]; exact hP (a == b) h
    | int b => rw [show v = V.int b from rx]; exact pf h
    | str b => rw [show v = V.str b from rx]; exact pf h
    | ref b => rw [show v = V.ref b from rx]; exact pf h
    | scr ns => exact (show False from h).elim
    | tup xs => obtain ⟨a, vs, e, _⟩ := rx; rw [e]; exact pf h
    | fls xs => obtain ⟨a, vs, e, _⟩ := rx; rw [e]; exact pf h
  | _ => exact (show False from h).elim
end
theorem cmpW_low {K : PySem.W.Frag} (op : CmpOp) : OpLow K (cmpW0 op) (cmpV K op) := by
  intro F x y v v' H' H Q' Q rx ry A q h
  cases op with
  | Eq =>
    rcases eqW_low rx ry A (show eqW x y H' fun b => Q' (.bl b) H' from h) with ⟨b, h1, h2, h3⟩ | ⟨d, e, h1, h2, h3, h4, h5⟩
    · exact .inl ⟨h2, by rw [h3]; exact q.bl A h1⟩
    · exact .inr ⟨d, e, h1, h2, h3, h4, q.bl A h5⟩
  | NotEq =>
    rcases eqW_low rx ry A (show eqW x y H' fun b => Q' (.bl (!b)) H' from h) with ⟨b, h1, h2, h3⟩ | ⟨d, e, h1, h2, h3, h4, h5⟩
    · exact .inl ⟨h2, by rw [h3]; exact q.bl A h1⟩
    · exact .inr ⟨d, e, h1, h2, h3, h4, q.bl A h5⟩
  | Lt => exact ordW_low (fun _ _ _ _ z => z) rx ry A q h
  | LtE => exact ordW_low (fun _ _ _ _ z => z) rx ry A q h
  | Gt => exact ordW_low (fun _ _ _ _ z => z) rx ry A q h
  | GtE =>
    cases x with
    | int i =>
      cases y with
      | int j => exact ⟨i, j, rx, ry, q.bl A h⟩
      | _ => exact (show False from h).elim
    | _ => exact (show False from h).elim
  | In =>
    rcases inW0_low rx ry A (show inW0 x y H' fun b => Q' (.bl b) H' from h) with ⟨p, xs, h1, h2, h3, h4, h5⟩ | ⟨d, ds, h1, h2, h3, h4, h5⟩
    · exact .inl ⟨p, xs, h1, h2, h3, h4, q.bl A h5⟩
    · exact .inr ⟨d, ds, h1, h2, h3, h4, q.bl A h5⟩
  | NotIn =>
    rcases inW0_low rx ry A (show inW0 x y H' fun b => Q' (.bl (!b)) H' from h) with ⟨p, xs, h1, h2, h3, h4, h5⟩ | ⟨d, ds, h1, h2, h3, h4, h5⟩
    · exact .inl ⟨p, xs, h1, h2, h3, h4, q.bl A h5⟩
    · exact .inr ⟨d, ds, h1, h2, h3, h4, q.bl A h5⟩
  | Is =>
    rcases isW_low (neg := false) (Q := Q) (H := H) rx ry (fun b z => by rw [Bool.false_xor]; exact q.bl A z) (show isW x y fun b => Q' (.bl b) H' from h) with ⟨h1, h2⟩ | h1
    · exact .inl ⟨h1, by rw [Bool.false_xor] at h2; exact h2⟩
    · exact .inr h1
  | IsNot =>
    rcases isW_low (neg := true) (Q := Q) (H := H) rx ry (fun b z => by rw [Bool.true_xor]; exact q.bl A z) (show isW x y fun b => Q' (.bl (!b)) H' from h) with ⟨h1, h2⟩ | h1
    · exact .inl ⟨h1, by rw [Bool.true_xor] at h2; exact h2⟩
    · exact .inr h1
end WL

/-! ## Items, slices, dicts, methods of lists, built-in calls -/
namespace WL
open PySem L2

def delW (H : Hw) (a : Addr) : Hw := fun b => if b = a then none else H b
theorem delW_ne {H : Hw} {a b : Addr} (h : b ≠ a) : delW H a b = H b := by unfold delW; rw [if_neg h]
theorem AbH.freeze {K : PySem.W.Frag} {F : Hp} {H' : Hw} {H : Hp} {a : Addr} {xs : List W} (A : AbH K F H' H) (h : H' a = some (.lst xs)) :
    ∃ F1, Same F F1 ∧ AbH K F1 (delW H' a) H ∧ RelW K F1 (.fls xs) (.ref a) := by
  obtain ⟨na, vs, e, r⟩ := A.obj a _ h
  have s : Same F (upd F a (.lst vs)) := same_upd na
  refine ⟨upd F a (.lst vs), s, ⟨fun b x e1 => ?_, fun b x e1 => ?_⟩, a, vs, rfl, upd_same, RelWs.mono s _ r⟩
  · by_cases hb : b = a
    · subst hb
      rw [upd_same] at e1
      cases e1
      exact e
    · rw [upd_ne hb] at e1
      exact A.sub b x e1
  · by_cases hb : b = a
    · rw [hb] at e1
      unfold delW at e1
      rw [if_pos rfl] at e1
      cases e1
    · rw [delW_ne hb] at e1
      obtain ⟨n, r1⟩ := A.obj b x e1
      exact ⟨by rw [upd_ne hb]; exact n, r1.mono s⟩

/-! ### items -/
def ixW : R2W := fun x y H Q => match x, y with
  | .str z, .int i => ∃ c, z.length ≤ sizeLine ∧ atI z.cps.toList i = some c ∧ Q (.str ⟨#[c]⟩) H
  | x, .int i => ∃ xs v, seqA H x xs ∧ atI xs i = some v ∧ Q v H
  | _, _ => False
theorem atI_low {K : PySem.W.Frag} {F : Hp} {xs : List W} {vs : List V} {i : Int} {w : W} (r : RelWs K F xs vs) (h : atI xs i = some w) : ∃ v, atI vs i = some v ∧ RelW K F w v := by
  unfold atI at h ⊢
  rw [← r.length]
  cases e : ixN xs.length i with
  | none =>
    rw [e] at h
    cases h
  | some j =>
    rw [e] at h
    exact r.get h
theorem ixW_low {K : PySem.W.Frag} : OpLow K ixW (rIx K) := by
  intro F x y v v' H' H Q' Q rx ry A q h
  cases y with
  | int i =>
    have go : (∃ xs w, seqA H' x xs ∧ atI xs i = some w ∧ Q' w H') → rIx K v v' H Q := fun ⟨xs, w, h1, h2, h3⟩ => by
      obtain ⟨a, vs, e, q1, t⟩ := seqA_low A rx h1
      obtain ⟨u, e2, ru⟩ := atI_low t h2
      rcases q1 with q1 | q1
      · exact .inl ⟨a, vs, i, u, e, ry, q1, e2, q.at A ru h3⟩
      · exact .inr (.inl ⟨a, vs, i, u, e, ry, q1, e2, q.at A ru h3⟩)
    cases x with
    | str z =>
      obtain ⟨c, h1, h2, h3⟩ := h
      exact .inr (.inr ⟨z, i, c, rx, ry, h1, h2, q.str A h3⟩)
    | _ => exact go h
  | _ => cases x <;> exact (show False from h).elim

/-! ### slices -/
def cutW (xs : List W) (lo hi : Option Int) : List W := (xs.drop (HT.sIx xs.length 0 lo)).take (HT.sIx xs.length xs.length hi - HT.sIx xs.length 0 lo)
def slW (x : W) (lo hi : Option Int) (H : Hw) (Q : KW) : Prop := match x with
  | .tup xs => ¬ (HT.sIx xs.length 0 lo = 0 ∧ HT.sIx xs.length xs.length hi = xs.length) ∧ Q (.tup (cutW xs lo hi)) H
  | x => ∃ xs, seqL H x xs ∧ newL (cutW xs lo hi) H Q
theorem cut_low {K : PySem.W.Frag} {F : Hp} {xs : List W} {vs : List V} (r : RelWs K F xs vs) (lo hi : Option Int) : RelWs K F (cutW xs lo hi) (cutV vs lo hi) := by
  unfold cutW cutV
  rw [← r.length]
  exact RelWs.take _ (RelWs.drop _ r)
theorem slW_low {K : PySem.W.Frag} {F : Hp} {x : W} {v : V} {lo hi : Option Int} {H' : Hw} {H : Hp} {Q' : KW} {Q : VK} (rx : RelW K F x v) (A : AbH K F H' H) (q : QR K F Q' Q) (h : slW x lo hi H' Q') : rSlT K v lo hi H Q ∨ rSlL K v lo hi H Q := by
  have go : (∃ xs, seqL H' x xs ∧ newL (cutW xs lo hi) H' Q') → rSlT K v lo hi H Q ∨ rSlL K v lo hi H Q := fun ⟨xs, h1, h2⟩ => by
    obtain ⟨a, vs, e, q1, t⟩ := seqL_low A rx h1
    exact .inr ⟨a, vs, e, q1, newL_low A q (cut_low t lo hi) h2⟩
  cases x with
  | tup xs =>
    obtain ⟨a, vs, e, q1, t⟩ := rx
    exact .inl ⟨a, vs, e, SqT.of (A.sub _ _ q1), by rw [← t.length]; exact h.1, newT_low A q (cut_low t lo hi) h.2⟩
  | _ => exact go h

/-! ### dicts -/
section
variable {K : PySem.W.Frag} {F : Hp} {α : Type} [DecidableEq α]
theorem RelKs.val : ∀ {kvs : List (α × W)} {vs : List (α × V)} (k : α), RelKs K F kvs vs → (∀ w, valW kvs k = some w → ∃ v, valV vs k = some v ∧ RelW K F w v) ∧ (valW kvs k = none → valV vs k = none)
  | [], _, k, h => by
    rw [show _ = [] from h]
    exact ⟨fun w e => (by cases e), fun _ => rfl⟩
  | x :: xs, _, k, ⟨v, r, e, h, t⟩ => by
    rw [e]
    by_cases hk : x.1 = k
    · have e1 : valW (x :: xs) k = some x.2 := by simp [valW, List.find?_cons, hk]
      have e2 : valV ((x.1, v) :: r) k = some v := by simp [valV, List.find?_cons, hk]
      rw [e1, e2]
      exact ⟨fun w z => ⟨v, rfl, by rw [← Option.some.inj z]; exact h⟩, fun z => by cases z⟩
    · have e1 : valW (x :: xs) k = valW xs k := by simp [valW, List.find?_cons, hk]
      have e2 : valV ((x.1, v) :: r) k = valV r k := by simp [valV, List.find?_cons, hk]
      rw [e1, e2]
      exact RelKs.val k t
theorem RelKs.anyK : ∀ {kvs : List (α × W)} {vs : List (α × V)} (k : α), RelKs K F kvs vs → (kvs.any fun kv => decide (kv.1 = k)) = vs.any fun kv => decide (kv.1 = k)
  | [], _, k, h => by
    rw [show _ = [] from h]
    rfl
  | x :: xs, _, k, ⟨v, r, e, h, t⟩ => by
    rw [e, List.any_cons, List.any_cons, RelKs.anyK k t]
theorem RelKs.repl : ∀ {kvs : List (α × W)} {vs : List (α × V)} (k : α) {w : W} {u : V}, RelW K F w u → RelKs K F kvs vs → RelKs K F (kvs.map fun kv => if kv.1 = k then (kv.1, w) else kv) (vs.map fun kv => if kv.1 = k then (kv.1, u) else kv)
  | [], _, k, w, u, _, h => by
    rw [show _ = [] from h]
    exact rfl
  | x :: xs, _, k, w, u, rw', ⟨v, r, e, h, t⟩ => by
    rw [e, List.map_cons, List.map_cons]
    by_cases hk : x.1 = k
    · rw [if_pos hk, if_pos hk]
      exact ⟨u, _, rfl, rw', RelKs.repl k rw' t⟩
    · rw [if_neg hk, if_neg hk]
      exact ⟨v, _, rfl, h, RelKs.repl k rw' t⟩
theorem RelKs.snoc : ∀ {kvs : List (α × W)} {vs : List (α × V)} (k : α) {w : W} {u : V}, RelW K F w u → RelKs K F kvs vs → RelKs K F (kvs ++ [(k, w)]) (vs ++ [(k, u)])
  | [], _, k, w, u, rw', h => by
    rw [show _ = [] from h]
    exact ⟨u, [], rfl, rw', rfl⟩
  | x :: xs, _, k, w, u, rw', ⟨v, r, e, h, t⟩ => by
    rw [e]
    exact ⟨v, _, rfl, h, RelKs.snoc k rw' t⟩
theorem RelKs.put {kvs : List (α × W)} {vs : List (α × V)} (k : α) {w : W} {u : V} (ru : RelW K F w u) (r : RelKs K F kvs vs) : RelKs K F (putKW kvs k w) (putK vs k u) := by
  unfold putKW putK
  rw [r.anyK k]
  split
  · exact r.repl k ru
  · exact r.snoc k ru
end
theorem keyW_low {K : PySem.W.Frag} {F : Hp} {w : W} {v : V} {k : Key} (r : RelW K F w v) (h : keyW w = some k) : v = kV k := by
  cases w with
  | int i => cases h; exact r
  | str x => cases h; exact r
  | _ => cases h
def dgetW : R2W := fun x y H Q => ∃ a kvs k v, x = .ref a ∧ H a = some (.dct kvs) ∧ keyW y = some k ∧ valW kvs k = some v ∧ Q v H
/-- what the dict x holds at y -/
theorem dget_low {K : PySem.W.Frag} {F : Hp} {a : Addr} {y : W} {v' : V} {kvs : List (Key × W)} {k : Key} {H' : Hw} {H : Hp} (ry : RelW K F y v') (A : AbH K F H' H) (h1 : H' a = some (.dct kvs)) (h2 : keyW y = some k) :
    ∃ o, DGet H a v' o ∧ (∀ w, valW kvs k = some w → ∃ v, o = some v ∧ RelW K F w v) ∧ (valW kvs k = none → o = none) := by
  obtain ⟨vs, e, r⟩ := A.dict h1
  obtain ⟨p, q⟩ := r.val k
  rw [keyW_low ry h2]
  exact ⟨valV vs k, .k e, p, q⟩

/-! ### isinstance -/
def tyW (H : Hw) : W → Option String
  | .non => some "NoneType"
  | .bl _ => some "bool"
  | .int _ => some "int"
  | .str _ => some "str"
  | .tup _ => some "tuple"
  | .fls _ => some "list"
  | .scr _ => none
  | .ref a => match H a with
    | some (.lst _) => some "list"
    | some (.dct _) => some "dict"
    | _ => none
theorem tyW_low {K : PySem.W.Frag} {F : Hp} {w : W} {v : V} {H' : Hw} {H : Hp} {t : String} (r : RelW K F w v) (A : AbH K F H' H) (h : tyW H' w = some t) : TyX K H v (.type t) := by
  cases w with
  | non => cases h; rw [show v = V.non from r]; exact .base .non
  | bl b => cases h; rw [show v = V.bl b from r]; exact .base (.bl b)
  | int b => cases h; rw [show v = V.int b from r]; exact .base (.int b)
  | str b => cases h; rw [show v = V.str b from r]; exact .base (.str b)
  | tup xs => cases h; obtain ⟨a, vs, e, q, _⟩ := r; rw [e]; exact .base (.tup (A.sub _ _ q))
  | fls xs => cases h; obtain ⟨a, vs, e, q, _⟩ := r; rw [e]; exact .base (.lst (A.sub _ _ q))
  | scr ns => cases h
  | ref a =>
    rw [show v = V.ref a from r]
    unfold tyW at h
    cases e : H' a with
    | none => simp only [e] at h; cases h
    | some o =>
      cases o with
      | lst xs => simp only [e] at h; cases h; obtain ⟨vs, q, _⟩ := A.list e; exact .base (.lst q)
      | dct xs => simp only [e] at h; cases h; obtain ⟨vs, q, _⟩ := A.dict e; exact .base (.dK q)
      | ins C fs => simp only [e] at h; cases h

/-! ### built-in calls by their names -/
def maxI (i j : Int) : Int := if j > i then j else i
def minI (i j : Int) : Int := if j < i then j else i
def callW (f : Str) : RLW := fun ws H Q =>
  if f = "len" then ∃ w, ws = [w] ∧ ((∃ xs, seqA H w xs ∧ Q (.int xs.length) H) ∨ (∃ a kvs, w = .ref a ∧ H a = some (.dct kvs) ∧ Q (.int kvs.length) H) ∨ ∃ x, w = .str x ∧ x.length ≤ sizeLine ∧ Q (.int x.length) H)
  else if f = "list" then ∃ w xs, ws = [w] ∧ seqA H w xs ∧ newL xs H Q
  else if f = "tuple" then ∃ w, ws = [w] ∧ ((∃ xs, seqL H w xs ∧ Q (.tup xs) H) ∨ ∃ xs, w = .tup xs ∧ Q (.tup xs) H)
  else if f = "sorted" then ∃ w, ws = [w] ∧ ((∃ ns : List Int, seqL H w (ns.map W.int) ∧ ∀ ns' : List Int, ns'.Perm ns → ns'.Pairwise (· ≤ ·) → newL (ns'.map W.int) H Q) ∨
      ∃ (a : Addr) (kvs : List (Key × W)) (ks : List Int), w = .ref a ∧ H a = some (.dct kvs) ∧ kvs.map (·.1) = ks.map Sum.inl ∧ ks.length < 64 ∧ ∀ ns' : List Int, ns'.Perm ks → ns'.Pairwise (· ≤ ·) → newL (ns'.map W.int) H Q)
  else if f = "max" then (∃ i j, ws = [.int i, .int j] ∧ Q (.int (maxI i j)) H) ∨ ∃ w, ∃ ns : List Int, ws = [w] ∧ seqL H w (ns.map W.int) ∧ 0 < ns.length ∧ ∀ m, m ∈ ns → (∀ y, y ∈ ns → y ≤ m) → Q (.int m) H
  else if f = "min" then ∃ i j, ws = [.int i, .int j] ∧ Q (.int (minI i j)) H
  else if f = "int" then (∃ b, ws = [.bl b] ∧ Q (.int (if b then 1 else 0)) H) ∨ ∃ i, ws = [.int i] ∧ Q (.int i) H
  else False
/-- is the name a built-in function, or a built-in class -/
def builtinIs (f : Str) : Option Value :=
  if f = "len" then some (.builtin "len") else if f = "list" then some (.type "list") else if f = "tuple" then some (.type "tuple") else if f = "sorted" then some (.builtin "sorted")
  else if f = "max" then some (.builtin "max") else if f = "min" then some (.builtin "min") else if f = "int" then some (.type "int") else none
section
variable {K : PySem.W.Frag} {F : Hp} {H' : Hw} {H : Hp} {Q' : KW} {Q : VK}
theorem len_low : ListLow K (fun ws H Q => ∃ w, ws = [w] ∧ ((∃ xs, seqA H w xs ∧ Q (.int xs.length) H) ∨ (∃ a kvs, w = .ref a ∧ H a = some (.dct kvs) ∧ Q (.int kvs.length) H) ∨ ∃ x, w = .str x ∧ x.length ≤ sizeLine ∧ Q (.int x.length) H))
    (fun xs H Q => (∃ x n, xs = [x] ∧ LenV K x H n ∧ Q (.int n) H) ∨ ∃ a kvs, xs = [V.ref a] ∧ H a = some (.dK kvs) ∧ Q (.int kvs.length) H) := by
  intro F ws vs H' H Q' Q r A q h
  obtain ⟨w, rfl, h⟩ := h
  obtain ⟨v, rfl, rv⟩ := r.one
  rcases h with ⟨xs, h1, h2⟩ | ⟨a, kvs, rfl, h1, h2⟩ | ⟨x, rfl, h1, h2⟩
  · obtain ⟨a, vs, rfl, q1, t⟩ := seqA_low A rv h1
    refine .inl ⟨_, vs.length, rfl, ?_, by rw [← t.length]; exact q.int A h2⟩
    exact q1.elim (fun z => .inl ⟨vs, z, rfl⟩) fun z => .inr ⟨vs, z, rfl⟩
  · obtain ⟨vs, e, t⟩ := A.dict h1
    exact .inr ⟨a, vs, by rw [show v = V.ref a from rv], e, by rw [← t.length]; exact q.int A h2⟩
  · exact .inl ⟨v, x.length, rfl, by rw [show v = V.str x from rv]; exact ⟨h1, rfl⟩, q.int A h2⟩
theorem list_low : ListLow K (fun ws H Q => ∃ w xs, ws = [w] ∧ seqA H w xs ∧ newL xs H Q) (fun xs H Q => ∃ p ys, xs = [.ref p] ∧ (SqL K H p ys ∨ SqT K H p ys) ∧ ∀ l, H l = none → Q (.ref l) (upd H l (.lst ys))) := by
  intro F ws vs H' H Q' Q r A q h
  obtain ⟨w, xs, rfl, h1, h2⟩ := h
  obtain ⟨v, rfl, rv⟩ := r.one
  obtain ⟨a, vs, rfl, q1, t⟩ := seqA_low A rv h1
  exact ⟨a, vs, rfl, q1, newL_low A q t h2⟩
theorem tuple_low : ListLow K (fun ws H Q => ∃ w, ws = [w] ∧ ((∃ xs, seqL H w xs ∧ Q (.tup xs) H) ∨ ∃ xs, w = .tup xs ∧ Q (.tup xs) H))
    (fun xs H Q => ∃ p ys, xs = [.ref p] ∧ ((SqL K H p ys ∧ ∀ l, H l = none → Q (.ref l) (upd H l (.tup ys))) ∨ (SqT K H p ys ∧ Q (.ref p) H))) := by
  intro F ws vs H' H Q' Q r A q h
  obtain ⟨w, rfl, h⟩ := h
  obtain ⟨v, rfl, rv⟩ := r.one
  rcases h with ⟨xs, h1, h2⟩ | ⟨xs, rfl, h2⟩
  · obtain ⟨a, vs, rfl, q1, t⟩ := seqL_low A rv h1
    exact ⟨a, vs, rfl, .inl ⟨q1, newT_low A q t h2⟩⟩
  · obtain ⟨a, vs, e, q1, t⟩ := id rv
    refine ⟨a, vs, by rw [e], .inr ⟨SqT.of (A.sub _ _ q1), ?_⟩⟩
    rw [e] at rv
    exact q.at A rv h2
theorem sorted_low : ListLow K (fun ws H Q => ∃ w, ws = [w] ∧ ((∃ ns : List Int, seqL H w (ns.map W.int) ∧ ∀ ns' : List Int, ns'.Perm ns → ns'.Pairwise (· ≤ ·) → newL (ns'.map W.int) H Q) ∨
      ∃ (a : Addr) (kvs : List (Key × W)) (ks : List Int), w = .ref a ∧ H a = some (.dct kvs) ∧ kvs.map (·.1) = ks.map Sum.inl ∧ ks.length < 64 ∧ ∀ ns' : List Int, ns'.Perm ks → ns'.Pairwise (· ≤ ·) → newL (ns'.map W.int) H Q))
    (fun xs H Q => rSortedI K xs H Q ∨ ∃ (a : Addr) (kvs : List (Key × V)) (ks : List Int), xs = [.ref a] ∧ Rd H a (.dK kvs) ∧ kvs.map (·.1) = ks.map Sum.inl ∧ ks.length < 64 ∧
      ∀ (ys : List Int) (p : Addr), ys.Perm ks → ys.Pairwise (· ≤ ·) → H p = none → Q (.ref p) (upd H p (.lst (ys.map V.int)))) := by
  intro F ws vs H' H Q' Q r A q h
  obtain ⟨w, rfl, h⟩ := h
  obtain ⟨v, rfl, rv⟩ := r.one
  rcases h with ⟨ns, h1, h2⟩ | ⟨a, kvs, ks, rfl, h1, h2, h3, h4⟩
  · obtain ⟨a, vs, rfl, q1, t⟩ := seqL_low A rv h1
    rw [RelWs.ints t] at q1
    exact .inl ⟨a, ns, rfl, q1, fun ns' p hp hw hn => newL_low A q (RelWs.of_ints ns') (h2 ns' hp hw) p hn⟩
  · obtain ⟨vs, e, t⟩ := A.dict h1
    have ek : ∀ {l : List (Key × W)} {m : List (Key × V)}, RelKs K F l m → l.map (·.1) = m.map (·.1) := by
      intro l
      induction l with
      | nil => intro m z; rw [show m = [] from z]; rfl
      | cons x l ih => intro m z; obtain ⟨u, m', e, _, z'⟩ := z; rw [e, List.map_cons, List.map_cons, ih z']
    exact .inr ⟨a, vs, ks, by rw [show v = V.ref a from rv], .inl e, by rw [← ek t]; exact h2, h3, fun ns' p hp hw hn => newL_low A q (RelWs.of_ints ns') (h4 ns' hp hw) p hn⟩
theorem max_low : ListLow K (fun ws H Q => (∃ i j, ws = [.int i, .int j] ∧ Q (.int (maxI i j)) H) ∨ ∃ w, ∃ ns : List Int, ws = [w] ∧ seqL H w (ns.map W.int) ∧ 0 < ns.length ∧ ∀ m, m ∈ ns → (∀ y, y ∈ ns → y ≤ m) → Q (.int m) H)
    (fun xs H Q => (∃ i j, xs = [.int i, .int j] ∧ Q (.int (if j > i then j else i)) H) ∨ rMax K xs H Q) := by
  intro F ws vs H' H Q' Q r A q h
  rcases h with ⟨i, j, rfl, h⟩ | ⟨w, ns, rfl, h1, h2, h3⟩
  · obtain ⟨v, v', rfl, r1, r2⟩ := r.two
    exact .inl ⟨i, j, by rw [show v = V.int i from r1, show v' = V.int j from r2], q.int A h⟩
  · obtain ⟨v, rfl, rv⟩ := r.one
    obtain ⟨a, vs, rfl, q1, t⟩ := seqL_low A rv h1
    rw [RelWs.ints t] at q1
    exact .inr ⟨a, ns, rfl, q1, h2, fun m hm hle => q.int A (h3 m hm hle)⟩
theorem min_low : ListLow K (fun ws H Q => ∃ i j, ws = [.int i, .int j] ∧ Q (.int (minI i j)) H) (fun xs H Q => ∃ i j, xs = [.int i, .int j] ∧ Q (.int (if j < i then j else i)) H) := by
  intro F ws vs H' H Q' Q r A q h
  obtain ⟨i, j, rfl, h⟩ := h
  obtain ⟨v, v', rfl, r1, r2⟩ := r.two
  exact ⟨i, j, by rw [show v = V.int i from r1, show v' = V.int j from r2], q.int A h⟩
theorem int_low : ListLow K (fun ws H Q => (∃ b, ws = [.bl b] ∧ Q (.int (if b then 1 else 0)) H) ∨ ∃ i, ws = [.int i] ∧ Q (.int i) H)
    (fun xs H Q => (∃ i, xs = [.int i] ∧ Q (.int i) H) ∨ ∃ k, xs = [.bl k] ∧ Q (.int (if k then 1 else 0)) H) := by
  intro F ws vs H' H Q' Q r A q h
  rcases h with ⟨b, rfl, h⟩ | ⟨i, rfl, h⟩
  · obtain ⟨v, rfl, rv⟩ := r.one
    exact .inr ⟨b, by rw [show v = V.bl b from rv], q.int A h⟩
  · obtain ⟨v, rfl, rv⟩ := r.one
    exact .inl ⟨i, by rw [show v = V.int i from rv], q.int A h⟩
end
/-- a built-in of the table, called -/
theorem callW_ok {X : Cx} (hc : X.calm = true) {f : Str} {u : Value} (hu : builtinIs f = some u) : ∃ rV, CallR X u rV ∧ ListLow X.K (callW f) rV := by
  unfold builtinIs at hu
  unfold callW
  by_cases h1 : f = "len"
  · rw [if_pos h1] at hu; cases hu
    refine ⟨_, call_len.or call_lenD, ?_⟩
    simp only [if_pos h1]
    exact len_low
  rw [if_neg h1] at hu
  simp only [if_neg h1]
  by_cases h2 : f = "list"
  · rw [if_pos h2] at hu; cases hu
    refine ⟨_, call_list_of, ?_⟩
    simp only [if_pos h2]
    exact list_low
  rw [if_neg h2] at hu
  simp only [if_neg h2]
  by_cases h3 : f = "tuple"
  · rw [if_pos h3] at hu; cases hu
    refine ⟨_, call_tuple_of, ?_⟩
    simp only [if_pos h3]
    exact tuple_low
  rw [if_neg h3] at hu
  simp only [if_neg h3]
  by_cases h4 : f = "sorted"
  · rw [if_pos h4] at hu; cases hu
    refine ⟨_, cr_sortedI.or (call_sortedDI hc), ?_⟩
    simp only [if_pos h4]
    exact sorted_low
  rw [if_neg h4] at hu
  simp only [if_neg h4]
  by_cases h5 : f = "max"
  · rw [if_pos h5] at hu; cases hu
    refine ⟨_, (call_max2 hc).or (cr_max hc), ?_⟩
    simp only [if_pos h5]
    exact max_low
  rw [if_neg h5] at hu
  simp only [if_neg h5]
  by_cases h6 : f = "min"
  · rw [if_pos h6] at hu; cases hu
    refine ⟨_, call_min2 hc, ?_⟩
    simp only [if_pos h6]
    exact min_low
  rw [if_neg h6] at hu
  simp only [if_neg h6]
  by_cases h7 : f = "int"
  · rw [if_pos h7] at hu; cases hu
    refine ⟨_, call_int1, ?_⟩
    simp only [if_pos h7]
    exact int_low
  rw [if_neg h7] at hu
  cases hu
end WL

/-! ## A small syntax, what it means over the value layer, and how a def of the text is read into it -/
namespace WL
open PySem L2

abbrev SpW := List W → Hw → KW → EW → Prop
/-- what is known of the module's names: functions, methods, classes, attributes, constants, exceptions -/
structure Gm where
  fn : Str → SpW → Prop
  mth : Addr → Str → SpW → Prop
  made : Str → Addr → SpW → Prop
  fld : Addr → Str → Prop
  int : Str → Int → Prop
  exc : Str → Addr → Prop
  exm : Addr → Str → Bool → Prop
  isx : Addr → Str → Bool → Prop
  wrd : Str → Addr → Str → Prop
  ist : Addr → Prop

mutual
inductive CE where
  | var (i : Nat) | lit (w : W) | gint (x : Str)
  | lst (es : CEs) | tup (es : CEs)
  | bin (o : Operator) (a b : CE) | neg (a : CE)
  | cmp (o : CmpOp) (a b : CE) | chn (o1 o2 : CmpOp) (a b c : CE)
  | andV (a b : CE) | orV (a b : CE) | notV (a : CE)
  | ife (t : CT) (a b : CE)
  | fld (e : CE) (f : Str)
  | ix (e i : CE) | slc (e : CE) (lo hi : CO) | rev (e : CE)
  | bcl (f : Str) (es : CEs) | isi (e : CE) (T : String)
  | call (f : Str) (es : CEs) | mk (c : Str) (es : CEs) | mth (e : CE) (m : Str) (es : CEs)
  | app (o e : CE) | ext (o e : CE) | pop (o i : CE) | get1 (o k : CE) | get2 (o k d : CE) | setd (o k d : CE)
  | lcm (elt : CE) (i : Nat) (it : CI) (t : CU)
  | dnew | dct (ps : CPs)
  | lrng (a : CE)
  | inr (neg : Bool) (lo hi : Int) (a : CE)
  | nset (a : CE)
  | isiS (a : CE)
inductive CEs where
  | nil | cons (e : CE) (r : CEs)
inductive CPs where
  | nil | cons (k v : CE) (r : CPs)
inductive CO where
  | no | so (e : CE)
inductive CT where
  | ands (a b : CT) | ors (a b : CT) | not (a : CT) | tru (e : CE)
inductive CI where
  | ex (e : CE) | r1 (a : CE) | r2 (a b : CE) | r3 (a b c : CE)
inductive CU where
  | no | so (t : CT)
end
/-- a handler's suite: return f(e); if isinstance(e, (cs)): return False, return isinstance(e, c) and isinstance(e, d) -/
inductive Hd where
  | call (f : Str)
  | sel (cs : List Str) (c d : Str)
inductive CS where
  | set (i : Nat) (e : CE)
  | fset (o : CE) (f : Str) (e : CE)
  | iset (o i e : CE)
  | unp (is : List Nat) (e : CE)
  | expr (e : CE)
  | ret (e : CE)
  | retN
  | ifs (t : CT) (a b : List CS)
  | for_ (i : Nat) (it : CI) (b : List CS)
  | whl (t : CT) (b : List CS)
  | raise (C : Str)
  | try_ (b : List CS) (C : Str) (w : W)
  | tryH (b : List CS) (C : Str) (h : Hd)
  | pass

/-! ### what it means -/
def putFW (f : Str) (v : W) : List (Str × W) → List (Str × W)
  | [] => [(f, v)]
  | (g, x) :: r => if g = f then (g, v) :: r else (g, x) :: putFW f v r
abbrev TOW := Sw → Hw → (Option Int → Hw → Prop) → EW → Prop
/-- what is walked: the items, and what must hold at each turn -/
abbrev TIW := Sw → Hw → (List W → (Hw → Prop) → Hw → Prop) → EW → Prop
def fldW (g : Gm) (f : Str) : W → Hw → KW → Prop := fun x H Q => match x with
  | .ref a => ∃ C fs w, H a = some (.ins C fs) ∧ g.fld C f ∧ fs.lookup f = some w ∧ Q w H
  | _ => False
def appW : W → W → Hw → KW → Prop := fun x y H Q => match x with
  | .ref a => ∃ xs, H a = some (.lst xs) ∧ xs.length < sizeLine ∧ Q .non (updW H a (.lst (xs ++ [y])))
  | _ => False
def extW : W → W → Hw → KW → Prop := fun x y H Q => match x with
  | .ref a => ∃ xs ys, H a = some (.lst xs) ∧ seqM H y ys ∧ xs.length + ys.length ≤ sizeLine ∧ Q .non (updW H a (.lst (xs ++ ys)))
  | _ => False
def popW : W → W → Hw → KW → Prop := fun x y H Q => match x, y with
  | .ref a, .int i => ∃ xs k w, H a = some (.lst xs) ∧ i = (k : Nat) ∧ i < 2 ^ 63 ∧ xs[k]? = some w ∧ Q w (updW H a (.lst (xs.eraseIdx k)))
  | _, _ => False
def isLst (x : W) (H : Hw) : Prop := ∃ xs, seqL H x xs
def isDct (x : W) (H : Hw) : Prop := ∃ a kvs, x = .ref a ∧ H a = some (.dct kvs)
def revW (x : W) (H : Hw) (Q : KW) : Prop := ∃ xs, seqL H x xs ∧ newL xs.reverse H Q
def compGo (D : Addr) (σ : Sw) (i : Nat) (stay : Hw → Prop) (t : TTW) (elt : TEW) (Q : Hw → Prop) : List W → Hw → Prop
  | [], H => stay H ∧ Q H
  | x :: r, H => stay H ∧ t (σ.set i (some x)) H (fun b H1 => if b = true then elt (σ.set i (some x)) H1 (fun y H2 => ∃ acc, H2 D = some (.lst acc) ∧ acc.length < sizeLine ∧ compGo D σ i stay t elt Q r (updW H2 D (.lst (acc ++ [y])))) (fun _ _ => False)
      else compGo D σ i stay t elt Q r H1) (fun _ _ => False)
def compW (i : Nat) (it : TIW) (t : TTW) (elt : TEW) : TEW := fun σ H Q E => it σ H (fun items stay H1 => ∀ D, H1 D = none →
  compGo D (σ.set i none) i stay t elt (fun H2 => Q (.ref D) H2 ∨ ∃ acc, H2 D = some (.lst acc) ∧ Q (.fls acc) (delW H2 D)) items (updW H1 D (.lst []))) E
def rngW (lo : Int) (n : Nat) (c : Int) : List W := (List.range n).map fun (k : Nat) => .int (lo + (k : Int) * c)
def slcW (e : TEW) (lo hi : TOW) : TEW := fun σ H Q E => e σ H (fun x H1 => lo σ H1 (fun l H2 => hi σ H2 (fun u H3 => slW x l u H3 Q) E) E) E
/-- whether an exception of the class C is of one of some classes -/
def isxA (g : Gm) (C : Addr) : List Str → Bool → Prop
  | [], b => b = false
  | c :: cs, b => ∃ k r, g.isx C c k ∧ isxA g C cs r ∧ b = (k || r)
/-- isinstance(x, str): a text, an own object -/
def isiSW (g : Gm) : W → Hw → KW → Prop := fun x H Q => (∃ y, x = .str y ∧ Q (.bl true) H) ∨ ∃ a C fs, x = .ref a ∧ H a = some (.ins C fs) ∧ g.ist C ∧ Q (.bl false) H
mutual
def denE (g : Gm) : CE → TEW
  | .var i => fun σ H Q _ => ∃ w, σ[i]? = some (some w) ∧ Q w H
  | .lit w => fun _ H Q _ => Q w H
  | .gint x => fun _ H Q _ => ∃ i, g.int x i ∧ Q (.int i) H
  | .lst es => fun σ H Q E => denA g es σ H (fun ws H1 => ws.length ≤ sizeLine ∧ newL ws H1 Q) E
  | .tup es => fun σ H Q E => denA g es σ H (fun ws H1 => ws.length ≤ sizeLine ∧ Q (.tup ws) H1) E
  | .bin o a b => tOpW (binW o) (denE g a) (denE g b)
  | .neg a => tUnW (fun x H Q => match x with
    | .int i => Q (.int (-i)) H
    | _ => False) (denE g a)
  | .cmp o a b => tOpW (cmpW o) (denE g a) (denE g b)
  | .chn o1 o2 a b c => fun σ H Q E => denE g a σ H (fun x H1 => denE g b σ H1 (fun y H2 => cmpW0 o1 x y H2 fun z H3 => ∃ k, z = .bl k ∧ (if k = true then denE g c σ H3 (fun w H4 => cmpW0 o2 y w H4 Q) E else Q (.bl false) H3)) E) E
  | .andV a b => fun σ H Q E => denE g a σ H (fun x H1 => ∃ c, x = .bl c ∧ if c = true then denE g b σ H1 Q E else Q (.bl false) H1) E
  | .orV a b => fun σ H Q E => denE g a σ H (fun x H1 => ∃ c, x = .bl c ∧ if c = true then Q (.bl true) H1 else denE g b σ H1 Q E) E
  | .notV a => fun σ H Q E => denE g a σ H (fun x H1 => ∃ c, x = .bl c ∧ Q (.bl (!c)) H1) E
  | .ife t a b => fun σ H Q E => denT g t σ H (fun c H1 => if c = true then denE g a σ H1 Q E else denE g b σ H1 Q E) E
  | .fld e f => tUnW (fldW g f) (denE g e)
  | .ix e i => tOpW (fun x y H Q => ixW x y H Q ∨ dgetW x y H Q) (denE g e) (denE g i)
  | .slc e lo hi => slcW (denE g e) (denO g lo) (denO g hi)
  | .rev e => tUnW revW (denE g e)
  | .bcl f es => fun σ H Q E => denA g es σ H (fun ws H1 => callW f ws H1 Q) E
  | .isi e T => tUnW (fun x H Q => ∃ t b, tyW H x = some t ∧ kitB t T = some b ∧ Q (.bl b) H) (denE g e)
  | .call f es => fun σ H Q E => ∃ sp, g.fn f sp ∧ denA g es σ H (fun ws H1 => sp ws H1 Q E) E
  | .mk c es => fun σ H Q E => ∃ C sp, g.made c C sp ∧ denA g es σ H (fun ws H1 => ∀ x, H1 x = none → sp (.ref x :: ws) (updW H1 x (.ins C [])) (fun v H2 => v = .non ∧ Q (.ref x) H2) E) E
  | .mth e m es => fun σ H Q E => denE g e σ H (fun x H1 => ∃ a C fs sp, x = .ref a ∧ H1 a = some (.ins C fs) ∧ g.mth C m sp ∧ fs.lookup m = none ∧ denA g es σ H1 (fun ws H2 => sp (x :: ws) H2 Q E) E) E
  | .app o e => fun σ H Q E => denE g o σ H (fun x H1 => isLst x H1 ∧ denE g e σ H1 (fun y H2 => appW x y H2 Q) E) E
  | .ext o e => fun σ H Q E => denE g o σ H (fun x H1 => isLst x H1 ∧ denE g e σ H1 (fun y H2 => extW x y H2 Q) E) E
  | .pop o e => fun σ H Q E => denE g o σ H (fun x H1 => isLst x H1 ∧ denE g e σ H1 (fun y H2 => popW x y H2 Q) E) E
  | .get1 o k => fun σ H Q E => denE g o σ H (fun x H1 => isDct x H1 ∧ denE g k σ H1 (fun y H2 => ∃ a kvs j, x = .ref a ∧ H2 a = some (.dct kvs) ∧ keyW y = some j ∧ Q ((valW kvs j).getD .non) H2) E) E
  | .get2 o k d => fun σ H Q E => denE g o σ H (fun x H1 => isDct x H1 ∧ denE g k σ H1 (fun y H2 => denE g d σ H2 (fun z H3 => ∃ a kvs j, x = .ref a ∧ H3 a = some (.dct kvs) ∧ keyW y = some j ∧ Q ((valW kvs j).getD z) H3) E) E) E
  | .setd o k d => fun σ H Q E => denE g o σ H (fun x H1 => isDct x H1 ∧ denE g k σ H1 (fun y H2 => denE g d σ H2 (fun z H3 => ∃ a kvs j, x = .ref a ∧ H3 a = some (.dct kvs) ∧ keyW y = some j ∧ kvs.length < sizeLine ∧
      (∀ v, valW kvs j = some v → Q v H3) ∧ (valW kvs j = none → Q z (updW H3 a (.dct (putKW kvs j z))))) E) E) E
  | .lcm elt i it t => compW i (denI g it) (denU g t) (denE g elt)
  | .dnew => fun _ H Q _ => ∀ p, H p = none → Q (.ref p) (updW H p (.dct []))
  | .dct ps => fun σ H Q E => ∀ p, H p = none → denP g ps σ (updW H p (.dct [])) (fun kvs H2 => H2 p = some (.dct []) ∧ kvs.length ≤ 15 ∧ Q (.ref p) (updW H2 p (.dct (kvs.foldl (fun acc kv => putKW acc kv.1 kv.2) [])))) E
  | .lrng a => fun σ H Q E => denE g a σ H (fun x H1 => ∃ n : Nat, x = .int n ∧ n ≤ 1000 ∧ newL (rngW 0 n 1) H1 Q) E
  | .inr neg lo hi a => tUnW (inrW neg lo hi) (denE g a)
  | .nset a => tUnW nsetW (denE g a)
  | .isiS a => tUnW (isiSW g) (denE g a)
def denA (g : Gm) : CEs → TAW
  | .nil => tNilW
  | .cons e r => tConsW (denE g e) (denA g r)
/-- the pairs of a display, keys first -/
def denP (g : Gm) : CPs → Sw → Hw → (List (Key × W) → Hw → Prop) → EW → Prop
  | .cons k v r => fun σ H Q E => denE g k σ H (fun x H1 => denE g v σ H1 (fun y H2 => denP g r σ H2 (fun ps H3 => ∃ j, keyW x = some j ∧ Q ((j, y) :: ps) H3) E) E) E
  | .nil => fun _ H Q _ => Q [] H
def denO (g : Gm) : CO → TOW
  | .no => fun _ H Q _ => Q none H
  | .so e => fun σ H Q E => denE g e σ H (fun x H1 => ∃ i, x = .int i ∧ Q (some i) H1) E
def denT (g : Gm) : CT → TTW
  | .ands a b => fun σ H Q E => denT g a σ H (fun c H1 => if c = true then denT g b σ H1 Q E else Q false H1) E
  | .ors a b => fun σ H Q E => denT g a σ H (fun c H1 => if c = true then Q true H1 else denT g b σ H1 Q E) E
  | .not a => fun σ H Q E => denT g a σ H (fun c H1 => Q (!c) H1) E
  | .tru e => fun σ H Q E => denE g e σ H (fun x H1 => ∃ b, x = .bl b ∧ Q b H1) E
def denI (g : Gm) : CI → TIW
  | .ex e => fun σ H Q E => denE g e σ H (fun x H1 => ∃ xs, seqA H1 x xs ∧ Q xs (fun H => seqA H x xs) H1) E
  | .r1 a => fun σ H Q E => denE g a σ H (fun x H1 => ∃ n : Int, x = .int n ∧ -(2 ^ 62) ≤ n ∧ n < 2 ^ 62 ∧ Q (rngW 0 n.toNat 1) (fun _ => True) H1) E
  | .r2 a b => fun σ H Q E => denE g a σ H (fun x H1 => denE g b σ H1 (fun y H2 => ∃ i j : Int, x = .int i ∧ y = .int j ∧ (-(2 ^ 62) ≤ i ∧ i < 2 ^ 62 ∧ -(2 ^ 62) ≤ j ∧ j < 2 ^ 62) ∧ Q (rngW i (j - i).toNat 1) (fun _ => True) H2) E) E
  | .r3 a b c => fun σ H Q E => denE g a σ H (fun x H1 => denE g b σ H1 (fun y H2 => denE g c σ H2 (fun z H3 => ∃ i j k n, x = .int i ∧ y = .int j ∧ z = .int k ∧ RgC i j k n ∧ Q (rngW i n k) (fun _ => True) H3) E) E) E
def denU (g : Gm) : CU → TTW
  | .no => fun _ H Q _ => Q true H
  | .so t => denT g t
end

structure EndW where
  nx : Sw → Hw → Prop
  rt : KW
  bk : Sw → Hw → Prop
  ct : Sw → Hw → Prop
  ex : Addr → Sw → Hw → Prop
abbrev TSW := EndW → Sw → Hw → Prop
def seqW (a b : TSW) : TSW := fun D σ H => a { D with nx := b D } σ H
def loopW (stay : Hw → Prop) (i : Nat) (b : TSW) (D : EndW) : List W → Sw → Hw → Prop
  | [], σ, H => stay H ∧ D.nx σ H
  | x :: r, σ, H => stay H ∧ b { D with nx := loopW stay i b D r, ct := loopW stay i b D r, bk := D.nx } (σ.set i (some x)) H
def whileW (t : TTW) (b : TSW) (D : EndW) : Nat → Sw → Hw → Prop
  | 0, _, _ => False
  | n + 1, σ, H => t σ H (fun c H1 => if c = true then b { D with nx := whileW t b D n, ct := whileW t b D n, bk := D.nx } σ H1 else D.nx σ H1) (fun C H1 => D.ex C σ H1)
def setAll : List Nat → List W → Sw → Sw
  | i :: is, w :: ws, σ => setAll is ws (σ.set i (some w))
  | _, _, σ => σ
/-- what a handler makes of an exception of the class C -/
def hdW (g : Gm) (C : Addr) (K : W → Prop) : Hd → Prop
  | .call f => ∃ x, g.wrd f C x ∧ K (.str x)
  | .sel cs c d => ∃ b k r, isxA g C cs b ∧ cs.length ≤ 100 ∧ g.isx C c k ∧ g.isx C d r ∧ K (.bl (if b = true then false else (k && r)))
mutual
def denS (g : Gm) : CS → TSW
  | .set i e => fun D σ H => denE g e σ H (fun x H1 => D.nx (σ.set i (some x)) H1) fun C H1 => D.ex C σ H1
  | .fset o f e => fun D σ H => denE g e σ H (fun y H1 => denE g o σ H1 (fun x H2 => ∃ a C fs, x = .ref a ∧ H2 a = some (.ins C fs) ∧ g.fld C f ∧ fs.length < 1000 ∧ D.nx σ (updW H2 a (.ins C (putFW f y fs)))) fun C H1 => D.ex C σ H1) fun C H1 => D.ex C σ H1
  | .iset o i e => fun D σ H => denE g e σ H (fun y H1 => denE g o σ H1 (fun x H2 => denE g i σ H2 (fun z H3 =>
      (∃ a kvs j, x = .ref a ∧ H3 a = some (.dct kvs) ∧ keyW z = some j ∧ kvs.length < sizeLine ∧ D.nx σ (updW H3 a (.dct (putKW kvs j y)))) ∨
      ∃ a xs j n, x = .ref a ∧ H3 a = some (.lst xs) ∧ z = .int j ∧ ixN xs.length j = some n ∧ D.nx σ (updW H3 a (.lst (xs.set n y)))) fun C H1 => D.ex C σ H1) fun C H1 => D.ex C σ H1) fun C H1 => D.ex C σ H1
  | .unp is e => fun D σ H => denE g e σ H (fun x H1 => ∃ ws, x = .tup ws ∧ ws.length = is.length ∧ D.nx (setAll is ws σ) H1) fun C H1 => D.ex C σ H1
  | .expr e => fun D σ H => denE g e σ H (fun _ H1 => D.nx σ H1) fun C H1 => D.ex C σ H1
  | .ret e => fun D σ H => denE g e σ H D.rt fun C H1 => D.ex C σ H1
  | .retN => fun D _ H => D.rt .non H
  | .ifs t a b => fun D σ H => denT g t σ H (fun c H1 => if c = true then denB g a D σ H1 else denB g b D σ H1) fun C H1 => D.ex C σ H1
  | .for_ i it b => fun D σ H => denI g it σ H (fun xs stay H1 => loopW stay i (denB g b) D xs σ H1) fun C H1 => D.ex C σ H1
  | .whl t b => fun D σ H => ∃ n, whileW (denT g t) (denB g b) D n σ H
  | .raise x => fun D σ H => ∃ C, g.exc x C ∧ D.ex C σ H
  | .try_ b x w => fun D σ H => (∃ C k, g.exm C x k) ∧ denB g b { D with ex := fun C σ1 H1 => ∃ k, g.exm C x k ∧ (k = true → D.rt w H1) ∧ (k = false → D.ex C σ1 H1) } σ H
  | .tryH b x h => fun D σ H => (∃ C k, g.exm C x k) ∧ denB g b { D with ex := fun C σ1 H1 => g.exm C x true ∧ hdW g C (fun w => D.rt w H1) h } σ H
  | .pass => fun D σ H => D.nx σ H
def denB (g : Gm) : List CS → TSW
  | [] => fun D σ H => D.nx σ H
  | s :: r => seqW (denS g s) (denB g r)
end
end WL

/-! ## Exceptions that are caught and looked at: isinstance of one, a def that is called with one -/
namespace WL
open PySem L2 L2H PyProof.Rows
/-- what is known of a caught exception: where it stands, its class -/
structure PinC (C : Addr) (p : Addr × Obj) : Prop where
  z : Zc (.ref C) none p.2
  d : ∃ vs, p.2.data = .fields vs
def rIsP (K : PySem.W.Frag) (a C : Addr) : List V → Hp → VK → Prop := fun xs H Q => ∃ (c : V) (cv : Value) (b : Bool), xs = [.ref a, c] ∧ ClsV c cv ∧ PySem.W.kitOne K (.ref C) cv = some b ∧ Q (.bl b) H
def rIsPT (K : PySem.W.Frag) (a C : Addr) : List V → Hp → VK → Prop := fun xs H Q => ∃ (tp : Addr) (cs : List V) (us : List Value) (b : Bool), xs = [.ref a, .ref tp] ∧ H tp = some (.tup cs) ∧ Paired ClsV cs us ∧ PySem.W.kitAny K (.ref C) us = some b ∧ Q (.bl b) H
section
variable {X : Cx} {p : Addr × Obj} {C : Addr}
theorem pin_inst {pins : List (Addr × Obj)} {σ : L2.St} {H : Hp} {s : Shared} (I : Inv X pins σ H s) (hp : p ∈ X.pn) (c : PinC C p) : PySem.W.InstAt s.heap p.1 p.2 C none := by
  obtain ⟨g, _⟩ := I.pin p (List.mem_append_left _ hp)
  obtain ⟨⟨h2, h3⟩, vs, h4⟩ := c
  obtain ⟨a, oc, od, oda, osl⟩ := p
  dsimp only at h2 h3 h4 g ⊢
  subst h2 h3 h4
  exact ⟨g, rfl, rfl, trivial⟩
theorem call_isP (hp : p ∈ X.pn) (c : PinC C p) (ec : ExcC X.K C) : CallR X (.builtin "isinstance") (rIsP X.K p.1 C) := fun pins s σ H xs us Q I r h => by
  obtain ⟨cl, cv, b, rfl, hc, hk, q⟩ := h
  obtain ⟨u1, u2, rfl, r1, r2⟩ := vals2 r
  cases (show u1 = Value.ref p.1 from r1)
  have e2 := hc.eq r2
  subst e2
  exact PySem.W.kia_one (PySem.W.handS_kitx_exc ec.hg ec.hk ec.hs ec.hd ec.ha ec.hn ec.ht ec.hm) I.kIn (pin_inst I hp c) hk (fun z => nomatch z) fun tk => ⟨.bl b, H, I.tok tk, rfl, q⟩
theorem call_isPT (hp : p ∈ X.pn) (c : PinC C p) (ec : ExcC X.K C) : CallR X (.builtin "isinstance") (rIsPT X.K p.1 C) := fun pins s σ H xs us Q I r h => by
  obtain ⟨tp, cs, ws, b, rfl, hT, hc, hk, q⟩ := h
  obtain ⟨u1, u2, rfl, r1, r2⟩ := vals2 r
  cases (show u1 = Value.ref p.1 from r1)
  cases (show u2 = Value.ref tp from r2)
  obtain ⟨_, its, rv, o, g1, g2, n, g3⟩ := (show ObjOk X.prog X.w H s.heap tp (.tup cs) from I.hok tp _ hT)
  have e3 := ClsV.all hc rv
  subst e3
  obtain ⟨oc, od, dt, sl⟩ := o
  simp only at g2 g3
  subst g2 g3
  exact PySem.W.kia_tup (PySem.W.handS_kitx_exc ec.hg ec.hk ec.hs ec.hd ec.ha ec.hn ec.ht ec.hm) I.kIn (pin_inst I hp c) g1 hk (fun z => nomatch z) fun tk => ⟨.bl b, H, I.tok tk, rfl, q⟩
end
/-- a def that is called with a caught exception of the class C, in the clause's suite: it gives the text R, and changes nothing that stood -/
structure FnX (P : Program) (w : World) (K : PySem.W.Frag) (mg : Str → Option Value) (base : Heap) (k : Nat) (f : Addr) (fd : FuncData) (ps : List Str) (C : Addr) (R : Str) : Prop where
  run : ∀ (A : Around) (outer : List Env) (s : Shared) (H : Hp) (args : Args) (Q : VK) (p : Addr × Obj), RoomH k A → PinOk outer H s p → PinC C p → Env0 P w K mg base A outer s H → BindsTo s fd args (ps.zip [.ref p.1]) → (∀ H1, Same H H1 → Q (.str R) H1) →
    codeAny (model P w) A (.call (.ref f) args) (CR L2.CX0 outer P w H s Q L2.E0) s
theorem fnx_of {P : Program} {w : World} {K : PySem.W.Frag} {mg : Str → Option Value} {base : Heap} {k : Nat} {x qual : Str} {params : Arguments} {body : List Stmt} {scope : Scope} {f C : Addr} {fd : FuncData} {N : List Str} {e R : Str} (F : FunD K x qual params body scope [] [] f fd) (S : FnScope N [e] scope)
    (hbody : ∀ (cdv : Value) (A : Around) (outer : List Env) (s : Shared) (H : Hp) (Q : VK) (p : Addr × Obj), PinC C p → RoomH k (A.deeper (envOfC qual scope s.heap.objs.size f cdv)) → (∀ H1, Same H H1 → Q (.str R) H1) →
      ∃ t, PSs (cxH L2.CX0 P w K mg base N qual scope f cdv A outer s H L2.E0 p) body t ∧ t { nx := fun _ _ => False, rt := Q } (L2.start N [.ref p.1]) H) : FnX P w K mg base (k + 1) f fd [e] C R := by
  obtain ⟨oc, od, d1, d2, d3, d4, d5, cdv, d6, osl, rfl, lk, hcd, _⟩ := F.ex
  refine ⟨fun A outer s H args Q p room pinned pc env0 binds goal => ?_⟩
  have inHeap : K.In s.heap := env0.mod.kin.keeps fun b o z => (env0.bs b o z).1
  have noLimit : s.heap.NoLimit := env0.mod.nolimit.keeps fun b o z => (env0.bs b o z).1
  have kinds : ∀ y ∈ [e].zip [Value.ref p.1], scope.names.lookup y.1 = some .local ∨
      (scope.names.lookup y.1 = some .cell ∧ ((cellsFrom (s.heap.objs.size + 1) scope.names []).lookup y.1).isSome = true) := fun y hy => by
    rcases S.par y.1 ((List.of_mem_zip hy).1) with q | q
    · exact Or.inl q
    · exact Or.inr ⟨q, PySem.W.cellsFrom_some _ _ _ (Or.inl q)⟩
  refine codeAny_call_function room.depth (inHeap _ _ lk) rfl S.co S.gen rfl (PySem.W.codeRec_of inHeap hcd) (binds _ _ _ _ ?_)
  refine wpAny_newFunctionEnv_cells S.kind kinds fun env he s1 made => ?_
  subst he
  refine ⟨noLimit.keeps made.toInCall.keep, codeAny_func ?_⟩
  obtain ⟨t, ht, hq⟩ := hbody cdv A outer s H Q p pc (room.deeper _) goal
  have J := inv_startH (CX := L2.CX0) (E := L2.E0) (vs := [V.ref p.1]) S pinned env0 rfl (.cons rfl .nil) made
  refine wpAny_mono (ht.run [] s1 (L2.start N [.ref p.1]) H _ J hq) (fun fl s' hs => ?_) (fun _ _ z => z)
  cases fl with
  | ret u =>
    obtain ⟨v, σ', H', J', rv, q⟩ := hs
    exact ⟨v, H', J'.os, J'.bare, J'.base, J'.hok, rv, q⟩
  | next => obtain ⟨_, _, _, z⟩ := hs; exact z.elim
  | brk => obtain ⟨_, _, _, z⟩ := hs; exact z.elim
  | cont => obtain ⟨_, _, _, z⟩ := hs; exact z.elim
end WL

/-! ## The rules over the value layer -/
namespace WL
open PySem L2

/-! ### what must be seen of the text -/
def notStar : Expr → Bool
  | .Starred _ _ => false
  | _ => true
theorem starEach_cons {e : Expr} {es : List Expr} {env : Env} (h : notStar e = true) : starEach (e :: es) env = (false, eval e env) :: starEach es env := by
  cases e <;> first | rfl | cases h
theorem stars_none {env : Env} : ∀ {es : List Expr}, es.all notStar = true → (starEach es env).any (·.1) = false
  | [], _ => rfl
  | e :: es, h => by
    rw [List.all_cons, Bool.and_eq_true] at h
    rw [starEach_cons h.1, List.any_cons, stars_none h.2]
    rfl
theorem backTo_any {pos : Pos} {env : Env} {es : List Expr} (h : es.all notStar = true) : (backTo pos (starEach es env)).any (·.1) = false := by
  have e := stars_none (env := env) h
  unfold backTo
  rw [List.any_map]
  exact e
theorem backTo_all {pos : Pos} {env : Env} {es : List Expr} (h : es.all notStar = true) : (backTo pos (starEach es env)).all (fun x => !x.1) = true := by
  have e := backTo_any (pos := pos) (env := env) h
  rw [List.all_eq_not_any_not]
  simp only [Bool.not_not]
  rw [e]
  rfl
def plainBase : Expr → Bool
  | .Call (.Name _ _) _ _ _ => false
  | _ => true
theorem base_of {o : Expr} {m : Str} {env : Env} {w : Sem Value} (h : plainBase o = true) : attributeBase o m env w = w := by
  cases o with
  | Call f args kws pos => cases f <;> first | rfl | cases h
  | _ => rfl
def plainTest : Expr → Bool
  | .UnaryOp _ _ _ => false
  | .BoolOp _ _ _ => false
  | .IfExp _ _ _ _ => false
  | .Compare _ _ _ _ => false
  | _ => true
theorem test_of {e : Expr} {env : Env} (h : plainTest e = true) (whole : Sem Value) : isTrue e env whole = (do let v ← whole; standAt e.pos; holding [v] (truthy v)) := by
  cases e <;> first | rfl | cases h
def notComp : Expr → Bool
  | .ListComp _ _ _ _ => false
  | .SetComp _ _ _ _ => false
  | .DictComp _ _ _ _ _ => false
  | _ => true
theorem swaps_of {e : Expr} {t : Option Expr} {l : Nat} {env : Env} (h : notComp e = true) : swapsWith e t l env = pure false := by
  cases e <;> first | rfl | cases h
def notSet : Expr → Bool
  | .Set _ _ _ => false
  | _ => true
theorem folded_of {e : Expr} {env : Env} (h : notSet e = true) (x : Value) : foldedSetIterable e env x = pure x := by
  cases e <;> first | rfl | cases h
def notSlice : Expr → Bool
  | .Slice _ _ _ _ => false
  | _ => true
theorem ix_of {e : Expr} (h : notSlice e = true) (o i : Value) : subscripted e false o i = operate [o, i] (getItem o i) := by
  cases e <;> first | rfl | cases h
theorem meth_eq {o : Expr} {m : Str} {apos pos : Pos} {args : List Expr} {env : Env} (hb : plainBase o = true) (ha : args.all notStar = true) (hn : args.length < 30) (hl : (apos.endLine == pos.line) = true) :
    eval (.Call (.Attribute o m apos) args [] pos) env = (do
      let ov ← eval o env
      standAt apos.atName
      let (f, first) ← holding [ov] (getMethod ov m (do return (← importBound o env).getD true))
      callWith pos f first (backTo pos (starEach args env)) (backToKw pos (keywordEach [] env))) := by
  rw [arm_eval_Call, base_of hb]
  have hf : methodCallForm (args.length + ([] : List Keyword).length) (backTo pos (starEach args env)) (backToKw pos (keywordEach [] env)) = true := by
    unfold methodCallForm
    rw [backTo_all ha]
    show (true && true && decide (args.length + 0 + 0 < 30)) = true
    simpa using hn
  unfold methodCall
  rw [hf]
  have hp : methodCallPos true o env apos pos = pure pos := by
    unfold methodCallPos
    have e : (!true || apos.endLine == pos.line) = true := by rw [hl]; rfl
    rw [if_pos e]
  rw [hp]
  rfl

/-! ### exceptions at the caller's slots: calls without arguments, methods, making -/
section
variable {X : Cx} {CX : CXT} {k : Nat} {f C : Addr} {fd : FuncData} {ps : List Str} {sp : Sp} {E : L2.St → XK} {x m : Str} {p pos apos : Pos} {e o : Expr} {es : List Expr} {ta : TE} {t : TA}
theorem pe_call0S (F : FnOk X.prog X.w X.K X.mg X.base CX k f fd ps sp) (hr : Room k X.A) (hg : Gl X x) (hm : X.mg x = some (.ref f)) (hk : PySem.W.keepIn X.K (.ref f) = true) (hb : Binds X.K fd ps []) (hx : ∀ σ, PassesAt CX X σ (E σ))
    (hdb : (x == ("__debug__" : Str)) = false) : PE X (.Call (.Name x p) [] [] pos) (tCallS sp E tNil) := by
  refine ⟨fun pins s σ H Q I h => ?_⟩
  refine wpAny_Call_Name_kw (ld_glob I hg hm ?_ hdb)
  exact PySem.W.callWith_K0 I.kIn hk (run_fnS (us := []) F hr hb (hx σ) I .nil h)
def tMethS (C : Addr) (m : Str) (sp : Sp) (E : L2.St → XK) (ta : TE) (t : TA) : TE := fun σ H Q => ta σ H fun x H1 => ∃ a dx fs, x = .ref a ∧ H1 a = some (.ins C dx fs) ∧ fs.lookup m = none ∧
  t σ H1 fun vs H2 => sp (x :: vs) H2 Q (E σ)
/-- the methods of several classes: which, is seen when the object is -/
def MthAt (X : Cx) (CX : CXT) (k : Nat) (C : Addr) (m : Str) (sp : Sp) : Prop := Cls X.K C ∧ ∃ f fd ps, Meth X.K C m f ∧ FnOk X.prog X.w X.K X.mg X.base CX k f fd ps sp ∧ Binds X.K fd ps []
theorem pe_methA (he : PE X o ta) (hr : Room k X.A) (hx : ∀ σ, PassesAt CX X σ (E σ)) (ha : PA X (e :: es) t) (hb : plainBase o = true) (hs : (e :: es).all notStar = true) (hn : (e :: es).length < 30) (hl : (apos.endLine == pos.line) = true) :
    PE X (.Call (.Attribute o m apos) (e :: es) [] pos) (fun σ H Q => ta σ H fun x H1 => ∃ a C dx fs sp, x = .ref a ∧ H1 a = some (.ins C dx fs) ∧ MthAt X CX k C m sp ∧ fs.lookup m = none ∧ t σ H1 fun vs H2 => sp (x :: vs) H2 Q (E σ)) := by
  refine ⟨fun pins s σ H Q I h => ?_⟩
  refine PySem.W.methodCall_KW (thn (he.run pins s σ H _ I h) fun u s1 ⟨x, H1, I1, rx, a, C, dx, fs, sp, ex, ea, ⟨c, f, fd, ps, hm, F, hbd⟩, l, q⟩ => ?_) (meth_eq hb hs hn hl)
  subst ex
  obtain rfl : u = Value.ref a := rx
  refine getmeth_ok I1 ea c hm l ?_
  rw [List.all_cons, Bool.and_eq_true] at hs
  refine PySem.W.callWith_K (first := [.ref a]) (h₀ := X.base) I1.ok.mod.kin hm.kp (thn (ha.run pos pins s1 σ H1 _ I1 q) fun us s2 ⟨vs, H2, I2, r, q2⟩ => ⟨I2.kIn, ?_⟩) (starEach_cons hs.1) (backTo_any hs.2)
  exact run_fnS (us := .ref a :: us) (vs := .ref a :: vs) F hr hbd (hx σ) I2 (.cons rfl r) q2
theorem pe_meth0A (he : PE X o ta) (hr : Room k X.A) (hx : ∀ σ, PassesAt CX X σ (E σ)) (hb : plainBase o = true) (hl : (apos.endLine == pos.line) = true) :
    PE X (.Call (.Attribute o m apos) [] [] pos) (fun σ H Q => ta σ H fun x H1 => ∃ a C dx fs sp, x = .ref a ∧ H1 a = some (.ins C dx fs) ∧ MthAt X CX k C m sp ∧ fs.lookup m = none ∧ sp [x] H1 Q (E σ)) := by
  refine ⟨fun pins s σ H Q I h => ?_⟩
  refine PySem.W.methodCall_KW (thn (he.run pins s σ H _ I h) fun u s1 ⟨x, H1, I1, rx, a, C, dx, fs, sp, ex, ea, ⟨c, f, fd, ps, hm, F, hbd⟩, l, q⟩ => ?_) (meth_eq hb rfl (by show 0 < 30; decide) hl)
  subst ex
  obtain rfl : u = Value.ref a := rx
  refine getmeth_ok I1 ea c hm l ?_
  exact PySem.W.callWith_K0 (first := [.ref a]) I1.kIn hm.kp (run_fnS (us := [.ref a]) (vs := [.ref a]) F hr hbd (hx σ) I1 (.cons rfl .nil) q)
theorem run_makeS {pins : List (Addr × Obj)} {σ : L2.St} {H : Hp} {s : Shared} {Q : VK} {us : List Value} {vs : List V} (M : Mk X.K C f) (F : FnOk X.prog X.w X.K X.mg X.base CX k f fd ps sp) (hr : Room (k + 1) X.A) (hb : Binds X.K fd ps [])
    (hx : PassesAt CX X σ (E σ)) (I : L2.Inv X pins σ H s) (r : Vals vs us)
    (h : ∀ x dx, H x = none → H dx = none → dx ≠ x → sp (.ref x :: vs) (upd (upd H dx (.own x)) x (.ins C dx [])) (fun v H2 => v = .non ∧ Q (.ref x) H2) (E σ)) :
    wpAny (model X.prog X.w) X.A (PySem.call (.ref C) us) (EP X pins σ Q) X.xe s := by
  have want := h (s.heap.objs.size + 1) s.heap.objs.size (I.hok.fresh (Nat.le_succ _)) (I.hok.fresh (Nat.le_refl _)) (Nat.ne_of_lt (Nat.lt_succ_self _))
  have J2 := L2.Inv.made (C := C) I
  have rr : Vals (V.ref (s.heap.objs.size + 1) :: vs) (Value.ref (s.heap.objs.size + 1) :: us) := .cons rfl r
  have hn : (Value.ref (s.heap.objs.size + 1) :: us).length = ps.length := by
    have e := rr.length
    rw [F.len _ _ _ _ want] at e
    exact e.symm
  have b := hb _ (Value.ref (s.heap.objs.size + 1) :: us) J2.kIn (by rw [List.append_nil]; exact hn)
  rw [List.append_nil] at b
  refine wpAny_call (make_map (f := f) I.kIn M.makes M.init (beq_iff_eq.mp M.fn) (codeAny_mono (F.run _ X.stack _ _ ⟨Value.ref (s.heap.objs.size + 1) :: us, []⟩ (Value.ref (s.heap.objs.size + 1) :: us) _ _ (E σ) (hr.make C us [])
    (J2.env0.make C us []) b rr want) fun r s' hz => ?_))
  cases r with
  | error e => exact hx pins _ _ e s' J2 hz
  | ok fl =>
    cases fl with
    | ret u =>
      obtain ⟨v, H', J3, rw1, ew, fin⟩ := J2.after hz
      subst ew
      exact ⟨rw1, ⟨V.ref (s.heap.objs.size + 1), H', J3, rfl, fin⟩⟩
    | next => exact hz.elim
    | brk => exact hz.elim
    | cont => exact hz.elim
def tMakeS (C : Addr) (sp : Sp) (E : L2.St → XK) (t : TA) : TE := fun σ H Q => t σ H fun vs H1 => ∀ x dx, H1 x = none → H1 dx = none → dx ≠ x →
  sp (.ref x :: vs) (upd (upd H1 dx (.own x)) x (.ins C dx [])) (fun v H2 => v = .non ∧ Q (.ref x) H2) (E σ)
theorem pe_makeS (M : Mk X.K C f) (F : FnOk X.prog X.w X.K X.mg X.base CX k f fd ps sp) (hr : Room (k + 1) X.A) (hg : Gl X x) (hm : X.mg x = some (.ref C)) (hb : Binds X.K fd ps []) (hx : ∀ σ, PassesAt CX X σ (E σ))
    (ha : PA X (e :: es) t) (hdb : (x == ("__debug__" : Str)) = false) (hs : (e :: es).all notStar = true) : PE X (.Call (.Name x p) (e :: es) [] pos) (tMakeS C sp E t) := by
  refine ⟨fun pins s σ H Q I h => ?_⟩
  rw [List.all_cons, Bool.and_eq_true] at hs
  refine wpAny_Call_Name_kw (ld_glob I hg hm ?_ hdb)
  refine PySem.W.callWith_K (h₀ := X.base) I.ok.mod.kin M.kp (thn (ha.run pos pins s σ H _ I h) fun us s1 ⟨vs, H1, I1, r, q⟩ => ⟨I1.kIn, ?_⟩) (starEach_cons hs.1) (backTo_any hs.2)
  exact run_makeS M F hr hb (hx σ) I1 r q
end

/-! ### the context -/
def lowSp (K : PySem.W.Frag) (sp : SpW) : Sp := fun vs H Q E => ∃ F ws H' Q' E', RelWs K F ws vs ∧ AbH K F H' H ∧ QR K F Q' Q ∧
  (∀ C H1', E' C H1' → ∀ F1 H1, Same F F1 → AbH K F1 H1' H1 → E (.ref C) none H1) ∧ sp ws H' Q' E'
/-- what is asked of a class, so that isinstance asks its instances rightly -/
structure IstC (K : PySem.W.Frag) (C : Addr) : Prop where
  cl : L2.Cls K C
  ha : PySem.W.findIn K (.ref C) "__class__" = some (some (.builtin "object.__class__"))
  hn : PySem.W.specialIn K (.builtin "object.__class__") "__get__" = some (some (.builtin "getset_descriptor.__get__"))
  ht : PySem.W.takesIn K (.builtin "object.__class__") = some true
  hm : PySem.W.mroIn K C (.type "object") = some true
  no : PySem.W.kitOne K (.ref C) (.type "str") = some false
structure Says (g : Gm) (k : Nat) (X : Cx) : Prop where
  fn : ∀ f sp, g.fn f sp → ∃ a fd ps, FnOk X.prog X.w X.K X.mg X.base (L2.CX X.prog X.w) k a fd ps (lowSp X.K sp) ∧ X.mg f = some (.ref a) ∧ PySem.W.keepIn X.K (.ref a) = true ∧ Binds X.K fd ps []
  mth : ∀ C m sp, g.mth C m sp → MthAt X (L2.CX X.prog X.w) k C m (lowSp X.K sp)
  made : ∀ x C sp, g.made x C sp → X.mg x = some (.ref C) ∧ ∃ a fd ps, Mk X.K C a ∧ FnOk X.prog X.w X.K X.mg X.base (L2.CX X.prog X.w) k a fd ps (lowSp X.K sp) ∧ Binds X.K fd ps []
  fld : ∀ C f, g.fld C f → Cls X.K C ∧ NoAttr X.K C f
  int : ∀ x i, g.int x i → ∃ t, X.mg x = some (.int i t)
  exc : ∀ x C, g.exc x C → X.mg x = some (.ref C) ∧ PySem.W.excIn X.K C He.veBase "ValueError.__new__" = true ∧ PySem.W.keepIn X.K (.ref C) = true ∧ PySem.W.subIn X.K (.ref C) (.type "BaseException") = some true ∧ PySem.W.typeIn X.K (.ref C) = some (.type "type")
  exm : ∀ C x b, g.exm C x b → ∃ c, X.mg x = some (.ref c) ∧ PySem.W.exmOne X.K (.ref C) (.ref c) = some b
  isx : ∀ C x b, g.isx C x b → L2.ExcC X.K C ∧ ((∃ c, X.mg x = some (.ref c) ∧ PySem.W.kitOne X.K (.ref C) (.ref c) = some b) ∨ (x = "ValueError" ∧ X.mg x = none ∧ PySem.W.kitOne X.K (.ref C) (.type "ValueError") = some b))
  wrd : ∀ f C R, g.wrd f C R → ∃ a fd e, FnX X.prog X.w X.K X.mg X.base k a fd [e] C R ∧ X.mg f = some (.ref a) ∧ PySem.W.keepIn X.K (.ref a) = true ∧ Binds X.K fd [e] []
  ist : ∀ C, g.ist C → IstC X.K C
/-- the names of built-ins are free -/
def Free (X : Cx) : Prop := ∀ x : Str, x = "len" ∨ x = "list" ∨ x = "tuple" ∨ x = "sorted" ∨ x = "max" ∨ x = "min" ∨ x = "int" ∨ x = "bool" ∨ x = "str" ∨ x = "isinstance" ∨ x = "range" ∨ x = "set" → X.mg x = none
structure Ctx (g : Gm) (k : Nat) (X : Cx) (Wx : WX) : Prop where
  says : Says g k X
  free : Free X
  room : Room (k + 1) X.A
  calm : X.calm = true
  nd : X.N.Nodup
  takes : Takes X Wx
theorem Ctx.hu {g : Gm} {k : Nat} {X : Cx} {Wx : WX} (c : Ctx g k X Wx) : X.A.units + 1 < cLine := hu_of c.room
theorem Ctx.hu65 {g : Gm} {k : Nat} {X : Cx} {Wx : WX} (c : Ctx g k X Wx) : X.A.units + 65 < cLine := by have := c.room.un; omega
/-- the scope that a text is read by, and the frame's -/
structure Sc (sc : Scope) (X : Cx) : Prop where
  loc : ∀ x, sc.names.lookup x = some .local → X.env.scope.names.lookup x = some .local
  cell : ∀ x, sc.names.lookup x = some .cell → X.env.scope.names.lookup x = some .cell
  free : ∀ x, sc.names.lookup x = some .free → X.env.scope.names.lookup x = some .cell ∨ X.env.scope.names.lookup x = some .free
  glob : ∀ x, sc.names.lookup x = some .globalImplicit → X.env.scope.names.lookup x = some .globalImplicit
theorem Sc.gl {sc : Scope} {X : Cx} (h : Sc sc X) {x : Str} (e : sc.names.lookup x = some .globalImplicit) : Gl X x := h.glob x e
end WL

/-! ## The rules, lowered: expressions -/
namespace WL
open PySem L2

theorem RelKs.look {K : PySem.W.Frag} {F : Hp} : ∀ {fs : List (Str × W)} {vs : List (Str × V)} (f : Str), RelKs K F fs vs → (∀ w, fs.lookup f = some w → ∃ v, vs.lookup f = some v ∧ RelW K F w v) ∧ (fs.lookup f = none → vs.lookup f = none)
  | [], _, f, h => by
    rw [show _ = [] from h]
    exact ⟨fun w e => (by cases e), fun _ => rfl⟩
  | x :: xs, _, f, ⟨v, r, e, h, t⟩ => by
    rw [e, List.lookup_cons, List.lookup_cons]
    cases q : (f == x.1) with
    | true => exact ⟨fun w z => ⟨v, rfl, by rw [← Option.some.inj z]; exact h⟩, fun z => by cases z⟩
    | false => exact RelKs.look f t
theorem RelKs.putF {K : PySem.W.Frag} {F : Hp} {f : Str} {w : W} {u : V} (ru : RelW K F w u) : ∀ {fs : List (Str × W)} {vs : List (Str × V)}, RelKs K F fs vs → RelKs K F (putFW f w fs) (L2.putF f u vs)
  | [], _, h => by
    rw [show _ = [] from h]
    exact ⟨u, [], rfl, ru, rfl⟩
  | x :: xs, _, ⟨v, r, e, h, t⟩ => by
    rw [e]
    show RelKs K F (if x.1 = f then (x.1, w) :: xs else x :: putFW f w xs) (if x.1 = f then (x.1, u) :: r else (x.1, v) :: L2.putF f u r)
    split
    · exact ⟨u, r, rfl, ru, t⟩
    · exact ⟨v, _, rfl, h, RelKs.putF ru t⟩

section
variable {g : Gm} {k : Nat} {X : Cx} {Wx : WX} {σ : L2.St} {H : Hp} {Q : VK}
abbrev ERc (C : Ctx g k X Wx) : L2.St → XK := WE Wx
theorem Ctx.pass (C : Ctx g k X Wx) (σ : L2.St) : PassesAt (L2.CX X.prog X.w) X σ (WE Wx σ) := passAt C.takes σ

theorem w_var {x : Str} {i : Nat} {pos : Pos} (hN : X.N[i]? = some x) (hv : Vis X.env.scope x) (hd : (x == ("__debug__" : Str)) = false) (hcd : (x == ("__classdict__" : Str)) = false) : PE X (.Name x pos) (lowE X.K Wx (denE g (.var i))) :=
  PE.imp (pe_var hN hv hd hcd) fun σ H Q ⟨F, σ', H', Q', E', rs, ab, qr, er, w, hw, q⟩ =>
    let ⟨u, hu, ru⟩ := rs.get hw
    ⟨u, hu, qr.at ab ru q⟩
theorem w_lit {w : W} {v : V} {e : Expr} (h : PE X e (tC v)) (r : ∀ F, RelW X.K F w v) : PE X e (lowE X.K Wx (denE g (.lit w))) :=
  PE.imp h fun σ H Q ⟨F, σ', H', Q', E', rs, ab, qr, er, q⟩ => qr.at ab (r F) q
theorem w_gint {x : Str} {pos : Pos} (S : Says g k X) (hg : Gl X x) (hd : (x == ("__debug__" : Str)) = false) : PE X (.Name x pos) (lowE X.K Wx (denE g (.gint x))) :=
  PE.imp (t := fun σ H Q => ∃ i, g.int x i ∧ tC (.int i) σ H Q) (PE.ex fun i => PE.all fun h => by
    obtain ⟨t, e⟩ := S.int x i h
    exact pe_glob hg e ⟨t, rfl⟩ hd) fun σ H Q ⟨F, σ', H', Q', E', rs, ab, qr, er, i, h, q⟩ => ⟨i, h, qr.int ab q⟩
theorem w_lst {es : List Expr} {pos : Pos} {a : TAW} (h : PA X es (lowA X.K Wx a)) : PE X (.List es pos) (lowE X.K Wx fun σ H Q E => a σ H (fun ws H1 => ws.length ≤ sizeLine ∧ newL ws H1 Q) E) :=
  PE.imp (pe_lst h) fun σ H Q ⟨F, σ', H', Q', E', rs, ab, qr, er, q⟩ =>
    ⟨F, σ', H', _, E', rs, ab, fun ws H1' hx F1 vs H1 s1 r ab1 => ⟨by rw [← r.length]; exact hx.1, newL_low ab1 (qr.mono s1) r hx.2⟩, er, q⟩
theorem w_tup {es : List Expr} {n : Nat} {pos : Pos} {a : TAW} (h : PA X es (lowA X.K Wx a)) : PE X (.Tuple es n pos) (lowE X.K Wx fun σ H Q E => a σ H (fun ws H1 => ws.length ≤ sizeLine ∧ Q (.tup ws) H1) E) :=
  PE.imp (pe_tup h) fun σ H Q ⟨F, σ', H', Q', E', rs, ab, qr, er, q⟩ =>
    ⟨F, σ', H', _, E', rs, ab, fun ws H1' hx F1 vs H1 s1 r ab1 => ⟨by rw [← r.length]; exact hx.1, newT_low ab1 (qr.mono s1) r hx.2⟩, er, q⟩
theorem w_bin {a b : Expr} {op : Operator} {pos : Pos} {ta tb : TEW} (ha : PE X a (lowE X.K Wx ta)) (hb : PE X b (lowE X.K Wx tb)) : PE X (.BinOp a op b pos) (lowE X.K Wx (tOpW (binW op) ta tb)) :=
  PE.imp (pe_op (binV_ok op) ha hb) fun σ H Q h => low_op (binW_low op) h
theorem w_neg {a : Expr} {pos : Pos} {ta : TEW} (ha : PE X a (lowE X.K Wx ta)) : PE X (.UnaryOp .USub a pos) (lowE X.K Wx (tUnW (fun x H Q => match x with
    | .int i => Q (.int (-i)) H
    | _ => False) ta)) :=
  PE.imp (pe_un un_neg ha) fun σ H Q h => low_un (fun F w v H' H Q' Q r A q h => by
    cases w with
    | int i => exact ⟨i, r, q.int A h⟩
    | _ => exact (show False from h).elim) h
/-- the keys of a dict -/
theorem din_low {F : Hp} {x y : W} {v v' : V} {H' : Hw} {P : Bool → Prop} (rx : RelW X.K F x v) (ry : RelW X.K F y v') (A : AbH X.K F H' H) (h : ∃ a kvs k, y = .ref a ∧ H' a = some (.dct kvs) ∧ keyW x = some k ∧ P (valW kvs k).isSome) :
    ∃ a o, v' = .ref a ∧ DGet H a v o ∧ P o.isSome := by
  obtain ⟨a, kvs, j, rfl, h1, h2, h3⟩ := h
  obtain ⟨o, d, p1, p2⟩ := dget_low rx A h1 h2
  refine ⟨a, o, ry, d, ?_⟩
  cases e : valW kvs j with
  | none => rw [e] at h3; rw [p2 e]; exact h3
  | some w =>
    obtain ⟨u, eu, _⟩ := p1 w e
    rw [e] at h3
    rw [eu]
    exact h3
theorem inW_split {x y : W} {H' : Hw} {P : Bool → Prop} (h : inW x y H' P) : inW0 x y H' P ∨ ∃ a kvs k, y = .ref a ∧ H' a = some (.dct kvs) ∧ keyW x = some k ∧ P (valW kvs k).isSome := by
  rcases h with h | h | h
  · exact .inl (.inl h)
  · exact .inl (.inr h)
  · exact .inr h
/-- a comparison: the low reading of its two ways -/
def rCmpV (K : PySem.W.Frag) (op : CmpOp) (ta tb : TE) : TE := fun σ H Q => ta σ H fun x H1 => tb σ H1 fun y H2 => cmpV K op x y H2 Q ∨
  (op = .In ∧ ∃ a o, y = .ref a ∧ DGet H2 a x o ∧ Q (.bl o.isSome) H2) ∨ (op = .NotIn ∧ ∃ a o, y = .ref a ∧ DGet H2 a x o ∧ Q (.bl (!o.isSome)) H2)
theorem cmp_ok {op : CmpOp} {a b : Expr} {pos : Pos} {ta tb : TE} (hu : X.A.units + 65 < cLine) (ha : PE X a ta) (hb : PE X b tb) (hm : behindInMarks op b = false) : PE X (.Compare a [op] [b] pos) (rCmpV X.K op ta tb) := by
  refine ⟨fun pins s σ H Q I h => wpAny_Compare1 (binT ha hb I h fun v u s2 x y H2 I2 rx ry q => ?_) hm⟩
  rcases q with q | ⟨rfl, d, o, rfl, g, q⟩ | ⟨rfl, d, o, rfl, g, q⟩
  · exact cmpV_ok hu op pins s2 σ H2 x y v u Q I2 rx ry q
  · obtain rfl : u = Value.ref d := ry
    exact d_in (by omega) I2 g rx fun s3 I3 => ⟨.bl o.isSome, H2, I3, rfl, q⟩
  · obtain rfl : u = Value.ref d := ry
    exact d_notIn (by omega) I2 g rx fun s3 I3 => ⟨.bl (!o.isSome), H2, I3, rfl, q⟩
theorem cmp_okT {op : CmpOp} {a b : Expr} {pos : Pos} {ta tb : TE} (hu : X.A.units + 65 < cLine) (ha : PE X a ta) (hb : PE X b tb) (hm : behindInMarks op b = false) : PT X (.Compare a [op] [b] pos) (tTest (rCmpV X.K op ta tb)) := by
  refine ⟨fun pins s σ H Q I h => wpAny_isTrue_Compare1 (thn (ha.run pins s σ H _ I h) fun v s1 ⟨x, H1, I1, r1, q1⟩ => thn (hb.run pins s1 σ H1 _ I1 q1) fun u s2 ⟨y, H2, I2, r2, q2⟩ => ?_) hm⟩
  have fin : ∀ c s3, EP X pins σ (fun x H' => ∃ k, x = .bl k ∧ Q k H') c s3 → wpAny (model X.prog X.w) X.A (truthy c) (TP X pins σ Q) X.xe s3 := fun c s3 ⟨z, H3, I3, r3, k, e, q3⟩ => by
    subst e
    cases r3
    exact wpAny_truthy_bool ⟨H3, I3, q3⟩
  rcases q2 with q | ⟨rfl, d, o, rfl, g, q⟩ | ⟨rfl, d, o, rfl, g, q⟩
  · exact thn (cmpV_ok hu op pins s2 σ H2 x y v u _ I2 r1 r2 q) fin
  · obtain rfl : u = Value.ref d := r2
    exact d_in (by omega) I2 g r1 fun s3 I3 => fin _ _ ⟨.bl o.isSome, H2, I3, rfl, q⟩
  · obtain rfl : u = Value.ref d := r2
    exact d_notIn (by omega) I2 g r1 fun s3 I3 => fin _ _ ⟨.bl (!o.isSome), H2, I3, rfl, q⟩
theorem cmpW_split {op : CmpOp} {F : Hp} {x y : W} {v v' : V} {H' : Hw} {Q' : KW} (rx : RelW X.K F x v) (ry : RelW X.K F y v') (A : AbH X.K F H' H) (q : QR X.K F Q' Q) (h : cmpW op x y H' Q') :
    cmpV X.K op v v' H Q ∨ (op = .In ∧ ∃ a o, v' = .ref a ∧ DGet H a v o ∧ Q (.bl o.isSome) H) ∨ (op = .NotIn ∧ ∃ a o, v' = .ref a ∧ DGet H a v o ∧ Q (.bl (!o.isSome)) H) := by
  cases op with
  | In =>
    rcases inW_split (show inW x y H' fun b => Q' (.bl b) H' from h) with h | h
    · exact .inl (cmpW_low .In F x y v v' H' H Q' Q rx ry A q h)
    · obtain ⟨a, o, e, d, p⟩ := din_low (P := fun b => Q' (.bl b) H') rx ry A h
      exact .inr (.inl ⟨rfl, a, o, e, d, q.bl A p⟩)
  | NotIn =>
    rcases inW_split (show inW x y H' fun b => Q' (.bl (!b)) H' from h) with h | h
    · exact .inl (cmpW_low .NotIn F x y v v' H' H Q' Q rx ry A q h)
    · obtain ⟨a, o, e, d, p⟩ := din_low (P := fun b => Q' (.bl (!b)) H') rx ry A h
      exact .inr (.inr ⟨rfl, a, o, e, d, q.bl A p⟩)
  | Eq => exact .inl (cmpW_low .Eq F x y v v' H' H Q' Q rx ry A q h)
  | NotEq => exact .inl (cmpW_low .NotEq F x y v v' H' H Q' Q rx ry A q h)
  | Lt => exact .inl (cmpW_low .Lt F x y v v' H' H Q' Q rx ry A q h)
  | LtE => exact .inl (cmpW_low .LtE F x y v v' H' H Q' Q rx ry A q h)
  | Gt => exact .inl (cmpW_low .Gt F x y v v' H' H Q' Q rx ry A q h)
  | GtE => exact .inl (cmpW_low .GtE F x y v v' H' H Q' Q rx ry A q h)
  | Is => exact .inl (cmpW_low .Is F x y v v' H' H Q' Q rx ry A q h)
  | IsNot => exact .inl (cmpW_low .IsNot F x y v v' H' H Q' Q rx ry A q h)
theorem low_cmp {op : CmpOp} {ta tb : TEW} (h : lowE X.K Wx (tOpW (cmpW op) ta tb) σ H Q) : rCmpV X.K op (lowE X.K Wx ta) (lowE X.K Wx tb) σ H Q := by
  obtain ⟨F, σ', H', Q', E', rs, ab, qr, er, h⟩ := h
  refine ⟨F, σ', H', _, E', rs, ab, fun x H1' hx F1 v H1 s1 rx ab1 => ?_, er, h⟩
  refine ⟨F1, σ', H1', _, E', rs.mono s1, ab1, fun y H2' hy F2 v' H2 s2 ry ab2 => ?_, er.mono s1, hx⟩
  exact cmpW_split (RelW.mono s2 x rx) ry ab2 (qr.mono (s1.trans s2)) hy
theorem w_cmp (C : Ctx g k X Wx) {op : CmpOp} {a b : Expr} {pos : Pos} {ta tb : TEW} (ha : PE X a (lowE X.K Wx ta)) (hb : PE X b (lowE X.K Wx tb)) (hm : behindInMarks op b = false) : PE X (.Compare a [op] [b] pos) (lowE X.K Wx (tOpW (cmpW op) ta tb)) :=
  PE.imp (cmp_ok C.hu65 ha hb hm) fun σ H Q h => low_cmp h
/-- a value that is True or False, as a test -/
def truT (t : TEW) : TTW := fun σ H Q E => t σ H (fun x H1 => ∃ b, x = .bl b ∧ Q b H1) E
theorem low_tru {t : TEW} {Q : Bool → Hp → Prop} (h : lowT X.K Wx (truT t) σ H Q) : tTest (lowE X.K Wx t) σ H Q := by
  obtain ⟨F, σ', H', Q', E', rs, ab, qr, er, h⟩ := h
  refine ⟨F, σ', H', _, E', rs, ab, fun x H1' hx F1 v H1 s1 rx ab1 => ?_, er, h⟩
  obtain ⟨b, rfl, hq⟩ := hx
  exact ⟨b, rx, qr b H1' hq F1 H1 s1 ab1⟩
theorem w_cmpT (C : Ctx g k X Wx) {op : CmpOp} {a b : Expr} {pos : Pos} {ta tb : TEW} (ha : PE X a (lowE X.K Wx ta)) (hb : PE X b (lowE X.K Wx tb)) (hm : behindInMarks op b = false) : PT X (.Compare a [op] [b] pos) (lowT X.K Wx (truT (tOpW (cmpW op) ta tb))) :=
  PT.imp (cmp_okT C.hu65 ha hb hm) fun σ H Q h => by
    have q := low_tru h
    exact low_cmp q
theorem w_truT {e : Expr} {t : TEW} (h : PE X e (lowE X.K Wx t)) (hp : plainTest e = true) : PT X e (lowT X.K Wx (truT t)) :=
  PT.imp (pt_val h fun whole => test_of hp whole) fun σ H Q h => low_tru h
def chnW (o1 o2 : CmpOp) (ta tb tc : TEW) : TEW := fun σ H Q E => ta σ H (fun x H1 => tb σ H1 (fun y H2 => cmpW0 o1 x y H2 fun z H3 => ∃ k, z = .bl k ∧ (if k = true then tc σ H3 (fun w H4 => cmpW0 o2 y w H4 Q) E else Q (.bl false) H3)) E) E
theorem low_chn {o1 o2 : CmpOp} {ta tb tc : TEW} (h : lowE X.K Wx (chnW o1 o2 ta tb tc) σ H Q) : tChain (cmpV X.K o1) (cmpV X.K o2) (lowE X.K Wx ta) (lowE X.K Wx tb) (lowE X.K Wx tc) σ H Q := by
  obtain ⟨F, σ', H', Q', E', rs, ab, qr, er, h⟩ := h
  refine ⟨F, σ', H', _, E', rs, ab, fun x H1' hx F1 v H1 s1 rx ab1 => ?_, er, h⟩
  refine ⟨F1, σ', H1', _, E', rs.mono s1, ab1, fun y H2' hy F2 v' H2 s2 ry ab2 => ?_, er.mono s1, hx⟩
  refine cmpW_low o1 F2 x y v v' H2' H2 _ _ (RelW.mono s2 x rx) ry ab2 (fun z H3' hz F3 u H3 s3 rz ab3 => ?_) hy
  obtain ⟨c, rfl, hc⟩ := hz
  refine ⟨c, rz, ?_⟩
  cases c with
  | true =>
    rw [if_pos rfl] at hc ⊢
    refine ⟨F3, σ', H3', _, E', rs.mono ((s1.trans s2).trans s3), ab3, fun w H4' hw F4 u' H4 s4 rw' ab4 => ?_, er.mono ((s1.trans s2).trans s3), hc⟩
    exact cmpW_low o2 F4 y w v' u' H4' H4 Q' Q (RelW.mono (s3.trans s4) y ry) rw' ab4 (qr.mono (((s1.trans s2).trans s3).trans s4)) hw
  | false =>
    rw [if_neg Bool.false_ne_true] at hc ⊢
    exact (qr.mono ((s1.trans s2).trans s3)).bl ab3 hc
theorem w_chn (C : Ctx g k X Wx) {o1 o2 : CmpOp} {a b c : Expr} {pos : Pos} {ta tb tc : TEW} (ha : PE X a (lowE X.K Wx ta)) (hb : PE X b (lowE X.K Wx tb)) (hc : PE X c (lowE X.K Wx tc)) (hm : lastMarks [o1, o2] [b, c] = false) :
    PE X (.Compare a [o1, o2] [b, c] pos) (lowE X.K Wx (chnW o1 o2 ta tb tc)) := PE.imp (pe_chain (cmpV_ok C.hu65 o1) (cmpV_ok C.hu65 o2) ha hb hc hm) fun σ H Q h => low_chn h
theorem w_chnT (C : Ctx g k X Wx) {o1 o2 : CmpOp} {a b c : Expr} {pos : Pos} {ta tb tc : TEW} (ha : PE X a (lowE X.K Wx ta)) (hb : PE X b (lowE X.K Wx tb)) (hc : PE X c (lowE X.K Wx tc)) (hm : lastMarks [o1, o2] [b, c] = false) :
    PT X (.Compare a [o1, o2] [b, c] pos) (lowT X.K Wx (truT (chnW o1 o2 ta tb tc))) := PT.imp (pt_chain (cmpV_ok C.hu65 o1) (cmpV_ok C.hu65 o2) ha hb hc hm) fun σ H Q h => low_chn (low_tru h)
/-! values by and, or, not -/
theorem w_and {a b : Expr} {r : List Expr} {pos : Pos} {ta tb : TEW} (ha : PE X a (lowE X.K Wx ta)) (hb : PE X (.BoolOp .And (b :: r) pos) (lowE X.K Wx tb)) :
    PE X (.BoolOp .And (a :: b :: r) pos) (lowE X.K Wx fun σ H Q E => ta σ H (fun x H1 => ∃ c, x = .bl c ∧ if c = true then tb σ H1 Q E else Q (.bl false) H1) E) :=
  PE.imp (pe_and ha hb) fun σ H Q ⟨F, σ', H', Q', E', rs, ab, qr, er, h⟩ => ⟨F, σ', H', _, E', rs, ab, fun x H1' hx F1 v H1 s1 rx ab1 => by
    obtain ⟨c, rfl, hc⟩ := hx
    refine ⟨c, rx, ?_⟩
    cases c with
    | true =>
      rw [if_pos rfl] at hc ⊢
      exact ⟨F1, σ', H1', Q', E', rs.mono s1, ab1, qr.mono s1, er.mono s1, hc⟩
    | false =>
      rw [if_neg Bool.false_ne_true] at hc ⊢
      exact (qr.mono s1).bl ab1 hc, er, h⟩
theorem w_or {a b : Expr} {r : List Expr} {pos : Pos} {ta tb : TEW} (ha : PE X a (lowE X.K Wx ta)) (hb : PE X (.BoolOp .Or (b :: r) pos) (lowE X.K Wx tb)) :
    PE X (.BoolOp .Or (a :: b :: r) pos) (lowE X.K Wx fun σ H Q E => ta σ H (fun x H1 => ∃ c, x = .bl c ∧ if c = true then Q (.bl true) H1 else tb σ H1 Q E) E) :=
  PE.imp (pe_or ha hb) fun σ H Q ⟨F, σ', H', Q', E', rs, ab, qr, er, h⟩ => ⟨F, σ', H', _, E', rs, ab, fun x H1' hx F1 v H1 s1 rx ab1 => by
    obtain ⟨c, rfl, hc⟩ := hx
    refine ⟨c, rx, ?_⟩
    cases c with
    | true =>
      rw [if_pos rfl] at hc ⊢
      exact (qr.mono s1).bl ab1 hc
    | false =>
      rw [if_neg Bool.false_ne_true] at hc ⊢
      exact ⟨F1, σ', H1', Q', E', rs.mono s1, ab1, qr.mono s1, er.mono s1, hc⟩, er, h⟩
theorem w_not {a : Expr} {pos : Pos} {ta : TEW} (ha : PE X a (lowE X.K Wx ta)) : PE X (.UnaryOp .Not a pos) (lowE X.K Wx fun σ H Q E => ta σ H (fun x H1 => ∃ c, x = .bl c ∧ Q (.bl (!c)) H1) E) :=
  PE.imp (pe_not ha) fun σ H Q ⟨F, σ', H', Q', E', rs, ab, qr, er, h⟩ => ⟨F, σ', H', _, E', rs, ab, fun x H1' hx F1 v H1 s1 rx ab1 => by
    obtain ⟨c, rfl, hc⟩ := hx
    exact ⟨c, rx, (qr.mono s1).bl ab1 hc⟩, er, h⟩
theorem w_ife {t a b : Expr} {pos : Pos} {tt : TTW} {ta tb : TEW} (ht : PT X t (lowT X.K Wx tt)) (ha : PE X a (lowE X.K Wx ta)) (hb : PE X b (lowE X.K Wx tb)) :
    PE X (.IfExp t a b pos) (lowE X.K Wx fun σ H Q E => tt σ H (fun c H1 => if c = true then ta σ H1 Q E else tb σ H1 Q E) E) :=
  PE.imp (pe_ifExp ht ha hb) fun σ H Q ⟨F, σ', H', Q', E', rs, ab, qr, er, h⟩ => ⟨F, σ', H', _, E', rs, ab, fun c H1' hc F1 H1 s1 ab1 => by
    cases c with
    | true =>
      rw [if_pos rfl] at hc ⊢
      exact ⟨F1, σ', H1', Q', E', rs.mono s1, ab1, qr.mono s1, er.mono s1, hc⟩
    | false =>
      rw [if_neg Bool.false_ne_true] at hc ⊢
      exact ⟨F1, σ', H1', Q', E', rs.mono s1, ab1, qr.mono s1, er.mono s1, hc⟩, er, h⟩
/-! tests -/
theorem w_andT {a b : Expr} {r : List Expr} {pos : Pos} {ta tb : TTW} (ha : PT X a (lowT X.K Wx ta)) (hb : PW X (.BoolOp .And (b :: r) pos) (lowT X.K Wx tb)) :
    PW X (.BoolOp .And (a :: b :: r) pos) (lowT X.K Wx fun σ H Q E => ta σ H (fun c H1 => if c = true then tb σ H1 Q E else Q false H1) E) :=
  PW.imp (pw_and ha hb) fun σ H Q ⟨F, σ', H', Q', E', rs, ab, qr, er, h⟩ => ⟨F, σ', H', _, E', rs, ab, fun c H1' hc F1 H1 s1 ab1 => by
    cases c with
    | true =>
      rw [if_pos rfl] at hc ⊢
      exact ⟨F1, σ', H1', Q', E', rs.mono s1, ab1, qr.mono s1, er.mono s1, hc⟩
    | false =>
      rw [if_neg Bool.false_ne_true] at hc ⊢
      exact qr false H1' hc F1 H1 s1 ab1, er, h⟩
theorem w_orT {a b : Expr} {r : List Expr} {pos : Pos} {ta tb : TTW} (ha : PT X a (lowT X.K Wx ta)) (hb : PW X (.BoolOp .Or (b :: r) pos) (lowT X.K Wx tb)) :
    PW X (.BoolOp .Or (a :: b :: r) pos) (lowT X.K Wx fun σ H Q E => ta σ H (fun c H1 => if c = true then Q true H1 else tb σ H1 Q E) E) :=
  PW.imp (pw_or ha hb) fun σ H Q ⟨F, σ', H', Q', E', rs, ab, qr, er, h⟩ => ⟨F, σ', H', _, E', rs, ab, fun c H1' hc F1 H1 s1 ab1 => by
    cases c with
    | true =>
      rw [if_pos rfl] at hc ⊢
      exact qr true H1' hc F1 H1 s1 ab1
    | false =>
      rw [if_neg Bool.false_ne_true] at hc ⊢
      exact ⟨F1, σ', H1', Q', E', rs.mono s1, ab1, qr.mono s1, er.mono s1, hc⟩, er, h⟩
theorem w_notT {a : Expr} {pos : Pos} {ta : TTW} (ha : PT X a (lowT X.K Wx ta)) : PT X (.UnaryOp .Not a pos) (lowT X.K Wx fun σ H Q E => ta σ H (fun c H1 => Q (!c) H1) E) :=
  PT.imp (pt_not ha) fun σ H Q ⟨F, σ', H', Q', E', rs, ab, qr, er, h⟩ => ⟨F, σ', H', _, E', rs, ab, fun c H1' hc F1 H1 s1 ab1 => qr (!c) H1' hc F1 H1 s1 ab1, er, h⟩
/-! fields, items, slices -/
theorem w_fld {e : Expr} {f : Str} {pos : Pos} {te : TEW} (S : Says g k X) (he : PE X e (lowE X.K Wx te)) (hb : plainBase e = true) : PE X (.Attribute e f pos) (lowE X.K Wx (tUnW (fldW g f) te)) :=
  PE.imp (pe_fld he (base_of hb)) fun σ H Q h => low_un (rV := fun x H1 Q => ∃ a C dx fs v, x = .ref a ∧ H1 a = some (.ins C dx fs) ∧ Cls X.K C ∧ NoAttr X.K C f ∧ fs.lookup f = some v ∧ Q v H1) (fun F w v H' H Q' Q r A q h => by
    cases w with
    | ref a =>
      obtain ⟨C, fs, w, h1, h2, h3, h4⟩ := h
      obtain ⟨dx, vs, e, rk⟩ := A.inst h1
      obtain ⟨u, eu, ru⟩ := (rk.look f).1 w h3
      obtain ⟨c1, c2⟩ := S.fld C f h2
      exact ⟨a, C, dx, vs, u, r, e, c1, c2, eu, q.at A ru h4⟩
    | _ => exact (show False from h).elim) h
theorem ix_dict (hu : X.A.units + 1 < cLine) : IxR X (fun x y H Q => ∃ a v, x = .ref a ∧ DGet H a y (some v) ∧ Q v H) := by
  intro value slice pins s σ H x y v u Q I rx ry q hs
  obtain ⟨a, w, ex, dg, q⟩ := q
  subst ex
  obtain rfl : v = Value.ref a := rx
  exact PyProof.Rows.tail_any (dict_typeIs I dg) PySem.F.slot_dict_getitem.lookup (d_getItem hu I dg ry fun w' s3 I3 rw' => ⟨w, H, I3, rw', q⟩) hs
theorem w_ix (C : Ctx g k X Wx) {e i : Expr} {pos : Pos} {te ti : TEW} (he : PE X e (lowE X.K Wx te)) (hi : PE X i (lowE X.K Wx ti)) (hs : notSlice i = true) :
    PE X (.Subscript e i pos) (lowE X.K Wx (tOpW (fun x y H Q => ixW x y H Q ∨ dgetW x y H Q) te ti)) :=
  PE.imp (pe_ix (ix_seq.or (ix_dict C.hu)) he hi (ix_of hs)) fun σ H Q h => low_op (fun F x y v v' H' H Q' Q rx ry A q hy => by
    rcases hy with hy | ⟨a, kvs, j, w, rfl, d1, d2, d3, d4⟩
    · exact .inl (ixW_low F x y v v' H' H Q' Q rx ry A q hy)
    · obtain ⟨o, dg, p1, _⟩ := dget_low ry A d1 d2
      obtain ⟨u, eu, ru⟩ := p1 w d3
      rw [eu] at dg
      exact .inr ⟨a, u, rx, dg, q.at A ru d4⟩) h
def lowO (K : PySem.W.Frag) (Wx : WX) (t : TOW) : L2.TO := fun σ H Q => ∃ F σ' H' Q' E', RelS K F σ' σ ∧ AbH K F H' H ∧ (∀ o H1', Q' o H1' → ∀ F1 H1, Same F F1 → AbH K F1 H1' H1 → Q o H1) ∧ ER K F Wx σ E' ∧ t σ' H' Q' E'
theorem PO.imp {o : Option Expr} {t t' : L2.TO} (h : PO X o t) (i : ∀ σ H Q, t' σ H Q → t σ H Q) : PO X o t' := ⟨fun pins s σ H Q I q => h.run pins s σ H Q I (i σ H Q q)⟩
theorem w_no : PO X none (lowO X.K Wx fun _ H Q _ => Q none H) := PO.imp po_none fun σ H Q ⟨F, σ', H', Q', E', rs, ab, qr, er, h⟩ => qr none H' h F H (Same.refl _) ab
theorem w_so {e : Expr} {te : TEW} (he : PE X e (lowE X.K Wx te)) : PO X (some e) (lowO X.K Wx fun σ H Q E => te σ H (fun x H1 => ∃ i, x = .int i ∧ Q (some i) H1) E) :=
  PO.imp (po_some he) fun σ H Q ⟨F, σ', H', Q', E', rs, ab, qr, er, h⟩ => ⟨F, σ', H', _, E', rs, ab, fun x H1' hx F1 v H1 s1 rx ab1 => by
    obtain ⟨i, rfl, hi⟩ := hx
    exact ⟨i, rx, qr _ H1' hi F1 H1 s1 ab1⟩, er, h⟩
theorem w_slc {e : Expr} {lo hi : Option Expr} {p2 pos : Pos} {te : TEW} {tl th : TOW} (he : PE X e (lowE X.K Wx te)) (hl : PO X lo (lowO X.K Wx tl)) (hh : PO X hi (lowO X.K Wx th)) :
    PE X (.Subscript e (.Slice lo hi none p2) pos) (lowE X.K Wx (slcW te tl th)) :=
  PE.imp (pe_slice (sl_tup.or sl_list) he hl hh) fun σ H Q ⟨F, σ', H', Q', E', rs, ab, qr, er, h⟩ => ⟨F, σ', H', _, E', rs, ab, fun x H1' hx F1 v H1 s1 rx ab1 =>
    ⟨F1, σ', H1', _, E', rs.mono s1, ab1, fun l H2' hl F2 H2 s2 ab2 => ⟨F2, σ', H2', _, E', rs.mono (s1.trans s2), ab2, fun u H3' hu F3 H3 s3 ab3 =>
      slW_low (RelW.mono (s2.trans s3) x rx) ab3 (qr.mono ((s1.trans s2).trans s3)) hu, er.mono (s1.trans s2), hl⟩, er.mono s1, hx⟩, er, h⟩
theorem w_rev {e : Expr} {n : Nat} {p1 p2 p3 pos : Pos} {te : TEW} (he : PE X e (lowE X.K Wx te)) : PE X (.Subscript e (.Slice none none (some (.UnaryOp .USub (.Constant (.int 1) n p1) p2)) p3) pos) (lowE X.K Wx (tUnW revW te)) :=
  PE.imp (pe_revL he) fun σ H Q h => low_un (rV := fun x H1 Q => ∃ a xs, x = .ref a ∧ SqL X.K H1 a xs ∧ ∀ p, H1 p = none → Q (.ref p) (upd H1 p (.lst xs.reverse))) (fun F w v H' H Q' Q r A q h => by
    obtain ⟨xs, h1, h2⟩ := h
    obtain ⟨a, vs, e, q1, t⟩ := seqL_low A r h1
    exact ⟨a, vs, e, q1, newL_low A q t.reverse h2⟩) h
end
end WL

/-! ## The rules, lowered: calls, methods, comprehensions -/
namespace WL
open PySem L2
section
variable {g : Gm} {k : Nat} {X : Cx} {Wx : WX} {σ : L2.St} {H : Hp} {Q : VK}

theorem boot_of {f : Str} {u : Value} (h : builtinIs f = some u) : bootBuiltins f = some u ∧ f ≠ "__name__" ∧ (f = "len" ∨ f = "list" ∨ f = "tuple" ∨ f = "sorted" ∨ f = "max" ∨ f = "min" ∨ f = "int") := by
  unfold builtinIs at h
  by_cases h1 : f = "len"
  · rw [if_pos h1] at h; cases h; subst h1; exact ⟨PySem.boot_len, by decide +kernel, .inl rfl⟩
  rw [if_neg h1] at h
  by_cases h2 : f = "list"
  · rw [if_pos h2] at h; cases h; subst h2; exact ⟨PyProof.Rows.boot_list, by decide +kernel, .inr (.inl rfl)⟩
  rw [if_neg h2] at h
  by_cases h3 : f = "tuple"
  · rw [if_pos h3] at h; cases h; subst h3; exact ⟨PyProof.Rows.boot_tuple, by decide +kernel, .inr (.inr (.inl rfl))⟩
  rw [if_neg h3] at h
  by_cases h4 : f = "sorted"
  · rw [if_pos h4] at h; cases h; subst h4; exact ⟨PyProof.Rows.boot_sorted, by decide +kernel, .inr (.inr (.inr (.inl rfl)))⟩
  rw [if_neg h4] at h
  by_cases h5 : f = "max"
  · rw [if_pos h5] at h; cases h; subst h5; exact ⟨PyProof.Rows.boot_max, by decide +kernel, .inr (.inr (.inr (.inr (.inl rfl))))⟩
  rw [if_neg h5] at h
  by_cases h6 : f = "min"
  · rw [if_pos h6] at h; cases h; subst h6; exact ⟨PyProof.Rows.boot_min, by decide +kernel, .inr (.inr (.inr (.inr (.inr (.inl rfl)))))⟩
  rw [if_neg h6] at h
  by_cases h7 : f = "int"
  · rw [if_pos h7] at h; cases h; subst h7; exact ⟨PyProof.Rows.boot_int, by decide +kernel, .inr (.inr (.inr (.inr (.inr (.inr rfl)))))⟩
  rw [if_neg h7] at h
  cases h
theorem Free.bi {f : Str} {u : Value} (F : Free X) (h : builtinIs f = some u) : X.mg f = none := by
  refine F f ?_
  rcases (boot_of h).2.2 with z | z | z | z | z | z | z
  · exact .inl z
  · exact .inr (.inl z)
  · exact .inr (.inr (.inl z))
  · exact .inr (.inr (.inr (.inl z)))
  · exact .inr (.inr (.inr (.inr (.inl z))))
  · exact .inr (.inr (.inr (.inr (.inr (.inl z)))))
  · exact .inr (.inr (.inr (.inr (.inr (.inr (.inl z))))))
theorem builtin_shape {f : Str} {u : Value} (h : builtinIs f = some u) : (∃ id, u = .builtin id) ∨ ∃ T, u = .type T := by
  unfold builtinIs at h
  split at h <;> try (cases h; first | exact .inl ⟨_, rfl⟩ | exact .inr ⟨_, rfl⟩)
  split at h <;> try (cases h; first | exact .inl ⟨_, rfl⟩ | exact .inr ⟨_, rfl⟩)
  split at h <;> try (cases h; first | exact .inl ⟨_, rfl⟩ | exact .inr ⟨_, rfl⟩)
  split at h <;> try (cases h; first | exact .inl ⟨_, rfl⟩ | exact .inr ⟨_, rfl⟩)
  split at h <;> try (cases h; first | exact .inl ⟨_, rfl⟩ | exact .inr ⟨_, rfl⟩)
  split at h <;> try (cases h; first | exact .inl ⟨_, rfl⟩ | exact .inr ⟨_, rfl⟩)
  split at h <;> first | (cases h; exact .inr ⟨_, rfl⟩) | cases h
/-- f(e, ..), f a built-in -/
theorem w_bcl (C : Ctx g k X Wx) {f : Str} {u : Value} {p pos : Pos} {e : Expr} {es : List Expr} {a : TAW} (hu : builtinIs f = some u) (hg : Gl X f) (hdb : (f == ("__debug__" : Str)) = false) (hs : (e :: es).all notStar = true) (ha : PA X (e :: es) (lowA X.K Wx a)) :
    PE X (.Call (.Name f p) (e :: es) [] pos) (lowE X.K Wx fun σ H Q E => a σ H (fun ws H1 => callW f ws H1 Q) E) := by
  obtain ⟨rV, hr, hl⟩ := callW_ok C.calm hu
  obtain ⟨hb, hn, _⟩ := boot_of hu
  have hm := C.free.bi hu
  rw [List.all_cons, Bool.and_eq_true] at hs
  rcases builtin_shape hu with ⟨id, rfl⟩ | ⟨T, rfl⟩
  · exact PE.imp (pe_callB hr hg hm hb ha hn hdb (starEach_cons hs.1) (backTo_any hs.2)) fun σ H Q h => low_args hl h
  · exact PE.imp (pe_callTy hr hg hm hb ha hn hdb (starEach_cons hs.1) (backTo_any hs.2)) fun σ H Q h => low_args hl h
/-- the built-in classes that isinstance asks of -/
def tyOf (x : Str) : Option String := if x = "int" then some "int" else if x = "bool" then some "bool" else if x = "list" then some "list" else if x = "tuple" then some "tuple" else if x = "str" then some "str" else none
theorem tyOf_ok (F : Free X) {x : Str} {T : String} (h : tyOf x = some T) : bootBuiltins x = some (.type T) ∧ x ≠ "__name__" ∧ X.mg x = none := by
  unfold tyOf at h
  by_cases h1 : x = "int"
  · rw [if_pos h1] at h; cases h; subst h1; exact ⟨PyProof.Rows.boot_int, by decide +kernel, F _ (by simp)⟩
  rw [if_neg h1] at h
  by_cases h2 : x = "bool"
  · rw [if_pos h2] at h; cases h; subst h2; exact ⟨PyProof.Rows.boot_bool, by decide +kernel, F _ (by simp)⟩
  rw [if_neg h2] at h
  by_cases h3 : x = "list"
  · rw [if_pos h3] at h; cases h; subst h3; exact ⟨PyProof.Rows.boot_list, by decide +kernel, F _ (by simp)⟩
  rw [if_neg h3] at h
  by_cases h4 : x = "tuple"
  · rw [if_pos h4] at h; cases h; subst h4; exact ⟨PyProof.Rows.boot_tuple, by decide +kernel, F _ (by simp)⟩
  rw [if_neg h4] at h
  by_cases h5 : x = "str"
  · rw [if_pos h5] at h; cases h; subst h5; exact ⟨PyProof.Rows.boot_str, by decide +kernel, F _ (by simp)⟩
  rw [if_neg h5] at h
  cases h
theorem w_isiS (C : Ctx g k X Wx) {p p2 pos : Pos} {e : Expr} {te : TEW} (hg : Gl X "isinstance") (hgx : Gl X "str") (hs : notStar e = true) (he : PE X e (lowE X.K Wx te)) :
    PE X (.Call (.Name "isinstance" p) [e, .Name "str" p2] [] pos) (lowE X.K Wx (tUnW (isiSW g) te)) := by
  obtain ⟨hb, hn, hm⟩ := tyOf_ok (x := "str") (T := "str") C.free rfl
  have h2 : PE X (.Name "str" p2) (tC (.ty "str")) := pe_bltn hgx hm hb rfl hn (by decide)
  refine PE.imp (pe_callB call_isi hg (C.free _ (by simp)) PyProof.Rows.boot_isinstance (pa_cons he (pa_cons h2 pa_nil) (starEach_cons hs)) (by decide) (by decide) (starEach_cons hs) rfl) fun σ H Q h => ?_
  obtain ⟨F, σ', H', Q', E', rs, ab, qr, er, h⟩ := h
  refine ⟨F, σ', H', _, E', rs, ab, fun w H1' hw F1 v H1 s1 rx ab1 => ?_, er, h⟩
  rcases hw with ⟨y, rfl, h5⟩ | ⟨a, D, fs, rfl, ha, hi, h5⟩
  · exact ⟨v, .ty "str", .type "str", .type "str", true, rfl, .ty "str", tyW_low (w := .str y) (t := "str") rx ab1 rfl, kit_ty rfl, (qr.mono s1).bl ab1 h5⟩
  · obtain ⟨q1, q2, q3, q4, q5, q6⟩ := C.says.ist D hi
    obtain ⟨n, dx, vs, eo, _⟩ := ab1.obj a _ ha
    obtain rfl : v = V.ref a := rx
    exact ⟨.ref a, .ty "str", .ref D, .type "str", false, rfl, .ty "str", .base (.ins eo q1 q2 q3 q4 q5), q6, (qr.mono s1).bl ab1 h5⟩
theorem w_isi (C : Ctx g k X Wx) {x : Str} {T : String} {p p2 pos : Pos} {e : Expr} {te : TEW} (hT : tyOf x = some T) (hg : Gl X "isinstance") (hgx : Gl X x) (hdx : (x == ("__debug__" : Str)) = false) (hs : notStar e = true) (he : PE X e (lowE X.K Wx te)) :
    PE X (.Call (.Name "isinstance" p) [e, .Name x p2] [] pos) (lowE X.K Wx (tUnW (fun x H Q => ∃ t b, tyW H x = some t ∧ kitB t T = some b ∧ Q (.bl b) H) te)) := by
  obtain ⟨hb, hn, hm⟩ := tyOf_ok C.free hT
  have h2 : PE X (.Name x p2) (tC (.ty T)) := pe_bltn hgx hm hb rfl hn hdx
  refine PE.imp (pe_callB call_isi hg (C.free _ (by simp)) PyProof.Rows.boot_isinstance (pa_cons he (pa_cons h2 pa_nil) (starEach_cons hs)) (by decide) (by decide) (starEach_cons hs) rfl) fun σ H Q h => ?_
  obtain ⟨F, σ', H', Q', E', rs, ab, qr, er, h⟩ := h
  refine ⟨F, σ', H', _, E', rs, ab, fun w H1' hw F1 v H1 s1 rx ab1 => ?_, er, h⟩
  obtain ⟨t, b, h3, h4, h5⟩ := hw
  exact ⟨v, .ty T, .type t, .type T, b, rfl, .ty T, tyW_low rx ab1 h3, kit_ty h4, (qr.mono s1).bl ab1 h5⟩
/-- an own def's promise, behind its arguments -/
theorem low_sp {F : Hp} {sp : SpW} {ws : List W} {vs : List V} {H' : Hw} {Q' : KW} {E' : EW} (r : RelWs X.K F ws vs) (A : AbH X.K F H' H) (q : QR X.K F Q' Q) (e : ER X.K F Wx σ E') (h : sp ws H' Q' E') : lowSp X.K sp vs H Q (WE Wx σ) :=
  ⟨F, ws, H', Q', E', r, A, q, e, h⟩
theorem w_call (C : Ctx g k X Wx) {f : Str} {p pos : Pos} {e : Expr} {es : List Expr} {a : TAW} (hg : Gl X f) (hdb : (f == ("__debug__" : Str)) = false) (hs : (e :: es).all notStar = true) (ha : PA X (e :: es) (lowA X.K Wx a)) :
    PE X (.Call (.Name f p) (e :: es) [] pos) (lowE X.K Wx fun σ H Q E => ∃ sp, g.fn f sp ∧ a σ H (fun ws H1 => sp ws H1 Q E) E) := by
  rw [List.all_cons, Bool.and_eq_true] at hs
  refine PE.imp (t := fun σ H Q => ∃ sp, g.fn f sp ∧ tCallS (lowSp X.K sp) (WE Wx) (lowA X.K Wx a) σ H Q) (PE.ex fun sp => PE.all fun hf => ?_) fun σ H Q h => ?_
  · obtain ⟨d, fd, ps, F, hm, hk, hb⟩ := C.says.fn f sp hf
    exact pe_callS F (C.room.mono (Nat.le_succ _)) hg hm hk hb C.pass ha hdb (starEach_cons hs.1) (backTo_any hs.2)
  · obtain ⟨F, σ', H', Q', E', rs, ab, qr, er, sp, hf, h⟩ := h
    exact ⟨sp, hf, F, σ', H', _, E', rs, ab, fun ws H1' hx F1 vs H1 s1 r ab1 => low_sp r ab1 (qr.mono s1) (er.mono s1) hx, er, h⟩
theorem w_call0 (C : Ctx g k X Wx) {f : Str} {p pos : Pos} (hg : Gl X f) (hdb : (f == ("__debug__" : Str)) = false) :
    PE X (.Call (.Name f p) [] [] pos) (lowE X.K Wx fun σ H Q E => ∃ sp, g.fn f sp ∧ tNilW σ H (fun ws H1 => sp ws H1 Q E) E) := by
  refine PE.imp (t := fun σ H Q => ∃ sp, g.fn f sp ∧ tCallS (lowSp X.K sp) (WE Wx) tNil σ H Q) (PE.ex fun sp => PE.all fun hf => ?_) fun σ H Q h => ?_
  · obtain ⟨d, fd, ps, F, hm, hk, hb⟩ := C.says.fn f sp hf
    exact pe_call0S F (C.room.mono (Nat.le_succ _)) hg hm hk hb C.pass hdb
  · obtain ⟨F, σ', H', Q', E', rs, ab, qr, er, sp, hf, h⟩ := h
    exact ⟨sp, hf, low_sp (ws := []) rfl ab qr er h⟩
theorem w_mk (C : Ctx g k X Wx) {c : Str} {p pos : Pos} {e : Expr} {es : List Expr} {a : TAW} (hg : Gl X c) (hdb : (c == ("__debug__" : Str)) = false) (hs : (e :: es).all notStar = true) (ha : PA X (e :: es) (lowA X.K Wx a)) :
    PE X (.Call (.Name c p) (e :: es) [] pos) (lowE X.K Wx fun σ H Q E => ∃ C sp, g.made c C sp ∧ a σ H (fun ws H1 => ∀ x, H1 x = none → sp (.ref x :: ws) (updW H1 x (.ins C [])) (fun v H2 => v = .non ∧ Q (.ref x) H2) E) E) := by
  refine PE.imp (t := fun σ H Q => ∃ D, ∃ sp, g.made c D sp ∧ tMakeS D (lowSp X.K sp) (WE Wx) (lowA X.K Wx a) σ H Q) (PE.ex fun D => PE.ex fun sp => PE.all fun hf => ?_) fun σ H Q h => ?_
  · obtain ⟨hm, f, fd, ps, M, F, hb⟩ := C.says.made c D sp hf
    exact pe_makeS M F C.room hg hm hb C.pass ha hdb hs
  · obtain ⟨F, σ', H', Q', E', rs, ab, qr, er, D, sp, hf, h⟩ := h
    refine ⟨D, sp, hf, F, σ', H', _, E', rs, ab, fun ws H1' hx F1 vs H1 s1 r ab1 x dx hnx hnd hne => ?_, er, h⟩
    have ab2 : AbH X.K F1 H1' (upd H1 dx (.own x)) := ab1.skip hnd
    have hnx2 : (upd H1 dx (.own x)) x = none := by rw [upd_ne (Ne.symm hne)]; exact hnx
    have ab3 := ab2.new (o := .ins D dx []) (w := .ins D []) hnx2 ⟨dx, [], rfl, rfl⟩
    exact low_sp (ws := .ref x :: ws) (vs := .ref x :: vs) (.cons (show RelW X.K F1 (.ref x) (.ref x) from rfl) r) ab3 (fun w H2' hw F2 v H2 s2 rv ab4 => ⟨by
      rw [hw.1] at rv
      exact rv, (qr.mono (s1.trans s2)).ref ab4 hw.2⟩) (er.mono s1) (hx x (ab1.noH hnx))
/-- o.m(..), o an instance of ours -/
def mthW (g : Gm) (m : Str) (te : TEW) (a : TAW) : TEW := fun σ H Q E => te σ H (fun x H1 => ∃ b C fs sp, x = .ref b ∧ H1 b = some (.ins C fs) ∧ g.mth C m sp ∧ fs.lookup m = none ∧ a σ H1 (fun ws H2 => sp (x :: ws) H2 Q E) E) E
theorem w_mth (C : Ctx g k X Wx) {o : Expr} {m : Str} {apos pos : Pos} {e : Expr} {es : List Expr} {te : TEW} {a : TAW} (ho : PE X o (lowE X.K Wx te)) (ha : PA X (e :: es) (lowA X.K Wx a)) (hb : plainBase o = true) (hs : (e :: es).all notStar = true)
    (hn : (e :: es).length < 30) (hl : (apos.endLine == pos.line) = true) : PE X (.Call (.Attribute o m apos) (e :: es) [] pos) (lowE X.K Wx (mthW g m te a)) :=
  PE.imp (pe_methA (CX := L2.CX X.prog X.w) ho (C.room.mono (Nat.le_succ _)) C.pass ha hb hs hn hl) fun σ H Q ⟨F, σ', H', Q', E', rs, ab, qr, er, h⟩ => ⟨F, σ', H', _, E', rs, ab, fun x H1' hx F1 v H1 s1 rx ab1 => by
    obtain ⟨b, D, fs, sp, rfl, h1, h2, h3, h4⟩ := hx
    obtain ⟨dx, vs, e1, rk⟩ := ab1.inst h1
    exact ⟨b, D, dx, vs, lowSp X.K sp, rx, e1, C.says.mth D m sp h2, (rk.look m).2 h3, F1, σ', H1', _, E', rs.mono s1, ab1, fun ws H2' hw F2 us H2 s2 r ab2 =>
      low_sp (ws := .ref b :: ws) (vs := v :: us) (.cons (RelW.mono s2 (.ref b) rx) r) ab2 (qr.mono (s1.trans s2)) (er.mono (s1.trans s2)) hw, er.mono s1, h4⟩, er, h⟩
theorem w_mth0 (C : Ctx g k X Wx) {o : Expr} {m : Str} {apos pos : Pos} {te : TEW} (ho : PE X o (lowE X.K Wx te)) (hb : plainBase o = true) (hl : (apos.endLine == pos.line) = true) :
    PE X (.Call (.Attribute o m apos) [] [] pos) (lowE X.K Wx (mthW g m te tNilW)) :=
  PE.imp (pe_meth0A (CX := L2.CX X.prog X.w) ho (C.room.mono (Nat.le_succ _)) C.pass hb hl) fun σ H Q ⟨F, σ', H', Q', E', rs, ab, qr, er, h⟩ => ⟨F, σ', H', _, E', rs, ab, fun x H1' hx F1 v H1 s1 rx ab1 => by
    obtain ⟨b, D, fs, sp, rfl, h1, h2, h3, h4⟩ := hx
    obtain ⟨dx, vs, e1, rk⟩ := ab1.inst h1
    exact ⟨b, D, dx, vs, lowSp X.K sp, rx, e1, C.says.mth D m sp h2, (rk.look m).2 h3, low_sp (ws := [.ref b]) (vs := [v]) (.cons (show RelW X.K F1 (.ref b) v from rx) rfl) ab1 (qr.mono s1) (er.mono s1) h4⟩, er, h⟩
/-! methods of lists -/
theorem isLst_low {F : Hp} {x : W} {v : V} {H' : Hw} (A : AbH X.K F H' H) (r : RelW X.K F x v) (h : isLst x H') : tyV X.K "list" v H := by
  obtain ⟨xs, h⟩ := h
  obtain ⟨a, vs, e, q, _⟩ := seqL_low A r h
  rw [e]
  exact .inl ⟨rfl, vs, q⟩
def bmW (r : R2W) (to te : TEW) : TEW := fun σ H Q E => to σ H (fun x H1 => isLst x H1 ∧ te σ H1 (fun y H2 => r x y H2 Q) E) E
theorem low_bm {rW : R2W} {rV : V → List V → Hp → VK → Prop} {to te : TEW} (o : ∀ F w w' v v' H' H Q' Q, RelW X.K F w v → RelW X.K F w' v' → AbH X.K F H' H → QR X.K F Q' Q → rW w w' H' Q' → rV v [v'] H Q)
    (h : lowE X.K Wx (bmW rW to te) σ H Q) : tBM X.K "list" rV (lowE X.K Wx to) (tCons (lowE X.K Wx te) tNil) σ H Q := by
  obtain ⟨F, σ', H', Q', E', rs, ab, qr, er, h⟩ := h
  refine ⟨F, σ', H', _, E', rs, ab, fun x H1' hx F1 v H1 s1 rx ab1 => ⟨isLst_low ab1 rx hx.1, ?_⟩, er, h⟩
  exact ⟨F1, σ', H1', _, E', rs.mono s1, ab1, fun y H2' hy F2 v' H2 s2 ry ab2 => o F2 x y v v' H2' H2 Q' Q (RelW.mono s2 x rx) ry ab2 (qr.mono (s1.trans s2)) hy, er.mono s1, hx.2⟩
theorem few_of {e : Expr} {pos : Pos} {env : Env} (hs : notStar e = true) : ((backTo pos (starEach [e] env)).all (fun x => !x.1) && (backToKw pos (keywordEach [] env)).all (fun x => x.1.isSome)
      && decide (([e] : List Expr).length + ([] : List Keyword).length + (if ([] : List Keyword).isEmpty then 0 else 1) < 30)) = true := by
  rw [backTo_all (by simp [hs])]
  rfl
theorem w_app {o e : Expr} {apos pos : Pos} {to te : TEW} (ho : PE X o (lowE X.K Wx to)) (he : PE X e (lowE X.K Wx te)) (hb : plainBase o = true) (hs : notStar e = true) (hl : (apos.endLine == pos.line) = true) :
    PE X (.Call (.Attribute o "append" apos) [e] [] pos) (lowE X.K Wx (bmW appW to te)) :=
  PE.imp (pe_bm PySem.F.plainAttrs_list PySem.F.slot_list_append PySem.F.type_list_append mt_append ho (pa_cons he pa_nil (starEach_cons hs)) (base_of hb) (few_of hs) hl (starEach_cons hs) rfl) fun σ H Q h =>
    low_bm (fun F x y v v' H' H Q' Q rx ry A q h => by
      cases x with
      | ref a =>
        obtain ⟨xs, h1, h2, h3⟩ := h
        obtain ⟨vs, e1, t⟩ := A.list h1
        exact ⟨a, vs, v', rx, rfl, e1, by rw [← t.length]; exact h2, (q .non _ h3 F _ _ (Same.refl _) rfl (A.write h1 ⟨_, rfl, t.append (.cons ry .nil)⟩))⟩
      | _ => exact (show False from h).elim) h
theorem w_ext {o e : Expr} {apos pos : Pos} {to te : TEW} (ho : PE X o (lowE X.K Wx to)) (he : PE X e (lowE X.K Wx te)) (hb : plainBase o = true) (hs : notStar e = true) (hl : (apos.endLine == pos.line) = true) :
    PE X (.Call (.Attribute o "extend" apos) [e] [] pos) (lowE X.K Wx (bmW extW to te)) :=
  PE.imp (pe_bm PySem.F.plainAttrs_list PySem.F.slot_list_extend PySem.F.type_list_extend mt_extend ho (pa_cons he pa_nil (starEach_cons hs)) (base_of hb) (few_of hs) hl (starEach_cons hs) rfl) fun σ H Q h =>
    low_bm (fun F x y v v' H' H Q' Q rx ry A q h => by
      cases x with
      | ref a =>
        obtain ⟨xs, ys, h1, h2, h3, h4⟩ := h
        obtain ⟨vs, e1, t⟩ := A.list h1
        obtain ⟨b, us, e2, q2, t2⟩ := seqM_low A ry h2
        exact ⟨a, b, vs, us, rx, by rw [e2], e1, q2, by rw [← t.length, ← t2.length]; exact h3, (q .non _ h4 F _ _ (Same.refl _) rfl (A.write h1 ⟨_, rfl, t.append t2⟩))⟩
      | _ => exact (show False from h).elim) h
theorem seqIx_nat {n k : Nat} (h : k < n) : seqIndex? ((k : Nat) : Int) n = some k := by
  have e : L2.ixN n ((k : Nat) : Int) = some k := by
    unfold L2.ixN
    rw [if_pos (Int.natCast_nonneg k), if_pos (by omega)]
    simp
  exact (ixN_seq e).1
theorem w_pop {o e : Expr} {apos pos : Pos} {to te : TEW} (ho : PE X o (lowE X.K Wx to)) (he : PE X e (lowE X.K Wx te)) (hb : plainBase o = true) (hs : notStar e = true) (hl : (apos.endLine == pos.line) = true) :
    PE X (.Call (.Attribute o "pop" apos) [e] [] pos) (lowE X.K Wx (bmW popW to te)) :=
  PE.imp (pe_bm PySem.F.plainAttrs_list PySem.F.slot_list_pop PySem.F.type_list_pop mt_popAt ho (pa_cons he pa_nil (starEach_cons hs)) (base_of hb) (few_of hs) hl (starEach_cons hs) rfl) fun σ H Q h =>
    low_bm (fun F x y v v' H' H Q' Q rx ry A q h => by
      cases x with
      | ref a =>
        cases y with
        | int i =>
          obtain ⟨xs, j, w, h1, rfl, h2, h3, h4⟩ := h
          obtain ⟨vs, e1, t⟩ := A.list h1
          obtain ⟨u, eu, ru⟩ := t.get h3
          have hj : j < vs.length := (List.getElem?_eq_some_iff.mp eu).1
          exact ⟨a, vs, (j : Nat), j, u, rx, by rw [show v' = V.int ((j : Nat) : Int) from ry], e1, by omega, h2, seqIx_nat hj, eu, (q w _ h4 F _ _ (Same.refl _) ru (A.write h1 ⟨_, rfl, t.eraseIdx j⟩))⟩
        | _ => exact (show False from h).elim
      | _ => cases y <;> exact (show False from h).elim) h
/-! methods of dicts -/
theorem isDct_low {F : Hp} {x : W} {v : V} {H' : Hw} (A : AbH X.K F H' H) (r : RelW X.K F x v) (h : isDct x H') : ∃ a, v = .ref a ∧ IsD H a := by
  obtain ⟨a, kvs, rfl, h⟩ := h
  obtain ⟨vs, e, _⟩ := A.dict h
  exact ⟨a, r, .inl ⟨vs, .inl e⟩⟩
theorem m1_of {o e : Expr} {m : Str} {apos pos : Pos} (hb : plainBase o = true) (hs : notStar e = true) (hl : (apos.endLine == pos.line) = true) : M1 X o m apos e pos :=
  ⟨base_of hb, few_of hs, hl, by rw [starEach_cons hs]; rfl⟩
theorem m2_of {o e f : Expr} {m : Str} {apos pos : Pos} (hb : plainBase o = true) (hs : notStar e = true) (hs2 : notStar f = true) (hl : (apos.endLine == pos.line) = true) : M2 X o m apos e f pos :=
  ⟨base_of hb, by rw [backTo_all (by simp [hs, hs2])]; rfl, hl, by rw [starEach_cons hs, starEach_cons hs2]; rfl⟩
theorem w_get1 (C : Ctx g k X Wx) {o e : Expr} {apos pos : Pos} {to te : TEW} (ho : PE X o (lowE X.K Wx to)) (he : PE X e (lowE X.K Wx te)) (hb : plainBase o = true) (hs : notStar e = true) (hl : (apos.endLine == pos.line) = true) :
    PE X (.Call (.Attribute o "get" apos) [e] [] pos) (lowE X.K Wx fun σ H Q E => to σ H (fun x H1 => isDct x H1 ∧ te σ H1 (fun y H2 => ∃ a kvs j, x = .ref a ∧ H2 a = some (.dct kvs) ∧ keyW y = some j ∧ Q ((valW kvs j).getD .non) H2) E) E) :=
  PE.imp (pe_dget1 C.hu ho he (m1_of hb hs hl)) fun σ H Q ⟨F, σ', H', Q', E', rs, ab, qr, er, h⟩ => ⟨F, σ', H', _, E', rs, ab, fun x H1' hx F1 v H1 s1 rx ab1 => by
    obtain ⟨a, e1, hd⟩ := isDct_low ab1 rx hx.1
    refine ⟨a, e1, hd, F1, σ', H1', _, E', rs.mono s1, ab1, fun y H2' hy F2 v' H2 s2 ry ab2 => ?_, er.mono s1, hx.2⟩
    obtain ⟨b, kvs, j, rfl, h1, h2, h3⟩ := hy
    have eb : b = a := by rw [show v = V.ref b from rx] at e1; exact V.ref.inj e1
    subst eb
    obtain ⟨ov, dg, p1, p2⟩ := dget_low ry ab2 h1 h2
    refine ⟨ov, dg, ?_⟩
    cases e : valW kvs j with
    | none =>
      rw [e] at h3
      rw [p2 e]
      exact (qr.mono (s1.trans s2)).non ab2 h3
    | some w =>
      obtain ⟨u, eu, ru⟩ := p1 w e
      rw [e] at h3
      rw [eu]
      exact (qr.mono (s1.trans s2)).at ab2 ru h3, er, h⟩
theorem w_get2 (C : Ctx g k X Wx) {o e f : Expr} {apos pos : Pos} {to te tf : TEW} (ho : PE X o (lowE X.K Wx to)) (he : PE X e (lowE X.K Wx te)) (hf : PE X f (lowE X.K Wx tf)) (hb : plainBase o = true) (hs : notStar e = true) (hs2 : notStar f = true) (hl : (apos.endLine == pos.line) = true) :
    PE X (.Call (.Attribute o "get" apos) [e, f] [] pos) (lowE X.K Wx fun σ H Q E => to σ H (fun x H1 => isDct x H1 ∧ te σ H1 (fun y H2 => tf σ H2 (fun z H3 => ∃ a kvs j, x = .ref a ∧ H3 a = some (.dct kvs) ∧ keyW y = some j ∧ Q ((valW kvs j).getD z) H3) E) E) E) :=
  PE.imp (pe_dget2 C.hu ho he hf (m2_of hb hs hs2 hl)) fun σ H Q ⟨F, σ', H', Q', E', rs, ab, qr, er, h⟩ => ⟨F, σ', H', _, E', rs, ab, fun x H1' hx F1 v H1 s1 rx ab1 => by
    obtain ⟨a, e1, hd⟩ := isDct_low ab1 rx hx.1
    refine ⟨a, e1, hd, F1, σ', H1', _, E', rs.mono s1, ab1, fun y H2' hy F2 v' H2 s2 ry ab2 => ⟨F2, σ', H2', _, E', rs.mono (s1.trans s2), ab2, fun z H3' hz F3 v3 H3 s3 rz ab3 => ?_, er.mono (s1.trans s2), hy⟩, er.mono s1, hx.2⟩
    obtain ⟨b, kvs, j, rfl, h1, h2, h3⟩ := hz
    have eb : b = a := by rw [show v = V.ref b from rx] at e1; exact V.ref.inj e1
    subst eb
    obtain ⟨ov, dg, p1, p2⟩ := dget_low (RelW.mono s3 y ry) ab3 h1 h2
    refine ⟨ov, dg, ?_⟩
    cases e : valW kvs j with
    | none =>
      rw [e] at h3
      rw [p2 e]
      exact (qr.mono ((s1.trans s2).trans s3)).at ab3 rz h3
    | some w =>
      obtain ⟨u, eu, ru⟩ := p1 w e
      rw [e] at h3
      rw [eu]
      exact (qr.mono ((s1.trans s2).trans s3)).at ab3 ru h3, er, h⟩
theorem w_setd (C : Ctx g k X Wx) {o e f : Expr} {apos pos : Pos} {to te tf : TEW} (ho : PE X o (lowE X.K Wx to)) (he : PE X e (lowE X.K Wx te)) (hf : PE X f (lowE X.K Wx tf)) (hb : plainBase o = true) (hs : notStar e = true) (hs2 : notStar f = true) (hl : (apos.endLine == pos.line) = true) :
    PE X (.Call (.Attribute o "setdefault" apos) [e, f] [] pos) (lowE X.K Wx fun σ H Q E => to σ H (fun x H1 => isDct x H1 ∧ te σ H1 (fun y H2 => tf σ H2 (fun z H3 => ∃ a kvs j, x = .ref a ∧ H3 a = some (.dct kvs) ∧ keyW y = some j ∧ kvs.length < sizeLine ∧
      (∀ v, valW kvs j = some v → Q v H3) ∧ (valW kvs j = none → Q z (updW H3 a (.dct (putKW kvs j z))))) E) E) E) :=
  PE.imp (pe_dsetd ho he hf (m2_of hb hs hs2 hl)) fun σ H Q ⟨F, σ', H', Q', E', rs, ab, qr, er, h⟩ => ⟨F, σ', H', _, E', rs, ab, fun x H1' hx F1 v H1 s1 rx ab1 => by
    obtain ⟨a, e1, hd⟩ := isDct_low ab1 rx hx.1
    refine ⟨a, e1, hd, F1, σ', H1', _, E', rs.mono s1, ab1, fun y H2' hy F2 v' H2 s2 ry ab2 => ⟨F2, σ', H2', _, E', rs.mono (s1.trans s2), ab2, fun z H3' hz F3 v3 H3 s3 rz ab3 => ?_, er.mono (s1.trans s2), hy⟩, er.mono s1, hx.2⟩
    obtain ⟨b, kvs, j, rfl, h1, h2, h3, h4, h5⟩ := hz
    have eb : b = a := by rw [show v = V.ref b from rx] at e1; exact V.ref.inj e1
    subst eb
    obtain ⟨vs, ev, rk⟩ := ab3.dict h1
    have s := (s1.trans s2).trans s3
    obtain ⟨p1, p2⟩ := rk.val j
    refine ⟨vs, j, ev, keyW_low (RelW.mono s3 y ry) h2, by rw [← rk.length]; exact h3, fun u hu => ?_, fun hu => ?_⟩
    · cases e : valW kvs j with
      | none => rw [p2 e] at hu; cases hu
      | some w =>
        obtain ⟨u', eu, ru⟩ := p1 w e
        rw [eu] at hu
        cases hu
        exact (qr.mono s).at ab3 ru (h4 w e)
    · cases e : valW kvs j with
      | none => exact (qr.mono s) z _ (h5 e) F3 _ _ (Same.refl _) rz (ab3.write h1 ⟨_, rfl, rk.put j rz⟩)
      | some w =>
        obtain ⟨u', eu, _⟩ := p1 w e
        rw [eu] at hu
        exact absurd hu (by simp), er, h⟩
/-! in range(lo, hi), len(set(xs)) -/
theorem AbH.same {K : PySem.W.Frag} {F : Hp} {H' : Hw} {H H1 : Hp} (A : AbH K F H' H) (s : Same H H1) : AbH K F H' H1 := by
  refine ⟨fun a o h => s _ _ (A.sub a o h), fun a o h => ?_⟩
  obtain ⟨n, r⟩ := A.obj a o h
  refine ⟨n, ?_⟩
  cases o with
  | lst xs =>
    obtain ⟨vs, e, r⟩ := r
    exact ⟨vs, s _ _ e, r⟩
  | dct kvs =>
    obtain ⟨vs, e, r⟩ := r
    exact ⟨vs, s _ _ e, r⟩
  | ins D fs =>
    obtain ⟨dx, vs, e, r⟩ := r
    exact ⟨dx, vs, s _ _ e, r⟩
theorem low_inr {neg : Bool} {lo hi : Int} {ta : TEW} {σ : St} {H : Hp} {Q : VK} (h : lowE X.K Wx (tUnW (inrW neg lo hi) ta) σ H Q) : (fun σ H Q => lowE X.K Wx ta σ H fun x H1 => rInr neg lo hi x H1 Q) σ H Q := by
  obtain ⟨F, σ', H', Q', E', rs, ab, qr, er, h⟩ := h
  refine ⟨F, σ', H', _, E', rs, ab, fun x H1' hx F1 v H1 s1 rx ab1 => ?_, er, h⟩
  obtain ⟨b, hb, hq⟩ := hx
  exact ⟨b, inRW_low rx hb, fun H2 sm => (qr.mono s1).bl (ab1.same sm) hq⟩
theorem w_inr (C : Ctx g k X Wx) {neg : Bool} {lo hi : Int} {e : Expr} {te : TEW} {p q pos p1 p2 : Pos} {k1 k2 : Nat} (hl : lo ≤ hi) (hg : Gl X "range") (he : PE X e (lowE X.K Wx te)) :
    PE X (.Compare e [if neg = true then .NotIn else .In] [.Call (.Name "range" p) [.Constant (.int lo) k1 p1, .Constant (.int hi) k2 p2] [] q] pos) (lowE X.K Wx (tUnW (inrW neg lo hi) te)) :=
  PE.imp (pe_inr hl hg (C.free _ (by simp)) he) fun σ H Q h => low_inr h
theorem w_inrT (C : Ctx g k X Wx) {neg : Bool} {lo hi : Int} {e : Expr} {te : TEW} {p q pos p1 p2 : Pos} {k1 k2 : Nat} (hl : lo ≤ hi) (hg : Gl X "range") (he : PE X e (lowE X.K Wx te)) :
    PT X (.Compare e [if neg = true then .NotIn else .In] [.Call (.Name "range" p) [.Constant (.int lo) k1 p1, .Constant (.int hi) k2 p2] [] q] pos) (lowT X.K Wx (truT (tUnW (inrW neg lo hi) te))) :=
  PT.imp (pt_inr hl hg (C.free _ (by simp)) he) fun σ H Q h => by
    have q := low_tru h
    exact low_inr q
theorem w_nset (C : Ctx g k X Wx) {a : Expr} {p p2 pos pos2 : Pos} {ta : TEW} (hg : Gl X "len") (hg2 : Gl X "set") (hs : notStar a = true) (ha : PE X a (lowE X.K Wx ta)) :
    PE X (.Call (.Name "len" p) [.Call (.Name "set" p2) [a] [] pos2] [] pos) (lowE X.K Wx (tUnW nsetW ta)) :=
  PE.imp (RZ.pe_lenSetI hg (C.free _ (by simp)) hg2 (C.free _ (by simp)) ha C.calm (starEach_cons hs)) fun σ H Q ⟨F, σ', H', Q', E', rs, ab, qr, er, h⟩ => ⟨F, σ', H', _, E', rs, ab, fun x H1' hx F1 v H1 s1 rx ab1 => by
    obtain ⟨ns, h1, h2, h3, hq⟩ := hx
    obtain ⟨a, vs, e, sq, rv⟩ := seqL_low ab1 rx h1
    rw [rv.ints] at sq
    exact ⟨a, ns, e, sq, h2, h3, (qr.mono s1).int ab1 hq⟩, er, h⟩
/-! list(range(n)), {}, {k: v, ..} -/
theorem w_lrng (C : Ctx g k X Wx) {a : Expr} {p p2 pos pos2 : Pos} {ta : TEW} (hg : Gl X "list") (hg2 : Gl X "range") (hs : notStar a = true) (ha : PE X a (lowE X.K Wx ta)) :
    PE X (.Call (.Name "list" p) [.Call (.Name "range" p2) [a] [] pos2] [] pos) (lowE X.K Wx fun σ H Q E => ta σ H (fun x H1 => ∃ n : Nat, x = .int n ∧ n ≤ 1000 ∧ newL (rngW 0 n 1) H1 Q) E) :=
  PE.imp (pe_listRg C.calm hg (C.free _ (by simp)) (prg_1 hg2 (C.free _ (by simp)) ha (starEach_cons hs)) rfl) fun σ H Q ⟨F, σ', H', Q', E', rs, ab, qr, er, h⟩ => ⟨F, σ', H', _, E', rs, ab, fun x H1' hx F1 v H1 s1 rx ab1 => by
    obtain ⟨n, rfl, hn, hq⟩ := hx
    refine ⟨(n : Nat), rx, ⟨by omega, by omega, by omega, by omega, by omega⟩, ?_⟩
    refine newL_low ab1 (qr.mono s1) ?_ hq
    unfold rngW rgV
    have e : ((n : Int) - 0).toNat = n := by omega
    rw [e]
    have gen : ∀ l : List Nat, RelWs X.K F1 (l.map fun (k : Nat) => W.int (0 + (k : Int) * 1)) (l.map fun i => V.int (0 + (i : Nat))) := by
      intro l
      induction l with
      | nil => exact rfl
      | cons y l ih => exact .cons (show RelW X.K F1 (.int (0 + (y : Int) * 1)) (.int (0 + (y : Nat))) from by show V.int _ = V.int _; rw [Int.mul_one]) ih
    exact gen _, er, h⟩
theorem w_dnew {pos : Pos} : PE X (.Dict [] [] pos) (lowE X.K Wx fun _ H Q _ => ∀ p, H p = none → Q (.ref p) (updW H p (.dct []))) :=
  PE.imp pe_dnewK fun σ H Q ⟨F, σ', H', Q', E', rs, ab, qr, er, h⟩ p hp => qr _ _ (h p (ab.noH hp)) F _ _ (Same.refl _) rfl (ab.new hp ⟨[], rfl, rfl⟩)
end
end WL

/-! ## The rules, lowered: walks, comprehensions, statements -/
namespace WL
open PySem L2
section
variable {g : Gm} {k : Nat} {X : Cx} {Wx : WX} {σ : L2.St} {H : Hp} {Q : VK}
theorem w_nil : PA X [] (lowA X.K Wx tNilW) := PA.imp pa_nil fun σ H Q h => low_nil h
theorem w_cons {e : Expr} {es : List Expr} {te : TEW} {ta : TAW} (he : PE X e (lowE X.K Wx te)) (ha : PA X es (lowA X.K Wx ta)) (hs : notStar e = true) : PA X (e :: es) (lowA X.K Wx (tConsW te ta)) :=
  PA.imp (pa_cons he ha (starEach_cons hs)) fun σ H Q h => low_cons h

/-! ### what is walked -/
def Walk (K : PySem.W.Frag) (F : Hp) (J : It) (items : List W) (stay : Hw → Prop) : Prop := ∀ F1 H' H, Same F F1 → AbH K F1 H' H → stay H' →
  (∀ (i : Nat) x, items[i]? = some x → J.go i H ∧ ∀ v H2, J.yld i H v H2 → H2 = H ∧ RelW K F1 x v) ∧ J.stop items.length H
def IR (K : PySem.W.Frag) (F : Hp) (R' : List W → (Hw → Prop) → Hw → Prop) (R : It → Hp → Prop) : Prop := ∀ items stay H1', R' items stay H1' → ∀ F1 H1 J, Same F F1 → AbH K F1 H1' H1 → Walk K F1 J items stay → R J H1
theorem IR.mono {K : PySem.W.Frag} {F F1 : Hp} {R' : List W → (Hw → Prop) → Hw → Prop} {R : It → Hp → Prop} (h : IR K F R' R) (s : Same F F1) : IR K F1 R' R := fun a b c d F2 H1 J s2 => h a b c d F2 H1 J (s.trans s2)
def lowI (K : PySem.W.Frag) (Wx : WX) (t : TIW) : TI := fun σ H R => ∃ F σ' H' R' E', RelS K F σ' σ ∧ AbH K F H' H ∧ IR K F R' R ∧ ER K F Wx σ E' ∧ t σ' H' R' E'
theorem PI.imp {tg iter : Expr} {t t' : TI} (h : PI X tg iter t) (i : ∀ σ H R, t' σ H R → t σ H R) : PI X tg iter t' := ⟨fun pins s σ H R I q => h.run pins s σ H R I (i σ H R q)⟩
/-- a list or a tuple -/
def iSeqV (K : PySem.W.Frag) (tl : TE) : TI := fun σ H R => tl σ H fun x H1 => ∃ a, x = .ref a ∧ (((∃ xs, SqL K H1 a xs) ∧ R (Itl K a) H1) ∨ ((∃ xs, SqT K H1 a xs) ∧ R (Itt K a) H1))
theorem pi_seq {tg l : Expr} {tl : TE} (hl : PE X l tl) : PI X tg l (iSeqV X.K tl) := by
  refine ⟨fun pins s σ H R I h => L2.thn (hl.run pins s σ H _ I h) fun v s1 ⟨x, H1, I1, rx, a, ex, q⟩ => ?_⟩
  subst ex
  obtain rfl : v = Value.ref a := rx
  have nw : ∀ b ∈ [s1.heap.objs.size], FpOk X pins H1 b := fun b hb => by
    have e : b = s1.heap.objs.size := List.mem_singleton.mp hb
    rw [e]
    exact I1.fpOk (Nat.le_refl _) (I1.hok.fresh (Nat.le_refl _))
  rcases q with ⟨⟨xs, hq⟩, q⟩ | ⟨⟨xs, hq⟩, q⟩
  · obtain ⟨its, rv, p, hz⟩ := I1.list hq
    exact wpAny_pyIter_list p.isList ⟨_, _, _, _, H1, rfl, I1.kept (t' := s1.toks) fun b o e => Heap.get?_push_of_some _ e, turn_list a _, ⟨_, Heap.get?_push_size _ rfl, rfl, rfl⟩, nw, q⟩
  · obtain ⟨its, rv, p, hz⟩ := I1.tuple hq
    exact wpAny_pyIter_tuple (show s1.heap.IsTuple a its.toArray from p) ⟨_, _, _, _, H1, rfl, I1.kept (t' := s1.toks) fun b o e => Heap.get?_push_of_some _ e, turn_tuple a _, ⟨_, Heap.get?_push_size _ rfl, rfl, rfl⟩, nw, q⟩
theorem walk_list {K : PySem.W.Frag} {F : Hp} {w : W} {a : Addr} {xs : List W} (r : RelW K F w (.ref a)) (hs : ∀ F1 H' H, AbH K F1 H' H → RelW K F1 w (.ref a) → seqA H' w xs → ∃ vs, SqL K H a vs ∧ RelWs K F1 xs vs) : Walk K F (Itl K a) xs (fun H => seqA H w xs) := by
  intro F1 H' H s A st
  obtain ⟨vs, q, t⟩ := hs F1 H' H A (RelW.mono s w r) st
  refine ⟨fun i x hx => ?_, ⟨vs, q, Nat.le_of_eq t.length.symm⟩⟩
  obtain ⟨v, hv, rv⟩ := t.get hx
  refine ⟨⟨vs, v, q, hv⟩, fun u H2 hy => ⟨hy.1, ?_⟩⟩
  have e := hy.2 vs q
  rw [hv] at e
  rw [← Option.some.inj e]
  exact rv
theorem walk_tup {K : PySem.W.Frag} {F : Hp} {w : W} {a : Addr} {xs : List W} (r : RelW K F w (.ref a)) (hs : ∀ F1 H' H, AbH K F1 H' H → RelW K F1 w (.ref a) → seqA H' w xs → ∃ vs, SqT K H a vs ∧ RelWs K F1 xs vs) : Walk K F (Itt K a) xs (fun H => seqA H w xs) := by
  intro F1 H' H s A st
  obtain ⟨vs, q, t⟩ := hs F1 H' H A (RelW.mono s w r) st
  refine ⟨fun i x hx => ?_, ⟨vs, q, Nat.le_of_eq t.length.symm⟩⟩
  obtain ⟨v, hv, rv⟩ := t.get hx
  refine ⟨⟨vs, v, q, hv⟩, fun u H2 hy => ⟨hy.1, ?_⟩⟩
  have e := hy.2 vs q
  rw [hv] at e
  rw [← Option.some.inj e]
  exact rv
theorem walk_rng {K : PySem.W.Frag} {F : Hp} {lo c : Int} {n : Nat} {J : It} (hg : ∀ i H, J.go i H ↔ i < n) (hy : ∀ i H v H2, J.yld i H v H2 → H2 = H ∧ v = .int (lo + (i : Nat) * c)) (hs : ∀ i H, n ≤ i → J.stop i H) : Walk K F J (rngW lo n c) (fun _ => True) := by
  intro F1 H' H s A _
  have hl : (rngW lo n c).length = n := by unfold rngW; rw [List.length_map, List.length_range]
  refine ⟨fun i x hx => ?_, hs _ H (by rw [hl]; exact Nat.le_refl _)⟩
  have hi : i < n := by rw [← hl]; exact (List.getElem?_eq_some_iff.mp hx).1
  refine ⟨(hg i H).mpr hi, fun v H2 y => ?_⟩
  obtain ⟨e1, e2⟩ := hy i H v H2 y
  refine ⟨e1, ?_⟩
  unfold rngW at hx
  rw [List.getElem?_map, List.getElem?_range hi] at hx
  have ex : W.int (lo + (i : Int) * c) = x := Option.some.inj hx
  rw [← ex]
  exact e2
theorem w_it {tg e : Expr} {te : TEW} (he : PE X e (lowE X.K Wx te)) : PI X tg e (lowI X.K Wx fun σ H Q E => te σ H (fun x H1 => ∃ xs, seqA H1 x xs ∧ Q xs (fun H => seqA H x xs) H1) E) :=
  PI.imp (pi_seq he) fun σ H R ⟨F, σ', H', R', E', rs, ab, ir, er, h⟩ => ⟨F, σ', H', _, E', rs, ab, fun x H1' hx F1 v H1 s1 rx ab1 => by
    obtain ⟨xs, h1, h2⟩ := hx
    cases x with
    | tup l =>
      obtain ⟨a, vs, e1, q1, t⟩ := id rx
      have el : l = xs := h1
      subst el
      refine ⟨a, e1, .inr ⟨⟨vs, SqT.of (ab1.sub _ _ q1)⟩, ir _ _ H1' h2 F1 H1 _ s1 ab1 (walk_tup (by rw [← e1]; exact rx) fun F2 H2' H2 A r st => ?_)⟩⟩
      obtain ⟨b, us, e2, q2, t2⟩ := r
      cases e2
      exact ⟨us, SqT.of (A.sub _ _ q2), t2⟩
    | fls l =>
      obtain ⟨a, vs, e1, q1, t⟩ := seqL_low ab1 rx h1
      refine ⟨a, e1, .inl ⟨⟨vs, q1⟩, ir _ _ H1' h2 F1 H1 _ s1 ab1 (walk_list (by rw [← e1]; exact rx) fun F2 H2' H2 A r st => ?_)⟩⟩
      obtain ⟨b, us, e2, q2, t2⟩ := seqL_low A r st
      cases e2
      exact ⟨us, q2, t2⟩
    | scr l =>
      obtain ⟨a, vs, e1, q1, t⟩ := seqL_low ab1 rx h1
      refine ⟨a, e1, .inl ⟨⟨vs, q1⟩, ir _ _ H1' h2 F1 H1 _ s1 ab1 (walk_list (by rw [← e1]; exact rx) fun F2 H2' H2 A r st => ?_)⟩⟩
      obtain ⟨b, us, e2, q2, t2⟩ := seqL_low A r st
      cases e2
      exact ⟨us, q2, t2⟩
    | ref l =>
      obtain ⟨a, vs, e1, q1, t⟩ := seqL_low ab1 rx h1
      refine ⟨a, e1, .inl ⟨⟨vs, q1⟩, ir _ _ H1' h2 F1 H1 _ s1 ab1 (walk_list (by rw [← e1]; exact rx) fun F2 H2' H2 A r st => ?_)⟩⟩
      obtain ⟨b, us, e2, q2, t2⟩ := seqL_low A r st
      cases e2
      exact ⟨us, q2, t2⟩
    | non => exact (show False from h1).elim
    | bl _ => exact (show False from h1).elim
    | int _ => exact (show False from h1).elim
    | str _ => exact (show False from h1).elim, er, h⟩
theorem rngW_one (lo : Int) (n : Nat) (i : Nat) : lo + (i : Int) * 1 = lo + i := by rw [Int.mul_one]
theorem w_r1 (C : Ctx g k X Wx) {tg a : Expr} {p pos : Pos} {ta : TEW} (hg : Gl X "range") (hs : notStar a = true) (ha : PE X a (lowE X.K Wx ta)) :
    PI X tg (.Call (.Name "range" p) [a] [] pos) (lowI X.K Wx fun σ H Q E => ta σ H (fun x H1 => ∃ n : Int, x = .int n ∧ -(2 ^ 62) ≤ n ∧ n < 2 ^ 62 ∧ Q (rngW 0 n.toNat 1) (fun _ => True) H1) E) :=
  PI.imp (pi_range1 hg (C.free _ (by simp)) (pa_cons ha pa_nil (starEach_cons hs)) (starEach_cons hs)) fun σ H R ⟨F, σ', H', R', E', rs, ab, ir, er, h⟩ => ⟨F, σ', H', _, E', rs, ab, fun x H1' hx F1 v H1 s1 rx ab1 => by
    obtain ⟨n, rfl, b1, b2, hq⟩ := hx
    refine ⟨n, by rw [show v = V.int n from rx], b1, b2, ir _ _ H1' hq F1 H1 _ s1 ab1 (walk_rng (fun i H => Iff.rfl) (fun i H v H2 y => ⟨y.1, ?_⟩) fun i H z => z)⟩
    rw [rngW_one]
    · exact y.2
    · exact 0, er, h⟩
theorem w_r2 (C : Ctx g k X Wx) {tg a b : Expr} {p pos : Pos} {ta tb : TEW} (hg : Gl X "range") (hs : notStar a = true) (hs2 : notStar b = true) (ha : PE X a (lowE X.K Wx ta)) (hb : PE X b (lowE X.K Wx tb)) :
    PI X tg (.Call (.Name "range" p) [a, b] [] pos) (lowI X.K Wx fun σ H Q E => ta σ H (fun x H1 => tb σ H1 (fun y H2 => ∃ i j : Int, x = .int i ∧ y = .int j ∧ (-(2 ^ 62) ≤ i ∧ i < 2 ^ 62 ∧ -(2 ^ 62) ≤ j ∧ j < 2 ^ 62) ∧ Q (rngW i (j - i).toNat 1) (fun _ => True) H2) E) E) :=
  PI.imp (pi_range2 hg (C.free _ (by simp)) (pa_cons ha (pa_cons hb pa_nil (starEach_cons hs2)) (starEach_cons hs)) (by rw [starEach_cons hs, starEach_cons hs2]; rfl) (starEach_cons hs2)) fun σ H R ⟨F, σ', H', R', E', rs, ab, ir, er, h⟩ => ⟨F, σ', H', _, E', rs, ab, fun x H1' hx F1 v H1 s1 rx ab1 =>
    ⟨F1, σ', H1', _, E', rs.mono s1, ab1, fun y H2' hy F2 v' H2 s2 ry ab2 => by
      obtain ⟨i, j, rfl, rfl, b1, hq⟩ := hy
      refine ⟨i, j, by rw [show v = V.int i from rx, show v' = V.int j from ry], b1, ir _ _ H2' hq F2 H2 _ (s1.trans s2) ab2 (walk_rng (fun i H => Iff.rfl) (fun i H v H2 y => ⟨y.1, ?_⟩) fun i H z => z)⟩
      rw [rngW_one]
      · exact y.2
      · exact 0, er.mono s1, hx⟩, er, h⟩
theorem w_r3 (C : Ctx g k X Wx) {tg a b c : Expr} {p pos : Pos} {ta tb tc : TEW} (hg : Gl X "range") (hs : notStar a = true) (hs2 : notStar b = true) (hs3 : notStar c = true) (ha : PE X a (lowE X.K Wx ta)) (hb : PE X b (lowE X.K Wx tb)) (hc : PE X c (lowE X.K Wx tc)) :
    PI X tg (.Call (.Name "range" p) [a, b, c] [] pos) (lowI X.K Wx fun σ H Q E => ta σ H (fun x H1 => tb σ H1 (fun y H2 => tc σ H2 (fun z H3 => ∃ i j k n, x = .int i ∧ y = .int j ∧ z = .int k ∧ RgC i j k n ∧ Q (rngW i n k) (fun _ => True) H3) E) E) E) :=
  PI.imp (pi_range3 hg (C.free _ (by simp)) (pa_cons ha (pa_cons hb (pa_cons hc pa_nil (starEach_cons hs3)) (starEach_cons hs2)) (starEach_cons hs)) (starEach_cons hs) (backTo_any (by simp [hs2, hs3]))) fun σ H R ⟨F, σ', H', R', E', rs, ab, ir, er, h⟩ =>
    ⟨F, σ', H', _, E', rs, ab, fun x H1' hx F1 v H1 s1 rx ab1 => ⟨F1, σ', H1', _, E', rs.mono s1, ab1, fun y H2' hy F2 v' H2 s2 ry ab2 => ⟨F2, σ', H2', _, E', rs.mono (s1.trans s2), ab2, fun z H3' hz F3 v3 H3 s3 rz ab3 => by
      obtain ⟨i, j, k, n, rfl, rfl, rfl, b1, hq⟩ := hz
      exact ⟨i, j, k, n, by rw [show v = V.int i from rx, show v' = V.int j from ry, show v3 = V.int k from rz], b1, ir _ _ H3' hq F3 H3 _ ((s1.trans s2).trans s3) ab3 (walk_rng (fun i H => Iff.rfl) (fun i H v H2 y => y) fun i H z => z)⟩, er.mono (s1.trans s2), hy⟩, er.mono s1, hx⟩, er, h⟩

/-! ### comprehensions -/
theorem RelS.wipe1 {K : PySem.W.Frag} {F : Hp} {σ' : Sw} {σ : L2.St} (r : RelS K F σ' σ) (i : Nat) : RelS K F (σ'.set i none) (wipe σ [i]) := r.unset i
theorem set_set_none {α : Type} : ∀ (l : List (Option α)) (i : Nat) (v : Option α), ((l.set i v).set i none) = l.set i none
  | [], _, _ => rfl
  | _ :: _, 0, _ => rfl
  | x :: l, i + 1, v => congrArg (x :: ·) (set_set_none l i v)
theorem low_lcm {i : Nat} {it : TIW} {t : TTW} {elt : TEW} (h : lowE X.K Wx (compW i it t elt) σ H Q) :
    tLc (lowI X.K Wx it) (gName i) (lowT X.K (fun _ _ _ _ => False) t) (lowE X.K (fun _ _ _ _ => False) elt) [i] σ H Q := by
  obtain ⟨F, σ', H', Q', E', rs, ab, qr, er, h⟩ := h
  refine ⟨F, σ', H', _, E', rs, ab, fun items stay H1' hx F1 H1 J s1 ab1 wk D hD => ?_, er, h⟩
  have r1 := (rs.mono s1).wipe1 i
  have hD' := ab1.noH hD
  have ab2 : AbH X.K F1 (updW H1' D (.lst [])) (upd H1 D (.lst [])) := ab1.new hD ⟨[], rfl, rfl⟩
  have h0 := hx D hD'
  refine ⟨fun j m Hm => m = items.length - j ∧ j ≤ items.length ∧ ∃ F2 Hw2, Same F1 F2 ∧ AbH X.K F2 Hw2 Hm ∧ compGo D (σ'.set i none) i stay t elt (fun H2 => Q' (.ref D) H2 ∨ ∃ acc, H2 D = some (.lst acc) ∧ Q' (.fls acc) (delW H2 D)) (items.drop j) Hw2,
    ⟨items.length, by simp, Nat.zero_le _, F1, _, Same.refl _, ab2, h0⟩, ?_⟩
  rintro j m Hm ⟨rfl, hj, F2, Hw2, s2, ab3, hgo⟩
  by_cases hlt : j < items.length
  · have ed : items.drop j = items[j] :: items.drop (j + 1) := List.drop_eq_getElem_cons hlt
    rw [ed] at hgo
    obtain ⟨hst, hgo⟩ := hgo
    obtain ⟨w1, w2⟩ := wk F2 Hw2 Hm s2 ab3 hst
    obtain ⟨g1, g2⟩ := w1 j items[j] (List.getElem?_eq_getElem hlt)
    have nextW : ∀ {F3 : Hp} {Hw3 : Hw} {H3 : Hp}, Same F1 F3 → AbH X.K F3 Hw3 H3 → compGo D (σ'.set i none) i stay t elt (fun H2 => Q' (.ref D) H2 ∨ ∃ acc, H2 D = some (.lst acc) ∧ Q' (.fls acc) (delW H2 D)) (items.drop (j + 1)) Hw3 →
        (∃ F2 Hw2, Same F1 F2 ∧ AbH X.K F2 Hw2 H3 ∧ compGo D (σ'.set i none) i stay t elt (fun H2 => Q' (.ref D) H2 ∨ ∃ acc, H2 D = some (.lst acc) ∧ Q' (.fls acc) (delW H2 D)) (items.drop (j + 1)) Hw2) := fun a b c => ⟨_, _, a, b, c⟩
    refine .inr ⟨g1, fun Hn => ∃ F2 Hw2, Same F1 F2 ∧ AbH X.K F2 Hw2 Hn ∧ compGo D (σ'.set i none) i stay t elt (fun H2 => Q' (.ref D) H2 ∨ ∃ acc, H2 D = some (.lst acc) ∧ Q' (.fls acc) (delW H2 D)) (items.drop (j + 1)) Hw2,
      fun Hn hn => ⟨items.length - (j + 1), by omega, rfl, hlt, hn⟩, fun x Hy hy => ?_⟩
    obtain ⟨eH, rx⟩ := g2 x Hy hy
    subst eH
    refine ⟨?_, ?_⟩
    · show ((wipe σ [i]).set i (some x)).set i none = σ.set i none
      rw [set_set_none]
      exact set_set_none σ i none
    · have r3 : RelS X.K F2 ((σ'.set i none).set i (some items[j])) ((wipe σ [i]).set i (some x)) := (r1.mono s2).set rx i
      refine ⟨F2, _, Hw2, _, _, r3, ab3, fun b H3' hb F3 H3 s3 ab4 => ?_, (fun C H3' hC => hC.elim), hgo⟩
      cases b with
      | false =>
        rw [if_neg Bool.false_ne_true] at hb ⊢
        exact nextW (s2.trans s3) ab4 hb
      | true =>
        rw [if_pos rfl] at hb ⊢
        refine ⟨F3, _, H3', _, _, r3.mono s3, ab4, fun y H4' hy F4 v H4 s4 ry ab5 => ?_, (fun C H3' hC => hC.elim), hb⟩
        obtain ⟨acc, ea, hl, hgo2⟩ := hy
        obtain ⟨vs, ev, rv⟩ := ab5.list ea
        exact ⟨vs, ev, by rw [← rv.length]; exact hl, nextW ((s2.trans s3).trans s4) (ab5.write (w := .lst (acc ++ [y])) ea ⟨_, rfl, rv.append (.cons ry .nil)⟩) hgo2⟩
  · have ej : j = items.length := by omega
    subst ej
    rw [List.drop_length] at hgo
    obtain ⟨hst, hq⟩ := hgo
    obtain ⟨w1, w2⟩ := wk F2 Hw2 Hm s2 ab3 hst
    refine .inl ⟨w2, ?_⟩
    rcases hq with hq | ⟨acc, ea, hq⟩
    · exact (qr.mono (s1.trans s2)).ref ab3 hq
    · obtain ⟨F3, s3, ab4, r4⟩ := ab3.freeze ea
      exact qr _ _ hq F3 _ _ ((s1.trans s2).trans s3) r4 ab4
end
end WL

/-! ## The rules, lowered: displays, statements -/
namespace WL
open PySem L2
section
variable {g : Gm} {k : Nat} {X : Cx} {Wx : WX} {σ : L2.St} {H : Hp} {Q : VK}
def trsOf (K : PySem.W.Frag) (Wx : WX) (g : Gm) : CPs → List (TE × TE)
  | .nil => []
  | .cons a b r => (lowE K Wx (denE g a), lowE K Wx (denE g b)) :: trsOf K Wx g r
def PR (K : PySem.W.Frag) (F : Hp) (P' : List (Key × W) → Hw → Prop) (P : List (V × V) → Hp → Prop) : Prop :=
  ∀ kvs H', P' kvs H' → ∀ F1 vs H, Same F F1 → RelKs K F1 kvs vs → AbH K F1 H' H → P (vs.map fun kv => (kV kv.1, kv.2)) H
theorem low_pairs : ∀ (ps : CPs) {F : Hp} {σ' : Sw} {H' : Hw} {H : Hp} {P' : List (Key × W) → Hw → Prop} {P : List (V × V) → Hp → Prop} {E' : EW}, RelS X.K F σ' σ → AbH X.K F H' H → PR X.K F P' P → ER X.K F Wx σ E' → denP g ps σ' H' P' E' →
    tPairs (trsOf X.K Wx g ps) σ H P
  | .nil, F, σ', H', H, P', P, E', rs, ab, pr, er, h => pr [] H' h F [] H (Same.refl _) rfl ab
  | .cons a b r, F, σ', H', H, P', P, E', rs, ab, pr, er, h => by
    refine ⟨F, σ', H', _, E', rs, ab, fun x H1' hx F1 v H1 s1 rx ab1 => ?_, er, h⟩
    refine ⟨F1, σ', H1', _, E', rs.mono s1, ab1, fun y H2' hy F2 u H2 s2 ry ab2 => ?_, er.mono s1, hx⟩
    refine low_pairs r (rs.mono (s1.trans s2)) ab2 (fun kvs H3' hk F3 vs H3 s3 rk ab3 => ?_) (er.mono (s1.trans s2)) hy
    obtain ⟨j, hj, hp⟩ := hk
    have e := pr _ H3' hp F3 ((j, u) :: vs) H3 ((s1.trans s2).trans s3) ⟨u, vs, rfl, RelW.mono s3 y ry, rk⟩ ab3
    rw [keyW_low (RelW.mono (s2.trans s3) x rx) hj]
    exact e
theorem RelKs.foldPut {K : PySem.W.Frag} {F : Hp} : ∀ {kvs : List (Key × W)} {vs : List (Key × V)} {a : List (Key × W)} {b : List (Key × V)}, RelKs K F kvs vs → RelKs K F a b → RelKs K F (kvs.foldl (fun acc kv => putKW acc kv.1 kv.2) a) (mergeK b vs)
  | [], _, a, b, h, h2 => by
    rw [show _ = [] from h]
    exact h2
  | x :: xs, _, a, b, ⟨v, r, e, h, t⟩, h2 => by
    rw [e]
    exact RelKs.foldPut (kvs := xs) (vs := r) (a := putKW a x.1 x.2) (b := putK b x.1 v) t (h2.put x.1 h)
theorem RelKs.len_eq {K : PySem.W.Frag} {F : Hp} {kvs : List (Key × W)} {vs : List (Key × V)} (r : RelKs K F kvs vs) : kvs.length = vs.length := r.length
theorem w_dct {keys : List (Option Expr)} {values : List Expr} {pos : Pos} {ps : CPs} (h : PPs X pos keys values (trsOf X.K Wx g ps)) (hall : keys.all (·.isSome) = true) (hl : keys.length = values.length) (h0 : keys ≠ []) (h15 : keys.length ≤ 15) :
    PE X (.Dict keys values pos) (lowE X.K Wx (denE g (.dct ps))) :=
  PE.imp (pe_disp h hall hl h0 h15) fun σ H Q ⟨F, σ', H', Q', E', rs, ab, qr, er, h⟩ p hp =>
    low_pairs ps rs (ab.new (w := .dct []) hp ⟨[], rfl, rfl⟩) (fun kvs H1' hk F1 vs H1 s1 rk ab1 => by
      obtain ⟨e, h1, h2⟩ := hk
      obtain ⟨us, eu, ru⟩ := ab1.dict e
      have e0 : us = [] := ru
      rw [e0] at eu
      exact ⟨eu, vs, rfl, by rw [← rk.length]; exact h1, qr _ _ h2 F1 _ _ s1 rfl (ab1.write e ⟨_, rfl, rk.foldPut rfl⟩)⟩) er (h p (ab.noH hp))

/-! ### statements -/
structure DR (K : PySem.W.Frag) (Wx : WX) (F : Hp) (D' : EndW) (D : Ends) : Prop where
  nx : ∀ σ' H', D'.nx σ' H' → ∀ F1 σ H, Same F F1 → RelS K F1 σ' σ → AbH K F1 H' H → D.nx σ H
  rt : QR K F D'.rt D.rt
  bk : ∀ σ' H', D'.bk σ' H' → ∀ F1 σ H, Same F F1 → RelS K F1 σ' σ → AbH K F1 H' H → D.bk σ H
  ct : ∀ σ' H', D'.ct σ' H' → ∀ F1 σ H, Same F F1 → RelS K F1 σ' σ → AbH K F1 H' H → D.ct σ H
  ex : ∀ C σ' H', D'.ex C σ' H' → ∀ F1 σ H, Same F F1 → RelS K F1 σ' σ → AbH K F1 H' H → Wx (.ref C) none σ H
theorem DR.mono {K : PySem.W.Frag} {F F1 : Hp} {D' : EndW} {D : Ends} (d : DR K Wx F D' D) (s : Same F F1) : DR K Wx F1 D' D :=
  ⟨fun a b c F2 σ H s2 => d.nx a b c F2 σ H (s.trans s2), d.rt.mono s, fun a b c F2 σ H s2 => d.bk a b c F2 σ H (s.trans s2), fun a b c F2 σ H s2 => d.ct a b c F2 σ H (s.trans s2), fun C a b c F2 σ H s2 => d.ex C a b c F2 σ H (s.trans s2)⟩
theorem DR.er {K : PySem.W.Frag} {F : Hp} {D' : EndW} {D : Ends} {σ' : Sw} {σ : L2.St} (d : DR K Wx F D' D) (rs : RelS K F σ' σ) : ER K F Wx σ fun C H1 => D'.ex C σ' H1 := fun C H' h F1 H s ab => d.ex C σ' H' h F1 σ H s (rs.mono s) ab
def lowS (K : PySem.W.Frag) (Wx : WX) (t : TSW) : TS := fun D σ H => ∃ F σ' H' D', RelS K F σ' σ ∧ AbH K F H' H ∧ DR K Wx F D' D ∧ t D' σ' H'
theorem s_pass {pos : Pos} : PS X (.Pass pos) (lowS X.K Wx fun D σ H => D.nx σ H) := PS.imp ps_pass fun D σ H ⟨F, σ', H', D', rs, ab, d, h⟩ => d.nx σ' H' h F σ H (Same.refl _) rs ab
theorem s_nil : PSs X [] (lowS X.K Wx fun D σ H => D.nx σ H) := PSs.imp pss_nil fun D σ H ⟨F, σ', H', D', rs, ab, d, h⟩ => d.nx σ' H' h F σ H (Same.refl _) rs ab
theorem s_cons {s : Stmt} {r : List Stmt} {a b : TSW} (h1 : PS X s (lowS X.K Wx a)) (h2 : PSs X r (lowS X.K Wx b)) : PSs X (s :: r) (lowS X.K Wx (seqW a b)) :=
  PSs.imp (pss_cons h1 h2) fun D σ H ⟨F, σ', H', D', rs, ab, d, h⟩ => ⟨F, σ', H', { D' with nx := b D' }, rs, ab, ⟨fun σ1' H1' hn F1 σ1 H1 s1 rs1 ab1 => ⟨F1, σ1', H1', D', rs1, ab1, d.mono s1, hn⟩, d.rt, d.bk, d.ct, d.ex⟩, h⟩
theorem s_expr {e : Expr} {pos : Pos} {te : TEW} (he : PE X e (lowE X.K Wx te)) (hs : notComp e = true) : PS X (.Expr e pos) (lowS X.K Wx fun D σ H => te σ H (fun _ H1 => D.nx σ H1) fun C H1 => D.ex C σ H1) :=
  PS.imp (ps_expr he (swaps_of hs)) fun D σ H ⟨F, σ', H', D', rs, ab, d, h⟩ => ⟨F, σ', H', _, _, rs, ab, fun x H1' hx F1 v H1 s1 rx ab1 => d.nx σ' H1' hx F1 σ H1 s1 (rs.mono s1) ab1, d.er rs, h⟩
theorem s_ret {e : Expr} {pos : Pos} {te : TEW} (he : PE X e (lowE X.K Wx te)) : PS X (.Return (some e) pos) (lowS X.K Wx fun D σ H => te σ H D.rt fun C H1 => D.ex C σ H1) :=
  PS.imp (ps_ret he) fun D σ H ⟨F, σ', H', D', rs, ab, d, h⟩ => ⟨F, σ', H', _, _, rs, ab, d.rt, d.er rs, h⟩
theorem s_retN {pos : Pos} : PS X (.Return none pos) (lowS X.K Wx fun D _ H => D.rt .non H) :=
  PS.imp ps_retN fun D σ H ⟨F, σ', H', D', rs, ab, d, h⟩ => d.rt.non ab h
theorem s_if {c : Expr} {a b : List Stmt} {pos : Pos} {tc : TTW} {ta tb : TSW} (hc : PT X c (lowT X.K Wx tc)) (ha : PSs X a (lowS X.K Wx ta)) (hb : PSs X b (lowS X.K Wx tb)) :
    PS X (.If c a b pos) (lowS X.K Wx fun D σ H => tc σ H (fun c H1 => if c = true then ta D σ H1 else tb D σ H1) fun C H1 => D.ex C σ H1) :=
  PS.imp (ps_if hc ha hb) fun D σ H ⟨F, σ', H', D', rs, ab, d, h⟩ => ⟨F, σ', H', _, _, rs, ab, fun c H1' hc F1 H1 s1 ab1 => by
    cases c with
    | true =>
      rw [if_pos rfl] at hc ⊢
      exact ⟨F1, σ', H1', D', rs.mono s1, ab1, d.mono s1, hc⟩
    | false =>
      rw [if_neg Bool.false_ne_true] at hc ⊢
      exact ⟨F1, σ', H1', D', rs.mono s1, ab1, d.mono s1, hc⟩, d.er rs, h⟩
theorem s_set {i : Nat} {x : Str} {e : Expr} {te : TEW} {pos pos' : Pos} (hN : X.N.Nodup) (hi : X.N[i]? = some x) (hx : Loc X.env.scope x) (hf : X.fn x = true ∨ X.env.scope.names.lookup x = some .local) (he : PE X e (lowE X.K Wx te)) (hs : swapsWith e (some (.Name x pos')) pos.line X.env = pure false) :
    PS X (.Assign [.Name x pos'] e pos) (lowS X.K Wx fun D σ H => te σ H (fun x H1 => D.nx (σ.set i (some x)) H1) fun C H1 => D.ex C σ H1) :=
  PS.imp (ps_set hN hi hx he hs hf) fun D σ H ⟨F, σ', H', D', rs, ab, d, h⟩ => ⟨F, σ', H', _, _, rs, ab, fun w H1' hw F1 v H1 s1 rw' ab1 => d.nx _ H1' hw F1 _ H1 s1 ((rs.mono s1).set rw' i) ab1, d.er rs, h⟩
theorem s_setLc {i j : Nat} {x y : Str} {elt it : Expr} {ifs : List Expr} {scope : Scope} {pos spos py px : Pos} {ti : TIW} {tt : TTW} {te : TEW} (hc : X.calm = true) (hN : X.N.Nodup) (hy : X.N[i]? = some y) (hyl : X.env.scope.names.lookup y = some .local)
    (hsw : swapsWith (.ListComp elt [⟨.Name x px, it, ifs, 0⟩] scope pos) (some (.Name y py)) spos.line X.env = pure true) (hi : PI X (.Name x px) it (lowI X.K Wx ti)) (ok : BlkOk X.N X.env.scope scope [(x, j)])
    (hg : ∀ (s : Shared) (H : Hp) (C : Addr) (cl : List (Str × Addr)) (fp : List Addr), PG (X.blk s H scope (compEnvC scope cl C X.env) fp) (.Name x px) (gName j))
    (ht : ∀ (s : Shared) (H : Hp) (C : Addr) (cl : List (Str × Addr)) (fp : List Addr), PTs (X.blk s H scope (compEnvC scope cl C X.env) fp) ifs (lowT X.K (fun _ _ _ _ => False) tt))
    (he : ∀ (s : Shared) (H : Hp) (C : Addr) (cl : List (Str × Addr)) (fp : List Addr), PE (X.blk s H scope (compEnvC scope cl C X.env) fp) elt (lowE X.K (fun _ _ _ _ => False) te)) (hs : ∀ z, foldedSetIterable it X.env z = pure z) :
    PS X (.Assign [.Name y py] (.ListComp elt [⟨.Name x px, it, ifs, 0⟩] scope pos) spos) (lowS X.K Wx fun D σ H => compW j ti tt te σ H (fun x H1 => D.nx (σ.set i (some x)) H1) fun C H1 => D.ex C σ H1) :=
  PS.imp (ps_setLc (own := [(x, j)]) hc hN hy hyl hsw hi ok hg ht he hs) fun D σ H ⟨F, σ', H', D', rs, ab, d, h⟩ =>
    low_lcm (Q := fun x H1 => D.nx (σ.set i (some x)) H1) ⟨F, σ', H', _, _, rs, ab, fun w H1' hw F1 v H1 s1 rw' ab1 => d.nx _ H1' hw F1 _ H1 s1 ((rs.mono s1).set rw' i) ab1, d.er rs, h⟩
theorem s_fset (S : Says g k X) {o value : Expr} {f : Str} {pos pos' : Pos} {to tv : TEW} (ho : PE X o (lowE X.K Wx to)) (hv : PE X value (lowE X.K Wx tv)) (hs : swapsWith value (some (.Attribute o f pos')) pos.line X.env = pure false) :
    PS X (.Assign [.Attribute o f pos'] value pos) (lowS X.K Wx fun D σ H => tv σ H (fun y H1 => to σ H1 (fun x H2 => ∃ a C fs, x = .ref a ∧ H2 a = some (.ins C fs) ∧ g.fld C f ∧ fs.length < 1000 ∧ D.nx σ (updW H2 a (.ins C (putFW f y fs)))) fun C H1 => D.ex C σ H1) fun C H1 => D.ex C σ H1) :=
  PS.imp (ps_fld ho hv hs) fun D σ H ⟨F, σ', H', D', rs, ab, d, h⟩ => ⟨F, σ', H', _, _, rs, ab, fun y H1' hy F1 v H1 s1 ry ab1 => ⟨F1, σ', H1', _, _, rs.mono s1, ab1, fun x H2' hx F2 u H2 s2 rx ab2 => by
    obtain ⟨a, C, fs, rfl, h1, h2, h3, h4⟩ := hx
    obtain ⟨dx, vs, e, rk⟩ := ab2.inst h1
    obtain ⟨c1, c2⟩ := S.fld C f h2
    exact ⟨a, C, dx, vs, rx, e, c1, c2, by rw [← rk.length]; exact h3, d.nx _ _ h4 F2 _ _ (s1.trans s2) (rs.mono (s1.trans s2)) (ab2.write h1 ⟨dx, _, rfl, RelKs.putF (RelW.mono s2 y ry) rk⟩)⟩, (d.er rs).mono s1, hy⟩, d.er rs, h⟩
/-- o[i] = e, of a dict, or of a list -/
def sISet (tv to ti : TE) : TS := fun D σ H => tv σ H fun v H1 => to σ H1 fun x H2 => ti σ H2 fun y H3 => (∃ a H4, x = .ref a ∧ DPut H3 a y v H4 ∧ D.nx σ H4) ∨ rSetL x y v H3 fun H4 => D.nx σ H4
theorem ps_iset {o i value : Expr} {pos pos' : Pos} {to ti tv : TE} (hu : X.A.units + 1 < cLine) (ho : PE X o to) (hi : PE X i ti) (hv : PE X value tv) (hs : swapsWith value (some (.Subscript o i pos')) pos.line X.env = pure false) :
    PS X (.Assign [.Subscript o i pos'] value pos) (sISet tv to ti) := by
  refine ⟨fun pins s σ H D I h => wpAny_Assign_Subscript (L2.thn (hv.run pins s σ H _ I h) fun r s1 ⟨v, H1, I1, rv, q1⟩ => L2.thn (ho.run pins s1 σ H1 _ I1 q1) fun u s2 ⟨x, H2, I2, rx, q2⟩ => L2.thn (hi.run pins s2 σ H2 _ I2 q2) fun iv s3 ⟨y, H3, I3, ry, q3⟩ => ?_) hs⟩
  rcases q3 with ⟨a, H4, ex, dp, q⟩ | q
  · subst ex
    obtain rfl : u = Value.ref a := rx
    exact d_setItem hu I3 dp ry rv fun s4 I4 => ⟨σ, H4, I4, q⟩
  · exact L2.thn (set_list pins s3 σ H3 x y v u iv r _ I3 rx ry rv q) fun _ s4 ⟨H4, I4, q4⟩ => ⟨σ, H4, I4, q4⟩
theorem RelWs.setAt {K : PySem.W.Frag} {F : Hp} {w : W} {u : V} (ru : RelW K F w u) : ∀ {ws : List W} {vs : List V} (i : Nat), RelWs K F ws vs → RelWs K F (ws.set i w) (vs.set i u)
  | [], _, _, h => by
    rw [show _ = [] from h]
    exact rfl
  | x :: ws, _, 0, ⟨v, r, e, h, t⟩ => by
    rw [e]
    exact .cons ru t
  | x :: ws, _, i + 1, ⟨v, r, e, h, t⟩ => by
    rw [e]
    exact .cons h (RelWs.setAt ru i t)
theorem s_iset (C : Ctx g k X Wx) {o i value : Expr} {pos pos' : Pos} {to ti tv : TEW} (ho : PE X o (lowE X.K Wx to)) (hi : PE X i (lowE X.K Wx ti)) (hv : PE X value (lowE X.K Wx tv)) (hs : swapsWith value (some (.Subscript o i pos')) pos.line X.env = pure false) :
    PS X (.Assign [.Subscript o i pos'] value pos) (lowS X.K Wx fun D σ H => tv σ H (fun y H1 => to σ H1 (fun x H2 => ti σ H2 (fun z H3 =>
      (∃ a kvs j, x = .ref a ∧ H3 a = some (.dct kvs) ∧ keyW z = some j ∧ kvs.length < sizeLine ∧ D.nx σ (updW H3 a (.dct (putKW kvs j y)))) ∨
      ∃ a xs j n, x = .ref a ∧ H3 a = some (.lst xs) ∧ z = .int j ∧ ixN xs.length j = some n ∧ D.nx σ (updW H3 a (.lst (xs.set n y)))) fun C H1 => D.ex C σ H1) fun C H1 => D.ex C σ H1) fun C H1 => D.ex C σ H1) :=
  PS.imp (ps_iset C.hu ho hi hv hs) fun D σ H ⟨F, σ', H', D', rs, ab, d, h⟩ => ⟨F, σ', H', _, _, rs, ab, fun y H1' hy F1 v H1 s1 ry ab1 => ⟨F1, σ', H1', _, _, rs.mono s1, ab1, fun x H2' hx F2 u H2 s2 rx ab2 =>
    ⟨F2, σ', H2', _, _, rs.mono (s1.trans s2), ab2, fun z H3' hz F3 w H3 s3 rz ab3 => by
      have s := (s1.trans s2).trans s3
      have ry3 := RelW.mono (s2.trans s3) y ry
      rcases hz with ⟨a, kvs, j, rfl, h1, h2, h3, h4⟩ | ⟨a, xs, j, n, rfl, h1, rfl, h2, h4⟩
      · obtain ⟨vs, e, rk⟩ := ab3.dict h1
        exact .inl ⟨a, _, rx, .inl ⟨vs, j, e, keyW_low rz h2, by rw [← rk.length]; exact h3, rfl⟩, d.nx _ _ h4 F3 _ _ s (rs.mono s) (ab3.write h1 ⟨_, rfl, rk.put j ry3⟩)⟩
      · obtain ⟨vs, e, rk⟩ := ab3.list h1
        exact .inr ⟨a, vs, j, n, rx, rz, e, by rw [← rk.length]; exact h2, d.nx _ _ h4 F3 _ _ s (rs.mono s) (ab3.write (w := .lst (xs.set n y)) h1 ⟨_, rfl, rk.setAt ry3 n⟩)⟩, (d.er rs).mono (s1.trans s2), hx⟩, (d.er rs).mono s1, hy⟩, d.er rs, h⟩
/-! loops -/
theorem s_for {x : Str} {i : Nat} {it : Expr} {body : List Stmt} {pos px : Pos} {ti : TIW} {tb : TSW} (hp : PassesOwn (model X.prog X.w) X.A X.env X.xe) (hc : X.calm = true) (hi : PI X (.Name x px) it (lowI X.K Wx ti)) (hg : PG X (.Name x px) (gName i)) (hb : PSs X body (lowS X.K Wx tb)) (hs : ∀ z, foldedSetIterable it X.env z = pure z) :
    PS X (.For (.Name x px) it body [] pos) (lowS X.K Wx fun D σ H => ti σ H (fun xs stay H1 => loopW stay i tb D xs σ H1) fun C H1 => D.ex C σ H1) :=
  PS.imp (ps_for hp hc hi hg hb hs) fun D σ H ⟨F, σ', H', D', rs, ab, d, h⟩ => by
    refine ⟨F, σ', H', _, _, rs, ab, fun items stay H1' hx F1 H1 J s1 ab1 wk => ?_, d.er rs, h⟩
    refine ⟨fun j m σm Hm => m = items.length - j ∧ j ≤ items.length ∧ ∃ F2 σ2 Hw2, Same F1 F2 ∧ RelS X.K F2 σ2 σm ∧ AbH X.K F2 Hw2 Hm ∧ loopW stay i tb D' (items.drop j) σ2 Hw2,
      ⟨items.length, by simp, Nat.zero_le _, F1, σ', H1', Same.refl _, rs.mono s1, ab1, hx⟩, ?_⟩
    rintro j m σm Hm ⟨rfl, hj, F2, σ2, Hw2, s2, rs2, ab2, hgo⟩
    by_cases hlt : j < items.length
    · have ed : items.drop j = items[j] :: items.drop (j + 1) := List.drop_eq_getElem_cons hlt
      rw [ed] at hgo
      obtain ⟨hst, hgo⟩ := hgo
      obtain ⟨w1, w2⟩ := wk F2 Hw2 Hm s2 ab2 hst
      obtain ⟨g1, g2⟩ := w1 j items[j] (List.getElem?_eq_getElem hlt)
      refine .inr ⟨g1, fun σn Hn => ∃ F3 σ3 Hw3, Same F1 F3 ∧ RelS X.K F3 σ3 σn ∧ AbH X.K F3 Hw3 Hn ∧ loopW stay i tb D' (items.drop (j + 1)) σ3 Hw3, fun σn Hn hn => ⟨items.length - (j + 1), by omega, rfl, hlt, hn⟩, fun v Hy hy => ?_⟩
      obtain ⟨eH, rx⟩ := g2 v Hy hy
      subst eH
      refine ⟨F2, _, Hw2, { D' with nx := loopW stay i tb D' (items.drop (j + 1)), ct := loopW stay i tb D' (items.drop (j + 1)), bk := D'.nx }, rs2.set rx i, ab2, ⟨fun a b c F3 σ3 H3 s3 r3 ab3 => ?_, d.rt.mono (s1.trans s2), fun a b c F3 σ3 H3 s3 r3 ab3 => ?_, fun a b c F3 σ3 H3 s3 r3 ab3 => ?_, fun C a b c F3 σ3 H3 s3 r3 ab3 => ?_⟩, hgo⟩
      · exact ⟨F3, a, b, s2.trans s3, r3, ab3, c⟩
      · exact d.nx a b c F3 σ3 H3 ((s1.trans s2).trans s3) r3 ab3
      · exact ⟨F3, a, b, s2.trans s3, r3, ab3, c⟩
      · exact d.ex C a b c F3 σ3 H3 ((s1.trans s2).trans s3) r3 ab3
    · have ej : j = items.length := by omega
      subst ej
      rw [List.drop_length] at hgo
      obtain ⟨hst, hq⟩ := hgo
      obtain ⟨w1, w2⟩ := wk F2 Hw2 Hm s2 ab2 hst
      exact .inl ⟨w2, d.nx _ _ hq F2 _ _ (s1.trans s2) rs2 ab2⟩
theorem s_whl {c : Expr} {body : List Stmt} {pos : Pos} {tc : TTW} {tb : TSW} (hp : PassesOwn (model X.prog X.w) X.A X.env X.xe) (hc : PT X c (lowT X.K Wx tc)) (hb : PSs X body (lowS X.K Wx tb)) :
    PS X (.While c body [] pos) (lowS X.K Wx fun D σ H => ∃ n, whileW tc tb D n σ H) :=
  PS.imp (ps_while hp hc hb) fun D σ H ⟨F, σ', H', D', rs, ab, d, n, h⟩ => by
    refine ⟨fun m σm Hm => ∃ F2 σ2 Hw2, Same F F2 ∧ RelS X.K F2 σ2 σm ∧ AbH X.K F2 Hw2 Hm ∧ whileW tc tb D' m σ2 Hw2, ⟨n, F, σ', H', Same.refl _, rs, ab, h⟩, ?_⟩
    rintro m σm Hm ⟨F2, σ2, Hw2, s2, rs2, ab2, hw⟩
    cases m with
    | zero => exact hw.elim
    | succ m =>
      refine ⟨F2, σ2, Hw2, _, _, rs2, ab2, fun b H3' hb F3 H3 s3 ab3 => ?_, (d.mono s2).er rs2, hw⟩
      cases b with
      | true =>
        rw [if_pos rfl] at hb ⊢
        refine ⟨fun σn Hn => ∃ F3 σ3 Hw3, Same F F3 ∧ RelS X.K F3 σ3 σn ∧ AbH X.K F3 Hw3 Hn ∧ whileW tc tb D' m σ3 Hw3, fun σn Hn hn => ⟨m, Nat.lt_succ_self m, hn⟩, ?_⟩
        refine ⟨F3, σ2, H3', { D' with nx := whileW tc tb D' m, ct := whileW tc tb D' m, bk := D'.nx }, rs2.mono s3, ab3, ⟨fun a b c F4 σ4 H4 s4 r4 ab4 => ?_, d.rt.mono (s2.trans s3), fun a b c F4 σ4 H4 s4 r4 ab4 => ?_, fun a b c F4 σ4 H4 s4 r4 ab4 => ?_, fun C a b c F4 σ4 H4 s4 r4 ab4 => ?_⟩, hb⟩
        · exact ⟨F4, a, b, (s2.trans s3).trans s4, r4, ab4, c⟩
        · exact d.nx a b c F4 σ4 H4 ((s2.trans s3).trans s4) r4 ab4
        · exact ⟨F4, a, b, (s2.trans s3).trans s4, r4, ab4, c⟩
        · exact d.ex C a b c F4 σ4 H4 ((s2.trans s3).trans s4) r4 ab4
      | false =>
        rw [if_neg Bool.false_ne_true] at hb ⊢
        exact d.nx σ2 H3' hb F3 _ H3 (s2.trans s3) (rs2.mono s3) ab3
/-! raise, try -/
theorem s_raise (C : Ctx g k X Wx) {x m : Str} {j : Nat} {p p2 pos pos2 : Pos} (hg : Gl X x) (hdb : (x == ("__debug__" : Str)) = false) : PS X (.Raise (some (.Call (.Name x p) [.Constant (.str m) j p2] [] pos)) none pos2) (lowS X.K Wx fun D σ H => ∃ C, g.exc x C ∧ D.ex C σ H) := by
  refine ⟨fun pins s σ H D I h => ?_⟩
  obtain ⟨F, σ', H', D', rs, ab, d, A, hx, h⟩ := h
  obtain ⟨e1, e2, e3, e4, e5⟩ := C.says.exc x A hx
  exact (ps_raise C.calm C.takes (pmk_own PySem.F.excBase_ValueError e2 e1 e3 (raises_own e4 e5) hg hdb)).run pins s σ H D I (d.ex A σ' H' h F σ H (Same.refl _) rs ab)
theorem s_try {x : Str} {body : List Stmt} {b0 : Stmt} {np pos pos' : Pos} {tb : TSW} {w : W} {v : V} (hs : X.stack = X.env :: X.outer) (hf : X.env.frame = some X.env.locals) (hgx : Gl X x) (hdb : (x == ("__debug__" : Str)) = false) (S : Says g k X) (tk : Takes X Wx)
    (hb : ∀ (Wy : WX) (pn : List (Addr × Obj)) (xe : Value → Shared → Prop), Takes (X.tr pn xe) Wy → PassesOwn (model X.prog X.w) X.A X.env xe → PSs (X.tr pn xe) body (lowS X.K Wy tb))
    (hsu : ∀ Y, PS Y b0 (fun D _ H => D.rt v H)) (rv : ∀ F, RelW X.K F w v) :
    PS X (.Try body [.ExceptHandler (some (.Name x np)) none [b0] pos'] [] [] pos)
      (lowS X.K Wx fun D σ H => (∃ C b, g.exm C x b) ∧ tb { D with ex := fun C σ1 H1 => ∃ k, g.exm C x k ∧ (k = true → D.rt w H1) ∧ (k = false → D.ex C σ1 H1) } σ H) := by
  refine ⟨fun pins s σ H D I h => ?_⟩
  obtain ⟨F, σ', H', D', rs, ab, d, ⟨C0, k0, h0⟩, h⟩ := h
  obtain ⟨c, ec, _⟩ := S.exm C0 x k0 h0
  refine (ps_try_only hs hf ⟨hgx, hdb, .inl ec⟩ tk (fun Wy pn xe t p => hb Wy pn xe t p) (fun a oe cls dd pn z zz => pss_one (hsu _))).run pins s σ H D I ?_
  refine ⟨F, σ', H', { D' with ex := fun C σ1 H1 => ∃ k, g.exm C x k ∧ (k = true → D'.rt w H1) ∧ (k = false → D'.ex C σ1 H1) }, rs, ab, ⟨d.nx, d.rt, d.bk, d.ct, fun C a b hx F1 σ1 H1 s1 r1 ab1 => ?_⟩, h⟩
  obtain ⟨kk, hk, h1, h2⟩ := hx
  obtain ⟨c2, ec2, hm⟩ := S.exm C x kk hk
  have e : c2 = c := by
    rw [ec] at ec2
    exact (Value.ref.inj (Option.some.inj ec2)).symm
  rw [e] at hm
  exact ⟨kk, hm, fun hkk A hA => (d.rt.mono s1).at ab1 (rv F1) (h1 hkk), fun hkk => d.ex C a b (h2 hkk) F1 σ1 H1 s1 r1 ab1⟩
/-! a, b, c = e -/
theorem s_unp {e : Expr} {targets : List Expr} {is : List Nat} {n : Nat} {pos p2 : Pos} {te : TEW} (he : PE X e (lowE X.K Wx te))
    (hg : PG X (.Tuple targets n p2) (gTup X.K is.length fun vs σ H Q => vs.length = is.length ∧ ∀ σ2, σ2 = ((is.zip vs).foldl (fun s p => s.set p.1 (some p.2)) σ) → Q σ2 H))
    (hs : swapsWithSole [.Tuple targets n p2] e pos.line X.env = pure false) (hw : swappedStores [.Tuple targets n p2] e X.env = pure none) :
    PS X (.Assign [.Tuple targets n p2] e pos) (lowS X.K Wx fun D σ H => te σ H (fun x H1 => ∃ ws, x = .tup ws ∧ ws.length = is.length ∧ D.nx (setAll is ws σ) H1) fun C H1 => D.ex C σ H1) :=
  PS.imp (ps_asg he hg hs hw rfl) fun D σ H ⟨F, σ', H', D', rs, ab, d, h⟩ => ⟨F, σ', H', _, _, rs, ab, fun x H1' hx F1 v H1 s1 rx ab1 => by
    obtain ⟨ws, rfl, hl, hn⟩ := hx
    obtain ⟨a, vs, e, q, t⟩ := rx
    refine ⟨a, vs, e, SqT.of (ab1.sub _ _ q), by rw [← t.length]; exact hl, by rw [← t.length]; exact hl, fun σ2 e2 => ?_⟩
    rw [e2]
    have gen : ∀ (is : List Nat) (ws : List W) (vs : List V) (a : Sw) (b : L2.St), RelWs X.K F1 ws vs → RelS X.K F1 a b → RelS X.K F1 (setAll is ws a) ((is.zip vs).foldl (fun s p => s.set p.1 (some p.2)) b) := by
      intro is
      induction is with
      | nil => intro ws vs a b _ r; exact r
      | cons i is ih =>
        intro ws vs a b t r
        cases ws with
        | nil =>
          rw [show vs = [] from t]
          exact r
        | cons w ws =>
          obtain ⟨u, vs', e, h1, h2⟩ := t
          rw [e]
          exact ih ws vs' _ _ h2 (r.set h1 i)
    exact d.nx _ H1' hn F1 _ H1 s1 (gen is ws vs _ _ t (rs.mono s1)) ab1, d.er rs, h⟩
end
end WL

/-! ## The text read into the small syntax, and that the reading is right: expressions -/
namespace WL
open PySem L2

def guardO {α : Type} (c : Bool) (a : Option α) : Option α := match c with
  | true => a
  | false => none
theorem guardO_some {α : Type} {c : Bool} {a : Option α} {b : α} (h : guardO c a = some b) : c = true ∧ a = some b := by
  cases c with
  | true => exact ⟨rfl, h⟩
  | false => cases h
def bind2 {α β γ : Type} (a : Option α) (b : Option β) (f : α → β → γ) : Option γ := match a, b with
  | some x, some y => some (f x y)
  | _, _ => none
theorem bind2_some {α β γ : Type} {a : Option α} {b : Option β} {f : α → β → γ} {c : γ} (h : bind2 a b f = some c) : ∃ x y, a = some x ∧ b = some y ∧ f x y = c := by
  cases a with
  | none => cases h
  | some x =>
    cases b with
    | none => cases h
    | some y => exact ⟨x, y, rfl, rfl, Option.some.inj h⟩
theorem map_some' {α β : Type} {a : Option α} {f : α → β} {c : β} (h : a.map f = some c) : ∃ x, a = some x ∧ f x = c := by
  cases a with
  | none => cases h
  | some x => exact ⟨x, rfl, Option.some.inj h⟩
theorem and_ok {a b : Bool} (h : (a && b) = true) : a = true ∧ b = true := Bool.and_eq_true_iff.mp h

def idx : List Str → Str → Option Nat
  | [], _ => none
  | y :: r, x => if y = x then some 0 else (idx r x).map (· + 1)
theorem idx_ok : ∀ {N : List Str} {x : Str} {i : Nat}, idx N x = some i → N[i]? = some x
  | [], _, _, h => by cases h
  | y :: r, x, i, h => by
    unfold idx at h
    split at h
    · rename_i e
      cases h
      rw [e]
      rfl
    · obtain ⟨j, hj, e⟩ := map_some' h
      rw [← e]
      show (y :: r)[j + 1]? = some x
      rw [List.getElem?_cons_succ]
      exact idx_ok hj
def okName (x : Str) : Bool := !(x == "__debug__") && (!(x == "__classdict__") && !(x == "__name__"))
theorem okName_ok {x : Str} (h : okName x = true) : (x == ("__debug__" : Str)) = false ∧ (x == ("__classdict__" : Str)) = false ∧ x ≠ "__name__" := by
  obtain ⟨h1, h2⟩ := and_ok h
  obtain ⟨h2, h3⟩ := and_ok h2
  refine ⟨by simpa using h1, by simpa using h2, fun e => ?_⟩
  rw [e] at h3
  cases h3
def glob (sc : Scope) (x : Str) : Bool := match sc.names.lookup x with
  | some .globalImplicit => okName x
  | _ => false
theorem glob_ok {sc : Scope} {X : Cx} {x : Str} (S : Sc sc X) (h : glob sc x = true) : Gl X x ∧ (x == ("__debug__" : Str)) = false := by
  unfold glob at h
  split at h
  · rename_i e
    exact ⟨S.gl e, (okName_ok h).1⟩
  · cases h
abbrev RE := Scope → Expr → Option CE
abbrev RT := Scope → Expr → Option CT
def cName (N : List Str) (sc : Scope) (x : Str) : Option CE := guardO (okName x) (match sc.names.lookup x with
  | some .local => (idx N x).map .var
  | some .cell => (idx N x).map .var
  | some .free => (idx N x).map .var
  | some .globalImplicit => some (.gint x)
  | _ => none)
def cA (rE : Expr → Option CE) : List Expr → Option CEs
  | [] => some .nil
  | e :: r => guardO (notStar e) (bind2 (rE e) (cA rE r) .cons)
def cBools (op : BoolOp) (rE : Expr → Option CE) : List Expr → Option CE
  | [] => none
  | [a] => rE a
  | a :: b :: r => bind2 (rE a) (cBools op rE (b :: r)) (match op with | .And => .andV | .Or => .orV)
def cTests (op : BoolOp) (rT : Expr → Option CT) : List Expr → Option CT
  | [] => none
  | [a] => rT a
  | a :: b :: r => bind2 (rT a) (cTests op rT (b :: r)) (match op with | .And => .ands | .Or => .ors)
def cO (rE : Expr → Option CE) : Option Expr → Option CO
  | none => some .no
  | some e => (rE e).map .so
def cI (rE : Expr → Option CE) (sc : Scope) (e : Expr) : Option CI := match e with
  | .Call (.Name x _) args [] _ => if x = "range" then guardO (glob sc x && args.all notStar) (match args with
      | [a] => (rE a).map .r1
      | [a, b] => bind2 (rE a) (rE b) .r2
      | [a, b, c] => bind2 (rE a) (bind2 (rE b) (rE c) Prod.mk) fun a p => .r3 a p.1 p.2
      | _ => none) else (rE e).map .ex
  | e => guardO (notSet e) ((rE e).map .ex)
/-- the own classes that are made -/
def madeNames : List Str := ["Folk", "Hand", "Offer"]
def rngOf : List Expr → Option (Str × Expr)
  | [.Call (.Name r _) [a] [] _] => some (r, a)
  | _ => none
def setOf : List Expr → Option (Str × Expr)
  | [.Call (.Name r _) [a] [] _] => some (r, a)
  | _ => none
/-- in, not in range(lo, hi), both written -/
def inOf : CmpOp → Expr → Option (Bool × Int × Int)
  | .In, .Call (.Name r _) [.Constant (.int lo) _ _, .Constant (.int hi) _ _] [] _ => if r = "range" ∧ lo ≤ hi then some (false, lo, hi) else none
  | .NotIn, .Call (.Name r _) [.Constant (.int lo) _ _, .Constant (.int hi) _ _] [] _ => if r = "range" ∧ lo ≤ hi then some (true, lo, hi) else none
  | _, _ => none
def cCallN (rE : Expr → Option CE) (sc : Scope) (x : Str) (args : List Expr) : Option CE := guardO (glob sc x && args.all notStar) (
  if x = "isinstance" then (match args with
    | [a, .Name T _] => guardO (glob sc T) (if T = "str" then (rE a).map .isiS else bind2 (rE a) (tyOf T) .isi)
    | _ => none)
  else match (if x = "len" then setOf args else none) with
  | some (r, a) => guardO (decide (r = "set") && (glob sc r && notStar a)) ((rE a).map .nset)
  | none => match (if x = "list" then rngOf args else none) with
    | some (r, a) => guardO (decide (r = "range") && (glob sc r && notStar a)) ((rE a).map .lrng)
    | none => match builtinIs x with
      | some _ => guardO (!args.isEmpty) ((cA rE args).map (.bcl x))
      | none => if decide (x ∈ madeNames) then guardO (!args.isEmpty) ((cA rE args).map (.mk x)) else (cA rE args).map (.call x))
def cMeth (rE : Expr → Option CE) (o : Expr) (m : Str) (apos pos : Pos) (args : List Expr) : Option CE := guardO (plainBase o && (args.all notStar && (decide (args.length < 30) && (apos.endLine == pos.line)))) (
  if m = "append" then (match args with
    | [e] => bind2 (rE o) (rE e) .app
    | _ => none)
  else if m = "extend" then (match args with
    | [e] => bind2 (rE o) (rE e) .ext
    | _ => none)
  else if m = "pop" then (match args with
    | [e] => bind2 (rE o) (rE e) .pop
    | _ => none)
  else if m = "get" then (match args with
    | [e] => bind2 (rE o) (rE e) .get1
    | [e, f] => bind2 (rE o) (bind2 (rE e) (rE f) Prod.mk) fun a p => .get2 a p.1 p.2
    | _ => none)
  else if m = "setdefault" then (match args with
    | [e, f] => bind2 (rE o) (bind2 (rE e) (rE f) Prod.mk) fun a p => .setd a p.1 p.2
    | _ => none)
  else bind2 (rE o) (cA rE args) fun a b => .mth a m b)
def cU (rT : Expr → Option CT) : List Expr → Option CU
  | [] => some .no
  | [t] => (rT t).map .so
  | _ => none
def cPs (rE : Expr → Option CE) : List (Option Expr) → List Expr → Option CPs
  | [], [] => some .nil
  | some k :: ks, v :: vs => bind2 (rE k) (bind2 (rE v) (cPs rE ks vs) Prod.mk) fun a p => .cons a p.1 p.2
  | _, _ => none
def isOne : Option Expr → Bool
  | some (.UnaryOp .USub (.Constant (.int 1) _ _) _) => true
  | _ => false
def cSub (rE : Expr → Option CE) (e : Expr) (s : Expr) : Option CE := match s with
  | .Slice lo hi none _ => bind2 (rE e) (bind2 (cO rE lo) (cO rE hi) Prod.mk) fun a p => .slc a p.1 p.2
  | .Slice none none st _ => guardO (isOne st) ((rE e).map .rev)
  | s => guardO (notSlice s) (bind2 (rE e) (rE s) .ix)
def cComp (N : List Str) (rE : RE) (rT : RT) (sc : Scope) (elt : Expr) (gens : List Comprehension) (scope : Scope) : Option CE := match gens with
  | [⟨.Name x _, it, ifs, 0⟩] => match idx N x with
    | some i => guardO (blkC N sc scope [(x, i)] && (notSet it && (match scope.names.lookup x with | some .local => true | _ => false)))
        (bind2 (cI (rE sc) sc it) (bind2 (rE scope elt) (cU (rT scope) ifs) Prod.mk) fun a p => .lcm p.1 i a p.2)
    | none => none
  | _ => none
def stepE (N : List Str) (rE : RE) (rT : RT) (sc : Scope) (e : Expr) : Option CE := match e with
  | .Constant c _ _ => (match c with
    | .none => some (.lit .non)
    | .bool b => some (.lit (.bl b))
    | .int i => some (.lit (.int i))
    | .str x => some (.lit (.str x))
    | _ => none)
  | .Name x _ => cName N sc x
  | .List es _ => (cA (rE sc) es).map .lst
  | .Tuple es _ _ => (cA (rE sc) es).map .tup
  | .BinOp a op b _ => bind2 (rE sc a) (rE sc b) (.bin op)
  | .UnaryOp op a _ => (match op with
    | .USub => (rE sc a).map .neg
    | .Not => (rE sc a).map .notV
    | _ => none)
  | .Compare a ops bs _ => (match ops, bs with
    | [op], [b] => (match inOf op b with
      | some (n, lo, hi) => guardO (glob sc "range") ((rE sc a).map (.inr n lo hi))
      | none => guardO (!behindInMarks op b) (bind2 (rE sc a) (rE sc b) (.cmp op)))
    | [o1, o2], [b, c] => guardO (!lastMarks [o1, o2] [b, c]) (bind2 (rE sc a) (bind2 (rE sc b) (rE sc c) Prod.mk) fun a p => .chn o1 o2 a p.1 p.2)
    | _, _ => none)
  | .BoolOp op vs _ => cBools op (rE sc) vs
  | .IfExp t a b _ => bind2 (rT sc t) (bind2 (rE sc a) (rE sc b) Prod.mk) fun t p => .ife t p.1 p.2
  | .Attribute o f _ => guardO (plainBase o) ((rE sc o).map (.fld · f))
  | .Subscript e s _ => cSub (rE sc) e s
  | .Call f args kws pos => (match kws with
    | [] => (match f with
      | .Name x _ => cCallN (rE sc) sc x args
      | .Attribute o m apos => cMeth (rE sc) o m apos pos args
      | _ => none)
    | _ => none)
  | .ListComp elt gens scope _ => cComp N rE rT sc elt gens scope
  | .Dict keys values _ => (match keys, values with
    | [], [] => some .dnew
    | k :: ks, vs => guardO ((k :: ks).all (·.isSome) && (decide ((k :: ks).length = vs.length) && decide ((k :: ks).length ≤ 15))) ((cPs (rE sc) (k :: ks) vs).map .dct)
    | _, _ => none)
  | _ => none
def stepT (rE : RE) (rT : RT) (sc : Scope) (e : Expr) : Option CT := match e with
  | .BoolOp op vs _ => cTests op (rT sc) vs
  | .UnaryOp op a _ => (match op with
    | .Not => (rT sc a).map .not
    | _ => none)
  | .Compare a ops bs _ => (match ops, bs with
    | [op], [b] => (match inOf op b with
      | some (n, lo, hi) => guardO (glob sc "range") ((rE sc a).map fun x => .tru (.inr n lo hi x))
      | none => guardO (!behindInMarks op b) (bind2 (rE sc a) (rE sc b) fun x y => .tru (.cmp op x y)))
    | [o1, o2], [b, c] => guardO (!lastMarks [o1, o2] [b, c]) (bind2 (rE sc a) (bind2 (rE sc b) (rE sc c) Prod.mk) fun a p => .tru (.chn o1 o2 a p.1 p.2))
    | _, _ => none)
  | e => guardO (plainTest e) ((rE sc e).map .tru)
def cET (N : List Str) : Nat → RE × RT
  | 0 => (fun _ _ => none, fun _ _ => none)
  | n + 1 => (stepE N (cET N n).1 (cET N n).2, stepT (cET N n).1 (cET N n).2)

/-! ### the reading is right -/
def SE (g : Gm) (k : Nat) (N : List Str) (rE : RE) : Prop := ∀ sc e c X Wx, rE sc e = some c → Ctx g k X Wx → Sc sc X → X.N = N → PE X e (lowE X.K Wx (denE g c))
def STt (g : Gm) (k : Nat) (N : List Str) (rT : RT) : Prop := ∀ sc e c X Wx, rT sc e = some c → Ctx g k X Wx → Sc sc X → X.N = N → PT X e (lowT X.K Wx (denT g c))
section
variable {g : Gm} {k : Nat} {N : List Str} {rE : RE} {rT : RT} {sc : Scope} {X : Cx} {Wx : WX}
theorem cName_ok {x : Str} {c : CE} {pos : Pos} (h : cName N sc x = some c) (C : Ctx g k X Wx) (S : Sc sc X) (hN : X.N = N) : PE X (.Name x pos) (lowE X.K Wx (denE g c)) := by
  obtain ⟨ho, h⟩ := guardO_some h
  obtain ⟨o1, o2, o3⟩ := okName_ok ho
  subst hN
  split at h
  · rename_i e
    obtain ⟨i, hi, rfl⟩ := map_some' h
    exact w_var (idx_ok hi) (.inl (S.loc x e)) o1 o2
  · rename_i e
    obtain ⟨i, hi, rfl⟩ := map_some' h
    exact w_var (idx_ok hi) (.inr (.inl (S.cell x e))) o1 o2
  · rename_i e
    obtain ⟨i, hi, rfl⟩ := map_some' h
    exact w_var (idx_ok hi) (.inr (S.free x e)) o1 o2
  · rename_i e
    cases h
    exact w_gint C.says (S.gl e) o1
  · cases h
theorem cA_ok (hE : ∀ e c, rE sc e = some c → PE X e (lowE X.K Wx (denE g c))) : ∀ {es : List Expr} {cs : CEs}, cA (rE sc) es = some cs → PA X es (lowA X.K Wx (denA g cs)) ∧ es.all notStar = true
  | [], cs, h => by
    cases h
    exact ⟨w_nil, rfl⟩
  | e :: es, cs, h => by
    obtain ⟨hs, h⟩ := guardO_some h
    obtain ⟨a, b, h1, h2, rfl⟩ := bind2_some h
    obtain ⟨h3, h4⟩ := cA_ok hE h2
    exact ⟨w_cons (hE e a h1) h3 hs, by rw [List.all_cons, hs, h4]; rfl⟩
theorem cBools_ok (hE : ∀ e c, rE sc e = some c → PE X e (lowE X.K Wx (denE g c))) {op : BoolOp} {pos : Pos} : ∀ {es : List Expr} {c : CE}, cBools op (rE sc) es = some c → PE X (.BoolOp op es pos) (lowE X.K Wx (denE g c))
  | [], c, h => by cases h
  | [a], c, h => pe_one (hE a c h)
  | a :: b :: r, c, h => by
    obtain ⟨x, y, h1, h2, rfl⟩ := bind2_some h
    have h3 := cBools_ok hE (pos := pos) h2
    cases op with
    | And => exact w_and (hE a x h1) h3
    | Or => exact w_or (hE a x h1) h3
theorem cTests_ok (hT : ∀ e c, rT sc e = some c → PT X e (lowT X.K Wx (denT g c))) {op : BoolOp} {pos : Pos} : ∀ {es : List Expr} {c : CT}, cTests op (rT sc) es = some c → PW X (.BoolOp op es pos) (lowT X.K Wx (denT g c))
  | [], c, h => by cases h
  | [a], c, h => by
    cases op with
    | And => exact pw_and1 (hT a c h)
    | Or => exact pw_or1 (hT a c h)
  | a :: b :: r, c, h => by
    obtain ⟨x, y, h1, h2, rfl⟩ := bind2_some h
    have h3 := cTests_ok hT (pos := pos) h2
    cases op with
    | And => exact w_andT (hT a x h1) h3
    | Or => exact w_orT (hT a x h1) h3
theorem cO_ok (hE : ∀ e c, rE sc e = some c → PE X e (lowE X.K Wx (denE g c))) {o : Option Expr} {c : CO} (h : cO (rE sc) o = some c) : PO X o (lowO X.K Wx (denO g c)) := by
  cases o with
  | none => cases h; exact w_no
  | some e =>
    obtain ⟨x, h1, rfl⟩ := map_some' h
    exact w_so (hE e x h1)
theorem cI_ok (hE : ∀ e c, rE sc e = some c → PE X e (lowE X.K Wx (denE g c))) (C : Ctx g k X Wx) (S : Sc sc X) {tg e : Expr} {c : CI} (h : cI (rE sc) sc e = some c) : PI X tg e (lowI X.K Wx (denI g c)) := by
  unfold cI at h
  split at h
  · rename_i x p args pos
    split at h
    · rename_i ex
      subst ex
      obtain ⟨h0, h⟩ := guardO_some h
      obtain ⟨hg, hs⟩ := and_ok h0
      obtain ⟨hg, _⟩ := glob_ok S hg
      split at h
      · obtain ⟨a, h1, rfl⟩ := map_some' h
        simp only [List.all_cons, List.all_nil, Bool.and_true] at hs
        exact w_r1 C hg hs (hE _ a h1)
      · obtain ⟨a, b, h1, h2, rfl⟩ := bind2_some h
        simp only [List.all_cons, List.all_nil, Bool.and_true, Bool.and_eq_true] at hs
        exact w_r2 C hg hs.1 hs.2 (hE _ a h1) (hE _ b h2)
      · obtain ⟨a, p, h1, h2, rfl⟩ := bind2_some h
        obtain ⟨b, c, h3, h4, rfl⟩ := bind2_some h2
        simp only [List.all_cons, List.all_nil, Bool.and_true, Bool.and_eq_true] at hs
        exact w_r3 C hg hs.1 hs.2.1 hs.2.2 (hE _ a h1) (hE _ b h3) (hE _ c h4)
      · cases h
    · obtain ⟨a, h1, rfl⟩ := map_some' h
      exact w_it (hE _ a h1)
  · obtain ⟨_, h⟩ := guardO_some h
    obtain ⟨a, h1, rfl⟩ := map_some' h
    exact w_it (hE _ a h1)
theorem rngOf_some {args : List Expr} {r : Str} {a : Expr} (h : rngOf args = some (r, a)) : ∃ p pos, args = [.Call (.Name r p) [a] [] pos] := by
  unfold rngOf at h
  split at h
  · cases h; exact ⟨_, _, rfl⟩
  · cases h
theorem setOf_some {args : List Expr} {r : Str} {a : Expr} (h : setOf args = some (r, a)) : ∃ p pos, args = [.Call (.Name r p) [a] [] pos] := by
  unfold setOf at h
  split at h
  · cases h; exact ⟨_, _, rfl⟩
  · cases h
theorem inOf_some {op : CmpOp} {b : Expr} {n : Bool} {lo hi : Int} (h : inOf op b = some (n, lo, hi)) : ∃ p p1 p2 q k1 k2, op = (if n = true then .NotIn else .In) ∧ b = .Call (.Name "range" p) [.Constant (.int lo) k1 p1, .Constant (.int hi) k2 p2] [] q ∧ lo ≤ hi := by
  unfold inOf at h
  split at h
  · split at h
    · rename_i z
      cases h
      obtain ⟨rfl, hl⟩ := z
      exact ⟨_, _, _, _, _, _, rfl, rfl, hl⟩
    · cases h
  · split at h
    · rename_i z
      cases h
      obtain ⟨rfl, hl⟩ := z
      exact ⟨_, _, _, _, _, _, rfl, rfl, hl⟩
    · cases h
  · cases h
theorem cCallN_ok (hE : ∀ e c, rE sc e = some c → PE X e (lowE X.K Wx (denE g c))) (C : Ctx g k X Wx) (S : Sc sc X) {x : Str} {p pos : Pos} {args : List Expr} {c : CE} (h : cCallN (rE sc) sc x args = some c) : PE X (.Call (.Name x p) args [] pos) (lowE X.K Wx (denE g c)) := by
  unfold cCallN at h
  have hq := guardO_some h
  clear h
  obtain ⟨h0, h⟩ := hq
  obtain ⟨hg, hs⟩ := and_ok h0
  obtain ⟨hg, hdb⟩ := glob_ok S hg
  split at h
  · rename_i ex
    subst ex
    split at h
    · obtain ⟨h1, hz⟩ := guardO_some h
      simp only [List.all_cons, List.all_nil, Bool.and_true, Bool.and_eq_true] at hs
      split at hz
      · rename_i et
        subst et
        obtain ⟨a, h2, rfl⟩ := map_some' hz
        exact w_isiS C hg (glob_ok S h1).1 hs.1 (hE _ a h2)
      obtain ⟨a, T, h2, h3, rfl⟩ := bind2_some hz
      obtain ⟨g1, d1⟩ := glob_ok S h1
      exact w_isi C h3 hg g1 d1 hs.1 (hE _ a h2)
    · cases h
  · split at h
    · rename_i r a er
      obtain ⟨h1, h⟩ := guardO_some h
      obtain ⟨h1, h2⟩ := and_ok h1
      obtain ⟨h2, h3⟩ := and_ok h2
      obtain ⟨y, h4, rfl⟩ := map_some' h
      split at er
      · rename_i ex
        obtain ⟨p2, pos2, rfl⟩ := setOf_some er
        have e2 : r = "set" := of_decide_eq_true h1
        subst e2
        subst ex
        exact w_nset C hg (glob_ok S h2).1 h3 (hE _ y h4)
      · cases er
    split at h
    · rename_i r a er
      obtain ⟨h1, h⟩ := guardO_some h
      obtain ⟨h1, h2⟩ := and_ok h1
      obtain ⟨h2, h3⟩ := and_ok h2
      obtain ⟨y, h4, rfl⟩ := map_some' h
      split at er
      · rename_i ex
        obtain ⟨p2, pos2, rfl⟩ := rngOf_some er
        have e2 : r = "range" := of_decide_eq_true h1
        subst e2
        subst ex
        exact w_lrng C hg (glob_ok S h2).1 h3 (hE _ y h4)
      · cases er
    · split at h
      · rename_i u eu
        obtain ⟨hne, h⟩ := guardO_some h
        obtain ⟨cs, h1, rfl⟩ := map_some' h
        cases args with
        | nil => cases hne
        | cons e es => exact w_bcl C eu hg hdb hs (cA_ok hE h1).1
      · split at h
        · obtain ⟨hne, h⟩ := guardO_some h
          obtain ⟨cs, h1, rfl⟩ := map_some' h
          cases args with
          | nil => cases hne
          | cons e es => exact w_mk C hg hdb hs (cA_ok hE h1).1
        · obtain ⟨cs, h1, rfl⟩ := map_some' h
          cases args with
          | nil =>
            cases h1
            exact w_call0 C hg hdb
          | cons e es => exact w_call C hg hdb hs (cA_ok hE h1).1
theorem cMeth_ok (hE : ∀ e c, rE sc e = some c → PE X e (lowE X.K Wx (denE g c))) (C : Ctx g k X Wx) {o : Expr} {m : Str} {apos pos : Pos} {args : List Expr} {c : CE} (h : cMeth (rE sc) o m apos pos args = some c) :
    PE X (.Call (.Attribute o m apos) args [] pos) (lowE X.K Wx (denE g c)) := by
  unfold cMeth at h
  have hq := guardO_some h
  clear h
  obtain ⟨h0, h⟩ := hq
  obtain ⟨hb, h0⟩ := and_ok h0
  obtain ⟨hs, h0⟩ := and_ok h0
  obtain ⟨hn, hl⟩ := and_ok h0
  have hn := of_decide_eq_true hn
  split at h
  · rename_i em
    subst em
    split at h
    · obtain ⟨a, b, h1, h2, rfl⟩ := bind2_some h
      simp only [List.all_cons, List.all_nil, Bool.and_true] at hs
      exact w_app (hE _ a h1) (hE _ b h2) hb hs hl
    · cases h
  split at h
  · rename_i em
    subst em
    split at h
    · obtain ⟨a, b, h1, h2, rfl⟩ := bind2_some h
      simp only [List.all_cons, List.all_nil, Bool.and_true] at hs
      exact w_ext (hE _ a h1) (hE _ b h2) hb hs hl
    · cases h
  split at h
  · rename_i em
    subst em
    split at h
    · obtain ⟨a, b, h1, h2, rfl⟩ := bind2_some h
      simp only [List.all_cons, List.all_nil, Bool.and_true] at hs
      exact w_pop (hE _ a h1) (hE _ b h2) hb hs hl
    · cases h
  split at h
  · rename_i em
    subst em
    split at h
    · obtain ⟨a, b, h1, h2, rfl⟩ := bind2_some h
      simp only [List.all_cons, List.all_nil, Bool.and_true] at hs
      exact w_get1 C (hE _ a h1) (hE _ b h2) hb hs hl
    · obtain ⟨a, p, h1, h2, rfl⟩ := bind2_some h
      obtain ⟨b, d, h3, h4, rfl⟩ := bind2_some h2
      simp only [List.all_cons, List.all_nil, Bool.and_true, Bool.and_eq_true] at hs
      exact w_get2 C (hE _ a h1) (hE _ b h3) (hE _ d h4) hb hs.1 hs.2 hl
    · cases h
  split at h
  · rename_i em
    subst em
    split at h
    · obtain ⟨a, p, h1, h2, rfl⟩ := bind2_some h
      obtain ⟨b, d, h3, h4, rfl⟩ := bind2_some h2
      simp only [List.all_cons, List.all_nil, Bool.and_true, Bool.and_eq_true] at hs
      exact w_setd C (hE _ a h1) (hE _ b h3) (hE _ d h4) hb hs.1 hs.2 hl
    · cases h
  · obtain ⟨a, cs, h1, h2, rfl⟩ := bind2_some h
    cases args with
    | nil =>
      cases h2
      exact w_mth0 C (hE _ a h1) hb hl
    | cons e es => exact w_mth C (hE _ a h1) (cA_ok hE h2).1 hb hs hn hl
theorem isOne_ok {st : Option Expr} (h : isOne st = true) : ∃ n p1 p2, st = some (.UnaryOp .USub (.Constant (.int 1) n p1) p2) := by
  unfold isOne at h
  split at h
  · exact ⟨_, _, _, rfl⟩
  · cases h
theorem cSub_ok (hE : ∀ e c, rE sc e = some c → PE X e (lowE X.K Wx (denE g c))) (C : Ctx g k X Wx) {e s : Expr} {pos : Pos} {c : CE} (h : cSub (rE sc) e s = some c) : PE X (.Subscript e s pos) (lowE X.K Wx (denE g c)) := by
  unfold cSub at h
  split at h
  · obtain ⟨a, p, h1, h2, rfl⟩ := bind2_some h
    obtain ⟨b, d, h3, h4, rfl⟩ := bind2_some h2
    exact w_slc (hE _ a h1) (cO_ok hE h3) (cO_ok hE h4)
  · obtain ⟨h1, h⟩ := guardO_some h
    obtain ⟨a, h2, rfl⟩ := map_some' h
    obtain ⟨n, p1, p2, rfl⟩ := isOne_ok h1
    exact w_rev (hE _ a h2)
  · obtain ⟨h1, h⟩ := guardO_some h
    obtain ⟨a, b, h2, h3, rfl⟩ := bind2_some h
    exact w_ix C (hE _ a h2) (hE _ b h3) h1
theorem cPs_ok (hE : ∀ e c, rE sc e = some c → PE X e (lowE X.K Wx (denE g c))) {pos : Pos} : ∀ {ks : List (Option Expr)} {vs : List Expr} {c : CPs}, cPs (rE sc) ks vs = some c → PPs X pos ks vs (trsOf X.K Wx g c)
  | [], [], c, h => by
    cases h
    exact pps_nil
  | some kx :: ks, v :: vs, c, h => by
    obtain ⟨a, p, h1, h2, rfl⟩ := bind2_some h
    obtain ⟨b, d, h3, h4, rfl⟩ := bind2_some h2
    exact pps_cons (hE _ a h1) (hE _ b h3) (cPs_ok hE h4)
  | [], _ :: _, c, h => by cases h
  | none :: _, _, c, h => by cases h
  | some _ :: _, [], c, h => by cases h
end
end WL

/-! ## Exceptions that are caught and looked at: the text -/
namespace WL
open PySem L2 L2H
section
variable {g : Gm} {X : Cx} {Wx : WX}
/-- what is known in a clause's suite, and in a def that is called there -/
structure HotX (g : Gm) (X : Cx) (N : List Str) (sc : Scope) (p : Addr × Obj) (C : Addr) : Prop where
  isx : ∀ D x b, g.isx D x b → ExcC X.K D ∧ ((∃ c, X.mg x = some (.ref c) ∧ PySem.W.kitOne X.K (.ref D) (.ref c) = some b) ∨ (x = "ValueError" ∧ X.mg x = none ∧ PySem.W.kitOne X.K (.ref D) (.type "ValueError") = some b))
  free : Free X
  S : Sc sc X
  hN : X.N = N
  nd : N.Nodup
  fn : ∀ x, X.fn x = true
  pin : p ∈ X.pn
  pc : PinC C p
  un : X.A.units + 100 < cLine
variable {N : List Str} {sc : Scope} {p : Addr × Obj} {C : Addr}
/-- the class that a name tells -/
def ClsN (g : Gm) (X : Cx) (x : Str) (v : V) : Prop := ∃ cv, ClsV v cv ∧ (∀ p, PE X (.Name x p) (tC v)) ∧ ∀ C b, g.isx C x b → ExcC X.K C ∧ PySem.W.kitOne X.K (.ref C) cv = some b
def tCl (g : Gm) (X : Cx) (x : Str) : TE := fun _ H Q => ∃ v, ClsN g X x v ∧ Q v H
theorem pe_cl {x : Str} {p : Pos} : PE X (.Name x p) (tCl g X x) := PE.ex (t := fun v _ H Q => ClsN g X x v ∧ Q v H) fun v => PE.all (t := fun _ H Q => Q v H) fun ⟨_, _, h, _⟩ => h p
theorem clsN_of (S : HotX g X N sc p C) {c : Str} {b : Bool} (h : g.isx C c b) (hg : Gl X c) (hd : (c == ("__debug__" : Str)) = false) : ∃ v, ClsN g X c v := by
  obtain ⟨_, ⟨cv, hm, hk⟩ | ⟨rfl, hm, hk⟩⟩ := S.isx C c b h
  · refine ⟨.ref cv, .ref cv, .own cv, fun p => pe_glob hg hm rfl hd, fun C' b' h' => ?_⟩
    obtain ⟨e, ⟨c2, hm2, hk2⟩ | ⟨rfl, hm2, _⟩⟩ := S.isx C' c b' h'
    · rw [hm] at hm2
      cases hm2
      exact ⟨e, hk2⟩
    · rw [hm] at hm2
      cases hm2
  · refine ⟨.ty "ValueError", .type "ValueError", .ty "ValueError", fun p => pe_bltn hg hm (by rfl) rfl (by decide +kernel) hd, fun C' b' h' => ?_⟩
    obtain ⟨e, ⟨c2, hm2, _⟩ | ⟨_, _, hk2⟩⟩ := S.isx C' _ b' h'
    · rw [hm] at hm2
      cases hm2
    · exact ⟨e, hk2⟩
def namesOf : List Expr → Option (List Str)
  | [] => some []
  | .Name x _ :: r => (namesOf r).map (x :: ·)
  | _ => none
def tCls (g : Gm) (X : Cx) : List Str → TA
  | [] => tNil
  | c :: cs => tCons (tCl g X c) (tCls g X cs)
theorem pa_cls : ∀ {es : List Expr} {cs : List Str}, namesOf es = some cs → PA X es (tCls g X cs)
  | [], cs, h => by
    cases h
    exact pa_nil
  | e :: es, cs, h => by
    cases e with
    | Name x p =>
      cases h2 : namesOf es with
      | none => simp [namesOf, h2] at h
      | some cs2 =>
        simp [namesOf, h2] at h
        subst h
        exact pa_cons pe_cl (pa_cls h2) (starEach_cons rfl)
    | _ => cases h
theorem cls_all (S : HotX g X N sc p C) {σ : L2.St} {H : Hp} : ∀ {cs : List Str} {b : Bool} {QA : List V → Hp → Prop}, isxA g C cs b → (∀ c ∈ cs, Gl X c ∧ (c == ("__debug__" : Str)) = false) →
    (∀ vs us, Paired ClsV vs us → PySem.W.kitAny X.K (.ref C) us = some b → vs.length = cs.length → QA vs H) → tCls g X cs σ H QA
  | [], b, QA, h, _, hq => by
    have h : b = false := h
    subst h
    exact hq [] [] .nil kitAny_nil rfl
  | c :: cs, b, QA, h, hg, hq => by
    obtain ⟨k1, r, h1, h2, rfl⟩ := h
    obtain ⟨g1, g2⟩ := hg c (List.mem_cons_self ..)
    obtain ⟨v, hv⟩ := clsN_of S h1 g1 g2
    refine ⟨v, hv, cls_all S h2 (fun x hx => hg x (List.mem_cons_of_mem _ hx)) fun vs us p e hl => ?_⟩
    obtain ⟨cv, q1, q2, q3⟩ := hv
    refine hq (v :: vs) (cv :: us) (.cons q1 p) (kitAny_cons ((q3 C k1 h1).2) (fun e2 => ?_) fun e2 => ?_) (by simp [hl])
    · rw [e, e2]
      rfl
    · rw [e2]
      rfl
/-- isinstance(e, c), isinstance(e, (c, ..)): the classes -/
def pIs (sc : Scope) (e : Str) : Expr → Option (List Str)
  | .Call (.Name f _) [.Name e' _, .Name c _] [] _ => guardO (decide (f = "isinstance") && (decide (e' = e) && (glob sc f && glob sc c))) (some [c])
  | .Call (.Name f _) [.Name e' _, .Tuple es _ _] [] _ => (namesOf es).bind fun cs => guardO (decide (f = "isinstance") && (decide (e' = e) && (glob sc f && (cs.all (glob sc) && (!cs.isEmpty && decide (cs.length ≤ 100)))))) (some cs)
  | _ => none
/-- the slot holds the exception -/
def tIs (i : Nat) (a : Addr) (b : Bool) : TEW := fun σ H Q _ => σ[i]? = some (some (.ref a)) ∧ Q (.bl b) H
theorem pIs_ok (S : HotX g X N sc p C) {e : Str} {ex : Expr} {cs : List Str} {i : Nat} {b : Bool} (h : pIs sc e ex = some cs) (hi : idx N e = some i) (he : sc.names.lookup e = some .local) (ho : okName e = true) (hb : isxA g C cs b) : PE X ex (lowE X.K Wx (tIs i p.1 b)) := by
  obtain ⟨o1, o2, o3⟩ := okName_ok ho
  have hX : X.N[i]? = some e := by rw [S.hN]; exact idx_ok hi
  unfold pIs at h
  split at h
  · rename_i f q1 e' q2 c q3 q4
    obtain ⟨h0, h⟩ := guardO_some h
    cases h
    obtain ⟨h1, h0⟩ := and_ok h0
    obtain ⟨h2, h0⟩ := and_ok h0
    obtain ⟨h3, h4⟩ := and_ok h0
    have ef : f = "isinstance" := of_decide_eq_true h1
    have ee : e' = e := of_decide_eq_true h2
    subst ef ee
    obtain ⟨g1, _⟩ := glob_ok S.S h3
    obtain ⟨g2, d2⟩ := glob_ok S.S h4
    obtain ⟨k1, r, hk, hr, rfl⟩ := hb
    have hr : r = false := hr
    subst hr
    obtain ⟨v, hv⟩ := clsN_of S hk g2 d2
    have ec := (S.isx C c k1 hk).1
    refine PE.imp (pe_callB (call_isP S.pin S.pc ec) g1 (S.free _ (by simp)) PyProof.Rows.boot_isinstance (pa_cons (w_var (g := g) (Wx := Wx) hX (.inl (S.S.loc _ he)) o1 o2) (pa_cons (pe_cl (g := g)) pa_nil) (starEach_cons rfl)) (by decide) (by decide) (starEach_cons rfl) rfl) fun σ H Q h => ?_
    obtain ⟨F, σ', H', Q', E', rs, ab, qr, er, hs, h⟩ := h
    refine ⟨F, σ', H', fun w H1 => w = .ref p.1 ∧ Q' (.bl (k1 || false)) H1, E', rs, ab, fun w H1' hw F1 v1 H1 s1 rx ab1 => ?_, er, .ref p.1, hs, rfl, h⟩
    obtain ⟨rfl, hq⟩ := hw
    have hv2 := hv
    obtain ⟨u, q1, q2, q3⟩ := hv2
    refine ⟨v, hv, v, u, k1, by rw [show v1 = V.ref p.1 from rx], q1, (q3 C k1 hk).2, ?_⟩
    have := (qr.mono s1).bl ab1 hq
    rw [Bool.or_false] at this
    exact this
  · rename_i f q1 e' q2 es q3 q4 q5
    cases hn : namesOf es with
    | none => rw [hn] at h; cases h
    | some ds =>
      rw [hn] at h
      obtain ⟨h0, h⟩ := guardO_some (show guardO _ (some ds) = some cs from h)
      cases h
      obtain ⟨h1, h0⟩ := and_ok h0
      obtain ⟨h2, h0⟩ := and_ok h0
      obtain ⟨h3, h0⟩ := and_ok h0
      obtain ⟨h4, h0⟩ := and_ok h0
      obtain ⟨h5, h6⟩ := and_ok h0
      have ef : f = "isinstance" := of_decide_eq_true h1
      have ee : e' = e := of_decide_eq_true h2
      subst ef ee
      obtain ⟨g1, _⟩ := glob_ok S.S h3
      have ec : ExcC X.K C := by
        cases cs with
        | nil => cases h5
        | cons c cs =>
          obtain ⟨k1, r, h7, _, _⟩ := hb
          exact (S.isx C c k1 h7).1
      refine PE.imp (pe_callB (call_isPT S.pin S.pc ec) g1 (S.free _ (by simp)) PyProof.Rows.boot_isinstance (pa_cons (w_var (g := g) (Wx := Wx) hX (.inl (S.S.loc _ he)) o1 o2) (pa_cons (pe_tup (pa_cls (g := g) hn)) pa_nil) (starEach_cons rfl)) (by decide) (by decide) (starEach_cons rfl) rfl) fun σ H Q h => ?_
      obtain ⟨F, σ', H', Q', E', rs, ab, qr, er, hs, h⟩ := h
      refine ⟨F, σ', H', fun w H1 => w = .ref p.1 ∧ Q' (.bl b) H1, E', rs, ab, fun w H1' hw F1 v1 H1 s1 rx ab1 => ?_, er, .ref p.1, hs, rfl, h⟩
      obtain ⟨rfl, hq⟩ := hw
      refine cls_all S hb (fun c hc => glob_ok S.S (List.all_eq_true.mp h4 c hc)) fun vs us pr ek hl => ⟨by rw [hl]; exact Nat.le_trans (of_decide_eq_true h6) (by decide), fun tp htp => ?_⟩
      exact ⟨tp, vs, us, b, by rw [show v1 = V.ref p.1 from rx], upd_same, pr, ek, (qr.mono s1).bl (ab1.skip htp) hq⟩
  · cases h
end
/-! ### try: .. except X as e: a suite that returns -/
/-- what the clause wishes of the body's exceptions: each is of the class c, the suite answers it -/
def wRet (K : PySem.W.Frag) (c : Value) (i : Nat) (ts : Addr → Addr → TS) (D : Ends) : WX := fun cls d σ H =>
  ∃ C, cls = .ref C ∧ d = none ∧ PySem.W.exmOne K cls c = some true ∧ ∀ a, H a = none → ts a C { nx := fun _ _ => False, rt := D.rt, bk := fun _ _ => False, ct := fun _ _ => False } (σ.set i (some (.ref a))) H
section
variable {X : Cx} {x n : Str} {c : Value} {i : Nat} {body rest : List Stmt} {b₀ : Stmt} {np pos pos' : Pos} {tb : WX → TS} {ts : Addr → Addr → TS}
theorem base_off (J : Inv X pins σ H s) {a : Addr} {o : Obj} (e : X.base.get? a = some o) (hs : X.stack = X.env :: X.outer) (hf : X.env.frame = some X.env.locals) : a ∉ frs X.stack := by
  rw [hs]
  intro hm
  obtain ⟨v, hv, ev⟩ := List.mem_filterMap.mp hm
  rcases List.mem_cons.mp hv with rfl | hv
  · rw [hf] at ev
    cases ev
    exact absurd (Nat.lt_of_lt_of_le (Heap.lt_size e) (Nat.le_trans J.ok.bsz J.ok.above)) (Nat.lt_irrefl _)
  · exact J.ok.nofr e (List.mem_filterMap.mpr ⟨v, hv, ev⟩)
/-- what becomes of an exception of the body -/
def catchX (X : Cx) (pins : List (Addr × Obj)) (D : Ends) (hands : List ExceptHandler) (u : Value) (s1 : Shared) : Prop :=
  wpAny (model X.prog X.w) X.A (noteFrame u X.env)
    (fun _ s2 => wpAny (model X.prog X.w) X.A (setFlight u none)
      (fun _ s3 => wpAny (model X.prog X.w) X.A (handleBy u X.env hands) (SP X pins D) X.xe s3) X.xe s2) X.xe s1
theorem ps_try_ret (hs : X.stack = X.env :: X.outer) (hf : X.env.frame = some X.env.locals) (hN : X.N.Nodup) (hi : X.N[i]? = some n) (hln : X.env.kindOf n = some .local) (hc : Names X x c)
    (hb : ∀ (W : WX) (pn : List (Addr × Obj)) (xe : Value → Shared → Prop), Takes (X.tr pn xe) W → PassesOwn (model X.prog X.w) X.A X.env xe → PSs (X.tr pn xe) body (tb W))
    (hsu : ∀ (a : Addr) (oe : Obj) (C : Addr) (pn : List (Addr × Obj)), X.base.get? a = none → Zc (.ref C) none oe → (∃ vs, oe.data = .fields vs) → PSs (X.suite a ((a, oe) :: pn)) (b₀ :: rest) (ts a C)) :
    PS X (.Try body [.ExceptHandler (some (.Name x np)) (some n) (b₀ :: rest) pos'] [] [] pos) (fun D σ H => tb (wRet X.K c i ts D) D σ H) := by
  refine ⟨fun pins s σ H D I h => ?_⟩
  have okX := I.ok
  have hfr : X.A.frames = some (X.env :: X.outer) := okX.frames.trans (congrArg some hs)
  have lc : Loc X.env.scope n := Or.inl hln
  refine wpAny_Try_except ?_
  refine wpAny_mono ((hb (wRet X.K c i ts D) (X.pn ++ pins) (catchX X pins D [.ExceptHandler (some (.Name x np)) (some n) (b₀ :: rest) pos']) (fun u s' hx => ?_) PassesOwn.looking).run [] s σ H D (I.toTry _) h) (fun f s1 done => ?_) (fun _ _ z => z)
  · obtain ⟨a, B, s0, p0, σ0, H0, cls, d, rfl, J0, ground, up, sky, fresh, hos, bare, C, rfl, rfl, hm, go⟩ := hx
    have J : Inv X pins σ0 H0 s0 := Inv.ofTry J0 okX
    rw [show (X.tr (X.pn ++ pins) _).stack = X.env :: X.outer from hs] at sky
    refine Sky.land Zc.steady hfr hf sky fun h3 fl3 up3 => ?_
    have landed3 : Inv X pins σ0 H0 { s' with heap := h3 } := J.landed ground fl3.1 (up.trans up3) hos bare
    obtain ⟨o3, v3, e3, z3, d3⟩ := fl3.there
    have offFrames : ∀ {h : Heap} {o : Obj} {vs : Array Value}, h.FunFrames B (X.env :: X.outer) → h.get? a = some o → o.data = .fields vs → a ∉ frs (X.env :: X.outer) := fun ff e dd hm => by
      obtain ⟨_, o', e', nf⟩ := ff.mem hm
      rw [e] at e'
      cases e'
      exact nf _ dd
    have off := offFrames fl3.2.2.1 e3 d3
    have offL : a ≠ X.env.locals := fun z => off (List.mem_filterMap.mpr ⟨X.env, List.mem_cons_self .., hf.trans (congrArg some z.symm)⟩)
    have offF : a ∉ X.fs := fun hm => by
      obtain ⟨v, hv, ev⟩ := List.mem_filterMap.mp hm
      exact off (List.mem_filterMap.mpr ⟨v, List.mem_cons_of_mem _ hv, ev⟩)
    have offB : X.base.get? a = none := by
      cases eb : X.base.get? a with
      | none => rfl
      | some o =>
        have inB := ground a o (J.bk a o eb) (base_off J eb hs hf)
        rw [fl3.2.1] at inB
        cases inB
    have S3 := Inv.suite landed3 e3 d3 fresh offL offF
    refine wpAny_handleBy_cons (codeAny_handlers_test ?_) (fun q => nomatch q)
    have looksTy : PySem.W.Looks (model X.prog X.w) h3 (typeOf (.ref a)) (.ref C) := fun A Q E s k q => wpAny_typeOf_ref (k _ _ e3) (by rw [z3.1]; exact q)
    have matched := PySem.W.exm_one (M := model X.prog X.w) landed3.kIn looksTy hm
    have name : ∀ {Q : Value → Shared → Prop} {E : Value → Shared → Prop}, Q c { s' with heap := h3 } → wpAny (model X.prog X.w) (X.A.mark (some (.ref a))) (eval (.Name x np) X.env) Q E { s' with heap := h3 } := fun {Q E} q => by
      obtain ⟨hg, hdbg, hmg | ⟨hmg, hv, hnn⟩⟩ := hc
      · exact ld_glob (X := X.suite a ((a, o3) :: (X.pn ++ pins))) S3 hg hmg q hdbg
      · exact ld_blt (X := X.suite a ((a, o3) :: (X.pn ++ pins))) S3 hg hmg hv q hnn hdbg
    refine name (matched.here ?_)
    refine codeAny_handlers_suite_as ?_
    refine HandSPX.lands_againZ fl3 fun h4 fl4 up4 => ?_
    have landed4 : Inv X pins σ0 H0 { s' with heap := h4 } := J.landed ground fl4.1 ((up.trans up3).trans up4) hos bare
    obtain ⟨o4, v4, e4, z4, d4⟩ := fl4.there
    have S4 := Inv.suite landed4 e4 d4 fresh offL offF
    refine store_ok (X := X.suite a ((a, o4) :: (X.pn ++ pins))) (v := .ref a) S4 hN hi lc rfl (fun s5 S5 => ?_) (.inr hln)
    refine wpAny_mono ((hsu a o4 C (X.pn ++ pins) offB z4 ⟨_, d4⟩).run [] s5 _ H0 _ S5 (go a fresh)) (fun f s6 hsp => ?_) (fun _ _ z => z.elim)
    cases f with
    | ret u =>
      obtain ⟨v6, σ6, H6, S6, r6, q6⟩ := hsp
      exact gone_ok (S6.unsuite okX) hN hi hln fun s7 J7 => ⟨_, _, _, J7, r6, q6⟩
    | next => obtain ⟨_, _, _, z⟩ := hsp; exact z.elim
    | brk => obtain ⟨_, _, _, z⟩ := hsp; exact z.elim
    | cont => obtain ⟨_, _, _, z⟩ := hsp; exact z.elim
  · cases f with
    | next =>
      obtain ⟨σ6, H6, J6, q⟩ := done
      exact wpAny_execs_nil ⟨σ6, H6, J6.ofTry okX, q⟩
    | brk =>
      obtain ⟨σ6, H6, J6, q⟩ := done
      exact ⟨σ6, H6, J6.ofTry okX, q⟩
    | cont =>
      obtain ⟨σ6, H6, J6, q⟩ := done
      exact ⟨σ6, H6, J6.ofTry okX, q⟩
    | ret u =>
      obtain ⟨v, σ6, H6, J6, r, q⟩ := done
      exact ⟨v, σ6, H6, J6.ofTry okX, r, q⟩
end
end WL

/-! ## A def that finds words for an exception -/
namespace WL
open PySem L2 L2H
section
variable {g : Gm} {X : Cx} {Wx : WX} {N : List Str} {sc : Scope} {p : Addr × Obj} {C : Addr}
/-- if isinstance(e, ..): w.append("..") -/
def pMid (sc : Scope) (e w : Str) : Stmt → Option (List Str × Str)
  | .If t [.Expr (.Call (.Attribute (.Name w' _) m apos) [.Constant (.str x) _ _] [] pos) _] [] _ => (pIs sc e t).bind fun cs => guardO (decide (m = "append") && (decide (w' = w) && (apos.endLine == pos.line && plainTest t))) (some (cs, x))
  | _ => none
def tMid (i j : Nat) (a : Addr) (b : Bool) (x : Str) : TSW := fun D σ H => σ[i]? = some (some (.ref a)) ∧ ∃ q acc, σ[j]? = some (some (.ref q)) ∧ H q = some (.lst acc) ∧ acc.length < 1000 ∧ D.nx σ (if b = true then updW H q (.lst (acc ++ [.str x])) else H)
theorem pMid_ok (S : HotX g X N sc p C) {e w : Str} {s : Stmt} {cs : List Str} {x : Str} {i j : Nat} {b : Bool} (h : pMid sc e w s = some (cs, x)) (hi : idx N e = some i) (he : sc.names.lookup e = some .local) (ho : okName e = true)
    (hj : idx N w = some j) (hw : sc.names.lookup w = some .local) (hwo : okName w = true) (hb : isxA g C cs b) : PS X s (lowS X.K Wx (tMid i j p.1 b x)) := by
  obtain ⟨o1, o2, o3⟩ := okName_ok hwo
  have hX : X.N[j]? = some w := by rw [S.hN]; exact idx_ok hj
  unfold pMid at h
  split at h
  · rename_i t w' q1 m apos x' kx q2 pos q3 q4
    cases ht : pIs sc e t with
    | none => rw [ht] at h; cases h
    | some ds =>
      rw [ht] at h
      obtain ⟨h0, h⟩ := guardO_some (show guardO _ (some (ds, x')) = some (cs, x) from h)
      cases h
      obtain ⟨h1, h0⟩ := and_ok h0
      obtain ⟨h2, h0⟩ := and_ok h0
      obtain ⟨h3, h4⟩ := and_ok h0
      have em : m = "append" := of_decide_eq_true h1
      have ew : w' = w := of_decide_eq_true h2
      subst em ew
      have test := w_truT (pIs_ok (Wx := Wx) S ht hi he ho hb) h4
      have app := w_app (w_var (pos := q1) (g := g) (Wx := Wx) hX (.inl (S.S.loc _ hw)) o1 o2) (w_lit (g := g) (w := .str x) (pe_str (X := X) (j := kx) (pos := q2)) fun _ => rfl) (apos := apos) (pos := pos) rfl rfl h3
      refine PS.imp (s_if (pos := q4) test (s_cons (s_expr (pos := q3) app rfl) s_nil) s_nil) fun D σ H h => ?_
      obtain ⟨F, σ', H', D', rs, ab, d, hs, q, acc, h5, h6, h7, h8⟩ := h
      refine ⟨F, σ', H', D', rs, ab, d, hs, b, rfl, ?_⟩
      cases b with
      | true =>
        refine ⟨.ref q, h5, ⟨acc, h6⟩, acc, h6, Nat.lt_of_lt_of_le h7 (by decide), h8⟩
      | false => exact h8
  · cases h
/-- return w[0] if len(w) == 1 and isinstance(e, ..) else ".." -/
def pLast (sc : Scope) (e w : Str) : Stmt → Option (List Str × Str)
  | .Return (some (.IfExp (.BoolOp .And [.Compare (.Call (.Name l _) [.Name w1 _] [] _) [.Eq] [.Constant (.int 1) _ _] _, t] _) (.Subscript (.Name w2 _) (.Constant (.int 0) _ _) _) (.Constant (.str x) _ _) _)) _ =>
    (pIs sc e t).bind fun cs => guardO (decide (l = "len") && (decide (w1 = w) && (decide (w2 = w) && (glob sc l && plainTest t)))) (some (cs, x))
  | _ => none
def fin (acc : List Str) (b : Bool) (odd : Str) : Str := if acc.length = 1 ∧ b = true then acc.headD odd else odd
def tLast (i j : Nat) (a : Addr) (b : Bool) (x : Str) : TSW := fun D σ H => σ[i]? = some (some (.ref a)) ∧ ∃ q acc, σ[j]? = some (some (.ref q)) ∧ H q = some (.lst (acc.map W.str)) ∧ acc.length < 1000 ∧ D.rt (.str (fin acc b x)) H
theorem atI_nat0 (y : Str) : atI [W.str y] 0 = some (W.str y) := by rfl
theorem pLast_ok (S : HotX g X N sc p C) {e w : Str} {s : Stmt} {cs : List Str} {x : Str} {i j : Nat} {b : Bool} (h : pLast sc e w s = some (cs, x)) (hi : idx N e = some i) (he : sc.names.lookup e = some .local) (ho : okName e = true)
    (hj : idx N w = some j) (hw : sc.names.lookup w = some .local) (hwo : okName w = true) (hb : isxA g C cs b) : PS X s (lowS X.K Wx (tLast i j p.1 b x)) := by
  obtain ⟨o1, o2, o3⟩ := okName_ok hwo
  have hX : X.N[j]? = some w := by rw [S.hN]; exact idx_ok hj
  unfold pLast at h
  split at h
  · rename_i l q1 w1 q2 q3 k1 q4 q5 t q6 w2 q7 k2 q8 q9 x' k3 q10 q11 q12
    cases ht : pIs sc e t with
    | none => rw [ht] at h; cases h
    | some ds =>
      rw [ht] at h
      obtain ⟨h0, h⟩ := guardO_some (show guardO _ (some (ds, x')) = some (cs, x) from h)
      cases h
      obtain ⟨h1, h0⟩ := and_ok h0
      obtain ⟨h2, h0⟩ := and_ok h0
      obtain ⟨h3, h0⟩ := and_ok h0
      obtain ⟨h4, h5⟩ := and_ok h0
      have el : l = "len" := of_decide_eq_true h1
      have e1 : w1 = w := of_decide_eq_true h2
      have e2 : w2 = w := of_decide_eq_true h3
      subst el e1 e2
      obtain ⟨g1, _⟩ := glob_ok S.S h4
      have vw : ∀ q : Pos, PE X (.Name w2 q) (lowE X.K Wx (denE g (.var j))) := fun q => w_var hX (.inl (S.S.loc _ hw)) o1 o2
      obtain ⟨rV, hr, hl⟩ : ∃ rV, CallR X (.builtin "len") rV ∧ ListLow X.K (callW "len") rV := by
        refine ⟨_, call_len.or call_lenD, ?_⟩
        unfold callW
        simp only [if_true]
        exact len_low
      have tl := PE.imp (pe_callB (p := q1) (pos := q3) hr g1 (S.free _ (by simp)) PySem.boot_len (w_cons (vw q2) w_nil rfl) (by decide) (by decide) (starEach_cons rfl) rfl) fun σ H Q h => low_args (K := X.K) (Wx := Wx) hl h
      have tl2 : PE X (.Call (.Name "len" q1) [.Name w2 q2] [] q3) (lowE X.K Wx fun σ H Q E => tConsW (denE g (.var j)) tNilW σ H (fun ws H1 => callW "len" ws H1 Q) E) := tl
      have one := w_lit (g := g) (Wx := Wx) (w := .int 1) (pe_int (X := X) (j := k1) (pos := q4)) fun _ => rfl
      have c1 : PT X (.Compare (.Call (.Name "len" q1) [.Name w2 q2] [] q3) [.Eq] [.Constant (.int 1) k1 q4] q5) (lowT X.K Wx (truT (tOpW (cmpW .Eq) _ (denE g (.lit (.int 1)))))) := PT.imp (cmp_okT (by have := S.un; omega) tl2 one rfl) fun σ H Q h => by
        have q := low_tru h
        exact low_cmp q
      have both := (w_andT c1 (pw_and1 (w_truT (pIs_ok (Wx := Wx) S ht hi he ho hb) h5)) (pos := q6)).pt
      have ix := PE.imp (pe_ix (pos := q9) (ix_seq (X := X)) (vw q7) (w_lit (g := g) (Wx := Wx) (w := .int 0) (pe_int (X := X) (j := k2) (pos := q8)) fun _ => rfl) (ix_of rfl)) fun σ H Q h => low_op (ixW_low (K := X.K)) h
      have od := w_lit (g := g) (Wx := Wx) (w := .str x) (pe_str (X := X) (j := k3) (pos := q10)) fun _ => rfl
      refine PS.imp (s_ret (w_ife both ix od)) fun D σ H h => ?_
      obtain ⟨F, σ', H', D', rs, ab, d, hs, q, acc, h6, h7, h8, h9⟩ := h
      refine ⟨F, σ', H', D', rs, ab, d, .ref q, h6, ?_⟩
      have len1 : ∀ K : KW, K (.int ((acc.map W.str).length : Nat)) H' → callW "len" [.ref q] H' K := fun K hK => by
        unfold callW
        rw [if_pos rfl]
        exact ⟨_, rfl, .inl ⟨acc.map W.str, h7, hK⟩⟩
      dsimp only [tNilW]
      refine len1 _ ?_
      refine ⟨_, rfl, ?_⟩
      rw [List.length_map]
      have eb : (((acc.length : Nat) : Int) == (1 : Int)) = decide (acc.length = 1) := by
        cases z : decide (acc.length = 1) with
        | true => rw [of_decide_eq_true z]; rfl
        | false => exact beq_eq_false_iff_ne.mpr (by have := of_decide_eq_false z; omega)
      show if (((acc.length : Nat) : Int) == (1 : Int)) = true then _ else _
      rw [eb]
      by_cases z : acc.length = 1
      · rw [if_pos (decide_eq_true z)]
        refine ⟨hs, b, rfl, ?_⟩
        cases b with
        | true =>
          match acc, z, h7, h9 with
          | [y], _, h7, h9 => exact ⟨.ref q, h6, [W.str y], W.str y, h7, atI_nat0 y, h9⟩
        | false =>
          have : fin acc false x = x := if_neg (by simp)
          rw [this] at h9
          exact h9
      · rw [if_neg (by simpa using z)]
        have : fin acc b x = x := if_neg (fun h => z h.1)
        rw [this] at h9
        exact h9
  · cases h
/-- the middle and the end of such a def -/
def pMids (sc : Scope) (e w : Str) : List Stmt → Option (List (List Str × Str) × (List Str × Str))
  | [] => none
  | s :: r => match r with
    | [] => (pLast sc e w s).map fun z => ([], z)
    | _ :: _ => bind2 (pMid sc e w s) (pMids sc e w r) fun a b => (a :: b.1, b.2)
/-- the words that are gathered -/
def runW (g : Gm) (C : Addr) (d : List Str) (odd R : Str) : List (List Str × Str) → List Str → Prop
  | [], acc => ∃ b, isxA g C d b ∧ R = fin acc b odd
  | t :: ts, acc => ∃ b, isxA g C t.1 b ∧ runW g C d odd R ts (if b = true then acc ++ [t.2] else acc)
theorem pMids_ok (S : HotX g X N sc p C) {e w : Str} {i j : Nat} (hi : idx N e = some i) (he : sc.names.lookup e = some .local) (ho : okName e = true) (hj : idx N w = some j) (hw : sc.names.lookup w = some .local) (hwo : okName w = true) {d : List Str} {odd R : Str} :
    ∀ (ss : List Stmt) (ts : List (List Str × Str)) (acc : List Str), pMids sc e w ss = some (ts, (d, odd)) → runW g C d odd R ts acc → acc.length + ts.length < 1000 →
      PSs X ss (lowS X.K Wx fun D σ H => σ[i]? = some (some (.ref p.1)) ∧ ∃ q, σ[j]? = some (some (.ref q)) ∧ H q = some (.lst (acc.map W.str)) ∧ ∀ H', D.rt (.str R) H')
  | [], _, _, h, _, _ => by cases h
  | [s], ts, acc, h, hr, hl => by
    obtain ⟨z, h1, h2⟩ := map_some' (show (pLast sc e w s).map (fun z => (([] : List (List Str × Str)), z)) = some (ts, (d, odd)) from h)
    cases h2
    obtain ⟨b, hb, rfl⟩ := hr
    refine PSs.imp (s_cons (pLast_ok (Wx := Wx) S h1 hi he ho hj hw hwo hb) s_nil) fun D σ H ⟨F, σ', H', D', rs, ab, dr, h3, q, h4, h5, h6⟩ => ?_
    exact ⟨F, σ', H', D', rs, ab, dr, h3, q, acc, h4, h5, by simp at hl; exact hl, h6 H'⟩
  | s :: s2 :: r, ts, acc, h, hr, hl => by
    obtain ⟨t, u, h1, h2, h3⟩ := bind2_some (show bind2 (pMid sc e w s) (pMids sc e w (s2 :: r)) (fun a b => (a :: b.1, b.2)) = some (ts, (d, odd)) from h)
    obtain ⟨us, ud⟩ := u
    cases h3
    obtain ⟨b, hb, hr⟩ := hr
    obtain ⟨cs, x⟩ := t
    have hl : acc.length + (us.length + 1) < 1000 := hl
    have ih := pMids_ok S hi he ho hj hw hwo (s2 :: r) us (if b = true then acc ++ [x] else acc) h2 hr (by
      have : (if b = true then acc ++ [x] else acc).length ≤ acc.length + 1 := by cases b <;> simp
      omega)
    refine PSs.imp (s_cons (pMid_ok (Wx := Wx) S h1 hi he ho hj hw hwo hb) ih) fun D σ H ⟨F, σ', H', D', rs, ab, dr, h3, q, h4, h5, h6⟩ => ?_
    refine ⟨F, σ', H', D', rs, ab, dr, h3, q, acc.map W.str, h4, h5, by rw [List.length_map]; omega, h3, q, h4, ?_, h6⟩
    cases b with
    | true =>
      rw [if_pos rfl, if_pos rfl, updW_same, List.map_append]
      rfl
    | false => exact h5
def pWords (N : List Str) (sc : Scope) (e : Str) : List Stmt → Option (List (List Str × Str) × (List Str × Str))
  | .Assign [.Name w _] (.List [] _) _ :: r => guardO (decide (sc.names.lookup e = some .local) && (okName e && (decide (sc.names.lookup w = some .local) && (okName w && (idx N e).isSome && ((idx N w).isSome && !decide (w = e)))))) (pMids sc e w r)
  | _ => none
end
/-! ### the clause's suite -/
def pHd (N : List Str) (sc : Scope) (n : Str) : List Stmt → Option Hd
  | [.Return (some (.Call (.Name f _) [.Name n' _] [] _)) _] => guardO (decide (n' = n) && glob sc f) (some (.call f))
  | [.If t [.Return (some (.Constant (.bool b) _ _)) _] [] _, .Return (some (.BoolOp .And [t2, t3] _)) _] => bind2 (pIs sc n t) (bind2 (pIs sc n t2) (pIs sc n t3) Prod.mk) (fun cs p => (b, cs, p)) |>.bind fun z => match z with
    | (false, cs, [c], [d]) => guardO (plainTest t) (some (.sel cs c d))
    | _ => none
  | _ => none
section
variable {g : Gm} {k : Nat} {X : Cx} {Wx : WX} {N : List Str} {sc : Scope}
def tsH (K : PySem.W.Frag) (g : Gm) (i : Nat) (h : Hd) (a C : Addr) : TS := fun D σ H => ∃ F H' Q' σ0, σ = (σ0 : L2.St).set i (some (.ref a)) ∧ AbH K F H' H ∧ QR K F Q' D.rt ∧ hdW g C (fun w => Q' w H') h
theorem suite_call (C : Ctx g k X Wx) (S : Sc sc X) {n f : Str} {i : Nat} (hi : X.N[i]? = some n) (hn : X.env.scope.names.lookup n = some .local) (ho : okName n = true) (hf : glob sc f = true) {p1 p2 p3 p4 : Pos} {a : Addr} {oe : Obj} {D : Addr} {pn : List (Addr × Obj)} (pc : PinC D (a, oe)) :
    PSs (X.suite a ((a, oe) :: pn)) [.Return (some (.Call (.Name f p1) [.Name n p2] [] p3)) p4] (tsH X.K g i (.call f) a D) := by
  obtain ⟨o1, o2, o3⟩ := okName_ok ho
  obtain ⟨hg, hd⟩ := glob_ok S hf
  have pe : PE (X.suite a ((a, oe) :: pn)) (.Call (.Name f p1) [.Name n p2] [] p3) (fun σ H Q => ∃ F H' Q' σ0, σ = (σ0 : L2.St).set i (some (.ref a)) ∧ AbH X.K F H' H ∧ QR X.K F Q' Q ∧ ∃ R, g.wrd f D R ∧ Q' (.str R) H') := by
    refine ⟨fun pins s σ H Q I ⟨F, H', Q', σ0, es, ab, qr, R, hw, hq⟩ => ?_⟩
    obtain ⟨fa, fd, e, Fx, hm, hk, hb⟩ := C.says.wrd f D R hw
    have li : i < σ0.length := by
      have h1 := I.len
      rw [es, List.length_set] at h1
      rw [h1]
      exact (List.getElem?_eq_some_iff.mp hi).1
    have here : σ[i]? = some (some (V.ref a)) := by
      rw [es, List.getElem?_set_self li]
    refine wpAny_Call_Name_kw (ld_glob (X := X.suite a ((a, oe) :: pn)) I hg hm ?_ hd)
    refine PySem.W.callWith_K (h₀ := X.base) I.ok.mod.kin hk (thn ((pa_cons (pe_var (X := X.suite a ((a, oe) :: pn)) (pos := p2) hi (.inl hn) o1 o2) pa_nil (starEach_cons rfl)).run p3 pins s σ H (fun vs H1 => vs = [.ref a] ∧ H1 = H) I ⟨.ref a, here, rfl, rfl⟩)
      fun us s1 ⟨vs, H1, I1, r, q⟩ => ⟨I1.kIn, ?_⟩) (starEach_cons rfl) rfl
    obtain ⟨rfl, rfl⟩ := q
    have eu : us = [.ref a] := by
      cases r with
      | cons r1 r2 =>
        cases r2
        cases r1
        rfl
    subst eu
    have pin1 := I1.pin (a, oe) (List.mem_append_left _ (List.mem_cons_self ..))
    have pinned : PinOk (X.suite a ((a, oe) :: pn)).stack H1 s1 (a, oe) :=
      ⟨pin1.1, pin1.2.1, fun hm => (List.mem_cons.mp (I1.stkSub a hm)).elim pin1.2.2.1 pin1.2.2.2.1, pin1.2.2.2.2⟩
    have room : RoomH k (X.suite a ((a, oe) :: pn)).A := RoomH.mono (j := k) (k := k + 1) ⟨C.room.dp, C.room.un⟩ (Nat.le_succ _)
    have binds := hb s1 [.ref a] I1.kIn rfl
    refine wpAny_call (codeAny_mono (Fx.run _ _ s1 H1 ⟨[.ref a], []⟩ Q (a, oe) room pinned pc I1.env0 binds fun H2 s2 => qr _ _ hq F _ H2 (Same.refl _) rfl (ab.same s2)) fun r s' hr => ?_)
    cases r with
    | error e => exact hr.elim
    | ok fl =>
      cases fl with
      | ret u => exact I1.after hr
      | next => exact hr.elim
      | brk => exact hr.elim
      | cont => exact hr.elim
  exact PSs.imp (pss_one (ps_ret pe)) fun D σ H h => h
theorem suite_sel (C : Ctx g k X Wx) (S : Sc sc X) (hN : X.N = N) (fn : ∀ x, X.fn x = true) {n : Str} {i : Nat} (hi : idx N n = some i) (hn : sc.names.lookup n = some .local) (ho : okName n = true) {cs : List Str} {c d : Str} {t t2 t3 : Expr} (h1 : pIs sc n t = some cs) (h2 : pIs sc n t2 = some [c]) (h3 : pIs sc n t3 = some [d]) (hp : plainTest t = true)
    {k1 : Nat} {p1 p2 p3 p4 p5 : Pos} {a : Addr} {oe : Obj} {D : Addr} {pn : List (Addr × Obj)} (pc : PinC D (a, oe)) :
    PSs (X.suite a ((a, oe) :: pn)) [.If t [.Return (some (.Constant (.bool false) k1 p1)) p2] [] p3, .Return (some (.BoolOp .And [t2, t3] p4)) p5] (tsH X.K g i (.sel cs c d) a D) := by
  have hX : X.N[i]? = some n := by rw [hN]; exact idx_ok hi
  have HX : HotX g (X.suite a ((a, oe) :: pn)) N sc (a, oe) D := ⟨C.says.isx, C.free, ⟨S.loc, S.cell, S.free, S.glob⟩, hN, by rw [← hN]; exact C.nd, fn, List.mem_cons_self .., pc, by have := C.room.un; show X.A.units + 100 < cLine; omega⟩
  refine ⟨fun pins s σ H Df I h => ?_⟩
  obtain ⟨F, H', Q', σ0, es, ab, qr, b, k2, r, hb, _, hc, hd, hq⟩ := h
  have never : ∀ {c : Str} {b : Bool}, g.isx D c b → isxA g D [c] b := fun {c b} h => ⟨b, false, h, rfl, (Bool.or_false b).symm⟩
  have T1 := w_truT (pIs_ok (Wx := fun _ _ _ _ => False) HX h1 hi hn ho hb) hp
  have E2 := pIs_ok (Wx := fun _ _ _ _ => False) HX h2 hi hn ho (never hc)
  have E3 := pIs_ok (Wx := fun _ _ _ _ => False) HX h3 hi hn ho (never hd)
  have A := w_and (pos := p4) E2 (pe_one (pos := p4) E3)
  have body := s_cons (s_if (pos := p3) T1 (s_cons (s_ret (pos := p2) (w_lit (g := g) (Wx := fun _ _ _ _ => False) (w := .bl false) (pe_bl (X := X.suite a ((a, oe) :: pn)) (j := k1) (pos := p1)) fun _ => rfl)) s_nil) s_nil) (s_cons (s_ret (pos := p5) A) s_nil)
  refine body.run pins s σ H Df I ?_
  have nones : ∀ σ : L2.St, RelS X.K F (List.replicate σ.length none) σ := fun σ => by
    induction σ with
    | nil => exact rfl
    | cons v r ih => exact ⟨v, r, rfl, (fun w q => by cases q), ih⟩
  have li : i < σ0.length := by
    have h1 := I.len
    rw [es, List.length_set] at h1
    rw [h1]
    exact (List.getElem?_eq_some_iff.mp hX).1
  have here : ((List.replicate σ0.length (none : Option W)).set i (some (W.ref a)))[i]? = some (some (W.ref a)) := List.getElem?_set_self (by rw [List.length_replicate]; exact li)
  refine ⟨F, (List.replicate σ0.length none).set i (some (.ref a)), H', { nx := fun _ _ => False, rt := Q', bk := fun _ _ => False, ct := fun _ _ => False, ex := fun _ _ _ => False }, ?_, ab,
    ⟨fun _ _ h => h.elim, qr, fun _ _ h => h.elim, fun _ _ h => h.elim, fun _ _ _ h => h.elim⟩, here, b, rfl, ?_⟩
  · rw [es]
    exact (nones σ0).set (show RelW X.K F (.ref a) (.ref a) from rfl) i
  · cases b with
    | true => exact hq
    | false =>
      refine ⟨here, k2, rfl, ?_⟩
      cases k2 with
      | true => exact ⟨here, hq⟩
      | false => exact hq
/-- try: .., one clause that names the exception and gives something back -/
theorem s_tryH {x n : Str} {i : Nat} {body rest : List Stmt} {b₀ : Stmt} {np pos pos' : Pos} {tb : TSW} {h : Hd} (hst : X.stack = X.env :: X.outer) (hfr : X.env.frame = some X.env.locals) (C : Ctx g k X Wx) (hi : X.N[i]? = some n) (hln : X.env.kindOf n = some .local) (hgx : Gl X x) (hdb : (x == ("__debug__" : Str)) = false)
    (hb : ∀ (Wy : WX) (pn : List (Addr × Obj)) (xe : Value → Shared → Prop), Takes (X.tr pn xe) Wy →
      PassesOwn (model X.prog X.w) X.A X.env xe → PSs (X.tr pn xe) body (lowS X.K Wy tb))
    (hsu : ∀ (a : Addr) (oe : Obj) (D : Addr) (pn : List (Addr × Obj)), PinC D (a, oe) → PSs (X.suite a ((a, oe) :: pn)) (b₀ :: rest) (tsH X.K g i h a D)) :
    PS X (.Try body [.ExceptHandler (some (.Name x np)) (some n) (b₀ :: rest) pos'] [] [] pos)
      (lowS X.K Wx fun D σ H => (∃ C k, g.exm C x k) ∧ tb { D with ex := fun C _ H1 => g.exm C x true ∧ hdW g C (fun w => D.rt w H1) h } σ H) := by
  refine ⟨fun pins s σ H D I hr => ?_⟩
  obtain ⟨F, σ', H', D', rs, ab, d, ⟨C0, k0, h0⟩, hr⟩ := hr
  obtain ⟨c, ec, _⟩ := C.says.exm C0 x k0 h0
  refine (ps_try_ret (ts := tsH X.K g i h) hst hfr C.nd hi hln ⟨hgx, hdb, .inl ec⟩ hb (fun a oe D pn _ z zz => hsu a oe D pn ⟨z, zz⟩)).run pins s σ H D I ?_
  refine ⟨F, σ', H', { D' with ex := fun C _ H1 => g.exm C x true ∧ hdW g C (fun w => D'.rt w H1) h }, rs, ab, ⟨d.nx, d.rt, d.bk, d.ct, fun E a b hx F1 σ1 H1 s1 r1 ab1 => ?_⟩, hr⟩
  obtain ⟨hm, hw⟩ := hx
  obtain ⟨c2, ec2, hm2⟩ := C.says.exm E x true hm
  have e : c2 = c := by
    rw [ec] at ec2
    exact (Value.ref.inj (Option.some.inj ec2)).symm
  rw [e] at hm2
  exact ⟨E, rfl, rfl, hm2, fun a2 _ => ⟨F1, b, D'.rt, σ1, rfl, ab1, d.rt.mono s1, hw⟩⟩
end
end WL

/-! ## The reading is right: all expressions; statements; defs -/
namespace WL
open PySem L2
section
variable {g : Gm} {k : Nat} {N : List Str} {rE : RE} {rT : RT} {sc : Scope} {X : Cx} {Wx : WX}
/-- the scope of a comprehension's block -/
theorem lookup_relab {env : Env} : ∀ {names : List (Str × NameKind)} {x : Str} {kd : NameKind}, names.lookup x = some kd →
    (names.map fun (n, k) => if (k == NameKind.free && env.scope.kind == .function && env.kindOf n == some .cell) then (n, NameKind.cell) else (n, k)).lookup x = some kd ∨
      (kd = .free ∧ (names.map fun (n, k) => if (k == NameKind.free && env.scope.kind == .function && env.kindOf n == some .cell) then (n, NameKind.cell) else (n, k)).lookup x = some .cell)
  | [], _, _, h => by simp at h
  | (n, kn) :: r, x, kd, h => by
    rw [List.map_cons, List.lookup_cons] at *
    cases hx : x == n with
    | true =>
      simp only [hx] at h
      cases h
      by_cases hc : (kn == NameKind.free && env.scope.kind == .function && env.kindOf n == some .cell) = true
      · rw [if_pos hc]
        refine .inr ⟨?_, by simp [hx]⟩
        obtain ⟨h1, _⟩ := Bool.and_eq_true_iff.mp (Bool.and_eq_true_iff.mp hc).1
        exact eq_of_beq h1
      · rw [if_neg hc]
        exact .inl (by simp [hx])
    | false =>
      simp only [hx] at h
      have ih := lookup_relab (env := env) (names := r) h
      by_cases hc : (kn == NameKind.free && env.scope.kind == .function && env.kindOf n == some .cell) = true
      · rw [if_pos hc]
        simp only [hx]
        exact ih
      · rw [if_neg hc]
        simp only [hx]
        exact ih
theorem sc_blk {scope : Scope} {s : Shared} {H : Hp} {A : Addr} {cl : List (Str × Addr)} {fp : List Addr} : Sc scope (X.blk s H scope (compEnvC scope cl A X.env) fp) := by
  have gen : ∀ x kd, scope.names.lookup x = some kd → (X.blk s H scope (compEnvC scope cl A X.env) fp).env.scope.names.lookup x = some kd ∨ (kd = .free ∧ (X.blk s H scope (compEnvC scope cl A X.env) fp).env.scope.names.lookup x = some .cell) :=
    fun x kd h => lookup_relab (env := X.env) h
  refine ⟨fun x h => ?_, fun x h => ?_, fun x h => ?_, fun x h => ?_⟩
  · rcases gen x _ h with z | ⟨z, _⟩
    · exact z
    · cases z
  · rcases gen x _ h with z | ⟨z, _⟩
    · exact z
    · cases z
  · rcases gen x _ h with z | ⟨_, z⟩
    · exact .inr z
    · exact .inl z
  · rcases gen x _ h with z | ⟨z, _⟩
    · exact z
    · cases z
theorem ctx_blk (C : Ctx g k X Wx) {scope : Scope} {s : Shared} {H : Hp} {env : Env} {fp : List Addr} : Ctx g k (X.blk s H scope env fp) (fun _ _ _ _ => False) :=
  ⟨⟨C.says.fn, C.says.mth, C.says.made, C.says.fld, C.says.int, C.says.exc, C.says.exm, C.says.isx, C.says.wrd, C.says.ist⟩, C.free, C.room, C.calm, C.nd, takes0⟩
theorem blk_ok {scope : Scope} {own : List (Str × Nat)} (S : Sc sc X) (h : blkC N sc scope own = true) (hN : X.N = N) : BlkOk X.N X.env.scope scope own := by
  subst hN
  obtain ⟨h1, h2, h3, h4, h5⟩ := blkOk_by h
  exact ⟨h1, h2, h3, fun y hy e => (h4 y hy e).elim (fun z => .inl (S.cell _ z)) fun z => S.free _ z, h5⟩
theorem cComp_parts (hE : SE g k N rE) (hT : STt g k N rT) (C : Ctx g k X Wx) (S : Sc sc X) (hN : X.N = N) {elt : Expr} {gens : List Comprehension} {scope : Scope} {c : CE} (h : cComp N rE rT sc elt gens scope = some c) :
    ∃ x px it ifs i ti tt te, gens = [⟨.Name x px, it, ifs, 0⟩] ∧ PI X (.Name x px) it (lowI X.K Wx ti) ∧ BlkOk X.N X.env.scope scope [(x, i)] ∧
      (∀ (s : Shared) (H : Hp) (A : Addr) (cl : List (Str × Addr)) (fp : List Addr), PG (X.blk s H scope (compEnvC scope cl A X.env) fp) (.Name x px) (gName i)) ∧
      (∀ (s : Shared) (H : Hp) (A : Addr) (cl : List (Str × Addr)) (fp : List Addr), PTs (X.blk s H scope (compEnvC scope cl A X.env) fp) ifs (lowT X.K (fun _ _ _ _ => False) tt)) ∧
      (∀ (s : Shared) (H : Hp) (A : Addr) (cl : List (Str × Addr)) (fp : List Addr), PE (X.blk s H scope (compEnvC scope cl A X.env) fp) elt (lowE X.K (fun _ _ _ _ => False) te)) ∧ (∀ z, foldedSetIterable it X.env z = pure z) ∧ denE g c = compW i ti tt te := by
  unfold cComp at h
  split at h
  · rename_i x px it ifs
    split at h
    · rename_i i hi
      obtain ⟨h0, h⟩ := guardO_some h
      obtain ⟨hb, h0⟩ := and_ok h0
      obtain ⟨hset, hloc⟩ := and_ok h0
      obtain ⟨ci, p, h1, h2, rfl⟩ := bind2_some h
      obtain ⟨ce, cu, h3, h4, rfl⟩ := bind2_some h2
      have hl : scope.names.lookup x = some .local := by
        split at hloc
        · assumption
        · cases hloc
      have hix : X.N[i]? = some x := by rw [hN]; exact idx_ok hi
      refine ⟨x, px, it, ifs, i, denI g ci, denU g cu, denE g ce, rfl, cI_ok (fun e c h => hE sc e c X Wx h C S hN) C S h1, blk_ok S hb hN, fun s H A cl fp => ?_, fun s H A cl fp => ?_, fun s H A cl fp => ?_, folded_of hset, rfl⟩
      · exact pg_name C.nd hix (.inl (sc_blk.loc x hl)) (.inr (sc_blk.loc x hl))
      · cases ifs with
        | nil =>
          cases h4
          exact ⟨fun pins s σ H Q I ⟨F, σ', H', Q', E', rs, ab, qr, er, h⟩ => pts_nil.run pins s σ H Q I (qr true H' h F H (Same.refl _) ab)⟩
        | cons t r =>
          cases r with
          | nil =>
            obtain ⟨ct, h5, rfl⟩ := map_some' h4
            exact pts_one (hT scope t ct _ _ h5 (ctx_blk C) sc_blk hN)
          | cons _ _ => cases h4
      · exact hE scope elt ce _ _ h3 (ctx_blk C) sc_blk hN
    · cases h
  · cases h
theorem cComp_ok (hE : SE g k N rE) (hT : STt g k N rT) (C : Ctx g k X Wx) (S : Sc sc X) (hN : X.N = N) {elt : Expr} {gens : List Comprehension} {scope : Scope} {pos : Pos} {c : CE} (h : cComp N rE rT sc elt gens scope = some c) :
    PE X (.ListComp elt gens scope pos) (lowE X.K Wx (denE g c)) := by
  obtain ⟨x, px, it, ifs, i, ti, tt, te, rfl, h1, h2, h3, h4, h5, h6, h7⟩ := cComp_parts hE hT C S hN h
  rw [h7]
  exact PE.imp (pe_lc (own := [(x, i)]) (g := gName i) C.calm C.nd h1 h2 h3 h4 h5 h6) fun σ H Q h => low_lcm h
theorem stepE_ok (hE : SE g k N rE) (hT : STt g k N rT) : SE g k N (stepE N rE rT) := by
  intro sc e c X Wx h C S hN
  have hE' : ∀ e c, rE sc e = some c → PE X e (lowE X.K Wx (denE g c)) := fun e c h => hE sc e c X Wx h C S hN
  have hT' : ∀ e c, rT sc e = some c → PT X e (lowT X.K Wx (denT g c)) := fun e c h => hT sc e c X Wx h C S hN
  cases e with
  | Constant c0 n pos =>
    cases c0 <;> first
      | (cases h; exact w_lit pe_non fun _ => rfl)
      | (cases h; exact w_lit pe_bl fun _ => rfl)
      | (cases h; exact w_lit pe_int fun _ => rfl)
      | (cases h; exact w_lit pe_str fun _ => rfl)
      | cases h
  | Name x pos => exact cName_ok h C S hN
  | List es pos =>
    obtain ⟨a, h1, rfl⟩ := map_some' (show (cA (rE sc) es).map .lst = some c from h)
    exact w_lst (cA_ok hE' h1).1
  | Tuple es n pos =>
    obtain ⟨a, h1, rfl⟩ := map_some' (show (cA (rE sc) es).map .tup = some c from h)
    exact w_tup (cA_ok hE' h1).1
  | BinOp a op b pos =>
    obtain ⟨x, y, h1, h2, rfl⟩ := bind2_some (show bind2 (rE sc a) (rE sc b) (.bin op) = some c from h)
    exact w_bin (hE' a x h1) (hE' b y h2)
  | UnaryOp op a pos =>
    cases op with
    | USub =>
      obtain ⟨x, h1, rfl⟩ := map_some' (show (rE sc a).map .neg = some c from h)
      exact w_neg (hE' a x h1)
    | Not =>
      obtain ⟨x, h1, rfl⟩ := map_some' (show (rE sc a).map .notV = some c from h)
      exact w_not (hE' a x h1)
    | _ => cases h
  | Compare a ops bs pos =>
    simp only [stepE] at h
    split at h
    · split at h
      · rename_i n lo hi ei
        obtain ⟨p, p1, p2, q, k1, k2, rfl, rfl, hl⟩ := inOf_some ei
        obtain ⟨hg, h⟩ := guardO_some h
        obtain ⟨x, h1, rfl⟩ := map_some' h
        exact w_inr C hl (glob_ok S hg).1 (hE' _ x h1)
      obtain ⟨hm, h⟩ := guardO_some h
      obtain ⟨x, y, h1, h2, rfl⟩ := bind2_some h
      exact w_cmp C (hE' _ x h1) (hE' _ y h2) (by simpa using hm)
    · obtain ⟨hm, h⟩ := guardO_some h
      obtain ⟨x, p, h1, h2, rfl⟩ := bind2_some h
      obtain ⟨y, z, h3, h4, rfl⟩ := bind2_some h2
      exact w_chn C (hE' _ x h1) (hE' _ y h3) (hE' _ z h4) (by simpa using hm)
    · cases h
  | BoolOp op vs pos => exact cBools_ok hE' (show cBools op (rE sc) vs = some c from h)
  | IfExp t a b pos =>
    obtain ⟨x, p, h1, h2, rfl⟩ := bind2_some (show bind2 (rT sc t) (bind2 (rE sc a) (rE sc b) Prod.mk) (fun t p => .ife t p.1 p.2) = some c from h)
    obtain ⟨y, z, h3, h4, rfl⟩ := bind2_some h2
    exact w_ife (hT' _ x h1) (hE' _ y h3) (hE' _ z h4)
  | Attribute o f pos =>
    obtain ⟨hb, h⟩ := guardO_some (show guardO (plainBase o) ((rE sc o).map (.fld · f)) = some c from h)
    obtain ⟨x, h1, rfl⟩ := map_some' h
    exact w_fld C.says (hE' o x h1) hb
  | Subscript a s pos => exact cSub_ok hE' C (show cSub (rE sc) a s = some c from h)
  | Call f args kws pos =>
    simp only [stepE] at h
    split at h
    · split at h
      · exact cCallN_ok hE' C S h
      · exact cMeth_ok hE' C h
      · cases h
    · cases h
  | ListComp elt gens scope pos => exact cComp_ok hE hT C S hN (show cComp N rE rT sc elt gens scope = some c from h)
  | Dict keys values pos =>
    simp only [stepE] at h
    split at h
    · cases h
      exact w_dnew
    · obtain ⟨h0, h⟩ := guardO_some h
      obtain ⟨h1, h0⟩ := and_ok h0
      obtain ⟨h2, h3⟩ := and_ok h0
      obtain ⟨ps, h4, rfl⟩ := map_some' h
      exact w_dct (cPs_ok hE' h4) h1 (of_decide_eq_true h2) (List.cons_ne_nil _ _) (of_decide_eq_true h3)
    · cases h
  | _ => cases h
theorem stepT_ok (hE : SE g k N rE) (hT : STt g k N rT) : STt g k N (stepT rE rT) := by
  intro sc e c X Wx h C S hN
  have hE' : ∀ e c, rE sc e = some c → PE X e (lowE X.K Wx (denE g c)) := fun e c h => hE sc e c X Wx h C S hN
  have hT' : ∀ e c, rT sc e = some c → PT X e (lowT X.K Wx (denT g c)) := fun e c h => hT sc e c X Wx h C S hN
  have plain : ∀ e, plainTest e = true → guardO (plainTest e) ((rE sc e).map .tru) = some c → PT X e (lowT X.K Wx (denT g c)) := fun e hp h => by
    obtain ⟨_, h⟩ := guardO_some h
    obtain ⟨x, h1, rfl⟩ := map_some' h
    exact w_truT (hE' e x h1) hp
  cases e with
  | BoolOp op vs pos => exact (cTests_ok hT' (show cTests op (rT sc) vs = some c from h)).pt
  | UnaryOp op a pos =>
    cases op with
    | Not =>
      obtain ⟨x, h1, rfl⟩ := map_some' (show (rT sc a).map .not = some c from h)
      exact w_notT (hT' a x h1)
    | _ => cases h
  | Compare a ops bs pos =>
    simp only [stepT] at h
    split at h
    · split at h
      · rename_i n lo hi ei
        obtain ⟨p, p1, p2, q, k1, k2, rfl, rfl, hl⟩ := inOf_some ei
        obtain ⟨hg, h⟩ := guardO_some h
        obtain ⟨x, h1, rfl⟩ := map_some' h
        exact w_inrT C hl (glob_ok S hg).1 (hE' _ x h1)
      obtain ⟨hm, h⟩ := guardO_some h
      obtain ⟨x, y, h1, h2, rfl⟩ := bind2_some h
      exact w_cmpT C (hE' _ x h1) (hE' _ y h2) (by simpa using hm)
    · obtain ⟨hm, h⟩ := guardO_some h
      obtain ⟨x, p, h1, h2, rfl⟩ := bind2_some h
      obtain ⟨y, z, h3, h4, rfl⟩ := bind2_some h2
      exact w_chnT C (hE' _ x h1) (hE' _ y h3) (hE' _ z h4) (by simpa using hm)
    · cases h
  | IfExp t a b pos =>
    obtain ⟨h0, _⟩ := guardO_some (show guardO (plainTest (.IfExp t a b pos)) ((rE sc (.IfExp t a b pos)).map .tru) = some c from h)
    cases h0
  | _ => exact plain _ rfl h
theorem cET_ok : ∀ n, SE g k N (cET N n).1 ∧ STt g k N (cET N n).2
  | 0 => ⟨fun _ _ _ _ _ h => (by cases h), fun _ _ _ _ _ h => (by cases h)⟩
  | n + 1 =>
    let ⟨a, b⟩ := cET_ok n
    ⟨stepE_ok a b, stepT_ok a b⟩
end
end WL

/-! ## Statements and defs read -/
namespace WL
open PySem L2
structure CtxS (g : Gm) (k : Nat) (X : Cx) (Wx : WX) (N : List Str) (sc : Scope) : Prop where
  ctx : Ctx g k X Wx
  own : PassesOwn (model X.prog X.w) X.A X.env X.xe
  hs : X.stack = X.env :: X.outer
  hf : X.env.frame = some X.env.locals
  fn : ∀ x, X.fn x = true
  scope : X.env.scope = sc
  kind : X.env.scope.kind = .function
  hN : X.N = N
theorem CtxS.sc {g : Gm} {k : Nat} {X : Cx} {Wx : WX} {N : List Str} {sc : Scope} (C : CtxS g k X Wx N sc) : Sc sc X := by
  have e := C.scope
  subst e
  exact ⟨fun _ h => h, fun _ h => h, fun _ h => .inr h, fun _ h => h⟩
def locIx (N : List Str) (sc : Scope) (x : Str) : Option Nat := match sc.names.lookup x with
  | some .local => idx N x
  | some .cell => idx N x
  | _ => none
theorem locIx_ok {g : Gm} {k : Nat} {X : Cx} {Wx : WX} {N : List Str} {sc : Scope} (C : CtxS g k X Wx N sc) {x : Str} {i : Nat} (h : locIx N sc x = some i) : X.N[i]? = some x ∧ Loc X.env.scope x := by
  have e := C.scope
  have eN := C.hN
  subst e
  subst eN
  unfold locIx at h
  split at h
  · exact ⟨idx_ok h, .inl (by assumption)⟩
  · exact ⟨idx_ok h, .inr (by assumption)⟩
  · cases h
def cBlock (rS : Stmt → Option CS) : List Stmt → Option (List CS)
  | [] => some []
  | s :: r => bind2 (rS s) (cBlock rS r) List.cons
def constW : Const → Option (W × V)
  | .none => some (.non, .non)
  | .bool b => some (.bl b, .bl b)
  | _ => none
theorem constW_ok {c : Const} {w : W} {v : V} (h : constW c = some (w, v)) : (∀ K F, RelW K F w v) ∧ ∀ (Y : Cx) n p p2, PS Y (.Return (some (.Constant c n p)) p2) (fun D _ H => D.rt v H) := by
  cases c with
  | none => cases h; exact ⟨fun _ _ => rfl, fun Y n p p2 => ps_ret pe_non⟩
  | bool b => cases h; exact ⟨fun _ _ => rfl, fun Y n p p2 => ps_ret pe_bl⟩
  | _ => cases h
def isLocal (sc : Scope) (x : Str) : Bool := match sc.names.lookup x with
  | some .local => true
  | _ => false
def plainTuple : Expr → Bool
  | .Tuple _ _ _ => false
  | .List _ _ => false
  | _ => true
/-- a, b, c = x, y, z with plain names: stored from the right -/
def sw3 (sc : Scope) (a b c : Str) (pa pb pc : Pos) (x y z : Expr) : Bool :=
  (isLocal sc a && (isLocal sc b && isLocal sc c)) && ((pb.line == pa.line && pc.line == pa.line) && (([a, b, c].eraseDups.length == 3 && (!(a == b) && (!(a == c) && !(b == c)))) && ((notStar x && (notStar y && notStar z)) && (!([x, y, z].all (foldedForSure 8)) && !([x, y, z].all (constantsAlone 8))))))
theorem isLocal_ok {sc : Scope} {x : Str} (h : isLocal sc x = true) : sc.names.lookup x = some .local := by
  unfold isLocal at h
  split at h
  · assumption
  · cases h
theorem star_of (x : Expr) : (match x with | .Starred _ _ => true | _ => false) = !notStar x := by cases x <;> rfl
theorem stores_sw {sc : Scope} {a b c : Str} {pa pb pc pt p2 : Pos} {n k2 : Nat} {x y z : Expr} {env : Env} (he : env.scope = sc) (hk : sc.kind = .function) (h : sw3 sc a b c pa pb pc x y z = true) :
    swappedStores [.Tuple [.Name a pa, .Name b pb, .Name c pc] n pt] (.Tuple [x, y, z] k2 p2) env = pure (some [a, b, c]) := by
  subst he
  unfold sw3 at h
  simp only [Bool.and_eq_true, Bool.not_eq_true', beq_iff_eq] at h
  obtain ⟨⟨l1, l2, l3⟩, ⟨q1, q2⟩, ⟨e3, _, _, _⟩, ⟨s1, s2, s3⟩, f1, f2⟩ := h
  have k1 : env.kindOf a = some .local := isLocal_ok l1
  have k2 : env.kindOf b = some .local := isLocal_ok l2
  have k3 : env.kindOf c = some .local := isLocal_ok l3
  have hb : env.blockKind = .function := by
    unfold Env.blockKind
    rw [hk]
    rfl
  have st : ∀ p : Expr → Bool, (∀ e, notStar e = true → p e = false) → [x, y, z].any p = false := fun p hp => by
    simp only [List.any_cons, List.any_nil, hp x s1, hp y s2, hp z s3]
    rfl
  have kb : (some NameKind.local == some NameKind.local) = true := by decide +kernel
  have fb : (ScopeKind.function != ScopeKind.function) = false := by decide +kernel
  unfold swappedStores
  simp only [List.length_cons, List.length_nil, hb, fb, f1, f2, List.filterMap_cons, List.filterMap_nil, k1, k2, k3, kb, List.head?_cons, Option.map_some, Option.getD_some, Expr.pos, q1, q2, beq_self_eq_true, Bool.and_self, if_true, Bool.or_false]
  rw [st _ (fun e he => by cases e <;> first | rfl | cases he)]
  simp only [e3, bne_self_eq_false, Bool.or_self, if_false, Bool.false_eq_true]
  rfl
def cAssign (N : List Str) (rE : RE) (rT : RT) (sc : Scope) (t e : Expr) : Option CS := match t with
  | .Name y py => match locIx N sc y with
    | some i => (match e with
      | .ListComp elt gens scope pos => if isLocal sc y then guardO ((py.line == pos.line) && !(scope.names.any fun (n, k) => n == y && (k == .local || k == .cell))) ((cComp N rE rT sc elt gens scope).map (.set i))
          else (cComp N rE rT sc elt gens scope).map (.set i)
      | e => guardO (notComp e) ((rE sc e).map (.set i)))
    | none => none
  | .Attribute o f _ => bind2 (rE sc o) (rE sc e) fun a b => .fset a f b
  | .Subscript o i _ => bind2 (rE sc o) (bind2 (rE sc i) (rE sc e) Prod.mk) fun a p => .iset a p.1 p.2
  | .Tuple ts _ _ => (match ts with
    | [.Name a pa, .Name b pb, .Name c pc] => (match e with
      | .Tuple [x, y, z] _ _ => guardO (sw3 sc a b c pa pb pc x y z) (bind2 (locIx N sc a) (bind2 (locIx N sc b) (bind2 (locIx N sc c) (cA (rE sc) [x, y, z]) Prod.mk) Prod.mk) fun i p => .unp [i, p.1, p.2.1] (.tup p.2.2))
      | e => guardO (notComp e && plainTuple e) (bind2 (locIx N sc a) (bind2 (locIx N sc b) (bind2 (locIx N sc c) (rE sc e) Prod.mk) Prod.mk) fun i p => .unp [i, p.1, p.2.1] p.2.2))
    | _ => none)
  | _ => none
def stepS (N : List Str) (rE : RE) (rT : RT) (sc : Scope) (rS : Stmt → Option CS) (s : Stmt) : Option CS := match s with
  | .Pass _ => some .pass
  | .Return v _ => (match v with
    | none => some .retN
    | some e => (rE sc e).map .ret)
  | .Expr e _ => guardO (notComp e) ((rE sc e).map .expr)
  | .If t a b _ => bind2 (rT sc t) (bind2 (cBlock rS a) (cBlock rS b) Prod.mk) fun t p => .ifs t p.1 p.2
  | .For tg it body orelse _ => (match tg, orelse with
    | .Name x _, [] => (match locIx N sc x with
      | some i => guardO (notSet it) (bind2 (cI (rE sc) sc it) (cBlock rS body) (.for_ i))
      | none => none)
    | _, _ => none)
  | .While t body orelse _ => (match orelse with
    | [] => bind2 (rT sc t) (cBlock rS body) .whl
    | _ => none)
  | .Raise e none _ => (match e with
    | some (.Call (.Name x _) [.Constant (.str _) _ _] [] _) => guardO (glob sc x) (some (.raise x))
    | _ => none)
  | .Try body hs orelse fin _ => (match hs, orelse, fin with
    | [.ExceptHandler (some (.Name x _)) none [.Return (some (.Constant c _ _)) _] _], [], [] => guardO (glob sc x) (bind2 (cBlock rS body) (constW c) fun b w => .try_ b x w.1)
    | [.ExceptHandler (some (.Name x _)) (some n) (s :: r) _], [], [] => guardO (glob sc x && (isLocal sc n && okName n)) (bind2 (cBlock rS body) (bind2 (idx N n) (pHd N sc n (s :: r)) Prod.mk) fun b p => .tryH b x p.2)
    | _, _, _ => none)
  | .Assign ts e _ => (match ts with
    | [t] => cAssign N rE rT sc t e
    | _ => none)
  | _ => none
def cSn (N : List Str) (rE : RE) (rT : RT) (sc : Scope) : Nat → Stmt → Option CS
  | 0 => fun _ => none
  | n + 1 => stepS N rE rT sc (cSn N rE rT sc n)
def SSo (g : Gm) (k : Nat) (N : List Str) (sc : Scope) (rS : Stmt → Option CS) : Prop := ∀ s c X Wx, rS s = some c → CtxS g k X Wx N sc → PS X s (lowS X.K Wx (denS g c))
section
variable {g : Gm} {k : Nat} {N : List Str} {rE : RE} {rT : RT} {sc : Scope} {X : Cx} {Wx : WX} {rS : Stmt → Option CS}
theorem cBlock_ok (hS : ∀ s c, rS s = some c → PS X s (lowS X.K Wx (denS g c))) : ∀ {b : List Stmt} {c : List CS}, cBlock rS b = some c → PSs X b (lowS X.K Wx (denB g c))
  | [], c, h => by
    cases h
    exact s_nil
  | s :: r, c, h => by
    obtain ⟨x, y, h1, h2, rfl⟩ := bind2_some h
    exact s_cons (hS s x h1) (cBlock_ok hS h2)
theorem swaps_cell {elt : Expr} {gens : List Comprehension} {scope : Scope} {pos py : Pos} {y : Str} {l : Nat} {env : Env} (h : env.scope.names.lookup y ≠ some .local) : swapsWith (.ListComp elt gens scope pos) (some (.Name y py)) l env = pure false := by
  have ky : (env.kindOf y == some NameKind.local) = false := beq_eq_false_iff_ne.mpr h
  unfold swapsWith
  simp only [ky, Bool.and_false, Bool.false_and]
theorem swaps_attr {e o : Expr} {f : Str} {p : Pos} {l : Nat} {env : Env} : swapsWith e (some (.Attribute o f p)) l env = pure false := by cases e <;> rfl
theorem swaps_sub {e o i : Expr} {p : Pos} {l : Nat} {env : Env} : swapsWith e (some (.Subscript o i p)) l env = pure false := by cases e <;> rfl
theorem swaps_tup {e : Expr} {ts : List Expr} {n : Nat} {p : Pos} {l : Nat} {env : Env} (h : notComp e = true) : swapsWithSole [.Tuple ts n p] e l env = pure false := (show swapsWith e (some (.Tuple ts n p)) (Expr.Tuple ts n p).pos.line env = pure false from swaps_of h)
theorem stores_tup {e : Expr} {ts : List Expr} {n : Nat} {p : Pos} {env : Env} (h : plainTuple e = true) : swappedStores [.Tuple ts n p] e env = pure none := by
  cases e <;> first | rfl | cases h
theorem cAssign_ok (hE : SE g k N rE) (hT : STt g k N rT) (C : CtxS g k X Wx N sc) {t e : Expr} {pos : Pos} {c : CS} (h : cAssign N rE rT sc t e = some c) : PS X (.Assign [t] e pos) (lowS X.K Wx (denS g c)) := by
  have hE' : ∀ e c, rE sc e = some c → PE X e (lowE X.K Wx (denE g c)) := fun e c h => hE sc e c X Wx h C.ctx C.sc C.hN
  unfold cAssign at h
  split at h
  · rename_i y py
    split at h
    · rename_i i hi
      obtain ⟨hN, hl⟩ := locIx_ok C hi
      split at h
      · rename_i elt gens scope cpos
        have viaCell : X.env.scope.names.lookup y ≠ some .local → (cComp N rE rT sc elt gens scope).map (.set i) = some c → PS X (.Assign [.Name y py] (.ListComp elt gens scope cpos) pos) (lowS X.K Wx (denS g c)) := fun hne h => by
          obtain ⟨a, h1, rfl⟩ := map_some' h
          exact s_set C.ctx.nd hN hl (.inl (C.fn y)) (cComp_ok hE hT C.ctx C.sc C.hN h1) (swaps_cell hne)
        split at h
        · rename_i hloc
          obtain ⟨h0, h⟩ := guardO_some h
          obtain ⟨h1, h2⟩ := and_ok h0
          obtain ⟨a, h3, rfl⟩ := map_some' h
          have hyl : X.env.scope.names.lookup y = some .local := by
            have e := C.scope
            subst e
            unfold isLocal at hloc
            split at hloc
            · assumption
            · cases hloc
          obtain ⟨x, px, it, ifs, j, ti, tt, te, rfl, p1, p2, p3, p4, p5, p6, p7⟩ := cComp_parts hE hT C.ctx C.sc C.hN h3
          have z := s_setLc (i := i) (pos := cpos) (spos := pos) (py := py) (Wx := Wx) C.ctx.calm C.ctx.nd hN hyl (sw_true C.kind hyl h1 (by simpa using h2)) p1 p2 p3 p4 p5 p6
          refine PS.imp z fun D σ H h => ?_
          obtain ⟨F, σ', H', D', rs, ab, d, h⟩ := h
          refine ⟨F, σ', H', D', rs, ab, d, ?_⟩
          have h' : denE g a σ' H' (fun x H1 => D'.nx (σ'.set i (some x)) H1) (fun C H1 => D'.ex C σ' H1) := h
          rw [p7] at h'
          exact h'
        · rename_i hloc
          refine viaCell (fun hyl => hloc ?_) h
          have e := C.scope
          subst e
          unfold isLocal
          rw [hyl]
      · obtain ⟨h1, h⟩ := guardO_some h
        obtain ⟨a, h2, rfl⟩ := map_some' h
        exact s_set C.ctx.nd hN hl (.inl (C.fn y)) (hE' _ a h2) (swaps_of h1)
    · cases h
  · obtain ⟨a, b, h1, h2, rfl⟩ := bind2_some h
    exact s_fset C.ctx.says (hE' _ a h1) (hE' _ b h2) swaps_attr
  · obtain ⟨a, p, h1, h2, rfl⟩ := bind2_some h
    obtain ⟨b, d, h3, h4, rfl⟩ := bind2_some h2
    exact s_iset C.ctx (hE' _ a h1) (hE' _ b h3) (hE' _ d h4) swaps_sub
  · split at h
    · split at h
      · obtain ⟨h0, h⟩ := guardO_some h
        obtain ⟨i, p, h3, h4, rfl⟩ := bind2_some h
        obtain ⟨j, q, h5, h6, rfl⟩ := bind2_some h4
        obtain ⟨l, ce, h7, h8, rfl⟩ := bind2_some h6
        obtain ⟨n1, l1⟩ := locIx_ok C h3
        obtain ⟨n2, l2⟩ := locIx_ok C h5
        obtain ⟨n3, l3⟩ := locIx_ok C h7
        obtain ⟨h8, _⟩ := cA_ok hE' h8
        have hkind : sc.kind = .function := by have := C.kind; rw [C.scope] at this; exact this
        have hb := h0
        unfold sw3 at hb
        simp only [Bool.and_eq_true, Bool.not_eq_true', beq_eq_false_iff_ne] at hb
        obtain ⟨⟨b1, b2, b3⟩, _, ⟨_, d1, d2, d3⟩, _⟩ := hb
        have lo : ∀ {x : Str}, isLocal sc x = true → X.env.scope.names.lookup x = some .local := fun hx => by
          rw [C.scope]
          exact isLocal_ok hx
        have df : ∀ {i j : Nat} {x y : Str}, X.N[i]? = some x → X.N[j]? = some y → x ≠ y → i ≠ j := fun e1 e2 d e => by
          rw [e, e2] at e1
          exact d (Option.some.inj e1).symm
        refine PS.imp (ps_par3 C.ctx.calm C.ctx.nd n1 n2 n3 (df n1 n2 d1) (df n1 n3 d2) (df n2 n3 d3) (lo b1) (lo b2) (lo b3) h8 (stores_sw C.scope hkind h0)) fun D σ H ⟨F, σ', H', D', rs, ab, d, h⟩ => ⟨F, σ', H', _, _, rs, ab, fun ws H1' hx F1 vs H1 s1 rx ab1 => ?_, d.er rs, h⟩
        obtain ⟨_, ws', ew, hl, hn⟩ := hx
        cases ew
        match ws, hl, rx, hn with
        | [w1, w2, w3], _, ⟨u1, r1, e1, a1, u2, r2, e2, a2, u3, r3, e3, a3, e4⟩, hn =>
          have e4 : r3 = [] := e4
          subst e4 e3 e2 e1
          exact ⟨u1, u2, u3, rfl, d.nx _ H1' hn F1 _ H1 s1 ((((rs.mono s1).set a1 i).set a2 j).set a3 l) ab1⟩
      · obtain ⟨h0, h⟩ := guardO_some h
        obtain ⟨h1, h2⟩ := and_ok h0
        obtain ⟨i, p, h3, h4, rfl⟩ := bind2_some h
        obtain ⟨j, q, h5, h6, rfl⟩ := bind2_some h4
        obtain ⟨l, ce, h7, h8, rfl⟩ := bind2_some h6
        obtain ⟨n1, l1⟩ := locIx_ok C h3
        obtain ⟨n2, l2⟩ := locIx_ok C h5
        obtain ⟨n3, l3⟩ := locIx_ok C h7
        refine s_unp (is := [i, j, l]) (hE' _ ce h8) ⟨fun pins s σ H v u Q I r hq => PG.run (pg_tup C.ctx.calm (pgs_cons (pg_name C.ctx.nd n1 l1 (.inl (C.fn _))) (pgs_cons (pg_name C.ctx.nd n2 l2 (.inl (C.fn _))) (pgs_cons (pg_name C.ctx.nd n3 l3 (.inl (C.fn _))) pgs_nil)))) pins s σ H v u Q I r ?_⟩ (swaps_tup h1) (stores_tup h2)
        obtain ⟨d, xs, e1, e2, e3, e4, e5⟩ := hq
        refine ⟨d, xs, e1, e2, e3, ?_⟩
        match xs, e3, e5 with
        | [x1, x2, x3], _, e5 => exact ⟨x1, _, rfl, x2, _, rfl, x3, _, rfl, rfl, e5 _ rfl⟩
    · cases h
  · cases h
theorem stepS_ok (hE : SE g k N rE) (hT : STt g k N rT) (hS : SSo g k N sc rS) : SSo g k N sc (stepS N rE rT sc rS) := by
  intro s c X Wx h C
  have hE' : ∀ e c, rE sc e = some c → PE X e (lowE X.K Wx (denE g c)) := fun e c h => hE sc e c X Wx h C.ctx C.sc C.hN
  have hT' : ∀ e c, rT sc e = some c → PT X e (lowT X.K Wx (denT g c)) := fun e c h => hT sc e c X Wx h C.ctx C.sc C.hN
  have hS' : ∀ s c, rS s = some c → PS X s (lowS X.K Wx (denS g c)) := fun s c h => hS s c X Wx h C
  unfold stepS at h
  split at h
  · cases h
    exact s_pass
  · split at h
    · cases h
      exact s_retN
    · obtain ⟨a, h1, rfl⟩ := map_some' h
      exact s_ret (hE' _ a h1)
  · obtain ⟨h1, h⟩ := guardO_some h
    obtain ⟨a, h2, rfl⟩ := map_some' h
    exact s_expr (hE' _ a h2) h1
  · obtain ⟨t, p, h1, h2, rfl⟩ := bind2_some h
    obtain ⟨a, b, h3, h4, rfl⟩ := bind2_some h2
    exact s_if (hT' _ t h1) (cBlock_ok hS' h3) (cBlock_ok hS' h4)
  · split at h
    · split at h
      · rename_i i hi
        obtain ⟨hN, hl⟩ := locIx_ok C hi
        obtain ⟨h1, h⟩ := guardO_some h
        obtain ⟨a, b, h2, h3, rfl⟩ := bind2_some h
        exact s_for C.own C.ctx.calm (cI_ok hE' C.ctx C.sc h2) (pg_name C.ctx.nd hN hl (.inl (C.fn _))) (cBlock_ok hS' h3) (folded_of h1)
      · cases h
    · cases h
  · split at h
    · obtain ⟨t, b, h1, h2, rfl⟩ := bind2_some h
      exact s_whl C.own (hT' _ t h1) (cBlock_ok hS' h2)
    · cases h
  · split at h
    · obtain ⟨h1, h⟩ := guardO_some h
      cases h
      obtain ⟨hg, hd⟩ := glob_ok C.sc h1
      exact s_raise C.ctx hg hd
    · cases h
  · split at h
    · obtain ⟨h1, h⟩ := guardO_some h
      obtain ⟨b, w, h2, h3, rfl⟩ := bind2_some h
      obtain ⟨hg, hd⟩ := glob_ok C.sc h1
      obtain ⟨w, v⟩ := w
      obtain ⟨rw', hp⟩ := constW_ok h3
      refine s_try C.hs C.hf hg hd C.ctx.says C.ctx.takes (fun Wy pn xe tk po => ?_) (fun Y => hp Y _ _ _) (rw' _)
      refine cBlock_ok (X := X.tr pn xe) (fun s c h => hS s c (X.tr pn xe) Wy h ⟨⟨⟨C.ctx.says.fn, C.ctx.says.mth, C.ctx.says.made, C.ctx.says.fld, C.ctx.says.int, C.ctx.says.exc, C.ctx.says.exm, C.ctx.says.isx, C.ctx.says.wrd, C.ctx.says.ist⟩, C.ctx.free, C.ctx.room, C.ctx.calm, C.ctx.nd, tk⟩, po, C.hs, C.hf, C.fn, C.scope, C.kind, C.hN⟩) h2
    · rename_i x q1 n s r q2
      obtain ⟨h1, h⟩ := guardO_some h
      obtain ⟨h1, h2⟩ := and_ok h1
      obtain ⟨h2, h3⟩ := and_ok h2
      obtain ⟨b, z, h4, h5, rfl⟩ := bind2_some h
      obtain ⟨i, hd, h6, h7, rfl⟩ := bind2_some h5
      obtain ⟨hg, hdb⟩ := glob_ok C.sc h1
      have hl := isLocal_ok h2
      have hiX : X.N[i]? = some n := by rw [C.hN]; exact idx_ok h6
      have hlX : X.env.scope.names.lookup n = some .local := by rw [C.scope]; exact hl
      refine s_tryH C.hs C.hf C.ctx hiX hlX hg hdb (fun Wy pn xe tk po => ?_) (fun a oe D pn pc => ?_)
      · refine cBlock_ok (X := X.tr pn xe) (fun s c h => hS s c (X.tr pn xe) Wy h ⟨⟨⟨C.ctx.says.fn, C.ctx.says.mth, C.ctx.says.made, C.ctx.says.fld, C.ctx.says.int, C.ctx.says.exc, C.ctx.says.exm, C.ctx.says.isx, C.ctx.says.wrd, C.ctx.says.ist⟩, C.ctx.free, C.ctx.room, C.ctx.calm, C.ctx.nd, tk⟩, po, C.hs, C.hf, C.fn, C.scope, C.kind, C.hN⟩) h4
      · unfold pHd at h7
        split at h7
        · rename_i f p1 n' p2 p3 p4 es
          obtain ⟨h8, h9⟩ := guardO_some h7
          obtain ⟨h10, h11⟩ := and_ok h8
          have en : n' = n := of_decide_eq_true h10
          subst en
          cases h9
          cases es
          exact suite_call C.ctx C.sc hiX hlX h3 h11 pc
        · rename_i t bb kk p1 p2 p3 t2 t3 p4 p5 es
          cases ez : bind2 (pIs sc n t) (bind2 (pIs sc n t2) (pIs sc n t3) Prod.mk) (fun cs p => (bb, cs, p)) with
          | none => rw [ez] at h7; cases h7
          | some z =>
            rw [ez] at h7
            obtain ⟨cs, p, h8, h9, rfl⟩ := bind2_some ez
            obtain ⟨c2, c3, h10, h11, rfl⟩ := bind2_some h9
            have h7 : (match (bb, cs, c2, c3) with
              | (false, cs, [c], [d]) => guardO (plainTest t) (some (Hd.sel cs c d))
              | _ => none) = some hd := h7
            split at h7
            · rename_i cs' c d ee
              cases ee
              obtain ⟨h12, h13⟩ := guardO_some h7
              cases h13
              cases es
              exact suite_sel C.ctx C.sc C.hN C.fn h6 hl h3 h8 h10 h11 h12 pc
            · cases h7
        · cases h7
    · cases h
  · split at h
    · exact cAssign_ok hE hT C h
    · cases h
  · cases h
theorem cSn_ok (hE : SE g k N rE) (hT : STt g k N rT) : ∀ n, SSo g k N sc (cSn N rE rT sc n)
  | 0 => fun _ _ _ _ h => by cases h
  | n + 1 => stepS_ok hE hT (cSn_ok hE hT n)
end

/-! ### defs -/
def scOk (N ps : List Str) (sc : Scope) : Bool := (match sc.kind with | .function => true | _ => false) && (!sc.isCoroutine && (!sc.isGenerator && (decide N.Nodup && (decide (N.take ps.length = ps) &&
  (ps.all (fun x => match sc.names.lookup x with | some .local => true | some .cell => true | _ => false) && sc.names.all fun y => decide (y.2 ≠ .free))))))
theorem scOk_ok {N ps : List Str} {sc : Scope} (h : scOk N ps sc = true) : FnScope N ps sc := by
  obtain ⟨h1, h⟩ := and_ok h
  obtain ⟨h2, h⟩ := and_ok h
  obtain ⟨h3, h⟩ := and_ok h
  obtain ⟨h4, h⟩ := and_ok h
  obtain ⟨h5, h⟩ := and_ok h
  obtain ⟨h6, h7⟩ := and_ok h
  refine ⟨?_, by simpa using h2, by simpa using h3, of_decide_eq_true h4, of_decide_eq_true h5, fun x hx => ?_, fun y hy => ?_⟩
  · split at h1
    · assumption
    · cases h1
  · have z := List.all_eq_true.mp h6 x hx
    split at z
    · exact .inl (by assumption)
    · exact .inr (by assumption)
    · cases z
  · exact of_decide_eq_true (List.all_eq_true.mp h7 y hy)
def cDef (N ps : List Str) (sc : Scope) (body : List Stmt) : Option (List CS) := guardO (scOk N ps sc) (cBlock (cSn N (cET N 40).1 (cET N 40).2 sc 40) body)
/-- the ends of a def's body -/
def endOf (Q : KW) (E : EW) : EndW := ⟨fun _ H => Q .non H, Q, fun _ _ => False, fun _ _ => False, fun C _ H => E C H⟩
/-- what a def may return: a list of its own as one that stays as it is, too -/
def frz (Q : KW) : KW := fun w H => Q w H ∨ ∃ a xs, w = .ref a ∧ H a = some (.lst xs) ∧ Q (.fls xs) (delW H a)
theorem frz_low {K : PySem.W.Frag} {F : Hp} {Q' : KW} {Q : VK} (q : QR K F Q' Q) : QR K F (frz Q') Q := fun w H' h F1 v H s r A => by
  rcases h with h | ⟨a, xs, rfl, e, h⟩
  · exact q w H' h F1 v H s r A
  · obtain ⟨F2, s2, A2, r2⟩ := A.freeze e
    obtain rfl : v = V.ref a := r
    exact q _ _ h F2 _ H (s.trans s2) r2 A2
def startW (N : List Str) (ws : List W) : Sw := ws.map some ++ List.replicate (N.length - ws.length) none
theorem def_ok {P : Program} {w : World} {K : PySem.W.Frag} {mg : Str → Option Value} {base : Heap} {k : Nat} {g : Gm} {f : Addr} {fd : FuncData} {x qual : Str} {params : Arguments} {body : List Stmt} {scope : Scope} {N ps : List Str} {c : List CS} {sp : SpW}
    (F : FunD K x qual params body scope [] [] f fd) (hc : cDef N ps scope body = some c)
    (S : ∀ X : Cx, X.prog = P → X.w = w → X.K = K → X.mg = mg → X.base = base → Says g k X ∧ Free X)
    (len : ∀ ws H Q E, sp ws H Q E → ws.length = ps.length) (rd : ∀ ws H Q E, sp ws H Q E → denB g c (endOf (frz Q) E) (startW N ws) H) :
    FnOk P w K mg base (L2.CX P w) (k + 2) f fd ps (lowSp K sp) := by
  obtain ⟨h0, hc⟩ := guardO_some hc
  have FS := scOk_ok h0
  obtain ⟨hE, hT⟩ := cET_ok (g := g) (k := k) (N := N) 40
  refine F.ok (k := k + 1) FS (fun vs H Q E ⟨F1, ws, H', Q', E', r, _, _, _, h⟩ => by rw [← r.length]; exact len _ _ _ _ h) fun cdv A outer s H vs Q E hr h => ?_
  obtain ⟨S1, S2⟩ := S (cxOf (L2.CX P w) P w K mg base N qual scope f cdv A outer s H E) rfl rfl rfl rfl rfl
  have tk : Takes (cxOf (L2.CX P w) P w K mg base N qual scope f cdv A outer s H E) (fun cls d _ H => E cls d H) := takes_of rfl rfl rfl rfl
  have C : CtxS g k (cxOf (L2.CX P w) P w K mg base N qual scope f cdv A outer s H E) (fun cls d _ H => E cls d H) N scope :=
    ⟨⟨S1, S2, hr, rfl, FS.nd, tk⟩, passes_of rfl, rfl, rfl, fun _ => rfl, rfl, FS.kind, rfl⟩
  refine ⟨_, cBlock_ok (fun s c h => cSn_ok hE hT 40 s c _ _ h C) hc, ?_⟩
  obtain ⟨F1, ws, H', Q', E', r, ab, qr, er, h⟩ := h
  have hst : RelS K F1 (startW N ws) (L2.start N vs) := by
    unfold startW L2.start
    rw [r.length]
    exact RelS.start _ r
  exact ⟨F1, startW N ws, H', endOf (frz Q') E', hst, ab, ⟨fun σ1 H1 hn F2 σ2 H2 s2 r2 ab2 => frz_low qr .non H1 hn F2 .non H2 s2 rfl ab2, frz_low qr, fun _ _ h => h.elim, fun _ _ h => h.elim, fun C σ1 H1 hx F2 σ2 H2 s2 r2 ab2 => er C H1 hx F2 H2 s2 ab2⟩, rd ws H' Q' E' h⟩
end WL

/-! ## What is known of the module's names, at a level -/
namespace WL
open PySem L2

def Gk (P : Program) (w : World) (K : PySem.W.Frag) (mg : Str → Option Value) (base : Heap) (k : Nat) : Gm where
  fn f sp := ∃ a fd ps, FnOk P w K mg base (L2.CX P w) k a fd ps (lowSp K sp) ∧ mg f = some (.ref a) ∧ PySem.W.keepIn K (.ref a) = true ∧ Binds K fd ps []
  mth C m sp := Cls K C ∧ ∃ f fd ps, Meth K C m f ∧ FnOk P w K mg base (L2.CX P w) k f fd ps (lowSp K sp) ∧ Binds K fd ps []
  made x C sp := mg x = some (.ref C) ∧ ∃ a fd ps, Mk K C a ∧ FnOk P w K mg base (L2.CX P w) k a fd ps (lowSp K sp) ∧ Binds K fd ps []
  fld C f := Cls K C ∧ NoAttr K C f
  int x i := ∃ t, mg x = some (.int i t)
  exc x C := mg x = some (.ref C) ∧ PySem.W.excIn K C He.veBase "ValueError.__new__" = true ∧ PySem.W.keepIn K (.ref C) = true ∧ PySem.W.subIn K (.ref C) (.type "BaseException") = some true ∧ PySem.W.typeIn K (.ref C) = some (.type "type")
  exm C x b := ∃ c, mg x = some (.ref c) ∧ PySem.W.exmOne K (.ref C) (.ref c) = some b
  isx C x b := L2.ExcC K C ∧ ((∃ c, mg x = some (.ref c) ∧ PySem.W.kitOne K (.ref C) (.ref c) = some b) ∨ (x = "ValueError" ∧ mg x = none ∧ PySem.W.kitOne K (.ref C) (.type "ValueError") = some b))
  ist C := IstC K C
  wrd f C R := ∃ a fd e, FnX P w K mg base k a fd [e] C R ∧ mg f = some (.ref a) ∧ PySem.W.keepIn K (.ref a) = true ∧ Binds K fd [e] []
def FreeM (mg : Str → Option Value) : Prop := ∀ x : Str, x = "len" ∨ x = "list" ∨ x = "tuple" ∨ x = "sorted" ∨ x = "max" ∨ x = "min" ∨ x = "int" ∨ x = "bool" ∨ x = "str" ∨ x = "isinstance" ∨ x = "range" ∨ x = "set" → mg x = none
section
variable {P : Program} {w : World} {K : PySem.W.Frag} {mg : Str → Option Value} {base : Heap} {j k : Nat}
theorem says_Gk {X : Cx} (h1 : X.prog = P) (h2 : X.w = w) (h3 : X.K = K) (h4 : X.mg = mg) (h5 : X.base = base) : Says (Gk P w K mg base k) k X := by
  subst h1 h2 h3 h4 h5
  exact ⟨fun _ _ h => h, fun _ _ _ h => h, fun _ _ _ h => h, fun _ _ h => h, fun _ _ h => h, fun _ _ h => h, fun _ _ _ h => h, fun _ _ _ h => h, fun _ _ _ h => h, fun _ h => h⟩
theorem Gk.fn_up {f : Str} {sp : SpW} (h : (Gk P w K mg base j).fn f sp) (i : j ≤ k) : (Gk P w K mg base k).fn f sp := by
  obtain ⟨a, fd, ps, F, h⟩ := h
  exact ⟨a, fd, ps, F.mono i, h⟩
theorem Gk.mth_up {C : Addr} {f : Str} {sp : SpW} (h : (Gk P w K mg base j).mth C f sp) (i : j ≤ k) : (Gk P w K mg base k).mth C f sp := by
  obtain ⟨c, a, fd, ps, m, F, h⟩ := h
  exact ⟨c, a, fd, ps, m, F.mono i, h⟩
theorem Gk.made_up {C : Addr} {f : Str} {sp : SpW} (h : (Gk P w K mg base j).made f C sp) (i : j ≤ k) : (Gk P w K mg base k).made f C sp := by
  obtain ⟨c, a, fd, ps, m, F, h⟩ := h
  exact ⟨c, a, fd, ps, m, F.mono i, h⟩
section
variable {f : Addr} {fd : FuncData} {x qual : Str} {params : Arguments} {body : List Stmt} {scope : Scope} {N ps : List Str} {c : List CS} {sp : SpW}
theorem fnOk_in (F : FunD K x qual params body scope [] [] f fd) (fr : FreeM mg) (hc : cDef N ps scope body = some c)
    (len : ∀ ws H Q E, sp ws H Q E → ws.length = ps.length) (rd : ∀ ws H Q E, sp ws H Q E → denB (Gk P w K mg base k) c (endOf (frz Q) E) (startW N ws) H) :
    FnOk P w K mg base (L2.CX P w) (k + 2) f fd ps (lowSp K sp) :=
  def_ok F hc (fun X h1 h2 h3 h4 h5 => ⟨says_Gk h1 h2 h3 h4 h5, by subst h4; exact fr⟩) len rd
theorem fn_in (F : FunD K x qual params body scope [] [] f fd) (gx : mg x = some (.ref f)) (hb : Binds K fd ps []) (fr : FreeM mg) (hc : cDef N ps scope body = some c)
    (len : ∀ ws H Q E, sp ws H Q E → ws.length = ps.length) (rd : ∀ ws H Q E, sp ws H Q E → denB (Gk P w K mg base k) c (endOf (frz Q) E) (startW N ws) H) :
    (Gk P w K mg base (k + 2)).fn x sp := ⟨f, fd, ps, fnOk_in F fr hc len rd, gx, F.kp, hb⟩
theorem mth_in {C : Addr} {m : Str} (F : FunD K x qual params body scope [] [] f fd) (cl : Cls K C) (mt : Meth K C m f) (hb : Binds K fd ps []) (fr : FreeM mg) (hc : cDef N ps scope body = some c)
    (len : ∀ ws H Q E, sp ws H Q E → ws.length = ps.length) (rd : ∀ ws H Q E, sp ws H Q E → denB (Gk P w K mg base k) c (endOf (frz Q) E) (startW N ws) H) :
    (Gk P w K mg base (k + 2)).mth C m sp := ⟨cl, f, fd, ps, mt, fnOk_in F fr hc len rd, hb⟩
theorem made_in {C : Addr} {y : Str} (F : FunD K x qual params body scope [] [] f fd) (gx : mg y = some (.ref C)) (mt : Mk K C f) (hb : Binds K fd ps []) (fr : FreeM mg) (hc : cDef N ps scope body = some c)
    (len : ∀ ws H Q E, sp ws H Q E → ws.length = ps.length) (rd : ∀ ws H Q E, sp ws H Q E → denB (Gk P w K mg base k) c (endOf (frz Q) E) (startW N ws) H) :
    (Gk P w K mg base (k + 2)).made y C sp := ⟨gx, f, fd, ps, mt, fnOk_in F fr hc len rd, hb⟩
/-- the law's own def: nothing comes out of it -/
theorem law_in (F : FunD K x qual params body scope [] [] f fd) (fr : FreeM mg) (hc : cDef N ps scope body = some c)
    (len : ∀ ws H Q E, sp ws H Q E → ws.length = ps.length) (rd : ∀ ws H Q E, sp ws H Q E → denB (Gk P w K mg base k) c (endOf Q (fun _ _ => False)) (startW N ws) H) :
    FnOk P w K mg base L2.CX0 (k + 2) f fd ps (lowSp K sp) := by
  obtain ⟨h0, hc⟩ := guardO_some hc
  have FS := scOk_ok h0
  obtain ⟨hE, hT⟩ := cET_ok (g := Gk P w K mg base k) (k := k) (N := N) 40
  refine F.ok (k := k + 1) FS (fun vs H Q E ⟨F1, ws, H', Q', E', r, _, _, _, h⟩ => by rw [← r.length]; exact len _ _ _ _ h) fun cdv A outer s H vs Q E hr h => ?_
  have tk : Takes (cxOf L2.CX0 P w K mg base N qual scope f cdv A outer s H E).nox (fun _ _ _ _ => False) := fun u s' ⟨v, σ, H, d, h⟩ => by
    first | exact h.elim | exact h.1.elim | exact h.2.elim | (revert h; simp [XE])
  have C : CtxS (Gk P w K mg base k) k (cxOf L2.CX0 P w K mg base N qual scope f cdv A outer s H E).nox (fun _ _ _ _ => False) N scope :=
    ⟨⟨says_Gk rfl rfl rfl rfl rfl, fr, hr, rfl, FS.nd, tk⟩, PassesOwn.never, rfl, rfl, fun _ => rfl, rfl, FS.kind, rfl⟩
  refine ⟨_, PSs.nox (cBlock_ok (fun s c h => cSn_ok hE hT 40 s c _ _ h C) hc), ?_⟩
  obtain ⟨F1, ws, H', Q', E', r, ab, qr, er, h⟩ := h
  have hst : RelS K F1 (startW N ws) (L2.start N vs) := by
    unfold startW L2.start
    rw [r.length]
    exact RelS.start _ r
  exact ⟨F1, startW N ws, H', endOf Q' (fun _ _ => False), hst, ab, ⟨fun σ1 H1 hn F2 σ2 H2 s2 r2 ab2 => qr .non H1 hn F2 .non H2 s2 rfl ab2, qr, fun _ _ h => h.elim, fun _ _ h => h.elim, fun C σ1 H1 hx F2 σ2 H2 s2 r2 ab2 => hx.elim⟩, rd ws H' Q' E' h⟩
end
/-- the law's promise: at each script -/
def spLaw : SpW := fun ws H Q _ => ∃ ns : List Int, ns.length ≤ 63 ∧ ws = [.scr ns] ∧ H = (fun _ => none) ∧ ∀ H', Q (.bl true) H'
theorem spLaw_low {H : Hp} {a : Addr} {ns : List Int} (hl : ns.length ≤ 63) (hS : SqL K H a (ns.map V.int)) : lowSp K spLaw [.ref a] H (fun v _ => v = .bl true) (fun _ _ _ => False) := by
  refine ⟨H, [.scr ns], fun _ => none, fun v _ => v = .bl true, fun _ _ => False, .cons ⟨a, rfl, hS⟩ .nil, ⟨Same.refl _, fun _ _ h => by cases h⟩, fun w H' h F1 v H1 _ r _ => ?_, fun _ _ h => h.elim, ns, hl, rfl, rfl, fun _ => rfl⟩
  subst h
  exact r
end
end WL

/-! ## A def that finds words for an exception, in its place -/
namespace WL
open PySem L2 L2H
theorem wrd_in {P : Program} {w : World} {K : PySem.W.Frag} {mg : Str → Option Value} {base : Heap} {k : Nat} {x qual : Str} {params : Arguments} {body : List Stmt} {scope : Scope} {f : Addr} {fd : FuncData} {N : List Str} {e R : Str} {C : Addr} {ts : List (List Str × Str)} {d : List Str} {odd : Str}
    (F : FunD K x qual params body scope [] [] f fd) (h0 : scOk N [e] scope = true) (hc : pWords N scope e body = some (ts, (d, odd))) (hl : ts.length < 900) (fr : FreeM mg)
    (hr : runW (Gk P w K mg base k) C d odd R ts []) : FnX P w K mg base (k + 1) f fd [e] C R := by
  have FS := scOk_ok h0
  refine fnx_of F FS fun cdv A outer s H Q p pc room goal => ?_
  unfold pWords at hc
  split at hc
  · rename_i w1 q1 q2 q3 r
    obtain ⟨h1, hm⟩ := guardO_some hc
    obtain ⟨h1, h2⟩ := and_ok h1
    obtain ⟨h2, h3⟩ := and_ok h2
    obtain ⟨h3, h4⟩ := and_ok h3
    obtain ⟨h4, h6⟩ := and_ok h4
    obtain ⟨h4, h5⟩ := and_ok h4
    obtain ⟨h6, h7⟩ := and_ok h6
    have he := of_decide_eq_true h1
    have hw := of_decide_eq_true h3
    obtain ⟨i, hi⟩ := Option.isSome_iff_exists.mp h5
    obtain ⟨j, hj⟩ := Option.isSome_iff_exists.mp h6
    generalize eX : cxH L2.CX0 P w K mg base N qual scope f cdv A outer s H L2.E0 p = X
    have xN : X.N = N := by rw [← eX]; rfl
    have xs : X.env.scope = scope := by rw [← eX]; rfl
    have xK : X.K = K := by rw [← eX]; rfl
    have xmg : X.mg = mg := by rw [← eX]; rfl
    have HX : HotX (Gk P w K mg base k) X N scope p C := by
      refine ⟨?_, by intro y; rw [xmg]; exact fr y, ⟨fun y h => by rw [xs]; exact h, fun y h => by rw [xs]; exact h, fun y h => .inr (by rw [xs]; exact h), fun y h => by rw [xs]; exact h⟩, xN, FS.nd, fun y => by rw [← eX]; rfl, by rw [← eX]; exact List.mem_cons_self .., pc, ?_⟩
      · rw [xK, xmg]
        exact fun D y b h => h
      · have := room.un
        rw [← eX]
        show (A.deeper _).units + 100 < cLine
        omega
    have hiX : X.N[j]? = some w1 := by rw [xN]; exact idx_ok hj
    have s0 := s_set (Wx := fun _ _ _ _ => False) (pos := q3) (pos' := q1) (by rw [xN]; exact FS.nd) hiX (.inl (by rw [xs]; exact hw)) (.inl (HX.fn w1)) (w_lst (X := X) (Wx := fun _ _ _ _ => False) (pos := q2) w_nil) rfl
    have body := s_cons s0 (pMids_ok (Wx := fun _ _ _ _ => False) HX hi he h2 hj hw h4 r ts [] hm hr (by simp; omega))
    refine ⟨_, body, ?_⟩
    rw [xK]
    have hst : RelS K H (startW N [.ref p.1]) (L2.start N [.ref p.1]) := RelS.start (ws := [.ref p.1]) (vs := [.ref p.1]) _ ⟨_, _, rfl, rfl, rfl⟩
    have hiN : i < N.length := (List.getElem?_eq_some_iff.mp (idx_ok hi)).1
    have e0 : N[0]? = some e := by
      have := FS.pre
      cases N with
      | nil => cases this
      | cons y ys =>
        simp at this
        rw [this]
        rfl
    have i0 : i = 0 := by
      have h1 := idx_ok hi
      obtain ⟨l1, g1⟩ := List.getElem?_eq_some_iff.mp h1
      obtain ⟨l2, g2⟩ := List.getElem?_eq_some_iff.mp e0
      exact (List.getElem_inj FS.nd).mp (g1.trans g2.symm)
    subst i0
    have ej : j ≠ 0 := fun z => by
      subst z
      have h1 := idx_ok hj
      rw [e0] at h1
      cases h1
      simp at h7
    refine ⟨H, startW N [.ref p.1], fun _ => none, { nx := fun _ _ => False, rt := fun w _ => w = .str R, bk := fun _ _ => False, ct := fun _ _ => False, ex := fun _ _ _ => False }, hst, ⟨Same.refl _, fun _ _ h => by cases h⟩,
      ⟨fun _ _ h => h.elim, fun w H' hw F1 v H1 s1 rx ab1 => ?_, fun _ _ h => h.elim, fun _ _ h => h.elim, fun _ _ _ h => h.elim⟩, ?_⟩
    · subst hw
      rw [show v = V.str R from rx]
      exact goal H1 fun a o h => ab1.sub a o (s1 a o h)
    · refine ⟨Nat.zero_le _, .inl fun q hq => ⟨?_, q, ?_, updW_same, fun _ => rfl⟩⟩
      · show ((startW N [.ref p.1]).set j (some (.ref q)))[0]? = some (some (.ref p.1))
        rw [List.getElem?_set_ne (fun z => ej z)]
        rfl
      · show ((startW N [.ref p.1]).set j (some (.ref q)))[j]? = some (some (.ref q))
        refine List.getElem?_set_self ?_
        show j < (startW N [.ref p.1]).length
        unfold startW
        have l1 := (List.getElem?_eq_some_iff.mp (idx_ok hj)).1
        simp
        omega
  · cases hc
end WL

/-! ## What a law that catches exceptions reads of their classes -/
namespace WL
open PySem L2
def seven : List Str := ["BadHand", "BadList", "NoLetter", "Fallen", "Outside", "NotFirst", "NoNews"]
section
variable {K : PySem.W.Frag}
def exB (K : PySem.W.Frag) (x : Str) : Bool :=
  decide (PySem.W.findIn K (.ref (He.ga K x)) "__getattribute__" = some (some (.builtin "BaseException.__getattribute__"))) && (decide (PySem.W.findIn K (.ref (He.ga K x)) "__getattr__" = some none) &&
  (decide (PySem.W.subIn K (.ref (He.ga K x)) (.type "BaseException") = some true) && (PySem.W.hasDictIn K (He.ga K x) && (decide (PySem.W.findIn K (.ref (He.ga K x)) "__class__" = some (some (.builtin "object.__class__"))) &&
  (decide (PySem.W.specialIn K (.builtin "object.__class__") "__get__" = some (some (.builtin "getset_descriptor.__get__"))) && (decide (PySem.W.takesIn K (.builtin "object.__class__") = some true) && decide (PySem.W.mroIn K (He.ga K x) (.type "object") = some true)))))))
theorem exB_ok {x : Str} (h : exB K x = true) : ExcC K (He.ga K x) := by
  obtain ⟨h1, h⟩ := and_ok h
  obtain ⟨h2, h⟩ := and_ok h
  obtain ⟨h3, h⟩ := and_ok h
  obtain ⟨h4, h⟩ := and_ok h
  obtain ⟨h5, h⟩ := and_ok h
  obtain ⟨h6, h⟩ := and_ok h
  obtain ⟨h7, h8⟩ := and_ok h
  exact ⟨of_decide_eq_true h1, of_decide_eq_true h2, of_decide_eq_true h3, h4, of_decide_eq_true h5, of_decide_eq_true h6, of_decide_eq_true h7, of_decide_eq_true h8⟩
def istB (K : PySem.W.Frag) (x : Str) : Bool := decide (PySem.W.findIn K (.ref (He.ga K x)) "__class__" = some (some (.builtin "object.__class__"))) &&
  (decide (PySem.W.specialIn K (.builtin "object.__class__") "__get__" = some (some (.builtin "getset_descriptor.__get__"))) && (decide (PySem.W.takesIn K (.builtin "object.__class__") = some true) &&
  (decide (PySem.W.mroIn K (He.ga K x) (.type "object") = some true) && decide (PySem.W.kitOne K (.ref (He.ga K x)) (.type "str") = some false))))
theorem istB_ok {x : Str} (cl : Cls K (He.ga K x)) (h : istB K x = true) : IstC K (He.ga K x) := by
  obtain ⟨h1, h⟩ := and_ok h
  obtain ⟨h2, h⟩ := and_ok h
  obtain ⟨h3, h⟩ := and_ok h
  obtain ⟨h4, h5⟩ := and_ok h
  exact ⟨cl, of_decide_eq_true h1, of_decide_eq_true h2, of_decide_eq_true h3, of_decide_eq_true h4, of_decide_eq_true h5⟩
def extra0 (es : List Str) (K : PySem.W.Frag) : Bool := es.all fun x => exB K x && (decide (PySem.W.kitOne K (.ref (He.ga K x)) (.type "ValueError") = some true) && es.all fun y => decide (PySem.W.kitOne K (.ref (He.ga K x)) (.ref (He.ga K y)) = some (decide (x = y))))
def extra (es : List Str) (K : PySem.W.Frag) : Bool := extra0 es K && istB K "Folk"
theorem extra_ok {es : List Str} {x : Str} (h : extra es K = true) (hx : x ∈ es) : ExcC K (He.ga K x) ∧ PySem.W.kitOne K (.ref (He.ga K x)) (.type "ValueError") = some true ∧ ∀ y ∈ es, PySem.W.kitOne K (.ref (He.ga K x)) (.ref (He.ga K y)) = some (decide (x = y)) := by
  obtain ⟨h1, h2⟩ := and_ok (List.all_eq_true.mp (and_ok h).1 x hx)
  obtain ⟨h2, h3⟩ := and_ok h2
  exact ⟨exB_ok h1, of_decide_eq_true h2, fun y hy => of_decide_eq_true (List.all_eq_true.mp h3 y hy)⟩
end
section
variable {es : List Str} {fa : List He.Fa} {fn : List He.DefD}
abbrev AlX : Type := Bool × He.AlD
def obsX (n : Nat) (es : List Str) (fa : List He.Fa) (fn : List He.DefD) (g : Addr → Option Obj) : AlX := let K := He.frG g (He.asD g n); (extra es K, He.obsD fa fn K)
def hookX (n : Nat) (es : List Str) (fa : List He.Fa) (fn : List He.DefD) : PySem.W.Hook where
  α := AlX
  obs := fun s => obsX n es fa fn s.heap.get?
  val := fun _ => (true, He.valD fn)
  says := fun _ h => ∃ K : PySem.W.Frag, K.In h ∧ He.SaysD fa fn K ∧ extra es K = true
  of := fun _ _ e => ⟨_, He.frG_in, congrArg Prod.snd e, congrArg Prod.fst e⟩
  keeps := fun _ _ _ ⟨K, hK, c⟩ k => ⟨K, PySem.W.Frag.In.keeps hK k, c⟩
theorem obsX_eq {n : Nat} {g : Addr → Option Obj} {s : Shared} (h : ∀ a, g a = s.heap.get? a) : obsX n es fa fn g = (hookX n es fa fn).obs s := by
  have e : g = s.heap.get? := funext h
  rw [e] <;> rfl
end
/-- isinstance(x, str) of an own object -/
class IstX (g : Gm) (A : Str → Addr) : Prop where
  h : g.ist (A "Folk")
/-- what isinstance tells of a caught exception -/
class IsX (g : Gm) (A : Str → Addr) : Prop where
  is : ∀ x y : Str, x ∈ seven → y ∈ seven → g.isx (A x) y (decide (x = y))
  ve : ∀ x : Str, x ∈ seven → g.isx (A x) "ValueError" true
theorem isxA_many {g : Gm} {A : Str → Addr} [I : IsX g A] {x : Str} (hx : x ∈ seven) : ∀ ys : List Str, (∀ y ∈ ys, y ∈ seven) → isxA g (A x) ys (decide (x ∈ ys))
  | [], _ => by simp [isxA]
  | y :: r, h => ⟨_, _, I.is x y hx (h y (List.mem_cons_self ..)), isxA_many hx r (fun z hz => h z (List.mem_cons_of_mem _ hz)), by simp⟩
/-- what a def makes of each class of exceptions -/
def Wrds (g : Gm) (A : Str → Addr) (f : Str) (t : List (Str × Str)) : Prop := ∀ x ∈ t, g.wrd f (A x.1) x.2
end WL

/-! ## What a def makes of the classes of exceptions -/
namespace WL
open PySem L2
/-- the words that are gathered for the class x -/
def gath (x : Str) : List (List Str × Str) → List Str → List Str
  | [], acc => acc
  | t :: ts, acc => gath x ts (if decide (x ∈ t.1) = true then acc ++ [t.2] else acc)
def wordT (x : Str) (ts : List (List Str × Str)) (odd : Str) : Str := fin (gath x ts []) true odd
theorem runW_of {g : Gm} {A : Str → Addr} [I : IsX g A] {x odd : Str} (hx : x ∈ seven) : ∀ (ts : List (List Str × Str)) (acc : List Str), (∀ t ∈ ts, ∀ y ∈ t.1, y ∈ seven) → runW g (A x) [("ValueError" : Str)] odd (fin (gath x ts acc) true odd) ts acc
  | [], acc, _ => ⟨true, ⟨true, false, I.ve x hx, rfl, rfl⟩, rfl⟩
  | t :: ts, acc, h => ⟨_, isxA_many hx t.1 (h t (List.mem_cons_self ..)), runW_of hx ts _ fun u hu => h u (List.mem_cons_of_mem _ hu)⟩
section
variable {P : Program} {w : World} {K : PySem.W.Frag} {mg : Str → Option Value} {base : Heap} {A : Str → Addr}
theorem wrds_in {k : Nat} {x qual : Str} {params : Arguments} {body : List Stmt} {scope : Scope} {f : Addr} {fd : FuncData} {N : List Str} {e : Str} {ts : List (List Str × Str)} {odd : Str} {tab : List (Str × Str)}
    [IsX (Gk P w K mg base k) A] (F : FunD K x qual params body scope [] [] f fd) (gx : mg x = some (.ref f)) (hb : Binds K fd [e] []) (fr : FreeM mg) (h0 : scOk N [e] scope = true) (hc : pWords N scope e body = some (ts, (([("ValueError" : Str)] : List Str), odd))) (hl : ts.length < 900)
    (hs : ∀ t ∈ ts, ∀ y ∈ t.1, y ∈ seven) (ht : ∀ p ∈ tab, p.1 ∈ seven ∧ wordT p.1 ts odd = p.2) : Wrds (Gk P w K mg base (k + 1)) A x tab := fun p hp => by
  obtain ⟨h1, h2⟩ := ht p hp
  refine ⟨f, fd, e, wrd_in F h0 hc hl fr ?_, gx, F.kp, hb⟩
  rw [← h2]
  exact runW_of (g := Gk P w K mg base k) h1 ts [] hs
end
end WL

/-! ## Equations by which simp runs the small syntax -/
namespace WL
open PySem L2
/-- an item: of a sequence, of a dict -/
def ixd (x y : W) (H : Hw) (Q : KW) : Prop := ixW x y H Q ∨ dgetW x y H Q
/-- what lies at an address, found by the instances -/
class At (H : Hw) (a : Addr) (o : outParam HW) : Prop where
  h : H a = some o
def ixo (H : Hw) (a : Addr) (y : W) (Q : KW) : Prop := ixd (.ref a) y H Q
def leno (H : Hw) (a : Addr) (Q : KW) : Prop := (∃ xs, H a = some (.lst xs) ∧ Q (.int xs.length) H) ∨ ∃ kvs, H a = some (.dct kvs) ∧ Q (.int kvs.length) H
def lsto (H : Hw) (a : Addr) (K : List W → Prop) : Prop := ∃ xs, H a = some (.lst xs) ∧ K xs
def dcto (H : Hw) (a : Addr) (K : List (Key × W) → Prop) : Prop := ∃ kvs, H a = some (.dct kvs) ∧ K kvs
def seqo (H : Hw) (w : W) (K : List W → Prop) : Prop := ∃ xs, seqA H w xs ∧ K xs
def seqMo (H : Hw) (w : W) (K : List W → Prop) : Prop := ∃ xs, seqM H w xs ∧ K xs
def fldo (g : Gm) (H : Hw) (a : Addr) (f : Str) (Q : KW) : Prop := ∃ C fs, H a = some (.ins C fs) ∧ g.fld C f ∧ ∃ w, fs.lookup f = some w ∧ Q w H
def fseto (g : Gm) (H : Hw) (a : Addr) (f : Str) (y : W) (K : Hw → Prop) : Prop := ∃ C fs, H a = some (.ins C fs) ∧ g.fld C f ∧ fs.length < 1000 ∧ K (updW H a (.ins C (putFW f y fs)))
def mtho (g : Gm) (H : Hw) (a : Addr) (m : Str) (K : SpW → Prop) : Prop := ∃ C fs, H a = some (.ins C fs) ∧ ∃ sp, g.mth C m sp ∧ fs.lookup m = none ∧ K sp
def lenW (w : W) (H : Hw) (Q : KW) : Prop := (∃ xs, seqA H w xs ∧ Q (.int xs.length) H) ∨ (∃ a, w = .ref a ∧ ∃ kvs, H a = some (.dct kvs) ∧ Q (.int kvs.length) H) ∨ ∃ x, w = .str x ∧ x.length ≤ sizeLine ∧ Q (.int x.length) H
def tupW (w : W) (H : Hw) (Q : KW) : Prop := (∃ xs, seqL H w xs ∧ Q (.tup xs) H) ∨ ∃ xs, w = .tup xs ∧ Q (.tup xs) H
def toInt (w : W) (H : Hw) (Q : KW) : Prop := (∃ b, w = .bl b ∧ Q (.int (if b then 1 else 0)) H) ∨ ∃ i, w = .int i ∧ Q (.int i) H
def lcmW (σ : Sw) (n : Nat) (stay : Hw → Prop) (t : TTW) (elt : TEW) (items : List W) (H : Hw) (Q : KW) : Prop := ∀ D, H D = none →
  compGo D (σ.set n none) n stay t elt (fun H2 => Q (.ref D) H2 ∨ ∃ acc, H2 D = some (.lst acc) ∧ Q (.fls acc) (delW H2 D)) items (updW H D (.lst []))
def isetW (x z y : W) (H : Hw) (K : Hw → Prop) : Prop := (∃ a, x = .ref a ∧ ∃ kvs, H a = some (.dct kvs) ∧ ∃ j, keyW z = some j ∧ kvs.length < sizeLine ∧ K (updW H a (.dct (putKW kvs j y)))) ∨
      ∃ a, x = .ref a ∧ ∃ xs, H a = some (.lst xs) ∧ ∃ j, z = .int j ∧ ∃ n, ixN xs.length j = some n ∧ K (updW H a (.lst (xs.set n y)))
def iseto (H : Hw) (a : Addr) (z y : W) (K : Hw → Prop) : Prop := isetW (.ref a) z y H K
section
variable {g : Gm} {σ : Sw} {H : Hw} {Q : KW} {E : EW} {D : EndW} {a b c e o i k : CE} {es : CEs} {f x m : Str} {n : Nat}
theorem e_var : denE g (.var n) σ H Q E = ∃ w, σ[n]? = some (some w) ∧ Q w H := rfl
theorem e_lit {w : W} : denE g (.lit w) σ H Q E = Q w H := rfl
theorem e_gint : denE g (.gint x) σ H Q E = ∃ i, g.int x i ∧ Q (.int i) H := rfl
theorem e_lst : denE g (.lst es) σ H Q E = denA g es σ H (fun ws H1 => ws.length ≤ sizeLine ∧ newL ws H1 Q) E := rfl
theorem e_tup : denE g (.tup es) σ H Q E = denA g es σ H (fun ws H1 => ws.length ≤ sizeLine ∧ Q (.tup ws) H1) E := rfl
theorem e_bin {op : Operator} : denE g (.bin op a b) σ H Q E = denE g a σ H (fun x H1 => denE g b σ H1 (fun y H2 => binW op x y H2 Q) E) E := rfl
theorem e_neg : denE g (.neg a) σ H Q E = denE g a σ H (fun x H1 => ∃ i, x = .int i ∧ Q (.int (-i)) H1) E := by
  show denE g a σ H _ E = _
  congr 1
  funext x H1
  cases x <;> simp
theorem e_cmp {op : CmpOp} : denE g (.cmp op a b) σ H Q E = denE g a σ H (fun x H1 => denE g b σ H1 (fun y H2 => cmpW op x y H2 Q) E) E := rfl
theorem e_chn {o1 o2 : CmpOp} : denE g (.chn o1 o2 a b c) σ H Q E = denE g a σ H (fun x H1 => denE g b σ H1 (fun y H2 => cmpW0 o1 x y H2 fun z H3 => ∃ k, z = .bl k ∧ (if k = true then denE g c σ H3 (fun w H4 => cmpW0 o2 y w H4 Q) E else Q (.bl false) H3)) E) E := rfl
theorem e_andV : denE g (.andV a b) σ H Q E = denE g a σ H (fun x H1 => ∃ c, x = .bl c ∧ if c = true then denE g b σ H1 Q E else Q (.bl false) H1) E := rfl
theorem e_orV : denE g (.orV a b) σ H Q E = denE g a σ H (fun x H1 => ∃ c, x = .bl c ∧ if c = true then Q (.bl true) H1 else denE g b σ H1 Q E) E := rfl
theorem e_notV : denE g (.notV a) σ H Q E = denE g a σ H (fun x H1 => ∃ c, x = .bl c ∧ Q (.bl (!c)) H1) E := rfl
theorem e_ife {t : CT} : denE g (.ife t a b) σ H Q E = denT g t σ H (fun c H1 => if c = true then denE g a σ H1 Q E else denE g b σ H1 Q E) E := rfl
theorem e_fld : denE g (.fld e f) σ H Q E = denE g e σ H (fun x H1 => ∃ a, x = .ref a ∧ fldo g H1 a f Q) E := by
  show denE g e σ H _ E = _
  congr 1
  funext x H1
  cases x <;> simp [fldW, fldo]
theorem e_ix : denE g (.ix e i) σ H Q E = denE g e σ H (fun x H1 => denE g i σ H1 (fun y H2 => ixd x y H2 Q) E) E := rfl
theorem e_slc {lo hi : CO} : denE g (.slc e lo hi) σ H Q E = denE g e σ H (fun x H1 => denO g lo σ H1 (fun l H2 => denO g hi σ H2 (fun u H3 => slW x l u H3 Q) E) E) E := rfl
theorem e_rev : denE g (.rev e) σ H Q E = denE g e σ H (fun x H1 => ∃ xs, seqL H1 x xs ∧ newL xs.reverse H1 Q) E := rfl
theorem e_bcl : denE g (.bcl f es) σ H Q E = denA g es σ H (fun ws H1 => callW f ws H1 Q) E := rfl
theorem e_isi {T : String} : denE g (.isi e T) σ H Q E = denE g e σ H (fun x H1 => ∃ t, tyW H1 x = some t ∧ ∃ b, kitB t T = some b ∧ Q (.bl b) H1) E := by
  show denE g e σ H _ E = _
  congr 1
  funext x H1
  simp
theorem e_call : denE g (.call f es) σ H Q E = ∃ sp, g.fn f sp ∧ denA g es σ H (fun ws H1 => sp ws H1 Q E) E := rfl
theorem e_mk : denE g (.mk f es) σ H Q E = ∃ C sp, g.made f C sp ∧ denA g es σ H (fun ws H1 => ∀ x, H1 x = none → sp (.ref x :: ws) (updW H1 x (.ins C [])) (fun v H2 => v = .non ∧ Q (.ref x) H2) E) E := rfl
theorem e_mth : denE g (.mth e m es) σ H Q E = denE g e σ H (fun x H1 => ∃ a, x = .ref a ∧ mtho g H1 a m fun sp => denA g es σ H1 (fun ws H2 => sp (x :: ws) H2 Q E) E) E := by
  show denE g e σ H _ E = _
  congr 1
  funext x H1
  simp [mtho]
theorem e_app : denE g (.app o e) σ H Q E = denE g o σ H (fun x H1 => isLst x H1 ∧ denE g e σ H1 (fun y H2 => ∃ a, x = .ref a ∧ lsto H2 a fun xs => xs.length < sizeLine ∧ Q .non (updW H2 a (.lst (xs ++ [y])))) E) E := by
  show denE g o σ H _ E = _
  congr 1
  funext x H1
  cases x <;> simp [appW, lsto]
theorem e_ext : denE g (.ext o e) σ H Q E = denE g o σ H (fun x H1 => isLst x H1 ∧ denE g e σ H1 (fun y H2 => ∃ a, x = .ref a ∧ lsto H2 a fun xs => seqMo H2 y fun ys => xs.length + ys.length ≤ sizeLine ∧ Q .non (updW H2 a (.lst (xs ++ ys)))) E) E := by
  show denE g o σ H _ E = _
  congr 1
  funext x H1
  cases x <;> simp [extW, lsto, seqMo]
theorem e_pop : denE g (.pop o e) σ H Q E = denE g o σ H (fun x H1 => isLst x H1 ∧ denE g e σ H1 (fun y H2 => ∃ a, x = .ref a ∧ ∃ i, y = .int i ∧ lsto H2 a fun xs => ∃ k : Nat, i = (k : Nat) ∧ i < 2 ^ 63 ∧ ∃ w, xs[k]? = some w ∧ Q w (updW H2 a (.lst (xs.eraseIdx k)))) E) E := by
  show denE g o σ H _ E = _
  congr 1
  funext x H1
  have : ∀ y H2, popW x y H2 Q = ∃ a, x = .ref a ∧ ∃ i, y = .int i ∧ lsto H2 a fun xs => ∃ k : Nat, i = (k : Nat) ∧ i < 2 ^ 63 ∧ ∃ w, xs[k]? = some w ∧ Q w (updW H2 a (.lst (xs.eraseIdx k))) := fun y H2 => by
    cases x <;> cases y <;> simp [popW, lsto]
  simp only [this]
theorem e_get1 : denE g (.get1 o k) σ H Q E = denE g o σ H (fun x H1 => isDct x H1 ∧ denE g k σ H1 (fun y H2 => ∃ a, x = .ref a ∧ dcto H2 a fun kvs => ∃ j, keyW y = some j ∧ Q ((valW kvs j).getD .non) H2) E) E := by
  simp only [denE, exists_and_left, dcto]
theorem e_get2 : denE g (.get2 o k e) σ H Q E = denE g o σ H (fun x H1 => isDct x H1 ∧ denE g k σ H1 (fun y H2 => denE g e σ H2 (fun z H3 => ∃ a, x = .ref a ∧ dcto H3 a fun kvs => ∃ j, keyW y = some j ∧ Q ((valW kvs j).getD z) H3) E) E) E := by
  simp only [denE, exists_and_left, dcto]
theorem e_setd : denE g (.setd o k e) σ H Q E = denE g o σ H (fun x H1 => isDct x H1 ∧ denE g k σ H1 (fun y H2 => denE g e σ H2 (fun z H3 => ∃ a, x = .ref a ∧ dcto H3 a fun kvs => ∃ j, keyW y = some j ∧ kvs.length < sizeLine ∧
      (∀ v, valW kvs j = some v → Q v H3) ∧ (valW kvs j = none → Q z (updW H3 a (.dct (putKW kvs j z))))) E) E) E := by
  simp only [denE, exists_and_left, dcto]
theorem e_lcm {it : CI} {t : CU} : denE g (.lcm e n it t) σ H Q E = denI g it σ H (fun items stay H1 => lcmW σ n stay (denU g t) (denE g e) items H1 Q) E := rfl
theorem e_dnew : denE g .dnew σ H Q E = ∀ p, H p = none → Q (.ref p) (updW H p (.dct [])) := rfl
theorem e_dct {ps : CPs} : denE g (.dct ps) σ H Q E = ∀ p, H p = none → denP g ps σ (updW H p (.dct [])) (fun kvs H2 => H2 p = some (.dct []) ∧ kvs.length ≤ 15 ∧ Q (.ref p) (updW H2 p (.dct (kvs.foldl (fun acc kv => putKW acc kv.1 kv.2) [])))) E := rfl
theorem e_inr {neg : Bool} {lo hi : Int} : denE g (.inr neg lo hi a) σ H Q E = denE g a σ H (fun x H1 => inrW neg lo hi x H1 Q) E := rfl
theorem e_isiS : denE g (.isiS a) σ H Q E = denE g a σ H (fun x H1 => isiSW g x H1 Q) E := rfl
theorem e_nset : denE g (.nset a) σ H Q E = denE g a σ H (fun x H1 => nsetW x H1 Q) E := rfl
theorem e_lrng : denE g (.lrng a) σ H Q E = denE g a σ H (fun x H1 => ∃ n : Nat, x = .int n ∧ n ≤ 1000 ∧ newL (rngW 0 n 1) H1 Q) E := rfl
theorem e_anil {QA : List W → Hw → Prop} : denA g .nil σ H QA E = QA [] H := rfl
theorem e_acons {QA : List W → Hw → Prop} : denA g (.cons e es) σ H QA E = denE g e σ H (fun x H1 => denA g es σ H1 (fun xs H2 => QA (x :: xs) H2) E) E := rfl
theorem e_pnil {QA : List (Key × W) → Hw → Prop} : denP g .nil σ H QA E = QA [] H := rfl
theorem e_pcons {QA : List (Key × W) → Hw → Prop} {ps : CPs} : denP g (.cons k e ps) σ H QA E = denE g k σ H (fun x H1 => denE g e σ H1 (fun y H2 => denP g ps σ H2 (fun ps H3 => ∃ j, keyW x = some j ∧ QA ((j, y) :: ps) H3) E) E) E := rfl
theorem e_ono {QO : Option Int → Hw → Prop} : denO g .no σ H QO E = QO none H := rfl
theorem e_oso {QO : Option Int → Hw → Prop} : denO g (.so e) σ H QO E = denE g e σ H (fun x H1 => ∃ i, x = .int i ∧ QO (some i) H1) E := rfl
theorem e_ands {s t : CT} {QB : Bool → Hw → Prop} : denT g (.ands s t) σ H QB E = denT g s σ H (fun c H1 => if c = true then denT g t σ H1 QB E else QB false H1) E := rfl
theorem e_ors {s t : CT} {QB : Bool → Hw → Prop} : denT g (.ors s t) σ H QB E = denT g s σ H (fun c H1 => if c = true then QB true H1 else denT g t σ H1 QB E) E := rfl
theorem e_tnot {s : CT} {QB : Bool → Hw → Prop} : denT g (.not s) σ H QB E = denT g s σ H (fun c H1 => QB (!c) H1) E := rfl
theorem e_tru {QB : Bool → Hw → Prop} : denT g (.tru e) σ H QB E = denE g e σ H (fun x H1 => ∃ b, x = .bl b ∧ QB b H1) E := rfl
theorem e_iex {R : List W → (Hw → Prop) → Hw → Prop} : denI g (.ex e) σ H R E = denE g e σ H (fun x H1 => seqo H1 x fun xs => R xs (fun H => seqA H x xs) H1) E := rfl
theorem e_ir1 {R : List W → (Hw → Prop) → Hw → Prop} : denI g (.r1 a) σ H R E = denE g a σ H (fun x H1 => ∃ n : Int, x = .int n ∧ -(2 ^ 62) ≤ n ∧ n < 2 ^ 62 ∧ R (rngW 0 n.toNat 1) (fun _ => True) H1) E := rfl
theorem e_ir2 {R : List W → (Hw → Prop) → Hw → Prop} : denI g (.r2 a b) σ H R E = denE g a σ H (fun x H1 => denE g b σ H1 (fun y H2 => ∃ i j : Int, x = .int i ∧ y = .int j ∧ (-(2 ^ 62) ≤ i ∧ i < 2 ^ 62 ∧ -(2 ^ 62) ≤ j ∧ j < 2 ^ 62) ∧ R (rngW i (j - i).toNat 1) (fun _ => True) H2) E) E := rfl
theorem e_ir3 {R : List W → (Hw → Prop) → Hw → Prop} : denI g (.r3 a b c) σ H R E = denE g a σ H (fun x H1 => denE g b σ H1 (fun y H2 => denE g c σ H2 (fun z H3 => ∃ i j k n, x = .int i ∧ y = .int j ∧ z = .int k ∧ RgC i j k n ∧ R (rngW i n k) (fun _ => True) H3) E) E) E := rfl
theorem e_uno {QB : Bool → Hw → Prop} : denU g .no σ H QB E = QB true H := rfl
theorem e_uso {t : CT} {QB : Bool → Hw → Prop} : denU g (.so t) σ H QB E = denT g t σ H QB E := rfl
/-! statements -/
theorem e_set : denS g (.set n e) D σ H = denE g e σ H (fun x H1 => D.nx (σ.set n (some x)) H1) fun C H1 => D.ex C σ H1 := rfl
theorem e_fset : denS g (.fset o f e) D σ H = denE g e σ H (fun y H1 => denE g o σ H1 (fun x H2 => ∃ a, x = .ref a ∧ fseto g H2 a f y fun H3 => D.nx σ H3) fun C H1 => D.ex C σ H1) fun C H1 => D.ex C σ H1 := by
  simp only [denS, exists_and_left, fseto]
theorem e_iset : denS g (.iset o i e) D σ H = denE g e σ H (fun y H1 => denE g o σ H1 (fun x H2 => denE g i σ H2 (fun z H3 => isetW x z y H3 fun H4 => D.nx σ H4) fun C H1 => D.ex C σ H1) fun C H1 => D.ex C σ H1) fun C H1 => D.ex C σ H1 := by
  simp only [denS, exists_and_left, isetW]
theorem e_isR {p : Addr} {z y : W} {K : Hw → Prop} : isetW (.ref p) z y H K = iseto H p z y K := rfl
theorem e_isD1 {p : Addr} {z y : W} {K : Hw → Prop} {kvs : List (Key × W)} [h : At H p (.dct kvs)] : iseto H p z y K = ∃ j, keyW z = some j ∧ kvs.length < sizeLine ∧ K (updW H p (.dct (putKW kvs j y))) := by
  unfold iseto isetW
  simp [h.h]
theorem e_isL1 {p : Addr} {z y : W} {K : Hw → Prop} {xs : List W} [h : At H p (.lst xs)] : iseto H p z y K = ∃ j, z = .int j ∧ ∃ n, ixN xs.length j = some n ∧ K (updW H p (.lst (xs.set n y))) := by
  unfold iseto isetW
  simp [h.h]
theorem e_unp {is : List Nat} : denS g (.unp is e) D σ H = denE g e σ H (fun x H1 => ∃ ws, x = .tup ws ∧ ws.length = is.length ∧ D.nx (setAll is ws σ) H1) fun C H1 => D.ex C σ H1 := rfl
theorem e_expr : denS g (.expr e) D σ H = denE g e σ H (fun _ H1 => D.nx σ H1) fun C H1 => D.ex C σ H1 := rfl
theorem e_ret : denS g (.ret e) D σ H = denE g e σ H D.rt fun C H1 => D.ex C σ H1 := rfl
theorem e_retN : denS g .retN D σ H = D.rt .non H := rfl
theorem e_ifs {t : CT} {p q : List CS} : denS g (.ifs t p q) D σ H = denT g t σ H (fun c H1 => if c = true then denB g p D σ H1 else denB g q D σ H1) fun C H1 => D.ex C σ H1 := rfl
theorem e_for_ {it : CI} {p : List CS} : denS g (.for_ n it p) D σ H = denI g it σ H (fun xs stay H1 => loopW stay n (denB g p) D xs σ H1) fun C H1 => D.ex C σ H1 := rfl
theorem e_whl {t : CT} {p : List CS} : denS g (.whl t p) D σ H = ∃ n, whileW (denT g t) (denB g p) D n σ H := rfl
theorem e_raise : denS g (.raise x) D σ H = ∃ C, g.exc x C ∧ D.ex C σ H := rfl
theorem e_try {p : List CS} {w : W} : denS g (.try_ p x w) D σ H = ((∃ C k, g.exm C x k) ∧ denB g p { D with ex := fun C σ1 H1 => ∃ k, g.exm C x k ∧ (k = true → D.rt w H1) ∧ (k = false → D.ex C σ1 H1) } σ H) := rfl
theorem e_tryH {p : List CS} {h : Hd} : denS g (.tryH p x h) D σ H = ((∃ C k, g.exm C x k) ∧ denB g p { D with ex := fun C _ H1 => g.exm C x true ∧ hdW g C (fun w => D.rt w H1) h } σ H) := rfl
theorem e_pass : denS g .pass D σ H = D.nx σ H := rfl
theorem e_bnil : denB g [] D σ H = D.nx σ H := rfl
theorem e_bcons {s : CS} {r : List CS} : denB g (s :: r) D σ H = denS g s { D with nx := denB g r D } σ H := rfl
theorem e_loop0 {stay : Hw → Prop} {t : TSW} : loopW stay n t D [] σ H = (stay H ∧ D.nx σ H) := rfl
theorem e_loop1 {stay : Hw → Prop} {t : TSW} {v : W} {r : List W} : loopW stay n t D (v :: r) σ H = (stay H ∧ t { D with nx := loopW stay n t D r, ct := loopW stay n t D r, bk := D.nx } (σ.set n (some v)) H) := rfl
theorem e_comp0 {p : Addr} {stay : Hw → Prop} {t : TTW} {u : TEW} {K : Hw → Prop} : compGo p σ n stay t u K [] H = (stay H ∧ K H) := rfl
theorem e_comp1 {p : Addr} {stay : Hw → Prop} {t : TTW} {u : TEW} {K : Hw → Prop} {v : W} {r : List W} : compGo p σ n stay t u K (v :: r) H = (stay H ∧ t (σ.set n (some v)) H (fun b H1 => if b = true then u (σ.set n (some v)) H1 (fun y H2 => ∃ acc, H2 p = some (.lst acc) ∧ acc.length < sizeLine ∧ compGo p σ n stay t u K r (updW H2 p (.lst (acc ++ [y])))) (fun _ _ => False)
      else compGo p σ n stay t u K r H1) (fun _ _ => False)) := rfl
/-! operators -/
theorem e_addI {i j : Int} : binW .Add (.int i) (.int j) H Q = Q (.int (i + j)) H := rfl
theorem e_addS {i j : Str} : binW .Add (.str i) (.str j) H Q = (i.length + j.length ≤ sizeLine ∧ Q (.str (i ++ j)) H) := rfl
theorem e_addF {xs ys : List W} : binW .Add (.fls xs) (.fls ys) H Q = (xs.length + ys.length ≤ sizeLine ∧ newL (xs ++ ys) H Q) := by
  show (∃ xs' ys', xs = xs' ∧ ys = ys' ∧ _) = _
  simp
theorem e_addRF {p : Addr} {ys : List W} : binW .Add (.ref p) (.fls ys) H Q = lsto H p fun xs => xs.length + ys.length ≤ sizeLine ∧ newL (xs ++ ys) H Q := by
  show (∃ xs ys', H p = some (.lst xs) ∧ ys = ys' ∧ _) = _
  simp [lsto]
theorem e_addFR {p : Addr} {ys : List W} : binW .Add (.fls ys) (.ref p) H Q = lsto H p fun xs => ys.length + xs.length ≤ sizeLine ∧ newL (ys ++ xs) H Q := by
  show (∃ xs ys', ys = xs ∧ H p = some (.lst ys') ∧ _) = _
  simp [lsto]
theorem e_addRR {p q : Addr} : binW .Add (.ref p) (.ref q) H Q = lsto H p fun xs => lsto H q fun ys => xs.length + ys.length ≤ sizeLine ∧ newL (xs ++ ys) H Q := by
  show (∃ xs ys', H p = some (.lst xs) ∧ H q = some (.lst ys') ∧ _) = _
  simp [lsto]
theorem e_sub {i j : Int} : binW .Sub (.int i) (.int j) H Q = Q (.int (i - j)) H := propext ⟨fun h => h.2, fun h => ⟨trivial, h⟩⟩
theorem e_mulI {i j : Int} : binW .Mult (.int i) (.int j) H Q = (CMul i j ∧ Q (.int (i * j)) H) := rfl
theorem e_div {i j : Int} : binW .FloorDiv (.int i) (.int j) H Q = (CDiv i j ∧ Q (.int (i / j)) H) := rfl
theorem e_mod {i j : Int} : binW .Mod (.int i) (.int j) H Q = (0 < j ∧ Q (.int (i % j)) H) := rfl
theorem e_pow {i j : Int} : binW .Pow (.int i) (.int j) H Q = (CPow i j ∧ Q (.int (i ^ j.toNat)) H) := rfl
theorem e_ltI {i j : Int} : cmpW .Lt (.int i) (.int j) H Q = Q (.bl (decide (i < j))) H := rfl
theorem e_leI {i j : Int} : cmpW .LtE (.int i) (.int j) H Q = Q (.bl (decide (i ≤ j))) H := rfl
theorem e_gtI {i j : Int} : cmpW .Gt (.int i) (.int j) H Q = Q (.bl (decide (j < i))) H := rfl
theorem e_geI {i j : Int} : cmpW .GtE (.int i) (.int j) H Q = Q (.bl (decide (j ≤ i))) H := rfl
theorem e_eqI {i j : Int} : cmpW .Eq (.int i) (.int j) H Q = Q (.bl (decide (i = j))) H := rfl
theorem e_neI {i j : Int} : cmpW .NotEq (.int i) (.int j) H Q = Q (.bl (!decide (i = j))) H := rfl
theorem e_eqS {i j : Str} : cmpW .Eq (.str i) (.str j) H Q = Q (.bl (decide (i = j))) H := rfl
theorem e_neS {i j : Str} : cmpW .NotEq (.str i) (.str j) H Q = Q (.bl (!decide (i = j))) H := rfl
theorem e_eqB {i j : Bool} : cmpW .Eq (.bl i) (.bl j) H Q = Q (.bl (i == j)) H := rfl
theorem e_neB {i j : Bool} : cmpW .NotEq (.bl i) (.bl j) H Q = Q (.bl (!(i == j))) H := rfl
def isNon : W → Bool
  | .non => true
  | _ => false
theorem e_isN {w : W} : cmpW .Is w .non H Q = Q (.bl (isNon w)) H := by cases w <;> rfl
theorem e_isntN {w : W} : cmpW .IsNot w .non H Q = Q (.bl (!isNon w)) H := by cases w <;> rfl
def isB (b : Bool) : W → Bool
  | .bl a => a == b
  | _ => false
def notScr : W → Bool
  | .scr _ => false
  | _ => true
theorem n_non : isNon (.non) = true := rfl
theorem ns_non : notScr (.non) = true := rfl
theorem nb_non {c : Bool} : isB c (.non) = false := rfl
theorem n_bl {b : Bool} : isNon (.bl b) = false := rfl
theorem ns_bl {b : Bool} : notScr (.bl b) = true := rfl
theorem nb_bl {c b : Bool} : isB c (.bl b) = (b == c) := rfl
theorem n_int {i : Int} : isNon (.int i) = false := rfl
theorem ns_int {i : Int} : notScr (.int i) = true := rfl
theorem nb_int {c : Bool} {i : Int} : isB c (.int i) = false := rfl
theorem n_str {x : Str} : isNon (.str x) = false := rfl
theorem ns_str {x : Str} : notScr (.str x) = true := rfl
theorem nb_str {c : Bool} {x : Str} : isB c (.str x) = false := rfl
theorem n_ref {a : Addr} : isNon (.ref a) = false := rfl
theorem ns_ref {a : Addr} : notScr (.ref a) = true := rfl
theorem nb_ref {c : Bool} {a : Addr} : isB c (.ref a) = false := rfl
theorem n_scr {n : List Int} : isNon (.scr n) = false := rfl
theorem ns_scr {n : List Int} : notScr (.scr n) = false := rfl
theorem nb_scr {c : Bool} {n : List Int} : isB c (.scr n) = false := rfl
theorem n_tup {t : List W} : isNon (.tup t) = false := rfl
theorem ns_tup {t : List W} : notScr (.tup t) = true := rfl
theorem nb_tup {c : Bool} {t : List W} : isB c (.tup t) = false := rfl
theorem n_fls {f : List W} : isNon (.fls f) = false := rfl
theorem ns_fls {f : List W} : notScr (.fls f) = true := rfl
theorem nb_fls {c : Bool} {f : List W} : isB c (.fls f) = false := rfl
theorem e_isB {w : W} {b : Bool} : cmpW .Is w (.bl b) H Q = (notScr w = true ∧ Q (.bl (isB b w)) H) := by cases w <;> simp [cmpW, isW, isB, notScr]
theorem e_isntB {w : W} {b : Bool} : cmpW .IsNot w (.bl b) H Q = (notScr w = true ∧ Q (.bl (!isB b w)) H) := by cases w <;> simp [cmpW, isW, isB, notScr]
theorem e_len {w : W} : callW "len" [w] H Q = lenW w H Q := by
  unfold callW lenW
  rw [if_pos rfl]
  simp
theorem e_lenF {l : List W} : lenW (.fls l) H Q = Q (.int l.length) H := by unfold lenW; simp [seqA, seqL]
theorem e_lenT {l : List W} : lenW (.tup l) H Q = Q (.int l.length) H := by unfold lenW; simp [seqA]
theorem e_lenS {l : List Int} : lenW (.scr l) H Q = Q (.int l.length) H := by unfold lenW; simp [seqA, seqL]
theorem e_lenX {x : Str} : lenW (.str x) H Q = (x.length ≤ sizeLine ∧ Q (.int x.length) H) := by unfold lenW; simp [seqA, seqL]
theorem e_lenR {p : Addr} : lenW (.ref p) H Q = leno H p Q := by
  unfold lenW leno
  simp [seqA, seqL]
theorem e_lenL {p : Addr} {xs : List W} [h : At H p (.lst xs)] : leno H p Q = Q (.int xs.length) H := by
  unfold leno
  simp [h.h]
theorem e_lenD {p : Addr} {xs : List (Key × W)} [h : At H p (.dct xs)] : leno H p Q = Q (.int xs.length) H := by
  unfold leno
  simp [h.h]
theorem len_of {w : W} {xs : List W} (hs : seqA H w xs) (h : Q (.int xs.length) H) : lenW w H Q := .inl ⟨xs, hs, h⟩
theorem e_list {w : W} : callW "list" [w] H Q = seqo H w fun xs => newL xs H Q := by
  unfold callW seqo
  rw [if_neg (by decide), if_pos rfl]
  simp
theorem e_tuple {w : W} : callW "tuple" [w] H Q = tupW w H Q := by
  unfold callW tupW
  rw [if_neg (by decide), if_neg (by decide), if_pos rfl]
  simp
theorem e_tupF {l : List W} : tupW (.fls l) H Q = Q (.tup l) H := by unfold tupW; simp [seqL]
theorem e_tupT {l : List W} : tupW (.tup l) H Q = Q (.tup l) H := by unfold tupW; simp [seqL]
theorem e_tupS {l : List Int} : tupW (.scr l) H Q = Q (.tup (l.map W.int)) H := by unfold tupW; simp [seqL]
theorem e_tupR {p : Addr} : tupW (.ref p) H Q = lsto H p fun xs => Q (.tup xs) H := by unfold tupW lsto; simp [seqL]
theorem sorted_of {w : W} (h : (∃ ns : List Int, seqL H w (ns.map W.int) ∧ ∀ ns' : List Int, ns'.Perm ns → ns'.Pairwise (· ≤ ·) → newL (ns'.map W.int) H Q) ∨
      ∃ (a : Addr) (kvs : List (Key × W)) (ks : List Int), w = .ref a ∧ H a = some (.dct kvs) ∧ kvs.map (·.1) = ks.map Sum.inl ∧ ks.length < 64 ∧ ∀ ns' : List Int, ns'.Perm ks → ns'.Pairwise (· ≤ ·) → newL (ns'.map W.int) H Q) : callW "sorted" [w] H Q := by
  unfold callW
  rw [if_neg (by decide), if_neg (by decide), if_neg (by decide), if_pos rfl]
  exact ⟨w, rfl, h⟩
theorem e_max2 {i j : Int} : callW "max" [.int i, .int j] H Q = Q (.int (max i j)) H := by
  unfold callW
  rw [if_neg (by decide), if_neg (by decide), if_neg (by decide), if_neg (by decide), if_pos rfl]
  have e : maxI i j = max i j := by unfold maxI; omega
  rw [← e]
  refine propext ⟨fun h => ?_, fun h => .inl ⟨i, j, rfl, h⟩⟩
  rcases h with ⟨_, _, q, h⟩ | ⟨_, _, q, _⟩
  · cases q; exact h
  · cases q
theorem e_max1 {w : W} : callW "max" [w] H Q = ∃ ns : List Int, seqL H w (ns.map W.int) ∧ 0 < ns.length ∧ ∀ m, m ∈ ns → (∀ y, y ∈ ns → y ≤ m) → Q (.int m) H := by
  unfold callW
  rw [if_neg (by decide), if_neg (by decide), if_neg (by decide), if_neg (by decide), if_pos rfl]
  simp
theorem e_min2 {i j : Int} : callW "min" [.int i, .int j] H Q = Q (.int (min i j)) H := by
  unfold callW
  rw [if_neg (by decide), if_neg (by decide), if_neg (by decide), if_neg (by decide), if_neg (by decide), if_pos rfl]
  have e : minI i j = min i j := by unfold minI; omega
  rw [← e]
  refine propext ⟨fun h => ?_, fun h => ⟨i, j, rfl, h⟩⟩
  obtain ⟨_, _, q, h⟩ := h
  cases q; exact h
theorem e_int1 {w : W} : callW "int" [w] H Q = toInt w H Q := by
  unfold callW toInt
  rw [if_neg (by decide), if_neg (by decide), if_neg (by decide), if_neg (by decide), if_neg (by decide), if_neg (by decide), if_pos rfl]
  simp
theorem e_intB {b : Bool} : toInt (.bl b) H Q = Q (.int (if b = true then 1 else 0)) H := by unfold toInt; simp
theorem e_intI {b : Int} : toInt (.int b) H Q = Q (.int b) H := by unfold toInt; simp
section
variable {K : List W → Prop} {p : Addr} {xs : List W} {kvs : List (Key × W)} {KD : List (Key × W) → Prop}
theorem e_seqR : seqo H (.ref p) K = lsto H p K := rfl
theorem e_seqF {l : List W} : seqo H (.fls l) K = K l := by unfold seqo; simp [seqA, seqL]
theorem e_seqT {l : List W} : seqo H (.tup l) K = K l := by unfold seqo; simp [seqA]
theorem e_seqS {l : List Int} : seqo H (.scr l) K = K (l.map W.int) := by unfold seqo; simp [seqA, seqL]
theorem e_seqMR : seqMo H (.ref p) K = lsto H p K := rfl
theorem e_seqMF {l : List W} : seqMo H (.fls l) K = K l := by unfold seqMo; simp [seqM]
theorem e_lsto [h : At H p (.lst xs)] : lsto H p K = K xs := by unfold lsto; simp [h.h]
theorem e_dcto [h : At H p (.dct kvs)] : dcto H p KD = KD kvs := by unfold dcto; simp [h.h]
theorem e_isL [h : At H p (.lst xs)] : isLst (.ref p) H = True := propext ⟨fun _ => trivial, fun _ => ⟨xs, h.h⟩⟩
theorem e_isD [h : At H p (.dct kvs)] : isDct (.ref p) H = True := propext ⟨fun _ => trivial, fun _ => ⟨p, kvs, rfl, h.h⟩⟩
theorem e_tyL [h : At H p (.lst xs)] : tyW H (.ref p) = some "list" := by unfold tyW; simp only [h.h]
theorem e_tyD [h : At H p (.dct kvs)] : tyW H (.ref p) = some "dict" := by unfold tyW; simp only [h.h]
theorem seqo_of {w : W} {l : List W} (hs : seqA H w l) (h : K l) : seqo H w K := ⟨l, hs, h⟩
end
theorem q_AR {p : Addr} {xs : List W} : seqA H (.ref p) xs = (H p = some (.lst xs)) := rfl
theorem q_AF {l xs : List W} : seqA H (.fls l) xs = (l = xs) := rfl
theorem q_AT {l xs : List W} : seqA H (.tup l) xs = (l = xs) := rfl
theorem q_AS {l : List Int} {xs : List W} : seqA H (.scr l) xs = (xs = l.map W.int) := rfl
theorem q_LR {p : Addr} {xs : List W} : seqL H (.ref p) xs = (H p = some (.lst xs)) := rfl
theorem q_LF {l xs : List W} : seqL H (.fls l) xs = (l = xs) := rfl
theorem q_LS {l : List Int} {xs : List W} : seqL H (.scr l) xs = (xs = l.map W.int) := rfl
theorem q_LT {l xs : List W} : seqL H (.tup l) xs = False := rfl
theorem e_isLF {l : List W} : isLst (.fls l) H = True := propext ⟨fun _ => trivial, fun _ => ⟨l, rfl⟩⟩
theorem ixd_of {w : W} {l : List W} {j : Int} {v : W} (hs : seqA H w l) (e : atI l j = some v) (h : Q v H) : ixd w (.int j) H Q := by
  refine .inl ?_
  cases w <;> first | exact ⟨l, v, hs, e, h⟩ | exact (show False from hs).elim
theorem e_ixF {l : List W} {j : Int} : ixd (.fls l) (.int j) H Q = ∃ v, atI l j = some v ∧ Q v H := by
  unfold ixd
  show ((∃ xs v, l = xs ∧ _) ∨ _) = _
  simp [dgetW]
theorem e_ixT {l : List W} {j : Int} : ixd (.tup l) (.int j) H Q = ∃ v, atI l j = some v ∧ Q v H := by
  unfold ixd
  show ((∃ xs v, l = xs ∧ _) ∨ _) = _
  simp [dgetW]
theorem e_ixS {l : List Int} {j : Int} : ixd (.scr l) (.int j) H Q = ∃ v, atI (l.map W.int) j = some v ∧ Q v H := by
  unfold ixd
  show ((∃ xs v, xs = l.map W.int ∧ _) ∨ _) = _
  simp [dgetW]
theorem e_ixX {z : Str} {j : Int} : ixd (.str z) (.int j) H Q = ∃ c, z.length ≤ sizeLine ∧ atI z.cps.toList j = some c ∧ Q (.str ⟨#[c]⟩) H := by
  unfold ixd
  show ((∃ c, z.length ≤ sizeLine ∧ _) ∨ _) = _
  simp [dgetW]
theorem e_ixR {p : Addr} {y : W} : ixd (.ref p) y H Q = ixo H p y Q := rfl
theorem ixo_eq {p : Addr} {y : W} : ixo H p y Q = ((∃ j, y = .int j ∧ ∃ xs v, H p = some (.lst xs) ∧ atI xs j = some v ∧ Q v H) ∨ ∃ kvs k v, H p = some (.dct kvs) ∧ keyW y = some k ∧ valW kvs k = some v ∧ Q v H) := by
  unfold ixo ixd dgetW
  have e : ixW (.ref p) y H Q = ∃ j, y = .int j ∧ ∃ xs v, H p = some (.lst xs) ∧ atI xs j = some v ∧ Q v H := by
    cases y <;> simp [ixW, seqA, seqL]
  rw [e]
  simp
theorem e_ixL {p : Addr} {xs : List W} {j : Int} [h : At H p (.lst xs)] : ixo H p (.int j) Q = ∃ v, atI xs j = some v ∧ Q v H := by rw [ixo_eq]; simp [h.h]
theorem e_ixD {p : Addr} {kvs : List (Key × W)} {y : W} [h : At H p (.dct kvs)] : ixo H p y Q = ∃ k, keyW y = some k ∧ ∃ v, valW kvs k = some v ∧ Q v H := by rw [ixo_eq]; simp [h.h]
theorem e_tyN : tyW H .non = some "NoneType" := rfl
theorem e_tyB {b : Bool} : tyW H (.bl b) = some "bool" := rfl
theorem e_tyI {b : Int} : tyW H (.int b) = some "int" := rfl
theorem e_tyS {b : Str} : tyW H (.str b) = some "str" := rfl
theorem e_tyT {b : List W} : tyW H (.tup b) = some "tuple" := rfl
theorem e_tyF {b : List W} : tyW H (.fls b) = some "list" := rfl
theorem ty_lst {p : Addr} {xs : List W} (h : H p = some (.lst xs)) : tyW H (.ref p) = some "list" := by unfold tyW; simp only [h]
theorem ty_dct {p : Addr} {xs : List (Key × W)} (h : H p = some (.dct xs)) : tyW H (.ref p) = some "dict" := by unfold tyW; simp only [h]
theorem ty_ref {p : Addr} {t : String} (h : tyW H (.ref p) = some t) : t = "list" ∨ t = "dict" := by
  cases hh : H p with
  | none => simp [tyW, hh] at h
  | some o => cases o <;> simp [tyW, hh] at h <;> simp [← h]
theorem e_slF {l : List W} {lo hi : Option Int} : slW (.fls l) lo hi H Q = newL (cutW l lo hi) H Q := by
  show (∃ xs, l = xs ∧ _) = _
  simp
theorem e_slR {p : Addr} {lo hi : Option Int} : slW (.ref p) lo hi H Q = lsto H p fun xs => newL (cutW xs lo hi) H Q := rfl
theorem e_slS {l : List Int} {lo hi : Option Int} : slW (.scr l) lo hi H Q = newL (cutW (l.map W.int) lo hi) H Q := by
  show (∃ xs, xs = l.map W.int ∧ _) = _
  simp
theorem e_slT {l : List W} {lo hi : Option Int} : slW (.tup l) lo hi H Q = (¬ (HT.sIx l.length 0 lo = 0 ∧ HT.sIx l.length l.length hi = l.length) ∧ Q (.tup (cutW l lo hi)) H) := rfl
end
section
theorem kb_NoneType_int : kitB "NoneType" "int" = some false := by decide +kernel
theorem kb_NoneType_bool : kitB "NoneType" "bool" = some false := by decide +kernel
theorem kb_NoneType_list : kitB "NoneType" "list" = some false := by decide +kernel
theorem kb_NoneType_tuple : kitB "NoneType" "tuple" = some false := by decide +kernel
theorem kb_NoneType_str : kitB "NoneType" "str" = some false := by decide +kernel
theorem kb_bool_int : kitB "bool" "int" = some true := by decide +kernel
theorem kb_bool_bool : kitB "bool" "bool" = some true := by decide +kernel
theorem kb_bool_list : kitB "bool" "list" = some false := by decide +kernel
theorem kb_bool_tuple : kitB "bool" "tuple" = some false := by decide +kernel
theorem kb_bool_str : kitB "bool" "str" = some false := by decide +kernel
theorem kb_int_int : kitB "int" "int" = some true := by decide +kernel
theorem kb_int_bool : kitB "int" "bool" = some false := by decide +kernel
theorem kb_int_list : kitB "int" "list" = some false := by decide +kernel
theorem kb_int_tuple : kitB "int" "tuple" = some false := by decide +kernel
theorem kb_int_str : kitB "int" "str" = some false := by decide +kernel
theorem kb_str_int : kitB "str" "int" = some false := by decide +kernel
theorem kb_str_bool : kitB "str" "bool" = some false := by decide +kernel
theorem kb_str_list : kitB "str" "list" = some false := by decide +kernel
theorem kb_str_tuple : kitB "str" "tuple" = some false := by decide +kernel
theorem kb_str_str : kitB "str" "str" = some true := by decide +kernel
theorem kb_tuple_int : kitB "tuple" "int" = some false := by decide +kernel
theorem kb_tuple_bool : kitB "tuple" "bool" = some false := by decide +kernel
theorem kb_tuple_list : kitB "tuple" "list" = some false := by decide +kernel
theorem kb_tuple_tuple : kitB "tuple" "tuple" = some true := by decide +kernel
theorem kb_tuple_str : kitB "tuple" "str" = some false := by decide +kernel
theorem kb_list_int : kitB "list" "int" = some false := by decide +kernel
theorem kb_list_bool : kitB "list" "bool" = some false := by decide +kernel
theorem kb_list_list : kitB "list" "list" = some true := by decide +kernel
theorem kb_list_tuple : kitB "list" "tuple" = some false := by decide +kernel
theorem kb_list_str : kitB "list" "str" = some false := by decide +kernel
theorem kb_dict_int : kitB "dict" "int" = some false := by decide +kernel
theorem kb_dict_bool : kitB "dict" "bool" = some false := by decide +kernel
theorem kb_dict_list : kitB "dict" "list" = some false := by decide +kernel
theorem kb_dict_tuple : kitB "dict" "tuple" = some false := by decide +kernel
theorem kb_dict_str : kitB "dict" "str" = some false := by decide +kernel
end
section
variable {Q : KW} {H : Hw}
theorem z_non : frz Q .non H = Q .non H := by unfold frz; simp
theorem z_bl {b : Bool} : frz Q (.bl b) H = Q (.bl b) H := by unfold frz; simp
theorem z_int {b : Int} : frz Q (.int b) H = Q (.int b) H := by unfold frz; simp
theorem z_str {b : Str} : frz Q (.str b) H = Q (.str b) H := by unfold frz; simp
theorem z_tup {b : List W} : frz Q (.tup b) H = Q (.tup b) H := by unfold frz; simp
theorem z_fls {b : List W} : frz Q (.fls b) H = Q (.fls b) H := by unfold frz; simp
theorem z_ref {w : W} (h : Q w H) : frz Q w H := .inl h
instance At.new {a : Addr} {o : HW} : At (updW H a o) a o := ⟨updW_same⟩
theorem updW_twice {a : Addr} {o u : HW} : updW (updW H a o) a u = updW H a u := by
  funext b
  by_cases h : b = a
  · subst h; rw [updW_same, updW_same]
  · rw [updW_ne h, updW_ne h, updW_ne h]
theorem del_upd {a : Addr} {o : HW} (h : H a = none) : delW (updW H a o) a = H := by
  funext b
  unfold delW
  by_cases e : b = a
  · subst e; rw [if_pos rfl, h]
  · rw [if_neg e, updW_ne e]
/-- a fresh list returned, as the caller wants it -/
theorem z_new {p : Addr} {xs : List W} (h : newL xs H Q) (hp : H p = none) : frz Q (.ref p) (updW H p (.lst xs)) := by
  rcases h with h | h
  · exact .inl (h p hp)
  · exact .inr ⟨p, xs, rfl, updW_same, by rw [del_upd hp]; exact h⟩
end
theorem newR {H : Hw} {Q : KW} {xs : List W} (h : ∀ p, H p = none → Q (.ref p) (updW H p (.lst xs))) : newL xs H Q := .inl h
theorem newF {H : Hw} {Q : KW} {xs : List W} (h : Q (.fls xs) H) : newL xs H Q := .inr h
theorem end_nx {Q : KW} {E : EW} : (endOf Q E).nx = fun _ H => Q .non H := rfl
theorem end_rt {Q : KW} {E : EW} : (endOf Q E).rt = Q := rfl
theorem end_ex {Q : KW} {E : EW} : (endOf Q E).ex = fun C _ H => E C H := rfl
end WL

/-! ## Values that are data: ==, in -/
namespace WL
open PySem L2

mutual
/-- data without truths -/
def nb : W → Bool
  | .non => true
  | .int _ => true
  | .str x => PyData.strOk x
  | .tup xs => nbs xs
  | .fls xs => nbs xs
  | _ => false
def nbs : List W → Bool
  | [] => true
  | x :: xs => nb x && nbs xs
end
mutual
/-- data -/
def isD : W → Bool
  | .non => true
  | .bl _ => true
  | .int _ => true
  | .str x => PyData.strOk x
  | .tup xs => isDs xs
  | .fls xs => isDs xs
  | _ => false
def isDs : List W → Bool
  | [] => true
  | x :: xs => isD x && isDs xs
end
mutual
def dat : W → PyData
  | .bl b => .bool b
  | .int i => .int i
  | .str x => .str x
  | .tup xs => .tuple (dats xs)
  | .fls xs => .list (dats xs)
  | _ => .none
def dats : List W → List PyData
  | [] => []
  | x :: xs => dat x :: dats xs
end
mutual
theorem isD_nb : ∀ w : W, nb w = true → isD w = true
  | .non, _ => rfl
  | .int _, _ => rfl
  | .str _, h => h
  | .tup xs, h => isDs_nb xs h
  | .fls xs, h => isDs_nb xs h
  | .bl _, h => by cases h
  | .ref _, h => by cases h
  | .scr _, h => by cases h
theorem isDs_nb : ∀ ws : List W, nbs ws = true → isDs ws = true
  | [], _ => rfl
  | x :: xs, h => by
    obtain ⟨h1, h2⟩ := and_ok (show (nb x && nbs xs) = true from h)
    show (isD x && isDs xs) = true
    rw [isD_nb x h1, isDs_nb xs h2]
    rfl
end
mutual
theorem dw (H : Hw) : ∀ w : W, isD w = true → DW H w (dat w)
  | .non, _ => .non
  | .int i, _ => .int i
  | .bl b, _ => .bl b
  | .str x, h => .str x
  | .tup xs, h => .tup (dws H xs h)
  | .fls xs, h => .lst (xs := xs) rfl (dws H xs h)
  | .ref _, h => by cases h
  | .scr _, h => by cases h
theorem dws (H : Hw) : ∀ ws : List W, isDs ws = true → DWs H ws (dats ws)
  | [], _ => .nil
  | x :: xs, h => by
    obtain ⟨h1, h2⟩ := and_ok (show (isD x && isDs xs) = true from h)
    exact .cons (dw H x h1) (dws H xs h2)
end
mutual
theorem lay_dat : ∀ w : W, isD w = true → (dat w).canLay0 = true
  | .non, _ => rfl
  | .int i, _ => rfl
  | .bl b, _ => rfl
  | .str x, h => h
  | .tup xs, h => lay_dats xs h
  | .fls xs, h => lay_dats xs h
  | .ref _, h => by cases h
  | .scr _, h => by cases h
theorem lay_dats : ∀ ws : List W, isDs ws = true → PyData.canLayAll0 (dats ws) = true
  | [], _ => rfl
  | x :: xs, h => by
    obtain ⟨h1, h2⟩ := and_ok (show (isD x && isDs xs) = true from h)
    show ((dat x).canLay0 && PyData.canLayAll0 (dats xs)) = true
    rw [lay_dat x h1, lay_dats xs h2]
    rfl
end
mutual
def dep : W → Nat
  | .tup xs => deps xs + 1
  | .fls xs => deps xs + 1
  | _ => 0
def deps : List W → Nat
  | [] => 0
  | x :: xs => max (dep x) (deps xs)
end
mutual
theorem dep_dat : ∀ w : W, (dat w).depth = dep w
  | .non => rfl
  | .int i => rfl
  | .bl b => rfl
  | .str x => rfl
  | .tup xs => by
    show PyData.depthAll (dats xs) + 1 = deps xs + 1
    rw [deps_dat xs]
  | .fls xs => by
    show PyData.depthAll (dats xs) + 1 = deps xs + 1
    rw [deps_dat xs]
  | .ref _ => rfl
  | .scr _ => rfl
theorem deps_dat : ∀ ws : List W, PyData.depthAll (dats ws) = deps ws
  | [] => rfl
  | x :: xs => by
    show max (dat x).depth (PyData.depthAll (dats xs)) = max (dep x) (deps xs)
    rw [dep_dat x, deps_dat xs]
end
theorem shaped_dat {w : W} (h : isD w = true) (d : dep w ≤ 64) : SeqAt.shaped (dat w) = true := by
  unfold SeqAt.shaped
  rw [lay_dat w h, dep_dat w]
  simp [d]
mutual
theorem eqv_dat : ∀ a b : W, nb a = true → nb b = true → (PyData.eqv (dat a) (dat b) = true ↔ a = b)
  | .non, .non, _, _ => by simp [dat, PyData.eqv]
  | .non, .int _, _, _ => by simp [dat, PyData.eqv]
  | .non, .str _, _, _ => by simp [dat, PyData.eqv]
  | .non, .tup _, _, _ => by simp [dat, PyData.eqv]
  | .non, .fls _, _, _ => by simp [dat, PyData.eqv]
  | .int _, .non, _, _ => by simp [dat, PyData.eqv]
  | .int _, .int _, _, _ => by simp [dat, PyData.eqv]
  | .int _, .str _, _, _ => by simp [dat, PyData.eqv]
  | .int _, .tup _, _, _ => by simp [dat, PyData.eqv]
  | .int _, .fls _, _, _ => by simp [dat, PyData.eqv]
  | .str _, .non, _, _ => by simp [dat, PyData.eqv]
  | .str _, .int _, _, _ => by simp [dat, PyData.eqv]
  | .str _, .str _, _, _ => by simp [dat, PyData.eqv]
  | .str _, .tup _, _, _ => by simp [dat, PyData.eqv]
  | .str _, .fls _, _, _ => by simp [dat, PyData.eqv]
  | .tup _, .non, _, _ => by simp [dat, PyData.eqv]
  | .tup _, .int _, _, _ => by simp [dat, PyData.eqv]
  | .tup _, .str _, _, _ => by simp [dat, PyData.eqv]
  | .tup xs, .tup ys, h, k => by
    have := eqv_dats xs ys h k
    simp [dat, PyData.eqv, this]
  | .tup _, .fls _, _, _ => by simp [dat, PyData.eqv]
  | .fls _, .non, _, _ => by simp [dat, PyData.eqv]
  | .fls _, .int _, _, _ => by simp [dat, PyData.eqv]
  | .fls _, .str _, _, _ => by simp [dat, PyData.eqv]
  | .fls _, .tup _, _, _ => by simp [dat, PyData.eqv]
  | .fls xs, .fls ys, h, k => by
    have := eqv_dats xs ys h k
    simp [dat, PyData.eqv, this]
  | .bl _, _, h, _ => by cases h
  | .ref _, _, h, _ => by cases h
  | .scr _, _, h, _ => by cases h
  | _, .bl _, _, h => by cases h
  | _, .ref _, _, h => by cases h
  | _, .scr _, _, h => by cases h
theorem eqv_dats : ∀ xs ys : List W, nbs xs = true → nbs ys = true → (PyData.eqvAll (dats xs) (dats ys) = true ↔ xs = ys)
  | [], [], _, _ => by simp [dats, PyData.eqvAll]
  | [], _ :: _, _, _ => by simp [dats, PyData.eqvAll]
  | _ :: _, [], _, _ => by simp [dats, PyData.eqvAll]
  | x :: xs, y :: ys, h, k => by
    obtain ⟨h1, h2⟩ := and_ok (show (nb x && nbs xs) = true from h)
    obtain ⟨k1, k2⟩ := and_ok (show (nb y && nbs ys) = true from k)
    have e1 := eqv_dat x y h1 k1
    have e2 := eqv_dats xs ys h2 k2
    simp [dats, PyData.eqvAll, e1, e2]
end
/-- what a value tells when it is read: a list of ours as what it holds -/
def Ld (H : Hw) (x x' : W) : Prop := (x' = x) ∨ ∃ a xs, x = .ref a ∧ H a = some (.lst xs) ∧ x' = .fls xs
theorem Ld.refl {H : Hw} {x : W} : Ld H x x := .inl rfl
theorem Ld.ref {H : Hw} {a : Addr} {xs : List W} (h : H a = some (.lst xs)) : Ld H (.ref a) (.fls xs) := .inr ⟨a, xs, rfl, h, rfl⟩
theorem Ld.dw {H : Hw} {x x' : W} (l : Ld H x x') (h : isD x' = true) : DW H x (dat x') := by
  rcases l with rfl | ⟨a, xs, rfl, ha, rfl⟩
  · exact WL.dw H _ h
  · exact .lst (xs := xs) ha (dws H xs h)
theorem eqW_of {H : Hw} {x x' y y' : W} {P : Bool → Prop} (lx : Ld H x x') (ly : Ld H y y') (nx : nb x' = true) (ny : nb y' = true) (dx : dep x' ≤ 64) (dy : dep y' ≤ 64) (h : ∀ b : Bool, (b = true ↔ x' = y') → P b) : eqW x y H P := by
  have gen : ∃ d e, DW H x d ∧ DW H y e ∧ SeqAt.shaped d = true ∧ SeqAt.shaped e = true ∧ P (PyData.eqv d e) :=
    ⟨dat x', dat y', lx.dw (isD_nb _ nx), ly.dw (isD_nb _ ny), shaped_dat (isD_nb _ nx) dx, shaped_dat (isD_nb _ ny) dy, h _ (eqv_dat x' y' nx ny)⟩
  unfold eqW
  split
  · rcases lx with rfl | ⟨a, xs, e, _⟩
    · rcases ly with rfl | ⟨a, xs, e, _⟩
      · exact h _ (by simp)
      · cases e
    · cases e
  · rcases lx with rfl | ⟨a, xs, e, _⟩
    · rcases ly with rfl | ⟨a, xs, e, _⟩
      · exact h _ (by simp)
      · cases e
    · cases e
  · rcases lx with rfl | ⟨a, xs, e, _⟩
    · cases nx
    · cases e
  · rcases lx with rfl | ⟨a, xs, e, _⟩
    · rcases ly with rfl | ⟨a, xs, e, _⟩
      · exact h _ (by simp)
      · cases e
    · cases e
  · exact gen
theorem eq_of {H : Hw} {x x' y y' : W} {Q : KW} (lx : Ld H x x') (ly : Ld H y y') (nx : nb x' = true) (ny : nb y' = true) (dx : dep x' ≤ 64) (dy : dep y' ≤ 64) (h : ∀ b : Bool, (b = true ↔ x' = y') → Q (.bl b) H) : cmpW .Eq x y H Q :=
  eqW_of lx ly nx ny dx dy h
theorem ne_of {H : Hw} {x x' y y' : W} {Q : KW} (lx : Ld H x x') (ly : Ld H y y') (nx : nb x' = true) (ny : nb y' = true) (dx : dep x' ≤ 64) (dy : dep y' ≤ 64) (h : ∀ b : Bool, (b = true ↔ x' ≠ y') → Q (.bl b) H) : cmpW .NotEq x y H Q :=
  eqW_of lx ly nx ny dx dy fun b hb => h _ (by cases b <;> simp_all)
/-- == with truths among what is compared: what is told is asked -/
theorem eqD_of {H : Hw} {x x' y y' : W} {P : Bool → Prop} (lx : Ld H x x') (ly : Ld H y y') (nx : isD x' = true) (ny : isD y' = true) (dx : dep x' ≤ 64) (dy : dep y' ≤ 64) (h : P (PyData.eqv (dat x') (dat y'))) : eqW x y H P := by
  have gen : ∃ d e, DW H x d ∧ DW H y e ∧ SeqAt.shaped d = true ∧ SeqAt.shaped e = true ∧ P (PyData.eqv d e) :=
    ⟨dat x', dat y', lx.dw nx, ly.dw ny, shaped_dat nx dx, shaped_dat ny dy, h⟩
  unfold eqW
  split
  · rcases lx with rfl | ⟨a, xs, e, _⟩
    · rcases ly with rfl | ⟨a, xs, e, _⟩
      · exact h
      · cases e
    · cases e
  · rcases lx with rfl | ⟨a, xs, e, _⟩
    · rcases ly with rfl | ⟨a, xs, e, _⟩
      · rename_i i j
        have : (PyData.eqv (dat (.str i)) (dat (.str j))) = decide (i = j) := by
          show (i == j) = _
          by_cases q : i = j <;> simp [q]
        rw [this] at h
        exact h
      · cases e
    · cases e
  · rcases lx with rfl | ⟨a, xs, e, _⟩
    · rcases ly with rfl | ⟨a, xs, e, _⟩
      · exact h
      · cases e
    · cases e
  · rcases lx with rfl | ⟨a, xs, e, _⟩
    · rcases ly with rfl | ⟨a, xs, e, _⟩
      · exact h
      · cases e
    · cases e
  · exact gen
theorem eqd_of {H : Hw} {x x' y y' : W} {Q : KW} (lx : Ld H x x') (ly : Ld H y y') (nx : isD x' = true) (ny : isD y' = true) (dx : dep x' ≤ 64) (dy : dep y' ≤ 64) (h : Q (.bl (PyData.eqv (dat x') (dat y'))) H) : cmpW .Eq x y H Q := eqD_of (P := fun b => Q (.bl b) H) lx ly nx ny dx dy h
theorem ned_of {H : Hw} {x x' y y' : W} {Q : KW} (lx : Ld H x x') (ly : Ld H y y') (nx : isD x' = true) (ny : isD y' = true) (dx : dep x' ≤ 64) (dy : dep y' ≤ 64) (h : Q (.bl (!PyData.eqv (dat x') (dat y'))) H) : cmpW .NotEq x y H Q := eqD_of (P := fun b => Q (.bl (!b)) H) lx ly nx ny dx dy h
/-- in, over a list or tuple of data -/
theorem anyd {x : W} : ∀ {xs : List W}, nb x = true → nbs xs = true → (((dats xs).any fun z => PyData.eqv z (dat x)) = true ↔ x ∈ xs)
  | [], _, _ => by simp [dats]
  | y :: ys, h, k => by
    obtain ⟨k1, k2⟩ := and_ok (show (nb y && nbs ys) = true from k)
    have e1 := eqv_dat y x k1 h
    have e2 := anyd (xs := ys) h k2
    simp [dats, e1, e2]
    constructor
    · rintro (h | h)
      · exact .inl h.symm
      · exact .inr h
    · rintro (h | h)
      · exact .inl h.symm
      · exact .inr h
theorem inW_of {H : Hw} {x y : W} {xs : List W} {P : Bool → Prop} (ly : Ld H y (.fls xs)) (nx : nb x = true) (ny : nbs xs = true) (dx : dep x ≤ 64) (dy : deps xs ≤ 63) (h : ∀ b : Bool, (b = true ↔ x ∈ xs) → P b) : inW0 x y H P :=
  .inr ⟨dat x, dats xs, dw H x (isD_nb _ nx), ly.dw (isD_nb (.fls xs) ny), shaped_dat (isD_nb _ nx) dx, shaped_dat (w := .fls xs) (isD_nb (.fls xs) ny) (Nat.succ_le_succ dy), h _ (anyd nx ny)⟩
theorem inW0_to {H : Hw} {x y : W} {P : Bool → Prop} (h : inW0 x y H P) : inW x y H P := h.elim .inl fun h => .inr (.inl h)
theorem in_of {H : Hw} {x y : W} {xs : List W} {Q : KW} (ly : Ld H y (.fls xs)) (nx : nb x = true) (ny : nbs xs = true) (dx : dep x ≤ 64) (dy : deps xs ≤ 63) (h : ∀ b : Bool, (b = true ↔ x ∈ xs) → Q (.bl b) H) : cmpW .In x y H Q :=
  inW0_to (inW_of ly nx ny dx dy h)
theorem nin_of {H : Hw} {x y : W} {xs : List W} {Q : KW} (ly : Ld H y (.fls xs)) (nx : nb x = true) (ny : nbs xs = true) (dx : dep x ≤ 64) (dy : deps xs ≤ 63) (h : ∀ b : Bool, (b = true ↔ x ∉ xs) → Q (.bl b) H) : cmpW .NotIn x y H Q :=
  inW0_to (inW_of ly nx ny dx dy fun b hb => h _ (by cases b <;> simp_all))
/-- a dict's keys -/
theorem in_dict {H : Hw} {p : Addr} {x : W} {kvs : List (Key × W)} {k : Key} {Q : KW} [h : At H p (.dct kvs)] (e : keyW x = some k) (q : Q (.bl (valW kvs k).isSome) H) : cmpW .In x (.ref p) H Q := .inr (.inr ⟨p, kvs, k, rfl, h.h, e, q⟩)
theorem nin_dict {H : Hw} {p : Addr} {x : W} {kvs : List (Key × W)} {k : Key} {Q : KW} [h : At H p (.dct kvs)] (e : keyW x = some k) (q : Q (.bl (!(valW kvs k).isSome)) H) : cmpW .NotIn x (.ref p) H Q := .inr (.inr ⟨p, kvs, k, rfl, h.h, e, q⟩)
mutual
theorem dw_det {H : Hw} : ∀ (w : W) (d : PyData), nb w = true → DW H w d → d = dat w
  | .non, _, _, h => by
    cases h with
    | non => rfl
    | lst s _ => exact (show False from s).elim
  | .int i, _, _, h => by
    cases h with
    | int => rfl
    | lst s _ => exact (show False from s).elim
  | .str x, _, _, h => by
    cases h with
    | str => rfl
    | lst s _ => exact (show False from s).elim
  | .tup xs, _, n, h => by
    cases h with
    | tup a => rw [dws_det xs _ n a]; rfl
    | lst s _ => exact (show False from s).elim
  | .fls xs, _, n, h => by
    cases h with
    | lst s a =>
      have e : xs = _ := s
      rw [← e] at a
      rw [dws_det xs _ n a]
      rfl
  | .bl _, _, n, _ => by cases n
  | .ref _, _, n, _ => by cases n
  | .scr _, _, n, _ => by cases n
theorem dws_det {H : Hw} : ∀ (ws : List W) (ds : List PyData), nbs ws = true → DWs H ws ds → ds = dats ws
  | [], _, _, h => by
    cases h
    rfl
  | x :: xs, _, n, h => by
    obtain ⟨n1, n2⟩ := and_ok (show (nb x && nbs xs) = true from n)
    cases h with
    | cons a b =>
      rw [dw_det x _ n1 a, dws_det xs _ n2 b]
      rfl
end
theorem eq_tup {xs ys : List W} {H : Hw} {P : Bool → Prop} (nx : nbs xs = true) (ny : nbs ys = true) (dx : deps xs ≤ 63) (dy : deps ys ≤ 63) : eqW (.tup xs) (.tup ys) H P = P (PyData.eqvAll (dats xs) (dats ys)) := by
  refine propext ⟨fun ⟨d, e, h1, h2, _, _, p⟩ => ?_, fun p => ⟨_, _, dw H (.tup xs) (isD_nb (.tup xs) nx), dw H (.tup ys) (isD_nb (.tup ys) ny), shaped_dat (w := .tup xs) (isD_nb (.tup xs) nx) (Nat.succ_le_succ dx), shaped_dat (w := .tup ys) (isD_nb (.tup ys) ny) (Nat.succ_le_succ dy), p⟩⟩
  rw [dw_det (.tup xs) d nx h1, dw_det (.tup ys) e ny h2] at p
  exact p
/-- in a list or tuple of ints -/
theorem anyF_int {i : Int} {l : List Int} : ((l.map W.int).any fun z => eqF z (.int i)) = decide (i ∈ l) := by
  induction l with
  | nil => rfl
  | cons x xs ih =>
    rw [List.map_cons, List.any_cons, ih]
    show ((x == i) || decide (i ∈ xs)) = _
    by_cases h : x = i
    · subst h; simp
    · have : ¬ i = x := fun e => h e.symm
      simp [h, this]
theorem flat_ints {l : List Int} : (l.map W.int).all flatW = true := by
  rw [List.all_eq_true]
  intro x hx
  obtain ⟨y, _, rfl⟩ := List.mem_map.mp hx
  rfl
theorem in_ints {H : Hw} {i : Int} {y : W} {l : List Int} {Q : KW} (hs : seqA H y (l.map W.int)) (h : Q (.bl (decide (i ∈ l))) H) : cmpW .In (.int i) y H Q :=
  .inl ⟨_, hs, rfl, flat_ints, by rw [anyF_int]; exact h⟩
theorem nin_ints {H : Hw} {i : Int} {y : W} {l : List Int} {Q : KW} (hs : seqA H y (l.map W.int)) (h : Q (.bl (!decide (i ∈ l))) H) : cmpW .NotIn (.int i) y H Q :=
  .inl ⟨_, hs, rfl, flat_ints, by rw [anyF_int]; exact h⟩
/-! lists of ints as data -/
theorem nbs_ints : ∀ l : List Int, nbs (l.map W.int) = true
  | [] => rfl
  | _ :: l => nbs_ints l
theorem deps_ints : ∀ l : List Int, deps (l.map W.int) = 0
  | [] => rfl
  | x :: l => by
    show max 0 (deps (l.map W.int)) = 0
    rw [deps_ints l]
    rfl
theorem map_int_inj {l l' : List Int} : l.map W.int = l'.map W.int ↔ l = l' := by
  constructor
  · intro h
    induction l generalizing l' with
    | nil => cases l' with
      | nil => rfl
      | cons _ _ => cases h
    | cons x xs ih => cases l' with
      | nil => cases h
      | cons y ys =>
        simp only [List.map_cons, List.cons.injEq, W.int.injEq] at h
        rw [h.1, ih h.2]
  · intro h; rw [h]
theorem nbs_append : ∀ {xs ys : List W}, nbs xs = true → nbs ys = true → nbs (xs ++ ys) = true
  | [], _, _, h => h
  | x :: xs, ys, h, k => by
    obtain ⟨h1, h2⟩ := and_ok (show (nb x && nbs xs) = true from h)
    show (nb x && nbs (xs ++ ys)) = true
    rw [h1, nbs_append h2 k]
    rfl
theorem nbs_mem {xs : List W} : nbs xs = true ↔ ∀ x ∈ xs, nb x = true := by
  induction xs with
  | nil => simp [nbs]
  | cons x xs ih => simp [nbs, ih]
theorem isDs_mem {xs : List W} : isDs xs = true ↔ ∀ x ∈ xs, isD x = true := by
  induction xs with
  | nil => simp [isDs]
  | cons x xs ih => simp [isDs, ih]
theorem deps_le {xs : List W} {n : Nat} : deps xs ≤ n ↔ ∀ x ∈ xs, dep x ≤ n := by
  induction xs with
  | nil => simp [deps]
  | cons x xs ih =>
    show max (dep x) (deps xs) ≤ n ↔ _
    rw [Nat.max_le, ih]
    simp
mutual
theorem eqv_refl : ∀ w : W, PyData.eqv (dat w) (dat w) = true
  | .non => rfl
  | .int i => by simp [dat, PyData.eqv]
  | .bl b => by simp [dat, PyData.eqv]
  | .str x => by simp [dat, PyData.eqv]
  | .tup xs => eqvs_refl xs
  | .fls xs => eqvs_refl xs
  | .ref _ => rfl
  | .scr _ => rfl
theorem eqvs_refl : ∀ ws : List W, PyData.eqvAll (dats ws) (dats ws) = true
  | [] => rfl
  | x :: xs => by
    show (PyData.eqv (dat x) (dat x) && PyData.eqvAll (dats xs) (dats xs)) = true
    rw [eqv_refl x, eqvs_refl xs]
    rfl
end
/-- a comprehension whose parts change nothing -/
theorem comp_go {g : Gm} {p : Addr} {σ : Sw} {i : Nat} {stay : Hw → Prop} {t : TTW} {elt : TEW} {K : Hw → Prop} {H : Hw} (f : W → W) (keep : W → Bool) : ∀ (items : List W) (acc : List W),
    (∀ acc, stay (updW H p (.lst acc))) →
    (∀ x ∈ items, ∀ acc (QB : Bool → Hw → Prop), QB (keep x) (updW H p (.lst acc)) → t (σ.set i (some x)) (updW H p (.lst acc)) QB (fun _ _ => False)) →
    (∀ x ∈ items, keep x = true → ∀ acc (Q : KW), Q (f x) (updW H p (.lst acc)) → elt (σ.set i (some x)) (updW H p (.lst acc)) Q (fun _ _ => False)) →
    acc.length + items.length ≤ sizeLine → K (updW H p (.lst (acc ++ (items.filter keep).map f))) → compGo p σ i stay t elt K items (updW H p (.lst acc))
  | [], acc, h1, _, _, _, hk => by
    rw [List.filter_nil, List.map_nil, List.append_nil] at hk
    exact ⟨h1 _, hk⟩
  | x :: xs, acc, h1, h2, h3, hl, hk => by
    rw [List.length_cons] at hl
    refine ⟨h1 _, h2 x (List.mem_cons_self ..) acc _ ?_⟩
    cases e : keep x with
    | true =>
      rw [if_pos rfl]
      refine h3 x (List.mem_cons_self ..) e acc _ ⟨acc, updW_same, by omega, ?_⟩
      rw [updW_twice]
      refine comp_go (g := g) f keep xs (acc ++ [f x]) h1 (fun y hy => h2 y (List.mem_cons_of_mem _ hy)) (fun y hy => h3 y (List.mem_cons_of_mem _ hy)) (by rw [List.length_append, List.length_singleton]; omega) ?_
      rw [List.filter_cons, if_pos e, List.map_cons] at hk
      rw [List.append_assoc]
      exact hk
    | false =>
      rw [if_neg (by decide)]
      refine comp_go (g := g) f keep xs acc h1 (fun y hy => h2 y (List.mem_cons_of_mem _ hy)) (fun y hy => h3 y (List.mem_cons_of_mem _ hy)) (by omega) ?_
      rw [List.filter_cons, if_neg (by rw [e]; decide)] at hk
      exact hk
theorem comp_new {g : Gm} {σ : Sw} {i : Nat} {stay : Hw → Prop} {t : TTW} {elt : TEW} {Q : KW} {H : Hw} {items : List W} (f : W → W) (keep : W → Bool)
    (h1 : ∀ p acc, H p = none → stay (updW H p (.lst acc)))
    (h2 : ∀ x ∈ items, ∀ p acc (QB : Bool → Hw → Prop), H p = none → QB (keep x) (updW H p (.lst acc)) → t ((σ.set i none).set i (some x)) (updW H p (.lst acc)) QB (fun _ _ => False))
    (h3 : ∀ x ∈ items, keep x = true → ∀ p acc (Q : KW), H p = none → Q (f x) (updW H p (.lst acc)) → elt ((σ.set i none).set i (some x)) (updW H p (.lst acc)) Q (fun _ _ => False))
    (hl : items.length ≤ sizeLine) (hk : newL ((items.filter keep).map f) H Q) : lcmW σ i stay t elt items H Q := fun D hD => by
  refine comp_go (g := g) f keep items [] (fun acc => h1 D acc hD) (fun x hx acc QB => h2 x hx D acc QB hD) (fun x hx k acc Q => h3 x hx k D acc Q hD) (by simpa using hl) ?_
  rw [List.nil_append]
  rcases hk with hk | hk
  · exact .inl (hk D hD)
  · exact .inr ⟨_, updW_same, by rw [del_upd hD]; exact hk⟩
/-- .. all items -/
theorem comp_all {g : Gm} {σ : Sw} {i : Nat} {stay : Hw → Prop} {elt : TEW} {Q : KW} {H : Hw} {items : List W} (f : W → W)
    (h1 : ∀ p acc, H p = none → stay (updW H p (.lst acc)))
    (h3 : ∀ x ∈ items, ∀ p acc (Q : KW), H p = none → Q (f x) (updW H p (.lst acc)) → elt ((σ.set i none).set i (some x)) (updW H p (.lst acc)) Q (fun _ _ => False))
    (hl : items.length ≤ sizeLine) (hk : newL (items.map f) H Q) : lcmW σ i stay (denU g .no) elt items H Q :=
  comp_new (g := g) f (fun _ => true) h1 (fun _ _ _ _ _ _ h => h) (fun x hx _ => h3 x hx) hl (by rw [List.filter_eq_self.mpr (fun _ _ => rfl)]; exact hk)
/-! items of lists -/
theorem atI_nat {α : Type} {xs : List α} {n : Nat} {x : α} (h : xs[n]? = some x) : atI xs (n : Int) = some x := by
  have hl : n < xs.length := (List.getElem?_eq_some_iff.mp h).1
  unfold atI ixN
  rw [if_pos (by omega), if_pos (by omega)]
  simpa using h
theorem at0 {α : Type} {a : α} {r : List α} : atI (a :: r) 0 = some a := atI_nat (n := 0) rfl
theorem at1 {α : Type} {a b : α} {r : List α} : atI (a :: b :: r) 1 = some b := atI_nat (n := 1) rfl
theorem at2 {α : Type} {a b c : α} {r : List α} : atI (a :: b :: c :: r) 2 = some c := atI_nat (n := 2) rfl
theorem at3 {α : Type} {a b c d : α} {r : List α} : atI (a :: b :: c :: d :: r) 3 = some d := atI_nat (n := 3) rfl
theorem at4 {α : Type} {a b c d e : α} {r : List α} : atI (a :: b :: c :: d :: e :: r) 4 = some e := atI_nat (n := 4) rfl
theorem atI_neg1 {α : Type} {xs : List α} {x : α} (h : xs.getLast? = some x) : atI xs (-1) = some x := by
  have hl : xs ≠ [] := by rintro rfl; simp at h
  have hp : 0 < xs.length := List.length_pos_iff.mpr hl
  unfold atI ixN
  rw [List.getLast?_eq_getElem?] at h
  rw [if_neg (by omega), if_pos (by omega)]
  have : ((-1 : Int) + (xs.length : Int)).toNat = xs.length - 1 := by omega
  rw [this]
  exact h
theorem atI_mod {α : Type} {xs : List α} {m : Int} (h : m = (xs.length : Int)) (hp : 0 < xs.length) (i : Int) : ∃ v, v ∈ xs ∧ atI xs (i % m) = some v := by
  subst h
  have h0 : 0 ≤ i % (xs.length : Int) := Int.emod_nonneg _ (by omega)
  have h1 : i % (xs.length : Int) < xs.length := Int.emod_lt_of_pos _ (by omega)
  obtain ⟨n, hn⟩ := Int.eq_ofNat_of_zero_le h0
  have hl : n < xs.length := by omega
  exact ⟨xs[n], List.getElem_mem hl, by rw [hn]; exact atI_nat (List.getElem?_eq_getElem hl)⟩
theorem rngW_nat (n : Nat) : rngW 0 n 1 = (List.range n).map fun k => .int (k : Int) := by
  unfold rngW
  apply List.map_congr_left
  intro k _
  congr 1
  omega
theorem cutW_none_take {xs : List W} {n : Nat} : cutW xs none (some (n : Int)) = xs.take n := by
  unfold cutW
  rw [HT.sIx_none, HT.sIx_nat]
  by_cases h : n ≤ xs.length
  · simp [Nat.min_eq_left h]
  · rw [Nat.min_eq_right (by omega)]
    simp [List.take_of_length_le (by omega : xs.length ≤ n)]
theorem cutW_none_some {xs : List W} {n : Nat} (_ : n ≤ xs.length) : cutW xs none (some (n : Int)) = xs.take n := cutW_none_take
theorem cutW_some_none {xs : List W} {n : Nat} (h : n ≤ xs.length) : cutW xs (some (n : Int)) none = xs.drop n := by
  unfold cutW
  rw [HT.sIx_none, HT.sIx_nat, Nat.min_eq_left h, List.take_of_length_le (by simp)]
end WL

namespace WL
open PySem L2
/- is_whole thing -/
def c_is_whole : List CS := [.ret (.andV (.isi (.var 0) "int") (.notV (.isi (.var 0) "bool")))]
/- is_list thing many ahead hand -/
def b_is_list_1 : List CS := [.ifs (.ors (.not (.tru (.call "is_whole" (.cons (.var 3) .nil)))) (.ors (.tru (.cmp .LtE (.var 3) (.var 2))) (.tru (.cmp .GtE (.var 3) (.var 1))))) [.ret (.lit (.bl false))] [], .set 2 (.var 3)]
theorem ub_is_list_1 {g : Gm} {D : EndW} {σ : Sw} {H : Hw} : denB g b_is_list_1 D σ H = denB g [.ifs (.ors (.not (.tru (.call "is_whole" (.cons (.var 3) .nil)))) (.ors (.tru (.cmp .LtE (.var 3) (.var 2))) (.tru (.cmp .GtE (.var 3) (.var 1))))) [.ret (.lit (.bl false))] [], .set 2 (.var 3)] D σ H := rfl
def c_is_list : List CS := [.ifs (.ors (.not (.tru (.isi (.var 0) "list"))) (.tru (.cmp .Eq (.var 0) (.lst .nil)))) [.ret (.lit (.bl false))] [], .set 2 (.neg (.lit (.int 1))), .for_ 3 (.ex (.var 0)) b_is_list_1, .ret (.lit (.bl true))]
/- enough members -/
def c_enough : List CS := [.ret (.bin .Add (.bin .FloorDiv (.bcl "len" (.cons (.var 0) .nil)) (.lit (.int 2))) (.lit (.int 1)))]
/- longest rows found row -/
def b_longest_1 : List CS := [.ifs (.tru (.cmp .Gt (.bcl "len" (.cons (.var 2) .nil)) (.bcl "len" (.cons (.var 1) .nil)))) [.set 1 (.var 2)] []]
theorem ub_longest_1 {g : Gm} {D : EndW} {σ : Sw} {H : Hw} : denB g b_longest_1 D σ H = denB g [.ifs (.tru (.cmp .Gt (.bcl "len" (.cons (.var 2) .nil)) (.bcl "len" (.cons (.var 1) .nil)))) [.set 1 (.var 2)] []] D σ H := rfl
def c_longest : List CS := [.set 1 (.lst .nil), .for_ 2 (.ex (.var 0)) b_longest_1, .ret (.bcl "list" (.cons (.var 1) .nil))]
/- _law_draw _law_script _law_k -/
def c_law_draw : List CS := [.ret (.ife (.tru (.cmp .Gt (.bcl "len" (.cons (.var 0) .nil)) (.var 1))) (.ix (.var 0) (.var 1)) (.lit (.int 0)))]
/- _law_is_number _law_found -/
def c_law_is_number : List CS := [.ifs (.ors (.tru (.cmp .Is (.var 0) (.lit (.bl true)))) (.tru (.cmp .Is (.var 0) (.lit (.bl false))))) [.ret (.lit (.bl false))] [], .ret (.isi (.var 0) "int")]
/- _law_hands _law_bits _law_many _law_found _law_hand -/
def b_law_hands_1 : List CS := [.ifs (.tru (.cmp .Eq (.bin .Mod (.var 0) (.lit (.int 2))) (.lit (.int 1)))) [.expr (.app (.var 2) (.var 3))] [], .set 0 (.bin .FloorDiv (.var 0) (.lit (.int 2)))]
theorem ub_law_hands_1 {g : Gm} {D : EndW} {σ : Sw} {H : Hw} : denB g b_law_hands_1 D σ H = denB g [.ifs (.tru (.cmp .Eq (.bin .Mod (.var 0) (.lit (.int 2))) (.lit (.int 1)))) [.expr (.app (.var 2) (.var 3))] [], .set 0 (.bin .FloorDiv (.var 0) (.lit (.int 2)))] D σ H := rfl
def c_law_hands : List CS := [.set 2 (.lst .nil), .for_ 3 (.r1 (.var 1)) b_law_hands_1, .ret (.var 2)]
/- law _law_script _law_many _law_size _law_first _law_due _law_some _law_handed _law_folk _law_hand _law_odd _law_way -/
def b_law_k02_1 : List CS := [.ifs (.not (.tru (.call "_law_right" (.cons (.var 7) (.cons (.var 3) (.cons (.var 8) .nil)))))) [.ret (.lit (.bl false))] []]
theorem ub_law_k02_1 {g : Gm} {D : EndW} {σ : Sw} {H : Hw} : denB g b_law_k02_1 D σ H = denB g [.ifs (.not (.tru (.call "_law_right" (.cons (.var 7) (.cons (.var 3) (.cons (.var 8) .nil)))))) [.ret (.lit (.bl false))] []] D σ H := rfl
def c_law_k02 : List CS := [.set 1 (.bin .Sub (.bin .Mod (.call "_law_draw" (.cons (.var 0) (.cons (.lit (.int 0)) .nil))) (.lit (.int 13))) (.lit (.int 1))), .ifs (.tru (.cmp .Eq (.bin .Mod (.bin .FloorDiv (.call "_law_draw" (.cons (.var 0) (.cons (.lit (.int 0)) .nil))) (.lit (.int 13))) (.lit (.int 9))) (.lit (.int 1)))) [.set 1 (.ix (.lst (.cons (.lit (.bl true)) (.cons (.lit (.str "3")) (.cons (.lit .non) (.cons (.bin .Pow (.lit (.int 10)) (.lit (.int 20))) (.cons (.lit (.bl false)) .nil)))))) (.bin .Mod (.bin .FloorDiv (.call "_law_draw" (.cons (.var 0) (.cons (.lit (.int 0)) .nil))) (.lit (.int 117))) (.lit (.int 5))))] [], .set 2 (.ife (.ands (.tru (.inr false (1) (10) (.var 1))) (.tru (.cmp .IsNot (.var 1) (.lit (.bl true))))) (.var 1) (.lit (.int 5))), .set 3 (.call "_law_hands" (.cons (.call "_law_draw" (.cons (.var 0) (.cons (.lit (.int 1)) .nil))) (.cons (.var 2) .nil))), .ifs (.tru (.cmp .Eq (.var 3) (.lst .nil))) [.set 3 (.lst (.cons (.bin .Sub (.var 2) (.lit (.int 1))) .nil))] [], .set 4 (.ife (.ors (.tru (.cmp .Is (.var 1) (.lit (.bl true)))) (.tru (.inr true (1) (10) (.var 1)))) (.lit (.str "hand")) (.lit (.str ""))), .ifs (.tru (.cmp .Eq (.bin .Mod (.call "_law_draw" (.cons (.var 0) (.cons (.lit (.int 2)) .nil))) (.lit (.int 4))) (.lit (.int 1)))) [.set 5 (.lst (.cons (.lst .nil) (.cons (.bin .Add (.var 3) (.lst (.cons (.var 2) .nil))) (.cons (.bin .Add (.var 3) (.lst (.cons (.ix (.var 3) (.neg (.lit (.int 1)))) .nil))) (.cons (.bcl "tuple" (.cons (.var 3) .nil)) (.cons (.lit .non) (.cons (.lst (.cons (.neg (.lit (.int 1))) .nil)) (.cons (.lst (.cons (.lit (.bl false)) .nil)) (.cons (.lst (.cons (.lit (.bl true)) .nil)) .nil))))))))), .set 3 (.ix (.var 5) (.bin .Mod (.bin .FloorDiv (.call "_law_draw" (.cons (.var 0) (.cons (.lit (.int 2)) .nil))) (.lit (.int 4))) (.lit (.int 8)))), .set 4 (.ife (.tru (.cmp .Eq (.var 4) (.lit (.str "")))) (.lit (.str "list")) (.var 4))] [], .set 6 (.ife (.tru (.isi (.var 3) "list")) (.bcl "list" (.cons (.var 3) .nil)) (.var 3)), .set 7 (.call "_law_made" (.cons (.var 1) (.cons (.var 6) .nil))), .ifs (.tru (.cmp .NotEq (.var 4) (.lit (.str "")))) [.ret (.cmp .Eq (.var 7) (.var 4))] [], .ifs (.ors (.tru (.isiS (.var 7))) (.ors (.tru (.cmp .NotEq (.fld (.var 7) "many") (.var 1))) (.tru (.cmp .NotEq (.mth (.var 7) "letters" .nil) (.lst .nil))))) [.ret (.lit (.bl false))] [], .expr (.app (.var 6) (.lit (.int 3))), .for_ 8 (.r1 (.var 1)) b_law_k02_1, .set 9 (.ix (.lst (.cons (.neg (.lit (.int 1))) (.cons (.var 1) (.cons (.lit (.bl true)) (.cons (.lit (.str "0")) (.cons (.lit .non) (.cons (.lit (.bl false)) .nil))))))) (.bin .Mod (.call "_law_draw" (.cons (.var 0) (.cons (.lit (.int 3)) .nil))) (.lit (.int 6)))), .ret (.cmp .Eq (.lcm (.call "_law_asked" (.cons (.var 7) (.cons (.var 10) (.cons (.var 9) .nil)))) 10 (.r1 (.lit (.int 6))) .no) (.bin .Mult (.lst (.cons (.lit (.str "hand")) .nil)) (.lit (.int 6))))]
/- Hand.__init__ self me members -/
def c_Hand_init : List CS := [.fset (.var 0) "me" (.var 1), .fset (.var 0) "number" (.ife (.tru (.cmp .In (.var 1) (.var 2))) (.lit (.int 0)) (.neg (.lit (.int 1)))), .fset (.var 0) "members" (.ife (.tru (.cmp .In (.var 1) (.var 2))) (.bcl "list" (.cons (.var 2) .nil)) (.lst .nil)), .fset (.var 0) "fell" (.lit (.bl false)), .fset (.var 0) "said" (.lit (.int 0)), .fset (.var 0) "story" (.lst .nil), .fset (.var 0) "news" (.lit .non), .expr (.mth (.var 0) "begin" .nil)]
/- Hand.begin self -/
def c_Hand_begin : List CS := [.fset (.var 0) "row" (.lst .nil), .fset (.var 0) "far" (.lit (.int 0)), .fset (.var 0) "still" (.lit (.bl false)), .fset (.var 0) "ballot" (.tup (.cons (.lit (.int 0)) (.cons (.neg (.lit (.int 1))) .nil))), .fset (.var 0) "kept" (.lit .non), .fset (.var 0) "has" .dnew, .fset (.var 0) "offer" (.lit .non)]
/- Hand.within self -/
def c_Hand_within : List CS := [.ret (.cmp .In (.fld (.var 0) "me") (.fld (.var 0) "members"))]
/- Hand.letters self kind targets body target -/
def c_Hand_letters : List CS := [.ret (.lcm (.tup (.cons (.var 1) (.cons (.fld (.var 0) "me") (.cons (.var 4) (.cons (.fld (.var 0) "number") (.cons (.var 3) .nil)))))) 4 (.ex (.var 2)) .no)]
/- Hand.agreed self source ballot offer news told hand -/
def c_Hand_agreed : List CS := [.set 3 (.fld (.var 0) "offer"), .ifs (.ors (.tru (.cmp .Is (.var 3) (.lit .non))) (.ors (.tru (.cmp .NotEq (.fld (.var 3) "ballot") (.var 2))) (.ors (.tru (.cmp .Is (.fld (.var 3) "value") (.lit .non))) (.tru (.cmp .In (.var 1) (.fld (.var 3) "yes")))))) [.ret (.lst .nil)] [], .expr (.app (.fld (.var 3) "yes") (.var 1)), .ifs (.tru (.cmp .NotEq (.bcl "len" (.cons (.fld (.var 3) "yes") .nil)) (.call "enough" (.cons (.fld (.var 0) "members") .nil)))) [.ret (.lst .nil)] [], .set 4 (.tup (.cons (.bin .Add (.fld (.var 0) "number") (.lit (.int 1))) (.cons (.ix (.fld (.var 3) "value") (.lit (.int 0))) (.cons (.ix (.fld (.var 3) "value") (.lit (.int 1))) (.cons (.bcl "tuple" (.cons (.bcl "sorted" (.cons (.fld (.var 3) "yes") .nil)) .nil)) .nil))))), .set 5 (.lcm (.var 6) 6 (.r1 (.bin .Add (.lit (.int 1)) (.bcl "max" (.cons (.bin .Add (.fld (.var 0) "members") (.bcl "list" (.cons (.ix (.var 4) (.lit (.int 1))) .nil))) .nil)))) .no), .ret (.mth (.var 0) "letters" (.cons (.lit (.str "enter")) (.cons (.lcm (.var 6) 6 (.ex (.var 5)) (.so (.ors (.tru (.cmp .In (.var 6) (.fld (.var 0) "members"))) (.tru (.cmp .In (.var 6) (.ix (.var 4) (.lit (.int 1)))))))) (.cons (.var 4) .nil))))]
/- Folk.__init__ self many first hand -/
def c_Folk_init : List CS := [.ifs (.ors (.not (.tru (.call "is_whole" (.cons (.var 1) .nil)))) (.ors (.tru (.cmp .Lt (.var 1) (.lit (.int 1)))) (.tru (.cmp .Gt (.var 1) (.gint "MOST"))))) [.raise "BadHand"] [], .ifs (.not (.tru (.call "is_list" (.cons (.var 2) (.cons (.var 1) .nil))))) [.raise "BadList"] [], .fset (.var 0) "many" (.var 1), .fset (.var 0) "hands" (.lcm (.mk "Hand" (.cons (.var 3) (.cons (.var 2) .nil))) 3 (.r1 (.var 1)) .no), .fset (.var 0) "sent" (.lst .nil)]
/- Folk.one self hand -/
def c_Folk_one : List CS := [.ifs (.ors (.not (.tru (.call "is_whole" (.cons (.var 1) .nil)))) (.ors (.tru (.cmp .Lt (.var 1) (.lit (.int 0)))) (.tru (.cmp .GtE (.var 1) (.fld (.var 0) "many"))))) [.raise "BadHand"] [], .ret (.ix (.fld (.var 0) "hands") (.var 1))]
/- Folk.stands self hand -/
def c_Folk_stands : List CS := [.ret (.notV (.fld (.mth (.var 0) "one" (.cons (.var 1) .nil)) "fell"))]
/- Folk.member self hand found -/
def c_Folk_member : List CS := [.set 2 (.mth (.var 0) "one" (.cons (.var 1) .nil)), .ifs (.not (.tru (.mth (.var 2) "within" .nil))) [.raise "Outside"] [], .ret (.var 2)]
/- Folk.letters self letter -/
def c_Folk_letters : List CS := [.ret (.lcm (.slc (.var 1) .no (.so (.lit (.int 3)))) 1 (.ex (.fld (.var 0) "sent")) .no)]
/- Folk.list_of self hand found -/
def c_Folk_list_of : List CS := [.set 2 (.mth (.var 0) "member" (.cons (.var 1) .nil)), .ret (.tup (.cons (.fld (.var 2) "number") (.cons (.bcl "list" (.cons (.fld (.var 2) "members") .nil)) .nil)))]
/- Folk.taken self hand found -/
def c_Folk_taken : List CS := [.set 2 (.mth (.var 0) "member" (.cons (.var 1) .nil)), .ret (.slc (.fld (.var 2) "row") .no (.so (.fld (.var 2) "far")))]
/- Folk.is_still self hand -/
def c_Folk_is_still : List CS := [.ret (.fld (.mth (.var 0) "member" (.cons (.var 1) .nil)) "still")]
/- Folk.witness self hand found -/
def c_Folk_witness : List CS := [.set 2 (.mth (.var 0) "member" (.cons (.var 1) .nil)), .ret (.ife (.tru (.cmp .Is (.fld (.var 2) "news") (.lit .non))) (.lst .nil) (.bcl "list" (.cons (.ix (.fld (.var 2) "news") (.lit (.int 3))) .nil)))]
/- Folk.past self hand entry -/
def c_Folk_past : List CS := [.ret (.lcm (.tup (.cons (.ix (.var 2) (.lit (.int 0))) (.cons (.bcl "list" (.cons (.ix (.var 2) (.lit (.int 1))) .nil)) (.cons (.bcl "list" (.cons (.ix (.var 2) (.lit (.int 2))) .nil)) .nil)))) 2 (.ex (.fld (.mth (.var 0) "one" (.cons (.var 1) .nil)) "story")) .no)]
/- _law_words _law_e _law_words_here -/
-- c_law_words: NO isinstance BadHand
/- _law_made _law_many _law_first _law_e -/
def c_law_made : List CS := [.tryH [.ret (.mk "Folk" (.cons (.var 0) (.cons (.var 1) .nil)))] "FolkError" (.call "_law_words")]
/- _law_asked _law_folk _law_way _law_hand _law_e -/
def c_law_asked_k02 : List CS := [.tryH [.ifs (.tru (.cmp .Eq (.var 1) (.lit (.int 0)))) [.ret (.mth (.var 0) "list_of" (.cons (.var 2) .nil))] [], .ifs (.tru (.cmp .Eq (.var 1) (.lit (.int 1)))) [.ret (.mth (.var 0) "taken" (.cons (.var 2) .nil))] [], .ifs (.tru (.cmp .Eq (.var 1) (.lit (.int 2)))) [.ret (.mth (.var 0) "is_still" (.cons (.var 2) .nil))] [], .ifs (.tru (.cmp .Eq (.var 1) (.lit (.int 3)))) [.ret (.mth (.var 0) "witness" (.cons (.var 2) .nil))] [], .ifs (.tru (.cmp .Eq (.var 1) (.lit (.int 4)))) [.ret (.mth (.var 0) "past" (.cons (.var 2) .nil))] [], .ret (.mth (.var 0) "stands" (.cons (.var 2) .nil))] "FolkError" (.call "_law_words")]
/- _law_right _law_folk _law_first _law_hand _law_due _law_way _law_found -/
def b_law_right_k02_1 : List CS := [.set 5 (.call "_law_asked" (.cons (.var 0) (.cons (.var 4) (.cons (.var 2) .nil)))), .ifs (.ors (.tru (.cmp .NotEq (.var 5) (.ix (.var 3) (.var 4)))) (.tru (.cmp .NotEq (.isi (.var 5) "bool") (.isi (.ix (.var 3) (.var 4)) "bool")))) [.ret (.lit (.bl false))] [], .ifs (.tru (.isi (.var 5) "list")) [.expr (.app (.var 5) (.lit (.int 7)))] [], .ifs (.tru (.isi (.var 5) "tuple")) [.expr (.app (.ix (.var 5) (.lit (.int 1))) (.lit (.int 7)))] [], .ifs (.tru (.cmp .NotEq (.call "_law_asked" (.cons (.var 0) (.cons (.var 4) (.cons (.var 2) .nil)))) (.ix (.var 3) (.var 4)))) [.ret (.lit (.bl false))] []]
theorem ub_law_right_k02_1 {g : Gm} {D : EndW} {σ : Sw} {H : Hw} : denB g b_law_right_k02_1 D σ H = denB g [.set 5 (.call "_law_asked" (.cons (.var 0) (.cons (.var 4) (.cons (.var 2) .nil)))), .ifs (.ors (.tru (.cmp .NotEq (.var 5) (.ix (.var 3) (.var 4)))) (.tru (.cmp .NotEq (.isi (.var 5) "bool") (.isi (.ix (.var 3) (.var 4)) "bool")))) [.ret (.lit (.bl false))] [], .ifs (.tru (.isi (.var 5) "list")) [.expr (.app (.var 5) (.lit (.int 7)))] [], .ifs (.tru (.isi (.var 5) "tuple")) [.expr (.app (.ix (.var 5) (.lit (.int 1))) (.lit (.int 7)))] [], .ifs (.tru (.cmp .NotEq (.call "_law_asked" (.cons (.var 0) (.cons (.var 4) (.cons (.var 2) .nil)))) (.ix (.var 3) (.var 4)))) [.ret (.lit (.bl false))] []] D σ H := rfl
def c_law_right_k02 : List CS := [.set 3 (.lst (.cons (.tup (.cons (.lit (.int 0)) (.cons (.var 1) .nil))) (.cons (.lst .nil) (.cons (.lit (.bl false)) (.cons (.lst .nil) (.cons (.lst .nil) (.cons (.lit (.bl true)) .nil))))))), .ifs (.tru (.cmp .NotIn (.var 2) (.var 1))) [.set 3 (.lst (.cons (.lit (.str "outside")) (.cons (.lit (.str "outside")) (.cons (.lit (.str "outside")) (.cons (.lit (.str "outside")) (.cons (.lst .nil) (.cons (.lit (.bl true)) .nil)))))))] [], .for_ 4 (.r1 (.lit (.int 6))) b_law_right_k02_1, .ret (.lit (.bl true))]
/- Hand.others self hand -/
def c_Hand_others : List CS := [.ret (.lcm (.var 1) 1 (.ex (.fld (.var 0) "members")) (.so (.tru (.cmp .NotEq (.var 1) (.fld (.var 0) "me")))))]
/- Hand.say self word message -/
def c_Hand_say : List CS := [.set 2 (.tup (.cons (.fld (.var 0) "me") (.cons (.fld (.var 0) "said") (.cons (.var 1) .nil)))), .fset (.var 0) "said" (.bin .Add (.fld (.var 0) "said") (.lit (.int 1))), .ret (.mth (.var 0) "letters" (.cons (.lit (.str "wish")) (.cons (.lst (.cons (.ix (.fld (.var 0) "members") (.lit (.int 0))) .nil)) (.cons (.var 2) .nil))))]
/- Hand.settled self counts count hand -/
def c_Hand_settled : List CS := [.set 1 (.bcl "sorted" (.cons (.bin .Add (.lst (.cons (.bcl "len" (.cons (.fld (.var 0) "row") .nil)) .nil)) (.lcm (.get2 (.fld (.var 0) "has") (.var 3) (.lit (.int 0))) 3 (.ex (.mth (.var 0) "others" .nil)) .no)) .nil)), .set 2 (.ix (.var 1) (.bin .Sub (.bcl "len" (.cons (.var 1) .nil)) (.call "enough" (.cons (.fld (.var 0) "members") .nil)))), .ifs (.tru (.cmp .LtE (.var 2) (.fld (.var 0) "far"))) [.ret (.lst .nil)] [], .fset (.var 0) "far" (.var 2), .ret (.mth (.var 0) "letters" (.cons (.lit (.str "take")) (.cons (.mth (.var 0) "others" .nil) (.cons (.var 2) .nil))))]
/- Hand.wished self message found -/
def c_Hand_wished : List CS := [.ifs (.ors (.tru (.cmp .NotEq (.fld (.var 0) "me") (.ix (.fld (.var 0) "members") (.lit (.int 0))))) (.ors (.tru (.fld (.var 0) "still")) (.tru (.cmp .In (.var 1) (.fld (.var 0) "row"))))) [.ret (.lst .nil)] [], .expr (.app (.fld (.var 0) "row") (.var 1)), .set 2 (.mth (.var 0) "letters" (.cons (.lit (.str "hold")) (.cons (.mth (.var 0) "others" .nil) (.cons (.tup (.cons (.bin .Sub (.bcl "len" (.cons (.fld (.var 0) "row") .nil)) (.lit (.int 1))) (.cons (.var 1) .nil))) .nil)))), .ret (.bin .Add (.var 2) (.mth (.var 0) "settled" .nil))]
/- Hand.holds self source body -/
def c_Hand_holds : List CS := [.ifs (.ors (.tru (.fld (.var 0) "still")) (.tru (.cmp .Gt (.ix (.var 2) (.lit (.int 0))) (.bcl "len" (.cons (.fld (.var 0) "row") .nil))))) [.ret (.lst .nil)] [], .ifs (.tru (.cmp .Eq (.ix (.var 2) (.lit (.int 0))) (.bcl "len" (.cons (.fld (.var 0) "row") .nil)))) [.expr (.app (.fld (.var 0) "row") (.ix (.var 2) (.lit (.int 1))))] [], .ret (.mth (.var 0) "letters" (.cons (.lit (.str "have")) (.cons (.lst (.cons (.var 1) .nil)) (.cons (.bcl "len" (.cons (.fld (.var 0) "row") .nil)) .nil))))]
/- Hand.heard self source count -/
def c_Hand_heard : List CS := [.iset (.fld (.var 0) "has") (.var 1) (.bcl "max" (.cons (.get2 (.fld (.var 0) "has") (.var 1) (.lit (.int 0))) (.cons (.var 2) .nil))), .ret (.mth (.var 0) "settled" .nil)]
/- Hand.prepared self source ballot -/
def c_Hand_prepared : List CS := [.ifs (.tru (.cmp .LtE (.var 2) (.fld (.var 0) "ballot"))) [.ret (.lst .nil)] [], .fset (.var 0) "ballot" (.var 2), .fset (.var 0) "still" (.lit (.bl true)), .ret (.mth (.var 0) "letters" (.cons (.lit (.str "promise")) (.cons (.lst (.cons (.var 1) .nil)) (.cons (.tup (.cons (.var 2) (.cons (.bcl "list" (.cons (.fld (.var 0) "row") .nil)) (.cons (.fld (.var 0) "kept") .nil)))) .nil))))]
/- Hand.promised self source body offer rows best hand kept -/
def b_Hand_promised_1 : List CS := [.set 7 (.ix (.ix (.fld (.var 3) "answers") (.var 6)) (.lit (.int 2))), .ifs (.ands (.tru (.cmp .IsNot (.var 7) (.lit .non))) (.tru (.cmp .Gt (.ix (.var 7) (.lit (.int 0))) (.var 5)))) [.set 5 (.ix (.var 7) (.lit (.int 0))), .fset (.var 3) "value" (.ix (.var 7) (.lit (.int 1)))] []]
theorem ub_Hand_promised_1 {g : Gm} {D : EndW} {σ : Sw} {H : Hw} : denB g b_Hand_promised_1 D σ H = denB g [.set 7 (.ix (.ix (.fld (.var 3) "answers") (.var 6)) (.lit (.int 2))), .ifs (.ands (.tru (.cmp .IsNot (.var 7) (.lit .non))) (.tru (.cmp .Gt (.ix (.var 7) (.lit (.int 0))) (.var 5)))) [.set 5 (.ix (.var 7) (.lit (.int 0))), .fset (.var 3) "value" (.ix (.var 7) (.lit (.int 1)))] []] D σ H := rfl
def c_Hand_promised : List CS := [.set 3 (.fld (.var 0) "offer"), .ifs (.ors (.tru (.cmp .Is (.var 3) (.lit .non))) (.ors (.tru (.cmp .NotEq (.fld (.var 3) "ballot") (.ix (.var 2) (.lit (.int 0))))) (.ors (.tru (.cmp .IsNot (.fld (.var 3) "value") (.lit .non))) (.tru (.cmp .In (.var 1) (.fld (.var 3) "answers")))))) [.ret (.lst .nil)] [], .iset (.fld (.var 3) "answers") (.var 1) (.var 2), .ifs (.tru (.cmp .Lt (.bcl "len" (.cons (.fld (.var 3) "answers") .nil)) (.call "enough" (.cons (.fld (.var 0) "members") .nil)))) [.ret (.lst .nil)] [], .set 4 (.lcm (.ix (.ix (.fld (.var 3) "answers") (.var 6)) (.lit (.int 1))) 6 (.ex (.bcl "sorted" (.cons (.fld (.var 3) "answers") .nil))) .no), .fset (.var 3) "value" (.tup (.cons (.bcl "tuple" (.cons (.fld (.var 3) "wish") .nil)) (.cons (.bcl "tuple" (.cons (.call "longest" (.cons (.var 4) .nil)) .nil)) .nil))), .set 5 (.tup (.cons (.lit (.int 0)) (.cons (.neg (.lit (.int 1))) .nil))), .for_ 6 (.ex (.bcl "sorted" (.cons (.fld (.var 3) "answers") .nil))) b_Hand_promised_1, .ret (.mth (.var 0) "letters" (.cons (.lit (.str "accept")) (.cons (.fld (.var 0) "members") (.cons (.tup (.cons (.fld (.var 3) "ballot") (.cons (.fld (.var 3) "value") .nil))) .nil))))]
/- Hand.accepted self source body -/
def c_Hand_accepted : List CS := [.ifs (.tru (.cmp .Lt (.ix (.var 2) (.lit (.int 0))) (.fld (.var 0) "ballot"))) [.ret (.lst .nil)] [], .fset (.var 0) "ballot" (.ix (.var 2) (.lit (.int 0))), .fset (.var 0) "still" (.lit (.bl true)), .fset (.var 0) "kept" (.var 2), .ret (.mth (.var 0) "letters" (.cons (.lit (.str "agree")) (.cons (.lst (.cons (.var 1) .nil)) (.cons (.ix (.var 2) (.lit (.int 0))) .nil))))]
/- Hand.entered self news goes_on joins -/
def c_Hand_entered : List CS := [.set 2 (.andV (.mth (.var 0) "within" .nil) (.cmp .Eq (.ix (.var 1) (.lit (.int 0))) (.bin .Add (.fld (.var 0) "number") (.lit (.int 1))))), .set 3 (.andV (.notV (.mth (.var 0) "within" .nil)) (.andV (.cmp .Gt (.ix (.var 1) (.lit (.int 0))) (.fld (.var 0) "number")) (.cmp .In (.fld (.var 0) "me") (.ix (.var 1) (.lit (.int 1)))))), .ifs (.ands (.not (.tru (.var 2))) (.not (.tru (.var 3)))) [.ret (.lst .nil)] [], .ifs (.tru (.var 2)) [.expr (.app (.fld (.var 0) "story") (.tup (.cons (.fld (.var 0) "number") (.cons (.fld (.var 0) "members") (.cons (.bcl "list" (.cons (.ix (.var 1) (.lit (.int 2))) .nil)) .nil)))))] [], .fset (.var 0) "number" (.ix (.var 1) (.lit (.int 0))), .fset (.var 0) "members" (.ife (.tru (.cmp .In (.fld (.var 0) "me") (.ix (.var 1) (.lit (.int 1))))) (.bcl "list" (.cons (.ix (.var 1) (.lit (.int 1))) .nil)) (.lst .nil)), .fset (.var 0) "news" (.var 1), .expr (.mth (.var 0) "begin" .nil), .ret (.lst .nil)]
/- Hand.got self letter kind source body -/
def c_Hand_got : List CS := [.unp [2, 3, 4] (.tup (.cons (.ix (.var 1) (.lit (.int 0))) (.cons (.ix (.var 1) (.lit (.int 1))) (.cons (.ix (.var 1) (.lit (.int 4))) .nil)))), .ifs (.tru (.cmp .Eq (.var 2) (.lit (.str "enter")))) [.ret (.mth (.var 0) "entered" (.cons (.var 4) .nil))] [], .ifs (.ors (.not (.tru (.mth (.var 0) "within" .nil))) (.tru (.cmp .NotEq (.ix (.var 1) (.lit (.int 3))) (.fld (.var 0) "number")))) [.ret (.lst .nil)] [], .ifs (.tru (.cmp .Eq (.var 2) (.lit (.str "wish")))) [.ret (.mth (.var 0) "wished" (.cons (.var 4) .nil))] [], .ifs (.tru (.cmp .Eq (.var 2) (.lit (.str "hold")))) [.ret (.mth (.var 0) "holds" (.cons (.var 3) (.cons (.var 4) .nil)))] [], .ifs (.tru (.cmp .Eq (.var 2) (.lit (.str "have")))) [.ret (.mth (.var 0) "heard" (.cons (.var 3) (.cons (.var 4) .nil)))] [], .ifs (.tru (.cmp .Eq (.var 2) (.lit (.str "take")))) [.fset (.var 0) "far" (.bcl "max" (.cons (.fld (.var 0) "far") (.cons (.bcl "min" (.cons (.var 4) (.cons (.bcl "len" (.cons (.fld (.var 0) "row") .nil)) .nil))) .nil))), .ret (.lst .nil)] [], .ifs (.tru (.cmp .Eq (.var 2) (.lit (.str "prepare")))) [.ret (.mth (.var 0) "prepared" (.cons (.var 3) (.cons (.var 4) .nil)))] [], .ifs (.tru (.cmp .Eq (.var 2) (.lit (.str "promise")))) [.ret (.mth (.var 0) "promised" (.cons (.var 3) (.cons (.var 4) .nil)))] [], .ifs (.tru (.cmp .Eq (.var 2) (.lit (.str "accept")))) [.ret (.mth (.var 0) "accepted" (.cons (.var 3) (.cons (.var 4) .nil)))] [], .ret (.mth (.var 0) "agreed" (.cons (.var 3) (.cons (.var 4) .nil)))]
/- Folk.able self hand -/
def c_Folk_able : List CS := [.ifs (.tru (.fld (.mth (.var 0) "one" (.cons (.var 1) .nil)) "fell")) [.raise "Fallen"] [], .ret (.mth (.var 0) "member" (.cons (.var 1) .nil))]
/- Folk.say self hand word -/
def c_Folk_say : List CS := [.expr (.ext (.fld (.var 0) "sent") (.mth (.mth (.var 0) "able" (.cons (.var 1) .nil)) "say" (.cons (.var 2) .nil)))]
/- Folk.fall self hand -/
def c_Folk_fall : List CS := [.ifs (.tru (.fld (.mth (.var 0) "one" (.cons (.var 1) .nil)) "fell")) [.raise "Fallen"] [], .fset (.ix (.fld (.var 0) "hands") (.var 1)) "fell" (.lit (.bl true))]
/- Folk.need_letter self place -/
def c_Folk_need_letter : List CS := [.ifs (.ors (.not (.tru (.call "is_whole" (.cons (.var 1) .nil)))) (.ors (.tru (.cmp .Lt (.var 1) (.lit (.int 0)))) (.tru (.cmp .GtE (.var 1) (.bcl "len" (.cons (.fld (.var 0) "sent") .nil)))))) [.raise "NoLetter"] []]
/- Folk.come self place letter target -/
def c_Folk_come : List CS := [.expr (.mth (.var 0) "need_letter" (.cons (.var 1) .nil)), .set 2 (.pop (.fld (.var 0) "sent") (.var 1)), .set 3 (.ix (.fld (.var 0) "hands") (.ix (.var 2) (.lit (.int 2)))), .ifs (.not (.tru (.fld (.var 3) "fell"))) [.expr (.ext (.fld (.var 0) "sent") (.mth (.var 3) "got" (.cons (.var 2) .nil)))] []]
/- Folk.calm self count -/
def b_Folk_calm_1 : List CS := [.expr (.mth (.var 0) "come" (.cons (.lit (.int 0)) .nil)), .set 1 (.bin .Add (.var 1) (.lit (.int 1)))]
theorem ub_Folk_calm_1 {g : Gm} {D : EndW} {σ : Sw} {H : Hw} : denB g b_Folk_calm_1 D σ H = denB g [.expr (.mth (.var 0) "come" (.cons (.lit (.int 0)) .nil)), .set 1 (.bin .Add (.var 1) (.lit (.int 1)))] D σ H := rfl
def c_Folk_calm : List CS := [.set 1 (.lit (.int 0)), .whl (.tru (.cmp .NotEq (.fld (.var 0) "sent") (.lst .nil))) b_Folk_calm_1, .ret (.var 1)]
/- _law_word _law_cell _law_some _law_word_here _law_k -/
def b_law_word_k03_1 : List CS := [.set 2 (.bin .Add (.var 2) (.ix (.var 1) (.bin .Mod (.bin .Add (.bin .FloorDiv (.var 0) (.lit (.int 4))) (.bin .Mult (.bin .Mult (.lit (.int 31)) (.var 3)) (.var 3))) (.bcl "len" (.cons (.var 1) .nil)))))]
theorem ub_law_word_k03_1 {g : Gm} {D : EndW} {σ : Sw} {H : Hw} : denB g b_law_word_k03_1 D σ H = denB g [.set 2 (.bin .Add (.var 2) (.ix (.var 1) (.bin .Mod (.bin .Add (.bin .FloorDiv (.var 0) (.lit (.int 4))) (.bin .Mult (.bin .Mult (.lit (.int 31)) (.var 3)) (.var 3))) (.bcl "len" (.cons (.var 1) .nil)))))] D σ H := rfl
def c_law_word_k03 : List CS := [.set 1 (.lit (.str " !\"#$&'()*+,-./0123456789:;<=>?@ABCDEFGHIJKLMNOPQRSTUVWXYZ[\\]^_")), .set 1 (.bin .Add (.var 1) (.lit (.str "abcdefghijklmnopqrstuvwxyz{|}~"))), .set 2 (.lit (.str "")), .for_ 3 (.r1 (.bin .Mod (.var 0) (.lit (.int 4)))) b_law_word_k03_1, .ret (.var 2)]
/- _law_word _law_cell _law_some _law_word_here _law_k -/
def b_law_word_k07_1 : List CS := [.set 2 (.bin .Add (.var 2) (.ix (.var 1) (.bin .Mod (.bin .Add (.bin .FloorDiv (.var 0) (.lit (.int 4))) (.bin .Mult (.bin .Mult (.lit (.int 31)) (.var 3)) (.var 3))) (.bcl "len" (.cons (.var 1) .nil)))))]
theorem ub_law_word_k07_1 {g : Gm} {D : EndW} {σ : Sw} {H : Hw} : denB g b_law_word_k07_1 D σ H = denB g [.set 2 (.bin .Add (.var 2) (.ix (.var 1) (.bin .Mod (.bin .Add (.bin .FloorDiv (.var 0) (.lit (.int 4))) (.bin .Mult (.bin .Mult (.lit (.int 31)) (.var 3)) (.var 3))) (.bcl "len" (.cons (.var 1) .nil)))))] D σ H := rfl
def c_law_word_k07 : List CS := [.set 1 (.lit (.str "abcXYZ 09.,;:!?-+*/<>=()[]{}#&'|~_^")), .set 2 (.lit (.str "")), .for_ 3 (.r1 (.bin .Mod (.var 0) (.lit (.int 4)))) b_law_word_k07_1, .ret (.var 2)]
/- _law_said _law_folk _law_hand _law_more _law_up _law_due _law_word_here _law_message -/
def c_law_said : List CS := [.ifs (.tru (.cmp .In (.var 1) (.var 3))) [.set 5 (.call "_law_word" (.cons (.var 2) .nil)), .ifs (.tru (.cmp .IsNot (.mth (.var 0) "say" (.cons (.var 1) (.cons (.var 5) .nil))) (.lit .non))) [.ret (.lit (.bl false))] [], .expr (.app (.var 4) (.tup (.cons (.var 1) (.cons (.bcl "len" (.cons (.lcm (.var 6) 6 (.ex (.var 4)) (.so (.tru (.cmp .Eq (.ix (.var 6) (.lit (.int 0))) (.var 1))))) .nil)) (.cons (.var 5) .nil)))))] [], .ifs (.tru (.cmp .Eq (.bin .Mod (.var 2) (.lit (.int 2))) (.lit (.int 1)))) [.expr (.mth (.var 0) "calm" .nil)] [], .ret (.lit (.bl true))]
/- Offer.__init__ self ballot wish -/
def c_Offer_init : List CS := [.fset (.var 0) "ballot" (.var 1), .fset (.var 0) "wish" (.var 2), .fset (.var 0) "answers" .dnew, .fset (.var 0) "value" (.lit .non), .fset (.var 0) "yes" (.lst .nil)]
/- Hand.propose self wish ahead -/
def c_Hand_propose : List CS := [.set 2 (.ix (.fld (.var 0) "ballot") (.lit (.int 0))), .ifs (.tru (.cmp .IsNot (.fld (.var 0) "offer") (.lit .non))) [.set 2 (.bcl "max" (.cons (.var 2) (.cons (.ix (.fld (.fld (.var 0) "offer") "ballot") (.lit (.int 0))) .nil)))] [], .fset (.var 0) "offer" (.mk "Offer" (.cons (.tup (.cons (.bin .Add (.var 2) (.lit (.int 1))) (.cons (.fld (.var 0) "me") .nil))) (.cons (.bcl "list" (.cons (.var 1) .nil)) .nil))), .ret (.mth (.var 0) "letters" (.cons (.lit (.str "prepare")) (.cons (.fld (.var 0) "members") (.cons (.fld (.fld (.var 0) "offer") "ballot") .nil))))]
/- Folk.propose self hand members found -/
def c_Folk_propose : List CS := [.set 3 (.mth (.var 0) "able" (.cons (.var 1) .nil)), .ifs (.not (.tru (.call "is_list" (.cons (.var 2) (.cons (.fld (.var 0) "many") .nil))))) [.raise "BadList"] [], .expr (.ext (.fld (.var 0) "sent") (.mth (.var 3) "propose" (.cons (.var 2) .nil)))]
/- Folk.lose self place -/
def c_Folk_lose : List CS := [.expr (.mth (.var 0) "need_letter" (.cons (.var 1) .nil)), .expr (.pop (.fld (.var 0) "sent") (.var 1))]
/- Folk.double self place -/
def c_Folk_double : List CS := [.expr (.mth (.var 0) "need_letter" (.cons (.var 1) .nil)), .expr (.app (.fld (.var 0) "sent") (.ix (.fld (.var 0) "sent") (.var 1)))]
/- Hand.press self found place -/
def b_Hand_press_1 : List CS := [.expr (.ext (.var 1) (.mth (.var 0) "letters" (.cons (.lit (.str "hold")) (.cons (.mth (.var 0) "others" .nil) (.cons (.tup (.cons (.var 2) (.cons (.ix (.fld (.var 0) "row") (.var 2)) .nil))) .nil)))))]
theorem ub_Hand_press_1 {g : Gm} {D : EndW} {σ : Sw} {H : Hw} : denB g b_Hand_press_1 D σ H = denB g [.expr (.ext (.var 1) (.mth (.var 0) "letters" (.cons (.lit (.str "hold")) (.cons (.mth (.var 0) "others" .nil) (.cons (.tup (.cons (.var 2) (.cons (.ix (.fld (.var 0) "row") (.var 2)) .nil))) .nil)))))] D σ H := rfl
def c_Hand_press : List CS := [.set 1 (.lst .nil), .for_ 2 (.r1 (.bcl "len" (.cons (.fld (.var 0) "row") .nil))) b_Hand_press_1, .ret (.bin .Add (.var 1) (.mth (.var 0) "letters" (.cons (.lit (.str "take")) (.cons (.mth (.var 0) "others" .nil) (.cons (.fld (.var 0) "far") .nil)))))]
/- Folk.press self hand found -/
def c_Folk_press : List CS := [.set 2 (.mth (.var 0) "able" (.cons (.var 1) .nil)), .ifs (.tru (.cmp .NotEq (.ix (.fld (.var 2) "members") (.lit (.int 0))) (.var 1))) [.raise "NotFirst"] [], .expr (.ext (.fld (.var 0) "sent") (.mth (.var 2) "press" .nil))]
/- Folk.show self hand other found -/
def c_Folk_show : List CS := [.set 3 (.mth (.var 0) "able" (.cons (.var 1) .nil)), .expr (.mth (.var 0) "one" (.cons (.var 2) .nil)), .ifs (.tru (.cmp .Is (.fld (.var 3) "news") (.lit .non))) [.raise "NoNews"] [], .expr (.ext (.fld (.var 0) "sent") (.mth (.var 3) "letters" (.cons (.lit (.str "enter")) (.cons (.lst (.cons (.var 2) .nil)) (.cons (.fld (.var 3) "news") .nil)))))]
end WL
local macro_rules | `(tactic| walk_at "s") => `(tactic| try simp only [WL.e_var, WL.e_lit, WL.e_gint, WL.e_lst, WL.e_tup, WL.e_bin, WL.e_neg, WL.e_cmp, WL.e_chn, WL.e_andV, WL.e_orV, WL.e_notV, WL.e_ife, WL.e_fld, WL.e_ix, WL.e_slc, WL.e_rev, WL.e_bcl, WL.e_isi, WL.e_call, WL.e_mk, WL.e_mth, WL.e_app, WL.e_ext, WL.e_pop, WL.e_get1, WL.e_get2, WL.e_setd, WL.e_lcm, WL.e_dnew, WL.e_dct, WL.e_lrng, WL.e_inr, WL.e_nset, WL.e_isiS, WL.e_anil, WL.e_acons, WL.e_pnil, WL.e_pcons, WL.e_ono, WL.e_oso, WL.e_ands, WL.e_ors, WL.e_tnot, WL.e_tru, WL.e_iex, WL.e_ir1, WL.e_ir2, WL.e_ir3, WL.e_uno, WL.e_uso,
  WL.e_set, WL.e_fset, WL.e_iset, WL.e_unp, WL.e_expr, WL.e_ret, WL.e_retN, WL.e_ifs, WL.e_for_, WL.e_whl, WL.e_raise, WL.e_try, WL.e_tryH, WL.e_pass, WL.e_bnil, WL.e_bcons, WL.e_loop0, WL.e_loop1, WL.e_comp0, WL.e_comp1,
  WL.e_addI, WL.e_addS, WL.e_addF, WL.e_addRF, WL.e_addFR, WL.e_addRR, WL.e_sub, WL.e_mulI, WL.e_div, WL.e_mod, WL.e_pow, WL.e_ltI, WL.e_leI, WL.e_gtI, WL.e_geI, WL.e_eqI, WL.e_neI, WL.e_eqS, WL.e_neS, WL.e_eqB, WL.e_neB, WL.e_isN, WL.e_isntN, WL.e_isB, WL.e_isntB, WL.n_non, WL.ns_non, WL.nb_non, WL.n_bl, WL.ns_bl, WL.nb_bl, WL.n_int, WL.ns_int, WL.nb_int, WL.n_str, WL.ns_str, WL.nb_str, WL.n_ref, WL.ns_ref, WL.nb_ref, WL.n_scr, WL.ns_scr, WL.nb_scr, WL.n_tup, WL.ns_tup, WL.nb_tup, WL.n_fls, WL.ns_fls, WL.nb_fls,
  WL.e_len, WL.e_lenF, WL.e_lenT, WL.e_lenS, WL.e_lenX, WL.e_lenR, WL.e_lenL, WL.e_lenD, WL.e_list, WL.e_tuple, WL.e_tupF, WL.e_tupT, WL.e_tupS, WL.e_tupR, WL.e_max2, WL.e_max1, WL.e_min2, WL.e_int1, WL.e_intB, WL.e_intI, WL.e_seqR, WL.e_seqF, WL.e_seqT, WL.e_seqS, WL.q_AR, WL.q_AF, WL.q_AT, WL.q_AS, WL.q_LR, WL.q_LF, WL.q_LS, WL.q_LT, WL.e_seqMR, WL.e_seqMF, WL.e_lsto, WL.e_dcto, WL.e_tyL, WL.e_tyD, WL.e_isL, WL.e_isLF, WL.e_isD, WL.e_ixF, WL.e_ixT, WL.e_ixS, WL.e_ixR, WL.e_ixX, WL.e_ixL, WL.e_ixD, WL.e_isR, WL.e_isD1, WL.e_isL1, WL.e_tyN, WL.e_tyB, WL.e_tyI, WL.e_tyS, WL.e_tyT, WL.e_tyF, WL.e_slF, WL.e_slR, WL.e_slS, WL.e_slT,
  WL.z_non, WL.z_bl, WL.z_int, WL.z_str, WL.z_tup, WL.z_fls, WL.updW_twice, WL.end_nx, WL.end_rt, WL.end_ex, WL.keyW, WL.kb_NoneType_int, WL.kb_NoneType_bool, WL.kb_NoneType_list, WL.kb_NoneType_tuple, WL.kb_NoneType_str, WL.kb_bool_int, WL.kb_bool_bool, WL.kb_bool_list, WL.kb_bool_tuple, WL.kb_bool_str, WL.kb_int_int, WL.kb_int_bool, WL.kb_int_list, WL.kb_int_tuple, WL.kb_int_str, WL.kb_str_int, WL.kb_str_bool, WL.kb_str_list, WL.kb_str_tuple, WL.kb_str_str, WL.kb_tuple_int, WL.kb_tuple_bool, WL.kb_tuple_list, WL.kb_tuple_tuple, WL.kb_tuple_str, WL.kb_list_int, WL.kb_list_bool, WL.kb_list_list, WL.kb_list_tuple, WL.kb_list_str, WL.kb_dict_int, WL.kb_dict_bool, WL.kb_dict_list, WL.kb_dict_tuple, WL.kb_dict_str,
  List.getElem?_cons_zero, List.getElem?_cons_succ, List.set_cons_zero, List.set_cons_succ, List.cons.injEq, List.length_cons, List.length_nil, Option.some.injEq, exists_eq_left, exists_eq_left', exists_eq, exists_eq', and_assoc, exists_and_left, true_and, and_true, false_and, and_false, exists_false, or_false, false_or, WL.W.int.injEq, WL.W.scr.injEq, Int.reduceLE, Int.reduceLT, Int.reduceNeg, WL.W.bl.injEq, WL.W.str.injEq, WL.W.ref.injEq, WL.W.fls.injEq, WL.W.tup.injEq, WL.HW.lst.injEq, WL.HW.dct.injEq, WL.HW.ins.injEq, reduceCtorEq, ↓reduceIte, Bool.false_eq_true, decide_eq_true_eq, Bool.not_true, Bool.not_false, Bool.not_eq_true', decide_eq_false_iff_not, WL.at0, WL.at1, WL.at2, WL.at3, WL.at4, WL.updW_same])
local macro_rules | `(tactic| walk_at "x") => `(tactic| try simp only [WL.e_var, WL.e_lit, WL.e_gint, WL.e_lst, WL.e_tup, WL.e_bin, WL.e_neg, WL.e_cmp, WL.e_chn, WL.e_andV, WL.e_orV, WL.e_notV, WL.e_ife, WL.e_fld, WL.e_ix, WL.e_slc, WL.e_rev, WL.e_bcl, WL.e_isi, WL.e_call, WL.e_mk, WL.e_mth, WL.e_app, WL.e_ext, WL.e_pop, WL.e_get1, WL.e_get2, WL.e_setd, WL.e_lcm, WL.e_dnew, WL.e_dct, WL.e_lrng, WL.e_inr, WL.e_nset, WL.e_isiS, WL.e_anil, WL.e_acons, WL.e_pnil, WL.e_pcons, WL.e_ono, WL.e_oso, WL.e_ands, WL.e_ors, WL.e_tnot, WL.e_tru, WL.e_iex, WL.e_ir1, WL.e_ir2, WL.e_ir3, WL.e_uno, WL.e_uso,
  WL.e_set, WL.e_fset, WL.e_iset, WL.e_unp, WL.e_expr, WL.e_ret, WL.e_retN, WL.e_ifs, WL.e_for_, WL.e_whl, WL.e_raise, WL.e_try, WL.e_tryH, WL.e_pass, WL.e_bnil, WL.e_loop0, WL.e_loop1, WL.e_comp0, WL.e_comp1,
  WL.e_addI, WL.e_addS, WL.e_addF, WL.e_addRF, WL.e_addFR, WL.e_addRR, WL.e_sub, WL.e_mulI, WL.e_div, WL.e_mod, WL.e_pow, WL.e_ltI, WL.e_leI, WL.e_gtI, WL.e_geI, WL.e_eqI, WL.e_neI, WL.e_eqS, WL.e_neS, WL.e_eqB, WL.e_neB, WL.e_isN, WL.e_isntN, WL.e_isB, WL.e_isntB, WL.n_non, WL.ns_non, WL.nb_non, WL.n_bl, WL.ns_bl, WL.nb_bl, WL.n_int, WL.ns_int, WL.nb_int, WL.n_str, WL.ns_str, WL.nb_str, WL.n_ref, WL.ns_ref, WL.nb_ref, WL.n_scr, WL.ns_scr, WL.nb_scr, WL.n_tup, WL.ns_tup, WL.nb_tup, WL.n_fls, WL.ns_fls, WL.nb_fls,
  WL.e_len, WL.e_lenF, WL.e_lenT, WL.e_lenS, WL.e_lenX, WL.e_lenR, WL.e_lenL, WL.e_lenD, WL.e_list, WL.e_tuple, WL.e_tupF, WL.e_tupT, WL.e_tupS, WL.e_tupR, WL.e_max2, WL.e_max1, WL.e_min2, WL.e_int1, WL.e_intB, WL.e_intI, WL.e_seqR, WL.e_seqF, WL.e_seqT, WL.e_seqS, WL.q_AR, WL.q_AF, WL.q_AT, WL.q_AS, WL.q_LR, WL.q_LF, WL.q_LS, WL.q_LT, WL.e_seqMR, WL.e_seqMF, WL.e_lsto, WL.e_dcto, WL.e_tyL, WL.e_tyD, WL.e_isL, WL.e_isLF, WL.e_isD, WL.e_ixF, WL.e_ixT, WL.e_ixS, WL.e_ixR, WL.e_ixX, WL.e_ixL, WL.e_ixD, WL.e_isR, WL.e_isD1, WL.e_isL1, WL.e_tyN, WL.e_tyB, WL.e_tyI, WL.e_tyS, WL.e_tyT, WL.e_tyF, WL.e_slF, WL.e_slR, WL.e_slS, WL.e_slT,
  WL.z_non, WL.z_bl, WL.z_int, WL.z_str, WL.z_tup, WL.z_fls, WL.updW_twice, WL.end_nx, WL.end_rt, WL.end_ex, WL.keyW, WL.kb_NoneType_int, WL.kb_NoneType_bool, WL.kb_NoneType_list, WL.kb_NoneType_tuple, WL.kb_NoneType_str, WL.kb_bool_int, WL.kb_bool_bool, WL.kb_bool_list, WL.kb_bool_tuple, WL.kb_bool_str, WL.kb_int_int, WL.kb_int_bool, WL.kb_int_list, WL.kb_int_tuple, WL.kb_int_str, WL.kb_str_int, WL.kb_str_bool, WL.kb_str_list, WL.kb_str_tuple, WL.kb_str_str, WL.kb_tuple_int, WL.kb_tuple_bool, WL.kb_tuple_list, WL.kb_tuple_tuple, WL.kb_tuple_str, WL.kb_list_int, WL.kb_list_bool, WL.kb_list_list, WL.kb_list_tuple, WL.kb_list_str, WL.kb_dict_int, WL.kb_dict_bool, WL.kb_dict_list, WL.kb_dict_tuple, WL.kb_dict_str,
  List.getElem?_cons_zero, List.getElem?_cons_succ, List.set_cons_zero, List.set_cons_succ, List.cons.injEq, List.length_cons, List.length_nil, Option.some.injEq, exists_eq_left, exists_eq_left', exists_eq, exists_eq', and_assoc, exists_and_left, true_and, and_true, false_and, and_false, exists_false, or_false, false_or, WL.W.int.injEq, WL.W.scr.injEq, Int.reduceLE, Int.reduceLT, Int.reduceNeg, WL.W.bl.injEq, WL.W.str.injEq, WL.W.ref.injEq, WL.W.fls.injEq, WL.W.tup.injEq, WL.HW.lst.injEq, WL.HW.dct.injEq, WL.HW.ins.injEq, reduceCtorEq, ↓reduceIte, Bool.false_eq_true, decide_eq_true_eq, Bool.not_true, Bool.not_false, Bool.not_eq_true', decide_eq_false_iff_not, WL.at0, WL.at1, WL.at2, WL.at3, WL.at4, WL.updW_same])
local macro_rules | `(tactic| walk_at "n") => `(tactic| ((try dsimp only); rw [WL.e_bcons]; walk_at "x"))
/-! ## lists.py, and what the laws draw -/
namespace WL
open PySem L2

def isInt : W → Bool
  | .int _ => true
  | _ => false
def p_is_whole : SpW := fun ws H Q _ => ∃ w t, ws = [w] ∧ tyW H w = some t ∧ Q (.bl (isInt w)) H
theorem r_is_whole {g : Gm} (ws : List W) (H : Hw) (Q : KW) (E : EW) (h : p_is_whole ws H Q E) : denB g c_is_whole (endOf (frz Q) E) (startW ["thing"] ws) H := by
  obtain ⟨w, t, rfl, ht, hq⟩ := h
  show denB g c_is_whole (endOf (frz Q) E) [some w] H
  unfold c_is_whole
  cases w with
  | ref a =>
    walk_at "s"
    rcases ty_ref ht with rfl | rfl
    · refine ⟨_, ht, ?_⟩
      walk_at "s"
      exact hq
    · refine ⟨_, ht, ?_⟩
      walk_at "s"
      exact hq
  | scr _ => cases ht
  | _ => walk_at "s"; exact hq

def okL (m : Int) : Int → List W → Bool
  | _, [] => true
  | a, .int h :: r => (decide (a < h) && decide (h < m)) && okL m h r
  | _, _ :: _ => false
/-- is_list(thing, many) of a list -/
def isList (xs : List W) (m : Int) : Bool := !xs.isEmpty && okL m (-1) xs
def p_is_list : SpW := fun ws H Q _ => ∃ w m t, ws = [w, .int m] ∧ tyW H w = some t ∧
  ((t ≠ "list" ∧ Q (.bl false) H) ∨ ∃ xs, t = "list" ∧ seqA H w xs ∧ Ld H w (.fls xs) ∧ isDs xs = true ∧ deps xs ≤ 63 ∧ xs.length < 1000 ∧ Q (.bl (isList xs m)) H)
theorem ty_isD {w : W} (h : isD w = true) (H : Hw) : ∃ t, tyW H w = some t := by
  cases w with
  | ref _ => cases h
  | scr _ => cases h
  | _ => exact ⟨_, rfl⟩
theorem is_list_loop {g : Gm} (hg : g.fn "is_whole" p_is_whole) {w : W} {m : Int} {H : Hw} {all : List W} {D : EndW} (hs : seqA H w all) :
    ∀ (xs : List W) (a : Int) (cur : Option W), isDs xs = true → (okL m a xs = true → ∀ a' cur', D.nx [some w, some (.int m), some (.int a'), cur'] H) → (okL m a xs = false → D.rt (.bl false) H) →
      loopW (fun H => seqA H w all) 3 (denB g b_is_list_1) D xs [some w, some (.int m), some (.int a), cur] H := by
  intro xs
  induction xs with
  | nil => intro a cur _ h _; exact ⟨hs, h rfl _ _⟩
  | cons x xs ih =>
    intro a cur hd h1 h2
    obtain ⟨d1, d2⟩ := and_ok (show (isD x && isDs xs) = true from hd)
    refine ⟨hs, ?_⟩
    rw [ub_is_list_1]
    walk_at "s"
    obtain ⟨t, ht⟩ := ty_isD d1 H
    refine ⟨_, hg, x, t, rfl, ht, ?_⟩
    cases x with
    | int i =>
      simp only [isInt]
      walk_at "s"
      by_cases q1 : i ≤ a
      · have e : okL m a (.int i :: xs) = false := by simp [okL]; intro h; omega
        simp only [q1, decide_true, if_true]
        exact h2 e
      · simp only [q1, decide_false, if_false, Bool.false_eq_true]
        by_cases q2 : m ≤ i
        · have e : okL m a (.int i :: xs) = false := by simp [okL]; intro h; omega
          simp only [q2, decide_true, if_true]
          exact h2 e
        · simp only [q2, decide_false, if_false, Bool.false_eq_true]
          have e : okL m a (.int i :: xs) = okL m i xs := by
            have e1 : decide (a < i) = true := decide_eq_true (by omega)
            have e2 : decide (i < m) = true := decide_eq_true (by omega)
            show ((decide (a < i) && decide (i < m)) && okL m i xs) = _
            rw [e1, e2]
            rfl
          rw [e] at h1 h2
          exact ih i (some (.int i)) d2 h1 h2
    | ref _ => cases d1
    | scr _ => cases d1
    | _ =>
      simp only [isInt]
      walk_at "s"
      exact h2 rfl
theorem r_is_list {g : Gm} (hg : g.fn "is_whole" p_is_whole) (ws : List W) (H : Hw) (Q : KW) (E : EW) (h : p_is_list ws H Q E) : denB g c_is_list (endOf (frz Q) E) (startW ["thing", "many", "ahead", "hand"] ws) H := by
  obtain ⟨w, m, t, rfl, ht, h⟩ := h
  show denB g c_is_list (endOf (frz Q) E) [some w, some (.int m), none, none] H
  unfold c_is_list
  rcases h with ⟨hn, hq⟩ | ⟨xs, rfl, hs, hl, hd, hp, _, hq⟩
  · cases w with
    | ref a =>
      walk_at "s"
      rcases ty_ref ht with rfl | rfl
      · exact absurd rfl hn
      · refine ⟨_, ht, _, kb_dict_list, ?_⟩
        walk_at "s"
        exact hq
    | scr _ => cases ht
    | fls _ => cases ht; exact absurd rfl hn
    | _ => walk_at "s"; exact hq
  · simp only [e_bcons, e_ifs, e_ors, e_tnot, e_tru, e_isi, e_var, List.getElem?_cons_zero, Option.some.injEq, exists_eq_left']
    refine ⟨_, ht, _, kb_list_list, ?_⟩
    walk_at "s"
    refine ⟨Nat.zero_le _, newF ?_⟩
    refine eqd_of (x' := .fls xs) (y' := .fls []) hl .refl hd rfl (Nat.succ_le_succ hp) (by decide) ?_
    cases xs with
    | nil =>
      simp only [dat, dats, PyData.eqv, PyData.eqvAll]
      walk_at "s"
      exact hq
    | cons x xs =>
      simp only [dat, dats, PyData.eqv, PyData.eqvAll]
      walk_at "s"
      refine ⟨_, hs, ?_⟩
      refine is_list_loop hg hs _ _ _ hd (fun e a' cur' => ?_) (fun e => ?_)
      · walk_at "s"
        have : isList (x :: xs) m = true := e
        rw [this] at hq
        exact hq
      · have : isList (x :: xs) m = false := e
        rw [this] at hq
        walk_at "s"
        exact hq

def p_enough : SpW := fun ws H Q _ => ∃ w xs, ws = [w] ∧ seqA H w xs ∧ Q (.int (xs.length / 2 + 1 : Nat)) H
theorem r_enough {g : Gm} (ws : List W) (H : Hw) (Q : KW) (E : EW) (h : p_enough ws H Q E) : denB g c_enough (endOf (frz Q) E) (startW ["members"] ws) H := by
  obtain ⟨w, xs, rfl, hs, hq⟩ := h
  show denB g c_enough (endOf (frz Q) E) [some w] H
  unfold c_enough
  walk_at "s"
  refine len_of hs ?_
  walk_at "s"
  refine ⟨⟨by decide, by decide⟩, ?_⟩
  have : ((xs.length : Int) / 2 + 1) = ((xs.length / 2 + 1 : Nat) : Int) := by omega
  rw [this]
  exact hq

/-- the first of the longest rows -/
def longestGo {α : Type} : List α → List (List α) → List α
  | f, [] => f
  | f, r :: rs => longestGo (if f.length < r.length then r else f) rs
def longestOf {α : Type} (rows : List (List α)) : List α := longestGo [] rows
/-- of lists that stay -/
def p_longest : SpW := fun ws H Q _ => ∃ (w : W) (rows : List (List W)), ws = [w] ∧ seqA H w (rows.map W.fls) ∧ newL (longestOf rows) H Q
theorem longest_loop {g : Gm} {w : W} {H : Hw} {all : List W} {D : EndW} (hs : seqA H w all) :
    ∀ (rows : List (List W)) (f : List W) (cur : Option W), (∀ cur', D.nx [some w, some (.fls (longestGo f rows)), cur'] H) →
      loopW (fun H => seqA H w all) 2 (denB g b_longest_1) D (rows.map W.fls) [some w, some (.fls f), cur] H := by
  intro rows
  induction rows with
  | nil => intro f cur h; exact ⟨hs, h _⟩
  | cons r rs ih =>
    intro f cur h
    refine ⟨hs, ?_⟩
    rw [ub_longest_1]
    walk_at "s"
    by_cases q : f.length < r.length
    · have q' : (f.length : Int) < r.length := by omega
      simp only [q', if_true]
      refine ih r (some (.fls r)) fun cur' => ?_
      have := h cur'
      simp only [longestGo, q, if_true] at this
      exact this
    · have q' : ¬ (f.length : Int) < r.length := by omega
      simp only [q', if_false]
      refine ih f (some (.fls r)) fun cur' => ?_
      have := h cur'
      simp only [longestGo, q, if_false] at this
      exact this
theorem r_longest {g : Gm} (ws : List W) (H : Hw) (Q : KW) (E : EW) (h : p_longest ws H Q E) : denB g c_longest (endOf (frz Q) E) (startW ["rows", "found", "row"] ws) H := by
  obtain ⟨w, rows, rfl, hs, hq⟩ := h
  show denB g c_longest (endOf (frz Q) E) [some w, none, none] H
  unfold c_longest
  walk_at "s"
  refine ⟨Nat.zero_le _, newF ?_⟩
  refine ⟨_, hs, ?_⟩
  refine longest_loop hs rows [] _ fun cur' => ?_
  walk_at "s"
  rcases hq with hq | hq
  · exact newR fun p hp => .inl (hq p hp)
  · exact newF (by walk_at "s"; exact hq)

/-! ### what is drawn -/
def draw (ns : List Int) (i : Int) : Int := ns.getD i.toNat 0
def p_draw : SpW := fun ws H Q _ => ∃ ns i, ws = [.scr ns, .int i] ∧ 0 ≤ i ∧ Q (.int (draw ns i)) H
theorem r_draw {g : Gm} (ws : List W) (H : Hw) (Q : KW) (E : EW) (h : p_draw ws H Q E) : denB g c_law_draw (endOf (frz Q) E) (startW ["_law_script", "_law_k"] ws) H := by
  obtain ⟨ns, i, rfl, h0, hq⟩ := h
  show denB g c_law_draw (endOf (frz Q) E) [some (.scr ns), some (.int i)] H
  unfold c_law_draw
  walk_at "s"
  by_cases q : i < (ns.length : Int)
  · simp only [q, if_true]
    refine ⟨.int (draw ns i), ?_, ?_⟩
    · have hl : i.toNat < ns.length := by omega
      have : (ns.map W.int)[i.toNat]? = some (W.int (draw ns i)) := by
        simp [draw, hl]
      have e := atI_nat this
      rw [Int.toNat_of_nonneg h0] at e
      exact e
    · walk_at "s"
      exact hq
  · simp only [q, if_false]
    have : draw ns i = 0 := by
      unfold draw
      have hl : ns.length ≤ i.toNat := by omega
      simp [List.getD, hl]
    rw [this] at hq
    exact hq
def p_is_number : SpW := fun ws H Q _ => ∃ w t, ws = [w] ∧ tyW H w = some t ∧ Q (.bl (isInt w)) H
theorem r_is_number {g : Gm} (ws : List W) (H : Hw) (Q : KW) (E : EW) (h : p_is_number ws H Q E) : denB g c_law_is_number (endOf (frz Q) E) (startW ["_law_found"] ws) H := by
  obtain ⟨w, t, rfl, ht, hq⟩ := h
  show denB g c_law_is_number (endOf (frz Q) E) [some w] H
  unfold c_law_is_number
  cases w with
  | ref a =>
    walk_at "s"
    rcases ty_ref ht with rfl | rfl
    · exact ⟨_, ht, _, kb_list_int, by walk_at "s"; exact hq⟩
    · exact ⟨_, ht, _, kb_dict_int, by walk_at "s"; exact hq⟩
  | scr _ => cases ht
  | bl b => cases b <;> (walk_at "s"; exact hq)
  | _ => walk_at "s"; exact hq
/-- the hands that bits tell -/
def handsGo (b : Int) : Nat → Nat → List Int
  | 0, _ => []
  | n + 1, j => (if b % 2 = 1 then [(j : Int)] else []) ++ handsGo (b / 2) n (j + 1)
def handsOf (b : Int) (n : Nat) : List Int := handsGo b n 0
def p_hands : SpW := fun ws H Q _ => ∃ b m, ws = [.int b, .int m] ∧ 0 ≤ m ∧ m ≤ 1000 ∧ newL ((handsOf b m.toNat).map W.int) H Q
theorem hands_loop {g : Gm} {m : Int} {p : Addr} {H : Hw} {D : EndW} :
    ∀ (n j : Nat) (bits : Int) (xs : List Int) (cur : Option W), xs.length + n ≤ 1000 → (∀ b' cur', D.nx [some (.int b'), some (.int m), some (.ref p), cur'] (updW H p (.lst ((xs ++ handsGo bits n j).map W.int)))) →
      loopW (fun _ => True) 3 (denB g b_law_hands_1) D ((List.range' j n).map fun (k : Nat) => W.int (k : Int)) [some (.int bits), some (.int m), some (.ref p), cur] (updW H p (.lst (xs.map W.int))) := by
  intro n
  induction n with
  | zero =>
    intro j bits xs cur _ h
    have := h bits cur
    rw [show handsGo bits 0 j = [] from rfl, List.append_nil] at this
    exact ⟨trivial, this⟩
  | succ n ih =>
    intro j bits xs cur hl h
    rw [List.range'_succ]
    refine ⟨trivial, ?_⟩
    rw [ub_law_hands_1]
    walk_at "s"
    by_cases q : bits % 2 = 1
    · simp only [q, if_true]
      simp only [List.length_map]
      refine ⟨Nat.lt_of_lt_of_le (by omega : xs.length < 1001) (by decide), ⟨by decide, by decide⟩, ?_⟩
      have e : xs.map W.int ++ [W.int (j : Int)] = (xs ++ [(j : Int)]).map W.int := by simp
      rw [e]
      refine ih (j + 1) (bits / 2) (xs ++ [(j : Int)]) _ (by simp; omega) fun b' cur' => ?_
      have := h b' cur'
      simp only [handsGo, q, if_true] at this
      rw [List.append_assoc]
      exact this
    · simp only [q, if_false]
      refine ⟨⟨by decide, by decide⟩, ?_⟩
      refine ih (j + 1) (bits / 2) xs _ (by omega) fun b' cur' => ?_
      have := h b' cur'
      simp only [handsGo, q, if_false, List.nil_append] at this
      exact this
theorem r_hands {g : Gm} (ws : List W) (H : Hw) (Q : KW) (E : EW) (h : p_hands ws H Q E) : denB g c_law_hands (endOf (frz Q) E) (startW ["_law_bits", "_law_many", "_law_found", "_law_hand"] ws) H := by
  obtain ⟨bits, m, rfl, h0, h1, hq⟩ := h
  show denB g c_law_hands (endOf (frz Q) E) [some (.int bits), some (.int m), none, none] H
  unfold c_law_hands
  walk_at "s"
  refine ⟨Nat.zero_le _, newR fun p hp => ?_⟩
  refine ⟨by omega, by omega, ?_⟩
  rw [rngW_nat, List.range_eq_range']
  refine hands_loop (xs := []) (H := H) m.toNat 0 bits _ (by simp; omega) fun b' cur' => ?_
  walk_at "s"
  exact z_new hq hp
end WL

/-! ## Hands, letters, the folk: plain data, and how they lie in the heap -/
namespace WL
open PySem L2

structure Msg where
  me : Int
  n : Int
  w : Str
deriving DecidableEq
abbrev Bal := Int × Int
structure Val where
  hands : List Int
  row : List Msg
deriving DecidableEq
structure News where
  num : Int
  hands : List Int
  row : List Msg
  wit : List Int
deriving DecidableEq
abbrev Kept := Option (Bal × Val)
inductive Body where
  | wish (m : Msg)
  | hold (at' : Int) (m : Msg)
  | have' (n : Int)
  | take (n : Int)
  | prepare (b : Bal)
  | promise (b : Bal) (row : List Msg) (kept : Kept)
  | accept (b : Bal) (v : Val)
  | agree (b : Bal)
  | enter (n : News)
deriving DecidableEq
structure Letter where
  src : Int
  dst : Int
  num : Int
  body : Body
deriving DecidableEq
structure Ans where
  ballot : Bal
  row : List Msg
  kept : Kept
deriving DecidableEq
structure Off where
  ballot : Bal
  wish : List Int
  answers : List (Int × Ans)
  value : Option Val
  yes : List Int
deriving DecidableEq
structure Entry where
  num : Int
  hands : List Int
  row : List Msg
deriving DecidableEq
structure Hand where
  me : Int
  number : Int
  members : List Int
  fell : Bool
  said : Int
  story : List Entry
  news : Option News
  row : List Msg
  far : Int
  still : Bool
  ballot : Bal
  kept : Kept
  has : List (Int × Int)
  offer : Option Off
deriving DecidableEq
structure Folk where
  many : Int
  hands : List Hand
  sent : List Letter
deriving DecidableEq

/-! ### as values -/
def intsW (l : List Int) : List W := l.map W.int
def Msg.v (m : Msg) : W := .tup [.int m.me, .int m.n, .str m.w]
def msgsW (l : List Msg) : List W := l.map Msg.v
def balW (b : Bal) : W := .tup [.int b.1, .int b.2]
def Val.v (x : Val) : W := .tup [.tup (intsW x.hands), .tup (msgsW x.row)]
def News.v (x : News) : W := .tup [.int x.num, .tup (intsW x.hands), .tup (msgsW x.row), .tup (intsW x.wit)]
def keptW : Kept → W
  | none => .non
  | some (b, v) => .tup [balW b, v.v]
def newsW : Option News → W
  | none => .non
  | some n => n.v
def valOW : Option Val → W
  | none => .non
  | some n => n.v
def Body.kind : Body → Str
  | .wish _ => "wish"
  | .hold _ _ => "hold"
  | .have' _ => "have"
  | .take _ => "take"
  | .prepare _ => "prepare"
  | .promise _ _ _ => "promise"
  | .accept _ _ => "accept"
  | .agree _ => "agree"
  | .enter _ => "enter"
def ansW (b : Bal) (row : List Msg) (k : Kept) : W := .tup [balW b, .fls (msgsW row), keptW k]
def Body.v : Body → W
  | .wish m => m.v
  | .hold p m => .tup [.int p, m.v]
  | .have' n => .int n
  | .take n => .int n
  | .prepare b => balW b
  | .promise b r k => ansW b r k
  | .accept b v => .tup [balW b, v.v]
  | .agree b => balW b
  | .enter n => n.v
def Letter.v (l : Letter) : W := .tup [.str l.body.kind, .int l.src, .int l.dst, .int l.num, l.body.v]
def lettersW (l : List Letter) : List W := l.map Letter.v
def Entry.v (e : Entry) : W := .tup [.int e.num, .fls (intsW e.hands), .fls (msgsW e.row)]
def storyW (l : List Entry) : List W := l.map Entry.v
def hasW (l : List (Int × Int)) : List (Key × W) := l.map fun x => (.inl x.1, .int x.2)
def ansWs (l : List (Int × Ans)) : List (Key × W) := l.map fun x => (.inl x.1, ansW x.2.ballot x.2.row x.2.kept)

/-! ### in the heap -/
structure HandL where
  a : Addr
  r : Addr
  s : Addr
  d : Addr
  o : Addr
  n : Addr
  y : Addr
def offR (l : HandL) : Option Off → W
  | none => .non
  | some _ => .ref l.o
def handF (l : HandL) (h : Hand) : List (Str × W) := [("me", .int h.me), ("number", .int h.number), ("members", .fls (intsW h.members)), ("fell", .bl h.fell), ("said", .int h.said), ("story", .ref l.s), ("news", newsW h.news),
  ("row", .ref l.r), ("far", .int h.far), ("still", .bl h.still), ("ballot", balW h.ballot), ("kept", keptW h.kept), ("has", .ref l.d), ("offer", offR l h.offer)]
def offF (l : HandL) (f : Off) : List (Str × W) := [("ballot", balW f.ballot), ("wish", .fls (intsW f.wish)), ("answers", .ref l.n), ("value", valOW f.value), ("yes", .ref l.y)]
abbrev Cell := Addr × HW
def offCells (OC : Addr) (l : HandL) : Option Off → List Cell
  | none => []
  | some f => [(l.o, .ins OC (offF l f)), (l.n, .dct (ansWs f.answers)), (l.y, .lst (intsW f.yes))]
def handCells (HC OC : Addr) (l : HandL) (h : Hand) : List Cell :=
  (l.a, .ins HC (handF l h)) :: (l.r, .lst (msgsW h.row)) :: (l.s, .lst (storyW h.story)) :: (l.d, .dct (hasW h.has)) :: offCells OC l h.offer
/-- these objects, all apart -/
class Cells (H : Hw) (L : outParam (List Cell)) : Prop where
  nd : (L.map (·.1)).Nodup
  at' : ∀ x ∈ L, H x.1 = some x.2
/-- nothing lies there -/
class Fresh (H : Hw) (a : Addr) : Prop where
  h : H a = none
class InC (a : Addr) (o : outParam HW) (L : List Cell) : Prop where
  mem : (a, o) ∈ L
class UpdC (a : Addr) (o' : HW) (L : List Cell) (L' : outParam (List Cell)) : Prop where
  ok : ∃ A o B, L = A ++ (a, o) :: B ∧ L' = A ++ (a, o') :: B
section
variable {H : Hw} {L L' A B : List Cell} {a b : Addr} {o o' : HW} {x : Cell}
instance InC.head : InC a o ((a, o) :: L) := ⟨List.mem_cons_self ..⟩
instance (priority := low) InC.tail [h : InC a o L] : InC a o (x :: L) := ⟨List.mem_cons_of_mem _ h.mem⟩
instance UpdC.head : UpdC a o' ((a, o) :: L) ((a, o') :: L) := ⟨⟨[], o, L, rfl, rfl⟩⟩
instance (priority := low) UpdC.tail [h : UpdC a o' L L'] : UpdC a o' (x :: L) (x :: L') := ⟨by
  obtain ⟨A, o, B, e1, e2⟩ := h.ok
  exact ⟨x :: A, o, B, by rw [e1]; rfl, by rw [e2]; rfl⟩⟩
instance (priority := low) InC.right [h : InC a o B] : InC a o (A ++ B) := ⟨List.mem_append_right _ h.mem⟩
instance (priority := low) UpdC.right [h : UpdC a o' L L'] : UpdC a o' (A ++ L) (A ++ L') := ⟨by
  obtain ⟨X, o, Y, e1, e2⟩ := h.ok
  exact ⟨A ++ X, o, Y, by rw [e1, List.append_assoc], by rw [e2, List.append_assoc]⟩⟩
instance At.cell [c : Cells H L] [i : InC a o L] : At H a o := ⟨c.at' _ i.mem⟩
theorem Cells.get (c : Cells H (A ++ (a, o) :: B)) : H a = some o := c.at' (a, o) (by simp)
theorem Cells.new' (c : Cells H L) (h : H a = none) : Cells (updW H a o) ((a, o) :: L) := by
  refine ⟨?_, fun x hx => ?_⟩
  · rw [List.map_cons, List.nodup_cons]
    refine ⟨fun hm => ?_, c.nd⟩
    obtain ⟨x, hx, e⟩ := List.mem_map.mp hm
    have := c.at' x hx
    rw [e, h] at this
    cases this
  · rcases List.mem_cons.mp hx with rfl | hx
    · exact updW_same
    · have := c.at' x hx
      rw [updW_ne (fun e => by rw [e, h] at this; cases this)]
      exact this
theorem Cells.upd' (c : Cells H (A ++ (a, o) :: B)) : Cells (updW H a o') (A ++ (a, o') :: B) := by
  have nd := c.nd
  refine ⟨by simpa using nd, fun x hx => ?_⟩
  rw [List.map_append, List.map_cons, List.nodup_append, List.nodup_cons] at nd
  obtain ⟨n1, ⟨n2, n3⟩, n4⟩ := nd
  rcases List.mem_append.mp hx with h | h
  · have e : x.1 ≠ a := n4 x.1 (List.mem_map.mpr ⟨x, h, rfl⟩) a (List.mem_cons_self ..)
    rw [updW_ne e]
    exact c.at' x (List.mem_append_left _ h)
  · rcases List.mem_cons.mp h with rfl | h
    · exact updW_same
    · have e : x.1 ≠ a := fun e => n2 (by rw [← e]; exact List.mem_map.mpr ⟨x, h, rfl⟩)
      rw [updW_ne e]
      exact c.at' x (List.mem_append_right _ (List.mem_cons_of_mem _ h))
instance (priority := low) Cells.new [c : Cells H L] [h : Fresh H a] : Cells (updW H a o) ((a, o) :: L) := Cells.new' c h.h
instance Cells.upd [c : Cells H L] [u : UpdC a o' L L'] : Cells (updW H a o') L' := by
  obtain ⟨A, o, B, e1, e2⟩ := u.ok
  rw [e1] at c
  rw [e2]
  exact c.upd'
theorem Cells.perm (c : Cells H L) (p : L.Perm L') : Cells H L' := ⟨(p.map _).nodup_iff.mp c.nd, fun x hx => c.at' x (p.mem_iff.mpr hx)⟩
theorem Cells.sub (c : Cells H L) (s : L'.Sublist L) : Cells H L' := ⟨(s.map _).nodup c.nd, fun x hx => c.at' x (s.mem hx)⟩
theorem Cells.ne (c : Cells H L) (i : (a, o) ∈ L) {b : Addr} (h : H b = none) : b ≠ a := fun e => by
  have := c.at' _ i
  rw [← e, h] at this
  cases this
theorem Fresh.upd [c : Cells H L] [i : InC a o L] [h : Fresh H b] : Fresh (updW H a o') b := ⟨by rw [updW_ne (c.ne i.mem h.h)]; exact h.h⟩
end
/-! ### reading and writing fields -/
def handNames : List Str := ["me", "number", "members", "fell", "said", "story", "news", "row", "far", "still", "ballot", "kept", "has", "offer"]
def offNames : List Str := ["ballot", "wish", "answers", "value", "yes"]
def folkNames : List Str := ["many", "hands", "sent"]
class HFld (g : Gm) (C : Addr) : Prop where
  all : ∀ f ∈ handNames, g.fld C f
class OFld (g : Gm) (C : Addr) : Prop where
  all : ∀ f ∈ offNames, g.fld C f
class FFld (g : Gm) (C : Addr) : Prop where
  all : ∀ f ∈ folkNames, g.fld C f
def folkF (s : Addr) (ls : List HandL) (f : Folk) : List (Str × W) := [("many", .int f.many), ("hands", .fls (ls.map fun l => .ref l.a)), ("sent", .ref s)]
section
variable {g : Gm} {C a : Addr} {fs fs' : List (Str × W)} {f m : Str} {w y : W} {H : Hw} {Q : KW} {K : Hw → Prop}
theorem fldo_of [h : At H a (.ins C fs)] (hg : g.fld C f) (hl : fs.lookup f = some w) : fldo g H a f Q = Q w H := by
  unfold fldo
  refine propext ⟨fun ⟨C', fs', e, _, w', e2, q⟩ => ?_, fun q => ⟨C, fs, h.h, hg, w, hl, q⟩⟩
  rw [h.h] at e
  cases e
  rw [hl] at e2
  cases e2
  exact q
theorem fseto_of [h : At H a (.ins C fs)] (hg : g.fld C f) (hn : fs.length < 1000) (hl : putFW f y fs = fs') : fseto g H a f y K = K (updW H a (.ins C fs')) := by
  unfold fseto
  refine propext ⟨fun ⟨C', fs', e, _, _, q⟩ => ?_, fun q => ⟨C, fs, h.h, hg, hn, by rw [hl]; exact q⟩⟩
  rw [h.h] at e
  cases e
  rw [hl] at q
  exact q
theorem mtho_of {sp : SpW} {K : SpW → Prop} [h : At H a (.ins C fs)] (hm : g.mth C m sp) (hl : fs.lookup m = none) (q : K sp) : mtho g H a m K := ⟨C, fs, h.h, sp, hm, hl, q⟩
end
section
theorem hand_lt {l : HandL} {h : Hand} : (handF l h).length < 1000 := by show 14 < 1000; decide
theorem h_me {g : Gm} {C a : Addr} {l : HandL} {h : Hand} {H : Hw} {Q : KW} [At H a (.ins C (handF l h))] [HFld g C] : fldo g H a "me" Q = Q (.int h.me) H := fldo_of (C := C) (fs := handF l h) (HFld.all _ (by decide)) rfl
theorem h_number {g : Gm} {C a : Addr} {l : HandL} {h : Hand} {H : Hw} {Q : KW} [At H a (.ins C (handF l h))] [HFld g C] : fldo g H a "number" Q = Q (.int h.number) H := fldo_of (C := C) (fs := handF l h) (HFld.all _ (by decide)) rfl
theorem h_members {g : Gm} {C a : Addr} {l : HandL} {h : Hand} {H : Hw} {Q : KW} [At H a (.ins C (handF l h))] [HFld g C] : fldo g H a "members" Q = Q (.fls (intsW h.members)) H := fldo_of (C := C) (fs := handF l h) (HFld.all _ (by decide)) rfl
theorem h_fell {g : Gm} {C a : Addr} {l : HandL} {h : Hand} {H : Hw} {Q : KW} [At H a (.ins C (handF l h))] [HFld g C] : fldo g H a "fell" Q = Q (.bl h.fell) H := fldo_of (C := C) (fs := handF l h) (HFld.all _ (by decide)) rfl
theorem h_said {g : Gm} {C a : Addr} {l : HandL} {h : Hand} {H : Hw} {Q : KW} [At H a (.ins C (handF l h))] [HFld g C] : fldo g H a "said" Q = Q (.int h.said) H := fldo_of (C := C) (fs := handF l h) (HFld.all _ (by decide)) rfl
theorem h_story {g : Gm} {C a : Addr} {l : HandL} {h : Hand} {H : Hw} {Q : KW} [At H a (.ins C (handF l h))] [HFld g C] : fldo g H a "story" Q = Q (.ref l.s) H := fldo_of (C := C) (fs := handF l h) (HFld.all _ (by decide)) rfl
theorem h_news {g : Gm} {C a : Addr} {l : HandL} {h : Hand} {H : Hw} {Q : KW} [At H a (.ins C (handF l h))] [HFld g C] : fldo g H a "news" Q = Q (newsW h.news) H := fldo_of (C := C) (fs := handF l h) (HFld.all _ (by decide)) rfl
theorem h_row {g : Gm} {C a : Addr} {l : HandL} {h : Hand} {H : Hw} {Q : KW} [At H a (.ins C (handF l h))] [HFld g C] : fldo g H a "row" Q = Q (.ref l.r) H := fldo_of (C := C) (fs := handF l h) (HFld.all _ (by decide)) rfl
theorem h_far {g : Gm} {C a : Addr} {l : HandL} {h : Hand} {H : Hw} {Q : KW} [At H a (.ins C (handF l h))] [HFld g C] : fldo g H a "far" Q = Q (.int h.far) H := fldo_of (C := C) (fs := handF l h) (HFld.all _ (by decide)) rfl
theorem h_still {g : Gm} {C a : Addr} {l : HandL} {h : Hand} {H : Hw} {Q : KW} [At H a (.ins C (handF l h))] [HFld g C] : fldo g H a "still" Q = Q (.bl h.still) H := fldo_of (C := C) (fs := handF l h) (HFld.all _ (by decide)) rfl
theorem h_ballot {g : Gm} {C a : Addr} {l : HandL} {h : Hand} {H : Hw} {Q : KW} [At H a (.ins C (handF l h))] [HFld g C] : fldo g H a "ballot" Q = Q (balW h.ballot) H := fldo_of (C := C) (fs := handF l h) (HFld.all _ (by decide)) rfl
theorem h_kept {g : Gm} {C a : Addr} {l : HandL} {h : Hand} {H : Hw} {Q : KW} [At H a (.ins C (handF l h))] [HFld g C] : fldo g H a "kept" Q = Q (keptW h.kept) H := fldo_of (C := C) (fs := handF l h) (HFld.all _ (by decide)) rfl
theorem h_has {g : Gm} {C a : Addr} {l : HandL} {h : Hand} {H : Hw} {Q : KW} [At H a (.ins C (handF l h))] [HFld g C] : fldo g H a "has" Q = Q (.ref l.d) H := fldo_of (C := C) (fs := handF l h) (HFld.all _ (by decide)) rfl
theorem h_offer {g : Gm} {C a : Addr} {l : HandL} {h : Hand} {H : Hw} {Q : KW} [At H a (.ins C (handF l h))] [HFld g C] : fldo g H a "offer" Q = Q (offR l h.offer) H := fldo_of (C := C) (fs := handF l h) (HFld.all _ (by decide)) rfl
theorem hs_number {g : Gm} {C a : Addr} {l : HandL} {h : Hand} {H : Hw} {K : Hw → Prop} [At H a (.ins C (handF l h))] [HFld g C] {i : Int} : fseto g H a "number" (.int i) K = K (updW H a (.ins C (handF l { h with number := i }))) := fseto_of (C := C) (fs := handF l h) (HFld.all _ (by decide)) hand_lt rfl
theorem hs_members {g : Gm} {C a : Addr} {l : HandL} {h : Hand} {H : Hw} {K : Hw → Prop} [At H a (.ins C (handF l h))] [HFld g C] {i : List Int} : fseto g H a "members" (.fls (intsW i)) K = K (updW H a (.ins C (handF l { h with members := i }))) := fseto_of (C := C) (fs := handF l h) (HFld.all _ (by decide)) hand_lt rfl
theorem hs_membersN {g : Gm} {C a : Addr} {l : HandL} {h : Hand} {H : Hw} {K : Hw → Prop} [At H a (.ins C (handF l h))] [HFld g C]  : fseto g H a "members" (.fls []) K = K (updW H a (.ins C (handF l { h with members := [] }))) := fseto_of (C := C) (fs := handF l h) (HFld.all _ (by decide)) hand_lt rfl
theorem hs_fell {g : Gm} {C a : Addr} {l : HandL} {h : Hand} {H : Hw} {K : Hw → Prop} [At H a (.ins C (handF l h))] [HFld g C] {i : Bool} : fseto g H a "fell" (.bl i) K = K (updW H a (.ins C (handF l { h with fell := i }))) := fseto_of (C := C) (fs := handF l h) (HFld.all _ (by decide)) hand_lt rfl
theorem hs_said {g : Gm} {C a : Addr} {l : HandL} {h : Hand} {H : Hw} {K : Hw → Prop} [At H a (.ins C (handF l h))] [HFld g C] {i : Int} : fseto g H a "said" (.int i) K = K (updW H a (.ins C (handF l { h with said := i }))) := fseto_of (C := C) (fs := handF l h) (HFld.all _ (by decide)) hand_lt rfl
theorem hs_story {g : Gm} {C a : Addr} {l : HandL} {h : Hand} {H : Hw} {K : Hw → Prop} [At H a (.ins C (handF l h))] [HFld g C] {p : Addr} : fseto g H a "story" (.ref p) K = K (updW H a (.ins C (handF { l with s := p } h))) := fseto_of (C := C) (fs := handF l h) (HFld.all _ (by decide)) hand_lt rfl
theorem hs_news {g : Gm} {C a : Addr} {l : HandL} {h : Hand} {H : Hw} {K : Hw → Prop} [At H a (.ins C (handF l h))] [HFld g C] {n : Option News} : fseto g H a "news" (newsW n) K = K (updW H a (.ins C (handF l { h with news := n }))) := fseto_of (C := C) (fs := handF l h) (HFld.all _ (by decide)) hand_lt rfl
theorem hs_row {g : Gm} {C a : Addr} {l : HandL} {h : Hand} {H : Hw} {K : Hw → Prop} [At H a (.ins C (handF l h))] [HFld g C] {p : Addr} : fseto g H a "row" (.ref p) K = K (updW H a (.ins C (handF { l with r := p } h))) := fseto_of (C := C) (fs := handF l h) (HFld.all _ (by decide)) hand_lt rfl
theorem hs_far {g : Gm} {C a : Addr} {l : HandL} {h : Hand} {H : Hw} {K : Hw → Prop} [At H a (.ins C (handF l h))] [HFld g C] {i : Int} : fseto g H a "far" (.int i) K = K (updW H a (.ins C (handF l { h with far := i }))) := fseto_of (C := C) (fs := handF l h) (HFld.all _ (by decide)) hand_lt rfl
theorem hs_still {g : Gm} {C a : Addr} {l : HandL} {h : Hand} {H : Hw} {K : Hw → Prop} [At H a (.ins C (handF l h))] [HFld g C] {i : Bool} : fseto g H a "still" (.bl i) K = K (updW H a (.ins C (handF l { h with still := i }))) := fseto_of (C := C) (fs := handF l h) (HFld.all _ (by decide)) hand_lt rfl
theorem hs_ballot {g : Gm} {C a : Addr} {l : HandL} {h : Hand} {H : Hw} {K : Hw → Prop} [At H a (.ins C (handF l h))] [HFld g C] {i : Bal} : fseto g H a "ballot" (balW i) K = K (updW H a (.ins C (handF l { h with ballot := i }))) := fseto_of (C := C) (fs := handF l h) (HFld.all _ (by decide)) hand_lt rfl
theorem hs_kept {g : Gm} {C a : Addr} {l : HandL} {h : Hand} {H : Hw} {K : Hw → Prop} [At H a (.ins C (handF l h))] [HFld g C] {i : Kept} : fseto g H a "kept" (keptW i) K = K (updW H a (.ins C (handF l { h with kept := i }))) := fseto_of (C := C) (fs := handF l h) (HFld.all _ (by decide)) hand_lt rfl
theorem hs_has {g : Gm} {C a : Addr} {l : HandL} {h : Hand} {H : Hw} {K : Hw → Prop} [At H a (.ins C (handF l h))] [HFld g C] {p : Addr} : fseto g H a "has" (.ref p) K = K (updW H a (.ins C (handF { l with d := p } h))) := fseto_of (C := C) (fs := handF l h) (HFld.all _ (by decide)) hand_lt rfl
theorem hs_offerN {g : Gm} {C a : Addr} {l : HandL} {h : Hand} {H : Hw} {K : Hw → Prop} [At H a (.ins C (handF l h))] [HFld g C]  : fseto g H a "offer" (.non) K = K (updW H a (.ins C (handF l { h with offer := none }))) := fseto_of (C := C) (fs := handF l h) (HFld.all _ (by decide)) hand_lt rfl
theorem hs_offer {g : Gm} {C a : Addr} {l : HandL} {h : Hand} {H : Hw} {K : Hw → Prop} [At H a (.ins C (handF l h))] [HFld g C] {p : Addr} (f : Off) : fseto g H a "offer" (.ref p) K = K (updW H a (.ins C (handF { l with o := p } { h with offer := some f }))) := fseto_of (C := C) (fs := handF l h) (HFld.all _ (by decide)) hand_lt rfl
end
section
theorem off_lt {l : HandL} {f : Off} : (offF l f).length < 1000 := by show 5 < 1000; decide
theorem of_ballot {g : Gm} {C a : Addr} {l : HandL} {f : Off} {H : Hw} {Q : KW} [At H a (.ins C (offF l f))] [OFld g C] : fldo g H a "ballot" Q = Q (balW f.ballot) H := fldo_of (C := C) (fs := offF l f) (OFld.all _ (by decide)) rfl
theorem of_wish {g : Gm} {C a : Addr} {l : HandL} {f : Off} {H : Hw} {Q : KW} [At H a (.ins C (offF l f))] [OFld g C] : fldo g H a "wish" Q = Q (.fls (intsW f.wish)) H := fldo_of (C := C) (fs := offF l f) (OFld.all _ (by decide)) rfl
theorem of_answers {g : Gm} {C a : Addr} {l : HandL} {f : Off} {H : Hw} {Q : KW} [At H a (.ins C (offF l f))] [OFld g C] : fldo g H a "answers" Q = Q (.ref l.n) H := fldo_of (C := C) (fs := offF l f) (OFld.all _ (by decide)) rfl
theorem of_value {g : Gm} {C a : Addr} {l : HandL} {f : Off} {H : Hw} {Q : KW} [At H a (.ins C (offF l f))] [OFld g C] : fldo g H a "value" Q = Q (valOW f.value) H := fldo_of (C := C) (fs := offF l f) (OFld.all _ (by decide)) rfl
theorem of_yes {g : Gm} {C a : Addr} {l : HandL} {f : Off} {H : Hw} {Q : KW} [At H a (.ins C (offF l f))] [OFld g C] : fldo g H a "yes" Q = Q (.ref l.y) H := fldo_of (C := C) (fs := offF l f) (OFld.all _ (by decide)) rfl
theorem os_value {g : Gm} {C a : Addr} {l : HandL} {f : Off} {H : Hw} {K : Hw → Prop} [At H a (.ins C (offF l f))] [OFld g C] {v : Val} : fseto g H a "value" v.v K = K (updW H a (.ins C (offF l { f with value := some v }))) := fseto_of (C := C) (fs := offF l f) (OFld.all _ (by decide)) off_lt rfl
end
section
theorem ff_many {g : Gm} {C a s : Addr} {ls : List HandL} {f : Folk} {H : Hw} {Q : KW} [At H a (.ins C (folkF s ls f))] [FFld g C] : fldo g H a "many" Q = Q (.int f.many) H := fldo_of (C := C) (fs := folkF s ls f) (FFld.all _ (by decide)) rfl
theorem ff_hands {g : Gm} {C a s : Addr} {ls : List HandL} {f : Folk} {H : Hw} {Q : KW} [At H a (.ins C (folkF s ls f))] [FFld g C] : fldo g H a "hands" Q = Q (.fls (ls.map fun l => .ref l.a)) H := fldo_of (C := C) (fs := folkF s ls f) (FFld.all _ (by decide)) rfl
theorem ff_sent {g : Gm} {C a s : Addr} {ls : List HandL} {f : Folk} {H : Hw} {Q : KW} [At H a (.ins C (folkF s ls f))] [FFld g C] : fldo g H a "sent" Q = Q (.ref s) H := fldo_of (C := C) (fs := folkF s ls f) (FFld.all _ (by decide)) rfl
end
/-! ### objects that are being made -/
def handP (n : Nat) (l : HandL) (h : Hand) : List (Str × W) := (handF l h).take n
def offP (n : Nat) (l : HandL) (f : Off) : List (Str × W) := (offF l f).take n
def folkP (n : Nat) (s : Addr) (ls : List HandL) (f : Folk) : List (Str × W) := (folkF s ls f).take n
theorem hp_me {g : Gm} {C a : Addr} {l : HandL} {h : Hand} {H : Hw} {K : Hw → Prop} {i : Int} [At H a (.ins C (handP 0 l h))] [HFld g C] : fseto g H a "me" (.int i) K = K (updW H a (.ins C (handP 1 l { h with me := i }))) := fseto_of (C := C) (fs := handP 0 l h) (HFld.all _ (by decide)) (by show 0 < 1000; decide) rfl
theorem hq_me {g : Gm} {C a : Addr} {l : HandL} {h : Hand} {H : Hw} {Q : KW} [At H a (.ins C (handP 7 l h))] [HFld g C] : fldo g H a "me" Q = Q (.int h.me) H := fldo_of (C := C) (fs := handP 7 l h) (HFld.all _ (by decide)) rfl
theorem hp_number {g : Gm} {C a : Addr} {l : HandL} {h : Hand} {H : Hw} {K : Hw → Prop} {i : Int} [At H a (.ins C (handP 1 l h))] [HFld g C] : fseto g H a "number" (.int i) K = K (updW H a (.ins C (handP 2 l { h with number := i }))) := fseto_of (C := C) (fs := handP 1 l h) (HFld.all _ (by decide)) (by show 1 < 1000; decide) rfl
theorem hp_members {g : Gm} {C a : Addr} {l : HandL} {h : Hand} {H : Hw} {K : Hw → Prop} {i : List Int} [At H a (.ins C (handP 2 l h))] [HFld g C] : fseto g H a "members" (.fls (intsW i)) K = K (updW H a (.ins C (handP 3 l { h with members := i }))) := fseto_of (C := C) (fs := handP 2 l h) (HFld.all _ (by decide)) (by show 2 < 1000; decide) rfl
theorem hp_fell {g : Gm} {C a : Addr} {l : HandL} {h : Hand} {H : Hw} {K : Hw → Prop} {i : Bool} [At H a (.ins C (handP 3 l h))] [HFld g C] : fseto g H a "fell" (.bl i) K = K (updW H a (.ins C (handP 4 l { h with fell := i }))) := fseto_of (C := C) (fs := handP 3 l h) (HFld.all _ (by decide)) (by show 3 < 1000; decide) rfl
theorem hp_said {g : Gm} {C a : Addr} {l : HandL} {h : Hand} {H : Hw} {K : Hw → Prop} {i : Int} [At H a (.ins C (handP 4 l h))] [HFld g C] : fseto g H a "said" (.int i) K = K (updW H a (.ins C (handP 5 l { h with said := i }))) := fseto_of (C := C) (fs := handP 4 l h) (HFld.all _ (by decide)) (by show 4 < 1000; decide) rfl
theorem hp_story {g : Gm} {C a : Addr} {l : HandL} {h : Hand} {H : Hw} {K : Hw → Prop} {p : Addr} [At H a (.ins C (handP 5 l h))] [HFld g C] : fseto g H a "story" (.ref p) K = K (updW H a (.ins C (handP 6 { l with s := p } h))) := fseto_of (C := C) (fs := handP 5 l h) (HFld.all _ (by decide)) (by show 5 < 1000; decide) rfl
theorem hp_news {g : Gm} {C a : Addr} {l : HandL} {h : Hand} {H : Hw} {K : Hw → Prop}  [At H a (.ins C (handP 6 l h))] [HFld g C] : fseto g H a "news" (.non) K = K (updW H a (.ins C (handP 7 l { h with news := none }))) := fseto_of (C := C) (fs := handP 6 l h) (HFld.all _ (by decide)) (by show 6 < 1000; decide) rfl
theorem hp_row {g : Gm} {C a : Addr} {l : HandL} {h : Hand} {H : Hw} {K : Hw → Prop} {p : Addr} [At H a (.ins C (handP 7 l h))] [HFld g C] : fseto g H a "row" (.ref p) K = K (updW H a (.ins C (handP 8 { l with r := p } h))) := fseto_of (C := C) (fs := handP 7 l h) (HFld.all _ (by decide)) (by show 7 < 1000; decide) rfl
theorem hp_far {g : Gm} {C a : Addr} {l : HandL} {h : Hand} {H : Hw} {K : Hw → Prop} {i : Int} [At H a (.ins C (handP 8 l h))] [HFld g C] : fseto g H a "far" (.int i) K = K (updW H a (.ins C (handP 9 l { h with far := i }))) := fseto_of (C := C) (fs := handP 8 l h) (HFld.all _ (by decide)) (by show 8 < 1000; decide) rfl
theorem hp_still {g : Gm} {C a : Addr} {l : HandL} {h : Hand} {H : Hw} {K : Hw → Prop} {i : Bool} [At H a (.ins C (handP 9 l h))] [HFld g C] : fseto g H a "still" (.bl i) K = K (updW H a (.ins C (handP 10 l { h with still := i }))) := fseto_of (C := C) (fs := handP 9 l h) (HFld.all _ (by decide)) (by show 9 < 1000; decide) rfl
theorem hp_ballot {g : Gm} {C a : Addr} {l : HandL} {h : Hand} {H : Hw} {K : Hw → Prop} {i : Bal} [At H a (.ins C (handP 10 l h))] [HFld g C] : fseto g H a "ballot" (balW i) K = K (updW H a (.ins C (handP 11 l { h with ballot := i }))) := fseto_of (C := C) (fs := handP 10 l h) (HFld.all _ (by decide)) (by show 10 < 1000; decide) rfl
theorem hp_kept {g : Gm} {C a : Addr} {l : HandL} {h : Hand} {H : Hw} {K : Hw → Prop}  [At H a (.ins C (handP 11 l h))] [HFld g C] : fseto g H a "kept" (.non) K = K (updW H a (.ins C (handP 12 l { h with kept := none }))) := fseto_of (C := C) (fs := handP 11 l h) (HFld.all _ (by decide)) (by show 11 < 1000; decide) rfl
theorem hp_has {g : Gm} {C a : Addr} {l : HandL} {h : Hand} {H : Hw} {K : Hw → Prop} {p : Addr} [At H a (.ins C (handP 12 l h))] [HFld g C] : fseto g H a "has" (.ref p) K = K (updW H a (.ins C (handP 13 { l with d := p } h))) := fseto_of (C := C) (fs := handP 12 l h) (HFld.all _ (by decide)) (by show 12 < 1000; decide) rfl
theorem hp_offer {g : Gm} {C a : Addr} {l : HandL} {h : Hand} {H : Hw} {K : Hw → Prop}  [At H a (.ins C (handP 13 l h))] [HFld g C] : fseto g H a "offer" (.non) K = K (updW H a (.ins C (handF l { h with offer := none }))) := fseto_of (C := C) (fs := handP 13 l h) (HFld.all _ (by decide)) (by show 13 < 1000; decide) rfl
theorem op_ballot {g : Gm} {C a : Addr} {l : HandL} {f : Off} {H : Hw} {K : Hw → Prop} {b : Bal} [At H a (.ins C (offP 0 l f))] [OFld g C] : fseto g H a "ballot" (balW b) K = K (updW H a (.ins C (offP 1 l { f with ballot := b }))) := fseto_of (C := C) (fs := offP 0 l f) (OFld.all _ (by decide)) (by show 0 < 1000; decide) rfl
theorem op_wish {g : Gm} {C a : Addr} {l : HandL} {f : Off} {H : Hw} {K : Hw → Prop} {b : List Int} [At H a (.ins C (offP 1 l f))] [OFld g C] : fseto g H a "wish" (.fls (intsW b)) K = K (updW H a (.ins C (offP 2 l { f with wish := b }))) := fseto_of (C := C) (fs := offP 1 l f) (OFld.all _ (by decide)) (by show 1 < 1000; decide) rfl
theorem op_answers {g : Gm} {C a : Addr} {l : HandL} {f : Off} {H : Hw} {K : Hw → Prop} {p : Addr} [At H a (.ins C (offP 2 l f))] [OFld g C] : fseto g H a "answers" (.ref p) K = K (updW H a (.ins C (offP 3 { l with n := p } f))) := fseto_of (C := C) (fs := offP 2 l f) (OFld.all _ (by decide)) (by show 2 < 1000; decide) rfl
theorem op_value {g : Gm} {C a : Addr} {l : HandL} {f : Off} {H : Hw} {K : Hw → Prop}  [At H a (.ins C (offP 3 l f))] [OFld g C] : fseto g H a "value" (.non) K = K (updW H a (.ins C (offP 4 l { f with value := none }))) := fseto_of (C := C) (fs := offP 3 l f) (OFld.all _ (by decide)) (by show 3 < 1000; decide) rfl
theorem op_yes {g : Gm} {C a : Addr} {l : HandL} {f : Off} {H : Hw} {K : Hw → Prop} {p : Addr} [At H a (.ins C (offP 4 l f))] [OFld g C] : fseto g H a "yes" (.ref p) K = K (updW H a (.ins C (offF { l with y := p } f))) := fseto_of (C := C) (fs := offP 4 l f) (OFld.all _ (by decide)) (by show 4 < 1000; decide) rfl
theorem fp_many {g : Gm} {C a s : Addr} {ls : List HandL} {f : Folk} {H : Hw} {K : Hw → Prop} {i : Int} [At H a (.ins C (folkP 0 s ls f))] [FFld g C] : fseto g H a "many" (.int i) K = K (updW H a (.ins C (folkP 1 s ls { f with many := i }))) := fseto_of (C := C) (fs := folkP 0 s ls f) (FFld.all _ (by decide)) (by show 0 < 1000; decide) rfl
theorem fp_hands {g : Gm} {C a s : Addr} {ls : List HandL} {f : Folk} {H : Hw} {K : Hw → Prop} (ls' : List HandL) [At H a (.ins C (folkP 1 s ls f))] [FFld g C] : fseto g H a "hands" (.fls (ls'.map fun l => .ref l.a)) K = K (updW H a (.ins C (folkP 2 s ls' f))) := fseto_of (C := C) (fs := folkP 1 s ls f) (FFld.all _ (by decide)) (by show 1 < 1000; decide) rfl
theorem fp_sent {g : Gm} {C a s : Addr} {ls : List HandL} {f : Folk} {H : Hw} {K : Hw → Prop} {p : Addr} [At H a (.ins C (folkP 2 s ls f))] [FFld g C] : fseto g H a "sent" (.ref p) K = K (updW H a (.ins C (folkF p ls f))) := fseto_of (C := C) (fs := folkP 2 s ls f) (FFld.all _ (by decide)) (by show 2 < 1000; decide) rfl
theorem hs_keptS {g : Gm} {C a : Addr} {l : HandL} {h : Hand} {H : Hw} {K : Hw → Prop} {b : Bal} {v : Val} [At H a (.ins C (handF l h))] [HFld g C] : fseto g H a "kept" (.tup [balW b, v.v]) K = K (updW H a (.ins C (handF l { h with kept := some (b, v) }))) := fseto_of (C := C) (fs := handF l h) (HFld.all _ (by decide)) hand_lt rfl
theorem hs_newsS {g : Gm} {C a : Addr} {l : HandL} {h : Hand} {H : Hw} {K : Hw → Prop} {n : News} [At H a (.ins C (handF l h))] [HFld g C] : fseto g H a "news" n.v K = K (updW H a (.ins C (handF l { h with news := some n }))) := fseto_of (C := C) (fs := handF l h) (HFld.all _ (by decide)) hand_lt rfl
end WL

/-! ## What each def of the program does, over plain data -/
namespace WL
open PySem L2

/-- rising -/
def insI (x : Int) : List Int → List Int
  | [] => [x]
  | y :: r => if x ≤ y then x :: y :: r else y :: insI x r
def sortI : List Int → List Int
  | [] => []
  | x :: r => insI x (sortI r)
def maxL (l : List Int) : Int := l.foldl max (l.headD 0)
def getK {α : Type} (l : List (Int × α)) (x : Int) : Option α := (l.find? fun kv => decide (kv.1 = x)).map (·.2)
def putA {α : Type} (l : List (Int × α)) (x : Int) (v : α) : List (Int × α) := if l.any (fun kv => decide (kv.1 = x)) then l.map fun kv => if kv.1 = x then (kv.1, v) else kv else l ++ [(x, v)]
def enoughOf (l : List Int) : Nat := l.length / 2 + 1
def ltB (a b : Bal) : Bool := decide (a.1 < b.1 ∨ (a.1 = b.1 ∧ a.2 < b.2))
def leB (a b : Bal) : Bool := decide (a.1 < b.1 ∨ (a.1 = b.1 ∧ a.2 ≤ b.2))

namespace Hand
def within (h : Hand) : Bool := decide (h.me ∈ h.members)
def ltrs (h : Hand) (ts : List Int) (b : Body) : List Letter := ts.map fun t => ⟨h.me, t, h.number, b⟩
def others (h : Hand) : List Int := h.members.filter fun x => !decide (x = h.me)
def begin' (h : Hand) : Hand := { h with row := [], far := 0, still := false, ballot := (0, -1), kept := none, has := [], offer := none }
def init (me : Int) (ms : List Int) : Hand := ⟨me, if me ∈ ms then 0 else -1, if me ∈ ms then ms else [], false, 0, [], none, [], 0, false, (0, -1), none, [], none⟩
def say (h : Hand) (w : Str) : Hand × List Letter := ({ h with said := h.said + 1 }, h.ltrs [h.members.headD 0] (.wish ⟨h.me, h.said, w⟩))
def press (h : Hand) : List Letter := ((List.range h.row.length).zip h.row).flatMap (fun x => h.ltrs h.others (.hold x.1 x.2)) ++ h.ltrs h.others (.take h.far)
def ahead (h : Hand) : Int := match h.offer with
  | none => h.ballot.1
  | some f => max h.ballot.1 f.ballot.1
def propose (h : Hand) (ws : List Int) : Hand × List Letter :=
  let b : Bal := (h.ahead + 1, h.me)
  ({ h with offer := some ⟨b, ws, [], none, []⟩ }, h.ltrs h.members (.prepare b))
def counts (h : Hand) : List Int := sortI ((h.row.length : Int) :: h.others.map fun x => (getK h.has x).getD 0)
def count (h : Hand) : Int := h.counts.getD (h.counts.length - enoughOf h.members) 0
def settled (h : Hand) : Hand × List Letter := if h.count ≤ h.far then (h, []) else ({ h with far := h.count }, h.ltrs h.others (.take h.count))
def wished (h : Hand) (m : Msg) : Hand × List Letter :=
  if h.me ≠ h.members.headD 0 ∨ h.still = true ∨ m ∈ h.row then (h, []) else
  let h1 := { h with row := h.row ++ [m] }
  (h1.settled.1, h.ltrs h.others (.hold h.row.length m) ++ h1.settled.2)
def holds (h : Hand) (src p : Int) (m : Msg) : Hand × List Letter :=
  if h.still = true ∨ (h.row.length : Int) < p then (h, []) else
  let h1 := if p = h.row.length then { h with row := h.row ++ [m] } else h
  (h1, h.ltrs [src] (.have' h1.row.length))
def heard (h : Hand) (src n : Int) : Hand × List Letter := { h with has := putA h.has src (max ((getK h.has src).getD 0) n) }.settled
def taken (h : Hand) (n : Int) : Hand := { h with far := max h.far (min n h.row.length) }
def prepared (h : Hand) (src : Int) (b : Bal) : Hand × List Letter :=
  if leB b h.ballot = true then (h, []) else ({ h with ballot := b, still := true }, h.ltrs [src] (.promise b h.row h.kept))
def pickGo (as : List (Int × Ans)) : List Int → Bal → Val → Val
  | [], _, v => v
  | k :: ks, best, v => match (getK as k).bind (·.kept) with
    | none => pickGo as ks best v
    | some (kb, kv) => if ltB best kb = true then pickGo as ks kb kv else pickGo as ks best v
def pick (f : Off) : Val :=
  let ks := sortI (f.answers.map (·.1))
  pickGo f.answers ks (0, -1) ⟨f.wish, longestOf (ks.map fun k => ((getK f.answers k).map (·.row)).getD [])⟩
def promised (h : Hand) (src : Int) (b : Bal) (row : List Msg) (kept : Kept) : Hand × List Letter := match h.offer with
  | none => (h, [])
  | some f =>
    if f.ballot ≠ b ∨ f.value.isSome = true ∨ src ∈ f.answers.map (·.1) then (h, []) else
    let f1 := { f with answers := f.answers ++ [(src, ⟨b, row, kept⟩)] }
    if f1.answers.length < enoughOf h.members then ({ h with offer := some f1 }, []) else
    ({ h with offer := some { f1 with value := some (pick f1) } }, h.ltrs h.members (.accept f.ballot (pick f1)))
def accepted (h : Hand) (src : Int) (b : Bal) (v : Val) : Hand × List Letter :=
  if ltB b h.ballot = true then (h, []) else ({ h with ballot := b, still := true, kept := some (b, v) }, h.ltrs [src] (.agree b))
def told (ms ws : List Int) : List Int := ((List.range (1 + maxL (ms ++ ws)).toNat).map fun (k : Nat) => (k : Int)).filter fun x => decide (x ∈ ms) || decide (x ∈ ws)
def agreed (h : Hand) (src : Int) (b : Bal) : Hand × List Letter := match h.offer with
  | none => (h, [])
  | some f => match f.value with
    | none => (h, [])
    | some v =>
      if f.ballot ≠ b ∨ src ∈ f.yes then (h, []) else
      let f1 := { f with yes := f.yes ++ [src] }
      if f1.yes.length ≠ enoughOf h.members then ({ h with offer := some f1 }, []) else
      ({ h with offer := some f1 }, h.ltrs (told h.members v.hands) (.enter ⟨h.number + 1, v.hands, v.row, sortI f1.yes⟩))
def goesOn (h : Hand) (n : News) : Bool := h.within && decide (n.num = h.number + 1)
def joins (h : Hand) (n : News) : Bool := !h.within && (decide (h.number < n.num) && decide (h.me ∈ n.hands))
def enter (h : Hand) (n : News) : Hand :=
  begin' { h with story := if h.goesOn n = true then h.story ++ [⟨h.number, h.members, n.row⟩] else h.story, number := n.num, members := if h.me ∈ n.hands then n.hands else [], news := some n }
def entered (h : Hand) (n : News) : Hand := if h.goesOn n = true ∨ h.joins n = true then h.enter n else h
def got (h : Hand) (t : Letter) : Hand × List Letter := match t.body with
  | .enter n => (h.entered n, [])
  | b => if h.within = false ∨ t.num ≠ h.number then (h, []) else match b with
    | .wish m => h.wished m
    | .hold p m => h.holds t.src p m
    | .have' n => h.heard t.src n
    | .take n => (h.taken n, [])
    | .prepare b => h.prepared t.src b
    | .promise b r k => h.promised t.src b r k
    | .accept b v => h.accepted t.src b v
    | .agree b => h.agreed t.src b
    | .enter n => (h.entered n, [])
end Hand

/-! ### the folk -/
inductive Refusal where
  | badHand | badList | noLetter | fallen | outside | notFirst | noNews
deriving DecidableEq
def Refusal.name : Refusal → Str
  | .badHand => "BadHand"
  | .badList => "BadList"
  | .noLetter => "NoLetter"
  | .fallen => "Fallen"
  | .outside => "Outside"
  | .notFirst => "NotFirst"
  | .noNews => "NoNews"
namespace Folk
/-- a hand by its number, as the program asks for it: what is no whole number of 0 .. many - 1 is none -/
def idx (f : Folk) (w : W) : Option Nat := match w with
  | .int i => if i < 0 ∨ f.many ≤ i then none else some i.toNat
  | _ => none
def one (f : Folk) (w : W) : Except Refusal (Nat × Hand) := match f.idx w with
  | none => .error .badHand
  | some i => match f.hands[i]? with
    | none => .error .badHand
    | some h => .ok (i, h)
def member (f : Folk) (w : W) : Except Refusal (Nat × Hand) := match f.one w with
  | .error e => .error e
  | .ok (i, h) => if h.within = true then .ok (i, h) else .error .outside
def able (f : Folk) (w : W) : Except Refusal (Nat × Hand) := match f.one w with
  | .error e => .error e
  | .ok (i, h) => if h.fell = true then .error .fallen else if h.within = true then .ok (i, h) else .error .outside
/-- hand i does, letters go behind all others -/
def put (f : Folk) (i : Nat) (x : Hand × List Letter) : Folk := { f with hands := f.hands.set i x.1, sent := f.sent ++ x.2 }
def say (f : Folk) (w : W) (x : Str) : Except Refusal Folk := (f.able w).map fun (i, h) => f.put i (h.say x)
def press (f : Folk) (w : W) : Except Refusal Folk := match f.able w with
  | .error e => .error e
  | .ok (i, h) => if h.members.headD 0 ≠ i then .error .notFirst else .ok (f.put i (h, h.press))
def propose (f : Folk) (w : W) (ms : Option (List Int)) : Except Refusal Folk := match f.able w with
  | .error e => .error e
  | .ok (i, h) => match ms with
    | none => .error .badList
    | some ms => .ok (f.put i (h.propose ms))
def show' (f : Folk) (w o : W) : Except Refusal Folk := match f.able w with
  | .error e => .error e
  | .ok (i, h) => match f.one o with
    | .error e => .error e
    | .ok (j, _) => match h.news with
      | none => .error .noNews
      | some n => .ok (f.put i (h, h.ltrs [(j : Int)] (.enter n)))
def fall (f : Folk) (w : W) : Except Refusal Folk := match f.one w with
  | .error e => .error e
  | .ok (i, h) => if h.fell = true then .error .fallen else .ok (f.put i ({ h with fell := true }, []))
/-- a letter's place, as the program asks for it -/
def place (f : Folk) (w : W) : Option Nat := match w with
  | .int i => if i < 0 ∨ (f.sent.length : Int) ≤ i then none else some i.toNat
  | _ => none
/-- letter p comes -/
def comeAt (f : Folk) (p : Nat) : Folk := match f.sent[p]? with
  | none => f
  | some t =>
    let f1 := { f with sent := f.sent.eraseIdx p }
    match f1.hands[t.dst.toNat]? with
    | none => f1
    | some h => if h.fell = true then f1 else f1.put t.dst.toNat (h.got t)
def come (f : Folk) (w : W) : Except Refusal Folk := match f.place w with
  | none => .error .noLetter
  | some p => .ok (f.comeAt p)
def lose (f : Folk) (w : W) : Except Refusal Folk := match f.place w with
  | none => .error .noLetter
  | some p => .ok { f with sent := f.sent.eraseIdx p }
def double (f : Folk) (w : W) : Except Refusal Folk := match f.place w with
  | none => .error .noLetter
  | some p => .ok { f with sent := f.sent ++ (f.sent[p]?).toList }
def letters (f : Folk) : List (Str × Int × Int) := f.sent.map fun t => (t.body.kind, t.src, t.dst)
def init (many : Int) (ms : List Int) : Folk := ⟨many, (List.range many.toNat).map fun (k : Nat) => Hand.init k ms, []⟩
end Folk
end WL

/-! ## Ballots compared -/
namespace WL
open PySem L2
theorem intsT_two {a b : Int} {ns : List Int} (h : intsT (.tup [.int a, .int b]) ns) : ns = [a, b] := by
  have h : [W.int a, W.int b] = ns.map W.int := h
  exact (map_int_inj (l := [a, b]) |>.mp h).symm
theorem leI_two {a b c d : Int} : leI [a, b] [c, d] = leB (a, b) (c, d) := by
  unfold leI leB Ob.lexAt
  by_cases h1 : a = c
  · subst h1
    unfold Ob.lexAt
    by_cases h2 : b = d
    · subst h2
      unfold Ob.lexAt
      simp
    · simp [h2]
  · simp [h1]
    omega
theorem ltI_two {a b c d : Int} : HT.lexLt [a, b] [c, d] = ltB (a, b) (c, d) := by
  unfold ltB
  by_cases h1 : a = c
  · subst h1
    by_cases h2 : b = d
    · subst h2
      simp [HT.lexLt]
    · simp [HT.lexLt, h2]
  · simp [HT.lexLt, h1]
theorem gtI_two {a b c d : Int} : gtI [a, b] [c, d] = ltB (c, d) (a, b) := by
  unfold gtI ltB Ob.lexAt
  by_cases h1 : a = c
  · subst h1
    unfold Ob.lexAt
    by_cases h2 : b = d
    · subst h2
      unfold Ob.lexAt
      simp
    · simp [h2]
  · simp [h1]
    omega
section
variable {H : Hw} {Q : KW} {a b : Bal}
theorem ord_two {f : Int → Int → Bool} {g : List Int → List Int → Bool} : ordW f g (balW a) (balW b) H Q = Q (.bl (g [a.1, a.2] [b.1, b.2])) H := by
  refine propext ⟨fun ⟨ns, ms, h1, h2, q⟩ => ?_, fun q => ⟨[a.1, a.2], [b.1, b.2], rfl, rfl, q⟩⟩
  rw [intsT_two h1, intsT_two h2] at q
  exact q
theorem e_leB : cmpW .LtE (balW a) (balW b) H Q = Q (.bl (leB a b)) H := by
  rw [show cmpW .LtE = ordW (fun i j => decide (i ≤ j)) leI from rfl, ord_two, leI_two]
theorem e_ltB : cmpW .Lt (balW a) (balW b) H Q = Q (.bl (ltB a b)) H := by
  rw [show cmpW .Lt = ordW (fun i j => decide (i < j)) HT.lexLt from rfl, ord_two, ltI_two]
theorem e_gtB : cmpW .Gt (balW a) (balW b) H Q = Q (.bl (ltB b a)) H := by
  rw [show cmpW .Gt = ordW (fun i j => decide (j < i)) gtI from rfl, ord_two, gtI_two]
theorem bal_eqv : PyData.eqvAll (dats [.int a.1, .int a.2]) (dats [.int b.1, .int b.2]) = decide (a = b) := by
  have := eqv_dats [.int a.1, .int a.2] [.int b.1, .int b.2] rfl rfl
  by_cases q : a = b
  · subst q
    rw [this.mpr rfl]
    simp
  · have n : ¬ PyData.eqvAll (dats [.int a.1, .int a.2]) (dats [.int b.1, .int b.2]) = true := fun h => q (by
      have z := this.mp h
      simp only [List.cons.injEq, W.int.injEq, and_true] at z
      exact Prod.ext z.1 z.2)
    simp only [Bool.not_eq_true] at n
    rw [n]
    simp [q]
theorem e_eqBal : cmpW .Eq (balW a) (balW b) H Q = Q (.bl (decide (a = b))) H := by
  show eqW (.tup _) (.tup _) H (fun b => Q (.bl b) H) = _
  rw [eq_tup rfl rfl (by show 0 ≤ 63; decide) (by show 0 ≤ 63; decide), bal_eqv]
theorem e_neBal : cmpW .NotEq (balW a) (balW b) H Q = Q (.bl (!decide (a = b))) H := by
  show eqW (.tup _) (.tup _) H (fun b => Q (.bl (!b)) H) = _
  rw [eq_tup rfl rfl (by show 0 ≤ 63; decide) (by show 0 ≤ 63; decide), bal_eqv]
theorem e_isVal {v : Option Val} : isNon (valOW v) = v.isNone := by cases v <;> rfl
theorem e_isKept {v : Kept} : isNon (keptW v) = v.isNone := by
  cases v with
  | none => rfl
  | some x => rfl
theorem e_isNews {v : Option News} : isNon (newsW v) = v.isNone := by cases v <;> rfl
theorem e_bal0 : ixd (balW a) (.int 0) H Q = Q (.int a.1) H := by
  unfold balW
  rw [e_ixT, at0]
  simp
theorem e_offN {l : HandL} : offR l none = .non := rfl
theorem e_offS {l : HandL} {f : Off} : offR l (some f) = .ref l.o := rfl
end
end WL

local macro_rules | `(tactic| walk_at "s") => `(tactic| try simp only [WL.e_var, WL.e_lit, WL.e_gint, WL.e_lst, WL.e_tup, WL.e_bin, WL.e_neg, WL.e_cmp, WL.e_chn, WL.e_andV, WL.e_orV, WL.e_notV, WL.e_ife, WL.e_fld, WL.e_ix, WL.e_slc, WL.e_rev, WL.e_bcl, WL.e_isi, WL.e_call, WL.e_mk, WL.e_mth, WL.e_app, WL.e_ext, WL.e_pop, WL.e_get1, WL.e_get2, WL.e_setd, WL.e_lcm, WL.e_dnew, WL.e_dct, WL.e_lrng, WL.e_inr, WL.e_nset, WL.e_isiS, WL.e_anil, WL.e_acons, WL.e_pnil, WL.e_pcons, WL.e_ono, WL.e_oso, WL.e_ands, WL.e_ors, WL.e_tnot, WL.e_tru, WL.e_iex, WL.e_ir1, WL.e_ir2, WL.e_ir3, WL.e_uno, WL.e_uso,
  WL.e_set, WL.e_fset, WL.e_iset, WL.e_unp, WL.e_expr, WL.e_ret, WL.e_retN, WL.e_ifs, WL.e_for_, WL.e_whl, WL.e_raise, WL.e_try, WL.e_tryH, WL.e_pass, WL.e_bnil, WL.e_bcons, WL.e_loop0, WL.e_loop1, WL.e_comp0, WL.e_comp1,
  WL.e_addI, WL.e_addS, WL.e_addF, WL.e_addRF, WL.e_addFR, WL.e_addRR, WL.e_sub, WL.e_mulI, WL.e_div, WL.e_mod, WL.e_pow, WL.e_ltI, WL.e_leI, WL.e_gtI, WL.e_geI, WL.e_eqI, WL.e_neI, WL.e_eqS, WL.e_neS, WL.e_eqB, WL.e_neB, WL.e_isN, WL.e_isntN, WL.e_isB, WL.e_isntB, WL.n_non, WL.ns_non, WL.nb_non, WL.n_bl, WL.ns_bl, WL.nb_bl, WL.n_int, WL.ns_int, WL.nb_int, WL.n_str, WL.ns_str, WL.nb_str, WL.n_ref, WL.ns_ref, WL.nb_ref, WL.n_scr, WL.ns_scr, WL.nb_scr, WL.n_tup, WL.ns_tup, WL.nb_tup, WL.n_fls, WL.ns_fls, WL.nb_fls,
  WL.e_len, WL.e_lenF, WL.e_lenT, WL.e_lenS, WL.e_lenX, WL.e_lenR, WL.e_lenL, WL.e_lenD, WL.e_list, WL.e_tuple, WL.e_tupF, WL.e_tupT, WL.e_tupS, WL.e_tupR, WL.e_max2, WL.e_max1, WL.e_min2, WL.e_int1, WL.e_intB, WL.e_intI, WL.e_seqR, WL.e_seqF, WL.e_seqT, WL.e_seqS, WL.q_AR, WL.q_AF, WL.q_AT, WL.q_AS, WL.q_LR, WL.q_LF, WL.q_LS, WL.q_LT, WL.e_seqMR, WL.e_seqMF, WL.e_lsto, WL.e_dcto, WL.e_tyL, WL.e_tyD, WL.e_isL, WL.e_isLF, WL.e_isD, WL.e_ixF, WL.e_ixT, WL.e_ixS, WL.e_ixR, WL.e_ixX, WL.e_ixL, WL.e_ixD, WL.e_isR, WL.e_isD1, WL.e_isL1, WL.e_tyN, WL.e_tyB, WL.e_tyI, WL.e_tyS, WL.e_tyT, WL.e_tyF, WL.e_slF, WL.e_slR, WL.e_slS, WL.e_slT,
  WL.z_non, WL.z_bl, WL.z_int, WL.z_str, WL.z_tup, WL.z_fls, WL.updW_twice, WL.end_nx, WL.end_rt, WL.end_ex, WL.keyW, WL.kb_NoneType_int, WL.kb_NoneType_bool, WL.kb_NoneType_list, WL.kb_NoneType_tuple, WL.kb_NoneType_str, WL.kb_bool_int, WL.kb_bool_bool, WL.kb_bool_list, WL.kb_bool_tuple, WL.kb_bool_str, WL.kb_int_int, WL.kb_int_bool, WL.kb_int_list, WL.kb_int_tuple, WL.kb_int_str, WL.kb_str_int, WL.kb_str_bool, WL.kb_str_list, WL.kb_str_tuple, WL.kb_str_str, WL.kb_tuple_int, WL.kb_tuple_bool, WL.kb_tuple_list, WL.kb_tuple_tuple, WL.kb_tuple_str, WL.kb_list_int, WL.kb_list_bool, WL.kb_list_list, WL.kb_list_tuple, WL.kb_list_str, WL.kb_dict_int, WL.kb_dict_bool, WL.kb_dict_list, WL.kb_dict_tuple, WL.kb_dict_str,
  List.getElem?_cons_zero, List.getElem?_cons_succ, List.set_cons_zero, List.set_cons_succ, List.cons.injEq, List.length_cons, List.length_nil, Option.some.injEq, exists_eq_left, exists_eq_left', exists_eq, exists_eq', and_assoc, exists_and_left, true_and, and_true, false_and, and_false, exists_false, or_false, false_or, WL.W.int.injEq, WL.W.scr.injEq, Int.reduceLE, Int.reduceLT, Int.reduceNeg, WL.W.bl.injEq, WL.W.str.injEq, WL.W.ref.injEq, WL.W.fls.injEq, WL.W.tup.injEq, WL.HW.lst.injEq, WL.HW.dct.injEq, WL.HW.ins.injEq, reduceCtorEq, ↓reduceIte, Bool.false_eq_true, decide_eq_true_eq, Bool.not_true, Bool.not_false, Bool.not_eq_true', decide_eq_false_iff_not, WL.at0, WL.at1, WL.at2, WL.at3, WL.at4, WL.updW_same, WL.p_draw, WL.p_is_whole, WL.p_enough, WL.p_longest, WL.h_me, WL.h_number, WL.h_members, WL.h_fell, WL.h_said, WL.h_story, WL.h_news, WL.h_row, WL.h_far, WL.h_still, WL.h_ballot, WL.h_kept, WL.h_has, WL.h_offer, WL.hs_number, WL.hs_members, WL.hs_membersN, WL.hs_fell, WL.hs_said, WL.hs_story, WL.hs_news, WL.hs_row, WL.hs_far, WL.hs_still, WL.hs_ballot, WL.hs_kept, WL.hs_has, WL.hs_offerN, WL.of_ballot, WL.of_wish, WL.of_answers, WL.of_value, WL.of_yes, WL.os_value, WL.e_leB, WL.e_ltB, WL.e_gtB])
local macro_rules | `(tactic| walk_at "x") => `(tactic| try simp only [WL.e_var, WL.e_lit, WL.e_gint, WL.e_lst, WL.e_tup, WL.e_bin, WL.e_neg, WL.e_cmp, WL.e_chn, WL.e_andV, WL.e_orV, WL.e_notV, WL.e_ife, WL.e_fld, WL.e_ix, WL.e_slc, WL.e_rev, WL.e_bcl, WL.e_isi, WL.e_call, WL.e_mk, WL.e_mth, WL.e_app, WL.e_ext, WL.e_pop, WL.e_get1, WL.e_get2, WL.e_setd, WL.e_lcm, WL.e_dnew, WL.e_dct, WL.e_lrng, WL.e_inr, WL.e_nset, WL.e_isiS, WL.e_anil, WL.e_acons, WL.e_pnil, WL.e_pcons, WL.e_ono, WL.e_oso, WL.e_ands, WL.e_ors, WL.e_tnot, WL.e_tru, WL.e_iex, WL.e_ir1, WL.e_ir2, WL.e_ir3, WL.e_uno, WL.e_uso,
  WL.e_set, WL.e_fset, WL.e_iset, WL.e_unp, WL.e_expr, WL.e_ret, WL.e_retN, WL.e_ifs, WL.e_for_, WL.e_whl, WL.e_raise, WL.e_try, WL.e_tryH, WL.e_pass, WL.e_bnil, WL.e_loop0, WL.e_loop1, WL.e_comp0, WL.e_comp1,
  WL.e_addI, WL.e_addS, WL.e_addF, WL.e_addRF, WL.e_addFR, WL.e_addRR, WL.e_sub, WL.e_mulI, WL.e_div, WL.e_mod, WL.e_pow, WL.e_ltI, WL.e_leI, WL.e_gtI, WL.e_geI, WL.e_eqI, WL.e_neI, WL.e_eqS, WL.e_neS, WL.e_eqB, WL.e_neB, WL.e_isN, WL.e_isntN, WL.e_isB, WL.e_isntB, WL.n_non, WL.ns_non, WL.nb_non, WL.n_bl, WL.ns_bl, WL.nb_bl, WL.n_int, WL.ns_int, WL.nb_int, WL.n_str, WL.ns_str, WL.nb_str, WL.n_ref, WL.ns_ref, WL.nb_ref, WL.n_scr, WL.ns_scr, WL.nb_scr, WL.n_tup, WL.ns_tup, WL.nb_tup, WL.n_fls, WL.ns_fls, WL.nb_fls,
  WL.e_len, WL.e_lenF, WL.e_lenT, WL.e_lenS, WL.e_lenX, WL.e_lenR, WL.e_lenL, WL.e_lenD, WL.e_list, WL.e_tuple, WL.e_tupF, WL.e_tupT, WL.e_tupS, WL.e_tupR, WL.e_max2, WL.e_max1, WL.e_min2, WL.e_int1, WL.e_intB, WL.e_intI, WL.e_seqR, WL.e_seqF, WL.e_seqT, WL.e_seqS, WL.q_AR, WL.q_AF, WL.q_AT, WL.q_AS, WL.q_LR, WL.q_LF, WL.q_LS, WL.q_LT, WL.e_seqMR, WL.e_seqMF, WL.e_lsto, WL.e_dcto, WL.e_tyL, WL.e_tyD, WL.e_isL, WL.e_isLF, WL.e_isD, WL.e_ixF, WL.e_ixT, WL.e_ixS, WL.e_ixR, WL.e_ixX, WL.e_ixL, WL.e_ixD, WL.e_isR, WL.e_isD1, WL.e_isL1, WL.e_tyN, WL.e_tyB, WL.e_tyI, WL.e_tyS, WL.e_tyT, WL.e_tyF, WL.e_slF, WL.e_slR, WL.e_slS, WL.e_slT,
  WL.z_non, WL.z_bl, WL.z_int, WL.z_str, WL.z_tup, WL.z_fls, WL.updW_twice, WL.end_nx, WL.end_rt, WL.end_ex, WL.keyW, WL.kb_NoneType_int, WL.kb_NoneType_bool, WL.kb_NoneType_list, WL.kb_NoneType_tuple, WL.kb_NoneType_str, WL.kb_bool_int, WL.kb_bool_bool, WL.kb_bool_list, WL.kb_bool_tuple, WL.kb_bool_str, WL.kb_int_int, WL.kb_int_bool, WL.kb_int_list, WL.kb_int_tuple, WL.kb_int_str, WL.kb_str_int, WL.kb_str_bool, WL.kb_str_list, WL.kb_str_tuple, WL.kb_str_str, WL.kb_tuple_int, WL.kb_tuple_bool, WL.kb_tuple_list, WL.kb_tuple_tuple, WL.kb_tuple_str, WL.kb_list_int, WL.kb_list_bool, WL.kb_list_list, WL.kb_list_tuple, WL.kb_list_str, WL.kb_dict_int, WL.kb_dict_bool, WL.kb_dict_list, WL.kb_dict_tuple, WL.kb_dict_str,
  List.getElem?_cons_zero, List.getElem?_cons_succ, List.set_cons_zero, List.set_cons_succ, List.cons.injEq, List.length_cons, List.length_nil, Option.some.injEq, exists_eq_left, exists_eq_left', exists_eq, exists_eq', and_assoc, exists_and_left, true_and, and_true, false_and, and_false, exists_false, or_false, false_or, WL.W.int.injEq, WL.W.scr.injEq, Int.reduceLE, Int.reduceLT, Int.reduceNeg, WL.W.bl.injEq, WL.W.str.injEq, WL.W.ref.injEq, WL.W.fls.injEq, WL.W.tup.injEq, WL.HW.lst.injEq, WL.HW.dct.injEq, WL.HW.ins.injEq, reduceCtorEq, ↓reduceIte, Bool.false_eq_true, decide_eq_true_eq, Bool.not_true, Bool.not_false, Bool.not_eq_true', decide_eq_false_iff_not, WL.at0, WL.at1, WL.at2, WL.at3, WL.at4, WL.updW_same, WL.p_draw, WL.p_is_whole, WL.p_enough, WL.p_longest, WL.h_me, WL.h_number, WL.h_members, WL.h_fell, WL.h_said, WL.h_story, WL.h_news, WL.h_row, WL.h_far, WL.h_still, WL.h_ballot, WL.h_kept, WL.h_has, WL.h_offer, WL.hs_number, WL.hs_members, WL.hs_membersN, WL.hs_fell, WL.hs_said, WL.hs_story, WL.hs_news, WL.hs_row, WL.hs_far, WL.hs_still, WL.hs_ballot, WL.hs_kept, WL.hs_has, WL.hs_offerN, WL.of_ballot, WL.of_wish, WL.of_answers, WL.of_value, WL.of_yes, WL.os_value, WL.e_leB, WL.e_ltB, WL.e_gtB])
local macro_rules | `(tactic| walk_at "n") => `(tactic| ((try dsimp only); rw [WL.e_bcons]; walk_at "x"))
-- mac: p_draw p_is_whole p_enough p_longest h_me h_number h_members h_fell h_said h_story h_news h_row h_far h_still h_ballot h_kept h_has h_offer hs_number hs_members hs_membersN hs_fell hs_said hs_story hs_news hs_row hs_far hs_still hs_ballot hs_kept hs_has hs_offerN of_ballot of_wish of_answers of_value of_yes os_value e_leB e_ltB e_gtB
/-! ## A hand: its defs keep what the mirror tells -/
namespace WL
open PySem L2

/-! ### what a hand must be, that nothing goes wrong -/
structure HandOk (h : Hand) : Prop where
  mem : h.members.Pairwise (· < ·)
  len : h.members.length ≤ 9
  row : h.row.length < 4000000
  words : ∀ m ∈ h.row, PyData.strOk m.w = true
  has : h.has.length ≤ 50
  story : h.story.length < 4000000
  off : ∀ f, h.offer = some f → f.answers.length ≤ 50 ∧ f.yes.length ≤ 50
/-- a hand's cells, one by one -/
abbrev handX (HC OC : Addr) (l : HandL) (h : Hand) (rest : List Cell) : List Cell :=
  (l.a, .ins HC (handF l h)) :: (l.r, .lst (msgsW h.row)) :: (l.s, .lst (storyW h.story)) :: (l.d, .dct (hasW h.has)) :: (offCells OC l h.offer ++ rest)
theorem cells_push {HC OC : Addr} {H : Hw} {l : HandL} {h : Hand} {rest : List Cell} {x : Cell} (c : Cells H (x :: handX HC OC l h rest)) : Cells H (handX HC OC l h (x :: rest)) := by
  refine c.perm ?_
  show (x :: ([(l.a, .ins HC (handF l h)), (l.r, .lst (msgsW h.row)), (l.s, .lst (storyW h.story)), (l.d, .dct (hasW h.has))] ++ (offCells OC l h.offer ++ rest))).Perm ([(l.a, .ins HC (handF l h)), (l.r, .lst (msgsW h.row)), (l.s, .lst (storyW h.story)), (l.d, .dct (hasW h.has))] ++ (offCells OC l h.offer ++ x :: rest))
  rw [← List.append_assoc, ← List.append_assoc]
  exact List.perm_middle.symm
section
variable {g : Gm} {HC OC : Addr} [HFld g HC] [OFld g OC]
def p_within (HC OC : Addr) : SpW := fun ws H Q _ => ∃ l h rest, ws = [.ref l.a] ∧ Cells H (handX HC OC l h rest) ∧ Q (.bl h.within) H
theorem r_within (ws : List W) (H : Hw) (Q : KW) (E : EW) (h : p_within HC OC ws H Q E) : denB g c_Hand_within (endOf (frz Q) E) (startW ["self"] ws) H := by
  obtain ⟨l, h, rest, rfl, c, hq⟩ := h
  show denB g c_Hand_within (endOf (frz Q) E) [some (.ref l.a)] H
  unfold c_Hand_within
  walk_at "n"
  refine in_ints (y := .fls (intsW h.members)) (l := h.members) rfl ?_
  walk_at "x"
  exact hq
def p_letters (HC OC : Addr) : SpW := fun ws H Q _ => ∃ l h rest ts b, ws = [.ref l.a, .str (Body.kind b), .fls (intsW ts), b.v] ∧ Cells H (handX HC OC l h rest) ∧ ts.length ≤ 1000 ∧ Q (.fls (lettersW (h.ltrs ts b))) H
theorem r_letters (ws : List W) (H : Hw) (Q : KW) (E : EW) (h : p_letters HC OC ws H Q E) : denB g c_Hand_letters (endOf (frz Q) E) (startW ["self", "kind", "targets", "body", "target"] ws) H := by
  obtain ⟨l, h, rest, ts, b, rfl, c, hl, hq⟩ := h
  show denB g c_Hand_letters (endOf (frz Q) E) [some (.ref l.a), some (.str b.kind), some (.fls (intsW ts)), some b.v, none] H
  unfold c_Hand_letters
  walk_at "n"
  refine comp_all (g := g) (fun x => .tup [.str b.kind, .int h.me, x, .int h.number, b.v]) ?_ (fun x hx p acc Q hp hQ => ?_) ?_ (newF ?_)
  · intros; trivial
  · haveI : Fresh H p := ⟨hp⟩
    walk_at "x"
    exact ⟨by decide, hQ⟩
  · rw [intsW, List.length_map]
    exact Nat.le_trans hl (by decide)
  · walk_at "x"
    have : (intsW ts).map (fun x => W.tup [.str b.kind, .int h.me, x, .int h.number, b.v]) = lettersW (h.ltrs ts b) := by
      simp [intsW, lettersW, Hand.ltrs, Letter.v, List.map_map, Function.comp_def]
    rw [this]
    exact hq

theorem k_within {l : HandL} {h : Hand} {rest : List Cell} {H : Hw} {Q : KW} {E : EW} (hm : g.mth HC "within" (p_within HC OC)) [c : Cells H (handX HC OC l h rest)] (q : Q (.bl h.within) H) : mtho g H l.a "within" (fun sp => sp [.ref l.a] H Q E) :=
  mtho_of (C := HC) (fs := handF l h) hm rfl ⟨l, h, rest, rfl, c, q⟩
theorem k_letters {l : HandL} {h : Hand} {rest : List Cell} {H : Hw} {Q : KW} {E : EW} {ts : List Int} (b : Body) (hm : g.mth HC "letters" (p_letters HC OC)) [c : Cells H (handX HC OC l h rest)] (hl : ts.length ≤ 1000) (q : Q (.fls (lettersW (h.ltrs ts b))) H) :
    p_letters HC OC [.ref l.a, .str b.kind, .fls (intsW ts), b.v] H Q E := ⟨l, h, rest, ts, b, rfl, c, hl, q⟩
def p_others (HC OC : Addr) : SpW := fun ws H Q _ => ∃ l h rest, ws = [.ref l.a] ∧ Cells H (handX HC OC l h rest) ∧ h.members.length ≤ 9 ∧ Q (.fls (intsW h.others)) H
theorem r_others (ws : List W) (H : Hw) (Q : KW) (E : EW) (h : p_others HC OC ws H Q E) : denB g c_Hand_others (endOf (frz Q) E) (startW ["self", "hand"] ws) H := by
  obtain ⟨l, h, rest, rfl, c, hl, hq⟩ := h
  show denB g c_Hand_others (endOf (frz Q) E) [some (.ref l.a), none] H
  unfold c_Hand_others
  walk_at "n"
  refine comp_new (g := g) (fun x => x) (fun x => match x with | .int i => !decide (i = h.me) | _ => false) ?_ (fun x hx p acc QB hp hQ => ?_) (fun x hx hk p acc Q hp hQ => ?_) ?_ (newF ?_)
  · intros; trivial
  · haveI : Fresh H p := ⟨hp⟩
    obtain ⟨i, _, rfl⟩ := List.mem_map.mp hx
    walk_at "x"
    exact hQ
  · walk_at "x"
    exact hQ
  · rw [intsW, List.length_map]
    exact Nat.le_trans hl (by decide)
  · walk_at "x"
    have : ((intsW h.members).filter fun x => match x with | .int i => !decide (i = h.me) | _ => false).map (fun x => x) = intsW h.others := by
      rw [List.map_id', intsW, intsW, Hand.others, List.filter_map]
      rfl
    rw [this]
    exact hq
theorem k_others {l : HandL} {h : Hand} {rest : List Cell} {H : Hw} {Q : KW} {E : EW} (hm : g.mth HC "others" (p_others HC OC)) [c : Cells H (handX HC OC l h rest)] (hl : h.members.length ≤ 9) (q : Q (.fls (intsW h.others)) H) : mtho g H l.a "others" (fun sp => sp [.ref l.a] H Q E) :=
  mtho_of (C := HC) (fs := handF l h) hm rfl ⟨l, h, rest, rfl, c, hl, q⟩
theorem others_len {h : Hand} : h.others.length ≤ h.members.length := List.length_filter_le ..
/-- behind a deed: the hand is what the mirror tells, somewhere -/
def Post (HC OC : Addr) (l : HandL) (rest : List Cell) (h' : Hand) (v : W) (Q : KW) : Prop := ∀ l' H', l'.a = l.a → Cells H' (handX HC OC l' h' rest) → Q v H'
theorem Post.here {l : HandL} {rest : List Cell} {h' : Hand} {v : W} {Q : KW} {H : Hw} (p : Post HC OC l rest h' v Q) [c : Cells H (handX HC OC l h' rest)] : Q v H := p l H rfl c
theorem atI0 {xs : List Int} (h : xs ≠ []) : atI (intsW xs) 0 = some (.int (xs.headD 0)) := by
  cases xs with
  | nil => exact absurd rfl h
  | cons x xs => exact atI_nat (n := 0) rfl
def p_say (HC OC : Addr) : SpW := fun ws H Q _ => ∃ l h rest x, ws = [.ref l.a, .str x] ∧ Cells H (handX HC OC l h rest) ∧ h.members ≠ [] ∧ Post HC OC l rest (h.say x).1 (.fls (lettersW (h.say x).2)) Q
theorem r_say (ml : g.mth HC "letters" (p_letters HC OC)) (ws : List W) (H : Hw) (Q : KW) (E : EW) (h : p_say HC OC ws H Q E) : denB g c_Hand_say (endOf (frz Q) E) (startW ["self", "word", "message"] ws) H := by
  obtain ⟨l, h, rest, x, rfl, c, hne, hq⟩ := h
  show denB g c_Hand_say (endOf (frz Q) E) [some (.ref l.a), some (.str x), none] H
  unfold c_Hand_say
  walk_at "n"
  refine ⟨by decide, ?_⟩
  walk_at "n"
  walk_at "n"
  refine mtho_of (C := HC) ml rfl ?_
  walk_at "x"
  refine ⟨_, atI0 hne, by decide, newF ?_⟩
  refine k_letters (h := { h with said := h.said + 1 }) (ts := [h.members.headD 0]) (.wish ⟨h.me, h.said, x⟩) ml (by simp) ?_
  walk_at "x"
  exact hq.here
end
end WL

-- mac: p_draw p_is_whole p_enough p_longest h_me h_number h_members h_fell h_said h_story h_news h_row h_far h_still h_ballot h_kept h_has h_offer hs_number hs_members hs_membersN hs_fell hs_said hs_story hs_news hs_row hs_far hs_still hs_ballot hs_kept hs_has hs_offerN of_ballot of_wish of_answers of_value of_yes os_value e_leB e_ltB e_gtB
/-! ## A hand: messages -/
namespace WL
open PySem L2
theorem insI_perm (x : Int) : ∀ l : List Int, (insI x l).Perm (x :: l)
  | [] => .refl _
  | y :: r => by
    unfold insI
    split
    · exact .refl _
    · exact (List.Perm.cons y (insI_perm x r)).trans (.swap ..)
theorem insI_sorted (x : Int) : ∀ l : List Int, l.Pairwise (· ≤ ·) → (insI x l).Pairwise (· ≤ ·)
  | [], _ => List.pairwise_singleton ..
  | y :: r, h => by
    unfold insI
    rw [List.pairwise_cons] at h
    split
    · rename_i q
      refine List.pairwise_cons.mpr ⟨fun z hz => ?_, List.pairwise_cons.mpr h⟩
      rcases List.mem_cons.mp hz with e | m
      · omega
      · have := h.1 z m; omega
    · rename_i q
      refine List.pairwise_cons.mpr ⟨fun z hz => ?_, insI_sorted x r h.2⟩
      rcases List.mem_cons.mp ((insI_perm x r).mem_iff.mp hz) with e | m
      · omega
      · exact h.1 z m
theorem sortI_perm : ∀ l : List Int, (sortI l).Perm l
  | [] => .refl _
  | x :: r => (insI_perm x (sortI r)).trans (.cons x (sortI_perm r))
theorem sortI_sorted : ∀ l : List Int, (sortI l).Pairwise (· ≤ ·)
  | [] => .nil
  | x :: r => insI_sorted x _ (sortI_sorted r)
theorem sortI_unique {l l' : List Int} (p : l'.Perm l) (s : l'.Pairwise (· ≤ ·)) : l' = sortI l :=
  (p.trans (sortI_perm l).symm).eq_of_pairwise (fun a b _ _ h1 h2 => by omega) s (sortI_sorted l)
theorem sortI_len (l : List Int) : (sortI l).length = l.length := (sortI_perm l).length_eq
theorem getK_has {l : List (Int × Int)} {i : Int} : (valW (hasW l) (.inl i)).getD (.int 0) = .int ((getK l i).getD 0) := by
  induction l with
  | nil => rfl
  | cons x xs ih =>
    by_cases e : x.1 = i
    · have e1 : valW (hasW (x :: xs)) (.inl i) = some (.int x.2) := by simp [valW, hasW, List.find?_cons, e]
      have e2 : getK (x :: xs) i = some x.2 := by simp [getK, List.find?_cons, e]
      rw [e1, e2]
      rfl
    · have e1 : valW (hasW (x :: xs)) (.inl i) = valW (hasW xs) (.inl i) := by simp [valW, hasW, List.find?_cons, e]
      have e2 : getK (x :: xs) i = getK xs i := by simp [getK, List.find?_cons, e]
      rw [e1, e2]
      exact ih
theorem put_has {l : List (Int × Int)} {i v : Int} : putKW (hasW l) (.inl i) (.int v) = hasW (putA l i v) := by
  unfold putKW putA
  have e : (hasW l).any (fun kv => decide (kv.1 = Sum.inl i)) = l.any fun kv => decide (kv.1 = i) := by
    unfold hasW
    rw [List.any_map]
    congr 1
    funext x
    simp
  rw [e]
  split
  · unfold hasW
    rw [List.map_map, List.map_map]
    apply List.map_congr_left
    intro x _
    by_cases q : x.1 = i <;> simp [q]
  · unfold hasW
    rw [List.map_append]
    rfl
theorem others_lt {h : Hand} (nd : h.members.Nodup) (hm : h.me ∈ h.members) : h.others.length + 1 = h.members.length := by
  unfold Hand.others
  have e : h.members.filter (fun x => !decide (x = h.me)) = h.members.erase h.me := by
    rw [nd.erase_eq_filter]
    congr 1
  rw [e, List.length_erase_of_mem hm]
  have : 0 < h.members.length := List.length_pos_of_mem hm
  omega
theorem HandOk.nd {h : Hand} (ok : HandOk h) : h.members.Nodup := ok.mem.imp fun h => by omega
section
variable {g : Gm} {HC OC : Addr} [HFld g HC] [OFld g OC]
def p_settled (HC OC : Addr) : SpW := fun ws H Q _ => ∃ l h rest, ws = [.ref l.a] ∧ Cells H (handX HC OC l h rest) ∧ h.members.Nodup ∧ h.members.length ≤ 9 ∧ h.me ∈ h.members ∧ Post HC OC l rest h.settled.1 (.fls (lettersW h.settled.2)) Q
theorem r_settled (he : g.fn "enough" p_enough) (ml : g.mth HC "letters" (p_letters HC OC)) (mo : g.mth HC "others" (p_others HC OC)) (ws : List W) (H : Hw) (Q : KW) (E : EW) (h : p_settled HC OC ws H Q E) :
    denB g c_Hand_settled (endOf (frz Q) E) (startW ["self", "counts", "count", "hand"] ws) H := by
  obtain ⟨l, h, rest, rfl, c, nd, h9, hm, hq⟩ := h
  show denB g c_Hand_settled (endOf (frz Q) E) [some (.ref l.a), none, none, none] H
  have ol := others_lt nd hm
  unfold c_Hand_settled
  walk_at "n"
  refine ⟨by decide, newF ?_⟩
  refine k_others mo h9 ?_
  walk_at "x"
  refine comp_all (g := g) (fun x => match x with | .int i => .int ((getK h.has i).getD 0) | w => w) ?_ (fun x hx p acc Q hp hQ => ?_) ?_ (newF ?_)
  · intros; trivial
  · haveI : Fresh H p := ⟨hp⟩
    obtain ⟨i, _, rfl⟩ := List.mem_map.mp hx
    walk_at "x"
    rw [getK_has]
    exact hQ
  · rw [intsW, List.length_map]
    exact Nat.le_trans (by omega : h.others.length ≤ 9) (by decide)
  have el : ([W.int (msgsW h.row).length] ++ (intsW h.others).map fun x => match x with | .int i => W.int ((getK h.has i).getD 0) | w => w) = ((h.row.length : Int) :: h.others.map fun x => (getK h.has x).getD 0).map W.int := by
    simp [intsW, msgsW, List.map_map, Function.comp_def]
  walk_at "x"
  refine ⟨Nat.le_trans (by simp [intsW]; omega : _ ≤ 20) (by decide), newF ?_⟩
  rw [el]
  refine sorted_of (.inl ⟨_, rfl, fun ns hp hs => newF ?_⟩)
  rw [show ns = h.counts from sortI_unique hp hs]
  have cl : h.counts.length = h.members.length := by
    unfold Hand.counts
    rw [sortI_len]
    simp
    omega
  walk_at "n"
  refine ⟨_, he, ?_⟩
  walk_at "x"
  have hpos : 0 < h.members.length := List.length_pos_of_mem hm
  have ix : atI (h.counts.map W.int) ((h.counts.map W.int).length - ((intsW h.members).length / 2 + 1 : Nat)) = some (.int h.count) := by
    have e1 : ((h.counts.map W.int).length : Int) - ((intsW h.members).length / 2 + 1 : Nat) = ((h.counts.length - enoughOf h.members : Nat) : Int) := by
      simp only [List.length_map, intsW, enoughOf]
      omega
    rw [e1]
    refine atI_nat ?_
    have hlt : h.counts.length - enoughOf h.members < h.counts.length := by unfold enoughOf; omega
    rw [List.getElem?_map, List.getElem?_eq_getElem hlt]
    simp [Hand.count, List.getD, List.getElem?_eq_getElem hlt]
  refine ⟨_, ix, ?_⟩
  walk_at "n"
  by_cases q : h.count ≤ h.far
  · simp only [q, if_true]
    walk_at "n"
    have e : h.settled = (h, []) := by unfold Hand.settled; rw [if_pos q]
    rw [e] at hq
    refine ⟨by decide, newF ?_⟩
    walk_at "x"
    exact hq.here
  · simp only [q, if_false]
    have e : h.settled = ({ h with far := h.count }, h.ltrs h.others (.take h.count)) := by unfold Hand.settled; rw [if_neg q]
    rw [e] at hq
    walk_at "n"
    walk_at "n"
    refine mtho_of (C := HC) ml rfl ?_
    walk_at "x"
    refine k_others (h := { h with far := h.count }) mo h9 ?_
    refine k_letters (h := { h with far := h.count }) (.take h.count) ml (by show h.others.length ≤ 1000; omega) ?_
    walk_at "x"
    exact hq.here
end
end WL

-- mac: p_draw p_is_whole p_enough p_longest h_me h_number h_members h_fell h_said h_story h_news h_row h_far h_still h_ballot h_kept h_has h_offer hs_number hs_members hs_membersN hs_fell hs_said hs_story hs_news hs_row hs_far hs_still hs_ballot hs_kept hs_has hs_offerN of_ballot of_wish of_answers of_value of_yes os_value e_leB e_ltB e_gtB
/-! ## A hand: messages ordered, held; ballots -/
namespace WL
open PySem L2
theorem msgs_nbs {l : List Msg} (h : ∀ m ∈ l, PyData.strOk m.w = true) : nbs (msgsW l) = true := nbs_mem.mpr fun x hx => by
  obtain ⟨m, hm, rfl⟩ := List.mem_map.mp hx
  show (true && (true && (PyData.strOk m.w && true))) = true
  rw [h m hm]
  rfl
theorem msg_nb {m : Msg} (h : PyData.strOk m.w = true) : nb m.v = true := by
  show (true && (true && (PyData.strOk m.w && true))) = true
  rw [h]
  rfl
theorem msg_dep (m : Msg) : dep m.v = 1 := rfl
theorem msgs_dep (l : List Msg) : deps (msgsW l) ≤ 1 := deps_le.mpr fun x hx => by
  obtain ⟨m, _, rfl⟩ := List.mem_map.mp hx
  exact Nat.le_refl _
theorem msg_inj {a b : Msg} : a.v = b.v ↔ a = b := by
  constructor
  · intro h
    cases a; cases b
    simp only [Msg.v, W.tup.injEq, List.cons.injEq, W.int.injEq, W.str.injEq, and_true] at h
    obtain ⟨h1, h2, h3⟩ := h
    subst h1 h2 h3
    rfl
  · intro h; rw [h]
theorem msg_mem {m : Msg} {l : List Msg} : m.v ∈ msgsW l ↔ m ∈ l := by
  constructor
  · intro h
    obtain ⟨x, hx, e⟩ := List.mem_map.mp h
    rw [← msg_inj.mp e]
    exact hx
  · intro h
    exact List.mem_map.mpr ⟨m, h, rfl⟩
theorem msgsW_snoc (l : List Msg) (m : Msg) : msgsW l ++ [m.v] = msgsW (l ++ [m]) := by simp [msgsW]
theorem lettersW_append (a b : List Letter) : lettersW a ++ lettersW b = lettersW (a ++ b) := by simp [lettersW]
section
variable {g : Gm} {HC OC : Addr} [HFld g HC] [OFld g OC]
theorem k_settled {l : HandL} {h : Hand} {rest : List Cell} {H : Hw} {Q : KW} {E : EW} (hm : g.mth HC "settled" (p_settled HC OC)) [c : Cells H (handX HC OC l h rest)] (nd : h.members.Nodup) (h9 : h.members.length ≤ 9) (me : h.me ∈ h.members)
    (q : Post HC OC l rest h.settled.1 (.fls (lettersW h.settled.2)) Q) : mtho g H l.a "settled" (fun sp => sp [.ref l.a] H Q E) :=
  mtho_of (C := HC) (fs := handF l h) hm rfl ⟨l, h, rest, rfl, c, nd, h9, me, q⟩
def p_wished (HC OC : Addr) : SpW := fun ws H Q _ => ∃ l h rest m, ws = [.ref l.a, Msg.v m] ∧ Cells H (handX HC OC l h rest) ∧ HandOk h ∧ h.me ∈ h.members ∧ PyData.strOk m.w = true ∧ Post HC OC l rest (h.wished m).1 (.fls (lettersW (h.wished m).2)) Q
theorem ltrs_len {h : Hand} {ts : List Int} {b : Body} : (h.ltrs ts b).length = ts.length := by simp [Hand.ltrs]
theorem settled_len {h : Hand} : h.settled.2.length ≤ h.members.length := by
  unfold Hand.settled
  split
  · simp
  · rw [ltrs_len]
    exact others_len
theorem r_wished (ml : g.mth HC "letters" (p_letters HC OC)) (mo : g.mth HC "others" (p_others HC OC)) (ms : g.mth HC "settled" (p_settled HC OC)) (ws : List W) (H : Hw) (Q : KW) (E : EW) (h : p_wished HC OC ws H Q E) :
    denB g c_Hand_wished (endOf (frz Q) E) (startW ["self", "message", "found"] ws) H := by
  obtain ⟨l, h, rest, m, rfl, c, ok, hm, hw, hq⟩ := h
  show denB g c_Hand_wished (endOf (frz Q) E) [some (.ref l.a), some m.v, none] H
  have hne : h.members ≠ [] := List.ne_nil_of_mem hm
  unfold c_Hand_wished
  walk_at "n"
  refine ⟨_, atI0 hne, ?_⟩
  walk_at "x"
  have stop : (h.me ≠ h.members.headD 0 ∨ h.still = true ∨ m ∈ h.row) → denB g [CS.ret (CE.lst CEs.nil)] { nx := denB g (c_Hand_wished.drop 1) (endOf (frz Q) E), rt := frz Q, bk := fun _ _ => False, ct := fun _ _ => False, ex := fun C _ H => E C H } [some (.ref l.a), some m.v, none] H := fun cond => by
    have e : h.wished m = (h, []) := by unfold Hand.wished; rw [if_pos cond]
    rw [e] at hq
    walk_at "n"
    refine ⟨by decide, newF ?_⟩
    walk_at "x"
    exact hq.here
  by_cases q1 : h.me = h.members.headD 0
  · simp only [q1, if_true, not_true_eq_false, if_false]
    by_cases q2 : h.still = true
    · simp only [q2, if_true]
      exact stop (.inr (.inl q2))
    · simp only [q2, if_false, Bool.false_eq_true]
      refine in_of (xs := msgsW h.row) (.ref (At.h)) (msg_nb hw) (msgs_nbs ok.words) (by rw [msg_dep]; decide) (Nat.le_trans (msgs_dep _) (by decide)) fun b hb => ?_
      walk_at "x"
      cases b with
      | true =>
        exact stop (.inr (.inr (msg_mem.mp (hb.mp rfl))))
      | false =>
        have q3 : m ∉ h.row := fun z => by simpa using hb.mpr (msg_mem.mpr z)
        have e : h.wished m = (({ h with row := h.row ++ [m] } : Hand).settled.1, h.ltrs h.others (.hold h.row.length m) ++ ({ h with row := h.row ++ [m] } : Hand).settled.2) := by
          unfold Hand.wished; rw [if_neg (by simp [q1, q2, q3])]
        rw [e] at hq
        walk_at "x"
        walk_at "n"
        refine ⟨Nat.lt_trans (by simpa [msgsW] using ok.row) (by decide), ?_⟩
        rw [msgsW_snoc]
        walk_at "n"
        refine mtho_of (C := HC) ml rfl ?_
        walk_at "x"
        refine k_others (h := { h with row := h.row ++ [m] }) mo ok.len ?_
        walk_at "x"
        refine ⟨by decide, ?_⟩
        have ep : W.tup [.int ((msgsW (h.row ++ [m])).length - 1), m.v] = (Body.hold h.row.length m).v := by
          simp [Body.v, msgsW]
        rw [ep]
        refine k_letters (h := { h with row := h.row ++ [m] }) (.hold h.row.length m) ml (by have := ok.len; have := @others_len h; show h.others.length ≤ 1000; omega) ?_
        walk_at "n"
        refine k_settled (h := { h with row := h.row ++ [m] }) ms ok.nd ok.len hm fun l' H' ea c' => ?_
        walk_at "x"
        have hl1 : (lettersW (h.ltrs h.others (.hold h.row.length m))).length ≤ 9 := by rw [lettersW, List.length_map, ltrs_len]; exact Nat.le_trans others_len ok.len
        have hl2 : (lettersW ({ h with row := h.row ++ [m] } : Hand).settled.2).length ≤ 9 := by rw [lettersW, List.length_map]; exact Nat.le_trans settled_len ok.len
        have e2 : ({ h with row := h.row ++ [m] } : Hand).ltrs ({ h with row := h.row ++ [m] } : Hand).others (.hold h.row.length m) = h.ltrs h.others (.hold h.row.length m) := rfl
        rw [e2]
        refine ⟨Nat.le_trans (Nat.add_le_add hl1 hl2) (by decide), newF ?_⟩
        walk_at "x"
        rw [lettersW_append]
        exact hq l' H' ea c'
  · simp only [q1, if_false, not_false_eq_true, if_true]
    exact stop (.inl q1)
end
end WL

local macro_rules | `(tactic| walk_at "s") => `(tactic| try simp only [WL.e_var, WL.e_lit, WL.e_gint, WL.e_lst, WL.e_tup, WL.e_bin, WL.e_neg, WL.e_cmp, WL.e_chn, WL.e_andV, WL.e_orV, WL.e_notV, WL.e_ife, WL.e_fld, WL.e_ix, WL.e_slc, WL.e_rev, WL.e_bcl, WL.e_isi, WL.e_call, WL.e_mk, WL.e_mth, WL.e_app, WL.e_ext, WL.e_pop, WL.e_get1, WL.e_get2, WL.e_setd, WL.e_lcm, WL.e_dnew, WL.e_dct, WL.e_lrng, WL.e_inr, WL.e_nset, WL.e_isiS, WL.e_anil, WL.e_acons, WL.e_pnil, WL.e_pcons, WL.e_ono, WL.e_oso, WL.e_ands, WL.e_ors, WL.e_tnot, WL.e_tru, WL.e_iex, WL.e_ir1, WL.e_ir2, WL.e_ir3, WL.e_uno, WL.e_uso,
  WL.e_set, WL.e_fset, WL.e_iset, WL.e_unp, WL.e_expr, WL.e_ret, WL.e_retN, WL.e_ifs, WL.e_for_, WL.e_whl, WL.e_raise, WL.e_try, WL.e_tryH, WL.e_pass, WL.e_bnil, WL.e_bcons, WL.e_loop0, WL.e_loop1, WL.e_comp0, WL.e_comp1,
  WL.e_addI, WL.e_addS, WL.e_addF, WL.e_addRF, WL.e_addFR, WL.e_addRR, WL.e_sub, WL.e_mulI, WL.e_div, WL.e_mod, WL.e_pow, WL.e_ltI, WL.e_leI, WL.e_gtI, WL.e_geI, WL.e_eqI, WL.e_neI, WL.e_eqS, WL.e_neS, WL.e_eqB, WL.e_neB, WL.e_isN, WL.e_isntN, WL.e_isB, WL.e_isntB, WL.n_non, WL.ns_non, WL.nb_non, WL.n_bl, WL.ns_bl, WL.nb_bl, WL.n_int, WL.ns_int, WL.nb_int, WL.n_str, WL.ns_str, WL.nb_str, WL.n_ref, WL.ns_ref, WL.nb_ref, WL.n_scr, WL.ns_scr, WL.nb_scr, WL.n_tup, WL.ns_tup, WL.nb_tup, WL.n_fls, WL.ns_fls, WL.nb_fls,
  WL.e_len, WL.e_lenF, WL.e_lenT, WL.e_lenS, WL.e_lenX, WL.e_lenR, WL.e_lenL, WL.e_lenD, WL.e_list, WL.e_tuple, WL.e_tupF, WL.e_tupT, WL.e_tupS, WL.e_tupR, WL.e_max2, WL.e_max1, WL.e_min2, WL.e_int1, WL.e_intB, WL.e_intI, WL.e_seqR, WL.e_seqF, WL.e_seqT, WL.e_seqS, WL.q_AR, WL.q_AF, WL.q_AT, WL.q_AS, WL.q_LR, WL.q_LF, WL.q_LS, WL.q_LT, WL.e_seqMR, WL.e_seqMF, WL.e_lsto, WL.e_dcto, WL.e_tyL, WL.e_tyD, WL.e_isL, WL.e_isLF, WL.e_isD, WL.e_ixF, WL.e_ixT, WL.e_ixS, WL.e_ixR, WL.e_ixX, WL.e_ixL, WL.e_ixD, WL.e_isR, WL.e_isD1, WL.e_isL1, WL.e_tyN, WL.e_tyB, WL.e_tyI, WL.e_tyS, WL.e_tyT, WL.e_tyF, WL.e_slF, WL.e_slR, WL.e_slS, WL.e_slT,
  WL.z_non, WL.z_bl, WL.z_int, WL.z_str, WL.z_tup, WL.z_fls, WL.updW_twice, WL.end_nx, WL.end_rt, WL.end_ex, WL.keyW, WL.kb_NoneType_int, WL.kb_NoneType_bool, WL.kb_NoneType_list, WL.kb_NoneType_tuple, WL.kb_NoneType_str, WL.kb_bool_int, WL.kb_bool_bool, WL.kb_bool_list, WL.kb_bool_tuple, WL.kb_bool_str, WL.kb_int_int, WL.kb_int_bool, WL.kb_int_list, WL.kb_int_tuple, WL.kb_int_str, WL.kb_str_int, WL.kb_str_bool, WL.kb_str_list, WL.kb_str_tuple, WL.kb_str_str, WL.kb_tuple_int, WL.kb_tuple_bool, WL.kb_tuple_list, WL.kb_tuple_tuple, WL.kb_tuple_str, WL.kb_list_int, WL.kb_list_bool, WL.kb_list_list, WL.kb_list_tuple, WL.kb_list_str, WL.kb_dict_int, WL.kb_dict_bool, WL.kb_dict_list, WL.kb_dict_tuple, WL.kb_dict_str,
  List.getElem?_cons_zero, List.getElem?_cons_succ, List.set_cons_zero, List.set_cons_succ, List.cons.injEq, List.length_cons, List.length_nil, Option.some.injEq, exists_eq_left, exists_eq_left', exists_eq, exists_eq', and_assoc, exists_and_left, true_and, and_true, false_and, and_false, exists_false, or_false, false_or, WL.W.int.injEq, WL.W.scr.injEq, Int.reduceLE, Int.reduceLT, Int.reduceNeg, WL.W.bl.injEq, WL.W.str.injEq, WL.W.ref.injEq, WL.W.fls.injEq, WL.W.tup.injEq, WL.HW.lst.injEq, WL.HW.dct.injEq, WL.HW.ins.injEq, reduceCtorEq, ↓reduceIte, Bool.false_eq_true, decide_eq_true_eq, Bool.not_true, Bool.not_false, Bool.not_eq_true', decide_eq_false_iff_not, WL.at0, WL.at1, WL.at2, WL.at3, WL.at4, WL.updW_same, WL.p_draw, WL.p_is_whole, WL.p_enough, WL.p_longest, WL.h_me, WL.h_number, WL.h_members, WL.h_fell, WL.h_said, WL.h_story, WL.h_news, WL.h_row, WL.h_far, WL.h_still, WL.h_ballot, WL.h_kept, WL.h_has, WL.h_offer, WL.hs_number, WL.hs_members, WL.hs_membersN, WL.hs_fell, WL.hs_said, WL.hs_story, WL.hs_news, WL.hs_row, WL.hs_far, WL.hs_still, WL.hs_ballot, WL.hs_kept, WL.hs_has, WL.hs_offerN, WL.hs_keptS, WL.hs_newsS, WL.of_ballot, WL.of_wish, WL.of_answers, WL.of_value, WL.of_yes, WL.os_value, WL.e_leB, WL.e_ltB, WL.e_gtB, WL.hp_me, WL.hp_number, WL.hp_members, WL.hp_fell, WL.hp_said, WL.hp_story, WL.hp_news, WL.hp_row, WL.hp_far, WL.hp_still, WL.hp_ballot, WL.hp_kept, WL.hp_has, WL.hp_offer, WL.hq_me, WL.op_ballot, WL.op_wish, WL.op_answers, WL.op_value, WL.op_yes])
local macro_rules | `(tactic| walk_at "x") => `(tactic| try simp only [WL.e_var, WL.e_lit, WL.e_gint, WL.e_lst, WL.e_tup, WL.e_bin, WL.e_neg, WL.e_cmp, WL.e_chn, WL.e_andV, WL.e_orV, WL.e_notV, WL.e_ife, WL.e_fld, WL.e_ix, WL.e_slc, WL.e_rev, WL.e_bcl, WL.e_isi, WL.e_call, WL.e_mk, WL.e_mth, WL.e_app, WL.e_ext, WL.e_pop, WL.e_get1, WL.e_get2, WL.e_setd, WL.e_lcm, WL.e_dnew, WL.e_dct, WL.e_lrng, WL.e_inr, WL.e_nset, WL.e_isiS, WL.e_anil, WL.e_acons, WL.e_pnil, WL.e_pcons, WL.e_ono, WL.e_oso, WL.e_ands, WL.e_ors, WL.e_tnot, WL.e_tru, WL.e_iex, WL.e_ir1, WL.e_ir2, WL.e_ir3, WL.e_uno, WL.e_uso,
  WL.e_set, WL.e_fset, WL.e_iset, WL.e_unp, WL.e_expr, WL.e_ret, WL.e_retN, WL.e_ifs, WL.e_for_, WL.e_whl, WL.e_raise, WL.e_try, WL.e_tryH, WL.e_pass, WL.e_bnil, WL.e_loop0, WL.e_loop1, WL.e_comp0, WL.e_comp1,
  WL.e_addI, WL.e_addS, WL.e_addF, WL.e_addRF, WL.e_addFR, WL.e_addRR, WL.e_sub, WL.e_mulI, WL.e_div, WL.e_mod, WL.e_pow, WL.e_ltI, WL.e_leI, WL.e_gtI, WL.e_geI, WL.e_eqI, WL.e_neI, WL.e_eqS, WL.e_neS, WL.e_eqB, WL.e_neB, WL.e_isN, WL.e_isntN, WL.e_isB, WL.e_isntB, WL.n_non, WL.ns_non, WL.nb_non, WL.n_bl, WL.ns_bl, WL.nb_bl, WL.n_int, WL.ns_int, WL.nb_int, WL.n_str, WL.ns_str, WL.nb_str, WL.n_ref, WL.ns_ref, WL.nb_ref, WL.n_scr, WL.ns_scr, WL.nb_scr, WL.n_tup, WL.ns_tup, WL.nb_tup, WL.n_fls, WL.ns_fls, WL.nb_fls,
  WL.e_len, WL.e_lenF, WL.e_lenT, WL.e_lenS, WL.e_lenX, WL.e_lenR, WL.e_lenL, WL.e_lenD, WL.e_list, WL.e_tuple, WL.e_tupF, WL.e_tupT, WL.e_tupS, WL.e_tupR, WL.e_max2, WL.e_max1, WL.e_min2, WL.e_int1, WL.e_intB, WL.e_intI, WL.e_seqR, WL.e_seqF, WL.e_seqT, WL.e_seqS, WL.q_AR, WL.q_AF, WL.q_AT, WL.q_AS, WL.q_LR, WL.q_LF, WL.q_LS, WL.q_LT, WL.e_seqMR, WL.e_seqMF, WL.e_lsto, WL.e_dcto, WL.e_tyL, WL.e_tyD, WL.e_isL, WL.e_isLF, WL.e_isD, WL.e_ixF, WL.e_ixT, WL.e_ixS, WL.e_ixR, WL.e_ixX, WL.e_ixL, WL.e_ixD, WL.e_isR, WL.e_isD1, WL.e_isL1, WL.e_tyN, WL.e_tyB, WL.e_tyI, WL.e_tyS, WL.e_tyT, WL.e_tyF, WL.e_slF, WL.e_slR, WL.e_slS, WL.e_slT,
  WL.z_non, WL.z_bl, WL.z_int, WL.z_str, WL.z_tup, WL.z_fls, WL.updW_twice, WL.end_nx, WL.end_rt, WL.end_ex, WL.keyW, WL.kb_NoneType_int, WL.kb_NoneType_bool, WL.kb_NoneType_list, WL.kb_NoneType_tuple, WL.kb_NoneType_str, WL.kb_bool_int, WL.kb_bool_bool, WL.kb_bool_list, WL.kb_bool_tuple, WL.kb_bool_str, WL.kb_int_int, WL.kb_int_bool, WL.kb_int_list, WL.kb_int_tuple, WL.kb_int_str, WL.kb_str_int, WL.kb_str_bool, WL.kb_str_list, WL.kb_str_tuple, WL.kb_str_str, WL.kb_tuple_int, WL.kb_tuple_bool, WL.kb_tuple_list, WL.kb_tuple_tuple, WL.kb_tuple_str, WL.kb_list_int, WL.kb_list_bool, WL.kb_list_list, WL.kb_list_tuple, WL.kb_list_str, WL.kb_dict_int, WL.kb_dict_bool, WL.kb_dict_list, WL.kb_dict_tuple, WL.kb_dict_str,
  List.getElem?_cons_zero, List.getElem?_cons_succ, List.set_cons_zero, List.set_cons_succ, List.cons.injEq, List.length_cons, List.length_nil, Option.some.injEq, exists_eq_left, exists_eq_left', exists_eq, exists_eq', and_assoc, exists_and_left, true_and, and_true, false_and, and_false, exists_false, or_false, false_or, WL.W.int.injEq, WL.W.scr.injEq, Int.reduceLE, Int.reduceLT, Int.reduceNeg, WL.W.bl.injEq, WL.W.str.injEq, WL.W.ref.injEq, WL.W.fls.injEq, WL.W.tup.injEq, WL.HW.lst.injEq, WL.HW.dct.injEq, WL.HW.ins.injEq, reduceCtorEq, ↓reduceIte, Bool.false_eq_true, decide_eq_true_eq, Bool.not_true, Bool.not_false, Bool.not_eq_true', decide_eq_false_iff_not, WL.at0, WL.at1, WL.at2, WL.at3, WL.at4, WL.updW_same, WL.p_draw, WL.p_is_whole, WL.p_enough, WL.p_longest, WL.h_me, WL.h_number, WL.h_members, WL.h_fell, WL.h_said, WL.h_story, WL.h_news, WL.h_row, WL.h_far, WL.h_still, WL.h_ballot, WL.h_kept, WL.h_has, WL.h_offer, WL.hs_number, WL.hs_members, WL.hs_membersN, WL.hs_fell, WL.hs_said, WL.hs_story, WL.hs_news, WL.hs_row, WL.hs_far, WL.hs_still, WL.hs_ballot, WL.hs_kept, WL.hs_has, WL.hs_offerN, WL.hs_keptS, WL.hs_newsS, WL.of_ballot, WL.of_wish, WL.of_answers, WL.of_value, WL.of_yes, WL.os_value, WL.e_leB, WL.e_ltB, WL.e_gtB, WL.hp_me, WL.hp_number, WL.hp_members, WL.hp_fell, WL.hp_said, WL.hp_story, WL.hp_news, WL.hp_row, WL.hp_far, WL.hp_still, WL.hp_ballot, WL.hp_kept, WL.hp_has, WL.hp_offer, WL.hq_me, WL.op_ballot, WL.op_wish, WL.op_answers, WL.op_value, WL.op_yes])
local macro_rules | `(tactic| walk_at "n") => `(tactic| ((try dsimp only); rw [WL.e_bcons]; walk_at "x"))
-- mac: p_draw p_is_whole p_enough p_longest h_me h_number h_members h_fell h_said h_story h_news h_row h_far h_still h_ballot h_kept h_has h_offer hs_number hs_members hs_membersN hs_fell hs_said hs_story hs_news hs_row hs_far hs_still hs_ballot hs_kept hs_has hs_offerN hs_keptS hs_newsS of_ballot of_wish of_answers of_value of_yes os_value e_leB e_ltB e_gtB hp_me hp_number hp_members hp_fell hp_said hp_story hp_news hp_row hp_far hp_still hp_ballot hp_kept hp_has hp_offer hq_me op_ballot op_wish op_answers op_value op_yes
/-! ## A hand: messages held, heard; ballots promised, agreed to -/
namespace WL
open PySem L2
section
variable {g : Gm} {HC OC : Addr} [HFld g HC] [OFld g OC]
def p_holds (HC OC : Addr) : SpW := fun ws H Q _ => ∃ l h rest src p m, ws = [.ref l.a, .int src, (Body.hold p m).v] ∧ Cells H (handX HC OC l h rest) ∧ h.row.length < 4000000 ∧ Post HC OC l rest (h.holds src p m).1 (.fls (lettersW (h.holds src p m).2)) Q
theorem r_holds (ml : g.mth HC "letters" (p_letters HC OC)) (ws : List W) (H : Hw) (Q : KW) (E : EW) (h : p_holds HC OC ws H Q E) : denB g c_Hand_holds (endOf (frz Q) E) (startW ["self", "source", "body"] ws) H := by
  obtain ⟨l, h, rest, src, p, m, rfl, c, hr, hq⟩ := h
  show denB g c_Hand_holds (endOf (frz Q) E) [some (.ref l.a), some (.int src), some (.tup [.int p, m.v])] H
  have hlen : (msgsW h.row).length = h.row.length := List.length_map ..
  unfold c_Hand_holds
  walk_at "n"
  rw [hlen]
  have stop : (h.still = true ∨ (h.row.length : Int) < p) → ∀ D : EndW, D.rt = frz Q → denB g [CS.ret (CE.lst CEs.nil)] D [some (.ref l.a), some (.int src), some (.tup [.int p, m.v])] H := fun cond D hD => by
    have e : h.holds src p m = (h, []) := by unfold Hand.holds; rw [if_pos cond]
    rw [e] at hq
    walk_at "n"
    refine ⟨by decide, newF ?_⟩
    rw [hD]
    walk_at "x"
    exact hq.here
  by_cases q1 : h.still = true
  · simp only [q1, if_true]
    exact stop (.inl q1) _ rfl
  simp only [q1, if_false, Bool.false_eq_true]
  by_cases q2 : (h.row.length : Int) < p
  · simp only [q2, if_true]
    exact stop (.inr q2) _ rfl
  simp only [q2, if_false]
  have e : h.holds src p m = (if p = h.row.length then { h with row := h.row ++ [m] } else h, h.ltrs [src] (.have' (if p = h.row.length then { h with row := h.row ++ [m] } else h).row.length)) := by
    unfold Hand.holds; rw [if_neg (by simp [q1, q2])]
  rw [e] at hq
  walk_at "n"
  rw [hlen]
  by_cases q3 : p = h.row.length
  · simp only [if_pos q3] at hq ⊢
    walk_at "n"
    refine ⟨by rw [hlen]; exact Nat.lt_trans hr (by decide), ?_⟩
    rw [msgsW_snoc]
    walk_at "n"
    refine mtho_of (C := HC) ml rfl ?_
    walk_at "x"
    refine ⟨by decide, newF ?_⟩
    walk_at "x"
    have ep : W.int (msgsW (h.row ++ [m])).length = (Body.have' (h.row ++ [m]).length).v := by simp [Body.v, msgsW]
    rw [ep]
    refine k_letters (h := { h with row := h.row ++ [m] }) (ts := [src]) (.have' (h.row ++ [m]).length) ml (by simp) ?_
    walk_at "x"
    exact hq.here
  · simp only [if_neg q3] at hq ⊢
    walk_at "n"
    refine mtho_of (C := HC) ml rfl ?_
    walk_at "x"
    refine ⟨by decide, newF ?_⟩
    walk_at "x"
    have ep : W.int (msgsW h.row).length = (Body.have' h.row.length).v := by simp [Body.v, msgsW]
    rw [ep]
    refine k_letters (ts := [src]) (.have' h.row.length) ml (by simp) ?_
    walk_at "x"
    exact hq.here
def p_heard (HC OC : Addr) : SpW := fun ws H Q _ => ∃ l h rest src n, ws = [.ref l.a, .int src, .int n] ∧ Cells H (handX HC OC l h rest) ∧ h.members.Nodup ∧ h.members.length ≤ 9 ∧ h.me ∈ h.members ∧ h.has.length ≤ 50 ∧ Post HC OC l rest (h.heard src n).1 (.fls (lettersW (h.heard src n).2)) Q
theorem r_heard (ms : g.mth HC "settled" (p_settled HC OC)) (ws : List W) (H : Hw) (Q : KW) (E : EW) (h : p_heard HC OC ws H Q E) : denB g c_Hand_heard (endOf (frz Q) E) (startW ["self", "source", "count"] ws) H := by
  obtain ⟨l, h, rest, src, n, rfl, c, nd, h9, hm, h50, hq⟩ := h
  show denB g c_Hand_heard (endOf (frz Q) E) [some (.ref l.a), some (.int src), some (.int n)] H
  unfold c_Hand_heard
  walk_at "n"
  rw [getK_has]
  walk_at "x"
  refine ⟨by rw [hasW, List.length_map]; exact Nat.lt_of_le_of_lt h50 (by decide), ?_⟩
  rw [put_has]
  walk_at "n"
  refine k_settled (h := { h with has := putA h.has src (max ((getK h.has src).getD 0) n) }) ms nd h9 hm fun l' H' ea c' => ?_
  walk_at "x"
  exact hq l' H' ea c'
def p_prepared (HC OC : Addr) : SpW := fun ws H Q _ => ∃ l h rest src b, ws = [.ref l.a, .int src, balW b] ∧ Cells H (handX HC OC l h rest) ∧ Post HC OC l rest (h.prepared src b).1 (.fls (lettersW (h.prepared src b).2)) Q
theorem r_prepared (ml : g.mth HC "letters" (p_letters HC OC)) (ws : List W) (H : Hw) (Q : KW) (E : EW) (h : p_prepared HC OC ws H Q E) : denB g c_Hand_prepared (endOf (frz Q) E) (startW ["self", "source", "ballot"] ws) H := by
  obtain ⟨l, h, rest, src, b, rfl, c, hq⟩ := h
  show denB g c_Hand_prepared (endOf (frz Q) E) [some (.ref l.a), some (.int src), some (balW b)] H
  unfold c_Hand_prepared
  walk_at "n"
  by_cases q : leB b h.ballot = true
  · simp only [q, if_true]
    have e : h.prepared src b = (h, []) := by unfold Hand.prepared; rw [if_pos q]
    rw [e] at hq
    walk_at "n"
    refine ⟨by decide, newF ?_⟩
    walk_at "x"
    exact hq.here
  · simp only [q, if_false, Bool.false_eq_true]
    have e : h.prepared src b = ({ h with ballot := b, still := true }, h.ltrs [src] (.promise b h.row h.kept)) := by unfold Hand.prepared; rw [if_neg q]
    rw [e] at hq
    walk_at "n"
    walk_at "n"
    walk_at "n"
    refine mtho_of (C := HC) ml rfl ?_
    walk_at "x"
    refine ⟨by decide, newF ?_⟩
    walk_at "x"
    refine newF ?_
    walk_at "x"
    refine ⟨by decide, ?_⟩
    refine k_letters (h := { h with ballot := b, still := true }) (ts := [src]) (.promise b h.row h.kept) ml (by simp) ?_
    walk_at "x"
    exact hq.here
def p_accepted (HC OC : Addr) : SpW := fun ws H Q _ => ∃ l h rest src b v, ws = [.ref l.a, .int src, (Body.accept b v).v] ∧ Cells H (handX HC OC l h rest) ∧ Post HC OC l rest (h.accepted src b v).1 (.fls (lettersW (h.accepted src b v).2)) Q
theorem r_accepted (ml : g.mth HC "letters" (p_letters HC OC)) (ws : List W) (H : Hw) (Q : KW) (E : EW) (h : p_accepted HC OC ws H Q E) : denB g c_Hand_accepted (endOf (frz Q) E) (startW ["self", "source", "body"] ws) H := by
  obtain ⟨l, h, rest, src, b, v, rfl, c, hq⟩ := h
  show denB g c_Hand_accepted (endOf (frz Q) E) [some (.ref l.a), some (.int src), some (.tup [balW b, v.v])] H
  unfold c_Hand_accepted
  walk_at "n"
  by_cases q : ltB b h.ballot = true
  · simp only [q, if_true]
    have e : h.accepted src b v = (h, []) := by unfold Hand.accepted; rw [if_pos q]
    rw [e] at hq
    walk_at "n"
    refine ⟨by decide, newF ?_⟩
    walk_at "x"
    exact hq.here
  · simp only [q, if_false, Bool.false_eq_true]
    have e : h.accepted src b v = ({ h with ballot := b, still := true, kept := some (b, v) }, h.ltrs [src] (.agree b)) := by unfold Hand.accepted; rw [if_neg q]
    rw [e] at hq
    walk_at "n"
    walk_at "n"
    walk_at "n"
    walk_at "n"
    refine mtho_of (C := HC) ml rfl ?_
    walk_at "x"
    refine ⟨by decide, newF ?_⟩
    walk_at "x"
    refine k_letters (h := { h with ballot := b, still := true, kept := some (b, v) }) (ts := [src]) (.agree b) ml (by simp) ?_
    walk_at "x"
    exact hq.here
end
end WL

-- mac: p_draw p_is_whole p_enough p_longest h_me h_number h_members h_fell h_said h_story h_news h_row h_far h_still h_ballot h_kept h_has h_offer hs_number hs_members hs_membersN hs_fell hs_said hs_story hs_news hs_row hs_far hs_still hs_ballot hs_kept hs_has hs_offerN hs_keptS hs_newsS of_ballot of_wish of_answers of_value of_yes os_value e_leB e_ltB e_gtB hp_me hp_number hp_members hp_fell hp_said hp_story hp_news hp_row hp_far hp_still hp_ballot hp_kept hp_has hp_offer hq_me op_ballot op_wish op_answers op_value op_yes
/-! ## A hand: made, begun anew; an offer; a next list entered -/
namespace WL
open PySem L2
section
variable {g : Gm} {HC OC : Addr} [HFld g HC] [OFld g OC]
theorem cells_begin {H : Hw} {a s p q : Addr} {z w x y : HW} {r d : Cell} {O R : List Cell} (c : Cells H ((q, x) :: (p, y) :: (a, z) :: r :: (s, w) :: d :: (O ++ R))) : Cells H ((a, z) :: (p, y) :: (s, w) :: (q, x) :: R) := by
  have c1 : Cells H ((q, x) :: (p, y) :: (a, z) :: (s, w) :: R) := c.sub (by
    refine .cons_cons _ (.cons_cons _ (.cons_cons _ (.cons _ (.cons_cons _ (.cons _ ?_)))))
    exact List.sublist_append_right ..)
  refine c1.perm ?_
  have p1 : ((q, x) :: (p, y) :: (a, z) :: (s, w) :: R).Perm ((p, y) :: (a, z) :: (s, w) :: (q, x) :: R) := by
    simpa using (List.perm_middle (l₁ := [(p, y), (a, z), (s, w)]) (l₂ := R) (a := (q, x))).symm
  exact p1.trans (.swap ..)
theorem cells_begin0 {H : Hw} {a s p q : Addr} {z w x y : HW} {R : List Cell} (c : Cells H ((q, x) :: (p, y) :: (a, z) :: (s, w) :: R)) : Cells H ((a, z) :: (p, y) :: (s, w) :: (q, x) :: R) := by
  refine c.perm ?_
  have p1 : ((q, x) :: (p, y) :: (a, z) :: (s, w) :: R).Perm ((p, y) :: (a, z) :: (s, w) :: (q, x) :: R) := by
    simpa using (List.perm_middle (l₁ := [(p, y), (a, z), (s, w)]) (l₂ := R) (a := (q, x))).symm
  exact p1.trans (.swap ..)
/-- a hand anew; or one that is being made -/
def p_begin (HC OC : Addr) : SpW := fun ws H Q _ => ∃ l h rest, ws = [.ref l.a] ∧ (Cells H (handX HC OC l h rest) ∨ (Cells H ((l.a, .ins HC (handP 7 l h)) :: (l.s, .lst (storyW h.story)) :: rest))) ∧ Post HC OC l rest h.begin' .non Q
theorem r_begin (ws : List W) (H : Hw) (Q : KW) (E : EW) (h : p_begin HC OC ws H Q E) : denB g c_Hand_begin (endOf (frz Q) E) (startW ["self"] ws) H := by
  obtain ⟨l, h, rest, rfl, c | c, hq⟩ := h
  all_goals
    show denB g c_Hand_begin (endOf (frz Q) E) [some (.ref l.a)] H
    unfold c_Hand_begin
    walk_at "n"
    refine ⟨Nat.zero_le _, newR fun p hp => ?_⟩
    haveI : Fresh H p := ⟨hp⟩
    walk_at "x"
    walk_at "n"
    walk_at "n"
    walk_at "n"
    refine ⟨by decide, ?_⟩
    rw [show W.tup [W.int 0, W.int (-1)] = balW (0, -1) from rfl]
    walk_at "x"
    walk_at "n"
    rw [show (W.non : W) = keptW none from rfl]
    walk_at "x"
    rw [show keptW none = (W.non : W) from rfl]
    walk_at "x"
    walk_at "n"
    intro q hq'
    haveI : Fresh _ q := ⟨hq'⟩
    walk_at "x"
    walk_at "n"
  · refine hq { l with r := p, d := q } _ rfl ?_
    exact cells_begin (O := offCells OC l h.offer) (R := rest) (by exact inferInstance)
  · refine hq { l with r := p, d := q } _ rfl ?_
    exact cells_begin0 (R := rest) (by exact inferInstance)
theorem k_begin {l : HandL} {h : Hand} {rest : List Cell} {H : Hw} {Q : KW} {E : EW} {fs : List (Str × W)} (hm : g.mth HC "begin" (p_begin HC OC)) [At H l.a (.ins HC fs)] (hl : fs.lookup ("begin" : Str) = none)
    (c : Cells H (handX HC OC l h rest) ∨ (Cells H ((l.a, .ins HC (handP 7 l h)) :: (l.s, .lst (storyW h.story)) :: rest))) (q : Post HC OC l rest h.begin' .non Q) : mtho g H l.a "begin" (fun sp => sp [.ref l.a] H Q E) :=
  mtho_of (C := HC) hm hl ⟨l, h, rest, rfl, c, q⟩
/-- a list that stays as it is: its own words, or a list of ours among the cells -/
def Stays (w : W) (xs : List W) (L : List Cell) : Prop := w = .fls xs ∨ ∃ b, w = .ref b ∧ (b, HW.lst xs) ∈ L
theorem Stays.seq {w : W} {xs : List W} {L : List Cell} {H : Hw} (s : Stays w xs L) (c : Cells H L) : seqA H w xs := by
  rcases s with rfl | ⟨b, rfl, hb⟩
  · rfl
  · exact c.at' _ hb
theorem Stays.seqI {w : W} {xs : List W} {L L' : List Cell} {H : Hw} (s : Stays w xs L) [c : Cells H L'] (m : ∀ y ∈ L, y ∈ L') : seqA H w xs := by
  rcases s with rfl | ⟨b, rfl, hb⟩
  · rfl
  · exact c.at' _ (m _ hb)
theorem Stays.cons {w : W} {xs : List W} {L : List Cell} (s : Stays w xs L) (x : Cell) : Stays w xs (x :: L) := s.imp id fun ⟨b, e, h⟩ => ⟨b, e, List.mem_cons_of_mem _ h⟩
/-- a hand is made -/
def p_Hand (HC OC : Addr) : SpW := fun ws H Q _ => ∃ x me ms rest w, ws = [.ref x, .int me, w] ∧ Stays w (intsW ms) rest ∧ Cells H ((x, .ins HC []) :: rest) ∧ ∀ l' H', l'.a = x → Cells H' (handX HC OC l' (Hand.init me ms) rest) → Q .non H'
theorem r_Hand (mb : g.mth HC "begin" (p_begin HC OC)) (ws : List W) (H : Hw) (Q : KW) (E : EW) (h : p_Hand HC OC ws H Q E) : denB g c_Hand_init (endOf (frz Q) E) (startW ["self", "me", "members"] ws) H := by
  obtain ⟨x, me, ms, rest, w, rfl, st, c, hq⟩ := h
  show denB g c_Hand_init (endOf (frz Q) E) [some (.ref x), some (.int me), some w] H
  have c0 : Cells H ((x, .ins HC (handP 0 ⟨x, x, x, x, x, x, x⟩ (Hand.init me ms))) :: rest) := c
  clear c
  unfold c_Hand_init
  walk_at "n"
  walk_at "n"
  refine in_ints (y := w) (l := ms) (st.seqI (by intro y hy; exact List.mem_cons_of_mem _ hy)) ?_
  by_cases q : me ∈ ms
  all_goals
    simp only [q, decide_true, decide_false]
    walk_at "x"
    walk_at "n"
    refine in_ints (y := w) (l := ms) (st.seqI (by intro y hy; exact List.mem_cons_of_mem _ hy)) ?_
    simp only [q, decide_true, decide_false]
    walk_at "x"
  · refine seqo_of (st.seqI (by intro y hy; exact List.mem_cons_of_mem _ hy)) (newF ?_)
    rw [show (W.fls (intsW ms) : W) = .fls (intsW ms) from rfl]
    walk_at "x"
    walk_at "n"
    walk_at "n"
    walk_at "n"
    refine ⟨Nat.zero_le _, newR fun p hp => ?_⟩
    haveI : Fresh _ p := ⟨hp⟩
    walk_at "x"
    walk_at "n"
    walk_at "n"
    refine k_begin (l := ⟨x, x, p, x, x, x, x⟩) (h := { Hand.init me ms with number := 0, members := ms }) mb rfl (.inr ((show Cells _ ((p, .lst []) :: (x, .ins HC (handP 7 ⟨x, x, p, x, x, x, x⟩ { Hand.init me ms with number := 0, members := ms })) :: rest) from inferInstance).perm (.swap ..))) fun l' H' ea c' => ?_
    refine hq l' H' ea ?_
    have e : ({ Hand.init me ms with number := 0, members := ms } : Hand).begin' = Hand.init me ms := by simp [Hand.init, Hand.begin', q]
    rw [e] at c'
    exact c'
  · refine ⟨Nat.zero_le _, newF ?_⟩
    rw [show (W.fls [] : W) = .fls (intsW []) from rfl]
    walk_at "x"
    walk_at "n"
    walk_at "n"
    walk_at "n"
    refine ⟨Nat.zero_le _, newR fun p hp => ?_⟩
    haveI : Fresh _ p := ⟨hp⟩
    walk_at "x"
    walk_at "n"
    walk_at "n"
    refine k_begin (l := ⟨x, x, p, x, x, x, x⟩) (h := { Hand.init me ms with number := -1, members := [] }) mb rfl (.inr ((show Cells _ ((p, .lst []) :: (x, .ins HC (handP 7 ⟨x, x, p, x, x, x, x⟩ { Hand.init me ms with number := -1, members := [] })) :: rest) from inferInstance).perm (.swap ..))) fun l' H' ea c' => ?_
    refine hq l' H' ea ?_
    have e : ({ Hand.init me ms with number := -1, members := [] } : Hand).begin' = Hand.init me ms := by simp [Hand.init, Hand.begin', q]
    rw [e] at c'
    exact c'
end
end WL

local macro_rules | `(tactic| walk_at "s") => `(tactic| try simp only [WL.e_var, WL.e_lit, WL.e_gint, WL.e_lst, WL.e_tup, WL.e_bin, WL.e_neg, WL.e_cmp, WL.e_chn, WL.e_andV, WL.e_orV, WL.e_notV, WL.e_ife, WL.e_fld, WL.e_ix, WL.e_slc, WL.e_rev, WL.e_bcl, WL.e_isi, WL.e_call, WL.e_mk, WL.e_mth, WL.e_app, WL.e_ext, WL.e_pop, WL.e_get1, WL.e_get2, WL.e_setd, WL.e_lcm, WL.e_dnew, WL.e_dct, WL.e_lrng, WL.e_inr, WL.e_nset, WL.e_isiS, WL.e_anil, WL.e_acons, WL.e_pnil, WL.e_pcons, WL.e_ono, WL.e_oso, WL.e_ands, WL.e_ors, WL.e_tnot, WL.e_tru, WL.e_iex, WL.e_ir1, WL.e_ir2, WL.e_ir3, WL.e_uno, WL.e_uso,
  WL.e_set, WL.e_fset, WL.e_iset, WL.e_unp, WL.e_expr, WL.e_ret, WL.e_retN, WL.e_ifs, WL.e_for_, WL.e_whl, WL.e_raise, WL.e_try, WL.e_tryH, WL.e_pass, WL.e_bnil, WL.e_bcons, WL.e_loop0, WL.e_loop1, WL.e_comp0, WL.e_comp1,
  WL.e_addI, WL.e_addS, WL.e_addF, WL.e_addRF, WL.e_addFR, WL.e_addRR, WL.e_sub, WL.e_mulI, WL.e_div, WL.e_mod, WL.e_pow, WL.e_ltI, WL.e_leI, WL.e_gtI, WL.e_geI, WL.e_eqI, WL.e_neI, WL.e_eqS, WL.e_neS, WL.e_eqB, WL.e_neB, WL.e_isN, WL.e_isntN, WL.e_isB, WL.e_isntB, WL.n_non, WL.ns_non, WL.nb_non, WL.n_bl, WL.ns_bl, WL.nb_bl, WL.n_int, WL.ns_int, WL.nb_int, WL.n_str, WL.ns_str, WL.nb_str, WL.n_ref, WL.ns_ref, WL.nb_ref, WL.n_scr, WL.ns_scr, WL.nb_scr, WL.n_tup, WL.ns_tup, WL.nb_tup, WL.n_fls, WL.ns_fls, WL.nb_fls,
  WL.e_len, WL.e_lenF, WL.e_lenT, WL.e_lenS, WL.e_lenX, WL.e_lenR, WL.e_lenL, WL.e_lenD, WL.e_list, WL.e_tuple, WL.e_tupF, WL.e_tupT, WL.e_tupS, WL.e_tupR, WL.e_max2, WL.e_max1, WL.e_min2, WL.e_int1, WL.e_intB, WL.e_intI, WL.e_seqR, WL.e_seqF, WL.e_seqT, WL.e_seqS, WL.q_AR, WL.q_AF, WL.q_AT, WL.q_AS, WL.q_LR, WL.q_LF, WL.q_LS, WL.q_LT, WL.e_seqMR, WL.e_seqMF, WL.e_lsto, WL.e_dcto, WL.e_tyL, WL.e_tyD, WL.e_isL, WL.e_isLF, WL.e_isD, WL.e_ixF, WL.e_ixT, WL.e_ixS, WL.e_ixR, WL.e_ixX, WL.e_ixL, WL.e_ixD, WL.e_isR, WL.e_isD1, WL.e_isL1, WL.e_tyN, WL.e_tyB, WL.e_tyI, WL.e_tyS, WL.e_tyT, WL.e_tyF, WL.e_slF, WL.e_slR, WL.e_slS, WL.e_slT,
  WL.z_non, WL.z_bl, WL.z_int, WL.z_str, WL.z_tup, WL.z_fls, WL.updW_twice, WL.end_nx, WL.end_rt, WL.end_ex, WL.keyW, WL.kb_NoneType_int, WL.kb_NoneType_bool, WL.kb_NoneType_list, WL.kb_NoneType_tuple, WL.kb_NoneType_str, WL.kb_bool_int, WL.kb_bool_bool, WL.kb_bool_list, WL.kb_bool_tuple, WL.kb_bool_str, WL.kb_int_int, WL.kb_int_bool, WL.kb_int_list, WL.kb_int_tuple, WL.kb_int_str, WL.kb_str_int, WL.kb_str_bool, WL.kb_str_list, WL.kb_str_tuple, WL.kb_str_str, WL.kb_tuple_int, WL.kb_tuple_bool, WL.kb_tuple_list, WL.kb_tuple_tuple, WL.kb_tuple_str, WL.kb_list_int, WL.kb_list_bool, WL.kb_list_list, WL.kb_list_tuple, WL.kb_list_str, WL.kb_dict_int, WL.kb_dict_bool, WL.kb_dict_list, WL.kb_dict_tuple, WL.kb_dict_str,
  List.getElem?_cons_zero, List.getElem?_cons_succ, List.set_cons_zero, List.set_cons_succ, List.cons.injEq, List.length_cons, List.length_nil, Option.some.injEq, exists_eq_left, exists_eq_left', exists_eq, exists_eq', and_assoc, exists_and_left, true_and, and_true, false_and, and_false, exists_false, or_false, false_or, WL.W.int.injEq, WL.W.scr.injEq, Int.reduceLE, Int.reduceLT, Int.reduceNeg, WL.W.bl.injEq, WL.W.str.injEq, WL.W.ref.injEq, WL.W.fls.injEq, WL.W.tup.injEq, WL.HW.lst.injEq, WL.HW.dct.injEq, WL.HW.ins.injEq, reduceCtorEq, ↓reduceIte, Bool.false_eq_true, decide_eq_true_eq, Bool.not_true, Bool.not_false, Bool.not_eq_true', decide_eq_false_iff_not, WL.at0, WL.at1, WL.at2, WL.at3, WL.at4, WL.updW_same, WL.p_draw, WL.p_is_whole, WL.p_enough, WL.p_longest, WL.h_me, WL.h_number, WL.h_members, WL.h_fell, WL.h_said, WL.h_story, WL.h_news, WL.h_row, WL.h_far, WL.h_still, WL.h_ballot, WL.h_kept, WL.h_has, WL.h_offer, WL.hs_number, WL.hs_members, WL.hs_membersN, WL.hs_fell, WL.hs_said, WL.hs_story, WL.hs_news, WL.hs_row, WL.hs_far, WL.hs_still, WL.hs_ballot, WL.hs_kept, WL.hs_has, WL.hs_offerN, WL.hs_keptS, WL.hs_newsS, WL.of_ballot, WL.of_wish, WL.of_answers, WL.of_value, WL.of_yes, WL.os_value, WL.e_leB, WL.e_ltB, WL.e_gtB, WL.hp_me, WL.hp_number, WL.hp_members, WL.hp_fell, WL.hp_said, WL.hp_story, WL.hp_news, WL.hp_row, WL.hp_far, WL.hp_still, WL.hp_ballot, WL.hp_kept, WL.hp_has, WL.hp_offer, WL.hq_me, WL.op_ballot, WL.op_wish, WL.op_answers, WL.op_value, WL.op_yes, WL.e_bal0, WL.e_offN, WL.e_offS])
local macro_rules | `(tactic| walk_at "x") => `(tactic| try simp only [WL.e_var, WL.e_lit, WL.e_gint, WL.e_lst, WL.e_tup, WL.e_bin, WL.e_neg, WL.e_cmp, WL.e_chn, WL.e_andV, WL.e_orV, WL.e_notV, WL.e_ife, WL.e_fld, WL.e_ix, WL.e_slc, WL.e_rev, WL.e_bcl, WL.e_isi, WL.e_call, WL.e_mk, WL.e_mth, WL.e_app, WL.e_ext, WL.e_pop, WL.e_get1, WL.e_get2, WL.e_setd, WL.e_lcm, WL.e_dnew, WL.e_dct, WL.e_lrng, WL.e_inr, WL.e_nset, WL.e_isiS, WL.e_anil, WL.e_acons, WL.e_pnil, WL.e_pcons, WL.e_ono, WL.e_oso, WL.e_ands, WL.e_ors, WL.e_tnot, WL.e_tru, WL.e_iex, WL.e_ir1, WL.e_ir2, WL.e_ir3, WL.e_uno, WL.e_uso,
  WL.e_set, WL.e_fset, WL.e_iset, WL.e_unp, WL.e_expr, WL.e_ret, WL.e_retN, WL.e_ifs, WL.e_for_, WL.e_whl, WL.e_raise, WL.e_try, WL.e_tryH, WL.e_pass, WL.e_bnil, WL.e_loop0, WL.e_loop1, WL.e_comp0, WL.e_comp1,
  WL.e_addI, WL.e_addS, WL.e_addF, WL.e_addRF, WL.e_addFR, WL.e_addRR, WL.e_sub, WL.e_mulI, WL.e_div, WL.e_mod, WL.e_pow, WL.e_ltI, WL.e_leI, WL.e_gtI, WL.e_geI, WL.e_eqI, WL.e_neI, WL.e_eqS, WL.e_neS, WL.e_eqB, WL.e_neB, WL.e_isN, WL.e_isntN, WL.e_isB, WL.e_isntB, WL.n_non, WL.ns_non, WL.nb_non, WL.n_bl, WL.ns_bl, WL.nb_bl, WL.n_int, WL.ns_int, WL.nb_int, WL.n_str, WL.ns_str, WL.nb_str, WL.n_ref, WL.ns_ref, WL.nb_ref, WL.n_scr, WL.ns_scr, WL.nb_scr, WL.n_tup, WL.ns_tup, WL.nb_tup, WL.n_fls, WL.ns_fls, WL.nb_fls,
  WL.e_len, WL.e_lenF, WL.e_lenT, WL.e_lenS, WL.e_lenX, WL.e_lenR, WL.e_lenL, WL.e_lenD, WL.e_list, WL.e_tuple, WL.e_tupF, WL.e_tupT, WL.e_tupS, WL.e_tupR, WL.e_max2, WL.e_max1, WL.e_min2, WL.e_int1, WL.e_intB, WL.e_intI, WL.e_seqR, WL.e_seqF, WL.e_seqT, WL.e_seqS, WL.q_AR, WL.q_AF, WL.q_AT, WL.q_AS, WL.q_LR, WL.q_LF, WL.q_LS, WL.q_LT, WL.e_seqMR, WL.e_seqMF, WL.e_lsto, WL.e_dcto, WL.e_tyL, WL.e_tyD, WL.e_isL, WL.e_isLF, WL.e_isD, WL.e_ixF, WL.e_ixT, WL.e_ixS, WL.e_ixR, WL.e_ixX, WL.e_ixL, WL.e_ixD, WL.e_isR, WL.e_isD1, WL.e_isL1, WL.e_tyN, WL.e_tyB, WL.e_tyI, WL.e_tyS, WL.e_tyT, WL.e_tyF, WL.e_slF, WL.e_slR, WL.e_slS, WL.e_slT,
  WL.z_non, WL.z_bl, WL.z_int, WL.z_str, WL.z_tup, WL.z_fls, WL.updW_twice, WL.end_nx, WL.end_rt, WL.end_ex, WL.keyW, WL.kb_NoneType_int, WL.kb_NoneType_bool, WL.kb_NoneType_list, WL.kb_NoneType_tuple, WL.kb_NoneType_str, WL.kb_bool_int, WL.kb_bool_bool, WL.kb_bool_list, WL.kb_bool_tuple, WL.kb_bool_str, WL.kb_int_int, WL.kb_int_bool, WL.kb_int_list, WL.kb_int_tuple, WL.kb_int_str, WL.kb_str_int, WL.kb_str_bool, WL.kb_str_list, WL.kb_str_tuple, WL.kb_str_str, WL.kb_tuple_int, WL.kb_tuple_bool, WL.kb_tuple_list, WL.kb_tuple_tuple, WL.kb_tuple_str, WL.kb_list_int, WL.kb_list_bool, WL.kb_list_list, WL.kb_list_tuple, WL.kb_list_str, WL.kb_dict_int, WL.kb_dict_bool, WL.kb_dict_list, WL.kb_dict_tuple, WL.kb_dict_str,
  List.getElem?_cons_zero, List.getElem?_cons_succ, List.set_cons_zero, List.set_cons_succ, List.cons.injEq, List.length_cons, List.length_nil, Option.some.injEq, exists_eq_left, exists_eq_left', exists_eq, exists_eq', and_assoc, exists_and_left, true_and, and_true, false_and, and_false, exists_false, or_false, false_or, WL.W.int.injEq, WL.W.scr.injEq, Int.reduceLE, Int.reduceLT, Int.reduceNeg, WL.W.bl.injEq, WL.W.str.injEq, WL.W.ref.injEq, WL.W.fls.injEq, WL.W.tup.injEq, WL.HW.lst.injEq, WL.HW.dct.injEq, WL.HW.ins.injEq, reduceCtorEq, ↓reduceIte, Bool.false_eq_true, decide_eq_true_eq, Bool.not_true, Bool.not_false, Bool.not_eq_true', decide_eq_false_iff_not, WL.at0, WL.at1, WL.at2, WL.at3, WL.at4, WL.updW_same, WL.p_draw, WL.p_is_whole, WL.p_enough, WL.p_longest, WL.h_me, WL.h_number, WL.h_members, WL.h_fell, WL.h_said, WL.h_story, WL.h_news, WL.h_row, WL.h_far, WL.h_still, WL.h_ballot, WL.h_kept, WL.h_has, WL.h_offer, WL.hs_number, WL.hs_members, WL.hs_membersN, WL.hs_fell, WL.hs_said, WL.hs_story, WL.hs_news, WL.hs_row, WL.hs_far, WL.hs_still, WL.hs_ballot, WL.hs_kept, WL.hs_has, WL.hs_offerN, WL.hs_keptS, WL.hs_newsS, WL.of_ballot, WL.of_wish, WL.of_answers, WL.of_value, WL.of_yes, WL.os_value, WL.e_leB, WL.e_ltB, WL.e_gtB, WL.hp_me, WL.hp_number, WL.hp_members, WL.hp_fell, WL.hp_said, WL.hp_story, WL.hp_news, WL.hp_row, WL.hp_far, WL.hp_still, WL.hp_ballot, WL.hp_kept, WL.hp_has, WL.hp_offer, WL.hq_me, WL.op_ballot, WL.op_wish, WL.op_answers, WL.op_value, WL.op_yes, WL.e_bal0, WL.e_offN, WL.e_offS])
local macro_rules | `(tactic| walk_at "n") => `(tactic| ((try dsimp only); rw [WL.e_bcons]; walk_at "x"))
-- mac: p_draw p_is_whole p_enough p_longest h_me h_number h_members h_fell h_said h_story h_news h_row h_far h_still h_ballot h_kept h_has h_offer hs_number hs_members hs_membersN hs_fell hs_said hs_story hs_news hs_row hs_far hs_still hs_ballot hs_kept hs_has hs_offerN hs_keptS hs_newsS of_ballot of_wish of_answers of_value of_yes os_value e_leB e_ltB e_gtB hp_me hp_number hp_members hp_fell hp_said hp_story hp_news hp_row hp_far hp_still hp_ballot hp_kept hp_has hp_offer hq_me op_ballot op_wish op_answers op_value op_yes e_bal0 e_offN e_offS
/-! ## A hand: a next list offered, entered -/
namespace WL
open PySem L2
section
variable {g : Gm} {HC OC : Addr} [HFld g HC] [OFld g OC]
def p_Offer (OC : Addr) : SpW := fun ws H Q _ => ∃ x b wish rest, ws = [.ref x, balW b, .fls (intsW wish)] ∧ Cells H ((x, .ins OC []) :: rest) ∧
  ∀ (l' : HandL) H', l'.o = x → Cells H' ((l'.o, .ins OC (offF l' ⟨b, wish, [], none, []⟩)) :: (l'.n, .dct (ansWs [])) :: (l'.y, .lst (intsW [])) :: rest) → Q .non H'
theorem r_Offer (ws : List W) (H : Hw) (Q : KW) (E : EW) (h : p_Offer OC ws H Q E) : denB g c_Offer_init (endOf (frz Q) E) (startW ["self", "ballot", "wish"] ws) H := by
  obtain ⟨x, b, wish, rest, rfl, c, hq⟩ := h
  show denB g c_Offer_init (endOf (frz Q) E) [some (.ref x), some (balW b), some (.fls (intsW wish))] H
  have c0 : Cells H ((x, .ins OC (offP 0 ⟨x, x, x, x, x, x, x⟩ ⟨b, wish, [], none, []⟩)) :: rest) := c
  clear c
  unfold c_Offer_init
  walk_at "n"
  walk_at "n"
  walk_at "n"
  intro p hp
  haveI : Fresh _ p := ⟨hp⟩
  walk_at "x"
  walk_at "n"
  walk_at "n"
  refine ⟨Nat.zero_le _, newR fun q hq' => ?_⟩
  haveI : Fresh _ q := ⟨hq'⟩
  walk_at "x"
  refine hq ⟨x, x, x, x, x, p, q⟩ _ rfl ?_
  refine Cells.perm (L := (q, .lst []) :: (p, .dct []) :: (x, .ins OC (offF ⟨x, x, x, x, x, p, q⟩ ⟨b, wish, [], none, []⟩)) :: rest) (by exact inferInstance) ?_
  exact (List.Perm.swap ..).trans ((List.Perm.cons _ (.swap ..)).trans ((List.Perm.swap ..).trans (.cons _ (.refl _))))
theorem cells_offer {H : Hw} {o n y a r s d : Cell} {O R : List Cell} (c : Cells H (o :: n :: y :: a :: r :: s :: d :: (O ++ R))) : Cells H (a :: r :: s :: d :: o :: n :: y :: R) := by
  have c1 : Cells H (o :: n :: y :: a :: r :: s :: d :: R) := c.sub (by
    refine .cons_cons _ (.cons_cons _ (.cons_cons _ (.cons_cons _ (.cons_cons _ (.cons_cons _ (.cons_cons _ ?_))))))
    exact List.sublist_append_right ..)
  refine c1.perm ?_
  show ([o, n, y] ++ ([a, r, s, d] ++ R)).Perm ([a, r, s, d] ++ ([o, n, y] ++ R))
  rw [← List.append_assoc, ← List.append_assoc]
  exact List.Perm.append_right _ List.perm_append_comm
def p_hpropose (HC OC : Addr) : SpW := fun ws H Q _ => ∃ l h rest wish w, ws = [.ref l.a, w] ∧ Cells H (handX HC OC l h rest) ∧ seqA H w (intsW wish) ∧ h.members.length ≤ 9 ∧ Post HC OC l rest (h.propose wish).1 (.fls (lettersW (h.propose wish).2)) Q
theorem propose_rest (mf : g.made "Offer" OC (p_Offer OC)) (ml : g.mth HC "letters" (p_letters HC OC)) {l : HandL} {h : Hand} {rest O : List Cell} {wish : List Int} {w : W} {H : Hw} {Q : KW} {E : EW} (hs : seqA H w (intsW wish)) (h9 : h.members.length ≤ 9)
    (c : Cells H ((l.a, .ins HC (handF l h)) :: (l.r, .lst (msgsW h.row)) :: (l.s, .lst (storyW h.story)) :: (l.d, .dct (hasW h.has)) :: (O ++ rest))) (hq : Post HC OC l rest (h.propose wish).1 (.fls (lettersW (h.propose wish).2)) Q) :
    denB g (c_Hand_propose.drop 2) (endOf (frz Q) E) [some (.ref l.a), some w, some (.int h.ahead)] H := by
  simp only [c_Hand_propose, List.drop_succ_cons, List.drop_zero]
  walk_at "n"
  refine ⟨_, _, mf, ?_⟩
  walk_at "x"
  refine ⟨by decide, seqo_of hs (newF fun x hx => ?_)⟩
  haveI : Fresh H x := ⟨hx⟩
  refine ⟨x, (h.ahead + 1, h.me), wish, _, rfl, inferInstance, fun l' H' e c' => ⟨rfl, ?_⟩⟩
  subst e
  rw [hs_offer (C := HC) (l := l) (h := h) ⟨(h.ahead + 1, h.me), wish, [], none, []⟩]
  have c2 : Cells (updW H' l.a (.ins HC (handF { l with o := l'.o } { h with offer := some ⟨(h.ahead + 1, h.me), wish, [], none, []⟩ }))) (handX HC OC { l with o := l'.o, n := l'.n, y := l'.y } { h with offer := some ⟨(h.ahead + 1, h.me), wish, [], none, []⟩ } rest) :=
    cells_offer (O := O) (R := rest) (by exact inferInstance)
  generalize updW H' l.a (.ins HC (handF { l with o := l'.o } { h with offer := some ⟨(h.ahead + 1, h.me), wish, [], none, []⟩ })) = H2 at c2 ⊢
  have c3 : Cells H2 ((l.a, .ins HC (handF { l with o := l'.o, n := l'.n, y := l'.y } { h with offer := some ⟨(h.ahead + 1, h.me), wish, [], none, []⟩ })) :: (l.r, .lst (msgsW h.row)) :: (l.s, .lst (storyW h.story)) :: (l.d, .dct (hasW h.has)) ::
    (l'.o, .ins OC (offF { l with o := l'.o, n := l'.n, y := l'.y } ⟨(h.ahead + 1, h.me), wish, [], none, []⟩)) :: (l'.n, .dct (ansWs [])) :: (l'.y, .lst (intsW [])) :: rest) := c2
  walk_at "n"
  refine mtho_of (C := HC) ml rfl ?_
  walk_at "x"
  refine k_letters (l := { l with o := l'.o, n := l'.n, y := l'.y }) (h := { h with offer := some ⟨(h.ahead + 1, h.me), wish, [], none, []⟩ }) (rest := rest) (.prepare (h.ahead + 1, h.me)) ml (c := c2) (by show h.members.length ≤ 1000; omega) ?_
  walk_at "x"
  exact hq { l with o := l'.o, n := l'.n, y := l'.y } H2 rfl c2
theorem r_hpropose (mf : g.made "Offer" OC (p_Offer OC)) (ml : g.mth HC "letters" (p_letters HC OC)) (ws : List W) (H : Hw) (Q : KW) (E : EW) (h : p_hpropose HC OC ws H Q E) :
    denB g c_Hand_propose (endOf (frz Q) E) (startW ["self", "wish", "ahead"] ws) H := by
  obtain ⟨l, h, rest, wish, w, rfl, c, hs, h9, hq⟩ := h
  show denB g c_Hand_propose (endOf (frz Q) E) [some (.ref l.a), some w, none] H
  obtain ⟨me, num, mem, fell, said, story, news, row, far, still, bal, kept, has, off⟩ := h
  have rst := fun (O : List Cell) c => propose_rest (H := H) (E := E) mf ml (h := ⟨me, num, mem, fell, said, story, news, row, far, still, bal, kept, has, off⟩) (O := O) hs h9 c hq
  unfold c_Hand_propose
  walk_at "n"
  walk_at "n"
  cases off with
  | none =>
    walk_at "x"
    exact rst _ c
  | some f =>
    walk_at "x"
    have c2 : Cells H ((l.a, .ins HC (handF l ⟨me, num, mem, fell, said, story, news, row, far, still, bal, kept, has, some f⟩)) :: (l.r, .lst (msgsW row)) :: (l.s, .lst (storyW story)) :: (l.d, .dct (hasW has)) ::
      (l.o, .ins OC (offF l f)) :: (l.n, .dct (ansWs f.answers)) :: (l.y, .lst (intsW f.yes)) :: rest) := c
    clear c
    walk_at "n"
    exact rst [_, _, _] c2
end
end WL

-- mac: p_draw p_is_whole p_enough p_longest h_me h_number h_members h_fell h_said h_story h_news h_row h_far h_still h_ballot h_kept h_has h_offer hs_number hs_members hs_membersN hs_fell hs_said hs_story hs_news hs_row hs_far hs_still hs_ballot hs_kept hs_has hs_offerN hs_keptS hs_newsS of_ballot of_wish of_answers of_value of_yes os_value e_leB e_ltB e_gtB hp_me hp_number hp_members hp_fell hp_said hp_story hp_news hp_row hp_far hp_still hp_ballot hp_kept hp_has hp_offer hq_me op_ballot op_wish op_answers op_value op_yes e_bal0 e_offN e_offS
/-! ## A hand: a next list entered; all sent once more -/
namespace WL
open PySem L2
section
variable {g : Gm} {HC OC : Addr} [HFld g HC] [OFld g OC]
def p_entered (HC OC : Addr) : SpW := fun ws H Q _ => ∃ l h rest n, ws = [.ref l.a, News.v n] ∧ Cells H (handX HC OC l h rest) ∧ h.story.length < 4000000 ∧ Post HC OC l rest (h.entered n) (.fls []) Q
theorem entered_tail (mb : g.mth HC "begin" (p_begin HC OC)) {l : HandL} {h : Hand} {rest : List Cell} {n : News} {st : List Entry} {a b : Option W} {H : Hw} {Q : KW} {E : EW} (c : Cells H (handX HC OC l { h with story := st } rest))
    (hq : Post HC OC l rest (({ h with story := st, number := n.num, members := if h.me ∈ n.hands then n.hands else [], news := some n } : Hand).begin') (.fls []) Q) :
    denB g (c_Hand_entered.drop 4) (endOf (frz Q) E) [some (.ref l.a), some n.v, a, b] H := by
  simp only [c_Hand_entered, List.drop_succ_cons, List.drop_zero]
  have ev : n.v = .tup [.int n.num, .tup (intsW n.hands), .tup (msgsW n.row), .tup (intsW n.wit)] := rfl
  walk_at "n"
  rw [ev]
  walk_at "x"
  rw [← ev]
  walk_at "n"
  rw [ev]
  walk_at "x"
  rw [← ev]
  refine in_ints (y := .tup (intsW n.hands)) (l := n.hands) rfl ?_
  have fin : ∀ ms, (ms = if h.me ∈ n.hands then n.hands else []) → denB g (c_Hand_entered.drop 6) (endOf (frz Q) E) [some (.ref l.a), some n.v, a, b] (updW (updW H l.a (.ins HC (handF l { h with story := st, number := n.num }))) l.a (.ins HC (handF l { h with story := st, number := n.num, members := ms }))) := fun ms em => by
    simp only [c_Hand_entered, List.drop_succ_cons, List.drop_zero]
    walk_at "n"
    walk_at "n"
    refine k_begin (h := { h with story := st, number := n.num, members := ms, news := some n }) mb rfl (.inl (by exact inferInstance)) fun l' H' ea c' => ?_
    walk_at "n"
    refine ⟨Nat.zero_le _, newF ?_⟩
    walk_at "x"
    refine hq l' H' ea ?_
    rw [← em]
    exact c'
  simp only [c_Hand_entered, List.drop_succ_cons, List.drop_zero] at fin
  by_cases q : h.me ∈ n.hands
  · simp only [q, decide_true, if_true] at fin ⊢
    walk_at "x"
    rw [ev]
    walk_at "x"
    rw [← ev]
    refine newF ?_
    walk_at "x"
    have := fin n.hands rfl
    simp only [updW_twice] at this
    exact this
  · simp only [q, decide_false, if_false] at fin ⊢
    walk_at "x"
    refine ⟨Nat.zero_le _, newF ?_⟩
    walk_at "x"
    have := fin [] rfl
    simp only [updW_twice] at this
    exact this
theorem entered_rest (mb : g.mth HC "begin" (p_begin HC OC)) {l : HandL} {h : Hand} {rest : List Cell} {n : News} {b2 b3 : Bool} {H : Hw} {Q : KW} {E : EW} (e2 : b2 = h.goesOn n) (e3 : b3 = h.joins n) (c : Cells H (handX HC OC l h rest)) (hst : h.story.length < 4000000) (hq : Post HC OC l rest (h.entered n) (.fls []) Q) :
    denB g (c_Hand_entered.drop 2) (endOf (frz Q) E) [some (.ref l.a), some n.v, some (.bl b2), some (.bl b3)] H := by
  simp only [c_Hand_entered, List.drop_succ_cons, List.drop_zero]
  have tl := fun st c hq => entered_tail (E := E) (Q := Q) mb (l := l) (h := h) (rest := rest) (n := n) (st := st) (a := some (.bl b2)) (b := some (.bl b3)) (H := H) c hq
  have ev : n.v = .tup [.int n.num, .tup (intsW n.hands), .tup (msgsW n.row), .tup (intsW n.wit)] := rfl
  walk_at "n"
  cases b2 with
  | false =>
    cases b3 with
    | false =>
      have e : h.entered n = h := by unfold Hand.entered; rw [if_neg (by rw [← e2, ← e3]; simp)]
      rw [e] at hq
      walk_at "x"
      walk_at "n"
      refine ⟨Nat.zero_le _, newF ?_⟩
      walk_at "x"
      exact hq.here
    | true =>
      have e : h.entered n = h.enter n := by unfold Hand.entered; rw [if_pos (.inr e3.symm)]
      rw [e] at hq
      unfold Hand.enter at hq
      rw [show (if h.goesOn n = true then h.story ++ [⟨h.number, h.members, n.row⟩] else h.story) = h.story from if_neg (by rw [← e2]; simp)] at hq
      walk_at "x"
      walk_at "n"
      exact tl h.story c hq
  | true =>
    have e : h.entered n = h.enter n := by unfold Hand.entered; rw [if_pos (.inl e2.symm)]
    rw [e] at hq
    unfold Hand.enter at hq
    rw [show (if h.goesOn n = true then h.story ++ [⟨h.number, h.members, n.row⟩] else h.story) = h.story ++ [⟨h.number, h.members, n.row⟩] from if_pos e2.symm] at hq
    walk_at "x"
    walk_at "n"
    walk_at "n"
    rw [ev]
    walk_at "x"
    rw [← ev]
    refine newF ?_
    walk_at "x"
    refine ⟨by decide, by rw [storyW, List.length_map]; exact Nat.lt_trans hst (by decide), ?_⟩
    have es : storyW h.story ++ [W.tup [.int h.number, .fls (intsW h.members), .fls (msgsW n.row)]] = storyW (h.story ++ [⟨h.number, h.members, n.row⟩]) := by simp [storyW, Entry.v]
    rw [es]
    exact entered_tail (E := E) mb (l := l) (h := h) (rest := rest) (n := n) (st := h.story ++ [⟨h.number, h.members, n.row⟩]) (by exact inferInstance) hq
theorem r_entered (mw : g.mth HC "within" (p_within HC OC)) (mb : g.mth HC "begin" (p_begin HC OC)) (ws : List W) (H : Hw) (Q : KW) (E : EW) (h : p_entered HC OC ws H Q E) :
    denB g c_Hand_entered (endOf (frz Q) E) (startW ["self", "news", "goes_on", "joins"] ws) H := by
  obtain ⟨l, h, rest, n, rfl, c, hst, hq⟩ := h
  show denB g c_Hand_entered (endOf (frz Q) E) [some (.ref l.a), some n.v, none, none] H
  have rst := fun b2 b3 e2 e3 => entered_rest (E := E) (b2 := b2) (b3 := b3) mb e2 e3 c hst hq
  simp only [c_Hand_entered, List.drop_succ_cons, List.drop_zero] at rst
  have ev : n.v = .tup [.int n.num, .tup (intsW n.hands), .tup (msgsW n.row), .tup (intsW n.wit)] := rfl
  unfold c_Hand_entered
  walk_at "n"
  refine k_within mw ?_
  by_cases q : h.within = true
  · simp only [q]
    walk_at "x"
    rw [ev]
    walk_at "x"
    rw [← ev]
    walk_at "n"
    refine k_within mw ?_
    simp only [q]
    walk_at "x"
    exact rst _ _ (by simp [Hand.goesOn, q]) (by simp [Hand.joins, q])
  · have q' : h.within = false := by simpa using q
    simp only [q']
    walk_at "x"
    walk_at "n"
    refine k_within mw ?_
    simp only [q']
    walk_at "x"
    rw [ev]
    walk_at "x"
    rw [← ev]
    by_cases q2 : h.number < n.num
    · simp only [q2, if_true]
      rw [ev]
      walk_at "x"
      rw [← ev]
      refine in_ints (y := .tup (intsW n.hands)) (l := n.hands) rfl ?_
      exact rst _ _ (by simp [Hand.goesOn, q']) (by simp [Hand.joins, q', q2])
    · simp only [q2, if_false]
      exact rst _ _ (by simp [Hand.goesOn, q']) (by simp [Hand.joins, q', q2])
end
end WL

-- mac: p_draw p_is_whole p_enough p_longest h_me h_number h_members h_fell h_said h_story h_news h_row h_far h_still h_ballot h_kept h_has h_offer hs_number hs_members hs_membersN hs_fell hs_said hs_story hs_news hs_row hs_far hs_still hs_ballot hs_kept hs_has hs_offerN hs_keptS hs_newsS of_ballot of_wish of_answers of_value of_yes os_value e_leB e_ltB e_gtB hp_me hp_number hp_members hp_fell hp_said hp_story hp_news hp_row hp_far hp_still hp_ballot hp_kept hp_has hp_offer hq_me op_ballot op_wish op_answers op_value op_yes e_bal0 e_offN e_offS
/-! ## A hand: all sent once more -/
namespace WL
open PySem L2
section
variable {g : Gm} {HC OC : Addr} [HFld g HC] [OFld g OC]
def p_hpress (HC OC : Addr) : SpW := fun ws H Q _ => ∃ l h rest, ws = [.ref l.a] ∧ Cells H (handX HC OC l h rest) ∧ h.members.length ≤ 9 ∧ h.row.length < 1000000 ∧ Post HC OC l rest h (.fls (lettersW h.press)) Q
def pressGo (h : Hand) (k : Nat) (r : List Msg) : List Letter := (((List.range' k r.length).zip r).flatMap fun x => h.ltrs h.others (.hold x.1 x.2))
theorem pressGo_len (h : Hand) : ∀ (r : List Msg) (k : Nat), (pressGo h k r).length = r.length * h.others.length
  | [], _ => by simp [pressGo]
  | m :: r, k => by
    have := pressGo_len h r (k + 1)
    unfold pressGo at this ⊢
    simp only [List.length_cons, List.range'_succ, List.zip_cons_cons, List.flatMap_cons, List.length_append, this, ltrs_len]
    rw [Nat.succ_mul]
    omega
theorem press_loop (ml : g.mth HC "letters" (p_letters HC OC)) (mo : g.mth HC "others" (p_others HC OC)) {l : HandL} {h : Hand} {rest : List Cell} {H : Hw} {p : Addr} {D : EndW} [c : Cells H (handX HC OC l h rest)] [f : Fresh H p] (h9 : h.members.length ≤ 9) (hr : h.row.length < 1000000) :
    ∀ (r pre : List Msg) (acc : List Letter) (cur : Option W), h.row = pre ++ r → acc.length = pre.length * h.others.length → (∀ cur', D.nx [some (.ref l.a), some (.ref p), cur'] (updW H p (.lst (lettersW (acc ++ pressGo h pre.length r))))) →
      loopW (fun _ => True) 2 (denB g b_Hand_press_1) D ((List.range' pre.length r.length).map fun (k : Nat) => W.int (k : Int)) [some (.ref l.a), some (.ref p), cur] (updW H p (.lst (lettersW acc))) := by
  intro r
  induction r with
  | nil =>
    intro pre acc cur e _ hD
    have := hD cur
    rw [show pressGo h pre.length [] = [] from rfl, List.append_nil] at this
    exact ⟨trivial, this⟩
  | cons m r ih =>
    intro pre acc cur e ha hD
    show loopW _ 2 _ D ((List.range' pre.length (r.length + 1)).map _) _ _
    rw [List.range'_succ]
    refine ⟨trivial, ?_⟩
    rw [ub_Hand_press_1]
    haveI c1 : Cells (updW H p (.lst (lettersW acc))) (handX HC OC l h ((p, .lst (lettersW acc)) :: rest)) := cells_push inferInstance
    have hx : (msgsW h.row)[pre.length]? = some m.v := by
      rw [e]
      simp [msgsW]
    have ho : h.others.length ≤ 9 := Nat.le_trans others_len h9
    have hpl : h.row.length = pre.length + (r.length + 1) := by rw [e]; simp
    have hp9 : pre.length * h.others.length ≤ 1000000 * 9 := Nat.mul_le_mul (by omega) ho
    walk_at "n"
    refine mtho_of (C := HC) ml rfl ?_
    walk_at "x"
    refine k_others mo h9 ?_
    walk_at "x"
    refine ⟨_, atI_nat hx, by decide, ?_⟩
    rw [show W.tup [.int (pre.length : Int), m.v] = (Body.hold pre.length m).v from rfl]
    refine k_letters (.hold pre.length m) ml (Nat.le_trans ho (by decide)) ?_
    walk_at "x"
    refine ⟨?_, ?_⟩
    · rw [lettersW, lettersW, List.length_map, List.length_map, ltrs_len, ha]
      exact Nat.le_trans (Nat.add_le_add hp9 ho) (by decide)
    · rw [lettersW_append]
      have := ih (pre ++ [m]) (acc ++ h.ltrs h.others (.hold pre.length m)) (some (.int pre.length)) (by rw [e]; simp) (by rw [List.length_append, ltrs_len, ha, List.length_append, List.length_singleton, Nat.succ_mul]) (fun cur' => by
        have z := hD cur'
        have ez : pressGo h pre.length (m :: r) = h.ltrs h.others (.hold pre.length m) ++ pressGo h (pre ++ [m]).length r := by
          unfold pressGo
          rw [List.length_cons, List.range'_succ, List.zip_cons_cons, List.flatMap_cons, List.length_append, List.length_singleton]
        rw [ez, ← List.append_assoc] at z
        exact z)
      rw [List.length_append, List.length_singleton] at this
      exact this
theorem press_eq (h : Hand) : h.press = pressGo h 0 h.row ++ h.ltrs h.others (.take h.far) := by
  unfold Hand.press pressGo
  rw [List.range_eq_range']
theorem r_hpress (ml : g.mth HC "letters" (p_letters HC OC)) (mo : g.mth HC "others" (p_others HC OC)) (ws : List W) (H : Hw) (Q : KW) (E : EW) (h : p_hpress HC OC ws H Q E) :
    denB g c_Hand_press (endOf (frz Q) E) (startW ["self", "found", "place"] ws) H := by
  obtain ⟨l, h, rest, rfl, c, h9, hr, hq⟩ := h
  show denB g c_Hand_press (endOf (frz Q) E) [some (.ref l.a), none, none] H
  have ho : h.others.length ≤ 9 := Nat.le_trans others_len h9
  unfold c_Hand_press
  walk_at "n"
  refine ⟨Nat.zero_le _, newR fun p hp => ?_⟩
  haveI : Fresh H p := ⟨hp⟩
  walk_at "n"
  have hlen : (msgsW h.row).length = h.row.length := List.length_map ..
  rw [hlen]
  refine ⟨by omega, by omega, ?_⟩
  rw [rngW_nat, List.range_eq_range', Int.toNat_natCast]
  refine press_loop ml mo h9 hr h.row [] [] _ rfl (by simp) fun cur' => ?_
  rw [List.nil_append]
  have c0 : Cells (updW H p (.lst (lettersW (pressGo h 0 h.row)))) ((p, .lst (lettersW (pressGo h 0 h.row))) :: handX HC OC l h rest) := inferInstance
  haveI c1 : Cells (updW H p (.lst (lettersW (pressGo h 0 h.row)))) (handX HC OC l h ((p, .lst (lettersW (pressGo h 0 h.row))) :: rest)) := cells_push c0
  walk_at "n"
  refine mtho_of (C := HC) ml rfl ?_
  walk_at "x"
  refine k_others mo h9 ?_
  walk_at "x"
  rw [show W.int h.far = (Body.take h.far).v from rfl]
  refine k_letters (.take h.far) ml (Nat.le_trans ho (by decide)) ?_
  walk_at "x"
  have hb : h.row.length * h.others.length ≤ 1000000 * 9 := Nat.mul_le_mul (by omega) ho
  refine ⟨?_, newF ?_⟩
  · rw [lettersW, lettersW, List.length_map, List.length_map, ltrs_len, pressGo_len]
    exact Nat.le_trans (Nat.add_le_add hb ho) (by decide)
  · rw [lettersW_append]
    walk_at "x"
    have := hq l (updW H p (.lst (lettersW (pressGo h 0 h.row)))) rfl (c0.sub (List.sublist_cons_self ..))
    rw [press_eq] at this
    exact this
end
end WL

local macro_rules | `(tactic| walk_at "s") => `(tactic| try simp only [WL.e_var, WL.e_lit, WL.e_gint, WL.e_lst, WL.e_tup, WL.e_bin, WL.e_neg, WL.e_cmp, WL.e_chn, WL.e_andV, WL.e_orV, WL.e_notV, WL.e_ife, WL.e_fld, WL.e_ix, WL.e_slc, WL.e_rev, WL.e_bcl, WL.e_isi, WL.e_call, WL.e_mk, WL.e_mth, WL.e_app, WL.e_ext, WL.e_pop, WL.e_get1, WL.e_get2, WL.e_setd, WL.e_lcm, WL.e_dnew, WL.e_dct, WL.e_lrng, WL.e_inr, WL.e_nset, WL.e_isiS, WL.e_anil, WL.e_acons, WL.e_pnil, WL.e_pcons, WL.e_ono, WL.e_oso, WL.e_ands, WL.e_ors, WL.e_tnot, WL.e_tru, WL.e_iex, WL.e_ir1, WL.e_ir2, WL.e_ir3, WL.e_uno, WL.e_uso,
  WL.e_set, WL.e_fset, WL.e_iset, WL.e_unp, WL.e_expr, WL.e_ret, WL.e_retN, WL.e_ifs, WL.e_for_, WL.e_whl, WL.e_raise, WL.e_try, WL.e_tryH, WL.e_pass, WL.e_bnil, WL.e_bcons, WL.e_loop0, WL.e_loop1, WL.e_comp0, WL.e_comp1,
  WL.e_addI, WL.e_addS, WL.e_addF, WL.e_addRF, WL.e_addFR, WL.e_addRR, WL.e_sub, WL.e_mulI, WL.e_div, WL.e_mod, WL.e_pow, WL.e_ltI, WL.e_leI, WL.e_gtI, WL.e_geI, WL.e_eqI, WL.e_neI, WL.e_eqS, WL.e_neS, WL.e_eqB, WL.e_neB, WL.e_isN, WL.e_isntN, WL.e_isB, WL.e_isntB, WL.n_non, WL.ns_non, WL.nb_non, WL.n_bl, WL.ns_bl, WL.nb_bl, WL.n_int, WL.ns_int, WL.nb_int, WL.n_str, WL.ns_str, WL.nb_str, WL.n_ref, WL.ns_ref, WL.nb_ref, WL.n_scr, WL.ns_scr, WL.nb_scr, WL.n_tup, WL.ns_tup, WL.nb_tup, WL.n_fls, WL.ns_fls, WL.nb_fls,
  WL.e_len, WL.e_lenF, WL.e_lenT, WL.e_lenS, WL.e_lenX, WL.e_lenR, WL.e_lenL, WL.e_lenD, WL.e_list, WL.e_tuple, WL.e_tupF, WL.e_tupT, WL.e_tupS, WL.e_tupR, WL.e_max2, WL.e_max1, WL.e_min2, WL.e_int1, WL.e_intB, WL.e_intI, WL.e_seqR, WL.e_seqF, WL.e_seqT, WL.e_seqS, WL.q_AR, WL.q_AF, WL.q_AT, WL.q_AS, WL.q_LR, WL.q_LF, WL.q_LS, WL.q_LT, WL.e_seqMR, WL.e_seqMF, WL.e_lsto, WL.e_dcto, WL.e_tyL, WL.e_tyD, WL.e_isL, WL.e_isLF, WL.e_isD, WL.e_ixF, WL.e_ixT, WL.e_ixS, WL.e_ixR, WL.e_ixX, WL.e_ixL, WL.e_ixD, WL.e_isR, WL.e_isD1, WL.e_isL1, WL.e_tyN, WL.e_tyB, WL.e_tyI, WL.e_tyS, WL.e_tyT, WL.e_tyF, WL.e_slF, WL.e_slR, WL.e_slS, WL.e_slT,
  WL.z_non, WL.z_bl, WL.z_int, WL.z_str, WL.z_tup, WL.z_fls, WL.updW_twice, WL.end_nx, WL.end_rt, WL.end_ex, WL.keyW, WL.kb_NoneType_int, WL.kb_NoneType_bool, WL.kb_NoneType_list, WL.kb_NoneType_tuple, WL.kb_NoneType_str, WL.kb_bool_int, WL.kb_bool_bool, WL.kb_bool_list, WL.kb_bool_tuple, WL.kb_bool_str, WL.kb_int_int, WL.kb_int_bool, WL.kb_int_list, WL.kb_int_tuple, WL.kb_int_str, WL.kb_str_int, WL.kb_str_bool, WL.kb_str_list, WL.kb_str_tuple, WL.kb_str_str, WL.kb_tuple_int, WL.kb_tuple_bool, WL.kb_tuple_list, WL.kb_tuple_tuple, WL.kb_tuple_str, WL.kb_list_int, WL.kb_list_bool, WL.kb_list_list, WL.kb_list_tuple, WL.kb_list_str, WL.kb_dict_int, WL.kb_dict_bool, WL.kb_dict_list, WL.kb_dict_tuple, WL.kb_dict_str,
  List.getElem?_cons_zero, List.getElem?_cons_succ, List.set_cons_zero, List.set_cons_succ, List.cons.injEq, List.length_cons, List.length_nil, Option.some.injEq, exists_eq_left, exists_eq_left', exists_eq, exists_eq', and_assoc, exists_and_left, true_and, and_true, false_and, and_false, exists_false, or_false, false_or, WL.W.int.injEq, WL.W.scr.injEq, Int.reduceLE, Int.reduceLT, Int.reduceNeg, WL.W.bl.injEq, WL.W.str.injEq, WL.W.ref.injEq, WL.W.fls.injEq, WL.W.tup.injEq, WL.HW.lst.injEq, WL.HW.dct.injEq, WL.HW.ins.injEq, reduceCtorEq, ↓reduceIte, Bool.false_eq_true, decide_eq_true_eq, Bool.not_true, Bool.not_false, Bool.not_eq_true', decide_eq_false_iff_not, WL.at0, WL.at1, WL.at2, WL.at3, WL.at4, WL.updW_same, WL.p_draw, WL.p_is_whole, WL.p_enough, WL.p_longest, WL.h_me, WL.h_number, WL.h_members, WL.h_fell, WL.h_said, WL.h_story, WL.h_news, WL.h_row, WL.h_far, WL.h_still, WL.h_ballot, WL.h_kept, WL.h_has, WL.h_offer, WL.hs_number, WL.hs_members, WL.hs_membersN, WL.hs_fell, WL.hs_said, WL.hs_story, WL.hs_news, WL.hs_row, WL.hs_far, WL.hs_still, WL.hs_ballot, WL.hs_kept, WL.hs_has, WL.hs_offerN, WL.hs_keptS, WL.hs_newsS, WL.of_ballot, WL.of_wish, WL.of_answers, WL.of_value, WL.of_yes, WL.os_value, WL.e_leB, WL.e_ltB, WL.e_gtB, WL.hp_me, WL.hp_number, WL.hp_members, WL.hp_fell, WL.hp_said, WL.hp_story, WL.hp_news, WL.hp_row, WL.hp_far, WL.hp_still, WL.hp_ballot, WL.hp_kept, WL.hp_has, WL.hp_offer, WL.hq_me, WL.op_ballot, WL.op_wish, WL.op_answers, WL.op_value, WL.op_yes, WL.e_bal0, WL.e_offN, WL.e_offS, WL.e_eqBal, WL.e_neBal, WL.e_isVal, WL.e_isKept, WL.e_isNews])
local macro_rules | `(tactic| walk_at "x") => `(tactic| try simp only [WL.e_var, WL.e_lit, WL.e_gint, WL.e_lst, WL.e_tup, WL.e_bin, WL.e_neg, WL.e_cmp, WL.e_chn, WL.e_andV, WL.e_orV, WL.e_notV, WL.e_ife, WL.e_fld, WL.e_ix, WL.e_slc, WL.e_rev, WL.e_bcl, WL.e_isi, WL.e_call, WL.e_mk, WL.e_mth, WL.e_app, WL.e_ext, WL.e_pop, WL.e_get1, WL.e_get2, WL.e_setd, WL.e_lcm, WL.e_dnew, WL.e_dct, WL.e_lrng, WL.e_inr, WL.e_nset, WL.e_isiS, WL.e_anil, WL.e_acons, WL.e_pnil, WL.e_pcons, WL.e_ono, WL.e_oso, WL.e_ands, WL.e_ors, WL.e_tnot, WL.e_tru, WL.e_iex, WL.e_ir1, WL.e_ir2, WL.e_ir3, WL.e_uno, WL.e_uso,
  WL.e_set, WL.e_fset, WL.e_iset, WL.e_unp, WL.e_expr, WL.e_ret, WL.e_retN, WL.e_ifs, WL.e_for_, WL.e_whl, WL.e_raise, WL.e_try, WL.e_tryH, WL.e_pass, WL.e_bnil, WL.e_loop0, WL.e_loop1, WL.e_comp0, WL.e_comp1,
  WL.e_addI, WL.e_addS, WL.e_addF, WL.e_addRF, WL.e_addFR, WL.e_addRR, WL.e_sub, WL.e_mulI, WL.e_div, WL.e_mod, WL.e_pow, WL.e_ltI, WL.e_leI, WL.e_gtI, WL.e_geI, WL.e_eqI, WL.e_neI, WL.e_eqS, WL.e_neS, WL.e_eqB, WL.e_neB, WL.e_isN, WL.e_isntN, WL.e_isB, WL.e_isntB, WL.n_non, WL.ns_non, WL.nb_non, WL.n_bl, WL.ns_bl, WL.nb_bl, WL.n_int, WL.ns_int, WL.nb_int, WL.n_str, WL.ns_str, WL.nb_str, WL.n_ref, WL.ns_ref, WL.nb_ref, WL.n_scr, WL.ns_scr, WL.nb_scr, WL.n_tup, WL.ns_tup, WL.nb_tup, WL.n_fls, WL.ns_fls, WL.nb_fls,
  WL.e_len, WL.e_lenF, WL.e_lenT, WL.e_lenS, WL.e_lenX, WL.e_lenR, WL.e_lenL, WL.e_lenD, WL.e_list, WL.e_tuple, WL.e_tupF, WL.e_tupT, WL.e_tupS, WL.e_tupR, WL.e_max2, WL.e_max1, WL.e_min2, WL.e_int1, WL.e_intB, WL.e_intI, WL.e_seqR, WL.e_seqF, WL.e_seqT, WL.e_seqS, WL.q_AR, WL.q_AF, WL.q_AT, WL.q_AS, WL.q_LR, WL.q_LF, WL.q_LS, WL.q_LT, WL.e_seqMR, WL.e_seqMF, WL.e_lsto, WL.e_dcto, WL.e_tyL, WL.e_tyD, WL.e_isL, WL.e_isLF, WL.e_isD, WL.e_ixF, WL.e_ixT, WL.e_ixS, WL.e_ixR, WL.e_ixX, WL.e_ixL, WL.e_ixD, WL.e_isR, WL.e_isD1, WL.e_isL1, WL.e_tyN, WL.e_tyB, WL.e_tyI, WL.e_tyS, WL.e_tyT, WL.e_tyF, WL.e_slF, WL.e_slR, WL.e_slS, WL.e_slT,
  WL.z_non, WL.z_bl, WL.z_int, WL.z_str, WL.z_tup, WL.z_fls, WL.updW_twice, WL.end_nx, WL.end_rt, WL.end_ex, WL.keyW, WL.kb_NoneType_int, WL.kb_NoneType_bool, WL.kb_NoneType_list, WL.kb_NoneType_tuple, WL.kb_NoneType_str, WL.kb_bool_int, WL.kb_bool_bool, WL.kb_bool_list, WL.kb_bool_tuple, WL.kb_bool_str, WL.kb_int_int, WL.kb_int_bool, WL.kb_int_list, WL.kb_int_tuple, WL.kb_int_str, WL.kb_str_int, WL.kb_str_bool, WL.kb_str_list, WL.kb_str_tuple, WL.kb_str_str, WL.kb_tuple_int, WL.kb_tuple_bool, WL.kb_tuple_list, WL.kb_tuple_tuple, WL.kb_tuple_str, WL.kb_list_int, WL.kb_list_bool, WL.kb_list_list, WL.kb_list_tuple, WL.kb_list_str, WL.kb_dict_int, WL.kb_dict_bool, WL.kb_dict_list, WL.kb_dict_tuple, WL.kb_dict_str,
  List.getElem?_cons_zero, List.getElem?_cons_succ, List.set_cons_zero, List.set_cons_succ, List.cons.injEq, List.length_cons, List.length_nil, Option.some.injEq, exists_eq_left, exists_eq_left', exists_eq, exists_eq', and_assoc, exists_and_left, true_and, and_true, false_and, and_false, exists_false, or_false, false_or, WL.W.int.injEq, WL.W.scr.injEq, Int.reduceLE, Int.reduceLT, Int.reduceNeg, WL.W.bl.injEq, WL.W.str.injEq, WL.W.ref.injEq, WL.W.fls.injEq, WL.W.tup.injEq, WL.HW.lst.injEq, WL.HW.dct.injEq, WL.HW.ins.injEq, reduceCtorEq, ↓reduceIte, Bool.false_eq_true, decide_eq_true_eq, Bool.not_true, Bool.not_false, Bool.not_eq_true', decide_eq_false_iff_not, WL.at0, WL.at1, WL.at2, WL.at3, WL.at4, WL.updW_same, WL.p_draw, WL.p_is_whole, WL.p_enough, WL.p_longest, WL.h_me, WL.h_number, WL.h_members, WL.h_fell, WL.h_said, WL.h_story, WL.h_news, WL.h_row, WL.h_far, WL.h_still, WL.h_ballot, WL.h_kept, WL.h_has, WL.h_offer, WL.hs_number, WL.hs_members, WL.hs_membersN, WL.hs_fell, WL.hs_said, WL.hs_story, WL.hs_news, WL.hs_row, WL.hs_far, WL.hs_still, WL.hs_ballot, WL.hs_kept, WL.hs_has, WL.hs_offerN, WL.hs_keptS, WL.hs_newsS, WL.of_ballot, WL.of_wish, WL.of_answers, WL.of_value, WL.of_yes, WL.os_value, WL.e_leB, WL.e_ltB, WL.e_gtB, WL.hp_me, WL.hp_number, WL.hp_members, WL.hp_fell, WL.hp_said, WL.hp_story, WL.hp_news, WL.hp_row, WL.hp_far, WL.hp_still, WL.hp_ballot, WL.hp_kept, WL.hp_has, WL.hp_offer, WL.hq_me, WL.op_ballot, WL.op_wish, WL.op_answers, WL.op_value, WL.op_yes, WL.e_bal0, WL.e_offN, WL.e_offS, WL.e_eqBal, WL.e_neBal, WL.e_isVal, WL.e_isKept, WL.e_isNews])
local macro_rules | `(tactic| walk_at "n") => `(tactic| ((try dsimp only); rw [WL.e_bcons]; walk_at "x"))
-- mac: p_draw p_is_whole p_enough p_longest h_me h_number h_members h_fell h_said h_story h_news h_row h_far h_still h_ballot h_kept h_has h_offer hs_number hs_members hs_membersN hs_fell hs_said hs_story hs_news hs_row hs_far hs_still hs_ballot hs_kept hs_has hs_offerN hs_keptS hs_newsS of_ballot of_wish of_answers of_value of_yes os_value e_leB e_ltB e_gtB hp_me hp_number hp_members hp_fell hp_said hp_story hp_news hp_row hp_far hp_still hp_ballot hp_kept hp_has hp_offer hq_me op_ballot op_wish op_answers op_value op_yes e_bal0 e_offN e_offS e_eqBal e_neBal e_isVal e_isKept e_isNews
/-! ## A hand: promises, agreement -/
namespace WL
open PySem L2
abbrev handO (HC OC : Addr) (l : HandL) (h : Hand) (f : Off) (rest : List Cell) : List Cell :=
  (l.a, .ins HC (handF l { h with offer := some f })) :: (l.r, .lst (msgsW h.row)) :: (l.s, .lst (storyW h.story)) :: (l.d, .dct (hasW h.has)) :: (l.o, .ins OC (offF l f)) :: (l.n, .dct (ansWs f.answers)) :: (l.y, .lst (intsW f.yes)) :: rest
theorem hand_off {h : Hand} {f : Off} (e : h.offer = some f) : h = { h with offer := some f } := by
  cases h
  simp at e
  subst e
  rfl
theorem ans_val {l : List (Int × Ans)} {k : Int} : valW (ansWs l) (.inl k) = (getK l k).map fun a => ansW a.ballot a.row a.kept := by
  induction l with
  | nil => rfl
  | cons x xs ih =>
    by_cases e : x.1 = k
    · have e1 : valW (ansWs (x :: xs)) (.inl k) = some (ansW x.2.ballot x.2.row x.2.kept) := by simp [valW, ansWs, List.find?_cons, e]
      have e2 : getK (x :: xs) k = some x.2 := by simp [getK, List.find?_cons, e]
      rw [e1, e2]
      rfl
    · have e1 : valW (ansWs (x :: xs)) (.inl k) = valW (ansWs xs) (.inl k) := by simp [valW, ansWs, List.find?_cons, e]
      have e2 : getK (x :: xs) k = getK xs k := by simp [getK, List.find?_cons, e]
      rw [e1, e2]
      exact ih
theorem getK_mem {α : Type} {l : List (Int × α)} {k : Int} : (getK l k).isSome = decide (k ∈ l.map (·.1)) := by
  induction l with
  | nil => rfl
  | cons x xs ih =>
    by_cases e : x.1 = k
    · have e2 : getK (x :: xs) k = some x.2 := by simp [getK, List.find?_cons, e]
      rw [e2]
      simp [e]
    · have e2 : getK (x :: xs) k = getK xs k := by simp [getK, List.find?_cons, e]
      have e3 : ¬ k = x.1 := fun q => e q.symm
      rw [e2, ih]
      simp [e3]
theorem put_ans {l : List (Int × Ans)} {k : Int} {b : Bal} {r : List Msg} {kp : Kept} (h : k ∉ l.map (·.1)) : putKW (ansWs l) (.inl k) (ansW b r kp) = ansWs (l ++ [(k, ⟨b, r, kp⟩)]) := by
  unfold putKW
  have e : ¬ ((ansWs l).any fun kv => decide (kv.1 = Sum.inl k)) = true := by
    intro hh
    obtain ⟨x, hx, hk⟩ := List.any_eq_true.mp hh
    obtain ⟨y, hy, rfl⟩ := List.mem_map.mp hx
    exact h (List.mem_map.mpr ⟨y, hy, by simpa using hk⟩)
  rw [if_neg e]
  simp [ansWs]
theorem ans_keys {l : List (Int × Ans)} : (ansWs l).map (·.1) = (l.map (·.1)).map Sum.inl := by simp [ansWs]
theorem longest_msgs : ∀ (rows : List (List Msg)) (f : List Msg), longestGo (msgsW f) (rows.map msgsW) = msgsW (longestGo f rows)
  | [], _ => rfl
  | r :: rs, f => by
    rw [List.map_cons, longestGo, longestGo]
    have e : (msgsW f).length < (msgsW r).length ↔ f.length < r.length := by simp [msgsW]
    by_cases q : f.length < r.length
    · rw [if_pos q, if_pos (e.mpr q)]
      exact longest_msgs rs r
    · rw [if_neg q, if_neg (fun z => q (e.mp z))]
      exact longest_msgs rs f
section
variable {g : Gm} {HC OC : Addr} [HFld g HC] [OFld g OC]
theorem pick_loop {l : HandL} {h : Hand} {rest : List Cell} {as : List (Int × Ans)} {f : Off} {a2 a4 : Option W} {src : Int} {D : EndW} : ∀ (ks : List Int) (best : Bal) (v : Val) (cur k7 : Option W) (H : Hw), Cells H (handO HC OC l h { f with answers := as, value := some v } rest) → (∀ k ∈ ks, k ∈ as.map (·.1)) →
    (∀ b' cur' k' H', Cells H' (handO HC OC l h { f with answers := as, value := some (Hand.pickGo as ks best v) } rest) → D.nx [some (.ref l.a), some (.int src), a2, some (.ref l.o), a4, some (balW b'), cur', k'] H') →
    loopW (fun _ => True) 6 (denB g b_Hand_promised_1) D (intsW ks) [some (.ref l.a), some (.int src), a2, some (.ref l.o), a4, some (balW best), cur, k7] H := by
  intro ks
  induction ks with
  | nil => intro best v cur k7 H c _ hD; exact ⟨trivial, hD best cur k7 H c⟩
  | cons k ks ih =>
    intro best v cur k7 H c hk hD
    refine ⟨trivial, ?_⟩
    rw [ub_Hand_promised_1]
    have hkk := hk k (List.mem_cons_self ..)
    obtain ⟨an, ea⟩ : ∃ an, getK as k = some an := Option.isSome_iff_exists.mp (by rw [getK_mem]; simpa using hkk)
    walk_at "n"
    rw [ans_val, ea]
    refine ⟨_, rfl, ?_⟩
    unfold ansW
    walk_at "x"
    walk_at "n"
    have nxt := fun best' v' => ih best' v' (some (.int k))
    cases ek : an.kept with
    | none =>
      have ep : Hand.pickGo as (k :: ks) best v = Hand.pickGo as ks best v := by
        show (match (getK as k).bind (·.kept) with | none => _ | some (kb, kv) => _) = _
        rw [ea]
        simp only [Option.bind_some, ek]
      rw [ep] at hD
      simp only [keptW]
      walk_at "x"
      exact nxt best v _ H c (fun x hx => hk x (List.mem_cons_of_mem _ hx)) hD
    | some kv =>
      obtain ⟨kb, kv⟩ := kv
      simp only [keptW]
      walk_at "x"
      by_cases q : ltB best kb = true
      · have ep : Hand.pickGo as (k :: ks) best v = Hand.pickGo as ks kb kv := by
          show (match (getK as k).bind (·.kept) with | none => _ | some (kb, kv) => _) = _
          rw [ea]
          simp only [Option.bind_some, ek, q, if_true]
        rw [ep] at hD
        simp only [q, if_true]
        walk_at "n"
        walk_at "n"
        exact nxt kb kv _ _ (by exact (inferInstance : Cells (updW H l.o (.ins OC (offF l { f with answers := as, value := some kv }))) _)) (fun x hx => hk x (List.mem_cons_of_mem _ hx)) hD
      · have ep : Hand.pickGo as (k :: ks) best v = Hand.pickGo as ks best v := by
          show (match (getK as k).bind (·.kept) with | none => _ | some (kb, kv) => _) = _
          rw [ea]
          simp only [Option.bind_some, ek, q, if_false, Bool.false_eq_true]
        rw [ep] at hD
        simp only [q, if_false, Bool.false_eq_true]
        walk_at "x"
        exact nxt best v _ H c (fun x hx => hk x (List.mem_cons_of_mem _ hx)) hD

theorem promised_tail (hl : g.fn "longest" p_longest) (ml : g.mth HC "letters" (p_letters HC OC)) {l : HandL} {h : Hand} {rest : List Cell} {f : Off} {src : Int} {a2 : Option W} {H : Hw} {Q : KW} {E : EW} (c : Cells H (handO HC OC l h f rest)) (h9 : h.members.length ≤ 9) (h50 : f.answers.length ≤ 60)
    (hq : Post HC OC l rest { h with offer := some { f with value := some (Hand.pick f) } } (.fls (lettersW (h.ltrs h.members (.accept f.ballot (Hand.pick f))))) Q) :
    denB g (c_Hand_promised.drop 4) (endOf (frz Q) E) [some (.ref l.a), some (.int src), a2, some (.ref l.o), none, none, none, none] H := by
  simp only [c_Hand_promised, List.drop_succ_cons, List.drop_zero]
  have srt : ∀ {H : Hw} {Q : KW} [At H l.n (.dct (ansWs f.answers))], Q (.fls (intsW (sortI (f.answers.map (·.1))))) H → callW "sorted" [.ref l.n] H Q := fun {H Q} hA q => by
    refine sorted_of (.inr ⟨l.n, _, f.answers.map (·.1), rfl, hA.h, ans_keys, by rw [List.length_map]; omega, fun ns hp hs => newF ?_⟩)
    rw [sortI_unique hp hs]
    exact q
  walk_at "n"
  refine srt ?_
  walk_at "x"
  have inks : ∀ k ∈ sortI (f.answers.map (·.1)), ∃ an, getK f.answers k = some an := fun k hk => Option.isSome_iff_exists.mp (by
    rw [getK_mem]
    simpa using (sortI_perm _).mem_iff.mp hk)
  refine comp_all (g := g) (fun x => match x with | .int i => .fls (msgsW (((getK f.answers i).map (·.row)).getD [])) | w => w) ?_ (fun x hx p acc Q hp hQ => ?_) ?_ (newF ?_)
  · intros; trivial
  · haveI : Fresh H p := ⟨hp⟩
    obtain ⟨i, hi, rfl⟩ := List.mem_map.mp hx
    obtain ⟨an, ea⟩ := inks i hi
    simp only [ea] at hQ
    walk_at "x"
    rw [ans_val, ea]
    refine ⟨_, rfl, ?_⟩
    unfold ansW
    walk_at "x"
    exact hQ
  · rw [intsW, List.length_map, sortI_len, List.length_map]
    exact Nat.le_trans h50 (by decide)
  have er : (intsW (sortI (f.answers.map (·.1)))).map (fun x => match x with | .int i => W.fls (msgsW (((getK f.answers i).map (·.row)).getD [])) | w => w) = (((sortI (f.answers.map (·.1))).map fun k => ((getK f.answers k).map (·.row)).getD []).map msgsW).map W.fls := by
    simp [intsW, List.map_map, Function.comp_def]
  rw [er]
  walk_at "n"
  refine ⟨_, hl, ?_⟩
  walk_at "x"
  refine ⟨_, rfl, newF ?_⟩
  rw [show longestOf (List.map msgsW ((sortI (f.answers.map (·.1))).map fun k => ((getK f.answers k).map (·.row)).getD [])) = msgsW (longestOf ((sortI (f.answers.map (·.1))).map fun k => ((getK f.answers k).map (·.row)).getD [])) from longest_msgs _ []]
  walk_at "x"
  refine ⟨by decide, ?_⟩
  rw [show W.tup [W.tup (intsW f.wish), W.tup (msgsW (longestOf ((sortI (f.answers.map (·.1))).map fun k => ((getK f.answers k).map (·.row)).getD [])))] = Val.v ⟨f.wish, longestOf ((sortI (f.answers.map (·.1))).map fun k => ((getK f.answers k).map (·.row)).getD [])⟩ from rfl]
  walk_at "x"
  walk_at "n"
  refine ⟨by decide, ?_⟩
  walk_at "n"
  refine srt ?_
  walk_at "x"
  rw [show W.tup [W.int 0, W.int (-1)] = balW (0, -1) from rfl]
  refine pick_loop (HC := HC) (OC := OC) (h := h) (rest := rest) (as := f.answers) (f := f) (sortI (f.answers.map (·.1))) (0, -1) ⟨f.wish, longestOf ((sortI (f.answers.map (·.1))).map fun k => ((getK f.answers k).map (·.row)).getD [])⟩ _ _ _ (by exact (inferInstance : Cells (updW H l.o _) _)) (fun k hk => (sortI_perm _).mem_iff.mp hk) fun b' cur' k' H' c' => ?_
  have c4 : Cells H' (handO HC OC l h { f with value := some (Hand.pick f) } rest) := c'
  clear c'
  walk_at "n"
  refine mtho_of (C := HC) ml rfl ?_
  walk_at "x"
  refine ⟨by decide, ?_⟩
  rw [show W.tup [balW f.ballot, valOW (some (Hand.pick f))] = (Body.accept f.ballot (Hand.pick f)).v from rfl]
  refine k_letters (h := { h with offer := some { f with value := some (Hand.pick f) } }) (rest := rest) (.accept f.ballot (Hand.pick f)) ml (c := c4) (by show h.members.length ≤ 1000; omega) ?_
  walk_at "x"
  exact hq l H' rfl c4
def p_promised (HC OC : Addr) : SpW := fun ws H Q _ => ∃ l h rest src b row kept, ws = [.ref l.a, .int src, (Body.promise b row kept).v] ∧ Cells H (handX HC OC l h rest) ∧ h.members.length ≤ 9 ∧ (∀ f, h.offer = some f → f.answers.length ≤ 50) ∧ Post HC OC l rest (h.promised src b row kept).1 (.fls (lettersW (h.promised src b row kept).2)) Q
theorem r_promised (he : g.fn "enough" p_enough) (hl : g.fn "longest" p_longest) (ml : g.mth HC "letters" (p_letters HC OC)) (ws : List W) (H : Hw) (Q : KW) (E : EW) (h : p_promised HC OC ws H Q E) :
    denB g c_Hand_promised (endOf (frz Q) E) (startW ["self", "source", "body", "offer", "rows", "best", "hand", "kept"] ws) H := by
  obtain ⟨l, h, rest, src, b, row, kept, rfl, c, h9, h50, hq⟩ := h
  show denB g c_Hand_promised (endOf (frz Q) E) [some (.ref l.a), some (.int src), some (ansW b row kept), none, none, none, none, none] H
  unfold c_Hand_promised
  walk_at "n"
  cases ef : h.offer with
  | none =>
    have e : h.promised src b row kept = (h, []) := by unfold Hand.promised; rw [ef]
    rw [e] at hq
    walk_at "n"
    walk_at "n"
    refine ⟨by decide, newF ?_⟩
    walk_at "x"
    exact hq.here
  | some f =>
    have h50 := h50 f ef
    have eh := hand_off ef
    have c2 : Cells H (handO HC OC l h f rest) := by rw [eh] at c; exact c
    have stop : (f.ballot ≠ b ∨ f.value.isSome = true ∨ src ∈ f.answers.map (·.1)) → ∀ D : EndW, D.rt = frz Q → denB g [CS.ret (CE.lst CEs.nil)] D [some (.ref l.a), some (.int src), some (ansW b row kept), some (.ref l.o), none, none, none, none] H := fun cond D hD => by
      have e : h.promised src b row kept = (h, []) := by unfold Hand.promised; rw [ef]; simp only []; rw [if_pos cond]
      rw [e] at hq
      walk_at "n"
      refine ⟨by decide, newF ?_⟩
      rw [hD]
      walk_at "x"
      exact hq l H rfl c
    clear c
    have eb : ansW b row kept = .tup [balW b, .fls (msgsW row), keptW kept] := rfl
    walk_at "n"
    rw [eb]
    walk_at "x"
    rw [← eb]
    by_cases q1 : f.ballot = b
    · simp only [q1, if_true, not_true_eq_false, if_false]
      cases ev : f.value with
      | some v =>
        simp only [Option.isNone_some]
        walk_at "x"
        exact stop (.inr (.inl (by rw [ev]; rfl))) _ rfl
      | none =>
        simp only [Option.isNone_none]
        walk_at "x"
        refine in_dict (kvs := ansWs f.answers) rfl ?_
        rw [ans_val, Option.isSome_map, getK_mem]
        walk_at "x"
        by_cases q3 : src ∈ f.answers.map (·.1)
        · simp only [q3, if_true]
          exact stop (.inr (.inr q3)) _ rfl
        · simp only [q3, if_false]
          walk_at "n"
          refine ⟨by rw [ansWs, List.length_map]; exact Nat.lt_of_le_of_lt h50 (by decide), ?_⟩
          rw [put_ans q3]
          have hpr : h.promised src b row kept = (let f1 : Off := { f with answers := f.answers ++ [(src, ⟨b, row, kept⟩)] }
            if f1.answers.length < enoughOf h.members then ({ h with offer := some f1 }, []) else
            ({ h with offer := some { f1 with value := some (Hand.pick f1) } }, h.ltrs h.members (.accept f.ballot (Hand.pick f1)))) := by
            unfold Hand.promised; rw [ef]; simp only []; rw [if_neg (by simp [q1, ev]; simpa using q3)]
          simp only [] at hpr
          have c3 : Cells (updW H l.n (.dct (ansWs (f.answers ++ [(src, ⟨b, row, kept⟩)])))) (handO HC OC l h { f with answers := f.answers ++ [(src, ⟨b, row, kept⟩)] } rest) := (by exact (inferInstance : Cells (updW H l.n _) _))
          generalize updW H l.n (.dct (ansWs (f.answers ++ [(src, ⟨b, row, kept⟩)]))) = H2 at c3 ⊢
          have hle : (f.answers ++ [(src, (⟨b, row, kept⟩ : Ans))]).length ≤ 60 := by simp; omega
          have hal : (ansWs (f.answers ++ [(src, (⟨b, row, kept⟩ : Ans))])).length = (f.answers ++ [(src, (⟨b, row, kept⟩ : Ans))]).length := by simp [ansWs]
          have hil : (intsW h.members).length / 2 + 1 = enoughOf h.members := by simp [intsW, enoughOf]
          walk_at "n"
          refine ⟨_, he, ?_⟩
          walk_at "x"
          rw [hal, hil]
          by_cases q4 : (f.answers ++ [(src, (⟨b, row, kept⟩ : Ans))]).length < enoughOf h.members
          · have q4' : ((f.answers ++ [(src, (⟨b, row, kept⟩ : Ans))]).length : Int) < (enoughOf h.members : Nat) := by omega
            simp only [q4', if_true]
            rw [if_pos q4] at hpr
            rw [hpr] at hq
            walk_at "n"
            refine ⟨by decide, newF ?_⟩
            walk_at "x"
            exact hq l H2 rfl c3
          · have q4' : ¬ ((f.answers ++ [(src, (⟨b, row, kept⟩ : Ans))]).length : Int) < (enoughOf h.members : Nat) := by omega
            simp only [q4', if_false]
            rw [if_neg q4] at hpr
            rw [hpr] at hq
            exact promised_tail hl ml c3 h9 hle hq
    · simp only [q1, if_false, not_false_eq_true, if_true]
      exact stop (.inl q1) _ rfl
end
end WL

-- mac: p_draw p_is_whole p_enough p_longest h_me h_number h_members h_fell h_said h_story h_news h_row h_far h_still h_ballot h_kept h_has h_offer hs_number hs_members hs_membersN hs_fell hs_said hs_story hs_news hs_row hs_far hs_still hs_ballot hs_kept hs_has hs_offerN hs_keptS hs_newsS of_ballot of_wish of_answers of_value of_yes os_value e_leB e_ltB e_gtB hp_me hp_number hp_members hp_fell hp_said hp_story hp_news hp_row hp_far hp_still hp_ballot hp_kept hp_has hp_offer hq_me op_ballot op_wish op_answers op_value op_yes e_bal0 e_offN e_offS e_eqBal e_neBal e_isVal e_isKept e_isNews
/-! ## A hand: agreement; any letter -/
namespace WL
open PySem L2
theorem maxL_spec {l : List Int} {m : Int} (h : m ∈ l) (u : ∀ y ∈ l, y ≤ m) : m = maxL l := by
  have key : ∀ (l : List Int) (a : Int), (l.foldl max a = a ∨ l.foldl max a ∈ l) ∧ a ≤ l.foldl max a ∧ ∀ y ∈ l, y ≤ l.foldl max a := by
    intro l
    induction l with
    | nil => intro a; exact ⟨.inl rfl, Int.le_refl _, fun _ h => by cases h⟩
    | cons x xs ih =>
      intro a
      obtain ⟨h1, h2, h3⟩ := ih (max a x)
      rw [List.foldl_cons]
      refine ⟨?_, by omega, fun y hy => ?_⟩
      · rcases h1 with h1 | h1
        · rw [h1]
          by_cases q : a ≤ x
          · rw [Int.max_eq_right q]; exact .inr (List.mem_cons_self ..)
          · rw [Int.max_eq_left (by omega)]; exact .inl rfl
        · exact .inr (List.mem_cons_of_mem _ h1)
      · rcases List.mem_cons.mp hy with rfl | hy
        · omega
        · exact h3 y hy
  obtain ⟨h1, h2, h3⟩ := key l (l.headD 0)
  have hm : maxL l ∈ l := by
    unfold maxL
    rcases h1 with h1 | h1
    · rw [h1]
      cases l with
      | nil => cases h
      | cons x xs => exact List.mem_cons_self ..
    · exact h1
  exact Int.le_antisymm (h3 m h) (u _ hm)
section
variable {g : Gm} {HC OC : Addr} [HFld g HC] [OFld g OC]
def p_agreed (HC OC : Addr) : SpW := fun ws H Q _ => ∃ l h rest src b, ws = [.ref l.a, .int src, balW b] ∧ Cells H (handX HC OC l h rest) ∧ h.members.length ≤ 9 ∧ h.members ≠ [] ∧
  (∀ f, h.offer = some f → f.yes.length ≤ 50 ∧ ∀ v, f.value = some v → v.hands.length ≤ 100 ∧ ∀ x ∈ h.members ++ v.hands, 0 ≤ x ∧ x < 100) ∧ Post HC OC l rest (h.agreed src b).1 (.fls (lettersW (h.agreed src b).2)) Q
theorem agreed_tail (ml : g.mth HC "letters" (p_letters HC OC)) {l : HandL} {h : Hand} {rest : List Cell} {f : Off} {v : Val} {src : Int} {a2 : Option W} {H : Hw} {Q : KW} {E : EW} (c : Cells H (handO HC OC l h { f with value := some v } rest)) (h9 : h.members.length ≤ 9) (hne : h.members ≠ [])
    (hv : v.hands.length ≤ 100) (hx : ∀ x ∈ h.members ++ v.hands, 0 ≤ x ∧ x < 100)
    (hq : Post HC OC l rest { h with offer := some { f with value := some v } } (.fls (lettersW (h.ltrs (Hand.told h.members v.hands) (.enter ⟨h.number + 1, v.hands, v.row, sortI f.yes⟩)))) Q) :
    denB g (c_Hand_agreed.drop 4) (endOf (frz Q) E) [some (.ref l.a), some (.int src), a2, some (.ref l.o), none, none, none] H := by
  simp only [c_Hand_agreed, List.drop_succ_cons, List.drop_zero]
  have ev : valOW (some v) = .tup [.tup (intsW v.hands), .tup (msgsW v.row)] := rfl
  walk_at "n"
  rw [ev]
  walk_at "x"
  rw [ev]
  walk_at "x"
  refine sorted_of (.inl ⟨f.yes, At.h, fun ns hp hs => newF ?_⟩)
  rw [sortI_unique hp hs]
  walk_at "x"
  refine ⟨by decide, ?_⟩
  walk_at "n"
  refine newF ?_
  walk_at "x"
  refine ⟨Nat.le_trans (by simp [intsW]; omega : _ ≤ 200) (by decide), newF ?_⟩
  walk_at "x"
  refine ⟨h.members ++ v.hands, by simp [intsW], by have := List.length_pos_iff.mpr hne; simp; omega, fun m hm hu => ?_⟩
  obtain rfl := maxL_spec hm hu
  have hmx := hx _ hm
  walk_at "x"
  generalize hM : maxL (h.members ++ v.hands) = M at hmx
  refine ⟨by omega, by omega, ?_⟩
  refine comp_all (g := g) (fun x => x) ?_ (fun x hx p acc Q hp hQ => ?_) ?_ (newF ?_)
  · intros; trivial
  · walk_at "x"
    exact hQ
  · rw [rngW_nat, List.length_map, List.length_range]
    exact Nat.le_trans (by omega : (1 + M).toNat ≤ 200) (by decide)
  rw [List.map_id', rngW_nat]
  walk_at "n"
  refine mtho_of (C := HC) ml rfl ?_
  walk_at "x"
  have en : W.tup [.int (h.number + 1), .tup (intsW v.hands), .tup (msgsW v.row), .tup ((sortI f.yes).map W.int)] = (Body.enter ⟨h.number + 1, v.hands, v.row, sortI f.yes⟩).v := rfl
  refine comp_new (g := g) (fun x => x) (fun x => match x with | .int i => decide (i ∈ h.members) || decide (i ∈ v.hands) | _ => false) ?_ (fun x hx p acc QB hp hQ => ?_) (fun x hx hk p acc Q hp hQ => ?_) ?_ (newF ?_)
  · intros; trivial
  · haveI : Fresh H p := ⟨hp⟩
    obtain ⟨i, _, rfl⟩ := List.mem_map.mp hx
    simp only [e_uso]
    walk_at "x"
    refine in_ints (y := .fls (intsW h.members)) (l := h.members) rfl ?_
    walk_at "x"
    by_cases q : (i : Int) ∈ h.members
    · simp only [q, decide_true, Bool.true_or] at hQ
      simp only [q, if_true]
      exact hQ
    · simp only [q, decide_false, Bool.false_or] at hQ
      simp only [q, if_false]
      refine in_ints (y := .tup (intsW v.hands)) (l := v.hands) rfl ?_
      walk_at "x"
      exact hQ
  · walk_at "x"
    exact hQ
  · rw [List.length_map, List.length_range]
    exact Nat.le_trans (by omega : (1 + M).toNat ≤ 200) (by decide)
  have et : (((List.range (1 + M).toNat).map fun (k : Nat) => W.int (k : Int)).filter fun x => match x with | .int i => decide (i ∈ h.members) || decide (i ∈ v.hands) | _ => false).map (fun x => x) = intsW (Hand.told h.members v.hands) := by
    rw [List.map_id', Hand.told, hM, intsW, List.filter_map, List.filter_map, List.map_map]
    rfl
  rw [et, en]
  walk_at "x"
  refine k_letters (h := { h with offer := some { f with value := some v } }) (rest := rest) (.enter ⟨h.number + 1, v.hands, v.row, sortI f.yes⟩) ml (c := c) ?_ ?_
  · unfold Hand.told
    refine Nat.le_trans (List.length_filter_le ..) ?_
    rw [List.length_map, List.length_range, hM]
    omega
  · walk_at "x"
    exact hq l H rfl c
theorem r_agreed (he : g.fn "enough" p_enough) (ml : g.mth HC "letters" (p_letters HC OC)) (ws : List W) (H : Hw) (Q : KW) (E : EW) (h : p_agreed HC OC ws H Q E) :
    denB g c_Hand_agreed (endOf (frz Q) E) (startW ["self", "source", "ballot", "offer", "news", "told", "hand"] ws) H := by
  obtain ⟨l, h, rest, src, b, rfl, c, h9, hne, hoff, hq⟩ := h
  show denB g c_Hand_agreed (endOf (frz Q) E) [some (.ref l.a), some (.int src), some (balW b), none, none, none, none] H
  unfold c_Hand_agreed
  walk_at "n"
  cases ef : h.offer with
  | none =>
    have e : h.agreed src b = (h, []) := by unfold Hand.agreed; rw [ef]
    rw [e] at hq
    walk_at "n"
    walk_at "n"
    refine ⟨by decide, newF ?_⟩
    walk_at "x"
    exact hq l H rfl c
  | some f =>
    obtain ⟨h50, hvs⟩ := hoff f ef
    have eh := hand_off ef
    have c2 : Cells H (handO HC OC l h f rest) := by rw [eh] at c; exact c
    have stop : h.agreed src b = (h, []) → ∀ D : EndW, D.rt = frz Q → denB g [CS.ret (CE.lst CEs.nil)] D [some (.ref l.a), some (.int src), some (balW b), some (.ref l.o), none, none, none] H := fun e D hD => by
      rw [e] at hq
      walk_at "n"
      refine ⟨by decide, newF ?_⟩
      rw [hD]
      walk_at "x"
      exact hq l H rfl c
    clear c
    walk_at "n"
    by_cases q1 : f.ballot = b
    · simp only [q1, if_true, not_true_eq_false, if_false]
      cases ev : f.value with
      | none =>
        simp only [Option.isNone_none]
        walk_at "x"
        exact stop (by unfold Hand.agreed; rw [ef]; simp only [ev]) _ rfl
      | some v =>
        obtain ⟨hv1, hv2⟩ := hvs v ev
        simp only [Option.isNone_some]
        walk_at "x"
        refine in_ints (y := .ref l.y) (l := f.yes) At.h ?_
        walk_at "x"
        by_cases q3 : src ∈ f.yes
        · simp only [q3, if_true]
          exact stop (by unfold Hand.agreed; rw [ef]; simp only [ev]; rw [if_pos (.inr q3)]) _ rfl
        · simp only [q3, if_false]
          have hpr : h.agreed src b = (if (f.yes ++ [src]).length ≠ enoughOf h.members then ({ h with offer := some { f with yes := f.yes ++ [src] } }, []) else
              ({ h with offer := some { f with yes := f.yes ++ [src] } }, h.ltrs (Hand.told h.members v.hands) (.enter ⟨h.number + 1, v.hands, v.row, sortI (f.yes ++ [src])⟩))) := by
            unfold Hand.agreed; rw [ef]; simp only [ev]; rw [if_neg (by simp [q1, q3])]
          have hil : (intsW h.members).length / 2 + 1 = enoughOf h.members := by simp [intsW, enoughOf]
          have hyl : (intsW (f.yes ++ [src])).length = (f.yes ++ [src]).length := by simp [intsW]
          walk_at "n"
          refine ⟨by rw [intsW, List.length_map]; exact Nat.lt_of_le_of_lt h50 (by decide), ?_⟩
          rw [show intsW f.yes ++ [W.int src] = intsW (f.yes ++ [src]) from by simp [intsW]]
          have c3 : Cells (updW H l.y (.lst (intsW (f.yes ++ [src])))) (handO HC OC l h { f with yes := f.yes ++ [src] } rest) := (by exact (inferInstance : Cells (updW H l.y _) _))
          generalize updW H l.y (.lst (intsW (f.yes ++ [src]))) = H2 at c3 ⊢
          walk_at "n"
          refine ⟨_, he, ?_⟩
          walk_at "x"
          rw [hil, hyl]
          by_cases q4 : (f.yes ++ [src]).length = enoughOf h.members
          · have q4' : ((f.yes ++ [src]).length : Int) = (enoughOf h.members : Nat) := by omega
            simp only [q4', if_true, not_true_eq_false, if_false]
            rw [if_neg (by simp only [q4]; simp)] at hpr
            rw [hpr] at hq
            have hf : ({ f with yes := f.yes ++ [src] } : Off) = { ({ f with yes := f.yes ++ [src] } : Off) with value := some v } := by
              cases f
              simp at ev
              subst ev
              rfl
            rw [hf] at c3 hq
            exact agreed_tail ml c3 h9 hne hv1 hv2 hq
          · have q4' : ¬ ((f.yes ++ [src]).length : Int) = (enoughOf h.members : Nat) := by omega
            simp only [q4', if_false, not_false_eq_true, if_true]
            rw [if_pos q4] at hpr
            rw [hpr] at hq
            walk_at "n"
            refine ⟨by decide, newF ?_⟩
            walk_at "x"
            exact hq l H2 rfl c3
    · simp only [q1, if_false, not_false_eq_true, if_true]
      refine stop ?_ _ rfl
      unfold Hand.agreed
      rw [ef]
      cases ev : f.value with
      | none => simp only [ev]
      | some v => simp only [ev]; rw [if_pos (.inl q1)]
end
end WL

-- mac: p_draw p_is_whole p_enough p_longest h_me h_number h_members h_fell h_said h_story h_news h_row h_far h_still h_ballot h_kept h_has h_offer hs_number hs_members hs_membersN hs_fell hs_said hs_story hs_news hs_row hs_far hs_still hs_ballot hs_kept hs_has hs_offerN hs_keptS hs_newsS of_ballot of_wish of_answers of_value of_yes os_value e_leB e_ltB e_gtB hp_me hp_number hp_members hp_fell hp_said hp_story hp_news hp_row hp_far hp_still hp_ballot hp_kept hp_has hp_offer hq_me op_ballot op_wish op_answers op_value op_yes e_bal0 e_offN e_offS e_eqBal e_neBal e_isVal e_isKept e_isNews
/-! ## A hand: any letter -/
namespace WL
open PySem L2
/-- what a letter must be, that nothing goes wrong at a hand -/
structure GotOk (h : Hand) (t : Letter) : Prop where
  ok : HandOk h
  word : ∀ m, t.body = .wish m → PyData.strOk m.w = true
  val : ∀ f v, h.offer = some f → f.value = some v → v.hands.length ≤ 100 ∧ ∀ x ∈ h.members ++ v.hands, 0 ≤ x ∧ x < 100
section
variable {g : Gm} {HC OC : Addr} [HFld g HC] [OFld g OC]
def p_got (HC OC : Addr) : SpW := fun ws H Q _ => ∃ l h rest t, ws = [.ref l.a, Letter.v t] ∧ Cells H (handX HC OC l h rest) ∧ GotOk h t ∧ Post HC OC l rest (h.got t).1 (.fls (lettersW (h.got t).2)) Q
theorem got_if {a b : Str} {P Q : Prop} (h : (a = b) ∧ P ∨ ¬ (a = b) ∧ Q) : if a = b then P else Q := by
  rcases h with ⟨e, h⟩ | ⟨e, h⟩
  · rw [if_pos e]; exact h
  · rw [if_neg e]; exact h
theorem got_cold {h : Hand} {t : Letter} (e : ∀ n, t.body ≠ .enter n) (c : h.within = false ∨ t.num ≠ h.number) : h.got t = (h, []) := by
  unfold Hand.got
  cases hb : t.body with
  | enter n => exact absurd hb (e n)
  | _ => simp only []; rw [if_pos c]
def warmB (h : Hand) (src : Int) : Body → Hand × List Letter
  | .wish m => h.wished m
  | .hold p m => h.holds src p m
  | .have' n => h.heard src n
  | .take n => (h.taken n, [])
  | .prepare b => h.prepared src b
  | .promise b r k => h.promised src b r k
  | .accept b v => h.accepted src b v
  | .agree b => h.agreed src b
  | .enter n => (h.entered n, [])
theorem got_warm {h : Hand} {t : Letter} (e : ∀ n, t.body ≠ .enter n) (hw : h.within = true) (hn : t.num = h.number) : h.got t = warmB h t.src t.body := by
  unfold Hand.got
  cases hb : t.body with
  | enter n => exact absurd hb (e n)
  | _ => simp only []; rw [if_neg (by simp [hw, hn])]; rfl
theorem got_tail (m1 : g.mth HC "wished" (p_wished HC OC)) (m2 : g.mth HC "holds" (p_holds HC OC)) (m3 : g.mth HC "heard" (p_heard HC OC)) (m4 : g.mth HC "prepared" (p_prepared HC OC))
    (m5 : g.mth HC "promised" (p_promised HC OC)) (m6 : g.mth HC "accepted" (p_accepted HC OC)) (m7 : g.mth HC "agreed" (p_agreed HC OC)) {l : HandL} {h : Hand} {rest : List Cell} {t : Letter} {H : Hw} {Q : KW} {E : EW} (c : Cells H (handX HC OC l h rest)) (ok : GotOk h t) (hw : h.within = true) (hn : t.num = h.number) (hq : Post HC OC l rest (h.got t).1 (.fls (lettersW (h.got t).2)) Q) (b : Body) (hb : t.body = b) (he : ∀ n, b ≠ .enter n) :
    denB g (c_Hand_got.drop 3) (endOf (frz Q) E) [some (.ref l.a), some t.v, some (.str b.kind), some (.int t.src), some b.v] H := by
  have hin : h.me ∈ h.members := by simpa [Hand.within] using hw
  have hne : h.members ≠ [] := List.ne_nil_of_mem hin
  have hg := hq
  rw [got_warm (by rw [hb]; exact he) hw hn, hb] at hg
  clear hq
  simp only [c_Hand_got, List.drop_succ_cons, List.drop_zero]
  cases b with
  | enter n => exact absurd rfl (he n)
  | wish m =>
    simp only [warmB] at hg
    walk_at "n"
    rw [if_pos (by rfl)]
    walk_at "n"
    refine mtho_of (C := HC) m1 rfl ?_
    walk_at "x"
    exact ⟨l, h, rest, m, rfl, c, ok.ok, hin, ok.word m hb, fun l' H' ea c' => by walk_at "x"; exact hg l' H' ea c'⟩
  | hold p m =>
    simp only [warmB] at hg
    walk_at "n"
    rw [if_neg (by simp only [Body.kind]; decide)]
    walk_at "n"
    rw [if_pos (by rfl)]
    walk_at "n"
    refine mtho_of (C := HC) m2 rfl ?_
    walk_at "x"
    exact ⟨l, h, rest, t.src, p, m, rfl, c, ok.ok.row, fun l' H' ea c' => by walk_at "x"; exact hg l' H' ea c'⟩
  | have' n =>
    simp only [warmB] at hg
    walk_at "n"
    rw [if_neg (by simp only [Body.kind]; decide)]
    walk_at "n"
    rw [if_neg (by simp only [Body.kind]; decide)]
    walk_at "n"
    rw [if_pos (by rfl)]
    walk_at "n"
    refine mtho_of (C := HC) m3 rfl ?_
    walk_at "x"
    exact ⟨l, h, rest, t.src, n, rfl, c, ok.ok.nd, ok.ok.len, hin, ok.ok.has, fun l' H' ea c' => by walk_at "x"; exact hg l' H' ea c'⟩
  | take n =>
    simp only [warmB] at hg
    walk_at "n"
    rw [if_neg (by simp only [Body.kind]; decide)]
    walk_at "n"
    rw [if_neg (by simp only [Body.kind]; decide)]
    walk_at "n"
    rw [if_neg (by simp only [Body.kind]; decide)]
    walk_at "n"
    rw [if_pos (by rfl)]
    walk_at "n"
    simp only [Body.v]
    walk_at "x"
    rw [show (msgsW h.row).length = h.row.length from List.length_map ..]
    walk_at "n"
    refine ⟨by decide, newF ?_⟩
    walk_at "x"
    exact hg l _ rfl (by exact (inferInstance : Cells (updW H l.a (.ins HC (handF l { h with far := max h.far (min n h.row.length) }))) _))
  | prepare b =>
    simp only [warmB] at hg
    walk_at "n"
    rw [if_neg (by simp only [Body.kind]; decide)]
    walk_at "n"
    rw [if_neg (by simp only [Body.kind]; decide)]
    walk_at "n"
    rw [if_neg (by simp only [Body.kind]; decide)]
    walk_at "n"
    rw [if_neg (by simp only [Body.kind]; decide)]
    walk_at "n"
    rw [if_pos (by rfl)]
    walk_at "n"
    refine mtho_of (C := HC) m4 rfl ?_
    walk_at "x"
    exact ⟨l, h, rest, t.src, b, rfl, c, fun l' H' ea c' => by walk_at "x"; exact hg l' H' ea c'⟩
  | promise b r k =>
    simp only [warmB] at hg
    walk_at "n"
    rw [if_neg (by simp only [Body.kind]; decide)]
    walk_at "n"
    rw [if_neg (by simp only [Body.kind]; decide)]
    walk_at "n"
    rw [if_neg (by simp only [Body.kind]; decide)]
    walk_at "n"
    rw [if_neg (by simp only [Body.kind]; decide)]
    walk_at "n"
    rw [if_neg (by simp only [Body.kind]; decide)]
    walk_at "n"
    rw [if_pos (by rfl)]
    walk_at "n"
    refine mtho_of (C := HC) m5 rfl ?_
    walk_at "x"
    exact ⟨l, h, rest, t.src, b, r, k, rfl, c, ok.ok.len, fun f e => (ok.ok.off f e).1, fun l' H' ea c' => by walk_at "x"; exact hg l' H' ea c'⟩
  | accept b v =>
    simp only [warmB] at hg
    walk_at "n"
    rw [if_neg (by simp only [Body.kind]; decide)]
    walk_at "n"
    rw [if_neg (by simp only [Body.kind]; decide)]
    walk_at "n"
    rw [if_neg (by simp only [Body.kind]; decide)]
    walk_at "n"
    rw [if_neg (by simp only [Body.kind]; decide)]
    walk_at "n"
    rw [if_neg (by simp only [Body.kind]; decide)]
    walk_at "n"
    rw [if_neg (by simp only [Body.kind]; decide)]
    walk_at "n"
    rw [if_pos (by rfl)]
    walk_at "n"
    refine mtho_of (C := HC) m6 rfl ?_
    walk_at "x"
    exact ⟨l, h, rest, t.src, b, v, rfl, c, fun l' H' ea c' => by walk_at "x"; exact hg l' H' ea c'⟩
  | agree b =>
    simp only [warmB] at hg
    walk_at "n"
    rw [if_neg (by simp only [Body.kind]; decide)]
    walk_at "n"
    rw [if_neg (by simp only [Body.kind]; decide)]
    walk_at "n"
    rw [if_neg (by simp only [Body.kind]; decide)]
    walk_at "n"
    rw [if_neg (by simp only [Body.kind]; decide)]
    walk_at "n"
    rw [if_neg (by simp only [Body.kind]; decide)]
    walk_at "n"
    rw [if_neg (by simp only [Body.kind]; decide)]
    walk_at "n"
    rw [if_neg (by simp only [Body.kind]; decide)]
    walk_at "n"
    refine mtho_of (C := HC) m7 rfl ?_
    walk_at "x"
    exact ⟨l, h, rest, t.src, b, rfl, c, ok.ok.len, hne, fun f e => ⟨(ok.ok.off f e).2, fun v ev => ok.val f v e ev⟩, fun l' H' ea c' => by walk_at "x"; exact hg l' H' ea c'⟩
theorem kind_ne {b : Body} (he : ∀ n, b ≠ .enter n) : b.kind ≠ "enter" := by
  cases b with
  | enter n => exact absurd rfl (he n)
  | _ => simp only [Body.kind]; decide
theorem r_got (mw : g.mth HC "within" (p_within HC OC)) (me : g.mth HC "entered" (p_entered HC OC)) (m1 : g.mth HC "wished" (p_wished HC OC)) (m2 : g.mth HC "holds" (p_holds HC OC)) (m3 : g.mth HC "heard" (p_heard HC OC)) (m4 : g.mth HC "prepared" (p_prepared HC OC))
    (m5 : g.mth HC "promised" (p_promised HC OC)) (m6 : g.mth HC "accepted" (p_accepted HC OC)) (m7 : g.mth HC "agreed" (p_agreed HC OC)) (ws : List W) (H : Hw) (Q : KW) (E : EW) (h : p_got HC OC ws H Q E) :
    denB g c_Hand_got (endOf (frz Q) E) (startW ["self", "letter", "kind", "source", "body"] ws) H := by
  obtain ⟨l, h, rest, t, rfl, c, ok, hq⟩ := h
  show denB g c_Hand_got (endOf (frz Q) E) [some (.ref l.a), some t.v, none, none, none] H
  have ev : t.v = .tup [.str t.body.kind, .int t.src, .int t.dst, .int t.num, t.body.v] := rfl
  have stop : h.got t = (h, []) → ∀ (D : EndW) (σ : Sw), D.rt = frz Q → denB g [CS.ret (CE.lst CEs.nil)] D σ H := fun e D σ hD => by
    rw [e] at hq
    walk_at "n"
    refine ⟨by decide, newF ?_⟩
    rw [hD]
    walk_at "x"
    exact hq l H rfl c
  have tl := fun he hw hn => got_tail (E := E) m1 m2 m3 m4 m5 m6 m7 c ok hw hn hq t.body rfl he
  simp only [c_Hand_got, List.drop_succ_cons, List.drop_zero] at tl
  unfold c_Hand_got
  walk_at "n"
  rw [ev]
  walk_at "x"
  rw [← ev]
  refine ⟨by decide, ?_⟩
  simp only [setAll]
  walk_at "x"
  walk_at "n"
  by_cases hk : ∃ n, t.body = .enter n
  · obtain ⟨n, hb⟩ := hk
    rw [if_pos (by rw [hb]; rfl)]
    have e : h.got t = (h.entered n, []) := by unfold Hand.got; rw [hb]
    rw [e] at hq
    rw [hb]
    walk_at "n"
    refine mtho_of (C := HC) me rfl ?_
    walk_at "x"
    exact ⟨l, h, rest, n, rfl, c, ok.ok.story, fun l' H' ea c' => by walk_at "x"; exact hq l' H' ea c'⟩
  · have he : ∀ n, t.body ≠ .enter n := fun n e => hk ⟨n, e⟩
    rw [if_neg (kind_ne he)]
    walk_at "n"
    refine k_within mw ?_
    by_cases hw : h.within = true
    · simp only [hw]
      walk_at "x"
      rw [ev]
      walk_at "x"
      rw [← ev]
      by_cases hn : t.num = h.number
      · simp only [hn, not_true_eq_false, if_false]
        exact tl he hw hn
      · simp only [hn, not_false_eq_true, if_true]
        exact stop (got_cold he (.inr hn)) _ _ rfl
    · have hw' : h.within = false := by simpa using hw
      simp only [hw']
      walk_at "x"
      exact stop (got_cold he (.inl hw')) _ _ rfl
end
end WL

local macro_rules | `(tactic| walk_at "s") => `(tactic| try simp only [WL.e_var, WL.e_lit, WL.e_gint, WL.e_lst, WL.e_tup, WL.e_bin, WL.e_neg, WL.e_cmp, WL.e_chn, WL.e_andV, WL.e_orV, WL.e_notV, WL.e_ife, WL.e_fld, WL.e_ix, WL.e_slc, WL.e_rev, WL.e_bcl, WL.e_isi, WL.e_call, WL.e_mk, WL.e_mth, WL.e_app, WL.e_ext, WL.e_pop, WL.e_get1, WL.e_get2, WL.e_setd, WL.e_lcm, WL.e_dnew, WL.e_dct, WL.e_lrng, WL.e_inr, WL.e_nset, WL.e_isiS, WL.e_anil, WL.e_acons, WL.e_pnil, WL.e_pcons, WL.e_ono, WL.e_oso, WL.e_ands, WL.e_ors, WL.e_tnot, WL.e_tru, WL.e_iex, WL.e_ir1, WL.e_ir2, WL.e_ir3, WL.e_uno, WL.e_uso,
  WL.e_set, WL.e_fset, WL.e_iset, WL.e_unp, WL.e_expr, WL.e_ret, WL.e_retN, WL.e_ifs, WL.e_for_, WL.e_whl, WL.e_raise, WL.e_try, WL.e_tryH, WL.e_pass, WL.e_bnil, WL.e_bcons, WL.e_loop0, WL.e_loop1, WL.e_comp0, WL.e_comp1,
  WL.e_addI, WL.e_addS, WL.e_addF, WL.e_addRF, WL.e_addFR, WL.e_addRR, WL.e_sub, WL.e_mulI, WL.e_div, WL.e_mod, WL.e_pow, WL.e_ltI, WL.e_leI, WL.e_gtI, WL.e_geI, WL.e_eqI, WL.e_neI, WL.e_eqS, WL.e_neS, WL.e_eqB, WL.e_neB, WL.e_isN, WL.e_isntN, WL.e_isB, WL.e_isntB, WL.n_non, WL.ns_non, WL.nb_non, WL.n_bl, WL.ns_bl, WL.nb_bl, WL.n_int, WL.ns_int, WL.nb_int, WL.n_str, WL.ns_str, WL.nb_str, WL.n_ref, WL.ns_ref, WL.nb_ref, WL.n_scr, WL.ns_scr, WL.nb_scr, WL.n_tup, WL.ns_tup, WL.nb_tup, WL.n_fls, WL.ns_fls, WL.nb_fls,
  WL.e_len, WL.e_lenF, WL.e_lenT, WL.e_lenS, WL.e_lenX, WL.e_lenR, WL.e_lenL, WL.e_lenD, WL.e_list, WL.e_tuple, WL.e_tupF, WL.e_tupT, WL.e_tupS, WL.e_tupR, WL.e_max2, WL.e_max1, WL.e_min2, WL.e_int1, WL.e_intB, WL.e_intI, WL.e_seqR, WL.e_seqF, WL.e_seqT, WL.e_seqS, WL.q_AR, WL.q_AF, WL.q_AT, WL.q_AS, WL.q_LR, WL.q_LF, WL.q_LS, WL.q_LT, WL.e_seqMR, WL.e_seqMF, WL.e_lsto, WL.e_dcto, WL.e_tyL, WL.e_tyD, WL.e_isL, WL.e_isLF, WL.e_isD, WL.e_ixF, WL.e_ixT, WL.e_ixS, WL.e_ixR, WL.e_ixX, WL.e_ixL, WL.e_ixD, WL.e_isR, WL.e_isD1, WL.e_isL1, WL.e_tyN, WL.e_tyB, WL.e_tyI, WL.e_tyS, WL.e_tyT, WL.e_tyF, WL.e_slF, WL.e_slR, WL.e_slS, WL.e_slT,
  WL.z_non, WL.z_bl, WL.z_int, WL.z_str, WL.z_tup, WL.z_fls, WL.updW_twice, WL.end_nx, WL.end_rt, WL.end_ex, WL.keyW, WL.kb_NoneType_int, WL.kb_NoneType_bool, WL.kb_NoneType_list, WL.kb_NoneType_tuple, WL.kb_NoneType_str, WL.kb_bool_int, WL.kb_bool_bool, WL.kb_bool_list, WL.kb_bool_tuple, WL.kb_bool_str, WL.kb_int_int, WL.kb_int_bool, WL.kb_int_list, WL.kb_int_tuple, WL.kb_int_str, WL.kb_str_int, WL.kb_str_bool, WL.kb_str_list, WL.kb_str_tuple, WL.kb_str_str, WL.kb_tuple_int, WL.kb_tuple_bool, WL.kb_tuple_list, WL.kb_tuple_tuple, WL.kb_tuple_str, WL.kb_list_int, WL.kb_list_bool, WL.kb_list_list, WL.kb_list_tuple, WL.kb_list_str, WL.kb_dict_int, WL.kb_dict_bool, WL.kb_dict_list, WL.kb_dict_tuple, WL.kb_dict_str,
  List.getElem?_cons_zero, List.getElem?_cons_succ, List.set_cons_zero, List.set_cons_succ, List.cons.injEq, List.length_cons, List.length_nil, Option.some.injEq, exists_eq_left, exists_eq_left', exists_eq, exists_eq', and_assoc, exists_and_left, true_and, and_true, false_and, and_false, exists_false, or_false, false_or, WL.W.int.injEq, WL.W.scr.injEq, Int.reduceLE, Int.reduceLT, Int.reduceNeg, WL.W.bl.injEq, WL.W.str.injEq, WL.W.ref.injEq, WL.W.fls.injEq, WL.W.tup.injEq, WL.HW.lst.injEq, WL.HW.dct.injEq, WL.HW.ins.injEq, reduceCtorEq, ↓reduceIte, Bool.false_eq_true, decide_eq_true_eq, Bool.not_true, Bool.not_false, Bool.not_eq_true', decide_eq_false_iff_not, WL.at0, WL.at1, WL.at2, WL.at3, WL.at4, WL.updW_same, WL.p_draw, WL.p_is_whole, WL.p_enough, WL.p_longest, WL.h_me, WL.h_number, WL.h_members, WL.h_fell, WL.h_said, WL.h_story, WL.h_news, WL.h_row, WL.h_far, WL.h_still, WL.h_ballot, WL.h_kept, WL.h_has, WL.h_offer, WL.hs_number, WL.hs_members, WL.hs_membersN, WL.hs_fell, WL.hs_said, WL.hs_story, WL.hs_news, WL.hs_row, WL.hs_far, WL.hs_still, WL.hs_ballot, WL.hs_kept, WL.hs_has, WL.hs_offerN, WL.hs_keptS, WL.hs_newsS, WL.of_ballot, WL.of_wish, WL.of_answers, WL.of_value, WL.of_yes, WL.os_value, WL.e_leB, WL.e_ltB, WL.e_gtB, WL.hp_me, WL.hp_number, WL.hp_members, WL.hp_fell, WL.hp_said, WL.hp_story, WL.hp_news, WL.hp_row, WL.hp_far, WL.hp_still, WL.hp_ballot, WL.hp_kept, WL.hp_has, WL.hp_offer, WL.hq_me, WL.op_ballot, WL.op_wish, WL.op_answers, WL.op_value, WL.op_yes, WL.e_bal0, WL.e_offN, WL.e_offS, WL.e_eqBal, WL.e_neBal, WL.e_isVal, WL.e_isKept, WL.e_isNews, WL.ff_many, WL.ff_hands, WL.ff_sent, WL.fp_many, WL.fp_sent])
local macro_rules | `(tactic| walk_at "x") => `(tactic| try simp only [WL.e_var, WL.e_lit, WL.e_gint, WL.e_lst, WL.e_tup, WL.e_bin, WL.e_neg, WL.e_cmp, WL.e_chn, WL.e_andV, WL.e_orV, WL.e_notV, WL.e_ife, WL.e_fld, WL.e_ix, WL.e_slc, WL.e_rev, WL.e_bcl, WL.e_isi, WL.e_call, WL.e_mk, WL.e_mth, WL.e_app, WL.e_ext, WL.e_pop, WL.e_get1, WL.e_get2, WL.e_setd, WL.e_lcm, WL.e_dnew, WL.e_dct, WL.e_lrng, WL.e_inr, WL.e_nset, WL.e_isiS, WL.e_anil, WL.e_acons, WL.e_pnil, WL.e_pcons, WL.e_ono, WL.e_oso, WL.e_ands, WL.e_ors, WL.e_tnot, WL.e_tru, WL.e_iex, WL.e_ir1, WL.e_ir2, WL.e_ir3, WL.e_uno, WL.e_uso,
  WL.e_set, WL.e_fset, WL.e_iset, WL.e_unp, WL.e_expr, WL.e_ret, WL.e_retN, WL.e_ifs, WL.e_for_, WL.e_whl, WL.e_raise, WL.e_try, WL.e_tryH, WL.e_pass, WL.e_bnil, WL.e_loop0, WL.e_loop1, WL.e_comp0, WL.e_comp1,
  WL.e_addI, WL.e_addS, WL.e_addF, WL.e_addRF, WL.e_addFR, WL.e_addRR, WL.e_sub, WL.e_mulI, WL.e_div, WL.e_mod, WL.e_pow, WL.e_ltI, WL.e_leI, WL.e_gtI, WL.e_geI, WL.e_eqI, WL.e_neI, WL.e_eqS, WL.e_neS, WL.e_eqB, WL.e_neB, WL.e_isN, WL.e_isntN, WL.e_isB, WL.e_isntB, WL.n_non, WL.ns_non, WL.nb_non, WL.n_bl, WL.ns_bl, WL.nb_bl, WL.n_int, WL.ns_int, WL.nb_int, WL.n_str, WL.ns_str, WL.nb_str, WL.n_ref, WL.ns_ref, WL.nb_ref, WL.n_scr, WL.ns_scr, WL.nb_scr, WL.n_tup, WL.ns_tup, WL.nb_tup, WL.n_fls, WL.ns_fls, WL.nb_fls,
  WL.e_len, WL.e_lenF, WL.e_lenT, WL.e_lenS, WL.e_lenX, WL.e_lenR, WL.e_lenL, WL.e_lenD, WL.e_list, WL.e_tuple, WL.e_tupF, WL.e_tupT, WL.e_tupS, WL.e_tupR, WL.e_max2, WL.e_max1, WL.e_min2, WL.e_int1, WL.e_intB, WL.e_intI, WL.e_seqR, WL.e_seqF, WL.e_seqT, WL.e_seqS, WL.q_AR, WL.q_AF, WL.q_AT, WL.q_AS, WL.q_LR, WL.q_LF, WL.q_LS, WL.q_LT, WL.e_seqMR, WL.e_seqMF, WL.e_lsto, WL.e_dcto, WL.e_tyL, WL.e_tyD, WL.e_isL, WL.e_isLF, WL.e_isD, WL.e_ixF, WL.e_ixT, WL.e_ixS, WL.e_ixR, WL.e_ixX, WL.e_ixL, WL.e_ixD, WL.e_isR, WL.e_isD1, WL.e_isL1, WL.e_tyN, WL.e_tyB, WL.e_tyI, WL.e_tyS, WL.e_tyT, WL.e_tyF, WL.e_slF, WL.e_slR, WL.e_slS, WL.e_slT,
  WL.z_non, WL.z_bl, WL.z_int, WL.z_str, WL.z_tup, WL.z_fls, WL.updW_twice, WL.end_nx, WL.end_rt, WL.end_ex, WL.keyW, WL.kb_NoneType_int, WL.kb_NoneType_bool, WL.kb_NoneType_list, WL.kb_NoneType_tuple, WL.kb_NoneType_str, WL.kb_bool_int, WL.kb_bool_bool, WL.kb_bool_list, WL.kb_bool_tuple, WL.kb_bool_str, WL.kb_int_int, WL.kb_int_bool, WL.kb_int_list, WL.kb_int_tuple, WL.kb_int_str, WL.kb_str_int, WL.kb_str_bool, WL.kb_str_list, WL.kb_str_tuple, WL.kb_str_str, WL.kb_tuple_int, WL.kb_tuple_bool, WL.kb_tuple_list, WL.kb_tuple_tuple, WL.kb_tuple_str, WL.kb_list_int, WL.kb_list_bool, WL.kb_list_list, WL.kb_list_tuple, WL.kb_list_str, WL.kb_dict_int, WL.kb_dict_bool, WL.kb_dict_list, WL.kb_dict_tuple, WL.kb_dict_str,
  List.getElem?_cons_zero, List.getElem?_cons_succ, List.set_cons_zero, List.set_cons_succ, List.cons.injEq, List.length_cons, List.length_nil, Option.some.injEq, exists_eq_left, exists_eq_left', exists_eq, exists_eq', and_assoc, exists_and_left, true_and, and_true, false_and, and_false, exists_false, or_false, false_or, WL.W.int.injEq, WL.W.scr.injEq, Int.reduceLE, Int.reduceLT, Int.reduceNeg, WL.W.bl.injEq, WL.W.str.injEq, WL.W.ref.injEq, WL.W.fls.injEq, WL.W.tup.injEq, WL.HW.lst.injEq, WL.HW.dct.injEq, WL.HW.ins.injEq, reduceCtorEq, ↓reduceIte, Bool.false_eq_true, decide_eq_true_eq, Bool.not_true, Bool.not_false, Bool.not_eq_true', decide_eq_false_iff_not, WL.at0, WL.at1, WL.at2, WL.at3, WL.at4, WL.updW_same, WL.p_draw, WL.p_is_whole, WL.p_enough, WL.p_longest, WL.h_me, WL.h_number, WL.h_members, WL.h_fell, WL.h_said, WL.h_story, WL.h_news, WL.h_row, WL.h_far, WL.h_still, WL.h_ballot, WL.h_kept, WL.h_has, WL.h_offer, WL.hs_number, WL.hs_members, WL.hs_membersN, WL.hs_fell, WL.hs_said, WL.hs_story, WL.hs_news, WL.hs_row, WL.hs_far, WL.hs_still, WL.hs_ballot, WL.hs_kept, WL.hs_has, WL.hs_offerN, WL.hs_keptS, WL.hs_newsS, WL.of_ballot, WL.of_wish, WL.of_answers, WL.of_value, WL.of_yes, WL.os_value, WL.e_leB, WL.e_ltB, WL.e_gtB, WL.hp_me, WL.hp_number, WL.hp_members, WL.hp_fell, WL.hp_said, WL.hp_story, WL.hp_news, WL.hp_row, WL.hp_far, WL.hp_still, WL.hp_ballot, WL.hp_kept, WL.hp_has, WL.hp_offer, WL.hq_me, WL.op_ballot, WL.op_wish, WL.op_answers, WL.op_value, WL.op_yes, WL.e_bal0, WL.e_offN, WL.e_offS, WL.e_eqBal, WL.e_neBal, WL.e_isVal, WL.e_isKept, WL.e_isNews, WL.ff_many, WL.ff_hands, WL.ff_sent, WL.fp_many, WL.fp_sent])
local macro_rules | `(tactic| walk_at "n") => `(tactic| ((try dsimp only); rw [WL.e_bcons]; walk_at "x"))
-- mac: p_draw p_is_whole p_enough p_longest h_me h_number h_members h_fell h_said h_story h_news h_row h_far h_still h_ballot h_kept h_has h_offer hs_number hs_members hs_membersN hs_fell hs_said hs_story hs_news hs_row hs_far hs_still hs_ballot hs_kept hs_has hs_offerN hs_keptS hs_newsS of_ballot of_wish of_answers of_value of_yes os_value e_leB e_ltB e_gtB hp_me hp_number hp_members hp_fell hp_said hp_story hp_news hp_row hp_far hp_still hp_ballot hp_kept hp_has hp_offer hq_me op_ballot op_wish op_answers op_value op_yes e_bal0 e_offN e_offS e_eqBal e_neBal e_isVal e_isKept e_isNews ff_many ff_hands ff_sent fp_many fp_sent
/-! ## The folk in the heap -/
namespace WL
open PySem L2
section
variable {HC OC : Addr}
def hsX (HC OC : Addr) : List HandL → List Hand → List Cell → List Cell
  | l :: ls, h :: hs, rest => handX HC OC l h (hsX HC OC ls hs rest)
  | _, _, rest => rest
theorem handX_eq (l : HandL) (h : Hand) (rest : List Cell) : handX HC OC l h rest = handX HC OC l h [] ++ rest := by
  simp [handX]
theorem handX_perm {l : HandL} {h : Hand} {A B : List Cell} (p : A.Perm B) : (handX HC OC l h A).Perm (handX HC OC l h B) := by
  rw [handX_eq l h A, handX_eq l h B]
  exact .append_left _ p
theorem handX_swap {l m : HandL} {h k : Hand} {R : List Cell} : (handX HC OC l h (handX HC OC m k R)).Perm (handX HC OC m k (handX HC OC l h R)) := by
  rw [handX_eq l h (handX HC OC m k R), handX_eq m k R, handX_eq m k (handX HC OC l h R), handX_eq l h R, ← List.append_assoc, ← List.append_assoc]
  exact .append_right _ List.perm_append_comm
theorem focus : ∀ (ls : List HandL) (hs : List Hand) (i : Nat) (l : HandL) (h : Hand) (rest : List Cell), ls[i]? = some l → hs[i]? = some h →
    ∃ R, (hsX HC OC ls hs rest).Perm (handX HC OC l h R) ∧ ∀ l' h', (handX HC OC l' h' R).Perm (hsX HC OC (ls.set i l') (hs.set i h') rest)
  | [], _, _, _, _, _, e, _ => by simp at e
  | _ :: _, [], _, _, _, _, _, e => by simp at e
  | x :: ls, y :: hs, 0, l, h, rest, e1, e2 => by
    simp at e1 e2
    subst e1 e2
    exact ⟨_, .refl _, fun _ _ => .refl _⟩
  | x :: ls, y :: hs, i + 1, l, h, rest, e1, e2 => by
    obtain ⟨R, p1, p2⟩ := focus ls hs i l h rest (by simpa using e1) (by simpa using e2)
    refine ⟨handX HC OC x y R, ?_, fun l' h' => ?_⟩
    · exact (handX_perm p1).trans handX_swap
    · exact handX_swap.trans (handX_perm (p2 l' h'))
/-- the folk's cells -/
abbrev folkX (A : Str → Addr) (fa s : Addr) (ls : List HandL) (f : Folk) (rest : List Cell) : List Cell :=
  (fa, .ins (A "Folk") (folkF s ls f)) :: (s, .lst (lettersW f.sent)) :: hsX (A "Hand") (A "Offer") ls f.hands rest
def FolkAt (A : Str → Addr) (H : Hw) (fa : Addr) (f : Folk) (rest : List Cell) : Prop := ∃ s ls, ls.length = f.hands.length ∧ Cells H (folkX A fa s ls f rest)
/-- the words in a letter are texts -/
def Kept.ok : Kept → Prop
  | none => True
  | some (_, v) => ∀ m ∈ v.row, PyData.strOk m.w = true
def Body.ok : Body → Prop
  | .wish m => PyData.strOk m.w = true
  | .hold _ m => PyData.strOk m.w = true
  | .have' _ => True
  | .take _ => True
  | .prepare _ => True
  | .promise _ r k => (∀ m ∈ r, PyData.strOk m.w = true) ∧ Kept.ok k
  | .accept _ v => ∀ m ∈ v.row, PyData.strOk m.w = true
  | .agree _ => True
  | .enter n => ∀ m ∈ n.row, PyData.strOk m.w = true
theorem nbq_tup {xs : List W} (h : nbs xs = true) : nb (.tup xs) = true := h
theorem nbq_fls {xs : List W} (h : nbs xs = true) : nb (.fls xs) = true := h
theorem nbs_cons {x : W} {xs : List W} (h : nb x = true) (k : nbs xs = true) : nbs (x :: xs) = true := by
  show (nb x && nbs xs) = true
  rw [h, k]
  rfl
theorem nb_val {v : Val} (h : ∀ m ∈ v.row, PyData.strOk m.w = true) : nb v.v = true :=
  nbq_tup (nbs_cons (nbq_tup (nbs_ints _)) (nbs_cons (nbq_tup (msgs_nbs h)) rfl))
theorem nb_kept {k : Kept} (h : Kept.ok k) : nb (keptW k) = true := by
  cases k with
  | none => rfl
  | some x => exact nbq_tup (nbs_cons rfl (nbs_cons (nb_val h) rfl))
theorem nb_news {n : News} (h : ∀ m ∈ n.row, PyData.strOk m.w = true) : nb n.v = true :=
  nbq_tup (nbs_cons rfl (nbs_cons (nbq_tup (nbs_ints _)) (nbs_cons (nbq_tup (msgs_nbs h)) (nbs_cons (nbq_tup (nbs_ints _)) rfl))))
theorem nb_body {b : Body} (h : b.ok) : nb b.v = true := by
  cases b with
  | wish m => exact msg_nb h
  | hold p m => exact nbq_tup (nbs_cons rfl (nbs_cons (msg_nb h) rfl))
  | have' n => rfl
  | take n => rfl
  | prepare b => rfl
  | promise b r k => exact nbq_tup (nbs_cons rfl (nbs_cons (nbq_fls (msgs_nbs h.1)) (nbs_cons (nb_kept h.2) rfl)))
  | accept b v => exact nbq_tup (nbs_cons rfl (nbs_cons (nb_val h) rfl))
  | agree b => rfl
  | enter n => exact nb_news h
theorem kind_ok (b : Body) : PyData.strOk b.kind = true := by cases b <;> (simp only [Body.kind]; decide +kernel)
theorem nb_letter {t : Letter} (h : t.body.ok) : nb t.v = true := nbq_tup (nbs_cons (kind_ok t.body) (nbs_cons rfl (nbs_cons rfl (nbs_cons rfl (nbs_cons (nb_body h) rfl)))))
theorem dep_tup {xs : List W} {n : Nat} (h : deps xs ≤ n) : dep (.tup xs) ≤ n + 1 := Nat.succ_le_succ h
theorem dep_fls {xs : List W} {n : Nat} (h : deps xs ≤ n) : dep (.fls xs) ≤ n + 1 := Nat.succ_le_succ h
theorem deps_cons {x : W} {xs : List W} {n : Nat} (h : dep x ≤ n) (k : deps xs ≤ n) : deps (x :: xs) ≤ n := Nat.max_le.mpr ⟨h, k⟩
theorem dep_val (v : Val) : dep v.v ≤ 3 := dep_tup (deps_cons (dep_tup (by rw [show deps (intsW v.hands) = 0 from deps_ints _]; decide)) (deps_cons (dep_tup (msgs_dep _)) (Nat.zero_le _)))
theorem dep_kept (k : Kept) : dep (keptW k) ≤ 4 := by
  cases k with
  | none => exact Nat.zero_le _
  | some x => exact dep_tup (deps_cons (by show 1 ≤ 3; decide) (deps_cons (dep_val _) (Nat.zero_le _)))
theorem dep_news (n : News) : dep n.v ≤ 3 := dep_tup (deps_cons (Nat.zero_le _) (deps_cons (dep_tup (by rw [show deps (intsW n.hands) = 0 from deps_ints _]; decide)) (deps_cons (dep_tup (msgs_dep _)) (deps_cons (dep_tup (by rw [show deps (intsW n.wit) = 0 from deps_ints _]; decide)) (Nat.zero_le _)))))
theorem dep_body (b : Body) : dep b.v ≤ 5 := by
  cases b with
  | wish m => show 1 ≤ 5; decide
  | hold p m => show 2 ≤ 5; decide
  | have' n => exact Nat.zero_le _
  | take n => exact Nat.zero_le _
  | prepare b => show 1 ≤ 5; decide
  | promise b r k => exact dep_tup (deps_cons (by show 1 ≤ 4; decide) (deps_cons (dep_fls (Nat.le_trans (msgs_dep _) (by decide))) (deps_cons (dep_kept _) (Nat.zero_le _))))
  | accept b v => exact dep_tup (deps_cons (by show 1 ≤ 4; decide) (deps_cons (Nat.le_trans (dep_val _) (by decide)) (Nat.zero_le _)))
  | agree b => show 1 ≤ 5; decide
  | enter n => exact Nat.le_trans (dep_news _) (by decide)
theorem dep_letter (t : Letter) : dep t.v ≤ 6 := dep_tup (deps_cons (Nat.zero_le _) (deps_cons (Nat.zero_le _) (deps_cons (Nat.zero_le _) (deps_cons (Nat.zero_le _) (deps_cons (dep_body _) (Nat.zero_le _))))))
theorem letters_nbs {l : List Letter} (h : ∀ t ∈ l, t.body.ok) : nbs (lettersW l) = true := nbs_mem.mpr fun x hx => by
  obtain ⟨t, ht, rfl⟩ := List.mem_map.mp hx
  exact nb_letter (h t ht)
theorem letters_deps (l : List Letter) : deps (lettersW l) ≤ 6 := deps_le.mpr fun x hx => by
  obtain ⟨t, _, rfl⟩ := List.mem_map.mp hx
  exact dep_letter t
structure FolkOk (f : Folk) : Prop where
  many : f.many = f.hands.length
  m9 : f.hands.length ≤ 9
  me : ∀ (i : Nat) (h : Hand), f.hands[i]? = some h → h.me = i
  ok : ∀ h ∈ f.hands, HandOk h
  row : ∀ h ∈ f.hands, h.row.length < 1000000
  far : ∀ h ∈ f.hands, 0 ≤ h.far
  sent : f.sent.length ≤ 6000000
  dst : ∀ t ∈ f.sent, 0 ≤ t.dst ∧ t.dst < f.hands.length
  got : ∀ t ∈ f.sent, ∀ h ∈ f.hands, GotOk h t
  lets : ∀ t ∈ f.sent, t.body.ok
class Exc (g : Gm) (A : Str → Addr) (x : Str) : Prop where
  h : g.exc x (A x)
theorem set_addr {ls : List HandL} {i : Nat} {l l' : HandL} (e : ls[i]? = some l) (ea : l'.a = l.a) : (ls.set i l').map (fun l => W.ref l.a) = ls.map fun l => W.ref l.a := by
  induction ls generalizing i with
  | nil => rfl
  | cons x xs ih =>
    cases i with
    | zero =>
      simp at e
      subst e
      simp [ea]
    | succ i =>
      simp at e
      simp [ih e]
/-- one hand in sight -/
theorem folk_focus {A : Str → Addr} {H : Hw} {fa s : Addr} {ls : List HandL} {f : Folk} {rest : List Cell} {i : Nat} {h : Hand} (c : Cells H (folkX A fa s ls f rest)) (hl : ls.length = f.hands.length) (eh : f.hands[i]? = some h) :
    ∃ l R, ls[i]? = some l ∧ Cells H (handX (A "Hand") (A "Offer") l h ((fa, .ins (A "Folk") (folkF s ls f)) :: (s, .lst (lettersW f.sent)) :: R)) ∧
      ∀ H' l' h' sent', l'.a = l.a → Cells H' (handX (A "Hand") (A "Offer") l' h' ((fa, .ins (A "Folk") (folkF s ls f)) :: (s, .lst (lettersW sent')) :: R)) → FolkAt A H' fa { f with hands := f.hands.set i h', sent := sent' } rest := by
  have hi : i < f.hands.length := (List.getElem?_eq_some_iff.mp eh).1
  obtain ⟨l, el⟩ : ∃ l, ls[i]? = some l := ⟨ls[i]'(by omega), List.getElem?_eq_getElem (by omega)⟩
  obtain ⟨R, p1, p2⟩ := focus (HC := A "Hand") (OC := A "Offer") ls f.hands i l h rest el eh
  have mv : ∀ (x y : Cell) (l : HandL) (h : Hand), (x :: y :: handX (A "Hand") (A "Offer") l h R).Perm (handX (A "Hand") (A "Offer") l h (x :: y :: R)) := fun x y l h => by
    rw [handX_eq l h R, handX_eq l h (x :: y :: R)]
    show ([x, y] ++ (handX (A "Hand") (A "Offer") l h [] ++ R)).Perm (handX (A "Hand") (A "Offer") l h [] ++ ([x, y] ++ R))
    rw [← List.append_assoc, ← List.append_assoc]
    exact .append_right _ List.perm_append_comm
  refine ⟨l, R, el, c.perm ((List.Perm.cons _ (.cons _ p1)).trans (mv _ _ l h)), fun H' l' h' sent' ea c' => ⟨s, ls.set i l', by simp [hl], ?_⟩⟩
  have c2 := c'.perm ((mv _ _ l' h').symm.trans (.cons _ (.cons _ (p2 l' h'))))
  have ef : folkF s (ls.set i l') { f with hands := f.hands.set i h', sent := sent' } = folkF s ls f := by
    unfold folkF
    rw [set_addr el ea]
  show Cells H' ((fa, .ins (A "Folk") (folkF s (ls.set i l') { f with hands := f.hands.set i h', sent := sent' })) :: (s, .lst (lettersW sent')) :: hsX (A "Hand") (A "Offer") (ls.set i l') (f.hands.set i h') rest)
  rw [ef]
  exact c2
end
section
variable {g : Gm} {A : Str → Addr} [HFld g (A "Hand")] [OFld g (A "Offer")] [FFld g (A "Folk")]
def OneRes (A : Str → Addr) (r : Except Refusal (Nat × Hand)) (ls : List HandL) (H : Hw) (Q : KW) (E : EW) : Prop := match r with
  | .error e => E (A e.name) H
  | .ok (i, _) => ∃ l, ls[i]? = some l ∧ Q (.ref l.a) H
def p_one (A : Str → Addr) : SpW := fun ws H Q E => ∃ fa s ls f rest w t, ws = [.ref fa, w] ∧ Cells H (folkX A fa s ls f rest) ∧ ls.length = f.hands.length ∧ f.many = f.hands.length ∧ tyW H w = some t ∧ OneRes A (f.one w) ls H Q E
theorem r_one [Exc g A "BadHand"] (hw : g.fn "is_whole" p_is_whole) (ws : List W) (H : Hw) (Q : KW) (E : EW) (h : p_one A ws H Q E) : denB g c_Folk_one (endOf (frz Q) E) (startW ["self", "hand"] ws) H := by
  obtain ⟨fa, s, ls, f, rest, w, t, rfl, c, hl, hm, ht, hq⟩ := h
  show denB g c_Folk_one (endOf (frz Q) E) [some (.ref fa), some w] H
  have bad : f.one w = .error .badHand → ∀ (D : EndW), D.ex = (fun C _ H => E C H) → denB g [CS.raise "BadHand"] D [some (.ref fa), some w] H := fun e D hD => by
    rw [e] at hq
    walk_at "n"
    refine ⟨_, Exc.h (A := A) (x := "BadHand"), ?_⟩
    rw [hD]
    exact hq
  unfold c_Folk_one
  walk_at "n"
  refine ⟨_, hw, ?_⟩
  walk_at "x"
  refine ⟨t, ht, ?_⟩
  cases w with
  | int i =>
    simp only [isInt]
    walk_at "x"
    by_cases q1 : i < 0
    · simp only [q1, if_true]
      exact bad (by simp [Folk.one, Folk.idx, q1]) _ rfl
    simp only [q1, if_false]
    by_cases q2 : f.many ≤ i
    · simp only [q2, if_true]
      exact bad (by simp [Folk.one, Folk.idx, q2]) _ rfl
    simp only [q2, if_false]
    have hi : i.toNat < f.hands.length := by omega
    have e : f.one (.int i) = .ok (i.toNat, f.hands[i.toNat]) := by
      simp [Folk.one, Folk.idx, q1, q2, List.getElem?_eq_getElem hi]
    rw [e] at hq
    obtain ⟨l, el, hq⟩ := hq
    walk_at "n"
    refine ⟨.ref l.a, ?_, ?_⟩
    · have : (ls.map fun l => W.ref l.a)[i.toNat]? = some (.ref l.a) := by rw [List.getElem?_map, el]; rfl
      have z := atI_nat this
      rw [Int.toNat_of_nonneg (by omega)] at z
      exact z
    · exact .inl hq
  | _ =>
    simp only [isInt]
    walk_at "x"
    exact bad rfl _ rfl
end
end WL

-- mac: p_draw p_is_whole p_enough p_longest h_me h_number h_members h_fell h_said h_story h_news h_row h_far h_still h_ballot h_kept h_has h_offer hs_number hs_members hs_membersN hs_fell hs_said hs_story hs_news hs_row hs_far hs_still hs_ballot hs_kept hs_has hs_offerN hs_keptS hs_newsS of_ballot of_wish of_answers of_value of_yes os_value e_leB e_ltB e_gtB hp_me hp_number hp_members hp_fell hp_said hp_story hp_news hp_row hp_far hp_still hp_ballot hp_kept hp_has hp_offer hq_me op_ballot op_wish op_answers op_value op_yes e_bal0 e_offN e_offS e_eqBal e_neBal e_isVal e_isKept e_isNews ff_many ff_hands ff_sent fp_many fp_sent
/-! ## The folk: who may do what -/
namespace WL
open PySem L2
theorem one_ok {f : Folk} {w : W} {i : Nat} {h : Hand} (e : f.one w = .ok (i, h)) : f.hands[i]? = some h ∧ w = .int i ∧ (i : Int) < f.many := by
  unfold Folk.one at e
  cases w with
  | int j =>
    unfold Folk.idx at e
    by_cases q : j < 0 ∨ f.many ≤ j
    · simp only [q, if_true] at e
      cases e
    · simp only [q, if_false] at e
      cases eh : f.hands[j.toNat]? with
      | none => rw [eh] at e; cases e
      | some k =>
        rw [eh] at e
        cases e
        exact ⟨eh, by congr 1; omega, by omega⟩
  | _ => cases e
section
variable {g : Gm} {A : Str → Addr} [HFld g (A "Hand")] [OFld g (A "Offer")] [FFld g (A "Folk")]
theorem k_one {fa s : Addr} {ls : List HandL} {f : Folk} {rest : List Cell} {w : W} {t : String} {H : Hw} {Q : KW} {E : EW} (hm : g.mth (A "Folk") "one" (p_one A)) [c : Cells H (folkX A fa s ls f rest)] (hl : ls.length = f.hands.length) (hy : f.many = f.hands.length) (ht : tyW H w = some t)
    (q : OneRes A (f.one w) ls H Q E) : mtho g H fa "one" (fun sp => sp [.ref fa, w] H Q E) :=
  mtho_of (C := A "Folk") (fs := folkF s ls f) hm rfl ⟨fa, s, ls, f, rest, w, t, rfl, c, hl, hy, ht, q⟩
def p_fstands (A : Str → Addr) : SpW := fun ws H Q E => ∃ fa f rest w t, ws = [.ref fa, w] ∧ FolkAt A H fa f rest ∧ f.many = f.hands.length ∧ tyW H w = some t ∧ (match f.one w with | .error e => E (A e.name) H | .ok (_, h) => Q (.bl (!h.fell)) H)
theorem r_fstands (m1 : g.mth (A "Folk") "one" (p_one A)) (ws : List W) (H : Hw) (Q : KW) (E : EW) (h : p_fstands A ws H Q E) : denB g c_Folk_stands (endOf (frz Q) E) (startW ["self", "hand"] ws) H := by
  obtain ⟨fa, f, rest, w, t, rfl, ⟨s, ls, hl, c⟩, hm, ht, hq⟩ := h
  show denB g c_Folk_stands (endOf (frz Q) E) [some (.ref fa), some w] H
  unfold c_Folk_stands
  walk_at "n"
  refine k_one m1 hl hm ht ?_
  cases e1 : f.one w with
  | error er => rw [e1] at hq; exact hq
  | ok ih =>
    obtain ⟨i, h⟩ := ih
    rw [e1] at hq
    obtain ⟨eh, rfl, _⟩ := one_ok e1
    obtain ⟨l, R, el, c2, _⟩ := folk_focus c hl eh
    refine ⟨l, el, ?_⟩
    walk_at "x"
    exact hq
def p_member (A : Str → Addr) : SpW := fun ws H Q E => ∃ fa s ls f rest w t, ws = [.ref fa, w] ∧ Cells H (folkX A fa s ls f rest) ∧ ls.length = f.hands.length ∧ f.many = f.hands.length ∧ tyW H w = some t ∧ OneRes A (f.member w) ls H Q E
theorem r_member [Exc g A "Outside"] (m1 : g.mth (A "Folk") "one" (p_one A)) (mw : g.mth (A "Hand") "within" (p_within (A "Hand") (A "Offer"))) (ws : List W) (H : Hw) (Q : KW) (E : EW) (h : p_member A ws H Q E) : denB g c_Folk_member (endOf (frz Q) E) (startW ["self", "hand", "found"] ws) H := by
  obtain ⟨fa, s, ls, f, rest, w, t, rfl, c, hl, hm, ht, hq⟩ := h
  show denB g c_Folk_member (endOf (frz Q) E) [some (.ref fa), some w, none] H
  unfold c_Folk_member
  walk_at "n"
  refine k_one m1 hl hm ht ?_
  cases e1 : f.one w with
  | error er =>
    have e : f.member w = .error er := by unfold Folk.member; rw [e1]
    rw [e] at hq
    exact hq
  | ok ih =>
    obtain ⟨i, h⟩ := ih
    have e : f.member w = if h.within = true then .ok (i, h) else .error .outside := by unfold Folk.member; rw [e1]
    rw [e] at hq
    obtain ⟨eh, rfl, _⟩ := one_ok e1
    obtain ⟨l, R, el, c2, _⟩ := folk_focus c hl eh
    refine ⟨l, el, ?_⟩
    walk_at "n"
    refine k_within mw ?_
    by_cases q : h.within = true
    · rw [if_pos q] at hq
      obtain ⟨l', el', hq⟩ := hq
      rw [el] at el'
      cases el'
      simp only [q]
      walk_at "x"
      walk_at "n"
      exact .inl hq
    · rw [if_neg q] at hq
      have q' : h.within = false := by simpa using q
      simp only [q']
      walk_at "x"
      walk_at "n"
      exact ⟨_, Exc.h (A := A) (x := "Outside"), hq⟩
theorem k_member {fa s : Addr} {ls : List HandL} {f : Folk} {rest : List Cell} {w : W} {t : String} {H : Hw} {Q : KW} {E : EW} (hm : g.mth (A "Folk") "member" (p_member A)) [c : Cells H (folkX A fa s ls f rest)] (hl : ls.length = f.hands.length) (hy : f.many = f.hands.length) (ht : tyW H w = some t)
    (q : OneRes A (f.member w) ls H Q E) : mtho g H fa "member" (fun sp => sp [.ref fa, w] H Q E) :=
  mtho_of (C := A "Folk") (fs := folkF s ls f) hm rfl ⟨fa, s, ls, f, rest, w, t, rfl, c, hl, hy, ht, q⟩
def p_able (A : Str → Addr) : SpW := fun ws H Q E => ∃ fa s ls f rest w t, ws = [.ref fa, w] ∧ Cells H (folkX A fa s ls f rest) ∧ ls.length = f.hands.length ∧ f.many = f.hands.length ∧ tyW H w = some t ∧ OneRes A (f.able w) ls H Q E
theorem r_able [Exc g A "Fallen"] (m1 : g.mth (A "Folk") "one" (p_one A)) (m2 : g.mth (A "Folk") "member" (p_member A)) (ws : List W) (H : Hw) (Q : KW) (E : EW) (h : p_able A ws H Q E) : denB g c_Folk_able (endOf (frz Q) E) (startW ["self", "hand"] ws) H := by
  obtain ⟨fa, s, ls, f, rest, w, t, rfl, c, hl, hm, ht, hq⟩ := h
  show denB g c_Folk_able (endOf (frz Q) E) [some (.ref fa), some w] H
  unfold c_Folk_able
  walk_at "n"
  refine k_one m1 hl hm ht ?_
  cases e1 : f.one w with
  | error er =>
    have e : f.able w = .error er := by unfold Folk.able; rw [e1]
    rw [e] at hq
    exact hq
  | ok ih =>
    obtain ⟨i, h⟩ := ih
    have e : f.able w = if h.fell = true then .error .fallen else if h.within = true then .ok (i, h) else .error .outside := by unfold Folk.able; rw [e1]
    have e3 : f.member w = if h.within = true then .ok (i, h) else .error .outside := by unfold Folk.member; rw [e1]
    rw [e] at hq
    obtain ⟨eh, rfl, _⟩ := one_ok e1
    obtain ⟨l, R, el, c2, _⟩ := folk_focus c hl eh
    refine ⟨l, el, ?_⟩
    walk_at "x"
    by_cases q : h.fell = true
    · rw [if_pos q] at hq
      simp only [q, if_true]
      walk_at "n"
      exact ⟨_, Exc.h (A := A) (x := "Fallen"), hq⟩
    · rw [if_neg q, ← e3] at hq
      simp only [q, if_false, Bool.false_eq_true]
      walk_at "n"
      refine k_member (c := c) m2 hl hm ht ?_
      revert hq
      cases e4 : f.member (.int i) with
      | error er => exact fun z => z
      | ok ih =>
        obtain ⟨j, h'⟩ := ih
        exact fun ⟨l', e5, z⟩ => ⟨l', e5, .inl z⟩
theorem k_able {fa s : Addr} {ls : List HandL} {f : Folk} {rest : List Cell} {w : W} {t : String} {H : Hw} {Q : KW} {E : EW} (hm : g.mth (A "Folk") "able" (p_able A)) [c : Cells H (folkX A fa s ls f rest)] (hl : ls.length = f.hands.length) (hy : f.many = f.hands.length) (ht : tyW H w = some t)
    (q : OneRes A (f.able w) ls H Q E) : mtho g H fa "able" (fun sp => sp [.ref fa, w] H Q E) :=
  mtho_of (C := A "Folk") (fs := folkF s ls f) hm rfl ⟨fa, s, ls, f, rest, w, t, rfl, c, hl, hy, ht, q⟩
theorem able_ok {f : Folk} {w : W} {i : Nat} {h : Hand} (e : f.able w = .ok (i, h)) : f.hands[i]? = some h ∧ w = .int i ∧ (i : Int) < f.many ∧ h.fell = false ∧ h.within = true := by
  unfold Folk.able at e
  cases e1 : f.one w with
  | error er => rw [e1] at e; cases e
  | ok ih =>
    obtain ⟨j, k⟩ := ih
    rw [e1] at e
    simp only [] at e
    by_cases q : k.fell = true
    · rw [if_pos q] at e; cases e
    · rw [if_neg q] at e
      by_cases q2 : k.within = true
      · rw [if_pos q2] at e
        cases e
        obtain ⟨a, b, c⟩ := one_ok e1
        exact ⟨a, b, c, by simpa using q, q2⟩
      · rw [if_neg q2] at e; cases e
theorem member_ok {f : Folk} {w : W} {i : Nat} {h : Hand} (e : f.member w = .ok (i, h)) : f.hands[i]? = some h ∧ w = .int i ∧ (i : Int) < f.many ∧ h.within = true := by
  unfold Folk.member at e
  cases e1 : f.one w with
  | error er => rw [e1] at e; cases e
  | ok ih =>
    obtain ⟨j, k⟩ := ih
    rw [e1] at e
    simp only [] at e
    by_cases q2 : k.within = true
    · rw [if_pos q2] at e
      cases e
      obtain ⟨a, b, c⟩ := one_ok e1
      exact ⟨a, b, c, q2⟩
    · rw [if_neg q2] at e; cases e
/-- what a deed of the folk hands back: nothing, or a refusal -/
def FolkRes (A : Str → Addr) (r : Except Refusal Folk) (fa : Addr) (rest : List Cell) (H : Hw) (Q : KW) (E : EW) : Prop := match r with
  | .error e => E (A e.name) H
  | .ok f' => ∀ H', FolkAt A H' fa f' rest → Q .non H'
def p_fsay (A : Str → Addr) : SpW := fun ws H Q E => ∃ fa f rest w x t, ws = [.ref fa, w, .str x] ∧ FolkAt A H fa f rest ∧ f.many = f.hands.length ∧ f.sent.length ≤ 10000000 ∧ tyW H w = some t ∧ FolkRes A (f.say w x) fa rest H Q E
theorem r_fsay (m2 : g.mth (A "Folk") "able" (p_able A)) (ms : g.mth (A "Hand") "say" (p_say (A "Hand") (A "Offer"))) (ws : List W) (H : Hw) (Q : KW) (E : EW) (h : p_fsay A ws H Q E) : denB g c_Folk_say (endOf (frz Q) E) (startW ["self", "hand", "word"] ws) H := by
  obtain ⟨fa, f, rest, w, x, t, rfl, ⟨s, ls, hl, c⟩, hm, hs, ht, hq⟩ := h
  show denB g c_Folk_say (endOf (frz Q) E) [some (.ref fa), some w, some (.str x)] H
  unfold c_Folk_say
  walk_at "n"
  refine k_able m2 hl hm ht ?_
  cases e1 : f.able w with
  | error er =>
    have e : f.say w x = .error er := by unfold Folk.say; rw [e1]; rfl
    rw [e] at hq
    exact hq
  | ok ih =>
    obtain ⟨i, h⟩ := ih
    have e : f.say w x = .ok (f.put i (h.say x)) := by unfold Folk.say; rw [e1]; rfl
    rw [e] at hq
    obtain ⟨eh, rfl, _, hfe, hwi⟩ := able_ok e1
    obtain ⟨l, R, el, c2, back⟩ := folk_focus c hl eh
    clear c
    refine ⟨l, el, ?_⟩
    walk_at "x"
    refine mtho_of (C := A "Hand") ms rfl ?_
    have hne : h.members ≠ [] := List.ne_nil_of_mem (show h.me ∈ h.members by simpa [Hand.within] using hwi)
    refine ⟨l, h, _, x, rfl, c2, hne, fun l' H' ea c' => ?_⟩
    walk_at "x"
    refine ⟨?_, ?_⟩
    · rw [lettersW, lettersW, List.length_map, List.length_map]
      exact Nat.le_trans (Nat.add_le_add hs (by simp [Hand.say, Hand.ltrs] : _ ≤ 1)) (by decide)
    · rw [lettersW_append]
      exact hq _ (back _ l' (h.say x).1 (f.sent ++ (h.say x).2) ea (by exact (inferInstance : Cells (updW H' s _) _)))
end
end WL

-- mac: p_draw p_is_whole p_enough p_longest h_me h_number h_members h_fell h_said h_story h_news h_row h_far h_still h_ballot h_kept h_has h_offer hs_number hs_members hs_membersN hs_fell hs_said hs_story hs_news hs_row hs_far hs_still hs_ballot hs_kept hs_has hs_offerN hs_keptS hs_newsS of_ballot of_wish of_answers of_value of_yes os_value e_leB e_ltB e_gtB hp_me hp_number hp_members hp_fell hp_said hp_story hp_news hp_row hp_far hp_still hp_ballot hp_kept hp_has hp_offer hq_me op_ballot op_wish op_answers op_value op_yes e_bal0 e_offN e_offS e_eqBal e_neBal e_isVal e_isKept e_isNews ff_many ff_hands ff_sent fp_many fp_sent
/-! ## The folk: deeds -/
namespace WL
open PySem L2
theorem letters_len {l : List Letter} : (lettersW l).length = l.length := List.length_map ..
theorem letters_erase {l : List Letter} {p : Nat} : (lettersW l).eraseIdx p = lettersW (l.eraseIdx p) := by
  unfold lettersW
  induction l generalizing p with
  | nil => rfl
  | cons x xs ih =>
    cases p with
    | zero => rfl
    | succ p => simp [ih]
theorem propose_len {h : Hand} {ws : List Int} : (h.propose ws).2.length = h.members.length := by simp [Hand.propose, Hand.ltrs]
theorem press_len {h : Hand} (h9 : h.members.length ≤ 9) (hr : h.row.length < 1000000) : h.press.length ≤ 9000009 := by
  rw [press_eq, List.length_append, pressGo_len, ltrs_len]
  have ho : h.others.length ≤ 9 := Nat.le_trans others_len h9
  have := Nat.mul_le_mul (by omega : h.row.length ≤ 1000000) ho
  omega
/-- an argument that may be a list of hands -/
def ListArg (H : Hw) (m : W) (many : Int) (ms : Option (List Int)) : Prop := ∃ t, tyW H m = some t ∧ ((t ≠ "list" ∧ ms = none) ∨ ∃ xs, t = "list" ∧ seqA H m xs ∧ Ld H m (.fls xs) ∧ isDs xs = true ∧ deps xs ≤ 63 ∧ xs.length < 1000 ∧
  ((isList xs many = true ∧ ∃ l, xs = intsW l ∧ ms = some l) ∨ (isList xs many = false ∧ ms = none)))
section
variable {g : Gm} {A : Str → Addr} [HFld g (A "Hand")] [OFld g (A "Offer")] [FFld g (A "Folk")]
def p_fpress (A : Str → Addr) : SpW := fun ws H Q E => ∃ fa f rest w t, ws = [.ref fa, w] ∧ FolkAt A H fa f rest ∧ f.many = f.hands.length ∧ (∀ h ∈ f.hands, h.members.length ≤ 9 ∧ h.row.length < 1000000) ∧ f.sent.length ≤ 7000000 ∧ tyW H w = some t ∧ FolkRes A (f.press w) fa rest H Q E
theorem r_fpress [Exc g A "NotFirst"] (m2 : g.mth (A "Folk") "able" (p_able A)) (ms : g.mth (A "Hand") "press" (p_hpress (A "Hand") (A "Offer"))) (ws : List W) (H : Hw) (Q : KW) (E : EW) (h : p_fpress A ws H Q E) : denB g c_Folk_press (endOf (frz Q) E) (startW ["self", "hand", "found"] ws) H := by
  obtain ⟨fa, f, rest, w, t, rfl, ⟨s, ls, hl, c⟩, hm, hok, hs, ht, hq⟩ := h
  show denB g c_Folk_press (endOf (frz Q) E) [some (.ref fa), some w, none] H
  unfold c_Folk_press
  walk_at "n"
  refine k_able m2 hl hm ht ?_
  cases e1 : f.able w with
  | error er =>
    have e : f.press w = .error er := by unfold Folk.press; rw [e1]
    rw [e] at hq
    exact hq
  | ok ih =>
    obtain ⟨i, h⟩ := ih
    have e : f.press w = if h.members.headD 0 ≠ i then .error .notFirst else .ok (f.put i (h, h.press)) := by unfold Folk.press; rw [e1]
    rw [e] at hq
    obtain ⟨eh, rfl, _, hfe, hwi⟩ := able_ok e1
    obtain ⟨h9, hr⟩ := hok h (List.mem_of_getElem? eh)
    obtain ⟨l, R, el, c2, back⟩ := folk_focus c hl eh
    clear c
    refine ⟨l, el, ?_⟩
    have hne : h.members ≠ [] := List.ne_nil_of_mem (show h.me ∈ h.members by simpa [Hand.within] using hwi)
    walk_at "n"
    refine ⟨_, atI0 hne, ?_⟩
    walk_at "x"
    by_cases q : h.members.headD 0 = i
    · rw [if_neg (by simpa using q)] at hq
      simp only [q, not_true_eq_false, if_false]
      walk_at "n"
      refine mtho_of (C := A "Hand") ms rfl ?_
      refine ⟨l, h, _, rfl, c2, h9, hr, fun l' H' ea c' => ?_⟩
      walk_at "x"
      refine ⟨?_, ?_⟩
      · rw [letters_len, letters_len]
        exact Nat.le_trans (Nat.add_le_add hs (press_len h9 hr)) (by decide)
      · rw [lettersW_append]
        exact hq _ (back _ l' h (f.sent ++ h.press) ea (by exact (inferInstance : Cells (updW H' s _) _)))
    · rw [if_pos (by simpa using q)] at hq
      simp only [q, not_false_eq_true, if_true]
      walk_at "n"
      exact ⟨_, Exc.h (A := A) (x := "NotFirst"), hq⟩
def p_fpropose (A : Str → Addr) : SpW := fun ws H Q E => ∃ fa f rest w m ms t, ws = [.ref fa, w, m] ∧ FolkAt A H fa f rest ∧ f.many = f.hands.length ∧ (∀ h ∈ f.hands, h.members.length ≤ 9) ∧ f.sent.length ≤ 7000000 ∧ tyW H w = some t ∧ ListArg H m f.many ms ∧ FolkRes A (f.propose w ms) fa rest H Q E
theorem r_fpropose [Exc g A "BadList"] (hi : g.fn "is_list" p_is_list) (m2 : g.mth (A "Folk") "able" (p_able A)) (mp : g.mth (A "Hand") "propose" (p_hpropose (A "Hand") (A "Offer"))) (ws : List W) (H : Hw) (Q : KW) (E : EW) (h : p_fpropose A ws H Q E) :
    denB g c_Folk_propose (endOf (frz Q) E) (startW ["self", "hand", "members", "found"] ws) H := by
  obtain ⟨fa, f, rest, w, m, ms, t, rfl, ⟨s, ls, hl, c⟩, hm, hok, hs, ht, ⟨tm, htm, harg⟩, hq⟩ := h
  show denB g c_Folk_propose (endOf (frz Q) E) [some (.ref fa), some w, some m, none] H
  unfold c_Folk_propose
  walk_at "n"
  refine k_able m2 hl hm ht ?_
  cases e1 : f.able w with
  | error er =>
    have e : f.propose w ms = .error er := by unfold Folk.propose; rw [e1]
    rw [e] at hq
    exact hq
  | ok ih =>
    obtain ⟨i, h⟩ := ih
    obtain ⟨eh, rfl, _, hfe, hwi⟩ := able_ok e1
    have h9 := hok h (List.mem_of_getElem? eh)
    obtain ⟨l, R, el, c2, back⟩ := folk_focus c hl eh
    clear c
    refine ⟨l, el, ?_⟩
    walk_at "n"
    refine ⟨_, hi, ?_⟩
    walk_at "x"
    have bad : ms = none → ∀ (D : EndW) (σ : Sw), D.ex = (fun C _ H => E C H) → denB g [CS.raise "BadList"] D σ H := fun en D σ hD => by
      have e : f.propose (.int i) ms = .error .badList := by unfold Folk.propose; rw [e1, en]
      rw [e] at hq
      walk_at "n"
      refine ⟨_, Exc.h (A := A) (x := "BadList"), ?_⟩
      rw [hD]
      exact hq
    rcases harg with ⟨hn, en⟩ | ⟨xs, rfl, hsq, hld, hd, hdp, hle, ⟨hb, wl, rfl, en⟩ | ⟨hb, en⟩⟩
    · refine ⟨m, f.many, tm, rfl, htm, .inl ⟨hn, ?_⟩⟩
      walk_at "x"
      exact bad en _ _ rfl
    · refine ⟨m, f.many, _, rfl, htm, .inr ⟨_, rfl, hsq, hld, hd, hdp, hle, ?_⟩⟩
      rw [hb]
      have e : f.propose (.int i) ms = .ok (f.put i (h.propose wl)) := by unfold Folk.propose; rw [e1, en]
      rw [e] at hq
      walk_at "x"
      walk_at "n"
      refine mtho_of (C := A "Hand") mp rfl ?_
      walk_at "x"
      refine ⟨l, h, _, wl, m, rfl, c2, hsq, h9, fun l' H' ea c' => ?_⟩
      walk_at "x"
      refine ⟨?_, ?_⟩
      · rw [letters_len, letters_len, propose_len]
        exact Nat.le_trans (Nat.add_le_add hs h9) (by decide)
      · rw [lettersW_append]
        exact hq _ (back _ l' (h.propose wl).1 (f.sent ++ (h.propose wl).2) ea (by exact (inferInstance : Cells (updW H' s _) _)))
    · refine ⟨m, f.many, _, rfl, htm, .inr ⟨_, rfl, hsq, hld, hd, hdp, hle, ?_⟩⟩
      rw [hb]
      walk_at "x"
      exact bad en _ _ rfl
def p_fshow (A : Str → Addr) : SpW := fun ws H Q E => ∃ fa f rest w o t u, ws = [.ref fa, w, o] ∧ FolkAt A H fa f rest ∧ f.many = f.hands.length ∧ f.sent.length ≤ 7000000 ∧ tyW H w = some t ∧ tyW H o = some u ∧ FolkRes A (f.show' w o) fa rest H Q E
theorem r_fshow [Exc g A "NoNews"] (m1 : g.mth (A "Folk") "one" (p_one A)) (m2 : g.mth (A "Folk") "able" (p_able A)) (ml : g.mth (A "Hand") "letters" (p_letters (A "Hand") (A "Offer"))) (ws : List W) (H : Hw) (Q : KW) (E : EW) (h : p_fshow A ws H Q E) :
    denB g c_Folk_show (endOf (frz Q) E) (startW ["self", "hand", "other", "found"] ws) H := by
  obtain ⟨fa, f, rest, w, o, t, u, rfl, ⟨s, ls, hl, c⟩, hm, hs, ht, hu, hq⟩ := h
  show denB g c_Folk_show (endOf (frz Q) E) [some (.ref fa), some w, some o, none] H
  unfold c_Folk_show
  walk_at "n"
  refine k_able m2 hl hm ht ?_
  cases e1 : f.able w with
  | error er =>
    have e : f.show' w o = .error er := by unfold Folk.show'; rw [e1]
    rw [e] at hq
    exact hq
  | ok ih =>
    obtain ⟨i, h⟩ := ih
    obtain ⟨eh, rfl, _, hfe, hwi⟩ := able_ok e1
    obtain ⟨l, R, el, c2, back⟩ := folk_focus c hl eh
    refine ⟨l, el, ?_⟩
    walk_at "n"
    refine k_one (c := c) m1 hl hm hu ?_
    cases e2 : f.one o with
    | error er =>
      have e : f.show' (.int i) o = .error er := by unfold Folk.show'; rw [e1]; simp only [e2]
      rw [e] at hq
      exact hq
    | ok jk =>
      obtain ⟨j, k⟩ := jk
      obtain ⟨ej, rfl, _⟩ := one_ok e2
      obtain ⟨l2, el2⟩ : ∃ l2, ls[j]? = some l2 := by
        have := (List.getElem?_eq_some_iff.mp ej).1
        exact ⟨ls[j]'(by omega), List.getElem?_eq_getElem (by omega)⟩
      refine ⟨l2, el2, ?_⟩
      clear c
      cases en : h.news with
      | none =>
        have e : f.show' (.int i) (.int j) = .error .noNews := by unfold Folk.show'; rw [e1]; simp only [e2, en]
        rw [e] at hq
        walk_at "n"
        simp only [en]
        walk_at "x"
        walk_at "n"
        exact ⟨_, Exc.h (A := A) (x := "NoNews"), hq⟩
      | some n =>
        have e : f.show' (.int i) (.int j) = .ok (f.put i (h, h.ltrs [(j : Int)] (.enter n))) := by unfold Folk.show'; rw [e1]; simp only [e2, en]
        rw [e] at hq
        walk_at "n"
        simp only [en, Option.isNone_some]
        walk_at "x"
        walk_at "n"
        refine mtho_of (C := A "Hand") ml rfl ?_
        walk_at "x"
        refine ⟨by decide, newF ?_⟩
        walk_at "x"
        rw [show newsW h.news = (Body.enter n).v from by rw [en]; rfl]
        refine k_letters (ts := [(j : Int)]) (.enter n) ml (c := c2) (by simp) ?_
        walk_at "x"
        refine ⟨?_, ?_⟩
        · rw [letters_len, letters_len, ltrs_len]
          exact Nat.le_trans (Nat.add_le_add hs (by simp : [(j : Int)].length ≤ 1)) (by decide)
        · rw [lettersW_append]
          exact hq _ (back _ l h (f.sent ++ h.ltrs [(j : Int)] (.enter n)) rfl (by exact (inferInstance : Cells (updW H s _) _)))
def p_ffall (A : Str → Addr) : SpW := fun ws H Q E => ∃ fa f rest w t, ws = [.ref fa, w] ∧ FolkAt A H fa f rest ∧ f.many = f.hands.length ∧ tyW H w = some t ∧ FolkRes A (f.fall w) fa rest H Q E
theorem r_ffall [Exc g A "Fallen"] (m1 : g.mth (A "Folk") "one" (p_one A)) (ws : List W) (H : Hw) (Q : KW) (E : EW) (h : p_ffall A ws H Q E) : denB g c_Folk_fall (endOf (frz Q) E) (startW ["self", "hand"] ws) H := by
  obtain ⟨fa, f, rest, w, t, rfl, ⟨s, ls, hl, c⟩, hm, ht, hq⟩ := h
  show denB g c_Folk_fall (endOf (frz Q) E) [some (.ref fa), some w] H
  unfold c_Folk_fall
  walk_at "n"
  refine k_one m1 hl hm ht ?_
  cases e1 : f.one w with
  | error er =>
    have e : f.fall w = .error er := by unfold Folk.fall; rw [e1]
    rw [e] at hq
    exact hq
  | ok ih =>
    obtain ⟨i, h⟩ := ih
    have e : f.fall w = if h.fell = true then .error .fallen else .ok (f.put i ({ h with fell := true }, [])) := by unfold Folk.fall; rw [e1]
    rw [e] at hq
    obtain ⟨eh, rfl, _⟩ := one_ok e1
    obtain ⟨l, R, el, c2, back⟩ := folk_focus c hl eh
    clear c
    refine ⟨l, el, ?_⟩
    walk_at "x"
    by_cases q : h.fell = true
    · rw [if_pos q] at hq
      simp only [q, if_true]
      walk_at "n"
      exact ⟨_, Exc.h (A := A) (x := "Fallen"), hq⟩
    · rw [if_neg q] at hq
      simp only [q, if_false, Bool.false_eq_true]
      walk_at "n"
      have : (ls.map fun l => W.ref l.a)[i]? = some (.ref l.a) := by rw [List.getElem?_map, el]; rfl
      refine ⟨_, atI_nat this, ?_⟩
      walk_at "x"
      have := back _ l { h with fell := true } f.sent rfl (by exact (inferInstance : Cells (updW H l.a (.ins (A "Hand") (handF l { h with fell := true }))) _))
      refine hq _ ?_
      unfold Folk.put
      rw [List.append_nil]
      exact this
end
end WL

-- mac: p_draw p_is_whole p_enough p_longest h_me h_number h_members h_fell h_said h_story h_news h_row h_far h_still h_ballot h_kept h_has h_offer hs_number hs_members hs_membersN hs_fell hs_said hs_story hs_news hs_row hs_far hs_still hs_ballot hs_kept hs_has hs_offerN hs_keptS hs_newsS of_ballot of_wish of_answers of_value of_yes os_value e_leB e_ltB e_gtB hp_me hp_number hp_members hp_fell hp_said hp_story hp_news hp_row hp_far hp_still hp_ballot hp_kept hp_has hp_offer hq_me op_ballot op_wish op_answers op_value op_yes e_bal0 e_offN e_offS e_eqBal e_neBal e_isVal e_isKept e_isNews ff_many ff_hands ff_sent fp_many fp_sent
/-! ## The folk: letters under way -/
namespace WL
open PySem L2
section
variable {g : Gm} {A : Str → Addr} [HFld g (A "Hand")] [OFld g (A "Offer")] [FFld g (A "Folk")]
def p_need (A : Str → Addr) : SpW := fun ws H Q E => ∃ fa s ls f rest w t, ws = [.ref fa, w] ∧ Cells H (folkX A fa s ls f rest) ∧ tyW H w = some t ∧ (match f.place w with | none => E (A "NoLetter") H | some _ => Q .non H)
theorem r_need [Exc g A "NoLetter"] (hw : g.fn "is_whole" p_is_whole) (ws : List W) (H : Hw) (Q : KW) (E : EW) (h : p_need A ws H Q E) : denB g c_Folk_need_letter (endOf (frz Q) E) (startW ["self", "place"] ws) H := by
  obtain ⟨fa, s, ls, f, rest, w, t, rfl, c, ht, hq⟩ := h
  show denB g c_Folk_need_letter (endOf (frz Q) E) [some (.ref fa), some w] H
  have bad : f.place w = none → ∀ (D : EndW) (σ : Sw), D.ex = (fun C _ H => E C H) → denB g [CS.raise "NoLetter"] D σ H := fun e D σ hD => by
    rw [e] at hq
    walk_at "n"
    refine ⟨_, Exc.h (A := A) (x := "NoLetter"), ?_⟩
    rw [hD]
    exact hq
  unfold c_Folk_need_letter
  walk_at "n"
  refine ⟨_, hw, ?_⟩
  walk_at "x"
  refine ⟨t, ht, ?_⟩
  cases w with
  | int i =>
    simp only [isInt]
    walk_at "x"
    rw [letters_len]
    by_cases q1 : i < 0
    · simp only [q1, if_true]
      exact bad (by simp [Folk.place, q1]) _ _ rfl
    simp only [q1, if_false]
    by_cases q2 : (f.sent.length : Int) ≤ i
    · simp only [q2, if_true]
      exact bad (by simp [Folk.place, q2]) _ _ rfl
    simp only [q2, if_false]
    rw [show f.place (.int i) = some i.toNat from by simp [Folk.place, q1, q2]] at hq
    walk_at "x"
    exact hq
  | _ =>
    simp only [isInt]
    walk_at "x"
    exact bad rfl _ _ rfl
theorem k_need {fa s : Addr} {ls : List HandL} {f : Folk} {rest : List Cell} {w : W} {t : String} {H : Hw} {Q : KW} {E : EW} (hm : g.mth (A "Folk") "need_letter" (p_need A)) [c : Cells H (folkX A fa s ls f rest)] (ht : tyW H w = some t)
    (q : match f.place w with | none => E (A "NoLetter") H | some _ => Q .non H) : mtho g H fa "need_letter" (fun sp => sp [.ref fa, w] H Q E) :=
  mtho_of (C := A "Folk") (fs := folkF s ls f) hm rfl ⟨fa, s, ls, f, rest, w, t, rfl, c, ht, q⟩
theorem place_ok {f : Folk} {w : W} {p : Nat} (e : f.place w = some p) : w = .int p ∧ p < f.sent.length := by
  unfold Folk.place at e
  cases w with
  | int i =>
    by_cases q : i < 0 ∨ (f.sent.length : Int) ≤ i
    · simp only [q, if_true] at e; cases e
    · simp only [q, if_false] at e
      cases e
      exact ⟨by congr 1; omega, by omega⟩
  | _ => cases e
/-- the letters' list changed -/
theorem sent_back {fa s : Addr} {ls : List HandL} {f : Folk} {rest : List Cell} {H : Hw} {sent' : List Letter} (hl : ls.length = f.hands.length) (c : Cells H ((fa, .ins (A "Folk") (folkF s ls f)) :: (s, .lst (lettersW sent')) :: hsX (A "Hand") (A "Offer") ls f.hands rest)) : FolkAt A H fa { f with sent := sent' } rest :=
  ⟨s, ls, hl, c⟩
def p_flose (A : Str → Addr) : SpW := fun ws H Q E => ∃ fa f rest w t, ws = [.ref fa, w] ∧ FolkAt A H fa f rest ∧ f.sent.length ≤ 10000000 ∧ tyW H w = some t ∧ FolkRes A (f.lose w) fa rest H Q E
theorem r_flose (mn : g.mth (A "Folk") "need_letter" (p_need A)) (ws : List W) (H : Hw) (Q : KW) (E : EW) (h : p_flose A ws H Q E) : denB g c_Folk_lose (endOf (frz Q) E) (startW ["self", "place"] ws) H := by
  obtain ⟨fa, f, rest, w, t, rfl, ⟨s, ls, hl, c⟩, hs, ht, hq⟩ := h
  show denB g c_Folk_lose (endOf (frz Q) E) [some (.ref fa), some w] H
  unfold c_Folk_lose
  walk_at "n"
  refine k_need mn ht ?_
  unfold Folk.lose at hq
  cases ep : f.place w with
  | none => rw [ep] at hq; exact hq
  | some p =>
    rw [ep] at hq
    obtain ⟨rfl, hp⟩ := place_ok ep
    have hx : (lettersW f.sent)[p]? = some (f.sent[p].v) := by simp [lettersW, hp]
    walk_at "n"
    refine ⟨p, rfl, by omega, _, hx, ?_⟩
    rw [letters_erase]
    exact hq _ (sent_back hl (by exact (inferInstance : Cells (updW H s _) _)))
def p_fdouble (A : Str → Addr) : SpW := fun ws H Q E => ∃ fa f rest w t, ws = [.ref fa, w] ∧ FolkAt A H fa f rest ∧ f.sent.length ≤ 10000000 ∧ tyW H w = some t ∧ FolkRes A (f.double w) fa rest H Q E
theorem r_fdouble (mn : g.mth (A "Folk") "need_letter" (p_need A)) (ws : List W) (H : Hw) (Q : KW) (E : EW) (h : p_fdouble A ws H Q E) : denB g c_Folk_double (endOf (frz Q) E) (startW ["self", "place"] ws) H := by
  obtain ⟨fa, f, rest, w, t, rfl, ⟨s, ls, hl, c⟩, hs, ht, hq⟩ := h
  show denB g c_Folk_double (endOf (frz Q) E) [some (.ref fa), some w] H
  unfold c_Folk_double
  walk_at "n"
  refine k_need mn ht ?_
  unfold Folk.double at hq
  cases ep : f.place w with
  | none => rw [ep] at hq; exact hq
  | some p =>
    rw [ep] at hq
    obtain ⟨rfl, hp⟩ := place_ok ep
    have hx : (lettersW f.sent)[p]? = some (f.sent[p].v) := by simp [lettersW, hp]
    have hg : f.sent[p]? = some f.sent[p] := List.getElem?_eq_getElem hp
    simp only [hg] at hq
    walk_at "n"
    refine ⟨_, atI_nat hx, ?_⟩
    walk_at "x"
    refine ⟨by rw [letters_len]; exact Nat.lt_of_le_of_lt hs (by decide), ?_⟩
    rw [show lettersW f.sent ++ [f.sent[p].v] = lettersW (f.sent ++ (some f.sent[p]).toList) from by simp [lettersW]]
    exact hq _ (sent_back hl (by exact (inferInstance : Cells (updW H s _) _)))
theorem told_len {ms ws : List Int} (h : ∀ x ∈ ms ++ ws, x < 100) : (Hand.told ms ws).length ≤ 101 := by
  unfold Hand.told
  refine Nat.le_trans (List.length_filter_le ..) ?_
  rw [List.length_map, List.length_range]
  by_cases e : ms ++ ws = []
  · rw [e]; decide
  · have hm : maxL (ms ++ ws) < 100 := by
      have key : ∀ (l : List Int) (a : Int), a < 100 → (∀ x ∈ l, x < 100) → l.foldl max a < 100 := by
        intro l
        induction l with
        | nil => intro a ha _; exact ha
        | cons x xs ih =>
          intro a ha hx
          rw [List.foldl_cons]
          exact ih _ (by have := hx x (List.mem_cons_self ..); omega) fun y hy => hx y (List.mem_cons_of_mem _ hy)
      unfold maxL
      refine key _ _ ?_ h
      cases hl : ms ++ ws with
      | nil => exact absurd hl e
      | cons x xs => exact h x (by rw [hl]; exact List.mem_cons_self ..)
    omega
theorem got_len {h : Hand} {t : Letter} (ok : GotOk h t) : (h.got t).2.length ≤ 300 := by
  have h9 := ok.ok.len
  have ho : h.others.length ≤ 9 := Nat.le_trans others_len h9
  have s9 : ∀ k : Hand, k.members = h.members → k.settled.2.length ≤ 9 := fun k e => Nat.le_trans settled_len (by rw [e]; exact h9)
  by_cases hk : ∃ n, t.body = .enter n
  · obtain ⟨n, hb⟩ := hk
    unfold Hand.got
    rw [hb]
    simp
  have he : ∀ n, t.body ≠ .enter n := fun n e => hk ⟨n, e⟩
  by_cases hc : h.within = false ∨ t.num ≠ h.number
  · rw [got_cold he hc]; simp
  have hw : h.within = true := by
    cases e : h.within with
    | true => rfl
    | false => exact absurd (.inl e) hc
  have hn : t.num = h.number := Classical.byContradiction fun e => hc (.inr e)
  rw [got_warm he hw hn]
  cases hb : t.body with
  | enter n => exact absurd hb (he n)
  | wish m =>
    simp only [warmB]
    unfold Hand.wished
    split
    · simp
    · simp only [List.length_append, ltrs_len]
      have := s9 { h with row := h.row ++ [m] } rfl
      omega
  | hold p m => simp only [warmB]; unfold Hand.holds; split <;> simp [ltrs_len]
  | have' n =>
    simp only [warmB]
    have := s9 { h with has := putA h.has t.src (max ((getK h.has t.src).getD 0) n) } rfl
    unfold Hand.heard
    omega
  | take n => simp [warmB]
  | prepare b => simp only [warmB]; unfold Hand.prepared; split <;> simp [ltrs_len]
  | promise b r k =>
    simp only [warmB]
    unfold Hand.promised
    split
    · simp
    · split
      · simp
      · simp only []
        split
        · simp
        · rw [ltrs_len]; omega
  | accept b v => simp only [warmB]; unfold Hand.accepted; split <;> simp [ltrs_len]
  | agree b =>
    simp only [warmB]
    unfold Hand.agreed
    split
    · simp
    · rename_i f ef
      split
      · simp
      · rename_i v ev
        split
        · simp
        · simp only []
          split
          · simp
          · rw [ltrs_len]
            have := told_len (ms := h.members) (ws := v.hands) fun x hx => ((ok.val f v ef ev).2 x hx).2
            omega
def p_fcome (A : Str → Addr) : SpW := fun ws H Q E => ∃ fa f rest w t, ws = [.ref fa, w] ∧ FolkAt A H fa f rest ∧ FolkOk f ∧ tyW H w = some t ∧ FolkRes A (f.come w) fa rest H Q E
theorem r_fcome (mn : g.mth (A "Folk") "need_letter" (p_need A)) (mg : g.mth (A "Hand") "got" (p_got (A "Hand") (A "Offer"))) (ws : List W) (H : Hw) (Q : KW) (E : EW) (h : p_fcome A ws H Q E) : denB g c_Folk_come (endOf (frz Q) E) (startW ["self", "place", "letter", "target"] ws) H := by
  obtain ⟨fa, f, rest, w, t, rfl, ⟨s, ls, hl, c⟩, ok, ht, hq⟩ := h
  show denB g c_Folk_come (endOf (frz Q) E) [some (.ref fa), some w, none, none] H
  unfold c_Folk_come
  walk_at "n"
  refine k_need mn ht ?_
  unfold Folk.come at hq
  cases ep : f.place w with
  | none => rw [ep] at hq; exact hq
  | some p =>
    rw [ep] at hq
    obtain ⟨rfl, hp⟩ := place_ok ep
    have hx : (lettersW f.sent)[p]? = some (f.sent[p].v) := by simp [lettersW, hp]
    have hg : f.sent[p]? = some f.sent[p] := List.getElem?_eq_getElem hp
    generalize f.sent[p] = u at hx hg
    have hmem : u ∈ f.sent := List.mem_of_getElem? hg
    obtain ⟨d0, d1⟩ := ok.dst u hmem
    have sl := ok.sent
    walk_at "n"
    refine ⟨p, rfl, by omega, _, hx, ?_⟩
    rw [letters_erase]
    have c2 : Cells (updW H s (.lst (lettersW (f.sent.eraseIdx p)))) (folkX A fa s ls { f with sent := f.sent.eraseIdx p } rest) := (by exact (inferInstance : Cells (updW H s _) _))
    generalize updW H s (.lst (lettersW (f.sent.eraseIdx p))) = H1 at c2 ⊢
    clear c
    have hi : u.dst.toNat < f.hands.length := by omega
    have eh : f.hands[u.dst.toNat]? = some f.hands[u.dst.toNat] := List.getElem?_eq_getElem hi
    generalize f.hands[u.dst.toNat] = h at eh
    have hh : h ∈ f.hands := List.mem_of_getElem? eh
    obtain ⟨l, R, el, c3, back⟩ := folk_focus c2 (by simpa using hl) eh
    clear c2
    have eu : u.v = .tup [.str u.body.kind, .int u.src, .int u.dst, .int u.num, u.body.v] := rfl
    walk_at "n"
    rw [eu]
    walk_at "x"
    rw [← eu]
    have hla : (ls.map fun l => W.ref l.a)[u.dst.toNat]? = some (.ref l.a) := by rw [List.getElem?_map, el]; rfl
    have z := atI_nat hla
    rw [Int.toNat_of_nonneg d0] at z
    refine ⟨_, z, ?_⟩
    walk_at "n"
    have ec : f.comeAt p = if h.fell = true then { f with sent := f.sent.eraseIdx p } else ({ f with sent := f.sent.eraseIdx p } : Folk).put u.dst.toNat (h.got u) := by
      unfold Folk.comeAt
      rw [hg]
      simp only [eh]
    simp only [ec] at hq
    by_cases q : h.fell = true
    · rw [if_pos q] at hq
      simp only [q]
      walk_at "x"
      have := back H1 l h (f.sent.eraseIdx p) rfl c3
      rw [show f.hands.set u.dst.toNat h = f.hands from by
        refine List.ext_getElem? fun k => ?_
        rw [List.getElem?_set]
        split
        · rename_i e; subst e; exact eh.symm
        · rfl] at this
      exact hq _ this
    · have q' : h.fell = false := by simpa using q
      rw [if_neg q] at hq
      simp only [q']
      walk_at "x"
      walk_at "n"
      refine mtho_of (C := A "Hand") mg rfl ?_
      walk_at "x"
      refine ⟨l, h, _, u, rfl, c3, ok.got u hmem h hh, fun l' H' ea c' => ?_⟩
      walk_at "x"
      refine ⟨?_, ?_⟩
      · rw [letters_len, letters_len]
        exact Nat.le_trans (Nat.add_le_add (Nat.le_trans (List.length_eraseIdx_le ..) sl) (got_len (ok.got u hmem h hh))) (by decide)
      · rw [lettersW_append]
        exact hq _ (back _ l' (h.got u).1 (f.sent.eraseIdx p ++ (h.got u).2) ea (by exact (inferInstance : Cells (updW H' s _) _)))
end
end WL

-- mac: p_draw p_is_whole p_enough p_longest h_me h_number h_members h_fell h_said h_story h_news h_row h_far h_still h_ballot h_kept h_has h_offer hs_number hs_members hs_membersN hs_fell hs_said hs_story hs_news hs_row hs_far hs_still hs_ballot hs_kept hs_has hs_offerN hs_keptS hs_newsS of_ballot of_wish of_answers of_value of_yes os_value e_leB e_ltB e_gtB hp_me hp_number hp_members hp_fell hp_said hp_story hp_news hp_row hp_far hp_still hp_ballot hp_kept hp_has hp_offer hq_me op_ballot op_wish op_answers op_value op_yes e_bal0 e_offN e_offS e_eqBal e_neBal e_isVal e_isKept e_isNews ff_many ff_hands ff_sent fp_many fp_sent
/-! ## The folk: all letters come; what is asked -/
namespace WL
open PySem L2
/-- n letters come, the first one first -/
def Folk.comes : Nat → Folk → Folk
  | 0, f => f
  | n + 1, f => Folk.comes n (f.comeAt 0)
theorem newL_frz {xs : List W} {H : Hw} {Q : KW} (h : newL xs H Q) : newL xs H (frz Q) := by
  rcases h with h | h
  · exact newR fun p hp => .inl (h p hp)
  · exact newF (.inl h)
theorem newL_imp {xs : List W} {H : Hw} {Q Q' : KW} (h : newL xs H Q) (i : ∀ w H', Q w H' → Q' w H') : newL xs H Q' := by
  rcases h with h | h
  · exact newR fun p hp => i _ _ (h p hp)
  · exact newF (i _ _ h)
section
variable {g : Gm} {A : Str → Addr} [HFld g (A "Hand")] [OFld g (A "Offer")] [FFld g (A "Folk")]
def p_fcalm (A : Str → Addr) : SpW := fun ws H Q _ => ∃ fa f rest n, ws = [.ref fa] ∧ FolkAt A H fa f rest ∧ n ≤ 1000000000 ∧ (∀ k, k < n → FolkOk (f.comes k) ∧ (f.comes k).sent ≠ []) ∧ (f.comes n).sent = [] ∧ ∀ H', FolkAt A H' fa (f.comes n) rest → Q (.int (n : Nat)) H'
theorem comes_succ (f : Folk) : ∀ k, f.comes (k + 1) = (f.comeAt 0).comes k := fun _ => rfl
theorem sent_ne {H : Hw} {s : Addr} {l : List Letter} {Q : KW} [h : At H s (.lst (lettersW l))] (ok : ∀ t ∈ l, t.body.ok) (q : Q (.bl (!l.isEmpty)) H) : cmpW .NotEq (.ref s) (.fls []) H Q := by
  refine ned_of (x' := .fls (lettersW l)) (y' := .fls []) (.ref h.h) .refl (isD_nb (.fls _) (nbq_fls (letters_nbs ok))) rfl (Nat.le_trans (dep_fls (letters_deps l)) (by decide)) (by decide) ?_
  cases l with
  | nil => exact q
  | cons _ _ => exact q
theorem r_fcalm (mc : g.mth (A "Folk") "come" (p_fcome A)) (ws : List W) (H : Hw) (Q : KW) (E : EW) (h : p_fcalm A ws H Q E) : denB g c_Folk_calm (endOf (frz Q) E) (startW ["self", "count"] ws) H := by
  obtain ⟨fa, f, rest, n, rfl, c, hn, hok, hend, hq⟩ := h
  show denB g c_Folk_calm (endOf (frz Q) E) [some (.ref fa), none] H
  unfold c_Folk_calm
  walk_at "n"
  walk_at "n"
  refine ⟨n + 1, ?_⟩
  have key : ∀ (n : Nat) (f : Folk) (k : Nat) (H : Hw) (D : EndW), FolkAt A H fa f rest → (∀ j, j < n → FolkOk (f.comes j) ∧ (f.comes j).sent ≠ []) → (f.comes n).sent = [] →
      (∀ H', FolkAt A H' fa (f.comes n) rest → D.nx [some (.ref fa), some (.int ((k + n : Nat) : Int))] H') →
      whileW (denT g (.tru (.cmp .NotEq (.fld (.var 0) "sent") (.lst .nil)))) (denB g b_Folk_calm_1) D (n + 1) [some (.ref fa), some (.int (k : Int))] H := by
    intro n
    induction n with
    | zero =>
      intro f k H D ⟨s, ls, hl, c⟩ _ he hD
      unfold whileW
      walk_at "x"
      refine ⟨Nat.zero_le _, newF ?_⟩
      refine sent_ne (l := f.sent) (by rw [show f.sent = [] from he]; intro t h; cases h) ?_
      rw [show f.sent = [] from he]
      walk_at "x"
      exact hD H ⟨s, ls, hl, c⟩
    | succ n ih =>
      intro f k H D ⟨s, ls, hl, c⟩ hok he hD
      obtain ⟨ok0, ne0⟩ := hok 0 (by omega)
      unfold whileW
      walk_at "x"
      refine ⟨Nat.zero_le _, newF ?_⟩
      refine sent_ne (l := f.sent) ok0.lets ?_
      have ne1 : f.sent ≠ [] := ne0
      rw [show f.sent.isEmpty = false from by cases hs : f.sent with | nil => exact absurd hs ne1 | cons _ _ => rfl]
      walk_at "x"
      rw [ub_Folk_calm_1]
      walk_at "n"
      refine mtho_of (C := A "Folk") mc rfl ?_
      walk_at "x"
      refine ⟨fa, f, rest, .int 0, "int", rfl, ⟨s, ls, hl, c⟩, ok0, rfl, ?_⟩
      have ep : f.place (.int 0) = some 0 := by
        simp [Folk.place, ne1]
      unfold Folk.come
      rw [ep]
      intro H' c'
      walk_at "n"
      have := ih (f.comeAt 0) (k + 1) H' D c' (fun j hj => hok (j + 1) (by omega)) he (fun H2 c2 => by
        have z := hD H2 c2
        rw [show k + 1 + n = k + (n + 1) from by omega]
        exact z)
      rw [show ((k : Int) + 1) = ((k + 1 : Nat) : Int) from by omega]
      exact this
  have z := key n f 0 H { (endOf (frz Q) E) with nx := denB g [CS.ret (CE.var 1)] (endOf (frz Q) E) } c hok hend (fun H' c' => by
    walk_at "n"
    rw [Nat.zero_add]
    exact hq H' c')
  exact z
end
end WL

-- mac: p_draw p_is_whole p_enough p_longest h_me h_number h_members h_fell h_said h_story h_news h_row h_far h_still h_ballot h_kept h_has h_offer hs_number hs_members hs_membersN hs_fell hs_said hs_story hs_news hs_row hs_far hs_still hs_ballot hs_kept hs_has hs_offerN hs_keptS hs_newsS of_ballot of_wish of_answers of_value of_yes os_value e_leB e_ltB e_gtB hp_me hp_number hp_members hp_fell hp_said hp_story hp_news hp_row hp_far hp_still hp_ballot hp_kept hp_has hp_offer hq_me op_ballot op_wish op_answers op_value op_yes e_bal0 e_offN e_offS e_eqBal e_neBal e_isVal e_isKept e_isNews ff_many ff_hands ff_sent fp_many fp_sent
/-! ## The folk: what is asked -/
namespace WL
open PySem L2
def triW (x : Str × Int × Int) : W := .tup [.str x.1, .int x.2.1, .int x.2.2]
def trisW (l : List (Str × Int × Int)) : List W := l.map triW
section
variable {g : Gm} {A : Str → Addr} [HFld g (A "Hand")] [OFld g (A "Offer")] [FFld g (A "Folk")]
def p_fletters (A : Str → Addr) : SpW := fun ws H Q _ => ∃ fa f rest, ws = [.ref fa] ∧ FolkAt A H fa f rest ∧ f.sent.length ≤ 16000000 ∧ newL (trisW f.letters) H Q
theorem r_fletters (ws : List W) (H : Hw) (Q : KW) (E : EW) (h : p_fletters A ws H Q E) : denB g c_Folk_letters (endOf (frz Q) E) (startW ["self", "letter"] ws) H := by
  obtain ⟨fa, f, rest, rfl, ⟨s, ls, hl, c⟩, hs, hq⟩ := h
  show denB g c_Folk_letters (endOf (frz Q) E) [some (.ref fa), none] H
  unfold c_Folk_letters
  walk_at "n"
  refine comp_all (g := g) (fun x => match x with | .tup [a, b, c, _, _] => .tup [a, b, c] | w => w) (fun p acc hp => ?_) (fun x hx p acc Q hp hQ => ?_) ?_ (newL_frz ?_)
  · haveI : Fresh H p := ⟨hp⟩
    exact At.h
  · obtain ⟨t, _, rfl⟩ := List.mem_map.mp hx
    have eu : t.v = .tup [.str t.body.kind, .int t.src, .int t.dst, .int t.num, t.body.v] := rfl
    rw [eu] at hQ ⊢
    walk_at "x"
    exact ⟨by decide, hQ⟩
  · rw [letters_len]
    exact Nat.le_trans hs (by decide)
  · have e : (lettersW f.sent).map (fun x => match x with | .tup [a, b, c, _, _] => W.tup [a, b, c] | w => w) = trisW f.letters := by
      unfold lettersW trisW Folk.letters
      rw [List.map_map, List.map_map]
      rfl
    rw [e]
    exact hq
/-- what a hand in a list tells -/
def AskRes (A : Str → Addr) (r : Except Refusal (Nat × Hand)) (H : Hw) (E : EW) (K : Hand → Prop) : Prop := match r with
  | .error e => E (A e.name) H
  | .ok (_, h) => K h
def p_flist_of (A : Str → Addr) : SpW := fun ws H Q E => ∃ fa f rest w t, ws = [.ref fa, w] ∧ FolkAt A H fa f rest ∧ f.many = f.hands.length ∧ tyW H w = some t ∧ AskRes A (f.member w) H E fun h => newL (intsW h.members) H fun x H' => Q (.tup [.int h.number, x]) H'
theorem ask {fa : Addr} {f : Folk} {rest : List Cell} {w : W} {t : String} {H : Hw} {Q : KW} {E : EW} {K : Hand → Prop} (m2 : g.mth (A "Folk") "member" (p_member A)) (c : FolkAt A H fa f rest) (hm : f.many = f.hands.length) (ht : tyW H w = some t) (hq : AskRes A (f.member w) H E K)
    (go : ∀ l h R, Cells H (handX (A "Hand") (A "Offer") l h R) → K h → Q (.ref l.a) H) : mtho g H fa "member" (fun sp => sp [.ref fa, w] H Q E) := by
  obtain ⟨s, ls, hl, c⟩ := c
  refine k_member m2 hl hm ht ?_
  cases e1 : f.member w with
  | error er => rw [e1] at hq; exact hq
  | ok ih =>
    obtain ⟨i, h⟩ := ih
    rw [e1] at hq
    obtain ⟨eh, rfl, _⟩ := member_ok e1
    obtain ⟨l, R, el, c2, _⟩ := folk_focus c hl eh
    exact ⟨l, el, go l h _ c2 hq⟩
theorem r_flist_of (m2 : g.mth (A "Folk") "member" (p_member A)) (ws : List W) (H : Hw) (Q : KW) (E : EW) (h : p_flist_of A ws H Q E) : denB g c_Folk_list_of (endOf (frz Q) E) (startW ["self", "hand", "found"] ws) H := by
  obtain ⟨fa, f, rest, w, t, rfl, c, hm, ht, hq⟩ := h
  show denB g c_Folk_list_of (endOf (frz Q) E) [some (.ref fa), some w, none] H
  unfold c_Folk_list_of
  walk_at "n"
  refine ask m2 c hm ht hq fun l h R c2 hq => ?_
  walk_at "n"
  refine newL_imp hq fun x H' hx => ?_
  walk_at "x"
  exact ⟨by decide, hx⟩
def p_ftaken (A : Str → Addr) : SpW := fun ws H Q E => ∃ fa f rest w t, ws = [.ref fa, w] ∧ FolkAt A H fa f rest ∧ f.many = f.hands.length ∧ (∀ h ∈ f.hands, 0 ≤ h.far) ∧ tyW H w = some t ∧ AskRes A (f.member w) H E fun h => newL (msgsW (h.row.take h.far.toNat)) H Q
theorem r_ftaken (m2 : g.mth (A "Folk") "member" (p_member A)) (ws : List W) (H : Hw) (Q : KW) (E : EW) (h : p_ftaken A ws H Q E) : denB g c_Folk_taken (endOf (frz Q) E) (startW ["self", "hand", "found"] ws) H := by
  obtain ⟨fa, f, rest, w, t, rfl, c, hm, hf, ht, hq⟩ := h
  show denB g c_Folk_taken (endOf (frz Q) E) [some (.ref fa), some w, none] H
  unfold c_Folk_taken
  walk_at "n"
  have hq' : AskRes A (f.member w) H E fun h => 0 ≤ h.far ∧ newL (msgsW (h.row.take h.far.toNat)) H Q := by
    cases e1 : f.member w with
    | error er => rw [e1] at hq; exact hq
    | ok ih =>
      obtain ⟨i, h⟩ := ih
      rw [e1] at hq
      exact ⟨hf h (List.mem_of_getElem? (member_ok e1).1), hq⟩
  refine ask m2 c hm ht hq' fun l h R c2 ⟨h0, hq⟩ => ?_
  walk_at "n"
  obtain ⟨n, hn⟩ := Int.eq_ofNat_of_zero_le h0
  rw [hn, cutW_none_take]
  rw [hn] at hq
  have e : (msgsW h.row).take n = msgsW (h.row.take (Int.toNat (n : Int))) := by simp [msgsW, List.map_take]
  rw [e]
  exact newL_frz hq
def p_fstill (A : Str → Addr) : SpW := fun ws H Q E => ∃ fa f rest w t, ws = [.ref fa, w] ∧ FolkAt A H fa f rest ∧ f.many = f.hands.length ∧ tyW H w = some t ∧ AskRes A (f.member w) H E fun h => Q (.bl h.still) H
theorem r_fstill (m2 : g.mth (A "Folk") "member" (p_member A)) (ws : List W) (H : Hw) (Q : KW) (E : EW) (h : p_fstill A ws H Q E) : denB g c_Folk_is_still (endOf (frz Q) E) (startW ["self", "hand"] ws) H := by
  obtain ⟨fa, f, rest, w, t, rfl, c, hm, ht, hq⟩ := h
  show denB g c_Folk_is_still (endOf (frz Q) E) [some (.ref fa), some w] H
  unfold c_Folk_is_still
  walk_at "n"
  refine ask m2 c hm ht hq fun l h R c2 hq => ?_
  walk_at "x"
  exact hq
def witOf (h : Hand) : List Int := match h.news with
  | none => []
  | some n => n.wit
def p_fwitness (A : Str → Addr) : SpW := fun ws H Q E => ∃ fa f rest w t, ws = [.ref fa, w] ∧ FolkAt A H fa f rest ∧ f.many = f.hands.length ∧ tyW H w = some t ∧ AskRes A (f.member w) H E fun h => newL (intsW (witOf h)) H Q
theorem r_fwitness (m2 : g.mth (A "Folk") "member" (p_member A)) (ws : List W) (H : Hw) (Q : KW) (E : EW) (h : p_fwitness A ws H Q E) : denB g c_Folk_witness (endOf (frz Q) E) (startW ["self", "hand", "found"] ws) H := by
  obtain ⟨fa, f, rest, w, t, rfl, c, hm, ht, hq⟩ := h
  show denB g c_Folk_witness (endOf (frz Q) E) [some (.ref fa), some w, none] H
  unfold c_Folk_witness
  walk_at "n"
  refine ask m2 c hm ht hq fun l h R c2 hq => ?_
  unfold witOf at hq
  walk_at "n"
  cases en : h.news with
  | none =>
    simp only [en] at hq ⊢
    walk_at "x"
    exact ⟨Nat.zero_le _, newL_frz hq⟩
  | some n =>
    simp only [en, Option.isNone_some] at hq ⊢
    have ev : newsW (some n) = .tup [.int n.num, .tup (intsW n.hands), .tup (msgsW n.row), .tup (intsW n.wit)] := rfl
    rw [ev]
    walk_at "x"
    exact newL_frz hq
/-- a past, told in lists that stay -/
def pastW (h : Hand) : List W := h.story.map Entry.v
def p_fpast (A : Str → Addr) : SpW := fun ws H Q E => ∃ fa f rest w t, ws = [.ref fa, w] ∧ FolkAt A H fa f rest ∧ f.many = f.hands.length ∧ (∀ h ∈ f.hands, h.story.length < 4000000) ∧ tyW H w = some t ∧ AskRes A (f.one w) H E fun h => newL (storyW h.story) H Q
theorem r_fpast (m1 : g.mth (A "Folk") "one" (p_one A)) (ws : List W) (H : Hw) (Q : KW) (E : EW) (h : p_fpast A ws H Q E) : denB g c_Folk_past (endOf (frz Q) E) (startW ["self", "hand", "entry"] ws) H := by
  obtain ⟨fa, f, rest, w, t, rfl, ⟨s, ls, hl, c⟩, hm, hst, ht, hq⟩ := h
  show denB g c_Folk_past (endOf (frz Q) E) [some (.ref fa), some w, none] H
  unfold c_Folk_past
  walk_at "n"
  refine k_one m1 hl hm ht ?_
  cases e1 : f.one w with
  | error er => rw [e1] at hq; exact hq
  | ok ih =>
    obtain ⟨i, h⟩ := ih
    rw [e1] at hq
    obtain ⟨eh, rfl, _⟩ := one_ok e1
    have hs := hst h (List.mem_of_getElem? eh)
    obtain ⟨l, R, el, c2, _⟩ := folk_focus c hl eh
    clear c
    refine ⟨l, el, ?_⟩
    walk_at "x"
    refine comp_all (g := g) (fun x => x) (fun p acc hp => ?_) (fun x hx p acc Q hp hQ => ?_) ?_ (newL_frz ?_)
    · haveI : Fresh H p := ⟨hp⟩
      exact At.h
    · obtain ⟨en, _, rfl⟩ := List.mem_map.mp hx
      have ev : en.v = .tup [.int en.num, .fls (intsW en.hands), .fls (msgsW en.row)] := rfl
      rw [ev] at hQ ⊢
      walk_at "x"
      refine newF ?_
      walk_at "x"
      refine newF ?_
      walk_at "x"
      exact ⟨by decide, hQ⟩
    · rw [storyW, List.length_map]
      exact Nat.le_trans (Nat.le_of_lt hs) (by decide)
    · rw [List.map_id']
      exact hq
end
end WL

-- mac: p_draw p_is_whole p_enough p_longest h_me h_number h_members h_fell h_said h_story h_news h_row h_far h_still h_ballot h_kept h_has h_offer hs_number hs_members hs_membersN hs_fell hs_said hs_story hs_news hs_row hs_far hs_still hs_ballot hs_kept hs_has hs_offerN hs_keptS hs_newsS of_ballot of_wish of_answers of_value of_yes os_value e_leB e_ltB e_gtB hp_me hp_number hp_members hp_fell hp_said hp_story hp_news hp_row hp_far hp_still hp_ballot hp_kept hp_has hp_offer hq_me op_ballot op_wish op_answers op_value op_yes e_bal0 e_offN e_offS e_eqBal e_neBal e_isVal e_isKept e_isNews ff_many ff_hands ff_sent fp_many fp_sent
/-! ## The folk is made -/
namespace WL
open PySem L2
section
variable {HC OC : Addr}
theorem hsX_perm : ∀ (ls : List HandL) (hs : List Hand) {A B : List Cell}, A.Perm B → (hsX HC OC ls hs A).Perm (hsX HC OC ls hs B)
  | [], _, _, _, p => by unfold hsX; exact p
  | _ :: _, [], _, _, p => by unfold hsX; exact p
  | l :: ls, h :: hs, _, _, p => by
    unfold hsX
    exact handX_perm (hsX_perm ls hs p)
theorem hsX_snoc : ∀ (ls : List HandL) (hs : List Hand) (l : HandL) (h : Hand) (R : List Cell), ls.length = hs.length → (handX HC OC l h (hsX HC OC ls hs R)).Perm (hsX HC OC (ls ++ [l]) (hs ++ [h]) R)
  | [], [], _, _, _, _ => by simp [hsX]
  | [], _ :: _, _, _, _, e => by simp at e
  | _ :: _, [], _, _, _, e => by simp at e
  | x :: ls, y :: hs, l, h, R, e => by
    show (handX HC OC l h (handX HC OC x y (hsX HC OC ls hs R))).Perm (handX HC OC x y (hsX HC OC (ls ++ [l]) (hs ++ [h]) R))
    exact handX_swap.trans (handX_perm (hsX_snoc ls hs l h R (by simpa using e)))
theorem hsX_mem : ∀ (ls : List HandL) (hs : List Hand) {R : List Cell} {x : Cell}, x ∈ R → x ∈ hsX HC OC ls hs R
  | [], _, _, _, h => by unfold hsX; exact h
  | _ :: _, [], _, _, h => by unfold hsX; exact h
  | l :: ls, k :: hs, _, _, h => by
    unfold hsX
    rw [handX_eq]
    exact List.mem_append_right _ (hsX_mem ls hs h)
theorem hsX_push (ls : List HandL) (hs : List Hand) {A R : List Cell} : (A ++ hsX HC OC ls hs R).Perm (hsX HC OC ls hs (A ++ R)) := by
  induction ls generalizing hs with
  | nil => unfold hsX; exact .refl _
  | cons l ls ih =>
    cases hs with
    | nil => unfold hsX; exact .refl _
    | cons h hs =>
      show (A ++ handX HC OC l h (hsX HC OC ls hs R)).Perm (handX HC OC l h (hsX HC OC ls hs (A ++ R)))
      rw [handX_eq l h (hsX HC OC ls hs R), handX_eq l h (hsX HC OC ls hs (A ++ R)), ← List.append_assoc]
      refine (List.Perm.append_right _ List.perm_append_comm).trans ?_
      rw [List.append_assoc]
      exact .append_left _ (ih hs)
end
theorem Cells.frz' {H : Hw} {D : Addr} {o : HW} {L : List Cell} (c : Cells H ((D, o) :: L)) : Cells (delW H D) L := by
  have nd := c.nd
  rw [List.map_cons, List.nodup_cons] at nd
  refine ⟨nd.2, fun x hx => ?_⟩
  have : x.1 ≠ D := fun e => nd.1 (by rw [← e]; exact List.mem_map.mpr ⟨x, hx, rfl⟩)
  rw [delW_ne this]
  exact c.at' x (List.mem_cons_of_mem _ hx)
section
variable {g : Gm} {A : Str → Addr} [HFld g (A "Hand")] [OFld g (A "Offer")] [FFld g (A "Folk")]
/-- the hands are made, one behind another -/
theorem make_hands (mh : g.made "Hand" (A "Hand") (p_Hand (A "Hand") (A "Offer"))) {D : Addr} {σ : Sw} {R : List Cell} {w : W} {ms : List Int} {K : Hw → Prop} (st : Stays w (intsW ms) R) (h2 : σ[2]? = some (some w)) (h3 : σ.length = 4) :
    ∀ (n k : Nat) (ls : List HandL) (hs : List Hand) (H : Hw), ls.length = hs.length → ls.length = k → k + n ≤ 1000 → Cells H (hsX (A "Hand") (A "Offer") ls hs ((D, .lst (ls.map fun l => W.ref l.a)) :: R)) →
      (∀ ls' H', ls'.length = ls.length + n → Cells H' (hsX (A "Hand") (A "Offer") ls' (hs ++ (List.range' k n).map fun (j : Nat) => Hand.init j ms) ((D, .lst (ls'.map fun l => W.ref l.a)) :: R)) → K H') →
      compGo D σ 3 (fun _ => True) (denU g .no) (denE g (.mk "Hand" (.cons (.var 3) (.cons (.var 2) .nil)))) K ((List.range' k n).map fun (j : Nat) => W.int (j : Int)) H := by
  intro n
  induction n with
  | zero =>
    intro k ls hs H hl hk _ c hK
    refine ⟨trivial, hK ls H rfl ?_⟩
    simpa using c
  | succ n ih =>
    intro k ls hs H hl hk hkn c hK
    rw [List.range'_succ]
    refine ⟨trivial, ?_⟩
    walk_at "x"
    obtain ⟨a, b, d, e, rfl⟩ : ∃ a b d e, σ = [a, b, d, e] := by
      match σ, h3 with
      | [a, b, d, e], _ => exact ⟨a, b, d, e, rfl⟩
    simp only [List.getElem?_cons_succ, List.getElem?_cons_zero, Option.some.injEq] at h2
    subst h2
    refine ⟨_, _, mh, ?_⟩
    walk_at "x"
    intro x hx
    have c1 : Cells (updW H x (.ins (A "Hand") [])) ((x, .ins (A "Hand") []) :: hsX (A "Hand") (A "Offer") ls hs ((D, .lst (ls.map fun l => W.ref l.a)) :: R)) := Cells.new' c hx
    refine ⟨x, (k : Int), ms, _, w, rfl, ?_, c1, fun l' H' ea c' => ?_⟩
    · exact st.imp id fun ⟨b, e, hb⟩ => ⟨b, e, hsX_mem ls hs (List.mem_cons_of_mem _ hb)⟩
    subst ea
    refine ⟨rfl, ?_⟩
    have c2 : Cells H' ((D, .lst (ls.map fun l => W.ref l.a)) :: hsX (A "Hand") (A "Offer") (ls ++ [l']) (hs ++ [Hand.init k ms]) R) := by
      refine (c'.perm (hsX_snoc ls hs l' (Hand.init k ms) _ hl)).perm ?_
      exact (hsX_push (A := [(D, .lst (ls.map fun l => W.ref l.a))]) (ls ++ [l']) (hs ++ [Hand.init k ms])).symm
    refine ⟨_, c2.at' _ (List.mem_cons_self ..), ?_, ?_⟩
    · rw [List.length_map]
      exact Nat.lt_of_lt_of_le (by omega : ls.length < 1001) (by decide)
    · have c3 : Cells (updW H' D (.lst ((ls.map fun l => W.ref l.a) ++ [.ref l'.a]))) ((D, .lst ((ls.map fun l => W.ref l.a) ++ [.ref l'.a])) :: hsX (A "Hand") (A "Offer") (ls ++ [l']) (hs ++ [Hand.init k ms]) R) := Cells.upd' (A := []) c2
      rw [show (ls.map fun l => W.ref l.a) ++ [W.ref l'.a] = (ls ++ [l']).map fun l => W.ref l.a from by simp] at c3 ⊢
      refine ih (k + 1) (ls ++ [l']) (hs ++ [Hand.init k ms]) _ (by simp [hl]) (by simp [hk]) (by omega) (c3.perm (hsX_push (A := [(D, _)]) _ _)) fun ls' H2 hl2 c4 => hK ls' H2 (by rw [hl2]; simp; omega) ?_
      rw [List.append_assoc] at c4
      rw [List.range'_succ, List.map_cons]
      exact c4
def p_Folk (A : Str → Addr) : SpW := fun ws H Q E => ∃ x many first rest t ms, ws = [.ref x, many, first] ∧ Cells H ((x, .ins (A "Folk") []) :: rest) ∧ tyW H many = some t ∧
  ((∀ m, many = .int m → m < 1 ∨ 9 < m) ∧ E (A "BadHand") H ∨ ∃ m, many = .int m ∧ 1 ≤ m ∧ m ≤ 9 ∧ ListArg H first m ms ∧
    (ms = none ∧ E (A "BadList") H ∨ ∃ l, ms = some l ∧ Stays first (intsW l) rest ∧ ∀ H', FolkAt A H' x (Folk.init m l) rest → Q .non H'))
theorem r_Folk [Exc g A "BadHand"] [Exc g A "BadList"] (hw : g.fn "is_whole" p_is_whole) (hi : g.fn "is_list" p_is_list) (hM : g.int "MOST" 9) (mh : g.made "Hand" (A "Hand") (p_Hand (A "Hand") (A "Offer"))) (ws : List W) (H : Hw) (Q : KW) (E : EW) (h : p_Folk A ws H Q E) :
    denB g c_Folk_init (endOf (frz Q) E) (startW ["self", "many", "first", "hand"] ws) H := by
  obtain ⟨x, many, first, rest, t, ms, rfl, c, ht, h⟩ := h
  show denB g c_Folk_init (endOf (frz Q) E) [some (.ref x), some many, some first, none] H
  unfold c_Folk_init
  walk_at "n"
  refine ⟨_, hw, ?_⟩
  walk_at "x"
  refine ⟨t, ht, ?_⟩
  have bad : E (A "BadHand") H → ∀ (D : EndW) (σ : Sw), D.ex = (fun C _ H => E C H) → denB g [CS.raise "BadHand"] D σ H := fun hq D σ hD => by
    walk_at "n"
    refine ⟨_, Exc.h (A := A) (x := "BadHand"), ?_⟩
    rw [hD]
    exact hq
  rcases h with ⟨hm, he⟩ | ⟨m, rfl, m1, m9, ⟨tl, htl, harg⟩, h⟩
  · cases many with
    | int m =>
      simp only [isInt]
      walk_at "x"
      by_cases q1 : m < 1
      · simp only [q1, if_true]
        exact bad he _ _ rfl
      · simp only [q1, if_false]
        have q2 : 9 < m := (hm m rfl).resolve_left q1
        refine ⟨9, hM, ?_⟩
        walk_at "x"
        simp only [q2, if_true]
        exact bad he _ _ rfl
    | _ =>
      simp only [isInt]
      walk_at "x"
      exact bad he _ _ rfl
  · have q1 : ¬ m < 1 := by omega
    have q2 : ¬ 9 < m := by omega
    simp only [isInt]
    walk_at "x"
    simp only [q1, if_false]
    refine ⟨9, hM, ?_⟩
    walk_at "x"
    simp only [q2, if_false]
    walk_at "n"
    refine ⟨_, hi, ?_⟩
    walk_at "x"
    have badl : E (A "BadList") H → ∀ (D : EndW) (σ : Sw), D.ex = (fun C _ H => E C H) → denB g [CS.raise "BadList"] D σ H := fun hq D σ hD => by
      walk_at "n"
      refine ⟨_, Exc.h (A := A) (x := "BadList"), ?_⟩
      rw [hD]
      exact hq
    rcases harg with ⟨hn, en⟩ | ⟨xs, rfl, hsq, hld, hd, hdp, hle, ⟨hb, wl, rfl, en⟩ | ⟨hb, en⟩⟩
    · refine ⟨first, m, tl, rfl, htl, .inl ⟨hn, ?_⟩⟩
      rcases h with ⟨_, he⟩ | ⟨l, e, _⟩
      · walk_at "x"
        exact badl he _ _ rfl
      · rw [en] at e; cases e
    · refine ⟨first, m, _, rfl, htl, .inr ⟨_, rfl, hsq, hld, hd, hdp, hle, ?_⟩⟩
      rw [hb]
      rcases h with ⟨e, _⟩ | ⟨l, e, st, hq⟩
      · rw [en] at e; cases e
      · rw [en] at e
        cases e
        walk_at "x"
        walk_at "n"
        haveI c0 : Cells H ((x, .ins (A "Folk") (folkP 0 x [] (Folk.init m wl))) :: rest) := c
        clear c
        walk_at "x"
        walk_at "n"
        refine ⟨by omega, by omega, ?_⟩
        rw [rngW_nat, List.range_eq_range']
        intro D hD
        haveI : Fresh _ D := ⟨hD⟩
        have c1 : Cells (updW (updW H x (.ins (A "Folk") (folkP 1 x [] { Folk.init m wl with many := m }))) D (.lst [])) ((D, .lst []) :: (x, .ins (A "Folk") (folkP 1 x [] { Folk.init m wl with many := m })) :: rest) := inferInstance
        refine make_hands (ms := wl) (R := (x, .ins (A "Folk") (folkP 1 x [] { Folk.init m wl with many := m })) :: rest) mh (st.cons _) rfl rfl m.toNat 0 [] [] _ rfl rfl (by omega) (by exact c1) fun ls H' hl c2 => ?_
        clear c1 this
        refine .inr ⟨_, c2.at' _ (hsX_mem _ _ (List.mem_cons_self ..)), ?_⟩
        have c3 := (c2.perm (hsX_push (A := [(D, _)]) _ _).symm).frz'
        generalize delW H' D = H2 at c3 ⊢
        have c4 : Cells H2 ((x, .ins (A "Folk") (folkP 1 x [] { Folk.init m wl with many := m })) :: hsX (A "Hand") (A "Offer") ls ([] ++ (List.range' 0 m.toNat).map fun (j : Nat) => Hand.init j wl) rest) := c3.perm (hsX_push (A := [(x, _)]) _ _).symm
        have ef : (Folk.init m wl).hands = [] ++ (List.range' 0 m.toNat).map fun (j : Nat) => Hand.init j wl := by
          unfold Folk.init
          rw [List.range_eq_range']
          rfl
        rw [← ef] at c4
        clear c2 c3
        walk_at "x"
        rw [fp_hands (C := A "Folk") (s := x) (ls := []) (f := { Folk.init m wl with many := m }) ls]
        walk_at "n"
        refine ⟨Nat.zero_le _, newR fun p hp => ?_⟩
        haveI : Fresh _ p := ⟨hp⟩
        walk_at "x"
        refine hq _ ⟨p, ls, ?_, ?_⟩
        · simp [Folk.init, hl]
        · exact Cells.perm (L := (p, .lst []) :: (x, .ins (A "Folk") (folkF p ls (Folk.init m wl))) :: hsX (A "Hand") (A "Offer") ls (Folk.init m wl).hands rest) (by exact inferInstance) (.swap ..)
    · refine ⟨first, m, _, rfl, htl, .inr ⟨_, rfl, hsq, hld, hd, hdp, hle, ?_⟩⟩
      rw [hb]
      rcases h with ⟨_, he⟩ | ⟨l, e, _⟩
      · walk_at "x"
        exact badl he _ _ rfl
      · rw [en] at e; cases e
end
end WL

/-! ## The folk as a law uses it, beside the law's ow cells -/
namespace WL
open PySem L2
/-- its exceptions of this class are refusals -/
class ExM (g : Gm) (A : Str → Addr) (x : Str) : Prop where
  h : g.exm (A x) "FolkError" true
class ExMs (g : Gm) (A : Str → Addr) : Prop where
  h : ∀ e : Refusal, g.exm (A e.name) "FolkError" true
instance [ExM g A "BadHand"] [ExM g A "BadList"] [ExM g A "NoLetter"] [ExM g A "Fallen"] [ExM g A "Outside"] [ExM g A "NotFirst"] [ExM g A "NoNews"] : ExMs g A := ⟨fun e => by
  cases e
  · exact ExM.h (A := A) (x := "BadHand")
  · exact ExM.h (A := A) (x := "BadList")
  · exact ExM.h (A := A) (x := "NoLetter")
  · exact ExM.h (A := A) (x := "Fallen")
  · exact ExM.h (A := A) (x := "Outside")
  · exact ExM.h (A := A) (x := "NotFirst")
  · exact ExM.h (A := A) (x := "NoNews")⟩
class FolkC (A : outParam (Str → Addr)) (H : Hw) (fa : outParam Addr) (f : outParam Folk) (ow : outParam (List Cell)) : Prop where
  c : FolkAt A H fa f ow
section
variable {A : Str → Addr} {H : Hw} {fa a p : Addr} {f : Folk} {ow ow' : List Cell} {o o' : HW}
theorem FolkAt.own_at (c : FolkAt A H fa f ow) {x : Cell} (hx : x ∈ ow) : H x.1 = some x.2 := by
  obtain ⟨s, ls, _, c⟩ := c
  exact c.at' x (List.mem_cons_of_mem _ (List.mem_cons_of_mem _ (hsX_mem ls f.hands hx)))
theorem FolkAt.perm (c : FolkAt A H fa f ow) (h : ow.Perm ow') : FolkAt A H fa f ow' := by
  obtain ⟨s, ls, hl, c⟩ := c
  exact ⟨s, ls, hl, c.perm (.cons _ (.cons _ (hsX_perm ls f.hands h)))⟩
theorem FolkAt.pull {x : Cell} (c : FolkAt A H fa f (x :: ow)) : ∃ s ls, ls.length = f.hands.length ∧ Cells H (x :: folkX A fa s ls f ow) := by
  obtain ⟨s, ls, hl, c⟩ := c
  refine ⟨s, ls, hl, c.perm ?_⟩
  have e := hsX_push (HC := A "Hand") (OC := A "Offer") (A := [x]) (R := ow) ls f.hands
  exact (List.Perm.cons _ (.cons _ e.symm)).trans ((List.Perm.cons _ (.swap ..)).trans (.swap ..))
theorem FolkAt.push {x : Cell} {s : Addr} {ls : List HandL} (hl : ls.length = f.hands.length) (c : Cells H (x :: folkX A fa s ls f ow)) : FolkAt A H fa f (x :: ow) := by
  refine ⟨s, ls, hl, c.perm ?_⟩
  have e := hsX_push (HC := A "Hand") (OC := A "Offer") (A := [x]) (R := ow) ls f.hands
  exact ((List.Perm.cons _ (.cons _ e.symm)).trans ((List.Perm.cons _ (.swap ..)).trans (.swap ..))).symm
theorem FolkAt.new (c : FolkAt A H fa f ow) (h : H p = none) : FolkAt A (updW H p o) fa f ((p, o) :: ow) := by
  obtain ⟨s, ls, hl, c⟩ := c
  exact FolkAt.push hl (c.new' h)
theorem FolkAt.upd0 (c : FolkAt A H fa f ((p, o) :: ow)) : FolkAt A (updW H p o') fa f ((p, o') :: ow) := by
  obtain ⟨s, ls, hl, c⟩ := c.pull
  exact FolkAt.push hl (Cells.upd' (A := []) c)
theorem FolkAt.frz (c : FolkAt A H fa f ((p, o) :: ow)) : FolkAt A (delW H p) fa f ow := by
  obtain ⟨s, ls, hl, c⟩ := c.pull
  exact ⟨s, ls, hl, c.frz'⟩
theorem FolkAt.upd (c : FolkAt A H fa f ow) (u : UpdC p o' ow ow') : FolkAt A (updW H p o') fa f ow' := by
  obtain ⟨X, o, Y, rfl, rfl⟩ := u.ok
  have e : ∀ o : HW, (X ++ (p, o) :: Y).Perm ((p, o) :: (X ++ Y)) := fun o => List.perm_middle
  exact ((c.perm (e o)).upd0 (o' := o')).perm (e o').symm
theorem FolkAt.drop0 (c : FolkAt A H fa f ((p, o) :: ow)) : FolkAt A H fa f ow := by
  obtain ⟨s, ls, hl, c⟩ := c.pull
  exact ⟨s, ls, hl, c.sub (List.sublist_cons_self ..)⟩
instance At.own [c : FolkC A H fa f ow] [i : InC a o ow] : At H a o := ⟨c.c.own_at i.mem⟩
instance FolkC.upd [c : FolkC A H fa f ow] [u : UpdC a o' ow ow'] : FolkC A (updW H a o') fa f ow' := ⟨c.c.upd u⟩
instance (priority := low) FolkC.new [c : FolkC A H fa f ow] [h : Fresh H a] : FolkC A (updW H a o) fa f ((a, o) :: ow) := ⟨c.c.new h.h⟩
/-- a deed of the folk is called -/
theorem u_mth {g : Gm} {m : Str} {sp : SpW} {K : SpW → Prop} (hm : g.mth (A "Folk") m sp) (hn : ∀ s ls f, (folkF s ls f).lookup m = none) (c : FolkAt A H fa f ow) (q : K sp) : mtho g H fa m K := by
  obtain ⟨s, ls, hl, c⟩ := c
  haveI := c
  exact mtho_of (C := A "Folk") (fs := folkF s ls f) hm (hn s ls f) q
end
end WL

/-! ## What holds of the folk at all times: kinds, ranges, weights -/
namespace WL
open PySem L2

/-- numbers of hands, rising -/
structure Rise (m : Nat) (l : List Int) : Prop where
  up : l.Pairwise (· < ·)
  rg : ∀ x ∈ l, 0 ≤ x ∧ x < m
/-- numbers of hands, each once -/
structure Once (m : Nat) (l : List Int) : Prop where
  nd : l.Nodup
  rg : ∀ x ∈ l, 0 ≤ x ∧ x < m
def Words (l : List Msg) : Prop := ∀ x ∈ l, PyData.strOk x.w = true
theorem Once.len : ∀ {m : Nat} {l : List Int}, Once m l → l.length ≤ m
  | 0, [], _ => Nat.le_refl _
  | 0, x :: _, h => by
    have := h.rg x (List.mem_cons_self ..)
    omega
  | m + 1, l, h => by
    have e : (l.erase (m : Int)).length ≤ m := Once.len ⟨h.nd.erase _, fun x hx => by
      have hm := (h.nd.mem_erase_iff).mp hx
      have := h.rg x hm.2
      have := hm.1
      omega⟩
    by_cases q : (m : Int) ∈ l
    · rw [List.length_erase_of_mem q] at e
      omega
    · rw [List.erase_of_not_mem q] at e
      omega
theorem Rise.once {m : Nat} {l : List Int} (h : Rise m l) : Once m l := ⟨h.up.imp fun q => by omega, h.rg⟩
theorem Rise.len {m : Nat} {l : List Int} (h : Rise m l) : l.length ≤ m := h.once.len
structure VS (m : Nat) (v : Val) : Prop where
  hands : Rise m v.hands
  words : Words v.row
def KS (m : Nat) : Kept → Prop
  | none => True
  | some (_, v) => VS m v
structure NS (m : Nat) (n : News) : Prop where
  hands : Rise m n.hands
  words : Words n.row
def BS (m : Nat) : Body → Prop
  | .wish x => PyData.strOk x.w = true
  | .hold _ x => PyData.strOk x.w = true
  | .have' _ => True
  | .take _ => True
  | .prepare _ => True
  | .promise _ r k => Words r ∧ KS m k
  | .accept _ v => VS m v
  | .agree _ => True
  | .enter n => NS m n
structure LS (m : Nat) (t : Letter) : Prop where
  src : 0 ≤ t.src ∧ t.src < m
  dst : 0 ≤ t.dst ∧ t.dst < m
  body : BS m t.body
structure OS (m : Nat) (f : Off) : Prop where
  wish : Rise m f.wish
  keys : Once m (f.answers.map (·.1))
  ans : ∀ a ∈ f.answers, Words a.2.row ∧ KS m a.2.kept
  yes : Once m f.yes
  val : ∀ v, f.value = some v → VS m v
structure HS (m : Nat) (h : Hand) : Prop where
  me : 0 ≤ h.me ∧ h.me < m
  mem : Rise m h.members
  words : Words h.row
  kept : KS m h.kept
  has : Once m (h.has.map (·.1))
  far : 0 ≤ h.far
  off : ∀ f, h.offer = some f → OS m f
  news : ∀ n, h.news = some n → NS m n
  story : ∀ e ∈ h.story, Words e.row
structure FS (f : Folk) : Prop where
  many : f.many = f.hands.length
  m9 : f.hands.length ≤ 9
  me : ∀ (i : Nat) (h : Hand), f.hands[i]? = some h → h.me = i
  hs : ∀ h ∈ f.hands, HS f.hands.length h
  ls : ∀ t ∈ f.sent, LS f.hands.length t

/-! ### weights -/
def Body.wt : Body → Nat
  | .wish _ => 109
  | .hold _ _ => 11
  | .have' _ => 10
  | .take _ => 1
  | .prepare _ => 101
  | .promise _ _ _ => 100
  | .accept _ _ => 11
  | .agree _ => 10
  | .enter _ => 1
def wts (l : List Letter) : Nat := (l.map fun t => t.body.wt).sum
theorem wts_append (a b : List Letter) : wts (a ++ b) = wts a + wts b := by simp [wts]
theorem wts_ltrs (h : Hand) (ts : List Int) (b : Body) : wts (h.ltrs ts b) = ts.length * b.wt := by
  unfold wts Hand.ltrs
  rw [List.map_map]
  induction ts with
  | nil => simp
  | cons x xs ih =>
    simp only [List.map_cons, List.sum_cons, List.length_cons, ih, Function.comp]
    rw [Nat.succ_mul]
    omega
theorem wts_len (l : List Letter) : l.length ≤ wts l := by
  induction l with
  | nil => exact Nat.le_refl _
  | cons x xs ih =>
    have : 1 ≤ x.body.wt := by cases x.body <;> simp [Body.wt]
    simp only [wts, List.map_cons, List.sum_cons, List.length_cons] at ih ⊢
    omega
theorem wts_erase {l : List Letter} {p : Nat} {t : Letter} (h : l[p]? = some t) : wts (l.eraseIdx p) + t.body.wt = wts l := by
  induction l generalizing p with
  | nil => simp at h
  | cons x xs ih =>
    cases p with
    | zero =>
      simp at h
      subst h
      simp [wts]
      omega
    | succ p =>
      have := ih (by simpa using h)
      simp only [wts, List.eraseIdx_cons_succ, List.map_cons, List.sum_cons] at this ⊢
      omega
/-- what a hand sends is sound, and lighter than what came -/
structure GS (m : Nat) (h : Hand) (w : Nat) (x : Hand × List Letter) : Prop where
  hs : HS m x.1
  me : x.1.me = h.me
  ls : ∀ t ∈ x.2, LS m t
  wt : wts x.2 + 1 ≤ w
  row : x.1.row.length ≤ h.row.length + 1
  story : x.1.story.length ≤ h.story.length + 1
theorem HS.ltrs {m : Nat} {h : Hand} (s : HS m h) {ts : List Int} {b : Body} (r : ∀ x ∈ ts, 0 ≤ x ∧ x < (m : Int)) (hb : BS m b) : ∀ t ∈ h.ltrs ts b, LS m t := fun t ht => by
  obtain ⟨x, hx, rfl⟩ := List.mem_map.mp ht
  exact ⟨s.me, r x hx, hb⟩
theorem GS.quiet {m : Nat} {h : Hand} {w : Nat} (s : HS m h) (hw : 1 ≤ w) : GS m h w (h, []) := ⟨s, rfl, (fun _ h => by cases h), hw, Nat.le_succ _, Nat.le_succ _⟩
theorem others_rg {m : Nat} {h : Hand} (s : HS m h) : ∀ x ∈ h.others, 0 ≤ x ∧ x < (m : Int) := fun x hx => s.mem.rg x (List.mem_filter.mp hx).1
theorem others_len9 {m : Nat} {h : Hand} (s : HS m h) (m9 : m ≤ 9) : h.others.length ≤ 9 := Nat.le_trans others_len (Nat.le_trans s.mem.len m9)
theorem settled_sound {m : Nat} {h : Hand} (s : HS m h) (m9 : m ≤ 9) : HS m h.settled.1 ∧ h.settled.1.me = h.me ∧ (∀ t ∈ h.settled.2, LS m t) ∧ wts h.settled.2 ≤ 9 ∧ h.settled.1.row = h.row ∧ h.settled.1.story = h.story := by
  unfold Hand.settled
  split
  · exact ⟨s, rfl, (fun _ h => by cases h), Nat.zero_le _, rfl, rfl⟩
  · rename_i q
    refine ⟨⟨s.me, s.mem, s.words, s.kept, s.has, ?_, s.off, s.news, s.story⟩, rfl, s.ltrs (others_rg s) trivial, ?_, rfl, rfl⟩
    · show 0 ≤ h.count
      have := s.far
      omega
    · rw [wts_ltrs]
      have := others_len9 s m9
      simp [Body.wt]
      omega
theorem words_snoc {l : List Msg} {x : Msg} (h : Words l) (k : PyData.strOk x.w = true) : Words (l ++ [x]) := fun y hy => by
  rcases List.mem_append.mp hy with q | q
  · exact h y q
  · rw [List.mem_singleton] at q
    rw [q]
    exact k
theorem putA_keys {α : Type} {l : List (Int × α)} {x : Int} {v : α} {m : Nat} (h : Once m (l.map (·.1))) (hx : 0 ≤ x ∧ x < (m : Int)) : Once m ((putA l x v).map (·.1)) := by
  unfold putA
  split
  · have e : ((l.map fun kv => if kv.1 = x then (kv.1, v) else kv).map (·.1)) = l.map (·.1) := by
      rw [List.map_map]
      apply List.map_congr_left
      intro y _
      by_cases q : y.1 = x <;> simp [q]
    rw [e]
    exact h
  · rename_i q
    have hn : x ∉ l.map (·.1) := fun hm => q (by
      obtain ⟨y, hy, e⟩ := List.mem_map.mp hm
      exact List.any_eq_true.mpr ⟨y, hy, by simpa using e⟩)
    rw [List.map_append]
    refine ⟨?_, fun y hy => ?_⟩
    · rw [List.nodup_append]
      exact ⟨h.nd, by simp, fun a ha b hb e => hn (by simp at hb; rw [← hb, ← e]; exact ha)⟩
    · rcases List.mem_append.mp hy with z | z
      · exact h.rg y z
      · simp at z
        rw [z]
        exact hx
end WL

/-! ## Any letter keeps a hand sound -/
namespace WL
open PySem L2
theorem longest_words {m : Nat} : ∀ (rows : List (List Msg)) (f : List Msg), Words f → (∀ r ∈ rows, Words r) → Words (longestGo f rows)
  | [], _, h, _ => h
  | r :: rs, f, h, k => by
    rw [longestGo]
    split
    · exact longest_words (m := m) rs r (k r (List.mem_cons_self ..)) fun x hx => k x (List.mem_cons_of_mem _ hx)
    · exact longest_words (m := m) rs f h fun x hx => k x (List.mem_cons_of_mem _ hx)
theorem getK_in {α : Type} {l : List (Int × α)} {k : Int} {a : α} (h : getK l k = some a) : (k, a) ∈ l := by
  unfold getK at h
  rw [Option.map_eq_some_iff] at h
  obtain ⟨y, hy, e⟩ := h
  have h1 := List.mem_of_find?_eq_some hy
  have h2 := List.find?_some hy
  simp at h2
  rw [← h2, ← e]
  exact h1
theorem pickGo_sound {m : Nat} {as : List (Int × Ans)} (ha : ∀ a ∈ as, KS m a.2.kept) : ∀ (ks : List Int) (best : Bal) (v : Val), VS m v → VS m (Hand.pickGo as ks best v)
  | [], _, _, h => h
  | k :: ks, best, v, h => by
    unfold Hand.pickGo
    cases e : (getK as k).bind (·.kept) with
    | none => exact pickGo_sound ha ks best v h
    | some x =>
      obtain ⟨kb, kv⟩ := x
      simp only []
      split
      · refine pickGo_sound ha ks kb kv ?_
        rw [Option.bind_eq_some_iff] at e
        obtain ⟨a, ea, ek⟩ := e
        have := ha _ (getK_in ea)
        rw [show (k, a).2.kept = a.kept from rfl, ek] at this
        exact this
      · exact pickGo_sound ha ks best v h
theorem pick_sound {m : Nat} {f : Off} (s : OS m f) : VS m (Hand.pick f) := by
  unfold Hand.pick
  refine pickGo_sound (fun a ha => (s.ans a ha).2) _ _ _ ⟨s.wish, ?_⟩
  refine longest_words (m := m) _ [] (fun _ h => by cases h) fun r hr => ?_
  obtain ⟨k, _, rfl⟩ := List.mem_map.mp hr
  cases e : getK f.answers k with
  | none => exact fun _ h => by cases h
  | some a => exact (s.ans _ (getK_in e)).1
theorem told_mem {ms ws : List Int} {x : Int} (h : x ∈ Hand.told ms ws) : x ∈ ms ∨ x ∈ ws := by
  unfold Hand.told at h
  have := (List.mem_filter.mp h).2
  simpa using this
theorem told_once {m : Nat} {ms ws : List Int} (h : Rise m ms) (k : Rise m ws) : Once m (Hand.told ms ws) := by
  refine ⟨?_, fun x hx => (told_mem hx).elim (h.rg x) (k.rg x)⟩
  unfold Hand.told
  refine List.nodup_iff_pairwise_ne.mpr (List.Pairwise.filter _ ?_)
  rw [List.pairwise_map]
  exact (List.nodup_iff_pairwise_ne.mp List.nodup_range).imp fun h e => h (by omega)
theorem HS.entered {m : Nat} {h : Hand} (s : HS m h) {n : News} (hn : NS m n) : HS m (h.entered n) ∧ (h.entered n).me = h.me ∧ (h.entered n).row.length ≤ h.row.length ∧ (h.entered n).story.length ≤ h.story.length + 1 := by
  unfold Hand.entered
  split
  · unfold Hand.enter Hand.begin'
    refine ⟨⟨s.me, ?_, (fun _ h => by cases h), trivial, ⟨List.nodup_nil, fun _ h => by cases h⟩, Int.le_refl _, (fun _ h => by cases h), ?_, ?_⟩, rfl, Nat.zero_le _, ?_⟩
    · simp only []
      split
      · exact hn.hands
      · exact ⟨.nil, fun _ h => by cases h⟩
    · intro k e
      cases e
      exact hn
    · simp only []
      split
      · intro e he
        rcases List.mem_append.mp he with q | q
        · exact s.story e q
        · rw [List.mem_singleton] at q
          rw [q]
          exact hn.words
      · exact s.story
    · simp only []
      split
      · simp
      · omega
  · exact ⟨s, rfl, Nat.le_refl _, Nat.le_succ _⟩
theorem got_sound {m : Nat} (m9 : m ≤ 9) {h : Hand} (s : HS m h) {t : Letter} (l : LS m t) : GS m h t.body.wt (h.got t) := by
  have w1 : 1 ≤ t.body.wt := by cases t.body <;> simp [Body.wt]
  by_cases hk : ∃ n, t.body = .enter n
  · obtain ⟨n, hb⟩ := hk
    have e : h.got t = (h.entered n, []) := by unfold Hand.got; rw [hb]
    have hn : NS m n := by have := l.body; rw [hb] at this; exact this
    rw [e]
    obtain ⟨h1, h2, h3, h4⟩ := s.entered hn
    exact ⟨h1, h2, (fun _ h => by cases h), w1, Nat.le_succ_of_le h3, h4⟩
  have he : ∀ n, t.body ≠ .enter n := fun n e => hk ⟨n, e⟩
  by_cases hc : h.within = false ∨ t.num ≠ h.number
  · rw [got_cold he hc]
    exact .quiet s w1
  have hw : h.within = true := by
    cases e : h.within with
    | true => rfl
    | false => exact absurd (.inl e) hc
  have hn : t.num = h.number := Classical.byContradiction fun e => hc (.inr e)
  rw [got_warm he hw hn]
  have o9 := others_len9 s m9
  have mem9 : h.members.length ≤ 9 := Nat.le_trans s.mem.len m9
  have lb := l.body
  have srcs : ∀ x ∈ [t.src], 0 ≤ x ∧ x < (m : Int) := fun x hx => by rw [List.mem_singleton] at hx; rw [hx]; exact l.src
  cases hb : t.body with
  | enter n => exact absurd hb (he n)
  | wish x =>
    rw [hb] at lb
    simp only [warmB]
    unfold Hand.wished
    split
    · exact .quiet s (by simp [Body.wt])
    · have s1 : HS m { h with row := h.row ++ [x] } := ⟨s.me, s.mem, words_snoc s.words lb, s.kept, s.has, s.far, s.off, s.news, s.story⟩
      obtain ⟨a1, a2, a3, a4, a5, a6⟩ := settled_sound s1 m9
      refine ⟨a1, a2, fun u hu => ?_, ?_, ?_, ?_⟩
      · rcases List.mem_append.mp hu with q | q
        · exact s.ltrs (b := .hold h.row.length x) (others_rg s) lb u q
        · exact a3 u q
      · simp only [wts_append, wts_ltrs]
        simp [Body.wt]
        omega
      · simp only [a5]; simp
      · simp only [a6]; omega
  | hold p x =>
    rw [hb] at lb
    simp only [warmB]
    unfold Hand.holds
    split
    · exact .quiet s (by simp [Body.wt])
    · simp only []
      have s1 : HS m { h with row := h.row ++ [x] } := ⟨s.me, s.mem, words_snoc s.words lb, s.kept, s.has, s.far, s.off, s.news, s.story⟩
      split
      · exact ⟨s1, rfl, s.ltrs srcs trivial, by rw [wts_ltrs]; simp [Body.wt], by simp, Nat.le_succ _⟩
      · exact ⟨s, rfl, s.ltrs srcs trivial, by rw [wts_ltrs]; simp [Body.wt], Nat.le_succ _, Nat.le_succ _⟩
  | have' n =>
    simp only [warmB]
    unfold Hand.heard
    have s1 : HS m { h with has := putA h.has t.src (max ((getK h.has t.src).getD 0) n) } := ⟨s.me, s.mem, s.words, s.kept, putA_keys s.has l.src, s.far, s.off, s.news, s.story⟩
    obtain ⟨a1, a2, a3, a4, a5, a6⟩ := settled_sound s1 m9
    exact ⟨a1, a2, a3, by simp only [Body.wt]; omega, by rw [a5]; exact Nat.le_succ _, by rw [a6]; exact Nat.le_succ _⟩
  | take n =>
    simp only [warmB]
    refine ⟨⟨s.me, s.mem, s.words, s.kept, s.has, ?_, s.off, s.news, s.story⟩, rfl, (fun _ h => by cases h), by simp [wts, Body.wt], Nat.le_succ _, Nat.le_succ _⟩
    show 0 ≤ max h.far (min n h.row.length)
    have := s.far
    omega
  | prepare b =>
    simp only [warmB]
    unfold Hand.prepared
    split
    · exact .quiet s (by simp [Body.wt])
    · exact ⟨⟨s.me, s.mem, s.words, s.kept, s.has, s.far, s.off, s.news, s.story⟩, rfl, s.ltrs srcs ⟨s.words, s.kept⟩, by rw [wts_ltrs]; simp [Body.wt], Nat.le_succ _, Nat.le_succ _⟩
  | promise b r k =>
    rw [hb] at lb
    simp only [warmB]
    unfold Hand.promised
    split
    · exact .quiet s (by simp [Body.wt])
    · rename_i f ef
      have os := s.off f ef
      split
      · exact .quiet s (by simp [Body.wt])
      · rename_i q
        simp only []
        have hsrc : t.src ∉ f.answers.map (·.1) := fun z => q (.inr (.inr z))
        have os1 : OS m { f with answers := f.answers ++ [(t.src, ⟨b, r, k⟩)] } := by
          refine ⟨os.wish, ?_, fun a ha => ?_, os.yes, os.val⟩
          · rw [List.map_append]
            refine ⟨?_, fun y hy => ?_⟩
            · rw [List.nodup_append]
              exact ⟨os.keys.nd, by simp, fun a ha c hc e => hsrc (by simp at hc; rw [← hc, ← e]; exact ha)⟩
            · rcases List.mem_append.mp hy with z | z
              · exact os.keys.rg y z
              · simp at z
                rw [z]
                exact l.src
          · rcases List.mem_append.mp ha with z | z
            · exact os.ans a z
            · rw [List.mem_singleton] at z
              rw [z]
              exact lb
        split
        · exact ⟨⟨s.me, s.mem, s.words, s.kept, s.has, s.far, (fun g e => by cases e; exact os1), s.news, s.story⟩, rfl, (fun _ h => by cases h), by simp [wts, Body.wt], Nat.le_succ _, Nat.le_succ _⟩
        · have pv := pick_sound os1
          refine ⟨⟨s.me, s.mem, s.words, s.kept, s.has, s.far, (fun g e => by cases e; exact ⟨os1.wish, os1.keys, os1.ans, os1.yes, fun v e => by cases e; exact pv⟩), s.news, s.story⟩, rfl, s.ltrs s.mem.rg pv, ?_, Nat.le_succ _, Nat.le_succ _⟩
          rw [wts_ltrs]
          simp only [Body.wt]
          omega
  | accept b v =>
    rw [hb] at lb
    simp only [warmB]
    unfold Hand.accepted
    split
    · exact .quiet s (by simp [Body.wt])
    · exact ⟨⟨s.me, s.mem, s.words, lb, s.has, s.far, s.off, s.news, s.story⟩, rfl, s.ltrs srcs trivial, by rw [wts_ltrs]; simp [Body.wt], Nat.le_succ _, Nat.le_succ _⟩
  | agree b =>
    simp only [warmB]
    unfold Hand.agreed
    split
    · exact .quiet s (by simp [Body.wt])
    · rename_i f ef
      have os := s.off f ef
      split
      · exact .quiet s (by simp [Body.wt])
      · rename_i v ev
        have vs := os.val v ev
        split
        · exact .quiet s (by simp [Body.wt])
        · rename_i q
          simp only []
          have hsrc : t.src ∉ f.yes := fun z => q (.inr z)
          have os1 : OS m { f with yes := f.yes ++ [t.src] } := by
            refine ⟨os.wish, os.keys, os.ans, ?_, os.val⟩
            refine ⟨?_, fun y hy => ?_⟩
            · rw [List.nodup_append]
              exact ⟨os.yes.nd, by simp, fun a ha c hc e => hsrc (by simp at hc; rw [← hc, ← e]; exact ha)⟩
            · rcases List.mem_append.mp hy with z | z
              · exact os.yes.rg y z
              · simp at z
                rw [z]
                exact l.src
          have s1 : HS m { h with offer := some { f with yes := f.yes ++ [t.src] } } := ⟨s.me, s.mem, s.words, s.kept, s.has, s.far, (fun g e => by cases e; exact os1), s.news, s.story⟩
          split
          · exact ⟨s1, rfl, (fun _ h => by cases h), by simp [wts, Body.wt], Nat.le_succ _, Nat.le_succ _⟩
          · have to := told_once s.mem vs.hands
            refine ⟨s1, rfl, s.ltrs to.rg ⟨vs.hands, vs.words⟩, ?_, Nat.le_succ _, Nat.le_succ _⟩
            rw [wts_ltrs]
            have := to.len
            simp only [Body.wt]
            omega
end WL

/-! ## The folk stays sound; all letters come -/
namespace WL
open PySem L2
structure Bd (f : Folk) (b : Nat) : Prop where
  wt : wts f.sent ≤ b
  row : ∀ h ∈ f.hands, h.row.length + wts f.sent ≤ b
  story : ∀ h ∈ f.hands, h.story.length + wts f.sent ≤ b
theorem BS.ok {m : Nat} {b : Body} (h : BS m b) : b.ok := by
  cases b with
  | wish x => exact h
  | hold p x => exact h
  | have' n => trivial
  | take n => trivial
  | prepare b => trivial
  | promise b r k =>
    refine ⟨h.1, ?_⟩
    cases k with
    | none => trivial
    | some x => exact VS.words h.2
  | accept b v => exact VS.words h
  | agree b => trivial
  | enter n => exact NS.words h
theorem FS.handOk {f : Folk} (s : FS f) {h : Hand} (hh : h ∈ f.hands) (hr : h.row.length < 4000000) (hs : h.story.length < 4000000) : HandOk h := by
  have q := s.hs h hh
  have m9 := s.m9
  refine ⟨q.mem.up, Nat.le_trans q.mem.len m9, hr, q.words, ?_, hs, fun g e => ?_⟩
  · have := q.has.len
    rw [List.length_map] at this
    omega
  · have o := q.off g e
    have k1 := o.keys.len
    have k2 := o.yes.len
    rw [List.length_map] at k1
    omega
theorem FS.gotOk {f : Folk} (s : FS f) {h : Hand} (hh : h ∈ f.hands) (ok : HandOk h) {t : Letter} (ht : t ∈ f.sent) : GotOk h t := by
  have m9 := s.m9
  refine ⟨ok, fun x e => ?_, fun g v e1 e2 => ?_⟩
  · have := (s.ls t ht).body
    rw [e] at this
    exact this
  · have vs := ((s.hs h hh).off g e1).val v e2
    refine ⟨by have := vs.hands.len; omega, fun x hx => ?_⟩
    rcases List.mem_append.mp hx with z | z
    · have := (s.hs h hh).mem.rg x z
      omega
    · have := vs.hands.rg x z
      omega
theorem FS.ok' {f : Folk} (s : FS f) (hr : ∀ h ∈ f.hands, h.row.length < 1000000) (hst : ∀ h ∈ f.hands, h.story.length < 1000000) (hw : f.sent.length ≤ 6000000) : FolkOk f := by
  have hk : ∀ h ∈ f.hands, HandOk h := fun h hh => s.handOk hh (by have := hr h hh; omega) (by have := hst h hh; omega)
  exact ⟨s.many, s.m9, s.me, hk, hr, fun h hh => (s.hs h hh).far, hw, fun t ht => (s.ls t ht).dst, fun t ht h hh => s.gotOk hh (hk h hh) ht, fun t ht => (s.ls t ht).body.ok⟩
theorem FS.ok {f : Folk} {b : Nat} (s : FS f) (d : Bd f b) (hb : b ≤ 900000) : FolkOk f :=
  s.ok' (fun h hh => by have := d.row h hh; omega) (fun h hh => by have := d.story h hh; omega) (by have := wts_len f.sent; have := d.wt; omega)
/-- a hand does something -/
theorem FS.put {f : Folk} (s : FS f) {i : Nat} {h : Hand} (e : f.hands[i]? = some h) {x : Hand × List Letter} (hx : HS f.hands.length x.1) (hm : x.1.me = h.me) (hl : ∀ t ∈ x.2, LS f.hands.length t) : FS (f.put i x) := by
  have el : (f.put i x).hands.length = f.hands.length := List.length_set
  refine ⟨by rw [el]; exact s.many, by rw [el]; exact s.m9, fun j k ek => ?_, fun k hk => ?_, fun t ht => ?_⟩
  · have ek : (f.hands.set i x.1)[j]? = some k := ek
    rw [List.getElem?_set] at ek
    split at ek
    · rename_i q
      split at ek
      · cases ek
        rw [hm, s.me i h e, q]
      · cases ek
    · exact s.me j k ek
  · rw [el]
    rcases List.mem_or_eq_of_mem_set hk with z | z
    · exact s.hs k z
    · rw [z]
      exact hx
  · rw [el]
    rcases List.mem_append.mp (show t ∈ f.sent ++ x.2 from ht) with z | z
    · exact s.ls t z
    · exact hl t z
theorem FS.erase {f : Folk} (s : FS f) (p : Nat) : FS { f with sent := f.sent.eraseIdx p } := ⟨s.many, s.m9, s.me, s.hs, fun t ht => s.ls t (List.mem_of_mem_eraseIdx ht)⟩
theorem Bd.put {f : Folk} {b : Nat} (d : Bd f b) {i : Nat} {h : Hand} (e : f.hands[i]? = some h) {x : Hand × List Letter} {c : Nat} (hr : x.1.row.length ≤ h.row.length + 1) (hs : x.1.story.length ≤ h.story.length + 1) (hw : wts x.2 + 1 ≤ c) : Bd (f.put i x) (b + c) := by
  have ew : wts (f.put i x).sent = wts f.sent + wts x.2 := wts_append ..
  refine ⟨by rw [ew]; have := d.wt; omega, fun k hk => ?_, fun k hk => ?_⟩
  · rw [ew]
    rcases List.mem_or_eq_of_mem_set hk with z | z
    · have := d.row k z; omega
    · rw [z]; have := d.row h (List.mem_of_getElem? e); omega
  · rw [ew]
    rcases List.mem_or_eq_of_mem_set hk with z | z
    · have := d.story k z; omega
    · rw [z]; have := d.story h (List.mem_of_getElem? e); omega
theorem Bd.mono {f : Folk} {b c : Nat} (d : Bd f b) (h : b ≤ c) : Bd f c := ⟨Nat.le_trans d.wt h, fun k hk => Nat.le_trans (d.row k hk) h, fun k hk => Nat.le_trans (d.story k hk) h⟩
/-- the hand that a letter is for -/
theorem FS.target {f : Folk} (s : FS f) {t : Letter} (ht : t ∈ f.sent) : ∃ h, f.hands[t.dst.toNat]? = some h := by
  have := (s.ls t ht).dst
  exact ⟨f.hands[t.dst.toNat]'(by omega), List.getElem?_eq_getElem (by omega)⟩
theorem comeAt_eq {f : Folk} {p : Nat} {t : Letter} {h : Hand} (ht : f.sent[p]? = some t) (eh : f.hands[t.dst.toNat]? = some h) :
    f.comeAt p = if h.fell = true then { f with sent := f.sent.eraseIdx p } else ({ f with sent := f.sent.eraseIdx p } : Folk).put t.dst.toNat (h.got t) := by
  unfold Folk.comeAt
  rw [ht]
  simp only [eh]
theorem FS.comeAt {f : Folk} (s : FS f) {p : Nat} (hp : p < f.sent.length) : FS (f.comeAt p) ∧ wts (f.comeAt p).sent + 1 ≤ wts f.sent ∧ ∀ b, Bd f b → Bd (f.comeAt p) b := by
  have ht : f.sent[p]? = some f.sent[p] := List.getElem?_eq_getElem hp
  generalize f.sent[p] = t at ht
  have htm : t ∈ f.sent := List.mem_of_getElem? ht
  obtain ⟨h, eh⟩ := s.target htm
  have hh := List.mem_of_getElem? eh
  have we := wts_erase ht
  have w1 : 1 ≤ t.body.wt := by cases t.body <;> simp [Body.wt]
  rw [comeAt_eq ht eh]
  have s1 := s.erase p
  split
  · refine ⟨s1, by show wts (f.sent.eraseIdx p) + 1 ≤ _; omega, fun b d => ⟨?_, fun k hk => ?_, fun k hk => ?_⟩⟩
    · show wts (f.sent.eraseIdx p) ≤ b
      have := d.wt; omega
    · show k.row.length + wts (f.sent.eraseIdx p) ≤ b
      have := d.row k hk; omega
    · show k.story.length + wts (f.sent.eraseIdx p) ≤ b
      have := d.story k hk; omega
  · have g := got_sound s.m9 (s.hs h hh) (s.ls t htm)
    have ew : wts (({ f with sent := f.sent.eraseIdx p } : Folk).put t.dst.toNat (h.got t)).sent = wts (f.sent.eraseIdx p) + wts (h.got t).2 := wts_append ..
    have gw := g.wt
    have gr := g.row
    have gs := g.story
    refine ⟨s1.put (f := { f with sent := f.sent.eraseIdx p }) eh g.hs g.me g.ls, by rw [ew]; omega, fun b d => ⟨?_, fun k hk => ?_, fun k hk => ?_⟩⟩
    · rw [ew]; have := d.wt; omega
    · rw [ew]
      rcases List.mem_or_eq_of_mem_set hk with z | z
      · have := d.row k z; omega
      · rw [z]; have := d.row h hh; omega
    · rw [ew]
      rcases List.mem_or_eq_of_mem_set hk with z | z
      · have := d.story k z; omega
      · rw [z]; have := d.story h hh; omega
theorem comes_add (f : Folk) : ∀ (j k : Nat), f.comes (j + k) = (f.comes j).comes k := by
  intro j
  induction j generalizing f with
  | zero => intro k; rw [Nat.zero_add]; rfl
  | succ j ih =>
    intro k
    rw [show j + 1 + k = (j + k) + 1 from by omega]
    exact ih (f.comeAt 0) k
/-- all letters come: some time none is left; what each coming keeps, holds then -/
theorem calm_runs (I : Folk → Prop) (hI : ∀ f, I f → FS f → f.sent ≠ [] → I (f.comeAt 0)) : ∀ (w : Nat) (f : Folk), wts f.sent ≤ w → I f → FS f →
    ∃ n, n ≤ w ∧ (∀ k, k < n → I (f.comes k) ∧ FS (f.comes k) ∧ (f.comes k).sent ≠ [] ∧ ∀ b, Bd f b → Bd (f.comes k) b) ∧ (f.comes n).sent = [] ∧ I (f.comes n) ∧ FS (f.comes n) ∧ ∀ b, Bd f b → Bd (f.comes n) b := by
  intro w
  induction w with
  | zero =>
    intro f hw i s
    have : f.sent = [] := List.length_eq_zero_iff.mp (by have := wts_len f.sent; omega)
    exact ⟨0, Nat.le_refl _, fun k hk => by omega, this, i, s, fun _ d => d⟩
  | succ w ih =>
    intro f hw i s
    by_cases q : f.sent = []
    · exact ⟨0, Nat.zero_le _, fun k hk => by omega, q, i, s, fun _ d => d⟩
    · have hp : 0 < f.sent.length := List.length_pos_iff.mpr q
      obtain ⟨s1, w1, d1⟩ := s.comeAt hp
      obtain ⟨n, hn, hk, he, hi, hs, hd⟩ := ih (f.comeAt 0) (by omega) (hI f i s q) s1
      refine ⟨n + 1, by omega, fun k hkk => ?_, he, hi, hs, fun b d => hd b (d1 b d)⟩
      cases k with
      | zero => exact ⟨i, s, q, fun _ d => d⟩
      | succ k =>
        obtain ⟨a1, a2, a3, a4⟩ := hk k (by omega)
        exact ⟨a1, a2, a3, fun b d => a4 b (d1 b d)⟩
end WL

/-! ## Each deed keeps the folk sound -/
namespace WL
open PySem L2
theorem okL_rise {m : Nat} : ∀ (l : List Int) (a : Int), -1 ≤ a → okL m a (intsW l) = true → l.Pairwise (· < ·) ∧ ∀ x ∈ l, a < x ∧ x < m
  | [], _, _, _ => ⟨.nil, fun _ h => by cases h⟩
  | x :: xs, a, ha, h => by
    have h : ((decide (a < x) && decide (x < (m : Int))) && okL m x (intsW xs)) = true := h
    simp only [Bool.and_eq_true, decide_eq_true_eq] at h
    obtain ⟨⟨h1, h2⟩, h3⟩ := h
    obtain ⟨p, q⟩ := okL_rise xs x (by omega) h3
    refine ⟨.cons (fun y hy => (q y hy).1) p, fun y hy => ?_⟩
    rcases List.mem_cons.mp hy with rfl | hy
    · exact ⟨h1, h2⟩
    · have := q y hy
      omega
theorem rise_okL {m : Nat} : ∀ (l : List Int) (a : Int), l.Pairwise (· < ·) → (∀ x ∈ l, a < x ∧ x < m) → okL m a (intsW l) = true
  | [], _, _, _ => rfl
  | x :: xs, a, p, h => by
    show ((decide (a < x) && decide (x < (m : Int))) && okL m x (intsW xs)) = true
    obtain ⟨h1, h2⟩ := h x (List.mem_cons_self ..)
    rw [List.pairwise_cons] at p
    rw [rise_okL xs x p.2 fun y hy => ⟨p.1 y hy, (h y (List.mem_cons_of_mem _ hy)).2⟩]
    simp [h1, h2]
theorem isList_rise {m : Nat} {l : List Int} (h : isList (intsW l) m = true) : Rise m l ∧ l ≠ [] := by
  unfold isList at h
  rw [Bool.and_eq_true] at h
  obtain ⟨p, q⟩ := okL_rise l (-1) (by omega) h.2
  refine ⟨⟨p, fun x hx => by have := q x hx; omega⟩, fun e => ?_⟩
  rw [e] at h
  simp [intsW] at h
theorem rise_isList {m : Nat} {l : List Int} (h : Rise m l) (ne : l ≠ []) : isList (intsW l) m = true := by
  unfold isList
  rw [rise_okL l (-1) h.up fun x hx => by have := h.rg x hx; omega]
  cases l with
  | nil => exact absurd rfl ne
  | cons _ _ => rfl
theorem head_mem {l : List Int} (h : l ≠ []) : l.headD 0 ∈ l := by
  cases l with
  | nil => exact absurd rfl h
  | cons x xs => exact List.mem_cons_self ..
theorem within_ne {h : Hand} (w : h.within = true) : h.members ≠ [] := List.ne_nil_of_mem (show h.me ∈ h.members by simpa [Hand.within] using w)
section
variable {f f' : Folk} {w o : W} {b : Nat}
theorem FS.say (s : FS f) {x : Str} (hx : PyData.strOk x = true) (e : f.say w x = .ok f') : FS f' ∧ ∀ b, Bd f b → Bd f' (b + 110) := by
  unfold Folk.say at e
  cases ea : f.able w with
  | error er => rw [ea] at e; cases e
  | ok ih =>
    obtain ⟨i, h⟩ := ih
    rw [ea] at e
    cases e
    obtain ⟨eh, rfl, _, _, hw⟩ := able_ok ea
    have q := s.hs h (List.mem_of_getElem? eh)
    have hd := q.mem.rg _ (head_mem (within_ne hw))
    refine ⟨s.put eh ⟨q.me, q.mem, q.words, q.kept, q.has, q.far, q.off, q.news, q.story⟩ rfl (q.ltrs (b := .wish ⟨h.me, h.said, x⟩) (fun y hy => by rw [List.mem_singleton] at hy; rw [hy]; exact hd) hx), fun b d => d.put eh (Nat.le_succ _) (Nat.le_succ _) ?_⟩
    show wts (h.ltrs _ _) + 1 ≤ 110
    rw [wts_ltrs]
    simp [Body.wt]
theorem FS.propose (s : FS f) {ms : List Int} (hm : Rise f.hands.length ms) (e : f.propose w (some ms) = .ok f') : FS f' ∧ ∀ b, Bd f b → Bd f' (b + 910) := by
  unfold Folk.propose at e
  cases ea : f.able w with
  | error er => rw [ea] at e; cases e
  | ok ih =>
    obtain ⟨i, h⟩ := ih
    rw [ea] at e
    cases e
    obtain ⟨eh, rfl, _, _, hw⟩ := able_ok ea
    have q := s.hs h (List.mem_of_getElem? eh)
    refine ⟨s.put eh ⟨q.me, q.mem, q.words, q.kept, q.has, q.far, ?_, q.news, q.story⟩ rfl (q.ltrs q.mem.rg trivial), fun b d => d.put eh (Nat.le_succ _) (Nat.le_succ _) ?_⟩
    · intro g e
      cases e
      exact ⟨hm, ⟨List.nodup_nil, fun _ h => by cases h⟩, (fun _ h => by cases h), ⟨List.nodup_nil, fun _ h => by cases h⟩, fun _ e => by cases e⟩
    · show wts (h.ltrs h.members _) + 1 ≤ 910
      rw [wts_ltrs]
      have := q.mem.len
      have := s.m9
      simp only [Body.wt]
      omega
theorem FS.show' (s : FS f) (e : f.show' w o = .ok f') : FS f' ∧ ∀ b, Bd f b → Bd f' (b + 2) := by
  unfold Folk.show' at e
  cases ea : f.able w with
  | error er => rw [ea] at e; cases e
  | ok ih =>
    obtain ⟨i, h⟩ := ih
    rw [ea] at e
    simp only [] at e
    cases eo : f.one o with
    | error er => rw [eo] at e; cases e
    | ok jk =>
      obtain ⟨j, k⟩ := jk
      rw [eo] at e
      simp only [] at e
      cases en : h.news with
      | none => rw [en] at e; cases e
      | some n =>
        rw [en] at e
        cases e
        obtain ⟨eh, rfl, _, _, hw⟩ := able_ok ea
        obtain ⟨_, _, hj⟩ := one_ok eo
        have q := s.hs h (List.mem_of_getElem? eh)
        rw [s.many] at hj
        refine ⟨s.put eh q rfl (q.ltrs (b := .enter n) (fun y hy => by rw [List.mem_singleton] at hy; rw [hy]; omega) (q.news n en)), fun b d => d.put eh (Nat.le_succ _) (Nat.le_succ _) ?_⟩
        show wts (h.ltrs _ _) + 1 ≤ 2
        rw [wts_ltrs]
        simp [Body.wt]
theorem FS.fall (s : FS f) (e : f.fall w = .ok f') : FS f' ∧ ∀ b, Bd f b → Bd f' (b + 1) := by
  unfold Folk.fall at e
  cases ea : f.one w with
  | error er => rw [ea] at e; cases e
  | ok ih =>
    obtain ⟨i, h⟩ := ih
    rw [ea] at e
    simp only [] at e
    split at e
    · cases e
    · cases e
      obtain ⟨eh, rfl, _⟩ := one_ok ea
      have q := s.hs h (List.mem_of_getElem? eh)
      exact ⟨s.put eh ⟨q.me, q.mem, q.words, q.kept, q.has, q.far, q.off, q.news, q.story⟩ rfl (fun _ h => by cases h), fun b d => d.put eh (Nat.le_succ _) (Nat.le_succ _) (by show wts [] + 1 ≤ 1; simp [wts])⟩
theorem pressGo_sound {m : Nat} {h : Hand} (q : HS m h) : ∀ (r : List Msg) (k : Nat), Words r → ∀ t ∈ pressGo h k r, LS m t
  | [], _, _, t, ht => by simp [pressGo] at ht
  | x :: r, k, hr, t, ht => by
    have e : pressGo h k (x :: r) = h.ltrs h.others (.hold k x) ++ pressGo h (k + 1) r := by
      unfold pressGo
      rw [List.length_cons, List.range'_succ, List.zip_cons_cons, List.flatMap_cons]
    rw [e] at ht
    rcases List.mem_append.mp ht with z | z
    · exact q.ltrs (b := .hold k x) (others_rg q) (hr x (List.mem_cons_self ..)) t z
    · exact pressGo_sound q r (k + 1) (fun y hy => hr y (List.mem_cons_of_mem _ hy)) t z
theorem pressGo_wts (h : Hand) : ∀ (r : List Msg) (k : Nat), wts (pressGo h k r) = r.length * (h.others.length * 11)
  | [], _ => by simp [pressGo, wts]
  | x :: r, k => by
    have e : pressGo h k (x :: r) = h.ltrs h.others (.hold k x) ++ pressGo h (k + 1) r := by
      unfold pressGo
      rw [List.length_cons, List.range'_succ, List.zip_cons_cons, List.flatMap_cons]
    rw [e, wts_append, wts_ltrs, pressGo_wts h r (k + 1), List.length_cons, Nat.succ_mul]
    simp only [Body.wt]
    omega
theorem FS.press (s : FS f) (e : f.press w = .ok f') : FS f' ∧ ∀ b c, (∀ h ∈ f.hands, h.row.length ≤ c) → Bd f b → Bd f' (b + (c * 99 + 10)) := by
  unfold Folk.press at e
  cases ea : f.able w with
  | error er => rw [ea] at e; cases e
  | ok ih =>
    obtain ⟨i, h⟩ := ih
    rw [ea] at e
    simp only [] at e
    split at e
    · cases e
    · cases e
      obtain ⟨eh, rfl, _, _, hw⟩ := able_ok ea
      have hh := List.mem_of_getElem? eh
      have q := s.hs h hh
      refine ⟨s.put eh q rfl fun t ht => ?_, fun b c hc d => d.put eh (Nat.le_succ _) (Nat.le_succ _) ?_⟩
      · rw [press_eq] at ht
        rcases List.mem_append.mp ht with z | z
        · exact pressGo_sound q _ _ q.words t z
        · exact q.ltrs (b := .take h.far) (others_rg q) trivial t z
      · show wts h.press + 1 ≤ c * 99 + 10
        rw [press_eq, wts_append, wts_ltrs, pressGo_wts]
        have o9 := others_len9 q s.m9
        have := Nat.mul_le_mul (hc h hh) (by omega : h.others.length * 11 ≤ 99)
        simp only [Body.wt]
        omega
theorem FS.lose (s : FS f) (e : f.lose w = .ok f') : FS f' ∧ ∀ b, Bd f b → Bd f' b := by
  unfold Folk.lose at e
  cases ep : f.place w with
  | none => rw [ep] at e; cases e
  | some p =>
    rw [ep] at e
    cases e
    obtain ⟨_, hp⟩ := place_ok ep
    have we := wts_erase (List.getElem?_eq_getElem hp)
    refine ⟨s.erase p, fun b d => ⟨?_, fun k hk => ?_, fun k hk => ?_⟩⟩
    · show wts (f.sent.eraseIdx p) ≤ b
      have := d.wt; omega
    · show k.row.length + wts (f.sent.eraseIdx p) ≤ b
      have := d.row k hk; omega
    · show k.story.length + wts (f.sent.eraseIdx p) ≤ b
      have := d.story k hk; omega
theorem wt_le (x : Body) : x.wt ≤ 109 := by cases x <;> simp [Body.wt]
theorem FS.double (s : FS f) (e : f.double w = .ok f') : FS f' ∧ ∀ b, Bd f b → Bd f' (b + 109) := by
  unfold Folk.double at e
  cases ep : f.place w with
  | none => rw [ep] at e; cases e
  | some p =>
    rw [ep] at e
    cases e
    obtain ⟨_, hp⟩ := place_ok ep
    have hg : f.sent[p]? = some f.sent[p] := List.getElem?_eq_getElem hp
    generalize f.sent[p] = t at hg
    rw [hg]
    have ew : wts (f.sent ++ (some t).toList) = wts f.sent + t.body.wt := by rw [wts_append]; simp [wts]
    have := wt_le t.body
    refine ⟨⟨s.many, s.m9, s.me, s.hs, fun u hu => ?_⟩, fun b d => ⟨?_, fun k hk => ?_, fun k hk => ?_⟩⟩
    · rcases List.mem_append.mp hu with z | z
      · exact s.ls u z
      · simp at z
        rw [z]
        exact s.ls t (List.mem_of_getElem? hg)
    · show wts (f.sent ++ (some t).toList) ≤ b + 109
      rw [ew]; have := d.wt; omega
    · show k.row.length + wts (f.sent ++ (some t).toList) ≤ b + 109
      rw [ew]; have := d.row k hk; omega
    · show k.story.length + wts (f.sent ++ (some t).toList) ≤ b + 109
      rw [ew]; have := d.story k hk; omega
end
theorem init_hand {m : Int} {l : List Int} {i : Nat} {h : Hand} (e : (Folk.init m l).hands[i]? = some h) : h = Hand.init i l ∧ i < m.toNat := by
  unfold Folk.init at e
  simp only [List.getElem?_map, Option.map_eq_some_iff] at e
  obtain ⟨k, hk, rfl⟩ := e
  obtain ⟨h1, h2⟩ := List.getElem?_eq_some_iff.mp hk
  simp at h1 h2
  subst h2
  exact ⟨rfl, by omega⟩
theorem init_len {m : Int} {l : List Int} : (Folk.init m l).hands.length = m.toNat := by simp [Folk.init]
theorem FS.init {m : Int} {l : List Int} (h0 : 0 ≤ m) (h9 : m ≤ 9) (hl : Rise m.toNat l) : FS (Folk.init m l) ∧ Bd (Folk.init m l) 0 := by
  have hands : ∀ h ∈ (Folk.init m l).hands, ∃ i : Nat, i < m.toNat ∧ h = Hand.init i l := fun h hh => by
    obtain ⟨i, hi, e⟩ := List.mem_iff_getElem.mp hh
    have := init_hand (by rw [← e]; exact List.getElem?_eq_getElem hi : (Folk.init m l).hands[i]? = some h)
    exact ⟨i, this.2, this.1⟩
  refine ⟨⟨by rw [init_len]; show m = _; omega, by rw [init_len]; omega, fun i h e => by rw [(init_hand e).1]; rfl, fun h hh => ?_, fun t ht => by cases ht⟩, ⟨Nat.le_refl _, fun h hh => ?_, fun h hh => ?_⟩⟩
  · obtain ⟨i, hi, rfl⟩ := hands h hh
    rw [init_len]
    refine ⟨by show 0 ≤ (i : Int) ∧ _; exact ⟨by omega, by show (i : Int) < _; omega⟩, ?_, (fun _ h => by cases h), trivial, ⟨List.nodup_nil, fun _ h => by cases h⟩, Int.le_refl _, (fun _ h => by cases h), (fun _ h => by cases h), (fun _ h => by cases h)⟩
    show Rise _ (if (i : Int) ∈ l then l else [])
    split
    · exact hl
    · exact ⟨.nil, fun _ h => by cases h⟩
  · obtain ⟨i, hi, rfl⟩ := hands h hh
    exact Nat.le_refl _
  · obtain ⟨i, hi, rfl⟩ := hands h hh
    exact Nat.le_refl _
end WL

/-! ## What most laws begin with: drawn hands, a folk -/
namespace WL
open PySem L2
theorem handsGo_rg : ∀ (n j : Nat) (b i : Int), i ∈ handsGo b n j → (j : Int) ≤ i ∧ i < (j + n : Nat)
  | 0, _, _, _, h => by cases h
  | n + 1, j, b, i, h => by
    rw [handsGo, List.mem_append] at h
    rcases h with h | h
    · split at h
      · rw [List.mem_singleton] at h; omega
      · cases h
    · have := handsGo_rg n (j + 1) _ _ h
      omega
theorem handsGo_up : ∀ (n j : Nat) (b : Int), (handsGo b n j).Pairwise (· < ·)
  | 0, _, _ => .nil
  | n + 1, j, b => by
    rw [handsGo, List.pairwise_append]
    refine ⟨by split <;> simp, handsGo_up n (j + 1) _, fun x hx y hy => ?_⟩
    have := handsGo_rg n (j + 1) _ _ hy
    split at hx
    · rw [List.mem_singleton] at hx; omega
    · cases hx
theorem hands_rise (b : Int) (n : Nat) : Rise n (handsOf b n) := ⟨handsGo_up n 0 b, fun x hx => by have := handsGo_rg n 0 b x hx; omega⟩
/-- the first list of a law: drawn hands, or the last one -/
def firstOf (b : Int) (m : Nat) : List Int := if handsOf b m = [] then [(m : Int) - 1] else handsOf b m
theorem first_ne (b : Int) (m : Nat) : firstOf b m ≠ [] := by
  unfold firstOf
  split
  · simp
  · rename_i h; exact h
theorem first_rise (b : Int) {m : Nat} (hm : 1 ≤ m) : Rise m (firstOf b m) := by
  unfold firstOf
  split
  · exact ⟨by simp, fun x hx => by rw [List.mem_singleton] at hx; omega⟩
  · exact hands_rise b m
theorem eqv_nil {l : List Int} : PyData.eqv (dat (.fls (l.map W.int))) (dat (.fls [])) = decide (l = []) := by
  cases l <;> rfl
/-- drawn hands are none -/
theorem eq_nil {l : List Int} {H : Hw} {Q : KW} (h : Q (.bl (decide (l = []))) H) : cmpW .Eq (.fls (l.map W.int)) (.fls []) H Q := by
  refine eqd_of .refl .refl (isD_nb _ (show nb (.fls (l.map W.int)) = true from nbs_ints l)) rfl (by show deps (l.map W.int) + 1 ≤ 64; rw [deps_ints]; decide) (by decide) ?_
  rw [eqv_nil]
  exact h
section
variable {A : Str → Addr}
theorem ints_arg {H : Hw} {m : Nat} {l : List Int} (r : Rise m l) (ne : l ≠ []) (h9 : m ≤ 9) : ListArg H (.fls (intsW l)) m (some l) :=
  ⟨"list", rfl, .inr ⟨_, rfl, rfl, .refl, isDs_nb _ (nbs_ints l), by rw [show deps (intsW l) = 0 from deps_ints l]; decide, by rw [intsW, List.length_map]; have := r.len; omega, .inl ⟨rise_isList r ne, l, rfl, rfl⟩⟩⟩
theorem folk_made {H : Hw} {x : Addr} {m : Nat} {l : List Int} {own : List Cell} {Q : KW} {E : EW} (hx : H x = none) (c : Cells H own) (h1 : 1 ≤ m) (h9 : m ≤ 9) (r : Rise m l) (ne : l ≠ [])
    (h : ∀ H', FolkAt A H' x (Folk.init m l) own → Q .non H') : p_Folk A [.ref x, .int (m : Nat), .fls (intsW l)] (updW H x (.ins (A "Folk") [])) Q E :=
  ⟨x, _, _, own, "int", some l, rfl, c.new' hx, rfl, .inr ⟨m, rfl, by omega, by omega, ints_arg r ne h9, .inr ⟨l, rfl, .inl rfl, h⟩⟩⟩
end
theorem cells_none {H : Hw} : Cells H [] := ⟨List.nodup_nil, fun _ h => by cases h⟩
/-- what a law draws, brought into a range -/
theorem mod_nat (i : Int) {n : Nat} (h : 0 < n) : ∃ k : Nat, k < n ∧ i % (n : Int) = k := by
  have h0 := Int.emod_nonneg i (show (n : Int) ≠ 0 by omega)
  have h1 := Int.emod_lt_of_pos i (show (0 : Int) < n by omega)
  exact ⟨(i % (n : Int)).toNat, by omega, by omega⟩
end WL
namespace WL
open PySem L2
section
variable {f : Folk} {k : Nat} {h : Hand}
theorem one_of (hm : f.many = f.hands.length) (e : f.hands[k]? = some h) : f.one (.int (k : Nat)) = .ok (k, h) := by
  have kl := (List.getElem?_eq_some_iff.mp e).1
  have hk : ¬ ((k : Int) < 0 ∨ f.many ≤ (k : Int)) := by rw [hm]; omega
  unfold Folk.one Folk.idx
  simp only [hk, if_false, Int.toNat_natCast, e]
theorem member_of (hm : f.many = f.hands.length) (e : f.hands[k]? = some h) (hw : h.within = true) : f.member (.int (k : Nat)) = .ok (k, h) := by
  unfold Folk.member
  rw [one_of hm e]
  simp only [hw, if_true]
theorem able_of (hm : f.many = f.hands.length) (e : f.hands[k]? = some h) (hf : h.fell = false) (hw : h.within = true) : f.able (.int (k : Nat)) = .ok (k, h) := by
  unfold Folk.able
  rw [one_of hm e]
  simp only [hf, hw, if_true]
  rfl
end
theorem ask_ok {A : Str → Addr} {r : Except Refusal (Nat × Hand)} {H : Hw} {E : EW} {K : Hand → Prop} {k : Nat} {h : Hand} (e : r = .ok (k, h)) (hK : K h) : AskRes A r H E K := by
  rw [e]
  exact hK
theorem ask_er {A : Str → Addr} {r : Except Refusal (Nat × Hand)} {H : Hw} {E : EW} {K : Hand → Prop} {x : Refusal} (e : r = .error x) (hK : E (A x.name) H) : AskRes A r H E K := by
  rw [e]
  exact hK
theorem res_ok {A : Str → Addr} {r : Except Refusal Folk} {fa : Addr} {ow : List Cell} {H : Hw} {Q : KW} {E : EW} {f' : Folk} (e : r = .ok f') (h : ∀ H', FolkAt A H' fa f' ow → Q .non H') : FolkRes A r fa ow H Q E := by
  rw [e]
  exact h
theorem res_er {A : Str → Addr} {r : Except Refusal Folk} {fa : Addr} {ow : List Cell} {H : Hw} {Q : KW} {E : EW} {x : Refusal} (e : r = .error x) (h : E (A x.name) H) : FolkRes A r fa ow H Q E := by
  rw [e]
  exact h
theorem ne_same {H : Hw} {x y w : W} {Q : KW} (hx : Ld H x w) (hy : Ld H y w) (n : nb w = true) (d : dep w ≤ 64) (q : Q (.bl false) H) : cmpW .NotEq x y H Q :=
  ne_of hx hy n n d d fun b hb => by
    have : b = false := by
      cases b with
      | false => rfl
      | true => exact absurd rfl (hb.mp rfl)
    rw [this]
    exact q
theorem eq_same {H : Hw} {x y w : W} {Q : KW} (hx : Ld H x w) (hy : Ld H y w) (n : nb w = true) (d : dep w ≤ 64) (q : Q (.bl true) H) : cmpW .Eq x y H Q :=
  eq_of hx hy n n d d fun b hb => by
    rw [hb.mpr rfl]
    exact q
/-- (number, hands) -/
theorem nb_list {i : Int} {l : List Int} : nb (.tup [.int i, .fls (intsW l)]) = true := nbq_tup (nbs_cons rfl (nbs_cons (nbq_fls (nbs_ints _)) rfl))
theorem dep_list {i : Int} {l : List Int} : dep (.tup [.int i, .fls (intsW l)]) ≤ 64 := Nat.le_trans (dep_tup (n := 1) (deps_cons (Nat.zero_le _) (deps_cons (dep_fls (by rw [show deps (intsW l) = 0 from deps_ints l]; exact Nat.le_refl _)) (Nat.zero_le _)))) (by decide)
/-- a row that was asked for is the one that is due -/
theorem ne_rows {H : Hw} {x y : W} {l : List Msg} {Q : KW} (hx : Ld H x (.fls (msgsW l))) (hy : Ld H y (.fls (msgsW l))) (hl : Words l) (q : Q (.bl false) H) : cmpW .NotEq x y H Q := by
  have d : dep (.fls (msgsW l)) ≤ 64 := Nat.le_trans (dep_fls (msgs_dep l)) (by decide)
  refine ne_of hx hy (nbq_fls (msgs_nbs hl)) (nbq_fls (msgs_nbs hl)) d d fun b hb => ?_
  have : b = false := by
    cases b with
    | false => rfl
    | true => exact absurd rfl (hb.mp rfl)
  rw [this]
  exact q
theorem words_take {l : List Msg} (h : Words l) (n : Nat) : Words (l.take n) := fun x hx => h x (List.mem_of_mem_take hx)
theorem cut_int {ns : List Int} {lo hi : Option Int} : ∃ l : List Int, cutW (ns.map W.int) lo hi = l.map W.int ∧ l.length ≤ ns.length := by
  unfold cutW
  rw [← List.map_drop, ← List.map_take]
  exact ⟨_, rfl, by rw [List.length_take, List.length_drop]; omega⟩
/-- those of a list that a number picks -/
def upPick (d : Int) (l : List Int) : List Int := ((List.range l.length).filter fun (k : Nat) => decide (0 < d / (2 + (k : Int)) % 3)).map fun k => l.getD k 0
theorem upPick_sub (d : Int) (l : List Int) : (upPick d l).Sublist l := by
  have e : (List.range l.length).map (fun k => l.getD k 0) = l := by
    apply List.ext_getElem
    · simp
    · intro i h1 h2
      simp [List.getD_eq_getElem?_getD, List.getElem?_eq_getElem h2]
  have := (List.filter_sublist (l := List.range l.length) (p := fun (k : Nat) => decide (0 < d / (2 + (k : Int)) % 3))).map fun k => l.getD k 0
  rw [e] at this
  exact this
def pickF (l : List Int) : W → W
  | .int k => .int (l.getD k.toNat 0)
  | w => w
def pickT (d : Int) : W → Bool
  | .int k => decide (0 < d / (2 + k) % 3)
  | _ => false
theorem upPick_map (d : Int) (l : List Int) : ((rngW 0 l.length 1).filter (pickT d)).map (pickF l) = intsW (upPick d l) := by
  rw [rngW_nat, List.filter_map, List.map_map, intsW, upPick, List.map_map]
  rfl
theorem pick_ints (l : List Int) (h : 0 < l.length) (i : Int) : ∃ v : Int, v ∈ l ∧ atI (l.map W.int) (i % (l.length : Int)) = some (.int v) := by
  obtain ⟨w, hw, e⟩ := atI_mod (xs := l.map W.int) (m := (l.length : Int)) (by rw [List.length_map]) (by rw [List.length_map]; exact h) i
  obtain ⟨v, hv, rfl⟩ := List.mem_map.mp hw
  exact ⟨v, hv, e⟩
theorem pick3 (a b c i : Int) : ∃ v : Int, atI [W.int a, .int b, .int c] (i % 3) = some (.int v) := by
  obtain ⟨v, _, e⟩ := pick_ints [a, b, c] (Nat.succ_pos _) i
  exact ⟨v, e⟩
theorem pick4 (a b c d i : Int) : ∃ v : Int, atI [W.int a, .int b, .int c, .int d] (i % 4) = some (.int v) := by
  obtain ⟨v, _, e⟩ := pick_ints [a, b, c, d] (Nat.succ_pos _) i
  exact ⟨v, e⟩
/-- the other way of a choice -/
def elseOf : List CS → List CS
  | [.ifs _ _ b] => b
  | _ => []
end WL

local macro_rules | `(tactic| walk_at "s") => `(tactic| try simp only [WL.e_var, WL.e_lit, WL.e_gint, WL.e_lst, WL.e_tup, WL.e_bin, WL.e_neg, WL.e_cmp, WL.e_chn, WL.e_andV, WL.e_orV, WL.e_notV, WL.e_ife, WL.e_fld, WL.e_ix, WL.e_slc, WL.e_rev, WL.e_bcl, WL.e_isi, WL.e_call, WL.e_mk, WL.e_mth, WL.e_app, WL.e_ext, WL.e_pop, WL.e_get1, WL.e_get2, WL.e_setd, WL.e_lcm, WL.e_dnew, WL.e_dct, WL.e_lrng, WL.e_inr, WL.e_nset, WL.e_isiS, WL.e_anil, WL.e_acons, WL.e_pnil, WL.e_pcons, WL.e_ono, WL.e_oso, WL.e_ands, WL.e_ors, WL.e_tnot, WL.e_tru, WL.e_iex, WL.e_ir1, WL.e_ir2, WL.e_ir3, WL.e_uno, WL.e_uso,
  WL.e_set, WL.e_fset, WL.e_iset, WL.e_unp, WL.e_expr, WL.e_ret, WL.e_retN, WL.e_ifs, WL.e_for_, WL.e_whl, WL.e_raise, WL.e_try, WL.e_tryH, WL.e_pass, WL.e_bnil, WL.e_bcons, WL.e_loop0, WL.e_loop1, WL.e_comp0, WL.e_comp1,
  WL.e_addI, WL.e_addS, WL.e_addF, WL.e_addRF, WL.e_addFR, WL.e_addRR, WL.e_sub, WL.e_mulI, WL.e_div, WL.e_mod, WL.e_pow, WL.e_ltI, WL.e_leI, WL.e_gtI, WL.e_geI, WL.e_eqI, WL.e_neI, WL.e_eqS, WL.e_neS, WL.e_eqB, WL.e_neB, WL.e_isN, WL.e_isntN, WL.e_isB, WL.e_isntB, WL.n_non, WL.ns_non, WL.nb_non, WL.n_bl, WL.ns_bl, WL.nb_bl, WL.n_int, WL.ns_int, WL.nb_int, WL.n_str, WL.ns_str, WL.nb_str, WL.n_ref, WL.ns_ref, WL.nb_ref, WL.n_scr, WL.ns_scr, WL.nb_scr, WL.n_tup, WL.ns_tup, WL.nb_tup, WL.n_fls, WL.ns_fls, WL.nb_fls,
  WL.e_len, WL.e_lenF, WL.e_lenT, WL.e_lenS, WL.e_lenX, WL.e_lenR, WL.e_lenL, WL.e_lenD, WL.e_list, WL.e_tuple, WL.e_tupF, WL.e_tupT, WL.e_tupS, WL.e_tupR, WL.e_max2, WL.e_max1, WL.e_min2, WL.e_int1, WL.e_intB, WL.e_intI, WL.e_seqR, WL.e_seqF, WL.e_seqT, WL.e_seqS, WL.q_AR, WL.q_AF, WL.q_AT, WL.q_AS, WL.q_LR, WL.q_LF, WL.q_LS, WL.q_LT, WL.e_seqMR, WL.e_seqMF, WL.e_lsto, WL.e_dcto, WL.e_tyL, WL.e_tyD, WL.e_isL, WL.e_isLF, WL.e_isD, WL.e_ixF, WL.e_ixT, WL.e_ixS, WL.e_ixR, WL.e_ixX, WL.e_ixL, WL.e_ixD, WL.e_isR, WL.e_isD1, WL.e_isL1, WL.e_tyN, WL.e_tyB, WL.e_tyI, WL.e_tyS, WL.e_tyT, WL.e_tyF, WL.e_slF, WL.e_slR, WL.e_slS, WL.e_slT,
  WL.z_non, WL.z_bl, WL.z_int, WL.z_str, WL.z_tup, WL.z_fls, WL.updW_twice, WL.end_nx, WL.end_rt, WL.end_ex, WL.keyW, WL.kb_NoneType_int, WL.kb_NoneType_bool, WL.kb_NoneType_list, WL.kb_NoneType_tuple, WL.kb_NoneType_str, WL.kb_bool_int, WL.kb_bool_bool, WL.kb_bool_list, WL.kb_bool_tuple, WL.kb_bool_str, WL.kb_int_int, WL.kb_int_bool, WL.kb_int_list, WL.kb_int_tuple, WL.kb_int_str, WL.kb_str_int, WL.kb_str_bool, WL.kb_str_list, WL.kb_str_tuple, WL.kb_str_str, WL.kb_tuple_int, WL.kb_tuple_bool, WL.kb_tuple_list, WL.kb_tuple_tuple, WL.kb_tuple_str, WL.kb_list_int, WL.kb_list_bool, WL.kb_list_list, WL.kb_list_tuple, WL.kb_list_str, WL.kb_dict_int, WL.kb_dict_bool, WL.kb_dict_list, WL.kb_dict_tuple, WL.kb_dict_str,
  List.getElem?_cons_zero, List.getElem?_cons_succ, List.set_cons_zero, List.set_cons_succ, List.cons.injEq, List.length_cons, List.length_nil, Option.some.injEq, exists_eq_left, exists_eq_left', exists_eq, exists_eq', and_assoc, exists_and_left, true_and, and_true, false_and, and_false, exists_false, or_false, false_or, WL.W.int.injEq, WL.W.scr.injEq, Int.reduceLE, Int.reduceLT, Int.reduceNeg, WL.W.bl.injEq, WL.W.str.injEq, WL.W.ref.injEq, WL.W.fls.injEq, WL.W.tup.injEq, WL.HW.lst.injEq, WL.HW.dct.injEq, WL.HW.ins.injEq, reduceCtorEq, ↓reduceIte, Bool.false_eq_true, decide_eq_true_eq, Bool.not_true, Bool.not_false, Bool.not_eq_true', decide_eq_false_iff_not, WL.at0, WL.at1, WL.at2, WL.at3, WL.at4, WL.updW_same, WL.p_draw, WL.p_is_whole, WL.p_enough, WL.p_longest, WL.p_hands])
local macro_rules | `(tactic| walk_at "x") => `(tactic| try simp only [WL.e_var, WL.e_lit, WL.e_gint, WL.e_lst, WL.e_tup, WL.e_bin, WL.e_neg, WL.e_cmp, WL.e_chn, WL.e_andV, WL.e_orV, WL.e_notV, WL.e_ife, WL.e_fld, WL.e_ix, WL.e_slc, WL.e_rev, WL.e_bcl, WL.e_isi, WL.e_call, WL.e_mk, WL.e_mth, WL.e_app, WL.e_ext, WL.e_pop, WL.e_get1, WL.e_get2, WL.e_setd, WL.e_lcm, WL.e_dnew, WL.e_dct, WL.e_lrng, WL.e_inr, WL.e_nset, WL.e_isiS, WL.e_anil, WL.e_acons, WL.e_pnil, WL.e_pcons, WL.e_ono, WL.e_oso, WL.e_ands, WL.e_ors, WL.e_tnot, WL.e_tru, WL.e_iex, WL.e_ir1, WL.e_ir2, WL.e_ir3, WL.e_uno, WL.e_uso,
  WL.e_set, WL.e_fset, WL.e_iset, WL.e_unp, WL.e_expr, WL.e_ret, WL.e_retN, WL.e_ifs, WL.e_for_, WL.e_whl, WL.e_raise, WL.e_try, WL.e_tryH, WL.e_pass, WL.e_bnil, WL.e_loop0, WL.e_loop1, WL.e_comp0, WL.e_comp1,
  WL.e_addI, WL.e_addS, WL.e_addF, WL.e_addRF, WL.e_addFR, WL.e_addRR, WL.e_sub, WL.e_mulI, WL.e_div, WL.e_mod, WL.e_pow, WL.e_ltI, WL.e_leI, WL.e_gtI, WL.e_geI, WL.e_eqI, WL.e_neI, WL.e_eqS, WL.e_neS, WL.e_eqB, WL.e_neB, WL.e_isN, WL.e_isntN, WL.e_isB, WL.e_isntB, WL.n_non, WL.ns_non, WL.nb_non, WL.n_bl, WL.ns_bl, WL.nb_bl, WL.n_int, WL.ns_int, WL.nb_int, WL.n_str, WL.ns_str, WL.nb_str, WL.n_ref, WL.ns_ref, WL.nb_ref, WL.n_scr, WL.ns_scr, WL.nb_scr, WL.n_tup, WL.ns_tup, WL.nb_tup, WL.n_fls, WL.ns_fls, WL.nb_fls,
  WL.e_len, WL.e_lenF, WL.e_lenT, WL.e_lenS, WL.e_lenX, WL.e_lenR, WL.e_lenL, WL.e_lenD, WL.e_list, WL.e_tuple, WL.e_tupF, WL.e_tupT, WL.e_tupS, WL.e_tupR, WL.e_max2, WL.e_max1, WL.e_min2, WL.e_int1, WL.e_intB, WL.e_intI, WL.e_seqR, WL.e_seqF, WL.e_seqT, WL.e_seqS, WL.q_AR, WL.q_AF, WL.q_AT, WL.q_AS, WL.q_LR, WL.q_LF, WL.q_LS, WL.q_LT, WL.e_seqMR, WL.e_seqMF, WL.e_lsto, WL.e_dcto, WL.e_tyL, WL.e_tyD, WL.e_isL, WL.e_isLF, WL.e_isD, WL.e_ixF, WL.e_ixT, WL.e_ixS, WL.e_ixR, WL.e_ixX, WL.e_ixL, WL.e_ixD, WL.e_isR, WL.e_isD1, WL.e_isL1, WL.e_tyN, WL.e_tyB, WL.e_tyI, WL.e_tyS, WL.e_tyT, WL.e_tyF, WL.e_slF, WL.e_slR, WL.e_slS, WL.e_slT,
  WL.z_non, WL.z_bl, WL.z_int, WL.z_str, WL.z_tup, WL.z_fls, WL.updW_twice, WL.end_nx, WL.end_rt, WL.end_ex, WL.keyW, WL.kb_NoneType_int, WL.kb_NoneType_bool, WL.kb_NoneType_list, WL.kb_NoneType_tuple, WL.kb_NoneType_str, WL.kb_bool_int, WL.kb_bool_bool, WL.kb_bool_list, WL.kb_bool_tuple, WL.kb_bool_str, WL.kb_int_int, WL.kb_int_bool, WL.kb_int_list, WL.kb_int_tuple, WL.kb_int_str, WL.kb_str_int, WL.kb_str_bool, WL.kb_str_list, WL.kb_str_tuple, WL.kb_str_str, WL.kb_tuple_int, WL.kb_tuple_bool, WL.kb_tuple_list, WL.kb_tuple_tuple, WL.kb_tuple_str, WL.kb_list_int, WL.kb_list_bool, WL.kb_list_list, WL.kb_list_tuple, WL.kb_list_str, WL.kb_dict_int, WL.kb_dict_bool, WL.kb_dict_list, WL.kb_dict_tuple, WL.kb_dict_str,
  List.getElem?_cons_zero, List.getElem?_cons_succ, List.set_cons_zero, List.set_cons_succ, List.cons.injEq, List.length_cons, List.length_nil, Option.some.injEq, exists_eq_left, exists_eq_left', exists_eq, exists_eq', and_assoc, exists_and_left, true_and, and_true, false_and, and_false, exists_false, or_false, false_or, WL.W.int.injEq, WL.W.scr.injEq, Int.reduceLE, Int.reduceLT, Int.reduceNeg, WL.W.bl.injEq, WL.W.str.injEq, WL.W.ref.injEq, WL.W.fls.injEq, WL.W.tup.injEq, WL.HW.lst.injEq, WL.HW.dct.injEq, WL.HW.ins.injEq, reduceCtorEq, ↓reduceIte, Bool.false_eq_true, decide_eq_true_eq, Bool.not_true, Bool.not_false, Bool.not_eq_true', decide_eq_false_iff_not, WL.at0, WL.at1, WL.at2, WL.at3, WL.at4, WL.updW_same, WL.p_draw, WL.p_is_whole, WL.p_enough, WL.p_longest, WL.p_hands])
local macro_rules | `(tactic| walk_at "n") => `(tactic| ((try dsimp only); rw [WL.e_bcons]; walk_at "x"))
-- mac: p_draw p_is_whole p_enough p_longest p_hands
/-! ## law k02: a folk is made, hands are asked -/
namespace WL
open PySem L2
section
variable {g : Gm} {A : Str → Addr}
def Refusal.word2 : Refusal → Str
  | .badHand => "hand"
  | .badList => "list"
  | .outside => "outside"
  | _ => "other"
def wordsOf_k02 : List (Str × Str) := [("BadHand", "hand"), ("BadList", "list"), ("NoLetter", "other"), ("Fallen", "other"), ("Outside", "outside"), ("NotFirst", "other"), ("NoNews", "other")]
theorem words_k02 (hw : Wrds g A "_law_words" wordsOf_k02) (e : Refusal) : g.wrd "_law_words" (A e.name) e.word2 := by
  have := hw (e.name, e.word2) (by cases e <;> simp [wordsOf_k02, Refusal.name, Refusal.word2])
  exact this
def p_made (A : Str → Addr) : SpW := fun ws H Q _ => ∃ many first own t ms, ws = [many, first] ∧ Cells H own ∧ tyW H many = some t ∧
  ((∀ m, many = .int m → m < 1 ∨ 9 < m) ∧ (∀ H', Cells H' own → Q (.str "hand") H') ∨ ∃ m, many = .int m ∧ 1 ≤ m ∧ m ≤ 9 ∧ (∀ x, H x = none → ListArg (updW H x (.ins (A "Folk") [])) first m ms) ∧
    (ms = none ∧ (∀ H', Cells H' own → Q (.str "list") H') ∨ ∃ l, ms = some l ∧ Stays first (intsW l) own ∧ ∀ x H', FolkAt A H' x (Folk.init m l) own → Q (.ref x) H'))
theorem tyW_new {H : Hw} {w : W} {t : String} {x : Addr} {o : HW} (h : tyW H w = some t) (hx : H x = none) : tyW (updW H x o) w = some t := by
  cases w with
  | ref a =>
    have h : (match H a with
      | some (.lst _) => some "list"
      | some (.dct _) => some "dict"
      | _ => none) = some t := h
    have ne : a ≠ x := fun e => by
      rw [e, hx] at h
      cases h
    have e : updW H x o a = H a := by
      unfold updW
      rw [if_neg ne]
    show (match updW H x o a with
      | some (.lst _) => some "list"
      | some (.dct _) => some "dict"
      | _ => none) = some t
    rw [e]
    exact h
  | _ => exact h
theorem r_made [ExMs g A] (hw : Wrds g A "_law_words" wordsOf_k02) (mk : g.made "Folk" (A "Folk") (p_Folk A)) (ws : List W) (H : Hw) (Q : KW) (E : EW) (h : p_made A ws H Q E) :
    denB g c_law_made (endOf (frz Q) E) (startW ["_law_many", "_law_first", "_law_e"] ws) H := by
  obtain ⟨many, first, own, t, ms, rfl, c, ht, h⟩ := h
  show denB g c_law_made (endOf (frz Q) E) [some many, some first, none] H
  unfold c_law_made
  walk_at "n"
  refine ⟨⟨_, _, ExMs.h (A := A) .badHand⟩, ?_⟩
  walk_at "n"
  refine ⟨_, _, mk, ?_⟩
  walk_at "x"
  intro x hx
  refine ⟨x, many, first, own, t, ms, rfl, c.new' hx, tyW_new ht hx, ?_⟩
  have c1 : Cells (updW H x (.ins (A "Folk") [])) own := (c.new' (o := .ins (A "Folk") []) hx).sub (List.sublist_cons_self ..)
  rcases h with ⟨h1, h2⟩ | ⟨m, rfl, m1, m9, ha, h2⟩
  · exact .inl ⟨h1, ExMs.h (A := A) .badHand, _, words_k02 hw .badHand, .inl (h2 _ c1)⟩
  · refine .inr ⟨m, rfl, m1, m9, ha x hx, ?_⟩
    rcases h2 with ⟨h2, h3⟩ | ⟨l, h2, h3, h4⟩
    · exact .inl ⟨h2, ExMs.h (A := A) .badList, _, words_k02 hw .badList, .inl (h3 _ c1)⟩
    · exact .inr ⟨l, h2, h3, fun H' c' => ⟨rfl, .inl (h4 x H' c')⟩⟩
/-- what is told -/
def AskedK (f : Folk) (way : Int) (w : W) (H : Hw) (Q : KW) : Prop :=
  if way < 4 then (match f.member w with
    | .error e => Q (.str e.word2) H
    | .ok (_, h) => if way = 0 then newL (intsW h.members) H (fun x H' => Q (.tup [.int h.number, x]) H') else if way = 1 then newL (msgsW (h.row.take h.far.toNat)) H Q else if way = 2 then Q (.bl h.still) H else newL (intsW (witOf h)) H Q)
  else (match f.one w with
    | .error e => Q (.str e.word2) H
    | .ok (_, h) => if way = 4 then newL (storyW h.story) H Q else Q (.bl (!h.fell)) H)
def p_asked_k02 (A : Str → Addr) : SpW := fun ws H Q _ => ∃ fa f ow way w t, ws = [.ref fa, .int way, w] ∧ FolkAt A H fa f ow ∧ FS f ∧ Bd f 100000 ∧ 0 ≤ way ∧ tyW H w = some t ∧ AskedK f way w H Q
theorem ask_words {r : Except Refusal (Nat × Hand)} {H : Hw} {Q : KW} {E0 : EW} {K K' : Hand → Prop} (hE : ∀ e : Refusal, Q (.str e.word2) H → E0 (A e.name) H) (hK : ∀ h, K h → K' h) (h : match r with | .error e => Q (.str e.word2) H | .ok (_, h) => K h) : AskRes A r H E0 K' := by
  cases r with
  | error e => exact hE e h
  | ok x => exact hK x.2 h
theorem r_asked_k02 [ExMs g A] (hw : Wrds g A "_law_words" wordsOf_k02) (m5 : g.mth (A "Folk") "list_of" (p_flist_of A)) (m6 : g.mth (A "Folk") "taken" (p_ftaken A)) (m7 : g.mth (A "Folk") "is_still" (p_fstill A)) (m8 : g.mth (A "Folk") "witness" (p_fwitness A)) (m9 : g.mth (A "Folk") "past" (p_fpast A))
    (m10 : g.mth (A "Folk") "stands" (p_fstands A)) (ws : List W) (H : Hw) (Q : KW) (E : EW) (h : p_asked_k02 A ws H Q E) : denB g c_law_asked_k02 (endOf (frz Q) E) (startW ["_law_folk", "_law_way", "_law_hand", "_law_e"] ws) H := by
  obtain ⟨fa, f, ow, way, w, t, rfl, c, fs, bd, w0, ht, hr⟩ := h
  show denB g c_law_asked_k02 (endOf (frz Q) E) [some (.ref fa), some (.int way), some w, none] H
  unfold c_law_asked_k02
  unfold AskedK at hr
  have ex : ∀ e : Refusal, Q (.str e.word2) H → g.exm (A e.name) "FolkError" true ∧ hdW g (A e.name) (fun w => frz Q w H) (.call "_law_words") := fun e q => ⟨ExMs.h (A := A) e, _, words_k02 hw e, .inl q⟩
  walk_at "n"
  refine ⟨⟨_, _, ExMs.h (A := A) .badHand⟩, ?_⟩
  walk_at "n"
  by_cases z0 : way = 0
  · rw [if_pos z0]
    rw [if_pos (by omega)] at hr
    simp only [z0, if_true] at hr
    walk_at "n"
    exact u_mth m5 (fun _ _ _ => rfl) c ⟨fa, f, ow, w, t, rfl, c, fs.many, ht, ask_words ex (fun h k => newL_imp k fun _ _ q => .inl q) hr⟩
  rw [if_neg z0]
  simp only [if_neg z0] at hr
  walk_at "n"
  by_cases z1 : way = 1
  · rw [if_pos z1]
    rw [if_pos (by omega)] at hr
    simp only [z1, if_true] at hr
    walk_at "n"
    exact u_mth m6 (fun _ _ _ => rfl) c ⟨fa, f, ow, w, t, rfl, c, fs.many, fun h hh => (fs.hs h hh).far, ht, ask_words ex (fun h k => newL_frz k) hr⟩
  rw [if_neg z1]
  simp only [if_neg z1] at hr
  walk_at "n"
  by_cases z2 : way = 2
  · rw [if_pos z2]
    rw [if_pos (by omega)] at hr
    simp only [z2, if_true] at hr
    walk_at "n"
    exact u_mth m7 (fun _ _ _ => rfl) c ⟨fa, f, ow, w, t, rfl, c, fs.many, ht, ask_words ex (fun h k => .inl k) hr⟩
  rw [if_neg z2]
  simp only [if_neg z2] at hr
  walk_at "n"
  by_cases z3 : way = 3
  · rw [if_pos z3]
    rw [if_pos (by omega)] at hr
    walk_at "n"
    exact u_mth m8 (fun _ _ _ => rfl) c ⟨fa, f, ow, w, t, rfl, c, fs.many, ht, ask_words ex (fun h k => newL_frz k) hr⟩
  rw [if_neg z3]
  rw [if_neg (by omega)] at hr
  walk_at "n"
  by_cases z4 : way = 4
  · rw [if_pos z4]
    simp only [z4, if_true] at hr
    walk_at "n"
    exact u_mth m9 (fun _ _ _ => rfl) c ⟨fa, f, ow, w, t, rfl, c, fs.many, fun h hh => by have := bd.story h hh; omega, ht, ask_words ex (fun h k => newL_frz k) hr⟩
  rw [if_neg z4]
  simp only [if_neg z4] at hr
  walk_at "n"
  refine u_mth m10 (fun _ _ _ => rfl) c ⟨fa, f, ow, w, t, rfl, c, fs.many, ht, ?_⟩
  cases e : f.one w with
  | error x =>
    rw [e] at hr
    exact ex x hr
  | ok x =>
    rw [e] at hr
    exact .inl hr
end
end WL

-- mac: p_draw p_is_whole p_enough p_longest p_hands
/-! ## law k02: what a hand tells -/
namespace WL
open PySem L2
section
variable {g : Gm} {A : Str → Addr}
theorem asked_bad {f : Folk} {way : Int} {w : W} {H : Hw} {Q : KW} (h : f.idx w = none) (q : Q (.str "hand") H) : AskedK f way w H Q := by
  have e1 : f.one w = .error .badHand := by unfold Folk.one; rw [h]
  have e2 : f.member w = .error .badHand := by unfold Folk.member; rw [e1]
  unfold AskedK
  rw [e1, e2]
  split <;> exact q
/-- the hands of a new folk -/
theorem init_asked {m : Nat} {l : List Int} {k : Nat} (hk : k < m) : ∃ h, (Folk.init m l).hands[k]? = some h ∧ (Folk.init m l).one (.int (k : Nat)) = .ok (k, h) ∧ h = Hand.init k l ∧
    (Folk.init m l).member (.int (k : Nat)) = if (k : Int) ∈ l then .ok (k, h) else .error .outside := by
  have hl : (Folk.init (m : Int) l).hands.length = m := by rw [init_len]; simp
  have e : (Folk.init (m : Int) l).hands[k]? = some ((Folk.init (m : Int) l).hands[k]'(by rw [hl]; exact hk)) := List.getElem?_eq_getElem _
  generalize (Folk.init (m : Int) l).hands[k]'_ = h at e
  obtain ⟨rfl, _⟩ := init_hand e
  have o : (Folk.init (m : Int) l).one (.int (k : Nat)) = .ok (k, Hand.init k l) := one_of (by rw [hl]; rfl) e
  refine ⟨_, e, o, rfl, ?_⟩
  unfold Folk.member
  rw [o]
  simp only []
  by_cases z : (k : Int) ∈ l
  · rw [if_pos z, if_pos]
    show decide ((k : Int) ∈ (if (k : Int) ∈ l then l else [])) = true
    rw [if_pos z]
    exact decide_eq_true z
  · rw [if_neg z, if_neg]
    show ¬ decide ((k : Int) ∈ (if (k : Int) ∈ l then l else [])) = true
    rw [if_neg z]
    simp
def due2 (l : List Int) (k : Nat) : List W := if (k : Int) ∈ l then [.tup [.int 0, .fls (intsW l)], .fls [], .bl false, .fls [], .fls [], .bl true] else [.str "outside", .str "outside", .str "outside", .str "outside", .fls [], .bl true]
/-- what is told of a hand of a new folk, way by way -/
def Told2 (l : List Int) (way : Nat) (v : W) (H : Hw) (Q : KW) : Prop := match v with
  | .tup _ => newL (intsW l) H fun x H' => Q (.tup [.int 0, x]) H'
  | .fls _ => newL [] H Q
  | v => Q v H
theorem told2 {m : Nat} {l : List Int} {k way : Nat} {v : W} {H : Hw} {Q : KW} (hk : k < m) (hv : (due2 l k)[way]? = some v) (q : Told2 l way v H Q) : AskedK (Folk.init m l) (way : Nat) (.int (k : Nat)) H Q := by
  obtain ⟨h, e, e1, eh, e2⟩ := init_asked (l := l) hk
  unfold AskedK
  rw [e1, e2]
  unfold due2 at hv
  by_cases z : (k : Int) ∈ l
  · rw [if_pos z] at hv ⊢
    have n0 : h.number = 0 := by rw [eh]; exact if_pos z
    have ms : h.members = l := by rw [eh]; exact if_pos z
    match way, hv with
    | 0, hv => cases hv; simp only [Int.ofNat_eq_natCast, Int.cast_ofNat_Int, n0, ms]; exact q
    | 1, hv => cases hv; subst eh; exact q
    | 2, hv => cases hv; subst eh; exact q
    | 3, hv => cases hv; subst eh; exact q
    | 4, hv => cases hv; subst eh; exact q
    | 5, hv => cases hv; subst eh; exact q
    | n + 6, hv => cases hv
  · rw [if_neg z] at hv ⊢
    match way, hv with
    | 0, hv => cases hv; exact q
    | 1, hv => cases hv; exact q
    | 2, hv => cases hv; exact q
    | 3, hv => cases hv; exact q
    | 4, hv => cases hv; subst eh; exact q
    | 5, hv => cases hv; subst eh; exact q
    | n + 6, hv => cases hv
end
end WL
namespace WL
open PySem L2
section
variable {g : Gm} {A : Str → Addr}
theorem ne_pair {H : Hw} {p : Addr} {i : Int} {l : List Int} {Q : KW} (hp : H p = some (.lst (intsW l))) (q : Q (.bl false) H) : cmpW .NotEq (.tup [.int i, .ref p]) (.tup [.int i, .fls (intsW l)]) H Q := by
  have d1 : DW H (.tup [.int i, .ref p]) (dat (.tup [.int i, .fls (intsW l)])) := .tup (.cons (.int i) (.cons (.lst (xs := intsW l) hp (dws H _ (isDs_nb _ (nbs_ints l)))) .nil))
  have d2 : DW H (.tup [.int i, .fls (intsW l)]) (dat (.tup [.int i, .fls (intsW l)])) := dw H _ (isD_nb _ nb_list)
  have sh : SeqAt.shaped (dat (.tup [.int i, .fls (intsW l)])) = true := shaped_dat (isD_nb _ nb_list) dep_list
  refine ⟨_, _, d1, d2, sh, sh, ?_⟩
  rw [(eqv_dat _ _ nb_list nb_list).mpr rfl]
  exact q
def p_right_k02 (A : Str → Addr) : SpW := fun ws H Q _ => ∃ fa m l ow k, ws = [.ref fa, .fls (intsW l), .int (k : Nat)] ∧ FolkAt A H fa (Folk.init (m : Nat) l) ow ∧ 1 ≤ m ∧ m ≤ 9 ∧ Rise m l ∧ k < m ∧ ∀ H', FolkAt A H' fa (Folk.init m l) ow → Q (.bl true) H'
theorem init_fs {m : Nat} {l : List Int} (m9 : m ≤ 9) (r : Rise m l) : FS (Folk.init m l) ∧ Bd (Folk.init m l) 100000 := by
  obtain ⟨a, b⟩ := FS.init (m := (m : Int)) (by omega) (by omega) (by simpa using r)
  exact ⟨a, b.mono (by decide)⟩
theorem right_body (hs : g.fn "_law_asked" (p_asked_k02 A)) {fa : Addr} {m k j : Nat} {l : List Int} {ow : List Cell} {H : Hw} {D : EndW} {c5 : Option W} {v : W} (c : FolkAt A H fa (Folk.init m l) ow) (m9 : m ≤ 9) (r : Rise m l) (hk : k < m) (hj : (due2 l k)[j]? = some v)
    (hD : ∀ H' c5, FolkAt A H' fa (Folk.init m l) ow → D.nx [some (.ref fa), some (.fls (intsW l)), some (.int (k : Nat)), some (.fls (due2 l k)), some (.int (j : Nat)), c5] H') :
    denB g b_law_right_k02_1 D [some (.ref fa), some (.fls (intsW l)), some (.int (k : Nat)), some (.fls (due2 l k)), some (.int (j : Nat)), c5] H := by
  obtain ⟨fs, bd⟩ := init_fs m9 r
  have ask : ∀ {H : Hw} {Q : KW} {E : EW} {ow : List Cell}, FolkAt A H fa (Folk.init m l) ow → Told2 l j v H Q → p_asked_k02 A [.ref fa, .int (j : Nat), .int (k : Nat)] H Q E := fun c t => ⟨fa, _, _, j, _, "int", rfl, c, fs, bd, by omega, rfl, told2 hk hj t⟩
  have kind : (v = .tup [.int 0, .fls (intsW l)]) ∨ v = .fls [] ∨ (∃ b, v = .bl b) ∨ v = .str "outside" := by
    unfold due2 at hj
    have := List.mem_of_getElem? hj
    split at this
    · simp only [List.mem_cons, List.not_mem_nil, or_false] at this
      rcases this with h | h | h | h | h | h
      · exact .inl h
      · exact .inr (.inl h)
      · exact .inr (.inr (.inl ⟨_, h⟩))
      · exact .inr (.inl h)
      · exact .inr (.inl h)
      · exact .inr (.inr (.inl ⟨_, h⟩))
    · simp only [List.mem_cons, List.not_mem_nil, or_false] at this
      rcases this with h | h | h | h | h | h
      · exact .inr (.inr (.inr h))
      · exact .inr (.inr (.inr h))
      · exact .inr (.inr (.inr h))
      · exact .inr (.inr (.inr h))
      · exact .inr (.inl h)
      · exact .inr (.inr (.inl ⟨_, h⟩))
  have at' := atI_nat hj
  generalize due2 l k = due at *
  rw [ub_law_right_k02_1]
  walk_at "n"
  refine ⟨_, hs, ?_⟩
  walk_at "x"
  refine ask c ?_
  rcases kind with rfl | rfl | ⟨b, rfl⟩ | rfl
  · unfold Told2
    simp only []
    refine newR fun p hp => ?_
    have c1 := c.new (o := .lst (intsW l)) hp
    have hp' : (updW H p (.lst (intsW l))) p = some (.lst (intsW l)) := c1.own_at (List.mem_cons_self ..)
    haveI : At (updW H p (.lst (intsW l))) p (.lst (intsW l)) := ⟨hp'⟩
    walk_at "n"
    refine ⟨_, at', ?_⟩
    refine ne_pair hp' ?_
    walk_at "x"
    refine ⟨_, at', ?_⟩
    walk_at "x"
    walk_at "n"
    rw [if_neg (by decide)]
    walk_at "n"
    walk_at "n"
    walk_at "n"
    have ll : (intsW l).length ≤ 9 := by rw [intsW, List.length_map]; exact Nat.le_trans r.len m9
    refine ⟨Nat.lt_of_le_of_lt ll (by decide), ?_⟩
    have c3 := c.new (o := .lst (intsW l ++ [.int 7])) hp
    walk_at "n"
    refine ⟨_, hs, ?_⟩
    walk_at "x"
    refine ask c3 ?_
    unfold Told2
    simp only []
    refine newF ?_
    refine ⟨_, at', ?_⟩
    refine ne_same (w := .tup [.int 0, .fls (intsW l)]) .refl .refl nb_list dep_list ?_
    walk_at "x"
    exact hD _ _ c3.drop0
  · unfold Told2
    simp only []
    refine newR fun p hp => ?_
    have c1 := c.new (o := .lst []) hp
    haveI : At (updW H p (.lst [])) p (.lst []) := ⟨c1.own_at (List.mem_cons_self ..)⟩
    walk_at "n"
    refine ⟨_, at', ?_⟩
    refine ne_same (w := .fls []) (.ref At.h) .refl rfl (by decide) ?_
    walk_at "x"
    refine ⟨_, at', ?_⟩
    walk_at "x"
    rw [if_neg (by decide)]
    walk_at "n"
    walk_at "n"
    have c3 := c.new (o := .lst [.int 7]) hp
    refine ⟨by decide, ?_⟩
    walk_at "n"
    walk_at "n"
    refine ⟨_, hs, ?_⟩
    walk_at "x"
    refine ask c3 ?_
    unfold Told2
    simp only []
    refine newF ?_
    refine ⟨_, at', ?_⟩
    refine ne_same (w := .fls []) .refl .refl rfl (by decide) ?_
    walk_at "x"
    exact hD _ _ c3.drop0
  · unfold Told2
    simp only []
    walk_at "n"
    refine ⟨_, at', ?_⟩
    walk_at "x"
    rw [if_neg (by simp)]
    refine ⟨_, at', ?_⟩
    walk_at "x"
    walk_at "n"
    walk_at "n"
    walk_at "n"
    refine ⟨_, hs, ?_⟩
    walk_at "x"
    refine ask c ?_
    unfold Told2
    simp only []
    refine ⟨_, at', ?_⟩
    walk_at "x"
    rw [if_neg (by simp)]
    exact hD _ _ c
  · unfold Told2
    simp only []
    walk_at "n"
    refine ⟨_, at', ?_⟩
    walk_at "x"
    rw [if_neg (by simp)]
    refine ⟨_, at', ?_⟩
    walk_at "x"
    walk_at "n"
    walk_at "n"
    walk_at "n"
    refine ⟨_, hs, ?_⟩
    walk_at "x"
    refine ask c ?_
    unfold Told2
    simp only []
    refine ⟨_, at', ?_⟩
    walk_at "x"
    rw [if_neg (by simp)]
    exact hD _ _ c
end
end WL

-- mac: p_draw p_is_whole p_enough p_longest p_hands
/-! ## law k02: the law -/
namespace WL
open PySem L2
section
variable {g : Gm} {A : Str → Addr}
theorem r_right_k02 (hs : g.fn "_law_asked" (p_asked_k02 A)) (ws : List W) (H : Hw) (Q : KW) (E : EW) (h : p_right_k02 A ws H Q E) : denB g c_law_right_k02 (endOf (frz Q) E) (startW ["_law_folk", "_law_first", "_law_hand", "_law_due", "_law_way", "_law_found"] ws) H := by
  obtain ⟨fa, m, l, ow, k, rfl, c, m1, m9, r, hk, hq⟩ := h
  show denB g c_law_right_k02 (endOf (frz Q) E) [some (.ref fa), some (.fls (intsW l)), some (.int (k : Nat)), none, none, none] H
  have loop : denB g (c_law_right_k02.drop 2) (endOf (frz Q) E) [some (.ref fa), some (.fls (intsW l)), some (.int (k : Nat)), some (.fls (due2 l k)), none, none] H := by
    simp only [c_law_right_k02, List.drop_succ_cons, List.drop_zero]
    walk_at "n"
    refine ⟨by decide, by decide, ?_⟩
    have len : (due2 l k).length = 6 := by unfold due2; split <;> rfl
    have go : ∀ (js : List Nat), (∀ j ∈ js, j < 6) → ∀ (H : Hw) (c4 c5 : Option W) (D : EndW), FolkAt A H fa (Folk.init m l) ow → (∀ H' c4 c5, FolkAt A H' fa (Folk.init m l) ow → D.nx [some (.ref fa), some (.fls (intsW l)), some (.int (k : Nat)), some (.fls (due2 l k)), c4, c5] H') →
        loopW (fun _ => True) 4 (denB g b_law_right_k02_1) D (js.map fun j => W.int (j : Nat)) [some (.ref fa), some (.fls (intsW l)), some (.int (k : Nat)), some (.fls (due2 l k)), c4, c5] H := by
      intro js
      induction js with
      | nil => intro _ H c4 c5 D c hD; exact ⟨trivial, hD H c4 c5 c⟩
      | cons j js ih =>
        intro hj H c4 c5 D c hD
        refine ⟨trivial, ?_⟩
        have hv : (due2 l k)[j]? = some ((due2 l k)[j]'(by rw [len]; exact hj j (List.mem_cons_self ..))) := List.getElem?_eq_getElem _
        exact right_body (g := g) hs c m9 r hk hv fun H' c5 c' => ih (fun j hm => hj j (List.mem_cons_of_mem _ hm)) H' _ c5 D c' hD
    refine go [0, 1, 2, 3, 4, 5] (by decide) H none none _ c fun H' c4 c5 c' => ?_
    walk_at "n"
    exact hq H' c'
  simp only [c_law_right_k02, List.drop_succ_cons, List.drop_zero] at loop
  unfold c_law_right_k02
  walk_at "n"
  refine ⟨by decide, by decide, newF ⟨by decide, newF ⟨by decide, newF ⟨by decide, newF ?_⟩⟩⟩⟩
  walk_at "n"
  refine nin_ints rfl ?_
  refine ⟨_, rfl, ?_⟩
  by_cases z : (k : Int) ∈ l
  · simp only [z, decide_true, Bool.not_true, Bool.false_eq_true, if_false]
    rw [show due2 l k = [.tup [.int 0, .fls (intsW l)], .fls [], .bl false, .fls [], .fls [], .bl true] from if_pos z] at loop
    exact loop
  · simp only [z, decide_false, Bool.not_false, if_true]
    rw [show due2 l k = [.str "outside", .str "outside", .str "outside", .str "outside", .fls [], .bl true] from if_neg z] at loop
    walk_at "n"
    refine ⟨by decide, newF ⟨by decide, newF ?_⟩⟩
    walk_at "x"
    exact loop
/-- hands asked in turn -/
theorem k02_hands (hr : g.fn "_law_right" (p_right_k02 A)) {fa : Addr} {m : Nat} {l : List Int} {ow : List Cell} {a0 a2 a4 a5 a6 a9 a10 : Option W} (m1 : 1 ≤ m) (m9 : m ≤ 9) (r : Rise m l) :
    ∀ (ks : List Nat), (∀ k ∈ ks, k < m) → ∀ (H : Hw) (c8 : Option W) (D : EndW), FolkAt A H fa (Folk.init m l) ow → (∀ H' c8, FolkAt A H' fa (Folk.init m l) ow → D.nx [a0, some (.int m), a2, some (.fls (intsW l)), a4, a5, a6, some (.ref fa), c8, a9, a10] H') →
      loopW (fun _ => True) 8 (denB g b_law_k02_1) D (ks.map fun k => W.int (k : Nat)) [a0, some (.int m), a2, some (.fls (intsW l)), a4, a5, a6, some (.ref fa), c8, a9, a10] H := by
  intro ks
  induction ks with
  | nil => intro _ H c8 D c hD; exact ⟨trivial, hD H c8 c⟩
  | cons k ks ih =>
    intro hk H c8 D c hD
    refine ⟨trivial, ?_⟩
    rw [ub_law_k02_1]
    show denB g _ _ [a0, some (.int m), a2, some (.fls (intsW l)), a4, a5, a6, some (.ref fa), some (.int (k : Nat)), a9, a10] H
    walk_at "n"
    refine ⟨_, hr, ?_⟩
    walk_at "x"
    refine ⟨fa, m, l, ow, k, rfl, c, m1, m9, r, hk k (List.mem_cons_self ..), fun H' c' => ?_⟩
    walk_at "x"
    exact ih (fun j hm => hk j (List.mem_cons_of_mem _ hm)) H' _ D c' hD
theorem k02_odd {m : Nat} {v : Int} : ∃ w, atI [W.int (-1), .int (m : Nat), .bl true, .str "0", .non, .bl false] (v % 6) = some w ∧ (∃ t, ∀ H, tyW H w = some t) ∧ ∀ l : List Int, (Folk.init m l).idx w = none := by
  obtain ⟨k, hk, ek⟩ := mod_nat v (n := 6) (by decide)
  rw [show v % 6 = (k : Int) from ek]
  have out : ∀ (l : List Int) (i : Int), i < 0 ∨ (m : Int) ≤ i → (Folk.init m l).idx (.int i) = none := fun l i h => by
    unfold Folk.idx
    simp only []
    exact if_pos h
  match k, hk with
  | 0, _ => exact ⟨_, rfl, ⟨"int", fun _ => rfl⟩, fun l => out l _ (.inl (by decide))⟩
  | 1, _ => exact ⟨_, rfl, ⟨"int", fun _ => rfl⟩, fun l => out l _ (.inr (by omega))⟩
  | 2, _ => exact ⟨_, rfl, ⟨"bool", fun _ => rfl⟩, fun l => rfl⟩
  | 3, _ => exact ⟨_, rfl, ⟨"str", fun _ => rfl⟩, fun l => rfl⟩
  | 4, _ => exact ⟨_, rfl, ⟨"NoneType", fun _ => rfl⟩, fun l => rfl⟩
  | 5, _ => exact ⟨_, rfl, ⟨"bool", fun _ => rfl⟩, fun l => rfl⟩
theorem e_mulF' {l : List W} {k : Int} {H : Hw} {Q : KW} : binW .Mult (.fls l) (.int k) H Q = ∃ xs, seqM H (.fls l) xs ∧ -(2 ^ 63) ≤ k ∧ k < 2 ^ 63 ∧ xs.length * k.toNat ≤ sizeLine ∧ newL (List.replicate k.toNat xs).flatten H Q := rfl
/-- the folk is made: it is right -/
theorem k02_end [HFld g (A "Hand")] [FFld g (A "Folk")] [IstX g A] (hd : g.fn "_law_draw" p_draw) (hr : g.fn "_law_right" (p_right_k02 A)) (hs : g.fn "_law_asked" (p_asked_k02 A)) (ml : g.mth (A "Folk") "letters" (p_fletters A)) {fa hp : Addr} {m : Nat} {l : List Int} {H : Hw} {Q : KW} {ns : List Int} {a2 a5 : Option W}
    (tru : ∀ H', Q (.bl true) H') (m1 : 1 ≤ m) (m9 : m ≤ 9) (r : Rise m l) (c : FolkAt A H fa (Folk.init m l) [(hp, .lst (intsW l))]) :
    denB g (c_law_k02.drop 10) (endOf Q (fun _ _ => False)) [some (.scr ns), some (.int m), a2, some (.fls (intsW l)), some (.str ""), a5, some (.ref hp), some (.ref fa), none, none, none] H := by
  obtain ⟨fs, bd⟩ := init_fs m9 r
  simp only [c_law_k02, List.drop_succ_cons, List.drop_zero]
  haveI : FolkC A H fa (Folk.init m l) [(hp, .lst (intsW l))] := ⟨c⟩
  obtain ⟨s, ls, hls, cc⟩ := id c
  have hat : H fa = some (.ins (A "Folk") (folkF s ls (Folk.init m l))) := cc.at' _ (List.mem_cons_self ..)
  walk_at "n"
  refine .inr ⟨fa, _, _, rfl, hat, IstX.h, ?_⟩
  walk_at "x"
  refine ⟨_, _, hat, FFld.all _ (by simp [folkNames]), .int m, rfl, ?_⟩
  walk_at "x"
  refine u_mth ml (fun _ _ _ => rfl) c ⟨fa, _, _, rfl, c, by show (0 : Nat) ≤ _; omega, newF ?_⟩
  refine ⟨Nat.zero_le _, newF (ne_same (w := .fls []) .refl .refl rfl (by decide) ?_)⟩
  walk_at "x"
  walk_at "n"
  have hin : H hp = some (.lst (intsW l)) := c.own_at (List.mem_cons_self ..)
  haveI : At H hp (.lst (intsW l)) := ⟨hin⟩
  walk_at "x"
  have ll : (intsW l).length ≤ 9 := by rw [intsW, List.length_map]; exact Nat.le_trans r.len m9
  refine ⟨Nat.lt_of_le_of_lt ll (by decide), ?_⟩
  have c2 : FolkAt A (updW H hp (.lst (intsW l ++ [.int 3]))) fa (Folk.init m l) [(hp, .lst (intsW l ++ [.int 3]))] := c.upd0
  generalize updW H hp (.lst (intsW l ++ [.int 3])) = H2 at c2
  walk_at "n"
  refine ⟨by omega, by omega, ?_⟩
  rw [Int.toNat_natCast, rngW_nat]
  refine k02_hands hr m1 m9 r (List.range m) (fun k hk => List.mem_range.mp hk) H2 none _ c2 fun H3 c8 c3 => ?_
  walk_at "n"
  refine ⟨by decide, newF ?_⟩
  refine ⟨_, hd, ?_⟩
  walk_at "x"
  obtain ⟨w, ew, ⟨t, ht⟩, hw⟩ := k02_odd (m := m) (v := draw ns 3)
  refine ⟨w, ew, ?_⟩
  walk_at "n"
  refine ⟨by decide, by decide, ?_⟩
  refine comp_all (g := g) (fun _ => .str "hand") (fun _ _ _ => trivial) (fun x hx p acc Q hp hQ => ?_) (by decide) (newF ?_)
  · obtain ⟨j, _, rfl⟩ := List.mem_map.mp hx
    have c4 := c3.new (o := .lst acc) hp
    walk_at "x"
    refine ⟨_, hs, ?_⟩
    walk_at "x"
    refine ⟨fa, _, _, _, w, t, rfl, c4, fs, bd, ?_, ht _, asked_bad (hw l) hQ⟩
    omega
  · refine ⟨by decide, newF ?_⟩
    rw [e_mulF']
    refine ⟨_, rfl, by decide, by decide, by decide, newF ?_⟩
    refine eq_same (w := .fls [.str "hand", .str "hand", .str "hand", .str "hand", .str "hand", .str "hand"]) .refl .refl (by decide +kernel) (by decide) ?_
    exact tru _
theorem arg_of {H : Hw} {w : W} {xs : List W} {many : Int} (hs : seqA H w xs) (hl : Ld H w (.fls xs)) (ht : tyW H w = some "list") (h1 : isDs xs = true) (h2 : deps xs ≤ 63) (h3 : xs.length < 1000) (h4 : isList xs many = false) : ListArg H w many none :=
  ⟨"list", ht, .inr ⟨xs, rfl, hs, hl, h1, h2, h3, .inr ⟨h4, rfl⟩⟩⟩
/-- the folk is asked for, with what was drawn -/
theorem k02_mid [HFld g (A "Hand")] [FFld g (A "Folk")] [IstX g A] (hd : g.fn "_law_draw" p_draw) (hm : g.fn "_law_made" (p_made A)) (hr : g.fn "_law_right" (p_right_k02 A)) (hs : g.fn "_law_asked" (p_asked_k02 A)) (ml : g.mth (A "Folk") "letters" (p_fletters A)) {m : Nat} {l : List Int} {H : Hw} {Q : KW} {ns : List Int} {a2 a5 : Option W}
    (tru : ∀ H', Q (.bl true) H') (m1 : 1 ≤ m) (m9 : m ≤ 9) (r : Rise m l) (ne : l ≠ []) :
    denB g (c_law_k02.drop 7) (endOf Q (fun _ _ => False)) [some (.scr ns), some (.int m), a2, some (.fls (intsW l)), some (.str ""), a5, none, none, none, none, none] H := by
  have fin := fun (H : Hw) (fa hp : Addr) c => k02_end (g := g) (H := H) (fa := fa) (hp := hp) (a2 := a2) (a5 := a5) (ns := ns) hd hr hs ml tru m1 m9 r c
  simp only [c_law_k02, List.drop_succ_cons, List.drop_zero] at fin ⊢
  walk_at "n"
  refine newR fun hp hph => ?_
  walk_at "n"
  refine ⟨_, hm, ?_⟩
  walk_at "x"
  have ll : (intsW l).length ≤ 9 := by rw [intsW, List.length_map]; exact Nat.le_trans r.len m9
  have hat : ∀ {x : Addr} {o : HW}, (updW H hp (.lst (intsW l))) x = none → (updW (updW H hp (.lst (intsW l))) x o) hp = some (.lst (intsW l)) := fun {x o} hx => by
    have ne : hp ≠ x := fun e => by
      rw [← e] at hx
      unfold updW at hx
      rw [if_pos rfl] at hx
      cases hx
    show (if hp = x then some o else updW H hp (.lst (intsW l)) hp) = _
    rw [if_neg ne]
    show (if hp = hp then _ else _) = _
    rw [if_pos rfl]
  refine ⟨.int m, .ref hp, [(hp, .lst (intsW l))], "int", some l, rfl, cells_none.new' hph, rfl, .inr ⟨m, rfl, by omega, by omega, fun x hx => ?_, .inr ⟨l, rfl, .inr ⟨hp, rfl, List.mem_cons_self ..⟩, fun fa H' c => ?_⟩⟩⟩
  · haveI : At (updW (updW H hp (.lst (intsW l))) x (.ins (A "Folk") [])) hp (.lst (intsW l)) := ⟨hat hx⟩
    exact ⟨"list", e_tyL, .inr ⟨intsW l, rfl, hat hx, .ref (hat hx), isDs_nb _ (nbs_ints l), by rw [show deps (intsW l) = 0 from deps_ints l]; decide, by omega, .inl ⟨rise_isList r ne, l, rfl, rfl⟩⟩⟩
  · walk_at "n"
    exact fin H' fa hp c
theorem k02_bad (hm : g.fn "_law_made" (p_made A)) {H : Hw} {Q : KW} {many first : W} {d : Str} {a0 a2 a5 : Option W} (tru : ∀ H', Q (.bl true) H') (hd : d ≠ "") (hf : (∃ xs, first = .fls xs ∧ xs.length ≤ 100) ∨ first = .non ∨ ∃ xs, first = .tup xs)
    (made : ∀ (Q' : KW) (E : EW), (∀ H', Q' (.str d) H') → p_made A [many, first] H Q' E) :
    denB g (c_law_k02.drop 7) (endOf Q (fun _ _ => False)) [a0, some many, a2, some first, some (.str d), a5, none, none, none, none, none] H := by
  have go : denB g (c_law_k02.drop 8) (endOf Q (fun _ _ => False)) [a0, some many, a2, some first, some (.str d), a5, some first, none, none, none, none] H := by
    simp only [c_law_k02, List.drop_succ_cons, List.drop_zero]
    walk_at "n"
    refine ⟨_, hm, ?_⟩
    walk_at "x"
    refine made _ _ fun H' => ?_
    walk_at "n"
    rw [if_pos hd]
    walk_at "n"
    exact tru H'
  simp only [c_law_k02, List.drop_succ_cons, List.drop_zero] at go ⊢
  walk_at "n"
  rcases hf with ⟨xs, rfl, hl⟩ | rfl | ⟨xs, rfl⟩
  · walk_at "x"
    exact newF go
  · walk_at "x"
    exact go
  · walk_at "x"
    exact go
end
end WL

-- mac: p_draw p_is_whole p_enough p_longest p_hands
/-! ## law k02: the law -/
namespace WL
open PySem L2
section
variable {g : Gm} {A : Str → Addr}
theorem not_list {l : List Int} {x : Int} {m : Nat} (h : x ∈ l ∨ (m : Int) ≤ x) : isList (intsW l ++ [.int x]) m = false := by
  cases e : isList (intsW l ++ [.int x]) m with
  | false => rfl
  | true =>
    have e2 : intsW l ++ [.int x] = intsW (l ++ [x]) := by unfold intsW; rw [List.map_append]; rfl
    rw [e2] at e
    obtain ⟨r, _⟩ := isList_rise e
    rcases h with h | h
    · have := (List.pairwise_append.mp r.up).2.2 x h x (List.mem_cons_self ..)
      omega
    · have := (r.rg x (by simp)).2
      omega
theorem k02_some {v : Int} {l : List Int} {m : Nat} {x : Int} (r : Rise m l) (hl : l.length ≤ 9) (hx : x ∈ l) : ∃ o, atI [W.fls [], .fls (intsW l ++ [.int m]), .fls (intsW l ++ [.int x]), .tup (intsW l), .non, .fls [.int (-1)], .fls [.bl false], .fls [.bl true]] (v % 8) = some o ∧
    ((∃ xs, o = .fls xs ∧ xs.length ≤ 100) ∨ o = .non ∨ ∃ xs, o = .tup xs) ∧ ∀ H, ListArg H o m none := by
  obtain ⟨k, hk, ek⟩ := mod_nat v (n := 8) (by decide)
  rw [show v % 8 = (k : Int) from ek]
  have li : (intsW l).length = l.length := List.length_map ..
  have ds : ∀ y : Int, isDs (intsW l ++ [.int y]) = true := fun y => by
    have e2 : intsW l ++ [.int y] = intsW (l ++ [y]) := by unfold intsW; rw [List.map_append]; rfl
    rw [e2]
    exact isDs_nb _ (nbs_ints _)
  have dp : ∀ y : Int, deps (intsW l ++ [.int y]) ≤ 63 := fun y => by
    have e2 : intsW l ++ [.int y] = intsW (l ++ [y]) := by unfold intsW; rw [List.map_append]; rfl
    rw [e2, show deps (intsW (l ++ [y])) = 0 from deps_ints _]
    decide
  have none1 : ∀ (xs : List W), isDs xs = true → deps xs ≤ 63 → xs.length ≤ 100 → isList xs m = false → ((∃ ys, W.fls xs = .fls ys ∧ ys.length ≤ 100) ∨ W.fls xs = .non ∨ ∃ ys, W.fls xs = .tup ys) ∧ ∀ H, ListArg H (.fls xs) m none := fun xs h1 h2 h3 h4 =>
    ⟨.inl ⟨xs, rfl, h3⟩, fun H => ⟨"list", rfl, .inr ⟨xs, rfl, rfl, .refl, h1, h2, by omega, .inr ⟨h4, rfl⟩⟩⟩⟩
  match k, hk with
  | 0, _ => exact ⟨_, rfl, none1 [] rfl (by decide) (by decide) rfl⟩
  | 1, _ => exact ⟨_, rfl, none1 _ (ds _) (dp _) (by simp [li]; omega) (not_list (.inr (Int.le_refl _)))⟩
  | 2, _ => exact ⟨_, rfl, none1 _ (ds _) (dp _) (by simp [li]; omega) (not_list (.inl hx))⟩
  | 3, _ => exact ⟨_, rfl, .inr (.inr ⟨_, rfl⟩), fun H => ⟨"tuple", rfl, .inl ⟨by decide, rfl⟩⟩⟩
  | 4, _ => exact ⟨_, rfl, .inr (.inl rfl), fun H => ⟨"NoneType", rfl, .inl ⟨by decide, rfl⟩⟩⟩
  | 5, _ => exact ⟨_, rfl, none1 _ rfl (by decide) (by decide) rfl⟩
  | 6, _ => exact ⟨_, rfl, none1 _ rfl (by decide) (by decide) rfl⟩
  | 7, _ => exact ⟨_, rfl, none1 _ rfl (by decide) (by decide) rfl⟩
/-- a number of hands, or none -/
def Many (many : W) (size : Nat) (due : Str) : Prop := (many = .int (size : Nat) ∧ 1 ≤ size ∧ size ≤ 9 ∧ due = "") ∨ (size = 5 ∧ due = "hand" ∧ (∃ t, ∀ H, tyW H many = some t) ∧ ∀ i, many = .int i → i < 1 ∨ 9 < i)
def E2 : CE := .ife (.ands (.tru (.inr false (1) (10) (.var 1))) (.tru (.cmp .IsNot (.var 1) (.lit (.bl true))))) (.var 1) (.lit (.int 5))
def E5 : CE := .ife (.ors (.tru (.cmp .Is (.var 1) (.lit (.bl true)))) (.tru (.inr true (1) (10) (.var 1)))) (.lit (.str "hand")) (.lit (.str ""))
def Sized (g : Gm) (many : W) (size : Nat) (due : Str) : Prop := (∀ (Q : KW) (E : EW) (a b c d e f h i j k : Option W) (H : Hw), Q (.int (size : Nat)) H → denE g E2 [a, some many, b, c, d, e, f, h, i, j, k] H Q E) ∧
  ∀ (Q : KW) (E : EW) (a b c d e f h i j k : Option W) (H : Hw), Q (.str due) H → denE g E5 [a, some many, b, c, d, e, f, h, i, j, k] H Q E
theorem sized_in {many : W} {size : Nat} (h : inRW many 1 10 = some true) (e : many = .int (size : Nat)) : Sized g many size "" := by
  subst e
  refine ⟨fun Q E a b c d e f h' i j k H q => ?_, fun Q E a b c d e f h' i j k H q => ?_⟩
  · unfold E2
    walk_at "x"
    refine ⟨true, h, ?_⟩
    walk_at "x"
    rw [if_pos (show (Bool.xor false true) = true from rfl)]
    exact q
  · unfold E5
    walk_at "x"
    refine ⟨true, h, ?_⟩
    refine ⟨_, rfl, ?_⟩
    rw [if_neg (by decide)]
    exact q
theorem sized_out {many : W} (h : inRW many 1 10 = some false) (ht : ∀ (Q : KW) (H : Hw), Q (.bl false) H → cmpW .Is many (.bl true) H Q) : Sized g many 5 "hand" := by
  refine ⟨fun Q E a b c d e f h' i j k H q => ?_, fun Q E a b c d e f h' i j k H q => ?_⟩
  · unfold E2
    walk_at "x"
    refine ⟨false, h, ?_⟩
    refine ⟨_, rfl, ?_⟩
    rw [if_neg (by decide)]
    exact q
  · unfold E5
    rw [e_ife, e_ors, e_tru, e_cmp, e_var]
    refine ⟨_, rfl, ?_⟩
    rw [e_lit]
    refine ht _ _ ?_
    refine ⟨_, rfl, ?_⟩
    rw [if_neg (by decide)]
    walk_at "x"
    refine ⟨false, h, ?_⟩
    refine ⟨_, rfl, ?_⟩
    rw [if_pos (by decide)]
    exact q
theorem sized_true : Sized g (.bl true) 5 "hand" := by
  refine ⟨fun Q E a b c d e f h' i j k H q => ?_, fun Q E a b c d e f h' i j k H q => ?_⟩
  · unfold E2
    walk_at "x"
    refine ⟨true, rfl, ?_⟩
    refine ⟨_, rfl, ?_⟩
    rw [if_pos (by decide)]
    walk_at "x"
    exact q
  · unfold E5
    walk_at "x"
    exact q
theorem sized_int (i : Int) : ∃ size due, Many (.int i) size due ∧ Sized g (.int i) size due := by
  by_cases z : 1 ≤ i ∧ i < 10
  · obtain ⟨m, rfl⟩ := Int.eq_ofNat_of_zero_le (show 0 ≤ i by omega)
    exact ⟨m, "", .inl ⟨rfl, by omega, by omega, rfl⟩, sized_in (congrArg some (decide_eq_true z)) rfl⟩
  · refine ⟨5, "hand", .inr ⟨rfl, rfl, ⟨"int", fun _ => rfl⟩, fun j e => by cases e; omega⟩, sized_out (congrArg some (decide_eq_false z)) fun Q H q => ?_⟩
    walk_at "x"
    exact q
theorem sized_odd {v : Int} : ∃ w size due, atI [W.bl true, .str "3", .non, .int (10 ^ 20), .bl false] (v % 5) = some w ∧ Many w size due ∧ Sized g w size due := by
  obtain ⟨k, hk, ek⟩ := mod_nat v (n := 5) (by decide)
  rw [show v % 5 = (k : Int) from ek]
  have isf : ∀ w : W, (∀ (Q : KW) (H : Hw), Q (.bl false) H → cmpW .Is w (.bl true) H Q) → inRW w 1 10 = some false → (∃ t, ∀ H, tyW H w = some t) → (∀ i, w = .int i → i < 1 ∨ 9 < i) → Many w 5 "hand" ∧ Sized g w 5 "hand" := fun w h1 h2 h3 h4 => ⟨.inr ⟨rfl, rfl, h3, h4⟩, sized_out h2 h1⟩
  match k, hk with
  | 0, _ => exact ⟨_, 5, "hand", rfl, .inr ⟨rfl, rfl, ⟨"bool", fun _ => rfl⟩, fun i e => by cases e⟩, sized_true⟩
  | 1, _ => exact ⟨_, 5, "hand", rfl, isf _ (fun Q H q => by walk_at "x"; exact q) rfl ⟨"str", fun _ => rfl⟩ fun i e => by cases e⟩
  | 2, _ => exact ⟨_, 5, "hand", rfl, isf _ (fun Q H q => by walk_at "x"; exact q) rfl ⟨"NoneType", fun _ => rfl⟩ fun i e => by cases e⟩
  | 3, _ =>
    refine ⟨_, 5, "hand", rfl, isf _ (fun Q H q => ?_) (by decide) ⟨"int", fun _ => rfl⟩ fun i e => ?_⟩
    · walk_at "x"
      exact q
    · cases e
      exact .inr (by decide)
  | 4, _ => exact ⟨_, 5, "hand", rfl, isf _ (fun Q H q => by walk_at "x"; exact q) rfl ⟨"bool", fun _ => rfl⟩ fun i e => by cases e⟩
theorem r_law_k02 [HFld g (A "Hand")] [FFld g (A "Folk")] [IstX g A] (hd : g.fn "_law_draw" p_draw) (hh : g.fn "_law_hands" p_hands) (hm : g.fn "_law_made" (p_made A)) (hr : g.fn "_law_right" (p_right_k02 A)) (hs : g.fn "_law_asked" (p_asked_k02 A)) (ml : g.mth (A "Folk") "letters" (p_fletters A))
    (ws : List W) (H : Hw) (Q : KW) (E : EW) (h : spLaw ws H Q E) : denB g c_law_k02 (endOf Q (fun _ _ => False)) (startW ["_law_script", "_law_many", "_law_size", "_law_first", "_law_due", "_law_some", "_law_handed", "_law_folk", "_law_hand", "_law_odd", "_law_way"] ws) H := by
  obtain ⟨ns, hns, rfl, rfl, hq⟩ := h
  show denB g c_law_k02 (endOf Q (fun _ _ => False)) [some (.scr ns), none, none, none, none, none, none, none, none, none, none] _
  have tru : ∀ H', (fun (w : W) (H : Hw) => Q w H) (.bl true) H' := hq
  clear hq
  -- the first list is one, or none
  have p6 : ∀ (many : W) (size : Nat) (due : Str) (l : List Int), Many many size due → Rise size l → l ≠ [] →
      denB g (c_law_k02.drop 6) (endOf Q (fun _ _ => False)) [some (.scr ns), some many, some (.int (size : Nat)), some (.fls (intsW l)), some (.str due), none, none, none, none, none, none] (fun _ => none) := fun many size due l hM r ne => by
    have s9 : size ≤ 9 := by rcases hM with ⟨_, _, h, _⟩ | ⟨h, _⟩ <;> omega
    have l9 : l.length ≤ 9 := Nat.le_trans r.len s9
    have bad : ∀ (o : W) (d : Str) (a5 : Option W), ((∃ xs, o = .fls xs ∧ xs.length ≤ 100) ∨ o = .non ∨ ∃ xs, o = .tup xs) → (due = "hand" ∧ d = "hand" ∨ due = "" ∧ d = "list" ∧ ∀ H, ListArg H o size none) →
        denB g (c_law_k02.drop 7) (endOf Q (fun _ _ => False)) [some (.scr ns), some many, some (.int (size : Nat)), some o, some (.str d), a5, none, none, none, none, none] (fun _ => none) := fun o d a5 ho hd2 => by
      refine k02_bad hm tru ?_ ho fun Q' E q => ?_
      · rcases hd2 with ⟨_, rfl⟩ | ⟨_, rfl, _⟩ <;> decide +kernel
      · rcases hM with ⟨rfl, h1, h2, e⟩ | ⟨h1, e, ⟨t, ht⟩, h2⟩
        · rcases hd2 with ⟨e2, _⟩ | ⟨_, rfl, ha⟩
          · rw [e] at e2
            exact absurd e2 (by decide +kernel)
          · exact ⟨_, _, [], "int", none, rfl, cells_none, rfl, .inr ⟨size, rfl, by omega, by omega, fun x hx => ha _, .inl ⟨rfl, fun H' _ => q H'⟩⟩⟩
        · rcases hd2 with ⟨_, rfl⟩ | ⟨e2, _⟩
          · exact ⟨_, _, [], t, none, rfl, cells_none, ht _, .inl ⟨h2, fun H' _ => q H'⟩⟩
          · rw [e] at e2
            exact absurd e2 (by decide +kernel)
    have last : ∃ x, x ∈ l ∧ atI (intsW l) (-1) = some (.int x) := by
      refine ⟨l.getLast ne, List.getLast_mem ne, atI_neg1 ?_⟩
      unfold intsW
      rw [List.getLast?_map, List.getLast?_eq_getLast ne]
      rfl
    obtain ⟨x, hx, ex⟩ := last
    have mid : due = "" → denB g (c_law_k02.drop 7) (endOf Q (fun _ _ => False)) [some (.scr ns), some many, some (.int (size : Nat)), some (.fls (intsW l)), some (.str due), none, none, none, none, none, none] (fun _ => none) := fun e => by
      rcases hM with ⟨rfl, h1, h2, e2⟩ | ⟨_, e2, _⟩
      · rw [e]
        exact k02_mid hd hm hr hs ml tru h1 h2 r ne
      · rw [e] at e2
        exact absurd e2 (by decide +kernel)
    simp only [c_law_k02, List.drop_succ_cons, List.drop_zero] at mid bad ⊢
    walk_at "n"
    refine ⟨_, hd, ?_⟩
    walk_at "x"
    by_cases z : draw ns 2 % 4 = 1
    · rw [if_pos z]
      walk_at "n"
      refine ⟨by decide, newF ?_⟩
      refine ⟨by decide, newF ?_⟩
      walk_at "x"
      have li : (intsW l).length = l.length := List.length_map ..
      refine ⟨?_, newF ?_⟩
      · simp only [li, List.length_cons, List.length_nil]
        exact Nat.le_trans (by omega : l.length + (0 + 1) ≤ 10) (by decide)
      refine ⟨_, ex, ?_⟩
      refine ⟨by decide, newF ?_⟩
      walk_at "x"
      refine ⟨?_, newF ?_⟩
      · simp only [li, List.length_cons, List.length_nil]
        exact Nat.le_trans (by omega : l.length + (0 + 1) ≤ 10) (by decide)
      refine ⟨by decide, newF ⟨by decide, newF ⟨by decide, newF ⟨by decide, newF ?_⟩⟩⟩⟩
      obtain ⟨o, eo, ho, ha⟩ := k02_some (v := draw ns 2 / 4) r l9 hx
      walk_at "n"
      refine ⟨_, hd, ?_⟩
      walk_at "x"
      refine ⟨⟨by decide, by decide⟩, ?_⟩
      walk_at "x"
      refine ⟨o, eo, ?_⟩
      walk_at "n"
      rcases hM with ⟨_, _, _, e⟩ | ⟨_, e, _⟩
      · rw [e]
        rw [if_pos rfl]
        exact bad o "list" _ ho (.inr ⟨e, rfl, ha⟩)
      · rw [e]
        rw [if_neg (by decide +kernel)]
        exact bad o "hand" _ ho (.inl ⟨e, rfl⟩)
    · rw [if_neg z]
      rcases hM with ⟨_, _, _, e⟩ | ⟨_, e, _⟩
      · exact mid e
      · rw [e]
        exact bad _ "hand" _ (.inl ⟨_, rfl, by rw [intsW, List.length_map]; omega⟩) (.inl ⟨e, rfl⟩)
  -- the number of hands
  have p2 : ∀ (many : W) (size : Nat) (due : Str), Many many size due → Sized g many size due →
      denB g (c_law_k02.drop 2) (endOf Q (fun _ _ => False)) [some (.scr ns), some many, none, none, none, none, none, none, none, none, none] (fun _ => none) := fun many size due hM hS => by
    have s1 : 1 ≤ size := by rcases hM with ⟨_, h, _⟩ | ⟨h, _⟩ <;> omega
    have s9 : size ≤ 9 := by rcases hM with ⟨_, _, h, _⟩ | ⟨h, _⟩ <;> omega
    have p6 := fun l => p6 many size due l hM
    simp only [c_law_k02, List.drop_succ_cons, List.drop_zero] at p6 ⊢
    rw [e_bcons, e_set]
    refine hS.1 _ _ _ _ _ _ _ _ _ _ _ _ _ ?_
    show denB g _ _ [some (.scr ns), some many, some (.int (size : Nat)), none, none, none, none, none, none, none, none] _
    have p4 : ∀ l, Rise size l → l ≠ [] → denB g (c_law_k02.drop 5) (endOf Q (fun _ _ => False)) [some (.scr ns), some many, some (.int (size : Nat)), some (.fls (intsW l)), none, none, none, none, none, none, none] (fun _ => none) := fun l r ne => by
      simp only [c_law_k02, List.drop_succ_cons, List.drop_zero]
      rw [e_bcons, e_set]
      refine hS.2 _ _ _ _ _ _ _ _ _ _ _ _ _ ?_
      exact p6 l r ne
    simp only [c_law_k02, List.drop_succ_cons, List.drop_zero] at p4
    walk_at "n"
    refine ⟨_, hh, _, hd, ?_⟩
    walk_at "x"
    refine ⟨by omega, by omega, newF ?_⟩
    walk_at "n"
    refine ⟨Nat.zero_le _, newF (eq_nil ?_)⟩
    walk_at "x"
    rw [Int.toNat_natCast]
    by_cases z : handsOf (draw ns 1) size = []
    · simp only [z, if_true]
      walk_at "n"
      refine ⟨Nat.le_trans (by decide : 0 + 1 ≤ 5) (by decide), newF ?_⟩
      have := p4 (firstOf (draw ns 1) size) (first_rise _ s1) (first_ne _ _)
      rw [show firstOf (draw ns 1) size = [(size : Int) - 1] from if_pos z] at this
      exact this
    · simp only [z, if_false]
      have := p4 (firstOf (draw ns 1) size) (first_rise _ s1) (first_ne _ _)
      rw [show firstOf (draw ns 1) size = handsOf (draw ns 1) size from if_neg z] at this
      exact this
  simp only [c_law_k02, List.drop_succ_cons, List.drop_zero] at p2
  unfold c_law_k02
  walk_at "n"
  refine ⟨_, hd, ?_⟩
  walk_at "x"
  walk_at "n"
  refine ⟨_, hd, ?_⟩
  walk_at "x"
  refine ⟨⟨by decide, by decide⟩, ?_⟩
  walk_at "x"
  by_cases z : draw ns 0 / 13 % 9 = 1
  · rw [if_pos z]
    walk_at "n"
    refine ⟨⟨by decide, by decide⟩, by decide, newF ?_⟩
    refine ⟨_, hd, ?_⟩
    walk_at "x"
    refine ⟨⟨by decide, by decide⟩, ?_⟩
    walk_at "x"
    obtain ⟨w, size, due, ew, h1, h2⟩ := sized_odd (g := g) (v := draw ns 0 / 117)
    refine ⟨w, ew, ?_⟩
    walk_at "x"
    exact p2 w size due h1 h2
  · rw [if_neg z]
    obtain ⟨size, due, h1, h2⟩ := sized_int (g := g) (draw ns 0 % 13 - 1)
    exact p2 _ size due h1 h2
end
end WL

namespace Tk02
open PySem PySem.Spec PyProof.Rows L2
def top (i : Nat) : Stmt := PySem.Challenge.pw_folklist_k02_the_first_list.main.body.getD i (.Pass ⟨0, 0, 0, 0⟩)
abbrev st0 : Stmt := top 0
def d0 : He.DefD := ⟨("_wall", none), "_wall", "_wall", defArgs st0, defBody st0, defScope st0, [], []⟩
abbrev st1 : Stmt := top 11
def d1 : He.DefD := ⟨("is_whole", none), "is_whole", "is_whole", defArgs st1, defBody st1, defScope st1, [], []⟩
abbrev st2 : Stmt := top 12
def d2 : He.DefD := ⟨("is_list", none), "is_list", "is_list", defArgs st2, defBody st2, defScope st2, [], []⟩
abbrev st3 : Stmt := top 13
def d3 : He.DefD := ⟨("enough", none), "enough", "enough", defArgs st3, defBody st3, defScope st3, [], []⟩
abbrev st4 : Stmt := inClass (top 15) 0
def d4 : He.DefD := ⟨("Hand", some "__init__"), "__init__", "Hand.__init__", defArgs st4, defBody st4, defScope st4, [], []⟩
abbrev st5 : Stmt := inClass (top 15) 1
def d5 : He.DefD := ⟨("Hand", some "begin"), "begin", "Hand.begin", defArgs st5, defBody st5, defScope st5, [], []⟩
abbrev st6 : Stmt := inClass (top 15) 2
def d6 : He.DefD := ⟨("Hand", some "within"), "within", "Hand.within", defArgs st6, defBody st6, defScope st6, [], []⟩
abbrev st7 : Stmt := inClass (top 15) 3
def d7 : He.DefD := ⟨("Hand", some "letters"), "letters", "Hand.letters", defArgs st7, defBody st7, defScope st7, [], []⟩
abbrev st8 : Stmt := inClass (top 15) 4
def d8 : He.DefD := ⟨("Hand", some "others"), "others", "Hand.others", defArgs st8, defBody st8, defScope st8, [], []⟩
abbrev st9 : Stmt := inClass (top 15) 5
def d9 : He.DefD := ⟨("Hand", some "say"), "say", "Hand.say", defArgs st9, defBody st9, defScope st9, [], []⟩
abbrev st10 : Stmt := inClass (top 15) 6
def d10 : He.DefD := ⟨("Hand", some "press"), "press", "Hand.press", defArgs st10, defBody st10, defScope st10, [], []⟩
abbrev st11 : Stmt := inClass (top 15) 7
def d11 : He.DefD := ⟨("Hand", some "propose"), "propose", "Hand.propose", defArgs st11, defBody st11, defScope st11, [], []⟩
abbrev st12 : Stmt := inClass (top 15) 8
def d12 : He.DefD := ⟨("Hand", some "settled"), "settled", "Hand.settled", defArgs st12, defBody st12, defScope st12, [], []⟩
abbrev st13 : Stmt := inClass (top 15) 9
def d13 : He.DefD := ⟨("Hand", some "wished"), "wished", "Hand.wished", defArgs st13, defBody st13, defScope st13, [], []⟩
abbrev st14 : Stmt := inClass (top 15) 10
def d14 : He.DefD := ⟨("Hand", some "holds"), "holds", "Hand.holds", defArgs st14, defBody st14, defScope st14, [], []⟩
abbrev st15 : Stmt := inClass (top 15) 11
def d15 : He.DefD := ⟨("Hand", some "heard"), "heard", "Hand.heard", defArgs st15, defBody st15, defScope st15, [], []⟩
abbrev st16 : Stmt := inClass (top 15) 12
def d16 : He.DefD := ⟨("Hand", some "prepared"), "prepared", "Hand.prepared", defArgs st16, defBody st16, defScope st16, [], []⟩
abbrev st17 : Stmt := inClass (top 15) 13
def d17 : He.DefD := ⟨("Hand", some "promised"), "promised", "Hand.promised", defArgs st17, defBody st17, defScope st17, [], []⟩
abbrev st18 : Stmt := inClass (top 15) 14
def d18 : He.DefD := ⟨("Hand", some "accepted"), "accepted", "Hand.accepted", defArgs st18, defBody st18, defScope st18, [], []⟩
abbrev st19 : Stmt := inClass (top 15) 15
def d19 : He.DefD := ⟨("Hand", some "agreed"), "agreed", "Hand.agreed", defArgs st19, defBody st19, defScope st19, [], []⟩
abbrev st20 : Stmt := inClass (top 15) 16
def d20 : He.DefD := ⟨("Hand", some "entered"), "entered", "Hand.entered", defArgs st20, defBody st20, defScope st20, [], []⟩
abbrev st21 : Stmt := inClass (top 15) 17
def d21 : He.DefD := ⟨("Hand", some "got"), "got", "Hand.got", defArgs st21, defBody st21, defScope st21, [], []⟩
abbrev st22 : Stmt := inClass (top 18) 0
def d22 : He.DefD := ⟨("Folk", some "__init__"), "__init__", "Folk.__init__", defArgs st22, defBody st22, defScope st22, [], []⟩
abbrev st23 : Stmt := inClass (top 18) 1
def d23 : He.DefD := ⟨("Folk", some "one"), "one", "Folk.one", defArgs st23, defBody st23, defScope st23, [], []⟩
abbrev st24 : Stmt := inClass (top 18) 2
def d24 : He.DefD := ⟨("Folk", some "stands"), "stands", "Folk.stands", defArgs st24, defBody st24, defScope st24, [], []⟩
abbrev st25 : Stmt := inClass (top 18) 3
def d25 : He.DefD := ⟨("Folk", some "member"), "member", "Folk.member", defArgs st25, defBody st25, defScope st25, [], []⟩
abbrev st26 : Stmt := inClass (top 18) 4
def d26 : He.DefD := ⟨("Folk", some "able"), "able", "Folk.able", defArgs st26, defBody st26, defScope st26, [], []⟩
abbrev st27 : Stmt := inClass (top 18) 5
def d27 : He.DefD := ⟨("Folk", some "say"), "say", "Folk.say", defArgs st27, defBody st27, defScope st27, [], []⟩
abbrev st28 : Stmt := inClass (top 18) 6
def d28 : He.DefD := ⟨("Folk", some "press"), "press", "Folk.press", defArgs st28, defBody st28, defScope st28, [], []⟩
abbrev st29 : Stmt := inClass (top 18) 7
def d29 : He.DefD := ⟨("Folk", some "propose"), "propose", "Folk.propose", defArgs st29, defBody st29, defScope st29, [], []⟩
abbrev st30 : Stmt := inClass (top 18) 8
def d30 : He.DefD := ⟨("Folk", some "show"), "show", "Folk.show", defArgs st30, defBody st30, defScope st30, [], []⟩
abbrev st31 : Stmt := inClass (top 18) 9
def d31 : He.DefD := ⟨("Folk", some "fall"), "fall", "Folk.fall", defArgs st31, defBody st31, defScope st31, [], []⟩
abbrev st32 : Stmt := inClass (top 18) 10
def d32 : He.DefD := ⟨("Folk", some "need_letter"), "need_letter", "Folk.need_letter", defArgs st32, defBody st32, defScope st32, [], []⟩
abbrev st33 : Stmt := inClass (top 18) 11
def d33 : He.DefD := ⟨("Folk", some "come"), "come", "Folk.come", defArgs st33, defBody st33, defScope st33, [], []⟩
abbrev st34 : Stmt := inClass (top 18) 12
def d34 : He.DefD := ⟨("Folk", some "lose"), "lose", "Folk.lose", defArgs st34, defBody st34, defScope st34, [], []⟩
abbrev st35 : Stmt := inClass (top 18) 13
def d35 : He.DefD := ⟨("Folk", some "double"), "double", "Folk.double", defArgs st35, defBody st35, defScope st35, [], []⟩
abbrev st36 : Stmt := inClass (top 18) 14
def d36 : He.DefD := ⟨("Folk", some "calm"), "calm", "Folk.calm", defArgs st36, defBody st36, defScope st36, [], []⟩
abbrev st37 : Stmt := inClass (top 18) 15
def d37 : He.DefD := ⟨("Folk", some "letters"), "letters", "Folk.letters", defArgs st37, defBody st37, defScope st37, [], []⟩
abbrev st38 : Stmt := inClass (top 18) 16
def d38 : He.DefD := ⟨("Folk", some "list_of"), "list_of", "Folk.list_of", defArgs st38, defBody st38, defScope st38, [], []⟩
abbrev st39 : Stmt := inClass (top 18) 17
def d39 : He.DefD := ⟨("Folk", some "taken"), "taken", "Folk.taken", defArgs st39, defBody st39, defScope st39, [], []⟩
abbrev st40 : Stmt := inClass (top 18) 18
def d40 : He.DefD := ⟨("Folk", some "is_still"), "is_still", "Folk.is_still", defArgs st40, defBody st40, defScope st40, [], []⟩
abbrev st41 : Stmt := inClass (top 18) 19
def d41 : He.DefD := ⟨("Folk", some "witness"), "witness", "Folk.witness", defArgs st41, defBody st41, defScope st41, [], []⟩
abbrev st42 : Stmt := inClass (top 18) 20
def d42 : He.DefD := ⟨("Folk", some "past"), "past", "Folk.past", defArgs st42, defBody st42, defScope st42, [], []⟩
abbrev st43 : Stmt := top 20
def d43 : He.DefD := ⟨("_law_draw", none), "_law_draw", "_law_draw", defArgs st43, defBody st43, defScope st43, [], []⟩
abbrev st44 : Stmt := top 21
def d44 : He.DefD := ⟨("_law_hands", none), "_law_hands", "_law_hands", defArgs st44, defBody st44, defScope st44, [], []⟩
abbrev st45 : Stmt := top 22
def d45 : He.DefD := ⟨("_law_words", none), "_law_words", "_law_words", defArgs st45, defBody st45, defScope st45, [], []⟩
abbrev st46 : Stmt := top 23
def d46 : He.DefD := ⟨("_law_made", none), "_law_made", "_law_made", defArgs st46, defBody st46, defScope st46, [], []⟩
abbrev st47 : Stmt := top 24
def d47 : He.DefD := ⟨("_law_asked", none), "_law_asked", "_law_asked", defArgs st47, defBody st47, defScope st47, [], []⟩
abbrev st48 : Stmt := top 25
def d48 : He.DefD := ⟨("_law_right", none), "_law_right", "_law_right", defArgs st48, defBody st48, defScope st48, [], []⟩
abbrev st49 : Stmt := top 26
def d49 : He.DefD := ⟨("law", none), "law", "law", defArgs st49, defBody st49, defScope st49, [], []⟩
def fn : List He.DefD := [d0, d1, d2, d3, d4, d5, d6, d7, d8, d9, d10, d11, d12, d13, d14, d15, d16, d17, d18, d19, d20, d21, d22, d23, d24, d25, d26, d27, d28, d29, d30, d31, d32, d33, d34, d35, d36, d37, d38, d39, d40, d41, d42, d43, d44, d45, d46, d47, d48, d49]
def fa : List He.Fa := [.glo "_wall",
  .glo "FolkError",
  .exc "FolkError",
  .glo "BadHand",
  .exc "BadHand",
  .glo "BadList",
  .exc "BadList",
  .glo "NoLetter",
  .exc "NoLetter",
  .glo "Fallen",
  .exc "Fallen",
  .glo "Outside",
  .exc "Outside",
  .glo "NotFirst",
  .exc "NotFirst",
  .glo "NoNews",
  .exc "NoNews",
  .glo "is_whole",
  .glo "is_list",
  .glo "enough",
  .glo "Hand",
  .cls "Hand",
  .mkr "Hand",
  .meth "Hand" "__init__",
  .meth "Hand" "begin",
  .meth "Hand" "within",
  .meth "Hand" "letters",
  .meth "Hand" "others",
  .meth "Hand" "say",
  .meth "Hand" "press",
  .meth "Hand" "propose",
  .meth "Hand" "settled",
  .meth "Hand" "wished",
  .meth "Hand" "holds",
  .meth "Hand" "heard",
  .meth "Hand" "prepared",
  .meth "Hand" "promised",
  .meth "Hand" "accepted",
  .meth "Hand" "agreed",
  .meth "Hand" "entered",
  .meth "Hand" "got",
  .noat "Hand" "me",
  .noat "Hand" "number",
  .noat "Hand" "members",
  .noat "Hand" "fell",
  .noat "Hand" "said",
  .noat "Hand" "story",
  .noat "Hand" "news",
  .noat "Hand" "row",
  .noat "Hand" "far",
  .noat "Hand" "still",
  .noat "Hand" "ballot",
  .noat "Hand" "kept",
  .noat "Hand" "has",
  .noat "Hand" "offer",
  .glo "Folk",
  .cls "Folk",
  .mkr "Folk",
  .meth "Folk" "__init__",
  .meth "Folk" "one",
  .meth "Folk" "stands",
  .meth "Folk" "member",
  .meth "Folk" "able",
  .meth "Folk" "say",
  .meth "Folk" "press",
  .meth "Folk" "propose",
  .meth "Folk" "show",
  .meth "Folk" "fall",
  .meth "Folk" "need_letter",
  .meth "Folk" "come",
  .meth "Folk" "lose",
  .meth "Folk" "double",
  .meth "Folk" "calm",
  .meth "Folk" "letters",
  .meth "Folk" "list_of",
  .meth "Folk" "taken",
  .meth "Folk" "is_still",
  .meth "Folk" "witness",
  .meth "Folk" "past",
  .noat "Folk" "many",
  .noat "Folk" "hands",
  .noat "Folk" "sent",
  .glo "_law_draw",
  .glo "_law_hands",
  .glo "_law_words",
  .glo "_law_made",
  .glo "_law_asked",
  .glo "_law_right",
  .glo "law",
  .noat "Hand" "wish",
  .noat "Hand" "answers",
  .noat "Hand" "value",
  .noat "Hand" "yes",
  .free "len",
  .free "isinstance",
  .free "int",
  .free "bool",
  .free "list",
  .free "tuple",
  .free "range",
  .free "sorted",
  .free "max",
  .free "min",
  .free "set",
  .free "str",
  .free "ValueError",
  .int "MOST" 9,
  .exm "FolkError" "FolkError" true,
  .exm "BadHand" "FolkError" true,
  .exm "BadList" "FolkError" true,
  .exm "NoLetter" "FolkError" true,
  .exm "Fallen" "FolkError" true,
  .exm "Outside" "FolkError" true,
  .exm "NotFirst" "FolkError" true,
  .exm "NoNews" "FolkError" true,
  .exm "FolkError" "Outside" false,
  .exm "BadHand" "Outside" false,
  .exm "BadList" "Outside" false,
  .exm "NoLetter" "Outside" false,
  .exm "Fallen" "Outside" false,
  .exm "Outside" "Outside" true,
  .exm "NotFirst" "Outside" false,
  .exm "NoNews" "Outside" false]
def loose0 : List PySem.Str := ["_wall", "FolkError", "BadHand", "BadList", "NoLetter", "Fallen", "Outside", "NotFirst", "NoNews", "is_whole", "is_list", "enough", "Hand", "MOST", "Folk", "_law_draw", "_law_hands", "_law_words", "_law_made", "_law_asked", "_law_right"]
def loose : List PySem.Str := loose0
abbrev R : PySem.W.OpenRow := PySem.W.OpenLaw.row PySem.Challenge.rw_folklist_k02_the_first_list
abbrev hk : PySem.W.Hook := WL.hookX 4 WL.seven fa fn
def ob (s : PySem.W.SharedT) : WL.AlX := WL.obsX 4 WL.seven fa fn (HandSHeadRun.getT s)
theorem ob_eq (s : PySem.W.SharedT) : ob s = hk.obs s.abs := WL.obsX_eq (HandSHeadRun.getT_eq s)
theorem run (w : World) : HandSHeadRun.RunEq R (PySem.W.view R.prog [26]) hk ob 6000 loose w := by
  intro os
  kernel_rfl
end Tk02
namespace Tk02
open PySem PySem.Spec PyProof.Rows L2 WL
theorem cd43 : cDef ["_law_script", "_law_k"] ["_law_script", "_law_k"] (defScope st43) (defBody st43) = some c_law_draw := by kernel_rfl
theorem cd44 : cDef ["_law_bits", "_law_many", "_law_found", "_law_hand"] ["_law_bits", "_law_many"] (defScope st44) (defBody st44) = some c_law_hands := by kernel_rfl
theorem cd1 : cDef ["thing"] ["thing"] (defScope st1) (defBody st1) = some c_is_whole := by kernel_rfl
theorem cd2 : cDef ["thing", "many", "ahead", "hand"] ["thing", "many"] (defScope st2) (defBody st2) = some c_is_list := by kernel_rfl
theorem cd5 : cDef ["self"] ["self"] (defScope st5) (defBody st5) = some c_Hand_begin := by kernel_rfl
theorem cd4 : cDef ["self", "me", "members"] ["self", "me", "members"] (defScope st4) (defBody st4) = some c_Hand_init := by kernel_rfl
theorem cd22 : cDef ["self", "many", "first", "hand"] ["self", "many", "first"] (defScope st22) (defBody st22) = some c_Folk_init := by kernel_rfl
theorem cd46 : cDef ["_law_many", "_law_first", "_law_e"] ["_law_many", "_law_first"] (defScope st46) (defBody st46) = some c_law_made := by kernel_rfl
theorem cd23 : cDef ["self", "hand"] ["self", "hand"] (defScope st23) (defBody st23) = some c_Folk_one := by kernel_rfl
theorem cd6 : cDef ["self"] ["self"] (defScope st6) (defBody st6) = some c_Hand_within := by kernel_rfl
theorem cd25 : cDef ["self", "hand", "found"] ["self", "hand"] (defScope st25) (defBody st25) = some c_Folk_member := by kernel_rfl
theorem cd38 : cDef ["self", "hand", "found"] ["self", "hand"] (defScope st38) (defBody st38) = some c_Folk_list_of := by kernel_rfl
theorem cd39 : cDef ["self", "hand", "found"] ["self", "hand"] (defScope st39) (defBody st39) = some c_Folk_taken := by kernel_rfl
theorem cd40 : cDef ["self", "hand"] ["self", "hand"] (defScope st40) (defBody st40) = some c_Folk_is_still := by kernel_rfl
theorem cd41 : cDef ["self", "hand", "found"] ["self", "hand"] (defScope st41) (defBody st41) = some c_Folk_witness := by kernel_rfl
theorem cd42 : cDef ["self", "hand", "entry"] ["self", "hand"] (defScope st42) (defBody st42) = some c_Folk_past := by kernel_rfl
theorem cd24 : cDef ["self", "hand"] ["self", "hand"] (defScope st24) (defBody st24) = some c_Folk_stands := by kernel_rfl
theorem cd47 : cDef ["_law_folk", "_law_way", "_law_hand", "_law_e"] ["_law_folk", "_law_way", "_law_hand"] (defScope st47) (defBody st47) = some c_law_asked_k02 := by kernel_rfl
theorem cd48 : cDef ["_law_folk", "_law_first", "_law_hand", "_law_due", "_law_way", "_law_found"] ["_law_folk", "_law_first", "_law_hand"] (defScope st48) (defBody st48) = some c_law_right_k02 := by kernel_rfl
theorem cd37 : cDef ["self", "letter"] ["self"] (defScope st37) (defBody st37) = some c_Folk_letters := by kernel_rfl
theorem cd49 : cDef ["_law_script", "_law_many", "_law_size", "_law_first", "_law_due", "_law_some", "_law_handed", "_law_folk", "_law_hand", "_law_odd", "_law_way"] ["_law_script"] (defScope st49) (defBody st49) = some c_law_k02 := by kernel_rfl
section
variable {P : Program} {w : World} {K : PySem.W.Frag} {mg : Str → Option Value} {base h : Heap}
structure Kn (K : PySem.W.Frag) (mg : Str → Option Value) : Prop where
  free : FreeM mg
  says : He.SaysD fa fn K
  g__wall : mg "_wall" = some (.ref (He.ga K "_wall"))
  g_FolkError : mg "FolkError" = some (.ref (He.ga K "FolkError"))
  g_BadHand : mg "BadHand" = some (.ref (He.ga K "BadHand"))
  g_BadList : mg "BadList" = some (.ref (He.ga K "BadList"))
  g_NoLetter : mg "NoLetter" = some (.ref (He.ga K "NoLetter"))
  g_Fallen : mg "Fallen" = some (.ref (He.ga K "Fallen"))
  g_Outside : mg "Outside" = some (.ref (He.ga K "Outside"))
  g_NotFirst : mg "NotFirst" = some (.ref (He.ga K "NotFirst"))
  g_NoNews : mg "NoNews" = some (.ref (He.ga K "NoNews"))
  g_is_whole : mg "is_whole" = some (.ref (He.ga K "is_whole"))
  g_is_list : mg "is_list" = some (.ref (He.ga K "is_list"))
  g_enough : mg "enough" = some (.ref (He.ga K "enough"))
  g_Hand : mg "Hand" = some (.ref (He.ga K "Hand"))
  g_Folk : mg "Folk" = some (.ref (He.ga K "Folk"))
  g__law_draw : mg "_law_draw" = some (.ref (He.ga K "_law_draw"))
  g__law_hands : mg "_law_hands" = some (.ref (He.ga K "_law_hands"))
  g__law_words : mg "_law_words" = some (.ref (He.ga K "_law_words"))
  g__law_made : mg "_law_made" = some (.ref (He.ga K "_law_made"))
  g__law_asked : mg "_law_asked" = some (.ref (He.ga K "_law_asked"))
  g__law_right : mg "_law_right" = some (.ref (He.ga K "_law_right"))
  g_law : mg "law" = some (.ref (He.ga K "law"))
  i_MOST : ∃ t, mg "MOST" = some (.int 9 t)
  ve : mg "ValueError" = none
  ext : WL.extra WL.seven K = true
theorem known (X : K.In h) (G : h.Ns mainGlobals mg) (c : He.SaysD fa fn K) (cx : WL.extra WL.seven K = true) : Kn K mg where
  free := fun x hx => by
    rcases hx with rfl | rfl | rfl | rfl | rfl | rfl | rfl | rfl | rfl | rfl | rfl | rfl
    · exact He.free_ok X G (c.fact 93 (f := .free "len") rfl)
    · exact He.free_ok X G (c.fact 97 (f := .free "list") rfl)
    · exact He.free_ok X G (c.fact 98 (f := .free "tuple") rfl)
    · exact He.free_ok X G (c.fact 100 (f := .free "sorted") rfl)
    · exact He.free_ok X G (c.fact 101 (f := .free "max") rfl)
    · exact He.free_ok X G (c.fact 102 (f := .free "min") rfl)
    · exact He.free_ok X G (c.fact 95 (f := .free "int") rfl)
    · exact He.free_ok X G (c.fact 96 (f := .free "bool") rfl)
    · exact He.free_ok X G (c.fact 104 (f := .free "str") rfl)
    · exact He.free_ok X G (c.fact 94 (f := .free "isinstance") rfl)
    · exact He.free_ok X G (c.fact 99 (f := .free "range") rfl)
    · exact He.free_ok X G (c.fact 103 (f := .free "set") rfl)
  says := c
  g__wall := He.glo_ok X G (c.fact 0 (f := .glo "_wall") rfl)
  g_FolkError := He.glo_ok X G (c.fact 1 (f := .glo "FolkError") rfl)
  g_BadHand := He.glo_ok X G (c.fact 3 (f := .glo "BadHand") rfl)
  g_BadList := He.glo_ok X G (c.fact 5 (f := .glo "BadList") rfl)
  g_NoLetter := He.glo_ok X G (c.fact 7 (f := .glo "NoLetter") rfl)
  g_Fallen := He.glo_ok X G (c.fact 9 (f := .glo "Fallen") rfl)
  g_Outside := He.glo_ok X G (c.fact 11 (f := .glo "Outside") rfl)
  g_NotFirst := He.glo_ok X G (c.fact 13 (f := .glo "NotFirst") rfl)
  g_NoNews := He.glo_ok X G (c.fact 15 (f := .glo "NoNews") rfl)
  g_is_whole := He.glo_ok X G (c.fact 17 (f := .glo "is_whole") rfl)
  g_is_list := He.glo_ok X G (c.fact 18 (f := .glo "is_list") rfl)
  g_enough := He.glo_ok X G (c.fact 19 (f := .glo "enough") rfl)
  g_Hand := He.glo_ok X G (c.fact 20 (f := .glo "Hand") rfl)
  g_Folk := He.glo_ok X G (c.fact 55 (f := .glo "Folk") rfl)
  g__law_draw := He.glo_ok X G (c.fact 82 (f := .glo "_law_draw") rfl)
  g__law_hands := He.glo_ok X G (c.fact 83 (f := .glo "_law_hands") rfl)
  g__law_words := He.glo_ok X G (c.fact 84 (f := .glo "_law_words") rfl)
  g__law_made := He.glo_ok X G (c.fact 85 (f := .glo "_law_made") rfl)
  g__law_asked := He.glo_ok X G (c.fact 86 (f := .glo "_law_asked") rfl)
  g__law_right := He.glo_ok X G (c.fact 87 (f := .glo "_law_right") rfl)
  g_law := He.glo_ok X G (c.fact 88 (f := .glo "law") rfl)
  i_MOST := He.int_ok X G (c.fact 106 (f := .int "MOST" 9) rfl)
  ve := He.free_ok X G (c.fact 105 (f := .free "ValueError") rfl)
  ext := cx
def AA (K : PySem.W.Frag) (x : Str) : Addr := if x = "Offer" then He.ga K "Hand" else He.ga K x
theorem aHand : AA K "Hand" = He.ga K "Hand" := if_neg (by decide +kernel)
theorem aOffer : AA K "Offer" = He.ga K "Hand" := if_pos rfl
theorem aFolk : AA K "Folk" = He.ga K "Folk" := if_neg (by decide +kernel)
theorem aFolkError : AA K "FolkError" = He.ga K "FolkError" := if_neg (by decide +kernel)
theorem aBadHand : AA K "BadHand" = He.ga K "BadHand" := if_neg (by decide +kernel)
theorem aBadList : AA K "BadList" = He.ga K "BadList" := if_neg (by decide +kernel)
theorem aNoLetter : AA K "NoLetter" = He.ga K "NoLetter" := if_neg (by decide +kernel)
theorem aFallen : AA K "Fallen" = He.ga K "Fallen" := if_neg (by decide +kernel)
theorem aOutside : AA K "Outside" = He.ga K "Outside" := if_neg (by decide +kernel)
theorem aNotFirst : AA K "NotFirst" = He.ga K "NotFirst" := if_neg (by decide +kernel)
theorem aNoNews : AA K "NoNews" = He.ga K "NoNews" := if_neg (by decide +kernel)
theorem mth_at {P : Program} {w : World} {mg : Str → Option Value} {base : Heap} {k : Nat} {C D : Addr} {m : Str} {sp : SpW} (e : D = C) (h : (Gk P w K mg base k).mth C m sp) : (Gk P w K mg base k).mth D m sp := e ▸ h
theorem made_at {P : Program} {w : World} {mg : Str → Option Value} {base : Heap} {k : Nat} {C D : Addr} {m : Str} {sp : SpW} (e : D = C) (h : (Gk P w K mg base k).made m C sp) : (Gk P w K mg base k).made m D sp := e ▸ h
theorem iHand (B : Kn K mg) (k : Nat) : HFld (Gk P w K mg base k) (AA K "Hand") := by
  rw [aHand]
  refine ⟨fun f hf => ?_⟩
  simp only [handNames, List.mem_cons, List.not_mem_nil, or_false] at hf
  rcases hf with rfl | rfl | rfl | rfl | rfl | rfl | rfl | rfl | rfl | rfl | rfl | rfl | rfl | rfl
  · exact ⟨He.cls_ok (B.says.fact 21 (f := .cls "Hand") rfl), He.noat_ok (B.says.fact 41 (f := .noat "Hand" "me") rfl)⟩
  · exact ⟨He.cls_ok (B.says.fact 21 (f := .cls "Hand") rfl), He.noat_ok (B.says.fact 42 (f := .noat "Hand" "number") rfl)⟩
  · exact ⟨He.cls_ok (B.says.fact 21 (f := .cls "Hand") rfl), He.noat_ok (B.says.fact 43 (f := .noat "Hand" "members") rfl)⟩
  · exact ⟨He.cls_ok (B.says.fact 21 (f := .cls "Hand") rfl), He.noat_ok (B.says.fact 44 (f := .noat "Hand" "fell") rfl)⟩
  · exact ⟨He.cls_ok (B.says.fact 21 (f := .cls "Hand") rfl), He.noat_ok (B.says.fact 45 (f := .noat "Hand" "said") rfl)⟩
  · exact ⟨He.cls_ok (B.says.fact 21 (f := .cls "Hand") rfl), He.noat_ok (B.says.fact 46 (f := .noat "Hand" "story") rfl)⟩
  · exact ⟨He.cls_ok (B.says.fact 21 (f := .cls "Hand") rfl), He.noat_ok (B.says.fact 47 (f := .noat "Hand" "news") rfl)⟩
  · exact ⟨He.cls_ok (B.says.fact 21 (f := .cls "Hand") rfl), He.noat_ok (B.says.fact 48 (f := .noat "Hand" "row") rfl)⟩
  · exact ⟨He.cls_ok (B.says.fact 21 (f := .cls "Hand") rfl), He.noat_ok (B.says.fact 49 (f := .noat "Hand" "far") rfl)⟩
  · exact ⟨He.cls_ok (B.says.fact 21 (f := .cls "Hand") rfl), He.noat_ok (B.says.fact 50 (f := .noat "Hand" "still") rfl)⟩
  · exact ⟨He.cls_ok (B.says.fact 21 (f := .cls "Hand") rfl), He.noat_ok (B.says.fact 51 (f := .noat "Hand" "ballot") rfl)⟩
  · exact ⟨He.cls_ok (B.says.fact 21 (f := .cls "Hand") rfl), He.noat_ok (B.says.fact 52 (f := .noat "Hand" "kept") rfl)⟩
  · exact ⟨He.cls_ok (B.says.fact 21 (f := .cls "Hand") rfl), He.noat_ok (B.says.fact 53 (f := .noat "Hand" "has") rfl)⟩
  · exact ⟨He.cls_ok (B.says.fact 21 (f := .cls "Hand") rfl), He.noat_ok (B.says.fact 54 (f := .noat "Hand" "offer") rfl)⟩
theorem iOffer (B : Kn K mg) (k : Nat) : OFld (Gk P w K mg base k) (AA K "Offer") := by
  rw [aOffer]
  refine ⟨fun f hf => ?_⟩
  simp only [offNames, List.mem_cons, List.not_mem_nil, or_false] at hf
  rcases hf with rfl | rfl | rfl | rfl | rfl
  · exact ⟨He.cls_ok (B.says.fact 21 (f := .cls "Hand") rfl), He.noat_ok (B.says.fact 51 (f := .noat "Hand" "ballot") rfl)⟩
  · exact ⟨He.cls_ok (B.says.fact 21 (f := .cls "Hand") rfl), He.noat_ok (B.says.fact 89 (f := .noat "Hand" "wish") rfl)⟩
  · exact ⟨He.cls_ok (B.says.fact 21 (f := .cls "Hand") rfl), He.noat_ok (B.says.fact 90 (f := .noat "Hand" "answers") rfl)⟩
  · exact ⟨He.cls_ok (B.says.fact 21 (f := .cls "Hand") rfl), He.noat_ok (B.says.fact 91 (f := .noat "Hand" "value") rfl)⟩
  · exact ⟨He.cls_ok (B.says.fact 21 (f := .cls "Hand") rfl), He.noat_ok (B.says.fact 92 (f := .noat "Hand" "yes") rfl)⟩
theorem iFolk (B : Kn K mg) (k : Nat) : FFld (Gk P w K mg base k) (AA K "Folk") := by
  rw [aFolk]
  refine ⟨fun f hf => ?_⟩
  simp only [folkNames, List.mem_cons, List.not_mem_nil, or_false] at hf
  rcases hf with rfl | rfl | rfl
  · exact ⟨He.cls_ok (B.says.fact 56 (f := .cls "Folk") rfl), He.noat_ok (B.says.fact 79 (f := .noat "Folk" "many") rfl)⟩
  · exact ⟨He.cls_ok (B.says.fact 56 (f := .cls "Folk") rfl), He.noat_ok (B.says.fact 80 (f := .noat "Folk" "hands") rfl)⟩
  · exact ⟨He.cls_ok (B.says.fact 56 (f := .cls "Folk") rfl), He.noat_ok (B.says.fact 81 (f := .noat "Folk" "sent") rfl)⟩
theorem iFolkError (B : Kn K mg) (k : Nat) : Exc (Gk P w K mg base k) (AA K) "FolkError" := ⟨by rw [aFolkError]; exact ⟨B.g_FolkError, He.exc_ok (B.says.fact 2 (f := .exc "FolkError") rfl)⟩⟩
theorem mFolkError (B : Kn K mg) (k : Nat) : ExM (Gk P w K mg base k) (AA K) "FolkError" := ⟨by rw [aFolkError]; exact ⟨_, B.g_FolkError, He.exm_ok (B.says.fact 107 (f := .exm "FolkError" "FolkError" true) rfl)⟩⟩
theorem iBadHand (B : Kn K mg) (k : Nat) : Exc (Gk P w K mg base k) (AA K) "BadHand" := ⟨by rw [aBadHand]; exact ⟨B.g_BadHand, He.exc_ok (B.says.fact 4 (f := .exc "BadHand") rfl)⟩⟩
theorem mBadHand (B : Kn K mg) (k : Nat) : ExM (Gk P w K mg base k) (AA K) "BadHand" := ⟨by rw [aBadHand]; exact ⟨_, B.g_FolkError, He.exm_ok (B.says.fact 108 (f := .exm "BadHand" "FolkError" true) rfl)⟩⟩
theorem iBadList (B : Kn K mg) (k : Nat) : Exc (Gk P w K mg base k) (AA K) "BadList" := ⟨by rw [aBadList]; exact ⟨B.g_BadList, He.exc_ok (B.says.fact 6 (f := .exc "BadList") rfl)⟩⟩
theorem mBadList (B : Kn K mg) (k : Nat) : ExM (Gk P w K mg base k) (AA K) "BadList" := ⟨by rw [aBadList]; exact ⟨_, B.g_FolkError, He.exm_ok (B.says.fact 109 (f := .exm "BadList" "FolkError" true) rfl)⟩⟩
theorem iNoLetter (B : Kn K mg) (k : Nat) : Exc (Gk P w K mg base k) (AA K) "NoLetter" := ⟨by rw [aNoLetter]; exact ⟨B.g_NoLetter, He.exc_ok (B.says.fact 8 (f := .exc "NoLetter") rfl)⟩⟩
theorem mNoLetter (B : Kn K mg) (k : Nat) : ExM (Gk P w K mg base k) (AA K) "NoLetter" := ⟨by rw [aNoLetter]; exact ⟨_, B.g_FolkError, He.exm_ok (B.says.fact 110 (f := .exm "NoLetter" "FolkError" true) rfl)⟩⟩
theorem iFallen (B : Kn K mg) (k : Nat) : Exc (Gk P w K mg base k) (AA K) "Fallen" := ⟨by rw [aFallen]; exact ⟨B.g_Fallen, He.exc_ok (B.says.fact 10 (f := .exc "Fallen") rfl)⟩⟩
theorem mFallen (B : Kn K mg) (k : Nat) : ExM (Gk P w K mg base k) (AA K) "Fallen" := ⟨by rw [aFallen]; exact ⟨_, B.g_FolkError, He.exm_ok (B.says.fact 111 (f := .exm "Fallen" "FolkError" true) rfl)⟩⟩
theorem iOutside (B : Kn K mg) (k : Nat) : Exc (Gk P w K mg base k) (AA K) "Outside" := ⟨by rw [aOutside]; exact ⟨B.g_Outside, He.exc_ok (B.says.fact 12 (f := .exc "Outside") rfl)⟩⟩
theorem mOutside (B : Kn K mg) (k : Nat) : ExM (Gk P w K mg base k) (AA K) "Outside" := ⟨by rw [aOutside]; exact ⟨_, B.g_FolkError, He.exm_ok (B.says.fact 112 (f := .exm "Outside" "FolkError" true) rfl)⟩⟩
theorem iNotFirst (B : Kn K mg) (k : Nat) : Exc (Gk P w K mg base k) (AA K) "NotFirst" := ⟨by rw [aNotFirst]; exact ⟨B.g_NotFirst, He.exc_ok (B.says.fact 14 (f := .exc "NotFirst") rfl)⟩⟩
theorem mNotFirst (B : Kn K mg) (k : Nat) : ExM (Gk P w K mg base k) (AA K) "NotFirst" := ⟨by rw [aNotFirst]; exact ⟨_, B.g_FolkError, He.exm_ok (B.says.fact 113 (f := .exm "NotFirst" "FolkError" true) rfl)⟩⟩
theorem iNoNews (B : Kn K mg) (k : Nat) : Exc (Gk P w K mg base k) (AA K) "NoNews" := ⟨by rw [aNoNews]; exact ⟨B.g_NoNews, He.exc_ok (B.says.fact 16 (f := .exc "NoNews") rfl)⟩⟩
theorem mNoNews (B : Kn K mg) (k : Nat) : ExM (Gk P w K mg base k) (AA K) "NoNews" := ⟨by rw [aNoNews]; exact ⟨_, B.g_FolkError, He.exm_ok (B.says.fact 114 (f := .exm "NoNews" "FolkError" true) rfl)⟩⟩
theorem aX {K : PySem.W.Frag} {x : Str} (hx : x ∈ WL.seven) : AA K x = He.ga K x := by
  simp only [WL.seven, List.mem_cons, List.not_mem_nil, or_false] at hx
  rcases hx with rfl | rfl | rfl | rfl | rfl | rfl | rfl
  · exact aBadHand
  · exact aBadList
  · exact aNoLetter
  · exact aFallen
  · exact aOutside
  · exact aNotFirst
  · exact aNoNews
theorem gX (B : Kn K mg) {x : Str} (hx : x ∈ WL.seven) : mg x = some (.ref (He.ga K x)) := by
  simp only [WL.seven, List.mem_cons, List.not_mem_nil, or_false] at hx
  rcases hx with rfl | rfl | rfl | rfl | rfl | rfl | rfl
  · exact B.g_BadHand
  · exact B.g_BadList
  · exact B.g_NoLetter
  · exact B.g_Fallen
  · exact B.g_Outside
  · exact B.g_NotFirst
  · exact B.g_NoNews
theorem iX (B : Kn K mg) (k : Nat) : WL.IsX (Gk P w K mg base k) (AA K) := by
  refine ⟨fun x y hx hy => ?_, fun x hx => ?_⟩
  · rw [aX hx]
    obtain ⟨h1, _, h3⟩ := WL.extra_ok B.ext hx
    exact ⟨h1, .inl ⟨_, gX B hy, h3 y hy⟩⟩
  · rw [aX hx]
    obtain ⟨h1, h2, _⟩ := WL.extra_ok B.ext hx
    exact ⟨h1, .inr ⟨rfl, B.ve, h2⟩⟩
theorem iIst (B : Kn K mg) (k : Nat) : WL.IstX (Gk P w K mg base k) (AA K) := ⟨by rw [aFolk]; exact WL.istB_ok (He.cls_ok (B.says.fact 56 (f := .cls "Folk") rfl)) (WL.and_ok B.ext).2⟩
def wts_ : List (List Str × Str) := [(["BadHand"], "hand"), (["BadList"], "list"), (["NoLetter", "Fallen", "NotFirst", "NoNews"], "other"), (["Outside"], "outside")]
theorem cw : pWords ["_law_e", "_law_words_here"] (defScope st45) "_law_e" (defBody st45) = some (wts_, (([("ValueError" : Str)] : List Str), ("odd" : Str))) := by kernel_rfl
theorem oW (B : Kn K mg) (k : Nat) : WL.Wrds (Gk P w K mg base (k + 1)) (AA K) "_law_words" wordsOf_k02 := by
  obtain ⟨fd, F⟩ := B.says.def_ 45 (d := d45) rfl
  haveI := @iX P w K mg base B k
  exact WL.wrds_in (e := "_law_e") (ts := wts_) (odd := "odd") F B.g__law_words (FunD.bindsN F fun _ _ _ _ _ _ us hl => match us, hl with | [_], _ => rfl) B.free (by kernel_rfl) cw (by decide) (by decide +kernel) (by decide +kernel)
theorem o43 (B : Kn K mg) : (Gk P w K mg base 2).fn "_law_draw" p_draw := by
  obtain ⟨fd, F⟩ := B.says.def_ 43 (d := d43) rfl
  exact fn_in (k := 0) F B.g__law_draw (FunD.bindsN F fun _ _ _ _ _ _ us hl => match us, hl with | [_, _], _ => rfl) B.free cd43 (fun ws H Q E h => by first | (obtain ⟨rfl, _⟩ := h; rfl) | (obtain ⟨_, rfl, _⟩ := h; rfl) | (obtain ⟨_, _, rfl, _⟩ := h; rfl) | (obtain ⟨_, _, _, rfl, _⟩ := h; rfl) | (obtain ⟨_, _, _, _, rfl, _⟩ := h; rfl) | (obtain ⟨_, _, _, _, _, rfl, _⟩ := h; rfl) | (obtain ⟨_, _, _, _, _, _, rfl, _⟩ := h; rfl) | (obtain ⟨_, _, _, _, _, _, _, rfl, _⟩ := h; rfl) | (obtain ⟨_, _, _, _, _, _, _, _, rfl, _⟩ := h; rfl) | (obtain ⟨_, _, _, _, _, _, _, _, _, rfl, _⟩ := h; rfl) | (obtain ⟨_, _, _, _, _, _, _, _, _, _, rfl, _⟩ := h; rfl) | (obtain ⟨_, _, _, _, _, _, _, _, _, _, _, rfl, _⟩ := h; rfl) | (obtain ⟨_, _, _, _, _, _, _, _, _, _, _, _, rfl, _⟩ := h; rfl) | (obtain ⟨_, _, _, _, _, _, _, _, _, _, _, _, _, rfl, _⟩ := h; rfl) | (obtain ⟨_, _, _, _, _, _, _, _, _, _, _, _, _, _, rfl, _⟩ := h; rfl) | (obtain ⟨_, _, _, _, _, _, _, _, _, _, _, _, _, _, _, rfl, _⟩ := h; rfl) | (obtain ⟨_, _, _, _, _, _, _, _, _, _, _, _, _, _, _, _, rfl, _⟩ := h; rfl) | (obtain ⟨_, _, _, _, _, _, _, _, _, _, _, _, _, _, _, _, _, rfl, _⟩ := h; rfl)) (haveI := @iHand P w K mg base B 0; haveI := @iOffer P w K mg base B 0; haveI := @iFolk P w K mg base B 0; haveI := @iFolkError P w K mg base B 0; haveI := @mFolkError P w K mg base B 0; haveI := @iBadHand P w K mg base B 0; haveI := @mBadHand P w K mg base B 0; haveI := @iBadList P w K mg base B 0; haveI := @mBadList P w K mg base B 0; haveI := @iNoLetter P w K mg base B 0; haveI := @mNoLetter P w K mg base B 0; haveI := @iFallen P w K mg base B 0; haveI := @mFallen P w K mg base B 0; haveI := @iOutside P w K mg base B 0; haveI := @mOutside P w K mg base B 0; haveI := @iNotFirst P w K mg base B 0; haveI := @mNotFirst P w K mg base B 0; haveI := @iNoNews P w K mg base B 0; haveI := @mNoNews P w K mg base B 0; haveI := @iX P w K mg base B 0; haveI := @iIst P w K mg base B 0; fun ws H Q E h => r_draw  ws H Q E h)
theorem o44 (B : Kn K mg) : (Gk P w K mg base 2).fn "_law_hands" p_hands := by
  obtain ⟨fd, F⟩ := B.says.def_ 44 (d := d44) rfl
  exact fn_in (k := 0) F B.g__law_hands (FunD.bindsN F fun _ _ _ _ _ _ us hl => match us, hl with | [_, _], _ => rfl) B.free cd44 (fun ws H Q E h => by first | (obtain ⟨rfl, _⟩ := h; rfl) | (obtain ⟨_, rfl, _⟩ := h; rfl) | (obtain ⟨_, _, rfl, _⟩ := h; rfl) | (obtain ⟨_, _, _, rfl, _⟩ := h; rfl) | (obtain ⟨_, _, _, _, rfl, _⟩ := h; rfl) | (obtain ⟨_, _, _, _, _, rfl, _⟩ := h; rfl) | (obtain ⟨_, _, _, _, _, _, rfl, _⟩ := h; rfl) | (obtain ⟨_, _, _, _, _, _, _, rfl, _⟩ := h; rfl) | (obtain ⟨_, _, _, _, _, _, _, _, rfl, _⟩ := h; rfl) | (obtain ⟨_, _, _, _, _, _, _, _, _, rfl, _⟩ := h; rfl) | (obtain ⟨_, _, _, _, _, _, _, _, _, _, rfl, _⟩ := h; rfl) | (obtain ⟨_, _, _, _, _, _, _, _, _, _, _, rfl, _⟩ := h; rfl) | (obtain ⟨_, _, _, _, _, _, _, _, _, _, _, _, rfl, _⟩ := h; rfl) | (obtain ⟨_, _, _, _, _, _, _, _, _, _, _, _, _, rfl, _⟩ := h; rfl) | (obtain ⟨_, _, _, _, _, _, _, _, _, _, _, _, _, _, rfl, _⟩ := h; rfl) | (obtain ⟨_, _, _, _, _, _, _, _, _, _, _, _, _, _, _, rfl, _⟩ := h; rfl) | (obtain ⟨_, _, _, _, _, _, _, _, _, _, _, _, _, _, _, _, rfl, _⟩ := h; rfl) | (obtain ⟨_, _, _, _, _, _, _, _, _, _, _, _, _, _, _, _, _, rfl, _⟩ := h; rfl)) (haveI := @iHand P w K mg base B 0; haveI := @iOffer P w K mg base B 0; haveI := @iFolk P w K mg base B 0; haveI := @iFolkError P w K mg base B 0; haveI := @mFolkError P w K mg base B 0; haveI := @iBadHand P w K mg base B 0; haveI := @mBadHand P w K mg base B 0; haveI := @iBadList P w K mg base B 0; haveI := @mBadList P w K mg base B 0; haveI := @iNoLetter P w K mg base B 0; haveI := @mNoLetter P w K mg base B 0; haveI := @iFallen P w K mg base B 0; haveI := @mFallen P w K mg base B 0; haveI := @iOutside P w K mg base B 0; haveI := @mOutside P w K mg base B 0; haveI := @iNotFirst P w K mg base B 0; haveI := @mNotFirst P w K mg base B 0; haveI := @iNoNews P w K mg base B 0; haveI := @mNoNews P w K mg base B 0; haveI := @iX P w K mg base B 0; haveI := @iIst P w K mg base B 0; fun ws H Q E h => r_hands  ws H Q E h)
theorem o1 (B : Kn K mg) : (Gk P w K mg base 2).fn "is_whole" p_is_whole := by
  obtain ⟨fd, F⟩ := B.says.def_ 1 (d := d1) rfl
  exact fn_in (k := 0) F B.g_is_whole (FunD.bindsN F fun _ _ _ _ _ _ us hl => match us, hl with | [_], _ => rfl) B.free cd1 (fun ws H Q E h => by first | (obtain ⟨rfl, _⟩ := h; rfl) | (obtain ⟨_, rfl, _⟩ := h; rfl) | (obtain ⟨_, _, rfl, _⟩ := h; rfl) | (obtain ⟨_, _, _, rfl, _⟩ := h; rfl) | (obtain ⟨_, _, _, _, rfl, _⟩ := h; rfl) | (obtain ⟨_, _, _, _, _, rfl, _⟩ := h; rfl) | (obtain ⟨_, _, _, _, _, _, rfl, _⟩ := h; rfl) | (obtain ⟨_, _, _, _, _, _, _, rfl, _⟩ := h; rfl) | (obtain ⟨_, _, _, _, _, _, _, _, rfl, _⟩ := h; rfl) | (obtain ⟨_, _, _, _, _, _, _, _, _, rfl, _⟩ := h; rfl) | (obtain ⟨_, _, _, _, _, _, _, _, _, _, rfl, _⟩ := h; rfl) | (obtain ⟨_, _, _, _, _, _, _, _, _, _, _, rfl, _⟩ := h; rfl) | (obtain ⟨_, _, _, _, _, _, _, _, _, _, _, _, rfl, _⟩ := h; rfl) | (obtain ⟨_, _, _, _, _, _, _, _, _, _, _, _, _, rfl, _⟩ := h; rfl) | (obtain ⟨_, _, _, _, _, _, _, _, _, _, _, _, _, _, rfl, _⟩ := h; rfl) | (obtain ⟨_, _, _, _, _, _, _, _, _, _, _, _, _, _, _, rfl, _⟩ := h; rfl) | (obtain ⟨_, _, _, _, _, _, _, _, _, _, _, _, _, _, _, _, rfl, _⟩ := h; rfl) | (obtain ⟨_, _, _, _, _, _, _, _, _, _, _, _, _, _, _, _, _, rfl, _⟩ := h; rfl)) (haveI := @iHand P w K mg base B 0; haveI := @iOffer P w K mg base B 0; haveI := @iFolk P w K mg base B 0; haveI := @iFolkError P w K mg base B 0; haveI := @mFolkError P w K mg base B 0; haveI := @iBadHand P w K mg base B 0; haveI := @mBadHand P w K mg base B 0; haveI := @iBadList P w K mg base B 0; haveI := @mBadList P w K mg base B 0; haveI := @iNoLetter P w K mg base B 0; haveI := @mNoLetter P w K mg base B 0; haveI := @iFallen P w K mg base B 0; haveI := @mFallen P w K mg base B 0; haveI := @iOutside P w K mg base B 0; haveI := @mOutside P w K mg base B 0; haveI := @iNotFirst P w K mg base B 0; haveI := @mNotFirst P w K mg base B 0; haveI := @iNoNews P w K mg base B 0; haveI := @mNoNews P w K mg base B 0; haveI := @iX P w K mg base B 0; haveI := @iIst P w K mg base B 0; fun ws H Q E h => r_is_whole  ws H Q E h)
theorem o2 (B : Kn K mg) : (Gk P w K mg base 4).fn "is_list" p_is_list := by
  obtain ⟨fd, F⟩ := B.says.def_ 2 (d := d2) rfl
  exact fn_in (k := 2) F B.g_is_list (FunD.bindsN F fun _ _ _ _ _ _ us hl => match us, hl with | [_, _], _ => rfl) B.free cd2 (fun ws H Q E h => by first | (obtain ⟨rfl, _⟩ := h; rfl) | (obtain ⟨_, rfl, _⟩ := h; rfl) | (obtain ⟨_, _, rfl, _⟩ := h; rfl) | (obtain ⟨_, _, _, rfl, _⟩ := h; rfl) | (obtain ⟨_, _, _, _, rfl, _⟩ := h; rfl) | (obtain ⟨_, _, _, _, _, rfl, _⟩ := h; rfl) | (obtain ⟨_, _, _, _, _, _, rfl, _⟩ := h; rfl) | (obtain ⟨_, _, _, _, _, _, _, rfl, _⟩ := h; rfl) | (obtain ⟨_, _, _, _, _, _, _, _, rfl, _⟩ := h; rfl) | (obtain ⟨_, _, _, _, _, _, _, _, _, rfl, _⟩ := h; rfl) | (obtain ⟨_, _, _, _, _, _, _, _, _, _, rfl, _⟩ := h; rfl) | (obtain ⟨_, _, _, _, _, _, _, _, _, _, _, rfl, _⟩ := h; rfl) | (obtain ⟨_, _, _, _, _, _, _, _, _, _, _, _, rfl, _⟩ := h; rfl) | (obtain ⟨_, _, _, _, _, _, _, _, _, _, _, _, _, rfl, _⟩ := h; rfl) | (obtain ⟨_, _, _, _, _, _, _, _, _, _, _, _, _, _, rfl, _⟩ := h; rfl) | (obtain ⟨_, _, _, _, _, _, _, _, _, _, _, _, _, _, _, rfl, _⟩ := h; rfl) | (obtain ⟨_, _, _, _, _, _, _, _, _, _, _, _, _, _, _, _, rfl, _⟩ := h; rfl) | (obtain ⟨_, _, _, _, _, _, _, _, _, _, _, _, _, _, _, _, _, rfl, _⟩ := h; rfl)) (haveI := @iHand P w K mg base B 2; haveI := @iOffer P w K mg base B 2; haveI := @iFolk P w K mg base B 2; haveI := @iFolkError P w K mg base B 2; haveI := @mFolkError P w K mg base B 2; haveI := @iBadHand P w K mg base B 2; haveI := @mBadHand P w K mg base B 2; haveI := @iBadList P w K mg base B 2; haveI := @mBadList P w K mg base B 2; haveI := @iNoLetter P w K mg base B 2; haveI := @mNoLetter P w K mg base B 2; haveI := @iFallen P w K mg base B 2; haveI := @mFallen P w K mg base B 2; haveI := @iOutside P w K mg base B 2; haveI := @mOutside P w K mg base B 2; haveI := @iNotFirst P w K mg base B 2; haveI := @mNotFirst P w K mg base B 2; haveI := @iNoNews P w K mg base B 2; haveI := @mNoNews P w K mg base B 2; haveI := @iX P w K mg base B 2; haveI := @iIst P w K mg base B 2; fun ws H Q E h => r_is_list (Gk.fn_up (o1 B) (by decide)) ws H Q E h)
theorem o5 (B : Kn K mg) : (Gk P w K mg base 2).mth (AA K "Hand") "begin" (p_begin (AA K "Hand") (AA K "Offer")) := by
  obtain ⟨fd, F⟩ := B.says.def_ 5 (d := d5) rfl
  refine mth_at aHand ?_
  exact mth_in (k := 0) F (He.cls_ok (B.says.fact 21 (f := .cls "Hand") rfl)) (He.meth_ok (B.says.fact 24 (f := .meth "Hand" "begin") rfl)) (FunD.bindsN F fun _ _ _ _ _ _ us hl => match us, hl with | [_], _ => rfl) B.free cd5 (fun ws H Q E h => by first | (obtain ⟨rfl, _⟩ := h; rfl) | (obtain ⟨_, rfl, _⟩ := h; rfl) | (obtain ⟨_, _, rfl, _⟩ := h; rfl) | (obtain ⟨_, _, _, rfl, _⟩ := h; rfl) | (obtain ⟨_, _, _, _, rfl, _⟩ := h; rfl) | (obtain ⟨_, _, _, _, _, rfl, _⟩ := h; rfl) | (obtain ⟨_, _, _, _, _, _, rfl, _⟩ := h; rfl) | (obtain ⟨_, _, _, _, _, _, _, rfl, _⟩ := h; rfl) | (obtain ⟨_, _, _, _, _, _, _, _, rfl, _⟩ := h; rfl) | (obtain ⟨_, _, _, _, _, _, _, _, _, rfl, _⟩ := h; rfl) | (obtain ⟨_, _, _, _, _, _, _, _, _, _, rfl, _⟩ := h; rfl) | (obtain ⟨_, _, _, _, _, _, _, _, _, _, _, rfl, _⟩ := h; rfl) | (obtain ⟨_, _, _, _, _, _, _, _, _, _, _, _, rfl, _⟩ := h; rfl) | (obtain ⟨_, _, _, _, _, _, _, _, _, _, _, _, _, rfl, _⟩ := h; rfl) | (obtain ⟨_, _, _, _, _, _, _, _, _, _, _, _, _, _, rfl, _⟩ := h; rfl) | (obtain ⟨_, _, _, _, _, _, _, _, _, _, _, _, _, _, _, rfl, _⟩ := h; rfl) | (obtain ⟨_, _, _, _, _, _, _, _, _, _, _, _, _, _, _, _, rfl, _⟩ := h; rfl) | (obtain ⟨_, _, _, _, _, _, _, _, _, _, _, _, _, _, _, _, _, rfl, _⟩ := h; rfl)) (haveI := @iHand P w K mg base B 0; haveI := @iOffer P w K mg base B 0; haveI := @iFolk P w K mg base B 0; haveI := @iFolkError P w K mg base B 0; haveI := @mFolkError P w K mg base B 0; haveI := @iBadHand P w K mg base B 0; haveI := @mBadHand P w K mg base B 0; haveI := @iBadList P w K mg base B 0; haveI := @mBadList P w K mg base B 0; haveI := @iNoLetter P w K mg base B 0; haveI := @mNoLetter P w K mg base B 0; haveI := @iFallen P w K mg base B 0; haveI := @mFallen P w K mg base B 0; haveI := @iOutside P w K mg base B 0; haveI := @mOutside P w K mg base B 0; haveI := @iNotFirst P w K mg base B 0; haveI := @mNotFirst P w K mg base B 0; haveI := @iNoNews P w K mg base B 0; haveI := @mNoNews P w K mg base B 0; haveI := @iX P w K mg base B 0; haveI := @iIst P w K mg base B 0; fun ws H Q E h => r_begin (HC := AA K "Hand") (OC := AA K "Offer")  ws H Q E h)
theorem o4 (B : Kn K mg) : (Gk P w K mg base 4).made "Hand" (AA K "Hand") (p_Hand (AA K "Hand") (AA K "Offer")) := by
  obtain ⟨fd, F⟩ := B.says.def_ 4 (d := d4) rfl
  refine made_at aHand ?_
  exact made_in (k := 2) F B.g_Hand (He.mkr_ok (B.says.fact 22 (f := .mkr "Hand") rfl)) (FunD.bindsN F fun _ _ _ _ _ _ us hl => match us, hl with | [_, _, _], _ => rfl) B.free cd4 (fun ws H Q E h => by first | (obtain ⟨rfl, _⟩ := h; rfl) | (obtain ⟨_, rfl, _⟩ := h; rfl) | (obtain ⟨_, _, rfl, _⟩ := h; rfl) | (obtain ⟨_, _, _, rfl, _⟩ := h; rfl) | (obtain ⟨_, _, _, _, rfl, _⟩ := h; rfl) | (obtain ⟨_, _, _, _, _, rfl, _⟩ := h; rfl) | (obtain ⟨_, _, _, _, _, _, rfl, _⟩ := h; rfl) | (obtain ⟨_, _, _, _, _, _, _, rfl, _⟩ := h; rfl) | (obtain ⟨_, _, _, _, _, _, _, _, rfl, _⟩ := h; rfl) | (obtain ⟨_, _, _, _, _, _, _, _, _, rfl, _⟩ := h; rfl) | (obtain ⟨_, _, _, _, _, _, _, _, _, _, rfl, _⟩ := h; rfl) | (obtain ⟨_, _, _, _, _, _, _, _, _, _, _, rfl, _⟩ := h; rfl) | (obtain ⟨_, _, _, _, _, _, _, _, _, _, _, _, rfl, _⟩ := h; rfl) | (obtain ⟨_, _, _, _, _, _, _, _, _, _, _, _, _, rfl, _⟩ := h; rfl) | (obtain ⟨_, _, _, _, _, _, _, _, _, _, _, _, _, _, rfl, _⟩ := h; rfl) | (obtain ⟨_, _, _, _, _, _, _, _, _, _, _, _, _, _, _, rfl, _⟩ := h; rfl) | (obtain ⟨_, _, _, _, _, _, _, _, _, _, _, _, _, _, _, _, rfl, _⟩ := h; rfl) | (obtain ⟨_, _, _, _, _, _, _, _, _, _, _, _, _, _, _, _, _, rfl, _⟩ := h; rfl)) (haveI := @iHand P w K mg base B 2; haveI := @iOffer P w K mg base B 2; haveI := @iFolk P w K mg base B 2; haveI := @iFolkError P w K mg base B 2; haveI := @mFolkError P w K mg base B 2; haveI := @iBadHand P w K mg base B 2; haveI := @mBadHand P w K mg base B 2; haveI := @iBadList P w K mg base B 2; haveI := @mBadList P w K mg base B 2; haveI := @iNoLetter P w K mg base B 2; haveI := @mNoLetter P w K mg base B 2; haveI := @iFallen P w K mg base B 2; haveI := @mFallen P w K mg base B 2; haveI := @iOutside P w K mg base B 2; haveI := @mOutside P w K mg base B 2; haveI := @iNotFirst P w K mg base B 2; haveI := @mNotFirst P w K mg base B 2; haveI := @iNoNews P w K mg base B 2; haveI := @mNoNews P w K mg base B 2; haveI := @iX P w K mg base B 2; haveI := @iIst P w K mg base B 2; fun ws H Q E h => r_Hand (HC := AA K "Hand") (OC := AA K "Offer") (Gk.mth_up (o5 B) (by decide)) ws H Q E h)
theorem o22 (B : Kn K mg) : (Gk P w K mg base 6).made "Folk" (AA K "Folk") (p_Folk (AA K)) := by
  obtain ⟨fd, F⟩ := B.says.def_ 22 (d := d22) rfl
  refine made_at aFolk ?_
  exact made_in (k := 4) F B.g_Folk (He.mkr_ok (B.says.fact 57 (f := .mkr "Folk") rfl)) (FunD.bindsN F fun _ _ _ _ _ _ us hl => match us, hl with | [_, _, _], _ => rfl) B.free cd22 (fun ws H Q E h => by first | (obtain ⟨rfl, _⟩ := h; rfl) | (obtain ⟨_, rfl, _⟩ := h; rfl) | (obtain ⟨_, _, rfl, _⟩ := h; rfl) | (obtain ⟨_, _, _, rfl, _⟩ := h; rfl) | (obtain ⟨_, _, _, _, rfl, _⟩ := h; rfl) | (obtain ⟨_, _, _, _, _, rfl, _⟩ := h; rfl) | (obtain ⟨_, _, _, _, _, _, rfl, _⟩ := h; rfl) | (obtain ⟨_, _, _, _, _, _, _, rfl, _⟩ := h; rfl) | (obtain ⟨_, _, _, _, _, _, _, _, rfl, _⟩ := h; rfl) | (obtain ⟨_, _, _, _, _, _, _, _, _, rfl, _⟩ := h; rfl) | (obtain ⟨_, _, _, _, _, _, _, _, _, _, rfl, _⟩ := h; rfl) | (obtain ⟨_, _, _, _, _, _, _, _, _, _, _, rfl, _⟩ := h; rfl) | (obtain ⟨_, _, _, _, _, _, _, _, _, _, _, _, rfl, _⟩ := h; rfl) | (obtain ⟨_, _, _, _, _, _, _, _, _, _, _, _, _, rfl, _⟩ := h; rfl) | (obtain ⟨_, _, _, _, _, _, _, _, _, _, _, _, _, _, rfl, _⟩ := h; rfl) | (obtain ⟨_, _, _, _, _, _, _, _, _, _, _, _, _, _, _, rfl, _⟩ := h; rfl) | (obtain ⟨_, _, _, _, _, _, _, _, _, _, _, _, _, _, _, _, rfl, _⟩ := h; rfl) | (obtain ⟨_, _, _, _, _, _, _, _, _, _, _, _, _, _, _, _, _, rfl, _⟩ := h; rfl)) (haveI := @iHand P w K mg base B 4; haveI := @iOffer P w K mg base B 4; haveI := @iFolk P w K mg base B 4; haveI := @iFolkError P w K mg base B 4; haveI := @mFolkError P w K mg base B 4; haveI := @iBadHand P w K mg base B 4; haveI := @mBadHand P w K mg base B 4; haveI := @iBadList P w K mg base B 4; haveI := @mBadList P w K mg base B 4; haveI := @iNoLetter P w K mg base B 4; haveI := @mNoLetter P w K mg base B 4; haveI := @iFallen P w K mg base B 4; haveI := @mFallen P w K mg base B 4; haveI := @iOutside P w K mg base B 4; haveI := @mOutside P w K mg base B 4; haveI := @iNotFirst P w K mg base B 4; haveI := @mNotFirst P w K mg base B 4; haveI := @iNoNews P w K mg base B 4; haveI := @mNoNews P w K mg base B 4; haveI := @iX P w K mg base B 4; haveI := @iIst P w K mg base B 4; fun ws H Q E h => r_Folk (A := AA K) (Gk.fn_up (o1 B) (by decide)) (Gk.fn_up (o2 B) (by decide)) B.i_MOST (Gk.made_up (o4 B) (by decide)) ws H Q E h)
theorem o46 (B : Kn K mg) : (Gk P w K mg base 8).fn "_law_made" (p_made (AA K)) := by
  obtain ⟨fd, F⟩ := B.says.def_ 46 (d := d46) rfl
  exact fn_in (k := 6) F B.g__law_made (FunD.bindsN F fun _ _ _ _ _ _ us hl => match us, hl with | [_, _], _ => rfl) B.free cd46 (fun ws H Q E h => by first | (obtain ⟨rfl, _⟩ := h; rfl) | (obtain ⟨_, rfl, _⟩ := h; rfl) | (obtain ⟨_, _, rfl, _⟩ := h; rfl) | (obtain ⟨_, _, _, rfl, _⟩ := h; rfl) | (obtain ⟨_, _, _, _, rfl, _⟩ := h; rfl) | (obtain ⟨_, _, _, _, _, rfl, _⟩ := h; rfl) | (obtain ⟨_, _, _, _, _, _, rfl, _⟩ := h; rfl) | (obtain ⟨_, _, _, _, _, _, _, rfl, _⟩ := h; rfl) | (obtain ⟨_, _, _, _, _, _, _, _, rfl, _⟩ := h; rfl) | (obtain ⟨_, _, _, _, _, _, _, _, _, rfl, _⟩ := h; rfl) | (obtain ⟨_, _, _, _, _, _, _, _, _, _, rfl, _⟩ := h; rfl) | (obtain ⟨_, _, _, _, _, _, _, _, _, _, _, rfl, _⟩ := h; rfl) | (obtain ⟨_, _, _, _, _, _, _, _, _, _, _, _, rfl, _⟩ := h; rfl) | (obtain ⟨_, _, _, _, _, _, _, _, _, _, _, _, _, rfl, _⟩ := h; rfl) | (obtain ⟨_, _, _, _, _, _, _, _, _, _, _, _, _, _, rfl, _⟩ := h; rfl) | (obtain ⟨_, _, _, _, _, _, _, _, _, _, _, _, _, _, _, rfl, _⟩ := h; rfl) | (obtain ⟨_, _, _, _, _, _, _, _, _, _, _, _, _, _, _, _, rfl, _⟩ := h; rfl) | (obtain ⟨_, _, _, _, _, _, _, _, _, _, _, _, _, _, _, _, _, rfl, _⟩ := h; rfl)) (haveI := @iHand P w K mg base B 6; haveI := @iOffer P w K mg base B 6; haveI := @iFolk P w K mg base B 6; haveI := @iFolkError P w K mg base B 6; haveI := @mFolkError P w K mg base B 6; haveI := @iBadHand P w K mg base B 6; haveI := @mBadHand P w K mg base B 6; haveI := @iBadList P w K mg base B 6; haveI := @mBadList P w K mg base B 6; haveI := @iNoLetter P w K mg base B 6; haveI := @mNoLetter P w K mg base B 6; haveI := @iFallen P w K mg base B 6; haveI := @mFallen P w K mg base B 6; haveI := @iOutside P w K mg base B 6; haveI := @mOutside P w K mg base B 6; haveI := @iNotFirst P w K mg base B 6; haveI := @mNotFirst P w K mg base B 6; haveI := @iNoNews P w K mg base B 6; haveI := @mNoNews P w K mg base B 6; haveI := @iX P w K mg base B 6; haveI := @iIst P w K mg base B 6; fun ws H Q E h => r_made (A := AA K) (oW B 5) (Gk.made_up (o22 B) (by decide)) ws H Q E h)
theorem o23 (B : Kn K mg) : (Gk P w K mg base 4).mth (AA K "Folk") "one" (p_one (AA K)) := by
  obtain ⟨fd, F⟩ := B.says.def_ 23 (d := d23) rfl
  refine mth_at aFolk ?_
  exact mth_in (k := 2) F (He.cls_ok (B.says.fact 56 (f := .cls "Folk") rfl)) (He.meth_ok (B.says.fact 59 (f := .meth "Folk" "one") rfl)) (FunD.bindsN F fun _ _ _ _ _ _ us hl => match us, hl with | [_, _], _ => rfl) B.free cd23 (fun ws H Q E h => by first | (obtain ⟨rfl, _⟩ := h; rfl) | (obtain ⟨_, rfl, _⟩ := h; rfl) | (obtain ⟨_, _, rfl, _⟩ := h; rfl) | (obtain ⟨_, _, _, rfl, _⟩ := h; rfl) | (obtain ⟨_, _, _, _, rfl, _⟩ := h; rfl) | (obtain ⟨_, _, _, _, _, rfl, _⟩ := h; rfl) | (obtain ⟨_, _, _, _, _, _, rfl, _⟩ := h; rfl) | (obtain ⟨_, _, _, _, _, _, _, rfl, _⟩ := h; rfl) | (obtain ⟨_, _, _, _, _, _, _, _, rfl, _⟩ := h; rfl) | (obtain ⟨_, _, _, _, _, _, _, _, _, rfl, _⟩ := h; rfl) | (obtain ⟨_, _, _, _, _, _, _, _, _, _, rfl, _⟩ := h; rfl) | (obtain ⟨_, _, _, _, _, _, _, _, _, _, _, rfl, _⟩ := h; rfl) | (obtain ⟨_, _, _, _, _, _, _, _, _, _, _, _, rfl, _⟩ := h; rfl) | (obtain ⟨_, _, _, _, _, _, _, _, _, _, _, _, _, rfl, _⟩ := h; rfl) | (obtain ⟨_, _, _, _, _, _, _, _, _, _, _, _, _, _, rfl, _⟩ := h; rfl) | (obtain ⟨_, _, _, _, _, _, _, _, _, _, _, _, _, _, _, rfl, _⟩ := h; rfl) | (obtain ⟨_, _, _, _, _, _, _, _, _, _, _, _, _, _, _, _, rfl, _⟩ := h; rfl) | (obtain ⟨_, _, _, _, _, _, _, _, _, _, _, _, _, _, _, _, _, rfl, _⟩ := h; rfl)) (haveI := @iHand P w K mg base B 2; haveI := @iOffer P w K mg base B 2; haveI := @iFolk P w K mg base B 2; haveI := @iFolkError P w K mg base B 2; haveI := @mFolkError P w K mg base B 2; haveI := @iBadHand P w K mg base B 2; haveI := @mBadHand P w K mg base B 2; haveI := @iBadList P w K mg base B 2; haveI := @mBadList P w K mg base B 2; haveI := @iNoLetter P w K mg base B 2; haveI := @mNoLetter P w K mg base B 2; haveI := @iFallen P w K mg base B 2; haveI := @mFallen P w K mg base B 2; haveI := @iOutside P w K mg base B 2; haveI := @mOutside P w K mg base B 2; haveI := @iNotFirst P w K mg base B 2; haveI := @mNotFirst P w K mg base B 2; haveI := @iNoNews P w K mg base B 2; haveI := @mNoNews P w K mg base B 2; haveI := @iX P w K mg base B 2; haveI := @iIst P w K mg base B 2; fun ws H Q E h => r_one (A := AA K) (Gk.fn_up (o1 B) (by decide)) ws H Q E h)
theorem o6 (B : Kn K mg) : (Gk P w K mg base 2).mth (AA K "Hand") "within" (p_within (AA K "Hand") (AA K "Offer")) := by
  obtain ⟨fd, F⟩ := B.says.def_ 6 (d := d6) rfl
  refine mth_at aHand ?_
  exact mth_in (k := 0) F (He.cls_ok (B.says.fact 21 (f := .cls "Hand") rfl)) (He.meth_ok (B.says.fact 25 (f := .meth "Hand" "within") rfl)) (FunD.bindsN F fun _ _ _ _ _ _ us hl => match us, hl with | [_], _ => rfl) B.free cd6 (fun ws H Q E h => by first | (obtain ⟨rfl, _⟩ := h; rfl) | (obtain ⟨_, rfl, _⟩ := h; rfl) | (obtain ⟨_, _, rfl, _⟩ := h; rfl) | (obtain ⟨_, _, _, rfl, _⟩ := h; rfl) | (obtain ⟨_, _, _, _, rfl, _⟩ := h; rfl) | (obtain ⟨_, _, _, _, _, rfl, _⟩ := h; rfl) | (obtain ⟨_, _, _, _, _, _, rfl, _⟩ := h; rfl) | (obtain ⟨_, _, _, _, _, _, _, rfl, _⟩ := h; rfl) | (obtain ⟨_, _, _, _, _, _, _, _, rfl, _⟩ := h; rfl) | (obtain ⟨_, _, _, _, _, _, _, _, _, rfl, _⟩ := h; rfl) | (obtain ⟨_, _, _, _, _, _, _, _, _, _, rfl, _⟩ := h; rfl) | (obtain ⟨_, _, _, _, _, _, _, _, _, _, _, rfl, _⟩ := h; rfl) | (obtain ⟨_, _, _, _, _, _, _, _, _, _, _, _, rfl, _⟩ := h; rfl) | (obtain ⟨_, _, _, _, _, _, _, _, _, _, _, _, _, rfl, _⟩ := h; rfl) | (obtain ⟨_, _, _, _, _, _, _, _, _, _, _, _, _, _, rfl, _⟩ := h; rfl) | (obtain ⟨_, _, _, _, _, _, _, _, _, _, _, _, _, _, _, rfl, _⟩ := h; rfl) | (obtain ⟨_, _, _, _, _, _, _, _, _, _, _, _, _, _, _, _, rfl, _⟩ := h; rfl) | (obtain ⟨_, _, _, _, _, _, _, _, _, _, _, _, _, _, _, _, _, rfl, _⟩ := h; rfl)) (haveI := @iHand P w K mg base B 0; haveI := @iOffer P w K mg base B 0; haveI := @iFolk P w K mg base B 0; haveI := @iFolkError P w K mg base B 0; haveI := @mFolkError P w K mg base B 0; haveI := @iBadHand P w K mg base B 0; haveI := @mBadHand P w K mg base B 0; haveI := @iBadList P w K mg base B 0; haveI := @mBadList P w K mg base B 0; haveI := @iNoLetter P w K mg base B 0; haveI := @mNoLetter P w K mg base B 0; haveI := @iFallen P w K mg base B 0; haveI := @mFallen P w K mg base B 0; haveI := @iOutside P w K mg base B 0; haveI := @mOutside P w K mg base B 0; haveI := @iNotFirst P w K mg base B 0; haveI := @mNotFirst P w K mg base B 0; haveI := @iNoNews P w K mg base B 0; haveI := @mNoNews P w K mg base B 0; haveI := @iX P w K mg base B 0; haveI := @iIst P w K mg base B 0; fun ws H Q E h => r_within (HC := AA K "Hand") (OC := AA K "Offer")  ws H Q E h)
theorem o25 (B : Kn K mg) : (Gk P w K mg base 6).mth (AA K "Folk") "member" (p_member (AA K)) := by
  obtain ⟨fd, F⟩ := B.says.def_ 25 (d := d25) rfl
  refine mth_at aFolk ?_
  exact mth_in (k := 4) F (He.cls_ok (B.says.fact 56 (f := .cls "Folk") rfl)) (He.meth_ok (B.says.fact 61 (f := .meth "Folk" "member") rfl)) (FunD.bindsN F fun _ _ _ _ _ _ us hl => match us, hl with | [_, _], _ => rfl) B.free cd25 (fun ws H Q E h => by first | (obtain ⟨rfl, _⟩ := h; rfl) | (obtain ⟨_, rfl, _⟩ := h; rfl) | (obtain ⟨_, _, rfl, _⟩ := h; rfl) | (obtain ⟨_, _, _, rfl, _⟩ := h; rfl) | (obtain ⟨_, _, _, _, rfl, _⟩ := h; rfl) | (obtain ⟨_, _, _, _, _, rfl, _⟩ := h; rfl) | (obtain ⟨_, _, _, _, _, _, rfl, _⟩ := h; rfl) | (obtain ⟨_, _, _, _, _, _, _, rfl, _⟩ := h; rfl) | (obtain ⟨_, _, _, _, _, _, _, _, rfl, _⟩ := h; rfl) | (obtain ⟨_, _, _, _, _, _, _, _, _, rfl, _⟩ := h; rfl) | (obtain ⟨_, _, _, _, _, _, _, _, _, _, rfl, _⟩ := h; rfl) | (obtain ⟨_, _, _, _, _, _, _, _, _, _, _, rfl, _⟩ := h; rfl) | (obtain ⟨_, _, _, _, _, _, _, _, _, _, _, _, rfl, _⟩ := h; rfl) | (obtain ⟨_, _, _, _, _, _, _, _, _, _, _, _, _, rfl, _⟩ := h; rfl) | (obtain ⟨_, _, _, _, _, _, _, _, _, _, _, _, _, _, rfl, _⟩ := h; rfl) | (obtain ⟨_, _, _, _, _, _, _, _, _, _, _, _, _, _, _, rfl, _⟩ := h; rfl) | (obtain ⟨_, _, _, _, _, _, _, _, _, _, _, _, _, _, _, _, rfl, _⟩ := h; rfl) | (obtain ⟨_, _, _, _, _, _, _, _, _, _, _, _, _, _, _, _, _, rfl, _⟩ := h; rfl)) (haveI := @iHand P w K mg base B 4; haveI := @iOffer P w K mg base B 4; haveI := @iFolk P w K mg base B 4; haveI := @iFolkError P w K mg base B 4; haveI := @mFolkError P w K mg base B 4; haveI := @iBadHand P w K mg base B 4; haveI := @mBadHand P w K mg base B 4; haveI := @iBadList P w K mg base B 4; haveI := @mBadList P w K mg base B 4; haveI := @iNoLetter P w K mg base B 4; haveI := @mNoLetter P w K mg base B 4; haveI := @iFallen P w K mg base B 4; haveI := @mFallen P w K mg base B 4; haveI := @iOutside P w K mg base B 4; haveI := @mOutside P w K mg base B 4; haveI := @iNotFirst P w K mg base B 4; haveI := @mNotFirst P w K mg base B 4; haveI := @iNoNews P w K mg base B 4; haveI := @mNoNews P w K mg base B 4; haveI := @iX P w K mg base B 4; haveI := @iIst P w K mg base B 4; fun ws H Q E h => r_member (A := AA K) (Gk.mth_up (o23 B) (by decide)) (Gk.mth_up (o6 B) (by decide)) ws H Q E h)
theorem o38 (B : Kn K mg) : (Gk P w K mg base 8).mth (AA K "Folk") "list_of" (p_flist_of (AA K)) := by
  obtain ⟨fd, F⟩ := B.says.def_ 38 (d := d38) rfl
  refine mth_at aFolk ?_
  exact mth_in (k := 6) F (He.cls_ok (B.says.fact 56 (f := .cls "Folk") rfl)) (He.meth_ok (B.says.fact 74 (f := .meth "Folk" "list_of") rfl)) (FunD.bindsN F fun _ _ _ _ _ _ us hl => match us, hl with | [_, _], _ => rfl) B.free cd38 (fun ws H Q E h => by first | (obtain ⟨rfl, _⟩ := h; rfl) | (obtain ⟨_, rfl, _⟩ := h; rfl) | (obtain ⟨_, _, rfl, _⟩ := h; rfl) | (obtain ⟨_, _, _, rfl, _⟩ := h; rfl) | (obtain ⟨_, _, _, _, rfl, _⟩ := h; rfl) | (obtain ⟨_, _, _, _, _, rfl, _⟩ := h; rfl) | (obtain ⟨_, _, _, _, _, _, rfl, _⟩ := h; rfl) | (obtain ⟨_, _, _, _, _, _, _, rfl, _⟩ := h; rfl) | (obtain ⟨_, _, _, _, _, _, _, _, rfl, _⟩ := h; rfl) | (obtain ⟨_, _, _, _, _, _, _, _, _, rfl, _⟩ := h; rfl) | (obtain ⟨_, _, _, _, _, _, _, _, _, _, rfl, _⟩ := h; rfl) | (obtain ⟨_, _, _, _, _, _, _, _, _, _, _, rfl, _⟩ := h; rfl) | (obtain ⟨_, _, _, _, _, _, _, _, _, _, _, _, rfl, _⟩ := h; rfl) | (obtain ⟨_, _, _, _, _, _, _, _, _, _, _, _, _, rfl, _⟩ := h; rfl) | (obtain ⟨_, _, _, _, _, _, _, _, _, _, _, _, _, _, rfl, _⟩ := h; rfl) | (obtain ⟨_, _, _, _, _, _, _, _, _, _, _, _, _, _, _, rfl, _⟩ := h; rfl) | (obtain ⟨_, _, _, _, _, _, _, _, _, _, _, _, _, _, _, _, rfl, _⟩ := h; rfl) | (obtain ⟨_, _, _, _, _, _, _, _, _, _, _, _, _, _, _, _, _, rfl, _⟩ := h; rfl)) (haveI := @iHand P w K mg base B 6; haveI := @iOffer P w K mg base B 6; haveI := @iFolk P w K mg base B 6; haveI := @iFolkError P w K mg base B 6; haveI := @mFolkError P w K mg base B 6; haveI := @iBadHand P w K mg base B 6; haveI := @mBadHand P w K mg base B 6; haveI := @iBadList P w K mg base B 6; haveI := @mBadList P w K mg base B 6; haveI := @iNoLetter P w K mg base B 6; haveI := @mNoLetter P w K mg base B 6; haveI := @iFallen P w K mg base B 6; haveI := @mFallen P w K mg base B 6; haveI := @iOutside P w K mg base B 6; haveI := @mOutside P w K mg base B 6; haveI := @iNotFirst P w K mg base B 6; haveI := @mNotFirst P w K mg base B 6; haveI := @iNoNews P w K mg base B 6; haveI := @mNoNews P w K mg base B 6; haveI := @iX P w K mg base B 6; haveI := @iIst P w K mg base B 6; fun ws H Q E h => r_flist_of (A := AA K) (Gk.mth_up (o25 B) (by decide)) ws H Q E h)
theorem o39 (B : Kn K mg) : (Gk P w K mg base 8).mth (AA K "Folk") "taken" (p_ftaken (AA K)) := by
  obtain ⟨fd, F⟩ := B.says.def_ 39 (d := d39) rfl
  refine mth_at aFolk ?_
  exact mth_in (k := 6) F (He.cls_ok (B.says.fact 56 (f := .cls "Folk") rfl)) (He.meth_ok (B.says.fact 75 (f := .meth "Folk" "taken") rfl)) (FunD.bindsN F fun _ _ _ _ _ _ us hl => match us, hl with | [_, _], _ => rfl) B.free cd39 (fun ws H Q E h => by first | (obtain ⟨rfl, _⟩ := h; rfl) | (obtain ⟨_, rfl, _⟩ := h; rfl) | (obtain ⟨_, _, rfl, _⟩ := h; rfl) | (obtain ⟨_, _, _, rfl, _⟩ := h; rfl) | (obtain ⟨_, _, _, _, rfl, _⟩ := h; rfl) | (obtain ⟨_, _, _, _, _, rfl, _⟩ := h; rfl) | (obtain ⟨_, _, _, _, _, _, rfl, _⟩ := h; rfl) | (obtain ⟨_, _, _, _, _, _, _, rfl, _⟩ := h; rfl) | (obtain ⟨_, _, _, _, _, _, _, _, rfl, _⟩ := h; rfl) | (obtain ⟨_, _, _, _, _, _, _, _, _, rfl, _⟩ := h; rfl) | (obtain ⟨_, _, _, _, _, _, _, _, _, _, rfl, _⟩ := h; rfl) | (obtain ⟨_, _, _, _, _, _, _, _, _, _, _, rfl, _⟩ := h; rfl) | (obtain ⟨_, _, _, _, _, _, _, _, _, _, _, _, rfl, _⟩ := h; rfl) | (obtain ⟨_, _, _, _, _, _, _, _, _, _, _, _, _, rfl, _⟩ := h; rfl) | (obtain ⟨_, _, _, _, _, _, _, _, _, _, _, _, _, _, rfl, _⟩ := h; rfl) | (obtain ⟨_, _, _, _, _, _, _, _, _, _, _, _, _, _, _, rfl, _⟩ := h; rfl) | (obtain ⟨_, _, _, _, _, _, _, _, _, _, _, _, _, _, _, _, rfl, _⟩ := h; rfl) | (obtain ⟨_, _, _, _, _, _, _, _, _, _, _, _, _, _, _, _, _, rfl, _⟩ := h; rfl)) (haveI := @iHand P w K mg base B 6; haveI := @iOffer P w K mg base B 6; haveI := @iFolk P w K mg base B 6; haveI := @iFolkError P w K mg base B 6; haveI := @mFolkError P w K mg base B 6; haveI := @iBadHand P w K mg base B 6; haveI := @mBadHand P w K mg base B 6; haveI := @iBadList P w K mg base B 6; haveI := @mBadList P w K mg base B 6; haveI := @iNoLetter P w K mg base B 6; haveI := @mNoLetter P w K mg base B 6; haveI := @iFallen P w K mg base B 6; haveI := @mFallen P w K mg base B 6; haveI := @iOutside P w K mg base B 6; haveI := @mOutside P w K mg base B 6; haveI := @iNotFirst P w K mg base B 6; haveI := @mNotFirst P w K mg base B 6; haveI := @iNoNews P w K mg base B 6; haveI := @mNoNews P w K mg base B 6; haveI := @iX P w K mg base B 6; haveI := @iIst P w K mg base B 6; fun ws H Q E h => r_ftaken (A := AA K) (Gk.mth_up (o25 B) (by decide)) ws H Q E h)
theorem o40 (B : Kn K mg) : (Gk P w K mg base 8).mth (AA K "Folk") "is_still" (p_fstill (AA K)) := by
  obtain ⟨fd, F⟩ := B.says.def_ 40 (d := d40) rfl
  refine mth_at aFolk ?_
  exact mth_in (k := 6) F (He.cls_ok (B.says.fact 56 (f := .cls "Folk") rfl)) (He.meth_ok (B.says.fact 76 (f := .meth "Folk" "is_still") rfl)) (FunD.bindsN F fun _ _ _ _ _ _ us hl => match us, hl with | [_, _], _ => rfl) B.free cd40 (fun ws H Q E h => by first | (obtain ⟨rfl, _⟩ := h; rfl) | (obtain ⟨_, rfl, _⟩ := h; rfl) | (obtain ⟨_, _, rfl, _⟩ := h; rfl) | (obtain ⟨_, _, _, rfl, _⟩ := h; rfl) | (obtain ⟨_, _, _, _, rfl, _⟩ := h; rfl) | (obtain ⟨_, _, _, _, _, rfl, _⟩ := h; rfl) | (obtain ⟨_, _, _, _, _, _, rfl, _⟩ := h; rfl) | (obtain ⟨_, _, _, _, _, _, _, rfl, _⟩ := h; rfl) | (obtain ⟨_, _, _, _, _, _, _, _, rfl, _⟩ := h; rfl) | (obtain ⟨_, _, _, _, _, _, _, _, _, rfl, _⟩ := h; rfl) | (obtain ⟨_, _, _, _, _, _, _, _, _, _, rfl, _⟩ := h; rfl) | (obtain ⟨_, _, _, _, _, _, _, _, _, _, _, rfl, _⟩ := h; rfl) | (obtain ⟨_, _, _, _, _, _, _, _, _, _, _, _, rfl, _⟩ := h; rfl) | (obtain ⟨_, _, _, _, _, _, _, _, _, _, _, _, _, rfl, _⟩ := h; rfl) | (obtain ⟨_, _, _, _, _, _, _, _, _, _, _, _, _, _, rfl, _⟩ := h; rfl) | (obtain ⟨_, _, _, _, _, _, _, _, _, _, _, _, _, _, _, rfl, _⟩ := h; rfl) | (obtain ⟨_, _, _, _, _, _, _, _, _, _, _, _, _, _, _, _, rfl, _⟩ := h; rfl) | (obtain ⟨_, _, _, _, _, _, _, _, _, _, _, _, _, _, _, _, _, rfl, _⟩ := h; rfl)) (haveI := @iHand P w K mg base B 6; haveI := @iOffer P w K mg base B 6; haveI := @iFolk P w K mg base B 6; haveI := @iFolkError P w K mg base B 6; haveI := @mFolkError P w K mg base B 6; haveI := @iBadHand P w K mg base B 6; haveI := @mBadHand P w K mg base B 6; haveI := @iBadList P w K mg base B 6; haveI := @mBadList P w K mg base B 6; haveI := @iNoLetter P w K mg base B 6; haveI := @mNoLetter P w K mg base B 6; haveI := @iFallen P w K mg base B 6; haveI := @mFallen P w K mg base B 6; haveI := @iOutside P w K mg base B 6; haveI := @mOutside P w K mg base B 6; haveI := @iNotFirst P w K mg base B 6; haveI := @mNotFirst P w K mg base B 6; haveI := @iNoNews P w K mg base B 6; haveI := @mNoNews P w K mg base B 6; haveI := @iX P w K mg base B 6; haveI := @iIst P w K mg base B 6; fun ws H Q E h => r_fstill (A := AA K) (Gk.mth_up (o25 B) (by decide)) ws H Q E h)
theorem o41 (B : Kn K mg) : (Gk P w K mg base 8).mth (AA K "Folk") "witness" (p_fwitness (AA K)) := by
  obtain ⟨fd, F⟩ := B.says.def_ 41 (d := d41) rfl
  refine mth_at aFolk ?_
  exact mth_in (k := 6) F (He.cls_ok (B.says.fact 56 (f := .cls "Folk") rfl)) (He.meth_ok (B.says.fact 77 (f := .meth "Folk" "witness") rfl)) (FunD.bindsN F fun _ _ _ _ _ _ us hl => match us, hl with | [_, _], _ => rfl) B.free cd41 (fun ws H Q E h => by first | (obtain ⟨rfl, _⟩ := h; rfl) | (obtain ⟨_, rfl, _⟩ := h; rfl) | (obtain ⟨_, _, rfl, _⟩ := h; rfl) | (obtain ⟨_, _, _, rfl, _⟩ := h; rfl) | (obtain ⟨_, _, _, _, rfl, _⟩ := h; rfl) | (obtain ⟨_, _, _, _, _, rfl, _⟩ := h; rfl) | (obtain ⟨_, _, _, _, _, _, rfl, _⟩ := h; rfl) | (obtain ⟨_, _, _, _, _, _, _, rfl, _⟩ := h; rfl) | (obtain ⟨_, _, _, _, _, _, _, _, rfl, _⟩ := h; rfl) | (obtain ⟨_, _, _, _, _, _, _, _, _, rfl, _⟩ := h; rfl) | (obtain ⟨_, _, _, _, _, _, _, _, _, _, rfl, _⟩ := h; rfl) | (obtain ⟨_, _, _, _, _, _, _, _, _, _, _, rfl, _⟩ := h; rfl) | (obtain ⟨_, _, _, _, _, _, _, _, _, _, _, _, rfl, _⟩ := h; rfl) | (obtain ⟨_, _, _, _, _, _, _, _, _, _, _, _, _, rfl, _⟩ := h; rfl) | (obtain ⟨_, _, _, _, _, _, _, _, _, _, _, _, _, _, rfl, _⟩ := h; rfl) | (obtain ⟨_, _, _, _, _, _, _, _, _, _, _, _, _, _, _, rfl, _⟩ := h; rfl) | (obtain ⟨_, _, _, _, _, _, _, _, _, _, _, _, _, _, _, _, rfl, _⟩ := h; rfl) | (obtain ⟨_, _, _, _, _, _, _, _, _, _, _, _, _, _, _, _, _, rfl, _⟩ := h; rfl)) (haveI := @iHand P w K mg base B 6; haveI := @iOffer P w K mg base B 6; haveI := @iFolk P w K mg base B 6; haveI := @iFolkError P w K mg base B 6; haveI := @mFolkError P w K mg base B 6; haveI := @iBadHand P w K mg base B 6; haveI := @mBadHand P w K mg base B 6; haveI := @iBadList P w K mg base B 6; haveI := @mBadList P w K mg base B 6; haveI := @iNoLetter P w K mg base B 6; haveI := @mNoLetter P w K mg base B 6; haveI := @iFallen P w K mg base B 6; haveI := @mFallen P w K mg base B 6; haveI := @iOutside P w K mg base B 6; haveI := @mOutside P w K mg base B 6; haveI := @iNotFirst P w K mg base B 6; haveI := @mNotFirst P w K mg base B 6; haveI := @iNoNews P w K mg base B 6; haveI := @mNoNews P w K mg base B 6; haveI := @iX P w K mg base B 6; haveI := @iIst P w K mg base B 6; fun ws H Q E h => r_fwitness (A := AA K) (Gk.mth_up (o25 B) (by decide)) ws H Q E h)
theorem o42 (B : Kn K mg) : (Gk P w K mg base 6).mth (AA K "Folk") "past" (p_fpast (AA K)) := by
  obtain ⟨fd, F⟩ := B.says.def_ 42 (d := d42) rfl
  refine mth_at aFolk ?_
  exact mth_in (k := 4) F (He.cls_ok (B.says.fact 56 (f := .cls "Folk") rfl)) (He.meth_ok (B.says.fact 78 (f := .meth "Folk" "past") rfl)) (FunD.bindsN F fun _ _ _ _ _ _ us hl => match us, hl with | [_, _], _ => rfl) B.free cd42 (fun ws H Q E h => by first | (obtain ⟨rfl, _⟩ := h; rfl) | (obtain ⟨_, rfl, _⟩ := h; rfl) | (obtain ⟨_, _, rfl, _⟩ := h; rfl) | (obtain ⟨_, _, _, rfl, _⟩ := h; rfl) | (obtain ⟨_, _, _, _, rfl, _⟩ := h; rfl) | (obtain ⟨_, _, _, _, _, rfl, _⟩ := h; rfl) | (obtain ⟨_, _, _, _, _, _, rfl, _⟩ := h; rfl) | (obtain ⟨_, _, _, _, _, _, _, rfl, _⟩ := h; rfl) | (obtain ⟨_, _, _, _, _, _, _, _, rfl, _⟩ := h; rfl) | (obtain ⟨_, _, _, _, _, _, _, _, _, rfl, _⟩ := h; rfl) | (obtain ⟨_, _, _, _, _, _, _, _, _, _, rfl, _⟩ := h; rfl) | (obtain ⟨_, _, _, _, _, _, _, _, _, _, _, rfl, _⟩ := h; rfl) | (obtain ⟨_, _, _, _, _, _, _, _, _, _, _, _, rfl, _⟩ := h; rfl) | (obtain ⟨_, _, _, _, _, _, _, _, _, _, _, _, _, rfl, _⟩ := h; rfl) | (obtain ⟨_, _, _, _, _, _, _, _, _, _, _, _, _, _, rfl, _⟩ := h; rfl) | (obtain ⟨_, _, _, _, _, _, _, _, _, _, _, _, _, _, _, rfl, _⟩ := h; rfl) | (obtain ⟨_, _, _, _, _, _, _, _, _, _, _, _, _, _, _, _, rfl, _⟩ := h; rfl) | (obtain ⟨_, _, _, _, _, _, _, _, _, _, _, _, _, _, _, _, _, rfl, _⟩ := h; rfl)) (haveI := @iHand P w K mg base B 4; haveI := @iOffer P w K mg base B 4; haveI := @iFolk P w K mg base B 4; haveI := @iFolkError P w K mg base B 4; haveI := @mFolkError P w K mg base B 4; haveI := @iBadHand P w K mg base B 4; haveI := @mBadHand P w K mg base B 4; haveI := @iBadList P w K mg base B 4; haveI := @mBadList P w K mg base B 4; haveI := @iNoLetter P w K mg base B 4; haveI := @mNoLetter P w K mg base B 4; haveI := @iFallen P w K mg base B 4; haveI := @mFallen P w K mg base B 4; haveI := @iOutside P w K mg base B 4; haveI := @mOutside P w K mg base B 4; haveI := @iNotFirst P w K mg base B 4; haveI := @mNotFirst P w K mg base B 4; haveI := @iNoNews P w K mg base B 4; haveI := @mNoNews P w K mg base B 4; haveI := @iX P w K mg base B 4; haveI := @iIst P w K mg base B 4; fun ws H Q E h => r_fpast (A := AA K) (Gk.mth_up (o23 B) (by decide)) ws H Q E h)
theorem o24 (B : Kn K mg) : (Gk P w K mg base 6).mth (AA K "Folk") "stands" (p_fstands (AA K)) := by
  obtain ⟨fd, F⟩ := B.says.def_ 24 (d := d24) rfl
  refine mth_at aFolk ?_
  exact mth_in (k := 4) F (He.cls_ok (B.says.fact 56 (f := .cls "Folk") rfl)) (He.meth_ok (B.says.fact 60 (f := .meth "Folk" "stands") rfl)) (FunD.bindsN F fun _ _ _ _ _ _ us hl => match us, hl with | [_, _], _ => rfl) B.free cd24 (fun ws H Q E h => by first | (obtain ⟨rfl, _⟩ := h; rfl) | (obtain ⟨_, rfl, _⟩ := h; rfl) | (obtain ⟨_, _, rfl, _⟩ := h; rfl) | (obtain ⟨_, _, _, rfl, _⟩ := h; rfl) | (obtain ⟨_, _, _, _, rfl, _⟩ := h; rfl) | (obtain ⟨_, _, _, _, _, rfl, _⟩ := h; rfl) | (obtain ⟨_, _, _, _, _, _, rfl, _⟩ := h; rfl) | (obtain ⟨_, _, _, _, _, _, _, rfl, _⟩ := h; rfl) | (obtain ⟨_, _, _, _, _, _, _, _, rfl, _⟩ := h; rfl) | (obtain ⟨_, _, _, _, _, _, _, _, _, rfl, _⟩ := h; rfl) | (obtain ⟨_, _, _, _, _, _, _, _, _, _, rfl, _⟩ := h; rfl) | (obtain ⟨_, _, _, _, _, _, _, _, _, _, _, rfl, _⟩ := h; rfl) | (obtain ⟨_, _, _, _, _, _, _, _, _, _, _, _, rfl, _⟩ := h; rfl) | (obtain ⟨_, _, _, _, _, _, _, _, _, _, _, _, _, rfl, _⟩ := h; rfl) | (obtain ⟨_, _, _, _, _, _, _, _, _, _, _, _, _, _, rfl, _⟩ := h; rfl) | (obtain ⟨_, _, _, _, _, _, _, _, _, _, _, _, _, _, _, rfl, _⟩ := h; rfl) | (obtain ⟨_, _, _, _, _, _, _, _, _, _, _, _, _, _, _, _, rfl, _⟩ := h; rfl) | (obtain ⟨_, _, _, _, _, _, _, _, _, _, _, _, _, _, _, _, _, rfl, _⟩ := h; rfl)) (haveI := @iHand P w K mg base B 4; haveI := @iOffer P w K mg base B 4; haveI := @iFolk P w K mg base B 4; haveI := @iFolkError P w K mg base B 4; haveI := @mFolkError P w K mg base B 4; haveI := @iBadHand P w K mg base B 4; haveI := @mBadHand P w K mg base B 4; haveI := @iBadList P w K mg base B 4; haveI := @mBadList P w K mg base B 4; haveI := @iNoLetter P w K mg base B 4; haveI := @mNoLetter P w K mg base B 4; haveI := @iFallen P w K mg base B 4; haveI := @mFallen P w K mg base B 4; haveI := @iOutside P w K mg base B 4; haveI := @mOutside P w K mg base B 4; haveI := @iNotFirst P w K mg base B 4; haveI := @mNotFirst P w K mg base B 4; haveI := @iNoNews P w K mg base B 4; haveI := @mNoNews P w K mg base B 4; haveI := @iX P w K mg base B 4; haveI := @iIst P w K mg base B 4; fun ws H Q E h => r_fstands (A := AA K) (Gk.mth_up (o23 B) (by decide)) ws H Q E h)
theorem o47 (B : Kn K mg) : (Gk P w K mg base 10).fn "_law_asked" (p_asked_k02 (AA K)) := by
  obtain ⟨fd, F⟩ := B.says.def_ 47 (d := d47) rfl
  exact fn_in (k := 8) F B.g__law_asked (FunD.bindsN F fun _ _ _ _ _ _ us hl => match us, hl with | [_, _, _], _ => rfl) B.free cd47 (fun ws H Q E h => by first | (obtain ⟨rfl, _⟩ := h; rfl) | (obtain ⟨_, rfl, _⟩ := h; rfl) | (obtain ⟨_, _, rfl, _⟩ := h; rfl) | (obtain ⟨_, _, _, rfl, _⟩ := h; rfl) | (obtain ⟨_, _, _, _, rfl, _⟩ := h; rfl) | (obtain ⟨_, _, _, _, _, rfl, _⟩ := h; rfl) | (obtain ⟨_, _, _, _, _, _, rfl, _⟩ := h; rfl) | (obtain ⟨_, _, _, _, _, _, _, rfl, _⟩ := h; rfl) | (obtain ⟨_, _, _, _, _, _, _, _, rfl, _⟩ := h; rfl) | (obtain ⟨_, _, _, _, _, _, _, _, _, rfl, _⟩ := h; rfl) | (obtain ⟨_, _, _, _, _, _, _, _, _, _, rfl, _⟩ := h; rfl) | (obtain ⟨_, _, _, _, _, _, _, _, _, _, _, rfl, _⟩ := h; rfl) | (obtain ⟨_, _, _, _, _, _, _, _, _, _, _, _, rfl, _⟩ := h; rfl) | (obtain ⟨_, _, _, _, _, _, _, _, _, _, _, _, _, rfl, _⟩ := h; rfl) | (obtain ⟨_, _, _, _, _, _, _, _, _, _, _, _, _, _, rfl, _⟩ := h; rfl) | (obtain ⟨_, _, _, _, _, _, _, _, _, _, _, _, _, _, _, rfl, _⟩ := h; rfl) | (obtain ⟨_, _, _, _, _, _, _, _, _, _, _, _, _, _, _, _, rfl, _⟩ := h; rfl) | (obtain ⟨_, _, _, _, _, _, _, _, _, _, _, _, _, _, _, _, _, rfl, _⟩ := h; rfl)) (haveI := @iHand P w K mg base B 8; haveI := @iOffer P w K mg base B 8; haveI := @iFolk P w K mg base B 8; haveI := @iFolkError P w K mg base B 8; haveI := @mFolkError P w K mg base B 8; haveI := @iBadHand P w K mg base B 8; haveI := @mBadHand P w K mg base B 8; haveI := @iBadList P w K mg base B 8; haveI := @mBadList P w K mg base B 8; haveI := @iNoLetter P w K mg base B 8; haveI := @mNoLetter P w K mg base B 8; haveI := @iFallen P w K mg base B 8; haveI := @mFallen P w K mg base B 8; haveI := @iOutside P w K mg base B 8; haveI := @mOutside P w K mg base B 8; haveI := @iNotFirst P w K mg base B 8; haveI := @mNotFirst P w K mg base B 8; haveI := @iNoNews P w K mg base B 8; haveI := @mNoNews P w K mg base B 8; haveI := @iX P w K mg base B 8; haveI := @iIst P w K mg base B 8; fun ws H Q E h => r_asked_k02 (A := AA K) (oW B 7) (Gk.mth_up (o38 B) (by decide)) (Gk.mth_up (o39 B) (by decide)) (Gk.mth_up (o40 B) (by decide)) (Gk.mth_up (o41 B) (by decide)) (Gk.mth_up (o42 B) (by decide)) (Gk.mth_up (o24 B) (by decide)) ws H Q E h)
theorem o48 (B : Kn K mg) : (Gk P w K mg base 12).fn "_law_right" (p_right_k02 (AA K)) := by
  obtain ⟨fd, F⟩ := B.says.def_ 48 (d := d48) rfl
  exact fn_in (k := 10) F B.g__law_right (FunD.bindsN F fun _ _ _ _ _ _ us hl => match us, hl with | [_, _, _], _ => rfl) B.free cd48 (fun ws H Q E h => by first | (obtain ⟨rfl, _⟩ := h; rfl) | (obtain ⟨_, rfl, _⟩ := h; rfl) | (obtain ⟨_, _, rfl, _⟩ := h; rfl) | (obtain ⟨_, _, _, rfl, _⟩ := h; rfl) | (obtain ⟨_, _, _, _, rfl, _⟩ := h; rfl) | (obtain ⟨_, _, _, _, _, rfl, _⟩ := h; rfl) | (obtain ⟨_, _, _, _, _, _, rfl, _⟩ := h; rfl) | (obtain ⟨_, _, _, _, _, _, _, rfl, _⟩ := h; rfl) | (obtain ⟨_, _, _, _, _, _, _, _, rfl, _⟩ := h; rfl) | (obtain ⟨_, _, _, _, _, _, _, _, _, rfl, _⟩ := h; rfl) | (obtain ⟨_, _, _, _, _, _, _, _, _, _, rfl, _⟩ := h; rfl) | (obtain ⟨_, _, _, _, _, _, _, _, _, _, _, rfl, _⟩ := h; rfl) | (obtain ⟨_, _, _, _, _, _, _, _, _, _, _, _, rfl, _⟩ := h; rfl) | (obtain ⟨_, _, _, _, _, _, _, _, _, _, _, _, _, rfl, _⟩ := h; rfl) | (obtain ⟨_, _, _, _, _, _, _, _, _, _, _, _, _, _, rfl, _⟩ := h; rfl) | (obtain ⟨_, _, _, _, _, _, _, _, _, _, _, _, _, _, _, rfl, _⟩ := h; rfl) | (obtain ⟨_, _, _, _, _, _, _, _, _, _, _, _, _, _, _, _, rfl, _⟩ := h; rfl) | (obtain ⟨_, _, _, _, _, _, _, _, _, _, _, _, _, _, _, _, _, rfl, _⟩ := h; rfl)) (haveI := @iHand P w K mg base B 10; haveI := @iOffer P w K mg base B 10; haveI := @iFolk P w K mg base B 10; haveI := @iFolkError P w K mg base B 10; haveI := @mFolkError P w K mg base B 10; haveI := @iBadHand P w K mg base B 10; haveI := @mBadHand P w K mg base B 10; haveI := @iBadList P w K mg base B 10; haveI := @mBadList P w K mg base B 10; haveI := @iNoLetter P w K mg base B 10; haveI := @mNoLetter P w K mg base B 10; haveI := @iFallen P w K mg base B 10; haveI := @mFallen P w K mg base B 10; haveI := @iOutside P w K mg base B 10; haveI := @mOutside P w K mg base B 10; haveI := @iNotFirst P w K mg base B 10; haveI := @mNotFirst P w K mg base B 10; haveI := @iNoNews P w K mg base B 10; haveI := @mNoNews P w K mg base B 10; haveI := @iX P w K mg base B 10; haveI := @iIst P w K mg base B 10; fun ws H Q E h => r_right_k02 (A := AA K) (Gk.fn_up (o47 B) (by decide)) ws H Q E h)
theorem o37 (B : Kn K mg) : (Gk P w K mg base 2).mth (AA K "Folk") "letters" (p_fletters (AA K)) := by
  obtain ⟨fd, F⟩ := B.says.def_ 37 (d := d37) rfl
  refine mth_at aFolk ?_
  exact mth_in (k := 0) F (He.cls_ok (B.says.fact 56 (f := .cls "Folk") rfl)) (He.meth_ok (B.says.fact 73 (f := .meth "Folk" "letters") rfl)) (FunD.bindsN F fun _ _ _ _ _ _ us hl => match us, hl with | [_], _ => rfl) B.free cd37 (fun ws H Q E h => by first | (obtain ⟨rfl, _⟩ := h; rfl) | (obtain ⟨_, rfl, _⟩ := h; rfl) | (obtain ⟨_, _, rfl, _⟩ := h; rfl) | (obtain ⟨_, _, _, rfl, _⟩ := h; rfl) | (obtain ⟨_, _, _, _, rfl, _⟩ := h; rfl) | (obtain ⟨_, _, _, _, _, rfl, _⟩ := h; rfl) | (obtain ⟨_, _, _, _, _, _, rfl, _⟩ := h; rfl) | (obtain ⟨_, _, _, _, _, _, _, rfl, _⟩ := h; rfl) | (obtain ⟨_, _, _, _, _, _, _, _, rfl, _⟩ := h; rfl) | (obtain ⟨_, _, _, _, _, _, _, _, _, rfl, _⟩ := h; rfl) | (obtain ⟨_, _, _, _, _, _, _, _, _, _, rfl, _⟩ := h; rfl) | (obtain ⟨_, _, _, _, _, _, _, _, _, _, _, rfl, _⟩ := h; rfl) | (obtain ⟨_, _, _, _, _, _, _, _, _, _, _, _, rfl, _⟩ := h; rfl) | (obtain ⟨_, _, _, _, _, _, _, _, _, _, _, _, _, rfl, _⟩ := h; rfl) | (obtain ⟨_, _, _, _, _, _, _, _, _, _, _, _, _, _, rfl, _⟩ := h; rfl) | (obtain ⟨_, _, _, _, _, _, _, _, _, _, _, _, _, _, _, rfl, _⟩ := h; rfl) | (obtain ⟨_, _, _, _, _, _, _, _, _, _, _, _, _, _, _, _, rfl, _⟩ := h; rfl) | (obtain ⟨_, _, _, _, _, _, _, _, _, _, _, _, _, _, _, _, _, rfl, _⟩ := h; rfl)) (haveI := @iHand P w K mg base B 0; haveI := @iOffer P w K mg base B 0; haveI := @iFolk P w K mg base B 0; haveI := @iFolkError P w K mg base B 0; haveI := @mFolkError P w K mg base B 0; haveI := @iBadHand P w K mg base B 0; haveI := @mBadHand P w K mg base B 0; haveI := @iBadList P w K mg base B 0; haveI := @mBadList P w K mg base B 0; haveI := @iNoLetter P w K mg base B 0; haveI := @mNoLetter P w K mg base B 0; haveI := @iFallen P w K mg base B 0; haveI := @mFallen P w K mg base B 0; haveI := @iOutside P w K mg base B 0; haveI := @mOutside P w K mg base B 0; haveI := @iNotFirst P w K mg base B 0; haveI := @mNotFirst P w K mg base B 0; haveI := @iNoNews P w K mg base B 0; haveI := @mNoNews P w K mg base B 0; haveI := @iX P w K mg base B 0; haveI := @iIst P w K mg base B 0; fun ws H Q E h => r_fletters (A := AA K)  ws H Q E h)
theorem o49 (B : Kn K mg) {fd : FuncData} (F : FunD K "law" "law" (defArgs st49) (defBody st49) (defScope st49) [] [] (He.ga K "law") fd) : FnOk P w K mg base L2.CX0 14 (He.ga K "law") fd ["_law_script"] (lowSp K spLaw) :=
  law_in (k := 12) F B.free cd49 (fun ws H Q E h => by obtain ⟨_, _, rfl, _⟩ := h; rfl) (haveI := @iHand P w K mg base B 12; haveI := @iOffer P w K mg base B 12; haveI := @iFolk P w K mg base B 12; haveI := @iFolkError P w K mg base B 12; haveI := @mFolkError P w K mg base B 12; haveI := @iBadHand P w K mg base B 12; haveI := @mBadHand P w K mg base B 12; haveI := @iBadList P w K mg base B 12; haveI := @mBadList P w K mg base B 12; haveI := @iNoLetter P w K mg base B 12; haveI := @mNoLetter P w K mg base B 12; haveI := @iFallen P w K mg base B 12; haveI := @mFallen P w K mg base B 12; haveI := @iOutside P w K mg base B 12; haveI := @mOutside P w K mg base B 12; haveI := @iNotFirst P w K mg base B 12; haveI := @mNotFirst P w K mg base B 12; haveI := @iNoNews P w K mg base B 12; haveI := @mNoNews P w K mg base B 12; haveI := @iX P w K mg base B 12; haveI := @iIst P w K mg base B 12; fun ws H Q E h => r_law_k02 (A := AA K) (Gk.fn_up (o43 B) (by decide)) (Gk.fn_up (o44 B) (by decide)) (Gk.fn_up (o46 B) (by decide)) (Gk.fn_up (o48 B) (by decide)) (Gk.fn_up (o47 B) (by decide)) (Gk.mth_up (o37 B) (by decide)) ws H Q E h)
end
theorem facts {P : Program} {w : World} {K : PySem.W.Frag} {h : Heap} {mg : Str → Option Value} {f : Addr} (X : K.In h) (G : h.Ns mainGlobals mg) (hfa : mg ("law" : Str) = some (.ref f)) (c : He.SaysD fa fn K ∧ WL.extra WL.seven K = true) :
    ∃ fd : FuncData, (∀ (s : Shared) (v : Value), BindsTo s fd ⟨[v], []⟩ [("_law_script", v)]) ∧ ∀ base : Heap, K.In base → base.Ns mainGlobals mg → FnOk P w K mg base L2.CX0 14 f fd ["_law_script"] (lowSp K spLaw) := by
  have B := known X G c.1 c.2
  obtain ⟨fd, F⟩ := c.1.def_ 49 (d := d49) rfl
  have e := hfa.symm.trans B.g_law
  cases e
  have b := FunD.bindsA (ps := ["_law_script"]) F fun _ _ _ _ _ _ us hl => match us, hl with | [_], _ => rfl
  exact ⟨fd, fun s v => b s [v] rfl, fun base _ _ => o49 B F⟩
end Tk02
open PySem PySem.W PySem.Calls PyProof.Rows
theorem PySem.Challenge.cw_folklist_k02_the_first_list_holds : PySem.Challenge.rw_folklist_k02_the_first_list.Holds := by
  w_on; o_law
  refine HandSHeadRun.head_any (r := OpenLaw.row PySem.Challenge.rw_folklist_k02_the_first_list) (q := view (OpenLaw.row PySem.Challenge.rw_folklist_k02_the_first_list).prog [26]) (H := Tk02.hk) (ob := Tk02.ob) (M := 6000) (loose := Tk02.loose) (d := HandSHeadRun.topDef (OpenLaw.row PySem.Challenge.rw_folklist_k02_the_first_list).prog 26) (kwd := []) Tk02.ob_eq
    (by kernel_rfl) (fun s => by kernel_rfl) Tk02.run (by kernel_rfl) (by kernel_rfl) (by kernel_rfl) (by rfl) (by first | assumption | decide +kernel) (by decide +kernel) ⟨rfl, rfl, rfl, rfl, rfl, by decide +kernel⟩ ?hw ?hc
  case hw => w_witness2
  case hc =>
    refine L2.walk_ofE (l := PySem.Challenge.rw_folklist_k02_the_first_list) (n := 63) (k := 14) (x := "_law_script") (CX := L2.CX0) rfl (by decide) (by kernel_rfl) ⟨rfl, by decide, by decide⟩ ?F (fun _ _ _ _ z => z)
    intro w mg fa h Y G hmg0
    obtain ⟨K, KX, c⟩ := Y
    have hmg : mg ("law" : PySem.Str) = some (.ref fa) := by
      have e : (HandSHeadRun.topDef (OpenLaw.row PySem.Challenge.rw_folklist_k02_the_first_list).prog 26).name = ("law" : PySem.Str) := by kernel_rfl
      rw [← e]
      exact hmg0
    obtain ⟨fd, hb, hF⟩ := Tk02.facts (P := (PySem.Challenge.rw_folklist_k02_the_first_list).prog) (w := w) KX G hmg c
    exact ⟨K, fd, WL.lowSp K WL.spLaw, KX, hb, fun H a ns hl _ hS => WL.spLaw_low hl hS, hF⟩
