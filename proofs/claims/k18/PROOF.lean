import PyProof.Rows.All
import Wide.All
import OpenK.AllK
import Wide.FinOn
import KE.KStateDown
import KE.KOpsOwn
import HandS.ForMost
import HandS.ForExc
import HandS.More
import HandS.Defaults
import HandS.IsInst
import HandS.Conv
import HandS.Flow
import HandS.OwnEq
import HandS.Wide
import HandS.Style
import HandS.TupAny
import HandS.Zip
import PyProof.NoPylong
import HandS.HeadHook1
import HandS.HeadHook2
import KE.KDictList
import KE.KDictWalk
import KE.KSortTup
import HandS.SortRule
import HandS.TupSets
import HandS.Dict
import PyProof.Rows.SortShell
import PyProof.Rows.SortWalk
import HandS.Head0
import HandS.Head1
import HandS.Head2
import HandS.HeadEnd
import PySem.Challenge.RW_rootsheld_k18_whole_what_is_equal_and_wh
set_option Elab.async false
set_option linter.all false
set_option maxRecDepth 100000
set_option maxHeartbeats 4000000
/-! Rt1: a typed logic over the hand layer: values by types (Ty), slots (Sl), expressions (EG), statements (SG). -/
namespace Rt
open PySem PySem.Spec PyProof.Rows L2

/-! ### types of values -/
structure Ty where
  is : V → Hp → Prop
  mono : ∀ v H H', Same H H' → is v H → is v H'
/-- no tuple -/
def ntp : HO → Bool
  | .tup _ => false
  | _ => true
/-- what may stand in a cell that one slot owns -/
structure Cell where
  is : Addr → HO → Hp → Prop
  mono : ∀ a o H H', Same H H' → is a o H → is a o H'
  nt : ∀ a o H, is a o H → ntp o = true
inductive All2 (S : Hp) : List Ty → List V → Prop
  | nil : All2 S [] []
  | cons {P : Ty} {Ps : List Ty} {x : V} {xs : List V} (h : P.is x S) (t : All2 S Ps xs) : All2 S (P :: Ps) (x :: xs)
theorem All2.mono {S S' : Hp} (e : Same S S') : ∀ {Ps : List Ty} {xs : List V}, All2 S Ps xs → All2 S' Ps xs
  | _, _, .nil => .nil
  | _, _, .cons h t => .cons (Ty.mono _ _ _ _ e h) (All2.mono e t)
theorem All2.length {S : Hp} : ∀ {Ps : List Ty} {xs : List V}, All2 S Ps xs → xs.length = Ps.length
  | _, _, .nil => rfl
  | _, _, .cons _ t => congrArg Nat.succ (All2.length t)
theorem All2.get {S : Hp} : ∀ {Ps : List Ty} {xs : List V} {i : Nat} {P : Ty}, All2 S Ps xs → Ps[i]? = some P → ∃ x, xs[i]? = some x ∧ P.is x S
  | _, _, _, _, .nil, h => by simp at h
  | _, _, 0, _, .cons h t, e => by simp at e; subst e; exact ⟨_, rfl, h⟩
  | _, _, i + 1, P, .cons h t, e => by
    obtain ⟨x, h1, h2⟩ := All2.get (i := i) (P := P) t (by simpa using e)
    exact ⟨x, by simpa using h1, h2⟩
theorem All2.getV {S : Hp} : ∀ {Ps : List Ty} {xs : List V} {i : Nat} {x : V}, All2 S Ps xs → xs[i]? = some x → ∃ P, Ps[i]? = some P ∧ P.is x S
  | _, _, _, _, .nil, h => by simp at h
  | _, _, 0, _, .cons h t, e => by simp at e; subst e; exact ⟨_, rfl, h⟩
  | _, _, i + 1, x, .cons h t, e => by
    obtain ⟨P, h1, h2⟩ := All2.getV (i := i) (x := x) t (by simpa using e)
    exact ⟨P, by simpa using h1, h2⟩
theorem All2.append {S : Hp} : ∀ {Ps Qs : List Ty} {xs ys : List V}, All2 S Ps xs → All2 S Qs ys → All2 S (Ps ++ Qs) (xs ++ ys)
  | _, _, _, _, .nil, q => q
  | _, _, _, _, .cons h t, q => .cons h (All2.append t q)
theorem All2.take {S : Hp} : ∀ {Ps : List Ty} {xs : List V} (n : Nat), All2 S Ps xs → All2 S (Ps.take n) (xs.take n)
  | _, _, 0, _ => .nil
  | _, _, _ + 1, .nil => .nil
  | _, _, n + 1, .cons h t => .cons h (All2.take n t)
theorem All2.drop {S : Hp} : ∀ {Ps : List Ty} {xs : List V} (n : Nat), All2 S Ps xs → All2 S (Ps.drop n) (xs.drop n)
  | _, _, 0, h => h
  | _, _, _ + 1, .nil => .nil
  | _, _, n + 1, .cons _ t => All2.drop n t
theorem All2.set {S : Hp} {P : Ty} {x : V} (h : P.is x S) : ∀ {Ps : List Ty} {xs : List V} (n : Nat), All2 S Ps xs → All2 S (Ps.set n P) (xs.set n x)
  | _, _, _, .nil => .nil
  | _, _, 0, .cons _ t => .cons h t
  | _, _, n + 1, .cons q t => .cons q (All2.set h n t)
theorem All2.reverse {S : Hp} : ∀ {Ps : List Ty} {xs : List V}, All2 S Ps xs → All2 S Ps.reverse xs.reverse
  | _, _, .nil => .nil
  | _, _, .cons h t => by rw [List.reverse_cons, List.reverse_cons]; exact (All2.reverse t).append (.cons h .nil)
theorem All2.dropLast {S : Hp} {Ps : List Ty} {xs : List V} (h : All2 S Ps xs) : All2 S Ps.dropLast xs.dropLast := by
  rw [List.dropLast_eq_take, List.dropLast_eq_take, h.length]
  exact h.take _
theorem All2.rep {S : Hp} {Ps : List Ty} {xs : List V} (h : All2 S Ps xs) : ∀ n : Nat, All2 S (List.replicate n Ps).flatten (List.replicate n xs).flatten
  | 0 => .nil
  | n + 1 => by rw [List.replicate_succ, List.replicate_succ, List.flatten_cons, List.flatten_cons]; exact h.append (h.rep n)
/-- attributes by name -/
inductive FAll (S : Hp) : List (Str × Ty) → List (Str × V) → Prop
  | nil : FAll S [] []
  | cons {f : Str} {P : Ty} {fs : List (Str × Ty)} {x : V} {gs : List (Str × V)} (h : P.is x S) (t : FAll S fs gs) : FAll S ((f, P) :: fs) ((f, x) :: gs)
theorem FAll.mono {S S' : Hp} (e : Same S S') : ∀ {fs : List (Str × Ty)} {gs : List (Str × V)}, FAll S fs gs → FAll S' fs gs
  | _, _, .nil => .nil
  | _, _, .cons h t => .cons (Ty.mono _ _ _ _ e h) (FAll.mono e t)
theorem FAll.length {S : Hp} : ∀ {fs : List (Str × Ty)} {gs : List (Str × V)}, FAll S fs gs → gs.length = fs.length
  | _, _, .nil => rfl
  | _, _, .cons _ t => congrArg Nat.succ (FAll.length t)
theorem FAll.get {S : Hp} {f : Str} {P : Ty} : ∀ {fs : List (Str × Ty)} {gs : List (Str × V)}, FAll S fs gs → fs.lookup f = some P → ∃ x, gs.lookup f = some x ∧ P.is x S
  | _, _, .nil, e => by cases e
  | _, _, .cons (f := g) h t, e => by
    rw [List.lookup_cons] at e ⊢
    cases q : (f == g) with
    | true => rw [q] at e; obtain rfl := Option.some.inj e; exact ⟨_, rfl, h⟩
    | false => rw [q] at e; exact FAll.get t e
theorem FAll.none {S : Hp} {f : Str} : ∀ {fs : List (Str × Ty)} {gs : List (Str × V)}, FAll S fs gs → fs.lookup f = none → gs.lookup f = none
  | _, _, .nil, _ => rfl
  | _, _, .cons (f := g) h t, e => by
    rw [List.lookup_cons] at e ⊢
    cases q : (f == g) with
    | true => rw [q] at e; cases e
    | false => rw [q] at e; exact FAll.none t e
/-- putF on types -/
def putT (f : Str) (P : Ty) : List (Str × Ty) → List (Str × Ty)
  | [] => [(f, P)]
  | (g, Q) :: r => if g = f then (g, P) :: r else (g, Q) :: putT f P r
theorem FAll.put {S : Hp} {f : Str} {P : Ty} {x : V} (h : P.is x S) : ∀ {fs : List (Str × Ty)} {gs : List (Str × V)}, FAll S fs gs → FAll S (putT f P fs) (putF f x gs)
  | _, _, .nil => .cons h .nil
  | _, _, .cons (f := g) (P := R) (fs := fs) (x := y) (gs := gs) q t => by
    show FAll S (if g = f then (g, P) :: fs else (g, R) :: putT f P fs) (if g = f then (g, x) :: gs else (g, y) :: putF f x gs)
    by_cases e : g = f
    · rw [if_pos e, if_pos e]; exact .cons h t
    · rw [if_neg e, if_neg e]; exact .cons q (FAll.put h t)

/-! ### the types -/
theorem rd_mono {H H' : Hp} {a : Addr} {u : HO} (e : Same H H') (h : Rd H a u) : Rd H' a u := h.elim (fun h => .inl (e _ _ h)) fun ⟨o, h⟩ => .inr ⟨o, e _ _ h⟩
theorem sqt_mono {K : PySem.W.Frag} {H H' : Hp} {a : Addr} {xs : List V} (e : Same H H') (h : SqT K H a xs) : SqT K H' a xs := h.elim (fun h => .inl (rd_mono e h)) .inr
theorem sql_mono {K : PySem.W.Frag} {H H' : Hp} {a : Addr} {xs : List V} (e : Same H H') (h : SqL K H a xs) : SqL K H' a xs := h.elim (fun h => .inl (rd_mono e h)) .inr
def tV (v : V) : Ty := ⟨fun x _ => x = v, fun _ _ _ _ h => h⟩
abbrev tI (i : Int) : Ty := tV (.int i)
abbrev tB (b : Bool) : Ty := tV (.bl b)
abbrev tN : Ty := tV .non
abbrev tS (z : Str) : Ty := tV (.str z)
def tT (K : PySem.W.Frag) (Ps : List Ty) : Ty := ⟨fun v S => ∃ a xs, v = .ref a ∧ SqT K S a xs ∧ All2 S Ps xs, fun _ _ _ e ⟨a, xs, h1, h2, h3⟩ => ⟨a, xs, h1, sqt_mono e h2, h3.mono e⟩⟩
def tL (K : PySem.W.Frag) (Ps : List Ty) : Ty := ⟨fun v S => ∃ a xs, v = .ref a ∧ SqL K S a xs ∧ All2 S Ps xs, fun _ _ _ e ⟨a, xs, h1, h2, h3⟩ => ⟨a, xs, h1, sql_mono e h2, h3.mono e⟩⟩
def tO (C : Addr) (fs : List (Str × Ty)) : Ty := ⟨fun v S => ∃ a dx gs, v = .ref a ∧ S a = some (.ins C dx gs) ∧ FAll S fs gs, fun _ _ _ e ⟨a, dx, gs, h1, h2, h3⟩ => ⟨a, dx, gs, h1, e _ _ h2, h3.mono e⟩⟩
/-- some x of which C holds -/
def tEx {α : Type} (C : α → Prop) (P : α → Ty) : Ty := ⟨fun v S => ∃ x, C x ∧ (P x).is v S, fun v H H' e ⟨x, c, h⟩ => ⟨x, c, (P x).mono v H H' e h⟩⟩
def Ty.le (P Q : Ty) : Prop := ∀ v S, P.is v S → Q.is v S
theorem Ty.le.rfl {P : Ty} : P.le P := fun _ _ h => h
theorem Ty.le.trans {P Q R : Ty} (h : P.le Q) (h' : Q.le R) : P.le R := fun v S q => h' v S (h v S q)
theorem tEx_le {α : Type} {C : α → Prop} {P : α → Ty} {x : α} (c : C x) : (P x).le (tEx C P) := fun _ _ h => ⟨x, c, h⟩
def cL (Ps : List Ty) : Cell := ⟨fun _ o S => ∃ xs, o = .lst xs ∧ All2 S Ps xs, fun _ _ _ _ e ⟨xs, h, h3⟩ => ⟨xs, h, h3.mono e⟩, fun _ _ _ ⟨_, h, _⟩ => h ▸ rfl⟩
/-- the instance x under construction, its own dict at dx -/
def cO (C x dx : Addr) (fs : List (Str × Ty)) : Cell := ⟨fun a o S => a = x ∧ ∃ gs, o = .ins C dx gs ∧ FAll S fs gs, fun _ _ _ _ e ⟨h0, gs, h, h3⟩ => ⟨h0, gs, h, h3.mono e⟩, fun _ _ _ ⟨_, _, h, _⟩ => h ▸ rfl⟩

/-! ### slots, states, steps -/
inductive Sl where
  | un | sh (P : Ty) | ow (c : Cell)
/-- the law's own list of two numbers, changed by what it is handed to -/
def StOk (m : Option Addr) (S H : Hp) : Prop := ∀ a, m = some a → S a = none ∧ ∃ s t : Int, H a = some (.lst [.int s, .int t]) ∧ 0 ≤ s ∧ 0 ≤ t
structure Step (m : Option Addr) (S H S' H' : Hp) : Prop where
  hh : ∀ a o, H a = some o → m ≠ some a → H' a = some o
  ss : Same S S'
  sub : Same S' H'
  nw : ∀ a o, H a = some o → ntp o = true → S a = none → S' a = none
  st : StOk m S' H'
theorem Step.refl {m : Option Addr} {S H : Hp} (e : Same S H) (st : StOk m S H) : Step m S H S H := ⟨fun _ _ h _ => h, Same.refl S, e, fun _ _ _ _ h => h, st⟩
theorem Step.trans {m : Option Addr} {S H S1 H1 S2 H2 : Hp} (a : Step m S H S1 H1) (b : Step m S1 H1 S2 H2) : Step m S H S2 H2 :=
  ⟨fun c o h n => b.hh c o (a.hh c o h n) n, a.ss.trans b.ss, b.sub, fun c o h ho q => by
    by_cases e : m = some c
    · exact (b.st c e).1
    · exact b.nw c o (a.hh c o h e) ho (a.nw c o h ho q), b.st⟩
/-- a step that leaves everything as it was, under a law's state -/
theorem Step.lift {m : Option Addr} {S H S' H' : Hp} (a : Step none S H S' H') (st : StOk m S H) : Step m S H S' H' :=
  ⟨fun c o h _ => a.hh c o h (fun z => nomatch z), a.ss, a.sub, a.nw, fun c e => by
    obtain ⟨h1, s, t, h2, h3⟩ := st c e
    exact ⟨a.nw c _ h2 rfl h1, s, t, a.hh c _ h2 (fun z => nomatch z), h3⟩⟩
/-- a new object that all may know -/
theorem Step.new {m : Option Addr} {S H : Hp} {p : Addr} {o : HO} (e : Same S H) (st : StOk m S H) (hp : H p = none) : Step m S H (upd S p o) (upd H p o) :=
  ⟨fun c u h _ => by rw [upd_ne (ne_of_none h hp)]; exact h, fun c u h => by rw [upd_ne (ne_of_none (e c u h) hp)]; exact h, fun c u h => by
    by_cases q : c = p
    · subst q; rw [upd_same] at h ⊢; exact h
    · rw [upd_ne q] at h ⊢; exact e c u h, fun c u h _ q => by rw [upd_ne (ne_of_none h hp)]; exact q, fun c q => by
    obtain ⟨h1, s, t, h2, h3⟩ := st c q
    have n := ne_of_none h2 hp
    exact ⟨by rw [upd_ne n]; exact h1, s, t, by rw [upd_ne n]; exact h2, h3⟩⟩
/-- a new object that one slot will own -/
theorem Step.own {m : Option Addr} {S H : Hp} {p : Addr} {o : HO} (e : Same S H) (st : StOk m S H) (hp : H p = none) : Step m S H S (upd H p o) :=
  ⟨fun c u h _ => by rw [upd_ne (ne_of_none h hp)]; exact h, Same.refl S, fun c u h => by rw [upd_ne (ne_of_none (e c u h) hp)]; exact e c u h, fun c u h _ q => q, fun c q => by
    obtain ⟨h1, s, t, h2, h3⟩ := st c q
    have n := ne_of_none h2 hp
    exact ⟨h1, s, t, by rw [upd_ne n]; exact h2, h3⟩⟩

def SlOk (m : Option Addr) (H0 : Hp) (σ : L2.St) (S H : Hp) (A : Nat → Addr) (i : Nat) : Sl → Prop
  | .un => True
  | .sh P => ∃ v, σ[i]? = some (some v) ∧ P.is v S
  | .ow c => σ[i]? = some (some (.ref (A i))) ∧ H0 (A i) = none ∧ S (A i) = none ∧ m ≠ some (A i) ∧ ∃ o, H (A i) = some o ∧ c.is (A i) o S
def owns (Γ : List Sl) (i : Nat) : Prop := ∃ c, Γ[i]? = some (.ow c)
structure SE (m : Option Addr) (H0 : Hp) (Γ : List Sl) (σ : L2.St) (S H : Hp) : Prop where
  sub : Same S H
  st : StOk m S H
  len : σ.length = Γ.length
  ok : ∃ A : Nat → Addr, (∀ i s, Γ[i]? = some s → SlOk m H0 σ S H A i s) ∧ ∀ i j, owns Γ i → owns Γ j → A i = A j → i = j
section
variable {m : Option Addr} {H0 S H S' H' : Hp} {Γ : List Sl} {σ : L2.St}
theorem SE.step (e : SE m H0 Γ σ S H) (s : Step m S H S' H') : SE m H0 Γ σ S' H' := by
  obtain ⟨A, h1, h2⟩ := e.ok
  refine ⟨s.sub, s.st, e.len, A, fun i u hu => ?_, h2⟩
  have h := h1 i u hu
  cases u with
  | un => trivial
  | sh P =>
    obtain ⟨v, q1, q2⟩ := h
    exact ⟨v, q1, P.mono v S S' s.ss q2⟩
  | ow c =>
    obtain ⟨q1, q0, q2, q3, o, q4, q5⟩ := h
    exact ⟨q1, q0, s.nw _ _ q4 (c.nt _ _ _ q5) q2, q3, o, s.hh _ _ q4 q3, c.mono _ o S S' s.ss q5⟩
theorem SE.sh (e : SE m H0 Γ σ S H) {i : Nat} {P : Ty} (h : Γ[i]? = some (.sh P)) : ∃ v, σ[i]? = some (some v) ∧ P.is v S := by
  obtain ⟨A, h1, _⟩ := e.ok
  exact h1 i _ h
theorem SE.ow (e : SE m H0 Γ σ S H) {i : Nat} {c : Cell} (h : Γ[i]? = some (.ow c)) : ∃ a o, σ[i]? = some (some (.ref a)) ∧ H a = some o ∧ c.is a o S := by
  obtain ⟨A, h1, _⟩ := e.ok
  obtain ⟨q1, _, _, _, o, q4, q5⟩ := h1 i _ h
  exact ⟨_, o, q1, q4, q5⟩
/-- a slot takes a value that all may know -/
theorem SE.setSh (e : SE m H0 Γ σ S H) (i : Nat) {P : Ty} {v : V} (h : P.is v S) : SE m H0 (Γ.set i (.sh P)) (σ.set i (some v)) S H := by
  obtain ⟨A, h1, h2⟩ := e.ok
  have own : ∀ j, owns (Γ.set i (.sh P)) j → j ≠ i ∧ owns Γ j := fun j ⟨c, hc⟩ => by
    by_cases q : i = j
    · subst q
      by_cases hi : i < Γ.length
      · rw [List.getElem?_set_self hi] at hc; cases hc
      · rw [List.getElem?_eq_none (by simpa using hi)] at hc; cases hc
    · rw [List.getElem?_set_ne q] at hc
      exact ⟨fun z => q z.symm, c, hc⟩
  refine ⟨e.sub, e.st, by rw [List.length_set, List.length_set]; exact e.len, A, fun j u hu => ?_, fun j k hj hk => h2 j k (own j hj).2 (own k hk).2⟩
  by_cases q : i = j
  · subst q
    by_cases hi : i < Γ.length
    · rw [List.getElem?_set_self hi] at hu
      obtain rfl := Option.some.inj hu
      exact ⟨v, List.getElem?_set_self (by rw [e.len]; exact hi), h⟩
    · rw [List.getElem?_eq_none (by simpa using hi)] at hu; cases hu
  · rw [List.getElem?_set_ne q] at hu
    have z := h1 j u hu
    cases u with
    | un => trivial
    | sh R => obtain ⟨x, q1, q2⟩ := z; exact ⟨x, by rw [List.getElem?_set_ne q]; exact q1, q2⟩
    | ow c => obtain ⟨q1, q2⟩ := z; exact ⟨by rw [List.getElem?_set_ne q]; exact q1, q2⟩
/-- a slot takes a new cell -/
theorem SE.setOw (e : SE m H0 Γ σ S H) (i : Nat) {c : Cell} {p : Addr} {o : HO} (h0 : H0 p = none) (hS : S p = none) (hH : H p = some o) (hm : m ≠ some p) (hf : ∀ j a, owns Γ j → σ[j]? = some (some (.ref a)) → a ≠ p) (h : c.is p o S) :
    SE m H0 (Γ.set i (.ow c)) (σ.set i (some (.ref p))) S H := by
  obtain ⟨A, h1, h2⟩ := e.ok
  have ne : ∀ j, j ≠ i → owns Γ j → A j ≠ p := fun j _ ⟨c, hc⟩ => hf j _ ⟨c, hc⟩ (h1 j _ hc).1
  have own : ∀ j, owns (Γ.set i (.ow c)) j → j = i ∨ (j ≠ i ∧ owns Γ j) := fun j ⟨c', hc⟩ => by
    by_cases q : i = j
    · exact .inl q.symm
    · rw [List.getElem?_set_ne q] at hc
      exact .inr ⟨fun z => q z.symm, c', hc⟩
  have Bi : (fun j => if j = i then p else A j) i = p := if_pos rfl
  have Bj : ∀ j, j ≠ i → (fun j => if j = i then p else A j) j = A j := fun j hj => if_neg hj
  generalize (fun j => if j = i then p else A j) = B at Bi Bj
  refine ⟨e.sub, e.st, by rw [List.length_set, List.length_set]; exact e.len, B, fun j u hu => ?_, fun j k hj hk ej => ?_⟩
  · by_cases q : i = j
    · subst q
      by_cases hi : i < Γ.length
      · rw [List.getElem?_set_self hi] at hu
        obtain rfl := Option.some.inj hu
        refine ⟨?_, ?_, ?_, ?_, o, ?_, by rw [Bi]; exact h⟩
        · rw [List.getElem?_set_self (by rw [e.len]; exact hi), Bi]
        · rw [Bi]; exact h0
        · rw [Bi]; exact hS
        · rw [Bi]; exact hm
        · rw [Bi]; exact hH
      · rw [List.getElem?_eq_none (by simpa using hi)] at hu; cases hu
    · rw [List.getElem?_set_ne q] at hu
      have z := h1 j u hu
      cases u with
      | un => trivial
      | sh R => obtain ⟨x, q1, q2⟩ := z; exact ⟨x, by rw [List.getElem?_set_ne q]; exact q1, q2⟩
      | ow c =>
        obtain ⟨q1, q2⟩ := z
        have e3 := Bj j (fun z => q z.symm)
        refine ⟨by rw [List.getElem?_set_ne q, e3]; exact q1, ?_⟩
        rw [e3]
        exact q2
  · rcases own j hj with rfl | ⟨a1, a2⟩
    · rcases own k hk with rfl | ⟨b1, b2⟩
      · rfl
      · rw [Bi, Bj k b1] at ej
        exact absurd ej.symm (ne k b1 b2)
    · rcases own k hk with rfl | ⟨b1, b2⟩
      · rw [Bj j a1, Bi] at ej
        exact absurd ej (ne j a1 a2)
      · rw [Bj j a1, Bj k b1] at ej
        exact h2 j k a2 b2 ej
/-- the cell of a slot changes -/
theorem SE.change (e : SE m H0 Γ σ S H) {i : Nat} {c c' : Cell} {a : Addr} {o' : HO} (hi : Γ[i]? = some (.ow c)) (ha : σ[i]? = some (some (.ref a))) (h : c'.is a o' S) : SE m H0 (Γ.set i (.ow c')) σ S (upd H a o') := by
  obtain ⟨A, h1, h2⟩ := e.ok
  obtain ⟨q1, q0, q2, q3, o, q4, q5⟩ := h1 i _ hi
  obtain rfl : A i = a := by rw [q1] at ha; injection ha with ha; injection ha with ha; injection ha
  have hl : i < Γ.length := (List.getElem?_eq_some_iff.mp hi).1
  have own : ∀ j, owns (Γ.set i (.ow c')) j → owns Γ j := fun j ⟨d, hd⟩ => by
    by_cases q : i = j
    · subst q; exact ⟨c, hi⟩
    · rw [List.getElem?_set_ne q] at hd; exact ⟨d, hd⟩
  refine ⟨fun b u hb => ?_, fun b hb => ?_, by rw [List.length_set]; exact e.len, A, fun j u hu => ?_, fun j k hj hk => h2 j k (own j hj) (own k hk)⟩
  · rw [upd_ne (ne_of_none hb q2)]; exact e.sub b u hb
  · obtain ⟨r1, s, t, r2, r3⟩ := e.st b hb
    exact ⟨r1, s, t, by rw [upd_ne (fun z => q3 (by rw [hb, z]))]; exact r2, r3⟩
  · by_cases q : i = j
    · subst q
      rw [List.getElem?_set_self hl] at hu
      obtain rfl := Option.some.inj hu
      exact ⟨q1, q0, q2, q3, o', upd_same, h⟩
    · rw [List.getElem?_set_ne q] at hu
      have z := h1 j u hu
      cases u with
      | un => trivial
      | sh R => exact z
      | ow d =>
        obtain ⟨r1, r0, r2, r3, u, r4, r5⟩ := z
        exact ⟨r1, r0, r2, r3, u, by rw [upd_ne (fun w => q (h2 i j ⟨c, hi⟩ ⟨d, hu⟩ w.symm))]; exact r4, r5⟩
theorem SE.change0 {S0 : Hp} (e : SE m H0 Γ σ S H) (s : Step m S0 H0 S H) {i : Nat} {c : Cell} {a : Addr} {o' : HO} (hi : Γ[i]? = some (.ow c)) (ha : σ[i]? = some (some (.ref a))) : Step m S0 H0 S (upd H a o') := by
  obtain ⟨A, h1, h2⟩ := e.ok
  obtain ⟨q1, q0, q2, q3, o, q4, q5⟩ := h1 i _ hi
  obtain rfl : A i = a := by rw [q1] at ha; injection ha with ha; injection ha with ha; injection ha
  refine ⟨fun b u hb n => ?_, s.ss, fun b u hb => ?_, s.nw, fun b hb => ?_⟩
  · rw [upd_ne (ne_of_none hb q0)]; exact s.hh b u hb n
  · rw [upd_ne (ne_of_none hb q2)]; exact s.sub b u hb
  · obtain ⟨r1, x, t, r2, r3⟩ := s.st b hb
    exact ⟨r1, x, t, by rw [upd_ne (fun z => q3 (by rw [hb, z]))]; exact r2, r3⟩
/-- what a slot owned may from now on be known by all -/
theorem SE.freeze {S0 : Hp} (e : SE m H0 Γ σ S H) (s : Step m S0 H0 S H) {i : Nat} {c : Cell} {P : Ty} (hi : Γ[i]? = some (.ow c)) (h : ∀ a o S, S a = some o → c.is a o S → P.is (.ref a) S) :
    ∃ S', Step m S0 H0 S' H ∧ Same S S' ∧ SE m H0 (Γ.set i (.sh P)) σ S' H := by
  obtain ⟨A, h1, h2⟩ := e.ok
  obtain ⟨q1, q0, q2, q3, o, q4, q5⟩ := h1 i _ hi
  have hl : i < Γ.length := (List.getElem?_eq_some_iff.mp hi).1
  have ss : Same S (upd S (A i) o) := fun b u hb => by rw [upd_ne (ne_of_none hb q2)]; exact hb
  have own : ∀ j, owns (Γ.set i (.sh P)) j → i ≠ j ∧ owns Γ j := fun j ⟨d, hd⟩ => by
    by_cases q : i = j
    · subst q; rw [List.getElem?_set_self hl] at hd; cases hd
    · rw [List.getElem?_set_ne q] at hd; exact ⟨q, d, hd⟩
  have sub : Same (upd S (A i) o) H := fun b u hb => by
    by_cases q : b = A i
    · subst q; rw [upd_same] at hb; rw [q4]; exact hb
    · rw [upd_ne q] at hb; exact e.sub b u hb
  have st : StOk m (upd S (A i) o) H := fun b hb => by
    obtain ⟨r1, x, t, r2, r3⟩ := e.st b hb
    exact ⟨by rw [upd_ne (fun z => q3 (by rw [hb, z]))]; exact r1, x, t, r2, r3⟩
  refine ⟨upd S (A i) o, ⟨s.hh, s.ss.trans ss, sub, fun b u hb ho hn => ?_, st⟩, ss, ⟨sub, st, by rw [List.length_set]; exact e.len, A, fun j u hu => ?_, fun j k hj hk => h2 j k (own j hj).2 (own k hk).2⟩⟩
  · rw [upd_ne (ne_of_none hb q0)]; exact s.nw b u hb ho hn
  · by_cases q : i = j
    · subst q
      rw [List.getElem?_set_self hl] at hu
      obtain rfl := Option.some.inj hu
      exact ⟨_, q1, h _ o _ upd_same (c.mono _ o S _ ss q5)⟩
    · rw [List.getElem?_set_ne q] at hu
      have z := h1 j u hu
      cases u with
      | un => trivial
      | sh R => obtain ⟨v, r1, r2⟩ := z; exact ⟨v, r1, R.mono v S _ ss r2⟩
      | ow d =>
        obtain ⟨r1, r0, r2, r3, u, r4, r5⟩ := z
        exact ⟨r1, r0, by rw [upd_ne (fun w => q (h2 i j ⟨c, hi⟩ ⟨d, hu⟩ w.symm))]; exact r2, r3, u, r4, d.mono _ u S _ ss r5⟩
/-- less may be known -/
inductive Sub1 : Sl → Sl → Prop
  | un {s : Sl} : Sub1 s .un
  | same {s : Sl} : Sub1 s s
  | sh {P Q : Ty} (h : P.le Q) : Sub1 (.sh P) (.sh Q)
  | ow {c d : Cell} (h : ∀ a o S, c.is a o S → d.is a o S) : Sub1 (.ow c) (.ow d)
inductive SubG : List Sl → List Sl → Prop
  | nil : SubG [] []
  | cons {s t : Sl} {Γ Δ : List Sl} (h : Sub1 s t) (r : SubG Γ Δ) : SubG (s :: Γ) (t :: Δ)
theorem SubG.refl : ∀ Γ : List Sl, SubG Γ Γ
  | [] => .nil
  | _ :: r => .cons .same (SubG.refl r)
theorem SubG.get : ∀ {Γ Δ : List Sl} {i : Nat} {t : Sl}, SubG Γ Δ → Δ[i]? = some t → ∃ s, Γ[i]? = some s ∧ Sub1 s t
  | _, _, _, _, .nil, h => by simp at h
  | _, _, 0, _, .cons h r, e => by simp at e; subst e; exact ⟨_, rfl, h⟩
  | _, _, i + 1, t, .cons h r, e => by
    obtain ⟨s, h1, h2⟩ := SubG.get (i := i) (t := t) r (by simpa using e)
    exact ⟨s, by simpa using h1, h2⟩
theorem SubG.length : ∀ {Γ Δ : List Sl}, SubG Γ Δ → Δ.length = Γ.length
  | _, _, .nil => rfl
  | _, _, .cons _ r => congrArg Nat.succ (SubG.length r)
theorem SE.weak {Δ : List Sl} (e : SE m H0 Γ σ S H) (g : SubG Γ Δ) : SE m H0 Δ σ S H := by
  obtain ⟨A, h1, h2⟩ := e.ok
  have own : ∀ j, owns Δ j → owns Γ j := fun j ⟨d, hd⟩ => by
    obtain ⟨s, a1, a2⟩ := g.get hd
    cases a2 with
    | same => exact ⟨d, a1⟩
    | ow h => exact ⟨_, a1⟩
  refine ⟨e.sub, e.st, by rw [g.length]; exact e.len, A, fun i u hu => ?_, fun i j hi hj => h2 i j (own i hi) (own j hj)⟩
  obtain ⟨s, a1, a2⟩ := g.get hu
  have z := h1 i s a1
  cases a2 with
  | un => trivial
  | same => exact z
  | sh h => obtain ⟨v, r1, r2⟩ := z; exact ⟨v, r1, h _ _ r2⟩
  | ow h => obtain ⟨r1, r0, r2, r3, u, r4, r5⟩ := z; exact ⟨r1, r0, r2, r3, u, r4, h _ _ _ r5⟩
end

/-! ### what a reading does -/
section
variable (m : Option Addr)
def Ev (te : TE) (Γ : List Sl) (P : Ty) : Prop := ∀ H0 σ S H, SE m H0 Γ σ S H → ∀ Q : VK, (∀ v S' H', Step m S H S' H' → P.is v S' → Q v H') → te σ H Q
/-- a new cell -/
def EvN (te : TE) (Γ : List Sl) (c : Cell) : Prop := ∀ H0 σ S H, SE m H0 Γ σ S H → ∀ Q : VK, (∀ p o S' H', H p = none → Step m S H S' H' → S' p = none → H' p = some o → c.is p o S' → Q (.ref p) H') → te σ H Q
def EvA (ta : TA) (Γ : List Sl) (Ps : List Ty) : Prop := ∀ H0 σ S H, SE m H0 Γ σ S H → ∀ Q : List V → Hp → Prop, (∀ vs S' H', Step m S H S' H' → All2 S' Ps vs → Q vs H') → ta σ H Q
def EvT (tt : TT) (Γ : List Sl) (b : Bool) : Prop := ∀ H0 σ S H, SE m H0 Γ σ S H → ∀ Q : Bool → Hp → Prop, (∀ S' H', Step m S H S' H' → Q b H') → tt σ H Q
end
/-- what is wanted of a block -/
structure Po where
  rt : Hp → Ty
  nx : List Sl → Prop
  bk : List Sl → Prop := fun _ => False
  ct : List Sl → Prop := fun _ => False
def Go (m : Option Addr) (ts : TS) (Γ : List Sl) (P : Po) : Prop := ∀ S0 H0 σ S H, Step m S0 H0 S H → SE m H0 Γ σ S H → ∀ D : Ends, (∀ v S' H', Step m S0 H0 S' H' → Same S S' → (P.rt H0).is v S' → D.rt v H') →
  (∀ Γ' σ' S' H', P.nx Γ' → Step m S0 H0 S' H' → Same S S' → SE m H0 Γ' σ' S' H' → D.nx σ' H') → (∀ Γ' σ' S' H', P.bk Γ' → Step m S0 H0 S' H' → Same S S' → SE m H0 Γ' σ' S' H' → D.bk σ' H') →
  (∀ Γ' σ' S' H', P.ct Γ' → Step m S0 H0 S' H' → Same S S' → SE m H0 Γ' σ' S' H' → D.ct σ' H') → ts D σ H

/-! ### with the text: over a family of contexts (a def's body; a comprehension's block at any time) -/
section
variable {ι : Type} (X : ι → Cx) (m : Option Addr)
def EG (e : Expr) (Γ : List Sl) (P : Ty) : Prop := ∃ t, (∀ i, PE (X i) e t) ∧ Ev m t Γ P
def EN (e : Expr) (Γ : List Sl) (c : Cell) : Prop := ∃ t, (∀ i, PE (X i) e t) ∧ EvN m t Γ c
def EA (es : List Expr) (Γ : List Sl) (Ps : List Ty) : Prop := ∃ t, (∀ i, PA (X i) es t) ∧ EvA m t Γ Ps
def ET (e : Expr) (Γ : List Sl) (b : Bool) : Prop := ∃ t, (∀ i, PT (X i) e t) ∧ EvT m t Γ b
def EW (e : Expr) (Γ : List Sl) (b : Bool) : Prop := ∃ t, (∀ i, PW (X i) e t) ∧ EvT m t Γ b
def SG (sts : List Stmt) (Γ : List Sl) (P : Po) : Prop := ∃ t, (∀ i, PSs (X i) sts t) ∧ Go m t Γ P
def SG1 (st : Stmt) (Γ : List Sl) (P : Po) : Prop := ∃ t, (∀ i, PS (X i) st t) ∧ Go m t Γ P
end
/-- the module's facts and the room, the same in all of the family -/
structure Fam {ι : Type} (X : ι → Cx) (P : Program) (w : World) (K : PySem.W.Frag) (mg : Str → Option Value) (base : Heap) (N : List Str) (k : Nat) : Prop where
  ep : ∀ i, (X i).prog = P
  ew : ∀ i, (X i).w = w
  eK : ∀ i, (X i).K = K
  eg : ∀ i, (X i).mg = mg
  eb : ∀ i, (X i).base = base
  eN : ∀ i, (X i).N = N
  nd : N.Nodup
  room : ∀ i, Room k (X i).A
  calm : ∀ i, (X i).calm = true
  po : ∀ i, PassesOwn (model (X i).prog (X i).w) (X i).A (X i).env (X i).xe
  see : base.NoSeer
  tr : P.given.tree = none
  fr : ∀ i, ∃ env l, (X i).stack = env :: l ∧ env.scope.isGenerator = false ∧ env.scope.isCoroutine = false ∧ env.builtins = builtinsNs ∧ env.globals = mainGlobals
end Rt

set_option Elab.async false
set_option linter.all false
set_option maxRecDepth 100000
set_option maxHeartbeats 4000000
/-! Rt2: rules of expressions. -/
namespace Rt
open PySem PySem.Spec PyProof.Rows L2

section
variable {m : Option Addr} {H0 S H S' H' : Hp} {Γ : List Sl} {σ : L2.St}
/-- slots renamed -/
theorem SE.ren {Δ : List Sl} {τ : L2.St} (e : SE m H0 Γ σ S H) (f : Nat → Nat) (hl : τ.length = Δ.length) (h : ∀ i s, Δ[i]? = some s → s = .un ∨ (Γ[f i]? = some s ∧ ∀ v, σ[f i]? = some (some v) → τ[i]? = some (some v)))
    (inj : ∀ i j, owns Δ i → owns Δ j → f i = f j → i = j) : SE m H0 Δ τ S H := by
  obtain ⟨A, h1, h2⟩ := e.ok
  have ow : ∀ i, owns Δ i → owns Γ (f i) := fun i ⟨c, hc⟩ => by
    rcases h i _ hc with z | ⟨z, _⟩
    · cases z
    · exact ⟨c, z⟩
  refine ⟨e.sub, e.st, hl, fun i => A (f i), fun i s hs => ?_, fun i j hi hj q => inj i j hi hj (h2 _ _ (ow i hi) (ow j hj) q)⟩
  rcases h i s hs with rfl | ⟨z, w⟩
  · trivial
  · have q := h1 _ s z
    cases s with
    | un => trivial
    | sh P => obtain ⟨v, a, b⟩ := q; exact ⟨v, w v a, b⟩
    | ow c => obtain ⟨a, b⟩ := q; exact ⟨w _ a, b⟩
theorem SE.left {Ξ : List Sl} {τ : L2.St} (e : SE m H0 (Γ ++ Ξ) (σ ++ τ) S H) (hl : σ.length = Γ.length) : SE m H0 Γ σ S H :=
  e.ren (fun i => i) hl (fun i s hs => .inr (by
    have hi : i < Γ.length := (List.getElem?_eq_some_iff.mp hs).1
    exact ⟨by rw [List.getElem?_append_left hi]; exact hs, fun v hv => by rw [List.getElem?_append_left (by omega)] at hv; exact hv⟩)) fun i j _ _ q => q
/-- one slot more -/
theorem SE.snocSh (e : SE m H0 Γ σ S H) {P : Ty} {v : V} (h : P.is v S) : SE m H0 (Γ ++ [.sh P]) (σ ++ [some v]) S H := by
  have e2 : SE m H0 (Γ ++ [.un]) (σ ++ [none]) S H := e.ren (fun i => i) (by rw [List.length_append, List.length_append, e.len] <;> rfl) (fun i s hs => by
    by_cases hi : i < Γ.length
    · rw [List.getElem?_append_left hi] at hs
      exact .inr ⟨hs, fun v hv => by rw [List.getElem?_append_left (by rw [e.len]; exact hi)]; exact hv⟩
    · rw [List.getElem?_append_right (by omega)] at hs
      have q : i - Γ.length = 0 := by
        have := (List.getElem?_eq_some_iff.mp hs).1
        simp at this; omega
      rw [q] at hs
      exact .inl (Option.some.inj hs).symm) fun i j _ _ q => q
  have e3 := e2.setSh Γ.length h
  have g1 : (Γ ++ [Sl.un]).set Γ.length (.sh P) = Γ ++ [.sh P] := by simp
  have g2 : List.set (σ ++ [none] : List (Option V)) Γ.length (some v) = σ ++ [some v] := by rw [← e.len]; simp
  rw [g1, g2] at e3
  exact e3
theorem SE.snocOw (e : SE m H0 Γ σ S H) {c : Cell} {p : Addr} {o : HO} (h0 : H0 p = none) (hS : S p = none) (hH : H p = some o) (hm : m ≠ some p) (hf : ∀ j a, owns Γ j → σ[j]? = some (some (.ref a)) → a ≠ p) (h : c.is p o S) : SE m H0 (Γ ++ [.ow c]) (σ ++ [some (.ref p)]) S H := by
  have e2 : SE m H0 (Γ ++ [.un]) (σ ++ [none]) S H := e.ren (fun i => i) (by rw [List.length_append, List.length_append, e.len] <;> rfl) (fun i s hs => by
    by_cases hi : i < Γ.length
    · rw [List.getElem?_append_left hi] at hs
      exact .inr ⟨hs, fun v hv => by rw [List.getElem?_append_left (by rw [e.len]; exact hi)]; exact hv⟩
    · rw [List.getElem?_append_right (by omega)] at hs
      have q : i - Γ.length = 0 := by
        have := (List.getElem?_eq_some_iff.mp hs).1
        simp at this; omega
      rw [q] at hs
      exact .inl (Option.some.inj hs).symm) fun i j _ _ q => q
  have e3 := e2.setOw Γ.length h0 hS hH hm (fun j a ⟨d, hd⟩ ha => by
    by_cases hj : j < Γ.length
    · rw [List.getElem?_append_left hj] at hd
      rw [List.getElem?_append_left (by rw [e.len]; exact hj)] at ha
      exact hf j a ⟨d, hd⟩ ha
    · rw [List.getElem?_append_right (by omega)] at hd
      have q : j - Γ.length = 0 := by
        have := (List.getElem?_eq_some_iff.mp hd).1
        simp at this; omega
      rw [q] at hd
      cases hd) h
  have g1 : (Γ ++ [Sl.un]).set Γ.length (.ow c) = Γ ++ [.ow c] := by simp
  have g2 : List.set (σ ++ [none] : List (Option V)) Γ.length (some (V.ref p)) = σ ++ [some (V.ref p)] := by rw [← e.len]; simp
  rw [g1, g2] at e3
  exact e3
/-- the last slot goes to the place i -/
theorem SE.mv {s : Sl} {v : V} {i : Nat} (e : SE m H0 (Γ ++ [s]) (σ ++ [some v]) S H) : SE m H0 (Γ.set i s) (σ.set i (some v)) S H := by
  have hl : σ.length = Γ.length := by
    have := e.len
    simp at this; exact this
  refine e.ren (fun j => if j = i then Γ.length else j) (by rw [List.length_set, List.length_set]; exact hl) (fun j u hu => .inr ?_) fun j k ⟨c, hc⟩ ⟨d, hd⟩ q => ?_
  · by_cases z : j = i
    · subst z
      have hj : j < Γ.length := by
        have := (List.getElem?_eq_some_iff.mp hu).1
        rwa [List.length_set] at this
      rw [List.getElem?_set_self hj] at hu
      obtain rfl := Option.some.inj hu
      rw [if_pos rfl]
      refine ⟨by simp, fun w hw => ?_⟩
      rw [← hl] at hw
      simp at hw
      rw [List.getElem?_set_self (by omega), hw]
    · rw [List.getElem?_set_ne (fun y => z y.symm)] at hu
      have hj : j < Γ.length := (List.getElem?_eq_some_iff.mp hu).1
      rw [if_neg z, List.getElem?_append_left hj]
      exact ⟨hu, fun w hw => by rw [List.getElem?_append_left (by omega)] at hw; rw [List.getElem?_set_ne (fun y => z y.symm)]; exact hw⟩
  · have hj : j < Γ.length := by
      have := (List.getElem?_eq_some_iff.mp hc).1
      rwa [List.length_set] at this
    have hk : k < Γ.length := by
      have := (List.getElem?_eq_some_iff.mp hd).1
      rwa [List.length_set] at this
    by_cases z : j = i
    · by_cases y : k = i
      · rw [z, y]
      · rw [if_pos z, if_neg y] at q; omega
    · by_cases y : k = i
      · rw [if_neg z, if_pos y] at q; omega
      · rw [if_neg z, if_neg y] at q; exact q
theorem SE.ofresh (e : SE m H0 Γ σ S H) {p : Addr} (hp : H p = none) : ∀ j a, owns Γ j → σ[j]? = some (some (.ref a)) → a ≠ p := fun j a ⟨c, hc⟩ ha => by
  obtain ⟨A, h1, _⟩ := e.ok
  obtain ⟨q1, _, _, _, o, q4, _⟩ := h1 j _ hc
  obtain rfl : A j = a := by rw [q1] at ha; injection ha with ha; injection ha with ha; injection ha
  exact ne_of_none q4 hp
theorem SE.ofresh' {S' H' : Hp} (e : SE m H0 Γ σ S H) (s : Step m S H S' H') {p : Addr} (hp : H p = none) : ∀ j a, owns Γ j → σ[j]? = some (some (.ref a)) → a ≠ p := e.ofresh hp
theorem SE.mfresh (e : SE m H0 Γ σ S H) {p : Addr} (hp : H p = none) : m ≠ some p := fun z => by
  obtain ⟨_, s, t, h, _⟩ := e.st p z
  rw [hp] at h; cases h
end

/-! ### by values -/
def R2T (m : Option Addr) (r : R2) (P Q R : Ty) : Prop := ∀ x y S H, Same S H → StOk m S H → P.is x S → Q.is y S → ∀ k : VK, (∀ v S' H', Step m S H S' H' → R.is v S' → k v H') → r x y H k
def R1T (m : Option Addr) (r : V → Hp → VK → Prop) (P R : Ty) : Prop := ∀ x S H, Same S H → StOk m S H → P.is x S → ∀ k : VK, (∀ v S' H', Step m S H S' H' → R.is v S' → k v H') → r x H k
def RAT (m : Option Addr) (r : List V → Hp → VK → Prop) (Ps : List Ty) (R : Ty) : Prop := ∀ xs S H, Same S H → StOk m S H → All2 S Ps xs → ∀ k : VK, (∀ v S' H', Step m S H S' H' → R.is v S' → k v H') → r xs H k
/-- the same, a new cell -/
def RAN (m : Option Addr) (r : List V → Hp → VK → Prop) (Ps : List Ty) (c : Cell) : Prop := ∀ xs S H, Same S H → StOk m S H → All2 S Ps xs → ∀ k : VK, (∀ p o, H p = none → c.is p o S → k (.ref p) (upd H p o)) → r xs H k
section
variable {ι : Type} (X : ι → Cx) (m : Option Addr)
def OpT (f : Value → Value → Sem Value) (P Q R : Ty) : Prop := ∃ r, (∀ i, OpR (X i) f r) ∧ R2T m r P Q R
def UnT (f : Value → Sem Value) (P R : Ty) : Prop := ∃ r, (∀ i, UnR (X i) f r) ∧ R1T m r P R
def CaT (f : Value) (Ps : List Ty) (R : Ty) : Prop := ∃ r, (∀ i, CallR (X i) f r) ∧ RAT m r Ps R
def CaN (f : Value) (Ps : List Ty) (c : Cell) : Prop := ∃ r, (∀ i, CallR (X i) f r) ∧ RAN m r Ps c
def IxT (P Q R : Ty) : Prop := ∃ r, (∀ i, IxR (X i) r) ∧ R2T m r P Q R
end

section
variable {ι : Type} {X : ι → Cx} {m : Option Addr} {P : Program} {w : World} {K : PySem.W.Frag} {mg : Str → Option Value} {base : Heap} {N : List Str} {k : Nat} {Γ : List Sl} {A B R : Ty} {As : List Ty} {e e1 e2 : Expr} {es : List Expr} {pos : Pos} {b b1 b2 : Bool}
/-! ### plain things -/
theorem eg_le (h : EG X m e Γ A) (l : A.le B) : EG X m e Γ B := by
  obtain ⟨t, h1, h2⟩ := h
  exact ⟨t, h1, fun H0 σ S H I Q q => h2 H0 σ S H I Q fun v S' H' s z => q v S' H' s (l v S' z)⟩
theorem eg_eq (h : EG X m e Γ A) (l : A = B) : EG X m e Γ B := l ▸ h
theorem eg_nm (F : Fam X P w K mg base N k) (j : Nat) {x : Str} (hN : N[j]? = some x := by rfl) (hG : Γ[j]? = some (.sh A) := by rfl)
    (hv : ∀ i, Vis (X i).env.scope x := by intro i; first | exact Or.inl rfl | exact Or.inr (Or.inl rfl) | exact Or.inr (Or.inr rfl)) (hd : (x == ("__debug__" : Str)) = false := by decide)
    (hcd : (x == ("__classdict__" : Str)) = false := by decide) : EG X m (.Name x pos) Γ A :=
  ⟨tVar j, fun i => pe_var (by rw [F.eN]; exact hN) (hv i) hd hcd, fun H0 σ S H I Q q => by
    obtain ⟨v, h1, h2⟩ := I.sh hG
    exact ⟨v, h1, q v S H (.refl I.sub I.st) h2⟩⟩
theorem ev_c {v : V} : Ev m (tC v) Γ (tV v) := fun H0 σ S H I Q q => q v S H (.refl I.sub I.st) rfl
theorem eg_int {i : Int} {j : Nat} : EG X m (.Constant (.int i) j pos) Γ (tI i) := ⟨_, fun _ => pe_int, ev_c⟩
theorem eg_bl {i : Bool} {j : Nat} : EG X m (.Constant (.bool i) j pos) Γ (tB i) := ⟨_, fun _ => pe_bl, ev_c⟩
theorem eg_non {j : Nat} : EG X m (.Constant .none j pos) Γ tN := ⟨_, fun _ => pe_non, ev_c⟩
theorem eg_str {z : Str} {j : Nat} : EG X m (.Constant (.str z) j pos) Γ (tS z) := ⟨_, fun _ => pe_str, ev_c⟩
/-- a constant of the module -/
theorem eg_glob (F : Fam X P w K mg base N k) {x : Str} {v : V} {u : Value} (hm : mg x = some u) (r : RelV v u) (hg : ∀ i, Gl (X i) x := by intro i; rfl) (hd : (x == ("__debug__" : Str)) = false := by decide) : EG X m (.Name x pos) Γ (tV v) :=
  ⟨_, fun i => pe_glob (hg i) (by rw [F.eg]; exact hm) r hd, ev_c⟩
/-- a built-in name as a value -/
theorem eg_bltn (F : Fam X P w K mg base N k) {x : Str} {v : V} {u : Value} (hm : mg x = none) (hv : bootBuiltins x = some u) (r : RelV v u) (hg : ∀ i, Gl (X i) x := by intro i; rfl) (hn : x ≠ "__name__" := by decide) (hd : (x == ("__debug__" : Str)) = false := by decide) :
    EG X m (.Name x pos) Γ (tV v) := ⟨_, fun i => pe_bltn (hg i) (by rw [F.eg]; exact hm) hv r hn hd, ev_c⟩

/-! ### operators -/
theorem ev_op {r : R2} {ta tb : TE} (hr : R2T m r A B R) (ha : Ev m ta Γ A) (hb : Ev m tb Γ B) : Ev m (tOp r ta tb) Γ R := fun H0 σ S H I Q q =>
  ha H0 σ S H I _ fun x S1 H1 s1 p1 => hb H0 σ S1 H1 (I.step s1) _ fun y S2 H2 s2 p2 => hr x y S2 H2 s2.sub s2.st (A.mono _ _ _ s2.ss p1) p2 _ fun v S3 H3 s3 p3 => q v S3 H3 ((s1.trans s2).trans s3) p3
theorem eg_op {op : Operator} (o : OpT X m (binaryOp op) A B R) (ha : EG X m e1 Γ A) (hb : EG X m e2 Γ B) : EG X m (.BinOp e1 op e2 pos) Γ R := by
  obtain ⟨r, h1, h2⟩ := o
  obtain ⟨ta, a1, a2⟩ := ha
  obtain ⟨tb, b1, b2⟩ := hb
  exact ⟨_, fun i => pe_op (h1 i) (a1 i) (b1 i), ev_op h2 a2 b2⟩
theorem eg_un {op : UnaryOp} (o : UnT X m (unaryOp op) A R) (ha : EG X m e1 Γ A) : EG X m (.UnaryOp op e1 pos) Γ R := by
  obtain ⟨r, h1, h2⟩ := o
  obtain ⟨ta, a1, a2⟩ := ha
  exact ⟨_, fun i => pe_un (h1 i) (a1 i), fun H0 σ S H I Q q => a2 H0 σ S H I _ fun x S1 H1 s1 p1 => h2 x S1 H1 s1.sub s1.st p1 _ fun v S3 H3 s3 p3 => q v S3 H3 (s1.trans s3) p3⟩
theorem eg_cmp {op : CmpOp} (o : OpT X m (compareOp op) A B R) (ha : EG X m e1 Γ A) (hb : EG X m e2 Γ B) (hm : behindInMarks op e2 = false := by first | exact nomark _ | rfl) : EG X m (.Compare e1 [op] [e2] pos) Γ R := by
  obtain ⟨r, h1, h2⟩ := o
  obtain ⟨ta, a1, a2⟩ := ha
  obtain ⟨tb, b1, b2⟩ := hb
  exact ⟨_, fun i => pe_cmpR (h1 i) (a1 i) (b1 i) hm, ev_op h2 a2 b2⟩
theorem ev_test {te : TE} (h : Ev m te Γ (tB b)) : EvT m (tTest te) Γ b := fun H0 σ S H I Q q => h H0 σ S H I _ fun v S' H' s p => ⟨b, p, q S' H' s⟩
theorem et_cmp {op : CmpOp} (o : OpT X m (compareOp op) A B (tB b)) (ha : EG X m e1 Γ A) (hb : EG X m e2 Γ B) (hm : behindInMarks op e2 = false := by first | exact nomark _ | rfl) : ET X m (.Compare e1 [op] [e2] pos) Γ b := by
  obtain ⟨r, h1, h2⟩ := o
  obtain ⟨ta, a1, a2⟩ := ha
  obtain ⟨tb, b1, b2⟩ := hb
  exact ⟨_, fun i => pt_cmpR (h1 i) (a1 i) (b1 i) hm, ev_test (ev_op h2 a2 b2)⟩
theorem et_eq (h : ET X m e Γ b1) (l : b1 = b2) : ET X m e Γ b2 := l ▸ h
theorem ew_eq (h : EW X m e Γ b1) (l : b1 = b2) : EW X m e Γ b2 := l ▸ h
theorem et_w (h : EW X m e Γ b) : ET X m e Γ b := by
  obtain ⟨t, h1, h2⟩ := h
  exact ⟨t, fun i => (h1 i).pt, h2⟩
/-- a value that is True or False as a test -/
theorem et_v (h : EG X m e Γ (tB b)) (he : ∀ i whole, isTrue e (X i).env whole = (do let v ← whole; standAt e.pos; holding [v] (truthy v)) := by intro _ _; rfl) : ET X m e Γ b := by
  obtain ⟨t, h1, h2⟩ := h
  exact ⟨_, fun i => pt_val (h1 i) (he i), fun H0 σ S H I Q q => h2 H0 σ S H I _ fun v S' H' s p => ⟨b, p, q S' H' s⟩⟩
theorem et_not (h : ET X m e Γ b) : ET X m (.UnaryOp .Not e pos) Γ (!b) := by
  obtain ⟨t, h1, h2⟩ := h
  exact ⟨_, fun i => pt_not (h1 i), fun H0 σ S H I Q q => h2 H0 σ S H I _ fun S' H' s => q S' H' s⟩
def tNo : TT := fun _ _ _ => False
def vNo : TE := fun _ _ _ => False
theorem ew_and1 (h : ET X m e Γ b) : EW X m (.BoolOp .And [e] pos) Γ b := by
  obtain ⟨t, h1, h2⟩ := h
  exact ⟨_, fun i => pw_and1 (h1 i), h2⟩
theorem ew_or1 (h : ET X m e Γ b) : EW X m (.BoolOp .Or [e] pos) Γ b := by
  obtain ⟨t, h1, h2⟩ := h
  exact ⟨_, fun i => pw_or1 (h1 i), h2⟩
theorem ew_and {rest : List Expr} (h : ET X m e Γ b1) (h' : b1 = true → EW X m (.BoolOp .And (e2 :: rest) pos) Γ b2) : EW X m (.BoolOp .And (e :: e2 :: rest) pos) Γ (b1 && b2) := by
  obtain ⟨t, h1, h2⟩ := h
  cases b1 with
  | true =>
    obtain ⟨u, g1, g2⟩ := h' rfl
    exact ⟨_, fun i => pw_and (h1 i) (g1 i), fun H0 σ S H I Q q => h2 H0 σ S H I _ fun S' H' s => by
      show u σ H' Q
      exact g2 H0 σ S' H' (I.step s) Q fun S2 H2 s2 => q S2 H2 (s.trans s2)⟩
  | false => exact ⟨_, fun i => pw_and (tB' := tNo) (h1 i) ⟨fun _ _ _ _ _ _ _ z => z.elim⟩, fun H0 σ S H I Q q => h2 H0 σ S H I _ fun S' H' s => by
      show Q false H'
      exact q S' H' s⟩
theorem ew_or {rest : List Expr} (h : ET X m e Γ b1) (h' : b1 = false → EW X m (.BoolOp .Or (e2 :: rest) pos) Γ b2) : EW X m (.BoolOp .Or (e :: e2 :: rest) pos) Γ (b1 || b2) := by
  obtain ⟨t, h1, h2⟩ := h
  cases b1 with
  | false =>
    obtain ⟨u, g1, g2⟩ := h' rfl
    exact ⟨_, fun i => pw_or (h1 i) (g1 i), fun H0 σ S H I Q q => h2 H0 σ S H I _ fun S' H' s => by
      show u σ H' Q
      exact g2 H0 σ S' H' (I.step s) Q fun S2 H2 s2 => q S2 H2 (s.trans s2)⟩
  | true => exact ⟨_, fun i => pw_or (tB' := tNo) (h1 i) ⟨fun _ _ _ _ _ _ _ z => z.elim⟩, fun H0 σ S H I Q q => h2 H0 σ S H I _ fun S' H' s => by
      show Q true H'
      exact q S' H' s⟩
/-! as values -/
theorem eg_one {op} (h : EG X m e Γ A) : EG X m (.BoolOp op [e] pos) Γ A := by
  obtain ⟨t, h1, h2⟩ := h
  exact ⟨_, fun i => pe_one (h1 i), h2⟩
theorem eg_and {rest : List Expr} (h : EG X m e Γ (tB b1)) (h' : b1 = true → EG X m (.BoolOp .And (e2 :: rest) pos) Γ (tB b2)) : EG X m (.BoolOp .And (e :: e2 :: rest) pos) Γ (tB (b1 && b2)) := by
  obtain ⟨t, h1, h2⟩ := h
  cases b1 with
  | true =>
    obtain ⟨u, g1, g2⟩ := h' rfl
    exact ⟨_, fun i => pe_and (h1 i) (g1 i), fun H0 σ S H I Q q => h2 H0 σ S H I _ fun v S' H' s p => ⟨true, p, by
      show u σ H' Q
      exact g2 H0 σ S' H' (I.step s) Q fun v2 S2 H2 s2 p2 => q v2 S2 H2 (s.trans s2) p2⟩⟩
  | false => exact ⟨_, fun i => pe_and (tb := vNo) (h1 i) ⟨fun _ _ _ _ _ _ z => z.elim⟩, fun H0 σ S H I Q q => h2 H0 σ S H I _ fun v S' H' s p => ⟨false, p, by
      show Q (.bl false) H'
      exact q _ S' H' s rfl⟩⟩
theorem eg_or {rest : List Expr} (h : EG X m e Γ (tB b1)) (h' : b1 = false → EG X m (.BoolOp .Or (e2 :: rest) pos) Γ (tB b2)) : EG X m (.BoolOp .Or (e :: e2 :: rest) pos) Γ (tB (b1 || b2)) := by
  obtain ⟨t, h1, h2⟩ := h
  cases b1 with
  | false =>
    obtain ⟨u, g1, g2⟩ := h' rfl
    exact ⟨_, fun i => pe_or (h1 i) (g1 i), fun H0 σ S H I Q q => h2 H0 σ S H I _ fun v S' H' s p => ⟨false, p, by
      show u σ H' Q
      exact g2 H0 σ S' H' (I.step s) Q fun v2 S2 H2 s2 p2 => q v2 S2 H2 (s.trans s2) p2⟩⟩
  | true => exact ⟨_, fun i => pe_or (tb := vNo) (h1 i) ⟨fun _ _ _ _ _ _ z => z.elim⟩, fun H0 σ S H I Q q => h2 H0 σ S H I _ fun v S' H' s p => ⟨true, p, by
      show Q (.bl true) H'
      exact q _ S' H' s rfl⟩⟩
theorem eg_not (h : EG X m e Γ (tB b)) : EG X m (.UnaryOp .Not e pos) Γ (tB (!b)) := by
  obtain ⟨t, h1, h2⟩ := h
  exact ⟨_, fun i => pe_not (h1 i), fun H0 σ S H I Q q => h2 H0 σ S H I _ fun v S' H' s p => ⟨b, p, q _ S' H' s rfl⟩⟩
/-- a if c else b -/
theorem eg_if (hc : ET X m e Γ b) (h1 : b = true → EG X m e1 Γ A) (h2 : b = false → EG X m e2 Γ A) : EG X m (.IfExp e e1 e2 pos) Γ A := by
  obtain ⟨t, c1, c2⟩ := hc
  cases b with
  | true =>
    obtain ⟨u, g1, g2⟩ := h1 rfl
    exact ⟨_, fun i => pe_ifExp (tb := vNo) (c1 i) (g1 i) ⟨fun _ _ _ _ _ _ z => z.elim⟩, fun H0 σ S H I Q q => c2 H0 σ S H I _ fun S' H' s => by
      show u σ H' Q
      exact g2 H0 σ S' H' (I.step s) Q fun v2 S2 H2 s2 p2 => q v2 S2 H2 (s.trans s2) p2⟩
  | false =>
    obtain ⟨u, g1, g2⟩ := h2 rfl
    exact ⟨_, fun i => pe_ifExp (ta := vNo) (c1 i) ⟨fun _ _ _ _ _ _ z => z.elim⟩ (g1 i), fun H0 σ S H I Q q => c2 H0 σ S H I _ fun S' H' s => by
      show u σ H' Q
      exact g2 H0 σ S' H' (I.step s) Q fun v2 S2 H2 s2 p2 => q v2 S2 H2 (s.trans s2) p2⟩
/-- a < b < c -/
theorem eg_chain {op op' : CmpOp} {e3 : Expr} {C : Ty} (o : OpT X m (compareOp op) A B (tB b1)) (o' : OpT X m (compareOp op') B C (tB b2)) (ha : EG X m e1 Γ A) (hb : EG X m e2 Γ B) (hc : EG X m e3 Γ C) (hm : behindInMarks op' e3 = false := by first | exact nomark _ | rfl) :
    EG X m (.Compare e1 [op, op'] [e2, e3] pos) Γ (tB (b1 && b2)) := by
  obtain ⟨r, o1, o2⟩ := o
  obtain ⟨r', o1', o2'⟩ := o'
  obtain ⟨ta, a1, a2⟩ := ha
  obtain ⟨tb, b1', b2'⟩ := hb
  obtain ⟨tc, c1, c2⟩ := hc
  refine ⟨_, fun i => pe_chain (o1 i) (o1' i) (a1 i) (b1' i) (c1 i) hm, fun H0 σ S H I Q q => ?_⟩
  refine a2 H0 σ S H I _ fun x S1 H1 s1 p1 => b2' H0 σ S1 H1 (I.step s1) _ fun y S2 H2 s2 p2 => o2 x y S2 H2 s2.sub s2.st (A.mono _ _ _ s2.ss p1) p2 _ fun z S3 H3 s3 p3 => ⟨b1, p3, ?_⟩
  have I3 := I.step ((s1.trans s2).trans s3)
  cases b1 with
  | true =>
    show tc σ H3 _
    exact c2 H0 σ S3 H3 I3 _ fun u S4 H4 s4 p4 => o2' y u S4 H4 s4.sub s4.st (B.mono _ _ _ (s3.ss.trans s4.ss) p2) p4 _ fun v S5 H5 s5 p5 => q v S5 H5 ((((s1.trans s2).trans s3).trans s4).trans s5) p5
  | false =>
    show Q (.bl false) H3
    exact q _ S3 H3 ((s1.trans s2).trans s3) rfl
theorem et_chain {op op' : CmpOp} {e3 : Expr} {C : Ty} (o : OpT X m (compareOp op) A B (tB b1)) (o' : OpT X m (compareOp op') B C (tB b2)) (ha : EG X m e1 Γ A) (hb : EG X m e2 Γ B) (hc : EG X m e3 Γ C) (hm : behindInMarks op' e3 = false := by first | exact nomark _ | rfl) :
    ET X m (.Compare e1 [op, op'] [e2, e3] pos) Γ (b1 && b2) := by
  obtain ⟨r, o1, o2⟩ := o
  obtain ⟨r', o1', o2'⟩ := o'
  obtain ⟨ta, a1, a2⟩ := ha
  obtain ⟨tb, b1', b2'⟩ := hb
  obtain ⟨tc, c1, c2⟩ := hc
  refine ⟨_, fun i => pt_chain (o1 i) (o1' i) (a1 i) (b1' i) (c1 i) hm, fun H0 σ S H I Q q => ?_⟩
  refine a2 H0 σ S H I _ fun x S1 H1 s1 p1 => b2' H0 σ S1 H1 (I.step s1) _ fun y S2 H2 s2 p2 => o2 x y S2 H2 s2.sub s2.st (A.mono _ _ _ s2.ss p1) p2 _ fun z S3 H3 s3 p3 => ⟨b1, p3, ?_⟩
  have I3 := I.step ((s1.trans s2).trans s3)
  cases b1 with
  | true =>
    show tc σ H3 _
    exact c2 H0 σ S3 H3 I3 _ fun u S4 H4 s4 p4 => o2' y u S4 H4 s4.sub s4.st (B.mono _ _ _ (s3.ss.trans s4.ss) p2) p4 _ fun v S5 H5 s5 p5 => ⟨b2, p5, q S5 H5 ((((s1.trans s2).trans s3).trans s4).trans s5)⟩
  | false =>
    show ∃ k, V.bl false = V.bl k ∧ Q k H3
    exact ⟨false, rfl, q S3 H3 ((s1.trans s2).trans s3)⟩

/-! ### fields -/
theorem eg_fld (F : Fam X P w K mg base N k) {C : Addr} {fs : List (Str × Ty)} {f : Str} (cl : Cls K C) (na : NoAttr K C f) (he : EG X m e Γ (tO C fs)) (hl : fs.lookup f = some A := by rfl)
    (hb : ∀ i, attributeBase e f (X i).env (eval e (X i).env) = eval e (X i).env := by intro i; rfl) : EG X m (.Attribute e f pos) Γ A := by
  obtain ⟨t, h1, h2⟩ := he
  refine ⟨tFld K t f, fun i => ?_, fun H0 σ S H I Q q => h2 H0 σ S H I _ fun v S' H' s p => ?_⟩
  · have := pe_fld (pos := pos) (h1 i) (hb i)
    rw [F.eK] at this
    exact this
  · obtain ⟨a, dx, gs, rfl, ha, hf⟩ := p
    obtain ⟨x, hx, px⟩ := hf.get hl
    exact ⟨a, C, dx, gs, x, rfl, s.sub _ _ ha, cl, na, hx, q x S' H' s px⟩

/-! ### argument lists, displays -/
theorem ea_nil : EA X m [] Γ [] := ⟨_, fun _ => pa_nil, fun H0 σ S H I Q q => q [] S H (.refl I.sub I.st) .nil⟩
theorem ea_cons (he : EG X m e Γ A) (hr : EA X m es Γ As) (hs : ∀ i, starEach (e :: es) (X i).env = (false, eval e (X i).env) :: starEach es (X i).env := by intro i; rfl) : EA X m (e :: es) Γ (A :: As) := by
  obtain ⟨t, h1, h2⟩ := he
  obtain ⟨u, g1, g2⟩ := hr
  exact ⟨_, fun i => pa_cons (h1 i) (g1 i) (hs i), fun H0 σ S H I Q q => h2 H0 σ S H I _ fun v S1 H1 s1 p1 => g2 H0 σ S1 H1 (I.step s1) _ fun vs S2 H2 s2 p2 => q (v :: vs) S2 H2 (s1.trans s2) (.cons (A.mono _ _ _ s2.ss p1) p2)⟩
theorem eg_tup {x1} (h : EA X m es Γ As) (hl : As.length ≤ 100000 := by exact Nat.le_of_ble_eq_true rfl) : EG X m (.Tuple es x1 pos) Γ (tT K As) := by
  obtain ⟨t, h1, h2⟩ := h
  refine ⟨_, fun i => pe_tup (h1 i), fun H0 σ S H I Q q => h2 H0 σ S H I _ fun vs S1 H1 s1 p1 => ⟨Nat.le_trans (by rw [p1.length]; exact hl) (by decide), fun p hp => ?_⟩⟩
  have st := Step.new (o := .tup vs) s1.sub s1.st hp
  exact q _ _ _ (s1.trans st) ⟨p, vs, rfl, SqT.of upd_same, p1.mono st.ss⟩
theorem eg_lst (h : EA X m es Γ As) (hl : As.length ≤ 100000 := by exact Nat.le_of_ble_eq_true rfl) : EG X m (.List es pos) Γ (tL K As) := by
  obtain ⟨t, h1, h2⟩ := h
  refine ⟨_, fun i => pe_lst (h1 i), fun H0 σ S H I Q q => h2 H0 σ S H I _ fun vs S1 H1 s1 p1 => ⟨Nat.le_trans (by rw [p1.length]; exact hl) (by decide), fun p hp => ?_⟩⟩
  have st := Step.new (o := .lst vs) s1.sub s1.st hp
  exact q _ _ _ (s1.trans st) ⟨p, vs, rfl, SqL.of upd_same, p1.mono st.ss⟩
theorem en_lst (h : EA X m es Γ As) (hl : As.length ≤ 100000 := by exact Nat.le_of_ble_eq_true rfl) : EN X m (.List es pos) Γ (cL As) := by
  obtain ⟨t, h1, h2⟩ := h
  refine ⟨_, fun i => pe_lst (h1 i), fun H0 σ S H I Q q => h2 H0 σ S H I _ fun vs S1 H1 s1 p1 => ⟨Nat.le_trans (by rw [p1.length]; exact hl) (by decide), fun p hp => ?_⟩⟩
  have hn : H p = none := by
    cases z : H p with
    | none => rfl
    | some o =>
      by_cases hm : m = some p
      · obtain ⟨_, _, _, h, _⟩ := s1.st p hm
        rw [hp] at h; cases h
      · rw [s1.hh p o z hm] at hp; cases hp
  refine q p _ S1 _ hn (s1.trans (Step.own s1.sub s1.st hp)) ?_ upd_same ⟨vs, rfl, p1⟩
  cases z : S1 p with
  | none => rfl
  | some o => rw [s1.sub p o z] at hp; cases hp
theorem Step.back {S H S' H' : Hp} (s : Step m S H S' H') {p : Addr} (hp : H' p = none) : H p = none := by
  cases z : H p with
  | none => rfl
  | some o =>
    by_cases hm : m = some p
    · obtain ⟨_, _, _, h, _⟩ := s.st p hm
      rw [hp] at h; cases h
    · rw [s.hh p o z hm] at hp; cases hp
theorem Step.back' {S H S' H' : Hp} (s : Step m S H S' H') {p : Addr} (hp : H' p = none) : S' p = none := by
  cases z : S' p with
  | none => rfl
  | some o => rw [s.sub p o z] at hp; cases hp

/-! ### calls of built-in functions and types -/
theorem eg_callB (F : Fam X P w K mg base N k) {x : Str} {id : String} {p : Pos} (c : CaT X m (.builtin id) As R) (hm : mg x = none) (hv : bootBuiltins x = some (.builtin id)) (ha : EA X m (e :: es) Γ As) (hg : ∀ i, Gl (X i) x := by intro i; rfl)
    (hn : x ≠ "__name__" := by decide) (hdb : (x == ("__debug__" : Str)) = false := by decide) (he : ∀ i, starEach (e :: es) (X i).env = (false, eval e (X i).env) :: starEach es (X i).env := by intro i; rfl)
    (hpl : ∀ i, (backTo pos (starEach es (X i).env)).any (·.1) = false := by intro i; rfl) : EG X m (.Call (.Name x p) (e :: es) [] pos) Γ R := by
  obtain ⟨r, c1, c2⟩ := c
  obtain ⟨t, a1, a2⟩ := ha
  exact ⟨_, fun i => pe_callB (c1 i) (hg i) (by rw [F.eg]; exact hm) hv (a1 i) hn hdb (he i) (hpl i), fun H0 σ S H I Q q => a2 H0 σ S H I _ fun vs S1 H1 s1 p1 => c2 vs S1 H1 s1.sub s1.st p1 _ fun v S2 H2 s2 p2 => q v S2 H2 (s1.trans s2) p2⟩
theorem eg_callTy (F : Fam X P w K mg base N k) {x : Str} {T : String} {p : Pos} (c : CaT X m (.type T) As R) (hm : mg x = none) (hv : bootBuiltins x = some (.type T)) (ha : EA X m (e :: es) Γ As) (hg : ∀ i, Gl (X i) x := by intro i; rfl)
    (hn : x ≠ "__name__" := by decide) (hdb : (x == ("__debug__" : Str)) = false := by decide) (he : ∀ i, starEach (e :: es) (X i).env = (false, eval e (X i).env) :: starEach es (X i).env := by intro i; rfl)
    (hpl : ∀ i, (backTo pos (starEach es (X i).env)).any (·.1) = false := by intro i; rfl) : EG X m (.Call (.Name x p) (e :: es) [] pos) Γ R := by
  obtain ⟨r, c1, c2⟩ := c
  obtain ⟨t, a1, a2⟩ := ha
  exact ⟨_, fun i => pe_callTy (c1 i) (hg i) (by rw [F.eg]; exact hm) hv (a1 i) hn hdb (he i) (hpl i), fun H0 σ S H I Q q => a2 H0 σ S H I _ fun vs S1 H1 s1 p1 => c2 vs S1 H1 s1.sub s1.st p1 _ fun v S2 H2 s2 p2 => q v S2 H2 (s1.trans s2) p2⟩
theorem en_callTy (F : Fam X P w K mg base N k) {x : Str} {T : String} {p : Pos} {c : Cell} (o : CaN X m (.type T) As c) (hm : mg x = none) (hv : bootBuiltins x = some (.type T)) (ha : EA X m (e :: es) Γ As) (hg : ∀ i, Gl (X i) x := by intro i; rfl)
    (hn : x ≠ "__name__" := by decide) (hdb : (x == ("__debug__" : Str)) = false := by decide) (he : ∀ i, starEach (e :: es) (X i).env = (false, eval e (X i).env) :: starEach es (X i).env := by intro i; rfl)
    (hpl : ∀ i, (backTo pos (starEach es (X i).env)).any (·.1) = false := by intro i; rfl) : EN X m (.Call (.Name x p) (e :: es) [] pos) Γ c := by
  obtain ⟨r, c1, c2⟩ := o
  obtain ⟨t, a1, a2⟩ := ha
  exact ⟨_, fun i => pe_callTy (c1 i) (hg i) (by rw [F.eg]; exact hm) hv (a1 i) hn hdb (he i) (hpl i), fun H0 σ S H I Q q => a2 H0 σ S H I _ fun vs S1 H1 s1 p1 => c2 vs S1 H1 s1.sub s1.st p1 _ fun p o hp hc =>
    q p o S1 _ (s1.back hp) (s1.trans (Step.own s1.sub s1.st hp)) (s1.back' hp) upd_same hc⟩
end
end Rt

set_option Elab.async false
set_option linter.all false
set_option maxRecDepth 100000
set_option maxHeartbeats 4000000
/-! Rt3: defs, methods, classes, own operators. -/
namespace Rt
open PySem PySem.Spec PyProof.Rows L2

/-! ### promises by types -/
def FSp (R : List Ty → Ty → Prop) : Sp := fun vs H Q _ => ∃ Ps r S, R Ps r ∧ Same S H ∧ All2 S Ps vs ∧ ∀ v S' H', Step none S H S' H' → r.is v S' → Q v H'
/-- of a def that draws: its first argument is the law's own list -/
def MSp (R : List Ty → Ty → Prop) : Sp := fun vs H Q _ => ∃ st ws Ps r S, vs = .ref st :: ws ∧ R Ps r ∧ Same S H ∧ StOk (some st) S H ∧ All2 S Ps ws ∧ ∀ v S' H', Step (some st) S H S' H' → r.is v S' → Q v H'
/-- of an __init__ -/
def ISp (C : Addr) (R : List Ty → List (Str × Ty) → Prop) : Sp := fun vs H Q _ => ∃ x dx ws Ps fs S H1, vs = .ref x :: ws ∧ R Ps fs ∧ H1 x = none ∧ H1 dx = none ∧ dx ≠ x ∧ H = upd (upd H1 dx (.own x)) x (.ins C dx []) ∧ Same S H1 ∧ All2 S Ps ws ∧
  ∀ S' H' gs, Step none S H1 S' H' → S' x = none → H' x = some (.ins C dx gs) → FAll S' fs gs → Q .non H'
section
variable (P : Program) (w : World) (K : PySem.W.Frag) (mg : Str → Option Value) (base : Heap)
def FnT (x : Str) (j : Nat) (sp : Sp) : Prop := ∃ f fd ps, FnOk P w K mg base CX0 j f fd ps sp ∧ mg x = some (.ref f) ∧ PySem.W.keepIn K (.ref f) = true ∧ Binds K fd ps []
def MethT (C : Addr) (x : Str) (j : Nat) (sp : Sp) : Prop := ∃ f fd ps, FnOk P w K mg base CX0 j f fd ps sp ∧ Meth K C x f ∧ Binds K fd ps []
/-- a class by its __init__; dvs: the defaults that fill up -/
def MakT (C : Addr) (j : Nat) (dvs : List V) (sp : Sp) : Prop := ∃ f fd ps ds, FnOk P w K mg base CX0 j f fd ps sp ∧ Mk K C f ∧ Binds K fd ps ds ∧ Vals dvs ds
end
section
variable {P : Program} {w : World} {K : PySem.W.Frag} {mg : Str → Option Value} {base : Heap}
theorem FnT.imp {x : Str} {j : Nat} {R R' : List Ty → Ty → Prop} (T : FnT P w K mg base x j (FSp R)) (h : ∀ Ps r, R' Ps r → R Ps r) : FnT P w K mg base x j (FSp R') := by
  obtain ⟨f, fd, ps, F, h1, h2, h3⟩ := T
  exact ⟨f, fd, ps, F.imp fun vs H Q E ⟨Ps, r, S, a, b⟩ => ⟨Ps, r, S, h _ _ a, b⟩, h1, h2, h3⟩
end

section
variable {ι : Type} {X : ι → Cx} {m : Option Addr} {P : Program} {w : World} {K : PySem.W.Frag} {mg : Str → Option Value} {base : Heap} {N : List Str} {k j : Nat} {Γ : List Sl} {A B R : Ty} {As : List Ty} {e o : Expr} {es : List Expr} {pos apos : Pos} {rel : List Ty → Ty → Prop}
theorem Fam.fnok (F : Fam X P w K mg base N k) (i : ι) {f : Addr} {fd : FuncData} {ps : List Str} {sp : Sp} (h : FnOk P w K mg base CX0 j f fd ps sp) : FnOk (X i).prog (X i).w (X i).K (X i).mg (X i).base CX0 j f fd ps sp := by
  rw [F.ep, F.ew, F.eK, F.eg, F.eb]; exact h
theorem ev_call (he : EvA m t Γ As) (hR : rel As R) : Ev m (tCall (FSp rel) [] E0 t) Γ R := fun H0 σ S H I Q q => he H0 σ S H I _ fun vs S1 H1 s1 p1 => ⟨As, R, S1, hR, s1.sub, by rw [List.append_nil]; exact p1, fun v S2 H2 s2 p2 => q v S2 H2 (s1.trans (s2.lift s1.st)) p2⟩
/-- f(e, ..) -/
theorem eg_call (F : Fam X P w K mg base N k) {x : Str} {p : Pos} (T : FnT P w K mg base x j (FSp rel)) (ha : EA X m (e :: es) Γ As) (hR : rel As R) (hj : j ≤ k := by decide) (hg : ∀ i, Gl (X i) x := by intro i; rfl)
    (hdb : (x == ("__debug__" : Str)) = false := by decide) (he : ∀ i, starEach (e :: es) (X i).env = (false, eval e (X i).env) :: starEach es (X i).env := by intro i; rfl)
    (hpl : ∀ i, (backTo pos (starEach es (X i).env)).any (·.1) = false := by intro i; rfl) : EG X m (.Call (.Name x p) (e :: es) [] pos) Γ R := by
  obtain ⟨f, fd, ps, G, h1, h2, h3⟩ := T
  obtain ⟨t, a1, a2⟩ := ha
  exact ⟨_, fun i => pe_call (F.fnok i G) ((F.room i).mono hj) (hg i) (by rw [F.eg]; exact h1) (by rw [F.eK]; exact h2) (by rw [F.eK]; exact h3) .nil pass0 (a1 i) hdb (he i) (hpl i), ev_call a2 hR⟩
/-- f(state, e, ..) -/
theorem eg_draw (F : Fam X P w K mg base N k) {st : Addr} {x : Str} {p : Pos} (T : FnT P w K mg base x j (MSp rel)) (ha : EA X (some st) (e :: es) Γ (tV (.ref st) :: As)) (hR : rel As R) (hj : j ≤ k := by decide) (hg : ∀ i, Gl (X i) x := by intro i; rfl)
    (hdb : (x == ("__debug__" : Str)) = false := by decide) (he : ∀ i, starEach (e :: es) (X i).env = (false, eval e (X i).env) :: starEach es (X i).env := by intro i; rfl)
    (hpl : ∀ i, (backTo pos (starEach es (X i).env)).any (·.1) = false := by intro i; rfl) : EG X (some st) (.Call (.Name x p) (e :: es) [] pos) Γ R := by
  obtain ⟨f, fd, ps, G, h1, h2, h3⟩ := T
  obtain ⟨t, a1, a2⟩ := ha
  refine ⟨_, fun i => pe_call (F.fnok i G) ((F.room i).mono hj) (hg i) (by rw [F.eg]; exact h1) (by rw [F.eK]; exact h2) (by rw [F.eK]; exact h3) .nil pass0 (a1 i) hdb (he i) (hpl i), fun H0 σ S H I Q q => a2 H0 σ S H I _ fun vs S1 H1 s1 p1 => ?_⟩
  cases p1 with
  | cons h t => exact ⟨st, _, As, R, S1, by rw [List.append_nil, show _ = V.ref st from h], hR, s1.sub, s1.st, t, fun v S2 H2 s2 p2 => q v S2 H2 (s1.trans s2) p2⟩
/-- o.m(e, ..), o.m() -/
theorem eg_meth (F : Fam X P w K mg base N k) {C : Addr} {fs : List (Str × Ty)} {x : Str} (cl : Cls K C) (T : MethT P w K mg base C x j (FSp rel)) (ho : EG X m o Γ (tO C fs)) (ha : EA X m (e :: es) Γ As) (hR : rel (tO C fs :: As) R) (hj : j ≤ k := by decide)
    (hl : fs.lookup x = none := by rfl) (hst : ∀ i, starEach (e :: es) (X i).env = (false, eval e (X i).env) :: starEach es (X i).env := by intro i; rfl) (hpl : ∀ i, (backTo pos (starEach es (X i).env)).any (·.1) = false := by intro i; rfl)
    (ht : ∀ i, ∃ pl, eval (.Call (.Attribute o x apos) (e :: es) [] pos) (X i).env = (do
      let ov ← eval o (X i).env
      standAt apos.atName
      let (f, first) ← holding [ov] (getMethod ov x pl)
      callWith pos f first (backTo pos (starEach (e :: es) (X i).env)) (backToKw pos (keywordEach [] (X i).env))) := by intro i; exact ⟨_, rfl⟩) : EG X m (.Call (.Attribute o x apos) (e :: es) [] pos) Γ R := by
  obtain ⟨f, fd, ps, G, M, h3⟩ := T
  obtain ⟨t, a1, a2⟩ := ha
  obtain ⟨u, o1, o2⟩ := ho
  refine ⟨tMeth C x (FSp rel) [] E0 u t, fun i => ?_, fun H0 σ S H I Q q => o2 H0 σ S H I _ fun v S1 H1 s1 p1 => ?_⟩
  · obtain ⟨pl, ht⟩ := ht i
    exact pe_meth (o1 i) (by rw [F.eK]; exact cl) (by rw [F.eK]; exact M) (F.fnok i G) ((F.room i).mono hj) (by rw [F.eK]; exact h3) .nil pass0 (a1 i) (hst i) (hpl i) ht
  · obtain ⟨a, dx, gs, rfl, ha, hf⟩ := id p1
    exact ⟨a, dx, gs, rfl, s1.sub _ _ ha, hf.none hl, a2 H0 σ S1 H1 (I.step s1) _ fun vs S2 H2 s2 p2 => ⟨_, R, S2, hR, s2.sub, by rw [List.append_nil]; exact .cons ((tO C fs).mono _ _ _ s2.ss p1) p2, fun v S3 H3 s3 p3 => q v S3 H3 ((s1.trans s2).trans (s3.lift s2.st)) p3⟩⟩
theorem eg_meth0 (F : Fam X P w K mg base N k) {C : Addr} {fs : List (Str × Ty)} {x : Str} (cl : Cls K C) (T : MethT P w K mg base C x j (FSp rel)) (ho : EG X m o Γ (tO C fs)) (hR : rel [tO C fs] R) (hj : j ≤ k := by decide) (hl : fs.lookup x = none := by rfl)
    (ht : ∀ i, ∃ pl, eval (.Call (.Attribute o x apos) [] [] pos) (X i).env = (do
      let ov ← eval o (X i).env
      standAt apos.atName
      let (f, first) ← holding [ov] (getMethod ov x pl)
      callWith pos f first (backTo pos (starEach [] (X i).env)) (backToKw pos (keywordEach [] (X i).env))) := by intro i; exact ⟨_, rfl⟩) : EG X m (.Call (.Attribute o x apos) [] [] pos) Γ R := by
  obtain ⟨f, fd, ps, G, M, h3⟩ := T
  obtain ⟨u, o1, o2⟩ := ho
  refine ⟨tMeth C x (FSp rel) [] E0 u tNil, fun i => ?_, fun H0 σ S H I Q q => o2 H0 σ S H I _ fun v S1 H1 s1 p1 => ?_⟩
  · obtain ⟨pl, ht⟩ := ht i
    exact pe_meth0 (o1 i) (by rw [F.eK]; exact cl) (by rw [F.eK]; exact M) (F.fnok i G) ((F.room i).mono hj) (by rw [F.eK]; exact h3) .nil pass0 ht
  · obtain ⟨a, dx, gs, rfl, ha, hf⟩ := id p1
    exact ⟨a, dx, gs, rfl, s1.sub _ _ ha, hf.none hl, _, R, S1, hR, s1.sub, .cons p1 .nil, fun v S3 H3 s3 p3 => q v S3 H3 (s1.trans (s3.lift s1.st)) p3⟩
/-- C(e, ..) -/
theorem eg_make (F : Fam X P w K mg base N k) {C : Addr} {x : Str} {p : Pos} {dvs : List V} {fs : List (Str × Ty)} {rl : List Ty → List (Str × Ty) → Prop} (T : MakT P w K mg base C j dvs (ISp C rl)) (hm : mg x = some (.ref C)) (ha : EA X m (e :: es) Γ As)
    (hR : rl (As ++ dvs.map tV) fs) (hj : j + 1 ≤ k := by decide) (hg : ∀ i, Gl (X i) x := by intro i; rfl)
    (hdb : (x == ("__debug__" : Str)) = false := by decide) (he : ∀ i, starEach (e :: es) (X i).env = (false, eval e (X i).env) :: starEach es (X i).env := by intro i; rfl)
    (hpl : ∀ i, (backTo pos (starEach es (X i).env)).any (·.1) = false := by intro i; rfl) : EG X m (.Call (.Name x p) (e :: es) [] pos) Γ (tO C fs) := by
  obtain ⟨f, fd, ps, ds, G, M, h3, h4⟩ := T
  obtain ⟨t, a1, a2⟩ := ha
  refine ⟨_, fun i => pe_make (by rw [F.eK]; exact M) (F.fnok i G) ((F.room i).mono hj) (hg i) (by rw [F.eg]; exact hm) (by rw [F.eK]; exact h3) h4 pass0 (a1 i) hdb (he i) (hpl i), fun H0 σ S H I Q q => a2 H0 σ S H I _ fun vs S1 H1 s1 p1 => fun z dz hz hdz hne => ?_⟩
  have hv : ∀ l : List V, All2 S1 (l.map tV) l := fun l => by
    induction l with
    | nil => exact .nil
    | cons a r ih => exact .cons rfl ih
  refine ⟨z, dz, vs ++ dvs, As ++ dvs.map tV, fs, S1, H1, rfl, hR, hz, hdz, hne, rfl, s1.sub, p1.append (hv dvs), fun S2 H2 gs s2 h1 h2 h3 => ⟨rfl, ?_⟩⟩
  have s2' := s2.lift s1.st
  have ss : Same S2 (upd S2 z (.ins C dz gs)) := fun b u hb => by rw [upd_ne (ne_of_none hb h1)]; exact hb
  have sb : Same (upd S2 z (.ins C dz gs)) H2 := fun b u hb => by
    by_cases y : b = z
    · subst y; rw [upd_same] at hb; rw [h2]; exact hb
    · rw [upd_ne y] at hb; exact s2'.sub b u hb
  have s3 : Step m S1 H1 (upd S2 z (.ins C dz gs)) H2 := ⟨s2'.hh, s2'.ss.trans ss, sb, fun b u hb ho hn => by rw [upd_ne (ne_of_none hb hz)]; exact s2'.nw b u hb ho hn, fun b hb => by
    obtain ⟨r1, x, t, r2, r3⟩ := s2'.st b hb
    obtain ⟨_, _, _, r4, _⟩ := s1.st b hb
    exact ⟨by rw [upd_ne (ne_of_none r4 hz)]; exact r1, x, t, r2, r3⟩⟩
  exact q _ _ H2 (s1.trans s3) ⟨z, dz, gs, rfl, upd_same, h3.mono ss⟩

/-! ### own operators -/
theorem cmpBack_of {Q : Value → Shared → Prop} {v : V} {u : Value} {s : Shared} (r : RelV v u) (h : Q u s) : PySem.W.CmpBack Q u s := by
  cases v with
  | non => cases (show u = Value.none from r); exact h
  | bl b => cases (show u = Value.bool b from r); exact h
  | int i => obtain ⟨t, rfl⟩ := (show ∃ t, u = Value.int i t from r); exact h
  | str i => obtain ⟨t, rfl⟩ := (show ∃ t, u = Value.str i t from r); exact h
  | byt i => obtain ⟨t, rfl⟩ := (show ∃ t, u = Value.bytes i t from r); exact h
  | flt i => obtain ⟨t, rfl⟩ := (show ∃ t, u = Value.float i t from r); exact h
  | ref a => cases (show u = Value.ref a from r); exact h
  | ty n => cases (show u = Value.type n from r); exact h
/-- a def called from below the running body -/
theorem call_at {Y : Cx} {f : Addr} {fd : FuncData} {ps : List Str} {sp : Sp} {Ar : Around} {pins : List (Addr × Obj)} {s : Shared} {σ : L2.St} {H : Hp} {us : List Value} {vs : List V} {Q : VK} (G : FnOk Y.prog Y.w Y.K Y.mg Y.base CX0 j f fd ps sp) (hb : Binds Y.K fd ps [])
    (sb : Sub Y j Ar) (I : Inv Y pins σ H s) (r : Vals vs us) (h : sp vs H Q E0) : wpAny (model Y.prog Y.w) Ar (call (.ref f) us) (EP Y pins σ Q) Y.xe s := by
  have e0 : Env0 Y.prog Y.w Y.K Y.mg Y.base Ar Y.stack s H := by
    have e := I.env0
    exact ⟨by rw [sb.fr]; exact e.frames, e.mod, e.bs, e.bsz, e.funs, e.frf, e.hok, e.bare⟩
  have hl := G.len _ _ _ _ h
  have hl2 : (us ++ ([] : List Value)).length = ps.length := by rw [List.append_nil, ← r.length]; exact hl
  have hb2 := hb s us I.kIn hl2
  rw [List.append_nil] at hb2
  refine wpAny_call (codeAny_mono (G.run Ar Y.stack s H ⟨us, []⟩ us vs Q E0 sb.room e0 hb2 r h) fun r s' hq => ?_)
  cases r with
  | error e => exact False.elim hq
  | ok fl =>
    cases fl with
    | ret w => exact I.after hq
    | next => exact False.elim hq
    | brk => exact False.elim hq
    | cont => exact False.elim hq
theorem inst_of {Y : Cx} {pins : List (Addr × Obj)} {s : Shared} {σ : L2.St} {H : Hp} {a C dx : Addr} {gs : List (Str × V)} (I : Inv Y pins σ H s) (h : H a = some (.ins C dx gs)) : ∃ od, PySem.W.InstAt s.heap a (PySem.W.instObj C dx) C (some od) := by
  obtain ⟨mA, J, _⟩ := ins_get I.hok h
  obtain ⟨od, J, _⟩ := J.look
  exact ⟨od, J⟩
/-- a + b, a - b, a * b of two instances of one own class -/
theorem op_own (F : Fam X P w K mg base N k) {C : Addr} {fs gs : List (Str × Ty)} {op : Operator} (T : MethT P w K mg base C (PySem.dunder op.info.2) j (FSp rel)) (sf : PySem.W.selfFirst K C = true) (hR : rel [tO C fs, tO C gs] R) (hj : j ≤ k := by decide) : OpT X m (binaryOp op) (tO C fs) (tO C gs) R := by
  obtain ⟨f, fd, ps, G, M, h3⟩ := T
  refine ⟨fun x y H Q => ∃ a b dx dy us vs, x = .ref a ∧ y = .ref b ∧ H a = some (.ins C dx us) ∧ H b = some (.ins C dy vs) ∧ FSp rel [x, y] H Q E0, fun i => ?_, ?_⟩
  · intro pins s σ H x y v u Q I rx ry h
    obtain ⟨a, b, dx, dy, us, vs, rfl, rfl, ha, hb, h⟩ := h
    cases rx
    cases ry
    obtain ⟨od, J⟩ := inst_of I ha
    obtain ⟨od', J'⟩ := inst_of I hb
    obtain ⟨_, hF⟩ := I.fr
    have hK := F.eK i
    refine PySem.W.binop_K (K := (X i).K) hF I.ok.mod.kin J J'.type (by rw [hK]; exact sf) (by rw [hK]; exact M.at_) (by rw [hK]; exact M.fn) ?_
    refine wpAny_mono (call_at (F.fnok i G) (by rw [hK]; exact h3) ⟨(F.room i).mono hj, rfl⟩ I (.cons (show L2.RelV (.ref a) (.ref a) from rfl) (.cons (show L2.RelV (.ref b) (.ref b) from rfl) .nil)) h) (fun u s' q => ?_) fun _ _ z => z
    obtain ⟨v, H', I', r, q⟩ := id q
    exact cmpBack_of r ⟨v, H', I', r, q⟩
  · intro x y S H e st px py q hq
    obtain ⟨a, dx, us, rfl, ha, hf⟩ := id px
    obtain ⟨b, dy, vs, rfl, hb, hg⟩ := id py
    exact ⟨a, b, dx, dy, us, vs, rfl, rfl, e _ _ ha, e _ _ hb, _, R, S, hR, e, .cons px (.cons py .nil), fun v S2 H2 s2 p2 => hq v S2 H2 (s2.lift st) p2⟩
/-- -a -/
theorem op_negO (F : Fam X P w K mg base N k) {C : Addr} {fs : List (Str × Ty)} (T : MethT P w K mg base C "__neg__" j (FSp rel)) (hR : rel [tO C fs] R) (hj : j ≤ k := by decide) : UnT X m (unaryOp .USub) (tO C fs) R := by
  obtain ⟨f, fd, ps, G, M, h3⟩ := T
  refine ⟨fun x H Q => ∃ a dx us, x = .ref a ∧ H a = some (.ins C dx us) ∧ FSp rel [x] H Q E0, fun i => ?_, ?_⟩
  · intro pins s σ H x v Q I rx h
    obtain ⟨a, dx, us, rfl, ha, h⟩ := h
    cases rx
    obtain ⟨od, J⟩ := inst_of I ha
    obtain ⟨_, hF⟩ := I.fr
    have hK := F.eK i
    refine PySem.W.ksp_neg (K := (X i).K) hF I.ok.mod.kin J (by rw [hK]; exact M.at_) (by rw [hK]; exact M.fn) ?_
    exact call_at (F.fnok i G) (by rw [hK]; exact h3) ⟨(F.room i).mono hj, rfl⟩ I (.cons (show L2.RelV (.ref a) (.ref a) from rfl) .nil) h
  · intro x S H e st px q hq
    obtain ⟨a, dx, us, rfl, ha, hf⟩ := id px
    exact ⟨a, dx, us, rfl, e _ _ ha, _, R, S, hR, e, .cons px .nil, fun v S2 H2 s2 p2 => hq v S2 H2 (s2.lift st) p2⟩
end
end Rt

set_option Elab.async false
set_option linter.all false
set_option maxRecDepth 100000
set_option maxHeartbeats 4000000
/-! Rt4: statements, loops, defs. -/
namespace Rt
open PySem PySem.Spec PyProof.Rows L2

section
variable {ι : Type} (X : ι → Cx)
def bS (sts : List Stmt) : TS := fun D σ H => ∃ u, (∀ i, PSs (X i) sts u) ∧ u D σ H
def bE (e : Expr) : TE := fun σ H Q => ∃ u, (∀ i, PE (X i) e u) ∧ u σ H Q
def bT (e : Expr) : TT := fun σ H Q => ∃ u, (∀ i, PT (X i) e u) ∧ u σ H Q
theorem bS_ok (sts : List Stmt) (i : ι) : PSs (X i) sts (bS X sts) := ⟨fun pins s σ H D I ⟨u, h, q⟩ => (h i).run pins s σ H D I q⟩
theorem bE_ok (e : Expr) (i : ι) : PE (X i) e (bE X e) := ⟨fun pins s σ H D I ⟨u, h, q⟩ => (h i).run pins s σ H D I q⟩
theorem bT_ok (e : Expr) (i : ι) : PT (X i) e (bT X e) := ⟨fun pins s σ H D I ⟨u, h, q⟩ => (h i).run pins s σ H D I q⟩
end
section
variable {ι : Type} {X : ι → Cx} {m : Option Addr} {P : Program} {w : World} {K : PySem.W.Frag} {mg : Str → Option Value} {base : Heap} {N : List Str} {k j : Nat} {Γ Δ : List Sl} {A B R : Ty} {As : List Ty} {e o e1 e2 : Expr} {es : List Expr} {pos apos : Pos} {O : Po} {st : Stmt} {sts rest p q : List Stmt} {b : Bool}
theorem SG.go (h : SG X m sts Γ O) : Go m (bS X sts) Γ O := fun S0 H0 σ S H s I D r n bk ct => let ⟨u, h1, h2⟩ := h; ⟨u, h1, h2 S0 H0 σ S H s I D r n bk ct⟩
theorem EG.ev (h : EG X m e Γ A) : Ev m (bE X e) Γ A := fun H0 σ S H I Q q => let ⟨u, h1, h2⟩ := h; ⟨u, h1, h2 H0 σ S H I Q q⟩
theorem ET.ev (h : ET X m e Γ b) : EvT m (bT X e) Γ b := fun H0 σ S H I Q q => let ⟨u, h1, h2⟩ := h; ⟨u, h1, h2 H0 σ S H I Q q⟩
theorem sg_go (h : Go m (bS X sts) Γ O) : SG X m sts Γ O := ⟨_, bS_ok X sts, h⟩

/-! ### blocks -/
theorem sg_nil (h : O.nx Γ) : SG X m [] Γ O := ⟨_, fun _ => pss_nil, fun S0 H0 σ S H s I D r n bk ct => n Γ σ S H h s (Same.refl S) I⟩
theorem sg_cons (h : SG1 X m st Γ { O with nx := fun Γ' => SG X m rest Γ' O }) : SG X m (st :: rest) Γ O := by
  obtain ⟨t, h1, h2⟩ := h
  refine ⟨tSeq t (bS X rest), fun i => pss_cons (h1 i) (bS_ok X rest i), fun S0 H0 σ S H s I D r n bk ct => ?_⟩
  exact h2 S0 H0 σ S H s I { D with nx := bS X rest D } r (fun Γ' σ' S' H' hn s' ss I' => hn.go S0 H0 σ' S' H' s' I' D (fun v S2 H2 s2 q2 => r v S2 H2 s2 (ss.trans q2)) (fun Γ2 σ2 S2 H2 z s2 q2 => n Γ2 σ2 S2 H2 z s2 (ss.trans q2))
    (fun Γ2 σ2 S2 H2 z s2 q2 => bk Γ2 σ2 S2 H2 z s2 (ss.trans q2)) fun Γ2 σ2 S2 H2 z s2 q2 => ct Γ2 σ2 S2 H2 z s2 (ss.trans q2)) bk ct
theorem sg_one (h : SG1 X m st Γ O) : SG X m [st] Γ O := by
  obtain ⟨t, h1, h2⟩ := h
  exact ⟨t, fun i => pss_one (h1 i), h2⟩
/-- whatever follows, from here less is known -/
theorem sg_weak (h : SubG Γ Δ) (g : SG X m sts Δ O) : SG X m sts Γ O := by
  obtain ⟨t, h1, h2⟩ := g
  exact ⟨t, h1, fun S0 H0 σ S H s I => h2 S0 H0 σ S H s (I.weak h)⟩
/-- a slot's value is one of a family -/
theorem sg_ex {α : Type} {C : α → Prop} {Q : α → Ty} (i : Nat) (hi : Γ[i]? = some (.sh (tEx C Q))) (h : ∀ x, C x → SG X m sts (Γ.set i (.sh (Q x))) O) : SG X m sts Γ O := by
  refine sg_go fun S0 H0 σ S H s I D r n bk ct => ?_
  obtain ⟨v, h1, x, hx, hv⟩ := I.sh hi
  have hl : i < Γ.length := (List.getElem?_eq_some_iff.mp hi).1
  have e := I.setSh i hv
  have eσ : σ.set i (some v) = σ := by
    obtain ⟨hs, z⟩ := List.getElem?_eq_some_iff.mp h1
    rw [← z]; exact List.set_getElem_self hs
  rw [eσ] at e
  exact (h x hx).go S0 H0 σ S H s e D r n bk ct
theorem sg_fr (i : Nat) {c : Cell} {Q : Ty} (hi : Γ[i]? = some (.ow c)) (hf : ∀ a o S, S a = some o → c.is a o S → Q.is (.ref a) S) (h : SG X m sts (Γ.set i (.sh Q)) O) : SG X m sts Γ O := by
  refine sg_go fun S0 H0 σ S H s I D r n bk ct => ?_
  obtain ⟨S', s', ss, I'⟩ := I.freeze s hi hf
  exact h.go S0 H0 σ S' H s' I' D (fun v S2 H2 s2 q2 => r v S2 H2 s2 (ss.trans q2)) (fun Γ2 σ2 S2 H2 z s2 q2 => n Γ2 σ2 S2 H2 z s2 (ss.trans q2))
    (fun Γ2 σ2 S2 H2 z s2 q2 => bk Γ2 σ2 S2 H2 z s2 (ss.trans q2)) fun Γ2 σ2 S2 H2 z s2 q2 => ct Γ2 σ2 S2 H2 z s2 (ss.trans q2)
theorem cL_fr {As : List Ty} : ∀ (a : Addr) (o : HO) (S : Hp), S a = some o → (cL As).is a o S → (tL K As).is (.ref a) S := fun a o S h ⟨xs, e, q⟩ => ⟨a, xs, rfl, SqL.of (by rw [h, e]), q⟩

/-! ### plain statements -/
theorem sg1_pass (h : O.nx Γ) : SG1 X m (.Pass pos) Γ O := ⟨_, fun _ => ps_pass, fun S0 H0 σ S H s I D r n bk ct => n Γ σ S H h s (Same.refl S) I⟩
theorem sg1_break (h : O.bk Γ) : SG1 X m (.Break pos) Γ O := ⟨_, fun _ => ps_break, fun S0 H0 σ S H s I D r n bk ct => bk Γ σ S H h s (Same.refl S) I⟩
theorem sg1_continue (h : O.ct Γ) : SG1 X m (.Continue pos) Γ O := ⟨_, fun _ => ps_continue, fun S0 H0 σ S H s I D r n bk ct => ct Γ σ S H h s (Same.refl S) I⟩
theorem sg1_if {c : Expr} (hc : ET X m c Γ b) (h1 : b = true → SG X m p Γ O) (h2 : b = false → SG X m q Γ O) : SG1 X m (.If c p q pos) Γ O := by
  obtain ⟨t, c1, c2⟩ := hc
  refine ⟨tIfS t (bS X p) (bS X q), fun i => ps_if (c1 i) (bS_ok X p i) (bS_ok X q i), fun S0 H0 σ S H s I D r n bk ct => c2 H0 σ S H I _ fun S1 H1 s1 => ?_⟩
  have s2 := s.trans s1
  have I2 := I.step s1
  have go : ∀ {w : List Stmt}, SG X m w Γ O → bS X w D σ H1 := fun g => g.go S0 H0 σ S1 H1 s2 I2 D (fun v S2 H2 s2 q2 => r v S2 H2 s2 (s1.ss.trans q2)) (fun Γ2 σ2 S2 H2 z s2 q2 => n Γ2 σ2 S2 H2 z s2 (s1.ss.trans q2))
    (fun Γ2 σ2 S2 H2 z s2 q2 => bk Γ2 σ2 S2 H2 z s2 (s1.ss.trans q2)) fun Γ2 σ2 S2 H2 z s2 q2 => ct Γ2 σ2 S2 H2 z s2 (s1.ss.trans q2)
  cases b with
  | true =>
    show bS X p D σ H1
    exact go (h1 rfl)
  | false =>
    show bS X q D σ H1
    exact go (h2 rfl)
theorem sg1_ret {nx bk ct : List Sl → Prop} (he : EG X m e Γ A) : SG1 X m (.Return (some e) pos) Γ ⟨fun _ => A, nx, bk, ct⟩ := by
  obtain ⟨t, h1, h2⟩ := he
  exact ⟨_, fun i => ps_ret (h1 i), fun S0 H0 σ S H s I D r n bk ct => h2 H0 σ S H I _ fun v S1 H1 s1 p1 => r v S1 H1 (s.trans s1) s1.ss p1⟩
/-- a new cell is handed out -/
theorem sg1_retC {c : Cell} (he : EN X m e Γ c) (hr : ∀ H0 p o S, H0 p = none → S p = some o → c.is p o S → (O.rt H0).is (.ref p) S) : SG1 X m (.Return (some e) pos) Γ O := by
  obtain ⟨t, h1, h2⟩ := he
  refine ⟨_, fun i => ps_ret (h1 i), fun S0 H0 σ S H s I D r n bk ct => h2 H0 σ S H I _ fun p o S1 H1 hp s1 n1 q1 c1 => ?_⟩
  have hp0 := s.back hp
  have s2 := s.trans s1
  have ss : Same S1 (upd S1 p o) := fun b u hb => by rw [upd_ne (ne_of_none hb n1)]; exact hb
  refine r (.ref p) (upd S1 p o) H1 ⟨s2.hh, s2.ss.trans ss, fun b u hb => ?_, fun b u hb ho hn => by rw [upd_ne (ne_of_none hb hp0)]; exact s2.nw b u hb ho hn, fun b hb => ?_⟩ (s1.ss.trans ss) (hr H0 p o _ hp0 upd_same (c.mono _ _ _ _ ss c1))
  · by_cases z : b = p
    · subst z; rw [upd_same] at hb; rw [q1]; exact hb
    · rw [upd_ne z] at hb; exact s1.sub b u hb
  · obtain ⟨r1, x, t, r2, r3⟩ := s1.st b hb
    exact ⟨by rw [upd_ne (fun z => I.mfresh hp (by rw [hb, z]))]; exact r1, x, t, r2, r3⟩
theorem sg1_retN (h : ∀ H0, tN.le (O.rt H0)) : SG1 X m (.Return none pos) Γ O := ⟨_, fun i => ps_retN, fun S0 H0 σ S H s I D r n bk ct => r .non S H s (Same.refl S) (h H0 _ _ rfl)⟩
theorem sg1_expr (he : EG X m e Γ A) (h : O.nx Γ) (hs : ∀ i, swapsWith e none pos.line (X i).env = pure false := by intro i; rfl) : SG1 X m (.Expr e pos) Γ O := by
  obtain ⟨t, h1, h2⟩ := he
  exact ⟨_, fun i => ps_expr (h1 i) (hs i), fun S0 H0 σ S H s I D r n bk ct => h2 H0 σ S H I _ fun v S1 H1 s1 p1 => n Γ σ S1 H1 h (s.trans s1) s1.ss (I.step s1)⟩
theorem sg1_set (F : Fam X P w K mg base N k) (j : Nat) {x : Str} {pos' : Pos} (he : EG X m e Γ A) (h : O.nx (Γ.set j (.sh A))) (hN : N[j]? = some x := by rfl) (hx : ∀ i, Loc (X i).env.scope x := by intro i; first | exact Or.inl rfl | exact Or.inr rfl)
    (hs : ∀ i, swapsWith e (some (.Name x pos')) pos.line (X i).env = pure false := by intro i; rfl) (hf : ∀ i, (X i).fn x = true ∨ (X i).env.scope.names.lookup x = some .local := by intro i; first | exact .inl rfl | exact .inr rfl) :
    SG1 X m (.Assign [.Name x pos'] e pos) Γ O := by
  obtain ⟨t, h1, h2⟩ := he
  exact ⟨_, fun i => ps_set (by rw [F.eN]; exact F.nd) (by rw [F.eN]; exact hN) (hx i) (h1 i) (hs i) (hf i), fun S0 H0 σ S H s I D r n bk ct => h2 H0 σ S H I _ fun v S1 H1 s1 p1 => n _ _ S1 H1 h (s.trans s1) s1.ss ((I.step s1).setSh j p1)⟩
theorem sg1_setN (F : Fam X P w K mg base N k) (j : Nat) {x : Str} {pos' : Pos} {c : Cell} (he : EN X m e Γ c) (h : O.nx (Γ.set j (.ow c))) (hN : N[j]? = some x := by rfl) (hx : ∀ i, Loc (X i).env.scope x := by intro i; first | exact Or.inl rfl | exact Or.inr rfl)
    (hs : ∀ i, swapsWith e (some (.Name x pos')) pos.line (X i).env = pure false := by intro i; rfl) (hf : ∀ i, (X i).fn x = true ∨ (X i).env.scope.names.lookup x = some .local := by intro i; first | exact .inl rfl | exact .inr rfl) :
    SG1 X m (.Assign [.Name x pos'] e pos) Γ O := by
  obtain ⟨t, h1, h2⟩ := he
  refine ⟨_, fun i => ps_set (by rw [F.eN]; exact F.nd) (by rw [F.eN]; exact hN) (hx i) (h1 i) (hs i) (hf i), fun S0 H0 σ S H s I D r n bk ct => h2 H0 σ S H I _ fun a o S1 H1 hp s1 q1 q2 q3 => n _ _ S1 H1 h (s.trans s1) s1.ss ?_⟩
  exact (I.step s1).setOw j (s.back hp) q1 q2 (I.mfresh hp) (I.ofresh hp) q3

/-! ### several values at once, some of them new cells -/
/-- what a list of expressions gives: slots -/
def EvAs (m : Option Addr) (t : TA) (Γ Δ : List Sl) : Prop := ∀ S0 H0 σ S H Ξ τ, Step m S0 H0 S H → SE m H0 (Γ ++ Ξ) (σ ++ τ) S H → σ.length = Γ.length →
  ∀ Q : List V → Hp → Prop, (∀ vs S' H', Step m S H S' H' → SE m H0 (Γ ++ (Ξ ++ Δ)) (σ ++ (τ ++ vs.map some)) S' H' → vs.length = Δ.length → Q vs H') → t σ H Q
def EAs {ι : Type} (X : ι → Cx) (m : Option Addr) (es : List Expr) (Γ Δ : List Sl) : Prop := ∃ t, (∀ i, PA (X i) es t) ∧ EvAs m t Γ Δ
theorem eas_nil : EAs X m [] Γ [] := ⟨_, fun _ => pa_nil, fun S0 H0 σ S H Ξ τ s I hl Q q => q [] S H (.refl I.sub I.st) (by simpa using I) rfl⟩
theorem eas_sh (he : EG X m e Γ A) (hr : EAs X m es Γ Δ) (hs : ∀ i, starEach (e :: es) (X i).env = (false, eval e (X i).env) :: starEach es (X i).env := by intro i; rfl) : EAs X m (e :: es) Γ (.sh A :: Δ) := by
  obtain ⟨t, h1, h2⟩ := he
  obtain ⟨u, g1, g2⟩ := hr
  refine ⟨_, fun i => pa_cons (h1 i) (g1 i) (hs i), fun S0 H0 σ S H Ξ τ s0 I hl Q q => h2 H0 σ S H (I.left hl) _ fun v S1 H1 s1 p1 => ?_⟩
  have I1 := (I.step s1).snocSh p1
  rw [List.append_assoc, List.append_assoc] at I1
  refine g2 S0 H0 σ S1 H1 (Ξ ++ [.sh A]) (τ ++ [some v]) (s0.trans s1) I1 hl _ fun vs S2 H2 s2 I2 l2 => q (v :: vs) S2 H2 (s1.trans s2) ?_ (congrArg Nat.succ l2)
  simpa using I2
theorem eas_ow {c : Cell} (he : EN X m e Γ c) (hr : EAs X m es Γ Δ) (hs : ∀ i, starEach (e :: es) (X i).env = (false, eval e (X i).env) :: starEach es (X i).env := by intro i; rfl) : EAs X m (e :: es) Γ (.ow c :: Δ) := by
  obtain ⟨t, h1, h2⟩ := he
  obtain ⟨u, g1, g2⟩ := hr
  refine ⟨_, fun i => pa_cons (h1 i) (g1 i) (hs i), fun S0 H0 σ S H Ξ τ s0 I hl Q q => h2 H0 σ S H (I.left hl) _ fun a o S1 H1 hp s1 z1 z2 z3 => ?_⟩
  have I1 := (I.step s1).snocOw (s0.back hp) z1 z2 (I.mfresh hp) (I.ofresh' s1 hp) z3
  rw [List.append_assoc, List.append_assoc] at I1
  refine g2 S0 H0 σ S1 H1 (Ξ ++ [.ow c]) (τ ++ [some (.ref a)]) (s0.trans s1) I1 hl _ fun vs S2 H2 s2 I2 l2 => q (.ref a :: vs) S2 H2 (s1.trans s2) ?_ (congrArg Nat.succ l2)
  simpa using I2
/-- a, b = x, y -/
theorem sg1_par (F : Fam X P w K mg base N k) (i j : Nat) {x y : Str} {a c : Expr} {px py pt : Pos} {kt k2 pt2} {s1 s2 : Sl} (he : EAs X m [a, c] Γ [s1, s2]) (h : O.nx ((Γ.set i s1).set j s2)) (hij : i ≠ j := by decide) (hi : N[i]? = some x := by rfl) (hj : N[j]? = some y := by rfl)
    (hlen : j < Γ.length := by exact Nat.le_of_ble_eq_true rfl) (hx : ∀ z, (X z).env.scope.names.lookup x = some .local := by intro z; rfl) (hy : ∀ z, (X z).env.scope.names.lookup y = some .local := by intro z; rfl)
    (hw : ∀ z, swappedStores [.Tuple [.Name x px, .Name y py] kt pt] (.Tuple [a, c] k2 pt2) (X z).env = pure (some [x, y]) := by intro z; rfl)
    (hs : ∀ z, swapsWithSole [.Tuple [.Name x px, .Name y py] kt pt] (.Tuple [a, c] k2 pt2) pos.line (X z).env = pure false := by intro z; rfl) : SG1 X m (.Assign [.Tuple [.Name x px, .Name y py] kt pt] (.Tuple [a, c] k2 pt2) pos) Γ O := by
  obtain ⟨t, g1, g2⟩ := he
  refine ⟨tPar i j t, fun z => ps_par (F.calm z) (by rw [F.eN]; exact F.nd) (by rw [F.eN]; exact hi) (by rw [F.eN]; exact hj) hij (hx z) (hy z) (g1 z) (hw z) (hs z), fun S0 H0 σ S H s I D r n bk ct => g2 S0 H0 σ S H [] [] s (by simpa using I) I.len _ fun vs S1 H1 st I1 l1 => ?_⟩
  match vs, l1 with
  | [v, u], _ =>
    refine ⟨v, u, rfl, n _ _ S1 H1 h (s.trans st) st.ss ?_⟩
    have I2 : SE m H0 ((Γ ++ [s1]) ++ [s2]) ((σ ++ [some v]) ++ [some u]) S1 H1 := by simpa using I1
    have I3 := I2.mv (i := j)
    rw [List.set_append_left _ _ hlen, List.set_append_left _ _ (by rw [I.len]; exact hlen)] at I3
    have I4 := I3.mv (i := i)
    rw [List.set_comm _ _ hij.symm, List.set_comm _ _ hij.symm] at I4
    exact I4
theorem set3 {α : Type} {i j l : Nat} (hij : i ≠ j) (hil : i ≠ l) (hjl : j ≠ l) {xs : List α} {a b c : α} : ((xs.set l c).set j b).set i a = ((xs.set i a).set j b).set l c := by
  rw [List.set_comm _ _ hij.symm, List.set_comm _ _ hil.symm, List.set_comm _ _ hjl.symm]
theorem sg1_par3 (F : Fam X P w K mg base N k) (i j l : Nat) {x y z : Str} {a c d : Expr} {px py pz pt : Pos} {kt k2 pt2} {s1 s2 s3 : Sl} (he : EAs X m [a, c, d] Γ [s1, s2, s3]) (h : O.nx (((Γ.set i s1).set j s2).set l s3)) (hij : i ≠ j := by decide) (hil : i ≠ l := by decide) (hjl : j ≠ l := by decide)
    (hi : N[i]? = some x := by rfl) (hj : N[j]? = some y := by rfl) (hk : N[l]? = some z := by rfl) (hlen : j < Γ.length := by exact Nat.le_of_ble_eq_true rfl) (hlen2 : l < Γ.length := by exact Nat.le_of_ble_eq_true rfl)
    (hx : ∀ q, (X q).env.scope.names.lookup x = some .local := by intro z; rfl) (hy : ∀ q, (X q).env.scope.names.lookup y = some .local := by intro z; rfl) (hz : ∀ q, (X q).env.scope.names.lookup z = some .local := by intro z; rfl)
    (hw : ∀ q, swappedStores [.Tuple [.Name x px, .Name y py, .Name z pz] kt pt] (.Tuple [a, c, d] k2 pt2) (X q).env = pure (some [x, y, z]) := by intro z; rfl)
    (hs : ∀ q, swapsWithSole [.Tuple [.Name x px, .Name y py, .Name z pz] kt pt] (.Tuple [a, c, d] k2 pt2) pos.line (X q).env = pure false := by intro z; rfl) : SG1 X m (.Assign [.Tuple [.Name x px, .Name y py, .Name z pz] kt pt] (.Tuple [a, c, d] k2 pt2) pos) Γ O := by
  obtain ⟨t, g1, g2⟩ := he
  refine ⟨tPar3 i j l t, fun q => ps_par3 (F.calm q) (by rw [F.eN]; exact F.nd) (by rw [F.eN]; exact hi) (by rw [F.eN]; exact hj) (by rw [F.eN]; exact hk) hij hil hjl (hx q) (hy q) (hz q) (g1 q) (hw q) (hs q), fun S0 H0 σ S H s I D r n bk ct => g2 S0 H0 σ S H [] [] s (by simpa using I) I.len _ fun vs S1 H1 st I1 l1 => ?_⟩
  match vs, l1 with
  | [v, u, y], _ =>
    refine ⟨v, u, y, rfl, n _ _ S1 H1 h (s.trans st) st.ss ?_⟩
    have I2 : SE m H0 (((Γ ++ [s1]) ++ [s2]) ++ [s3]) (((σ ++ [some v]) ++ [some u]) ++ [some y]) S1 H1 := by simpa using I1
    have I3 := I2.mv (i := l)
    rw [List.append_assoc, List.append_assoc, List.set_append_left _ _ hlen2, List.set_append_left _ _ (by rw [I.len]; exact hlen2), ← List.append_assoc, ← List.append_assoc] at I3
    have I4 := I3.mv (i := j)
    rw [List.set_append_left _ _ (by rw [List.length_set]; exact hlen), List.set_append_left _ _ (by rw [List.length_set, I.len]; exact hlen)] at I4
    have I5 := I4.mv (i := i)
    rw [set3 hij hil hjl, set3 hij hil hjl] at I5
    exact I5

/-! ### targets: js the slots that are stored -/
def Keeps (js : List Nat) (σ τ : L2.St) : Prop := τ.length = σ.length ∧ ∀ i, i ∉ js → τ[i]? = σ[i]?
def GvT (m : Option Addr) (g : TG) (A : Ty) (js : List Nat) (Γ Δ : List Sl) : Prop := ∀ H0 σ S H v, SE m H0 Γ σ S H → A.is v S → ∀ Q : L2.St → Hp → Prop, (∀ σ' S' H', Step m S H S' H' → SE m H0 Δ σ' S' H' → Keeps js σ σ' → Q σ' H') → g v σ H Q
def TGt {ι : Type} (X : ι → Cx) (m : Option Addr) (tg : Expr) (A : Ty) (js : List Nat) (Γ Δ : List Sl) : Prop := ∃ g, (∀ i, PG (X i) tg g) ∧ GvT m g A js Γ Δ
def GvTs (m : Option Addr) (g : TGs) (As : List Ty) (js : List Nat) (Γ Δ : List Sl) : Prop := ∀ H0 σ S H vs, SE m H0 Γ σ S H → All2 S As vs → ∀ Q : L2.St → Hp → Prop, (∀ σ' S' H', Step m S H S' H' → SE m H0 Δ σ' S' H' → Keeps js σ σ' → Q σ' H') → g vs σ H Q
def TGts {ι : Type} (X : ι → Cx) (m : Option Addr) (ts : List Expr) (As : List Ty) (js : List Nat) (Γ Δ : List Sl) : Prop := ∃ g, (∀ i, PGs (X i) ts g) ∧ GvTs m g As js Γ Δ
theorem tg_nm (F : Fam X P w K mg base N k) (j : Nat) {x : Str} (hN : N[j]? = some x := by rfl) (hx : ∀ i, Loc (X i).env.scope x := by intro i; first | exact Or.inl rfl | exact Or.inr rfl)
    (hf : ∀ i, (X i).fn x = true ∨ (X i).env.scope.names.lookup x = some .local := by intro i; first | exact .inl rfl | exact .inr rfl) : TGt X m (.Name x pos) A [j] Γ (Γ.set j (.sh A)) :=
  ⟨_, fun i => pg_name (by rw [F.eN]; exact F.nd) (by rw [F.eN]; exact hN) (hx i) (hf i), fun H0 σ S H v I h Q q => q _ S H (.refl I.sub I.st) (I.setSh j h) ⟨List.length_set, fun i hi => List.getElem?_set_ne (fun z => hi (by rw [z]; exact List.mem_singleton_self _))⟩⟩
theorem tgs_nil : TGts X m [] [] [] Γ Γ := ⟨_, fun _ => pgs_nil, fun H0 σ S H v I h Q q => by
  cases h
  exact ⟨rfl, q σ S H (.refl I.sub I.st) I ⟨rfl, fun _ _ => rfl⟩⟩⟩
theorem tgs_cons {Ξ : List Sl} {js ks : List Nat} (h1 : TGt X m e A js Γ Δ) (h2 : TGts X m es As ks Δ Ξ) (hs : ∀ i, (assignEach (e :: es) (X i).env).map (·.2) = assign e (X i).env :: (assignEach es (X i).env).map (·.2) := by intro i; rfl) : TGts X m (e :: es) (A :: As) (js ++ ks) Γ Ξ := by
  obtain ⟨g, a1, a2⟩ := h1
  obtain ⟨u, b1, b2⟩ := h2
  refine ⟨_, fun i => pgs_cons (a1 i) (b1 i) (hs i), fun H0 σ S H vs I h Q q => ?_⟩
  cases h with
  | cons hx ht => exact ⟨_, _, rfl, a2 H0 σ S H _ I hx _ fun σ1 S1 H1 s1 I1 k1 => b2 H0 σ1 S1 H1 _ I1 (ht.mono s1.ss) _ fun σ2 S2 H2 s2 I2 k2 => q σ2 S2 H2 (s1.trans s2) I2
      ⟨k2.1.trans k1.1, fun i hi => (k2.2 i fun z => hi (List.mem_append_right _ z)).trans (k1.2 i fun z => hi (List.mem_append_left _ z))⟩⟩
theorem tg_tup (F : Fam X P w K mg base N k) {x1 : Nat} {js : List Nat} (h : TGts X m es As js Γ Δ) (hn : ∀ i, (assignEach es (X i).env).length = As.length := by intro i; rfl) (hst : ∀ i, (assignEach es (X i).env).findIdx? (·.1) = none := by intro i; rfl) : TGt X m (.Tuple es x1 pos) (tT K As) js Γ Δ := by
  obtain ⟨g, a1, a2⟩ := h
  refine ⟨gTup K As.length g, fun i => ?_, fun H0 σ S H v I h Q q => ?_⟩
  · have := pg_tup (pos := pos) (k := x1) (F.calm i) (a1 i) (hn i) (hst i)
    rw [F.eK] at this
    exact this
  · obtain ⟨a, xs, rfl, h1, h2⟩ := h
    exact ⟨a, xs, rfl, sqt_mono I.sub h1, h2.length, a2 H0 σ S H xs I h2 Q q⟩
theorem sg1_asg {tg : Expr} {js : List Nat} (he : EG X m e Γ A) (hg : TGt X m tg A js Γ Δ) (h : O.nx Δ) (hs : ∀ i, swapsWithSole [tg] e pos.line (X i).env = pure false := by intro i; rfl) (hw : ∀ i, swappedStores [tg] e (X i).env = pure none := by intro i; rfl)
    (h1 : ∀ i, (assignEach [tg] (X i).env).map (·.2) = [assign tg (X i).env] := by intro i; rfl) : SG1 X m (.Assign [tg] e pos) Γ O := by
  obtain ⟨t, a1, a2⟩ := he
  obtain ⟨g, b1, b2⟩ := hg
  exact ⟨_, fun i => ps_asg (a1 i) (b1 i) (hs i) (hw i) (h1 i), fun S0 H0 σ S H s I D r n bk ct => a2 H0 σ S H I _ fun v S1 H1 s1 p1 => b2 H0 σ S1 H1 v (I.step s1) p1 _ fun σ2 S2 H2 s2 I2 _ => n Δ σ2 S2 H2 h ((s.trans s1).trans s2) (s1.ss.trans s2.ss) I2⟩

/-! ### what changes a cell -/
/-- o.f = e of the instance under construction -/
theorem sg1_fld (F : Fam X P w K mg base N k) (j : Nat) {C z dx : Addr} {fs : List (Str × Ty)} {f x : Str} {p' px : Pos} (cl : Cls K C) (na : NoAttr K C f) (he : EG X m e Γ A) (hG : Γ[j]? = some (.ow (cO C z dx fs))) (h : O.nx (Γ.set j (.ow (cO C z dx (putT f A fs)))))
    (hl : fs.length < 1000 := by exact Nat.le_of_ble_eq_true rfl) (hN : N[j]? = some x := by rfl) (hv : ∀ i, Vis (X i).env.scope x := by intro i; first | exact Or.inl rfl | exact Or.inr (Or.inl rfl) | exact Or.inr (Or.inr rfl)) (hd : (x == ("__debug__" : Str)) = false := by decide)
    (hcd : (x == ("__classdict__" : Str)) = false := by decide) (hs : ∀ i, swapsWith e (some (.Attribute (.Name x px) f p')) pos.line (X i).env = pure false := by intro i; rfl) : SG1 X m (.Assign [.Attribute (.Name x px) f p'] e pos) Γ O := by
  obtain ⟨t, a1, a2⟩ := he
  refine ⟨sFld K (tVar j) t f, fun i => ?_, fun S0 H0 σ S H s I D r n bk ct => a2 H0 σ S H I _ fun v S1 H1 s1 p1 => ?_⟩
  · have := ps_fld (pos := pos) (pe_var (pos := px) (by rw [F.eN]; exact hN) (hv i) hd hcd) (a1 i) (hs i)
    rw [F.eK] at this
    exact this
  · have I1 := I.step s1
    obtain ⟨a, ob, b1, b2, rfl, gs, rfl, b4⟩ := I1.ow hG
    refine ⟨.ref a, b1, a, C, dx, gs, rfl, b2, cl, na, by rw [b4.length]; exact hl, ?_⟩
    exact n _ σ _ _ h (I1.change0 (s.trans s1) hG b1) s1.ss (I1.change hG b1 ⟨rfl, _, rfl, b4.put p1⟩)
/-- x.append(e) -/
theorem sg1_app (F : Fam X P w K mg base N k) (j : Nat) {x : Str} {px apos : Pos} (he : EG X m e Γ A) (hG : Γ[j]? = some (.ow (cL As))) (h : O.nx (Γ.set j (.ow (cL (As ++ [A]))))) (hl : As.length < 100000)
    (hN : N[j]? = some x := by rfl) (hv : ∀ i, Vis (X i).env.scope x := by intro i; first | exact Or.inl rfl | exact Or.inr (Or.inl rfl) | exact Or.inr (Or.inr rfl)) (hd : (x == ("__debug__" : Str)) = false := by decide) (hcd : (x == ("__classdict__" : Str)) = false := by decide)
    (hbase : ∀ i, attributeBase (.Name x px) ("append" : Str) (X i).env (eval (.Name x px) (X i).env) = eval (.Name x px) (X i).env := by intro i; rfl)
    (hfew : ∀ i, ((backTo apos (starEach [e] (X i).env)).all (fun x => !x.1) && (backToKw apos (keywordEach [] (X i).env)).all (fun x => x.1.isSome) && decide ([e].length + ([] : List Keyword).length + (if ([] : List Keyword).isEmpty then 0 else 1) < 30)) = true := by intro i; rfl)
    {cpos : Pos} (hline : (cpos.endLine == apos.line) = true := by rfl) (hs : ∀ i, starEach [e] (X i).env = [(false, eval e (X i).env)] := by intro i; rfl) (hp : ∀ i, (backTo apos (starEach ([] : List Expr) (X i).env)).any (·.1) = false := by intro i; rfl)
    (hsw : ∀ i, swapsWith (.Call (.Attribute (.Name x px) ("append" : Str) cpos) [e] [] apos) none pos.line (X i).env = pure false := by intro i; rfl) :
    SG1 X m (.Expr (.Call (.Attribute (.Name x px) ("append" : Str) cpos) [e] [] apos) pos) Γ O := by
  obtain ⟨t, a1, a2⟩ := he
  refine ⟨tDrop (tBM K "list" rAppend (tVar j) (tCons t tNil)), fun i => ?_, fun S0 H0 σ S H s I D r n bk ct => ?_⟩
  · have q := pe_bm (X := X i) PySem.F.plainAttrs_list PySem.F.slot_list_append PySem.F.type_list_append mt_append (pe_var (pos := px) (by rw [F.eN]; exact hN) (hv i) hd hcd) (pa_cons (a1 i) pa_nil (hs i)) (hbase i) (hfew i) hline (hs i) (hp i)
    rw [F.eK] at q
    exact ps_expr q (hsw i)
  · obtain ⟨a, ob, b1, b2, xs, rfl, b4⟩ := I.ow hG
    refine ⟨.ref a, b1, .inl ⟨rfl, xs, SqL.of b2⟩, a2 H0 σ S H I _ fun v S1 H1 s1 p1 => ?_⟩
    have I1 := I.step s1
    obtain ⟨a', ob', d1, d2, ys, rfl, d4⟩ := I1.ow hG
    obtain rfl : a = a' := by rw [b1] at d1; injection d1 with d1; injection d1 with d1; injection d1
    refine ⟨a, ys, v, rfl, rfl, d2, Nat.lt_of_lt_of_le (by rw [d4.length]; exact hl) (by decide), ?_⟩
    exact n _ σ _ _ h (I1.change0 (s.trans s1) hG b1) s1.ss (I1.change hG b1 ⟨_, rfl, d4.append (.cons p1 .nil)⟩)
end
end Rt

set_option Elab.async false
set_option linter.all false
set_option maxRecDepth 100000
set_option maxHeartbeats 4000000
/-! Rt5: loops, comprehensions, defs. -/
namespace Rt
open PySem PySem.Spec PyProof.Rows L2

/-! ### what is walked -/
structure ItOk (m : Option Addr) (J : It) (S1 : Hp) (As : List Ty) : Prop where
  go : ∀ i S H, Same S1 S → Same S H → StOk m S H → i < As.length → J.go i H ∧ ∀ x H', J.yld i H x H' → ∃ S', Step m S H S' H' ∧ ∃ A, As[i]? = some A ∧ A.is x S'
  stop : ∀ S H, Same S1 S → Same S H → J.stop As.length H
def ITt {ι : Type} (X : ι → Cx) (m : Option Addr) (tg iter : Expr) (Γ : List Sl) (As : List Ty) : Prop := ∃ wi, (∀ i, PI (X i) tg iter wi) ∧ ∀ H0 σ S H, SE m H0 Γ σ S H → ∀ R, (∀ J S1 H1, Step m S H S1 H1 → ItOk m J S1 As → R J H1) → wi σ H R
section
variable {ι : Type} {X : ι → Cx} {m : Option Addr} {P : Program} {w : World} {K : PySem.W.Frag} {mg : Str → Option Value} {base : Heap} {N : List Str} {k j : Nat} {Γ Δ : List Sl} {A B R : Ty} {As Bs : List Ty} {e o e1 e2 tg iter : Expr} {es : List Expr} {pos apos p : Pos} {O : Po} {st : Stmt} {sts rest body : List Stmt} {b : Bool}
theorem it_list (F : Fam X P w K mg base N k) (h : EG X m e Γ (tL K As)) : ITt X m tg e Γ As := by
  obtain ⟨t, a1, a2⟩ := h
  refine ⟨iList K t, fun i => ?_, fun H0 σ S H I R q => a2 H0 σ S H I _ fun v S1 H1 s1 p1 => ?_⟩
  · have := pi_list (tg := tg) (a1 i)
    rw [F.eK] at this
    exact this
  · obtain ⟨a, xs, rfl, h1, h2⟩ := p1
    refine ⟨a, rfl, ⟨xs, sql_mono s1.sub h1⟩, q _ S1 H1 s1 ⟨fun i S2 H2 e1 e2 st hi => ?_, fun S2 H2 e1 e2 => ?_⟩⟩
    · have h3 : SqL K H2 a xs := sql_mono (e1.trans e2) h1
      have hx : i < xs.length := by rw [h2.length]; exact hi
      refine ⟨⟨xs, xs[i], h3, List.getElem?_eq_getElem hx⟩, fun x H' y => ?_⟩
      obtain ⟨e3, y⟩ := y
      subst e3
      obtain ⟨A, g1, g2⟩ := h2.getV (y xs h3)
      exact ⟨S2, .refl e2 st, A, g1, A.mono _ _ _ e1 g2⟩
    · exact ⟨xs, sql_mono (e1.trans e2) h1, Nat.le_of_eq h2.length⟩
theorem it_tup (F : Fam X P w K mg base N k) (h : EG X m e Γ (tT K As)) : ITt X m tg e Γ As := by
  obtain ⟨t, a1, a2⟩ := h
  refine ⟨iTup K t, fun i => ?_, fun H0 σ S H I R q => a2 H0 σ S H I _ fun v S1 H1 s1 p1 => ?_⟩
  · have := pi_tup (tg := tg) (a1 i)
    rw [F.eK] at this
    exact this
  · obtain ⟨a, xs, rfl, h1, h2⟩ := p1
    refine ⟨a, rfl, ⟨xs, sqt_mono s1.sub h1⟩, q _ S1 H1 s1 ⟨fun i S2 H2 e1 e2 st hi => ?_, fun S2 H2 e1 e2 => ?_⟩⟩
    · have h3 : SqT K H2 a xs := sqt_mono (e1.trans e2) h1
      have hx : i < xs.length := by rw [h2.length]; exact hi
      refine ⟨⟨xs, xs[i], h3, List.getElem?_eq_getElem hx⟩, fun x H' y => ?_⟩
      obtain ⟨e3, y⟩ := y
      subst e3
      obtain ⟨A, g1, g2⟩ := h2.getV (y xs h3)
      exact ⟨S2, .refl e2 st, A, g1, A.mono _ _ _ e1 g2⟩
    · exact ⟨xs, sqt_mono (e1.trans e2) h1, Nat.le_of_eq h2.length⟩
theorem rng_ok {m : Option Addr} {S1 : Hp} {lo : Int} {n : Nat} : ItOk m (Itr lo n) S1 ((List.range n).map fun (i : Nat) => tI (lo + i)) := by
  refine ⟨fun i S2 H2 e1 e2 st hi => ?_, fun S2 H2 e1 e2 => ?_⟩
  · have hi' : i < n := by simpa using hi
    refine ⟨hi', fun x H' y => ?_⟩
    obtain ⟨e3, y⟩ := y
    subst e3 y
    exact ⟨S2, .refl e2 st, tI (lo + i), by simp [hi'], rfl⟩
  · show n ≤ ((List.range n).map fun (i : Nat) => tI (lo + i)).length
    simp
theorem it_range1 (F : Fam X P w K mg base N k) {n : Int} (h : EG X m e Γ (tI n)) (hm : mg "range" = none) (hn : 0 ≤ n ∧ n < 1000000) (hg : ∀ i, Gl (X i) "range" := by intro i; rfl) (hs : ∀ i, starEach [e] (X i).env = [(false, eval e (X i).env)] := by intro i; rfl) :
    ITt X m tg (.Call (.Name "range" p) [e] [] pos) Γ ((List.range n.toNat).map fun (i : Nat) => tI i) := by
  obtain ⟨t, a1, a2⟩ := h
  refine ⟨_, fun i => pi_range1 (hg i) (by rw [F.eg]; exact hm) (pa_cons (a1 i) pa_nil (hs i)) (hs i), fun H0 σ S H I R q => a2 H0 σ S H I _ fun v S1 H1 s1 p1 => ?_⟩
  cases p1
  refine ⟨n, rfl, by omega, by omega, q _ S1 H1 s1 ?_⟩
  have := rng_ok (m := m) (S1 := S1) (lo := 0) (n := n.toNat)
  simpa using this
theorem it_range2 (F : Fam X P w K mg base N k) {lo n : Int} (h : EG X m e Γ (tI lo)) (h' : EG X m e1 Γ (tI n)) (hm : mg "range" = none) (hn : (-1000000 < lo ∧ lo < 1000000) ∧ -1000000 < n ∧ n < 1000000) (hg : ∀ i, Gl (X i) "range" := by intro i; rfl) (hs : ∀ i, starEach [e, e1] (X i).env = [(false, eval e (X i).env), (false, eval e1 (X i).env)] := by intro i; rfl)
    (hs2 : ∀ i, starEach [e1] (X i).env = [(false, eval e1 (X i).env)] := by intro i; rfl) : ITt X m tg (.Call (.Name "range" p) [e, e1] [] pos) Γ ((List.range (n - lo).toNat).map fun (i : Nat) => tI (lo + i)) := by
  obtain ⟨t, a1, a2⟩ := h
  obtain ⟨u, b1, b2⟩ := h'
  refine ⟨_, fun i => pi_range2 (hg i) (by rw [F.eg]; exact hm) (pa_cons (a1 i) (pa_cons (b1 i) pa_nil (hs2 i)) (by rw [hs i, hs2 i])) (hs i) (hs2 i), fun H0 σ S H I R q => a2 H0 σ S H I _ fun v S1 H1 s1 p1 => b2 H0 σ S1 H1 (I.step s1) _ fun v2 S2 H2 s2 p2 => ?_⟩
  cases p1
  cases p2
  exact ⟨lo, n, rfl, by omega, q _ S2 H2 (s1.trans s2) rng_ok⟩

/-! ### for, while -/
def bG (X : ι → Cx) (tg : Expr) : TG := fun v σ H Q => ∃ g, (∀ i, PG (X i) tg g) ∧ g v σ H Q
theorem bG_ok (tg : Expr) (i : ι) : PG (X i) tg (bG X tg) := ⟨fun pins s σ H v u Q I r ⟨g, h, q⟩ => (h i).run pins s σ H v u Q I r q⟩
/-- for: I says what is known by the turn -/
theorem sg1_for (F : Fam X P w K mg base N k) (it : ITt X m tg iter Γ As) (I : Nat → List Sl → Prop) (h0 : I 0 Γ)
    (hs : ∀ i A Δ, As[i]? = some A → I i Δ → ∃ js Δ', TGt X m tg A js Δ Δ' ∧ SG X m body Δ' { rt := O.rt, nx := I (i + 1), ct := I (i + 1), bk := O.nx }) (hd : ∀ Δ, I As.length Δ → O.nx Δ)
    (hf : ∀ i x, foldedSetIterable iter (X i).env x = pure x := by intro _ _; rfl) : SG1 X m (.For tg iter body [] pos) Γ O := by
  obtain ⟨wi, w1, w2⟩ := it
  refine ⟨tFor wi (bG X tg) (bS X body), fun i => ps_for (F.po i) (F.calm i) (w1 i) (bG_ok tg i) (bS_ok X body i) (hf i), fun S0 H0 σ S H s E D r n bk ct => w2 H0 σ S H E _ fun J S1 H1 s1 ok => ?_⟩
  refine ⟨fun i mm σ' H' => mm = As.length - i ∧ i ≤ As.length ∧ ∃ S' Δ', I i Δ' ∧ Step m S0 H0 S' H' ∧ Same S1 S' ∧ SE m H0 Δ' σ' S' H', ⟨As.length, rfl, Nat.zero_le _, S1, Γ, h0, s.trans s1, Same.refl _, E.step s1⟩, ?_⟩
  rintro i mm σ' H' ⟨rfl, hi, S', Δ', hI, s', e1, E'⟩
  by_cases hlt : i < As.length
  · obtain ⟨g1, g2⟩ := ok.go i S' H' e1 E'.sub E'.st hlt
    refine .inr ⟨g1, fun σ2 H2 => i + 1 ≤ As.length ∧ ∃ S2 Δ2, I (i + 1) Δ2 ∧ Step m S0 H0 S2 H2 ∧ Same S1 S2 ∧ SE m H0 Δ2 σ2 S2 H2, fun σ2 H2 ⟨l, q⟩ => ⟨As.length - (i + 1), by omega, rfl, l, q⟩, fun x H2 y => ?_⟩
    obtain ⟨S2, s2, A, hA, hx⟩ := g2 x H2 y
    obtain ⟨js, Δ2, ⟨g, t1, t2⟩, sg⟩ := hs i A Δ' hA hI
    refine ⟨g, t1, t2 H0 σ' S2 H2 x (E'.step s2) hx _ fun σ3 S3 H3 s3 E3 _ => ?_⟩
    have ss : Same S1 S3 := e1.trans (s2.ss.trans s3.ss)
    refine sg.go S0 H0 σ3 S3 H3 ((s'.trans s2).trans s3) E3 _ (fun v S4 H4 s4 q4 => r v S4 H4 s4 (s1.ss.trans (ss.trans q4))) (fun Γ4 σ4 S4 H4 z s4 q4 E4 => ⟨hlt, S4, Γ4, z, s4, ss.trans q4, E4⟩)
      (fun Γ4 σ4 S4 H4 z s4 q4 E4 => n Γ4 σ4 S4 H4 z s4 (s1.ss.trans (ss.trans q4)) E4) fun Γ4 σ4 S4 H4 z s4 q4 E4 => ⟨hlt, S4, Γ4, z, s4, ss.trans q4, E4⟩
  · have e : i = As.length := by omega
    subst e
    exact .inl ⟨ok.stop S' H' e1 E'.sub, n Δ' σ' S' H' (hd Δ' hI) s' (s1.ss.trans e1) E'⟩
/-- while: I by a measure -/
theorem sg1_while (F : Fam X P w K mg base N k) {c : Expr} (I : Nat → List Sl → Prop) (n0 : Nat) (h0 : I n0 Γ)
    (hs : ∀ n Δ, I n Δ → ∃ b, ET X m c Δ b ∧ (b = true → SG X m body Δ { rt := O.rt, nx := fun Δ' => ∃ n', n' < n ∧ I n' Δ', ct := fun Δ' => ∃ n', n' < n ∧ I n' Δ', bk := O.nx }) ∧ (b = false → O.nx Δ)) : SG1 X m (.While c body [] pos) Γ O := by
  refine ⟨tWhile (bT X c) (bS X body), fun i => ps_while (F.po i) (bT_ok X c i) (bS_ok X body i), fun S0 H0 σ S H s E D r n bk ct => ?_⟩
  refine ⟨fun mm σ' H' => ∃ S' Δ', I mm Δ' ∧ Step m S0 H0 S' H' ∧ Same S S' ∧ SE m H0 Δ' σ' S' H', ⟨n0, S, Γ, h0, s, Same.refl _, E⟩, ?_⟩
  rintro mm σ' H' ⟨S', Δ', hI, s', e1, E'⟩
  obtain ⟨b, ⟨t, t1, t2⟩, hT, hF⟩ := hs mm Δ' hI
  refine ⟨t, t1, t2 H0 σ' S' H' E' _ fun S2 H2 s2 => ?_⟩
  have E2 := E'.step s2
  have s3 := s'.trans s2
  have e3 := e1.trans s2.ss
  cases b with
  | true =>
    refine ⟨fun σ3 H3 => ∃ n', n' < mm ∧ ∃ S3 Δ3, I n' Δ3 ∧ Step m S0 H0 S3 H3 ∧ Same S S3 ∧ SE m H0 Δ3 σ3 S3 H3, fun σ3 H3 ⟨n', l, q⟩ => ⟨n', l, q⟩, ?_⟩
    refine (hT rfl).go S0 H0 σ' S2 H2 s3 E2 _ (fun v S4 H4 s4 q4 => r v S4 H4 s4 (e3.trans q4)) (fun Γ4 σ4 S4 H4 z s4 q4 E4 => ?_) (fun Γ4 σ4 S4 H4 z s4 q4 E4 => n Γ4 σ4 S4 H4 z s4 (e3.trans q4) E4) fun Γ4 σ4 S4 H4 z s4 q4 E4 => ?_
    · obtain ⟨n', l, z⟩ := z
      exact ⟨n', l, S4, Γ4, z, s4, e3.trans q4, E4⟩
    · obtain ⟨n', l, z⟩ := z
      exact ⟨n', l, S4, Γ4, z, s4, e3.trans q4, E4⟩
  | false => exact n Δ' σ' S2 H2 (hF rfl) s3 e3 E2

/-! ### list comprehensions -/
def wipeG (Γ : List Sl) : List Nat → List Sl
  | [] => Γ
  | v :: vs => (wipeG Γ vs).set v .un
theorem wipeG_length : ∀ {vs : List Nat}, (wipeG Γ vs).length = Γ.length
  | [] => rfl
  | v :: vs => by unfold wipeG; rw [List.length_set]; exact wipeG_length
theorem SE.wipe {H0 S H : Hp} {σ : L2.St} (E : SE m H0 Γ σ S H) : ∀ vs : List Nat, SE m H0 (wipeG Γ vs) (wipe σ vs) S H
  | [] => E
  | v :: vs => by
    have ih := SE.wipe E vs
    unfold wipeG L2.wipe
    refine ih.ren (fun i => i) (by rw [List.length_set, List.length_set]; exact ih.len) (fun i s hs => ?_) fun i j _ _ q => q
    by_cases q : v = i
    · subst q
      have hl : v < (wipeG Γ vs).length := by
        have := (List.getElem?_eq_some_iff.mp hs).1
        rwa [List.length_set] at this
      rw [List.getElem?_set_self hl] at hs
      exact .inl (Option.some.inj hs).symm
    · rw [List.getElem?_set_ne q] at hs
      exact .inr ⟨hs, fun x hx => by rw [List.getElem?_set_ne q]; exact hx⟩
theorem wipe_at {σ : L2.St} {i : Nat} : ∀ {vs : List Nat}, i ∈ vs → i < σ.length → (L2.wipe σ vs)[i]? = some none
  | [], h, _ => by cases h
  | v :: vs, h, hl => by
    unfold L2.wipe
    by_cases q : v = i
    · subst q
      exact List.getElem?_set_self (by rw [wipe_length]; exact hl)
    · rw [List.getElem?_set_ne q]
      exact wipe_at ((List.mem_cons.mp h).resolve_left fun z => q z.symm) hl
theorem wipe_keeps {σ τ : L2.St} {js vs : List Nat} (hk : Keeps js σ τ) (hj : ∀ i ∈ js, i ∈ vs) : L2.wipe τ vs = L2.wipe σ vs := by
  refine List.ext_getElem? fun i => ?_
  by_cases hi : i ∈ vs
  · by_cases hl : i < σ.length
    · rw [wipe_at hi hl, wipe_at hi (by rw [hk.1]; exact hl)]
    · rw [List.getElem?_eq_none (by rw [wipe_length, hk.1]; omega), List.getElem?_eq_none (by rw [wipe_length]; omega)]
  · rw [wipe_out hi, wipe_out hi]
    exact hk.2 i fun z => hi (hj i z)
theorem wipe_wipe {σ : L2.St} {vs : List Nat} : L2.wipe (L2.wipe σ vs) vs = L2.wipe σ vs := by
  refine List.ext_getElem? fun i => ?_
  by_cases hi : i ∈ vs
  · by_cases hl : i < σ.length
    · rw [wipe_at hi hl, wipe_at hi (by rw [wipe_length]; exact hl)]
    · rw [List.getElem?_eq_none (by rw [wipe_length, wipe_length]; omega), List.getElem?_eq_none (by rw [wipe_length]; omega)]
  · rw [wipe_out hi]
/-- the block's contexts -/
abbrev Bi (ι : Type) : Type := ι × Shared × Hp × Addr × List (Str × Addr) × List Addr
abbrev bX (X : ι → Cx) (scope : Scope) : Bi ι → Cx := fun q => (X q.1).blk q.2.1 q.2.2.1 scope (compEnvC scope q.2.2.2.2.1 q.2.2.2.1 (X q.1).env) q.2.2.2.2.2
theorem Fam.blk (F : Fam X P w K mg base N k) (scope : Scope) : Fam (bX X scope) P w K mg base N k :=
  ⟨fun q => F.ep q.1, fun q => F.ew q.1, fun q => F.eK q.1, fun q => F.eg q.1, fun q => F.eb q.1, fun q => F.eN q.1, F.nd, fun q => F.room q.1, fun q => F.calm q.1, fun q => PassesOwn.never, F.see, F.tr, fun q => F.fr q.1⟩
def bI (X : ι → Cx) (ifs : List Expr) : TT := fun σ H Q => ∃ u, (∀ i, PTs (X i) ifs u) ∧ u σ H Q
theorem bI_ok (ifs : List Expr) (i : ι) : PTs (X i) ifs (bI X ifs) := ⟨fun pins s σ H D I ⟨u, h, q⟩ => (h i).run pins s σ H D I q⟩
def EI (X : ι → Cx) (m : Option Addr) (ifs : List Expr) (Γ : List Sl) (b : Bool) : Prop := ∃ t, (∀ i, PTs (X i) ifs t) ∧ EvT m t Γ b
theorem ei_nil : EI X m [] Γ true := ⟨_, fun _ => pts_nil, fun H0 σ S H I Q q => q S H (.refl I.sub I.st)⟩
theorem ei_one (h : ET X m e Γ b) : EI X m [e] Γ b := by
  obtain ⟨t, h1, h2⟩ := h
  exact ⟨t, fun i => pts_one (h1 i), h2⟩
/-- what [elt for tg in iter if ..] makes of the items f x, x in l -/
structure LcT {ι : Type} (X : ι → Cx) (m : Option Addr) (elt tg iter : Expr) (ifs : List Expr) (scope : Scope) (vs : List Nat) (Γ : List Sl) {α : Type} (l : List α) (f : α → Ty) (pr : α → Bool) (g : α → Ty) : Prop where
  it : ITt X m tg iter Γ (l.map f)
  turn : ∀ x ∈ l, ∃ js Δ, TGt (bX X scope) m tg (f x) js (wipeG Γ vs) Δ ∧ (∀ i ∈ js, i ∈ vs) ∧ EI (bX X scope) m ifs Δ (pr x) ∧ (pr x = true → EG (bX X scope) m elt Δ (g x))
  len : l.length < 100000
theorem lc_run {elt : Expr} {ifs : List Expr} {scope : Scope} {vs : List Nat} {α : Type} {l : List α} {f : α → Ty} {pr : α → Bool} {g : α → Ty} (L : LcT X m elt tg iter ifs scope vs Γ l f pr g) :
    ∃ wi, (∀ i, PI (X i) tg iter wi) ∧ EvN m (tLc wi (bG (bX X scope) tg) (bI (bX X scope) ifs) (bE (bX X scope) elt) vs) Γ (cL ((l.filter pr).map g)) := by
  obtain ⟨wi, w1, w2⟩ := L.it
  refine ⟨wi, w1, fun H0 σ S H E Q q => w2 H0 σ S H E _ fun J S1 H1 s1 ok => fun D hD => ?_⟩
  have Ew := (E.step s1).wipe vs
  refine ⟨fun i mm H' => mm = l.length - i ∧ i ≤ l.length ∧ ∃ S' acc, Step m S1 H1 S' H' ∧ S' D = none ∧ H' D = some (.lst acc) ∧ All2 S' (((l.take i).filter pr).map g) acc, ⟨l.length, rfl, Nat.zero_le _, S1, [], Step.own s1.sub s1.st hD, ?_, upd_same, ?_⟩, ?_⟩
  · cases z : S1 D with
    | none => rfl
    | some u => rw [s1.sub D u z] at hD; cases hD
  · simp; exact .nil
  rintro i mm H' ⟨rfl, hi, S', acc, s', d1, d2, d3⟩
  have hDm : m ≠ some D := (E.step s1).mfresh hD
  have hlen : (l.map f).length = l.length := List.length_map _
  by_cases hlt : i < l.length
  · obtain ⟨g1, g2⟩ := ok.go i S' H' s'.ss s'.sub s'.st (by rw [hlen]; exact hlt)
    have upd : ∀ {S2 H2 : Hp}, Step m S1 H1 S2 H2 → S2 D = none → ∀ o, Step m S1 H1 S2 (upd H2 D o) := fun {S2 H2} s2 n2 o =>
      ⟨fun a u h hn => by rw [upd_ne (ne_of_none h hD)]; exact s2.hh a u h hn, s2.ss, fun a u h => by rw [upd_ne (ne_of_none h n2)]; exact s2.sub a u h, s2.nw, fun a ha => by
        obtain ⟨r1, x, t, r2, r3⟩ := s2.st a ha
        exact ⟨r1, x, t, by rw [upd_ne (fun z => hDm (by rw [ha, z]))]; exact r2, r3⟩⟩
    refine .inr ⟨g1, fun H2 => ∃ S2 acc2, Step m S1 H1 S2 H2 ∧ S2 D = none ∧ H2 D = some (.lst acc2) ∧ All2 S2 (((l.take (i + 1)).filter pr).map g) acc2, fun H2 q2 => ⟨l.length - (i + 1), by omega, rfl, hlt, q2⟩, fun x H2 y => ?_⟩
    obtain ⟨S2, s2, A, hA, hx⟩ := g2 x H2 y
    have eA : A = f l[i] := by
      rw [List.getElem?_map, List.getElem?_eq_getElem hlt] at hA
      exact (Option.some.inj hA).symm
    subst eA
    have ht : l.take (i + 1) = l.take i ++ [l[i]] := (List.take_append_getElem hlt).symm
    obtain ⟨js, Δ, ⟨gg, t1, t2⟩, tj, ⟨u, i1, i2⟩, el⟩ := L.turn l[i] (List.getElem_mem hlt)
    refine ⟨gg, t1, t2 H0 _ S2 H2 x ((Ew.step s').step s2) hx _ fun σ3 S3 H3 s3 E3 k3 => ⟨?_, u, i1, i2 H0 σ3 S3 H3 E3 _ fun S4 H4 s4 => ?_⟩⟩
    · rw [wipe_keeps k3 tj, wipe_wipe]
    have s5 : Step m S' H' S4 H4 := (s2.trans s3).trans s4
    have s6 := s'.trans s5
    have n4 : S4 D = none := s5.nw D _ d2 rfl d1
    have h4 : H4 D = some (.lst acc) := s5.hh D _ d2 hDm
    cases hp : pr l[i] with
    | true =>
      obtain ⟨v, v1, v2⟩ := el hp
      refine iteT ⟨v, v1, v2 H0 σ3 S4 H4 (E3.step s4) _ fun y S5 H5 s7 p7 => ⟨acc, s7.hh D _ h4 hDm, ?_, S5, acc ++ [y], upd (s6.trans s7) (s7.nw D _ h4 rfl n4) _, s7.nw D _ h4 rfl n4, upd_same, ?_⟩⟩
      · have z := d3.length
        have z2 : (((l.take i).filter pr).map g).length ≤ l.length := by
          rw [List.length_map]
          exact Nat.le_trans (List.length_filter_le _ _) (by rw [List.length_take]; omega)
        exact Nat.lt_of_le_of_lt (by rw [z]; exact z2) (Nat.lt_trans L.len (by decide))
      · rw [ht, List.filter_append, List.map_append, List.filter_cons, if_pos hp]
        exact (d3.mono (s5.ss.trans s7.ss)).append (.cons p7 .nil)
    | false =>
      refine iteF ⟨S4, acc, s6, n4, h4, ?_⟩
      rw [ht, List.filter_append, List.map_append, List.filter_cons, if_neg (by rw [hp]; decide)]
      have z := d3.mono s5.ss
      simpa using z
  · have e : i = l.length := by omega
    subst e
    rw [List.take_length] at d3
    have e2 : J.stop (l.map f).length H' := ok.stop S' H' s'.ss s'.sub
    rw [hlen] at e2
    exact .inl ⟨e2, q D _ S' H' (s1.back hD) (s1.trans s') d1 d2 ⟨acc, rfl, d3⟩⟩
theorem en_lc (F : Fam X P w K mg base N k) {elt : Expr} {ifs : List Expr} {scope : Scope} {own : List (Str × Nat)} {α : Type} {l : List α} {f : α → Ty} {pr : α → Bool} {g : α → Ty} (L : LcT X m elt tg iter ifs scope (own.map (·.2)) Γ l f pr g)
    (ok : ∀ i, BlkOk (X i).N (X i).env.scope scope own) (hs : ∀ i x, foldedSetIterable iter (X i).env x = pure x := by intro _ _; rfl) : EN X m (.ListComp elt [⟨tg, iter, ifs, 0⟩] scope pos) Γ (cL ((l.filter pr).map g)) := by
  obtain ⟨wi, w1, w2⟩ := lc_run L
  exact ⟨_, fun i => pe_lc (F.calm i) (by rw [F.eN]; exact F.nd) (w1 i) (ok i) (fun s H C cl fp => bG_ok (X := bX X scope) tg (i, s, H, C, cl, fp)) (fun s H C cl fp => bI_ok (X := bX X scope) ifs (i, s, H, C, cl, fp)) (fun s H C cl fp => bE_ok (bX X scope) elt (i, s, H, C, cl, fp)) (hs i), w2⟩
/-- a new cell that all may know at once -/
theorem eg_frz (h : EN X m e Γ (cL As)) : EG X m e Γ (tL K As) := by
  obtain ⟨t, a1, a2⟩ := h
  refine ⟨t, a1, fun H0 σ S H E Q q => a2 H0 σ S H E _ fun p o S1 H1 hp s1 n1 h1 c1 => ?_⟩
  have ss : Same S1 (upd S1 p o) := fun b u hb => by rw [upd_ne (ne_of_none hb n1)]; exact hb
  obtain ⟨xs, rfl, q3⟩ := c1
  refine q _ (upd S1 p (.lst xs)) H1 ⟨s1.hh, s1.ss.trans ss, fun b u hb => ?_, fun b u hb ho hn => ?_, fun b hb => ?_⟩ ⟨p, xs, rfl, SqL.of upd_same, q3.mono ss⟩
  · by_cases z : b = p
    · subst z; rw [upd_same] at hb; rw [h1]; exact hb
    · rw [upd_ne z] at hb; exact s1.sub b u hb
  · rw [upd_ne (ne_of_none hb hp)]; exact s1.nw b u hb ho hn
  · obtain ⟨r1, x, t, r2, r3⟩ := s1.st b hb
    exact ⟨by rw [upd_ne (fun z => E.mfresh hp (by rw [hb, z]))]; exact r1, x, t, r2, r3⟩
/-- x = [..]; the list is x's own -/
theorem sg1_setLc (F : Fam X P w K mg base N k) (j : Nat) {y : Str} {py spos : Pos} {elt : Expr} {ifs : List Expr} {scope : Scope} {own : List (Str × Nat)} {α : Type} {l : List α} {f : α → Ty} {pr : α → Bool} {g : α → Ty} (L : LcT X m elt tg iter ifs scope (own.map (·.2)) Γ l f pr g)
    (ok : ∀ i, BlkOk (X i).N (X i).env.scope scope own) (h : O.nx (Γ.set j (.ow (cL ((l.filter pr).map g))))) (hN : N[j]? = some y := by rfl) (hyl : ∀ i, (X i).env.scope.names.lookup y = some .local := by intro i; rfl)
    (hsw : ∀ i, swapsWith (.ListComp elt [⟨tg, iter, ifs, 0⟩] scope pos) (some (.Name y py)) spos.line (X i).env = pure true := by intro i; exact sw_true rfl rfl rfl (by decide +kernel))
    (hs : ∀ i x, foldedSetIterable iter (X i).env x = pure x := by intro _ _; rfl) : SG1 X m (.Assign [.Name y py] (.ListComp elt [⟨tg, iter, ifs, 0⟩] scope pos) spos) Γ O := by
  obtain ⟨wi, w1, w2⟩ := lc_run L
  refine ⟨_, fun i => ps_setLc (i := j) (F.calm i) (by rw [F.eN]; exact F.nd) (by rw [F.eN]; exact hN) (hyl i) (hsw i) (w1 i) (ok i) (fun s H C cl fp => bG_ok (X := bX X scope) tg (i, s, H, C, cl, fp)) (fun s H C cl fp => bI_ok (X := bX X scope) ifs (i, s, H, C, cl, fp))
    (fun s H C cl fp => bE_ok (bX X scope) elt (i, s, H, C, cl, fp)) (hs i), fun S0 H0 σ S H s E D r n bk ct => w2 H0 σ S H E _ fun a o S1 H1 hp s1 q1 q2 q3 => n _ _ S1 H1 h (s.trans s1) s1.ss ?_⟩
  exact (E.step s1).setOw j (s.back hp) q1 q2 (E.mfresh hp) (E.ofresh hp) q3
end

/-! ### defs -/
section
variable (P : Program) (w : World) (K : PySem.W.Frag) (mg : Str → Option Value) (base : Heap)
/-- a def's body, whenever it is called -/
def BodyOk (N : List Str) (qual : Str) (scope : Scope) (body : List Stmt) (k : Nat) (m : Option Addr) (Γ : List Sl) (O : Po) : Prop :=
  ∀ (f : Addr) (cdv : Value) (A : Around) (outer : List Env) (s : Shared) (H : Hp) (E : XK), Room k (A.deeper (envOfC qual scope s.heap.objs.size f cdv)) → SG (fun _ : Unit => (cxOf CX0 P w K mg base N qual scope f cdv A outer s H E).nox) m body Γ O
end
section
variable {P : Program} {w : World} {K : PySem.W.Frag} {mg : Str → Option Value} {base : Heap} {N ps : List Str} {qual x : Str} {scope : Scope} {body : List Stmt} {params : Arguments} {k : Nat} {f : Addr} {fd : FuncData} {dvs : List V} {kws : List (Str × V)}
theorem fam_bx (nd : N.Nodup) (see : base.NoSeer) (tr : P.given.tree = none) (sg : scope.isGenerator = false) (sc : scope.isCoroutine = false) {f : Addr} {cdv : Value} {A : Around} {outer : List Env} {s : Shared} {H : Hp} {E : XK} (hr : Room k (A.deeper (envOfC qual scope s.heap.objs.size f cdv))) :
    Fam (fun _ : Unit => (cxOf CX0 P w K mg base N qual scope f cdv A outer s H E).nox) P w K mg base N k := ⟨fun _ => rfl, fun _ => rfl, fun _ => rfl, fun _ => rfl, fun _ => rfl, fun _ => rfl, nd, fun _ => hr, fun _ => rfl, fun _ => PassesOwn.never, see, tr, fun _ => ⟨_, _, rfl, sg, sc, rfl, rfl⟩⟩
/-- the slots at the entry -/
def ent (N : List Str) (Ps : List Ty) : List Sl := Ps.map .sh ++ List.replicate (N.length - Ps.length) .un
theorem se_ent {m : Option Addr} {H0 S H : Hp} {Ps : List Ty} {vs : List V} (e : Same S H) (st : StOk m S H) (h : All2 S Ps vs) : SE m H0 (ent N Ps) (L2.start N vs) S H := by
  refine ⟨e, st, by unfold ent L2.start; simp [h.length], fun _ => 0, fun i s hs => ?_, fun i j hi _ _ => ?_⟩
  · unfold ent at hs
    by_cases hi : i < Ps.length
    · rw [List.getElem?_append_left (by simpa using hi), List.getElem?_map] at hs
      cases q : Ps[i]? with
      | none => rw [q] at hs; cases hs
      | some T =>
        rw [q] at hs
        obtain rfl := Option.some.inj hs
        obtain ⟨v, h1, h2⟩ := h.get q
        refine ⟨v, ?_, h2⟩
        unfold L2.start
        rw [List.getElem?_append_left (by rw [List.length_map, h.length]; exact hi), List.getElem?_map, h1]
        rfl
    · rw [List.getElem?_append_right (by simpa using hi), List.getElem?_replicate] at hs
      split at hs
      · obtain rfl := Option.some.inj hs
        trivial
      · cases hs
  · obtain ⟨c, hc⟩ := hi
    unfold ent at hc
    by_cases hi : i < Ps.length
    · rw [List.getElem?_append_left (by simpa using hi), List.getElem?_map] at hc
      cases q : Ps[i]? with
      | none => rw [q] at hc; cases hc
      | some T => rw [q] at hc; cases hc
    · rw [List.getElem?_append_right (by simpa using hi), List.getElem?_replicate] at hc
      split at hc <;> cases hc
def tF : Ty := ⟨fun _ _ => False, fun _ _ _ _ h => h⟩
/-- a def that keeps what stands -/
theorem fn_ok (D : FunD K x qual params body scope dvs kws f fd) (S : FnScope N ps scope) {rel : List Ty → Ty → Prop} (h : ∀ Ps r, rel Ps r → Ps.length = ps.length ∧ BodyOk P w K mg base N qual scope body k none (ent N Ps) { rt := fun _ => r, nx := fun _ => tN.le r }) : FnOk P w K mg base CX0 (k + 1) f fd ps (FSp rel) := by
  refine D.ok S (fun vs H Q E hs => ?_) fun cdv A outer s H vs Q E hr hs => ?_
  · obtain ⟨Ps, r, S0, hR, _, ha, _⟩ := hs
    rw [ha.length]; exact (h Ps r hR).1
  · obtain ⟨Ps, r, S0, hR, e, ha, q⟩ := hs
    obtain ⟨t, t1, t2⟩ := (h Ps r hR).2 f cdv A outer s H E hr
    have st : StOk none S0 H := fun a z => nomatch z
    exact ⟨t, (t1 ()).nox, t2 S0 H _ S0 H (.refl e st) (se_ent e st ha) _ (fun v S1 H1 s1 _ p1 => q v S1 H1 s1 p1) (fun Γ' σ' S1 H1 hn s1 _ _ => q .non S1 H1 s1 (hn _ _ rfl)) (fun _ _ _ _ z => z.elim) fun _ _ _ _ z => z.elim⟩
/-- a def that draws: the law's list first -/
theorem fn_okM (D : FunD K x qual params body scope dvs kws f fd) (S : FnScope N ps scope) {rel : List Ty → Ty → Prop} (h : ∀ Ps r, rel Ps r → Ps.length + 1 = ps.length ∧ ∀ st, BodyOk P w K mg base N qual scope body k (some st) (ent N (tV (.ref st) :: Ps)) { rt := fun _ => r, nx := fun _ => tN.le r }) : FnOk P w K mg base CX0 (k + 1) f fd ps (MSp rel) := by
  refine D.ok S (fun vs H Q E hs => ?_) fun cdv A outer s H vs Q E hr hs => ?_
  · obtain ⟨st, ws, Ps, r, S0, rfl, hR, _, _, ha, _⟩ := hs
    rw [List.length_cons, ha.length]; exact (h Ps r hR).1
  · obtain ⟨st, ws, Ps, r, S0, rfl, hR, e, so, ha, q⟩ := hs
    obtain ⟨t, t1, t2⟩ := (h Ps r hR).2 st f cdv A outer s H E hr
    exact ⟨t, (t1 ()).nox, t2 S0 H _ S0 H (.refl e so) (se_ent e so (.cons rfl ha)) _ (fun v S1 H1 s1 _ p1 => q v S1 H1 s1 p1) (fun Γ' σ' S1 H1 hn s1 _ _ => q .non S1 H1 s1 (hn _ _ rfl)) (fun _ _ _ _ z => z.elim) fun _ _ _ _ z => z.elim⟩
/-- an __init__ -/
theorem fn_okI (D : FunD K x qual params body scope dvs kws f fd) (S : FnScope N ps scope) {C : Addr} {rel : List Ty → List (Str × Ty) → Prop}
    (h : ∀ Ps fs, rel Ps fs → Ps.length + 1 = ps.length ∧ ∀ z dx, BodyOk P w K mg base N qual scope body k none (.ow (cO C z dx []) :: (Ps.map .sh ++ List.replicate (N.length - (Ps.length + 1)) .un)) { rt := fun _ => tF, nx := fun Γ' => Γ'[0]? = some (.ow (cO C z dx fs)) }) : FnOk P w K mg base CX0 (k + 1) f fd ps (ISp C rel) := by
  refine D.ok S (fun vs H Q E hs => ?_) fun cdv A outer s H vs Q E hr hs => ?_
  · obtain ⟨z, dx, ws, Ps, fs, S0, H1, rfl, hR, _, _, _, _, _, ha, _⟩ := hs
    rw [List.length_cons, ha.length]; exact (h Ps fs hR).1
  · obtain ⟨z, dx, ws, Ps, fs, S0, H1, rfl, hR, hz, hdz, hne, rfl, e, ha, q⟩ := hs
    obtain ⟨t, t1, t2⟩ := (h Ps fs hR).2 z dx f cdv A outer s _ E hr
    have st : ∀ S H : Hp, StOk none S H := fun _ _ a z => nomatch z
    have nS : ∀ p, H1 p = none → S0 p = none := fun p hp => by
      cases y : S0 p with
      | none => rfl
      | some u => rw [e p u y] at hp; cases hp
    have same : Same H1 (upd (upd H1 dx (.own z)) z (.ins C dx [])) := fun a u ha => by rw [upd_ne (ne_of_none ha hz), upd_ne (ne_of_none ha hdz)]; exact ha
    have s0 : Step none S0 H1 S0 (upd (upd H1 dx (.own z)) z (.ins C dx [])) := ⟨fun a u ha _ => same a u ha, Same.refl _, e.trans same, fun _ _ _ _ z => z, st _ _⟩
    have E0' : SE none H1 (ent N (tV (.ref z) :: Ps)) (L2.start N (.ref z :: ws)) S0 (upd (upd H1 dx (.own z)) z (.ins C dx [])) := se_ent (e.trans same) (st _ _) (.cons rfl ha)
    have E1 := E0'.setOw 0 (c := cO C z dx []) (p := z) (o := .ins C dx []) hz (nS z hz) upd_same (fun y => nomatch y) (fun j a ⟨c, hc⟩ _ => by
      exfalso
      obtain ⟨A0, a1, _⟩ := E0'.ok
      have hh := a1 j _ hc
      obtain ⟨_, h2, _⟩ := hh
      unfold ent at hc
      by_cases hi : j < (tV (.ref z) :: Ps).length
      · rw [List.getElem?_append_left (by simpa using hi), List.getElem?_map] at hc
        cases q : (tV (.ref z) :: Ps)[j]? with
        | none => rw [q] at hc; cases hc
        | some T => rw [q] at hc; cases hc
      · rw [List.getElem?_append_right (by simpa using hi), List.getElem?_replicate] at hc
        split at hc <;> cases hc) ⟨rfl, [], rfl, .nil⟩
    have eΓ : (ent N (tV (.ref z) :: Ps)).set 0 (.ow (cO C z dx [])) = .ow (cO C z dx []) :: (Ps.map .sh ++ List.replicate (N.length - (Ps.length + 1)) .un) := rfl
    have eσ : List.set (L2.start N (.ref z :: ws)) 0 (some (V.ref z)) = start N (.ref z :: ws) := rfl
    rw [eΓ, eσ] at E1
    refine ⟨t, (t1 ()).nox, t2 S0 H1 _ S0 _ s0 E1 _ (fun v S1 H1 s1 _ p1 => ?_) (fun Γ' σ' S1 H2 hn s1 _ E2 => ?_) (fun _ _ _ _ z => z.elim) fun _ _ _ _ z => z.elim⟩
    · exact False.elim p1
    · obtain ⟨A2, a1, _⟩ := E2.ok
      obtain ⟨q1, q0, q2, q3, o, q4, q5, gs, rfl, q6⟩ := a1 0 _ hn
      rw [q5] at q2 q4
      exact q S1 H2 gs s1 q2 q4 q6
/-- a def that hands out a new cell -/
def tNew (H : Hp) (c : Cell) : Ty := ⟨fun v S => ∃ p o, v = .ref p ∧ H p = none ∧ S p = some o ∧ c.is p o S, fun v S S' e ⟨p, o, h1, h2, h3, h4⟩ => ⟨p, o, h1, h2, e _ _ h3, c.mono _ _ _ _ e h4⟩⟩
def NSp (R : List Ty → Cell → Prop) : Sp := fun vs H Q _ => ∃ Ps c S, R Ps c ∧ Same S H ∧ All2 S Ps vs ∧ ∀ v S' H', Step none S H S' H' → (tNew H c).is v S' → Q v H'
theorem fn_okN (D : FunD K x qual params body scope dvs kws f fd) (S : FnScope N ps scope) {rel : List Ty → Cell → Prop} (h : ∀ Ps c, rel Ps c → Ps.length = ps.length ∧ BodyOk P w K mg base N qual scope body k none (ent N Ps) { rt := fun H0 => tNew H0 c, nx := fun _ => False }) : FnOk P w K mg base CX0 (k + 1) f fd ps (NSp rel) := by
  refine D.ok S (fun vs H Q E hs => ?_) fun cdv A outer s H vs Q E hr hs => ?_
  · obtain ⟨Ps, r, S0, hR, _, ha, _⟩ := hs
    rw [ha.length]; exact (h Ps r hR).1
  · obtain ⟨Ps, r, S0, hR, e, ha, q⟩ := hs
    obtain ⟨t, t1, t2⟩ := (h Ps r hR).2 f cdv A outer s H E hr
    have st : StOk none S0 H := fun a z => nomatch z
    exact ⟨t, (t1 ()).nox, t2 S0 H _ S0 H (.refl e st) (se_ent e st ha) _ (fun v S1 H1 s1 _ p1 => q v S1 H1 s1 p1) (fun _ _ _ _ z => z.elim) (fun _ _ _ _ z => z.elim) fun _ _ _ _ z => z.elim⟩
end
section
variable {ι : Type} {X : ι → Cx} {m : Option Addr} {P : Program} {w : World} {K : PySem.W.Frag} {mg : Str → Option Value} {base : Heap} {N : List Str} {k j : Nat} {Γ : List Sl} {As : List Ty} {e : Expr} {es : List Expr} {pos : Pos} {c : Cell} {rel : List Ty → Cell → Prop}
/-- a call that hands out a new cell -/
theorem en_call (F : Fam X P w K mg base N k) {x : Str} {p : Pos} (T : FnT P w K mg base x j (NSp rel)) (ha : EA X m (e :: es) Γ As) (hR : rel As c) (hc : ∀ a o S S', Same S S' → c.is a o S' → c.is a o S) (hj : j ≤ k := by decide) (hg : ∀ i, Gl (X i) x := by intro i; rfl)
    (hdb : (x == ("__debug__" : Str)) = false := by decide) (he : ∀ i, starEach (e :: es) (X i).env = (false, eval e (X i).env) :: starEach es (X i).env := by intro i; rfl)
    (hpl : ∀ i, (backTo pos (starEach es (X i).env)).any (·.1) = false := by intro i; rfl) : EN X m (.Call (.Name x p) (e :: es) [] pos) Γ c := by
  obtain ⟨f, fd, ps, G, h1, h2, h3⟩ := T
  obtain ⟨t, a1, a2⟩ := ha
  refine ⟨_, fun i => pe_call (F.fnok i G) ((F.room i).mono hj) (hg i) (by rw [F.eg]; exact h1) (by rw [F.eK]; exact h2) (by rw [F.eK]; exact h3) .nil pass0 (a1 i) hdb (he i) (hpl i), fun H0 σ S H I Q q => a2 H0 σ S H I _ fun vs S1 H1 s1 p1 => ⟨As, c, S1, hR, s1.sub, by rw [List.append_nil]; exact p1, fun v S2 H2 s2 ⟨a, o, e1, e2, e3, e4⟩ => ?_⟩⟩
  subst e1
  have s3 := s2.lift s1.st
  have n1 : S1 a = none := by
    cases z : S1 a with
    | none => rfl
    | some u => rw [s1.sub a u z] at e2; cases e2
  refine q a o (fun b => if b = a then none else S2 b) H2 (s1.back e2) (s1.trans ⟨s3.hh, fun b u hb => ?_, fun b u hb => ?_, fun b u hb ho hn => ?_, fun b hb => ?_⟩) (if_pos rfl) (s3.sub _ _ e3) (hc a o _ S2 (fun b u hb => ?_) e4)
  · show (if b = a then none else S2 b) = some u
    rw [if_neg (ne_of_none hb n1)]; exact s3.ss b u hb
  · by_cases z : b = a
    · rw [if_pos z] at hb; cases hb
    · rw [if_neg z] at hb; exact s3.sub b u hb
  · show (if b = a then none else S2 b) = none
    by_cases z : b = a
    · rw [if_pos z]
    · rw [if_neg z]; exact s3.nw b u hb ho hn
  · obtain ⟨r1, x, t, r2, r3⟩ := s3.st b hb
    refine ⟨?_, x, t, r2, r3⟩
    show (if b = a then none else S2 b) = none
    by_cases z : b = a
    · rw [if_pos z]
    · rw [if_neg z]; exact r1
  · by_cases z : b = a
    · rw [if_pos z] at hb; cases hb
    · rw [if_neg z] at hb; exact hb
end
end Rt

set_option Elab.async false
set_option linter.all false
set_option maxRecDepth 100000
set_option maxHeartbeats 4000000
/-! Rt6: what the operators and the built-in functions do, by types. -/
namespace Rt
open PySem PySem.Spec PyProof.Rows L2
section
variable {ι : Type} {X : ι → Cx} {m : Option Addr} {P : Program} {w : World} {K : PySem.W.Frag} {mg : Str → Option Value} {base : Heap} {N : List Str} {k : Nat} {Γ : List Sl} {A B R : Ty} {As Bs : List Ty} {e e1 e2 o : Expr} {es : List Expr} {pos : Pos} {i j : Int} {b c : Bool}
/-! ### whole numbers -/
theorem r2_I0 {g : Int → Int → V} : R2T m (rI0 g) (tI i) (tI j) (tV (g i j)) := fun x y S H e st hx hy k q => ⟨i, j, hx, hy, q _ S H (.refl e st) rfl⟩
theorem r2_I {C : Int → Int → Prop} {g : Int → Int → V} (h : C i j) : R2T m (rI C g) (tI i) (tI j) (tV (g i j)) := fun x y S H e st hx hy k q => ⟨i, j, hx, hy, h, q _ S H (.refl e st) rfl⟩
theorem add_II : OpT X m (binaryOp .Add) (tI i) (tI j) (tI (i + j)) := ⟨_, fun _ => op_add, r2_I0⟩
theorem sub_II : OpT X m (binaryOp .Sub) (tI i) (tI j) (tI (i - j)) := ⟨_, fun _ => op_sub, r2_I0⟩
theorem op_mulZ {Y : Cx} : OpR Y (binaryOp .Mult) (rI IntMulOk fun i j => .int (i * j)) := opI fun _ _ _ _ _ _ _ hc q => mul_int q hc
theorem mul_II (h : IntMulOk i j) : OpT X m (binaryOp .Mult) (tI i) (tI j) (tI (i * j)) := ⟨_, fun _ => op_mulZ, r2_I h⟩
theorem mul_IIl (h : -(2 ^ 64) < i) (h' : i < 2 ^ 64) : OpT X m (binaryOp .Mult) (tI i) (tI j) (tI (i * j)) := mul_II (IntMulOk.of_left (intBits_le_64 h h'))
theorem mul_IIr (h : -(2 ^ 64) < j) (h' : j < 2 ^ 64) : OpT X m (binaryOp .Mult) (tI i) (tI j) (tI (i * j)) := mul_II (IntMulOk.of_right (intBits_le_64 h h'))
theorem mod_II (h : 0 < j) : OpT X m (binaryOp .Mod) (tI i) (tI j) (tI (i % j)) := ⟨_, fun _ => op_mod, r2_I h⟩
theorem mod_IIn (h : j ≠ 0) : OpT X m (binaryOp .Mod) (tI i) (tI j) (tI (i.fmod j)) := ⟨_, fun _ => op_modN, r2_I h⟩
theorem op_fdivZ (F : Fam X P w K mg base N k) (hk : 32 ≤ k) (z : ι) : OpR (X z) (binaryOp .FloorDiv) (rI (fun _ j => j ≠ 0) fun i j => .int (i.fdiv j)) := by
  intro pins s σ H x y v u Q I rx ry h
  obtain ⟨i, j, rfl, rfl, hj, q⟩ := h
  obtain ⟨t, rfl⟩ := rx
  obtain ⟨t', rfl⟩ := ry
  obtain ⟨env, l, f1, f2, f3, f4, f5⟩ := F.fr z
  have see : s.heap.NoSeer := F.see.keeps fun b o hb => I.bk b o (by rw [F.eb]; exact hb)
  have fr : (X z).A.frames = some (env :: l) := by rw [I.ok.frames, f1]
  have dep : (X z).A.depth + Builtin.pylongFrames < recursionLimit := by
    have := (F.room z).dp
    have e : Builtin.pylongFrames = 100 := rfl
    omega
  have at_ : SeerAt (model (X z).prog (X z).w) (X z).A s.heap := SeerAt.of see (by rw [F.ep]; exact F.tr) fr f2 f3 f4 f5
  exact floordiv_int hj ⟨.int _, H, I.tok _, ⟨_, rfl⟩, q⟩ (.inr (PylongRoom.of I.nolimit dep at_))
theorem fdiv_II (F : Fam X P w K mg base N k) (h : j ≠ 0) (hk : 32 ≤ k := by omega) : OpT X m (binaryOp .FloorDiv) (tI i) (tI j) (tI (i.fdiv j)) := ⟨_, fun z => op_fdivZ F hk z, r2_I h⟩
theorem fdiv_IIp (F : Fam X P w K mg base N k) (h : 0 < j) (hk : 32 ≤ k := by omega) : OpT X m (binaryOp .FloorDiv) (tI i) (tI j) (tI (i / j)) := by
  have := fdiv_II (i := i) (m := m) F (show j ≠ 0 by omega) hk
  rwa [Int.fdiv_eq_ediv_of_nonneg i (by omega)] at this
theorem neg_I : UnT X m (unaryOp .USub) (tI i) (tI (-i)) := ⟨_, fun _ => un_neg, fun x S H e st hx k q => ⟨i, hx, q _ S H (.refl e st) rfl⟩⟩
/-! comparisons -/
theorem lt_II : OpT X m (compareOp .Lt) (tI i) (tI j) (tB (decide (i < j))) := ⟨_, fun _ => op_lt, r2_I0⟩
theorem le_II : OpT X m (compareOp .LtE) (tI i) (tI j) (tB (decide (i ≤ j))) := ⟨_, fun _ => op_le, r2_I0⟩
theorem gt_II : OpT X m (compareOp .Gt) (tI i) (tI j) (tB (decide (j < i))) := ⟨_, fun _ => op_gt, r2_I0⟩
theorem ge_II : OpT X m (compareOp .GtE) (tI i) (tI j) (tB (decide (j ≤ i))) := ⟨_, fun _ => op_ge, r2_I0⟩
theorem r2_eq {x y : V} (h : scal x y = true) : R2T m rEq (tV x) (tV y) (tB (decide (x = y))) := fun u v S H e st hx hy k q => by
  cases hx; cases hy
  exact ⟨h, q _ S H (.refl e st) rfl⟩
theorem r2_ne {x y : V} (h : scal x y = true) : R2T m rNe (tV x) (tV y) (tB (!decide (x = y))) := fun u v S H e st hx hy k q => by
  cases hx; cases hy
  exact ⟨h, q _ S H (.refl e st) rfl⟩
theorem dec_V {i j : Int} : decide (V.int i = V.int j) = decide (i = j) := decide_eq_decide.mpr ⟨fun h => by injection h, fun h => by rw [h]⟩
theorem dec_VB {i j : Bool} : decide (V.bl i = V.bl j) = decide (i = j) := decide_eq_decide.mpr ⟨fun h => by injection h, fun h => by rw [h]⟩
theorem dec_VS {i j : Str} : decide (V.str i = V.str j) = decide (i = j) := decide_eq_decide.mpr ⟨fun h => by injection h, fun h => by rw [h]⟩
theorem eq_II : OpT X m (compareOp .Eq) (tI i) (tI j) (tB (decide (i = j))) := ⟨_, fun _ => op_eq, dec_V ▸ r2_eq rfl⟩
theorem ne_II : OpT X m (compareOp .NotEq) (tI i) (tI j) (tB (!decide (i = j))) := ⟨_, fun _ => op_ne, dec_V ▸ r2_ne rfl⟩
theorem eq_BB : OpT X m (compareOp .Eq) (tB b) (tB c) (tB (decide (b = c))) := ⟨_, fun _ => op_eq, dec_VB ▸ r2_eq rfl⟩
theorem ne_BB : OpT X m (compareOp .NotEq) (tB b) (tB c) (tB (!decide (b = c))) := ⟨_, fun _ => op_ne, dec_VB ▸ r2_ne rfl⟩
theorem eq_SS {x y : Str} : OpT X m (compareOp .Eq) (tS x) (tS y) (tB (decide (x = y))) := ⟨_, fun _ => op_eq, dec_VS ▸ r2_eq rfl⟩
theorem is_BB : OpT X m (compareOp .Is) (tB b) (tB c) (tB (decide (b = c))) := ⟨_, fun _ => op_isBl, fun u v S H e st hx hy k q => ⟨b, c, hx, hy, q _ S H (.refl e st) rfl⟩⟩
theorem isnot_BB : OpT X m (compareOp .IsNot) (tB b) (tB c) (tB (!decide (b = c))) := ⟨_, fun _ => op_notBl, fun u v S H e st hx hy k q => ⟨b, c, hx, hy, q _ S H (.refl e st) rfl⟩⟩
/-! ### built-in functions -/
theorem ra_of {r : List V → Hp → VK → Prop} {z : V} (h : ∀ xs S H, Same S H → All2 S As xs → ∀ k : VK, k z H → r xs H k) : RAT m r As (tV z) := fun xs S H e st ha k q => h xs S H e ha k (q z S H (.refl e st) rfl)
theorem all2_1 {S : Hp} {xs : List V} (h : All2 S [A] xs) : ∃ x, xs = [x] ∧ A.is x S := by
  cases h with
  | cons h t => cases t; exact ⟨_, rfl, h⟩
theorem all2_2 {S : Hp} {xs : List V} (h : All2 S [A, B] xs) : ∃ x y, xs = [x, y] ∧ A.is x S ∧ B.is y S := by
  cases h with
  | cons h t =>
    obtain ⟨y, rfl, h2⟩ := all2_1 t
    exact ⟨_, y, rfl, h, h2⟩
theorem ca_abs : CaT X m (.builtin "abs") [tI i] (tI (if i < 0 then -i else i)) := ⟨_, fun _ => call_abs, ra_of fun xs S H e h k q => by
  obtain ⟨x, rfl, rfl⟩ := all2_1 h
  exact ⟨i, rfl, q⟩⟩
theorem ca_int : CaT X m (.type "int") [tI i] (tI i) := ⟨_, fun _ => call_int1, ra_of fun xs S H e h k q => by
  obtain ⟨x, rfl, rfl⟩ := all2_1 h
  exact .inl ⟨i, rfl, q⟩⟩
theorem ca_intB : CaT X m (.type "int") [tB b] (tI (if b then 1 else 0)) := ⟨_, fun _ => call_int1, ra_of fun xs S H e h k q => by
  obtain ⟨x, rfl, rfl⟩ := all2_1 h
  exact .inr ⟨b, rfl, q⟩⟩
theorem ca_max2 (F : Fam X P w K mg base N k) : CaT X m (.builtin "max") [tI i, tI j] (tI (if j > i then j else i)) := ⟨_, fun z => call_max2 (F.calm z), ra_of fun xs S H e h k q => by
  obtain ⟨x, y, rfl, rfl, rfl⟩ := all2_2 h
  exact ⟨i, j, rfl, q⟩⟩
theorem ca_lenT (F : Fam X P w K mg base N k) : CaT X m (.builtin "len") [tT K As] (tI As.length) := ⟨fun xs H Q => ∃ p ys, xs = [.ref p] ∧ (SqL K H p ys ∨ SqT K H p ys) ∧ Q (.int ys.length) H, fun z => by
  have := call_len_seq (X := X z)
  rw [F.eK] at this
  exact this, ra_of fun xs S H e h k q => by
  obtain ⟨x, rfl, a, ys, rfl, h1, h2⟩ := all2_1 h
  exact ⟨a, ys, rfl, .inr (sqt_mono e h1), by rw [h2.length]; exact q⟩⟩
theorem ca_lenL (F : Fam X P w K mg base N k) : CaT X m (.builtin "len") [tL K As] (tI As.length) := ⟨fun xs H Q => ∃ p ys, xs = [.ref p] ∧ (SqL K H p ys ∨ SqT K H p ys) ∧ Q (.int ys.length) H, fun z => by
  have := call_len_seq (X := X z)
  rw [F.eK] at this
  exact this, ra_of fun xs S H e h k q => by
  obtain ⟨x, rfl, a, ys, rfl, h1, h2⟩ := all2_1 h
  exact ⟨a, ys, rfl, .inl (sql_mono e h1), by rw [h2.length]; exact q⟩⟩
theorem all2_bools {S : Hp} : ∀ {bs : List Bool} {ys : List V}, All2 S (bs.map tB) ys → ys = bs.map V.bl
  | [], _, .nil => rfl
  | n :: r, _, .cons p t => by rw [show _ = V.bl n from p, all2_bools t]; rfl
/-- all([..]) of truth values -/
theorem ca_all (F : Fam X P w K mg base N k) {bs : List Bool} : CaT X m (.builtin "all") [tL K (bs.map tB)] (tB (bs.all id)) := ⟨rAll K, fun z => by
  have := cr_all (X := X z) (F.calm z)
  rw [F.eK] at this
  exact this, ra_of fun xs S H e h k q => by
  obtain ⟨x, rfl, a, ys, rfl, h1, h2⟩ := all2_1 h
  have hb := all2_bools h2
  subst hb
  exact ⟨a, bs, rfl, sql_mono e h1, q⟩⟩
theorem ca_any (F : Fam X P w K mg base N k) {bs : List Bool} : CaT X m (.builtin "any") [tL K (bs.map tB)] (tB (bs.any id)) := ⟨rAny K, fun z => by
  have := cr_any (X := X z) (F.calm z)
  rw [F.eK] at this
  exact this, ra_of fun xs S H e h k q => by
  obtain ⟨x, rfl, a, ys, rfl, h1, h2⟩ := all2_1 h
  have hb := all2_bools h2
  subst hb
  exact ⟨a, bs, rfl, sql_mono e h1, q⟩⟩
theorem all2_ints {S : Hp} : ∀ {ns : List Int} {ys : List V}, All2 S (ns.map tI) ys → ys = ns.map V.int
  | [], _, .nil => rfl
  | n :: r, _, .cons p t => by rw [show _ = V.int n from p, all2_ints t]; rfl
theorem ca_sum (F : Fam X P w K mg base N k) {ns : List Int} : CaT X m (.builtin "sum") [tL K (ns.map tI)] (tI ns.sum) := ⟨rSum K, fun z => by
  have := cr_sum (X := X z) (F.calm z)
  rw [F.eK] at this
  exact this, ra_of fun xs S H e h k q => by
  obtain ⟨x, rfl, a, ys, rfl, h1, h2⟩ := all2_1 h
  have hb := all2_ints h2
  subst hb
  exact ⟨a, ns, rfl, sql_mono e h1, q⟩⟩
/-- tuple(list) -/
theorem ca_tupL (F : Fam X P w K mg base N k) : CaT X m (.type "tuple") [tL K As] (tT K As) := ⟨fun xs H Q => ∃ p ys, xs = [.ref p] ∧ ((SqL K H p ys ∧ ∀ l, H l = none → Q (.ref l) (upd H l (.tup ys))) ∨ (SqT K H p ys ∧ Q (.ref p) H)), fun z => by
  have := call_tuple_of (X := X z)
  rw [F.eK] at this
  exact this, fun xs S H e st h k q => by
  obtain ⟨x, rfl, a, ys, rfl, h1, h2⟩ := all2_1 h
  refine ⟨a, ys, rfl, .inl ⟨sql_mono e h1, fun l hl => ?_⟩⟩
  have s := Step.new (m := m) (o := .tup ys) e st hl
  exact q _ _ _ s ⟨l, ys, rfl, SqT.of upd_same, h2.mono s.ss⟩⟩
theorem ca_tupT (F : Fam X P w K mg base N k) : CaT X m (.type "tuple") [tT K As] (tT K As) := ⟨fun xs H Q => ∃ p ys, xs = [.ref p] ∧ ((SqL K H p ys ∧ ∀ l, H l = none → Q (.ref l) (upd H l (.tup ys))) ∨ (SqT K H p ys ∧ Q (.ref p) H)), fun z => by
  have := call_tuple_of (X := X z)
  rw [F.eK] at this
  exact this, fun xs S H e st h k q => by
  obtain ⟨x, rfl, a, ys, rfl, h1, h2⟩ := all2_1 h
  exact ⟨a, ys, rfl, .inr ⟨sqt_mono e h1, q _ S H (.refl e st) ⟨a, ys, rfl, h1, h2⟩⟩⟩⟩
/-- list(list), list(tuple): a list of one's own -/
theorem cn_listL (F : Fam X P w K mg base N k) : CaN X m (.type "list") [tL K As] (cL As) := ⟨fun xs H Q => ∃ p ys, xs = [.ref p] ∧ (SqL K H p ys ∨ SqT K H p ys) ∧ ∀ l, H l = none → Q (.ref l) (upd H l (.lst ys)), fun z => by
  have := call_list_of (X := X z)
  rw [F.eK] at this
  exact this, fun xs S H e st h k q => by
  obtain ⟨x, rfl, a, ys, rfl, h1, h2⟩ := all2_1 h
  exact ⟨a, ys, rfl, .inl (sql_mono e h1), fun l hl => q l _ hl ⟨ys, rfl, h2⟩⟩⟩
theorem cn_listT (F : Fam X P w K mg base N k) : CaN X m (.type "list") [tT K As] (cL As) := ⟨fun xs H Q => ∃ p ys, xs = [.ref p] ∧ (SqL K H p ys ∨ SqT K H p ys) ∧ ∀ l, H l = none → Q (.ref l) (upd H l (.lst ys)), fun z => by
  have := call_list_of (X := X z)
  rw [F.eK] at this
  exact this, fun xs S H e st h k q => by
  obtain ⟨x, rfl, a, ys, rfl, h1, h2⟩ := all2_1 h
  exact ⟨a, ys, rfl, .inr (sqt_mono e h1), fun l hl => q l _ hl ⟨ys, rfl, h2⟩⟩⟩
/-! ### subscripts -/
theorem all2_at {S : Hp} {xs : List V} {i : Int} (h : All2 S As xs) (ha : atI As i = some A) : ∃ x, atI xs i = some x ∧ A.is x S := by
  unfold atI at ha ⊢
  rw [h.length]
  cases q : ixN As.length i with
  | none => rw [q] at ha; cases ha
  | some j => rw [q] at ha; exact h.get ha
theorem ix_T (F : Fam X P w K mg base N k) (ha : atI As i = some A) : IxT X m (tT K As) (tI i) A := ⟨rIxT K, fun z => by
  have := ix_tup (X := X z)
  rw [F.eK] at this
  exact this, fun x y S H e st hx hy k q => by
  obtain ⟨a, xs, rfl, h1, h2⟩ := hx
  obtain ⟨v, v1, v2⟩ := all2_at h2 ha
  exact ⟨a, xs, i, v, rfl, hy, sqt_mono e h1, v1, q v S H (.refl e st) v2⟩⟩
theorem ix_L (F : Fam X P w K mg base N k) (ha : atI As i = some A) : IxT X m (tL K As) (tI i) A := ⟨rIxL K, fun z => by
  have := ix_list (X := X z)
  rw [F.eK] at this
  exact this, fun x y S H e st hx hy k q => by
  obtain ⟨a, xs, rfl, h1, h2⟩ := hx
  obtain ⟨v, v1, v2⟩ := all2_at h2 ha
  exact ⟨a, xs, i, v, rfl, hy, sql_mono e h1, v1, q v S H (.refl e st) v2⟩⟩
theorem eg_ix (o : IxT X m A B R) (ha : EG X m e1 Γ A) (hb : EG X m e2 Γ B) (hs : PlainIx e2 := by exact fun _ _ => rfl) : EG X m (.Subscript e1 e2 pos) Γ R := by
  obtain ⟨r, h1, h2⟩ := o
  obtain ⟨ta, a1, a2⟩ := ha
  obtain ⟨tb, b1, b2⟩ := hb
  exact ⟨_, fun i => pe_ix (h1 i) (a1 i) (b1 i) hs, ev_op h2 a2 b2⟩
/-! ### slices -/
def EvO (m : Option Addr) (t : TO) (Γ : List Sl) (o : Option Int) : Prop := ∀ H0 σ S H, SE m H0 Γ σ S H → ∀ Q : Option Int → Hp → Prop, (∀ S' H', Step m S H S' H' → Q o H') → t σ H Q
def EO {ι : Type} (X : ι → Cx) (m : Option Addr) (e : Option Expr) (Γ : List Sl) (o : Option Int) : Prop := ∃ t, (∀ i, PO (X i) e t) ∧ EvO m t Γ o
theorem eo_none : EO X m none Γ none := ⟨_, fun _ => po_none, fun H0 σ S H I Q q => q S H (.refl I.sub I.st)⟩
theorem eo_some (h : EG X m e Γ (tI i)) : EO X m (some e) Γ (some i) := by
  obtain ⟨t, h1, h2⟩ := h
  exact ⟨_, fun z => po_some (h1 z), fun H0 σ S H I Q q => h2 H0 σ S H I _ fun v S' H' s p => ⟨i, p, q S' H' s⟩⟩
def cutT (xs : List Ty) (lo hi : Option Int) : List Ty := (xs.drop (HT.sIx xs.length 0 lo)).take (HT.sIx xs.length xs.length hi - HT.sIx xs.length 0 lo)
theorem all2_cut {S : Hp} {xs : List V} {lo hi : Option Int} (h : All2 S As xs) : All2 S (cutT As lo hi) (cutV xs lo hi) := by
  unfold cutT cutV
  rw [h.length]
  exact (h.drop _).take _
/-- a slice of a list: a new list -/
theorem en_slL (F : Fam X P w K mg base N k) {lo hi : Option Expr} {l h : Option Int} {p2 : Pos} (ha : EG X m e Γ (tL K As)) (hl : EO X m lo Γ l) (hh : EO X m hi Γ h) : EN X m (.Subscript e (.Slice lo hi none p2) pos) Γ (cL (cutT As l h)) := by
  obtain ⟨ta, a1, a2⟩ := ha
  obtain ⟨tl, b1, b2⟩ := hl
  obtain ⟨th, c1, c2⟩ := hh
  refine ⟨tSl (rSlL K) ta tl th, fun i => ?_, fun H0 σ S H I Q q => a2 H0 σ S H I _ fun v S1 H1 s1 p1 => b2 H0 σ S1 H1 (I.step s1) _ fun S2 H2 s2 => c2 H0 σ S2 H2 ((I.step s1).step s2) _ fun S3 H3 s3 => ?_⟩
  · have := pe_slice (p2 := p2) (pos := pos) (sl_list (X := X i)) (a1 i) (b1 i) (c1 i)
    rw [F.eK] at this
    exact this
  · obtain ⟨a, xs, rfl, h1, h2⟩ := p1
    have s := (s1.trans s2).trans s3
    have ss := s2.ss.trans s3.ss
    exact ⟨a, xs, rfl, sql_mono (ss.trans s3.sub) h1, fun p hp => q p _ S3 _ (s.back hp) (s.trans (Step.own s3.sub s3.st hp)) (s.back' hp) upd_same ⟨_, rfl, (all2_cut h2).mono ss⟩⟩
theorem eg_slL (F : Fam X P w K mg base N k) {lo hi : Option Expr} {l h : Option Int} {p2 : Pos} (ha : EG X m e Γ (tL K As)) (hl : EO X m lo Γ l) (hh : EO X m hi Γ h) : EG X m (.Subscript e (.Slice lo hi none p2) pos) Γ (tL K (cutT As l h)) := eg_frz (en_slL F ha hl hh)
/-! ### lists put together -/
/-- [..] + [..] where both are new -/
theorem en_cat {c d : List Ty} (ha : EN X m e1 Γ (cL c)) (hb : EN X m e2 Γ (cL d)) (hl : c.length + d.length ≤ 100000) : EN X m (.BinOp e1 .Add e2 pos) Γ (cL (c ++ d)) := by
  obtain ⟨ta, a1, a2⟩ := ha
  obtain ⟨tb, b1, b2⟩ := hb
  refine ⟨_, fun i => pe_op op_cat (a1 i) (b1 i), fun H0 σ S H I Q q => a2 H0 σ S H I _ fun p o S1 H1 hp s1 n1 h1 c1 => b2 H0 σ S1 H1 (I.step s1) _ fun r u S2 H2 hr s2 n2 h2 c2 => ?_⟩
  obtain ⟨xs, rfl, x2⟩ := c1
  obtain ⟨ys, rfl, y2⟩ := c2
  have hm := (I.mfresh hp)
  refine ⟨p, r, xs, ys, rfl, rfl, s2.hh p _ h1 hm, h2, Nat.le_trans (by rw [x2.length, y2.length]; exact hl) (by decide), fun z hz => ?_⟩
  have s := s1.trans s2
  exact q z _ S2 _ (s.back hz) (s.trans (Step.own s2.sub s2.st hz)) (s.back' hz) upd_same ⟨_, rfl, (x2.mono s2.ss).append y2⟩
end
end Rt

set_option Elab.async false
set_option linter.all false
set_option maxRecDepth 100000
set_option maxHeartbeats 4000000
/-! Rt7: isinstance; == and != with an own __eq__, either way round. -/
namespace Rt
open PySem PySem.Spec PyProof.Rows L2

/-! ### what a built-in == says of an own instance: not its to tell -/
section
variable {prog : Program} {w : World} {A : Around} {E : Value → Shared → Prop} {s : Shared} {a C dx : Addr} {Q : Value → Shared → Prop} {K : PySem.W.Frag}
theorem dcl_int {i : Int} {t : Tok} (ho : s.heap.get? a = some (PySem.W.instObj C dx)) (h : Q .notImplemented s) : wpAny (model prog w) A (call (.builtin "int.__eq__") [.int i t, .ref a]) Q E s := by
  refine GQ.call_here F.slot_int_eq (typeIs_int s i t) F.entry_int_eq (F.args_int_eq_2 _ _) ?_
  obtain ⟨hp, g, d, tk, os⟩ := s
  wp_walk using AutoSeq1.wpAny_loadPart' ho
  exact h
theorem dcl_str {i : Str} {t : Tok} (ho : s.heap.get? a = some (PySem.W.instObj C dx)) (h : Q .notImplemented s) : wpAny (model prog w) A (call (.builtin "str.__eq__") [.str i t, .ref a]) Q E s := by
  refine GQ.call_here F.slot_str_eq (typeIs_str s i t) F.entry_str_eq (F.args_str_eq_2 _ _) ?_
  obtain ⟨hp, g, d, tk, os⟩ := s
  wp_walk using AutoSeq1.wpAny_loadPart' ho
  exact h
theorem dcl_none (h : Q .notImplemented s) : wpAny (model prog w) A (call (.builtin "NoneType.__eq__") [.none, .ref a]) Q E s := by
  refine GQ.call_here F.slot_NoneType_eq rfl F.entry_NoneType_eq (F.args_NoneType_eq_2 _ _) ?_
  obtain ⟨hp, g, d, tk, os⟩ := s
  wp_walk
  exact h
theorem dcl_tuple {p : Addr} {its : Array Value} (hp : IsTup s.heap p its) (X : K.In s.heap) (ho : s.heap.get? a = some (PySem.W.instObj C dx)) (hs : PySem.W.subIn K (.ref C) (.type "tuple") = some false) (h : Q .notImplemented s) :
    wpAny (model prog w) A (call (.builtin "tuple.__eq__") [.ref p, .ref a]) Q E s := by
  obtain ⟨ob, h1, h2, n, h3⟩ := hp
  refine GQ.call_here F.slot_tuple_eq ⟨ob, h1, h2⟩ F.entry_tuple_eq (F.args_tuple_eq_2 _ _) ?_
  obtain ⟨hp, g, d, tk, os⟩ := s
  have L : PySem.W.Looks (model prog w) hp (isSubtype (.ref C) (.type "tuple")) false := PySem.W.looks_subIn X hs
  wp_walk using AutoSeq1.wpAny_loadPart' ho, L.at
  exact h
theorem dcl_list {p : Addr} {ob : Obj} (h1 : s.heap.get? p = some ob) (h2 : ob.cls = .type "list") (X : K.In s.heap) (ho : s.heap.get? a = some (PySem.W.instObj C dx)) (hs : PySem.W.subIn K (.ref C) (.type "list") = some false) (h : Q .notImplemented s) :
    wpAny (model prog w) A (call (.builtin "list.__eq__") [.ref p, .ref a]) Q E s := by
  refine GQ.call_here F.slot_list_eq ⟨ob, h1, h2⟩ F.entry_list_eq (F.args_list_eq_2 _ _) ?_
  obtain ⟨hp, g, d, tk, os⟩ := s
  have L : PySem.W.Looks (model prog w) hp (isSubtype (.ref C) (.type "list")) false := PySem.W.looks_subIn X hs
  wp_walk using AutoSeq1.wpAny_loadPart' ho, L.at
  exact h
/-- left a value of a built-in type, right an own instance: its own __eq__ is asked -/
theorem rc_right {T id : String} {v : Value} {f : Addr} {od : Option Obj} {ox : Obj} (hu : A.units < cLine) (X : K.In s.heap) (I : PySem.W.InstAt s.heap a ox C od) (hv : s.TypeIs v T) (hno : PySem.W.subIn K (.ref C) (.type T) = some false) (h1 : Slot T (cmpInfo .Eq).2.1 id)
    (hd : ∀ Q' : Value → Shared → Prop, Q' .notImplemented s → wpAny (model prog w) A (call (.builtin id) [v, .ref a]) Q' E s) (hs : PySem.W.findIn K (.ref C) "__eq__" = some (some (.ref f))) (hf : PySem.W.isFn K (.ref f) = true)
    (h : wpAny (model prog w) A (call (.ref f) [.ref a, v]) (PySem.W.CmpBack Q) E s) : wpAny (model prog w) A (richCompare .Eq v (.ref a)) Q E s := by
  unfold richCompare
  rw [hv.oneThing_none]
  refine wpAny_holding (wpAny_bind (wpAny_cRoomFor hu ?_))
  refine wpAny_bind (wpAny_typeOf hv (wpAny_bind (I.type.here ?_)))
  rw [if_pos (show (Value.type T != Value.ref C) = true by rfl)]
  refine wpAny_bind ((PySem.W.looks_subIn X hno).here ?_)
  simp only [if_false, Bool.false_eq_true, Bool.not_false, if_true]
  refine wpAny_bind (m := tryCompare v _ (.ref a)) (wpAny_tryCompare_declines hv h1 (hd _ ⟨rfl, ?_⟩))
  refine wpAny_bind (m := tryCompare (.ref a) _ v) ?_
  unfold tryCompare
  refine wpAny_bind (PySem.W.ifBound_K X I hs hf (wpAny_mono h (fun u s' hu => ?_) fun _ _ z => z))
  cases u <;> first | exact hu.elim | exact wpAny_pure (wpAny_pure hu)
/-- object's own __ne__ : it asks __eq__ -/
theorem call_ne {v : Value} {f : Addr} {od : Option Obj} {ox : Obj} (hu : A.units + 64 < cLine) (X : K.In s.heap) (I : PySem.W.InstAt s.heap a ox C od) (ho : PySem.W.subIn K (.ref C) (.type "object") = some true) (hs : PySem.W.findIn K (.ref C) "__eq__" = some (some (.ref f))) (hf : PySem.W.isFn K (.ref f) = true)
    (h : wpAny (model prog w) A.in1 (call (.ref f) [.ref a, v]) (fun u s' => ∃ r, u = .bool r ∧ Q (.bool (!r)) s') E s) : wpAny (model prog w) A (call (.builtin "object.__ne__") [.ref a, v]) Q E s := by
  have hb : PySem.W.Looks (model prog w) s.heap (isInstance (.ref a) (.type "object")) true := I.type.andThen (PySem.W.looks_subIn X ho)
  have body : wpAny (model prog w) A.in1 (Builtin.«object.__ne__» ⟨[.ref a, v], []⟩) (GQ.FinOf prog w A (wants Q E)) (fun e s' => wants Q E (.error e) s') s := by
    unfold Builtin.«object.__ne__» slotArgs
    refine wpAny_bind (wpAny_bind (wpAny_pure ?_))
    refine wpAny_pure ?_
    refine wpAny_bind (wpAny_cRoomFor (by show A.units + 1 < cLine; omega) ?_)
    refine wpAny_bind (PySem.W.ifBound_K X I hs hf (wpAny_mono h (fun u s' hq => ?_) fun _ _ z => z))
    obtain ⟨r, rfl, q⟩ := hq
    exact wpAny_bind (wpAny_truthy_bool (wpAny_pure q))
  have args := PySem.F.cmpArgs_ne (.ref a) v
  refine wpAny_call (codeAny_call_builtin (PySem.F.cmp_object.ne.plain) PySem.F.cmpEntry_ne ?_)
  simp only [checkBuiltinCall, PySem.F.cmpKind_ne, PySem.F.cmpSplit_ne]
  refine wpAny_bind (hb.here ?_)
  rw [if_neg (show ¬ (!true) = true by decide)]
  cases hsig : Manifest.signature? "object.__ne__" with
  | none => exact wpAny_pure body
  | some sig =>
    simp only [argsOk, hsig] at args
    refine wpAny_of_eq (show Bind.checkArgs "object.__ne__" sig ⟨[.ref a, v], []⟩ = pure () from args) body
/-- own != anything, by __eq__ -/
theorem rc_ne {v tb : Value} {f : Addr} {od : Option Obj} {ox : Obj} (hu : A.units + 64 < cLine) (X : K.In s.heap) (I : PySem.W.InstAt s.heap a ox C od) (hb : PySem.W.Looks (model prog w) s.heap (typeOf v) tb) (hn : PySem.W.notFirst K C tb = true) (ho : PySem.W.subIn K (.ref C) (.type "object") = some true)
    (hne : PySem.W.findIn K (.ref C) "__ne__" = some (some (.builtin "object.__ne__"))) (hs : PySem.W.findIn K (.ref C) "__eq__" = some (some (.ref f))) (hf : PySem.W.isFn K (.ref f) = true)
    (h : wpAny (model prog w) A.in1 (call (.ref f) [.ref a, v]) (fun u s' => ∃ r, u = .bool r ∧ Q (.bool (!r)) s') E s) : wpAny (model prog w) A (richCompare .NotEq (.ref a) v) Q E s := by
  have one : wpAny (model prog w) A (tryCompare (.ref a) (cmpInfo .NotEq).2.1 v) (fun r s' => ∃ u, r = some u ∧ Q u s') E s := by
    unfold tryCompare callSpecialIfBound? bindSpecialIfBound?
    refine wpAny_bind (wpAny_holding (wpAny_bind (wpAny_bind (wpAny_bind (I.type.here ((PySem.W.looks_findIn X hne).here ?_))))))
    have fin : wpAny (model prog w) A (call (.builtin "object.__ne__") ([.ref a] ++ [v]) >>= fun u => pure (some u)) (fun r s' => wpAny (model prog w) A (match r with | some .notImplemented => pure none | none => pure none | some u => pure (some u)) (fun r s' => ∃ u, r = some u ∧ Q u s') E s') E s :=
      wpAny_bind (wpAny_mono (call_ne (Q := fun u s' => (∃ b, u = .bool b) ∧ Q u s') hu X I ho hs hf (wpAny_mono h (fun u s' ⟨r, e, q⟩ => ⟨r, e, ⟨_, rfl⟩, q⟩) fun _ _ z => z)) (fun u s' ⟨⟨b, e⟩, q⟩ => by
        subst e
        exact wpAny_pure (wpAny_pure ⟨_, rfl, q⟩)) fun _ _ z => z)
    simp only [PySem.F.cmp_object.ne.bind]
    refine wpAny_bind (wpAny_askSetting (wpAny_ite ?_))
    split
    · exact wpAny_bind (wpAny_pure (wpAny_pure fin))
    · exact wpAny_tryCatch (wpAny_bind (wpAny_pure (wpAny_pure fin)))
  unfold richCompare
  simp only [oneThing_ref]
  refine wpAny_holding (wpAny_bind (wpAny_cRoomFor (by omega) ?_))
  refine wpAny_bind (I.type.here (wpAny_bind (hb.here ?_)))
  split
  · rename_i q
    have e : PySem.W.subIn K tb (.ref C) = some false := by
      rcases Bool.or_eq_true_iff.mp hn with e | e
      · rw [beq_iff_eq.mp e] at q; simp at q
      · exact beq_iff_eq.mp e
    refine wpAny_bind ((PySem.W.looks_subIn X e).here ?_)
    simp only [Bool.false_eq_true, if_false]
    refine wpAny_bind (wpAny_mono one (fun r s' z => ?_) fun _ _ e => e)
    obtain ⟨u, rfl, hq⟩ := z
    exact wpAny_pure hq
  · refine wpAny_bind (wpAny_pure ?_)
    simp only [Bool.false_eq_true, if_false]
    refine wpAny_bind (wpAny_mono one (fun r s' z => ?_) fun _ _ e => e)
    obtain ⟨u, rfl, hq⟩ := z
    exact wpAny_pure hq
end
/-! ### what is asked of an own class -/
def bTys : List String := ["int", "bool", "str", "tuple", "list", "NoneType"]
structure CF (K : PySem.W.Frag) (C : Addr) : Prop where
  cl : Cls K C
  sf : PySem.W.selfFirst K C = true
  ha : PySem.W.findIn K (.ref C) "__class__" = some (some (.builtin "object.__class__"))
  hn : PySem.W.specialIn K (.builtin "object.__class__") "__get__" = some (some (.builtin "getset_descriptor.__get__"))
  htk : PySem.W.takesIn K (.builtin "object.__class__") = some true
  mo : PySem.W.mroIn K C (.type "object") = some true
  ob : PySem.W.subIn K (.ref C) (.type "object") = some true
  ne : PySem.W.findIn K (.ref C) "__ne__" = some (some (.builtin "object.__ne__"))
  nf : ∀ T ∈ bTys, PySem.W.notFirst K C (.type T) = true
  ns : ∀ T ∈ bTys, PySem.W.subIn K (.ref C) (.type T) = some false
  ki : ∀ T ∈ bTys, PySem.W.kitOne K (.type T) (.ref C) = some false
  kb : ∀ T ∈ bTys, PySem.W.kitOne K (.ref C) (.type T) = some false
  kc : PySem.W.kitOne K (.ref C) (.ref C) = some true
  mm : ∃ o, K.lookup C = some o
def cfB (K : PySem.W.Frag) (C : Addr) : Bool := (true) && (PySem.W.plainGet K C Str.empty && (PySem.W.hasDictIn K C && (PySem.W.plainOver K C && (He.eqO (PySem.W.findIn K (.ref C) "__setattr__") (some (some (.builtin "object.__setattr__"))) && (PySem.W.selfFirst K C &&
  (He.eqO (PySem.W.findIn K (.ref C) "__class__") (some (some (.builtin "object.__class__"))) && (decide (PySem.W.specialIn K (.builtin "object.__class__") "__get__" = some (some (.builtin "getset_descriptor.__get__"))) && (decide (PySem.W.takesIn K (.builtin "object.__class__") = some true) &&
  (decide (PySem.W.mroIn K C (.type "object") = some true) && (decide (PySem.W.subIn K (.ref C) (.type "object") = some true) && (He.eqO (PySem.W.findIn K (.ref C) "__ne__") (some (some (.builtin "object.__ne__"))) && (bTys.all (fun T => PySem.W.notFirst K C (.type T)) &&
  (bTys.all (fun T => decide (PySem.W.subIn K (.ref C) (.type T) = some false)) && (bTys.all (fun T => decide (PySem.W.kitOne K (.type T) (.ref C) = some false)) && (bTys.all (fun T => decide (PySem.W.kitOne K (.ref C) (.type T) = some false)) && (decide (PySem.W.kitOne K (.ref C) (.ref C) = some true) && (K.lookup C).isSome))))))))))))))))
theorem cf_of {K : PySem.W.Frag} {C : Addr} (h : cfB K C = true) : CF K C := by
  unfold cfB at h
  simp only [Bool.and_eq_true, List.all_eq_true, decide_eq_true_eq] at h
  obtain ⟨_, h1, h2, h3, h4, h5, h6, h7, h8, h9, h10, h11, h12, h13, h14, h15, h16, h17⟩ := h
  exact ⟨⟨h1, h2, h3, He.eqO_ok h4⟩, h5, He.eqO_ok h6, h7, h8, h9, h10, He.eqO_ok h11, h12, h13, h14, h15, h16, Option.isSome_iff_exists.mp h17⟩
/-! ### types seen by isinstance -/
def HasT (K : PySem.W.Frag) (A : Ty) (t : Value) : Prop := ∀ v S H, Same S H → A.is v S → TyX K H v t
section
variable {K : PySem.W.Frag}
theorem has_I {i : Int} : HasT K (tI i) (.type "int") := fun v S H e h => by cases h; exact .base (.int _)
theorem has_B {i : Bool} : HasT K (tB i) (.type "bool") := fun v S H e h => by cases h; exact .base (.bl _)
theorem has_N : HasT K tN (.type "NoneType") := fun v S H e h => by cases h; exact .base .non
theorem has_S {z : Str} : HasT K (tS z) (.type "str") := fun v S H e h => by cases h; exact .base (.str _)
theorem has_O {C : Addr} {fs : List (Str × Ty)} (c : CF K C) : HasT K (tO C fs) (.ref C) := fun v S H e ⟨a, dx, gs, h1, h2, _⟩ => by subst h1; exact .base (.ins (e _ _ h2) c.cl c.ha c.hn c.htk c.mo)
theorem has_T {As : List Ty} : HasT K (tT K As) (.type "tuple") := fun v S H e ⟨a, xs, h1, h2, _⟩ => by
  subst h1
  rcases h2 with (h2 | ⟨o, h2⟩) | ⟨o, its, n, h3, h4, _⟩
  · exact .base (.tup (e _ _ h2))
  · exact .fTuple (e _ _ h2)
  · exact .kTuple h3 h4
theorem has_L {As : List Ty} : HasT K (tL K As) (.type "list") := fun v S H e ⟨a, xs, h1, h2, _⟩ => by
  subst h1
  rcases h2 with (h2 | ⟨o, h2⟩) | ⟨o, its, n, h3, h4, _⟩
  · exact .base (.lst (e _ _ h2))
  · exact .base (.frz (e _ _ h2))
  · exact .kList h3 h4
end
section
variable {ι : Type} {X : ι → Cx} {m : Option Addr} {P : Program} {w : World} {K : PySem.W.Frag} {mg : Str → Option Value} {base : Heap} {N : List Str} {k j : Nat} {Γ : List Sl} {A B R : Ty} {As Bs : List Ty} {e e1 e2 o : Expr} {es : List Expr} {pos : Pos} {b : Bool} {t u : Value} {rel : List Ty → Ty → Prop}
/-- isinstance(x, c) -/
theorem ca_isi (F : Fam X P w K mg base N k) {c : V} (h : HasT K A t) (hc : ClsV c u) (hk : PySem.W.kitOne K t u = some b) : CaT X m (.builtin "isinstance") [A, tV c] (tB b) := ⟨rIsi K, fun z => by
  have := call_isi (X := X z)
  rw [F.eK] at this
  exact this, ra_of fun xs S H e ha k q => by
  obtain ⟨x, y, rfl, hx, rfl⟩ := all2_2 ha
  exact ⟨x, _, t, u, b, rfl, hc, h x S H e hx, hk, q⟩⟩
/-- isinstance(x, (c, d)) -/
theorem eg_isiT (F : Fam X P w K mg base N k) {c d : V} {u1 u2 : Value} {p : Pos} {k1 : Nat} {pt : Pos} (h : HasT K A t) (hc : ClsV c u1) (hd : ClsV d u2) (hk : PySem.W.kitAny K t [u1, u2] = some b) (hm : mg "isinstance" = none) (he : EG X m e Γ A) (h1 : EG X m e1 Γ (tV c)) (h2 : EG X m e2 Γ (tV d))
    (hg : ∀ i, Gl (X i) "isinstance" := by intro i; rfl) (hs : ∀ i, starEach [e, .Tuple [e1, e2] k1 pt] (X i).env = (false, eval e (X i).env) :: starEach [.Tuple [e1, e2] k1 pt] (X i).env := by intro i; rfl)
    (hs2 : ∀ i, starEach [.Tuple [e1, e2] k1 pt] (X i).env = (false, eval (.Tuple [e1, e2] k1 pt) (X i).env) :: starEach [] (X i).env := by intro i; rfl) (hpl : ∀ i, (backTo pos (starEach [.Tuple [e1, e2] k1 pt] (X i).env)).any (·.1) = false := by intro i; rfl)
    (g1 : ∀ i, starEach [e1, e2] (X i).env = (false, eval e1 (X i).env) :: starEach [e2] (X i).env := by intro i; rfl) (g2 : ∀ i, starEach [e2] (X i).env = (false, eval e2 (X i).env) :: starEach [] (X i).env := by intro i; rfl) :
    EG X m (.Call (.Name "isinstance" p) [e, .Tuple [e1, e2] k1 pt] [] pos) Γ (tB b) := by
  obtain ⟨t0, a1, a2⟩ := he
  obtain ⟨t1, b1, b2⟩ := h1
  obtain ⟨t2, c1, c2⟩ := h2
  refine ⟨tCB (rIsiT K) (tCons t0 (tCons (tTup (tCons t1 (tCons t2 tNil))) tNil)), fun i => ?_, fun H0 σ S H I Q q => ?_⟩
  · have := call_isiT (X := X i)
    rw [F.eK] at this
    exact pe_callB this (hg i) (by rw [F.eg]; exact hm) (by decide +kernel) (pa_cons (a1 i) (pa_cons (pe_tup (pa_cons (b1 i) (pa_cons (c1 i) pa_nil (g2 i)) (g1 i))) pa_nil (hs2 i)) (hs i)) (by decide) (by decide) (hs i) (hpl i)
  · refine a2 H0 σ S H I _ fun v S1 H1 s1 p1 => b2 H0 σ S1 H1 (I.step s1) _ fun v2 S2 H2 s2 p2 => c2 H0 σ S2 H2 ((I.step s1).step s2) _ fun v3 S3 H3 s3 p3 => ⟨by show 2 ≤ sizeLine; decide, fun tp htp => ?_⟩
    cases p2
    cases p3
    have s := (s1.trans s2).trans s3
    have s4 := Step.new (m := m) (o := .tup [c, d]) s3.sub s3.st htp
    exact ⟨v, tp, [c, d], t, [u1, u2], b, rfl, upd_same, .cons hc (.cons hd .nil), h v _ _ s4.sub (A.mono _ _ _ ((s2.ss.trans s3.ss).trans s4.ss) p1), hk, q _ _ _ (s.trans s4) rfl⟩
/-! ### own == -/
theorem looks_of {Y : Cx} {pins : List (Addr × Obj)} {s : Shared} {σ : L2.St} {H : Hp} {x : V} {v : Value} (I : Inv Y pins σ H s) (r : RelV x v) (ty : TyX Y.K H x t) : PySem.W.Looks (model Y.prog Y.w) s.heap (typeOf v) t := by
  obtain ⟨P, Z, p, _⟩ := kit_of I r ty
  exact Z.ty _ _ I.kIn p
/-- own == anything -/
theorem eq_own (F : Fam X P w K mg base N k) {C : Addr} {fs : List (Str × Ty)} (T : MethT P w K mg base C "__eq__" j (FSp rel)) (ht : HasT K A t) (nf : PySem.W.notFirst K C t = true) (hR : rel [tO C fs, A] R) (hj : j ≤ k := by decide) : OpT X m (compareOp .Eq) (tO C fs) A R := by
  obtain ⟨f, fd, ps, G, M, h3⟩ := T
  refine ⟨fun x y H Q => ∃ a dx us, x = .ref a ∧ H a = some (.ins C dx us) ∧ TyX K H y t ∧ FSp rel [x, y] H Q E0, fun i => ?_, ?_⟩
  · intro pins s σ H x y v u Q I rx ry h
    obtain ⟨a, dx, us, rfl, ha, ty, h⟩ := h
    cases rx
    obtain ⟨od, J⟩ := inst_of I ha
    obtain ⟨_, hF⟩ := I.fr
    have hK := F.eK i
    refine PySem.W.cmp_K (K := (X i).K) (op := .Eq) ((F.room i).units0) hF I.ok.mod.kin J (looks_of I ry (by rw [hK]; exact ty)) (by rw [hK]; exact nf) (by rw [hK]; exact M.at_) (by rw [hK]; exact M.fn) ?_
    refine wpAny_mono (call_at (F.fnok i G) (by rw [hK]; exact h3) ⟨(F.room i).mono hj, rfl⟩ I (.cons (show L2.RelV (.ref a) (.ref a) from rfl) (.cons ry .nil)) h) (fun u s' q => ?_) fun _ _ z => z
    obtain ⟨v, H', I', r, q⟩ := id q
    exact cmpBack_of r ⟨v, H', I', r, q⟩
  · intro x y S H e st px py q hq
    obtain ⟨a, dx, us, rfl, ha, hf⟩ := id px
    exact ⟨a, dx, us, rfl, e _ _ ha, ht y S H e py, _, R, S, hR, e, .cons px (.cons py .nil), fun v S2 H2 s2 p2 => hq v S2 H2 (s2.lift st) p2⟩
/-- a built-in value == own -/
def DclT (K : PySem.W.Frag) (C : Addr) (A : Ty) : Prop := ∀ (P : Program) (w : World) (v : V) (S H : Hp), Same S H → A.is v S → ∀ (Ar : Around) (s : Shared) (u : Value) (a : Addr) (dx : Addr), HOk P w H s.heap → K.In s.heap → RelV v u → s.heap.get? a = some (PySem.W.instObj C dx) →
  ∃ T id, s.TypeIs u T ∧ PySem.W.subIn K (.ref C) (.type T) = some false ∧ Slot T (cmpInfo .Eq).2.1 id ∧ ∀ (E : Value → Shared → Prop) (Q' : Value → Shared → Prop), Q' .notImplemented s → wpAny (model P w) Ar (call (.builtin id) [u, .ref a]) Q' E s
theorem dt_I {C : Addr} {i : Int} (c : CF K C) : DclT K C (tI i) := fun P w v S H e h Ar s u a dx hok X r ha => by
  cases h
  obtain ⟨t, rfl⟩ := r
  exact ⟨"int", _, typeIs_int s i t, c.ns _ (by decide), F.slot_int_eq, fun E Q' q => dcl_int ha q⟩
theorem dt_S {C : Addr} {i : Str} (c : CF K C) : DclT K C (tS i) := fun P w v S H e h Ar s u a dx hok X r ha => by
  cases h
  obtain ⟨t, rfl⟩ := r
  exact ⟨"str", _, typeIs_str s i t, c.ns _ (by decide), F.slot_str_eq, fun E Q' q => dcl_str ha q⟩
theorem dt_N {C : Addr} (c : CF K C) : DclT K C tN := fun P w v S H e h Ar s u a dx hok X r ha => by
  cases h
  cases (show u = Value.none from r)
  exact ⟨"NoneType", _, rfl, c.ns _ (by decide), F.slot_NoneType_eq, fun E Q' q => dcl_none q⟩
theorem dt_T {C : Addr} (c : CF K C) : DclT K C (tT K As) := fun P w v S H e h Ar s u a dx hok X r ha => by
  obtain ⟨p, xs, rfl, h1, h2⟩ := h
  cases (show u = Value.ref p from r)
  have q : ∃ its : Array Value, IsTup s.heap p its := by
    rcases sqt_mono e h1 with hr | ⟨o, its, n, g1, g2, g3, g4, g5⟩
    · obtain ⟨_, its, _, h⟩ := hr.ok hok
      exact ⟨_, h⟩
    · exact ⟨its, o, X p o g1, g2, n, g3⟩
  obtain ⟨its, hp⟩ := q
  obtain ⟨ob, z1, z2, z3⟩ := id hp
  exact ⟨"tuple", _, ⟨ob, z1, z2⟩, c.ns _ (by decide), F.slot_tuple_eq, fun E Q' q => dcl_tuple hp X ha (c.ns _ (by decide)) q⟩
theorem dt_L {C : Addr} (c : CF K C) : DclT K C (tL K As) := fun P w v S H e h Ar s u a dx hok X r ha => by
  obtain ⟨p, xs, rfl, h1, h2⟩ := h
  cases (show u = Value.ref p from r)
  have q : ∃ ob, s.heap.get? p = some ob ∧ ob.cls = .type "list" := by
    rcases sql_mono e h1 with hr | ⟨o, its, n, g1, g2, g3, g4, g5⟩
    · obtain ⟨_, its, n, _, h⟩ := hr.ok hok
      exact ⟨_, h, rfl⟩
    · exact ⟨o, X p o g1, g2⟩
  obtain ⟨ob, z1, z2⟩ := q
  exact ⟨"list", _, ⟨ob, z1, z2⟩, c.ns _ (by decide), F.slot_list_eq, fun E Q' q => dcl_list z1 z2 X ha (c.ns _ (by decide)) q⟩
theorem eq_ownR (F : Fam X P w K mg base N k) {C : Addr} {fs : List (Str × Ty)} (T : MethT P w K mg base C "__eq__" j (FSp rel)) (hd : DclT K C A) (hR : rel [tO C fs, A] R) (hj : j ≤ k := by decide) : OpT X m (compareOp .Eq) A (tO C fs) R := by
  obtain ⟨f, fd, ps, G, M, h3⟩ := T
  refine ⟨fun x y H Q => ∃ a dx us S, Same S H ∧ A.is x S ∧ y = .ref a ∧ H a = some (.ins C dx us) ∧ FSp rel [y, x] H Q E0, fun i => ?_, ?_⟩
  · intro pins s σ H x y v u Q I rx ry h
    obtain ⟨a, dx, us, S, e, hx, rfl, ha, h⟩ := h
    cases (show u = Value.ref a from ry)
    obtain ⟨od, J⟩ := inst_of I ha
    have hK := F.eK i
    have hkin : K.In s.heap := by rw [← hK]; exact I.kIn
    obtain ⟨T, id_, ty, hno, sl, dc⟩ := hd (X i).prog (X i).w x S H e hx (X i).A s v a dx I.hok hkin rx J.at_
    refine rc_right (K := K) ((F.room i).units0) hkin J ty hno sl (fun Q' q => dc _ Q' q) M.at_ M.fn ?_
    refine wpAny_mono (call_at (F.fnok i G) (by rw [hK]; exact h3) ⟨(F.room i).mono hj, rfl⟩ I (.cons ry (.cons rx .nil)) h) (fun u s' q => ?_) fun _ _ z => z
    obtain ⟨v, H', I', r, q⟩ := id q
    exact cmpBack_of r ⟨v, H', I', r, q⟩
  · intro x y S H e st px py q hq
    obtain ⟨a, dx, us, rfl, ha, hf⟩ := id py
    exact ⟨a, dx, us, S, e, px, rfl, e _ _ ha, _, R, S, hR, e, .cons py (.cons px .nil), fun v S2 H2 s2 p2 => hq v S2 H2 (s2.lift st) p2⟩
/-- own != anything -/
theorem ne_own (F : Fam X P w K mg base N k) {C : Addr} {fs : List (Str × Ty)} (c : CF K C) (T : MethT P w K mg base C "__eq__" j (FSp rel)) (ht : HasT K A t) (nf : PySem.W.notFirst K C t = true) (hR : rel [tO C fs, A] (tB b)) (hj : j + 1 ≤ k := by decide) : OpT X m (compareOp .NotEq) (tO C fs) A (tB (!b)) := by
  obtain ⟨f, fd, ps, G, M, h3⟩ := T
  refine ⟨fun x y H Q => ∃ a dx us, x = .ref a ∧ H a = some (.ins C dx us) ∧ TyX K H y t ∧ FSp rel [x, y] H (fun v H' => ∃ r, v = .bl r ∧ Q (.bl (!r)) H') E0, fun i => ?_, ?_⟩
  · intro pins s σ H x y v u Q I rx ry h
    obtain ⟨a, dx, us, rfl, ha, ty, h⟩ := h
    cases (show v = Value.ref a from rx)
    obtain ⟨od, J⟩ := inst_of I ha
    have hK := F.eK i
    have hkin : K.In s.heap := by rw [← hK]; exact I.kIn
    refine rc_ne (K := K) ((F.room i).units) hkin J (looks_of I ry (by rw [hK]; exact ty)) nf c.ob c.ne M.at_ M.fn ?_
    refine wpAny_mono (call_at (F.fnok i G) (by rw [hK]; exact h3) ⟨((F.room i).mono hj).in1, rfl⟩ I (.cons (show L2.RelV (.ref a) (.ref a) from rfl) (.cons ry .nil)) h) (fun u s' q => ?_) fun _ _ z => z
    obtain ⟨v, H', I', r, r', rfl, q⟩ := id q
    exact ⟨r', r, .bl (!r'), H', I', rfl, q⟩
  · intro x y S H e st px py q hq
    obtain ⟨a, dx, us, rfl, ha, hf⟩ := id px
    exact ⟨a, dx, us, rfl, e _ _ ha, ht y S H e py, _, tB b, S, hR, e, .cons px (.cons py .nil), fun v S2 H2 s2 p2 => ⟨b, p2, hq _ S2 H2 (s2.lift st) rfl⟩⟩
end
end Rt

set_option Elab.async false
set_option linter.all false
set_option maxRecDepth 100000
set_option maxHeartbeats 4000000
/-! Rt8: drawn values, the law's own list, more about tuples. -/
namespace Rt
open PySem PySem.Spec PyProof.Rows L2
section
variable {ι : Type} {X : ι → Cx} {m : Option Addr} {P : Program} {w : World} {K : PySem.W.Frag} {mg : Str → Option Value} {base : Heap} {N : List Str} {k j : Nat} {Γ : List Sl} {A B R : Ty} {As Bs : List Ty} {e e1 e2 o : Expr} {es : List Expr} {pos : Pos} {sts rest : List Stmt} {nx bk ct : List Sl → Prop}
/-! ### values of a family -/
theorem opEx1 {α : Type} {C : α → Prop} {Q : α → Ty} {f : Value → Value → Sem Value} {T : α → Ty} (h : ∀ x, C x → OpT X m f (Q x) B (T x)) : OpT X m f (tEx C Q) B (tEx C T) :=
  ⟨fun x y H k => ∃ r : R2, (∀ i, OpR (X i) f r) ∧ r x y H k, fun i pins s σ H x y v u k I rx ry ⟨r, h1, h2⟩ => h1 i pins s σ H x y v u k I rx ry h2, fun x y S H e st ⟨z, c, px⟩ py k q => by
    obtain ⟨r, h1, h2⟩ := h z c
    exact ⟨r, h1, h2 x y S H e st px py k fun v S' H' s p => q v S' H' s ⟨z, c, p⟩⟩⟩
theorem opEx2 {α : Type} {C : α → Prop} {Q : α → Ty} {f : Value → Value → Sem Value} {T : α → Ty} (h : ∀ x, C x → OpT X m f A (Q x) (T x)) : OpT X m f A (tEx C Q) (tEx C T) :=
  ⟨fun x y H k => ∃ r : R2, (∀ i, OpR (X i) f r) ∧ r x y H k, fun i pins s σ H x y v u k I rx ry ⟨r, h1, h2⟩ => h1 i pins s σ H x y v u k I rx ry h2, fun x y S H e st px ⟨z, c, py⟩ k q => by
    obtain ⟨r, h1, h2⟩ := h z c
    exact ⟨r, h1, h2 x y S H e st px py k fun v S' H' s p => q v S' H' s ⟨z, c, p⟩⟩⟩
/-- whole numbers with a property -/
abbrev tIx (C : Int → Prop) : Ty := tEx C fun i => tI i
theorem tIx_le {C D : Int → Prop} (g : Int → Int) (h : ∀ i, C i → D (g i)) : (tEx C fun i => tI (g i)).le (tIx D) := fun v S ⟨x, c, e⟩ => ⟨g x, h x c, e⟩
theorem eg_subx {C : Int → Prop} {n : Int} (h : EG X m e1 Γ (tIx C)) (h2 : EG X m e2 Γ (tI n)) (D : Int → Prop) (hd : ∀ i, C i → D (i - n)) : EG X m (.BinOp e1 .Sub e2 pos) Γ (tIx D) := eg_le (eg_op (opEx1 fun _ _ => sub_II) h h2) (tIx_le (fun i => i - n) hd)
theorem eg_addx {C : Int → Prop} {n : Int} (h2 : EG X m e1 Γ (tI n)) (h : EG X m e2 Γ (tIx C)) (D : Int → Prop) (hd : ∀ i, C i → D (n + i)) : EG X m (.BinOp e1 .Add e2 pos) Γ (tIx D) := eg_le (eg_op (opEx2 fun _ _ => add_II) h2 h) (tIx_le (fun i => n + i) hd)
theorem eg_addxl {C : Int → Prop} {n : Int} (h : EG X m e1 Γ (tIx C)) (h2 : EG X m e2 Γ (tI n)) (D : Int → Prop) (hd : ∀ i, C i → D (i + n)) : EG X m (.BinOp e1 .Add e2 pos) Γ (tIx D) := eg_le (eg_op (opEx1 fun _ _ => add_II) h h2) (tIx_le (fun i => i + n) hd)
/-! ### the law's list -/
def cSt : Cell := ⟨fun _ o _ => ∃ s t : Int, o = .lst [.int s, .int t] ∧ 0 ≤ s ∧ 0 ≤ t, fun _ _ _ _ _ h => h, fun _ _ _ ⟨_, _, h, _⟩ => h ▸ rfl⟩
/-- from here on the new list is drawn from -/
theorem sg_state (F : Fam X P w K mg base N k) (j : Nat) {x : Str} {pos' : Pos} (he : EN X none e Γ cSt) (h : ∀ p, SG X (some p) rest ((Γ.map fun z => match z with | .ow _ => .un | z => z).set j (.sh (tV (.ref p)))) { rt := fun _ => R, nx := fun _ => False })
    (hN : N[j]? = some x := by rfl) (hx : ∀ i, Loc (X i).env.scope x := by intro i; first | exact Or.inl rfl | exact Or.inr rfl)
    (hs : ∀ i, swapsWith e (some (.Name x pos')) pos.line (X i).env = pure false := by intro i; rfl) (hf : ∀ i, (X i).fn x = true ∨ (X i).env.scope.names.lookup x = some .local := by intro i; first | exact .inl rfl | exact .inr rfl) :
    SG X none (.Assign [.Name x pos'] e pos :: rest) Γ ⟨fun _ => R, nx, bk, ct⟩ := by
  obtain ⟨t, h1, h2⟩ := he
  refine ⟨tSeq (tAsg t (gName j)) (bS X rest), fun i => pss_cons (ps_set (by rw [F.eN]; exact F.nd) (by rw [F.eN]; exact hN) (hx i) (h1 i) (hs i) (hf i)) (bS_ok X rest i), fun S0 H0 σ S H s I D r n bk ct => h2 H0 σ S H I _ fun p o S1 H1 hp s1 n1 q1 c1 => ?_⟩
  obtain ⟨u, v, rfl, hu, hv⟩ := c1
  have st : StOk (some p) S1 H1 := fun a ha => by
    injection ha with ha
    subst ha
    exact ⟨n1, u, v, q1, hu, hv⟩
  have h0p : H0 p = none := s.back hp
  have I1 := I.step s1
  have I2 : SE (some p) H0 Γ σ S1 H1 := by
    obtain ⟨A, a1, a2⟩ := I1.ok
    refine ⟨I1.sub, st, I1.len, A, fun i z hz => ?_, a2⟩
    have y := a1 i z hz
    cases z with
    | un => trivial
    | sh R => exact y
    | ow c =>
      obtain ⟨y1, y2, y3, y4, y5⟩ := y
      refine ⟨y1, y2, y3, fun w => ?_, y5⟩
      injection w with w
      exact I.ofresh hp i _ ⟨c, hz⟩ y1 w.symm
  have b : Step (some p) S1 H1 S1 H1 := .refl s1.sub st
  have I3 : SE (some p) H1 (Γ.map fun z => match z with | .ow _ => .un | z => z) σ S1 H1 := by
    refine ⟨I2.sub, st, by rw [List.length_map]; exact I2.len, fun _ => 0, fun i z hz => ?_, fun i j hi _ _ => ?_⟩
    · rw [List.getElem?_map] at hz
      cases q : Γ[i]? with
      | none => rw [q] at hz; cases hz
      | some y =>
        rw [q] at hz
        cases y with
        | un => obtain rfl := Option.some.inj hz; trivial
        | sh T => obtain rfl := Option.some.inj hz; exact I2.sh q
        | ow c => obtain rfl := Option.some.inj hz; trivial
    · obtain ⟨c, hc⟩ := hi
      rw [List.getElem?_map] at hc
      cases q : Γ[i]? with
      | none => rw [q] at hc; cases hc
      | some y => rw [q] at hc; cases y <;> cases hc
  have I4 := I3.setSh j (P := tV (.ref p)) (v := .ref p) rfl
  have conv : ∀ {S2 H2 : Hp}, Step (some p) S1 H1 S2 H2 → Step none S0 H0 S2 H2 := fun {S2 H2} s2 => ⟨fun a y ha hn => s2.hh a y (s1.hh a y (s.hh a y ha hn) hn) (fun z => by injection z with z; subst z; rw [h0p] at ha; cases ha), (s.ss.trans s1.ss).trans s2.ss, s2.sub,
    fun a y ha ho hn => by
      have q2 : S1 a = none := (s.trans s1).nw a y ha ho hn
      exact s2.nw a y ((s.trans s1).hh a y ha (fun z => nomatch z)) ho q2, fun a z => nomatch z⟩
  show bS X rest D (σ.set j (some (.ref p))) H1
  exact (h p).go S1 H1 _ S1 H1 b I4 D (fun v S2 H2 s2 ss p2 => r v S2 H2 (conv s2) (s1.ss.trans ss) p2) (fun _ _ _ _ z => z.elim) (fun _ _ _ _ z => z.elim) fun _ _ _ _ z => z.elim
/-- the items of a slice of a list of numbers -/
theorem cut_map {α : Type} (f : α → Ty) (l : List α) (lo hi : Option Int) : cutT (l.map f) lo hi = ((l.drop (HT.sIx l.length 0 lo)).take (HT.sIx l.length l.length hi - HT.sIx l.length 0 lo)).map f := by
  unfold cutT
  rw [List.length_map, ← List.map_drop, ← List.map_take]
/-- [elt for tg in iter] -/
theorem en_map (F : Fam X P w K mg base N k) {elt tg iter : Expr} {scope : Scope} {own : List (Str × Nat)} {α : Type} {l : List α} {f : α → Ty} {g : α → Ty} (ok : ∀ i, BlkOk (X i).N (X i).env.scope scope own) (it : ITt X m tg iter Γ (l.map f)) (hl : l.length < 100000)
    (turn : ∀ x ∈ l, ∃ js Δ, TGt (bX X scope) m tg (f x) js (wipeG Γ (own.map (·.2))) Δ ∧ (∀ i ∈ js, i ∈ own.map (·.2)) ∧ EG (bX X scope) m elt Δ (g x))
    (hs : ∀ i x, foldedSetIterable iter (X i).env x = pure x := by intro _ _; rfl) : EN X m (.ListComp elt [⟨tg, iter, [], 0⟩] scope pos) Γ (cL (l.map g)) := by
  have h := en_lc F (pr := fun _ => true) ⟨it, fun x hx => let ⟨js, Δ, h1, h2, h3⟩ := turn x hx; ⟨js, Δ, h1, h2, ei_nil, fun _ => h3⟩, hl⟩ ok hs (pos := pos)
  rw [List.filter_eq_self.mpr (fun _ _ => rfl)] at h
  exact h
theorem eg_map (F : Fam X P w K mg base N k) {elt tg iter : Expr} {scope : Scope} {own : List (Str × Nat)} {α : Type} {l : List α} {f : α → Ty} {g : α → Ty} (ok : ∀ i, BlkOk (X i).N (X i).env.scope scope own) (it : ITt X m tg iter Γ (l.map f)) (hl : l.length < 100000)
    (turn : ∀ x ∈ l, ∃ js Δ, TGt (bX X scope) m tg (f x) js (wipeG Γ (own.map (·.2))) Δ ∧ (∀ i ∈ js, i ∈ own.map (·.2)) ∧ EG (bX X scope) m elt Δ (g x))
    (hs : ∀ i x, foldedSetIterable iter (X i).env x = pure x := by intro _ _; rfl) : EG X m (.ListComp elt [⟨tg, iter, [], 0⟩] scope pos) Γ (tL K (l.map g)) := eg_frz (en_map F ok it hl turn hs)
/-- [elt for tg in iter if c] -/
theorem eg_filt (F : Fam X P w K mg base N k) {elt tg iter c : Expr} {scope : Scope} {own : List (Str × Nat)} {α : Type} {l : List α} {f : α → Ty} (pr : α → Bool) {g : α → Ty} (ok : ∀ i, BlkOk (X i).N (X i).env.scope scope own) (it : ITt X m tg iter Γ (l.map f)) (hl : l.length < 100000)
    (turn : ∀ x ∈ l, ∃ js Δ, TGt (bX X scope) m tg (f x) js (wipeG Γ (own.map (·.2))) Δ ∧ (∀ i ∈ js, i ∈ own.map (·.2)) ∧ ET (bX X scope) m c Δ (pr x) ∧ (pr x = true → EG (bX X scope) m elt Δ (g x)))
    (hs : ∀ i x, foldedSetIterable iter (X i).env x = pure x := by intro _ _; rfl) : EG X m (.ListComp elt [⟨tg, iter, [c], 0⟩] scope pos) Γ (tL K ((l.filter pr).map g)) :=
  eg_frz (en_lc F ⟨it, fun x hx => let ⟨js, Δ, h1, h2, h3, h4⟩ := turn x hx; ⟨js, Δ, h1, h2, ei_one h3, h4⟩, hl⟩ ok hs)
/-- _law_take: what is drawn below m -/
def relTake : List Ty → Ty → Prop := fun Ps r => ∃ n : Int, Ps = [tI n] ∧ 0 < n ∧ n < 1000000 ∧ r = tIx fun i => 0 ≤ i ∧ i < n
end
theorem sub_set {Γ Δ : List Sl} {P : Ty} (h : SubG Γ Δ) : ∀ i, SubG (Γ.set i (.sh P)) (Δ.set i (.sh P)) := by
  induction h with
  | nil => exact fun i => .nil
  | cons a b ih =>
    intro i
    cases i with
    | zero => exact .cons .same b
    | succ i => exact .cons a (ih i)
end Rt

set_option Elab.async false
set_option linter.all false
set_option maxRecDepth 100000
/-! Sz: sizes of whole numbers and of Ratios, in bits. -/
namespace Rt
open PySem PySem.Spec PyProof.Rows L2
def zb (x : Int) : Nat := Builtin.Int.intBits x
def lim : Nat := 134217728
theorem zb_zero : zb 0 = 0 := rfl
theorem zb_lt (x : Int) : x.natAbs < 2 ^ zb x := by
  unfold zb Builtin.Int.intBits
  split
  · rename_i h; have : x = 0 := by simpa using h
    subst this; decide
  · exact Nat.lt_log2_self
theorem zb_le {x : Int} {n : Nat} (h : x.natAbs < 2 ^ n) : zb x ≤ n := PyProof.Rows.intBits_le h
theorem zb_mono {x y : Int} (h : x.natAbs ≤ y.natAbs) : zb x ≤ zb y := zb_le (Nat.lt_of_le_of_lt h (zb_lt y))
theorem zb_mul (x y : Int) : zb (x * y) ≤ zb x + zb y := zb_le (by
  rw [Int.natAbs_mul, Nat.pow_add]
  exact Nat.mul_lt_mul'' (zb_lt x) (zb_lt y))
theorem zb_add (x y : Int) : zb (x + y) ≤ max (zb x) (zb y) + 1 := zb_le (by
  have h1 := zb_lt x
  have h2 := zb_lt y
  have h3 : 2 ^ zb x ≤ 2 ^ max (zb x) (zb y) := Nat.pow_le_pow_right (by decide) (Nat.le_max_left _ _)
  have h4 : 2 ^ zb y ≤ 2 ^ max (zb x) (zb y) := Nat.pow_le_pow_right (by decide) (Nat.le_max_right _ _)
  have h5 := Int.natAbs_add_le x y
  rw [Nat.pow_succ]
  omega)
theorem zb_neg (x : Int) : zb (-x) = zb x := Nat.le_antisymm (zb_mono (by simp)) (zb_mono (by simp))
theorem zb_sub (x y : Int) : zb (x - y) ≤ max (zb x) (zb y) + 1 := by
  have := zb_add x (-y)
  rw [zb_neg] at this
  exact this
theorem mul_ok {x y : Int} (h : zb x + zb y ≤ lim) : IntMulOk x y := by
  unfold IntMulOk
  intro z
  rw [Bool.and_eq_true] at z
  have z2 := z.2
  unfold Builtin.Int.intTooBig at z2
  have z3 := of_decide_eq_true z2
  rw [bitsLine_eq] at z3
  have h1 : zb x = Builtin.Int.intBits x := rfl
  have h2 : zb y = Builtin.Int.intBits y := rfl
  have h3 : lim = 134217728 := rfl
  omega
/-- the bits of a Ratio -/
def rb (q : Rat) : Nat := max (zb q.num) (zb q.den)
theorem rb_num (q : Rat) : zb q.num ≤ rb q := Nat.le_max_left _ _
theorem rb_den (q : Rat) : zb q.den ≤ rb q := Nat.le_max_right _ _
theorem divInt_num_le (a b : Int) (hb : b ≠ 0) : (Rat.divInt a b).num.natAbs ≤ a.natAbs := by
  rw [Rat.num_divInt]
  have h : (b.sign * a).natAbs = a.natAbs := by
    rw [Int.natAbs_mul, Int.natAbs_sign_of_ne_zero hb, Nat.one_mul]
  rw [← h, Int.natAbs_ediv_of_dvd]
  · exact Nat.div_le_self _ _
  · exact Int.dvd_mul_of_dvd_right (Int.gcd_dvd_right ..)
theorem divInt_den_le (a b : Int) (hb : b ≠ 0) : (Rat.divInt a b).den ≤ b.natAbs := by
  rw [Rat.den_divInt, if_neg hb]
  exact Nat.div_le_self _ _
theorem rb_divInt (a b : Int) (hb : b ≠ 0) : rb (Rat.divInt a b) ≤ max (zb a) (zb b) := by
  have h1 := zb_mono (divInt_num_le a b hb)
  have h2 := zb_mono (x := ((Rat.divInt a b).den : Int)) (y := b) (by have := divInt_den_le a b hb; omega)
  unfold rb
  omega
theorem den_ne (q : Rat) : (q.den : Int) ≠ 0 := by have := q.den_nz; omega
theorem den_pos (q : Rat) : (0 : Int) < q.den := by have := q.den_nz; omega
theorem rat_add (a b : Rat) : a + b = Rat.divInt (a.num * b.den + b.num * a.den) (a.den * b.den) := by
  have := Rat.divInt_add_divInt a.num b.num (den_ne a) (den_ne b)
  rw [Rat.num_divInt_den, Rat.num_divInt_den] at this
  exact this
theorem rat_sub (a b : Rat) : a - b = Rat.divInt (a.num * b.den - b.num * a.den) (a.den * b.den) := by
  have := Rat.divInt_sub_divInt a.num b.num (den_ne a) (den_ne b)
  rw [Rat.num_divInt_den, Rat.num_divInt_den] at this
  exact this
theorem rat_mul (a b : Rat) : a * b = Rat.divInt (a.num * b.num) (a.den * b.den) := by
  have := Rat.divInt_mul_divInt a.num b.num (d₁ := a.den) (d₂ := b.den)
  rw [Rat.num_divInt_den, Rat.num_divInt_den] at this
  exact this
theorem rat_neg (a : Rat) : -a = Rat.divInt (-a.num) a.den := by
  have := Rat.neg_divInt a.num a.den
  rw [Rat.num_divInt_den] at this
  exact this
theorem rat_lt (a b : Rat) : a < b ↔ a.num * b.den < b.num * a.den := Rat.lt_iff a b
theorem rb_add (a b : Rat) : rb (a + b) ≤ rb a + rb b + 1 := by
  rw [rat_add]
  refine Nat.le_trans (rb_divInt _ _ (Int.mul_ne_zero (den_ne a) (den_ne b))) ?_
  have := zb_add (a.num * b.den) (b.num * a.den)
  have := zb_mul a.num b.den
  have := zb_mul b.num a.den
  have := zb_mul a.den b.den
  have := rb_num a; have := rb_num b; have := rb_den a; have := rb_den b
  omega
theorem rb_sub (a b : Rat) : rb (a - b) ≤ rb a + rb b + 1 := by
  rw [rat_sub]
  refine Nat.le_trans (rb_divInt _ _ (Int.mul_ne_zero (den_ne a) (den_ne b))) ?_
  have := zb_sub (a.num * b.den) (b.num * a.den)
  have := zb_mul a.num b.den
  have := zb_mul b.num a.den
  have := zb_mul a.den b.den
  have := rb_num a; have := rb_num b; have := rb_den a; have := rb_den b
  omega
theorem rb_mul (a b : Rat) : rb (a * b) ≤ rb a + rb b := by
  rw [rat_mul]
  refine Nat.le_trans (rb_divInt _ _ (Int.mul_ne_zero (den_ne a) (den_ne b))) ?_
  have := zb_mul a.num b.num
  have := zb_mul a.den b.den
  have := rb_num a; have := rb_num b; have := rb_den a; have := rb_den b
  omega
theorem rb_neg (a : Rat) : rb (-a) = rb a := by
  unfold rb
  rw [show (-a).num = -a.num from rfl, show (-a).den = a.den from rfl, zb_neg]
/-- what Ratio's __init__ reckons -/
theorem init_num (n d : Int) (hd : d ≠ 0) : (if 0 < d then n / (Int.gcd n d : Int) else -n / (Int.gcd n d : Int)) = (Rat.divInt n d).num := by
  rw [Rat.num_divInt, Int.gcd_comm d n]
  split
  · rename_i h
    rw [Int.sign_eq_one_of_pos h, Int.one_mul]
  · rename_i h
    rw [Int.sign_eq_neg_one_of_neg (by omega), Int.neg_one_mul]
theorem init_den (n d : Int) (hd : d ≠ 0) : (d.natAbs : Int) / (Int.gcd n d : Int) = (Rat.divInt n d).den := by
  rw [Rat.den_divInt, if_neg hd, Int.gcd_comm d n]
  rfl
theorem gcd_pos' (n d : Int) (hd : d ≠ 0) : 0 < (Int.gcd n d : Int) := by
  have : 0 < Int.gcd n d := Int.gcd_pos_of_ne_zero_right _ hd
  omega
end Rt

set_option Elab.async false
set_option linter.all false
set_option maxRecDepth 100000
set_option maxHeartbeats 4000000
/-! Rt9: tuples of own instances compared; deep plain data compared; drawn arguments of a class. -/
namespace Rt
open PySem PySem.Spec PyProof.Rows L2
section
open PySem.SeqAt
open AutoSeq1 (wpAny_loadPart')
open MeetsSeq MeetsSeq2 MeetsSeq3 SeqRoads2
variable {prog : Program} {w : World} {A : Around} {R : Result → Shared → Prop}
/-- two tuples of one size, item by item: e says which are equal -/
theorem ne_items (l b : Addr) (us vs : Array Value) (n n2 : Nat) (dd dd2 : Option Addr) (sl sl2 : Array (Option Value)) (hz0 : us.size = vs.size) (e : Nat → Bool) (I : Shared → Prop)
    (each : ∀ i (h1 : i < us.size) (h2 : i < vs.size) s, I s → wpAny (model prog w) A.in1 (eqBool us[i] vs[i]) (fun r s' => r = e i ∧ I s') (fun x s' => R (.error x) s') s)
    (last : ∀ s, I s → R (.ok (.ret (.bool (!(List.range us.size).all e)))) s) {s : Shared} (hl1 : s.heap.get? l = some { cls := .type "tuple", dict := dd, data := .seq us n, slots := sl }) (hb1 : s.heap.get? b = some { cls := .type "tuple", dict := dd2, data := .seq vs n2, slots := sl2 }) (h0 : I s) :
    wpAny (model prog w) A.in1 (Builtin.«tuple.__ne__» ⟨[.ref l, .ref b], []⟩) (GQ.FinOf prog w A R) (fun x s' => R (.error x) s') s := by
  have f2 := AutoSeq1.sub_tuple_tuple
  have hZ : (us.toList.zip vs.toList).length = us.size := by simp [hz0]
  have h00 := h0
  obtain ⟨hp, g, d, tk, os⟩ := s
  wp_walk using wpAny_loadPart' hl1, wpAny_loadPart' hb1, wpAny_forIn_list _ (fun rest b s' => b.1 = none ∧ ∃ i, rest = (us.toList.zip vs.toList).drop i ∧ i ≤ us.size ∧ (∀ j, j < i → e j = true) ∧ I s') _
  case turn =>
    rintro ⟨y, x⟩ rest b s' ⟨hb', i, hz, hi, hj, hI⟩
    have hlt : i < (us.toList.zip vs.toList).length := by
      refine Nat.lt_of_not_le fun h' => ?_
      rw [List.drop_of_length_le h'] at hz; cases hz
    have h1 : i < us.size := hZ ▸ hlt
    have h2 : i < vs.size := hz0 ▸ h1
    rw [List.drop_eq_getElem_cons hlt] at hz
    injection hz with hyx hrest
    have hy : y = us[i] := by simpa using congrArg Prod.fst hyx
    have hx : x = vs[i] := by simpa using congrArg Prod.snd hyx
    subst hy hx
    refine wpAny_bind (wpAny_mono (each i h1 h2 s' hI) (fun r s2 q2 => ?_) fun _ _ x => x)
    obtain ⟨hr, q2⟩ := q2
    subst hr
    cases q : e i with
    | true =>
      wp_walk
      exact ⟨rfl, i + 1, hrest, h1, fun j hj' => by
        by_cases z : j = i
        · rw [z]; exact q
        · exact hj j (by omega), q2⟩
    | false =>
      have z : (!(List.range us.size).all e) = true := by
        rw [Bool.not_eq_true', List.all_eq_false]
        exact ⟨i, List.mem_range.mpr h1, by rw [q]; decide⟩
      have := last s2 q2
      rw [z] at this
      wp_walk
      exact this
  case fin =>
    rintro ⟨b1, b2⟩ s' ⟨hb', i, hz, hi, hj, hI⟩
    simp only at hb'
    subst hb'
    have hge : us.size ≤ i := by
      refine Nat.le_of_not_lt fun h' => ?_
      rw [List.drop_eq_getElem_cons (by rw [hZ]; exact h')] at hz; cases hz
    have z : (!(List.range us.size).all e) = false := by
      rw [Bool.not_eq_false', List.all_eq_true]
      exact fun j hj' => hj j (Nat.lt_of_lt_of_le (List.mem_range.mp hj') hge)
    have hR := last s' hI
    rw [z] at hR
    wp_walk
    simpa [Builtin.Tuple.tupleCompareSizes, hz0] using hR
  case h =>
    exact ⟨rfl, 0, rfl, Nat.zero_le _, fun _ z => absurd z (Nat.not_lt_zero _), h00⟩
theorem rc_neTup {E : Value → Shared → Prop} {s : Shared} {l b : Addr} {us vs : Array Value} {Q : Value → Shared → Prop} (hz0 : us.size = vs.size) (hu : A.units < cLine) (e : Nat → Bool) (I : Shared → Prop) (hl : s.heap.IsTuple l us) (hb : s.heap.IsTuple b vs)
    (each : ∀ i (h1 : i < us.size) (h2 : i < vs.size) s, I s → wpAny (model prog w) A.in1 (eqBool us[i] vs[i]) (fun r s' => r = e i ∧ I s') E s)
    (last : ∀ s, I s → Q (.bool (!(List.range us.size).all e)) s) (h : I s) : wpAny (model prog w) A (richCompare .NotEq (.ref l) (.ref b)) Q E s := by
  obtain ⟨⟨c1, d1, q1, s1⟩, ho, hc, n, hd⟩ := id hl
  obtain ⟨⟨c2, d2, q2, s2⟩, ho2, hc2, n2, hd2⟩ := id hb
  simp only at hc hd hc2 hd2
  subst hc hd hc2 hd2
  refine wpAny_richCompare_same_room (op := .NotEq) ⟨_, ho, rfl⟩ ⟨_, ho2, rfl⟩ F.slot_tuple_ne (GQ.call_here F.slot_tuple_ne ⟨_, ho, rfl⟩ F.entry_tuple_ne (F.args_tuple_ne_2 _ _) ?_) hu
  exact ne_items (R := wants (fun v s' => v ≠ .notImplemented ∧ Q v s') E) l b us vs n n2 _ _ _ _ hz0 e I each (fun s' q => ⟨(fun x => nomatch x), last s' q⟩) ho ho2 h
end
section
variable {ι : Type} {X : ι → Cx} {m : Option Addr} {P : Program} {w : World} {K : PySem.W.Frag} {mg : Str → Option Value} {base : Heap} {N : List Str} {k j : Nat} {Γ : List Sl} {A B R : Ty} {As Bs : List Ty} {e e1 e2 o : Expr} {es : List Expr} {pos : Pos} {rel : List Ty → Ty → Prop}
theorem vals_back {xs : List V} {us : List Value} {i : Nat} {u : Value} (r : Vals xs us) (h : us[i]? = some u) : ∃ x, xs[i]? = some x ∧ RelV x u := by
  have hi : i < xs.length := by rw [r.length]; exact (List.getElem?_eq_some_iff.mp h).1
  obtain ⟨v, hv, rv⟩ := r.get (List.getElem?_eq_getElem hi)
  rw [h] at hv
  exact ⟨_, List.getElem?_eq_getElem hi, Option.some.inj hv ▸ rv⟩
/-- x == y asked from within a built-in, the same object being equal to itself -/
def EqIn (X : ι → Cx) (m : Option Addr) (n : Nat) (A B : Ty) (b : Bool) : Prop := ∃ d : V → V → Hp → (Hp → Prop) → Prop,
  (∀ i Ar pins s σ H x y u v, ∀ Q : Hp → Prop, Sub (X i) n Ar → Inv (X i) pins σ H s → RelV x u → RelV y v → d x y H Q → wpAny (model (X i).prog (X i).w) Ar (eqBool u v) (fun r s' => r = b ∧ ∃ H', Inv (X i) pins σ H' s' ∧ Q H') (X i).xe s) ∧
  ∀ x y S H, Same S H → StOk m S H → A.is x S → B.is y S → ∀ Q : Hp → Prop, (∀ S' H', Step m S H S' H' → Q H') → d x y H Q
theorem eqIn_own (F : Fam X P w K mg base N k) {C : Addr} {fs gs : List (Str × Ty)} {b : Bool} (c : CF K C) (T : MethT P w K mg base C "__eq__" j (FSp rel)) (hR : rel [tO C fs, tO C gs] (tB b)) (one : ∀ x S, (tO C fs).is x S → (tO C gs).is x S → b = true) : EqIn X m j (tO C fs) (tO C gs) b := by
  obtain ⟨f, fd, ps, G, M, h3⟩ := T
  refine ⟨fun x y H Q => ∃ a b' dx dy us vs S, x = .ref a ∧ y = .ref b' ∧ Same S H ∧ (tO C fs).is x S ∧ (tO C gs).is y S ∧ H a = some (.ins C dx us) ∧ H b' = some (.ins C dy vs) ∧ Q H ∧ FSp rel [x, y] H (fun v H' => v = .bl b ∧ Q H') E0, fun i Ar pins s σ H x y u v Q sb I rx ry h => ?_, ?_⟩
  · obtain ⟨a, b', dx, dy, us, vs, S, rfl, rfl, e, px, py, ha, hb, q, h⟩ := h
    cases rx
    cases ry
    by_cases hab : a = b'
    · subst hab
      rw [one _ _ px py]
      exact SeqAt.EqAt.same (A := Ar) (s := s) (.ref a) _ _ _ _ ⟨rfl, H, I, q⟩
    · obtain ⟨od, J⟩ := inst_of I ha
      obtain ⟨od', J'⟩ := inst_of I hb
      obtain ⟨_, hF⟩ := I.fr
      have hK := F.eK i
      refine GQ.eqBool_refG hab ?_
      refine PySem.W.cmp_K (K := (X i).K) (op := .Eq) sb.room.units0 hF I.ok.mod.kin J J'.type (by simp [PySem.W.notFirst]) (by rw [hK]; exact M.at_) (by rw [hK]; exact M.fn) ?_
      refine wpAny_mono (call_at (F.fnok i G) (by rw [hK]; exact h3) sb I (.cons (show L2.RelV (.ref a) (.ref a) from rfl) (.cons (show L2.RelV (.ref b') (.ref b') from rfl) .nil)) h) (fun u s' z => ?_) fun _ _ z => z
      obtain ⟨v, H', I', r, rfl, q⟩ := z
      cases r
      exact ⟨b, rfl, rfl, H', I', q⟩
  · intro x y S H e st px py Q q
    obtain ⟨a, dx, us, rfl, ha, hf⟩ := id px
    obtain ⟨b', dy, vs, rfl, hb, hg⟩ := id py
    exact ⟨a, b', dx, dy, us, vs, S, rfl, rfl, e, px, py, e _ _ ha, e _ _ hb, q S H (.refl e st), _, tB b, S, hR, e, .cons px (.cons py .nil), fun v S2 H2 s2 p2 => ⟨p2, q S2 H2 (s2.lift st)⟩⟩
/-- (a, b) != (c, d) of own instances -/
theorem ne_tup (F : Fam X P w K mg base N k) {n : Nat} {bs : List Bool} (hl : As.length = Bs.length) (hl2 : bs.length = As.length) (h : ∀ (i : Nat) (A B : Ty) (b : Bool), As[i]? = some A → Bs[i]? = some B → bs[i]? = some b → EqIn X m n A B b) (hn : n + 1 ≤ k := by decide) : OpT X m (compareOp .NotEq) (tT K As) (tT K Bs) (tB (!bs.all id)) := by
  refine ⟨fun x y H Q => ∃ a b xs ys S, x = .ref a ∧ y = .ref b ∧ SqT K H a xs ∧ SqT K H b ys ∧ Same S H ∧ StOk m S H ∧ All2 S As xs ∧ All2 S Bs ys ∧ ∀ S' H', Step m S H S' H' → Q (.bl (!bs.all id)) H', fun i => ?_, fun x y S H e st ⟨a, xs, h1, h2, h3⟩ ⟨b, ys, g1, g2, g3⟩ q hq => ⟨a, b, xs, ys, S, h1, g1, sqt_mono e h2, sqt_mono e g2, e, st, h3, g3, fun S' H' s => hq _ S' H' s rfl⟩⟩
  intro pins s σ H x y v u Q I rx ry ⟨a, b, xs, ys, S, hx, hy, h1, h2, e, st, h3, h4, q⟩
  subst hx hy
  cases rx
  cases ry
  have hK := F.eK i
  obtain ⟨its, r, e1, z⟩ := I.tuple (by rw [hK]; exact h1)
  obtain ⟨its2, r2, e2, z2⟩ := I.tuple (by rw [hK]; exact h2)
  have l1 : its.length = As.length := by rw [← r.length, h3.length]
  have l2 : its2.length = As.length := by rw [← r2.length, h4.length, hl]
  have hall : (List.range its.toArray.size).all (fun i => bs.getD i false) = bs.all id := by
    rw [List.size_toArray, l1, ← hl2]
    exact all_range bs
  show wpAny (model (X i).prog (X i).w) (X i).A (richCompare .NotEq (.ref a) (.ref b)) (EP (X i) pins σ Q) (X i).xe s
  refine rc_neTup (us := its.toArray) (vs := its2.toArray) (by rw [List.size_toArray, List.size_toArray, l1, l2]) (F.room i).units0 (fun i => bs.getD i false) (fun s' => ∃ S' H', Inv (X i) pins σ H' s' ∧ Step m S H S' H') e1 e2 (fun j g1 g2 s' hI => ?_) (fun s' hI => ?_) ⟨S, H, I, .refl e st⟩
  · obtain ⟨S', H', I', sp⟩ := hI
    have k1 : j < its.length := by simpa using g1
    have k2 : j < its2.length := by simpa using g2
    obtain ⟨x, hx, rx⟩ := vals_back r (List.getElem?_eq_getElem k1)
    obtain ⟨y, hy, ry⟩ := vals_back r2 (List.getElem?_eq_getElem k2)
    obtain ⟨A, hA, px⟩ := h3.getV hx
    obtain ⟨B, hB, py⟩ := h4.getV hy
    have hb : bs[j]? = some bs[j] := List.getElem?_eq_getElem (by omega)
    obtain ⟨d, d1, d2⟩ := h j A B _ hA hB hb
    have hd := d2 x y S' H' sp.sub sp.st (A.mono _ _ _ sp.ss px) (B.mono _ _ _ sp.ss py) (fun H2 => ∃ S2, Step m S H S2 H2) fun S2 H2 s2 => ⟨S2, sp.trans s2⟩
    have w1 := d1 i (X i).A.in1 pins s' σ H' x y _ _ _ ⟨((F.room i).mono hn).in1, rfl⟩ I' rx ry hd
    refine wpAny_mono (by simpa using w1) (fun r s2 z => ?_) fun _ _ z => z
    obtain ⟨hr, H2, I2, S2, s2⟩ := z
    exact ⟨by rw [hr, List.getD_eq_getElem?_getD, hb]; rfl, S2, H2, I2, s2⟩
  · obtain ⟨S', H', I', sp⟩ := hI
    rw [hall]
    exact ⟨.bl _, H', I', rfl, q S' H' sp⟩
end
end Rt

set_option Elab.async false
set_option linter.all false
set_option maxRecDepth 100000
set_option maxHeartbeats 4000000
/-! Rt10: sorted of tuples of ints, from a list, a tuple or the keys of a dict. -/
namespace Rt
open PySem PySem.Spec PyProof.Rows L2
open PySem.W (KdlSrc kdl_extend kdl_hint_dict)
/-! ### gathering -/
section
variable {prog : Program} {w : World} {A : Around} {E : Value → Shared → Prop} {s : Shared}
/-- x gathered gives vs -/
def Col (prog : Program) (w : World) (A : Around) (s : Shared) (x : Value) (vs : List Value) : Prop :=
  ∀ (E : Value → Shared → Prop) (R : List Value → Shared → Prop), (∀ h' tk, (∀ b o, s.heap.get? b = some o → h'.get? b = some o) → s.heap.objs.size ≤ h'.objs.size → R vs { s with heap := h', toks := tk }) → wpAny (model prog w) A (collect x) R E s
theorem col_seq {T : String} (hT : T = "list" ∨ T = "tuple") {l : Addr} {o : Obj} {vs : List Value} {n : Nat} (ho : s.heap.get? l = some o) (hc : o.cls = .type T) (hd : o.data = .seq vs.toArray n) (hz : vs.length ≤ sizeLine) : Col prog w A s (.ref l) vs := by
  intro E R h
  unfold collect
  refine wpAny_bind (wpAny_runValue (codeAny_builtin PySem.F.entry_proto_collect ?_))
  show wpAny _ _ (do again (.builtin "list.__iadd__" ⟨[← newList [], .ref l], []⟩)) _ _ s
  refine wpAny_bind (wpAny_newList (wpAny_pure ⟨Code.quiet_builtin _ (by decide +kernel), codeAny_builtin PySem.F.entry_list_iadd ?_⟩))
  show wpAny _ _ (Builtin.List.listExtendWith (.ref s.heap.objs.size) (.ref l) (.ref s.heap.objs.size)) _ _ { s with heap := s.heap.push (seqObj "list" #[] 0) }
  unfold Builtin.List.listExtendWith
  have ho' : (s.heap.push (seqObj "list" #[] 0)).get? l = some o := Heap.get?_push_of_some _ ho
  refine wpAny_bind (wpAny_typeOf (T := T) ⟨o, ho', hc⟩ ?_)
  have ht : (Value.type T == Value.type "list" || Value.type T == Value.type "tuple") = true := by rcases hT with e | e <;> subst e <;> decide
  rw [if_pos (by rw [Bool.or_assoc, ht, Bool.or_true])]
  refine wpAny_bind (listItems_at ho' hd ?_)
  refine wpAny_bind (listItems_at (xs := #[]) (n := 0) (Heap.get?_push_size _ rfl) rfl ?_)
  rw [if_neg (by simp)]
  refine wpAny_bind (listUpdate_at (xs := #[]) (n := 0) (Heap.get?_push_size _ rfl) rfl ?_ (Nat.zero_le _) (by show (#[] ++ vs.toArray).size ≤ sizeLine + 1; simp only [Array.size_append, List.size_toArray, List.length_nil]; omega))
  refine wpAny_pure ?_
  show wpAny (model prog w) A (do
      let o ← load s.heap.objs.size
      match o.data with
      | .seq xs _ => pure xs.toList
      | _ => unsupported "internal:collect") R E { s with heap := (s.heap.push (seqObj "list" #[] 0)).update s.heap.objs.size (Obj.mapSeq (· ++ vs.toArray)) }
  refine wpAny_bind (wpAny_load (get?_update_seq (Heap.get?_push_size _ rfl) _) ?_)
  show wpAny _ _ (pure ((#[] : Array Value) ++ vs.toArray).toList) R E _
  rw [show ((#[] : Array Value) ++ vs.toArray).toList = vs by simp]
  refine wpAny_pure (h _ s.toks (fun b u hb => ?_) ?_)
  · rw [Heap.get?_update_ne _ _ _ _ (Nat.ne_of_lt (Heap.lt_size hb))]
    exact Heap.get?_push_of_some _ hb
  · rw [Heap.size_update, Heap.size_push]; exact Nat.le_succ _
theorem src_raw {d : Addr} {es : Array DictEntry} {ep : Nat} (lo : (d == sysModules) = false) : KdlSrc prog w "dict" d d es.size (fun i v => ∃ hi : i < es.size, v = es[i].key) (fun h => h.DictRaw d es ep) where
  type := fun _ hm => hm.typeIs
  there := fun _ hm => by obtain ⟨o, ho, _⟩ := hm; exact ⟨Heap.lt_size ho, Heap.lt_size ho⟩
  keep := fun _ _ hm hk => hm.at fun o e => hk d (.inl rfl) o e
  notList := by decide
  notTuple := by decide
  hint := fun _ _ _ _ hm hq => kdl_hint_dict hm.typeIs hq
  iter := fun _ s hh hm => ⟨_, _, (fun _ _ hq => wpAny_pyIter_dict_raw lo hm hq), Walks.rawKeys hh _ d (by obtain ⟨o, ho, _⟩ := hm; exact Nat.ne_of_lt (Heap.lt_size ho)) es ep, ⟨⟨_, Heap.get?_push_size _ rfl, rfl, rfl⟩, hm.at fun o e => Heap.get?_push_of_some _ e⟩⟩
theorem col_dict {d : Addr} {es : Array DictEntry} {ep : Nat} (lo : (d == sysModules) = false) (hh : A.handled = none) (hm : s.heap.DictRaw d es ep) (hn : es.size ≤ sizeLine) : Col prog w A s (.ref d) (es.toList.map (·.key)) := by
  intro E R h
  obtain ⟨od, hod, _⟩ := id hm
  have hd : d < s.heap.objs.size := Heap.lt_size hod
  unfold collect
  refine wpAny_bind (wpAny_runValue (codeAny_builtin PySem.F.entry_proto_collect ?_))
  rw [Around.under_plainId PySem.F.plain_proto_collect _]
  show wpAny _ A.in1 (newList [] >>= fun l => again (.builtin "list.__iadd__" ⟨[l, .ref d], []⟩)) _ _ s
  refine wpAny_bind (wpAny_newObj_type ?_)
  refine wpAny_pure ⟨plainId_quiet PySem.F.plain_list_iadd _, codeAny_builtin PySem.F.entry_list_iadd ?_⟩
  rw [Around.under_plainId PySem.F.plain_list_iadd _]
  have hS₁ : (s.heap.push { cls := .type "list", data := .seq ([] : List Value).toArray }).get? s.heap.objs.size = some { cls := .type "list", data := .seq #[] } := Heap.get?_push_size _ rfl
  show wpAny _ A.in1 (Builtin.List.listExtendWith (.ref s.heap.objs.size) (.ref d) (.ref s.heap.objs.size)) _ _ _
  have key := kdl_extend (prog := prog) (w := w) (A := A) (s := { s with heap := s.heap.push { cls := .type "list", data := .seq ([] : List Value).toArray } })
    (R := fun (q : Result) (s' : Shared) => ∃ (h' : Heap) (tk : Nat) (acc' : Array Value) (c' : Nat), q = .ok (.ret (.ref s.heap.objs.size)) ∧ s' = { s with heap := h', toks := tk } ∧
      (∀ b o, s.heap.get? b = some o → h'.get? b = some o) ∧ h'.get? s.heap.objs.size = some { cls := .type "list", dict := none, data := .seq acc' c', slots := #[] } ∧ acc'.toList = es.toList.map (·.key))
    (src_raw lo) hh (hm.at fun o e => Heap.get?_push_of_some _ e) s.heap.objs.size (Nat.ne_of_gt hd) (Nat.ne_of_gt hd) (.ref s.heap.objs.size) 0 hS₁
    (fun h' tk acc' c' hk hS' hacc => ⟨h', tk, acc', c', rfl, rfl, fun b o e => hk b o (Nat.ne_of_lt (Heap.lt_size e)) (Heap.get?_push_of_some _ e), hS', by
      apply List.ext_getElem
      · rw [Array.length_toList, hacc.1, List.length_map, Array.length_toList]
      · intro i h1 h2
        rw [Array.length_toList] at h1
        obtain ⟨hi, e⟩ := hacc.2 i _ (Array.getElem?_eq_getElem h1)
        rw [Array.getElem_toList, e, List.getElem_map, Array.getElem_toList]⟩) hn
  refine wpAny_mono key (fun fin s' x => ?_) fun e s' x => ?_
  · cases fin with
    | done f =>
      obtain ⟨h', tk, acc', c', e, rfl, hk, hS', hacc⟩ := x
      cases e
      show wpAny _ A (load s.heap.objs.size >>= _) _ _ _
      refine wpAny_bind (wpAny_load hS' ?_)
      refine wpAny_pure ?_
      show R acc'.toList _
      rw [hacc]
      exact h h' tk hk (Nat.le_of_lt (Heap.lt_size hS'))
    | again c₁ =>
      refine ⟨x.1, codeAny_mono x.2 fun q s₂ y => ?_⟩
      obtain ⟨h', tk, acc', c', rfl, rfl, hk, hS', hacc⟩ := y
      show wpAny _ A (load s.heap.objs.size >>= _) _ _ _
      refine wpAny_bind (wpAny_load hS' ?_)
      refine wpAny_pure ?_
      show R acc'.toList _
      rw [hacc]
      exact h h' tk hk (Nat.le_of_lt (Heap.lt_size hS'))
  · obtain ⟨_, _, _, _, e', _⟩ := x
    cases e'
open SrtO in
/-- sorted(x), x gathered to vs -/
theorem sorted_gen {x : Value} {vs : List Value} {ltv : Value → Value → Bool} {Q : Value → Shared → Prop} (O : Swo ltv) (hx : Col prog w A.in1 s x vs) (hz : vs.length ≤ sizeLine)
    (hS : 2 ≤ vs.length → ∀ (h1 : Heap) (tk : Nat) (a : Addr), h1.get? a = some (seqObj "list" vs.toArray 0) → (∀ b o, s.heap.get? b = some o → b ≠ a ∧ h1.get? b = some o) → SortableO prog w A.in1.in1 { s with heap := h1, toks := tk } a vs ltv)
    (h : ∀ (h' : Heap) (tk : Nat) (d : Addr) (out : List Value) (n : Nat), Srtd ltv out → Stb ltv out vs → (∀ b o, s.heap.get? b = some o → h'.get? b = some o) → s.heap.objs.size ≤ d → h'.get? d = some (seqObj "list" out.toArray n) → Q (.ref d) { s with heap := h', toks := tk }) :
    wpAny (model prog w) A (call (.builtin "sorted") [x]) Q E s := by
  refine Calls.call_function_entry kind_sorted plain_sorted entry_sorted (args_sorted1 _) ?_
  unfold Builtin.«sorted»
  refine wpAny_bind (m := checkCount "sorted" 1 1 _) (wpAny_pure ?_)
  refine wpAny_bind (hx _ _ fun h1 tk k1 z1 => ?_)
  refine wpAny_bind (wpAny_newList ?_ hz)
  have hoL : (h1.push (seqObj "list" vs.toArray 0)).get? h1.objs.size = some (seqObj "list" vs.toArray 0) := Heap.get?_push_size _ rfl
  have keep : ∀ b o, s.heap.get? b = some o → b ≠ h1.objs.size ∧ (h1.push (seqObj "list" vs.toArray 0)).get? b = some o := fun b o q =>
    ⟨Nat.ne_of_lt (Nat.lt_of_lt_of_le (Heap.lt_size q) z1), Heap.get?_push_of_some _ (k1 b o q)⟩
  show wpAny _ _ _ _ _ { s with heap := h1.push (seqObj "list" vs.toArray 0), toks := tk }
  refine wpAny_bind (wpAny_holding (wpAny_call_entry slot_list_sort ⟨_, hoL, rfl⟩ entry_list_sort (list_sort_ord O hoL hz (fun h2 => hS h2 _ tk _ hoL keep) fun out hs hb => ⟨_, rfl, ?_⟩) (args_list_sort _)))
  obtain ⟨n, hn⟩ := sortedHeap_at (out := out.toArray) hoL
  exact wpAny_pure ⟨_, rfl, h _ tk _ out n hs hb (fun b o q => by rw [sortedHeap_old (keep b o q).1 (Heap.lt_size (keep b o q).2)]; exact (keep b o q).2) z1 hn⟩
end
/-! ### tuples of ints in order -/
theorem lex_same (ns : List Int) : HT.lexLt ns ns = false := by
  induction ns with
  | nil => rfl
  | cons a r ih => rw [HT.lexLt_cons, if_pos rfl, ih]
theorem lex_asym : ∀ ns ms : List Int, HT.lexLt ns ms = true → HT.lexLt ms ns = false
  | [], [], h => by cases h
  | [], _ :: _, _ => rfl
  | _ :: _, [], h => by cases h
  | a :: ns, b :: ms, h => by
    rw [HT.lexLt_cons] at h ⊢
    by_cases e : a = b
    · rw [if_pos e] at h; rw [if_pos e.symm]; exact lex_asym ns ms h
    · rw [if_neg e] at h; rw [if_neg (fun z => e z.symm)]
      have := of_decide_eq_true h
      exact decide_eq_false (by omega)
theorem lex_tr : ∀ x y z : List Int, HT.lexLt y x = false → HT.lexLt z y = false → HT.lexLt z x = false
  | [], [], z, _, h => h
  | [], b :: y, [], _, h => by cases h
  | [], b :: y, c :: z, _, _ => rfl
  | a :: x, [], z, h, _ => by cases h
  | a :: x, b :: y, [], _, h => by cases h
  | a :: x, b :: y, c :: z, h1, h2 => by
    rw [HT.lexLt_cons] at h1 h2 ⊢
    by_cases e1 : b = a
    · subst e1
      rw [if_pos rfl] at h1
      by_cases e2 : c = b
      · rw [if_pos e2] at h2 ⊢; exact lex_tr x y z h1 h2
      · rw [if_neg e2] at h2 ⊢; exact h2
    · rw [if_neg e1] at h1
      have h1' := of_decide_eq_false h1
      by_cases e2 : c = b
      · subst e2
        rw [if_neg e1]; exact h1
      · rw [if_neg e2] at h2
        have h2' := of_decide_eq_false h2
        rw [if_neg (by omega)]
        exact decide_eq_false (by omega)
theorem lex_tri : ∀ x y : List Int, HT.lexLt x y = false → HT.lexLt y x = false → x = y
  | [], [], _, _ => rfl
  | [], _ :: _, h, _ => by cases h
  | _ :: _, [], _, h => by cases h
  | a :: x, b :: y, h1, h2 => by
    rw [HT.lexLt_cons] at h1 h2
    by_cases e : a = b
    · subst e
      rw [if_pos rfl] at h1 h2
      rw [lex_tri x y h1 h2]
    · rw [if_neg e] at h1
      rw [if_neg (fun z => e z.symm)] at h2
      have := of_decide_eq_false h1
      have := of_decide_eq_false h2
      exact absurd (show a = b by omega) e
theorem swo_lexL {α : Type} (k : α → List Int) : SrtO.Swo fun v u => HT.lexLt (k v) (k u) := ⟨fun x y h => lex_asym _ _ h, fun x y z h1 h2 => lex_tr _ _ _ h1 h2⟩
section
variable {prog : Program} {w : World} {A : Around} {E : Value → Shared → Prop} {s : Shared}
theorem lexL_kat {b : Bool} {Q : Bool → Shared → Prop} {xs ys : List Value} {ns ms : List Int} (i : Nat) (hx : IntsAre xs ns) (hy : IntsAre ys ms) (hl : ns.length = ms.length) (h : Q (HT.lexLt ns ms) s) : PySem.W.KatLex prog w A b false Q (xs.zip ys) i s := by
  induction hx generalizing ys ms i with
  | nil =>
    cases hy with
    | nil => exact PySem.W.kat_nil h
    | cons q u hy => simp at hl
  | @cons p t xs ns hx ih =>
    cases hy with
    | nil => simp at hl
    | @cons q u ys ms hy =>
      show PySem.W.KatLex prog w A b false Q ((Value.int p t, Value.int q u) :: xs.zip ys) i s
      rw [HT.lexLt_cons] at h
      refine PySem.W.kat_cons (wpAny_eqBool_int ?_)
      by_cases e : p = q
      · rw [if_pos e] at h
        rw [beq_iff_eq.mpr e]
        exact PySem.W.kat_yes (ih (i + 1) hy (by simpa using hl) h)
      · rw [if_neg e] at h
        rw [beq_eq_false_iff_ne.mpr e]
        exact PySem.W.kat_no (TS.oneLt_ints _ h)
theorem tups_sortable {a : Addr} {vs : List Value} {d : Nat} {k : Value → List Int} (h0 : 0 < vs.length) (hd : 1 ≤ d) (hp : ∀ v ∈ vs, TS.TupInts s.heap v (k v) ∧ (k v).length = d) (ha : ∀ o, s.heap.get? a = some o → o.cls ≠ .type "tuple") : SrtO.SortableO prog w A s a vs fun v u => HT.lexLt (k v) (k u) := by
  intro h' keep
  have hp' : ∀ v ∈ vs, TS.TupInts h' v (k v) ∧ (k v).length = d := fun v hm => ⟨(hp v hm).1.keeps fun b o e c => keep b o (fun z => by subst z; exact ha o e c) e, (hp v hm).2⟩
  have hf : ∀ vs : List Value, (∀ v ∈ vs, TS.TupInts h' v (k v) ∧ (k v).length = d) → ∃ fs, PySem.W.KatTups h' vs fs ∧ fs.length = vs.length ∧ ∀ f, f ∈ fs → ∃ n t, f = Value.int n t := by
    intro vs
    induction vs with
    | nil => exact fun _ => ⟨[], PySem.W.KatTups.nil, rfl, fun f hf => by simp at hf⟩
    | cons v vs ih =>
      intro x
      obtain ⟨fs, g, hl, hi⟩ := ih fun u hu => x u (List.mem_cons_of_mem _ hu)
      obtain ⟨⟨a, xs, rfl, ⟨o, ho, hc, n, hdt⟩, i⟩, hn⟩ := x v List.mem_cons_self
      cases q : xs.toList with
      | nil =>
        rw [q] at i
        have l := i.length
        rw [List.length_nil, hn] at l
        omega
      | cons y ys =>
        obtain ⟨m, t, hy⟩ := i.all y (by rw [q]; exact List.mem_cons_self)
        refine ⟨y :: fs, PySem.W.KatTups.cons ho hc hdt ?_ g, by simp [hl], fun f hf => ?_⟩
        · have z := congrArg (fun l : List Value => l[0]?) q
          simpa using z
        · rcases List.mem_cons.mp hf with rfl | hf
          · exact ⟨m, t, hy⟩
          · exact hi f hf
  obtain ⟨fs, h1, h2, h3⟩ := hf vs hp'
  refine ⟨tuples' true, fun Q E hq => ?_, fun p q hm hm' => ?_⟩
  · refine PySem.W.kat_kind (T := .type "int") h1 (by omega) (fun f hm => ?_) (by rfl) ?_
    · obtain ⟨x, t, rfl⟩ := h3 f hm
      exact PySem.W.Looks.now
    · have e : (Value.type "int" != Value.type "tuple") = true := by decide
      rw [e]
      exact hq
  · obtain ⟨⟨x, xs, e1, ⟨o, ho, hc, n, hdt⟩, i⟩, l1⟩ := hp' _ hm
    obtain ⟨⟨y, ys, e2, ⟨o', ho', hc', n', hdt'⟩, i'⟩, l2⟩ := hp' _ hm'
    show wpAny (model prog w) A (keyLt' (tuples' true) p.1 q.1) (fun r s' => s' = { s with heap := h' } ∧ r = HT.lexLt (k p.1) (k q.1)) (fun _ _ => False) { s with heap := h' }
    rw [e1] at i l1 ⊢
    rw [e2] at i' l2 ⊢
    refine PySem.W.kat_lt ho hdt ho' hdt' ?_
    have sz : decide (xs.size < ys.size) = false := by
      have l3 := i.length
      have l4 := i'.length
      rw [Array.length_toList] at l3 l4
      exact decide_eq_false (by omega)
    rw [sz]
    exact lexL_kat 0 i i' (by omega) ⟨rfl, rfl⟩
end
section
variable {X : Cx} {pins : List (Addr × Obj)} {σ : L2.St} {H : Hp} {s : Shared}
theorem sort_core (I : Inv X pins σ H s) {u : Value} {xs : List V} {its : List Value} (rv : Vals xs its) (hcol : Col X.prog X.w X.A.in1 s u its) (hz : its.length ≤ sizeLine) (ks : V → List Int) {d : Nat} (hd : 1 ≤ d) (hx : ∀ y ∈ xs, ∃ t, y = .ref t ∧ SqT X.K H t ((ks y).map V.int) ∧ (ks y).length = d) {Q : VK}
    (q : ∀ ys p, ys.Perm xs → ys.Pairwise (fun x y => HT.lexLt (ks y) (ks x) = false) → H p = none → Q (.ref p) (upd H p (.lst ys))) : wpAny (model X.prog X.w) X.A (call (.builtin "sorted") [u]) (EP X pins σ Q) X.xe s := by
  obtain ⟨e1, e2⟩ := refs_back rv fun x m => by
    obtain ⟨t, e, _⟩ := hx x m
    exact ⟨t, e⟩
  have hv : ∀ v ∈ its, TS.TupInts s.heap v (ks (backV v)) ∧ (ks (backV v)).length = d := fun v hm => by
    obtain ⟨t, rfl⟩ := e2 v hm
    obtain ⟨t', e, ht, hl⟩ := hx (.ref t) (by rw [e1]; exact List.mem_map.mpr ⟨_, hm, rfl⟩)
    cases e
    exact ⟨tupI_raw I ht, hl⟩
  refine sorted_gen (swo_lexL fun u => ks (backV u)) hcol hz (fun h2 h1 tk a ha kk => ?_) fun h' tk p out n hs hb kp hp hn => ?_
  · refine tups_sortable (s := { s with heap := h1, toks := tk }) (by omega) hd (fun v hm => ⟨(hv v hm).1.keeps fun b o e _ => (kk b o e).2, (hv v hm).2⟩) fun o e => ?_
    have e' : some o = some (seqObj "list" its.toArray 0) := e.symm.trans ha
    cases e'
    intro c
    exact absurd (Value.type.inj c) (by decide)
  · have h3 : ∀ u ∈ out, ∃ a, u = Value.ref a := fun u hu => e2 u (hb.perm.mem_iff.mp hu)
    have pm : (out.map backV).Perm xs := by rw [e1]; exact hb.perm.map backV
    refine ⟨.ref p, upd H p (.lst (out.map backV)), I.laid (t' := tk) kp hp ⟨?_, out, n, L2.vals_back h3, hn⟩, rfl, q _ p pm (List.pairwise_map.mpr hs) (I.hok.fresh hp)⟩
    rw [pm.length_eq, rv.length]
    exact hz
end
end Rt

set_option Elab.async false
set_option linter.all false
set_option maxRecDepth 100000
set_option maxHeartbeats 4000000
/-! Rt11: sorted, dicts whose keys are tuples of ints, plain data compared. -/
namespace Rt
open PySem PySem.Spec PyProof.Rows L2
/-! ### the sorted list -/
def lexLe (a b : List Int) : Bool := !HT.lexLt b a
def sortL (l : List (List Int)) : List (List Int) := l.mergeSort lexLe
theorem lexLe_trans (a b c : List Int) (h1 : lexLe a b = true) (h2 : lexLe b c = true) : lexLe a c = true := by
  unfold lexLe at *
  rw [Bool.not_eq_true'] at *
  exact lex_tr _ _ _ h1 h2
theorem lexLe_total (a b : List Int) : (lexLe a b || lexLe b a) = true := by
  unfold lexLe
  cases h : HT.lexLt b a with
  | false => rfl
  | true => rw [lex_asym _ _ h]; rfl
theorem sortL_perm (l : List (List Int)) : (sortL l).Perm l := List.mergeSort_perm l _
theorem sortL_sorted (l : List (List Int)) : (sortL l).Pairwise fun x y => lexLe x y = true := List.pairwise_mergeSort (fun a b c => lexLe_trans a b c) lexLe_total l
theorem sorted_uniq : ∀ {l m : List (List Int)}, l.Perm m → l.Pairwise (fun x y => lexLe x y = true) → m.Pairwise (fun x y => lexLe x y = true) → l = m := fun p h1 h2 =>
  List.Perm.eq_of_pairwise (le := fun x y => lexLe x y = true) (fun a b _ _ x y => lex_tri a b (by unfold lexLe at y; simpa using y) (by unfold lexLe at x; simpa using x)) h1 h2 p
theorem sortL_uniq {l m : List (List Int)} (p : m.Perm l) (s : m.Pairwise fun x y => HT.lexLt y x = false) : m = sortL l :=
  sorted_uniq (p.trans (sortL_perm l).symm) (s.imp fun {x y} h => by unfold lexLe; rw [h]; rfl) (sortL_sorted l)
theorem sortL_of_perm {l m : List (List Int)} (p : l.Perm m) : sortL l = sortL m :=
  sorted_uniq ((sortL_perm l).trans (p.trans (sortL_perm m).symm)) (sortL_sorted l) (sortL_sorted m)
/-! ### objects that are known to stand: tuples -/
open Classical in
noncomputable def addT (S H : Hp) (T : Addr → Prop) : Hp := fun a => if T a then H a else S a
theorem addT_yes {S H : Hp} {T : Addr → Prop} {a : Addr} (h : T a) : addT S H T a = H a := if_pos h
theorem addT_no {S H : Hp} {T : Addr → Prop} {a : Addr} (h : ¬ T a) : addT S H T a = S a := if_neg h
theorem Step.tups {m : Option Addr} {S H : Hp} (e : Same S H) (st : StOk m S H) (T : Addr → Prop) (h : ∀ a, T a → ∃ xs, H a = some (.tup xs)) : Step m S H (addT S H T) H := by
  refine ⟨fun _ _ h _ => h, fun a u hu => ?_, fun a u hu => ?_, fun a u hu hn hs => ?_, fun a ha => ?_⟩
  · by_cases t : T a
    · rw [addT_yes t]; exact e a u hu
    · rw [addT_no t]; exact hu
  · by_cases t : T a
    · rw [addT_yes t] at hu; exact hu
    · rw [addT_no t] at hu; exact e a u hu
  · have t : ¬ T a := fun t => by
      obtain ⟨xs, q⟩ := h a t
      rw [q] at hu
      cases hu
      cases hn
    rw [addT_no t]; exact hs
  · obtain ⟨r1, x, y, r2, r3⟩ := st a ha
    have t : ¬ T a := fun t => by
      obtain ⟨xs, q⟩ := h a t
      rw [q] at r2
      cases r2
    exact ⟨by rw [addT_no t]; exact r1, x, y, r2, r3⟩
/-! ### types -/
abbrev tTI (K : PySem.W.Frag) (ns : List Int) : Ty := tT K (ns.map tI)
def dKey (ns : List Int) : List Key := ns.map Sum.inl
def dD (kvs : List (List Int × Int)) : List (List Key × V) := kvs.map fun p => (dKey p.1, V.int p.2)
def tD (kvs : List (List Int × Int)) : Ty := ⟨fun v S => ∃ a, v = .ref a ∧ S a = some (.dT (dD kvs)), fun _ _ _ e ⟨a, h1, h2⟩ => ⟨a, h1, e _ _ h2⟩⟩
def cD (kvs : List (List Int × Int)) : Cell := ⟨fun _ o _ => o = .dT (dD kvs), fun _ _ _ _ _ h => h, fun _ _ _ h => by rw [h]; rfl⟩
/-- a tuple just made -/
def tU (Ps : List Ty) : Ty := ⟨fun v S => ∃ a xs, v = .ref a ∧ S a = some (.tup xs) ∧ All2 S Ps xs, fun _ _ _ e ⟨a, xs, h1, h2, h3⟩ => ⟨a, xs, h1, e _ _ h2, h3.mono e⟩⟩
def dGet (kvs : List (List Int × Int)) (k : List Int) : Option Int := (kvs.find? fun p => decide (p.1 = k)).map (·.2)
def dPut (kvs : List (List Int × Int)) (k : List Int) (v : Int) : List (List Int × Int) := if (kvs.any fun p => decide (p.1 = k)) = true then kvs.map (fun p => if p.1 = k then (p.1, v) else p) else kvs ++ [(k, v)]
theorem dKey_inj {a b : List Int} (h : dKey a = dKey b) : a = b := (List.map_inj_right (fun _ _ h => Sum.inl.inj h)).mp h
theorem dKey_kV (ns : List Int) : (dKey ns).map kV = ns.map V.int := by unfold dKey; rw [List.map_map]; rfl
theorem dD_get (k : List Int) : ∀ kvs, valV (dD kvs) (dKey k) = (dGet kvs k).map V.int
  | [] => rfl
  | p :: r => by
    have ih := dD_get k r
    by_cases e : p.1 = k
    · unfold dGet
      rw [List.find?_cons_of_pos (by simpa using e)]
      exact valV_pos (show dKey p.1 = dKey k by rw [e])
    · have : dGet (p :: r) k = dGet r k := by unfold dGet; rw [List.find?_cons_of_neg (by simpa using e)]
      rw [this, ← ih]
      exact valV_neg (fun z => e (dKey_inj z))
theorem dD_put (kvs : List (List Int × Int)) (k : List Int) (v : Int) : putK (dD kvs) (dKey k) (V.int v) = dD (dPut kvs k v) := by
  have ha : ((dD kvs).any fun kv => decide (kv.1 = dKey k)) = kvs.any fun p => decide (p.1 = k) := by
    unfold dD
    rw [List.any_map]
    congr 1
    funext p
    exact decide_eq_decide.mpr ⟨fun h => dKey_inj h, fun h => by show dKey p.1 = dKey k; rw [h]⟩
  unfold putK dPut
  rw [ha]
  by_cases h : (kvs.any fun p => decide (p.1 = k)) = true
  · rw [if_pos h, if_pos h]
    unfold dD
    rw [List.map_map, List.map_map]
    congr 1
    funext p
    show (if dKey p.1 = dKey k then (dKey p.1, V.int v) else (dKey p.1, V.int p.2)) = (dKey (if p.1 = k then (p.1, v) else p).1, V.int (if p.1 = k then (p.1, v) else p).2)
    by_cases e : p.1 = k
    · rw [if_pos e, if_pos (by rw [e])]
    · rw [if_neg e, if_neg (fun z => e (dKey_inj z))]
  · rw [if_neg h, if_neg h]
    unfold dD
    rw [List.map_append]; rfl
theorem dPut_len (kvs : List (List Int × Int)) (k : List Int) (v : Int) : (dPut kvs k v).length ≤ kvs.length + 1 := by
  unfold dPut
  split
  · rw [List.length_map]; omega
  · rw [List.length_append]; simp
section
variable {ι : Type} {X : ι → Cx} {m : Option Addr} {P : Program} {w : World} {K : PySem.W.Frag} {mg : Str → Option Value} {base : Heap} {N : List Str} {k j : Nat} {Γ : List Sl} {A B R : Ty} {As Bs : List Ty} {e e1 e2 o f : Expr} {es : List Expr} {pos : Pos} {O : Po}
theorem eg_tupU {x1} (h : EA X m es Γ As) (hl : As.length ≤ 100000 := by exact Nat.le_of_ble_eq_true rfl) : EG X m (.Tuple es x1 pos) Γ (tU As) := by
  obtain ⟨t, h1, h2⟩ := h
  refine ⟨_, fun i => pe_tup (h1 i), fun H0 σ S H I Q q => h2 H0 σ S H I _ fun vs S1 H1 s1 p1 => ⟨by rw [p1.length]; exact Nat.le_trans hl (by decide), fun p hp => ?_⟩⟩
  have s2 := Step.new (m := m) (o := .tup vs) s1.sub s1.st hp
  exact q _ _ _ (s1.trans s2) ⟨p, vs, rfl, upd_same, p1.mono s2.ss⟩
theorem tU_le (Ps : List Ty) : (tU Ps).le (tT K Ps) := fun v S ⟨a, xs, h1, h2, h3⟩ => ⟨a, xs, h1, .inl (.inl h2), h3⟩
theorem all2_I {S : Hp} {ns : List Int} {ys : List V} (h : All2 S (ns.map tI) ys) : ys = ns.map V.int := all2_ints h
/-! ### sorted -/
def rSrt (K : PySem.W.Frag) : List V → Hp → VK → Prop := fun vs H Q => ∃ (a : Addr) (xs : List V) (l : List (List Int)) (d : Nat), vs = [V.ref a] ∧ (SqL K H a xs ∨ SqT K H a xs) ∧ Paired (fun y ns => ∃ t, y = V.ref t ∧ SqT K H t (ns.map V.int) ∧ ns.length = d) xs l ∧ 1 ≤ d ∧
  ∀ (zs : List (V × List Int)) (p : Addr), zs.Perm (xs.zip l) → zs.Pairwise (fun x y => HT.lexLt y.2 x.2 = false) → H p = none → Q (.ref p) (upd H p (.lst (zs.map (·.1))))
open Classical in
noncomputable def kOf (K : PySem.W.Frag) (H : Hp) (y : V) : List Int := Classical.epsilon fun ns => ∃ t, y = V.ref t ∧ SqT K H t (ns.map V.int)
theorem kOf_eq {Y : Cx} {pins : List (Addr × Obj)} {σ : L2.St} {H : Hp} {s : Shared} (I : Inv Y pins σ H s) {t : Addr} {ns : List Int} (h : SqT Y.K H t (ns.map V.int)) : kOf Y.K H (.ref t) = ns := by
  obtain ⟨t', e, q⟩ := Classical.epsilon_spec (p := fun ns => ∃ t', V.ref t = V.ref t' ∧ SqT Y.K H t' (ns.map V.int)) ⟨ns, t, rfl, h⟩
  cases e
  exact (List.map_inj_right (fun a b h => by injection h)).mp (I.tuple_inj q h)
theorem zip_kOf {Y : Cx} {pins : List (Addr × Obj)} {σ : L2.St} {H : Hp} {s : Shared} (I : Inv Y pins σ H s) {d : Nat} : ∀ {xs : List V} {l : List (List Int)}, Paired (fun y ns => ∃ t, y = V.ref t ∧ SqT Y.K H t (ns.map V.int) ∧ ns.length = d) xs l → xs.zip l = xs.map fun y => (y, kOf Y.K H y)
  | _, _, .nil => rfl
  | _, _, .cons (a := y) (b := ns) ⟨t, e, h, _⟩ r => by
    subst e
    rw [List.zip_cons_cons, List.map_cons, zip_kOf I r, kOf_eq I h]
theorem cr_srt {Y : Cx} : CallR Y (.builtin "sorted") (rSrt Y.K) := by
  intro pins s σ H vs us Q I r h
  obtain ⟨a, xs, l, d, rfl, hs, hp, hd, q⟩ := h
  rw [Vals.ref1 r]
  have hx : ∀ y ∈ xs, ∃ t, y = V.ref t ∧ SqT Y.K H t ((kOf Y.K H y).map V.int) ∧ (kOf Y.K H y).length = d := fun y hy => by
    have : ∀ {xs : List V} {l : List (List Int)}, Paired (fun y ns => ∃ t, y = V.ref t ∧ SqT Y.K H t (ns.map V.int) ∧ ns.length = d) xs l → ∀ y ∈ xs, ∃ (ns : List Int) (t : Addr), y = V.ref t ∧ SqT Y.K H t (ns.map V.int) ∧ ns.length = d := fun p => by
      induction p with
      | nil => exact fun y hy => by simp at hy
      | cons h t ih =>
        intro y hy
        rcases List.mem_cons.mp hy with e | hy
        · subst e; exact ⟨_, h⟩
        · exact ih y hy
    obtain ⟨ns, t, e, h1, h2⟩ := this hp y hy
    subst e
    rw [kOf_eq I h1]
    exact ⟨t, rfl, h1, h2⟩
  have fin : ∀ ys p, ys.Perm xs → ys.Pairwise (fun x y => HT.lexLt (kOf Y.K H y) (kOf Y.K H x) = false) → H p = none → Q (.ref p) (upd H p (.lst ys)) := fun ys p h1 h2 h3 => by
    have := q (ys.map fun y => (y, kOf Y.K H y)) p (by rw [zip_kOf I hp]; exact h1.map _) (List.pairwise_map.mpr h2) h3
    rwa [List.map_map, show ((fun x : V × List Int => x.1) ∘ fun y => (y, kOf Y.K H y)) = id from rfl, List.map_id] at this
  rcases hs with hs | hs
  · obtain ⟨its, rv, ⟨o, n, ho, hc, _, hdt⟩, hz⟩ := I.list hs
    exact sort_core I rv (col_seq (.inl rfl) ho hc hdt (by rw [← rv.length]; exact hz)) (by rw [← rv.length]; exact hz) _ hd hx fin
  · obtain ⟨its, rv, ⟨o, ho, hc, n, hdt⟩, hz⟩ := I.tuple hs
    exact sort_core I rv (col_seq (.inr rfl) ho hc hdt (by rw [← rv.length]; exact hz)) (by rw [← rv.length]; exact hz) _ hd hx fin
theorem srt_fin {d : Nat} {l : List (List Int)} (hl : ∀ ns ∈ l, ns.length = d) : ∀ {S : Hp} {xs : List V}, All2 S (l.map fun ns => tTI K ns) xs → ∀ {H : Hp}, Same S H → Paired (fun y ns => ∃ t, y = V.ref t ∧ SqT K H t (ns.map V.int) ∧ ns.length = d) xs l := by
  induction l with
  | nil => intro S xs h H e; cases h; exact .nil
  | cons ns l ih =>
    intro S xs h H e
    cases h with
    | cons h t =>
      obtain ⟨a, ys, rfl, h1, h2⟩ := h
      rw [all2_I h2] at h1
      exact .cons ⟨a, rfl, sqt_mono e h1, hl _ List.mem_cons_self⟩ (ih (fun n hn => hl n (List.mem_cons_of_mem _ hn)) t e)
theorem srt_mem {S : Hp} {f : List Int → Ty} : ∀ {l : List (List Int)} {xs : List V}, All2 S (l.map f) xs → ∀ z ∈ xs.zip l, (f z.2).is z.1 S
  | [], _, _ => fun z hz => by simp at hz
  | ns :: l, _, .cons h t => fun z hz => by
    rw [List.zip_cons_cons] at hz
    rcases List.mem_cons.mp hz with e | hz
    · subst e; exact h
    · exact srt_mem t z hz
theorem all2_zs {S : Hp} {f : List Int → Ty} : ∀ {zs : List (V × List Int)}, (∀ z ∈ zs, (f z.2).is z.1 S) → All2 S ((zs.map (·.2)).map f) (zs.map (·.1))
  | [], _ => .nil
  | z :: zs, h => .cons (h z List.mem_cons_self) (all2_zs fun y hy => h y (List.mem_cons_of_mem _ hy))
theorem zip_snd {α β : Type} : ∀ {xs : List α} {l : List β}, xs.length = l.length → (xs.zip l).map (·.2) = l := fun h => List.map_snd_zip (by omega)
theorem ra_srt {T : Ty} {d : Nat} {l : List (List Int)} (hd : 1 ≤ d) (hl : ∀ ns ∈ l, ns.length = d) (hT : ∀ v S H, Same S H → T.is v S → ∃ a xs, v = .ref a ∧ (SqL K H a xs ∨ SqT K H a xs) ∧ All2 S (l.map fun ns => tTI K ns) xs) : RAT m (rSrt K) [T] (tL K ((sortL l).map fun ns => tTI K ns)) := by
  intro vs S H e st ha k q
  obtain ⟨v, rfl, hv⟩ := all2_1 ha
  obtain ⟨a, xs, rfl, hs, h2⟩ := hT v S H e hv
  refine ⟨a, xs, l, d, rfl, hs, srt_fin hl h2 e, hd, fun zs p h3 h4 h5 => ?_⟩
  have s2 := Step.new (m := m) (o := .lst (zs.map (·.1))) e st h5
  have hlen : xs.length = l.length := by rw [h2.length, List.length_map]
  have hz : zs.map (·.2) = sortL l := sortL_uniq (by rw [← zip_snd hlen]; exact h3.map _) (List.pairwise_map.mpr h4)
  refine q _ _ _ s2 ⟨p, _, rfl, SqL.of upd_same, ?_⟩
  rw [← hz]
  exact (all2_zs fun z hm => srt_mem h2 z (h3.mem_iff.mp hm)).mono s2.ss
theorem ca_srtL (F : Fam X P w K mg base N k) {d : Nat} {l : List (List Int)} (hd : 1 ≤ d) (hl : ∀ ns ∈ l, ns.length = d) : CaT X m (.builtin "sorted") [tL K (l.map fun ns => tTI K ns)] (tL K ((sortL l).map fun ns => tTI K ns)) :=
  ⟨rSrt K, fun i => by have := cr_srt (Y := X i); rw [F.eK] at this; exact this, ra_srt hd hl fun v S H e ⟨a, xs, h1, h2, h3⟩ => ⟨a, xs, h1, .inl (sql_mono e h2), h3⟩⟩
theorem ca_srtT (F : Fam X P w K mg base N k) {d : Nat} {l : List (List Int)} (hd : 1 ≤ d) (hl : ∀ ns ∈ l, ns.length = d) : CaT X m (.builtin "sorted") [tT K (l.map fun ns => tTI K ns)] (tL K ((sortL l).map fun ns => tTI K ns)) :=
  ⟨rSrt K, fun i => by have := cr_srt (Y := X i); rw [F.eK] at this; exact this, ra_srt hd hl fun v S H e ⟨a, xs, h1, h2, h3⟩ => ⟨a, xs, h1, .inr (sqt_mono e h2), h3⟩⟩
/-- sorted of a dict: its keys -/
def rSrtD : List V → Hp → VK → Prop := fun vs H Q => ∃ (a : Addr) (kvs : List (List Int × Int)) (d : Nat), vs = [V.ref a] ∧ H a = some (.dT (dD kvs)) ∧ (∀ p ∈ kvs, p.1.length = d) ∧ 1 ≤ d ∧
  ∀ (zs : List (V × List Int)) (p : Addr), (zs.map (·.2)).Perm (kvs.map (·.1)) → (∀ z ∈ zs, ∃ t, z.1 = V.ref t ∧ H t = some (.tup (z.2.map V.int))) → zs.Pairwise (fun x y => HT.lexLt y.2 x.2 = false) → H p = none → Q (.ref p) (upd H p (.lst (zs.map (·.1))))
theorem kt_refs {H : Hp} : ∀ {kvs : List (List Int × Int)} {xs : List (List Key × Addr × Value)}, KT H (dD kvs) xs → Paired (fun x (q : List Int × Int) => H x.2.1 = some (.tup (q.1.map V.int))) xs kvs
  | [], _, h => by cases h; exact .nil
  | p :: r, _, h => by
    cases h with
    | cons h t => exact .cons (by have := h.2.1; rw [dKey_kV] at this; exact this) (kt_refs t)
theorem cr_srtD {Y : Cx} (hc : Y.calm = true) : CallR Y (.builtin "sorted") rSrtD := by
  intro pins s σ H vs us Q I r h
  obtain ⟨a, kvs, d, rfl, ha, hl, hd, q⟩ := h
  rw [Vals.ref1 r]
  obtain ⟨z, lo, xs, rel, dd⟩ := dt_of I.hok ha
  obtain ⟨es, ep, raw, hsz, hes⟩ := dd.raw
  have pr := kt_refs rel
  have lx : xs.length = kvs.length := by
    have := pr.length
    exact this
  have zx : xs.length ≤ sizeLine := by rw [lx]; unfold dD at z; rw [List.length_map] at z; exact z
  have keys : es.toList.map (·.key) = xs.map fun x => Value.ref x.2.1 := by
    apply List.ext_getElem
    · rw [List.length_map, List.length_map, Array.length_toList, hsz]
    · intro i h1 h2
      rw [List.length_map, Array.length_toList] at h1
      obtain ⟨y, e1, e2, _⟩ := hes i h1
      rw [List.getElem_map, List.getElem_map, Array.getElem_toList, e2]
      have hi : i < xs.length := by omega
      rw [List.getElem?_eq_getElem hi] at e1
      rw [Option.some.inj e1]
  have col := col_dict (prog := Y.prog) (w := Y.w) (A := Y.A.in1) (s := s) lo (I.ok.hd hc) raw (by rw [hsz]; exact zx)
  rw [keys] at col
  have rv : Vals (xs.map fun x => V.ref x.2.1) (xs.map fun x => Value.ref x.2.1) := by
    clear keys col zx lx pr hes hsz dd rel
    induction xs with
    | nil => exact .nil
    | cons x r ih => exact .cons rfl ih
  have hx : ∀ {xs : List (List Key × Addr × Value)} {kvs : List (List Int × Int)}, Paired (fun x (q : List Int × Int) => H x.2.1 = some (.tup (q.1.map V.int))) xs kvs → (∀ p ∈ kvs, p.1.length = d) → ∀ y ∈ xs.map (fun x => V.ref x.2.1), ∃ t, y = V.ref t ∧ SqT Y.K H t ((kOf Y.K H y).map V.int) ∧ (kOf Y.K H y).length = d ∧ H t = some (.tup ((kOf Y.K H y).map V.int)) := by
    intro xs kvs p
    induction p with
    | nil => exact fun _ y hy => by simp at hy
    | @cons x q xs kvs h t ih =>
      intro hl y hy
      rw [List.map_cons] at hy
      rcases List.mem_cons.mp hy with e | hy
      · subst e
        have hs : SqT Y.K H x.2.1 (q.1.map V.int) := .inl (.inl h)
        rw [kOf_eq I hs]
        exact ⟨_, rfl, hs, hl _ List.mem_cons_self, h⟩
      · exact ih (fun p hp => hl p (List.mem_cons_of_mem _ hp)) y hy
  have hk : ∀ {xs : List (List Key × Addr × Value)} {kvs : List (List Int × Int)}, Paired (fun x (q : List Int × Int) => H x.2.1 = some (.tup (q.1.map V.int))) xs kvs → (xs.map fun x => V.ref x.2.1).map (kOf Y.K H) = kvs.map (·.1) := by
    intro xs kvs p
    induction p with
    | nil => rfl
    | @cons x q xs kvs h t ih =>
      rw [List.map_cons, List.map_cons, List.map_cons, ih, kOf_eq I (show SqT Y.K H x.2.1 (q.1.map V.int) from .inl (.inl h))]
  refine sort_core I rv col (by rw [List.length_map]; exact zx) (kOf Y.K H) hd (fun y hy => by obtain ⟨t, h1, h2, h3, _⟩ := hx pr hl y hy; exact ⟨t, h1, h2, h3⟩) fun ys p h1 h2 h3 => ?_
  have := q (ys.map fun y => (y, kOf Y.K H y)) p (by
    rw [List.map_map, ← hk pr]
    exact h1.map _) (fun z hz => by
    obtain ⟨y, hy, rfl⟩ := List.mem_map.mp hz
    obtain ⟨t, e1, _, _, e2⟩ := hx pr hl y (h1.mem_iff.mp hy)
    exact ⟨t, e1, e2⟩) (List.pairwise_map.mpr h2) h3
  rwa [List.map_map, show ((fun x : V × List Int => x.1) ∘ fun y => (y, kOf Y.K H y)) = id from rfl, List.map_id] at this
theorem ca_srtD (F : Fam X P w K mg base N k) {d : Nat} {kvs : List (List Int × Int)} (hd : 1 ≤ d) (hl : ∀ p ∈ kvs, p.1.length = d) : CaT X m (.builtin "sorted") [tD kvs] (tL K ((sortL (kvs.map (·.1))).map fun ns => tTI K ns)) := by
  refine ⟨rSrtD, fun i => cr_srtD (F.calm i), fun vs S H e st ha k q => ?_⟩
  obtain ⟨v, rfl, a, rfl, h1⟩ := all2_1 ha
  refine ⟨a, kvs, d, rfl, e _ _ h1, hl, hd, fun zs p h3 h4 h5 h6 => ?_⟩
  have s1 := Step.tups (m := m) e st (fun t => ∃ z ∈ zs, z.1 = V.ref t) fun t ⟨z, hz, ht⟩ => by
    obtain ⟨t', e1, e2⟩ := h4 z hz
    rw [e1] at ht
    cases ht
    exact ⟨_, e2⟩
  have s2 := Step.new (m := m) (o := .lst (zs.map (·.1))) s1.sub s1.st h6
  have hz : zs.map (·.2) = sortL (kvs.map (·.1)) := sortL_uniq h3 (List.pairwise_map.mpr h5)
  refine q _ _ _ (s1.trans s2) ⟨p, _, rfl, SqL.of upd_same, ?_⟩
  rw [← hz]
  refine (all2_zs fun z hm => ?_).mono s2.ss
  obtain ⟨t, e1, e2⟩ := h4 z hm
  refine ⟨t, z.2.map V.int, e1, .inl (.inl (by rw [addT_yes ⟨z, hm, e1⟩]; exact e2)), ?_⟩
  clear e1 e2 hm
  induction z.2 with
  | nil => exact .nil
  | cons n r ih => exact .cons rfl ih
end
end Rt

set_option Elab.async false
set_option linter.all false
set_option maxRecDepth 100000
set_option maxHeartbeats 4000000
/-! Rt12: lists that are known and not of the kit; dicts; plain data. -/
namespace Rt
open PySem PySem.Spec PyProof.Rows L2
/-- a list that stands in the heap as a list -/
def tLu (Ps : List Ty) : Ty := ⟨fun v S => ∃ a xs, v = .ref a ∧ S a = some (.lst xs) ∧ All2 S Ps xs, fun _ _ _ e ⟨a, xs, h1, h2, h3⟩ => ⟨a, xs, h1, e _ _ h2, h3.mono e⟩⟩
theorem tLu_le {K : PySem.W.Frag} (Ps : List Ty) : (tLu Ps).le (tL K Ps) := fun v S ⟨a, xs, h1, h2, h3⟩ => ⟨a, xs, h1, .inl (.inl h2), h3⟩
theorem cL_frU {As : List Ty} : ∀ (a : Addr) (o : HO) (S : Hp), S a = some o → (cL As).is a o S → (tLu As).is (.ref a) S := fun a o S h ⟨xs, e, q⟩ => ⟨a, xs, rfl, by rw [h, e], q⟩
theorem cD_fr {kvs : List (List Int × Int)} : ∀ (a : Addr) (o : HO) (S : Hp), S a = some o → (cD kvs).is a o S → (tD kvs).is (.ref a) S := fun a o S h e => ⟨a, rfl, by rw [h]; exact congrArg some e⟩
section
variable {ι : Type} {X : ι → Cx} {m : Option Addr} {P : Program} {w : World} {K : PySem.W.Frag} {mg : Str → Option Value} {base : Heap} {N : List Str} {k j : Nat} {Γ : List Sl} {A B R : Ty} {As Bs : List Ty} {e e1 e2 o f : Expr} {es : List Expr} {pos : Pos} {O : Po}
/-- a new cell that all may know -/
theorem eg_new {c : Cell} (h : EN X m e Γ c) (hf : ∀ a o S, S a = some o → c.is a o S → A.is (.ref a) S) : EG X m e Γ A := by
  obtain ⟨t, a1, a2⟩ := h
  refine ⟨t, a1, fun H0 σ S H E Q q => a2 H0 σ S H E _ fun p o S1 H1 hp s1 n1 h1 c1 => ?_⟩
  have ss : Same S1 (upd S1 p o) := fun b u hb => by rw [upd_ne (ne_of_none hb n1)]; exact hb
  refine q _ (upd S1 p o) H1 ⟨s1.hh, s1.ss.trans ss, fun b u hb => ?_, fun b u hb ho hn => ?_, fun b hb => ?_⟩ (hf p o _ upd_same (c.mono _ _ _ _ ss c1))
  · by_cases z : b = p
    · subst z; rw [upd_same] at hb; rw [h1]; exact hb
    · rw [upd_ne z] at hb; exact s1.sub b u hb
  · rw [upd_ne (ne_of_none hb hp)]; exact s1.nw b u hb ho hn
  · obtain ⟨r1, x, t, r2, r3⟩ := s1.st b hb
    exact ⟨by rw [upd_ne (fun z => E.mfresh hp (by rw [hb, z]))]; exact r1, x, t, r2, r3⟩
theorem eg_frzU (h : EN X m e Γ (cL As)) : EG X m e Γ (tLu As) := eg_new h cL_frU
theorem eg_lstU (h : EA X m es Γ As) (hl : As.length ≤ 100000 := by exact Nat.le_of_ble_eq_true rfl) : EG X m (.List es pos) Γ (tLu As) := eg_frzU (en_lst h hl)
/-- x + y of lists -/
theorem en_catU (ha : EG X m e1 Γ (tLu As)) (hb : EG X m e2 Γ (tLu Bs)) (hl : As.length + Bs.length ≤ 100000) : EN X m (.BinOp e1 .Add e2 pos) Γ (cL (As ++ Bs)) := by
  obtain ⟨ta, a1, a2⟩ := ha
  obtain ⟨tb, b1, b2⟩ := hb
  refine ⟨tOp rCat ta tb, fun i => pe_op op_cat (a1 i) (b1 i), fun H0 σ S H E Q q => a2 H0 σ S H E _ fun v S1 H1 s1 p1 => b2 H0 σ S1 H1 (E.step s1) _ fun u S2 H2 s2 p2 => ?_⟩
  obtain ⟨a, xs, rfl, h1, h2⟩ := p1
  obtain ⟨b, ys, rfl, g1, g2⟩ := p2
  have s := s1.trans s2
  exact ⟨a, b, xs, ys, rfl, rfl, s2.sub _ _ (s2.ss _ _ h1), s2.sub _ _ g1, by rw [h2.length, g2.length]; exact Nat.le_trans hl (by decide), fun p hp => q p _ S2 _ (s.back hp) (s.trans (Step.own s2.sub s2.st hp)) (s.back' hp) upd_same ⟨_, rfl, (h2.mono s2.ss).append g2⟩⟩
/-- x[::-1] of a list -/
theorem en_revL (F : Fam X P w K mg base N k) {kc : Nat} {p1 p2 p3 : Pos} (ha : EG X m e Γ (tL K As)) : EN X m (.Subscript e (.Slice none none (some (.UnaryOp .USub (.Constant (.int 1) kc p1) p2)) p3) pos) Γ (cL As.reverse) := by
  obtain ⟨ta, a1, a2⟩ := ha
  refine ⟨tRevL K ta, fun i => ?_, fun H0 σ S H I Q q => a2 H0 σ S H I _ fun v S1 H1 s1 p1 => ?_⟩
  · have := pe_revL (k := kc) (p1 := p1) (p2 := p2) (p3 := p3) (pos := pos) (a1 i)
    rw [F.eK] at this
    exact this
  · obtain ⟨a, xs, rfl, h1, h2⟩ := p1
    exact ⟨a, xs, rfl, sql_mono s1.sub h1, fun p hp => q p _ S1 _ (s1.back hp) (s1.trans (Step.own s1.sub s1.st hp)) (s1.back' hp) upd_same ⟨_, rfl, h2.reverse⟩⟩
/-! ### dicts -/
theorem en_dict0 : EN X m (.Dict [] [] pos) Γ (cD []) :=
  ⟨_, fun i => pe_dnewT, fun H0 σ S H I Q q p hp => q p _ S _ hp (Step.own I.sub I.st hp) ((Step.refl I.sub I.st).back' hp) upd_same rfl⟩
theorem units1 (F : Fam X P w K mg base N k) (i : ι) : (X i).A.units + 1 < cLine := by
  have := (F.room i).units
  omega
theorem keyH {S H : Hp} {a : Addr} {xs : List V} {ns : List Int} (e : Same S H) (h1 : S a = some (.tup xs)) (h2 : All2 S (ns.map tI) xs) : H a = some (.tup ((dKey ns).map kV)) := by
  rw [e _ _ h1, all2_I h2, dKey_kV]
/-- d.get(k, x), d being one's own -/
theorem eg_dgetO (F : Fam X P w K mg base N k) (j : Nat) {x : Str} {px apos cpos : Pos} {kvs : List (List Int × Int)} {ns : List Int} {d : Int} (he : EG X m e Γ (tU (ns.map tI))) (hf : EG X m f Γ (tI d)) (hG : Γ[j]? = some (.ow (cD kvs)) := by rfl)
    (hN : N[j]? = some x := by rfl) (hv : ∀ i, Vis (X i).env.scope x := by intro i; first | exact Or.inl rfl | exact Or.inr (Or.inl rfl) | exact Or.inr (Or.inr rfl)) (hd : (x == ("__debug__" : Str)) = false := by decide) (hcd : (x == ("__classdict__" : Str)) = false := by decide)
    (hm : ∀ i, M2 (X i) (.Name x px) "get" apos e f cpos := by intro i; exact ⟨rfl, rfl, rfl, rfl⟩) : EG X m (.Call (.Attribute (.Name x px) "get" apos) [e, f] [] cpos) Γ (tI ((dGet kvs ns).getD d)) := by
  obtain ⟨t, a1, a2⟩ := he
  obtain ⟨u, b1, b2⟩ := hf
  refine ⟨tDGet2 (tVar j) t u, fun i => pe_dget2 (units1 F i) (pe_var (pos := px) (by rw [F.eN]; exact hN) (hv i) hd hcd) (a1 i) (b1 i) (hm i), fun H0 σ S H I Q q => ?_⟩
  obtain ⟨a, ob, c1, c2, c3⟩ := I.ow hG
  have c3' : ob = .dT (dD kvs) := c3
  subst c3'
  refine ⟨.ref a, c1, a, rfl, .inr ⟨_, .inl c2⟩, a2 H0 σ S H I _ fun v S1 H1 s1 p1 => b2 H0 σ S1 H1 (I.step s1) _ fun z S2 H2 s2 p2 => ?_⟩
  obtain ⟨b, xs, rfl, h1, h2⟩ := p1
  have I2 := (I.step s1).step s2
  obtain ⟨a', ob', d1, d2, d3⟩ := I2.ow hG
  obtain rfl : a = a' := by rw [c1] at d1; injection d1 with d1; injection d1 with d1; injection d1
  have d3' : ob' = .dT (dD kvs) := d3
  subst d3'
  refine ⟨_, DGet.t d2 (keyH (s2.ss.trans s2.sub) h1 h2), ?_⟩
  rw [dD_get]
  refine q _ S2 H2 (s1.trans s2) ?_
  cases dGet kvs ns with
  | none => exact p2
  | some y => rfl
/-- d[k] = v, d being one's own -/
theorem sg1_dput (F : Fam X P w K mg base N k) (j : Nat) {x : Str} {px pos' : Pos} {kvs : List (List Int × Int)} {ns : List Int} {d : Int} (hv0 : EG X m f Γ (tI d)) (he : EG X m e Γ (tU (ns.map tI))) (hG : Γ[j]? = some (.ow (cD kvs))) (h : O.nx (Γ.set j (.ow (cD (dPut kvs ns d))))) (hl : kvs.length < 100000)
    (hN : N[j]? = some x := by rfl) (hv : ∀ i, Vis (X i).env.scope x := by intro i; first | exact Or.inl rfl | exact Or.inr (Or.inl rfl) | exact Or.inr (Or.inr rfl)) (hd : (x == ("__debug__" : Str)) = false := by decide) (hcd : (x == ("__classdict__" : Str)) = false := by decide)
    (hs : ∀ i, swapsWith f (some (.Subscript (.Name x px) e pos')) pos.line (X i).env = pure false := by intro i; rfl) : SG1 X m (.Assign [.Subscript (.Name x px) e pos'] f pos) Γ O := by
  obtain ⟨t, a1, a2⟩ := he
  obtain ⟨u, b1, b2⟩ := hv0
  refine ⟨sDPut (tVar j) t u, fun i => ps_dput (units1 F i) (pe_var (pos := px) (by rw [F.eN]; exact hN) (hv i) hd hcd) (a1 i) (b1 i) (hs i), fun S0 H0 σ S H s I D r n bk ct => b2 H0 σ S H I _ fun z S1 H1 s1 p1 => ?_⟩
  have I1 := I.step s1
  obtain ⟨a, ob, c1, c2, c3⟩ := I1.ow hG
  refine ⟨.ref a, c1, a2 H0 σ S1 H1 I1 _ fun v S2 H2 s2 p2 => ?_⟩
  have I2 := I1.step s2
  obtain ⟨a', ob', d1, d2, d3⟩ := I2.ow hG
  obtain rfl : a = a' := by rw [c1] at d1; injection d1 with d1; injection d1 with d1; injection d1
  have d3' : ob' = .dT (dD kvs) := d3
  subst d3'
  obtain ⟨b, xs, rfl, h1, h2⟩ := p2
  obtain rfl : z = .int d := p1
  refine ⟨a, _, rfl, DPut.t d2 (keyH s2.sub h1 h2) (by unfold dD; rw [List.length_map]; exact Nat.lt_of_lt_of_le hl (by decide)), ?_⟩
  rw [dD_put]
  exact n _ σ _ _ h (I2.change0 ((s.trans s1).trans s2) hG c1) (s1.ss.trans s2.ss) (I2.change hG c1 rfl)
/-- d[k] -/
theorem eg_dget (F : Fam X P w K mg base N k) {kvs : List (List Int × Int)} {ns : List Int} {v : Int} (ho : EG X m o Γ (tD kvs)) (he : EG X m e Γ (tU (ns.map tI))) (hv : dGet kvs ns = some v) (hs : NoSl e := by exact fun _ _ => rfl) : EG X m (.Subscript o e pos) Γ (tI v) := by
  obtain ⟨t, a1, a2⟩ := ho
  obtain ⟨u, b1, b2⟩ := he
  refine ⟨tDGet t u, fun i => pe_dget (units1 F i) (a1 i) (b1 i) hs, fun H0 σ S H I Q q => a2 H0 σ S H I _ fun x S1 H1 s1 p1 => b2 H0 σ S1 H1 (I.step s1) _ fun y S2 H2 s2 p2 => ?_⟩
  obtain ⟨a, rfl, h1⟩ := p1
  obtain ⟨b, xs, rfl, g1, g2⟩ := p2
  exact ⟨a, .int v, rfl, by
    have := DGet.t (s2.sub _ _ (s2.ss _ _ h1)) (keyH s2.sub g1 g2)
    rw [dD_get, hv] at this
    exact this, q _ S2 H2 (s1.trans s2) rfl⟩
/-! ### plain data -/
def DatT (K : PySem.W.Frag) (A : Ty) (d : PyData) : Prop := SeqAt.shaped d = true ∧ ∀ v S H, Same S H → A.is v S → Dp K H v d
theorem eq_dat (F : Fam X P w K mg base N k) {d d' : PyData} (h : DatT K A d) (h' : DatT K B d') : OpT X m (compareOp .Eq) A B (tB (PyData.eqv d d')) :=
  ⟨rEqD K, fun i => by have := op_eqD (X := X i) ((F.room i).units); rw [F.eK] at this; exact this, fun x y S H e st hx hy k q => ⟨d, d', h.2 x S H e hx, h'.2 y S H e hy, h.1, h'.1, q _ S H (.refl e st) rfl⟩⟩
def dI (ns : List Int) : PyData := .tuple (ns.map .int)
theorem dps_I {H : Hp} : ∀ {ns : List Int} {S : Hp} {xs : List V}, All2 S (ns.map tI) xs → DpAll K H xs (ns.map .int)
  | [], _, _, h => by cases h; exact .nil
  | n :: ns, _, _, h => by
    cases h with
    | cons h t =>
      cases (show _ = V.int n from h)
      exact .cons (.int n) (dps_I t)
theorem dps_TI {H : Hp} : ∀ {l : List (List Int)} {S : Hp} {xs : List V}, Same S H → All2 S (l.map fun ns => tTI K ns) xs → DpAll K H xs (l.map dI)
  | [], _, _, _, h => by cases h; exact .nil
  | n :: ns, _, _, e, h => by
    cases h with
    | cons h t =>
      obtain ⟨a, ys, rfl, h1, h2⟩ := h
      exact .cons (.tup (sqt_mono e h1) (dps_I h2)) (dps_TI e t)
theorem lay_I : ∀ ns : List Int, PyData.canLayAll0 (ns.map .int) = true
  | [] => rfl
  | n :: ns => lay_I ns
theorem lay_TI : ∀ l : List (List Int), PyData.canLayAll0 (l.map dI) = true
  | [] => rfl
  | n :: l => by
    show (PyData.canLay0 (dI n) && PyData.canLayAll0 (l.map dI)) = true
    rw [lay_TI l, Bool.and_true]
    exact lay_I n
theorem dep_I : ∀ ns : List Int, PyData.depthAll (ns.map .int) ≤ 1
  | [] => by decide
  | n :: ns => by
    have := dep_I ns
    show max (PyData.depth (.int n)) (PyData.depthAll (ns.map .int)) ≤ 1
    exact Nat.max_le.mpr ⟨by simp [PyData.depth], this⟩
theorem dep_TI : ∀ l : List (List Int), PyData.depthAll (l.map dI) ≤ 2
  | [] => by simp [PyData.depthAll]
  | n :: l => by
    have := dep_TI l
    have h2 := dep_I n
    show max (PyData.depth (dI n)) (PyData.depthAll (l.map dI)) ≤ 2
    refine Nat.max_le.mpr ⟨?_, this⟩
    show PyData.depthAll (n.map .int) + 1 ≤ 2
    omega
theorem dat_T (l : List (List Int)) : DatT K (tT K (l.map fun ns => tTI K ns)) (.tuple (l.map dI)) :=
  ⟨Bool.and_eq_true_iff.mpr ⟨lay_TI l, decide_eq_true (by have := dep_TI l; show PyData.depthAll (l.map dI) + 1 ≤ 64; omega)⟩, fun v S H e ⟨a, xs, h1, h2, h3⟩ => by subst h1; exact .tup (sqt_mono e h2) (dps_TI e h3)⟩
theorem dat_L (l : List (List Int)) : DatT K (tL K (l.map fun ns => tTI K ns)) (.list (l.map dI)) :=
  ⟨Bool.and_eq_true_iff.mpr ⟨lay_TI l, decide_eq_true (by have := dep_TI l; show PyData.depthAll (l.map dI) + 1 ≤ 64; omega)⟩, fun v S H e ⟨a, xs, h1, h2, h3⟩ => by subst h1; exact .lst (sql_mono e h2) (dps_TI e h3)⟩
theorem dat_1 (ns : List Int) : DatT K (tTI K ns) (dI ns) :=
  ⟨Bool.and_eq_true_iff.mpr ⟨lay_I ns, decide_eq_true (by have := dep_I ns; show PyData.depthAll (ns.map .int) + 1 ≤ 64; omega)⟩, fun v S H e ⟨a, xs, h1, h2, h3⟩ => by subst h1; exact .tup (sqt_mono e h2) (dps_I h3)⟩
theorem eqvI : ∀ ns ms : List Int, PyData.eqvAll (ns.map .int) (ms.map .int) = decide (ns = ms)
  | [], [] => by simp [PyData.eqvAll]
  | [], _ :: _ => by simp [PyData.eqvAll]
  | _ :: _, [] => by simp [PyData.eqvAll]
  | n :: ns, m :: ms => by
    rw [List.map_cons, List.map_cons, PyData.eqvAll, eqvI ns ms, PyData.eqv]
    rw [Bool.eq_iff_iff]
    simp
theorem eqvTI : ∀ l r : List (List Int), PyData.eqvAll (l.map dI) (r.map dI) = decide (l = r)
  | [], [] => by simp [PyData.eqvAll]
  | [], _ :: _ => by simp [PyData.eqvAll]
  | _ :: _, [] => by simp [PyData.eqvAll]
  | n :: l, m :: r => by
    rw [List.map_cons, List.map_cons, PyData.eqvAll, eqvTI l r]
    unfold dI
    rw [PyData.eqv, eqvI]
    rw [Bool.eq_iff_iff]
    simp
theorem eq_TT (F : Fam X P w K mg base N k) {l r : List (List Int)} : OpT X m (compareOp .Eq) (tT K (l.map fun ns => tTI K ns)) (tT K (r.map fun ns => tTI K ns)) (tB (decide (l = r))) := by
  have := eq_dat (m := m) F (dat_T (K := K) l) (dat_T (K := K) r)
  rwa [PyData.eqv, eqvTI] at this
theorem eq_LL (F : Fam X P w K mg base N k) {l r : List (List Int)} : OpT X m (compareOp .Eq) (tL K (l.map fun ns => tTI K ns)) (tL K (r.map fun ns => tTI K ns)) (tB (decide (l = r))) := by
  have := eq_dat (m := m) F (dat_L (K := K) l) (dat_L (K := K) r)
  rwa [PyData.eqv, eqvTI] at this
theorem eq_11 (F : Fam X P w K mg base N k) {l r : List Int} : OpT X m (compareOp .Eq) (tTI K l) (tTI K r) (tB (decide (l = r))) := by
  have := eq_dat (m := m) F (dat_1 (K := K) l) (dat_1 (K := K) r)
  unfold dI at this
  rwa [PyData.eqv, eqvI] at this
end
end Rt

set_option Elab.async false
set_option linter.all false
set_option maxRecDepth 100000
set_option maxHeartbeats 4000000
/-! Rt13: a class made from drawn values. -/
namespace Rt
open PySem PySem.Spec PyProof.Rows L2
section
variable {ι : Type} {X : ι → Cx} {m : Option Addr} {P : Program} {w : World} {K : PySem.W.Frag} {mg : Str → Option Value} {base : Heap} {N : List Str} {k j : Nat} {Γ : List Sl} {A B R : Ty} {As Bs : List Ty} {e e1 e2 o f : Expr} {es : List Expr} {pos : Pos} {O : Po}
/-- C(e, ..), whatever is drawn for e, .. -/
theorem eg_makeG (F : Fam X P w K mg base N k) {C : Addr} {x : Str} {p : Pos} {dvs : List V} {rl : List Ty → List (Str × Ty) → Prop} (T : MakT P w K mg base C j dvs (ISp C rl)) (hm : mg x = some (.ref C)) (ha : EA X m (e :: es) Γ As)
    (hR : ∀ S vs, All2 S As vs → ∃ Bs fs, All2 S Bs vs ∧ rl (Bs ++ dvs.map tV) fs ∧ (tO C fs).le R) (hj : j + 1 ≤ k := by decide) (hg : ∀ i, Gl (X i) x := by intro i; rfl)
    (hdb : (x == ("__debug__" : Str)) = false := by decide) (he : ∀ i, starEach (e :: es) (X i).env = (false, eval e (X i).env) :: starEach es (X i).env := by intro i; rfl)
    (hpl : ∀ i, (backTo pos (starEach es (X i).env)).any (·.1) = false := by intro i; rfl) : EG X m (.Call (.Name x p) (e :: es) [] pos) Γ R := by
  obtain ⟨f, fd, ps, ds, G, M, h3, h4⟩ := T
  obtain ⟨t, a1, a2⟩ := ha
  refine ⟨_, fun i => pe_make (by rw [F.eK]; exact M) (F.fnok i G) ((F.room i).mono hj) (hg i) (by rw [F.eg]; exact hm) (by rw [F.eK]; exact h3) h4 pass0 (a1 i) hdb (he i) (hpl i), fun H0 σ S H I Q q => a2 H0 σ S H I _ fun vs S1 H1 s1 p1 => fun z dz hz hdz hne => ?_⟩
  obtain ⟨Bs, fs, pB, hR, hle⟩ := hR S1 vs p1
  have hv : ∀ l : List V, All2 S1 (l.map tV) l := fun l => by
    induction l with
    | nil => exact .nil
    | cons a r ih => exact .cons rfl ih
  refine ⟨z, dz, vs ++ dvs, Bs ++ dvs.map tV, fs, S1, H1, rfl, hR, hz, hdz, hne, rfl, s1.sub, pB.append (hv dvs), fun S2 H2 gs s2 h1 h2 h3 => ⟨rfl, ?_⟩⟩
  have s2' := s2.lift s1.st
  have ss : Same S2 (upd S2 z (.ins C dz gs)) := fun b u hb => by rw [upd_ne (ne_of_none hb h1)]; exact hb
  have sb : Same (upd S2 z (.ins C dz gs)) H2 := fun b u hb => by
    by_cases y : b = z
    · subst y; rw [upd_same] at hb; rw [h2]; exact hb
    · rw [upd_ne y] at hb; exact s2'.sub b u hb
  have s3 : Step m S1 H1 (upd S2 z (.ins C dz gs)) H2 := ⟨s2'.hh, s2'.ss.trans ss, sb, fun b u hb ho hn => by rw [upd_ne (ne_of_none hb hz)]; exact s2'.nw b u hb ho hn, fun b hb => by
    obtain ⟨r1, x, t, r2, r3⟩ := s2'.st b hb
    obtain ⟨_, _, _, r4, _⟩ := s1.st b hb
    exact ⟨by rw [upd_ne (ne_of_none r4 hz)]; exact r1, x, t, r2, r3⟩⟩
  exact q _ _ H2 (s1.trans s3) (hle _ _ ⟨z, dz, gs, rfl, upd_same, h3.mono ss⟩)
/-- for each drawn x on its own -/
theorem tT_ex2 {α : Type} {C : α → Prop} {Q : α → Ty} : (tT K [A, tEx C Q]).le (tEx C fun x => tT K [A, Q x]) := fun v S ⟨a, xs, h1, h2, h3⟩ => by
  obtain ⟨x, y, rfl, p1, z, c, p2⟩ := all2_2 h3
  exact ⟨z, c, a, _, h1, h2, .cons p1 (.cons p2 .nil)⟩
theorem tEx_mono {α β : Type} {C : α → Prop} {D : β → Prop} {P : α → Ty} {Q : β → Ty} (h : ∀ x, C x → ∃ y, D y ∧ (P x).le (Q y)) : (tEx C P).le (tEx D Q) := fun v S ⟨x, c, p⟩ => let ⟨y, d, l⟩ := h x c; ⟨y, d, l v S p⟩
theorem tT_exex {α β : Type} {C : α → Prop} {D : β → Prop} {P : α → Ty} {Q : β → Ty} : (tT K [tEx C P, tEx D Q]).le (tEx (fun z : α × β => C z.1 ∧ D z.2) fun z => tT K [P z.1, Q z.2]) := fun v S ⟨a, xs, h1, h2, h3⟩ => by
  obtain ⟨x, y, rfl, ⟨z1, c1, p1⟩, z2, c2, p2⟩ := all2_2 h3
  exact ⟨(z1, z2), ⟨c1, c2⟩, a, _, h1, h2, .cons p1 (.cons p2 .nil)⟩
/-- tg = e, whatever is drawn for e -/
theorem sg1_asgE {α : Type} {C : α → Prop} {Q : α → Ty} {tg : Expr} (he : EG X m e Γ (tEx C Q)) (hg : ∀ x, C x → ∃ js Δ, TGt X m tg (Q x) js Γ Δ ∧ O.nx Δ) (hs : ∀ i, swapsWithSole [tg] e pos.line (X i).env = pure false := by intro i; rfl) (hw : ∀ i, swappedStores [tg] e (X i).env = pure none := by intro i; rfl)
    (h1 : ∀ i, (assignEach [tg] (X i).env).map (·.2) = [assign tg (X i).env] := by intro i; rfl) : SG1 X m (.Assign [tg] e pos) Γ O := by
  obtain ⟨t, a1, a2⟩ := he
  refine ⟨_, fun i => ps_asg (a1 i) (bG_ok (X := X) tg i) (hs i) (hw i) (h1 i), fun S0 H0 σ S H s I D r n bk ct => a2 H0 σ S H I _ fun v S1 H1 s1 ⟨x, c, p1⟩ => ?_⟩
  obtain ⟨js, Δ, ⟨g, g1, g2⟩, hn⟩ := hg x c
  exact ⟨g, g1, g2 H0 σ S1 H1 v (I.step s1) p1 _ fun σ' S2 H2 s2 E2 _ => n Δ σ' S2 H2 hn ((s.trans s1).trans s2) (s1.ss.trans s2.ss) E2⟩
end
end Rt

set_option Elab.async false
set_option linter.all false
set_option maxRecDepth 100000
set_option maxHeartbeats 4000000
/-! Rt14: tests whose outcome is drawn. -/
namespace Rt
open PySem PySem.Spec PyProof.Rows L2
def EvP (m : Option Addr) (tt : TT) (Γ : List Sl) (C : Bool → Prop) : Prop := ∀ H0 σ S H, SE m H0 Γ σ S H → ∀ Q : Bool → Hp → Prop, (∀ b S' H', C b → Step m S H S' H' → Q b H') → tt σ H Q
def ETP {ι : Type} (X : ι → Cx) (m : Option Addr) (e : Expr) (Γ : List Sl) (C : Bool → Prop) : Prop := ∃ t, (∀ i, PT (X i) e t) ∧ EvP m t Γ C
def EWP {ι : Type} (X : ι → Cx) (m : Option Addr) (e : Expr) (Γ : List Sl) (C : Bool → Prop) : Prop := ∃ t, (∀ i, PW (X i) e t) ∧ EvP m t Γ C
section
variable {ι : Type} {X : ι → Cx} {m : Option Addr} {P : Program} {w : World} {K : PySem.W.Frag} {mg : Str → Option Value} {base : Heap} {N : List Str} {k j : Nat} {Γ : List Sl} {A B R : Ty} {As Bs : List Ty} {e e1 e2 o f : Expr} {es : List Expr} {pos : Pos} {O : Po} {C C2 : Bool → Prop} {p q : List Stmt} {sts : List Stmt} {b : Bool}
theorem etp_cmp {op : CmpOp} {α : Type} {D : α → Prop} {g : α → Bool} (o : OpT X m (compareOp op) A B (tEx D fun x => tB (g x))) (ha : EG X m e1 Γ A) (hb : EG X m e2 Γ B) (hm : behindInMarks op e2 = false := by first | exact nomark _ | rfl) : ETP X m (.Compare e1 [op] [e2] pos) Γ fun b => ∃ x, D x ∧ g x = b := by
  obtain ⟨r, h1, h2⟩ := o
  obtain ⟨ta, a1, a2⟩ := ha
  obtain ⟨tb, b1, b2⟩ := hb
  exact ⟨_, fun i => pt_cmpR (h1 i) (a1 i) (b1 i) hm, fun H0 σ S H I Q q => ev_op h2 a2 b2 H0 σ S H I _ fun v S' H' s ⟨x, d, p⟩ => ⟨g x, p, q _ S' H' ⟨x, d, rfl⟩ s⟩⟩
theorem etp_of (h : ET X m e Γ b) : ETP X m e Γ fun c => c = b := by
  obtain ⟨t, h1, h2⟩ := h
  exact ⟨t, h1, fun H0 σ S H I Q q => h2 H0 σ S H I Q fun S' H' s => q b S' H' rfl s⟩
theorem etp_w (h : EWP X m e Γ C) : ETP X m e Γ C := by
  obtain ⟨t, h1, h2⟩ := h
  exact ⟨t, fun i => (h1 i).pt, h2⟩
theorem ewp_or1 (h : ETP X m e Γ C) : EWP X m (.BoolOp .Or [e] pos) Γ C := by
  obtain ⟨t, h1, h2⟩ := h
  exact ⟨_, fun i => pw_or1 (h1 i), h2⟩
def bW (X : ι → Cx) (e : Expr) : TT := fun σ H Q => ∃ u, (∀ i, PW (X i) e u) ∧ u σ H Q
theorem bW_ok (e : Expr) (i : ι) : PW (X i) e (bW X e) := ⟨fun whole pins s σ H Q I ⟨u, h, q⟩ => (h i).run whole pins s σ H Q I q⟩
theorem ewp_or {rest : List Expr} (h : ETP X m e Γ C) (h' : C false → EWP X m (.BoolOp .Or (e2 :: rest) pos) Γ C2) : EWP X m (.BoolOp .Or (e :: e2 :: rest) pos) Γ fun b => (b = true ∧ C true) ∨ (C false ∧ C2 b) := by
  obtain ⟨t, h1, h2⟩ := h
  refine ⟨_, fun i => pw_or (h1 i) (bW_ok (X := X) _ i), fun H0 σ S H I Q q => h2 H0 σ S H I _ fun b S' H' c s => ?_⟩
  cases b with
  | false =>
    obtain ⟨u, g1, g2⟩ := h' c
    show bW X _ σ H' Q
    exact ⟨u, g1, g2 H0 σ S' H' (I.step s) Q fun b2 S2 H2 c2 s2 => q b2 S2 H2 (.inr ⟨c, c2⟩) (s.trans s2)⟩
  | true =>
    show Q true H'
    exact q true S' H' (.inl ⟨rfl, c⟩) s
theorem sg1_ifP {c : Expr} (hc : ETP X m c Γ C) (h1 : C true → SG X m p Γ O) (h2 : C false → SG X m q Γ O) : SG1 X m (.If c p q pos) Γ O := by
  obtain ⟨t, c1, c2⟩ := hc
  refine ⟨tIfS t (bS X p) (bS X q), fun i => ps_if (c1 i) (bS_ok X p i) (bS_ok X q i), fun S0 H0 σ S H s I D r n bk ct => c2 H0 σ S H I _ fun b S1 H1 cb s1 => ?_⟩
  have s2 := s.trans s1
  have I2 := I.step s1
  have go : ∀ {w : List Stmt}, SG X m w Γ O → bS X w D σ H1 := fun g => g.go S0 H0 σ S1 H1 s2 I2 D (fun v S2 H2 s2 q2 => r v S2 H2 s2 (s1.ss.trans q2)) (fun Γ2 σ2 S2 H2 z s2 q2 => n Γ2 σ2 S2 H2 z s2 (s1.ss.trans q2))
    (fun Γ2 σ2 S2 H2 z s2 q2 => bk Γ2 σ2 S2 H2 z s2 (s1.ss.trans q2)) fun Γ2 σ2 S2 H2 z s2 q2 => ct Γ2 σ2 S2 H2 z s2 (s1.ss.trans q2)
  cases b with
  | true => exact go (h1 cb)
  | false => exact go (h2 cb)
theorem eg_ifP (hc : ETP X m e Γ C) (h1 : C true → EG X m e1 Γ A) (h2 : C false → EG X m e2 Γ A) : EG X m (.IfExp e e1 e2 pos) Γ A := by
  obtain ⟨t, c1, c2⟩ := hc
  refine ⟨_, fun i => pe_ifExp (c1 i) (bE_ok X e1 i) (bE_ok X e2 i), fun H0 σ S H I Q q => c2 H0 σ S H I _ fun b S1 H1 cb s1 => ?_⟩
  have go : ∀ {w : Expr}, EG X m w Γ A → bE X w σ H1 Q := fun g => g.ev H0 σ S1 H1 (I.step s1) Q fun v S2 H2 s2 p2 => q v S2 H2 (s1.trans s2) p2
  cases b with
  | true => exact go (h1 cb)
  | false => exact go (h2 cb)
/-- what was drawn into a cell of one's own is looked at -/
theorem sg_exO {α : Type} {D : α → Prop} {c : Cell} {d : α → Cell} (i : Nat) (hi : Γ[i]? = some (.ow c)) (hf : ∀ a o S, c.is a o S → ∃ x, D x ∧ (d x).is a o S) (h : ∀ x, D x → SG X m sts (Γ.set i (.ow (d x))) O) : SG X m sts Γ O := by
  refine sg_go fun S0 H0 σ S H s I D' r n bk ct => ?_
  obtain ⟨a, ob, c1, c2, c3⟩ := I.ow hi
  obtain ⟨x, hx, hd⟩ := hf a ob S c3
  have e := I.change (o' := ob) hi c1 hd
  have eH : upd H a ob = H := by
    funext b
    by_cases z : b = a
    · subst z; rw [upd_same, c2]
    · rw [upd_ne z]
  rw [eH] at e
  exact (h x hx).go S0 H0 σ S H s e D' r n bk ct
/-- the last item was drawn -/
theorem cL_last {α : Type} {D : α → Prop} {Q : α → Ty} : ∀ (a : Addr) (o : HO) (S : Hp), (cL (As ++ [tEx D Q])).is a o S → ∃ x, D x ∧ (cL (As ++ [Q x])).is a o S := fun a o S ⟨xs, e, h⟩ => by
  have : ∀ {As : List Ty} {xs : List V}, All2 S (As ++ [tEx D Q]) xs → ∃ x, D x ∧ All2 S (As ++ [Q x]) xs := by
    intro As
    induction As with
    | nil =>
      intro xs h
      obtain ⟨v, rfl, x, d, p⟩ := all2_1 h
      exact ⟨x, d, .cons p .nil⟩
    | cons A As ih =>
      intro xs h
      cases h with
      | cons h t =>
        obtain ⟨x, d, p⟩ := ih t
        exact ⟨x, d, .cons h p⟩
  obtain ⟨x, d, p⟩ := this h
  exact ⟨x, d, xs, e, p⟩
theorem tT_ex3 {α : Type} {D : α → Prop} {Q : α → Ty} : (tT K [A, B, tEx D Q]).le (tEx D fun x => tT K [A, B, Q x]) := fun v S ⟨a, xs, h1, h2, h3⟩ => by
  cases h3 with
  | cons p1 t => cases t with
    | cons p2 t => cases t with
      | cons p3 t =>
        cases t
        obtain ⟨x, d, p⟩ := p3
        exact ⟨x, d, a, _, h1, h2, .cons p1 (.cons p2 (.cons p .nil))⟩
end
end Rt

set_option Elab.async false
set_option linter.all false
set_option maxRecDepth 100000
set_option maxHeartbeats 4000000
/-! Rt15: from the head's facts to promises; the end with a base that no one watches. -/
namespace Rt
open PySem PySem.Spec PyProof.Rows L2
section
variable {P : Program} {w : World} {K : PySem.W.Frag} {mg : Str → Option Value} {base : Heap} {x q : Str} {params : Arguments} {body : List Stmt} {scope : Scope} {fd : FuncData} {f C : Addr} {j : Nat} {ps : List Str} {sp : Sp} {dv : V}
theorem fnt (hm : mg x = some (.ref f)) (D : FunD K x q params body scope [] [] f fd) (ok : FnOk P w K mg base CX0 j f fd ps sp) (hb : ∀ (kV doc pm : Value) (an : Option Addr) (cdv ct : Value) (us : List Value), us.length = ps.length → bindArgs (PySem.W.fnOf x q params body scope .none kV doc pm an cdv ct) ⟨us, []⟩ = pure (ps.zip us)) : FnT P w K mg base x j sp :=
  ⟨f, fd, ps, ok, hm, D.kp, D.bindsN hb⟩
theorem metht (M : Meth K C x f) (D : FunD K x q params body scope [] [] f fd) (ok : FnOk P w K mg base CX0 j f fd ps sp) (hb : ∀ (kV doc pm : Value) (an : Option Addr) (cdv ct : Value) (us : List Value), us.length = ps.length → bindArgs (PySem.W.fnOf x q params body scope .none kV doc pm an cdv ct) ⟨us, []⟩ = pure (ps.zip us)) : MethT P w K mg base C x j sp :=
  ⟨f, fd, ps, ok, M, D.bindsN hb⟩
theorem makt (M : Mk K C f) (D : FunD K x q params body scope [] [] f fd) (ok : FnOk P w K mg base CX0 j f fd ps sp) (hb : ∀ (kV doc pm : Value) (an : Option Addr) (cdv ct : Value) (us : List Value), us.length = ps.length → bindArgs (PySem.W.fnOf x q params body scope .none kV doc pm an cdv ct) ⟨us, []⟩ = pure (ps.zip us)) : MakT P w K mg base C j [] sp :=
  ⟨f, fd, ps, [], ok, M, D.bindsN hb, .nil⟩
theorem makt1 (M : Mk K C f) (D : FunD K x q params body scope [dv] [] f fd) (ok : FnOk P w K mg base CX0 j f fd ps sp) (n i : Nat) (hn : n + ([dv].length - i) = ps.length) (hb : ∀ (T : Addr) (kV doc pm : Value) (an : Option Addr) (cdv ct : Value) (us its : List Value), us.length = n → its.length = [dv].length →
      ∃ k, bindArgs (PySem.W.fnOf x q params body scope (.ref T) kV doc pm an cdv ct) ⟨us, []⟩ = seqItems? (.ref T) >>= k ∧ k (some its.toArray) = pure (ps.zip (us ++ its.drop i))) : MakT P w K mg base C j ([dv].drop i) sp := by
  obtain ⟨ds, h1, h2⟩ := D.binds1 n i (by simp) hn hb
  exact ⟨f, fd, ps, ds, ok, M, h2, h1⟩
end
/-! ### the head's Hook: a wider part of the heap, one more reading -/
def seers : List Addr := [cStatics, sysModules, builtinsNs]
def asX (g : Addr → Option Obj) (n : Nat) : List Addr := He.asD g n ++ seers
def hkX (n : Nat) (fa : List He.Fa) (fn : List He.DefD) (ex : PySem.W.Frag → Bool) : PySem.W.Hook where
  α := He.AlD × Bool
  obs := fun s => (He.obsD fa fn (He.frG s.heap.get? (asX s.heap.get? n)), ex (He.frG s.heap.get? (asX s.heap.get? n)))
  val := fun _ => (He.valD fn, true)
  says := fun _ h => ∃ K : PySem.W.Frag, K.In h ∧ He.SaysD fa fn K ∧ ex K = true
  of := fun _ _ e => ⟨_, He.frG_in, (Prod.mk.inj e).1, (Prod.mk.inj e).2⟩
  keeps := fun _ _ _ ⟨K, hK, c⟩ k => ⟨K, PySem.W.Frag.In.keeps hK k, c⟩
def obX (n : Nat) (fa : List He.Fa) (fn : List He.DefD) (ex : PySem.W.Frag → Bool) (s : PySem.W.SharedT) : He.AlD × Bool := (He.obsD fa fn (He.frG (HandSHeadRun.getT s) (asX (HandSHeadRun.getT s) n)), ex (He.frG (HandSHeadRun.getT s) (asX (HandSHeadRun.getT s) n)))
theorem obX_eq (n : Nat) (fa : List He.Fa) (fn : List He.DefD) (ex : PySem.W.Frag → Bool) (s : PySem.W.SharedT) : obX n fa fn ex s = (hkX n fa fn ex).obs s.abs := by
  have e : HandSHeadRun.getT s = s.abs.heap.get? := funext (HandSHeadRun.getT_eq s)
  unfold obX
  rw [e]
  rfl
/-- what a base must hold of the objects that a watcher would stand in -/
def seerB (K : PySem.W.Frag) : Bool := (K.lookup cStatics).isSome && ((K.lookup sysModules).isSome && ((K.lookup builtinsNs).isSome && ((K.lookup mainGlobals).isSome && (match PySem.W.nsIn K mainGlobals "__builtins__" with
  | some (some (.ref bm)) => (K.lookup bm).isSome
  | _ => false))))
theorem same_at {K : PySem.W.Frag} {h base : Heap} (X : K.In h) (Y : K.In base) {a : Addr} (k : (K.lookup a).isSome = true) : base.get? a = h.get? a := by
  obtain ⟨o, e⟩ := Option.isSome_iff_exists.mp k
  rw [X a o e, Y a o e]
theorem ns_at {h base : Heap} {a : Addr} {m : Str → Option Value} (e : base.get? a = h.get? a) (n : h.Ns a m) : base.Ns a m := by
  obtain ⟨o, es, ep, h1, r⟩ := n
  exact ⟨o, es, ep, by rw [e]; exact h1, r⟩
theorem noSeer_base {K : PySem.W.Frag} {h base : Heap} {mg : Str → Option Value} (X : K.In h) (Y : K.In base) (G : h.Ns mainGlobals mg) (s : h.NoSeer) (b : seerB K = true) : base.NoSeer := by
  unfold seerB at b
  obtain ⟨b1, b⟩ := Bool.and_eq_true_iff.mp b
  obtain ⟨b2, b⟩ := Bool.and_eq_true_iff.mp b
  obtain ⟨b3, b⟩ := Bool.and_eq_true_iff.mp b
  obtain ⟨b4, b5⟩ := Bool.and_eq_true_iff.mp b
  refine ⟨?_, ?_, ?_, ?_⟩
  · obtain ⟨mc, h1, h2⟩ := s.statics
    exact ⟨mc, ns_at (same_at X Y b1) h1, h2⟩
  · obtain ⟨mc, h1, h2⟩ := s.mods
    exact ⟨mc, ns_at (same_at X Y b2) h1, h2⟩
  · obtain ⟨mc, h1, h2⟩ := s.imp
    exact ⟨mc, ns_at (same_at X Y b3) h1, h2⟩
  · obtain ⟨mg', bm, ob, h1, h2, h3, h4, h5⟩ := s.main
    refine ⟨mg', bm, ob, ns_at (same_at X Y b4) h1, h2, ?_, h4, h5⟩
    have hbm : (K.lookup bm).isSome = true := by
      cases e : PySem.W.nsIn K mainGlobals "__builtins__" with
      | none => rw [e] at b5; cases b5
      | some o =>
        rw [e] at b5
        cases o with
        | none => cases b5
        | some v =>
          have := PySem.W.mg_of X h1 e
          rw [h2] at this
          cases this
          exact b5
    rw [same_at X Y hbm]; exact h3
/-- a law's end -/
theorem walk_seer {l : PySem.W.OpenLaw} {n k : Nat} {q : Program} {loose : List Str} {XP : (Str → Option Value) → Heap → Prop} {YP : World → Heap → Prop} {d : DefRec} {CX : CXT} {x : Str}
    (hn : l.most = some n) (hn2 : n ≤ sizeLine) (hdf : d.params.defaults = []) (hr : Room k callerA) (hq : importsNone q = true)
    (F : ∀ (w : World) (mg : Str → Option Value) (fa : Addr) (h : Heap), YP w h → h.Ns mainGlobals mg → h.NoSeer → mg d.name = some (.ref fa) →
      ∃ (K : PySem.W.Frag) (fd : FuncData) (sp : Sp), K.In h ∧ (∀ (s : Shared) (u : Value), BindsTo s fd ⟨[u], []⟩ [(x, u)]) ∧
        (∀ (H : Hp) (a : Addr) (ns : List Int), ns.length ≤ n → Only H → SqL K H a (ns.map V.int) → sp [.ref a] H (fun v _ => v = .bl true) fun _ _ _ => False) ∧
        ∀ base : Heap, K.In base → base.Ns mainGlobals mg → FnOk l.prog w K mg base CX k fa fd [x] sp)
    (hCX : ∀ (H : Hp) (s : Shared) (e : Value) (s' : Shared), CX [] H s (fun _ _ _ => False) e s' → False) :
    PySem.W.WalkO q loose XP YP l.row.toRowW d [] (fun f vs => PySem.call f vs) := by
  refine Att.attach_call hn hdf fun w s₀ s₁ mg mb fa o pm cd doc a vs ns G Y ho hd hcd hmg hobj hints hlen hg => ?_
  obtain ⟨K, fd, sp, KX, hb, hsp, hF⟩ := F w mg fa _ Y G.T.g (G.T.seer hq) hmg
  exact law_call KX G.T.g G.T.b G.T.builtins G.T.nolimit hg hobj hints (Nat.le_trans hlen hn2) hr hF hb (fun H hO hS => hsp H a ns hlen hO hS) fun H e s' => hCX H s₁ e s'
/-- the promise of a law's def, from the typed one -/
theorem law_sp {K : PySem.W.Frag} {rel : List Ty → Ty → Prop} {n : Nat} (h : ∀ ns : List Int, ns.length ≤ n → rel [tL K (ns.map tI)] (tB true)) (H : Hp) (a : Addr) (ns : List Int) (hl : ns.length ≤ n) (hS : SqL K H a (ns.map V.int)) : FSp rel [.ref a] H (fun v _ => v = .bl true) fun _ _ _ => False := by
  refine ⟨[tL K (ns.map tI)], tB true, H, h ns hl, Same.refl H, .cons ⟨a, ns.map V.int, rfl, hS, ?_⟩ .nil, fun v S' H' _ e => e⟩
  clear hS hl
  induction ns with
  | nil => exact .nil
  | cons n r ih => exact .cons rfl ih
end Rt

set_option Elab.async false
set_option linter.all false
set_option maxRecDepth 100000
set_option maxHeartbeats 4000000
namespace Rt
open PySem PySem.Spec PyProof.Rows L2
def top (i : Nat) : Stmt := PySem.Challenge.pw_rootsheld_k18_whole_what_is_equal_and_wh.main.body.getD i (.Pass ⟨0, 0, 0, 0⟩)
abbrev mth (i j : Nat) : Stmt := inClass (top i) j
abbrev FD (K : PySem.W.Frag) (x qual : Str) (st : Stmt) (dvs : List V) (f : Addr) (fd : FuncData) : Prop := FunD K x qual (defArgs st) (defBody st) (defScope st) dvs [] f fd
structure Wd (P : Program) (base : Heap) : Prop where
  see : base.NoSeer
  tr : P.given.tree = none
/-- built-in names that the module leaves as they are -/
structure BN (mg : Str → Option Value) : Prop where
  abs : mg "abs" = none
  all : mg "all" = none
  any : mg "any" = none
  bool : mg "bool" = none
  enumerate : mg "enumerate" = none
  int : mg "int" = none
  isinstance : mg "isinstance" = none
  len : mg "len" = none
  list : mg "list" = none
  max : mg "max" = none
  range : mg "range" = none
  sorted : mg "sorted" = none
  str : mg "str" = none
  sum : mg "sum" = none
  tuple : mg "tuple" = none
  zip : mg "zip" = none

section
variable {P : Program} {w : World} {K : PySem.W.Frag} {mg : Str → Option Value} {base : Heap} {f C : Addr} {fd : FuncData}
/-! ### whole.py -/
def relInt : List Ty → Ty → Prop := fun Ps r => ∃ i, Ps = [tI i] ∧ r = tB true
theorem sc_is_integer : FnScope ["value"] ["value"] (defScope (top 6)) := ⟨rfl, rfl, rfl, by decide +kernel, rfl, by decide +kernel, by decide +kernel⟩
theorem ok_is_integer (W : Wd P base) (Bn : BN mg)  (D : FD K "is_integer" "is_integer" (top 6) [] f fd) : FnOk P w K mg base CX0 41 f fd ["value"] (FSp relInt) := by
  refine fn_ok D sc_is_integer fun Ps r h => ?_
  obtain ⟨i, rfl, rfl⟩ := h
  refine ⟨rfl, fun f cdv A outer s H E hr => ?_⟩
  have F := fam_bx (P := P) (w := w) (K := K) (mg := mg) (base := base) (f := f) (cdv := cdv) (s := s) (H := H) (E := E) (outer := outer) sc_is_integer.nd W.see W.tr sc_is_integer.gen sc_is_integer.co hr
  refine sg_one (sg1_ret (eg_eq (eg_and (eg_callB F (ca_isi F (b := true) has_I (.ty "int") (kit_ty (by decide +kernel))) Bn.isinstance (by decide +kernel) (ea_cons (eg_nm F 0) (ea_cons (eg_bltn F Bn.int (by decide +kernel) rfl) ea_nil)))
    fun _ => eg_one (eg_not (eg_callB F (ca_isi F (b := false) has_I (.ty "bool") (kit_ty (by decide +kernel))) Bn.isinstance (by decide +kernel) (ea_cons (eg_nm F 0) (ea_cons (eg_bltn F Bn.bool (by decide +kernel) rfl) ea_nil))))) rfl))
def relCom : List Ty → Ty → Prop := fun Ps r => ∃ i j : Int, Ps = [tI i, tI j] ∧ r = tI (Int.gcd i j : Int)
theorem abs_eq (i : Int) : (if i < 0 then -i else i) = (i.natAbs : Int) := by split <;> omega
theorem gcd_step (x y : Int) (hx : 0 ≤ x) (hy : 0 < y) : Int.gcd y (x % y) = Int.gcd x y := by
  obtain ⟨a, rfl⟩ := Int.eq_ofNat_of_zero_le hx
  obtain ⟨b, rfl⟩ := Int.eq_ofNat_of_zero_le (Int.le_of_lt hy)
  show Nat.gcd b (a % b) = Nat.gcd a b
  rw [Nat.gcd_comm a b, Nat.gcd_rec b a, Nat.gcd_comm]
theorem sc_common : FnScope ["a", "b"] ["a", "b"] (defScope (top 8)) := ⟨rfl, rfl, rfl, by decide +kernel, rfl, by decide +kernel, by decide +kernel⟩
theorem ok_common (W : Wd P base) (Bn : BN mg)  (D : FD K "common" "common" (top 8) [] f fd) : FnOk P w K mg base CX0 41 f fd ["a", "b"] (FSp relCom) := by
  refine fn_ok D sc_common fun Ps r h => ?_
  obtain ⟨i, j, rfl, rfl⟩ := h
  refine ⟨rfl, fun f cdv A outer s H E hr => ?_⟩
  have F := fam_bx (P := P) (w := w) (K := K) (mg := mg) (base := base) (f := f) (cdv := cdv) (s := s) (H := H) (E := E) (outer := outer) sc_common.nd W.see W.tr sc_common.gen sc_common.co hr
  refine sg_cons (sg1_par F 0 1 (eas_sh (eg_callB F ca_abs Bn.abs (by decide +kernel) (ea_cons (eg_nm F 0) ea_nil)) (eas_sh (eg_callB F ca_abs Bn.abs (by decide +kernel) (ea_cons (eg_nm F 1) ea_nil)) eas_nil)) ?_)
  refine sg_cons (sg1_while F (fun n Δ => ∃ x y : Int, 0 ≤ x ∧ 0 ≤ y ∧ Int.gcd x y = Int.gcd i j ∧ n = y.toNat ∧ Δ = [.sh (tI x), .sh (tI y)]) j.natAbs ⟨i.natAbs, j.natAbs, by omega, by omega, rfl, by simp, by rw [abs_eq, abs_eq]; rfl⟩ fun n Δ hI => ?_)
  obtain ⟨x, y, hx, hy, hg, rfl, rfl⟩ := hI
  refine ⟨_, et_cmp gt_II (eg_nm F 1) eg_int, fun hb => ?_, fun hb => ?_⟩
  · have hy0 : 0 < y := of_decide_eq_true hb
    refine sg_one (sg1_par F 0 1 (eas_sh (eg_nm F 1) (eas_sh (eg_op (mod_II hy0) (eg_nm F 0) (eg_nm F 1)) eas_nil)) ⟨(x % y).toNat, ?_, y, x % y, hy, Int.emod_nonneg _ (by omega), ?_, rfl, rfl⟩)
    · have := Int.emod_lt_of_pos x hy0
      have := Int.emod_nonneg x (show y ≠ 0 by omega)
      omega
    · rw [gcd_step x y hx hy0, hg]
  · have hy0 : y = 0 := by have := of_decide_eq_false hb; omega
    subst hy0
    refine sg_one (sg1_ret (eg_eq (eg_nm F 0) ?_))
    rw [← hg, Int.gcd_zero_right]
    congr 2
    omega
/-! ### ratio.py -/
def ratT (C : Addr) (q : Rat) : Ty := tO C [("n", tI q.num), ("d", tI q.den)]
def ratF (q : Rat) : List (Str × Ty) := [("n", tI q.num), ("d", tI q.den)]
def relIni : List Ty → List (Str × Ty) → Prop := fun Ps fs => ∃ n d : Int, Ps = [tI n, tI d] ∧ d ≠ 0 ∧ fs = ratF (Rat.divInt n d)
theorem sg1_if_no {ι : Type} {X : ι → Cx} {m : Option Addr} {Γ : List Sl} {O : Po} {p q : List Stmt} {pos : Pos} {c : Expr} (hc : ET X m c Γ false) (h2 : SG X m q Γ O) : SG1 X m (.If c p q pos) Γ O := sg1_if hc (fun z => by cases z) fun _ => h2
theorem sc_Ratio___init__ : FnScope ["self", "n", "d", "g"] ["self", "n", "d"] (defScope (mth 12 0)) := ⟨rfl, rfl, rfl, by decide +kernel, rfl, by decide +kernel, by decide +kernel⟩
theorem ok_Ratio___init__ (W : Wd P base) (Bn : BN mg) (gI : FnT P w K mg base "is_integer" 41 (FSp relInt)) (gC : FnT P w K mg base "common" 41 (FSp relCom)) (cl : Cls K C) (nn : NoAttr K C "n") (nd : NoAttr K C "d") (D : FD K "__init__" "Ratio.__init__" (mth 12 0) [.int 1] f fd) : FnOk P w K mg base CX0 42 f fd ["self", "n", "d"] (ISp C relIni) := by
  refine fn_okI D sc_Ratio___init__ fun Ps r h => ?_
  obtain ⟨n, d, rfl, hd, rfl⟩ := h
  refine ⟨rfl, fun z dx f cdv A outer s H E hr => ?_⟩
  have F := fam_bx (P := P) (w := w) (K := K) (mg := mg) (base := base) (f := f) (cdv := cdv) (s := s) (H := H) (E := E) (outer := outer) sc_Ratio___init__.nd W.see W.tr sc_Ratio___init__.gen sc_Ratio___init__.co hr
  refine sg_cons (sg1_if_no (et_w (ew_or (et_not (et_v (eg_call F gI (ea_cons (eg_nm F 1) ea_nil) ⟨n, rfl, rfl⟩))) fun _ => ew_or1 (et_not (et_v (eg_call F gI (ea_cons (eg_nm F 2) ea_nil) ⟨d, rfl, rfl⟩))))) (sg_nil ?_))
  refine sg_cons (sg1_if_no (et_eq (et_cmp eq_II (eg_nm F 2) eg_int) (decide_eq_false hd)) (sg_nil ?_))
  refine sg_cons (sg1_set F 3 (eg_call F gC (ea_cons (eg_nm F 1) (ea_cons (eg_nm F 2) ea_nil)) ⟨n, d, rfl, rfl⟩) ?_)
  have hg := gcd_pos' n d hd
  refine sg_cons (sg1_fld F 0 (A := tI (Rat.divInt n d).num) cl nn (eg_if (et_cmp gt_II (eg_nm F 2) eg_int) (fun hb => eg_eq (eg_op (fdiv_IIp F hg) (eg_nm F 1) (eg_nm F 3)) ?_) (fun hb => eg_eq (eg_op (fdiv_IIp F hg) (eg_un neg_I (eg_nm F 1)) (eg_nm F 3)) ?_)) rfl ?_)
  · rw [← init_num n d hd, if_pos (of_decide_eq_true hb)]
  · rw [← init_num n d hd, if_neg (of_decide_eq_false hb)]
  refine sg_one (sg1_fld F 0 (A := tI (Rat.divInt n d).den) cl nd (eg_eq (eg_op (fdiv_IIp F hg) (eg_callB F ca_abs Bn.abs (by decide +kernel) (ea_cons (eg_nm F 2) ea_nil)) (eg_nm F 3)) ?_) rfl ?_)
  · rw [abs_eq, init_den n d hd]
  · rfl
/-- what stands behind Ratio's name, once its defs are shown -/
structure RatOk (P : Program) (w : World) (K : PySem.W.Frag) (mg : Str → Option Value) (base : Heap) (C : Addr) : Prop where
  cf : CF K C
  mR : mg "Ratio" = some (.ref C)
  nn : NoAttr K C "n"
  nd : NoAttr K C "d"
  m1 : MakT P w K mg base C 42 [.int 1] (ISp C relIni)
  m2 : MakT P w K mg base C 42 [] (ISp C relIni)
  chk : FnT P w K mg base "check_ratio" 41 (FSp fun Ps r => ∃ q : Rat, Ps = [ratT C q] ∧ r = tN)
def relChk (C : Addr) : List Ty → Ty → Prop := fun Ps r => ∃ q : Rat, Ps = [ratT C q] ∧ r = tN
theorem sc_check_ratio : FnScope ["value"] ["value"] (defScope (top 13)) := ⟨rfl, rfl, rfl, by decide +kernel, rfl, by decide +kernel, by decide +kernel⟩
theorem ok_check_ratio (W : Wd P base) (Bn : BN mg) (cf : CF K C) (mR : mg "Ratio" = some (.ref C)) (D : FD K "check_ratio" "check_ratio" (top 13) [] f fd) : FnOk P w K mg base CX0 41 f fd ["value"] (FSp (relChk C)) := by
  refine fn_ok D sc_check_ratio fun Ps r h => ?_
  obtain ⟨q, rfl, rfl⟩ := h
  refine ⟨rfl, fun f cdv A outer s H E hr => ?_⟩
  have F := fam_bx (P := P) (w := w) (K := K) (mg := mg) (base := base) (f := f) (cdv := cdv) (s := s) (H := H) (E := E) (outer := outer) sc_check_ratio.nd W.see W.tr sc_check_ratio.gen sc_check_ratio.co hr
  refine sg_one (sg1_if_no (et_not (et_v (eg_callB F (ca_isi F (b := true) (has_O cf) (.own C) cf.kc) Bn.isinstance (by decide +kernel) (ea_cons (eg_nm F 0) (ea_cons (eg_glob F mR rfl) ea_nil))))) (sg_nil .rfl))
/-- Ratio(n, d) as a value -/
theorem mk_rat {ι : Type} {X : ι → Cx} {m : Option Addr} {N : List Str} {k : Nat} {Γ : List Sl} {e1 e2 : Expr} {p pos : Pos} {n d : Int} (R : RatOk P w K mg base C) (F : Fam X P w K mg base N k) (h1 : EG X m e1 Γ (tI n)) (h2 : EG X m e2 Γ (tI d)) (hd : d ≠ 0) (hk : 43 ≤ k := by decide)
    (hg : ∀ i, Gl (X i) "Ratio" := by intro i; rfl) (hs : ∀ i, starEach [e1, e2] (X i).env = (false, eval e1 (X i).env) :: starEach [e2] (X i).env := by intro i; rfl) (hs2 : ∀ i, starEach [e2] (X i).env = (false, eval e2 (X i).env) :: starEach [] (X i).env := by intro i; rfl)
    (hpl : ∀ i, (backTo pos (starEach [e2] (X i).env)).any (·.1) = false := by intro i; rfl) : EG X m (.Call (.Name "Ratio" p) [e1, e2] [] pos) Γ (ratT C (Rat.divInt n d)) :=
  eg_make F R.m2 R.mR (ea_cons h1 (ea_cons h2 ea_nil hs2) hs) ⟨n, d, rfl, hd, rfl⟩ hk hg (by decide) hs hpl
theorem mk_rat1 {ι : Type} {X : ι → Cx} {m : Option Addr} {N : List Str} {k : Nat} {Γ : List Sl} {e1 : Expr} {p pos : Pos} {n : Int} (R : RatOk P w K mg base C) (F : Fam X P w K mg base N k) (h1 : EG X m e1 Γ (tI n)) (hk : 43 ≤ k := by decide)
    (hg : ∀ i, Gl (X i) "Ratio" := by intro i; rfl) (hs2 : ∀ i, starEach [e1] (X i).env = (false, eval e1 (X i).env) :: starEach [] (X i).env := by intro i; rfl)
    (hpl : ∀ i, (backTo pos (starEach ([] : List Expr) (X i).env)).any (·.1) = false := by intro i; rfl) : EG X m (.Call (.Name "Ratio" p) [e1] [] pos) Γ (ratT C (n : Rat)) := by
  have h := eg_make F R.m1 R.mR (ea_cons h1 ea_nil hs2) ⟨n, 1, rfl, by decide, rfl⟩ hk hg (by decide) hs2 hpl (p := p)
  rw [show Rat.divInt n 1 = (n : Rat) by rw [Rat.divInt_eq_div]; grind] at h
  exact h
theorem eg_n {ι : Type} {X : ι → Cx} {m : Option Addr} {N : List Str} {k : Nat} {Γ : List Sl} {e : Expr} {pos : Pos} {q : Rat} (R : RatOk P w K mg base C) (F : Fam X P w K mg base N k) (h : EG X m e Γ (ratT C q)) (hb : ∀ i, attributeBase e ("n" : Str) (X i).env (eval e (X i).env) = eval e (X i).env := by intro i; rfl) :
    EG X m (.Attribute e "n" pos) Γ (tI q.num) := eg_fld F R.cf.cl R.nn h rfl hb
theorem eg_d {ι : Type} {X : ι → Cx} {m : Option Addr} {N : List Str} {k : Nat} {Γ : List Sl} {e : Expr} {pos : Pos} {q : Rat} (R : RatOk P w K mg base C) (F : Fam X P w K mg base N k) (h : EG X m e Γ (ratT C q)) (hb : ∀ i, attributeBase e ("d" : Str) (X i).env (eval e (X i).env) = eval e (X i).env := by intro i; rfl) :
    EG X m (.Attribute e "d" pos) Γ (tI q.den) := eg_fld F R.cf.cl R.nd h rfl hb
def relAdd (C : Addr) : List Ty → Ty → Prop := fun Ps r => ∃ a b : Rat, Ps = [ratT C a, ratT C b] ∧ rb a + rb b ≤ lim ∧ r = ratT C (a + b)
theorem rm1 {a b : Rat} (h : rb a + rb b ≤ lim) : IntMulOk a.num b.den := mul_ok (by have := rb_num a; have := rb_den b; omega)
theorem rm2 {a b : Rat} (h : rb a + rb b ≤ lim) : IntMulOk b.num a.den := mul_ok (by have := rb_num b; have := rb_den a; omega)
theorem rm3 {a b : Rat} (h : rb a + rb b ≤ lim) : IntMulOk a.den b.den := mul_ok (by have := rb_den a; have := rb_den b; omega)
theorem rm4 {a b : Rat} (h : rb a + rb b ≤ lim) : IntMulOk a.num b.num := mul_ok (by have := rb_num a; have := rb_num b; omega)
theorem sc_Ratio___add__ : FnScope ["self", "other"] ["self", "other"] (defScope (mth 12 1)) := ⟨rfl, rfl, rfl, by decide +kernel, rfl, by decide +kernel, by decide +kernel⟩
theorem ok_Ratio___add__ (W : Wd P base) (Bn : BN mg) (R : RatOk P w K mg base C) (D : FD K "__add__" "Ratio.__add__" (mth 12 1) [] f fd) : FnOk P w K mg base CX0 44 f fd ["self", "other"] (FSp (relAdd C)) := by
  refine fn_ok D sc_Ratio___add__ fun Ps r h => ?_
  obtain ⟨a, b, rfl, hb, rfl⟩ := h
  refine ⟨rfl, fun f cdv A outer s H E hr => ?_⟩
  have F := fam_bx (P := P) (w := w) (K := K) (mg := mg) (base := base) (f := f) (cdv := cdv) (s := s) (H := H) (E := E) (outer := outer) sc_Ratio___add__.nd W.see W.tr sc_Ratio___add__.gen sc_Ratio___add__.co hr
  refine sg_cons (sg1_expr (eg_call F R.chk (ea_cons (eg_nm F 1) ea_nil) ⟨b, rfl, rfl⟩) ?_)
  refine sg_one (sg1_ret (eg_eq (mk_rat R F (eg_op add_II (eg_op (mul_II (rm1 hb)) (eg_n R F (eg_nm F 0)) (eg_d R F (eg_nm F 1))) (eg_op (mul_II (rm2 hb)) (eg_n R F (eg_nm F 1)) (eg_d R F (eg_nm F 0))))
    (eg_op (mul_II (rm3 hb)) (eg_d R F (eg_nm F 0)) (eg_d R F (eg_nm F 1))) (Int.mul_ne_zero (den_ne a) (den_ne b))) ?_))
  rw [rat_add]
def relSub (C : Addr) : List Ty → Ty → Prop := fun Ps r => ∃ a b : Rat, Ps = [ratT C a, ratT C b] ∧ rb a + rb b ≤ lim ∧ r = ratT C (a - b)
theorem sc_Ratio___sub__ : FnScope ["self", "other"] ["self", "other"] (defScope (mth 12 2)) := ⟨rfl, rfl, rfl, by decide +kernel, rfl, by decide +kernel, by decide +kernel⟩
theorem ok_Ratio___sub__ (W : Wd P base) (Bn : BN mg) (R : RatOk P w K mg base C) (D : FD K "__sub__" "Ratio.__sub__" (mth 12 2) [] f fd) : FnOk P w K mg base CX0 44 f fd ["self", "other"] (FSp (relSub C)) := by
  refine fn_ok D sc_Ratio___sub__ fun Ps r h => ?_
  obtain ⟨a, b, rfl, hb, rfl⟩ := h
  refine ⟨rfl, fun f cdv A outer s H E hr => ?_⟩
  have F := fam_bx (P := P) (w := w) (K := K) (mg := mg) (base := base) (f := f) (cdv := cdv) (s := s) (H := H) (E := E) (outer := outer) sc_Ratio___sub__.nd W.see W.tr sc_Ratio___sub__.gen sc_Ratio___sub__.co hr
  refine sg_cons (sg1_expr (eg_call F R.chk (ea_cons (eg_nm F 1) ea_nil) ⟨b, rfl, rfl⟩) ?_)
  refine sg_one (sg1_ret (eg_eq (mk_rat R F (eg_op sub_II (eg_op (mul_II (rm1 hb)) (eg_n R F (eg_nm F 0)) (eg_d R F (eg_nm F 1))) (eg_op (mul_II (rm2 hb)) (eg_n R F (eg_nm F 1)) (eg_d R F (eg_nm F 0))))
    (eg_op (mul_II (rm3 hb)) (eg_d R F (eg_nm F 0)) (eg_d R F (eg_nm F 1))) (Int.mul_ne_zero (den_ne a) (den_ne b))) ?_))
  rw [rat_sub]
def relLess (C : Addr) : List Ty → Ty → Prop := fun Ps r => ∃ a b : Rat, Ps = [ratT C a, ratT C b] ∧ rb a + rb b ≤ lim ∧ r = tB (decide (a < b))
theorem sc_Ratio_less : FnScope ["self", "other"] ["self", "other"] (defScope (mth 12 6)) := ⟨rfl, rfl, rfl, by decide +kernel, rfl, by decide +kernel, by decide +kernel⟩
theorem ok_Ratio_less (W : Wd P base) (Bn : BN mg) (R : RatOk P w K mg base C) (D : FD K "less" "Ratio.less" (mth 12 6) [] f fd) : FnOk P w K mg base CX0 44 f fd ["self", "other"] (FSp (relLess C)) := by
  refine fn_ok D sc_Ratio_less fun Ps r h => ?_
  obtain ⟨a, b, rfl, hb, rfl⟩ := h
  refine ⟨rfl, fun f cdv A outer s H E hr => ?_⟩
  have F := fam_bx (P := P) (w := w) (K := K) (mg := mg) (base := base) (f := f) (cdv := cdv) (s := s) (H := H) (E := E) (outer := outer) sc_Ratio_less.nd W.see W.tr sc_Ratio_less.gen sc_Ratio_less.co hr
  refine sg_cons (sg1_expr (eg_call F R.chk (ea_cons (eg_nm F 1) ea_nil) ⟨b, rfl, rfl⟩) ?_)
  refine sg_one (sg1_ret (eg_eq (eg_cmp lt_II (eg_op (mul_II (rm1 hb)) (eg_n R F (eg_nm F 0)) (eg_d R F (eg_nm F 1))) (eg_op (mul_II (rm2 hb)) (eg_n R F (eg_nm F 1)) (eg_d R F (eg_nm F 0)))) ?_))
  exact congrArg tB (decide_eq_decide.mpr (rat_lt a b).symm)
/-- == : of another Ratio, or of what is none -/
def relEq (K : PySem.W.Frag) (C : Addr) : List Ty → Ty → Prop := fun Ps r => (∃ a b : Rat, Ps = [ratT C a, ratT C b] ∧ r = tB (decide (a = b))) ∨ ∃ (a : Rat) (A : Ty) (t : Value), Ps = [ratT C a, A] ∧ HasT K A t ∧ PySem.W.kitOne K t (.ref C) = some false ∧ r = tB false
theorem rat_eq (a b : Rat) : (decide (a.num = b.num) && decide ((a.den : Int) = b.den)) = decide (a = b) := by
  rw [← Bool.decide_and]
  exact decide_eq_decide.mpr ⟨fun h => Rat.ext h.1 (by omega), fun h => by rw [h]; exact ⟨rfl, rfl⟩⟩
theorem sc_Ratio___eq__ : FnScope ["self", "other"] ["self", "other"] (defScope (mth 12 5)) := ⟨rfl, rfl, rfl, by decide +kernel, rfl, by decide +kernel, by decide +kernel⟩
theorem ok_Ratio___eq__ (W : Wd P base) (Bn : BN mg) (R : RatOk P w K mg base C) (D : FD K "__eq__" "Ratio.__eq__" (mth 12 5) [] f fd) : FnOk P w K mg base CX0 44 f fd ["self", "other"] (FSp (relEq K C)) := by
  refine fn_ok D sc_Ratio___eq__ fun Ps r h => ?_
  obtain ⟨a, b, rfl, rfl⟩ | ⟨a, T, t, rfl, hT, hk, rfl⟩ := h
  refine ⟨rfl, fun f cdv A outer s H E hr => ?_⟩
  have F := fam_bx (P := P) (w := w) (K := K) (mg := mg) (base := base) (f := f) (cdv := cdv) (s := s) (H := H) (E := E) (outer := outer) sc_Ratio___eq__.nd W.see W.tr sc_Ratio___eq__.gen sc_Ratio___eq__.co hr
  · refine sg_one (sg1_ret (eg_eq (eg_and (eg_callB F (ca_isi F (b := true) (has_O R.cf) (.own C) R.cf.kc) Bn.isinstance (by decide +kernel) (ea_cons (eg_nm F 1) (ea_cons (eg_glob F R.mR rfl) ea_nil)))
      fun _ => eg_and (eg_cmp eq_II (eg_n R F (eg_nm F 0)) (eg_n R F (eg_nm F 1))) fun _ => eg_one (eg_cmp eq_II (eg_d R F (eg_nm F 0)) (eg_d R F (eg_nm F 1)))) ?_))
    rw [Bool.true_and, rat_eq]
  · refine ⟨rfl, fun f cdv A outer s H E hr => ?_⟩
    have F := fam_bx (P := P) (w := w) (K := K) (mg := mg) (base := base) (f := f) (cdv := cdv) (s := s) (H := H) (E := E) (outer := outer) sc_Ratio___eq__.nd W.see W.tr sc_Ratio___eq__.gen sc_Ratio___eq__.co hr
    exact sg_one (sg1_ret (eg_eq (eg_and (b2 := true) (eg_callB F (ca_isi F (b := false) hT (.own C) hk) Bn.isinstance (by decide +kernel) (ea_cons (eg_nm F 1) (ea_cons (eg_glob F R.mR rfl) ea_nil))) fun z => by cases z) rfl))
end

section
variable {P : Program} {w : World} {K : PySem.W.Frag} {mg : Str → Option Value} {base : Heap} {f C : Addr} {fd : FuncData}
/-! ### the law's draws -/
theorem sc__law_take : FnScope ["state", "m", "value"] ["state", "m"] (defScope (top 27)) := ⟨rfl, rfl, rfl, by decide +kernel, rfl, by decide +kernel, by decide +kernel⟩
theorem st_set {S H : Hp} {st : Addr} {s t : Int} (e : Same S H) (so : StOk (some st) S H) (hs : 0 ≤ s) (ht : 0 ≤ t) : Step (some st) S H S (upd H st (.lst [.int s, .int t])) := by
  obtain ⟨n, u, v, q, _⟩ := so st rfl
  refine ⟨fun a o h k => ?_, Same.refl _, fun a o h => ?_, fun _ _ _ _ z => z, fun a ha => ?_⟩
  · rw [upd_ne (fun z => k (by rw [z]))]; exact h
  · rw [upd_ne (ne_of_none h n)]; exact e a o h
  · injection ha with ha
    subst ha
    exact ⟨n, s, t, upd_same, hs, ht⟩
theorem ok__law_take (W : Wd P base) (Bn : BN mg) (D : FD K "_law_take" "_law_take" (top 27) [] f fd) : FnOk P w K mg base CX0 41 f fd ["state", "m"] (MSp relTake) := by
  refine FunD.ok D sc__law_take (fun vs H Q E h => ?_) fun cdv A outer s H vs Q E hr h => ?_
  · obtain ⟨st, ws, Ps, r, S, rfl, ⟨n, rfl, _⟩, _, _, ha, _⟩ := h
    rw [List.length_cons, ha.length]; rfl
  obtain ⟨st, ws, Ps, r, S, rfl, ⟨n, rfl, n0, n1, rfl⟩, e, so, ha, q⟩ := h
  obtain ⟨v, rfl, rfl⟩ := all2_1 ha
  obtain ⟨nS, a, b, hst, ha0, hb0⟩ := so st rfl
  have F := fam_bx (P := P) (w := w) (K := K) (mg := mg) (base := base) (f := f) (cdv := cdv) (s := s) (H := H) (E := E) (outer := outer) sc__law_take.nd W.see W.tr sc__law_take.gen sc__law_take.co hr
  have gl : ∀ c d : Int, 0 ≤ c → 0 ≤ d → ∀ i, 0 ≤ i → i < n → Q (.int i) (upd H st (.lst [.int c, .int d])) := fun c d hc hd i h1 h2 => q _ S _ (st_set e so hc hd) ⟨i, ⟨h1, h2⟩, rfl⟩
  refine ⟨_, PSs.nox (pss_cons (ps_if (pt_cmpR op_gt (pe_ix ix_list (pv 0) pe_int (fun _ _ => rfl)) pe_int (nomark _))
      (pss_cons (ps_set (i := 2) sc__law_take.nd rfl (Or.inl rfl) (pe_op op_mod (pe_callTy call_int1 rfl Bn.int (by decide +kernel) (pa_cons (pe_ix ix_list (pv 0) pe_int (fun _ _ => rfl)) pa_nil)) (pv 1)))
      (pss_cons (ps_asg (pe_op (op_fdivZ F (by decide) ()) (pe_ix ix_list (pv 0) pe_int (fun _ _ => rfl)) (pv 1)) (pg_sub (pv 0) pe_int set_list))
      (pss_one (ps_ret (pv 2))))) pss_nil)
    (pss_cons (ps_asg (pe_op op_mod (pe_callTy call_int1 rfl Bn.int (by decide +kernel) (pa_cons (pe_op op_add (pe_op op_mul (pe_ix ix_list (pv 0) pe_int (fun _ _ => rfl)) pe_int) pe_int) pa_nil)) pe_int) (pg_sub (pv 0) pe_int set_list))
    (pss_one (ps_ret (pe_op op_mod (pe_callTy call_int1 rfl Bn.int (by decide +kernel) (pa_cons (pe_op op_fdiv (pe_ix ix_list (pv 0) pe_int (fun _ _ => rfl)) pe_int) pa_nil)) (pv 1)))))), ?_⟩
  have L0 : SqL K H st [.int a, .int b] := SqL.of hst
  refine ⟨_, rfl, st, _, 0, .int a, rfl, rfl, L0, rfl, a, 0, rfl, rfl, _, rfl, ?_⟩
  refine ite2 (fun hpos => ?_) fun hpos => ?_
  · have hp : 0 < a := of_decide_eq_true hpos
    refine ⟨_, rfl, st, _, 0, .int a, rfl, rfl, L0, rfl, .inl ⟨a, rfl, _, rfl, a, n, rfl, rfl, n0, ?_⟩⟩
    refine ⟨_, rfl, st, _, 0, .int a, rfl, rfl, L0, rfl, _, rfl, a, n, rfl, rfl, by omega, _, rfl, st, [.int a, .int b], 0, 0, rfl, rfl, hst, rfl, ?_⟩
    refine ⟨.int (a % n), rfl, ?_⟩
    have h1 : 0 ≤ a.fdiv n := by rw [Int.fdiv_eq_ediv_of_nonneg a (by omega)]; exact Int.ediv_nonneg ha0 (by omega)
    exact gl _ b h1 hb0 _ (Int.emod_nonneg _ (by omega)) (Int.emod_lt_of_pos _ n0)
  · have hb1 : 0 ≤ (b * 48271 + 11) % 2147483647 := Int.emod_nonneg _ (by decide)
    refine ⟨_, rfl, st, _, 1, .int b, rfl, rfl, L0, rfl, b, 48271, rfl, rfl, .inr ⟨by decide, by decide⟩, b * 48271, 11, rfl, rfl, .inl ⟨_, rfl, _, 2147483647, rfl, rfl, (show (0 : Int) < 2147483647 by decide), ?_⟩⟩
    refine ⟨_, rfl, st, [.int a, .int b], 1, 1, rfl, rfl, hst, rfl, ?_⟩
    refine ⟨_, rfl, st, [.int a, .int ((b * 48271 + 11) % 2147483647)], 1, .int ((b * 48271 + 11) % 2147483647), rfl, rfl, SqL.of upd_same, rfl, _, 7, rfl, rfl, ⟨by decide, by decide⟩, .inl ⟨_, rfl, _, rfl, _, n, rfl, rfl, n0, ?_⟩⟩
    exact gl a _ ha0 hb1 _ (Int.emod_nonneg _ (by omega)) (Int.emod_lt_of_pos _ n0)
def relState (K : PySem.W.Frag) : List Ty → Cell → Prop := fun Ps c => ∃ ns : List Int, Ps = [tL K (ns.map tI)] ∧ ns.length ≤ 63 ∧ c = cSt
theorem sc__law_state : FnScope ["script", "seed", "total", "cell"] ["script"] (defScope (top 26)) := ⟨rfl, rfl, rfl, by decide +kernel, rfl, by decide +kernel, by decide +kernel⟩
theorem ok__law_state (W : Wd P base) (Bn : BN mg)  (D : FD K "_law_state" "_law_state" (top 26) [] f fd) : FnOk P w K mg base CX0 41 f fd ["script"] (NSp (relState K)) := by
  refine fn_okN D sc__law_state fun Ps r h => ?_
  obtain ⟨ns, rfl, hn, rfl⟩ := h
  refine ⟨rfl, fun f cdv A outer s H E hr => ?_⟩
  have F := fam_bx (P := P) (w := w) (K := K) (mg := mg) (base := base) (f := f) (cdv := cdv) (s := s) (H := H) (E := E) (outer := outer) sc__law_state.nd W.see W.tr sc__law_state.gen sc__law_state.co hr
  refine sg_cons (sg1_set F 1 eg_int ?_)
  refine sg_cons (sg1_set F 2 eg_int ?_)
  refine sg_cons (sg1_for F (it_list F (eg_eq (eg_slL F (eg_nm F 0) eo_none (eo_some eg_int)) (congrArg (tL K) (cut_map tI ns none (some 63))))) (fun _ Δ => ∃ a b : Int, 0 ≤ a ∧ 0 ≤ b ∧ SubG Δ [.sh (tL K (ns.map tI)), .sh (tI a), .sh (tI b), .un]) ⟨0, 1, by decide, by decide, .cons .same (.cons .same (.cons .same (.cons .un .nil)))⟩ (fun i A Δ hA hI => ?_) fun Δ hI => ?_)
  · obtain ⟨a, b, ha, hb, hΔ⟩ := hI
    obtain ⟨c, -, rfl⟩ := List.mem_map.mp (List.mem_of_getElem? hA)
    refine ⟨_, _, tg_nm F 3, sg_weak (sub_set hΔ 3) ?_⟩
    refine sg_cons (sg1_set F 1 (eg_op add_II (eg_op (mul_IIr (by decide) (by decide)) (eg_nm F 1) eg_int) (eg_callB F ca_abs Bn.abs (by decide +kernel) (ea_cons (eg_nm F 3) ea_nil))) ?_)
    refine sg_one (sg1_set F 2 (eg_op (mod_II (by decide)) (eg_callTy F ca_int Bn.int (by decide +kernel) (ea_cons (eg_op add_II (eg_op (mul_IIr (by decide) (by decide)) (eg_nm F 2) eg_int) (eg_nm F 3)) ea_nil)) eg_int) ?_)
    exact ⟨_, _, by rw [abs_eq]; omega, Int.emod_nonneg _ (by decide), .cons .same (.cons .same (.cons .same (.cons .un .nil)))⟩
  · obtain ⟨a, b, ha, hb, hΔ⟩ := hI
    refine sg_weak hΔ (sg_one ?_)
    refine sg1_retC (c := cL [tI a, tI (if b ≠ 1973665155 then b else 7)]) (en_lst (ea_cons (eg_nm F 1) (ea_cons (eg_if (b := decide (b ≠ 1973665155)) (et_eq (et_cmp ne_II (eg_nm F 2) eg_int) (by simp)) (fun z => ?_) fun z => ?_) ea_nil))) fun H0 p o S h1 h2 ⟨xs, e1, e2⟩ => ⟨p, o, rfl, h1, h2, ?_⟩
    · rw [if_pos (of_decide_eq_true z)]; exact eg_nm F 2
    · rw [if_neg (of_decide_eq_false z)]; exact eg_int
    · obtain ⟨x, y, rfl, rfl, rfl⟩ := all2_2 e2
      exact ⟨_, _, e1, ha, by split <;> omega⟩
end

section
variable {P : Program} {w : World} {K : PySem.W.Frag} {mg : Str → Option Value} {base : Heap} {f C CS CB : Addr} {fd : FuncData}
/-- Ratio with its methods -/
structure RatOps (P : Program) (w : World) (K : PySem.W.Frag) (mg : Str → Option Value) (base : Heap) (C : Addr) : Prop extends RatOk P w K mg base C where
  add : MethT P w K mg base C "__add__" 44 (FSp (relAdd C))
  sub : MethT P w K mg base C "__sub__" 44 (FSp (relSub C))
  less : MethT P w K mg base C "less" 44 (FSp (relLess C))
  eq : MethT P w K mg base C "__eq__" 44 (FSp (relEq K C))
def relCSp (C : Addr) : List Ty → Ty → Prop := fun Ps r => ∃ a b : Rat, Ps = [ratT C a, ratT C b] ∧ rb a + rb b ≤ lim ∧ a ≤ b ∧ r = tN
theorem sc_check_span : FnScope ["low", "high"] ["low", "high"] (defScope (top 15)) := ⟨rfl, rfl, rfl, by decide +kernel, rfl, by decide +kernel, by decide +kernel⟩
theorem ok_check_span (W : Wd P base) (Bn : BN mg) (R : RatOps P w K mg base C) (D : FD K "check_span" "check_span" (top 15) [] f fd) : FnOk P w K mg base CX0 46 f fd ["low", "high"] (FSp (relCSp C)) := by
  refine fn_ok D sc_check_span fun Ps r h => ?_
  obtain ⟨a, b, rfl, hb, hab, rfl⟩ := h
  refine ⟨rfl, fun f cdv A outer s H E hr => ?_⟩
  have F := fam_bx (P := P) (w := w) (K := K) (mg := mg) (base := base) (f := f) (cdv := cdv) (s := s) (H := H) (E := E) (outer := outer) sc_check_span.nd W.see W.tr sc_check_span.gen sc_check_span.co hr
  refine sg_cons (sg1_expr (eg_call F R.chk (ea_cons (eg_nm F 0) ea_nil) ⟨a, rfl, rfl⟩) ?_)
  refine sg_cons (sg1_expr (eg_call F R.chk (ea_cons (eg_nm F 1) ea_nil) ⟨b, rfl, rfl⟩) ?_)
  exact sg_one (sg1_if_no (et_eq (et_v (eg_meth F R.cf.cl R.less (eg_nm F 1) (ea_cons (eg_nm F 0) ea_nil) ⟨b, a, rfl, by omega, rfl⟩)) (decide_eq_false (Rat.not_lt.mpr hab))) (sg_nil .rfl))
def spanF (C : Addr) (a b : Rat) : List (Str × Ty) := [("low", ratT C a), ("high", ratT C b)]
def spanT (CS C : Addr) (a b : Rat) : Ty := tO CS (spanF C a b)
def relSpI (C : Addr) : List Ty → List (Str × Ty) → Prop := fun Ps fs => ∃ a b : Rat, Ps = [ratT C a, ratT C b] ∧ rb a + rb b ≤ lim ∧ a ≤ b ∧ fs = spanF C a b
theorem sc_Span___init__ : FnScope ["self", "low", "high"] ["self", "low", "high"] (defScope (mth 21 0)) := ⟨rfl, rfl, rfl, by decide +kernel, rfl, by decide +kernel, by decide +kernel⟩
theorem ok_Span___init__ (W : Wd P base) (Bn : BN mg) (gS : FnT P w K mg base "check_span" 46 (FSp (relCSp C))) (cl : Cls K CS) (n1 : NoAttr K CS "low") (n2 : NoAttr K CS "high") (D : FD K "__init__" "Span.__init__" (mth 21 0) [] f fd) : FnOk P w K mg base CX0 47 f fd ["self", "low", "high"] (ISp CS (relSpI C)) := by
  refine fn_okI D sc_Span___init__ fun Ps r h => ?_
  obtain ⟨a, b, rfl, hb, hab, rfl⟩ := h
  refine ⟨rfl, fun z dx f cdv A outer s H E hr => ?_⟩
  have F := fam_bx (P := P) (w := w) (K := K) (mg := mg) (base := base) (f := f) (cdv := cdv) (s := s) (H := H) (E := E) (outer := outer) sc_Span___init__.nd W.see W.tr sc_Span___init__.gen sc_Span___init__.co hr
  refine sg_cons (sg1_expr (eg_call F gS (ea_cons (eg_nm F 1) (ea_cons (eg_nm F 2) ea_nil)) ⟨a, b, rfl, hb, hab, rfl⟩) ?_)
  refine sg_cons (sg1_fld F 0 (A := ratT C a) cl n1 (eg_nm F 1) rfl ?_)
  exact sg_one (sg1_fld F 0 (A := ratT C b) cl n2 (eg_nm F 2) rfl rfl)
/-- == of own things: of another such, or of what is none -/
def relSpE (K : PySem.W.Frag) (CS C : Addr) : List Ty → Ty → Prop := fun Ps r => (∃ a b p q : Rat, Ps = [spanT CS C a b, spanT CS C p q] ∧ r = tB (decide (a = p) && decide (b = q))) ∨ ∃ (a b : Rat) (A : Ty) (t : Value), Ps = [spanT CS C a b, A] ∧ HasT K A t ∧ PySem.W.kitOne K t (.ref CS) = some false ∧ r = tB false
theorem rat_eqT (R : RatOps P w K mg base C) {ι : Type} {X : ι → Cx} {m : Option Addr} {N : List Str} {k : Nat} (F : Fam X P w K mg base N k) (a b : Rat) (hk : 44 ≤ k := by decide) : OpT X m (compareOp .Eq) (ratT C a) (ratT C b) (tB (decide (a = b))) :=
  eq_own F R.eq (has_O R.cf) (by simp [PySem.W.notFirst]) (.inl ⟨a, b, rfl, rfl⟩) hk
theorem sc_Span___eq__ : FnScope ["self", "other"] ["self", "other"] (defScope (mth 21 1)) := ⟨rfl, rfl, rfl, by decide +kernel, rfl, by decide +kernel, by decide +kernel⟩
theorem ok_Span___eq__ (W : Wd P base) (Bn : BN mg) (R : RatOps P w K mg base C) (cs : CF K CS) (mS : mg "Span" = some (.ref CS)) (n1 : NoAttr K CS "low") (n2 : NoAttr K CS "high") (D : FD K "__eq__" "Span.__eq__" (mth 21 1) [] f fd) : FnOk P w K mg base CX0 48 f fd ["self", "other"] (FSp (relSpE K CS C)) := by
  refine fn_ok D sc_Span___eq__ fun Ps r h => ?_
  obtain ⟨a, b, p, q, rfl, rfl⟩ | ⟨a, b, T, t, rfl, hT, hk, rfl⟩ := h
  refine ⟨rfl, fun f cdv A outer s H E hr => ?_⟩
  have F := fam_bx (P := P) (w := w) (K := K) (mg := mg) (base := base) (f := f) (cdv := cdv) (s := s) (H := H) (E := E) (outer := outer) sc_Span___eq__.nd W.see W.tr sc_Span___eq__.gen sc_Span___eq__.co hr
  · refine sg_cons (sg1_if_no (et_not (et_v (eg_callB F (ca_isi F (b := true) (has_O cs) (.own CS) cs.kc) Bn.isinstance (by decide +kernel) (ea_cons (eg_nm F 1) (ea_cons (eg_glob F mS rfl) ea_nil))))) (sg_nil ?_))
    exact sg_one (sg1_ret (eg_and (eg_cmp (rat_eqT R F a p) (eg_fld F cs.cl n1 (eg_nm F 0) rfl) (eg_fld F cs.cl n1 (eg_nm F 1) rfl)) fun _ => eg_one (eg_cmp (rat_eqT R F b q) (eg_fld F cs.cl n2 (eg_nm F 0) rfl) (eg_fld F cs.cl n2 (eg_nm F 1) rfl))))
  · refine ⟨rfl, fun f cdv A outer s H E hr => ?_⟩
    have F := fam_bx (P := P) (w := w) (K := K) (mg := mg) (base := base) (f := f) (cdv := cdv) (s := s) (H := H) (E := E) (outer := outer) sc_Span___eq__.nd W.see W.tr sc_Span___eq__.gen sc_Span___eq__.co hr
    exact sg_cons (sg1_if (b := true) (et_not (et_v (eg_callB F (ca_isi F (b := false) hT (.own CS) hk) Bn.isinstance (by decide +kernel) (ea_cons (eg_nm F 1) (ea_cons (eg_glob F mS rfl) ea_nil))))) (fun _ => sg_one (sg1_ret eg_bl)) fun z => by cases z)
def relCIs (CS C : Addr) : List Ty → Ty → Prop := fun Ps r => ∃ a b : Rat, Ps = [spanT CS C a b] ∧ r = tN
theorem sc_check_is_span : FnScope ["value"] ["value"] (defScope (top 22)) := ⟨rfl, rfl, rfl, by decide +kernel, rfl, by decide +kernel, by decide +kernel⟩
theorem ok_check_is_span (W : Wd P base) (Bn : BN mg) (cs : CF K CS) (mS : mg "Span" = some (.ref CS)) (D : FD K "check_is_span" "check_is_span" (top 22) [] f fd) : FnOk P w K mg base CX0 41 f fd ["value"] (FSp (relCIs CS C)) := by
  refine fn_ok D sc_check_is_span fun Ps r h => ?_
  obtain ⟨a, b, rfl, rfl⟩ := h
  refine ⟨rfl, fun f cdv A outer s H E hr => ?_⟩
  have F := fam_bx (P := P) (w := w) (K := K) (mg := mg) (base := base) (f := f) (cdv := cdv) (s := s) (H := H) (E := E) (outer := outer) sc_check_is_span.nd W.see W.tr sc_check_is_span.gen sc_check_is_span.co hr
  exact sg_one (sg1_if_no (et_not (et_v (eg_callB F (ca_isi F (b := true) (has_O cs) (.own CS) cs.kc) Bn.isinstance (by decide +kernel) (ea_cons (eg_nm F 0) (ea_cons (eg_glob F mS rfl) ea_nil))))) (sg_nil .rfl))
def boxF (CS C : Addr) (a b p q : Rat) : List (Str × Ty) := [("x", spanT CS C a b), ("y", spanT CS C p q)]
def boxT (CB CS C : Addr) (a b p q : Rat) : Ty := tO CB (boxF CS C a b p q)
def relBxI (CS C : Addr) : List Ty → List (Str × Ty) → Prop := fun Ps fs => ∃ a b p q : Rat, Ps = [spanT CS C a b, spanT CS C p q] ∧ fs = boxF CS C a b p q
theorem sc_Box___init__ : FnScope ["self", "x", "y"] ["self", "x", "y"] (defScope (mth 24 0)) := ⟨rfl, rfl, rfl, by decide +kernel, rfl, by decide +kernel, by decide +kernel⟩
theorem ok_Box___init__ (W : Wd P base) (Bn : BN mg) (gS : FnT P w K mg base "check_is_span" 41 (FSp (relCIs CS C))) (cl : Cls K CB) (n1 : NoAttr K CB "x") (n2 : NoAttr K CB "y") (D : FD K "__init__" "Box.__init__" (mth 24 0) [] f fd) : FnOk P w K mg base CX0 42 f fd ["self", "x", "y"] (ISp CB (relBxI CS C)) := by
  refine fn_okI D sc_Box___init__ fun Ps r h => ?_
  obtain ⟨a, b, p, q, rfl, rfl⟩ := h
  refine ⟨rfl, fun z dx f cdv A outer s H E hr => ?_⟩
  have F := fam_bx (P := P) (w := w) (K := K) (mg := mg) (base := base) (f := f) (cdv := cdv) (s := s) (H := H) (E := E) (outer := outer) sc_Box___init__.nd W.see W.tr sc_Box___init__.gen sc_Box___init__.co hr
  refine sg_cons (sg1_expr (eg_call F gS (ea_cons (eg_nm F 1) ea_nil) ⟨a, b, rfl, rfl⟩) ?_)
  refine sg_cons (sg1_expr (eg_call F gS (ea_cons (eg_nm F 2) ea_nil) ⟨p, q, rfl, rfl⟩) ?_)
  refine sg_cons (sg1_fld F 0 (A := spanT CS C a b) cl n1 (eg_nm F 1) rfl ?_)
  exact sg_one (sg1_fld F 0 (A := spanT CS C p q) cl n2 (eg_nm F 2) rfl rfl)
def relBxE (K : PySem.W.Frag) (CB CS C : Addr) : List Ty → Ty → Prop := fun Ps r => (∃ a b p q a' b' p' q' : Rat, Ps = [boxT CB CS C a b p q, boxT CB CS C a' b' p' q'] ∧ r = tB ((decide (a = a') && decide (b = b')) && (decide (p = p') && decide (q = q')))) ∨
  ∃ (a b p q : Rat) (A : Ty) (t : Value), Ps = [boxT CB CS C a b p q, A] ∧ HasT K A t ∧ PySem.W.kitOne K t (.ref CB) = some false ∧ r = tB false
/-- Span, once its defs are shown -/
structure SpanOk (P : Program) (w : World) (K : PySem.W.Frag) (mg : Str → Option Value) (base : Heap) (C CS : Addr) : Prop where
  cf : CF K CS
  mS : mg "Span" = some (.ref CS)
  n1 : NoAttr K CS "low"
  n2 : NoAttr K CS "high"
  mak : MakT P w K mg base CS 47 [] (ISp CS (relSpI C))
  eq : MethT P w K mg base CS "__eq__" 48 (FSp (relSpE K CS C))
theorem span_eqT (S : SpanOk P w K mg base C CS) {ι : Type} {X : ι → Cx} {m : Option Addr} {N : List Str} {k : Nat} (F : Fam X P w K mg base N k) (a b p q : Rat) (hk : 48 ≤ k := by decide) : OpT X m (compareOp .Eq) (spanT CS C a b) (spanT CS C p q) (tB (decide (a = p) && decide (b = q))) :=
  eq_own F S.eq (has_O S.cf) (by simp [PySem.W.notFirst]) (.inl ⟨a, b, p, q, rfl, rfl⟩) hk
theorem sc_Box___eq__ : FnScope ["self", "other"] ["self", "other"] (defScope (mth 24 1)) := ⟨rfl, rfl, rfl, by decide +kernel, rfl, by decide +kernel, by decide +kernel⟩
theorem ok_Box___eq__ (W : Wd P base) (Bn : BN mg) (S : SpanOk P w K mg base C CS) (cs : CF K CB) (mS : mg "Box" = some (.ref CB)) (n1 : NoAttr K CB "x") (n2 : NoAttr K CB "y") (D : FD K "__eq__" "Box.__eq__" (mth 24 1) [] f fd) : FnOk P w K mg base CX0 50 f fd ["self", "other"] (FSp (relBxE K CB CS C)) := by
  refine fn_ok D sc_Box___eq__ fun Ps r h => ?_
  obtain ⟨a, b, p, q, a', b', p', q', rfl, rfl⟩ | ⟨a, b, p, q, T, t, rfl, hT, hk, rfl⟩ := h
  refine ⟨rfl, fun f cdv A outer s H E hr => ?_⟩
  have F := fam_bx (P := P) (w := w) (K := K) (mg := mg) (base := base) (f := f) (cdv := cdv) (s := s) (H := H) (E := E) (outer := outer) sc_Box___eq__.nd W.see W.tr sc_Box___eq__.gen sc_Box___eq__.co hr
  · refine sg_cons (sg1_if_no (et_not (et_v (eg_callB F (ca_isi F (b := true) (has_O cs) (.own CB) cs.kc) Bn.isinstance (by decide +kernel) (ea_cons (eg_nm F 1) (ea_cons (eg_glob F mS rfl) ea_nil))))) (sg_nil ?_))
    exact sg_one (sg1_ret (eg_and (eg_cmp (span_eqT S F a b a' b') (eg_fld F cs.cl n1 (eg_nm F 0) rfl) (eg_fld F cs.cl n1 (eg_nm F 1) rfl)) fun _ => eg_one (eg_cmp (span_eqT S F p q p' q') (eg_fld F cs.cl n2 (eg_nm F 0) rfl) (eg_fld F cs.cl n2 (eg_nm F 1) rfl))))
  · refine ⟨rfl, fun f cdv A outer s H E hr => ?_⟩
    have F := fam_bx (P := P) (w := w) (K := K) (mg := mg) (base := base) (f := f) (cdv := cdv) (s := s) (H := H) (E := E) (outer := outer) sc_Box___eq__.nd W.see W.tr sc_Box___eq__.gen sc_Box___eq__.co hr
    exact sg_cons (sg1_if (b := true) (et_not (et_v (eg_callB F (ca_isi F (b := false) hT (.own CB) hk) Bn.isinstance (by decide +kernel) (ea_cons (eg_nm F 1) (ea_cons (eg_glob F mS rfl) ea_nil))))) (fun _ => sg_one (sg1_ret eg_bl)) fun z => by cases z)
end

section
variable {P : Program} {w : World} {K : PySem.W.Frag} {mg : Str → Option Value} {base : Heap} {f C CP : Addr} {fd : FuncData}
abbrev Row := Int × Int × Int
def tri (r : Row) : List Int := [r.1, r.2.1, r.2.2]
def rowTy (K : PySem.W.Frag) (r : Row) : Ty := tTI K (tri r)
def rowsT (K : PySem.W.Frag) (l : List Row) : Ty := tL K (l.map (rowTy K))
def relWR (K : PySem.W.Frag) : List Ty → Ty → Prop := fun Ps r => ∃ ns : List Int, Ps = [tTI K ns] ∧ ns.length < 100000 ∧ r = tB true
theorem all_true {α : Type} (l : List α) : (l.map fun _ => true).all id = true := by simp
theorem sc_is_whole_row : FnScope ["value", "x"] ["value"] (defScope (top 7)) := ⟨rfl, rfl, rfl, by decide +kernel, rfl, by decide +kernel, by decide +kernel⟩
theorem ok_is_whole_row (W : Wd P base) (Bn : BN mg) (gI : FnT P w K mg base "is_integer" 41 (FSp relInt)) (D : FD K "is_whole_row" "is_whole_row" (top 7) [] f fd) : FnOk P w K mg base CX0 42 f fd ["value"] (FSp (relWR K)) := by
  refine fn_ok D sc_is_whole_row fun Ps r h => ?_
  obtain ⟨ns, rfl, hn, rfl⟩ := h
  refine ⟨rfl, fun f cdv A outer s H E hr => ?_⟩
  have F := fam_bx (P := P) (w := w) (K := K) (mg := mg) (base := base) (f := f) (cdv := cdv) (s := s) (H := H) (E := E) (outer := outer) sc_is_whole_row.nd W.see W.tr sc_is_whole_row.gen sc_is_whole_row.co hr
  refine sg_one (sg1_ret (eg_eq (eg_and (eg_callB F (ca_isi F (b := true) has_T (.ty "tuple") (kit_ty (by decide +kernel))) Bn.isinstance (by decide +kernel) (ea_cons (eg_nm F 0) (ea_cons (eg_bltn F Bn.tuple (by decide +kernel) rfl) ea_nil))) fun _ => eg_one (eg_callB F (ca_all F (bs := ns.map fun _ => true)) Bn.all (by decide +kernel) (ea_cons (eg_eq (eg_map F (own := [("x", 1)]) (l := ns) (f := tI) (g := fun _ => tB true) (fun _ => blkOk_by (N := ["value", "x"]) (sc := defScope (top 7)) (by decide +kernel)) (it_tup F (eg_nm F 0)) hn (fun i hi => ⟨_, _, tg_nm (F.blk _) 1, by decide, eg_call (F.blk _) gI (ea_cons (eg_nm (F.blk _) 1) ea_nil) ⟨i, rfl, rfl⟩⟩)) ?_) ea_nil))) ?_))
  · rw [List.map_map]; rfl
  · rw [all_true]; rfl
structure RowsOk (l : List Row) : Prop where
  len : l.length < 1000
  bd : ∀ r ∈ l, (0 ≤ r.1 ∧ r.1 ≤ 12) ∧ 0 ≤ r.2.1 ∧ r.2.1 ≤ 12
def relAR (K : PySem.W.Frag) : List Ty → Ty → Prop := fun Ps r => ∃ l : List Row, Ps = [rowsT K l] ∧ RowsOk l ∧ r = tB true
theorem sc_are_rows : FnScope ["value", "own", "i", "j", "_"] ["value"] (defScope (top 19)) := ⟨rfl, rfl, rfl, by decide +kernel, rfl, by decide +kernel, by decide +kernel⟩
theorem ok_are_rows (W : Wd P base) (Bn : BN mg) (gW : FnT P w K mg base "is_whole_row" 42 (FSp (relWR K))) (mM : ∃ t, mg "MOST_DEGREE" = some (.int 12 t)) (D : FD K "are_rows" "are_rows" (top 19) [] f fd) : FnOk P w K mg base CX0 43 f fd ["value"] (FSp (relAR K)) := by
  refine fn_ok D sc_are_rows fun Ps r h => ?_
  obtain ⟨l, rfl, hl, rfl⟩ := h
  refine ⟨rfl, fun f cdv A outer s H E hr => ?_⟩
  have F := fam_bx (P := P) (w := w) (K := K) (mg := mg) (base := base) (f := f) (cdv := cdv) (s := s) (H := H) (E := E) (outer := outer) sc_are_rows.nd W.see W.tr sc_are_rows.gen sc_are_rows.co hr
  obtain ⟨tk, mM⟩ := mM
  refine sg_cons (sg1_if_no (et_w (ew_or (et_not (et_v (eg_isiT F (b := true) has_L (.ty "list") (.ty "tuple") (kitAny_cons (b := true) (kit_ty (by decide +kernel)) (fun z => by cases z) fun _ => rfl) Bn.isinstance (eg_nm F 0) (eg_bltn F Bn.list (by decide +kernel) rfl) (eg_bltn F Bn.tuple (by decide +kernel) rfl))))
    fun _ => ew_or1 (et_not (et_v (eg_eq (eg_callB F (ca_all F (bs := l.map fun _ => true)) Bn.all (by decide +kernel) (ea_cons (eg_eq (eg_map F (own := [("own", 1)]) (l := l) (f := rowTy K) (g := fun _ => tB true) (fun _ => blkOk_by (N := ["value", "own", "i", "j", "_"]) (sc := defScope (top 19)) (by decide +kernel)) (it_list F (eg_nm F 0)) (by have := hl.len; omega) (fun r hr => ⟨_, _, tg_nm (F.blk _) 1, by decide, eg_eq (eg_and (eg_call (F.blk _) gW (ea_cons (eg_nm (F.blk _) 1) ea_nil) ⟨tri r, rfl, (by show 3 < 100000; decide), rfl⟩)
      fun _ => eg_one (eg_cmp eq_II (eg_callB (F.blk _) (ca_lenT (F.blk _)) Bn.len (by decide +kernel) (ea_cons (eg_nm (F.blk _) 1) ea_nil)) eg_int)) rfl⟩)) (by rw [List.map_map]; rfl)) ea_nil)) (congrArg tB (all_true l))))))) (sg_nil ?_))
  refine sg_one (sg1_ret (eg_eq (eg_callB F (ca_all F (bs := l.map fun _ => true)) Bn.all (by decide +kernel) (ea_cons (eg_eq (eg_map F (own := [("i", 2), ("j", 3), ("_", 4)]) (l := l) (f := rowTy K) (g := fun _ => tB true) (fun _ => blkOk_by (N := ["value", "own", "i", "j", "_"]) (sc := defScope (top 19)) (by decide +kernel)) (it_list F (eg_nm F 0)) (by have := hl.len; omega) (fun r hr => ⟨_, _, tg_tup (F.blk _) (tgs_cons (tg_nm (F.blk _) 2) (tgs_cons (tg_nm (F.blk _) 3) (tgs_cons (tg_nm (F.blk _) 4) tgs_nil))), by decide, ?_⟩)) (by rw [List.map_map]; rfl)) ea_nil)) (congrArg tB (all_true l))))
  obtain ⟨⟨h1, h2⟩, h3, h4⟩ := hl.bd r hr
  refine eg_eq (eg_and (eg_chain le_II le_II eg_int (eg_nm (F.blk _) 2) (eg_glob (F.blk _) mM ⟨tk, rfl⟩)) fun _ => eg_one (eg_chain le_II le_II eg_int (eg_nm (F.blk _) 3) (eg_glob (F.blk _) mM ⟨tk, rfl⟩))) ?_
  rw [decide_eq_true h1, decide_eq_true h2, decide_eq_true h3, decide_eq_true h4]; rfl
/-! ### the table of a Pair -/
def keyOf (r : Row) : List Int := [r.1, r.2.1]
def tblStep (t : List (List Int × Int)) (r : Row) : List (List Int × Int) := dPut t (keyOf r) ((dGet t (keyOf r)).getD 0 + r.2.2)
def tbl (l : List Row) : List (List Int × Int) := l.foldl tblStep []
def tblVal (t : List (List Int × Int)) (k : List Int) : Int := (dGet t k).getD 0
def prow (l : List Row) : List (List Int) := ((sortL ((tbl l).map (·.1))).filter fun k => decide (tblVal (tbl l) k ≠ 0)).map fun k => k ++ [tblVal (tbl l) k]
theorem dPut_keys {t : List (List Int × Int)} {k : List Int} {v : Int} {d : Nat} (hk : k.length = d) (h : ∀ p ∈ t, p.1.length = d) : ∀ p ∈ dPut t k v, p.1.length = d := by
  intro p hp
  unfold dPut at hp
  split at hp
  · obtain ⟨q, hq, rfl⟩ := List.mem_map.mp hp
    split <;> exact h q hq
  · rcases List.mem_append.mp hp with hp | hp
    · exact h p hp
    · rw [List.mem_singleton.mp hp]; exact hk
theorem fold_inv {α β : Type} (f : β → α → β) (Q : Nat → β → Prop) : ∀ (l : List α) (b : β) (n : Nat), Q n b → (∀ n b a, Q n b → Q (n + 1) (f b a)) → Q (n + l.length) (l.foldl f b)
  | [], b, n, h, _ => h
  | a :: l, b, n, h, s => by
    rw [List.foldl_cons, List.length_cons, show n + (l.length + 1) = n + 1 + l.length by omega]
    exact fold_inv f Q l (f b a) (n + 1) (s n b a h) s
theorem tbl_inv (l : List Row) : (tbl l).length ≤ l.length ∧ ∀ p ∈ tbl l, p.1.length = 2 := by
  have := fold_inv tblStep (fun n t => t.length ≤ n ∧ ∀ p ∈ t, p.1.length = 2) l [] 0 ⟨Nat.le_refl _, fun p hp => by cases hp⟩ fun n t r ⟨h1, h2⟩ =>
    ⟨Nat.le_trans (dPut_len _ _ _) (by omega), dPut_keys (show (keyOf r).length = 2 from rfl) h2⟩
  rw [Nat.zero_add] at this
  exact this
theorem tbl_take {l : List Row} {n : Nat} {r : Row} (h : l[n]? = some r) : tbl (l.take (n + 1)) = tblStep (tbl (l.take n)) r := by
  unfold tbl
  rw [List.take_succ, h, List.foldl_append]; rfl
theorem dGet_mem {t : List (List Int × Int)} {k : List Int} (h : k ∈ t.map (·.1)) : dGet t k = some (tblVal t k) := by
  unfold tblVal
  cases e : dGet t k with
  | some v => rfl
  | none =>
    unfold dGet at e
    rw [Option.map_eq_none_iff, List.find?_eq_none] at e
    obtain ⟨p, hp, hk⟩ := List.mem_map.mp h
    exact absurd (by simpa using hk) (e p hp)
def pairF (K : PySem.W.Frag) (rs : List (List Int)) : List (Str × Ty) := [("rows", tT K (rs.map fun ns => tTI K ns))]
def pairT (K : PySem.W.Frag) (CP : Addr) (rs : List (List Int)) : Ty := tO CP (pairF K rs)
def relPrI (K : PySem.W.Frag) : List Ty → List (Str × Ty) → Prop := fun Ps fs => ∃ l : List Row, Ps = [rowsT K l] ∧ RowsOk l ∧ fs = pairF K (prow l)
theorem sc_Pair___init__ : FnScope ["self", "rows", "table", "i", "j", "c"] ["self", "rows"] (defScope (mth 18 0)) := ⟨rfl, rfl, rfl, by decide +kernel, rfl, by decide +kernel, by decide +kernel⟩
theorem ok_Pair___init__ (W : Wd P base) (Bn : BN mg) (gA : FnT P w K mg base "are_rows" 43 (FSp (relAR K))) (cl : Cls K CP) (n1 : NoAttr K CP "rows") (D : FD K "__init__" "Pair.__init__" (mth 18 0) [] f fd) : FnOk P w K mg base CX0 44 f fd ["self", "rows"] (ISp CP (relPrI K)) := by
  refine fn_okI D sc_Pair___init__ fun Ps r h => ?_
  obtain ⟨l, rfl, hl, rfl⟩ := h
  refine ⟨rfl, fun z dx f cdv A outer s H E hr => ?_⟩
  have F := fam_bx (P := P) (w := w) (K := K) (mg := mg) (base := base) (f := f) (cdv := cdv) (s := s) (H := H) (E := E) (outer := outer) sc_Pair___init__.nd W.see W.tr sc_Pair___init__.gen sc_Pair___init__.co hr
  refine sg_cons (sg1_if_no (et_not (et_v (eg_call F gA (ea_cons (eg_nm F 1) ea_nil) ⟨l, rfl, hl, rfl⟩))) (sg_nil ?_))
  refine sg_cons (sg1_setN F 2 en_dict0 ?_)
  refine sg_cons (sg1_for F (it_list F (eg_nm F 1)) (fun n Δ => SubG Δ [.ow (cO CP z dx []), .sh (rowsT K l), .ow (cD (tbl (l.take n))), .un, .un, .un]) (.cons .same (.cons .same (.cons .same (.cons .un (.cons .un (.cons .un .nil)))))) (fun n A Δ hA hI => ?_) fun Δ hI => ?_)
  · rw [List.getElem?_map] at hA
    obtain ⟨r, hr, rfl⟩ := Option.map_eq_some_iff.mp hA
    refine ⟨_, _, tg_tup F (tgs_cons (tg_nm F 3) (tgs_cons (tg_nm F 4) (tgs_cons (tg_nm F 5) tgs_nil))), sg_weak (sub_set (sub_set (sub_set hI 3) 4) 5) ?_⟩
    refine sg_one (sg1_dput F 2 (ns := keyOf r) (kvs := tbl (l.take n)) (eg_op add_II (eg_dgetO F 2 (ns := keyOf r) (eg_tupU (ea_cons (eg_nm F 3) (ea_cons (eg_nm F 4) ea_nil))) eg_int) (eg_nm F 5)) (eg_tupU (ea_cons (eg_nm F 3) (ea_cons (eg_nm F 4) ea_nil))) rfl ?_ ?_)
    · rw [tbl_take hr]
      exact .cons .same (.cons .same (.cons .same (.cons .un (.cons .un (.cons .un .nil)))))
    · have := (tbl_inv (l.take n)).1
      have := hl.len
      rw [List.length_take] at *
      omega
  · rw [List.length_map, List.take_length] at hI
    refine sg_weak hI (sg_fr 2 rfl cD_fr ?_)
    refine sg_one (sg1_fld F 0 (A := tT K ((prow l).map fun ns => tTI K ns)) cl n1 (eg_callTy F (ca_tupL F) Bn.tuple (by decide +kernel) (ea_cons (eg_eq (eg_filt F (own := [("i", 3), ("j", 4)]) (l := sortL ((tbl l).map (·.1))) (f := fun ns => tTI K ns) (fun k => decide (tblVal (tbl l) k ≠ 0)) (g := fun k => tTI K (k ++ [tblVal (tbl l) k])) (fun _ => blkOk_by (N := ["self", "rows", "table", "i", "j", "c"]) (sc := defScope (mth 18 0)) (by decide +kernel)) (it_list F (eg_callB F (ca_srtD F (d := 2) (by decide) (tbl_inv l).2) Bn.sorted (by decide +kernel) (ea_cons (eg_nm F 2) ea_nil))) ?_ (fun k hk => ?_)) ?_) ea_nil)) rfl rfl)
    · rw [(sortL_perm _).length_eq, List.length_map]
      have := (tbl_inv l).1
      have := hl.len
      omega
    · have hm := (sortL_perm _).mem_iff.mp hk
      obtain ⟨p, hp, e⟩ := List.mem_map.mp hm
      have h2 := (tbl_inv l).2 p hp
      rw [e] at h2
      obtain ⟨a, b, rfl⟩ : ∃ a b, k = [a, b] := by
        match k, h2 with
        | [a, b], _ => exact ⟨a, b, rfl⟩
      refine ⟨_, _, tg_tup (F.blk _) (tgs_cons (tg_nm (F.blk _) 3) (tgs_cons (tg_nm (F.blk _) 4) tgs_nil)), by decide, ?_, fun _ => ?_⟩
      · exact et_eq (et_cmp ne_II (eg_dget (F.blk _) (ns := [a, b]) (eg_nm (F.blk _) 2) (eg_tupU (ea_cons (eg_nm (F.blk _) 3) (ea_cons (eg_nm (F.blk _) 4) ea_nil))) (dGet_mem hm)) eg_int) (by simp)
      · exact eg_tup (ea_cons (eg_nm (F.blk _) 3) (ea_cons (eg_nm (F.blk _) 4) (ea_cons (eg_dget (F.blk _) (ns := [a, b]) (eg_nm (F.blk _) 2) (eg_tupU (ea_cons (eg_nm (F.blk _) 3) (ea_cons (eg_nm (F.blk _) 4) ea_nil))) (dGet_mem hm)) ea_nil)))
    · unfold prow; rw [List.map_map]; rfl
def relPrE (K : PySem.W.Frag) (CP : Addr) : List Ty → Ty → Prop := fun Ps r => (∃ a b : List (List Int), Ps = [pairT K CP a, pairT K CP b] ∧ r = tB (decide (a = b))) ∨ ∃ (a : List (List Int)) (A : Ty) (t : Value), Ps = [pairT K CP a, A] ∧ HasT K A t ∧ PySem.W.kitOne K t (.ref CP) = some false ∧ r = tB false
theorem sc_Pair___eq__ : FnScope ["self", "other"] ["self", "other"] (defScope (mth 18 1)) := ⟨rfl, rfl, rfl, by decide +kernel, rfl, by decide +kernel, by decide +kernel⟩
theorem ok_Pair___eq__ (W : Wd P base) (Bn : BN mg) (cs : CF K CP) (mS : mg "Pair" = some (.ref CP)) (n1 : NoAttr K CP "rows") (D : FD K "__eq__" "Pair.__eq__" (mth 18 1) [] f fd) : FnOk P w K mg base CX0 44 f fd ["self", "other"] (FSp (relPrE K CP)) := by
  refine fn_ok D sc_Pair___eq__ fun Ps r h => ?_
  obtain ⟨a, b, rfl, rfl⟩ | ⟨a, T, t, rfl, hT, hk, rfl⟩ := h
  refine ⟨rfl, fun f cdv A outer s H E hr => ?_⟩
  have F := fam_bx (P := P) (w := w) (K := K) (mg := mg) (base := base) (f := f) (cdv := cdv) (s := s) (H := H) (E := E) (outer := outer) sc_Pair___eq__.nd W.see W.tr sc_Pair___eq__.gen sc_Pair___eq__.co hr
  · refine sg_cons (sg1_if_no (et_not (et_v (eg_callB F (ca_isi F (b := true) (has_O cs) (.own CP) cs.kc) Bn.isinstance (by decide +kernel) (ea_cons (eg_nm F 1) (ea_cons (eg_glob F mS rfl) ea_nil))))) (sg_nil ?_))
    exact sg_one (sg1_ret (eg_cmp (eq_TT F) (eg_fld F cs.cl n1 (eg_nm F 0) rfl) (eg_fld F cs.cl n1 (eg_nm F 1) rfl)))
  · refine ⟨rfl, fun f cdv A outer s H E hr => ?_⟩
    have F := fam_bx (P := P) (w := w) (K := K) (mg := mg) (base := base) (f := f) (cdv := cdv) (s := s) (H := H) (E := E) (outer := outer) sc_Pair___eq__.nd W.see W.tr sc_Pair___eq__.gen sc_Pair___eq__.co hr
    exact sg_cons (sg1_if (b := true) (et_not (et_v (eg_callB F (ca_isi F (b := false) hT (.own CP) hk) Bn.isinstance (by decide +kernel) (ea_cons (eg_nm F 1) (ea_cons (eg_glob F mS rfl) ea_nil))))) (fun _ => sg_one (sg1_ret eg_bl)) fun z => by cases z)
end

section
variable {P : Program} {w : World} {K : PySem.W.Frag} {mg : Str → Option Value} {base : Heap} {f C CS CB : Addr} {fd : FuncData}
/-! ### equality, asked from anywhere -/
def EqT (P : Program) (w : World) (K : PySem.W.Frag) (mg : Str → Option Value) (base : Heap) (A B : Ty) (b : Bool) : Prop := ∀ (ι : Type) (X : ι → Cx) (m : Option Addr) (N : List Str) (k : Nat), Fam X P w K mg base N k → 60 ≤ k → OpT X m (compareOp .Eq) A B (tB b)
def relSays : List Ty → Ty → Prop := fun Ps r => ∃ a b : Bool, Ps = [tB a, tB b] ∧ r = tB (decide (a = b))
theorem sc__law_says : FnScope ["value", "due"] ["value", "due"] (defScope (top 28)) := ⟨rfl, rfl, rfl, by decide +kernel, rfl, by decide +kernel, by decide +kernel⟩
theorem ok__law_says (W : Wd P base) (Bn : BN mg)  (D : FD K "_law_says" "_law_says" (top 28) [] f fd) : FnOk P w K mg base CX0 41 f fd ["value", "due"] (FSp relSays) := by
  refine fn_ok D sc__law_says fun Ps r h => ?_
  obtain ⟨a, b, rfl, rfl⟩ := h
  refine ⟨rfl, fun f cdv A outer s H E hr => ?_⟩
  have F := fam_bx (P := P) (w := w) (K := K) (mg := mg) (base := base) (f := f) (cdv := cdv) (s := s) (H := H) (E := E) (outer := outer) sc__law_says.nd W.see W.tr sc__law_says.gen sc__law_says.co hr
  refine sg_one (sg1_ret (eg_eq (eg_and (eg_callB F (ca_isi F (b := true) has_B (.ty "bool") (kit_ty (by decide +kernel))) Bn.isinstance (by decide +kernel) (ea_cons (eg_nm F 0) (ea_cons (eg_bltn F Bn.bool (by decide +kernel) rfl) ea_nil))) fun _ => eg_one (eg_cmp eq_BB (eg_nm F 0) (eg_nm F 1))) rfl))
/-- one is anew, and is none of the others -/
def relAsked (P : Program) (w : World) (K : PySem.W.Frag) (mg : Str → Option Value) (base : Heap) : List Ty → Ty → Prop := fun Ps r => ∃ (A B : Ty) (Cs : List Ty), Ps = [A, B, tL K Cs] ∧ EqT P w K mg base A B true ∧ EqT P w K mg base B A true ∧ (∀ D ∈ Cs, EqT P w K mg base A D false ∧ EqT P w K mg base D A false) ∧ Cs.length < 1000 ∧ r = tB true
theorem sc__law_asked : FnScope ["one", "anew", "others", "two"] ["one", "anew", "others"] (defScope (top 29)) := ⟨rfl, rfl, rfl, by decide +kernel, rfl, by decide +kernel, by decide +kernel⟩
theorem ok__law_asked (W : Wd P base) (Bn : BN mg) (gS : FnT P w K mg base "_law_says" 41 (FSp relSays)) (D : FD K "_law_asked" "_law_asked" (top 29) [] f fd) : FnOk P w K mg base CX0 71 f fd ["one", "anew", "others"] (FSp (relAsked P w K mg base)) := by
  refine fn_ok D sc__law_asked fun Ps r h => ?_
  obtain ⟨A0, B0, Cs, rfl, h1, h2, h3, hl, rfl⟩ := h
  refine ⟨rfl, fun f cdv A outer s H E hr => ?_⟩
  have F := fam_bx (P := P) (w := w) (K := K) (mg := mg) (base := base) (f := f) (cdv := cdv) (s := s) (H := H) (E := E) (outer := outer) sc__law_asked.nd W.see W.tr sc__law_asked.gen sc__law_asked.co hr
  refine sg_cons (sg1_if_no (et_w (ew_or (et_not (et_v (eg_call F gS (ea_cons (eg_cmp (h1 _ _ _ _ _ F (by decide)) (eg_nm F 0) (eg_nm F 1)) (ea_cons eg_bl ea_nil)) ⟨true, true, rfl, rfl⟩)))
    fun _ => ew_or1 (et_not (et_v (eg_call F gS (ea_cons (eg_cmp (h2 _ _ _ _ _ F (by decide)) (eg_nm F 1) (eg_nm F 0)) (ea_cons eg_bl ea_nil)) ⟨true, true, rfl, rfl⟩))))) (sg_nil ?_))
  refine sg_one (sg1_ret (eg_eq (eg_callB F (ca_all F (bs := Cs.map fun _ => true)) Bn.all (by decide +kernel) (ea_cons (eg_eq (eg_map F (own := [("two", 3)]) (l := Cs) (f := id) (g := fun _ => tB true) (fun _ => blkOk_by (N := ["one", "anew", "others", "two"]) (sc := defScope (top 29)) (by decide +kernel)) ?_ (by omega) (fun D hD => ⟨_, _, tg_nm (F.blk _) 3, by decide, ?_⟩)) ?_) ea_nil)) ?_))
  · rw [List.map_id]; exact it_list F (eg_nm F 2)
  · obtain ⟨g1, g2⟩ := h3 D hD
    refine eg_eq (eg_and (eg_call (F.blk _) gS (ea_cons (eg_cmp (g1 _ _ _ _ _ (F.blk _) (by decide)) (eg_nm (F.blk _) 0) (eg_nm (F.blk _) 3)) (ea_cons eg_bl ea_nil)) ⟨false, false, rfl, rfl⟩) fun _ => eg_one (eg_call (F.blk _) gS (ea_cons (eg_cmp (g2 _ _ _ _ _ (F.blk _) (by decide)) (eg_nm (F.blk _) 3) (eg_nm (F.blk _) 0)) (ea_cons eg_bl ea_nil)) ⟨false, false, rfl, rfl⟩)) rfl
  · rw [List.map_map]; rfl
  · congr 1; simp
end

end Rt

set_option Elab.async false
set_option linter.all false
set_option maxRecDepth 100000
set_option maxHeartbeats 4000000
namespace Rt
open PySem PySem.Spec PyProof.Rows L2

/-! ### what a Pair's rows say: coefficients by place -/
theorem dGet_put (t : List (List Int × Int)) (k k' : List Int) (v : Int) : dGet (dPut t k v) k' = if k = k' then some v else dGet t k' := by
  unfold dPut
  by_cases h : (t.any fun p => decide (p.1 = k)) = true
  · rw [if_pos h]
    induction t with
    | nil => cases h
    | cons p r ih =>
      rw [List.map_cons]
      by_cases e : p.1 = k
      · rw [if_pos e]
        by_cases e2 : k = k'
        · rw [if_pos e2]
          unfold dGet
          rw [List.find?_cons_of_pos (by simpa [e] using e2)]
          rfl
        · rw [if_neg e2]
          unfold dGet
          rw [List.find?_cons_of_neg (by simpa [e] using e2), List.find?_cons_of_neg (by simpa [e] using e2)]
          by_cases hr : (r.any fun p => decide (p.1 = k)) = true
          · have := ih hr
            rw [if_neg e2] at this
            exact this
          · have : r.map (fun p => if p.1 = k then (p.1, v) else p) = r := by
              rw [List.any_eq_true] at hr
              refine (List.map_congr_left fun q hq => ?_).trans (List.map_id r)
              exact if_neg fun z => hr ⟨q, hq, decide_eq_true z⟩
            rw [this]
      · rw [if_neg e]
        have hr : (r.any fun p => decide (p.1 = k)) = true := by
          rw [List.any_cons] at h
          simpa [e] using h
        have i := ih hr
        unfold dGet at i ⊢
        by_cases e3 : p.1 = k'
        · rw [List.find?_cons_of_pos (by simpa using e3), List.find?_cons_of_pos (by simpa using e3), if_neg (fun z => e (e3.trans z.symm))]
        · rw [List.find?_cons_of_neg (by simpa using e3), List.find?_cons_of_neg (by simpa using e3)]
          exact i
  · rw [if_neg h]
    unfold dGet
    rw [List.find?_append]
    by_cases e : k = k'
    · subst e
      rw [if_pos rfl]
      have : t.find? (fun p => decide (p.1 = k)) = none := List.find?_eq_none.mpr fun p hp z => h (List.any_eq_true.mpr ⟨p, hp, z⟩)
      rw [this]
      simp
    · rw [if_neg e]
      have : ([(k, v)] : List (List Int × Int)).find? (fun p => decide (p.1 = k')) = none := by simp [e]
      rw [this]
      simp
def coef (l : List Row) (k : List Int) : Int := (l.map fun r => if keyOf r = k then r.2.2 else 0).sum
theorem coef_nil (k : List Int) : coef [] k = 0 := rfl
theorem coef_cons (r : Row) (l : List Row) (k : List Int) : coef (r :: l) k = (if keyOf r = k then r.2.2 else 0) + coef l k := by unfold coef; rw [List.map_cons, List.sum_cons]
theorem coef_app (l m : List Row) (k : List Int) : coef (l ++ m) k = coef l k + coef m k := by unfold coef; rw [List.map_append, List.sum_append]
theorem coef_rev (l : List Row) (k : List Int) : coef l.reverse k = coef l k := by
  induction l with
  | nil => rfl
  | cons r l ih => rw [List.reverse_cons, coef_app, ih, coef_cons, coef_cons, coef_nil]; omega
theorem tbl_val (l : List Row) (k : List Int) : ∀ t, tblVal (l.foldl tblStep t) k = tblVal t k + coef l k := by
  induction l with
  | nil => intro t; rw [coef_nil]; exact (Int.add_zero _).symm
  | cons r l ih =>
    intro t
    rw [List.foldl_cons, ih, coef_cons]
    unfold tblStep tblVal
    rw [dGet_put]
    by_cases e : keyOf r = k
    · rw [if_pos e, if_pos e, e]
      simp only [Option.getD_some]
      omega
    · rw [if_neg e, if_neg e]
      omega
theorem tbl_coef (l : List Row) (k : List Int) : tblVal (tbl l) k = coef l k := by
  unfold tbl
  rw [tbl_val]
  show 0 + coef l k = coef l k
  omega
theorem dPut_nd {t : List (List Int × Int)} {k : List Int} {v : Int} (h : (t.map (·.1)).Nodup) : ((dPut t k v).map (·.1)).Nodup := by
  unfold dPut
  split
  · rename_i q
    have : (t.map fun p => if p.1 = k then (p.1, v) else p).map (·.1) = t.map (·.1) := by
      rw [List.map_map]
      refine List.map_congr_left fun p _ => ?_
      show (if p.1 = k then (p.1, v) else p).1 = p.1
      split <;> rfl
    rw [this]; exact h
  · rename_i q
    rw [List.map_append, List.nodup_append]
    refine ⟨h, by simp, fun a ha b hb => ?_⟩
    rw [List.map_cons, List.map_nil, List.mem_singleton] at hb
    subst hb
    rintro rfl
    obtain ⟨p, hp, e⟩ := List.mem_map.mp ha
    exact q (List.any_eq_true.mpr ⟨p, hp, decide_eq_true e⟩)
theorem tbl_nd (l : List Row) : ((tbl l).map (·.1)).Nodup := by
  have := fold_inv tblStep (fun _ t => (t.map (·.1)).Nodup) l [] 0 List.nodup_nil fun n t r h => dPut_nd h
  exact this
theorem not_key {t : List (List Int × Int)} {k : List Int} (h : k ∉ t.map (·.1)) : tblVal t k = 0 := by
  unfold tblVal
  have : dGet t k = none := by
    unfold dGet
    rw [Option.map_eq_none_iff, List.find?_eq_none]
    exact fun p hp z => h (List.mem_map.mpr ⟨p, hp, of_decide_eq_true z⟩)
  rw [this]; rfl
def pkeys (l : List Row) : List (List Int) := (sortL ((tbl l).map (·.1))).filter fun k => decide (tblVal (tbl l) k ≠ 0)
theorem prow_eq (l : List Row) : prow l = (pkeys l).map fun k => k ++ [coef l k] := by
  unfold prow pkeys
  refine List.map_congr_left fun k _ => ?_
  rw [tbl_coef]
theorem mem_pkeys {l : List Row} {k : List Int} : k ∈ pkeys l ↔ coef l k ≠ 0 := by
  unfold pkeys
  rw [List.mem_filter, (sortL_perm _).mem_iff, decide_eq_true_eq, tbl_coef]
  refine ⟨fun h => h.2, fun h => ⟨?_, h⟩⟩
  rcases Classical.em (k ∈ (tbl l).map (·.1)) with q | q
  · exact q
  · have := not_key q
    rw [tbl_coef] at this
    exact absurd this h
theorem pkeys_nd (l : List Row) : (pkeys l).Nodup := ((sortL_perm _).nodup_iff.mpr (tbl_nd l)).filter _
theorem pkeys_sorted (l : List Row) : (pkeys l).Pairwise fun x y => lexLe x y = true := (sortL_sorted _).filter _
theorem nodup_perm {α : Type} [DecidableEq α] {l m : List α} (hl : l.Nodup) (hm : m.Nodup) (h : ∀ x, x ∈ l ↔ x ∈ m) : l.Perm m := by
  rw [List.perm_iff_count]
  intro x
  rw [hl.count, hm.count]
  by_cases q : x ∈ l
  · rw [if_pos q, if_pos ((h x).mp q)]
  · rw [if_neg q, if_neg (fun z => q ((h x).mpr z))]
theorem prow_same {l m : List Row} (h : ∀ k, coef l k = coef m k) : prow l = prow m := by
  rw [prow_eq, prow_eq]
  have e : pkeys l = pkeys m := sorted_uniq (nodup_perm (pkeys_nd l) (pkeys_nd m) fun k => by rw [mem_pkeys, mem_pkeys, h]) (pkeys_sorted l) (pkeys_sorted m)
  rw [e]
  exact List.map_congr_left fun k _ => by rw [h]
theorem prow_coef {l m : List Row} (h : prow l = prow m) (k : List Int) : coef l k = coef m k := by
  rw [prow_eq, prow_eq] at h
  have one : ∀ {l m : List Row}, ((pkeys l).map fun k => k ++ [coef l k]) = ((pkeys m).map fun k => k ++ [coef m k]) → coef l k ≠ 0 → coef l k = coef m k := by
    intro l m h hk
    have h1 : k ++ [coef l k] ∈ ((pkeys l).map fun k => k ++ [coef l k]) := List.mem_map.mpr ⟨k, mem_pkeys.mpr hk, rfl⟩
    rw [h] at h1
    obtain ⟨k', h2, h3⟩ := List.mem_map.mp h1
    obtain ⟨e1, e2⟩ := List.append_inj' h3 rfl
    subst e1
    injection e2 with e2
    exact e2.symm
  by_cases hl : coef l k = 0
  · by_cases hm : coef m k = 0
    · rw [hl, hm]
    · exact (one h.symm hm).symm
  · exact one h hl
theorem coef_key {l : List Row} {k : List Int} (h : ∀ r ∈ l, keyOf r ≠ k) : coef l k = 0 := by
  induction l with
  | nil => rfl
  | cons r l ih => rw [coef_cons, if_neg (h r List.mem_cons_self), ih fun q hq => h q (List.mem_cons_of_mem _ hq)]; rfl
theorem coef_nd {l : List Row} (nd : (l.map keyOf).Nodup) : ∀ r ∈ l, coef l (keyOf r) = r.2.2 := by
  induction l with
  | nil => intro r hr; cases hr
  | cons q l ih =>
    rw [List.map_cons, List.nodup_cons] at nd
    intro r hr
    rw [coef_cons]
    rcases List.mem_cons.mp hr with e | hr
    · subst e
      rw [if_pos rfl, coef_key fun p hp z => nd.1 (List.mem_map.mpr ⟨p, hp, z⟩)]
      omega
    · rw [if_neg fun z => nd.1 (List.mem_map.mpr ⟨r, hr, z.symm⟩), ih nd.2 r hr]
      omega
theorem tri_eq (r : Row) : tri r = keyOf r ++ [r.2.2] := rfl
theorem prow_perm {l : List Row} (nd : (l.map keyOf).Nodup) (nz : ∀ r ∈ l, r.2.2 ≠ 0) : (prow l).Perm (l.map tri) := by
  rw [prow_eq]
  have e : l.map tri = (l.map keyOf).map fun k => k ++ [coef l k] := by
    rw [List.map_map]
    exact List.map_congr_left fun r hr => by show tri r = keyOf r ++ [coef l (keyOf r)]; rw [coef_nd nd r hr, tri_eq]
  rw [e]
  refine List.Perm.map _ (nodup_perm (pkeys_nd l) nd fun k => ?_)
  rw [mem_pkeys]
  constructor
  · intro h
    rcases Classical.em (k ∈ l.map keyOf) with q | q
    · exact q
    · exact absurd (coef_key fun r hr z => q (List.mem_map.mpr ⟨r, hr, z⟩)) h
  · intro h
    obtain ⟨r, hr, rfl⟩ := List.mem_map.mp h
    rw [coef_nd nd r hr]
    exact nz r hr

section
variable {P : Program} {w : World} {K : PySem.W.Frag} {mg : Str → Option Value} {base : Heap} {f C CS CB CP : Addr} {fd : FuncData}
theorem eqt_left {D : Addr} {fs : List (Str × Ty)} {A : Ty} {t : Value} {b : Bool} {j : Nat} {rel : List Ty → Ty → Prop} (T : MethT P w K mg base D "__eq__" j (FSp rel)) (ht : HasT K A t) (nf : PySem.W.notFirst K D t = true) (hR : rel [tO D fs, A] (tB b)) (hj : j ≤ 60 := by decide) : EqT P w K mg base (tO D fs) A b :=
  fun ι X m N k F hk => eq_own F T ht nf hR (by omega)
theorem eqt_right {D : Addr} {fs : List (Str × Ty)} {A : Ty} {b : Bool} {j : Nat} {rel : List Ty → Ty → Prop} (T : MethT P w K mg base D "__eq__" j (FSp rel)) (hd : DclT K D A) (hR : rel [tO D fs, A] (tB b)) (hj : j ≤ 60 := by decide) : EqT P w K mg base A (tO D fs) b :=
  fun ι X m N k F hk => eq_ownR F T hd hR (by omega)
/-- what is told apart both ways -/
def Apart (P : Program) (w : World) (K : PySem.W.Frag) (mg : Str → Option Value) (base : Heap) (A D : Ty) : Prop := EqT P w K mg base A D false ∧ EqT P w K mg base D A false
/-- an own == that says no to what is none of its own -/
structure OwnNo (P : Program) (w : World) (K : PySem.W.Frag) (mg : Str → Option Value) (base : Heap) (D : Addr) (fs : List (Str × Ty)) : Prop where
  cf : CF K D
  ex : ∃ j rel, j ≤ 60 ∧ MethT P w K mg base D "__eq__" j (FSp rel) ∧ ∀ A t, HasT K A t → PySem.W.kitOne K t (.ref D) = some false → rel [tO D fs, A] (tB false)
theorem apart_base {D : Addr} {fs : List (Str × Ty)} {A : Ty} {T : String} (o : OwnNo P w K mg base D fs) (hT : T ∈ bTys) (h : HasT K A (.type T)) (hd : DclT K D A) : Apart P w K mg base (tO D fs) A := by
  obtain ⟨j, rel, hj, M, no⟩ := o.ex
  exact ⟨eqt_left M h (o.cf.nf T hT) (no A _ h (o.cf.ki T hT)) hj, eqt_right M hd (no A _ h (o.cf.ki T hT)) hj⟩
theorem apart_own {D E : Addr} {fs gs : List (Str × Ty)} (o : OwnNo P w K mg base D fs) (u : OwnNo P w K mg base E gs) (k1 : PySem.W.kitOne K (.ref E) (.ref D) = some false) (k2 : PySem.W.kitOne K (.ref D) (.ref E) = some false) (n1 : PySem.W.notFirst K D (.ref E) = true) (n2 : PySem.W.notFirst K E (.ref D) = true) : Apart P w K mg base (tO D fs) (tO E gs) := by
  obtain ⟨j, rel, hj, M, no⟩ := o.ex
  obtain ⟨j', rel', hj', M', no'⟩ := u.ex
  exact ⟨eqt_left M (has_O u.cf) n1 (no _ _ (has_O u.cf) k1) hj, eqt_left M' (has_O o.cf) n2 (no' _ _ (has_O o.cf) k2) hj'⟩
theorem rat_no (R : RatOps P w K mg base C) (a : Rat) : OwnNo P w K mg base C (ratF a) := ⟨R.cf, 44, _, by decide, R.eq, fun A t h k => .inr ⟨a, A, t, rfl, h, k, rfl⟩⟩
theorem span_no (S : SpanOk P w K mg base C CS) (a b : Rat) : OwnNo P w K mg base CS (spanF C a b) := ⟨S.cf, 48, _, by decide, S.eq, fun A t h k => .inr ⟨a, b, A, t, rfl, h, k, rfl⟩⟩
theorem rat_two (R : RatOps P w K mg base C) (a b : Rat) (h : a ≠ b) : Apart P w K mg base (ratT C a) (ratT C b) :=
  ⟨fun ι X m N k F hk => (decide_eq_false h) ▸ rat_eqT R F a b (by omega), fun ι X m N k F hk => (decide_eq_false fun z : b = a => h z.symm) ▸ rat_eqT R F b a (by omega)⟩
theorem span_two (S : SpanOk P w K mg base C CS) (a b p q : Rat) (h : a ≠ p ∨ b ≠ q) : Apart P w K mg base (spanT CS C a b) (spanT CS C p q) := by
  have h1 : (decide (a = p) && decide (b = q)) = false := by rcases h with h | h <;> simp [h]
  have h2 : (decide (p = a) && decide (q = b)) = false := by rcases h with h | h <;> simp [Ne.symm h]
  exact ⟨fun ι X m N k F hk => h1 ▸ span_eqT S F a b p q (by omega), fun ι X m N k F hk => h2 ▸ span_eqT S F p q a b (by omega)⟩
theorem rat_same (R : RatOps P w K mg base C) {a b : Rat} (h : a = b) : EqT P w K mg base (ratT C a) (ratT C b) true := fun ι X m N k F hk => (decide_eq_true h) ▸ rat_eqT R F a b (by omega)
def relGo : List Ty → Ty → Prop := fun Ps r => Ps = [] ∧ r = tB true
def AllP {α : Type} (Q : α → Prop) : List α → Prop
  | [] => True
  | x :: r => Q x ∧ AllP Q r
theorem all_mem {α : Type} {Q : α → Prop} : ∀ {l : List α}, AllP Q l → ∀ x ∈ l, Q x
  | _ :: _, h, x, hx => (List.mem_cons.mp hx).elim (fun e => e ▸ h.1) fun m => all_mem h.2 x m
theorem divInt_cross {a b n d : Int} (hb : b ≠ 0) (hd : d ≠ 0) (h : a * d = n * b) : Rat.divInt a b = Rat.divInt n d := (Rat.divInt_eq_divInt_iff hb hd).mpr h
theorem divInt_ne {a b n d : Int} (hb : b ≠ 0) (hd : d ≠ 0) (h : a * d ≠ n * b) : Rat.divInt a b ≠ Rat.divInt n d := fun z => h ((Rat.divInt_eq_divInt_iff hb hd).mp z)
theorem divInt_parts {a b : Int} (hb : b ≠ 0) : (Rat.divInt a b).num * b = a * (Rat.divInt a b).den := by
  have h := Rat.num_divInt_den (Rat.divInt a b)
  exact (Rat.divInt_eq_divInt_iff (den_ne _) hb).mp h
theorem sc__law_ratios_go : FnScope ["state", "a", "b", "k", "one", "others"] ["state"] (defScope (top 30)) := ⟨rfl, rfl, rfl, by decide +kernel, rfl, by decide +kernel, by decide +kernel⟩
theorem ok__law_ratios_go (W : Wd P base) (Bn : BN mg) (gT : FnT P w K mg base "_law_take" 41 (MSp relTake)) (gA : FnT P w K mg base "_law_asked" 71 (FSp (relAsked P w K mg base))) (R : RatOps P w K mg base C) (D : FD K "_law_ratios_go" "_law_ratios_go" (top 30) [] f fd) : FnOk P w K mg base CX0 73 f fd ["state"] (MSp relGo) := by
  refine fn_okM D sc__law_ratios_go fun Ps r h => ?_
  obtain ⟨rfl, rfl⟩ := h
  refine ⟨rfl, fun st f cdv A outer s H E hr => ?_⟩
  have F := fam_bx (P := P) (w := w) (K := K) (mg := mg) (base := base) (f := f) (cdv := cdv) (s := s) (H := H) (E := E) (outer := outer) sc__law_ratios_go.nd W.see W.tr sc__law_ratios_go.gen sc__law_ratios_go.co hr
  refine sg_cons (sg1_par3 F 1 2 3 (eas_sh (eg_subx (eg_draw F gT (ea_cons (eg_nm F 0) (ea_cons eg_int ea_nil)) ⟨41, rfl, by decide, by decide, rfl⟩) eg_int (fun i => -20 ≤ i ∧ i ≤ 20) (fun i h => by omega))
    (eas_sh (eg_addx eg_int (eg_draw F gT (ea_cons (eg_nm F 0) (ea_cons eg_int ea_nil)) ⟨12, rfl, by decide, by decide, rfl⟩) (fun i => 1 ≤ i ∧ i ≤ 12) (fun i h => by omega))
    (eas_sh (eg_addx eg_int (eg_draw F gT (ea_cons (eg_nm F 0) (ea_cons eg_int ea_nil)) ⟨9, rfl, by decide, by decide, rfl⟩) (fun i => 2 ≤ i ∧ i ≤ 10) (fun i h => by omega)) eas_nil))) ?_)
  refine sg_ex 1 rfl fun a ha => sg_ex 2 rfl fun b hb => sg_ex 3 rfl fun k hk => ?_
  have b0 : b ≠ 0 := by omega
  have k0 : k ≠ 0 := by omega
  have bk0 : b * k ≠ 0 := Int.mul_ne_zero b0 k0
  refine sg_cons (sg1_set F 4 (mk_rat R.toRatOk F (eg_nm F 1) (eg_nm F 2) b0) ?_)
  refine sg_cons (sg1_set F 5 (eg_lst (K := K) (ea_cons (mk_rat R.toRatOk F (eg_op add_II (eg_nm F 1) (eg_nm F 2)) (eg_nm F 2) b0)
    (ea_cons (mk_rat R.toRatOk F (eg_op add_II (eg_op (mul_IIr (i := a) (j := k) (by omega) (by omega)) (eg_nm F 1) (eg_nm F 3)) eg_int) (eg_op (mul_IIr (i := b) (j := k) (by omega) (by omega)) (eg_nm F 2) (eg_nm F 3)) bk0)
    (ea_cons (mk_rat R.toRatOk F (eg_op sub_II (eg_un neg_I (eg_nm F 1)) eg_int) (eg_nm F 2) b0)
    (ea_cons eg_non (ea_cons eg_str (ea_cons (eg_tup (K := K) (ea_cons (eg_n R.toRatOk F (eg_nm F 4)) (ea_cons (eg_d R.toRatOk F (eg_nm F 4)) ea_nil)))
    (ea_cons (eg_op add_II (eg_op (mul_IIr (i := a) (j := b) (by omega) (by omega)) (eg_nm F 1) (eg_nm F 2)) eg_int) ea_nil)))))))) ?_)
  have hsame : Rat.divInt a b = Rat.divInt (-k * a) (-k * b) := divInt_cross b0 (Int.mul_ne_zero (by omega) b0) (by rw [Int.mul_comm (-k) b, ← Int.mul_assoc, Int.mul_comm (-k) a]; rw [Int.mul_assoc, Int.mul_assoc, Int.mul_comm b])
  refine sg_one (sg1_ret (eg_eq (eg_and (eg_call F gA (ea_cons (eg_nm F 4) (ea_cons (mk_rat R.toRatOk F (eg_op (mul_IIl (i := -k) (j := a) (by omega) (by omega)) (eg_un neg_I (eg_nm F 3)) (eg_nm F 1)) (eg_op (mul_IIl (i := -k) (j := b) (by omega) (by omega)) (eg_un neg_I (eg_nm F 3)) (eg_nm F 2)) (Int.mul_ne_zero (by omega) b0)) (ea_cons (eg_nm F 5) ea_nil)))
      ⟨_, _, _, rfl, rat_same R hsame, rat_same R hsame.symm, all_mem (Q := fun D => Apart P w K mg base (ratT C (Rat.divInt a b)) D) ?_, Nat.le_of_ble_eq_true rfl, rfl⟩)
    fun _ => eg_and (eg_cmp eq_II (eg_op (mul_IIr (i := (Rat.divInt a b).num) (j := b) (by omega) (by omega)) (eg_n R.toRatOk F (eg_nm F 4)) (eg_nm F 2)) (eg_op (mul_IIl (i := a) (j := ((Rat.divInt a b).den : Int)) (by omega) (by omega)) (eg_nm F 1) (eg_d R.toRatOk F (eg_nm F 4)))) fun _ => eg_one (eg_cmp gt_II (eg_d R.toRatOk F (eg_nm F 4)) eg_int)) ?_))
  · refine ⟨rat_two R _ _ (divInt_ne b0 b0 fun z => ?_), rat_two R _ _ (divInt_ne b0 bk0 fun z => ?_), rat_two R _ _ (divInt_ne b0 b0 fun z => ?_), apart_base (rat_no R _) (by decide) has_N (dt_N R.cf), apart_base (rat_no R _) (by decide) has_S (dt_S R.cf), apart_base (rat_no R _) (by decide) has_T (dt_T R.cf), apart_base (rat_no R _) (by decide) has_I (dt_I R.cf), trivial⟩
    · have := Int.eq_of_mul_eq_mul_right b0 z
      omega
    · rw [Int.add_mul, Int.mul_comm b k, ← Int.mul_assoc] at z
      omega
    · have := Int.eq_of_mul_eq_mul_right b0 z
      omega
  · rw [decide_eq_true (divInt_parts b0), decide_eq_true (den_pos _)]; rfl
end

section
variable {P : Program} {w : World} {K : PySem.W.Frag} {mg : Str → Option Value} {base : Heap} {f C CS CB CP : Addr} {fd : FuncData}
theorem zb_small {x : Int} {n : Nat} (h1 : -(2 ^ n : Nat) < x) (h2 : x < (2 ^ n : Nat)) : zb x ≤ n := zb_le (by omega)
def Low (q : Rat) : Prop := rb q ≤ 5
theorem low_of {n d : Int} (hn : -32 < n ∧ n < 32) (hd : 0 < d ∧ d < 32) : Low (Rat.divInt n d) := by
  have h1 : zb n ≤ 5 := zb_small (by omega) (by omega)
  have h2 : zb d ≤ 5 := zb_small (by omega) (by omega)
  have := rb_divInt n d (by omega)
  unfold Low
  omega
theorem third_le {n d : Int} (hn : 1 ≤ n) (hd : 1 ≤ d ∧ d ≤ 3) : Rat.divInt 1 3 ≤ Rat.divInt n d := by
  rw [Rat.le_iff_sub_nonneg, Rat.divInt_sub_divInt _ _ (by omega) (by decide)]
  exact Rat.divInt_nonneg (by omega) (by omega)
def SpB (p : Rat × Rat) : Prop := rb p.1 ≤ 20 ∧ rb p.2 ≤ 20 ∧ p.1 + Rat.divInt 1 3 ≤ p.2
def tSp (K : PySem.W.Frag) (C : Addr) : Ty := tEx SpB fun p => tT K [ratT C p.1, ratT C p.2]
def relSpan (K : PySem.W.Frag) (C : Addr) : List Ty → Ty → Prop := fun Ps r => Ps = [] ∧ r = tSp K C
theorem eg_low {ι : Type} {X : ι → Cx} {m : Option Addr} {N : List Str} {k : Nat} {Γ : List Sl} {e1 e2 : Expr} {p pos : Pos} {D1 D2 : Int → Prop} {D : Rat → Prop} (R : RatOk P w K mg base C) (F : Fam X P w K mg base N k) (h1 : EG X m e1 Γ (tIx D1)) (h2 : EG X m e2 Γ (tIx D2)) (hD : ∀ n d, D1 n → D2 d → d ≠ 0 ∧ D (Rat.divInt n d)) (hk : 43 ≤ k := by decide)
    (hg : ∀ i, Gl (X i) "Ratio" := by intro i; rfl) (hs : ∀ i, starEach [e1, e2] (X i).env = (false, eval e1 (X i).env) :: starEach [e2] (X i).env := by intro i; rfl) (hs2 : ∀ i, starEach [e2] (X i).env = (false, eval e2 (X i).env) :: starEach [] (X i).env := by intro i; rfl)
    (hpl : ∀ i, (backTo pos (starEach [e2] (X i).env)).any (·.1) = false := by intro i; rfl) : EG X m (.Call (.Name "Ratio" p) [e1, e2] [] pos) Γ (tEx D fun q => ratT C q) :=
  eg_makeG F R.m2 R.mR (ea_cons h1 (ea_cons h2 ea_nil hs2) hs) (fun S vs h => by
    obtain ⟨x, y, rfl, ⟨n, c1, p1⟩, d, c2, p2⟩ := all2_2 h
    obtain ⟨g1, g2⟩ := hD n d c1 c2
    exact ⟨[tI n, tI d], ratF (Rat.divInt n d), .cons p1 (.cons p2 .nil), ⟨n, d, rfl, g1, rfl⟩, tEx_le (P := fun q => ratT C q) g2⟩) hk hg (by decide) hs hpl
theorem sc__law_span : FnScope ["state", "low"] ["state"] (defScope (top 31)) := ⟨rfl, rfl, rfl, by decide +kernel, rfl, by decide +kernel, by decide +kernel⟩
theorem ok__law_span (W : Wd P base) (Bn : BN mg) (gT : FnT P w K mg base "_law_take" 41 (MSp relTake)) (R : RatOps P w K mg base C) (D : FD K "_law_span" "_law_span" (top 31) [] f fd) : FnOk P w K mg base CX0 61 f fd ["state"] (MSp (relSpan K C)) := by
  refine fn_okM D sc__law_span fun Ps r h => ?_
  obtain ⟨rfl, rfl⟩ := h
  refine ⟨rfl, fun st f cdv A outer s H E hr => ?_⟩
  have F := fam_bx (P := P) (w := w) (K := K) (mg := mg) (base := base) (f := f) (cdv := cdv) (s := s) (H := H) (E := E) (outer := outer) sc__law_span.nd W.see W.tr sc__law_span.gen sc__law_span.co hr
  refine sg_cons (sg1_set F 1 (eg_low (D := Low) R.toRatOk F (eg_subx (eg_draw F gT (ea_cons (eg_nm F 0) (ea_cons eg_int ea_nil)) ⟨21, rfl, by decide, by decide, rfl⟩) eg_int (fun i => -10 ≤ i ∧ i ≤ 10) (fun i h => by omega))
    (eg_addx eg_int (eg_draw F gT (ea_cons (eg_nm F 0) (ea_cons eg_int ea_nil)) ⟨4, rfl, by decide, by decide, rfl⟩) (fun i => 1 ≤ i ∧ i ≤ 4) (fun i h => by omega)) fun n d h1 h2 => ⟨by omega, low_of (by omega) (by omega)⟩) ?_)
  refine sg_ex 1 rfl fun a ha => ?_
  refine sg_one (sg1_ret (eg_le (eg_tup (ea_cons (eg_nm F 1) (ea_cons (eg_op (opEx2 (C := fun s => Low s ∧ Rat.divInt 1 3 ≤ s) fun s hs => op_own F (op := .Add) R.add R.cf.sf ⟨a, s, rfl, ?_, rfl⟩) (eg_nm F 1) (eg_low (D := fun s => Low s ∧ Rat.divInt 1 3 ≤ s) R.toRatOk F (eg_addx eg_int (eg_draw F gT (ea_cons (eg_nm F 0) (ea_cons eg_int ea_nil)) ⟨9, rfl, by decide, by decide, rfl⟩) (fun i => 1 ≤ i ∧ i ≤ 9) (fun i h => by omega))
    (eg_addx eg_int (eg_draw F gT (ea_cons (eg_nm F 0) (ea_cons eg_int ea_nil)) ⟨3, rfl, by decide, by decide, rfl⟩) (fun i => 1 ≤ i ∧ i ≤ 3) (fun i h => by omega)) fun n d h1 h2 => ⟨by omega, low_of (by omega) (by omega), third_le h1.1 h2⟩)) ea_nil))) (tT_ex2.trans (tEx_mono fun s hs => ⟨(a, a + s), ⟨?_, ?_, ?_⟩, .rfl⟩))))
  · have := hs.1; unfold Low at ha this; unfold lim; omega
  · unfold Low at ha; show rb a ≤ 20; omega
  · have := hs.1; unfold Low at ha this; have := rb_add a s; show rb (a + s) ≤ 20; omega
  · exact Rat.add_le_add_left.mpr hs.2
theorem lim_of {a b : Nat} (h : a + b ≤ 1000) : a + b ≤ lim := by unfold lim; omega
theorem eg_radd {ι : Type} {X : ι → Cx} {m : Option Addr} {N : List Str} {k : Nat} {Γ : List Sl} {e1 e2 : Expr} {pos : Pos} {x y : Rat} (R : RatOps P w K mg base C) (F : Fam X P w K mg base N k) (h1 : EG X m e1 Γ (ratT C x)) (h2 : EG X m e2 Γ (ratT C y)) (hb : rb x + rb y ≤ 1000) (hk : 44 ≤ k := by decide) : EG X m (.BinOp e1 .Add e2 pos) Γ (ratT C (x + y)) :=
  eg_op (op_own F (op := .Add) R.add R.cf.sf ⟨x, y, rfl, lim_of hb, rfl⟩ hk) h1 h2
theorem eg_rsub {ι : Type} {X : ι → Cx} {m : Option Addr} {N : List Str} {k : Nat} {Γ : List Sl} {e1 e2 : Expr} {pos : Pos} {x y : Rat} (R : RatOps P w K mg base C) (F : Fam X P w K mg base N k) (h1 : EG X m e1 Γ (ratT C x)) (h2 : EG X m e2 Γ (ratT C y)) (hb : rb x + rb y ≤ 1000) (hk : 44 ≤ k := by decide) : EG X m (.BinOp e1 .Sub e2 pos) Γ (ratT C (x - y)) :=
  eg_op (op_own F (op := .Sub) R.sub R.cf.sf ⟨x, y, rfl, lim_of hb, rfl⟩ hk) h1 h2
theorem mk_span {ι : Type} {X : ι → Cx} {m : Option Addr} {N : List Str} {k : Nat} {Γ : List Sl} {e1 e2 : Expr} {p pos : Pos} {x y : Rat} (S : SpanOk P w K mg base C CS) (F : Fam X P w K mg base N k) (h1 : EG X m e1 Γ (ratT C x)) (h2 : EG X m e2 Γ (ratT C y)) (hb : rb x + rb y ≤ 1000) (hxy : x ≤ y) (hk : 48 ≤ k := by decide)
    (hg : ∀ i, Gl (X i) "Span" := by intro i; rfl) (hs : ∀ i, starEach [e1, e2] (X i).env = (false, eval e1 (X i).env) :: starEach [e2] (X i).env := by intro i; rfl) (hs2 : ∀ i, starEach [e2] (X i).env = (false, eval e2 (X i).env) :: starEach [] (X i).env := by intro i; rfl)
    (hpl : ∀ i, (backTo pos (starEach [e2] (X i).env)).any (·.1) = false := by intro i; rfl) : EG X m (.Call (.Name "Span" p) [e1, e2] [] pos) Γ (spanT CS C x y) :=
  eg_make F S.mak S.mS (ea_cons h1 (ea_cons h2 ea_nil hs2) hs) ⟨x, y, rfl, lim_of hb, hxy, rfl⟩ hk hg (by decide) hs hpl
/-- Box, once its defs are shown -/
structure BoxOk (P : Program) (w : World) (K : PySem.W.Frag) (mg : Str → Option Value) (base : Heap) (C CS CB : Addr) : Prop where
  cf : CF K CB
  mS : mg "Box" = some (.ref CB)
  n1 : NoAttr K CB "x"
  n2 : NoAttr K CB "y"
  mak : MakT P w K mg base CB 42 [] (ISp CB (relBxI CS C))
  eq : MethT P w K mg base CB "__eq__" 50 (FSp (relBxE K CB CS C))
theorem mk_box {ι : Type} {X : ι → Cx} {m : Option Addr} {N : List Str} {k : Nat} {Γ : List Sl} {e1 e2 : Expr} {p pos : Pos} {a b c d : Rat} (S : BoxOk P w K mg base C CS CB) (F : Fam X P w K mg base N k) (h1 : EG X m e1 Γ (spanT CS C a b)) (h2 : EG X m e2 Γ (spanT CS C c d)) (hk : 48 ≤ k := by decide)
    (hg : ∀ i, Gl (X i) "Box" := by intro i; rfl) (hs : ∀ i, starEach [e1, e2] (X i).env = (false, eval e1 (X i).env) :: starEach [e2] (X i).env := by intro i; rfl) (hs2 : ∀ i, starEach [e2] (X i).env = (false, eval e2 (X i).env) :: starEach [] (X i).env := by intro i; rfl)
    (hpl : ∀ i, (backTo pos (starEach [e2] (X i).env)).any (·.1) = false := by intro i; rfl) : EG X m (.Call (.Name "Box" p) [e1, e2] [] pos) Γ (boxT CB CS C a b c d) :=
  eg_make F S.mak S.mS (ea_cons h1 (ea_cons h2 ea_nil hs2) hs) ⟨a, b, c, d, rfl, rfl⟩ (by omega) hg (by decide) hs hpl
theorem box_no (S : BoxOk P w K mg base C CS CB) (a b p q : Rat) : OwnNo P w K mg base CB (boxF CS C a b p q) := ⟨S.cf, 50, _, by decide, S.eq, fun A t h k => .inr ⟨a, b, p, q, A, t, rfl, h, k, rfl⟩⟩
theorem box_eqT (S : BoxOk P w K mg base C CS CB) (a b p q a' b' p' q' : Rat) {r : Bool} (hr : ((decide (a = a') && decide (b = b')) && (decide (p = p') && decide (q = q'))) = r) : EqT P w K mg base (boxT CB CS C a b p q) (boxT CB CS C a' b' p' q') r := fun ι X m N k F hk =>
  eq_own F S.eq (has_O S.cf) (by simp [PySem.W.notFirst]) (.inl ⟨a, b, p, q, a', b', p', q', rfl, by rw [hr]⟩) (by omega)
theorem box_two (S : BoxOk P w K mg base C CS CB) (a b p q a' b' p' q' : Rat) (h : a ≠ a' ∨ b ≠ b' ∨ p ≠ p' ∨ q ≠ q') : Apart P w K mg base (boxT CB CS C a b p q) (boxT CB CS C a' b' p' q') :=
  ⟨box_eqT S _ _ _ _ _ _ _ _ (by rcases h with h | h | h | h <;> simp [h]), box_eqT S _ _ _ _ _ _ _ _ (by rcases h with h | h | h | h <;> simp [Ne.symm h])⟩
theorem span_same (S : SpanOk P w K mg base C CS) {a b p q : Rat} (h : a = p) (h' : b = q) : EqT P w K mg base (spanT CS C a b) (spanT CS C p q) true := fun ι X m N k F hk => by
  have := span_eqT (m := m) S F a b p q (by omega)
  rwa [decide_eq_true h, decide_eq_true h'] at this
theorem rat_one {a b : Rat} {x : V} {S : Hp} (h : (ratT C a).is x S) (h' : (ratT C b).is x S) : a = b := by
  obtain ⟨p, dx, gs, rfl, h1, h2⟩ := h
  obtain ⟨p', dx', gs', e, h3, h4⟩ := h'
  cases e
  rw [h1] at h3
  cases h3
  cases h2 with
  | cons n1 r1 => cases r1 with
    | cons d1 _ => cases h4 with
      | cons n2 r2 => cases r2 with
        | cons d2 _ =>
          have e1 : V.int a.num = V.int b.num := (show _ = V.int a.num from n1).symm.trans n2
          have e2 : V.int a.den = V.int b.den := (show _ = V.int a.den from d1).symm.trans d2
          injection e1 with e1
          injection e2 with e2
          exact Rat.ext e1 (by omega)
def nu : Rat := Rat.divInt 1 9
theorem nu_rb : rb nu ≤ 4 := by decide +kernel
theorem nu_pos : 0 < nu := by decide +kernel
theorem nu_third : nu ≤ Rat.divInt 1 3 := by decide +kernel
theorem sc__law_boxes_go : FnScope ["state", "a", "b", "p", "q", "c", "one", "others", "two", "own"] ["state"] (defScope (top 32)) := ⟨rfl, rfl, rfl, by decide +kernel, rfl, by decide +kernel, by decide +kernel⟩
theorem ok__law_boxes_go (W : Wd P base) (Bn : BN mg) (gP : FnT P w K mg base "_law_span" 61 (MSp (relSpan K C))) (gA : FnT P w K mg base "_law_asked" 71 (FSp (relAsked P w K mg base))) (R : RatOps P w K mg base C) (S : SpanOk P w K mg base C CS) (B : BoxOk P w K mg base C CS CB) (k1 : PySem.W.kitOne K (.ref CS) (.ref C) = some false) (k2 : PySem.W.kitOne K (.ref C) (.ref CS) = some false) (k3 : PySem.W.notFirst K CS (.ref C) = true) (k4 : PySem.W.notFirst K C (.ref CS) = true) (l1 : PySem.W.kitOne K (.ref CS) (.ref CB) = some false) (l2 : PySem.W.kitOne K (.ref CB) (.ref CS) = some false) (l3 : PySem.W.notFirst K CS (.ref CB) = true) (l4 : PySem.W.notFirst K CB (.ref CS) = true) (D : FD K "_law_boxes_go" "_law_boxes_go" (top 32) [] f fd) : FnOk P w K mg base CX0 73 f fd ["state"] (MSp relGo) := by
  refine fn_okM D sc__law_boxes_go fun Ps r h => ?_
  obtain ⟨rfl, rfl⟩ := h
  refine ⟨rfl, fun st f cdv A outer s H E hr => ?_⟩
  have F := fam_bx (P := P) (w := w) (K := K) (mg := mg) (base := base) (f := f) (cdv := cdv) (s := s) (H := H) (E := E) (outer := outer) sc__law_boxes_go.nd W.see W.tr sc__law_boxes_go.gen sc__law_boxes_go.co hr
  refine sg_cons (sg1_asgE (eg_le (eg_tup (K := K) (ea_cons (eg_draw F gP (ea_cons (eg_nm F 0) ea_nil) ⟨rfl, rfl⟩) (ea_cons (eg_draw F gP (ea_cons (eg_nm F 0) ea_nil) ⟨rfl, rfl⟩) ea_nil))) tT_exex) fun z hz => ⟨_, _, tg_tup F (tgs_cons (tg_tup F (tgs_cons (tg_nm F 1) (tgs_cons (tg_nm F 2) tgs_nil))) (tgs_cons (tg_tup F (tgs_cons (tg_nm F 3) (tgs_cons (tg_nm F 4) tgs_nil))) tgs_nil)), ?_⟩)
  obtain ⟨⟨a, b⟩, p, q⟩ := z
  obtain ⟨⟨ha, hb, hab⟩, hp, hq, hpq⟩ := hz
  simp only at ha hb hab hp hq hpq ⊢
  have hnu := nu_rb
  have hnu0 := nu_pos
  have hnu3 := nu_third
  have r1 := rb_sub a nu
  have r2 := rb_add b nu
  have r3 := rb_add a nu
  have r4 := rb_sub p nu
  have r5 := rb_add q nu
  have hab' : a ≤ b := by grind
  have hpq' : p ≤ q := by grind
  refine sg_cons (sg1_set F 5 (eg_eq (mk_rat R.toRatOk F eg_int eg_int (by decide)) (show _ = ratT C nu from rfl)) ?_)
  refine sg_cons (sg1_set F 6 (mk_span S F (eg_nm F 1) (eg_nm F 2) (by omega) hab') ?_)
  refine sg_cons (sg1_set F 7 (eg_lst (K := K) (ea_cons (mk_span S F (eg_rsub R F (eg_nm F 1) (eg_nm F 5) (by omega)) (eg_nm F 2) (by omega) (by grind))
    (ea_cons (mk_span S F (eg_nm F 1) (eg_radd R F (eg_nm F 2) (eg_nm F 5) (by omega)) (by omega) (by grind))
    (ea_cons (mk_span S F (eg_radd R F (eg_nm F 1) (eg_nm F 5) (by omega)) (eg_nm F 2) (by omega) (by grind))
    (ea_cons (mk_span S F (eg_nm F 1) (eg_nm F 1) (by omega) Rat.le_refl)
    (ea_cons eg_non (ea_cons eg_int (ea_cons (eg_tup (K := K) (ea_cons (eg_nm F 1) (ea_cons (eg_nm F 2) ea_nil))) (ea_cons (eg_nm F 1) ea_nil))))))))) ?_)
  have h0 : rb ((0 : Int) : Rat) ≤ 10 := by decide +kernel
  have r6 := rb_add a ((0 : Int) : Rat)
  have ha0 : a + ((0 : Int) : Rat) = a := Rat.add_zero a
  refine sg_cons (sg1_if_no (et_w (ew_or (et_not (et_v (eg_call F gA (ea_cons (eg_nm F 6) (ea_cons (mk_span S F (eg_radd R F (eg_nm F 1) (mk_rat1 R.toRatOk F eg_int) (by omega)) (eg_nm F 2) (by omega) (by rw [ha0]; exact hab')) (ea_cons (eg_nm F 7) ea_nil)))
      ⟨_, _, _, rfl, span_same S ha0.symm rfl, span_same S ha0 rfl, all_mem (Q := fun D => Apart P w K mg base (spanT CS C a b) D) ?_, Nat.le_of_ble_eq_true rfl, rfl⟩)))
    fun _ => ew_or (et_eq (b2 := false) (et_cmp (ne_own F R.cf R.eq (has_O R.cf) (by simp [PySem.W.notFirst]) (.inl ⟨a, a, rfl, rfl⟩)) (eg_fld F S.cf.cl S.n1 (eg_nm F 6) rfl) (eg_nm F 1)) (by simp))
    fun _ => ew_or1 (et_eq (b2 := false) (et_cmp (ne_own F R.cf R.eq (has_O R.cf) (by simp [PySem.W.notFirst]) (.inl ⟨b, b, rfl, rfl⟩)) (eg_fld F S.cf.cl S.n2 (eg_nm F 6) rfl) (eg_nm F 2)) (by simp)))) (sg_nil ?_))
  · exact ⟨span_two S _ _ _ _ (.inl (by grind)), span_two S _ _ _ _ (.inr (by grind)), span_two S _ _ _ _ (.inl (by grind)), span_two S _ _ _ _ (.inr (by grind)), apart_base (span_no S _ _) (by decide) has_N (dt_N S.cf), apart_base (span_no S _ _) (by decide) has_I (dt_I S.cf), apart_base (span_no S _ _) (by decide) has_T (dt_T S.cf), apart_own (span_no S _ _) (rat_no R _) k2 k1 k3 k4, trivial⟩
  refine sg_cons (sg1_set F 8 (mk_span S F (eg_nm F 3) (eg_nm F 4) (by omega) hpq') ?_)
  refine sg_cons (sg1_set F 9 (mk_box B F (eg_nm F 6) (eg_nm F 8)) ?_)
  refine sg_cons (sg1_setN F 7 (en_lst (ea_cons (mk_box B F (mk_span S F (eg_rsub R F (eg_nm F 1) (eg_nm F 5) (by omega)) (eg_nm F 2) (by omega) (by grind)) (eg_nm F 8))
    (ea_cons (mk_box B F (mk_span S F (eg_nm F 1) (eg_radd R F (eg_nm F 2) (eg_nm F 5) (by omega)) (by omega) (by grind)) (eg_nm F 8))
    (ea_cons (mk_box B F (eg_nm F 6) (mk_span S F (eg_rsub R F (eg_nm F 3) (eg_nm F 5) (by omega)) (eg_nm F 4) (by omega) (by grind)))
    (ea_cons (mk_box B F (eg_nm F 6) (mk_span S F (eg_nm F 3) (eg_radd R F (eg_nm F 4) (eg_nm F 5) (by omega)) (by omega) (by grind)))
    (ea_cons eg_non (ea_cons eg_int (ea_cons (eg_tup (K := K) (ea_cons (eg_nm F 6) (ea_cons (eg_nm F 8) ea_nil))) (ea_cons (eg_nm F 6) ea_nil))))))))) ?_)
  have hcmp : ∀ m, OpT _ m (compareOp .NotEq) (tT K [ratT C a, ratT C b]) (tT K [ratT C p, ratT C q]) (tB (!([decide (a = p), decide (b = q)].all id))) := fun m =>
    ne_tup F (n := 44) rfl rfl (fun i A' B' b' h1 h2 h3 => by
      match i with
      | 0 => cases h1; cases h2; cases h3; exact eqIn_own F R.cf R.eq (.inl ⟨a, p, rfl, rfl⟩) fun x S h h' => decide_eq_true (rat_one h h')
      | 1 => cases h1; cases h2; cases h3; exact eqIn_own F R.cf R.eq (.inl ⟨b, q, rfl, rfl⟩) fun x S h h' => decide_eq_true (rat_one h h')
      | i + 2 => cases h1)
  have hbase : AllP (fun D => Apart P w K mg base (boxT CB CS C a b p q) D) [boxT CB CS C (a - nu) b p q, boxT CB CS C a (b + nu) p q, boxT CB CS C a b (p - nu) q, boxT CB CS C a b p (q + nu), tN, tI 5, tT K [spanT CS C a b, spanT CS C p q], spanT CS C a b] :=
    ⟨box_two B _ _ _ _ _ _ _ _ (.inl (by grind)), box_two B _ _ _ _ _ _ _ _ (.inr (.inl (by grind))), box_two B _ _ _ _ _ _ _ _ (.inr (.inr (.inl (by grind)))), box_two B _ _ _ _ _ _ _ _ (.inr (.inr (.inr (by grind)))), apart_base (box_no B _ _ _ _) (by decide) has_N (dt_N B.cf), apart_base (box_no B _ _ _ _) (by decide) has_I (dt_I B.cf), apart_base (box_no B _ _ _ _) (by decide) has_T (dt_T B.cf), apart_own (box_no B _ _ _ _) (span_no S _ _) l1 l2 l4 l3, trivial⟩
  by_cases hne : a = p ∧ b = q
  · refine sg_cons (sg1_if_no (et_eq (et_cmp (hcmp _) (eg_tup (K := K) (ea_cons (eg_nm F 1) (ea_cons (eg_nm F 2) ea_nil))) (eg_tup (K := K) (ea_cons (eg_nm F 3) (ea_cons (eg_nm F 4) ea_nil)))) (by simp [hne.1, hne.2])) (sg_nil ?_))
    refine sg_fr 7 rfl (cL_fr (K := K)) ?_
    refine sg_one (sg1_ret (eg_eq (eg_and (eg_call F gA (ea_cons (eg_nm F 9) (ea_cons (mk_box B F (mk_span S F (eg_nm F 1) (eg_nm F 2) (by omega) hab') (mk_span S F (eg_nm F 3) (eg_nm F 4) (by omega) hpq')) (ea_cons (eg_nm F 7) ea_nil)))
        ⟨_, _, _, rfl, box_eqT B _ _ _ _ _ _ _ _ (by simp), box_eqT B _ _ _ _ _ _ _ _ (by simp), all_mem hbase, Nat.le_of_ble_eq_true rfl, rfl⟩)
      fun _ => eg_and (eg_cmp (span_eqT S F a b a b) (eg_fld F B.cf.cl B.n1 (eg_nm F 9) rfl) (eg_nm F 6)) fun _ => eg_one (eg_cmp (span_eqT S F p q p q) (eg_fld F B.cf.cl B.n2 (eg_nm F 9) rfl) (eg_nm F 8))) (by simp)))
  · refine sg_cons (sg1_if (b := true) (et_eq (et_cmp (hcmp _) (eg_tup (K := K) (ea_cons (eg_nm F 1) (ea_cons (eg_nm F 2) ea_nil))) (eg_tup (K := K) (ea_cons (eg_nm F 3) (ea_cons (eg_nm F 4) ea_nil)))) (by simp only [List.all_cons, List.all_nil, id, Bool.and_true, Bool.not_eq_true', Bool.and_eq_false_iff, decide_eq_false_iff_not]; by_cases h : a = p; exact .inr fun z => hne ⟨h, z⟩; exact .inl h)) (fun _ => sg_one (sg1_app F 7 (mk_box B F (eg_nm F 8) (eg_nm F 6)) rfl ?_ (Nat.le_of_ble_eq_true rfl))) fun z => by cases z)
    refine sg_fr 7 rfl (cL_fr (K := K)) ?_
    refine sg_one (sg1_ret (eg_eq (eg_and (eg_call F gA (ea_cons (eg_nm F 9) (ea_cons (mk_box B F (mk_span S F (eg_nm F 1) (eg_nm F 2) (by omega) hab') (mk_span S F (eg_nm F 3) (eg_nm F 4) (by omega) hpq')) (ea_cons (eg_nm F 7) ea_nil)))
        ⟨_, _, _, rfl, box_eqT B _ _ _ _ _ _ _ _ (by simp), box_eqT B _ _ _ _ _ _ _ _ (by simp), fun D hD => ?_, Nat.le_of_ble_eq_true rfl, rfl⟩)
      fun _ => eg_and (eg_cmp (span_eqT S F a b a b) (eg_fld F B.cf.cl B.n1 (eg_nm F 9) rfl) (eg_nm F 6)) fun _ => eg_one (eg_cmp (span_eqT S F p q p q) (eg_fld F B.cf.cl B.n2 (eg_nm F 9) rfl) (eg_nm F 8))) (by simp)))
    rcases List.mem_append.mp hD with hD | hD
    · exact all_mem hbase D hD
    · rw [List.mem_singleton.mp hD]
      exact box_two B _ _ _ _ _ _ _ _ (by
        by_cases h : a = p
        · exact .inr (.inl fun z => hne ⟨h, z⟩)
        · exact .inl h)
end

section
variable {P : Program} {w : World} {K : PySem.W.Frag} {mg : Str → Option Value} {base : Heap} {f C CS CB CP : Addr} {fd : FuncData}
/-- Pair, once its defs are shown -/
structure PairOk (P : Program) (w : World) (K : PySem.W.Frag) (mg : Str → Option Value) (base : Heap) (CP : Addr) : Prop where
  cf : CF K CP
  mS : mg "Pair" = some (.ref CP)
  n1 : NoAttr K CP "rows"
  mak : MakT P w K mg base CP 44 [] (ISp CP (relPrI K))
  eq : MethT P w K mg base CP "__eq__" 44 (FSp (relPrE K CP))
theorem mk_pair {ι : Type} {X : ι → Cx} {m : Option Addr} {N : List Str} {k : Nat} {Γ : List Sl} {e1 : Expr} {p pos : Pos} {l : List Row} (S : PairOk P w K mg base CP) (F : Fam X P w K mg base N k) (h1 : EG X m e1 Γ (rowsT K l)) (hl : RowsOk l) (hk : 48 ≤ k := by decide)
    (hg : ∀ i, Gl (X i) "Pair" := by intro i; rfl) (hs2 : ∀ i, starEach [e1] (X i).env = (false, eval e1 (X i).env) :: starEach [] (X i).env := by intro i; rfl)
    (hpl : ∀ i, (backTo pos (starEach ([] : List Expr) (X i).env)).any (·.1) = false := by intro i; rfl) : EG X m (.Call (.Name "Pair" p) [e1] [] pos) Γ (pairT K CP (prow l)) :=
  eg_make F S.mak S.mS (ea_cons h1 ea_nil hs2) ⟨l, rfl, hl, rfl⟩ (by omega) hg (by decide) hs2 hpl
theorem pair_no (S : PairOk P w K mg base CP) (a : List (List Int)) : OwnNo P w K mg base CP (pairF K a) := ⟨S.cf, 44, _, by decide, S.eq, fun A t h k => .inr ⟨a, A, t, rfl, h, k, rfl⟩⟩
theorem pair_eqT (S : PairOk P w K mg base CP) (a b : List (List Int)) {r : Bool} (hr : decide (a = b) = r) : EqT P w K mg base (pairT K CP a) (pairT K CP b) r := fun ι X m N k F hk =>
  eq_own F S.eq (has_O S.cf) (by simp [PySem.W.notFirst]) (.inl ⟨a, b, rfl, by rw [hr]⟩) (by omega)
theorem pair_two (S : PairOk P w K mg base CP) {l m : List Row} (k : List Int) (h : coef l k ≠ coef m k) : Apart P w K mg base (pairT K CP (prow l)) (pairT K CP (prow m)) :=
  ⟨pair_eqT S _ _ (decide_eq_false fun z => h (prow_coef z k)), pair_eqT S _ _ (decide_eq_false fun z => h (prow_coef z k).symm)⟩
/-! the draws -/
def kks : List (Int × Int) := [(0, 0), (1, 0), (0, 1), (2, 1), (1, 2)]
def kk (p : Int × Int) : List Int := [p.1, p.2]
def Cd (c : Int) : Prop := c ≠ 0 ∧ -6 ≤ c ∧ c ≤ 6
structure PGd (n : Nat) (l : List Row) : Prop where
  sub : (l.map keyOf).Sublist ((kks.take n).map kk)
  cs : ∀ r ∈ l, Cd r.2.2
  ne : 4 ≤ n → l ≠ []
theorem PGd.step {n : Nat} {l : List Row} (h : PGd n l) {p : Int × Int} (hp : kks[n]? = some p) {c : Int} (hc : Cd c) : PGd (n + 1) (l ++ [(p.1, p.2, c)]) := by
  refine ⟨?_, fun r hr => ?_, fun _ => by simp⟩
  · rw [List.take_succ, hp, List.map_append, List.map_append]
    exact h.sub.append (List.Sublist.refl _)
  · rcases List.mem_append.mp hr with hr | hr
    · exact h.cs r hr
    · rw [List.mem_singleton.mp hr]; exact hc
theorem PGd.skip {n : Nat} {l : List Row} (h : PGd n l) {p : Int × Int} (hp : kks[n]? = some p) (hn : kk p ≠ [2, 1]) : PGd (n + 1) l := by
  refine ⟨?_, h.cs, fun h4 => ?_⟩
  · rw [List.take_succ, hp, List.map_append]
    exact h.sub.trans (List.sublist_append_left _ _)
  · by_cases e : n = 3
    · subst e
      have : (2, 1) = p := Option.some.inj hp
      subst this
      exact absurd rfl hn
    · exact h.ne (by omega)
theorem kks_nd : (kks.map kk).Nodup := by decide
theorem PGd.nd {l : List Row} (h : PGd 5 l) : (l.map keyOf).Nodup := h.sub.nodup kks_nd
theorem PGd.bd {l : List Row} (h : PGd 5 l) : ∀ r ∈ l, (0 ≤ r.1 ∧ r.1 ≤ 2) ∧ 0 ≤ r.2.1 ∧ r.2.1 ≤ 2 := by
  intro r hr
  have hm := h.sub.subset (List.mem_map.mpr ⟨r, hr, rfl⟩)
  obtain ⟨p, hp, e⟩ := List.mem_map.mp hm
  unfold kk keyOf at e
  injection e with e1 e2
  injection e2 with e2 _
  have hq : ∀ p ∈ kks, (0 ≤ p.1 ∧ p.1 ≤ 2) ∧ 0 ≤ p.2 ∧ p.2 ≤ 2 := by decide
  have := hq p hp
  rw [← e1, ← e2]
  exact this
theorem PGd.len {l : List Row} (h : PGd 5 l) : l.length ≤ 5 := by
  have := h.sub.length_le
  rw [List.length_map] at this
  exact this
theorem rows_ok {l : List Row} (h1 : l.length ≤ 900) (h2 : ∀ r ∈ l, (0 ≤ r.1 ∧ r.1 ≤ 12) ∧ 0 ≤ r.2.1 ∧ r.2.1 ≤ 12) : RowsOk l := ⟨by omega, h2⟩
theorem eg_rcat {ι : Type} {X : ι → Cx} {m : Option Addr} {Γ : List Sl} {e1 e2 : Expr} {pos : Pos} {l r : List Row} (h1 : EG X m e1 Γ (tLu (l.map (rowTy K)))) (h2 : EG X m e2 Γ (tLu (r.map (rowTy K)))) (hl : l.length + r.length ≤ 1000) : EG X m (.BinOp e1 .Add e2 pos) Γ (tLu ((l ++ r).map (rowTy K))) := by
  rw [List.map_append]
  exact eg_frzU (en_catU h1 h2 (by rw [List.length_map, List.length_map]; omega))
theorem eg_rows {ι : Type} {X : ι → Cx} {m : Option Addr} {Γ : List Sl} {e : Expr} {l : List Row} (h : EG X m e Γ (tLu (l.map (rowTy K)))) : EG X m e Γ (rowsT K l) := eg_le h (tLu_le _)
theorem cut_a {α : Type} (f : α → Ty) (l : List α) (n : Nat) (h : n ≤ l.length) : cutT (l.map f) none (some (n : Int)) = (l.take n).map f := by
  rw [cut_map, HT.sIx_nat, HT.sIx_none, List.drop_zero, Nat.min_eq_left h, Nat.sub_zero]
theorem cut_b {α : Type} (f : α → Ty) (l : List α) (n : Nat) (h : n ≤ l.length) : cutT (l.map f) (some (n : Int)) none = (l.drop n).map f := by
  rw [cut_map, HT.sIx_nat, HT.sIx_none, Nat.min_eq_left h, List.take_of_length_le (by rw [List.length_drop]; exact Nat.le_refl _)]
theorem at_map {α : Type} {f : α → Ty} {l : List α} {n : Nat} {r : α} (h : l[n]? = some r) : atI (l.map f) (n : Int) = some (f r) := by
  have hn : n < l.length := (List.getElem?_eq_some_iff.mp h).1
  unfold atI ixN
  rw [List.length_map, if_pos (by omega), if_pos (by omega)]
  show (l.map f)[(n : Int).toNat]? = some (f r)
  rw [Int.toNat_natCast, List.getElem?_map, h]; rfl
def dbl (r : Row) : Row := (r.1, r.2.1, 2 * r.2.2)
theorem coef_dbl (l : List Row) (k : List Int) : coef (l.map dbl) k = 2 * coef l k := by
  induction l with
  | nil => rfl
  | cons r l ih =>
    rw [List.map_cons, coef_cons, coef_cons, ih]
    have e : keyOf (dbl r) = keyOf r := rfl
    rw [e]
    by_cases h : keyOf r = k
    · rw [if_pos h, if_pos h]; show 2 * r.2.2 + _ = _; omega
    · rw [if_neg h, if_neg h]; omega
theorem opEx2' {ι : Type} {X : ι → Cx} {m : Option Addr} {n : Int} {D : Int → Prop} : OpT X m (binaryOp .Sub) (tI n) (tIx D) (tEx D fun i => tI (n - i)) := opEx2 fun _ _ => sub_II
theorem row3 (a b c : Int) : tT K [tI a, tI b, tI c] = rowTy K (a, b, c) := rfl
theorem sc__law_pairs_go : FnScope ["state", "rows", "i", "j", "one", "k", "c", "rest", "others", "x", "y", "z"] ["state"] (defScope (top 33)) := ⟨rfl, rfl, rfl, by decide +kernel, rfl, by decide +kernel, by decide +kernel⟩
theorem ok__law_pairs_go (W : Wd P base) (Bn : BN mg) (gT : FnT P w K mg base "_law_take" 41 (MSp relTake)) (gA : FnT P w K mg base "_law_asked" 71 (FSp (relAsked P w K mg base))) (S : PairOk P w K mg base CP) (D : FD K "_law_pairs_go" "_law_pairs_go" (top 33) [] f fd) : FnOk P w K mg base CX0 73 f fd ["state"] (MSp relGo) := by
  refine fn_okM D sc__law_pairs_go fun Ps r h => ?_
  obtain ⟨rfl, rfl⟩ := h
  refine ⟨rfl, fun st f cdv A outer s H E hr => ?_⟩
  have F := fam_bx (P := P) (w := w) (K := K) (mg := mg) (base := base) (f := f) (cdv := cdv) (s := s) (H := H) (E := E) (outer := outer) sc__law_pairs_go.nd W.see W.tr sc__law_pairs_go.gen sc__law_pairs_go.co hr
  refine sg_cons (sg1_setN F 1 (en_lst ea_nil) ?_)
  refine sg_cons (sg1_for F (As := kks.map fun p => tT K [tI p.1, tI p.2]) (it_tup F (eg_tup (ea_cons (eg_tup (ea_cons eg_int (ea_cons eg_int ea_nil))) (ea_cons (eg_tup (ea_cons eg_int (ea_cons eg_int ea_nil))) (ea_cons (eg_tup (ea_cons eg_int (ea_cons eg_int ea_nil))) (ea_cons (eg_tup (ea_cons eg_int (ea_cons eg_int ea_nil))) (ea_cons (eg_tup (ea_cons eg_int (ea_cons eg_int ea_nil))) ea_nil)))))))
    (fun n Δ => ∃ l : List Row, PGd n l ∧ SubG Δ [.sh (tV (.ref st)), .ow (cL (l.map (rowTy K))), .un, .un, .un, .un, .un, .un, .un, .un, .un, .un]) ⟨[], ⟨List.Sublist.refl _, (fun r hr => by cases hr), fun h => absurd h (by decide)⟩, .cons .same (.cons .same (.cons .un (.cons .un (.cons .un (.cons .un (.cons .un (.cons .un (.cons .un (.cons .un (.cons .un (.cons .un .nil)))))))))))⟩ (fun n A Δ hA hI => ?_) fun Δ hI => ?_)
  · obtain ⟨l, hl, hΔ⟩ := hI
    rw [List.getElem?_map] at hA
    obtain ⟨p, hp, rfl⟩ := Option.map_eq_some_iff.mp hA
    have hlen : l.length ≤ 5 := by
      have := hl.sub.length_le
      rw [List.length_map, List.length_map, List.length_take] at this
      exact Nat.le_trans this (Nat.min_le_right _ _)
    refine ⟨_, _, tg_tup F (tgs_cons (tg_nm F 2) (tgs_cons (tg_nm F 3) tgs_nil)), sg_weak (sub_set (sub_set hΔ 2) 3) ?_⟩
    refine sg_one (sg1_ifP (etp_w (ewp_or (etp_cmp (opEx1 fun i _ => eq_II) (eg_draw F gT (ea_cons (eg_nm F 0) (ea_cons eg_int ea_nil)) ⟨2, rfl, by decide, by decide, rfl⟩) eg_int) fun _ => ewp_or1 (etp_of (et_cmp (eq_11 F (l := kk p) (r := [2, 1])) (eg_tup (ea_cons (eg_nm F 2) (ea_cons (eg_nm F 3) ea_nil))) (eg_tup (ea_cons eg_int (ea_cons eg_int ea_nil))))))) (fun _ => ?_) fun hc => sg_nil ?_)
    · refine sg_cons (sg1_app F 1 (eg_le (eg_tup (K := K) (ea_cons (eg_nm F 2) (ea_cons (eg_nm F 3) (ea_cons (eg_ifP (A := tIx Cd) (etp_cmp (opEx1 fun i _ => eq_II) (eg_draw F gT (ea_cons (eg_nm F 0) (ea_cons eg_int ea_nil)) ⟨2, rfl, by decide, by decide, rfl⟩) eg_int)
        (fun _ => eg_addx eg_int (eg_draw F gT (ea_cons (eg_nm F 0) (ea_cons eg_int ea_nil)) ⟨5, rfl, by decide, by decide, rfl⟩) Cd (fun i h => ⟨by omega, by omega, by omega⟩))
        (fun _ => eg_le (eg_op opEx2' (eg_un neg_I eg_int) (eg_draw F gT (ea_cons (eg_nm F 0) (ea_cons eg_int ea_nil)) ⟨5, rfl, by decide, by decide, rfl⟩)) (tIx_le (fun i => -1 - i) fun i h => ⟨by omega, by omega, by omega⟩))) ea_nil)))) tT_ex3) rfl ?_ (by rw [List.length_map]; omega))
      refine sg_exO 1 rfl cL_last fun c hc => sg_nil ⟨l ++ [(p.1, p.2, c)], hl.step hp hc, ?_⟩
      rw [List.map_append]
      exact .cons .same (.cons .same (.cons .un (.cons .un (.cons .un (.cons .un (.cons .un (.cons .un (.cons .un (.cons .un (.cons .un (.cons .un .nil)))))))))))
    · refine ⟨l, hl.skip hp ?_, .cons .same (.cons .same (.cons .un (.cons .un (.cons .un (.cons .un (.cons .un (.cons .un (.cons .un (.cons .un (.cons .un (.cons .un .nil)))))))))))⟩
      rcases hc with ⟨z, _⟩ | ⟨_, z⟩
      · cases z
      · exact of_decide_eq_false z.symm
  obtain ⟨l, hl, hΔ⟩ := hI
  have nd := hl.nd
  have bd := hl.bd
  have ln := hl.len
  refine sg_weak hΔ (sg_fr 1 rfl cL_frU ?_)
  have hl0 : 0 < l.length := List.length_pos_iff.mpr (hl.ne (show 4 ≤ 5 by decide))
  refine sg_cons (sg1_par F 4 5 (eas_sh (mk_pair S F (eg_rows (eg_nm F 1)) (rows_ok (by omega) fun r hr => by have := bd r hr; omega)) (eas_sh (eg_draw F gT (ea_cons (eg_nm F 0) (ea_cons (eg_callB F (ca_lenL F) Bn.len (by decide +kernel) (ea_cons (eg_rows (eg_nm F 1)) ea_nil)) ea_nil)) ⟨(l.map (rowTy K)).length, rfl, by rw [List.length_map]; omega, by rw [List.length_map]; omega, rfl⟩) eas_nil)) ?_)
  refine sg_ex 5 rfl fun k hk => ?_
  rw [List.length_map] at hk
  obtain ⟨n, rfl⟩ := Int.eq_ofNat_of_zero_le hk.1
  have hn : n < l.length := by omega
  obtain ⟨r, hr⟩ : ∃ r, l[n]? = some r := ⟨_, List.getElem?_eq_getElem hn⟩
  have hrm : r ∈ l := List.mem_of_getElem? hr
  have hsp : l = l.take n ++ r :: l.drop (n + 1) := by
    conv => lhs; rw [← List.take_append_drop n l]
    rw [List.drop_eq_getElem_cons hn]
    rw [List.getElem?_eq_getElem hn] at hr
    rw [Option.some.inj hr]
  refine sg_cons (sg1_asg (eg_ix (ix_L F (at_map hr)) (eg_rows (eg_nm F 1)) (eg_nm F 5)) (tg_tup F (As := [tI r.1, tI r.2.1, tI r.2.2]) (tgs_cons (tg_nm F 2) (tgs_cons (tg_nm F 3) (tgs_cons (tg_nm F 6) tgs_nil)))) ?_)
  refine sg_cons (sg1_set F 7 (eg_rcat (l := l.take n) (r := l.drop (n + 1)) (eg_eq (eg_frzU (en_slL F (eg_rows (eg_nm F 1)) eo_none (eo_some (eg_nm F 5)))) (congrArg tLu (cut_a _ _ _ (by omega)))) (eg_eq (eg_frzU (en_slL F (eg_rows (eg_nm F 1)) (eo_some (eg_op add_II (eg_nm F 5) eg_int)) eo_none)) (congrArg tLu (cut_b (rowTy K) l (n + 1) (by omega)))) (by rw [List.length_take, List.length_drop]; omega)) ?_)
  have rbd : ∀ q ∈ l.take n ++ l.drop (n + 1), (0 ≤ q.1 ∧ q.1 ≤ 12) ∧ 0 ≤ q.2.1 ∧ q.2.1 ≤ 12 := fun q hq => by
    have hq' : q ∈ l := by
      rcases List.mem_append.mp hq with h | h
      · exact List.mem_of_mem_take h
      · exact List.mem_of_mem_drop h
    have := bd q hq'
    omega
  have rlen : (l.take n ++ l.drop (n + 1)).length ≤ 5 := by rw [List.length_append, List.length_take, List.length_drop]; omega
  have hcf : ∀ k', coef l k' = coef (l.take n ++ l.drop (n + 1)) k' + (if keyOf r = k' then r.2.2 else 0) := fun k' => by
    conv => lhs; rw [hsp]
    rw [coef_app, coef_app, coef_cons]
    omega
  generalize l.take n ++ l.drop (n + 1) = rl at rbd rlen hcf ⊢
  have hb := bd r hrm
  have hc := (hl.cs r hrm).1
  have okl := rows_ok (l := l) (by omega) fun q hq => by have := bd q hq; omega
  have add1 : ∀ (q : Row), ((0 ≤ q.1 ∧ q.1 ≤ 12) ∧ 0 ≤ q.2.1 ∧ q.2.1 ≤ 12) → ∀ m : List Row, m.length ≤ 10 → (∀ q ∈ m, (0 ≤ q.1 ∧ q.1 ≤ 12) ∧ 0 ≤ q.2.1 ∧ q.2.1 ≤ 12) → RowsOk (m ++ [q]) := fun q hq m hm hb => rows_ok (by rw [List.length_append]; simp; omega) fun x hx => by
    rcases List.mem_append.mp hx with h | h
    · exact hb x h
    · rw [List.mem_singleton.mp h]; exact hq
  refine sg_cons (sg1_set F 8 (eg_lst (K := K) (ea_cons (mk_pair (l := rl ++ [(r.1, r.2.1, r.2.2 + 7)]) S F (eg_rows (eg_rcat (eg_nm F 7) (eg_lstU (ea_cons (eg_tup (ea_cons (eg_nm F 2) (ea_cons (eg_nm F 3) (ea_cons (eg_op add_II (eg_nm F 6) eg_int) ea_nil)))) ea_nil)) (by simp; omega))) (add1 _ (by simp only; omega) _ (by omega) rbd))
    (ea_cons (mk_pair (l := rl) S F (eg_rows (eg_nm F 7)) (rows_ok (by omega) rbd))
    (ea_cons (mk_pair (l := rl ++ [(r.2.1 + 3, r.1, r.2.2)]) S F (eg_rows (eg_rcat (eg_nm F 7) (eg_lstU (ea_cons (eg_tup (ea_cons (eg_op add_II (eg_nm F 3) eg_int) (ea_cons (eg_nm F 2) (ea_cons (eg_nm F 6) ea_nil)))) ea_nil)) (by simp; omega))) (add1 _ (by simp only; omega) _ (by omega) rbd))
    (ea_cons (mk_pair (l := l ++ [(4, 4, 1)]) S F (eg_rows (eg_rcat (eg_nm F 1) (eg_lstU (ea_cons (eg_tup (ea_cons eg_int (ea_cons eg_int (ea_cons eg_int ea_nil)))) ea_nil)) (by simp; omega))) (add1 _ (by decide) _ (by omega) okl.bd))
    (ea_cons (mk_pair (l := l.map dbl) S F (eg_eq (eg_map F (own := [("x", 9), ("y", 10), ("z", 11)]) (l := l) (f := rowTy K) (g := fun q => rowTy K (dbl q)) (fun _ => blkOk_by (N := ["state", "rows", "i", "j", "one", "k", "c", "rest", "others", "x", "y", "z"]) (sc := defScope (top 33)) (by decide +kernel)) (it_list F (eg_rows (eg_nm F 1))) (by omega) (fun q hq => ⟨_, _, tg_tup (F.blk _) (tgs_cons (tg_nm (F.blk _) 9) (tgs_cons (tg_nm (F.blk _) 10) (tgs_cons (tg_nm (F.blk _) 11) tgs_nil))), by decide, eg_tup (ea_cons (eg_nm (F.blk _) 9) (ea_cons (eg_nm (F.blk _) 10) (ea_cons (eg_op (mul_IIl (i := 2) (by decide) (by decide)) eg_int (eg_nm (F.blk _) 11)) ea_nil)))⟩)) (by unfold rowsT; rw [List.map_map]; rfl)) (rows_ok (by rw [List.length_map]; omega) fun q hq => by obtain ⟨q', h1, rfl⟩ := List.mem_map.mp hq; exact okl.bd q' h1))
    (ea_cons eg_non (ea_cons eg_int (ea_cons (eg_rows (eg_nm F 1)) (ea_cons (eg_fld F S.cf.cl S.n1 (eg_nm F 4) rfl) ea_nil)))))))))) ?_)
  have hk0 : (4 : Int) ≠ r.1 := by omega
  have hsame : prow l = prow (([(r.1, r.2.1, r.2.2 - 5), (4, 4, 0)] ++ rl.reverse) ++ [(r.1, r.2.1, 5)]) := prow_same fun k' => by
    rw [hcf, coef_app, coef_app, coef_rev, coef_cons, coef_cons, coef_cons, coef_nil]
    have e1 : keyOf (r.1, r.2.1, r.2.2 - 5) = keyOf r := rfl
    have e2 : keyOf (r.1, r.2.1, (5 : Int)) = keyOf r := rfl
    have e3 : (if keyOf ((4, 4, 0) : Row) = k' then (((4, 4, 0) : Row)).2.2 else 0) = 0 := by split <;> rfl
    rw [e1, e2, e3]
    by_cases h : keyOf r = k'
    · rw [if_pos h, if_pos h, if_pos h]; show _ = _ - 5 + (0 + 0) + _ + (5 + 0); omega
    · rw [if_neg h, if_neg h, if_neg h]; omega
  have okL : RowsOk (([(r.1, r.2.1, r.2.2 - 5), (4, 4, 0)] ++ rl.reverse) ++ [(r.1, r.2.1, 5)]) := rows_ok (by simp; omega) fun q hq => by
    rcases List.mem_append.mp hq with h | h
    · rcases List.mem_append.mp h with h | h
      · rcases List.mem_cons.mp h with e | h
        · subst e; simp only; omega
        · rw [List.mem_singleton.mp h]; decide
      · exact rbd q (List.mem_reverse.mp h)
    · rw [List.mem_singleton.mp h]; simp only; omega
  have hpm := prow_perm nd fun q hq => (hl.cs q hq).1
  refine sg_one (sg1_ret (eg_eq (eg_and (eg_call F gA (ea_cons (eg_nm F 4) (ea_cons (mk_pair (l := ([(r.1, r.2.1, r.2.2 - 5), (4, 4, 0)] ++ rl.reverse) ++ [(r.1, r.2.1, 5)]) S F (eg_rows (eg_rcat (l := [(r.1, r.2.1, r.2.2 - 5), (4, 4, 0)] ++ rl.reverse) (eg_rcat (r := rl.reverse) (eg_lstU (ea_cons (eg_tup (ea_cons (eg_nm F 2) (ea_cons (eg_nm F 3) (ea_cons (eg_op sub_II (eg_nm F 6) eg_int) ea_nil)))) (ea_cons (eg_tup (ea_cons eg_int (ea_cons eg_int (ea_cons eg_int ea_nil)))) ea_nil))) (eg_eq (eg_frzU (en_revL F (eg_rows (eg_nm F 7)))) (by rw [List.map_reverse])) (by simp; omega)) (eg_lstU (ea_cons (eg_tup (ea_cons (eg_nm F 2) (ea_cons (eg_nm F 3) (ea_cons eg_int ea_nil)))) ea_nil)) (by simp; omega))) okL) (ea_cons (eg_nm F 8) ea_nil)))
      ⟨_, _, _, rfl, pair_eqT S _ _ (decide_eq_true hsame), pair_eqT S _ _ (decide_eq_true hsame.symm), all_mem (Q := fun D => Apart P w K mg base (pairT K CP (prow l)) D) ?_, Nat.le_of_ble_eq_true rfl, rfl⟩)
    fun _ => eg_one (eg_cmp (eq_LL F (l := sortL (prow l)) (r := sortL (l.map tri))) (eg_callB F (ca_srtT F (d := 3) (by decide) ?_) Bn.sorted (by decide +kernel) (ea_cons (eg_fld F S.cf.cl S.n1 (eg_nm F 4) rfl) ea_nil)) (eg_callB F (ca_srtL F (d := 3) (l := l.map tri) (by decide) ?_) Bn.sorted (by decide +kernel) (ea_cons (eg_eq (eg_rows (eg_nm F 1)) (by unfold rowsT; rw [List.map_map]; rfl)) ea_nil)))) ?_))
  · refine ⟨pair_two S (keyOf r) ?_, pair_two S (keyOf r) ?_, pair_two S (keyOf r) ?_, pair_two S [4, 4] ?_, pair_two S (keyOf r) ?_, apart_base (pair_no S _) (by decide) has_N (dt_N S.cf), apart_base (pair_no S _) (by decide) has_I (dt_I S.cf), apart_base (pair_no S _) (by decide) has_L (dt_L S.cf), apart_base (pair_no S _) (by decide) has_T (dt_T S.cf), trivial⟩
    · rw [hcf, if_pos rfl, coef_app, coef_cons, coef_nil, if_pos (show keyOf (r.1, r.2.1, r.2.2 + 7) = keyOf r from rfl)]; show _ + _ ≠ _ + (r.2.2 + 7 + 0); omega
    · rw [hcf, if_pos rfl]; omega
    · rw [hcf, coef_app, coef_cons, coef_nil, if_pos rfl, if_neg (fun z => by injection z with z _; simp only at z; omega)]; omega
    · rw [coef_app, coef_cons, coef_nil, if_pos (show keyOf ((4, 4, 1) : Row) = [4, 4] from rfl)]; show _ ≠ _ + (1 + 0); omega
    · rw [coef_dbl, coef_nd nd r hrm]; omega
  · exact fun ns hns => by
      obtain ⟨q, _, e⟩ := List.mem_map.mp (hpm.mem_iff.mp hns)
      rw [← e]; rfl
  · exact fun ns hns => by
      obtain ⟨q, _, e⟩ := List.mem_map.mp hns
      rw [← e]; rfl
  · rw [decide_eq_true (sortL_of_perm hpm)]; rfl
end

section
variable {P : Program} {w : World} {K : PySem.W.Frag} {mg : Str → Option Value} {base : Heap} {f : Addr} {fd : FuncData}
def relLaw (K : PySem.W.Frag) : List Ty → Ty → Prop := fun Ps r => ∃ ns : List Int, Ps = [tL K (ns.map tI)] ∧ ns.length ≤ 63 ∧ r = tB true
theorem sc_law : FnScope ["script", "state", "t"] ["script"] (defScope (top 34)) := ⟨rfl, rfl, rfl, by decide +kernel, rfl, by decide +kernel, by decide +kernel⟩
theorem ok_law (W : Wd P base) (Bn : BN mg) (gS : FnT P w K mg base "_law_state" 41 (NSp (relState K))) (g1 : FnT P w K mg base "_law_ratios_go" 73 (MSp relGo)) (g2 : FnT P w K mg base "_law_boxes_go" 73 (MSp relGo)) (g3 : FnT P w K mg base "_law_pairs_go" 73 (MSp relGo)) (D : FD K "law" "law" (top 34) [] f fd) : FnOk P w K mg base CX0 75 f fd ["script"] (FSp (relLaw K)) := by
  refine fn_ok D sc_law fun Ps r h => ?_
  obtain ⟨ns, rfl, hn, rfl⟩ := h
  refine ⟨rfl, fun f cdv A outer s H E hr => ?_⟩
  have F := fam_bx (P := P) (w := w) (K := K) (mg := mg) (base := base) (f := f) (cdv := cdv) (s := s) (H := H) (E := E) (outer := outer) sc_law.nd W.see W.tr sc_law.gen sc_law.co hr
  refine sg_state F 1 (en_call F gS (ea_cons (eg_nm F 0) ea_nil) ⟨ns, rfl, hn, rfl⟩ fun _ _ _ _ _ h => h) fun p => ?_
  refine sg_cons (sg1_for F (it_range1 F (n := 5) eg_int Bn.range (by decide)) (fun _ Δ => SubG Δ [.un, .sh (tV (.ref p)), .un]) (.cons .un (.cons .same (.cons .un .nil))) (fun n A Δ hA hI => ⟨_, _, tg_nm F 2, sg_weak (sub_set hI 2) ?_⟩) fun Δ hI => sg_weak hI (sg_one (sg1_ret eg_bl)))
  refine sg_one (sg1_if_no (et_w (ew_or (et_not (et_v (eg_draw F g1 (ea_cons (eg_nm F 1) ea_nil) ⟨rfl, rfl⟩))) fun _ => ew_or (et_not (et_v (eg_draw F g2 (ea_cons (eg_nm F 1) ea_nil) ⟨rfl, rfl⟩))) fun _ => ew_or1 (et_not (et_v (eg_draw F g3 (ea_cons (eg_nm F 1) ea_nil) ⟨rfl, rfl⟩))))) (sg_nil (.cons .un (.cons .same (.cons .un .nil)))))
end

end Rt

set_option Elab.async false
set_option linter.all false
set_option maxRecDepth 100000
set_option maxHeartbeats 0
namespace Rt
open PySem PySem.Spec PyProof.Rows L2

/-! ### the head -/
def dG (x : Str) (st : Stmt) : He.DefD := ⟨(x, none), x, x, defArgs st, defBody st, defScope st, [], []⟩
def dM (C m q : Str) (st : Stmt) (dfl : List He.Dv := []) : He.DefD := ⟨(C, some m), m, q, defArgs st, defBody st, defScope st, dfl, []⟩
def fn : List He.DefD := [dG "is_integer" (top 6), dG "common" (top 8), dG "check_ratio" (top 13), dM "Ratio" "__init__" "Ratio.__init__" (mth 12 0) [.int 1], dM "Ratio" "__add__" "Ratio.__add__" (mth 12 1), dM "Ratio" "__sub__" "Ratio.__sub__" (mth 12 2), dM "Ratio" "less" "Ratio.less" (mth 12 6), dM "Ratio" "__eq__" "Ratio.__eq__" (mth 12 5),
  dG "check_span" (top 15), dM "Span" "__init__" "Span.__init__" (mth 21 0), dM "Span" "__eq__" "Span.__eq__" (mth 21 1), dG "check_is_span" (top 22), dM "Box" "__init__" "Box.__init__" (mth 24 0), dM "Box" "__eq__" "Box.__eq__" (mth 24 1), dG "is_whole_row" (top 7), dG "are_rows" (top 19), dM "Pair" "__init__" "Pair.__init__" (mth 18 0), dM "Pair" "__eq__" "Pair.__eq__" (mth 18 1),
  dG "_law_state" (top 26), dG "_law_take" (top 27), dG "_law_says" (top 28), dG "_law_asked" (top 29), dG "_law_ratios_go" (top 30), dG "_law_span" (top 31), dG "_law_boxes_go" (top 32), dG "_law_pairs_go" (top 33), dG "law" (top 34)]
def fa : List He.Fa := [.glo "is_integer", .glo "common", .glo "check_ratio", .glo "check_span", .glo "check_is_span", .glo "is_whole_row", .glo "are_rows", .glo "_law_state", .glo "_law_take", .glo "_law_says", .glo "_law_asked", .glo "_law_ratios_go", .glo "_law_span", .glo "_law_boxes_go", .glo "_law_pairs_go", .glo "law",
  .glo "Ratio", .glo "Span", .glo "Box", .glo "Pair", .int "MOST_DEGREE" 12, .noat "Ratio" "n", .noat "Ratio" "d", .noat "Span" "low", .noat "Span" "high", .noat "Box" "x", .noat "Box" "y", .noat "Pair" "rows", .mkr "Ratio", .mkr "Span", .mkr "Box", .mkr "Pair",
  .meth "Ratio" "__add__", .meth "Ratio" "__sub__", .meth "Ratio" "less", .meth "Ratio" "__eq__", .meth "Span" "__eq__", .meth "Box" "__eq__", .meth "Pair" "__eq__",
  .free "abs", .free "all", .free "any", .free "bool", .free "enumerate", .free "int", .free "isinstance", .free "len", .free "list", .free "max", .free "range", .free "sorted", .free "str", .free "sum", .free "tuple", .free "zip"]
def kNo (K : PySem.W.Frag) (a b : Str) : Bool := decide (PySem.W.kitOne K (.ref (He.ga K a)) (.ref (He.ga K b)) = some false)
def nFi (K : PySem.W.Frag) (a b : Str) : Bool := PySem.W.notFirst K (He.ga K a) (.ref (He.ga K b))
def exB (K : PySem.W.Frag) : Bool := seerB K && (cfB K (He.ga K "Ratio") && (cfB K (He.ga K "Span") && (cfB K (He.ga K "Box") && (cfB K (He.ga K "Pair") && ((kNo K "Span" "Ratio" && kNo K "Ratio" "Span") && ((kNo K "Span" "Box" && kNo K "Box" "Span") && ((nFi K "Span" "Ratio" && nFi K "Ratio" "Span") && (nFi K "Span" "Box" && nFi K "Box" "Span"))))))))
abbrev R : PySem.W.OpenRow := PySem.W.OpenLaw.row PySem.Challenge.rw_rootsheld_k18_whole_what_is_equal_and_wh
abbrev Hk : PySem.W.Hook := hkX 5 fa fn exB
def names : List PySem.Str := ["_wall", "Fault", "Malformed", "Refused", "is_integer", "is_whole_row", "common", "power", "is_short", "Ratio", "check_ratio", "check_span", "MOST_DEGREE", "Pair", "are_rows", "Span", "check_is_span", "Box", "_law_state", "_law_take", "_law_says", "_law_asked", "_law_ratios_go", "_law_span", "_law_boxes_go", "_law_pairs_go"]
theorem run (w : World) : HandSHeadRun.RunEq R (PySem.W.view R.prog [34]) Hk (obX 5 fa fn exB) 12000 names w := by
  intro os
  kernel_rfl

end Rt

set_option Elab.async false
set_option linter.all false
set_option maxRecDepth 100000
set_option maxHeartbeats 0
namespace Rt
open PySem PySem.Spec PyProof.Rows L2

theorem facts {w : World} {K : PySem.W.Frag} {h : Heap} {mg : Str → Option Value} {f : Addr} (X : K.In h) (G : h.Ns mainGlobals mg) (ns : h.NoSeer) (hfa : mg ("law" : Str) = some (.ref f)) (c : He.SaysD fa fn K) (e : exB K = true) :
    ∃ fd : FuncData, (∀ (s : Shared) (v : Value), BindsTo s fd ⟨[v], []⟩ [("script", v)]) ∧ ∀ base : Heap, K.In base → base.Ns mainGlobals mg → FnOk (PySem.Challenge.rw_rootsheld_k18_whole_what_is_equal_and_wh).prog w K mg base CX0 75 f fd ["script"] (FSp (relLaw K)) := by
  unfold exB at e
  simp only [Bool.and_eq_true] at e
  obtain ⟨e0, e1, e2, e3, e4, ⟨k1, k2⟩, ⟨l1, l2⟩, ⟨n1, n2⟩, n3, n4⟩ := e
  have cR := cf_of e1
  have cS := cf_of e2
  have cB := cf_of e3
  have cP := cf_of e4
  replace k1 := of_decide_eq_true k1
  replace k2 := of_decide_eq_true k2
  replace l1 := of_decide_eq_true l1
  replace l2 := of_decide_eq_true l2
  have fr : ∀ (i : Nat) {x : Str}, fa[i]? = some (.free x) → mg x = none := fun i x h => He.free_ok X G (c.fact i h)
  have gl : ∀ (i : Nat) {x : Str}, fa[i]? = some (.glo x) → mg x = some (.ref (He.ga K x)) := fun i x h => He.glo_ok X G (c.fact i h)
  have Bn : BN mg := ⟨fr 39 rfl, fr 40 rfl, fr 41 rfl, fr 42 rfl, fr 43 rfl, fr 44 rfl, fr 45 rfl, fr 46 rfl, fr 47 rfl, fr 48 rfl, fr 49 rfl, fr 50 rfl, fr 51 rfl, fr 52 rfl, fr 53 rfl, fr 54 rfl⟩
  have hl := hfa.symm.trans (gl 15 rfl)
  injection hl with hl
  injection hl with hl
  subst hl
  obtain ⟨_, D0⟩ := c.def_ 0 (d := dG "is_integer" (top 6)) rfl
  obtain ⟨_, D1⟩ := c.def_ 1 (d := dG "common" (top 8)) rfl
  obtain ⟨_, D2⟩ := c.def_ 2 (d := dG "check_ratio" (top 13)) rfl
  obtain ⟨_, D3⟩ := c.def_ 3 (d := dM "Ratio" "__init__" "Ratio.__init__" (mth 12 0) [.int 1]) rfl
  obtain ⟨_, D4⟩ := c.def_ 4 (d := dM "Ratio" "__add__" "Ratio.__add__" (mth 12 1)) rfl
  obtain ⟨_, D5⟩ := c.def_ 5 (d := dM "Ratio" "__sub__" "Ratio.__sub__" (mth 12 2)) rfl
  obtain ⟨_, D6⟩ := c.def_ 6 (d := dM "Ratio" "less" "Ratio.less" (mth 12 6)) rfl
  obtain ⟨_, D7⟩ := c.def_ 7 (d := dM "Ratio" "__eq__" "Ratio.__eq__" (mth 12 5)) rfl
  obtain ⟨_, D8⟩ := c.def_ 8 (d := dG "check_span" (top 15)) rfl
  obtain ⟨_, D9⟩ := c.def_ 9 (d := dM "Span" "__init__" "Span.__init__" (mth 21 0)) rfl
  obtain ⟨_, D10⟩ := c.def_ 10 (d := dM "Span" "__eq__" "Span.__eq__" (mth 21 1)) rfl
  obtain ⟨_, D11⟩ := c.def_ 11 (d := dG "check_is_span" (top 22)) rfl
  obtain ⟨_, D12⟩ := c.def_ 12 (d := dM "Box" "__init__" "Box.__init__" (mth 24 0)) rfl
  obtain ⟨_, D13⟩ := c.def_ 13 (d := dM "Box" "__eq__" "Box.__eq__" (mth 24 1)) rfl
  obtain ⟨_, D14⟩ := c.def_ 14 (d := dG "is_whole_row" (top 7)) rfl
  obtain ⟨_, D15⟩ := c.def_ 15 (d := dG "are_rows" (top 19)) rfl
  obtain ⟨_, D16⟩ := c.def_ 16 (d := dM "Pair" "__init__" "Pair.__init__" (mth 18 0)) rfl
  obtain ⟨_, D17⟩ := c.def_ 17 (d := dM "Pair" "__eq__" "Pair.__eq__" (mth 18 1)) rfl
  obtain ⟨_, D18⟩ := c.def_ 18 (d := dG "_law_state" (top 26)) rfl
  obtain ⟨_, D19⟩ := c.def_ 19 (d := dG "_law_take" (top 27)) rfl
  obtain ⟨_, D20⟩ := c.def_ 20 (d := dG "_law_says" (top 28)) rfl
  obtain ⟨_, D21⟩ := c.def_ 21 (d := dG "_law_asked" (top 29)) rfl
  obtain ⟨_, D22⟩ := c.def_ 22 (d := dG "_law_ratios_go" (top 30)) rfl
  obtain ⟨_, D23⟩ := c.def_ 23 (d := dG "_law_span" (top 31)) rfl
  obtain ⟨_, D24⟩ := c.def_ 24 (d := dG "_law_boxes_go" (top 32)) rfl
  obtain ⟨_, D25⟩ := c.def_ 25 (d := dG "_law_pairs_go" (top 33)) rfl
  obtain ⟨fd, D26⟩ := c.def_ 26 (d := dG "law" (top 34)) rfl
  have b := FunD.bindsA (ps := ["script"]) D26 fun _ _ _ _ _ _ us hl => match us, hl with | [_], _ => rfl
  refine ⟨fd, fun s v => b s [v] rfl, fun base Y GB => ?_⟩
  have W : Wd (PySem.Challenge.rw_rootsheld_k18_whole_what_is_equal_and_wh).prog base := ⟨noSeer_base X Y G ns e0, rfl⟩
  have m1 := He.noat_ok (c.fact 21 (f := .noat "Ratio" "n") rfl)
  have m2 := He.noat_ok (c.fact 22 (f := .noat "Ratio" "d") rfl)
  have m3 := He.noat_ok (c.fact 23 (f := .noat "Span" "low") rfl)
  have m4 := He.noat_ok (c.fact 24 (f := .noat "Span" "high") rfl)
  have m5 := He.noat_ok (c.fact 25 (f := .noat "Box" "x") rfl)
  have m6 := He.noat_ok (c.fact 26 (f := .noat "Box" "y") rfl)
  have m7 := He.noat_ok (c.fact 27 (f := .noat "Pair" "rows") rfl)
  have gI := fnt (gl 0 rfl) D0 (ok_is_integer (w := w) W Bn D0) fun _ _ _ _ _ _ us hl => match us, hl with | [_], _ => rfl
  have gC := fnt (gl 1 rfl) D1 (ok_common (w := w) W Bn D1) fun _ _ _ _ _ _ us hl => match us, hl with | [_, _], _ => rfl
  have gK := fnt (gl 2 rfl) D2 (ok_check_ratio (w := w) W Bn cR (gl 16 rfl) D2) fun _ _ _ _ _ _ us hl => match us, hl with | [_], _ => rfl
  have oI := ok_Ratio___init__ (w := w) W Bn gI gC cR.cl m1 m2 D3
  have RO : RatOk (PySem.Challenge.rw_rootsheld_k18_whole_what_is_equal_and_wh).prog w K mg base (He.ga K "Ratio") := ⟨cR, gl 16 rfl, m1, m2,
    makt1 (He.mkr_ok (c.fact 28 (f := .mkr "Ratio") rfl)) D3 oI 2 0 rfl (fun _ _ _ _ _ _ _ us its h1 h2 => match us, its, h1, h2 with | [_, _], [_], _, _ => ⟨_, rfl, rfl⟩),
    makt1 (He.mkr_ok (c.fact 28 (f := .mkr "Ratio") rfl)) D3 oI 3 1 rfl (fun _ _ _ _ _ _ _ us its h1 h2 => match us, its, h1, h2 with | [_, _, _], [_], _, _ => ⟨_, rfl, rfl⟩), gK⟩
  have RP : RatOps (PySem.Challenge.rw_rootsheld_k18_whole_what_is_equal_and_wh).prog w K mg base (He.ga K "Ratio") := ⟨RO,
    metht (He.meth_ok (c.fact 32 (f := .meth "Ratio" "__add__") rfl)) D4 (ok_Ratio___add__ W Bn RO D4) (fun _ _ _ _ _ _ us hl => match us, hl with | [_, _], _ => rfl),
    metht (He.meth_ok (c.fact 33 (f := .meth "Ratio" "__sub__") rfl)) D5 (ok_Ratio___sub__ W Bn RO D5) (fun _ _ _ _ _ _ us hl => match us, hl with | [_, _], _ => rfl),
    metht (He.meth_ok (c.fact 34 (f := .meth "Ratio" "less") rfl)) D6 (ok_Ratio_less W Bn RO D6) (fun _ _ _ _ _ _ us hl => match us, hl with | [_, _], _ => rfl),
    metht (He.meth_ok (c.fact 35 (f := .meth "Ratio" "__eq__") rfl)) D7 (ok_Ratio___eq__ W Bn RO D7) (fun _ _ _ _ _ _ us hl => match us, hl with | [_, _], _ => rfl)⟩
  have gCS := fnt (gl 3 rfl) D8 (ok_check_span W Bn RP D8) fun _ _ _ _ _ _ us hl => match us, hl with | [_, _], _ => rfl
  have SP : SpanOk (PySem.Challenge.rw_rootsheld_k18_whole_what_is_equal_and_wh).prog w K mg base (He.ga K "Ratio") (He.ga K "Span") := ⟨cS, gl 17 rfl, m3, m4,
    makt (He.mkr_ok (c.fact 29 (f := .mkr "Span") rfl)) D9 (ok_Span___init__ W Bn gCS cS.cl m3 m4 D9) (fun _ _ _ _ _ _ us hl => match us, hl with | [_, _, _], _ => rfl),
    metht (He.meth_ok (c.fact 36 (f := .meth "Span" "__eq__") rfl)) D10 (ok_Span___eq__ W Bn RP cS (gl 17 rfl) m3 m4 D10) (fun _ _ _ _ _ _ us hl => match us, hl with | [_, _], _ => rfl)⟩
  have gCI := fnt (gl 4 rfl) D11 (ok_check_is_span (w := w) (C := He.ga K "Ratio") W Bn cS (gl 17 rfl) D11) fun _ _ _ _ _ _ us hl => match us, hl with | [_], _ => rfl
  have BX : BoxOk (PySem.Challenge.rw_rootsheld_k18_whole_what_is_equal_and_wh).prog w K mg base (He.ga K "Ratio") (He.ga K "Span") (He.ga K "Box") := ⟨cB, gl 18 rfl, m5, m6,
    makt (He.mkr_ok (c.fact 30 (f := .mkr "Box") rfl)) D12 (ok_Box___init__ W Bn gCI cB.cl m5 m6 D12) (fun _ _ _ _ _ _ us hl => match us, hl with | [_, _, _], _ => rfl),
    metht (He.meth_ok (c.fact 37 (f := .meth "Box" "__eq__") rfl)) D13 (ok_Box___eq__ W Bn SP cB (gl 18 rfl) m5 m6 D13) (fun _ _ _ _ _ _ us hl => match us, hl with | [_, _], _ => rfl)⟩
  have gW := fnt (gl 5 rfl) D14 (ok_is_whole_row W Bn gI D14) fun _ _ _ _ _ _ us hl => match us, hl with | [_], _ => rfl
  have gR := fnt (gl 6 rfl) D15 (ok_are_rows W Bn gW (He.int_ok X G (c.fact 20 (f := .int "MOST_DEGREE" 12) rfl)) D15) fun _ _ _ _ _ _ us hl => match us, hl with | [_], _ => rfl
  have PP : PairOk (PySem.Challenge.rw_rootsheld_k18_whole_what_is_equal_and_wh).prog w K mg base (He.ga K "Pair") := ⟨cP, gl 19 rfl, m7,
    makt (He.mkr_ok (c.fact 31 (f := .mkr "Pair") rfl)) D16 (ok_Pair___init__ W Bn gR cP.cl m7 D16) (fun _ _ _ _ _ _ us hl => match us, hl with | [_, _], _ => rfl),
    metht (He.meth_ok (c.fact 38 (f := .meth "Pair" "__eq__") rfl)) D17 (ok_Pair___eq__ (w := w) W Bn cP (gl 19 rfl) m7 D17) (fun _ _ _ _ _ _ us hl => match us, hl with | [_, _], _ => rfl)⟩
  have gS := fnt (gl 7 rfl) D18 (ok__law_state (w := w) W Bn D18) fun _ _ _ _ _ _ us hl => match us, hl with | [_], _ => rfl
  have gT := fnt (gl 8 rfl) D19 (ok__law_take (w := w) W Bn D19) fun _ _ _ _ _ _ us hl => match us, hl with | [_, _], _ => rfl
  have gY := fnt (gl 9 rfl) D20 (ok__law_says (w := w) W Bn D20) fun _ _ _ _ _ _ us hl => match us, hl with | [_, _], _ => rfl
  have gA := fnt (gl 10 rfl) D21 (ok__law_asked W Bn gY D21) fun _ _ _ _ _ _ us hl => match us, hl with | [_, _, _], _ => rfl
  have g1 := fnt (gl 11 rfl) D22 (ok__law_ratios_go W Bn gT gA RP D22) fun _ _ _ _ _ _ us hl => match us, hl with | [_], _ => rfl
  have gP := fnt (gl 12 rfl) D23 (ok__law_span W Bn gT RP D23) fun _ _ _ _ _ _ us hl => match us, hl with | [_], _ => rfl
  have g2 := fnt (gl 13 rfl) D24 (ok__law_boxes_go W Bn gP gA RP SP BX k1 k2 n1 n2 l1 l2 n3 n4 D24) fun _ _ _ _ _ _ us hl => match us, hl with | [_], _ => rfl
  have g3 := fnt (gl 14 rfl) D25 (ok__law_pairs_go W Bn gT gA PP D25) fun _ _ _ _ _ _ us hl => match us, hl with | [_], _ => rfl
  exact ok_law W Bn gS g1 g2 g3 D26
end Rt
open PySem PySem.W PySem.Calls PyProof.Rows
theorem PySem.Challenge.cw_rootsheld_k18_whole_what_is_equal_and_wh_holds : PySem.Challenge.rw_rootsheld_k18_whole_what_is_equal_and_wh.Holds := by
  w_on; o_law
  refine HandSHeadRun.head_any (r := OpenLaw.row PySem.Challenge.rw_rootsheld_k18_whole_what_is_equal_and_wh) (q := view (OpenLaw.row PySem.Challenge.rw_rootsheld_k18_whole_what_is_equal_and_wh).prog [34]) (H := Rt.Hk) (ob := Rt.obX 5 Rt.fa Rt.fn Rt.exB) (M := 12000) (loose := Rt.names) (d := HandSHeadRun.topDef (OpenLaw.row PySem.Challenge.rw_rootsheld_k18_whole_what_is_equal_and_wh).prog 34) (kwd := []) (Rt.obX_eq 5 Rt.fa Rt.fn Rt.exB)
    (by kernel_rfl) (fun s => by kernel_rfl) Rt.run (by kernel_rfl) (by kernel_rfl) (by kernel_rfl) (by rfl) (by first | assumption | decide +kernel) (by decide +kernel) ⟨rfl, rfl, rfl, rfl, rfl, by decide +kernel⟩ ?hw ?hc
  case hw => w_witness2
  case hc =>
    refine Rt.walk_seer (l := PySem.Challenge.rw_rootsheld_k18_whole_what_is_equal_and_wh) (n := 63) (k := 75) (x := "script") (CX := L2.CX0) rfl (by decide) (by kernel_rfl) ⟨rfl, by decide, by decide⟩ (by decide +kernel) ?F (fun _ _ _ _ z => z)
    intro w mg fa h Y G ns hmg0
    obtain ⟨K, KX, c, e⟩ := Y
    have hmg : mg ("law" : PySem.Str) = some (.ref fa) := by
      have e : (HandSHeadRun.topDef (OpenLaw.row PySem.Challenge.rw_rootsheld_k18_whole_what_is_equal_and_wh).prog 34).name = ("law" : PySem.Str) := by kernel_rfl
      rw [← e]
      exact hmg0
    obtain ⟨fd, hb, hF⟩ := Rt.facts (w := w) KX G ns hmg c e
    exact ⟨K, fd, Rt.FSp (Rt.relLaw K), KX, hb, fun H a ns hl _ hS => Rt.law_sp (n := 63) (fun ns hl => ⟨ns, rfl, hl, rfl⟩) H a ns hl hS, hF⟩


