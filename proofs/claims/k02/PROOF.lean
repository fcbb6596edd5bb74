import PyProof.Rows.All
import Wide.All
import OpenK.AllK
import Wide.FinOn
import HandS.ForMost
import HandS.Exc
import HandS.CallSlots
import HandS.TupAny
import HandS.Lambda
import HandS.Flow
import HandS.Deep
import HandS.TupLe
import HandS.IsInst
import HandS.NoneIn
import HandS.Style
import HandS.Zip
import HandS.Defaults
import HandS.ExcInit
import HandS.ExcField
import HandS.TryMany
import HandS.WordsExc
import HandS.HeadHook4
import HandS.HeadWalk
import HandS.Codes
import KE.KStateDown
import HandS.Head2
import HandS.HeadEnd
import PySem.Challenge.RW_nobodystuck_k02_whole_tokens
set_option Elab.async false
set_option linter.all false
set_option maxRecDepth 100000
set_option maxHeartbeats 2000000
/-! Dn1: values, stores, results; how they lie in the heap -/
namespace Dn
open PySem PySem.Spec PyProof.Rows L2

/-- values: tuples, frozen lists and exceptions by what they hold, what may change by its number in the store -/
inductive W where
  | non | bl (b : Bool) | int (i : Int) | str (x : Str) | tup (xs : List W) | fls (xs : List W)
  | ref (n : Nat)
  /-- a lambda without parameters: its function, its code object and name, what it sees -/
  | lam (f c : Addr) (q : Str) (vs : List V) (ws : List W)
inductive Cell where
  | lst (xs : List W)
  | dic (kvs : List (Key × W))
  | ins (c : Str) (fs : List (Str × W))
abbrev Store := List Cell
abbrev Env := List (Option W)
/-- what a piece of code comes to -/
inductive R (α : Type) where
  | ok (a : α) (S : Store)
  | exc (c : Str) (fs : List (Str × W)) (S : Store)
  | bad
def R.bind {α β : Type} (r : R α) (f : α → Store → R β) : R β := match r with
  | .ok a S => f a S
  | .exc c fs S => .exc c fs S
  | .bad => .bad
@[simp] theorem R.bind_ok {α β : Type} (a : α) (S : Store) (f : α → Store → R β) : (R.ok a S).bind f = f a S := rfl
@[simp] theorem R.bind_exc {α β : Type} (c : Str) (fs : List (Str × W)) (S : Store) (f : α → Store → R β) : (R.exc c fs S : R α).bind f = .exc c fs S := rfl
@[simp] theorem R.bind_bad {α β : Type} (f : α → Store → R β) : (R.bad : R α).bind f = .bad := rfl

/-- what the relation leans on -/
structure Cn where
  K : PySem.W.Frag
  mg : Str → Option Value
/-- the table of a function's code object, and the name of the lambdas that it makes -/
def tabO (o : Obj) : Option (Addr × Str) := match o.data with
  | .fields vs => match vs.toList.drop 11, vs.toList.drop 1 with
    | Value.ref P :: _, Value.str q _ :: _ => some (P, q ++ ".<locals>." ++ "<lambda>")
    | _, _ => none
  | _ => none
def tabK (K : PySem.W.Frag) : List (Addr × Str) := K.filterMap fun p => tabO p.2
/-- what may change -/
def Mu : HO → Prop
  | .lst _ => True
  | .dK _ => True
  | .ins _ _ _ => True
  | _ => False
theorem tabs_upd {T : List (Addr × Str)} {H : Hp} {p : Addr} {o : HO} (t : LamX.Tabs T H) (h : ∀ u, H p = some u → Mu u) : LamX.Tabs T (upd H p o) := by
  have ne : ∀ {b u}, H b = some u → ¬ Mu u → upd H p o b = some u := fun {b u} e m => by
    rw [upd_ne fun z => m (h u (by rw [← z]; exact e))]; exact e
  intro q hq
  obtain ⟨ps, h1, h2, h3⟩ := t q hq
  refine ⟨ps, ne h1 fun z => z, h2, fun pos cv hc => ?_⟩
  obtain ⟨c, e1, e2⟩ := h3 pos cv hc
  exact ⟨c, e1, ne e2 fun z => z⟩
/-- a list that nobody changes -/
def SqF (K : PySem.W.Frag) (H : Hp) (a : Addr) (xs : List V) : Prop :=
  (∃ o, H a = some (.frz o (.lst xs))) ∨
    ∃ (o : Obj) (its : Array Value) (n : Nat), K.lookup a = some o ∧ o.cls = .type "list" ∧ o.dict = none ∧ o.data = .seq its n ∧ its.size ≤ sizeLine ∧ Vals xs its.toList
theorem SqF.sq {K : PySem.W.Frag} {H : Hp} {a : Addr} {xs : List V} (h : SqF K H a xs) : SqL K H a xs := by
  rcases h with h | h
  · exact .inl (.inr h)
  · exact .inr h
mutual
inductive RW (c : Cn) (ρ : Nat → Addr) (n : Nat) (H : Hp) : W → V → Prop
  | non : RW c ρ n H .non .non
  | bl (b : Bool) : RW c ρ n H (.bl b) (.bl b)
  | int (i : Int) : RW c ρ n H (.int i) (.int i)
  | str (x : Str) : RW c ρ n H (.str x) (.str x)
  | tup {a : Addr} {vs : List V} {ws : List W} : SqT c.K H a vs → RWs c ρ n H ws vs → RW c ρ n H (.tup ws) (.ref a)
  | fls {a : Addr} {vs : List V} {ws : List W} : SqF c.K H a vs → RWs c ρ n H ws vs → RW c ρ n H (.fls ws) (.ref a)
  | ref {i : Nat} : i < n → RW c ρ n H (.ref i) (.ref (ρ i))
  | lam {f a : Addr} {q : Str} {vs : List V} {ws : List W} : H a = some (LamX.CodeO a q) → RWs c ρ n H ws vs → RW c ρ n H (.lam f a q vs ws) (.ref f)
inductive RWs (c : Cn) (ρ : Nat → Addr) (n : Nat) (H : Hp) : List W → List V → Prop
  | nil : RWs c ρ n H [] []
  | cons {w : W} {v : V} {ws : List W} {vs : List V} : RW c ρ n H w v → RWs c ρ n H ws vs → RWs c ρ n H (w :: ws) (v :: vs)
end
/-- what never changes stays -/
structure Kp (c : Cn) (H H' : Hp) : Prop where
  tup : ∀ a xs, SqT c.K H a xs → SqT c.K H' a xs
  fls : ∀ a xs, SqF c.K H a xs → SqF c.K H' a xs
  xd : ∀ d fs, H d = some (.xd fs) → H' d = some (.xd fs)
  cod : ∀ a q, H a = some (LamX.CodeO a q) → H' a = some (LamX.CodeO a q)
theorem Kp.refl (c : Cn) (H : Hp) : Kp c H H := ⟨fun _ _ h => h, fun _ _ h => h, fun _ _ h => h, fun _ _ h => h⟩
theorem Kp.trans {c : Cn} {H H1 H2 : Hp} (a : Kp c H H1) (b : Kp c H1 H2) : Kp c H H2 := ⟨fun x y h => b.tup x y (a.tup x y h), fun x y h => b.fls x y (a.fls x y h), fun x y h => b.xd x y (a.xd x y h), fun x y h => b.cod x y (a.cod x y h)⟩
section
variable {c c' : Cn} {ρ ρ' : Nat → Addr} {n n' : Nat} {H H' : Hp}
mutual
theorem RW.mono (hρ : ∀ i, i < n → ρ' i = ρ i) (hn : n ≤ n') (k : Kp c H H') : ∀ {w : W} {v : V}, RW c ρ n H w v → RW c ρ' n' H' w v
  | _, _, .non => .non
  | _, _, .bl b => .bl b
  | _, _, .int i => .int i
  | _, _, .str x => .str x
  | _, _, .tup h r => .tup (k.tup _ _ h) (RWs.mono hρ hn k r)
  | _, _, .fls h r => .fls (k.fls _ _ h) (RWs.mono hρ hn k r)
  | _, _, .ref (i := i) h => by rw [← hρ i h]; exact .ref (Nat.lt_of_lt_of_le h hn)
  | _, _, .lam h r => .lam (k.cod _ _ h) (RWs.mono hρ hn k r)
theorem RWs.mono (hρ : ∀ i, i < n → ρ' i = ρ i) (hn : n ≤ n') (k : Kp c H H') : ∀ {ws : List W} {vs : List V}, RWs c ρ n H ws vs → RWs c ρ' n' H' ws vs
  | _, _, .nil => .nil
  | _, _, .cons r t => .cons (RW.mono hρ hn k r) (RWs.mono hρ hn k t)
end
theorem RWs.length : ∀ {ws : List W} {vs : List V}, RWs c ρ n H ws vs → ws.length = vs.length
  | _, _, .nil => rfl
  | _, _, .cons _ t => by rw [List.length_cons, List.length_cons, RWs.length t]
theorem RWs.get : ∀ {ws : List W} {vs : List V} {i : Nat} {w : W}, RWs c ρ n H ws vs → ws[i]? = some w → ∃ v, vs[i]? = some v ∧ RW c ρ n H w v
  | _, _, _, _, .nil, e => by simp at e
  | _, _, 0, _, .cons r _, e => by simp at e; subst e; exact ⟨_, rfl, r⟩
  | _, _, i + 1, w, .cons _ t, e => by
    obtain ⟨v, h1, h2⟩ := RWs.get (i := i) (w := w) t (by simpa using e)
    exact ⟨v, by simpa using h1, h2⟩
theorem RWs.getV : ∀ {ws : List W} {vs : List V} {i : Nat} {v : V}, RWs c ρ n H ws vs → vs[i]? = some v → ∃ w, ws[i]? = some w ∧ RW c ρ n H w v
  | _, _, _, _, .nil, e => by simp at e
  | _, _, 0, _, .cons r _, e => by simp at e; subst e; exact ⟨_, rfl, r⟩
  | _, _, i + 1, v, .cons _ t, e => by
    obtain ⟨w, h1, h2⟩ := RWs.getV (i := i) (v := v) t (by simpa using e)
    exact ⟨w, by simpa using h1, h2⟩
theorem RWs.append : ∀ {ws us : List W} {vs xs : List V}, RWs c ρ n H ws vs → RWs c ρ n H us xs → RWs c ρ n H (ws ++ us) (vs ++ xs)
  | _, _, _, _, .nil, s => s
  | _, _, _, _, .cons r t, s => .cons r (RWs.append t s)
theorem RWs.take : ∀ {ws : List W} {vs : List V} (k : Nat), RWs c ρ n H ws vs → RWs c ρ n H (ws.take k) (vs.take k)
  | _, _, 0, _ => .nil
  | _, _, _ + 1, .nil => .nil
  | _, _, k + 1, .cons r t => .cons r (RWs.take k t)
theorem RWs.drop : ∀ {ws : List W} {vs : List V} (k : Nat), RWs c ρ n H ws vs → RWs c ρ n H (ws.drop k) (vs.drop k)
  | _, _, 0, r => r
  | _, _, _ + 1, .nil => .nil
  | _, _, k + 1, .cons _ t => RWs.drop k t
theorem RWs.set {w : W} {v : V} (r : RW c ρ n H w v) : ∀ {ws : List W} {vs : List V} (i : Nat), RWs c ρ n H ws vs → RWs c ρ n H (ws.set i w) (vs.set i v)
  | _, _, _, .nil => .nil
  | _, _, 0, .cons _ t => .cons r t
  | _, _, i + 1, .cons q t => .cons q (RWs.set r i t)
theorem RWs.reverse {ws : List W} {vs : List V} (r : RWs c ρ n H ws vs) : RWs c ρ n H ws.reverse vs.reverse := by
  induction ws generalizing vs with
  | nil => cases r; exact .nil
  | cons w ws ih =>
    cases r with
    | cons a t => rw [List.reverse_cons, List.reverse_cons]; exact RWs.append (ih t) (.cons a .nil)
theorem RWs.eraseIdx : ∀ {ws : List W} {vs : List V} (i : Nat), RWs c ρ n H ws vs → RWs c ρ n H (ws.eraseIdx i) (vs.eraseIdx i)
  | _, _, _, .nil => .nil
  | _, _, 0, .cons _ t => t
  | _, _, i + 1, .cons q t => .cons q (RWs.eraseIdx i t)
end
/-- pairs by name -/
def RF (c : Cn) (ρ : Nat → Addr) (n : Nat) (H : Hp) (fs : List (Str × W)) (gs : List (Str × V)) : Prop := gs.map (·.1) = fs.map (·.1) ∧ RWs c ρ n H (fs.map (·.2)) (gs.map (·.2))
def RK (c : Cn) (ρ : Nat → Addr) (n : Nat) (H : Hp) (fs : List (Key × W)) (gs : List (Key × V)) : Prop := gs.map (·.1) = fs.map (·.1) ∧ RWs c ρ n H (fs.map (·.2)) (gs.map (·.2))
/-- a cell lies at a -/
def CellOk (c : Cn) (ρ : Nat → Addr) (n : Nat) (H : Hp) (a : Addr) : Cell → Prop
  | .lst ws => ∃ vs, H a = some (.lst vs) ∧ RWs c ρ n H ws vs
  | .dic kvs => ∃ gs, H a = some (.dK gs) ∧ RK c ρ n H kvs gs
  | .ins k fs => ∃ C dx gs, c.mg k = some (.ref C) ∧ H a = some (.ins C dx gs) ∧ RF c ρ n H fs gs
structure RS (c : Cn) (ρ : Nat → Addr) (H : Hp) (S : Store) : Prop where
  tab : LamX.Tabs (tabK c.K) H
  inj : ∀ i j, i < S.length → j < S.length → ρ i = ρ j → i = j
  cell : ∀ i x, S[i]? = some x → CellOk c ρ S.length H (ρ i) x
/-- what stands elsewhere stays -/
def Fr0 (ρ : Nat → Addr) (n : Nat) (H H' : Hp) : Prop := ∀ a o, H a = some o → (∀ ps, o ≠ .tbl ps) → (∀ i, i < n → ρ i ≠ a) → H' a = some o
theorem Fr0.keep {ρ : Nat → Addr} {n : Nat} {H H' : Hp} (f : Fr0 ρ n H H') {a : Addr} {o : HO} (e : H a = some o) (h : ∀ i, i < n → ρ i ≠ a) (t : ∀ ps, o ≠ .tbl ps) : H' a = some o := f a o e t h
/-- nothing but a table stands there -/
def Nt (H : Hp) (a : Addr) : Prop := ∀ o, H a = some o → ∃ ps, o = .tbl ps
theorem Nt.of {H : Hp} {a : Addr} (h : H a = none) : Nt H a := fun o e => by rw [h] at e; cases e
theorem Nt.mu {H : Hp} {a : Addr} {o : HO} (h : Nt H a) (e : H a = some o) (m : Mu o) : False := by
  obtain ⟨ps, rfl⟩ := h o e
  exact m
theorem CellOk.mono {c : Cn} {ρ ρ' : Nat → Addr} {n n' : Nat} {H H' : Hp} {a : Addr} {x : Cell} (h : CellOk c ρ n H a x) (hρ : ∀ i, i < n → ρ' i = ρ i) (hn : n ≤ n') (k : Kp c H H') (e : H' a = H a) : CellOk c ρ' n' H' a x := by
  cases x with
  | lst ws => obtain ⟨vs, h1, h2⟩ := h; exact ⟨vs, by rw [e]; exact h1, h2.mono hρ hn k⟩
  | dic kvs => obtain ⟨gs, h1, h2, h3⟩ := h; exact ⟨gs, by rw [e]; exact h1, h2, h3.mono hρ hn k⟩
  | ins kk fs => obtain ⟨C, dx, gs, h0, h1, h2, h3⟩ := h; exact ⟨C, dx, gs, h0, by rw [e]; exact h1, h2, h3.mono hρ hn k⟩
theorem CellOk.mutO {c : Cn} {ρ : Nat → Addr} {n : Nat} {H : Hp} {a : Addr} {x : Cell} (h : CellOk c ρ n H a x) : ∃ o, H a = some o ∧ Mu o := by
  cases x with
  | lst ws => obtain ⟨vs, h1, h2⟩ := h; exact ⟨_, h1, trivial⟩
  | dic kvs => obtain ⟨gs, h1, h2, h3⟩ := h; exact ⟨_, h1, trivial⟩
  | ins k fs => obtain ⟨C, dx, gs, h0, h1, h2, h3⟩ := h; exact ⟨_, h1, trivial⟩
section
variable {c : Cn} {ρ ρ' : Nat → Addr} {H H' : Hp} {S S' : Store}
theorem RS.mut (r : RS c ρ H S) {i : Nat} (hi : i < S.length) : ∃ o, H (ρ i) = some o ∧ Mu o := (r.cell i S[i] (List.getElem?_eq_getElem hi)).mutO
theorem RS.kp (r : RS c ρ H S) (f : Fr0 ρ S.length H H') : Kp c H H' := by
  have ne : ∀ a o, H a = some o → ¬ Mu o → ∀ i, i < S.length → ρ i ≠ a := fun a o e m i hi z => by
    obtain ⟨o', e', m'⟩ := r.mut hi
    rw [z, e] at e'; cases e'; exact m m'
  refine ⟨fun a xs h => ?_, fun a xs h => ?_, fun d fs h => f.keep h (ne _ _ h fun z => z) (fun ps z => by cases z), fun a q h => f.keep h (ne _ _ h fun z => z) LamX.codeO_ne⟩
  · rcases h with (h | ⟨o, h⟩) | h
    · exact .inl (.inl (f.keep h (ne _ _ h fun z => z) fun ps z => by cases z))
    · exact .inl (.inr ⟨o, f.keep h (ne _ _ h fun z => z) fun ps z => by cases z⟩)
    · exact .inr h
  · rcases h with ⟨o, h⟩ | h
    · exact .inl ⟨o, f.keep h (ne _ _ h fun z => z) fun ps z => by cases z⟩
    · exact .inr h
theorem Fr0.refl (ρ : Nat → Addr) (n : Nat) (H : Hp) : Fr0 ρ n H H := fun _ o h _ _ => h
/-- a new object is laid -/
def ext (ρ : Nat → Addr) (n : Nat) (p : Addr) : Nat → Addr := fun i => if i = n then p else ρ i
theorem ext_lt {n : Nat} {p : Addr} : ∀ i, i < n → ext ρ n p i = ρ i := fun i h => by unfold ext; rw [if_neg (Nat.ne_of_lt h)]
theorem ext_at {n : Nat} {p : Addr} : ext ρ n p n = p := by unfold ext; rw [if_pos rfl]
theorem Fr0.new {n : Nat} {p : Addr} {o : HO} (hp : H p = none) : Fr0 ρ n H (upd H p o) := fun a u e _ _ => by
  rw [upd_ne (ne_of_none e hp)]; exact e
theorem RS.new {p : Addr} {o : HO} {x : Cell} (r : RS c ρ H S) (hp : H p = none) (hx : CellOk c (ext ρ S.length p) (S.length + 1) (upd H p o) p x) : RS c (ext ρ S.length p) (upd H p o) (S ++ [x]) := by
  have np : ∀ i, i < S.length → ρ i ≠ p := fun i hi z => by
    obtain ⟨u, e, _⟩ := r.mut hi
    rw [z, hp] at e; cases e
  have k : Kp c H (upd H p o) := r.kp (Fr0.new hp)
  refine ⟨tabs_upd r.tab (fun u e => by rw [hp] at e; cases e), fun i j hi hj e => ?_, fun i y hy => ?_⟩
  · rw [List.length_append, List.length_singleton] at hi hj
    by_cases h1 : i = S.length
    · by_cases h2 : j = S.length
      · rw [h1, h2]
      · rw [h1, ext_at, ext_lt j (by omega)] at e
        exact absurd e.symm (np j (by omega))
    · by_cases h2 : j = S.length
      · rw [h2, ext_at, ext_lt i (by omega)] at e
        exact absurd e (np i (by omega))
      · rw [ext_lt i (by omega), ext_lt j (by omega)] at e
        exact r.inj i j (by omega) (by omega) e
  · rw [List.length_append, List.length_singleton]
    by_cases h1 : i < S.length
    · rw [List.getElem?_append_left h1] at hy
      rw [ext_lt i h1]
      exact (r.cell i y hy).mono (fun j hj => ext_lt j hj) (by omega) k (upd_ne (np i h1))
    · rw [List.getElem?_append_right (by omega)] at hy
      have hi : i = S.length := by
        have z := (List.getElem?_eq_some_iff.mp hy).1
        simp at z; omega
      subst hi
      rw [Nat.sub_self] at hy
      simp at hy
      subst hy
      rw [ext_at]; exact hx
/-- a cell is written -/
theorem RS.put {i : Nat} {o : HO} {x : Cell} (r : RS c ρ H S) (hi : i < S.length) (k : Kp c H (upd H (ρ i) o)) (hx : CellOk c ρ S.length (upd H (ρ i) o) (ρ i) x) : RS c ρ (upd H (ρ i) o) (S.set i x) := by
  refine ⟨tabs_upd r.tab (fun u e => by obtain ⟨u', e', m⟩ := r.mut hi; rw [e] at e'; cases e'; exact m), fun a b ha hb e => r.inj a b (by simpa using ha) (by simpa using hb) e, fun j y hy => ?_⟩
  rw [List.length_set]
  by_cases h : j = i
  · subst h
    rw [List.getElem?_set_self hi] at hy
    cases hy; exact hx
  · rw [List.getElem?_set_ne (Ne.symm h)] at hy
    have hj : j < S.length := (List.getElem?_eq_some_iff.mp hy).1
    exact (r.cell j y hy).mono (fun _ _ => rfl) (Nat.le_refl _) k (upd_ne fun z => h (r.inj j i hj hi z))
theorem Fr0.put {n i : Nat} {o : HO} (hi : i < n) : Fr0 ρ n H (upd H (ρ i) o) := fun a u e _ h => by
  rw [upd_ne fun z => h i hi z.symm]; exact e
theorem RS.kpPut {i : Nat} {o : HO} (r : RS c ρ H S) (hi : i < S.length) : Kp c H (upd H (ρ i) o) := r.kp (Fr0.put hi)
end
/-- what comes behind -/
structure Fut (c : Cn) (ρ : Nat → Addr) (H : Hp) (S : Store) (ρ' : Nat → Addr) (H' : Hp) (S' : Store) : Prop where
  sm : ∀ i, i < S.length → ρ' i = ρ i
  le : S.length ≤ S'.length
  fr : Fr0 ρ S.length H H'
  nw : ∀ i, S.length ≤ i → i < S'.length → Nt H (ρ' i)
  rs : RS c ρ' H' S'
theorem Fut.refl {c : Cn} {ρ : Nat → Addr} {H : Hp} {S : Store} (r : RS c ρ H S) : Fut c ρ H S ρ H S := ⟨fun _ _ => rfl, Nat.le_refl _, Fr0.refl _ _ _, fun _ h1 h2 => absurd h2 (Nat.not_lt.mpr h1), r⟩
theorem Fut.trans {c : Cn} {ρ ρ1 ρ2 : Nat → Addr} {H H1 H2 : Hp} {S S1 S2 : Store} (r : RS c ρ H S) (a : Fut c ρ H S ρ1 H1 S1) (b : Fut c ρ1 H1 S1 ρ2 H2 S2) : Fut c ρ H S ρ2 H2 S2 where
  sm := fun i h => (b.sm i (Nat.lt_of_lt_of_le h a.le)).trans (a.sm i h)
  le := Nat.le_trans a.le b.le
  fr := fun x o e t h => b.fr x o (a.fr x o e t h) t fun i hi z => by
    by_cases q : i < S.length
    · exact h i q ((a.sm i q).symm.trans z)
    · obtain ⟨ps, k⟩ := a.nw i (Nat.not_lt.mp q) hi o (by rw [z]; exact e)
      exact t ps k
  nw := fun i h1 h2 => by
    by_cases q : i < S1.length
    · rw [b.sm i q]; exact a.nw i h1 q
    · have n1 := b.nw i (Nat.not_lt.mp q) h2
      intro o e
      by_cases tb : ∃ ps, o = .tbl ps
      · exact tb
      · have t : ∀ ps, o ≠ .tbl ps := fun ps k => tb ⟨ps, k⟩
        by_cases z : ∃ j, j < S.length ∧ ρ j = ρ2 i
        · obtain ⟨j, hj, z⟩ := z
          obtain ⟨u, e', m⟩ := a.rs.mut (Nat.lt_of_lt_of_le hj a.le)
          rw [a.sm j hj, z] at e'
          exact (n1.mu e' m).elim
        · exact n1 o (a.fr _ _ e t fun j hj q => z ⟨j, hj, q⟩)
  rs := b.rs
theorem Fut.kp {c : Cn} {ρ ρ' : Nat → Addr} {H H' : Hp} {S S' : Store} (r : RS c ρ H S) (a : Fut c ρ H S ρ' H' S') : Kp c H H' := r.kp a.fr
theorem Fut.rw {c : Cn} {ρ ρ' : Nat → Addr} {H H' : Hp} {S S' : Store} (r : RS c ρ H S) (a : Fut c ρ H S ρ' H' S') {w : W} {v : V} (h : RW c ρ S.length H w v) : RW c ρ' S'.length H' w v := h.mono a.sm a.le (a.kp r)
theorem Fut.rws {c : Cn} {ρ ρ' : Nat → Addr} {H H' : Hp} {S S' : Store} (r : RS c ρ H S) (a : Fut c ρ H S ρ' H' S') {w : List W} {v : List V} (h : RWs c ρ S.length H w v) : RWs c ρ' S'.length H' w v := h.mono a.sm a.le (a.kp r)
theorem Fut.new {c : Cn} {ρ : Nat → Addr} {H : Hp} {S : Store} {p : Addr} {o : HO} {x : Cell} (r : RS c ρ H S) (hp : H p = none) (hx : CellOk c (ext ρ S.length p) (S.length + 1) (upd H p o) p x) :
    Fut c ρ H S (ext ρ S.length p) (upd H p o) (S ++ [x]) where
  sm := fun i h => ext_lt i h
  le := by simp
  fr := Fr0.new hp
  nw := fun i h1 h2 => by
    have : i = S.length := by simp at h2; omega
    rw [this, ext_at]; exact .of hp
  rs := r.new hp hx
/-- a new tuple, untracked by the store -/
theorem Fut.tup {c : Cn} {ρ : Nat → Addr} {H : Hp} {S : Store} {p : Addr} {o : HO} (r : RS c ρ H S) (hp : H p = none) : Fut c ρ H S ρ (upd H p o) S where
  sm := fun _ _ => rfl
  le := Nat.le_refl _
  fr := Fr0.new hp
  nw := fun _ h1 h2 => absurd h2 (Nat.not_lt.mpr h1)
  rs := ⟨tabs_upd r.tab (fun u e => by rw [hp] at e; cases e), r.inj, fun i x hx => (r.cell i x hx).mono (fun _ _ => rfl) (Nat.le_refl _) (r.kp (Fr0.new hp)) (upd_ne fun z => by
    obtain ⟨u, e, _⟩ := (r.cell i x hx).mutO
    rw [z, hp] at e; cases e)⟩
theorem Fut.put {c : Cn} {ρ : Nat → Addr} {H : Hp} {S : Store} {i : Nat} {o : HO} {x : Cell} (r : RS c ρ H S) (hi : i < S.length) (hx : Kp c H (upd H (ρ i) o) → CellOk c ρ S.length (upd H (ρ i) o) (ρ i) x) :
    Fut c ρ H S ρ (upd H (ρ i) o) (S.set i x) where
  sm := fun _ _ => rfl
  le := by simp
  fr := Fr0.put hi
  nw := fun j h1 h2 => absurd h1 (Nat.not_le.mpr (by simpa using h2))
  rs := r.put hi (r.kpPut hi) (hx (r.kpPut hi))

/-! ### frames, ends -/
/-- the exception that an except suite holds: its name's slot, its address, its dict, its fields -/
structure Cur where
  i : Nat
  a : Addr
  cv : Value
  d : Option Addr
  k : Str
  fs : List (Str × W)
/-- an exception of the class k with the fields fs lies so -/
def ExcAt (c : Cn) (ρ : Nat → Addr) (n : Nat) (H : Hp) (k : Str) (fs : List (Str × W)) (cv : Value) (d : Option Addr) : Prop :=
  c.mg k = some cv ∧ ((d = none ∧ fs = []) ∨ ∃ dd gs, d = some dd ∧ H dd = some (.xd gs) ∧ RF c ρ n H fs gs)
theorem ExcAt.mono {c : Cn} {ρ ρ' : Nat → Addr} {n n' : Nat} {H H' : Hp} {k : Str} {fs : List (Str × W)} {cv : Value} {d : Option Addr} (h : ExcAt c ρ n H k fs cv d) (hρ : ∀ i, i < n → ρ' i = ρ i) (hn : n ≤ n') (kp : Kp c H H') : ExcAt c ρ' n' H' k fs cv d := by
  obtain ⟨h1, h | ⟨dd, gs, h2, h3, h4, h5⟩⟩ := h
  · exact ⟨h1, .inl h⟩
  · exact ⟨h1, .inr ⟨dd, gs, h2, kp.xd _ _ h3, h4, h5.mono hρ hn kp⟩⟩
structure RE (c : Cn) (cur : Option Cur) (ρ : Nat → Addr) (n : Nat) (H : Hp) (env : Env) (σ : L2.St) : Prop where
  len : env.length = σ.length
  val : ∀ (i : Nat) (w : W), env[i]? = some (some w) → ∃ v, σ[i]? = some (some v) ∧ RW c ρ n H w v
  cur : ∀ z, cur = some z → σ[z.i]? = some (some (.ref z.a)) ∧ ExcAt c ρ n H z.k z.fs z.cv z.d
theorem RE.mono {c : Cn} {cur : Option Cur} {ρ ρ' : Nat → Addr} {n n' : Nat} {H H' : Hp} {env : Env} {σ : L2.St} (h : RE c cur ρ n H env σ) (hρ : ∀ i, i < n → ρ' i = ρ i) (hn : n ≤ n') (k : Kp c H H') : RE c cur ρ' n' H' env σ :=
  ⟨h.len, fun i w e => let ⟨v, a, b⟩ := h.val i w e; ⟨v, a, b.mono hρ hn k⟩, fun z e => ⟨(h.cur z e).1, (h.cur z e).2.mono hρ hn k⟩⟩
theorem Fut.re {c : Cn} {cur : Option Cur} {ρ ρ' : Nat → Addr} {H H' : Hp} {S S' : Store} {env : Env} {σ : L2.St} (r : RS c ρ H S) (a : Fut c ρ H S ρ' H' S') (h : RE c cur ρ S.length H env σ) : RE c cur ρ' S'.length H' env σ := h.mono a.sm a.le (a.kp r)
theorem RE.set {c : Cn} {cur : Option Cur} {ρ : Nat → Addr} {n : Nat} {H : Hp} {env : Env} {σ : L2.St} (h : RE c cur ρ n H env σ) {i : Nat} {w : W} {v : V} (r : RW c ρ n H w v) (hc : ∀ z, cur = some z → z.i ≠ i) : RE c cur ρ n H (env.set i (some w)) (σ.set i (some v)) := by
  refine ⟨by simp [h.len], fun j u e => ?_, fun z e => ⟨by rw [List.getElem?_set_ne (Ne.symm (hc z e))]; exact (h.cur z e).1, (h.cur z e).2⟩⟩
  by_cases q : i = j
  · subst q
    have hl : i < env.length := by
      have := (List.getElem?_eq_some_iff.mp e).1
      simpa using this
    rw [List.getElem?_set_self hl] at e
    cases e
    exact ⟨v, List.getElem?_set_self (by rw [← h.len]; exact hl), r⟩
  · rw [List.getElem?_set_ne q] at e
    obtain ⟨x, a, b⟩ := h.val j u e
    exact ⟨x, by rw [List.getElem?_set_ne q]; exact a, b⟩
/-- what is wanted of a result -/
def Post (c : Cn) (ρ : Nat → Addr) (H : Hp) (S : Store) (r : R W) (Q : VK) (E : XK) : Prop := match r with
  | .ok w S' => ∀ ρ' v H', Fut c ρ H S ρ' H' S' → RW c ρ' S'.length H' w v → Q v H'
  | .exc k fs S' => ∀ ρ' cv d H', Fut c ρ H S ρ' H' S' → ExcAt c ρ' S'.length H' k fs cv d → E cv d H'
  | .bad => False
def PostB (c : Cn) (ρ : Nat → Addr) (H : Hp) (S : Store) (r : R Bool) (Q : Bool → Hp → Prop) (E : XK) : Prop := match r with
  | .ok b S' => ∀ ρ' H', Fut c ρ H S ρ' H' S' → Q b H'
  | .exc k fs S' => ∀ ρ' cv d H', Fut c ρ H S ρ' H' S' → ExcAt c ρ' S'.length H' k fs cv d → E cv d H'
  | .bad => False
def PostL (c : Cn) (ρ : Nat → Addr) (H : Hp) (S : Store) (r : R (List W)) (Q : List V → Hp → Prop) (E : XK) : Prop := match r with
  | .ok ws S' => ∀ ρ' vs H', Fut c ρ H S ρ' H' S' → RWs c ρ' S'.length H' ws vs → Q vs H'
  | .exc k fs S' => ∀ ρ' cv d H', Fut c ρ H S ρ' H' S' → ExcAt c ρ' S'.length H' k fs cv d → E cv d H'
  | .bad => False
end Dn

set_option maxHeartbeats 2000000
/-! Dn2: what simulates what: expressions, tests, arguments, statements, loops, calls -/
namespace Dn
open PySem PySem.Spec PyProof.Rows L2

abbrev DE := Env → Store → R W
abbrev DT := Env → Store → R Bool
abbrev DA := Env → Store → R (List W)
/-- where a statement ends -/
inductive Fl where
  | nx (env : Env) (S : Store) | rt (w : W) (S : Store) | bk (env : Env) (S : Store) | ct (env : Env) (S : Store)
  | exc (k : Str) (fs : List (Str × W)) (env : Env) (S : Store) | bad
abbrev DS := Env → Store → Fl
abbrev cn (X : Cx) : Cn := ⟨X.K, X.mg⟩

section
variable {c : Cn} {cur : Option Cur} {ρ ρ1 : Nat → Addr} {H H1 : Hp} {S S1 : Store} {σ : L2.St} {env : Env}
theorem Post.fut {r : R W} {Q : VK} {E : XK} (rs : RS c ρ H S) (f : Fut c ρ H S ρ1 H1 S1) (p : Post c ρ H S r Q E) : Post c ρ1 H1 S1 r Q E := by
  cases r with
  | ok w S' => exact fun ρ' v H' f' r => p ρ' v H' (f.trans rs f') r
  | exc k fs S' => exact fun ρ' cv d H' f' r => p ρ' cv d H' (f.trans rs f') r
  | bad => exact p
theorem PostB.fut {r : R Bool} {Q : Bool → Hp → Prop} {E : XK} (rs : RS c ρ H S) (f : Fut c ρ H S ρ1 H1 S1) (p : PostB c ρ H S r Q E) : PostB c ρ1 H1 S1 r Q E := by
  cases r with
  | ok w S' => exact fun ρ' H' f' => p ρ' H' (f.trans rs f')
  | exc k fs S' => exact fun ρ' cv d H' f' r => p ρ' cv d H' (f.trans rs f') r
  | bad => exact p
theorem PostL.fut {r : R (List W)} {Q : List V → Hp → Prop} {E : XK} (rs : RS c ρ H S) (f : Fut c ρ H S ρ1 H1 S1) (p : PostL c ρ H S r Q E) : PostL c ρ1 H1 S1 r Q E := by
  cases r with
  | ok w S' => exact fun ρ' v H' f' r => p ρ' v H' (f.trans rs f') r
  | exc k fs S' => exact fun ρ' cv d H' f' r => p ρ' cv d H' (f.trans rs f') r
  | bad => exact p

def tD (c : Cn) (cur : Option Cur) (d : DE) (E : WX) : TE := fun σ H Q => ∃ ρ env S, RE c cur ρ S.length H env σ ∧ RS c ρ H S ∧ Post c ρ H S (d env S) Q (fun cv dd H' => E cv dd σ H')
def tDT (c : Cn) (cur : Option Cur) (d : DT) (E : WX) : TT := fun σ H Q => ∃ ρ env S, RE c cur ρ S.length H env σ ∧ RS c ρ H S ∧ PostB c ρ H S (d env S) Q (fun cv dd H' => E cv dd σ H')
def tDA (c : Cn) (cur : Option Cur) (d : DA) (E : WX) : TA := fun σ H Q => ∃ ρ env S, RE c cur ρ S.length H env σ ∧ RS c ρ H S ∧ PostL c ρ H S (d env S) Q (fun cv dd H' => E cv dd σ H')
/-- behind a value: the state then, and what is still wanted -/
theorem bindE {d : DE} {f : W → Store → R W} {Q : VK} {E : WX} (hE : RE c cur ρ S.length H env σ) (hS : RS c ρ H S) (p : Post c ρ H S ((d env S).bind f) Q (fun cv dd H' => E cv dd σ H')) :
    tD c cur d E σ H fun v H1 => ∃ ρ1 S1 w, RS c ρ1 H1 S1 ∧ RE c cur ρ1 S1.length H1 env σ ∧ RW c ρ1 S1.length H1 w v ∧ Fut c ρ H S ρ1 H1 S1 ∧ d env S = .ok w S1 ∧ Post c ρ1 H1 S1 (f w S1) Q (fun cv dd H' => E cv dd σ H') := by
  refine ⟨ρ, env, S, hE, hS, ?_⟩
  cases e : d env S with
  | ok w S1 =>
    rw [e] at p
    exact fun ρ' v H' f' r => ⟨ρ', S1, w, f'.rs, f'.re hS hE, r, f', rfl, Post.fut hS f' p⟩
  | exc k fs S1 => rw [e] at p; exact p
  | bad => rw [e] at p; exact p
theorem bindEB {d : DE} {f : W → Store → R Bool} {Q : Bool → Hp → Prop} {E : WX} (hE : RE c cur ρ S.length H env σ) (hS : RS c ρ H S) (p : PostB c ρ H S ((d env S).bind f) Q (fun cv dd H' => E cv dd σ H')) :
    tD c cur d E σ H fun v H1 => ∃ ρ1 S1 w, RS c ρ1 H1 S1 ∧ RE c cur ρ1 S1.length H1 env σ ∧ RW c ρ1 S1.length H1 w v ∧ Fut c ρ H S ρ1 H1 S1 ∧ PostB c ρ1 H1 S1 (f w S1) Q (fun cv dd H' => E cv dd σ H') := by
  refine ⟨ρ, env, S, hE, hS, ?_⟩
  cases e : d env S with
  | ok w S1 =>
    rw [e] at p
    exact fun ρ' v H' f' r => ⟨ρ', S1, w, f'.rs, f'.re hS hE, r, f', PostB.fut hS f' p⟩
  | exc k fs S1 => rw [e] at p; exact p
  | bad => rw [e] at p; exact p
theorem bindEL {d : DE} {f : W → Store → R (List W)} {Q : List V → Hp → Prop} {E : WX} (hE : RE c cur ρ S.length H env σ) (hS : RS c ρ H S) (p : PostL c ρ H S ((d env S).bind f) Q (fun cv dd H' => E cv dd σ H')) :
    tD c cur d E σ H fun v H1 => ∃ ρ1 S1 w, RS c ρ1 H1 S1 ∧ RE c cur ρ1 S1.length H1 env σ ∧ RW c ρ1 S1.length H1 w v ∧ Fut c ρ H S ρ1 H1 S1 ∧ PostL c ρ1 H1 S1 (f w S1) Q (fun cv dd H' => E cv dd σ H') := by
  refine ⟨ρ, env, S, hE, hS, ?_⟩
  cases e : d env S with
  | ok w S1 =>
    rw [e] at p
    exact fun ρ' v H' f' r => ⟨ρ', S1, w, f'.rs, f'.re hS hE, r, f', PostL.fut hS f' p⟩
  | exc k fs S1 => rw [e] at p; exact p
  | bad => rw [e] at p; exact p
theorem bindT {d : DT} {f : Bool → Store → R W} {Q : VK} {E : WX} (hE : RE c cur ρ S.length H env σ) (hS : RS c ρ H S) (p : Post c ρ H S ((d env S).bind f) Q (fun cv dd H' => E cv dd σ H')) :
    tDT c cur d E σ H fun b H1 => ∃ ρ1 S1, RS c ρ1 H1 S1 ∧ RE c cur ρ1 S1.length H1 env σ ∧ Fut c ρ H S ρ1 H1 S1 ∧ Post c ρ1 H1 S1 (f b S1) Q (fun cv dd H' => E cv dd σ H') := by
  refine ⟨ρ, env, S, hE, hS, ?_⟩
  cases e : d env S with
  | ok w S1 =>
    rw [e] at p
    exact fun ρ' H' f' => ⟨ρ', S1, f'.rs, f'.re hS hE, f', Post.fut hS f' p⟩
  | exc k fs S1 => rw [e] at p; exact p
  | bad => rw [e] at p; exact p
theorem bindTB {d : DT} {f : Bool → Store → R Bool} {Q : Bool → Hp → Prop} {E : WX} (hE : RE c cur ρ S.length H env σ) (hS : RS c ρ H S) (p : PostB c ρ H S ((d env S).bind f) Q (fun cv dd H' => E cv dd σ H')) :
    tDT c cur d E σ H fun b H1 => ∃ ρ1 S1, RS c ρ1 H1 S1 ∧ RE c cur ρ1 S1.length H1 env σ ∧ Fut c ρ H S ρ1 H1 S1 ∧ PostB c ρ1 H1 S1 (f b S1) Q (fun cv dd H' => E cv dd σ H') := by
  refine ⟨ρ, env, S, hE, hS, ?_⟩
  cases e : d env S with
  | ok w S1 =>
    rw [e] at p
    exact fun ρ' H' f' => ⟨ρ', S1, f'.rs, f'.re hS hE, f', PostB.fut hS f' p⟩
  | exc k fs S1 => rw [e] at p; exact p
  | bad => rw [e] at p; exact p
theorem bindA {d : DA} {f : List W → Store → R W} {Q : VK} {E : WX} (hE : RE c cur ρ S.length H env σ) (hS : RS c ρ H S) (p : Post c ρ H S ((d env S).bind f) Q (fun cv dd H' => E cv dd σ H')) :
    tDA c cur d E σ H fun vs H1 => ∃ ρ1 S1 ws, RS c ρ1 H1 S1 ∧ RE c cur ρ1 S1.length H1 env σ ∧ RWs c ρ1 S1.length H1 ws vs ∧ Fut c ρ H S ρ1 H1 S1 ∧ Post c ρ1 H1 S1 (f ws S1) Q (fun cv dd H' => E cv dd σ H') := by
  refine ⟨ρ, env, S, hE, hS, ?_⟩
  cases e : d env S with
  | ok w S1 =>
    rw [e] at p
    exact fun ρ' v H' f' r => ⟨ρ', S1, w, f'.rs, f'.re hS hE, r, f', Post.fut hS f' p⟩
  | exc k fs S1 => rw [e] at p; exact p
  | bad => rw [e] at p; exact p
theorem bindAL {d : DA} {f : List W → Store → R (List W)} {Q : List V → Hp → Prop} {E : WX} (hE : RE c cur ρ S.length H env σ) (hS : RS c ρ H S) (p : PostL c ρ H S ((d env S).bind f) Q (fun cv dd H' => E cv dd σ H')) :
    tDA c cur d E σ H fun vs H1 => ∃ ρ1 S1 ws, RS c ρ1 H1 S1 ∧ RE c cur ρ1 S1.length H1 env σ ∧ RWs c ρ1 S1.length H1 ws vs ∧ Fut c ρ H S ρ1 H1 S1 ∧ PostL c ρ1 H1 S1 (f ws S1) Q (fun cv dd H' => E cv dd σ H') := by
  refine ⟨ρ, env, S, hE, hS, ?_⟩
  cases e : d env S with
  | ok w S1 =>
    rw [e] at p
    exact fun ρ' v H' f' r => ⟨ρ', S1, w, f'.rs, f'.re hS hE, r, f', PostL.fut hS f' p⟩
  | exc k fs S1 => rw [e] at p; exact p
  | bad => rw [e] at p; exact p
end

theorem noTake {X : Cx} : Takes X (fun _ _ _ _ => False) := fun _ _ ⟨_, _, _, _, _, _, _, _, _, _, _, _, _, _, _, _, w⟩ => w.elim
/-! ### simulation -/
structure SE (X : Cx) (cur : Option Cur) (e : Expr) (d : DE) : Prop where
  pe : ∀ E : WX, Takes X E → PE X e (tD (cn X) cur d E)
structure ST (X : Cx) (cur : Option Cur) (e : Expr) (d : DT) : Prop where
  pt : ∀ E : WX, Takes X E → PT X e (tDT (cn X) cur d E)
structure SW (X : Cx) (cur : Option Cur) (e : Expr) (d : DT) : Prop where
  pw : ∀ E : WX, Takes X E → PW X e (tDT (cn X) cur d E)
structure SA (X : Cx) (cur : Option Cur) (es : List Expr) (d : DA) : Prop where
  pa : ∀ E : WX, Takes X E → PA X es (tDA (cn X) cur d E)
/-- weaker readings -/
theorem PE.imp {X : Cx} {e : Expr} {t t' : TE} (h : PE X e t) (hi : ∀ σ H Q, t' σ H Q → t σ H Q) : PE X e t' := ⟨fun pins s σ H Q I q => h.run pins s σ H Q I (hi σ H Q q)⟩
theorem PT.imp {X : Cx} {e : Expr} {t t' : TT} (h : PT X e t) (hi : ∀ σ H Q, t' σ H Q → t σ H Q) : PT X e t' := ⟨fun pins s σ H Q I q => h.run pins s σ H Q I (hi σ H Q q)⟩
theorem PW.imp {X : Cx} {e : Expr} {t t' : TT} (h : PW X e t) (hi : ∀ σ H Q, t' σ H Q → t σ H Q) : PW X e t' := ⟨fun wh pins s σ H Q I q => h.run wh pins s σ H Q I (hi σ H Q q)⟩
theorem PA.imp {X : Cx} {e : List Expr} {t t' : TA} (h : PA X e t) (hi : ∀ σ H Q, t' σ H Q → t σ H Q) : PA X e t' := ⟨fun pos pins s σ H Q I q => h.run pos pins s σ H Q I (hi σ H Q q)⟩
theorem PS.imp {X : Cx} {e : Stmt} {t t' : TS} (h : PS X e t) (hi : ∀ D σ H, t' D σ H → t D σ H) : PS X e t' := ⟨fun pins s σ H Q I q => h.run pins s σ H Q I (hi Q σ H q)⟩
theorem PSs.imp {X : Cx} {e : List Stmt} {t t' : TS} (h : PSs X e t) (hi : ∀ D σ H, t' D σ H → t D σ H) : PSs X e t' := ⟨fun pins s σ H Q I q => h.run pins s σ H Q I (hi Q σ H q)⟩

section
variable {X : Cx} {cur : Option Cur} {pos : Pos}
/-! names, constants -/
def dVar (i : Nat) : DE := fun env S => match env[i]? with
  | some (some w) => .ok w S
  | _ => .bad
theorem se_var (i : Nat) {x : Str} (hN : X.N[i]? = some x := by rfl) (hv : Vis X.env.scope x := by first | exact Or.inl rfl | exact Or.inr (Or.inl rfl) | exact Or.inr (Or.inr rfl)) (hd : (x == ("__debug__" : Str)) = false := by decide)
    (hcd : (x == ("__classdict__" : Str)) = false := by decide) : SE X cur (.Name x pos) (dVar i) := ⟨fun E tk => PE.imp (pe_var hN hv hd hcd) fun σ H Q ⟨ρ, env, S, hE, hS, p⟩ => by
  unfold dVar at p
  split at p
  · rename_i w e
    obtain ⟨v, h1, h2⟩ := hE.val i w e
    exact ⟨v, h1, p ρ v H (Fut.refl hS) h2⟩
  · exact p.elim⟩
def dC (w : W) : DE := fun _ S => .ok w S
theorem se_int {i : Int} {j : Nat} : SE X cur (.Constant (.int i) j pos) (dC (.int i)) := ⟨fun E tk => PE.imp pe_int fun σ H Q ⟨ρ, env, S, hE, hS, p⟩ => p ρ _ H (Fut.refl hS) (.int i)⟩
theorem se_bl {b : Bool} {j : Nat} : SE X cur (.Constant (.bool b) j pos) (dC (.bl b)) := ⟨fun E tk => PE.imp pe_bl fun σ H Q ⟨ρ, env, S, hE, hS, p⟩ => p ρ _ H (Fut.refl hS) (.bl b)⟩
theorem se_non {j : Nat} : SE X cur (.Constant .none j pos) (dC .non) := ⟨fun E tk => PE.imp pe_non fun σ H Q ⟨ρ, env, S, hE, hS, p⟩ => p ρ _ H (Fut.refl hS) .non⟩
theorem se_str {x : Str} {j : Nat} : SE X cur (.Constant (.str x) j pos) (dC (.str x)) := ⟨fun E tk => PE.imp pe_str fun σ H Q ⟨ρ, env, S, hE, hS, p⟩ => p ρ _ H (Fut.refl hS) (.str x)⟩
/-- a constant of the module -/
def GW (X : Cx) (x : Str) (w : W) : Prop := ∃ v u, X.mg x = some u ∧ RelV v u ∧ ∀ ρ n H, RW (cn X) ρ n H w v
theorem se_glob {x : Str} {w : W} (h : GW X x w) (hg : Gl X x := by rfl) (hd : (x == ("__debug__" : Str)) = false := by decide) : SE X cur (.Name x pos) (dC w) := ⟨fun E tk => by
  obtain ⟨v, u, h1, h2, h3⟩ := h
  exact PE.imp (pe_glob hg h1 h2 hd) fun σ H Q ⟨ρ, env, S, hE, hS, p⟩ => p ρ _ H (Fut.refl hS) (h3 _ _ _)⟩

/-! operators -/
def dOp (r : W → W → Store → R W) (da db : DE) : DE := fun env S => (da env S).bind fun x S1 => (db env S1).bind fun y S2 => r x y S2
def rS (X : Cx) (r : W → W → Store → R W) : R2 := fun x y H Q => ∃ ρ S wx wy E, RS (cn X) ρ H S ∧ RW (cn X) ρ S.length H wx x ∧ RW (cn X) ρ S.length H wy y ∧ Post (cn X) ρ H S (r wx wy S) Q (fun _ _ _ => E = ()) ∧ (∀ k fs S', r wx wy S ≠ .exc k fs S')
/-- r does what the operator f does; it raises nothing -/
def OpS (X : Cx) (f : Value → Value → Sem Value) (r : W → W → Store → R W) : Prop :=
  ∀ (x y : V) (H : Hp) (Q : VK) (ρ : Nat → Addr) (S : Store) (wx wy w : W) (S' : Store), RS (cn X) ρ H S → RW (cn X) ρ S.length H wx x → RW (cn X) ρ S.length H wy y → r wx wy S = .ok w S' →
    (∀ ρ' v H', Fut (cn X) ρ H S ρ' H' S' → RW (cn X) ρ' S'.length H' w v → Q v H') → ∃ r2 : R2, OpR X f r2 ∧ r2 x y H Q
/-- r raises nothing -/
def NoX (r : W → W → Store → R W) : Prop := ∀ x y S k fs S', r x y S ≠ .exc k fs S'
def rOf (X : Cx) (f : Value → Value → Sem Value) : R2 := fun x y H Q => ∃ r2 : R2, OpR X f r2 ∧ r2 x y H Q
theorem opR_of {f : Value → Value → Sem Value} : OpR X f (rOf X f) := fun pins s σ H x y v u Q I rx ry ⟨r2, h1, h2⟩ => h1 pins s σ H x y v u Q I rx ry h2
theorem se_opG {f : Value → Value → Sem Value} {r : W → W → Store → R W} {da db : DE} {e : Expr} {a b : Expr} (ho : OpS X f r) (hn : NoX r) (ha : SE X cur a da) (hb : SE X cur b db)
    (rule : ∀ {ta tb : TE}, PE X a ta → PE X b tb → PE X e (tOp (rOf X f) ta tb)) : SE X cur e (dOp r da db) := ⟨fun E tk => PE.imp (rule (ha.pe E tk) (hb.pe E tk)) fun σ H Q ⟨ρ, env, S, hE, hS, p⟩ => by
  obtain ⟨ρ', env', S', a1, a2, a3⟩ := bindE hE hS p
  refine ⟨ρ', env', S', a1, a2, ?_⟩
  have key : ∀ v H1, (∃ ρ1 S1 w, RS (cn X) ρ1 H1 S1 ∧ RE (cn X) cur ρ1 S1.length H1 env σ ∧ RW (cn X) ρ1 S1.length H1 w v ∧ Fut (cn X) ρ H S ρ1 H1 S1 ∧ da env S = .ok w S1 ∧ Post (cn X) ρ1 H1 S1 ((db env S1).bind fun y S2 => r w y S2) Q (fun cv dd H' => E cv dd σ H')) →
      tD (cn X) cur db E σ H1 fun y H2 => rOf X f v y H2 Q := by
    rintro v H1 ⟨ρ1, S1, w, rs1, re1, rw1, f1, _, p1⟩
    obtain ⟨ρ2, env2, S2, b1, b2, b3⟩ := bindE re1 rs1 p1
    refine ⟨ρ2, env2, S2, b1, b2, ?_⟩
    have key2 : ∀ y H2, (∃ ρ3 S3 w3, RS (cn X) ρ3 H2 S3 ∧ RE (cn X) cur ρ3 S3.length H2 env σ ∧ RW (cn X) ρ3 S3.length H2 w3 y ∧ Fut (cn X) ρ1 H1 S1 ρ3 H2 S3 ∧ db env S1 = .ok w3 S3 ∧ Post (cn X) ρ3 H2 S3 (r w w3 S3) Q (fun cv dd H' => E cv dd σ H')) → rOf X f v y H2 Q := by
      rintro y H2 ⟨ρ3, S3, w3, rs3, re3, rw3, f3, _, p3⟩
      cases e3 : r w w3 S3 with
      | ok u S4 => rw [e3] at p3; exact ho v y H2 Q ρ3 S3 w w3 u S4 rs3 (f3.rw rs1 rw1) rw3 e3 p3
      | exc k fs S4 => exact absurd e3 (hn _ _ _ _ _ _)
      | bad => rw [e3] at p3; exact p3.elim
    cases q : db env2 S2 with
    | ok u S4 => rw [q] at b3; exact fun ρ' v' H' f' r' => key2 v' H' (b3 ρ' v' H' f' r')
    | exc k fs S4 => rw [q] at b3; exact b3
    | bad => rw [q] at b3; exact b3
  cases q : da env' S' with
  | ok u S4 => rw [q] at a3; exact fun ρ' v' H' f' r' => key v' H' (a3 ρ' v' H' f' r')
  | exc k fs S4 => rw [q] at a3; exact a3
  | bad => rw [q] at a3; exact a3⟩
theorem se_op {op : Operator} {r : W → W → Store → R W} {da db : DE} {a b : Expr} (ho : OpS X (binaryOp op) r) (hn : NoX r) (ha : SE X cur a da) (hb : SE X cur b db) : SE X cur (.BinOp a op b pos) (dOp r da db) :=
  se_opG ho hn ha hb fun h1 h2 => pe_op opR_of h1 h2
theorem se_cmp {op : CmpOp} {r : W → W → Store → R W} {da db : DE} {a b : Expr} (ho : OpS X (compareOp op) r) (hn : NoX r) (ha : SE X cur a da) (hb : SE X cur b db) (hm : behindInMarks op b = false := by first | exact nomark _ | rfl) : SE X cur (.Compare a [op] [b] pos) (dOp r da db) :=
  se_opG ho hn ha hb fun h1 h2 => pe_cmpR opR_of h1 h2 hm
end
end Dn

set_option maxHeartbeats 2000000
/-! Dn3: operators, tests, displays, subscripts -/
namespace Dn
open PySem PySem.Spec PyProof.Rows L2

section
variable {c : Cn} {cur : Option Cur} {ρ ρ1 : Nat → Addr} {H H1 : Hp} {S S1 : Store} {σ : L2.St} {env : Env}
theorem tD.mono {d : DE} {E : WX} {Q Q' : VK} (h : tD c cur d E σ H Q) (m : ∀ v H1, Q v H1 → Q' v H1) : tD c cur d E σ H Q' := by
  obtain ⟨ρ, env, S, hE, hS, p⟩ := h
  refine ⟨ρ, env, S, hE, hS, ?_⟩
  cases e : d env S with
  | ok w S1 => rw [e] at p; exact fun ρ' v H' f r => m _ _ (p ρ' v H' f r)
  | exc k fs S1 => rw [e] at p; exact p
  | bad => rw [e] at p; exact p
theorem tDT.mono {d : DT} {E : WX} {Q Q' : Bool → Hp → Prop} (h : tDT c cur d E σ H Q) (m : ∀ v H1, Q v H1 → Q' v H1) : tDT c cur d E σ H Q' := by
  obtain ⟨ρ, env, S, hE, hS, p⟩ := h
  refine ⟨ρ, env, S, hE, hS, ?_⟩
  cases e : d env S with
  | ok w S1 => rw [e] at p; exact fun ρ' H' f => m _ _ (p ρ' H' f)
  | exc k fs S1 => rw [e] at p; exact p
  | bad => rw [e] at p; exact p
theorem tDA.mono {d : DA} {E : WX} {Q Q' : List V → Hp → Prop} (h : tDA c cur d E σ H Q) (m : ∀ v H1, Q v H1 → Q' v H1) : tDA c cur d E σ H Q' := by
  obtain ⟨ρ, env, S, hE, hS, p⟩ := h
  refine ⟨ρ, env, S, hE, hS, ?_⟩
  cases e : d env S with
  | ok w S1 => rw [e] at p; exact fun ρ' v H' f r => m _ _ (p ρ' v H' f r)
  | exc k fs S1 => rw [e] at p; exact p
  | bad => rw [e] at p; exact p
theorem RW.int_inv {n : Nat} {i : Int} {v : V} (r : RW c ρ n H (.int i) v) : v = .int i := by cases r; rfl
theorem RW.str_inv {n : Nat} {i : Str} {v : V} (r : RW c ρ n H (.str i) v) : v = .str i := by cases r; rfl
theorem RW.bl_inv {n : Nat} {i : Bool} {v : V} (r : RW c ρ n H (.bl i) v) : v = .bl i := by cases r; rfl
theorem RW.non_inv {n : Nat} {v : V} (r : RW c ρ n H .non v) : v = .non := by cases r; rfl
theorem RW.tup_inv {n : Nat} {ws : List W} {v : V} (r : RW c ρ n H (.tup ws) v) : ∃ a vs, v = .ref a ∧ SqT c.K H a vs ∧ RWs c ρ n H ws vs := by cases r with | tup h t => exact ⟨_, _, rfl, h, t⟩
theorem RW.fls_inv {n : Nat} {ws : List W} {v : V} (r : RW c ρ n H (.fls ws) v) : ∃ a vs, v = .ref a ∧ SqF c.K H a vs ∧ RWs c ρ n H ws vs := by cases r with | fls h t => exact ⟨_, _, rfl, h, t⟩
theorem RW.ref_inv {n i : Nat} {v : V} (r : RW c ρ n H (.ref i) v) : v = .ref (ρ i) ∧ i < n := by cases r with | ref h => exact ⟨rfl, h⟩
theorem RS.lst (rs : RS c ρ H S) {n : Nat} {xs : List W} (e : S[n]? = some (.lst xs)) : ∃ vs, H (ρ n) = some (.lst vs) ∧ RWs c ρ S.length H xs vs := rs.cell n _ e
/-- nothing changes -/
theorem Post.same {w : W} {v : V} {Q : VK} {E : XK} (hS : RS c ρ H S) (p : Post c ρ H S (.ok w S) Q E) (r : RW c ρ S.length H w v) : Q v H := p ρ v H (Fut.refl hS) r
end

/-- nothing changes, in the form of OpS -/
theorem same0 {c : Cn} {ρ : Nat → Addr} {H : Hp} {S : Store} {w : W} {v : V} {Q : VK} (hS : RS c ρ H S) (p : ∀ ρ' v H', Fut c ρ H S ρ' H' S → RW c ρ' S.length H' w v → Q v H') (r : RW c ρ S.length H w v) : Q v H := p ρ v H (Fut.refl hS) r

section
variable {X : Cx}
/-! ### arithmetic -/
def rAdd : W → W → Store → R W
  | .int i, .int j, S => .ok (.int (i + j)) S
  | .str x, .str y, S => if x.length + y.length ≤ sizeLine then .ok (.str (x ++ y)) S else .bad
  | .tup xs, .tup ys, S => if xs.length + ys.length ≤ sizeLine then .ok (.tup (xs ++ ys)) S else .bad
  | .ref m, .ref n, S => match S[m]?, S[n]? with
    | some (.lst xs), some (.lst ys) => if xs.length + ys.length ≤ sizeLine then .ok (.ref S.length) (S ++ [.lst (xs ++ ys)]) else .bad
    | _, _ => .bad
  | .int i, .bl k, S => .ok (.int (i + PyProof.Rows.b2i k)) S
  | _, _, _ => .bad
theorem nx_add : NoX rAdd := by
  intro x y S k fs S' h
  unfold rAdd at h
  split at h <;> first | (cases h; done) | (split at h <;> first | (cases h; done) | (split at h <;> cases h))
theorem os_add : OpS X (binaryOp .Add) rAdd := by
  intro x y H Q ρ S wx wy w S' hS rx ry e q
  unfold rAdd at e
  split at e
  · cases e; rw [rx.int_inv, ry.int_inv]
    exact ⟨_, op_add, _, _, rfl, rfl, same0 hS q (.int _)⟩
  · split at e
    · rename_i hz
      cases e; rw [rx.str_inv, ry.str_inv]
      exact ⟨_, op_add_str, _, _, rfl, rfl, hz, same0 hS q (.str _)⟩
    · cases e
  · split at e
    · rename_i hz
      cases e
      obtain ⟨a, vs, rfl, h1, t1⟩ := rx.tup_inv
      obtain ⟨b, us, rfl, h2, t2⟩ := ry.tup_inv
      refine ⟨_, op_catA, a, b, vs, us, rfl, rfl, h1, h2, by rw [← t1.length, ← t2.length]; exact hz, fun z => ?_, fun z1 z2 => ?_, fun z1 z2 p hp => ?_⟩
      · subst z
        exact same0 hS q (.tup (vs := us) h2 (t1.append t2))
      · subst z2
        exact same0 hS q (.tup (vs := vs ++ []) (by rw [List.append_nil]; exact h1) (t1.append t2))
      · have f : Fut (cn X) ρ H S ρ (upd H p (.tup (vs ++ us))) S := Fut.tup hS hp
        exact q ρ _ _ f (.tup (.of upd_same) (f.rws hS (t1.append t2)))
    · cases e
  · rename_i m n
    split at e
    · rename_i xs ys e1 e2
      split at e
      · rename_i hz
        cases e
        obtain ⟨rfl, h1⟩ := rx.ref_inv
        obtain ⟨rfl, h2⟩ := ry.ref_inv
        obtain ⟨vs, hv, tv⟩ := hS.lst e1
        obtain ⟨us, hu, tu⟩ := hS.lst e2
        refine ⟨_, op_cat, ρ m, ρ n, vs, us, rfl, rfl, hv, hu, by rw [← tv.length, ← tu.length]; exact hz, fun p hp => ?_⟩
        have f : Fut (cn X) ρ H S (ext ρ S.length p) (upd H p (.lst (vs ++ us))) (S ++ [.lst (xs ++ ys)]) := Fut.new hS hp ⟨_, upd_same, (tv.append tu).mono (fun i h => ext_lt i h) (by omega) (hS.kp (Fr0.new hp))⟩
        have r : RW (cn X) (ext ρ S.length p) (S ++ [Cell.lst (xs ++ ys)]).length (upd H p (.lst (vs ++ us))) (.ref S.length) (.ref (ext ρ S.length p S.length)) := .ref (by simp)
        rw [ext_at] at r
        exact q _ _ _ f r
      · cases e
    · cases e
  · cases e; rw [rx.int_inv, ry.bl_inv]
    exact ⟨_, op_add_ib, _, _, rfl, rfl, same0 hS q (.int _)⟩
  · cases e
def rI2 (g : Int → Int → W) : W → W → Store → R W
  | .int i, .int j, S => .ok (g i j) S
  | _, _, _ => .bad
theorem nx_I2 {g : Int → Int → W} : NoX (rI2 g) := by
  intro x y S k fs S' h
  unfold rI2 at h
  split at h <;> cases h
abbrev rSub := rI2 fun i j => .int (i - j)
theorem os_sub : OpS X (binaryOp .Sub) rSub := by
  intro x y H Q ρ S wx wy w S' hS rx ry e q
  unfold rSub rI2 at e
  split at e
  · cases e; rw [rx.int_inv, ry.int_inv]
    exact ⟨_, op_sub, _, _, rfl, rfl, same0 hS q (.int _)⟩
  · cases e
instance (i j : Int) : Decidable (CMul i j) := by unfold CMul; infer_instance
instance (i j : Int) : Decidable (CDivN i j) := by unfold CDivN; infer_instance
instance (i j : Int) : Decidable (CPow i j) := by unfold CPow; infer_instance
instance (x : Str) (n : Int) : Decidable (MulOk x n) := by unfold MulOk; infer_instance
def rMul : W → W → Store → R W
  | .int i, .int j, S => if CMul i j then .ok (.int (i * j)) S else .bad
  | .str x, .int n, S => if MulOk x n then .ok (.str (Txt.mul x n)) S else .bad
  | .ref n, .int k, S => match S[n]? with
    | some (.lst xs) => if -(2 ^ 63) ≤ k ∧ k < 2 ^ 63 ∧ xs.length * k.toNat ≤ sizeLine then .ok (.ref S.length) (S ++ [.lst (List.replicate k.toNat xs).flatten]) else .bad
    | _ => .bad
  | _, _, _ => .bad
theorem nx_mul : NoX rMul := by
  intro x y S k fs S' h
  unfold rMul at h
  split at h <;> first | (cases h; done) | (split at h <;> first | (cases h; done) | (split at h <;> cases h))
theorem RWs.rep {c : Cn} {ρ : Nat → Addr} {n : Nat} {H : Hp} {xs : List W} {vs : List V} (r : RWs c ρ n H xs vs) : ∀ k : Nat, RWs c ρ n H (List.replicate k xs).flatten (List.replicate k vs).flatten
  | 0 => .nil
  | k + 1 => by
    rw [List.replicate_succ, List.replicate_succ, List.flatten_cons, List.flatten_cons]
    exact r.append (RWs.rep r k)
theorem op_mulS : OpR X (binaryOp .Mult) (fun x y H Q => ∃ (a : Str) (n : Int), x = .str a ∧ y = .int n ∧ MulOk a n ∧ Q (.str (Txt.mul a n)) H) := by
  intro pins s σ H x y v u Q I rx ry ⟨a, n, ex, ey, ok, q⟩
  subst ex ey
  obtain ⟨t, rfl⟩ : ∃ t, v = Value.str a t := rx
  obtain ⟨t', rfl⟩ : ∃ t', u = Value.int n t' := ry
  exact SB.mul ok fun t2 k => ⟨.str (Txt.mul a n), H, I.tok _, ⟨t2, rfl⟩, q⟩
theorem os_mul : OpS X (binaryOp .Mult) rMul := by
  intro x y H Q ρ S wx wy w S' hS rx ry e q
  unfold rMul at e
  split at e
  · split at e
    · rename_i hz
      cases e; rw [rx.int_inv, ry.int_inv]
      exact ⟨_, op_mul, _, _, rfl, rfl, hz, same0 hS q (.int _)⟩
    · cases e
  · split at e
    · rename_i hz
      cases e; rw [rx.str_inv, ry.int_inv]
      exact ⟨_, op_mulS, _, _, rfl, rfl, hz, same0 hS q (.str _)⟩
    · cases e
  · rename_i n k
    split at e
    · rename_i xs e1
      split at e
      · rename_i hz
        cases e
        obtain ⟨rfl, h1⟩ := rx.ref_inv
        rw [ry.int_inv]
        obtain ⟨vs, hv, tv⟩ := hS.lst e1
        refine ⟨_, op_rep, ρ n, k, vs, rfl, rfl, hv, hz.1, hz.2.1, by rw [← tv.length]; exact hz.2.2, fun p hp => ?_⟩
        have f : Fut (cn X) ρ H S (ext ρ S.length p) (upd H p (.lst (List.replicate k.toNat vs).flatten)) (S ++ [.lst (List.replicate k.toNat xs).flatten]) :=
          Fut.new hS hp ⟨_, upd_same, (tv.rep k.toNat).mono (fun i h => ext_lt i h) (by omega) (hS.kp (Fr0.new hp))⟩
        have r : RW (cn X) (ext ρ S.length p) (S ++ [Cell.lst (List.replicate k.toNat xs).flatten]).length (upd H p (.lst (List.replicate k.toNat vs).flatten)) (.ref S.length) (.ref (ext ρ S.length p S.length)) := .ref (by simp)
        rw [ext_at] at r
        exact q _ _ _ f r
      · cases e
    · cases e
  · cases e
def rIC (C : Int → Int → Prop) [∀ i j, Decidable (C i j)] (g : Int → Int → Int) : W → W → Store → R W
  | .int i, .int j, S => if C i j then .ok (.int (g i j)) S else .bad
  | _, _, _ => .bad
theorem nx_IC {C : Int → Int → Prop} [∀ i j, Decidable (C i j)] {g : Int → Int → Int} : NoX (rIC C g) := by
  intro x y S k fs S' h
  unfold rIC at h
  split at h <;> first | (cases h; done) | (split at h <;> cases h)
theorem os_IC {op : Operator} {C : Int → Int → Prop} [∀ i j, Decidable (C i j)] {g : Int → Int → Int} (ho : OpR X (binaryOp op) (rI C fun i j => .int (g i j))) : OpS X (binaryOp op) (rIC C g) := by
  intro x y H Q ρ S wx wy w S' hS rx ry e q
  unfold rIC at e
  split at e
  · split at e
    · rename_i hz
      cases e; rw [rx.int_inv, ry.int_inv]
      exact ⟨_, ho, _, _, rfl, rfl, hz, same0 hS q (.int _)⟩
    · cases e
  · cases e
abbrev rFdiv := rIC CDivN fun i j => i.fdiv j
abbrev rMod := rIC (fun _ j => j ≠ 0) fun i j => i.fmod j
abbrev rPow := rIC CPow fun i j => i ^ j.toNat
theorem os_fdiv : OpS X (binaryOp .FloorDiv) rFdiv := os_IC op_fdivN
theorem os_mod : OpS X (binaryOp .Mod) rMod := os_IC op_modN
theorem os_pow : OpS X (binaryOp .Pow) rPow := os_IC op_pow

/-! ### comparisons -/
/-! a value as plain data; lists by what dr says of them -/
mutual
def toPyA (dr : Nat → Option PyData) : W → Option PyData
  | .non => some .none
  | .bl b => some (.bool b)
  | .int i => some (.int i)
  | .str x => some (.str x)
  | .tup xs => (toPyL dr xs).map .tuple
  | .fls xs => (toPyL dr xs).map .list
  | .ref n => dr n
  | .lam _ _ _ _ _ => none
def toPyL (dr : Nat → Option PyData) : List W → Option (List PyData)
  | [] => some []
  | x :: xs => match toPyA dr x, toPyL dr xs with
    | some d, some ds => some (d :: ds)
    | _, _ => none
end
def derefN (S : Store) : Nat → Nat → Option PyData
  | 0, _ => none
  | f + 1, n => match S[n]? with
    | some (.lst xs) => (toPyL (derefN S f) xs).map .list
    | _ => none
def toPy (S : Store) (w : W) : Option PyData := toPyA (derefN S 8) w
section
variable {c : Cn} {ρ : Nat → Addr} {H : Hp} {S : Store}
mutual
theorem toPyA_ok {dr : Nat → Option PyData} (hd : ∀ i d, i < S.length → dr i = some d → Dp c.K H (.ref (ρ i)) d) : ∀ (w : W) (v : V) (d : PyData), RW c ρ S.length H w v → toPyA dr w = some d → Dp c.K H v d
  | .non, v, d, r, e => by cases r; simp only [toPyA, Option.some.injEq] at e; subst e; exact .non
  | .bl b, v, d, r, e => by cases r; simp only [toPyA, Option.some.injEq] at e; subst e; exact .bl b
  | .int i, v, d, r, e => by cases r; simp only [toPyA, Option.some.injEq] at e; subst e; exact .int i
  | .str x, v, d, r, e => by cases r; simp only [toPyA, Option.some.injEq] at e; subst e; exact .str x
  | .tup xs, v, d, r, e => by
    obtain ⟨a, vs, rfl, h, t⟩ := r.tup_inv
    simp only [toPyA, Option.map_eq_some_iff] at e
    obtain ⟨ds, e1, rfl⟩ := e
    exact .tup h (toPyL_ok hd xs vs ds t e1)
  | .fls xs, v, d, r, e => by
    obtain ⟨a, vs, rfl, h, t⟩ := r.fls_inv
    simp only [toPyA, Option.map_eq_some_iff] at e
    obtain ⟨ds, e1, rfl⟩ := e
    exact .lst h.sq (toPyL_ok hd xs vs ds t e1)
  | .ref n, v, d, r, e => by
    obtain ⟨rfl, hn⟩ := r.ref_inv
    simp only [toPyA] at e
    exact hd n d hn e
  | .lam _ _ _ _ _, v, d, r, e => by simp [toPyA] at e
theorem toPyL_ok {dr : Nat → Option PyData} (hd : ∀ i d, i < S.length → dr i = some d → Dp c.K H (.ref (ρ i)) d) : ∀ (ws : List W) (vs : List V) (ds : List PyData), RWs c ρ S.length H ws vs → toPyL dr ws = some ds → DpAll c.K H vs ds
  | [], vs, ds, r, e => by cases r; simp only [toPyL, Option.some.injEq] at e; subst e; exact .nil
  | w :: ws, vs, ds, r, e => by
    cases r with
    | cons r t =>
      simp only [toPyL] at e
      split at e
      · rename_i d ds' e1 e2
        cases e
        exact .cons (toPyA_ok hd w _ d r e1) (toPyL_ok hd ws _ ds' t e2)
      · cases e
end
theorem derefN_ok (hS : RS c ρ H S) : ∀ (f i : Nat) (d : PyData), i < S.length → derefN S f i = some d → Dp c.K H (.ref (ρ i)) d
  | 0, _, _, _, e => by simp [derefN] at e
  | f + 1, i, d, hi, e => by
    simp only [derefN] at e
    split at e
    · rename_i xs e1
      simp only [Option.map_eq_some_iff] at e
      obtain ⟨ds, e2, rfl⟩ := e
      obtain ⟨vs, hv, tv⟩ := hS.lst e1
      exact .lst (.of hv) (toPyL_ok (fun j d hj q => derefN_ok hS f j d hj q) xs vs ds tv e2)
    · cases e
theorem toPy_ok (hS : RS c ρ H S) {w : W} {v : V} {d : PyData} (r : RW c ρ S.length H w v) (e : toPy S w = some d) : Dp c.K H v d := toPyA_ok (fun i d hi q => derefN_ok hS 8 i d hi q) w v d r e
end
def flatW : W → Option V
  | .non => some .non
  | .bl b => some (.bl b)
  | .int i => some (.int i)
  | .str x => some (.str x)
  | _ => none
theorem flatW_ok {c : Cn} {ρ : Nat → Addr} {n : Nat} {H : Hp} {w : W} {v x : V} (r : RW c ρ n H w v) (e : flatW w = some x) : v = x := by
  cases w <;> simp only [flatW, Option.some.injEq, reduceCtorEq] at e <;> subst e <;> cases r <;> rfl
/-- == and != -/
def rEqW (neg : Bool) : W → W → Store → R W := fun x y S => match flatW x, flatW y with
  | some a, some b => if scal a b then .ok (.bl (if neg then !decide (a = b) else decide (a = b))) S else (match toPy S x, toPy S y with
    | some d, some e => if SeqAt.shaped d && SeqAt.shaped e then .ok (.bl (if neg then !PyData.eqv d e else PyData.eqv d e)) S else .bad
    | _, _ => .bad)
  | _, _ => (match toPy S x, toPy S y with
    | some d, some e => if SeqAt.shaped d && SeqAt.shaped e then .ok (.bl (if neg then !PyData.eqv d e else PyData.eqv d e)) S else .bad
    | _, _ => .bad)
theorem nx_eq {neg : Bool} : NoX (rEqW neg) := by
  intro x y S k fs S' h
  unfold rEqW at h
  split at h
  · split at h
    · cases h
    · split at h
      · split at h <;> cases h
      · cases h
  · split at h
    · split at h <;> cases h
    · cases h
theorem os_eqD {neg : Bool} {op : CmpOp} (hr : ∀ r : R2, (neg = false → r = rEqD X.K) → (neg = true → r = rNeD X.K) → OpR X (compareOp op) r) {x y : V} {H : Hp} {Q : VK} {ρ : Nat → Addr} {S S' : Store} {wx wy w : W} (hS : RS (cn X) ρ H S) (rx : RW (cn X) ρ S.length H wx x) (ry : RW (cn X) ρ S.length H wy y)
    (e : (match toPy S wx, toPy S wy with
    | some d, some e => if SeqAt.shaped d && SeqAt.shaped e then R.ok (W.bl (if neg then !PyData.eqv d e else PyData.eqv d e)) S else R.bad
    | _, _ => R.bad) = R.ok w S') (q : ∀ ρ' v H', Fut (cn X) ρ H S ρ' H' S' → RW (cn X) ρ' S'.length H' w v → Q v H') : ∃ r2 : R2, OpR X (compareOp op) r2 ∧ r2 x y H Q := by
  split at e
  · rename_i d d' e1 e2
    split at e
    · rename_i hs
      obtain ⟨h1, h2⟩ := Bool.and_eq_true_iff.mp hs
      cases e
      cases neg with
      | false => exact ⟨_, hr _ (fun _ => rfl) (fun z => nomatch z), d, d', toPy_ok hS rx e1, toPy_ok hS ry e2, h1, h2, same0 hS q (.bl _)⟩
      | true => exact ⟨_, hr _ (fun z => nomatch z) (fun _ => rfl), d, d', toPy_ok hS rx e1, toPy_ok hS ry e2, h1, h2, same0 hS q (.bl _)⟩
    · cases e
  · cases e
theorem os_eqG {neg : Bool} {op : CmpOp} (hr : ∀ r : R2, (neg = false → r = rEqD X.K) → (neg = true → r = rNeD X.K) → OpR X (compareOp op) r) (hr2 : ∀ r : R2, (neg = false → r = rEq) → (neg = true → r = rNe) → OpR X (compareOp op) r) : OpS X (compareOp op) (rEqW neg) := by
  intro x y H Q ρ S wx wy w S' hS rx ry e q
  unfold rEqW at e
  split at e
  · rename_i a b e1 e2
    split at e
    · rename_i hs
      cases e
      rw [flatW_ok rx e1, flatW_ok ry e2]
      cases neg with
      | false => exact ⟨_, hr2 _ (fun _ => rfl) (fun z => nomatch z), hs, same0 hS q (.bl _)⟩
      | true => exact ⟨_, hr2 _ (fun z => nomatch z) (fun _ => rfl), hs, same0 hS q (.bl _)⟩
    · exact os_eqD hr hS rx ry e q
  · exact os_eqD hr hS rx ry e q
theorem os_eq (hu : X.A.units + 64 < cLine) : OpS X (compareOp .Eq) (rEqW false) := os_eqG (fun r h _ => by rw [h rfl]; exact op_eqD hu) (fun r h _ => by rw [h rfl]; exact op_eq)
theorem os_ne (hu : X.A.units + 64 < cLine) : OpS X (compareOp .NotEq) (rEqW true) := os_eqG (fun r _ h => by rw [h rfl]; exact op_neD hu) (fun r _ h => by rw [h rfl]; exact op_ne)
/-- the order of whole numbers and of texts -/
def rOrd (fi : Int → Int → Bool) (fs : List Nat → List Nat → Bool) : W → W → Store → R W
  | .int i, .int j, S => .ok (.bl (fi i j)) S
  | .str x, .str y, S => .ok (.bl (fs x.cps.toList y.cps.toList)) S
  | _, _, _ => .bad
theorem nx_ord {fi : Int → Int → Bool} {fs : List Nat → List Nat → Bool} : NoX (rOrd fi fs) := by
  intro x y S k fs S' h
  unfold rOrd at h
  split at h <;> cases h
theorem os_ord {op : CmpOp} {fi : Int → Int → Bool} {fs : List Nat → List Nat → Bool} (h1 : OpR X (compareOp op) (rI0 fun i j => V.bl (fi i j))) (h2 : OpR X (compareOp op) (fun (x y : V) (H : Hp) (Q : VK) => ∃ i j, x = V.str i ∧ y = V.str j ∧ Q (V.bl (fs i.cps.toList j.cps.toList)) H)) : OpS X (compareOp op) (rOrd fi fs) := by
  intro x y H Q ρ S wx wy w S' hS rx ry e q
  unfold rOrd at e
  split at e
  · cases e; rw [rx.int_inv, ry.int_inv]
    exact ⟨_, h1, _, _, rfl, rfl, same0 hS q (.bl _)⟩
  · cases e; rw [rx.str_inv, ry.str_inv]
    exact ⟨_, h2, _, _, rfl, rfl, same0 hS q (.bl _)⟩
  · cases e
abbrev rLt := rOrd (fun (i j : Int) => decide (i < j)) (fun (a b : List Nat) => decide (a < b))
abbrev rLe := rOrd (fun i j => decide (i ≤ j)) (fun a b => !decide (b < a))
abbrev rGt := rOrd (fun i j => decide (j < i)) (fun a b => decide (b < a))
abbrev rGe := rOrd (fun i j => decide (j ≤ i)) (fun a b => !decide (a < b))
theorem os_lt : OpS X (compareOp .Lt) rLt := os_ord op_lt op_lt_str
theorem os_le : OpS X (compareOp .LtE) rLe := os_ord op_le op_le_str
theorem os_gt : OpS X (compareOp .Gt) rGt := os_ord op_gt op_gt_str
theorem os_ge : OpS X (compareOp .GtE) rGe := os_ord op_ge op_ge_str
/-- x is None, x is True .. -/
def rIs (neg : Bool) : W → W → Store → R W
  | x, .non, S => .ok (.bl (if neg then !(match x with | .non => true | _ => false) else (match x with | .non => true | _ => false))) S
  | .bl a, .bl b, S => .ok (.bl (if neg then !decide (a = b) else decide (a = b))) S
  | .lam _ _ _ _ _, .bl _, _ => .bad
  | _, .bl _, S => .ok (.bl neg) S
  | _, _, _ => .bad
end
end Dn

set_option maxHeartbeats 2000000
/-! Dn4: tests, and or not, if-expressions, displays, subscripts, slices -/
namespace Dn
open PySem PySem.Spec PyProof.Rows L2
section
variable {X : Cx}
/-! ### is, in -/
theorem nx_is {neg : Bool} : NoX (rIs neg) := by
  intro x y S k fs S' h
  unfold rIs at h
  split at h <;> cases h
def isNonW : W → Bool
  | .non => true
  | _ => false
theorem isN_iff {c : Cn} {ρ : Nat → Addr} {n : Nat} {H : Hp} {w : W} {v : V} (r : RW c ρ n H w v) : isNonW w = decide (v = .non) := by
  cases r <;> simp [isNonW]
theorem op_is_blO {neg : Bool} {op : CmpOp} (ho : op = if neg then .IsNot else .Is) : OpR X (compareOp op) (fun x y H Q => ∃ b, y = .bl b ∧ (∀ a, x ≠ .bl a) ∧ Q (.bl neg) H) := by
  intro pins s σ H x y v u Q I rx ry h
  obtain ⟨b, rfl, hx, q⟩ := h
  cases (show u = Value.bool b from ry)
  have hp : plainIs v (.bool b) = true ∧ v ≠ .bool b := by
    cases x with
    | bl a => exact absurd rfl (hx a)
    | non => cases (show v = Value.none from rx); exact ⟨rfl, fun z => by cases z⟩
    | int i => obtain ⟨t, rfl⟩ := (show ∃ t, v = Value.int i t from rx); exact ⟨rfl, fun z => by cases z⟩
    | str i => obtain ⟨t, rfl⟩ := (show ∃ t, v = Value.str i t from rx); exact ⟨rfl, fun z => by cases z⟩
    | byt i => obtain ⟨t, rfl⟩ := (show ∃ t, v = Value.bytes i t from rx); exact ⟨rfl, fun z => by cases z⟩
    | flt i => obtain ⟨t, rfl⟩ := (show ∃ t, v = Value.float i t from rx); exact ⟨rfl, fun z => by cases z⟩
    | ref a => cases (show v = Value.ref a from rx); exact ⟨rfl, fun z => by cases z⟩
    | ty n => cases (show v = Value.type n from rx); exact ⟨rfl, fun z => by cases z⟩
  cases neg with
  | false => subst ho; exact wpAny_is_other hp.1 hp.2 ⟨.bl false, H, I, rfl, q⟩
  | true => subst ho; exact wpAny_isNot_other hp.1 hp.2 ⟨.bl true, H, I, rfl, q⟩
theorem notBl {c : Cn} {ρ : Nat → Addr} {n : Nat} {H : Hp} {w : W} {v : V} (r : RW c ρ n H w v) (h : ∀ a, w ≠ .bl a) : ∀ a, v ≠ .bl a := by
  intro a e
  subst e
  cases r
  exact h _ rfl
theorem os_is : OpS X (compareOp .Is) (rIs false) := by
  intro x y H Q ρ S wx wy w S' hS rx ry e q
  unfold rIs at e
  split at e
  · have e' : R.ok (W.bl (isNonW wx)) S = R.ok w S' := by rw [← e]; cases wx <;> rfl
    cases e'; rw [ry.non_inv]
    refine ⟨_, op_isN, rfl, ?_⟩
    rw [← isN_iff rx]
    exact same0 hS q (.bl _)
  · cases e; rw [rx.bl_inv, ry.bl_inv]
    exact ⟨_, op_is_bl, _, _, rfl, rfl, same0 hS q (.bl _)⟩
  · cases e
  · rename_i hm hn
    cases e; rw [ry.bl_inv]
    exact ⟨_, op_is_blO (neg := false) rfl, _, rfl, notBl rx (fun a z => by subst z; first | exact hm _ rfl | exact hm _ _ rfl rfl), same0 hS q (.bl _)⟩
  · cases e
theorem os_isnot : OpS X (compareOp .IsNot) (rIs true) := by
  intro x y H Q ρ S wx wy w S' hS rx ry e q
  unfold rIs at e
  split at e
  · have e' : R.ok (W.bl (!isNonW wx)) S = R.ok w S' := by rw [← e]; cases wx <;> rfl
    cases e'; rw [ry.non_inv]
    refine ⟨_, op_notN, rfl, ?_⟩
    rw [← isN_iff rx]
    exact same0 hS q (.bl _)
  · cases e; rw [rx.bl_inv, ry.bl_inv]
    exact ⟨_, op_isnot_bl, _, _, rfl, rfl, same0 hS q (.bl _)⟩
  · cases e
  · rename_i hm hn
    cases e; rw [ry.bl_inv]
    exact ⟨_, op_is_blO (neg := true) rfl, _, rfl, notBl rx (fun a z => by subst z; first | exact hm _ rfl | exact hm _ _ rfl rfl), same0 hS q (.bl _)⟩
  · cases e
/-- x in y: a sign in a text; a flat value in a tuple or list of flat ones; data in a list -/
def eqF : V → V → Bool := eqV
def flats : List W → Option (List V)
  | [] => some []
  | x :: xs => match flatW x, flats xs with
    | some v, some vs => some (v :: vs)
    | _, _ => none
theorem flats_ok {c : Cn} {ρ : Nat → Addr} {n : Nat} {H : Hp} : ∀ {ws : List W} {vs us : List V}, RWs c ρ n H ws vs → flats ws = some us → vs = us
  | [], _, _, r, e => by cases r; simp only [flats, Option.some.injEq] at e; exact e
  | w :: ws, _, us, r, e => by
    cases r with
    | cons r t =>
      simp only [flats] at e
      split at e
      · rename_i a b e1 e2
        cases e
        rw [flatW_ok r e1, flats_ok t e2]
      · cases e
theorem flatW_flat {w : W} {v : V} (e : flatW w = some v) : flatV v = true := by
  cases w <;> simp only [flatW, Option.some.injEq, reduceCtorEq] at e <;> subst e <;> rfl
theorem flats_flat : ∀ {ws : List W} {us : List V}, flats ws = some us → us.all flatV = true
  | [], _, e => by simp only [flats, Option.some.injEq] at e; subst e; rfl
  | w :: ws, us, e => by
    simp only [flats] at e
    split at e
    · rename_i a b e1 e2
      cases e
      rw [List.all_cons, flatW_flat e1, flats_flat e2]; rfl
    · cases e
def seqW (S : Store) : W → Option (List W)
  | .tup xs => some xs
  | .fls xs => some xs
  | .ref n => match S[n]? with
    | some (.lst xs) => some xs
    | _ => none
  | _ => none
theorem seqW_ok {c : Cn} {ρ : Nat → Addr} {H : Hp} {S : Store} {w : W} {v : V} {xs : List W} (hS : RS c ρ H S) (r : RW c ρ S.length H w v) (e : seqW S w = some xs) : ∃ a vs, v = .ref a ∧ (SqL c.K H a vs ∨ SqT c.K H a vs) ∧ RWs c ρ S.length H xs vs := by
  unfold seqW at e
  split at e
  · cases e; obtain ⟨a, vs, rfl, h, t⟩ := r.tup_inv; exact ⟨a, vs, rfl, .inr h, t⟩
  · cases e; obtain ⟨a, vs, rfl, h, t⟩ := r.fls_inv; exact ⟨a, vs, rfl, .inl h.sq, t⟩
  · split at e
    · rename_i xs' e1
      cases e
      obtain ⟨rfl, _⟩ := r.ref_inv
      obtain ⟨vs, h, t⟩ := hS.lst e1
      exact ⟨_, vs, rfl, .inl (.of h), t⟩
    · cases e
  · cases e
def rInW (neg : Bool) : W → W → Store → R W := fun x y S => match x, y with
  | .str a, .str z => (match a.cps.toList with
    | [k] => .ok (.bl (if neg then !decide (k ∈ z.cps.toList) else decide (k ∈ z.cps.toList))) S
    | _ => .bad)
  | x, .ref n => (match S[n]? with
    | some (.lst ys) => (match flatW x, flats ys with
      | some v, some vs => .ok (.bl (if neg then !inV v vs else inV v vs)) S
      | _, _ => match toPy S x, toPy S (.ref n) with
        | some d, some (.list ds) => if SeqAt.shaped d && SeqAt.shaped (.list ds) then .ok (.bl (if neg then !ds.any fun z => PyData.eqv z d else ds.any fun z => PyData.eqv z d)) S else .bad
        | _, _ => .bad)
    | some (.dic kvs) => (match x with
      | .str a => .ok (.bl (if neg then !(kvs.any fun kv => decide (kv.1 = .inr a)) else kvs.any fun kv => decide (kv.1 = .inr a))) S
      | .int a => .ok (.bl (if neg then !(kvs.any fun kv => decide (kv.1 = .inl a)) else kvs.any fun kv => decide (kv.1 = .inl a))) S
      | _ => .bad)
    | _ => .bad)
  | x, .tup ys => (match flatW x, flats ys with
    | some v, some vs => .ok (.bl (if neg then !inV v vs else inV v vs)) S
    | _, _ => .bad)
  | _, _ => .bad

theorem dr_in (hu : X.A.units + 1 < cLine) : OpR X (compareOp .In) (fun y x H Q => ∃ a o, x = .ref a ∧ DGet H a y o ∧ Q (.bl o.isSome) H) := by
  intro pins s σ H y x u v Q I ry rx h
  obtain ⟨a, o, ex, g, q⟩ := h
  subst ex
  obtain rfl : v = Value.ref a := rx
  exact d_in hu I g ry fun s3 I3 => ⟨.bl o.isSome, H, I3, rfl, q⟩
theorem dr_notin (hu : X.A.units + 1 < cLine) : OpR X (compareOp .NotIn) (fun y x H Q => ∃ a o, x = .ref a ∧ DGet H a y o ∧ Q (.bl (!o.isSome)) H) := by
  intro pins s σ H y x u v Q I ry rx h
  obtain ⟨a, o, ex, g, q⟩ := h
  subst ex
  obtain rfl : v = Value.ref a := rx
  exact d_notIn hu I g ry fun s3 I3 => ⟨.bl (!o.isSome), H, I3, rfl, q⟩
theorem RK.isS {c : Cn} {ρ : Nat → Addr} {n : Nat} {H : Hp} (k : Key) : ∀ {kvs : List (Key × W)} {gs : List (Key × V)}, RK c ρ n H kvs gs → (valV gs k).isSome = kvs.any fun kv => decide (kv.1 = k)
  | [], gs, ⟨h1, h2⟩ => by
    cases gs with
    | nil => rfl
    | cons g gs => simp at h1
  | kv :: kvs, gs, ⟨h1, h2⟩ => by
    cases gs with
    | nil => simp at h1
    | cons g gs =>
      simp only [List.map_cons, List.cons.injEq] at h1 h2
      cases h2 with
      | cons r t =>
        have ih := RK.isS k (kvs := kvs) (gs := gs) ⟨h1.2, t⟩
        unfold valV at ih ⊢
        rw [List.any_cons, List.find?_cons]
        rw [h1.1]
        cases e : decide (kv.1 = k) with
        | true => simp
        | false => simpa using ih
theorem nx_in {neg : Bool} : NoX (rInW neg) := by
  intro x y S k fs S' h
  unfold rInW at h
  repeat' (first | (cases h; done) | split at h)
theorem RS.dic {c : Cn} {ρ : Nat → Addr} {H : Hp} {S : Store} (rs : RS c ρ H S) {n : Nat} {xs : List (Key × W)} (e : S[n]? = some (.dic xs)) : ∃ gs, H (ρ n) = some (.dK gs) ∧ RK c ρ S.length H xs gs := rs.cell n _ e
theorem RS.ins {c : Cn} {ρ : Nat → Addr} {H : Hp} {S : Store} (rs : RS c ρ H S) {n : Nat} {k : Str} {fs : List (Str × W)} (e : S[n]? = some (.ins k fs)) : ∃ C dx gs, c.mg k = some (.ref C) ∧ H (ρ n) = some (.ins C dx gs) ∧ RF c ρ S.length H fs gs := rs.cell n _ e
theorem str_one {a : Str} {k : Nat} (h : a.cps.toList = [k]) : a = ⟨#[k]⟩ := by
  obtain ⟨c⟩ := a
  have : c = #[k] := by rw [← Array.toArray_toList (xs := c)]; show (c.toList).toArray = _; rw [h]
  rw [this]
theorem os_inG {op : CmpOp} {neg : Bool} (hu : X.A.units + 65 < cLine)
    (h1 : OpR X (compareOp op) (fun (x y : V) (H : Hp) (Q : VK) => ∃ (c : Nat) (z : Str), x = V.str ⟨#[c]⟩ ∧ y = V.str z ∧ Q (V.bl (if neg then !decide (c ∈ z.cps.toList) else decide (c ∈ z.cps.toList))) H))
    (h2 : OpR X (compareOp op) (rIn X.K neg))
    (h3 : OpR X (compareOp op) (fun (x y : V) (H : Hp) (Q : VK) => ∃ d ds, Dp X.K H x d ∧ Dp X.K H y (.list ds) ∧ SeqAt.shaped d = true ∧ SeqAt.shaped (.list ds) = true ∧ Q (V.bl (if neg then !ds.any fun z => PyData.eqv z d else ds.any fun z => PyData.eqv z d)) H))
    (h4 : OpR X (compareOp op) (fun (y x : V) (H : Hp) (Q : VK) => ∃ a o, x = V.ref a ∧ DGet H a y o ∧ Q (V.bl (if neg then !o.isSome else o.isSome)) H)) : OpS X (compareOp op) (rInW neg) := by
  intro x y H Q ρ S wx wy w S' hS rx ry e q
  unfold rInW at e
  split at e
  · split at e
    · rename_i k hk
      cases e; rw [rx.str_inv, ry.str_inv]
      exact ⟨_, h1, k, _, by rw [str_one hk], rfl, same0 hS q (.bl _)⟩
    · cases e
  · split at e
    · rename_i ys e1
      split at e
      · rename_i v vs e2 e3
        cases e
        obtain ⟨rfl, _⟩ := ry.ref_inv
        obtain ⟨us, hu', tu⟩ := hS.lst e1
        have ev := flatW_ok rx e2
        have eus := flats_ok tu e3
        subst ev; subst eus
        exact ⟨_, h2, _, _, rfl, .inl (.of hu'), flatW_flat e2, flats_flat e3, same0 hS q (.bl _)⟩
      · split at e
        · rename_i d ds e2 e3
          split at e
          · rename_i hs
            obtain ⟨s1, s2⟩ := Bool.and_eq_true_iff.mp hs
            cases e
            exact ⟨_, h3, d, ds, toPy_ok hS rx e2, toPy_ok hS ry e3, s1, s2, same0 hS q (.bl _)⟩
          · cases e
        · cases e
    · rename_i kvs e1
      obtain ⟨rfl, _⟩ := ry.ref_inv
      obtain ⟨gs, hg, tg⟩ := hS.dic e1
      split at e
      · rename_i a
        cases e
        rw [rx.str_inv]
        refine ⟨_, h4, _, _, rfl, DGet.k (k := Sum.inr a) hg, ?_⟩
        rw [tg.isS (Sum.inr a)]
        exact same0 hS q (.bl _)
      · rename_i a
        cases e
        rw [rx.int_inv]
        refine ⟨_, h4, _, _, rfl, DGet.k (k := Sum.inl a) hg, ?_⟩
        rw [tg.isS (Sum.inl a)]
        exact same0 hS q (.bl _)
      · cases e
    · cases e
  · split at e
    · rename_i v vs e2 e3
      cases e
      obtain ⟨a, us, rfl, hu', tu⟩ := ry.tup_inv
      have ev := flatW_ok rx e2
      have eus := flats_ok tu e3
      subst ev; subst eus
      exact ⟨_, h2, _, _, rfl, .inr hu', flatW_flat e2, flats_flat e3, same0 hS q (.bl _)⟩
    · cases e
  · cases e
theorem os_in (hu : X.A.units + 65 < cLine) : OpS X (compareOp .In) (rInW false) := os_inG hu op_in_sign op_in_seq (op_inD hu) (dr_in (by omega))
theorem os_notin (hu : X.A.units + 65 < cLine) : OpS X (compareOp .NotIn) (rInW true) := os_inG hu op_notIn_sign op_notIn_seq (op_notInD hu) (dr_notin (by omega))
end

/-! ### tests -/
section
variable {X : Cx} {cur : Option Cur} {pos : Pos}
/-- a value's truth -/
def truW (S : Store) : W → Option Bool
  | .non => some false
  | .bl b => some b
  | .int i => some (i != 0)
  | .str x => if x.length ≤ sizeLine then some ((x.length : Int) != 0) else none
  | .tup xs => some (!xs.isEmpty)
  | .fls xs => some (!xs.isEmpty)
  | .ref n => match S[n]? with
    | some (.lst xs) => some (!xs.isEmpty)
    | some (.dic xs) => some (!xs.isEmpty)
    | _ => none
  | .lam _ _ _ _ _ => none
theorem RWs.empty {c : Cn} {ρ : Nat → Addr} {n : Nat} {H : Hp} {ws : List W} {vs : List V} (r : RWs c ρ n H ws vs) : ws.isEmpty = vs.isEmpty := by cases r <;> rfl
theorem truW_ok {c : Cn} {ρ : Nat → Addr} {H : Hp} {S : Store} {w : W} {v : V} {k : Bool} (hS : RS c ρ H S) (r : RW c ρ S.length H w v) (e : truW S w = some k) : TruV c.K v H k := by
  unfold truW at e
  split at e
  · cases e; rw [r.non_inv]; rfl
  · cases e; rw [r.bl_inv]; rfl
  · cases e; rw [r.int_inv]; rfl
  · split at e
    · rename_i hz; cases e; rw [r.str_inv]; exact ⟨hz, rfl⟩
    · cases e
  · cases e; obtain ⟨a, vs, rfl, h, t⟩ := r.tup_inv; exact .inr (.inl ⟨vs, h, by rw [t.empty]⟩)
  · cases e; obtain ⟨a, vs, rfl, h, t⟩ := r.fls_inv; exact .inl ⟨vs, h.sq, by rw [t.empty]⟩
  · split at e
    · rename_i xs e1
      cases e
      obtain ⟨rfl, _⟩ := r.ref_inv
      obtain ⟨vs, h, t⟩ := hS.lst e1
      exact .inl ⟨vs, .of h, by rw [t.empty]⟩
    · rename_i xs e1
      cases e
      obtain ⟨rfl, _⟩ := r.ref_inv
      obtain ⟨gs, h, t1, t2⟩ := hS.dic e1
      refine .inr (.inr ⟨gs, h, ?_⟩)
      have := congrArg List.isEmpty t1
      simpa using this.symm
    · cases e
  · cases e
/-- the truth of an expression -/
def dTru (d : DE) : DT := fun env S => (d env S).bind fun w S1 => match truW S1 w with
  | some b => .ok b S1
  | none => .bad
theorem PostB.tru {c : Cn} {ρ : Nat → Addr} {H : Hp} {S : Store} {w : W} {v : V} {Q : Bool → Hp → Prop} {E : XK} (hS : RS c ρ H S) (r : RW c ρ S.length H w v) (p : PostB c ρ H S (match truW S w with | some b => .ok b S | none => .bad) Q E) : ∃ k, TruV c.K v H k ∧ Q k H := by
  split at p
  · rename_i b e
    exact ⟨b, truW_ok hS r e, p ρ H (Fut.refl hS)⟩
  · exact p.elim
theorem st_truth {e : Expr} {d : DE} (h : SE X cur e d) (he : ∀ whole, isTrue e X.env whole = (do let v ← whole; standAt e.pos; holding [v] (truthy v)) := by intro _; rfl) : ST X cur e (dTru d) := ⟨fun E tk =>
  PT.imp (pt_truth (h.pe E tk) he) fun σ H Q ⟨ρ, env, S, hE, hS, p⟩ => (bindEB hE hS p).mono fun v H1 ⟨ρ1, S1, w, rs1, re1, rw1, f1, p1⟩ => p1.tru rs1 rw1⟩
/-- a comparison as a test -/
def dBool (d : DE) : DT := fun env S => (d env S).bind fun w S1 => match w with
  | .bl b => .ok b S1
  | _ => .bad
theorem st_cmp {op : CmpOp} {r : W → W → Store → R W} {da db : DE} {a b : Expr} (ho : OpS X (compareOp op) r) (hn : NoX r) (ha : SE X cur a da) (hb : SE X cur b db) (hm : behindInMarks op b = false := by first | exact nomark _ | rfl) :
    ST X cur (.Compare a [op] [b] pos) (dBool (dOp r da db)) := ⟨fun E tk => PT.imp (pt_cmpR opR_of (ha.pe E tk) (hb.pe E tk) hm) fun σ H Q ⟨ρ, env, S, hE, hS, p⟩ => by
  have p' : PostB (cn X) ρ H S ((da env S).bind fun x S1 => (db env S1).bind fun y S2 => (r x y S2).bind fun w S3 => match w with
    | .bl b => R.ok b S3
    | _ => R.bad) Q (fun cv dd H' => E cv dd σ H') := by
    unfold dBool dOp at p
    cases e : da env S with
    | ok x S1 =>
      rw [e] at p
      simp only [R.bind_ok] at p ⊢
      cases e2 : db env S1 with
      | ok y S2 => rw [e2] at p; exact p
      | exc k fs S2 => rw [e2] at p; exact p
      | bad => rw [e2] at p; exact p
    | exc k fs S1 => rw [e] at p; exact p
    | bad => rw [e] at p; exact p
  refine (bindEB hE hS p').mono fun v H1 ⟨ρ1, S1, w, rs1, re1, rw1, f1, p1⟩ => (bindEB re1 rs1 p1).mono fun y H2 ⟨ρ2, S2, w2, rs2, re2, rw2, f2, p2⟩ => ?_
  show rOf X (compareOp op) v y H2 _
  cases e3 : r w w2 S2 with
  | ok u S4 =>
    rw [e3] at p2
    refine ho v y H2 _ ρ2 S2 w w2 u S4 rs2 (f2.rw rs1 rw1) rw2 e3 fun ρ' v' H' f' r' => ?_
    simp only [R.bind_ok] at p2
    split at p2
    · rename_i b
      exact ⟨b, r'.bl_inv, p2 ρ' H' f'⟩
    · exact p2.elim
  | exc k fs S4 => exact absurd e3 (hn _ _ _ _ _ _)
  | bad => rw [e3] at p2; exact p2.elim⟩
def dNot (d : DT) : DT := fun env S => (d env S).bind fun b S1 => .ok (!b) S1
theorem st_not {a : Expr} {d : DT} (h : ST X cur a d) : ST X cur (.UnaryOp .Not a pos) (dNot d) := ⟨fun E tk => PT.imp (pt_not (h.pt E tk)) fun σ H Q ⟨ρ, env, S, hE, hS, p⟩ =>
  (bindTB hE hS p).mono fun b H1 ⟨ρ1, S1, rs1, re1, f1, p1⟩ => p1 ρ1 H1 (Fut.refl rs1)⟩
def dAnd (a b : DT) : DT := fun env S => (a env S).bind fun k S1 => if k = true then b env S1 else .ok false S1
def dOr (a b : DT) : DT := fun env S => (a env S).bind fun k S1 => if k = true then .ok true S1 else b env S1
theorem PostB.ok1 {c : Cn} {ρ : Nat → Addr} {H : Hp} {S : Store} {b : Bool} {Q : Bool → Hp → Prop} {E : XK} (hS : RS c ρ H S) (p : PostB c ρ H S (.ok b S) Q E) : Q b H := p ρ H (Fut.refl hS)
theorem sw_and {a b : Expr} {rest : List Expr} {da db : DT} (ha : ST X cur a da) (hb : SW X cur (.BoolOp .And (b :: rest) pos) db) : SW X cur (.BoolOp .And (a :: b :: rest) pos) (dAnd da db) := ⟨fun E tk => PW.imp (pw_and (ha.pt E tk) (hb.pw E tk)) fun σ H Q ⟨ρ, env, S, hE, hS, p⟩ =>
  (bindTB hE hS p).mono fun k H1 ⟨ρ1, S1, rs1, re1, f1, p1⟩ => by
    cases k with
    | true => rw [if_pos rfl] at p1 ⊢; exact ⟨ρ1, env, S1, re1, rs1, p1⟩
    | false => rw [if_neg Bool.false_ne_true] at p1 ⊢; exact p1.ok1 rs1⟩
theorem sw_and1 {a : Expr} {da : DT} (ha : ST X cur a da) : SW X cur (.BoolOp .And [a] pos) da := ⟨fun E tk => pw_and1 (ha.pt E tk)⟩
theorem sw_or {a b : Expr} {rest : List Expr} {da db : DT} (ha : ST X cur a da) (hb : SW X cur (.BoolOp .Or (b :: rest) pos) db) : SW X cur (.BoolOp .Or (a :: b :: rest) pos) (dOr da db) := ⟨fun E tk => PW.imp (pw_or (ha.pt E tk) (hb.pw E tk)) fun σ H Q ⟨ρ, env, S, hE, hS, p⟩ =>
  (bindTB hE hS p).mono fun k H1 ⟨ρ1, S1, rs1, re1, f1, p1⟩ => by
    cases k with
    | true => rw [if_pos rfl] at p1 ⊢; exact p1.ok1 rs1
    | false => rw [if_neg Bool.false_ne_true] at p1 ⊢; exact ⟨ρ1, env, S1, re1, rs1, p1⟩⟩
theorem sw_or1 {a : Expr} {da : DT} (ha : ST X cur a da) : SW X cur (.BoolOp .Or [a] pos) da := ⟨fun E tk => pw_or1 (ha.pt E tk)⟩
theorem SW.st {e : Expr} {d : DT} (h : SW X cur e d) : ST X cur e d := ⟨fun E tk => (h.pw E tk).pt⟩

/-! ### and, or, not, if as values -/
def dAndV (a b : DE) : DE := fun env S => (a env S).bind fun x S1 => match truW S1 x with
  | some true => b env S1
  | some false => .ok x S1
  | none => .bad
def dOrV (a b : DE) : DE := fun env S => (a env S).bind fun x S1 => match truW S1 x with
  | some true => .ok x S1
  | some false => b env S1
  | none => .bad
def dNotV (a : DE) : DE := fun env S => (a env S).bind fun x S1 => match truW S1 x with
  | some b => .ok (.bl (!b)) S1
  | none => .bad
theorem se_one {op : BoolOp} {a : Expr} {d : DE} (h : SE X cur a d) : SE X cur (.BoolOp op [a] pos) d := ⟨fun E tk => pe_one (h.pe E tk)⟩
theorem se_and {a b : Expr} {rest : List Expr} {da db : DE} (ha : SE X cur a da) (hb : SE X cur (.BoolOp .And (b :: rest) pos) db) : SE X cur (.BoolOp .And (a :: b :: rest) pos) (dAndV da db) := ⟨fun E tk => PE.imp (pe_andT (ha.pe E tk) (hb.pe E tk)) fun σ H Q ⟨ρ, env, S, hE, hS, p⟩ =>
  (bindE hE hS p).mono fun v H1 ⟨ρ1, S1, w, rs1, re1, rw1, f1, _, p1⟩ => by
    split at p1
    · rename_i e; exact ⟨true, truW_ok rs1 rw1 e, by rw [if_pos rfl]; exact ⟨ρ1, env, S1, re1, rs1, p1⟩⟩
    · rename_i e; exact ⟨false, truW_ok rs1 rw1 e, by rw [if_neg Bool.false_ne_true]; exact p1.same rs1 rw1⟩
    · exact p1.elim⟩
theorem se_or {a b : Expr} {rest : List Expr} {da db : DE} (ha : SE X cur a da) (hb : SE X cur (.BoolOp .Or (b :: rest) pos) db) : SE X cur (.BoolOp .Or (a :: b :: rest) pos) (dOrV da db) := ⟨fun E tk => PE.imp (pe_orT (ha.pe E tk) (hb.pe E tk)) fun σ H Q ⟨ρ, env, S, hE, hS, p⟩ =>
  (bindE hE hS p).mono fun v H1 ⟨ρ1, S1, w, rs1, re1, rw1, f1, _, p1⟩ => by
    split at p1
    · rename_i e; exact ⟨true, truW_ok rs1 rw1 e, by rw [if_pos rfl]; exact p1.same rs1 rw1⟩
    · rename_i e; exact ⟨false, truW_ok rs1 rw1 e, by rw [if_neg Bool.false_ne_true]; exact ⟨ρ1, env, S1, re1, rs1, p1⟩⟩
    · exact p1.elim⟩
theorem se_not {a : Expr} {da : DE} (ha : SE X cur a da) : SE X cur (.UnaryOp .Not a pos) (dNotV da) := ⟨fun E tk => PE.imp (pe_notT (ha.pe E tk)) fun σ H Q ⟨ρ, env, S, hE, hS, p⟩ =>
  (bindE hE hS p).mono fun v H1 ⟨ρ1, S1, w, rs1, re1, rw1, f1, _, p1⟩ => by
    split at p1
    · rename_i b e; exact ⟨b, truW_ok rs1 rw1 e, p1.same rs1 (.bl _)⟩
    · exact p1.elim⟩
def dIf (c : DT) (a b : DE) : DE := fun env S => (c env S).bind fun k S1 => if k = true then a env S1 else b env S1
theorem se_ifx {c a b : Expr} {dc : DT} {da db : DE} (hc : ST X cur c dc) (ha : SE X cur a da) (hb : SE X cur b db) : SE X cur (.IfExp c a b pos) (dIf dc da db) := ⟨fun E tk => PE.imp (pe_ifExp (hc.pt E tk) (ha.pe E tk) (hb.pe E tk)) fun σ H Q ⟨ρ, env, S, hE, hS, p⟩ =>
  (bindT hE hS p).mono fun k H1 ⟨ρ1, S1, rs1, re1, f1, p1⟩ => by
    cases k with
    | true => rw [if_pos rfl] at p1 ⊢; exact ⟨ρ1, env, S1, re1, rs1, p1⟩
    | false => rw [if_neg Bool.false_ne_true] at p1 ⊢; exact ⟨ρ1, env, S1, re1, rs1, p1⟩⟩
def dNeg (a : DE) : DE := fun env S => (a env S).bind fun x S1 => match x with
  | .int i => .ok (.int (-i)) S1
  | _ => .bad
theorem se_neg {a : Expr} {da : DE} (ha : SE X cur a da) : SE X cur (.UnaryOp .USub a pos) (dNeg da) := ⟨fun E tk => PE.imp (pe_un un_neg (ha.pe E tk)) fun σ H Q ⟨ρ, env, S, hE, hS, p⟩ =>
  (bindE hE hS p).mono fun v H1 ⟨ρ1, S1, w, rs1, re1, rw1, f1, _, p1⟩ => by
    split at p1
    · rename_i i _; exact ⟨i, rw1.int_inv, p1.same rs1 (.int _)⟩
    · exact p1.elim⟩

/-! ### argument lists, displays -/
def dNil : DA := fun _ S => .ok [] S
def dCons (d : DE) (ds : DA) : DA := fun env S => (d env S).bind fun x S1 => (ds env S1).bind fun xs S2 => .ok (x :: xs) S2
theorem sa_nil : SA X cur [] dNil := ⟨fun E tk => PA.imp pa_nil fun σ H Q ⟨ρ, env, S, hE, hS, p⟩ => p ρ _ H (Fut.refl hS) .nil⟩
theorem sa_cons {e : Expr} {es : List Expr} {d : DE} {ds : DA} (h : SE X cur e d) (hs : SA X cur es ds) (hst : starEach (e :: es) X.env = (false, eval e X.env) :: starEach es X.env := by rfl) : SA X cur (e :: es) (dCons d ds) := ⟨fun E tk => PA.imp (pa_cons (h.pe E tk) (hs.pa E tk) hst) fun σ H Q ⟨ρ, env, S, hE, hS, p⟩ =>
  (bindEL hE hS p).mono fun v H1 ⟨ρ1, S1, w, rs1, re1, rw1, f1, p1⟩ => (bindAL re1 rs1 p1).mono fun vs H2 ⟨ρ2, S2, ws, rs2, re2, rw2, f2, p2⟩ => p2 ρ2 _ H2 (Fut.refl rs2) (.cons (f2.rw rs1 rw1) rw2)⟩
def dTup (ds : DA) : DE := fun env S => (ds env S).bind fun xs S1 => if xs.length ≤ sizeLine then .ok (.tup xs) S1 else .bad
def dLst (ds : DA) : DE := fun env S => (ds env S).bind fun xs S1 => if xs.length ≤ sizeLine then .ok (.ref S1.length) (S1 ++ [.lst xs]) else .bad
theorem se_tup {es : List Expr} {ds : DA} {x1} (h : SA X cur es ds) : SE X cur (.Tuple es x1 pos) (dTup ds) := ⟨fun E tk => PE.imp (pe_tup (h.pa E tk)) fun σ H Q ⟨ρ, env, S, hE, hS, p⟩ =>
  (bindA hE hS p).mono fun vs H1 ⟨ρ1, S1, ws, rs1, re1, rw1, f1, p1⟩ => by
    split at p1
    · rename_i hz
      refine ⟨by rw [← rw1.length]; exact hz, fun a ha => ?_⟩
      have f : Fut (cn X) ρ1 H1 S1 ρ1 (upd H1 a (.tup vs)) S1 := Fut.tup rs1 ha
      exact p1 ρ1 _ _ f (.tup (.of upd_same) (f.rws rs1 rw1))
    · exact p1.elim⟩
/-- a new list -/
theorem Post.newL {c : Cn} {ρ : Nat → Addr} {H : Hp} {S : Store} {Q : VK} {E : XK} {ws : List W} {vs : List V} (hS : RS c ρ H S) (t : RWs c ρ S.length H ws vs) (p : Post c ρ H S (.ok (.ref S.length) (S ++ [.lst ws])) Q E) : ∀ a, H a = none → Q (.ref a) (upd H a (.lst vs)) := fun a ha => by
  have f : Fut c ρ H S (ext ρ S.length a) (upd H a (.lst vs)) (S ++ [.lst ws]) := Fut.new hS ha ⟨_, upd_same, t.mono (fun i h => ext_lt i h) (by omega) (hS.kp (Fr0.new ha))⟩
  have r : RW c (ext ρ S.length a) (S ++ [Cell.lst ws]).length (upd H a (.lst vs)) (.ref S.length) (.ref (ext ρ S.length a S.length)) := .ref (by simp)
  rw [ext_at] at r
  exact p _ _ _ f r
/-- a new tuple -/
theorem Post.newT {c : Cn} {ρ : Nat → Addr} {H : Hp} {S : Store} {Q : VK} {E : XK} {ws : List W} {vs : List V} (hS : RS c ρ H S) (t : RWs c ρ S.length H ws vs) (p : Post c ρ H S (.ok (.tup ws) S) Q E) : ∀ a, H a = none → Q (.ref a) (upd H a (.tup vs)) := fun a ha => by
  have f : Fut c ρ H S ρ (upd H a (.tup vs)) S := Fut.tup hS ha
  exact p ρ _ _ f (.tup (.of upd_same) (f.rws hS t))
theorem se_lst {es : List Expr} {ds : DA} (h : SA X cur es ds) : SE X cur (.List es pos) (dLst ds) := ⟨fun E tk => PE.imp (pe_lst (h.pa E tk)) fun σ H Q ⟨ρ, env, S, hE, hS, p⟩ =>
  (bindA hE hS p).mono fun vs H1 ⟨ρ1, S1, ws, rs1, re1, rw1, f1, p1⟩ => by
    split at p1
    · rename_i hz
      exact ⟨by rw [← rw1.length]; exact hz, p1.newL rs1 rw1⟩
    · exact p1.elim⟩
end
end Dn

set_option maxHeartbeats 2000000
/-! Dn5: subscripts, slices, dicts, fields, calls of built-ins, methods of built-ins -/
namespace Dn
open PySem PySem.Spec PyProof.Rows L2
section
variable {X : Cx} {cur : Option Cur} {pos : Pos}
/-! ### s[i] of lists, tuples, texts -/
def rIxW : W → W → Store → R W := fun x y S => match y with
  | .int i => (match x with
    | .str z => if z.length ≤ sizeLine then (match atI z.cps.toList i with
      | some k => .ok (.str ⟨#[k]⟩) S
      | none => .bad) else .bad
    | x => (match seqW S x with
      | some xs => (match atI xs i with
        | some w => .ok w S
        | none => .bad)
      | none => .bad))
  | _ => .bad
theorem RWs.atI {c : Cn} {ρ : Nat → Addr} {n : Nat} {H : Hp} {ws : List W} {vs : List V} {i : Int} {w : W} (r : RWs c ρ n H ws vs) (e : L2.atI ws i = some w) : ∃ v, L2.atI vs i = some v ∧ RW c ρ n H w v := by
  unfold L2.atI at e ⊢
  rw [← r.length]
  cases q : ixN ws.length i with
  | none => rw [q] at e; cases e
  | some j => rw [q] at e; exact r.get e
def OpIx (X : Cx) (r : W → W → Store → R W) : Prop :=
  ∀ (x y : V) (H : Hp) (Q : VK) (ρ : Nat → Addr) (S : Store) (wx wy w : W) (S' : Store), RS (cn X) ρ H S → RW (cn X) ρ S.length H wx x → RW (cn X) ρ S.length H wy y → r wx wy S = .ok w S' →
    (∀ ρ' v H', Fut (cn X) ρ H S ρ' H' S' → RW (cn X) ρ' S'.length H' w v → Q v H') → ∃ r2 : R2, IxR X r2 ∧ r2 x y H Q
theorem os_ix : OpIx X rIxW := by
  intro x y H Q ρ S wx wy w S' hS rx ry e q
  unfold rIxW at e
  split at e
  · rename_i i
    split at e
    · split at e
      · rename_i hz
        split at e
        · rename_i k hk
          cases e; rw [rx.str_inv, ry.int_inv]
          exact ⟨_, ix_str, _, _, _, rfl, rfl, hz, hk, same0 hS q (.str _)⟩
        · cases e
      · cases e
    · split at e
      · rename_i xs e1
        split at e
        · rename_i u e2
          cases e
          rw [ry.int_inv]
          obtain ⟨a, vs, rfl, h, t⟩ := seqW_ok hS rx e1
          obtain ⟨v, e3, rv⟩ := t.atI e2
          rcases h with h | h
          · exact ⟨_, ix_list, a, vs, i, v, rfl, rfl, h, e3, same0 hS q rv⟩
          · exact ⟨_, ix_tup, a, vs, i, v, rfl, rfl, h, e3, same0 hS q rv⟩
        · cases e
      · cases e
  · cases e
theorem nx_ix : NoX rIxW := by
  intro x y S k fs S' h
  unfold rIxW at h
  repeat' (first | (cases h; done) | split at h)
def rOfI (X : Cx) : R2 := fun x y H Q => ∃ r2 : R2, IxR X r2 ∧ r2 x y H Q
theorem ixR_of : IxR X (rOfI X) := fun value slice pins s σ H x y v u Q I rx ry ⟨r2, h1, h2⟩ hs => h1 value slice pins s σ H x y v u Q I rx ry h2 hs
theorem se_ix {a b : Expr} {da db : DE} (ha : SE X cur a da) (hb : SE X cur b db) (hs : PlainIx b := by exact fun _ _ => rfl) : SE X cur (.Subscript a b pos) (dOp rIxW da db) := ⟨fun E tk => PE.imp (pe_ix ixR_of (ha.pe E tk) (hb.pe E tk) hs) fun σ H Q ⟨ρ, env, S, hE, hS, p⟩ =>
  (bindE hE hS p).mono fun v H1 ⟨ρ1, S1, w, rs1, re1, rw1, f1, _, p1⟩ => (bindE re1 rs1 p1).mono fun y H2 ⟨ρ2, S2, w2, rs2, re2, rw2, f2, _, p2⟩ => by
    show rOfI X v y H2 Q
    cases e3 : rIxW w w2 S2 with
    | ok u S4 => rw [e3] at p2; exact os_ix v y H2 Q ρ2 S2 w w2 u S4 rs2 (f2.rw rs1 rw1) rw2 e3 p2
    | exc k fs S4 => exact absurd e3 (nx_ix _ _ _ _ _ _)
    | bad => rw [e3] at p2; exact p2.elim⟩
/-! ### d[k] -/
def keyW : W → Option Key
  | .int i => some (.inl i)
  | .str x => some (.inr x)
  | _ => none
theorem keyW_ok {c : Cn} {ρ : Nat → Addr} {n : Nat} {H : Hp} {w : W} {v : V} {k : Key} (r : RW c ρ n H w v) (e : keyW w = some k) : v = kV k := by
  cases w <;> simp only [keyW, Option.some.injEq, reduceCtorEq] at e <;> subst e <;> cases r <;> rfl
def valW (kvs : List (Key × W)) (k : Key) : Option W := (kvs.find? fun kv => decide (kv.1 = k)).map (·.2)
theorem RK.val {c : Cn} {ρ : Nat → Addr} {n : Nat} {H : Hp} (k : Key) : ∀ {kvs : List (Key × W)} {gs : List (Key × V)} {w : W}, RK c ρ n H kvs gs → valW kvs k = some w → ∃ v, valV gs k = some v ∧ RW c ρ n H w v
  | [], gs, w, ⟨h1, h2⟩, e => by simp [valW] at e
  | kv :: kvs, gs, w, ⟨h1, h2⟩, e => by
    cases gs with
    | nil => simp at h1
    | cons g gs =>
      simp only [List.map_cons, List.cons.injEq] at h1 h2
      cases h2 with
      | cons r t =>
        have ih := RK.val k (kvs := kvs) (gs := gs) (w := w) ⟨h1.2, t⟩
        unfold valW at e ih
        unfold valV at ih ⊢
        rw [List.find?_cons] at e ⊢
        rw [h1.1]
        cases q : decide (kv.1 = k) with
        | true =>
          rw [q] at e
          simp only [Option.map_some, Option.some.injEq] at e
          subst e
          exact ⟨g.2, rfl, r⟩
        | false =>
          rw [q] at e
          exact ih e
theorem RK.valN {c : Cn} {ρ : Nat → Addr} {n : Nat} {H : Hp} (k : Key) {kvs : List (Key × W)} {gs : List (Key × V)} (r : RK c ρ n H kvs gs) (e : valW kvs k = none) : valV gs k = none := by
  have h := r.isS k
  have h2 : (kvs.any fun kv => decide (kv.1 = k)) = false := by
    unfold valW at e
    rw [Option.map_eq_none_iff, List.find?_eq_none] at e
    rw [List.any_eq_false]
    exact fun x hx => by simpa using e x hx
  rw [h2] at h
  cases q : valV gs k with
  | none => rfl
  | some v => rw [q] at h; cases h
/-- which dict, which list -/
def dicW (S : Store) : W → Option (Nat × List (Key × W))
  | .ref n => match S[n]? with
    | some (.dic kvs) => some (n, kvs)
    | _ => none
  | _ => none
theorem dicW_ok {c : Cn} {ρ : Nat → Addr} {H : Hp} {S : Store} {w : W} {v : V} {n : Nat} {kvs : List (Key × W)} (hS : RS c ρ H S) (r : RW c ρ S.length H w v) (e : dicW S w = some (n, kvs)) :
    w = .ref n ∧ v = .ref (ρ n) ∧ n < S.length ∧ S[n]? = some (.dic kvs) ∧ ∃ gs, H (ρ n) = some (.dK gs) ∧ RK c ρ S.length H kvs gs := by
  unfold dicW at e
  split at e
  · split at e
    · rename_i n' kvs' e1
      cases e
      obtain ⟨rfl, h⟩ := r.ref_inv
      exact ⟨rfl, rfl, h, e1, hS.dic e1⟩
    · cases e
  · cases e
def lstW (S : Store) : W → Option (Nat × List W)
  | .ref n => match S[n]? with
    | some (.lst xs) => some (n, xs)
    | _ => none
  | _ => none
theorem lstW_ok {c : Cn} {ρ : Nat → Addr} {H : Hp} {S : Store} {w : W} {v : V} {n : Nat} {xs : List W} (hS : RS c ρ H S) (r : RW c ρ S.length H w v) (e : lstW S w = some (n, xs)) :
    w = .ref n ∧ v = .ref (ρ n) ∧ n < S.length ∧ S[n]? = some (.lst xs) ∧ ∃ vs, H (ρ n) = some (.lst vs) ∧ RWs c ρ S.length H xs vs := by
  unfold lstW at e
  split at e
  · split at e
    · rename_i n' kvs' e1
      cases e
      obtain ⟨rfl, h⟩ := r.ref_inv
      exact ⟨rfl, rfl, h, e1, hS.lst e1⟩
    · cases e
  · cases e
def insW (S : Store) : W → Option (Nat × Str × List (Str × W))
  | .ref n => match S[n]? with
    | some (.ins k fs) => some (n, k, fs)
    | _ => none
  | _ => none
theorem insW_ok {c : Cn} {ρ : Nat → Addr} {H : Hp} {S : Store} {w : W} {v : V} {n : Nat} {k : Str} {fs : List (Str × W)} (hS : RS c ρ H S) (r : RW c ρ S.length H w v) (e : insW S w = some (n, k, fs)) :
    w = .ref n ∧ v = .ref (ρ n) ∧ n < S.length ∧ S[n]? = some (.ins k fs) ∧ ∃ C dx gs, c.mg k = some (.ref C) ∧ H (ρ n) = some (.ins C dx gs) ∧ RF c ρ S.length H fs gs := by
  unfold insW at e
  split at e
  · split at e
    · rename_i n' k' fs' e1
      cases e
      obtain ⟨rfl, h⟩ := r.ref_inv
      exact ⟨rfl, rfl, h, e1, hS.ins e1⟩
    · cases e
  · cases e
/-- a list that is read -/
def lisW (S : Store) : W → Option (List W)
  | .fls xs => some xs
  | w => (lstW S w).map (·.2)
theorem lisW_ok {c : Cn} {ρ : Nat → Addr} {H : Hp} {S : Store} {w : W} {v : V} {xs : List W} (hS : RS c ρ H S) (r : RW c ρ S.length H w v) (e : lisW S w = some xs) : ∃ a vs, v = .ref a ∧ SqL c.K H a vs ∧ RWs c ρ S.length H xs vs := by
  have key : (lstW S w).map (·.2) = some xs → ∃ a vs, v = .ref a ∧ SqL c.K H a vs ∧ RWs c ρ S.length H xs vs := fun e => by
    obtain ⟨⟨n, ys⟩, e1, rfl⟩ := Option.map_eq_some_iff.mp e
    obtain ⟨rfl, rfl, _, _, vs, h, t⟩ := lstW_ok hS r e1
    exact ⟨_, vs, rfl, .of h, t⟩
  cases w with
  | fls ys =>
    simp only [lisW, Option.some.injEq] at e
    subst e
    obtain ⟨a, vs, rfl, h, t⟩ := r.fls_inv
    exact ⟨a, vs, rfl, h.sq, t⟩
  | _ => exact key e
def dGetW (S : Store) (x y : W) : R W := match dicW S x, keyW y with
  | some (_, kvs), some k => (match valW kvs k with
    | some w => .ok w S
    | none => .bad)
  | _, _ => .bad
def dDGet (da db : DE) : DE := fun env S => (da env S).bind fun x S1 => (db env S1).bind fun y S2 => dGetW S2 x y
theorem se_dget {a b : Expr} {da db : DE} (hu : X.A.units + 1 < cLine) (ha : SE X cur a da) (hb : SE X cur b db) (hs : NoSl b := by exact fun _ _ => rfl) : SE X cur (.Subscript a b pos) (dDGet da db) := ⟨fun E tk => PE.imp (pe_dget hu (ha.pe E tk) (hb.pe E tk) hs) fun σ H Q ⟨ρ, env, S, hE, hS, p⟩ =>
  (bindE hE hS p).mono fun v H1 ⟨ρ1, S1, w, rs1, re1, rw1, f1, _, p1⟩ => (bindE re1 rs1 p1).mono fun y H2 ⟨ρ2, S2, w2, rs2, re2, rw2, f2, _, p2⟩ => by
    have rw1' := f2.rw rs1 rw1
    unfold dGetW at p2
    split at p2
    · rename_i n kvs k e1 e
      split at p2
      · rename_i u e2
        obtain ⟨rfl, rfl, _, _, gs, hg, tg⟩ := dicW_ok rs2 rw1' e1
        obtain ⟨v', e3, rv⟩ := tg.val k e2
        refine ⟨_, v', rfl, ?_, p2.same rs2 rv⟩
        rw [keyW_ok rw2 e, ← e3]
        exact DGet.k hg
      · exact p2.elim
    · exact p2.elim⟩
/-! ### slices -/
structure SO (X : Cx) (cur : Option Cur) (e : Option Expr) (d : Env → Store → R (Option Int)) : Prop where
  po : ∀ E : WX, Takes X E → PO X e (fun σ H Q => ∃ ρ env S, RE (cn X) cur ρ S.length H env σ ∧ RS (cn X) ρ H S ∧ match d env S with
    | .ok o S' => ∀ ρ' H', Fut (cn X) ρ H S ρ' H' S' → Q o H'
    | .exc k fs S' => ∀ ρ' cv dd H', Fut (cn X) ρ H S ρ' H' S' → ExcAt (cn X) ρ' S'.length H' k fs cv dd → E cv dd σ H'
    | .bad => False)
def dPart (d : DE) : Env → Store → R (Option Int) := fun env S => (d env S).bind fun w S1 => match w with
  | .int i => .ok (some i) S1
  | _ => .bad
def dNoPart : Env → Store → R (Option Int) := fun _ S => .ok none S
theorem so_none : SO X cur none dNoPart := ⟨fun E tk => ⟨fun pins s σ H Q I ⟨ρ, env, S, hE, hS, p⟩ => po_none.run pins s σ H Q I (p ρ H (Fut.refl hS))⟩⟩
theorem so_some {e : Expr} {d : DE} (h : SE X cur e d) : SO X cur (some e) (dPart d) := ⟨fun E tk => ⟨fun pins s σ H Q I ⟨ρ, env, S, hE, hS, p⟩ => (po_some (h.pe E tk)).run pins s σ H Q I (by
  refine ⟨ρ, env, S, hE, hS, ?_⟩
  unfold dPart at p
  cases e : d env S with
  | ok w S1 =>
    rw [e] at p
    simp only [R.bind_ok] at p
    intro ρ' v H' f r
    split at p
    · rename_i w' o S' q
      split at q
      · rename_i i
        cases q
        exact ⟨i, r.int_inv, p ρ' H' f⟩
      · cases q
    · rename_i q
      split at q <;> cases q
    · exact p.elim
  | exc k fs S1 => rw [e] at p; exact p
  | bad => rw [e] at p; exact p)⟩⟩
def cutW {α : Type} (xs : List α) (lo hi : Option Int) : List α := (xs.drop (HT.sIx xs.length 0 lo)).take (HT.sIx xs.length xs.length hi - HT.sIx xs.length 0 lo)
theorem RWs.cut {c : Cn} {ρ : Nat → Addr} {n : Nat} {H : Hp} {ws : List W} {vs : List V} (r : RWs c ρ n H ws vs) (lo hi : Option Int) : RWs c ρ n H (cutW ws lo hi) (cutV vs lo hi) := by
  unfold cutW cutV
  rw [r.length]
  exact (r.drop _).take _
def sliceW (x : W) (lo hi : Option Int) (S : Store) : R W := match x with
  | .str z => if z.length ≤ sizeLine then .ok (.str (cutS z lo hi)) S else .bad
  | .tup xs => .ok (.tup (cutW xs lo hi)) S
  | x => match lisW S x with
    | some xs => .ok (.ref S.length) (S ++ [.lst (cutW xs lo hi)])
    | none => .bad
def dSlice (d : DE) (dl dh : Env → Store → R (Option Int)) : DE := fun env S => (d env S).bind fun x S1 => (dl env S1).bind fun lo S2 => (dh env S2).bind fun hi S3 => sliceW x lo hi S3
theorem cutV_all {xs : List V} {lo hi : Option Int} (h1 : HT.sIx xs.length 0 lo = 0) (h2 : HT.sIx xs.length xs.length hi = xs.length) : cutV xs lo hi = xs := by
  unfold cutV
  rw [h1, h2]; simp
theorem slice_of {x : V} {w : W} {lo hi : Option Int} {H : Hp} {Q : VK} {E : XK} {ρ : Nat → Addr} {S : Store} (hS : RS (cn X) ρ H S) (rx : RW (cn X) ρ S.length H w x) (p : Post (cn X) ρ H S (sliceW w lo hi S) Q E) :
    ∃ r : V → Option Int → Option Int → Hp → VK → Prop, SlR X r ∧ r x lo hi H Q := by
  unfold sliceW at p
  split at p
  · split at p
    · rename_i z hz
      rw [rx.str_inv]
      exact ⟨_, sl_str, _, rfl, hz, p.same hS (.str _)⟩
    · exact p.elim
  · rename_i xs
    obtain ⟨a, vs, rfl, h, t⟩ := rx.tup_inv
    refine ⟨_, sl_tupA, a, vs, rfl, h, fun ⟨z1, z2⟩ => ?_, fun _ => p.newT hS (t.cut lo hi)⟩
    refine p.same hS (.tup (vs := cutV vs lo hi) ?_ (t.cut lo hi))
    rw [cutV_all z1 z2]; exact h
  · split at p
    · rename_i xs e
      obtain ⟨a, vs, rfl, h, t⟩ := lisW_ok hS rx e
      exact ⟨_, sl_list, a, vs, rfl, h, p.newL hS (t.cut lo hi)⟩
    · exact p.elim
def rOfS (X : Cx) : V → Option Int → Option Int → Hp → VK → Prop := fun x lo hi H Q => ∃ r : V → Option Int → Option Int → Hp → VK → Prop, SlR X r ∧ r x lo hi H Q
theorem slR_of : SlR X (rOfS X) := fun pins s σ H x v vl vu lo hi sl Q I rx hs pl pu ⟨r, h1, h2⟩ => h1 pins s σ H x v vl vu lo hi sl Q I rx hs pl pu h2
theorem bindO {c : Cn} {ρ : Nat → Addr} {H : Hp} {S : Store} {σ : L2.St} {env : Env} {d : Env → Store → R (Option Int)} {f : Option Int → Store → R W} {Q : VK} {E : WX} {Q' : Option Int → Hp → Prop} (hE : RE c cur ρ S.length H env σ) (hS : RS c ρ H S) (p : Post c ρ H S ((d env S).bind f) Q (fun cv dd H' => E cv dd σ H'))
    (h : ∀ o H1 ρ1 S1, RS c ρ1 H1 S1 → RE c cur ρ1 S1.length H1 env σ → Fut c ρ H S ρ1 H1 S1 → Post c ρ1 H1 S1 (f o S1) Q (fun cv dd H' => E cv dd σ H') → Q' o H1) :
    ∃ ρ env S, RE c cur ρ S.length H env σ ∧ RS c ρ H S ∧ match d env S with
    | .ok o S' => ∀ ρ' H', Fut c ρ H S ρ' H' S' → Q' o H'
    | .exc k fs S' => ∀ ρ' cv dd H', Fut c ρ H S ρ' H' S' → ExcAt c ρ' S'.length H' k fs cv dd → E cv dd σ H'
    | .bad => False := by
  refine ⟨ρ, env, S, hE, hS, ?_⟩
  cases e : d env S with
  | ok o S1 =>
    rw [e] at p
    exact fun ρ' H' f' => h o H' ρ' S1 f'.rs (f'.re hS hE) f' (Post.fut hS f' p)
  | exc k fs S1 => rw [e] at p; exact p
  | bad => rw [e] at p; exact p
theorem se_slice {e : Expr} {lo hi : Option Expr} {d : DE} {dl dh : Env → Store → R (Option Int)} {p2 : Pos} (h : SE X cur e d) (hl : SO X cur lo dl) (hh : SO X cur hi dh) : SE X cur (.Subscript e (.Slice lo hi none p2) pos) (dSlice d dl dh) := ⟨fun E tk =>
  PE.imp (pe_slice slR_of (h.pe E tk) (hl.po E tk) (hh.po E tk)) fun σ H Q ⟨ρ, env, S, hE, hS, p⟩ =>
    (bindE hE hS p).mono fun v H1 ⟨ρ1, S1, w, rs1, re1, rw1, f1, _, p1⟩ => bindO re1 rs1 p1 fun o H2 ρ2 S2 rs2 re2 f2 p2 => bindO re2 rs2 p2 fun o' H3 ρ3 S3 rs3 re3 f3 p3 =>
      slice_of rs3 (f3.rw rs2 (f2.rw rs1 rw1)) p3⟩
end

/-! ### calls of built-ins -/
section
variable {X : Cx} {cur : Option Cur} {pos p : Pos}
def NoXL (g : List W → Store → R W) : Prop := ∀ ws S k fs S', g ws S ≠ .exc k fs S'
def CallS (X : Cx) (f : Value) (g : List W → Store → R W) : Prop :=
  ∀ (vs : List V) (H : Hp) (Q : VK) (ρ : Nat → Addr) (S : Store) (ws : List W) (w : W) (S' : Store), RS (cn X) ρ H S → RWs (cn X) ρ S.length H ws vs → g ws S = .ok w S' →
    (∀ ρ' v H', Fut (cn X) ρ H S ρ' H' S' → RW (cn X) ρ' S'.length H' w v → Q v H') → ∃ r : List V → Hp → VK → Prop, CallR X f r ∧ r vs H Q
def rOfC (X : Cx) (f : Value) : List V → Hp → VK → Prop := fun vs H Q => ∃ r : List V → Hp → VK → Prop, CallR X f r ∧ r vs H Q
theorem callR_of {f : Value} : CallR X f (rOfC X f) := fun pins s σ H xs us Q I rx ⟨r, h1, h2⟩ => h1 pins s σ H xs us Q I rx h2
def dCall (g : List W → Store → R W) (da : DA) : DE := fun env S => (da env S).bind g
theorem call_of {f : Value} {g : List W → Store → R W} (hc : CallS X f g) (hn : NoXL g) {vs : List V} {ws : List W} {H : Hp} {Q : VK} {E : XK} {ρ : Nat → Addr} {S : Store} (hS : RS (cn X) ρ H S) (r : RWs (cn X) ρ S.length H ws vs) (p : Post (cn X) ρ H S (g ws S) Q E) : rOfC X f vs H Q := by
  cases e : g ws S with
  | ok w S' => rw [e] at p; exact hc vs H Q ρ S ws w S' hS r e p
  | exc k fs S' => exact absurd e (hn _ _ _ _ _)
  | bad => rw [e] at p; exact p.elim
theorem se_callB {id : String} {x : Str} {g : List W → Store → R W} {da : DA} {e : Expr} {es : List Expr} (hc : CallS X (.builtin id) g) (hn : NoXL g) (ha : SA X cur (e :: es) da) (hm : X.mg x = none) (hv : bootBuiltins x = some (.builtin id)) (hg : Gl X x := by rfl) (hnn : x ≠ "__name__" := by decide) (hdb : (x == ("__debug__" : Str)) = false := by decide)
    (he : starEach (e :: es) X.env = (false, eval e X.env) :: starEach es X.env := by rfl) (hpl : (backTo pos (starEach es X.env)).any (·.1) = false := by rfl) : SE X cur (.Call (.Name x p) (e :: es) [] pos) (dCall g da) := ⟨fun E tk =>
  PE.imp (pe_callB callR_of hg hm hv (ha.pa E tk) hnn hdb he hpl) fun σ H Q ⟨ρ, env, S, hE, hS, p⟩ => (bindA hE hS p).mono fun vs H1 ⟨ρ1, S1, ws, rs1, re1, rw1, f1, p1⟩ => call_of hc hn rs1 rw1 p1⟩
theorem se_callTy {T : String} {x : Str} {g : List W → Store → R W} {da : DA} {e : Expr} {es : List Expr} (hc : CallS X (.type T) g) (hn : NoXL g) (ha : SA X cur (e :: es) da) (hm : X.mg x = none) (hv : bootBuiltins x = some (.type T)) (hg : Gl X x := by rfl) (hnn : x ≠ "__name__" := by decide) (hdb : (x == ("__debug__" : Str)) = false := by decide)
    (he : starEach (e :: es) X.env = (false, eval e X.env) :: starEach es X.env := by rfl) (hpl : (backTo pos (starEach es X.env)).any (·.1) = false := by rfl) : SE X cur (.Call (.Name x p) (e :: es) [] pos) (dCall g da) := ⟨fun E tk =>
  PE.imp (pe_callTy callR_of hg hm hv (ha.pa E tk) hnn hdb he hpl) fun σ H Q ⟨ρ, env, S, hE, hS, p⟩ => (bindA hE hS p).mono fun vs H1 ⟨ρ1, S1, ws, rs1, re1, rw1, f1, p1⟩ => call_of hc hn rs1 rw1 p1⟩
theorem RWs.one {c : Cn} {ρ : Nat → Addr} {n : Nat} {H : Hp} {w : W} {vs : List V} (r : RWs c ρ n H [w] vs) : ∃ v, vs = [v] ∧ RW c ρ n H w v := by
  cases r with
  | cons r t => cases t; exact ⟨_, rfl, r⟩
theorem RWs.two {c : Cn} {ρ : Nat → Addr} {n : Nat} {H : Hp} {w w' : W} {vs : List V} (r : RWs c ρ n H [w, w'] vs) : ∃ v v', vs = [v, v'] ∧ RW c ρ n H w v ∧ RW c ρ n H w' v' := by
  cases r with
  | cons r t => obtain ⟨v, rfl, h⟩ := t.one; exact ⟨_, _, rfl, r, h⟩
/-! len -/
def lenW (S : Store) : W → Option Int
  | .str x => if x.length ≤ sizeLine then some x.length else none
  | w => match dicW S w with
    | some (_, kvs) => some kvs.length
    | none => (seqW S w).map fun xs => (xs.length : Int)
def gLen : List W → Store → R W := fun ws S => match ws with
  | [w] => (match lenW S w with
    | some n => .ok (.int n) S
    | none => .bad)
  | _ => .bad
theorem nx_len : NoXL gLen := by
  intro ws S k fs S' h
  unfold gLen at h
  repeat' (first | (cases h; done) | split at h)
theorem cs_len : CallS X (.builtin "len") gLen := by
  intro vs H Q ρ S ws w S' hS r e q
  unfold gLen at e
  split at e
  · rename_i x
    obtain ⟨v, rfl, rx⟩ := r.one
    split at e
    · rename_i n e1
      cases e
      have key : ∀ (x : W), RW (cn X) ρ S.length H x v → (match dicW S x with | some (_, kvs) => some (kvs.length : Int) | none => (seqW S x).map fun xs => (xs.length : Int)) = some n → ∃ r : List V → Hp → VK → Prop, CallR X (.builtin "len") r ∧ r [v] H Q := fun x rx e1 => by
        split at e1
        · rename_i m kvs e2
          cases e1
          obtain ⟨rfl, rfl, _, _, gs, hg, t1, t2⟩ := dicW_ok hS rx e2
          have hl : gs.length = kvs.length := by simpa using congrArg List.length t1
          refine ⟨_, call_lenD, _, gs, rfl, hg, ?_⟩
          rw [hl]
          exact same0 hS q (.int _)
        · obtain ⟨xs, e2, rfl⟩ := Option.map_eq_some_iff.mp e1
          obtain ⟨a, us, rfl, h, t⟩ := seqW_ok hS rx e2
          refine ⟨_, call_len_seq, a, us, rfl, h, ?_⟩
          rw [← t.length]
          exact same0 hS q (.int _)
      cases x with
      | str z =>
        simp only [lenW] at e1
        split at e1
        · rename_i hz
          cases e1
          rw [rx.str_inv]
          exact ⟨_, call_len_str, z, rfl, hz, same0 hS q (.int _)⟩
        · cases e1
      | _ => exact key _ rx e1
    · cases e
  · cases e
/-! int(x) of an int or a truth value; list(x), tuple(x) of a list or tuple -/
def gInt : List W → Store → R W := fun ws S => match ws with
  | [.int i] => .ok (.int i) S
  | [.bl k] => .ok (.int (if k then 1 else 0)) S
  | _ => .bad
theorem nx_int : NoXL gInt := by
  intro ws S k fs S' h
  unfold gInt at h
  split at h <;> cases h
theorem cs_int : CallS X (.type "int") gInt := by
  intro vs H Q ρ S ws w S' hS r e q
  unfold gInt at e
  split at e
  · cases e
    obtain ⟨v, rfl, rx⟩ := r.one
    rw [rx.int_inv]
    exact ⟨_, call_int1, .inl ⟨_, rfl, same0 hS q (.int _)⟩⟩
  · cases e
    obtain ⟨v, rfl, rx⟩ := r.one
    rw [rx.bl_inv]
    exact ⟨_, call_int1, .inr ⟨_, rfl, same0 hS q (.int _)⟩⟩
  · cases e
def gList : List W → Store → R W := fun ws S => match ws with
  | [x] => (match seqW S x with
    | some xs => .ok (.ref S.length) (S ++ [.lst xs])
    | none => .bad)
  | _ => .bad
theorem nx_list : NoXL gList := by
  intro ws S k fs S' h
  unfold gList at h
  repeat' (first | (cases h; done) | split at h)
theorem new0 {c : Cn} {ρ : Nat → Addr} {H : Hp} {S : Store} {Q : VK} {ws : List W} {vs : List V} (hS : RS c ρ H S) (t : RWs c ρ S.length H ws vs) (p : ∀ ρ' v H', Fut c ρ H S ρ' H' (S ++ [.lst ws]) → RW c ρ' (S ++ [Cell.lst ws]).length H' (.ref S.length) v → Q v H') : ∀ a, H a = none → Q (.ref a) (upd H a (.lst vs)) :=
  Post.newL (E := fun _ _ _ => False) hS t p
theorem newT0 {c : Cn} {ρ : Nat → Addr} {H : Hp} {S : Store} {Q : VK} {ws : List W} {vs : List V} (hS : RS c ρ H S) (t : RWs c ρ S.length H ws vs) (p : ∀ ρ' v H', Fut c ρ H S ρ' H' S → RW c ρ' S.length H' (.tup ws) v → Q v H') : ∀ a, H a = none → Q (.ref a) (upd H a (.tup vs)) :=
  Post.newT (E := fun _ _ _ => False) hS t p
theorem cs_list : CallS X (.type "list") gList := by
  intro vs H Q ρ S ws w S' hS r e q
  unfold gList at e
  split at e
  · obtain ⟨v, rfl, rx⟩ := r.one
    split at e
    · rename_i xs e1
      cases e
      obtain ⟨a, us, rfl, h, t⟩ := seqW_ok hS rx e1
      exact ⟨_, call_list_of, a, us, rfl, h, new0 hS t q⟩
    · cases e
  · cases e
def gTuple : List W → Store → R W := fun ws S => match ws with
  | [x] => (match seqW S x with
    | some xs => .ok (.tup xs) S
    | none => .bad)
  | _ => .bad
theorem nx_tuple : NoXL gTuple := by
  intro ws S k fs S' h
  unfold gTuple at h
  repeat' (first | (cases h; done) | split at h)
theorem cs_tuple : CallS X (.type "tuple") gTuple := by
  intro vs H Q ρ S ws w S' hS r e q
  unfold gTuple at e
  split at e
  · obtain ⟨v, rfl, rx⟩ := r.one
    split at e
    · rename_i xs e1
      cases e
      obtain ⟨a, us, rfl, h, t⟩ := seqW_ok hS rx e1
      rcases h with h | h
      · exact ⟨_, call_tuple_of, a, us, rfl, .inl ⟨h, newT0 hS t q⟩⟩
      · exact ⟨_, call_tuple_of, a, us, rfl, .inr ⟨h, same0 hS q (.tup h t)⟩⟩
    · cases e
  · cases e
/-! str(n) -/
def gStrI : List W → Store → R W := fun ws S => match ws with
  | [.int i] => if i.natAbs.log2 < 1920 then .ok (.str (Str.ofString (toString i))) S else .bad
  | _ => .bad
theorem nx_strI : NoXL gStrI := by
  intro ws S k fs S' h
  unfold gStrI at h
  repeat' (first | (cases h; done) | split at h)
theorem cs_strI : CallS X (.type "str") gStrI := by
  intro vs H Q ρ S ws w S' hS r e q
  unfold gStrI at e
  split at e
  · split at e
    · rename_i hz
      cases e
      obtain ⟨v, rfl, rx⟩ := r.one
      rw [rx.int_inv]
      exact ⟨_, call_str_int, _, rfl, hz, same0 hS q (.str _)⟩
    · cases e
  · cases e
end
end Dn

set_option maxHeartbeats 2000000
/-! Dn6: fields, isinstance, dict displays, methods of built-ins -/
namespace Dn
open PySem PySem.Spec PyProof.Rows L2
/-! ### fields -/
theorem RF.look {c : Cn} {ρ : Nat → Addr} {n : Nat} {H : Hp} (f : Str) : ∀ {fs : List (Str × W)} {gs : List (Str × V)} {w : W}, RF c ρ n H fs gs → fs.lookup f = some w → ∃ v, gs.lookup f = some v ∧ RW c ρ n H w v
  | [], gs, w, _, e => by cases e
  | (k, x) :: fs, gs, w, ⟨h1, h2⟩, e => by
    cases gs with
    | nil => simp at h1
    | cons g gs =>
      obtain ⟨k', y⟩ := g
      simp only [List.map_cons, List.cons.injEq] at h1 h2
      obtain ⟨h0, h1⟩ := h1
      subst h0
      cases h2 with
      | cons r t =>
        rw [List.lookup_cons] at e ⊢
        split at e
        · cases e; exact ⟨y, rfl, r⟩
        · exact RF.look f ⟨h1, t⟩ e
theorem RF.lookN {c : Cn} {ρ : Nat → Addr} {n : Nat} {H : Hp} (f : Str) : ∀ {fs : List (Str × W)} {gs : List (Str × V)}, RF c ρ n H fs gs → fs.lookup f = none → gs.lookup f = none
  | [], gs, ⟨h1, _⟩, e => by cases gs with | nil => rfl | cons g gs => simp at h1
  | (k, x) :: fs, gs, ⟨h1, h2⟩, e => by
    cases gs with
    | nil => rfl
    | cons g gs =>
      obtain ⟨k', y⟩ := g
      simp only [List.map_cons, List.cons.injEq] at h1 h2
      obtain ⟨h0, h1⟩ := h1
      subst h0
      cases h2 with
      | cons r t =>
        rw [List.lookup_cons] at e ⊢
        split at e
        · cases e
        · exact RF.lookN f ⟨h1, t⟩ e
theorem RF.length {c : Cn} {ρ : Nat → Addr} {n : Nat} {H : Hp} {fs : List (Str × W)} {gs : List (Str × V)} (h : RF c ρ n H fs gs) : gs.length = fs.length := by simpa using congrArg List.length h.1
/-- a field is stored -/
def putW (f : Str) (w : W) : List (Str × W) → List (Str × W)
  | [] => [(f, w)]
  | (k, v) :: r => if k = f then (k, w) :: r else (k, v) :: putW f w r
section
variable {X : Cx} {cur : Option Cur} {pos : Pos}
/-- these classes' objects are plain, f is no name of theirs -/
def FK (X : Cx) (ks : List Str) (f : Str) : Prop := ∀ k, k ∈ ks → ∀ C, X.mg k = some (.ref C) → Cls X.K C ∧ NoAttr X.K C f
def fldW (ks : List Str) (f : Str) (S : Store) (w : W) : R W := match insW S w with
  | some (_, k, fs) => if k ∈ ks then (match fs.lookup f with
    | some v => .ok v S
    | none => .bad) else .bad
  | none => .bad
def dFld (ks : List Str) (f : Str) (d : DE) : DE := fun env S => (d env S).bind fun w S1 => fldW ks f S1 w
theorem se_fld {ks : List Str} {f : Str} {e : Expr} {d : DE} (hk : FK X ks f) (h : SE X cur e d) (hb : attributeBase e f X.env (eval e X.env) = eval e X.env := by rfl) : SE X cur (.Attribute e f pos) (dFld ks f d) := ⟨fun E tk =>
  PE.imp (pe_fld (h.pe E tk) hb) fun σ H Q ⟨ρ, env, S, hE, hS, p⟩ => (bindE hE hS p).mono fun v H1 ⟨ρ1, S1, w, rs1, re1, rw1, f1, _, p1⟩ => by
    unfold fldW at p1
    split at p1
    · rename_i n k fs e1
      split at p1
      · rename_i hm
        split at p1
        · rename_i u e2
          obtain ⟨rfl, rfl, _, _, C, dx, gs, hC, hg, tg⟩ := insW_ok rs1 rw1 e1
          obtain ⟨v', e3, rv⟩ := tg.look f e2
          obtain ⟨c1, c2⟩ := hk k hm C hC
          exact ⟨_, C, dx, gs, v', rfl, hg, c1, c2, e3, p1.same rs1 rv⟩
        · exact p1.elim
      · exact p1.elim
    · exact p1.elim⟩
/-! ### isinstance -/
def tyW (S : Store) : W → Option (String ⊕ Str)
  | .non => some (.inl "NoneType")
  | .bl _ => some (.inl "bool")
  | .int _ => some (.inl "int")
  | .str _ => some (.inl "str")
  | .tup _ => some (.inl "tuple")
  | .fls _ => some (.inl "list")
  | .ref n => match S[n]? with
    | some (.lst _) => some (.inl "list")
    | some (.dic _) => some (.inl "dict")
    | some (.ins k _) => some (.inr k)
    | none => none
  | .lam _ _ _ _ _ => none
/-- an own class whose objects isinstance asks rightly -/
structure InsF (K : PySem.W.Frag) (C : Addr) : Prop where
  cl : Cls K C
  ha : PySem.W.findIn K (.ref C) "__class__" = some (some (.builtin "object.__class__"))
  hn : PySem.W.specialIn K (.builtin "object.__class__") "__get__" = some (some (.builtin "getset_descriptor.__get__"))
  htk : PySem.W.takesIn K (.builtin "object.__class__") = some true
  hm : PySem.W.mroIn K C (.type "object") = some true
theorem tyW_ok {c : Cn} {ρ : Nat → Addr} {H : Hp} {S : Store} {w : W} {v : V} {t : String ⊕ Str} (hS : RS c ρ H S) (r : RW c ρ S.length H w v) (e : tyW S w = some t) :
    match t with
    | .inl T => TyX c.K H v (.type T)
    | .inr k => ∃ C, c.mg k = some (.ref C) ∧ (InsF c.K C → TyX c.K H v (.ref C)) := by
  cases w with
  | non => cases e; cases r; exact .base .non
  | bl b => cases e; cases r; exact .base (.bl _)
  | int i => cases e; cases r; exact .base (.int _)
  | str x => cases e; cases r; exact .base (.str _)
  | tup xs =>
    cases e
    obtain ⟨a, vs, rfl, h, _⟩ := r.tup_inv
    rcases h with (h | ⟨o, h⟩) | ⟨o, _, _, h1, h2, _⟩
    · exact .base (.tup h)
    · exact .fTuple h
    · exact .kTuple h1 h2
  | fls xs =>
    cases e
    obtain ⟨a, vs, rfl, h, _⟩ := r.fls_inv
    rcases h with ⟨o, h⟩ | ⟨o, _, _, h1, h2, _⟩
    · exact .base (.frz h)
    · exact .kList h1 h2
  | ref n =>
    obtain ⟨rfl, _⟩ := r.ref_inv
    simp only [tyW] at e
    split at e
    · rename_i e1; cases e
      obtain ⟨vs, h, _⟩ := hS.lst e1
      exact .base (.lst h)
    · rename_i e1; cases e
      obtain ⟨gs, h, _⟩ := hS.dic e1
      exact .base (.dK h)
    · rename_i e1; cases e
      obtain ⟨C, dx, gs, hC, h, _⟩ := hS.ins e1
      exact ⟨C, hC, fun f => .base (.ins h f.cl f.ha f.hn f.htk f.hm)⟩
    · cases e
  | lam f c q vs ws => simp [tyW] at e
def isiB (t T : String) : Bool := t == T || (t == "bool" && T == "int")
def tys : List String := ["NoneType", "bool", "int", "str", "tuple", "list", "dict"]
theorem isiB_ok : ∀ t ∈ tys, ∀ T ∈ tys.tail, kitB t T = some (isiB t T) := by decide +kernel
theorem tyW_mem {S : Store} {w : W} {T : String} (e : tyW S w = some (.inl T)) : T ∈ tys := by
  cases w <;> simp only [tyW] at e
  case ref n => split at e <;> cases e <;> decide
  all_goals first | (cases e; decide) | cases e
/-- one class -/
def isiW (T : String) (own : List (Str × Bool)) (S : Store) (w : W) : R W := match tyW S w with
  | some (.inl t) => .ok (.bl (isiB t T)) S
  | some (.inr k) => (match own.lookup k with
    | some b => .ok (.bl b) S
    | none => .bad)
  | none => .bad
def dIsi (T : String) (own : List (Str × Bool)) (d : DE) : DE := fun env S => (d env S).bind fun w S1 => isiW T own S1 w
def OwnIs (X : Cx) (u : Value) (own : List (Str × Bool)) : Prop := ∀ k b, own.lookup k = some b → ∀ C, X.mg k = some (.ref C) → InsF X.K C ∧ PySem.W.kitOne X.K (.ref C) u = some b
theorem ownIs_nil {u : Value} : OwnIs X u [] := fun _ _ h => by cases h
theorem se_isi {T : String} {own : List (Str × Bool)} {a : Expr} {da : DE} {x : Str} {p p2 : Pos} (hT : T ∈ tys.tail) (ho : OwnIs X (.type T) own) (ha : SE X cur a da) (hi : X.mg "isinstance" = none) (hm : X.mg x = none) (hv : bootBuiltins x = some (.type T)) (hg : Gl X "isinstance" := by rfl) (hgx : Gl X x := by rfl) (hn : x ≠ "__name__" := by decide) (hd : (x == ("__debug__" : Str)) = false := by decide)
    (he : starEach (a :: [.Name x p2]) X.env = (false, eval a X.env) :: starEach [.Name x p2] X.env := by rfl) : SE X cur (.Call (.Name "isinstance" p) [a, .Name x p2] [] pos) (dIsi T own da) := ⟨fun E tk =>
  PE.imp (pe_callB call_isi hg hi (by decide +kernel) (pa_cons (ha.pe E tk) (pa_cons (pe_bltn (v := .ty T) hgx hm hv rfl hn hd) pa_nil) he) (by decide) (by decide) he rfl) fun σ H Q ⟨ρ, env, S, hE, hS, p⟩ =>
    (bindE hE hS p).mono fun v H1 ⟨ρ1, S1, w, rs1, re1, rw1, f1, _, p1⟩ => by
      unfold isiW at p1
      split at p1
      · rename_i t e
        have h := tyW_ok rs1 rw1 e
        exact ⟨v, .ty T, _, _, _, rfl, .ty T, h, kit_ty (isiB_ok t (tyW_mem e) T hT), p1.same rs1 (.bl _)⟩
      · rename_i k e
        split at p1
        · rename_i b e2
          obtain ⟨C, hC, h⟩ := tyW_ok rs1 rw1 e
          obtain ⟨h1, h2⟩ := ho k b e2 C hC
          exact ⟨v, .ty T, _, _, _, rfl, .ty T, h h1, h2, p1.same rs1 (.bl _)⟩
        · exact p1.elim
      · exact p1.elim⟩
/-! ### methods of built-ins -/
def NoXM (g : W → List W → Store → R W) : Prop := ∀ w ws S k fs S', g w ws S ≠ .exc k fs S'
def MethS (X : Cx) (id : String) (g : W → List W → Store → R W) : Prop :=
  ∀ (v : V) (vs : List V) (H : Hp) (Q : VK) (ρ : Nat → Addr) (S : Store) (x : W) (ws : List W) (w : W) (S' : Store), RS (cn X) ρ H S → RW (cn X) ρ S.length H x v → RWs (cn X) ρ S.length H ws vs → g x ws S = .ok w S' →
    (∀ ρ' v H', Fut (cn X) ρ H S ρ' H' S' → RW (cn X) ρ' S'.length H' w v → Q v H') → ∃ r : V → List V → Hp → VK → Prop, MtR X id r ∧ r v vs H Q
def rOfM (X : Cx) (id : String) : V → List V → Hp → VK → Prop := fun v vs H Q => ∃ r : V → List V → Hp → VK → Prop, MtR X id r ∧ r v vs H Q
theorem mtR_of {id : String} : MtR X id (rOfM X id) := fun pins s σ H x xs v us Q I rx r ⟨q, h1, h2⟩ => h1 pins s σ H x xs v us Q I rx r h2
theorem meth_of {id : String} {g : W → List W → Store → R W} (hc : MethS X id g) (hn : NoXM g) {v : V} {x : W} {vs : List V} {ws : List W} {H : Hp} {Q : VK} {E : XK} {ρ : Nat → Addr} {S : Store} (hS : RS (cn X) ρ H S) (rx : RW (cn X) ρ S.length H x v) (r : RWs (cn X) ρ S.length H ws vs) (p : Post (cn X) ρ H S (g x ws S) Q E) : rOfM X id v vs H Q := by
  cases e : g x ws S with
  | ok w S' => rw [e] at p; exact hc v vs H Q ρ S x ws w S' hS rx r e p
  | exc k fs S' => exact absurd e (hn _ _ _ _ _ _)
  | bad => rw [e] at p; exact p.elim
def hasT (T : String) (S : Store) (w : W) : Bool := match w with
  | .str _ => T == "str"
  | w => (T == "list" && (lisW S w).isSome) || (T == "dict" && (dicW S w).isSome)
theorem hasT_ok {c : Cn} {ρ : Nat → Addr} {H : Hp} {S : Store} {w : W} {v : V} {T : String} (hS : RS c ρ H S) (r : RW c ρ S.length H w v) (e : hasT T S w = true) : tyV c.K T v H := by
  have key : ((T == "list" && (lisW S w).isSome) || (T == "dict" && (dicW S w).isSome)) = true → tyV c.K T v H := fun e => by
    rcases Bool.or_eq_true_iff.mp e with e | e
    · obtain ⟨e1, e2⟩ := Bool.and_eq_true_iff.mp e
      obtain ⟨xs, e3⟩ := Option.isSome_iff_exists.mp e2
      obtain ⟨a, vs, rfl, h, _⟩ := lisW_ok hS r e3
      exact .inl ⟨eq_of_beq e1, vs, h⟩
    · obtain ⟨e1, e2⟩ := Bool.and_eq_true_iff.mp e
      obtain ⟨⟨n, kvs⟩, e3⟩ := Option.isSome_iff_exists.mp e2
      obtain ⟨rfl, rfl, _, _, gs, h, _⟩ := dicW_ok hS r e3
      exact .inr (.inr (.inl ⟨eq_of_beq e1, .inl ⟨gs, h⟩⟩))
  cases w with
  | str x => cases r; exact eq_of_beq e
  | _ => exact key e
def dMeth (T : String) (g : W → List W → Store → R W) (d : DE) (da : DA) : DE := fun env S => (d env S).bind fun x S1 => if hasT T S1 x = true then (da env S1).bind fun xs S2 => g x xs S2 else .bad
theorem se_bm {T id : String} {name : Str} {g : W → List W → Store → R W} {o e : Expr} {es : List Expr} {d : DE} {da : DA} {apos : Pos} (pa : PlainAttrs T) (slot : Slot T name id) (hty : typeOf (.builtin id) = pure (.type "method_descriptor")) (hc : MethS X id g) (hn : NoXM g) (ho : SE X cur o d) (ha : SA X cur (e :: es) da)
    (hbase : attributeBase o name X.env (eval o X.env) = eval o X.env := by rfl)
    (hfew : ((backTo pos (starEach (e :: es) X.env)).all (fun x => !x.1) && (backToKw pos (keywordEach [] X.env)).all (fun x => x.1.isSome)
      && decide ((e :: es).length + ([] : List Keyword).length + (if ([] : List Keyword).isEmpty then 0 else 1) < 30)) = true := by rfl)
    (hline : (apos.endLine == pos.line) = true := by rfl) (hs : starEach (e :: es) X.env = (false, eval e X.env) :: starEach es X.env := by rfl) (hplain : (backTo pos (starEach es X.env)).any (·.1) = false := by rfl) :
    SE X cur (.Call (.Attribute o name apos) (e :: es) [] pos) (dMeth T g d da) := ⟨fun E tk =>
  PE.imp (pe_bm pa slot hty mtR_of (ho.pe E tk) (ha.pa E tk) hbase hfew hline hs hplain) fun σ H Q ⟨ρ, env, S, hE, hS, p⟩ => (bindE hE hS p).mono fun v H1 ⟨ρ1, S1, w, rs1, re1, rw1, f1, _, p1⟩ => by
    split at p1
    · rename_i ht
      refine ⟨hasT_ok rs1 rw1 ht, (bindA re1 rs1 p1).mono fun vs H2 ⟨ρ2, S2, ws, rs2, re2, rw2, f2, p2⟩ => ?_⟩
      exact meth_of hc hn rs2 (f2.rw rs1 rw1) rw2 p2
    · exact p1.elim⟩
theorem se_bm0 {T id : String} {name : Str} {g : W → List W → Store → R W} {o : Expr} {d : DE} {apos : Pos} (pa : PlainAttrs T) (slot : Slot T name id) (hty : typeOf (.builtin id) = pure (.type "method_descriptor")) (hc : MethS X id g) (hn : NoXM g) (ho : SE X cur o d)
    (hbase : attributeBase o name X.env (eval o X.env) = eval o X.env := by rfl) (hline : (apos.endLine == pos.line) = true := by rfl) :
    SE X cur (.Call (.Attribute o name apos) [] [] pos) (dMeth T g d dNil) := ⟨fun E tk =>
  PE.imp (pe_bm0 pa slot hty mtR_of (ho.pe E tk) hbase hline) fun σ H Q ⟨ρ, env, S, hE, hS, p⟩ => (bindE hE hS p).mono fun v H1 ⟨ρ1, S1, w, rs1, re1, rw1, f1, _, p1⟩ => by
    split at p1
    · rename_i ht
      exact ⟨hasT_ok rs1 rw1 ht, meth_of hc hn rs1 rw1 .nil p1⟩
    · exact p1.elim⟩
/-! list methods -/
theorem put0 {c : Cn} {ρ : Nat → Addr} {H : Hp} {S : Store} {Q : VK} {n : Nat} {w : W} {v : V} {ws : List W} {vs : List V} (hS : RS c ρ H S) (hn : n < S.length) (t : RWs c ρ S.length H ws vs) (r : RW c ρ S.length H w v)
    (q : ∀ ρ' v H', Fut c ρ H S ρ' H' (S.set n (.lst ws)) → RW c ρ' (S.set n (.lst ws)).length H' w v → Q v H') : Q v (upd H (ρ n) (.lst vs)) := by
  have f : Fut c ρ H S ρ (upd H (ρ n) (.lst vs)) (S.set n (.lst ws)) := Fut.put hS hn fun k => ⟨vs, upd_same, t.mono (fun _ _ => rfl) (Nat.le_refl _) k⟩
  exact q ρ v _ f (f.rw hS r)
def gAppend : W → List W → Store → R W := fun w ws S => match lstW S w, ws with
  | some (n, xs), [x] => if xs.length < sizeLine then .ok .non (S.set n (.lst (xs ++ [x]))) else .bad
  | _, _ => .bad
theorem nx_append : NoXM gAppend := by
  intro w ws S k fs S' h
  unfold gAppend at h
  repeat' (first | (cases h; done) | split at h)
theorem ms_append : MethS X "list.append" gAppend := by
  intro v vs H Q ρ S w ws u S' hS rx r e q
  unfold gAppend at e
  split at e
  · rename_i n xs x e1
    split at e
    · rename_i hz
      cases e
      obtain ⟨rfl, rfl, hn, _, us, h, t⟩ := lstW_ok hS rx e1
      obtain ⟨y, rfl, ry⟩ := r.one
      exact ⟨_, mt_append, ρ n, us, y, rfl, rfl, h, by rw [← t.length]; exact hz, put0 hS hn (t.append (.cons ry .nil)) .non q⟩
    · cases e
  · cases e
def gExtend : W → List W → Store → R W := fun w ws S => match lstW S w, ws with
  | some (n, xs), [x] => (match lstW S x with
    | some (_, ys) => if xs.length + ys.length ≤ sizeLine then .ok .non (S.set n (.lst (xs ++ ys))) else .bad
    | none => .bad)
  | _, _ => .bad
theorem nx_extend : NoXM gExtend := by
  intro w ws S k fs S' h
  unfold gExtend at h
  repeat' (first | (cases h; done) | split at h)
theorem ms_extend : MethS X "list.extend" gExtend := by
  intro v vs H Q ρ S w ws u S' hS rx r e q
  unfold gExtend at e
  split at e
  · rename_i n xs x e1
    obtain ⟨rfl, rfl, hn, _, us, h, t⟩ := lstW_ok hS rx e1
    obtain ⟨y, rfl, ry⟩ := r.one
    split at e
    · rename_i m ys e2
      obtain ⟨rfl, rfl, _, _, us2, h2, t2⟩ := lstW_ok hS ry e2
      split at e
      · rename_i hz
        cases e
        exact ⟨_, mt_extend, ρ n, ρ m, us, us2, rfl, rfl, h, h2, by rw [← t.length, ← t2.length]; exact hz, put0 hS hn (t.append t2) .non q⟩
      · cases e
    · cases e
  · cases e
theorem RWs.dropLast {c : Cn} {ρ : Nat → Addr} {n : Nat} {H : Hp} {ws : List W} {vs : List V} (r : RWs c ρ n H ws vs) : RWs c ρ n H ws.dropLast vs.dropLast := by
  rw [List.dropLast_eq_take, List.dropLast_eq_take, r.length]
  exact r.take _
def gPop : W → List W → Store → R W := fun w ws S => match lstW S w, ws with
  | some (n, xs), [] => (match xs[xs.length - 1]? with
    | some y => .ok y (S.set n (.lst xs.dropLast))
    | none => .bad)
  | some (n, xs), [.int i] => if -(2 ^ 63) ≤ i ∧ i < 2 ^ 63 then (match seqIndex? i xs.length with
    | some k => (match xs[k]? with
      | some y => .ok y (S.set n (.lst (xs.eraseIdx k)))
      | none => .bad)
    | none => .bad) else .bad
  | _, _ => .bad
theorem nx_pop : NoXM gPop := by
  intro w ws S k fs S' h
  unfold gPop at h
  repeat' (first | (cases h; done) | split at h)
theorem ms_pop : MethS X "list.pop" gPop := by
  intro v vs H Q ρ S w ws u S' hS rx r e q
  unfold gPop at e
  split at e
  · rename_i n xs e1
    obtain ⟨rfl, rfl, hn, _, us, h, t⟩ := lstW_ok hS rx e1
    cases r
    split at e
    · rename_i y e2
      cases e
      obtain ⟨z, e3, rz⟩ := t.get e2
      exact ⟨_, mt_pop, ρ n, us, z, rfl, rfl, h, by rw [← t.length]; exact e3, put0 hS hn t.dropLast rz q⟩
    · cases e
  · rename_i n xs i e1
    obtain ⟨rfl, rfl, hn, _, us, h, t⟩ := lstW_ok hS rx e1
    obtain ⟨y, rfl, ry⟩ := r.one
    rw [ry.int_inv]
    split at e
    · rename_i hz
      split at e
      · rename_i k e2
        split at e
        · rename_i y' e3
          cases e
          obtain ⟨z, e4, rz⟩ := t.get e3
          exact ⟨_, mt_popAt, ρ n, us, i, k, z, rfl, rfl, h, hz.1, hz.2, by rw [← t.length]; exact e2, e4, put0 hS hn (t.eraseIdx k) rz q⟩
        · cases e
      · cases e
    · cases e
  · cases e
/-! texts -/
def strsW : List W → Option (List Str)
  | [] => some []
  | .str x :: r => (strsW r).map (x :: ·)
  | _ :: _ => none
theorem strsW_ok {c : Cn} {ρ : Nat → Addr} {n : Nat} {H : Hp} : ∀ {ws : List W} {vs : List V} {ys : List Str}, RWs c ρ n H ws vs → strsW ws = some ys → vs = ys.map V.str
  | [], vs, ys, r, e => by cases r; simp only [strsW, Option.some.injEq] at e; subst e; rfl
  | w :: ws, vs, ys, r, e => by
    cases w with
    | str x =>
      simp only [strsW, Option.map_eq_some_iff] at e
      obtain ⟨zs, e1, rfl⟩ := e
      cases r with
      | cons r t => rw [r.str_inv, strsW_ok t e1]; rfl
    | _ => simp [strsW] at e
theorem RWs.strs {c : Cn} {ρ : Nat → Addr} {n : Nat} {H : Hp} : ∀ ys : List Str, RWs c ρ n H (ys.map W.str) (ys.map V.str)
  | [] => .nil
  | y :: ys => .cons (.str y) (RWs.strs ys)
def gSplit : W → List W → Store → R W := fun w ws S => match w, ws with
  | .str a, [.str b] => if (b.length == 0) = false ∧ a.length + 2 ≤ sizeLine then .ok (.ref S.length) (S ++ [.lst ((Txt.split a b).map W.str)]) else .bad
  | _, _ => .bad
theorem nx_split : NoXM gSplit := by
  intro w ws S k fs S' h
  unfold gSplit at h
  repeat' (first | (cases h; done) | split at h)
theorem ms_split : MethS X "str.split" gSplit := by
  intro v vs H Q ρ S w ws u S' hS rx r e q
  unfold gSplit at e
  split at e
  · rename_i a b
    split at e
    · rename_i hz
      cases e
      obtain ⟨y, rfl, ry⟩ := r.one
      rw [rx.str_inv, ry.str_inv]
      exact ⟨_, mt_split, a, b, rfl, rfl, hz.1, hz.2, new0 hS (RWs.strs _) q⟩
    · cases e
  · cases e
def gJoin : W → List W → Store → R W := fun w ws S => match w, ws with
  | .str a, [x] => (match seqW S x with
    | some xs => (match strsW xs with
      | some ys => if (ys.map (·.length)).sum + ys.length * a.length ≤ 16777216 then .ok (.str (Txt.join a ys)) S else .bad
      | none => .bad)
    | none => .bad)
  | _, _ => .bad
theorem nx_join : NoXM gJoin := by
  intro w ws S k fs S' h
  unfold gJoin at h
  repeat' (first | (cases h; done) | split at h)
theorem ms_join : MethS X "str.join" gJoin := by
  intro v vs H Q ρ S w ws u S' hS rx r e q
  unfold gJoin at e
  split at e
  · rename_i a x
    obtain ⟨y, rfl, ry⟩ := r.one
    split at e
    · rename_i xs e1
      split at e
      · rename_i ys e2
        split at e
        · rename_i hz
          cases e
          obtain ⟨p, us, rfl, h, t⟩ := seqW_ok hS ry e1
          rw [strsW_ok t e2] at h
          rw [rx.str_inv]
          exact ⟨_, mt_join, a, p, ys, rfl, rfl, h, hz, same0 hS q (.str _)⟩
        · cases e
      · cases e
    · cases e
  · cases e
end
/-! ### dict displays -/
section
variable {X : Cx} {cur : Option Cur} {pos : Pos}
def dPairs : List (DE × DE) → Env → Store → R (List (W × W))
  | [], _, S => .ok [] S
  | (dk, dv) :: r, env, S => (dk env S).bind fun x S1 => (dv env S1).bind fun y S2 => (dPairs r env S2).bind fun ps S3 => .ok ((x, y) :: ps) S3
def putKW (kvs : List (Key × W)) (k : Key) (w : W) : List (Key × W) := if kvs.any (fun p => decide (p.1 = k)) then kvs.map fun p => if p.1 = k then (p.1, w) else p else kvs ++ [(k, w)]

theorem any_fst {α β : Type} [DecidableEq α] (k : α) : ∀ {l : List (α × β)}, (l.any fun p => decide (p.1 = k)) = (l.map (·.1)).any fun x => decide (x = k)
  | [] => rfl
  | p :: l => by rw [List.any_cons, List.map_cons, List.any_cons, any_fst k]
theorem RK.mapP {c : Cn} {ρ : Nat → Addr} {n : Nat} {H : Hp} {k : Key} {w : W} {v : V} (r : RW c ρ n H w v) : ∀ {kvs : List (Key × W)} {gs : List (Key × V)}, RK c ρ n H kvs gs → RK c ρ n H (kvs.map fun p => if p.1 = k then (p.1, w) else p) (gs.map fun p => if p.1 = k then (p.1, v) else p)
  | [], gs, ⟨h1, _⟩ => by cases gs with | nil => exact ⟨rfl, .nil⟩ | cons g gs => simp at h1
  | p :: kvs, gs, ⟨h1, h2⟩ => by
    cases gs with
    | nil => simp at h1
    | cons g gs =>
      simp only [List.map_cons, List.cons.injEq] at h1 h2
      obtain ⟨h0, h1⟩ := h1
      cases h2 with
      | cons q t =>
        obtain ⟨i1, i2⟩ := RK.mapP r (kvs := kvs) (gs := gs) ⟨h1, t⟩
        by_cases e : p.1 = k
        · refine ⟨?_, ?_⟩
          · simp only [List.map_cons, e, h0, if_true]
            rw [i1]
          · simp only [List.map_cons, e, h0, if_true]
            exact .cons r i2
        · refine ⟨?_, ?_⟩
          · simp only [List.map_cons, e, h0, if_false]
            rw [i1]
          · simp only [List.map_cons, e, h0, if_false]
            exact .cons q i2
theorem RK.put {c : Cn} {ρ : Nat → Addr} {n : Nat} {H : Hp} {k : Key} {w : W} {v : V} (r : RW c ρ n H w v) {kvs : List (Key × W)} {gs : List (Key × V)} (h : RK c ρ n H kvs gs) : RK c ρ n H (putKW kvs k w) (putK gs k v) := by
  have e : (gs.any fun kv => decide (kv.1 = k)) = kvs.any fun p => decide (p.1 = k) := by rw [any_fst, any_fst, h.1]
  unfold putKW putK
  rw [e]
  split
  · exact h.mapP r
  · refine ⟨?_, ?_⟩
    · rw [List.map_append, List.map_append, h.1]; rfl
    · rw [List.map_append, List.map_append]; exact h.2.append (.cons r .nil)
theorem RK.mono {c : Cn} {ρ ρ' : Nat → Addr} {n n' : Nat} {H H' : Hp} {kvs : List (Key × W)} {gs : List (Key × V)} (h : RK c ρ n H kvs gs) (hρ : ∀ i, i < n → ρ' i = ρ i) (hn : n ≤ n') (k : Kp c H H') : RK c ρ' n' H' kvs gs := ⟨h.1, h.2.mono hρ hn k⟩
/-- an object that was laid ahead of others -/
theorem Fut.around {c : Cn} {ρ ρ2 : Nat → Addr} {H H2 : Hp} {S S2 : Store} {p : Addr} {o0 o : HO} {x : Cell} (hp : H p = none) (m0 : Mu o0) (hS : RS c ρ H S) (f : Fut c ρ (upd H p o0) S ρ2 H2 S2) (hx : CellOk c (ext ρ2 S2.length p) (S2.length + 1) (upd H2 p o) p x) :
    Fut c ρ H S (ext ρ2 S2.length p) (upd H2 p o) (S2 ++ [x]) := by
  have np0 : ∀ i, i < S.length → ρ i ≠ p := fun i hi z => by
    obtain ⟨u, e, _⟩ := hS.mut hi
    rw [z, hp] at e; cases e
  have e2 : H2 p = some o0 := f.fr.keep upd_same np0 fun ps z => by rw [z] at m0; exact m0
  have np : ∀ i, i < S2.length → ρ2 i ≠ p := fun i hi z => by
    by_cases q : i < S.length
    · exact np0 i q ((f.sm i q).symm.trans z)
    · exact (f.nw i (Nat.not_lt.mp q) hi).mu (by rw [z, upd_same]) m0
  have k : Kp c H2 (upd H2 p o) := by
    have ne : ∀ a u, H2 a = some u → ¬ Mu u → a ≠ p := fun a u e m z => by
      rw [z, e2] at e; cases e; exact m m0
    refine ⟨fun a xs h => ?_, fun a xs h => ?_, fun d fs h => by rw [upd_ne (ne _ _ h fun z => z)]; exact h, fun a q h => by rw [upd_ne (ne _ _ h fun z => z)]; exact h⟩
    · rcases h with (h | ⟨u, h⟩) | h
      · exact .inl (.inl (by rw [upd_ne (ne _ _ h fun z => z)]; exact h))
      · exact .inl (.inr ⟨u, by rw [upd_ne (ne _ _ h fun z => z)]; exact h⟩)
      · exact .inr h
    · rcases h with ⟨u, h⟩ | h
      · exact .inl ⟨u, by rw [upd_ne (ne _ _ h fun z => z)]; exact h⟩
      · exact .inr h
  refine ⟨fun i hi => by rw [ext_lt i (Nat.lt_of_lt_of_le hi f.le)]; exact f.sm i hi, by have := f.le; simp; omega, fun a u e t h => ?_, fun i h1 h2 => ?_, ⟨tabs_upd f.rs.tab (fun u e => by rw [e2] at e; cases e; exact m0), fun i j hi hj e => ?_, fun i y hy => ?_⟩⟩
  · have ha : a ≠ p := fun z => by rw [z, hp] at e; cases e
    rw [upd_ne ha]
    exact f.fr a u (by rw [upd_ne ha]; exact e) t h
  · by_cases q : i < S2.length
    · rw [ext_lt i q]
      have n1 := f.nw i h1 q
      unfold Nt at n1
      rw [upd_ne (np i q)] at n1
      exact n1
    · have : i = S2.length := by simp at h2; omega
      rw [this, ext_at]; exact .of hp
  · rw [List.length_append, List.length_singleton] at hi hj
    by_cases h1 : i = S2.length
    · by_cases h2 : j = S2.length
      · rw [h1, h2]
      · rw [h1, ext_at, ext_lt j (by omega)] at e
        exact absurd e.symm (np j (by omega))
    · by_cases h2 : j = S2.length
      · rw [h2, ext_at, ext_lt i (by omega)] at e
        exact absurd e (np i (by omega))
      · rw [ext_lt i (by omega), ext_lt j (by omega)] at e
        exact f.rs.inj i j (by omega) (by omega) e
  · rw [List.length_append, List.length_singleton]
    by_cases h1 : i < S2.length
    · rw [List.getElem?_append_left h1] at hy
      rw [ext_lt i h1]
      exact (f.rs.cell i y hy).mono (fun j hj => ext_lt j hj) (by omega) k (upd_ne (np i h1))
    · rw [List.getElem?_append_right (by omega)] at hy
      have hi : i = S2.length := by
        have z := (List.getElem?_eq_some_iff.mp hy).1
        simp at z; omega
      subst hi
      rw [Nat.sub_self] at hy
      simp at hy
      subst hy
      rw [ext_at]; exact hx
/-- the heap at an object laid ahead -/
theorem Fut.ahead {c : Cn} {ρ ρ2 : Nat → Addr} {H H2 : Hp} {S S2 : Store} {p : Addr} {o0 : HO} (hp : H p = none) (m0 : Mu o0) (hS : RS c ρ H S) (f : Fut c ρ (upd H p o0) S ρ2 H2 S2) : H2 p = some o0 := f.fr.keep upd_same (fun i hi z => by
  obtain ⟨u, e, _⟩ := hS.mut hi
  rw [z, hp] at e; cases e) fun ps z => by rw [z] at m0; exact m0
def keysW : List (W × W) → Option (List (Key × W))
  | [] => some []
  | (k, v) :: r => match keyW k, keysW r with
    | some a, some b => some ((a, v) :: b)
    | _, _ => none
def mergeW (kvs more : List (Key × W)) : List (Key × W) := more.foldl (fun acc kv => putKW acc kv.1 kv.2) kvs
def dDict (ps : List (DE × DE)) : DE := fun env S => (dPairs ps env S).bind fun qs S1 => match keysW qs with
  | some kvs => if kvs.length ≤ 15 then .ok (.ref S1.length) (S1 ++ [.dic (mergeW [] kvs)]) else .bad
  | none => .bad
structure SPs (X : Cx) (cur : Option Cur) (pos : Pos) (keys : List (Option Expr)) (values : List Expr) (ps : List (DE × DE)) : Prop where
  pp : ∀ E : WX, Takes X E → PPs X pos keys values (ps.map fun p => (tD (cn X) cur p.1 E, tD (cn X) cur p.2 E))
theorem sps_nil : SPs X cur pos [] [] [] := ⟨fun _ _ => pps_nil⟩
theorem sps_cons {k v : Expr} {ks : List (Option Expr)} {vs : List Expr} {dk dv : DE} {ps : List (DE × DE)} (hk : SE X cur k dk) (hv : SE X cur v dv) (hr : SPs X cur pos ks vs ps) : SPs X cur pos (some k :: ks) (v :: vs) ((dk, dv) :: ps) := ⟨fun E tk => pps_cons (hk.pe E tk) (hv.pe E tk) (hr.pp E tk)⟩
inductive RPs (c : Cn) (ρ : Nat → Addr) (n : Nat) (H : Hp) : List (W × W) → List (V × V) → Prop
  | nil : RPs c ρ n H [] []
  | cons {a b : W} {x y : V} {ps : List (W × W)} {qs : List (V × V)} : RW c ρ n H a x → RW c ρ n H b y → RPs c ρ n H ps qs → RPs c ρ n H ((a, b) :: ps) ((x, y) :: qs)
theorem RPs.keys {c : Cn} {ρ : Nat → Addr} {n : Nat} {H : Hp} : ∀ {ps : List (W × W)} {qs : List (V × V)} {kvs : List (Key × W)}, RPs c ρ n H ps qs → keysW ps = some kvs → ∃ gs, qs = gs.map (fun kv => (kV kv.1, kv.2)) ∧ RK c ρ n H kvs gs
  | _, _, kvs, .nil, e => by simp only [keysW, Option.some.injEq] at e; subst e; exact ⟨[], rfl, rfl, .nil⟩
  | _, _, kvs, .cons (y := yv) (ps := ps) (qs := qs) r1 r2 t, e => by
    simp only [keysW] at e
    split at e
    · rename_i k kvs' e1 e2
      cases e
      obtain ⟨gs, rfl, h1, h2⟩ := RPs.keys t e2
      refine ⟨(k, yv) :: gs, by rw [keyW_ok r1 e1]; rfl, by rw [List.map_cons, List.map_cons, h1], by rw [List.map_cons, List.map_cons]; exact .cons r2 h2⟩
    · cases e
theorem RK.merge {c : Cn} {ρ : Nat → Addr} {n : Nat} {H : Hp} : ∀ {more : List (Key × W)} {ms : List (Key × V)} {kvs : List (Key × W)} {gs : List (Key × V)}, RK c ρ n H more ms → RK c ρ n H kvs gs → RK c ρ n H (mergeW kvs more) (mergeK gs ms)
  | [], ms, kvs, gs, ⟨h1, _⟩, h => by cases ms with | nil => exact h | cons g gs => simp at h1
  | p :: more, ms, kvs, gs, ⟨h1, h2⟩, h => by
    cases ms with
    | nil => simp at h1
    | cons m ms =>
      simp only [List.map_cons, List.cons.injEq] at h1 h2
      cases h2 with
      | cons r t =>
        show RK c ρ n H (mergeW (putKW kvs p.1 p.2) more) (mergeK (putK gs m.1 m.2) ms)
        rw [h1.1]
        exact RK.merge ⟨h1.2, t⟩ (h.put r)
theorem pairs_of {E : WX} {σ : L2.St} : ∀ {ps : List (DE × DE)} {ρ : Nat → Addr} {H : Hp} {S : Store} {env : Env} {P : List (V × V) → Hp → Prop} {Er : XK}, RE (cn X) cur ρ S.length H env σ → RS (cn X) ρ H S →
    (match dPairs ps env S with
      | .ok qs S' => ∀ ρ' H' vs, Fut (cn X) ρ H S ρ' H' S' → RPs (cn X) ρ' S'.length H' qs vs → P vs H'
      | .exc k fs S' => ∀ ρ' cv dd H', Fut (cn X) ρ H S ρ' H' S' → ExcAt (cn X) ρ' S'.length H' k fs cv dd → E cv dd σ H'
      | .bad => False) → tPairs (ps.map fun p => (tD (cn X) cur p.1 E, tD (cn X) cur p.2 E)) σ H P
  | [], ρ, H, S, env, P, Er, hE, hS, h => h ρ H [] (Fut.refl hS) .nil
  | (dk, dv) :: ps, ρ, H, S, env, P, Er, hE, hS, h => by
    show tD (cn X) cur dk E σ H fun x H1 => tD (cn X) cur dv E σ H1 fun y H2 => tPairs (ps.map fun p => (tD (cn X) cur p.1 E, tD (cn X) cur p.2 E)) σ H2 fun qs H3 => P ((x, y) :: qs) H3
    unfold dPairs at h
    refine ⟨ρ, env, S, hE, hS, ?_⟩
    cases e1 : dk env S with
    | bad => rw [e1] at h; exact h
    | exc k fs S1 => rw [e1] at h; exact h
    | ok x S1 =>
      rw [e1] at h
      simp only [R.bind_ok] at h
      intro ρ1 v1 H1 f1 r1
      refine ⟨ρ1, env, S1, f1.re hS hE, f1.rs, ?_⟩
      cases e2 : dv env S1 with
      | bad => rw [e2] at h; exact h
      | exc k fs S2 => rw [e2] at h; exact fun ρ' cv dd H' f x => h ρ' cv dd H' (f1.trans hS f) x
      | ok y S2 =>
        rw [e2] at h
        simp only [R.bind_ok] at h
        intro ρ2 v2 H2 f2 r2
        have f12 := f1.trans hS f2
        refine pairs_of (env := env) (Er := Er) (f12.re hS hE) f2.rs ?_
        cases e3 : dPairs ps env S2 with
        | bad => rw [e3] at h; exact h
        | exc k fs S3 => rw [e3] at h; exact fun ρ' cv dd H' f x => h ρ' cv dd H' (f12.trans hS f) x
        | ok qs S3 =>
          rw [e3] at h
          exact fun ρ3 H3 vs f3 r3 => h ρ3 H3 _ (f12.trans hS f3) (.cons (f3.rw f2.rs (f2.rw f1.rs r1)) (f3.rw f2.rs r2) r3)
theorem se_dict {keys : List (Option Expr)} {values : List Expr} {ps : List (DE × DE)} (h : SPs X cur pos keys values ps) (hall : keys.all (·.isSome) = true := by rfl) (hl : keys.length = values.length := by rfl) (h0 : keys ≠ [] := by exact fun z => by cases z) (h15 : keys.length ≤ 15 := by decide) : SE X cur (.Dict keys values pos) (dDict ps) := ⟨fun E tk =>
  PE.imp (pe_disp (h.pp E tk) hall hl h0 h15) fun σ H Q ⟨ρ, env, S, hE, hS, p⟩ => fun a ha => by
    have f0 : Fut (cn X) ρ H S ρ (upd H a (.dK [])) S := Fut.tup hS ha
    refine pairs_of (Er := fun _ _ _ => False) (f0.re hS hE) f0.rs ?_
    unfold dDict at p
    cases e : dPairs ps env S with
    | bad => rw [e] at p; exact p
    | exc k fs S1 => rw [e] at p; exact fun ρ' cv dd H' f x => p ρ' cv dd H' (f0.trans hS f) x
    | ok qs S1 =>
      rw [e] at p
      simp only [R.bind_ok] at p
      intro ρ1 H1 vs f1 r1
      split at p
      · rename_i kvs e2
        split at p
        · rename_i hz
          obtain ⟨gs, rfl, rk⟩ := r1.keys e2
          have hl : gs.length = kvs.length := by simpa using congrArg List.length rk.1
          refine ⟨f1.ahead ha trivial hS, gs, rfl, by rw [hl]; exact hz, ?_⟩
          have rm : RK (cn X) ρ1 S1.length H1 (mergeW [] kvs) (mergeK [] gs) := RK.merge rk ⟨rfl, .nil⟩
          have f : Fut (cn X) ρ H S (ext ρ1 S1.length a) (upd H1 a (.dK (mergeK [] gs))) (S1 ++ [.dic (mergeW [] kvs)]) :=
            Fut.around (o0 := .dK []) ha trivial hS f1 ⟨_, upd_same, rm.mono (fun i h => ext_lt i h) (by omega) (by
              have e2 : H1 a = some (.dK []) := f1.ahead ha trivial hS
              have ne : ∀ b u, H1 b = some u → ¬ Mu u → b ≠ a := fun b u q m z => by
                rw [z, e2] at q; cases q; exact m trivial
              refine ⟨fun b xs h => ?_, fun b xs h => ?_, fun d fs h => by rw [upd_ne (ne _ _ h fun z => z)]; exact h, fun a q h => by rw [upd_ne (ne _ _ h fun z => z)]; exact h⟩
              · rcases h with (h | ⟨u, h⟩) | h
                · exact .inl (.inl (by rw [upd_ne (ne _ _ h fun z => z)]; exact h))
                · exact .inl (.inr ⟨u, by rw [upd_ne (ne _ _ h fun z => z)]; exact h⟩)
                · exact .inr h
              · rcases h with ⟨u, h⟩ | h
                · exact .inl ⟨u, by rw [upd_ne (ne _ _ h fun z => z)]; exact h⟩
                · exact .inr h)⟩
          have r : RW (cn X) (ext ρ1 S1.length a) (S1 ++ [Cell.dic (mergeW [] kvs)]).length (upd H1 a (.dK (mergeK [] gs))) (.ref S1.length) (.ref (ext ρ1 S1.length a S1.length)) := .ref (by simp)
          rw [ext_at] at r
          exact p _ _ _ f r
        · exact p.elim
      · exact p.elim⟩
/-- {} -/
def dDict0 : DE := fun _ S => .ok (.ref S.length) (S ++ [.dic []])
theorem se_dict0 : SE X cur (.Dict [] [] pos) dDict0 := ⟨fun E tk => PE.imp pe_dnewK fun σ H Q ⟨ρ, env, S, hE, hS, p⟩ => fun a ha => by
  have f : Fut (cn X) ρ H S (ext ρ S.length a) (upd H a (.dK [])) (S ++ [.dic []]) := Fut.new hS ha ⟨[], upd_same, rfl, .nil⟩
  have r : RW (cn X) (ext ρ S.length a) (S ++ [Cell.dic []]).length (upd H a (.dK [])) (.ref S.length) (.ref (ext ρ S.length a S.length)) := .ref (by simp)
  rw [ext_at] at r
  exact p _ _ _ f r⟩
end
end Dn

set_option maxHeartbeats 2000000
/-! Dn7: statements, targets, loops -/
namespace Dn
open PySem PySem.Spec PyProof.Rows L2
def R.fl {α : Type} (r : R α) (env : Env) (f : α → Store → Fl) : Fl := match r with
  | .ok a S => f a S
  | .exc k fs S => .exc k fs env S
  | .bad => .bad
@[simp] theorem R.fl_ok {α : Type} (a : α) (S : Store) (env : Env) (f : α → Store → Fl) : (R.ok a S).fl env f = f a S := rfl
@[simp] theorem R.fl_exc {α : Type} (k : Str) (fs : List (Str × W)) (S : Store) (env : Env) (f : α → Store → Fl) : (R.exc k fs S : R α).fl env f = .exc k fs env S := rfl
@[simp] theorem R.fl_bad {α : Type} (env : Env) (f : α → Store → Fl) : (R.bad : R α).fl env f = .bad := rfl
def PostS (c : Cn) (cur : Option Cur) (ρ : Nat → Addr) (H : Hp) (S : Store) (fl : Fl) (D : Ends) (E : WX) : Prop := match fl with
  | .nx env S' => ∀ ρ' σ' H', Fut c ρ H S ρ' H' S' → RE c cur ρ' S'.length H' env σ' → D.nx σ' H'
  | .rt w S' => ∀ ρ' v H', Fut c ρ H S ρ' H' S' → RW c ρ' S'.length H' w v → D.rt v H'
  | .bk env S' => ∀ ρ' σ' H', Fut c ρ H S ρ' H' S' → RE c cur ρ' S'.length H' env σ' → D.bk σ' H'
  | .ct env S' => ∀ ρ' σ' H', Fut c ρ H S ρ' H' S' → RE c cur ρ' S'.length H' env σ' → D.ct σ' H'
  | .exc k fs env S' => ∀ ρ' σ' cv d H', Fut c ρ H S ρ' H' S' → RE c cur ρ' S'.length H' env σ' → ExcAt c ρ' S'.length H' k fs cv d → E cv d σ' H'
  | .bad => False
section
variable {c : Cn} {cur : Option Cur} {ρ ρ1 : Nat → Addr} {H H1 : Hp} {S S1 : Store} {σ : L2.St} {env : Env} {D : Ends} {E : WX}
theorem PostS.fut {fl : Fl} (rs : RS c ρ H S) (f : Fut c ρ H S ρ1 H1 S1) (p : PostS c cur ρ H S fl D E) : PostS c cur ρ1 H1 S1 fl D E := by
  cases fl with
  | nx env S' => exact fun ρ' σ' H' f' r => p ρ' σ' H' (f.trans rs f') r
  | rt w S' => exact fun ρ' v H' f' r => p ρ' v H' (f.trans rs f') r
  | bk env S' => exact fun ρ' σ' H' f' r => p ρ' σ' H' (f.trans rs f') r
  | ct env S' => exact fun ρ' σ' H' f' r => p ρ' σ' H' (f.trans rs f') r
  | exc k fs env S' => exact fun ρ' σ' cv d H' f' r => p ρ' σ' cv d H' (f.trans rs f') r
  | bad => exact p
def tDS (c : Cn) (cur : Option Cur) (d : DS) (E : WX) : TS := fun D σ H => ∃ ρ env S, RE c cur ρ S.length H env σ ∧ RS c ρ H S ∧ PostS c cur ρ H S (d env S) D E
theorem bindES {d : DE} {f : W → Store → Fl} (hE : RE c cur ρ S.length H env σ) (hS : RS c ρ H S) (p : PostS c cur ρ H S ((d env S).fl env f) D E) :
    tD c cur d E σ H fun v H1 => ∃ ρ1 S1 w, RS c ρ1 H1 S1 ∧ RE c cur ρ1 S1.length H1 env σ ∧ RW c ρ1 S1.length H1 w v ∧ Fut c ρ H S ρ1 H1 S1 ∧ PostS c cur ρ1 H1 S1 (f w S1) D E := by
  refine ⟨ρ, env, S, hE, hS, ?_⟩
  cases e : d env S with
  | ok w S1 =>
    rw [e] at p
    exact fun ρ' v H' f' r => ⟨ρ', S1, w, f'.rs, f'.re hS hE, r, f', PostS.fut hS f' p⟩
  | exc k fs S1 =>
    rw [e] at p
    exact fun ρ' cv dd H' f x => p ρ' σ cv dd H' f (f.re hS hE) x
  | bad => rw [e] at p; exact p
theorem bindTS {d : DT} {f : Bool → Store → Fl} (hE : RE c cur ρ S.length H env σ) (hS : RS c ρ H S) (p : PostS c cur ρ H S ((d env S).fl env f) D E) :
    tDT c cur d E σ H fun b H1 => ∃ ρ1 S1, RS c ρ1 H1 S1 ∧ RE c cur ρ1 S1.length H1 env σ ∧ Fut c ρ H S ρ1 H1 S1 ∧ PostS c cur ρ1 H1 S1 (f b S1) D E := by
  refine ⟨ρ, env, S, hE, hS, ?_⟩
  cases e : d env S with
  | ok w S1 =>
    rw [e] at p
    exact fun ρ' H' f' => ⟨ρ', S1, f'.rs, f'.re hS hE, f', PostS.fut hS f' p⟩
  | exc k fs S1 =>
    rw [e] at p
    exact fun ρ' cv dd H' f x => p ρ' σ cv dd H' f (f.re hS hE) x
  | bad => rw [e] at p; exact p
end
structure SS (X : Cx) (cur : Option Cur) (st : Stmt) (d : DS) : Prop where
  ps : ∀ E : WX, Takes X E → PS X st (tDS (cn X) cur d E)
structure SSs (X : Cx) (cur : Option Cur) (sts : List Stmt) (d : DS) : Prop where
  pss : ∀ E : WX, Takes X E → PSs X sts (tDS (cn X) cur d E)
def dNext : DS := fun env S => .nx env S
def dSeq (a b : DS) : DS := fun env S => match a env S with
  | .nx env1 S1 => b env1 S1
  | r => r
section
variable {X : Cx} {cur : Option Cur} {pos : Pos}
theorem PostS.here {c : Cn} {ρ : Nat → Addr} {H : Hp} {S : Store} {env : Env} {σ : L2.St} {D : Ends} {E : WX} (hS : RS c ρ H S) (hE : RE c cur ρ S.length H env σ) (p : PostS c cur ρ H S (.nx env S) D E) : D.nx σ H := p ρ σ H (Fut.refl hS) hE
theorem sss_nil : SSs X cur [] dNext := ⟨fun E tk => PSs.imp pss_nil fun D σ H ⟨ρ, env, S, hE, hS, p⟩ => p.here hS hE⟩
theorem sss_cons {st : Stmt} {rest : List Stmt} {a b : DS} (h1 : SS X cur st a) (h2 : SSs X cur rest b) : SSs X cur (st :: rest) (dSeq a b) := ⟨fun E tk => PSs.imp (pss_cons (h1.ps E tk) (h2.pss E tk)) fun D σ H ⟨ρ, env, S, hE, hS, p⟩ => by
  refine ⟨ρ, env, S, hE, hS, ?_⟩
  unfold dSeq at p
  cases e : a env S with
  | nx env1 S1 => rw [e] at p; exact fun ρ' σ' H' f r => ⟨ρ', env1, S1, r, f.rs, PostS.fut hS f p⟩
  | rt w S1 => rw [e] at p; exact p
  | bk env1 S1 => rw [e] at p; exact p
  | ct env1 S1 => rw [e] at p; exact p
  | exc k fs env1 S1 => rw [e] at p; exact p
  | bad => rw [e] at p; exact p⟩
theorem sss_one {st : Stmt} {a : DS} (h1 : SS X cur st a) : SSs X cur [st] a := ⟨fun E tk => pss_one (h1.ps E tk)⟩
theorem ss_pass : SS X cur (.Pass pos) dNext := ⟨fun E tk => PS.imp ps_pass fun D σ H ⟨ρ, env, S, hE, hS, p⟩ => p.here hS hE⟩
def dBreak : DS := fun env S => .bk env S
def dCont : DS := fun env S => .ct env S
theorem ss_break : SS X cur (.Break pos) dBreak := ⟨fun E tk => PS.imp ps_break fun D σ H ⟨ρ, env, S, hE, hS, p⟩ => p ρ σ H (Fut.refl hS) hE⟩
theorem ss_continue : SS X cur (.Continue pos) dCont := ⟨fun E tk => PS.imp ps_continue fun D σ H ⟨ρ, env, S, hE, hS, p⟩ => p ρ σ H (Fut.refl hS) hE⟩
def dExpr (d : DE) : DS := fun env S => (d env S).fl env fun _ S1 => .nx env S1
theorem ss_expr {e : Expr} {d : DE} (h : SE X cur e d) (hs : swapsWith e none pos.line X.env = pure false := by rfl) : SS X cur (.Expr e pos) (dExpr d) := ⟨fun E tk => PS.imp (ps_expr (h.pe E tk) hs) fun D σ H ⟨ρ, env, S, hE, hS, p⟩ =>
  (bindES hE hS p).mono fun v H1 ⟨ρ1, S1, w, rs1, re1, rw1, f1, p1⟩ => p1.here rs1 re1⟩
def dRet (d : DE) : DS := fun env S => (d env S).fl env fun w S1 => .rt w S1
theorem ss_ret {e : Expr} {d : DE} (h : SE X cur e d) : SS X cur (.Return (some e) pos) (dRet d) := ⟨fun E tk => PS.imp (ps_ret (h.pe E tk)) fun D σ H ⟨ρ, env, S, hE, hS, p⟩ =>
  (bindES hE hS p).mono fun v H1 ⟨ρ1, S1, w, rs1, re1, rw1, f1, p1⟩ => p1 ρ1 v H1 (Fut.refl rs1) rw1⟩
def dRetN : DS := fun _ S => .rt .non S
theorem ss_retN : SS X cur (.Return none pos) dRetN := ⟨fun E tk => PS.imp ps_retN fun D σ H ⟨ρ, env, S, hE, hS, p⟩ => p ρ .non H (Fut.refl hS) .non⟩
def dIfS (c : DT) (a b : DS) : DS := fun env S => (c env S).fl env fun k S1 => if k = true then a env S1 else b env S1
theorem ss_if {c : Expr} {a b : List Stmt} {dc : DT} {da db : DS} (hc : ST X cur c dc) (ha : SSs X cur a da) (hb : SSs X cur b db) : SS X cur (.If c a b pos) (dIfS dc da db) := ⟨fun E tk => PS.imp (ps_if (hc.pt E tk) (ha.pss E tk) (hb.pss E tk)) fun D σ H ⟨ρ, env, S, hE, hS, p⟩ =>
  (bindTS hE hS p).mono fun k H1 ⟨ρ1, S1, rs1, re1, f1, p1⟩ => by
    cases k with
    | true => rw [if_pos rfl] at p1 ⊢; exact ⟨ρ1, env, S1, re1, rs1, p1⟩
    | false => rw [if_neg Bool.false_ne_true] at p1 ⊢; exact ⟨ρ1, env, S1, re1, rs1, p1⟩⟩
/-! ### targets -/
abbrev DG := W → Env → Store → R Env
def tG (c : Cn) (cur : Option Cur) (g : DG) : TG := fun v σ H Q => ∃ ρ env S w, RE c cur ρ S.length H env σ ∧ RS c ρ H S ∧ RW c ρ S.length H w v ∧ match g w env S with
  | .ok env' S' => ∀ ρ' σ' H', Fut c ρ H S ρ' H' S' → RE c cur ρ' S'.length H' env' σ' → Q σ' H'
  | _ => False
structure SG (X : Cx) (cur : Option Cur) (tg : Expr) (g : DG) : Prop where
  pg : PG X tg (tG (cn X) cur g)
theorem PG.imp {e : Expr} {t t' : TG} (h : PG X e t) (hi : ∀ v σ H Q, t' v σ H Q → t v σ H Q) : PG X e t' := ⟨fun pins s σ H v u Q I r q => h.run pins s σ H v u Q I r (hi v σ H Q q)⟩
def gSet (i : Nat) : DG := fun w env S => .ok (env.set i (some w)) S
theorem sg_name (i : Nat) {x : Str} (hN : X.N.Nodup) (hc : ∀ z, cur = some z → z.i ≠ i) (hi : X.N[i]? = some x := by rfl) (hx : Loc X.env.scope x := by first | exact Or.inl rfl | exact Or.inr rfl) (hf : X.fn x = true ∨ X.env.scope.names.lookup x = some .local := by first | exact .inl rfl | exact .inr rfl | assumption) : SG X cur (.Name x pos) (gSet i) := ⟨PG.imp (pg_name hN hi hx hf) fun v σ H Q ⟨ρ, env, S, w, hE, hS, rw, p⟩ => p ρ _ H (Fut.refl hS) (hE.set rw hc)⟩
/-- targets one behind the other -/
def gEach : List DG → List W → Env → Store → R Env
  | [], [], env, S => .ok env S
  | g :: gs, w :: ws, env, S => (g w env S).bind fun env1 S1 => gEach gs ws env1 S1
  | _, _, _, _ => .bad
def tGs (c : Cn) (cur : Option Cur) (gs : List DG) : TGs := fun vs σ H Q => ∃ ρ env S ws, RE c cur ρ S.length H env σ ∧ RS c ρ H S ∧ RWs c ρ S.length H ws vs ∧ match gEach gs ws env S with
  | .ok env' S' => ∀ ρ' σ' H', Fut c ρ H S ρ' H' S' → RE c cur ρ' S'.length H' env' σ' → Q σ' H'
  | _ => False
structure SGs (X : Cx) (cur : Option Cur) (tgs : List Expr) (gs : List DG) : Prop where
  pgs : PGs X tgs (tGs (cn X) cur gs)
theorem PGs.imp {e : List Expr} {t t' : TGs} (h : PGs X e t) (hi : ∀ v σ H Q, t' v σ H Q → t v σ H Q) : PGs X e t' := ⟨fun pins s σ H v u Q I r q => h.run pins s σ H v u Q I r (hi v σ H Q q)⟩
theorem sgs_nil : SGs X cur [] [] := ⟨PGs.imp pgs_nil fun vs σ H Q ⟨ρ, env, S, ws, hE, hS, rw, p⟩ => by
  cases rw with
  | nil => exact ⟨rfl, p ρ σ H (Fut.refl hS) hE⟩
  | cons r t => exact p.elim⟩
theorem sgs_cons {e : Expr} {es : List Expr} {g : DG} {gs : List DG} (h1 : SG X cur e g) (h2 : SGs X cur es gs) (hs : (assignEach (e :: es) X.env).map (·.2) = assign e X.env :: (assignEach es X.env).map (·.2) := by rfl) : SGs X cur (e :: es) (g :: gs) := ⟨PGs.imp (pgs_cons h1.pg h2.pgs hs) fun vs σ H Q ⟨ρ, env, S, ws, hE, hS, rw, p⟩ => by
  cases rw with
  | nil => exact p.elim
  | @cons w v ws vs r t =>
    refine ⟨v, vs, rfl, ρ, env, S, w, hE, hS, r, ?_⟩
    simp only [gEach] at p
    cases e1 : g w env S with
    | ok env1 S1 =>
      rw [e1] at p
      simp only [R.bind_ok] at p
      exact fun ρ1 σ1 H1 f1 re1 => ⟨ρ1, env1, S1, ws, re1, f1.rs, f1.rws hS t, by
        cases e2 : gEach gs ws env1 S1 with
        | ok env2 S2 => rw [e2] at p; exact fun ρ' σ' H' f r => p ρ' σ' H' (f1.trans hS f) r
        | exc k fs S2 => rw [e2] at p; exact p
        | bad => rw [e2] at p; exact p⟩
    | exc k fs S1 => rw [e1] at p; exact p
    | bad => rw [e1] at p; exact p⟩
def unpW (S : Store) : W → Option (Bool × List W)
  | .tup ws => some (true, ws)
  | w => (lisW S w).map fun ws => (false, ws)
theorem unpW_ok {c : Cn} {ρ : Nat → Addr} {H : Hp} {S : Store} {w : W} {v : V} {b : Bool} {ws : List W} (hS : RS c ρ H S) (r : RW c ρ S.length H w v) (e : unpW S w = some (b, ws)) : ∃ a vs, v = .ref a ∧ (SqT c.K H a vs ∨ SqL c.K H a vs) ∧ RWs c ρ S.length H ws vs := by
  have key : ((lisW S w).map fun ws => (false, ws)) = some (b, ws) → ∃ a vs, v = .ref a ∧ (SqT c.K H a vs ∨ SqL c.K H a vs) ∧ RWs c ρ S.length H ws vs := fun e => by
    obtain ⟨xs, e1, e2⟩ := Option.map_eq_some_iff.mp e
    cases e2
    obtain ⟨a, vs, rfl, h, t⟩ := lisW_ok hS r e1
    exact ⟨a, vs, rfl, .inr h, t⟩
  cases w with
  | tup xs =>
    cases e
    obtain ⟨a, vs, rfl, h, t⟩ := r.tup_inv
    exact ⟨a, vs, rfl, .inl h, t⟩
  | _ => exact key e
def gTupW (gs : List DG) : DG := fun w env S => match unpW S w with
  | some (_, ws) => if ws.length = gs.length then gEach gs ws env S else .bad
  | none => .bad
theorem PG.orG {tg : Expr} {t t' : TG} (h : PG X tg t) (h' : PG X tg t') : PG X tg (fun v σ H Q => t v σ H Q ∨ t' v σ H Q) := ⟨fun pins s σ H v u Q I r q => q.elim (h.run pins s σ H v u Q I r) (h'.run pins s σ H v u Q I r)⟩
theorem sg_tup {es : List Expr} {k : Nat} {gs : List DG} (hc : X.calm = true) (h : SGs X cur es gs) (hn : (assignEach es X.env).length = gs.length := by rfl) (hst : (assignEach es X.env).findIdx? (·.1) = none := by rfl) : SG X cur (.Tuple es k pos) (gTupW gs) :=
  ⟨PG.imp (PG.orG (pg_tup hc h.pgs hn hst) (pg_unl hc h.pgs hn hst)) fun v σ H Q ⟨ρ, env, S, w, hE, hS, rw, p⟩ => by
    unfold gTupW at p
    cases e : unpW S w with
    | none => rw [e] at p; exact p.elim
    | some x =>
      obtain ⟨b, ws⟩ := x
      rw [e] at p
      by_cases hl : ws.length = gs.length
      · simp only [hl, if_true] at p
        obtain ⟨a, vs, rfl, h1, t⟩ := unpW_ok hS rw e
        rcases h1 with h1 | h1
        · exact .inl ⟨a, vs, rfl, h1, by rw [← t.length]; exact hl, ρ, env, S, ws, hE, hS, t, p⟩
        · exact .inr ⟨a, vs, rfl, h1, by rw [← t.length]; exact hl, ρ, env, S, ws, hE, hS, t, p⟩
      · simp only [hl, if_false] at p⟩
/-! o.f = .. as a target; o[i] = .. of a list -/
def fldPut (ks : List Str) (f : Str) (S : Store) (o w : W) : R Unit := match insW S o with
  | some (n, k, fs) => if k ∈ ks ∧ fs.length < 1000 then .ok () (S.set n (.ins k (putW f w fs))) else .bad
  | none => .bad
theorem RF.putF {c : Cn} {ρ : Nat → Addr} {n : Nat} {H : Hp} {f : Str} {w : W} {v : V} (r : RW c ρ n H w v) : ∀ {fs : List (Str × W)} {gs : List (Str × V)}, RF c ρ n H fs gs → RF c ρ n H (putW f w fs) (L2.putF f v gs)
  | [], gs, ⟨h1, _⟩ => by cases gs with | nil => exact ⟨rfl, .cons r .nil⟩ | cons g gs => simp at h1
  | (k, x) :: fs, gs, ⟨h1, h2⟩ => by
    cases gs with
    | nil => simp at h1
    | cons g gs =>
      obtain ⟨k', y⟩ := g
      simp only [List.map_cons, List.cons.injEq] at h1 h2
      obtain ⟨h0, h1⟩ := h1
      subst h0
      cases h2 with
      | cons q t =>
        obtain ⟨i1, i2⟩ := RF.putF (f := f) r (fs := fs) (gs := gs) ⟨h1, t⟩
        unfold putW L2.putF
        by_cases e : k' = f
        · rw [if_pos e, if_pos e]
          exact ⟨by simp [h1], .cons r t⟩
        · rw [if_neg e, if_neg e]
          exact ⟨by simpa using i1, .cons q i2⟩
/-- what a store to a field is asked -/
theorem fldPut_ok {ks : List Str} {f : Str} (hk : FK X ks f) {o w : W} {x v : V} {ρ : Nat → Addr} {H : Hp} {S S' : Store} (hS : RS (cn X) ρ H S) (ro : RW (cn X) ρ S.length H o x) (r : RW (cn X) ρ S.length H w v) (e : fldPut ks f S o w = .ok () S') :
    ∃ a C dx gs, x = .ref a ∧ H a = some (.ins C dx gs) ∧ Cls X.K C ∧ NoAttr X.K C f ∧ gs.length < 1000 ∧ Fut (cn X) ρ H S ρ (upd H a (.ins C dx (L2.putF f v gs))) S' := by
  unfold fldPut at e
  cases e1 : insW S o with
  | none => rw [e1] at e; cases e
  | some y =>
    obtain ⟨n, k, fs⟩ := y
    rw [e1] at e
    by_cases h : k ∈ ks ∧ fs.length < 1000
    · simp only [h, and_self, if_true] at e
      cases e
      obtain ⟨rfl, rfl, hn, _, C, dx, gs, hC, hg, tg⟩ := insW_ok hS ro e1
      obtain ⟨c1, c2⟩ := hk k h.1 C hC
      exact ⟨_, C, dx, gs, rfl, hg, c1, c2, by rw [tg.length]; exact h.2, Fut.put hS hn fun kp => ⟨C, dx, _, hC, upd_same, (tg.putF r).1, (tg.putF r).2.mono (fun _ _ => rfl) (Nat.le_refl _) kp⟩⟩
    · simp only [h, if_false] at e
      cases e
def gFld (ks : List Str) (f : Str) (d : DE) : DG := fun w env S => match d env S with
  | .ok o S1 => (match fldPut ks f S1 o w with
    | .ok _ S2 => .ok env S2
    | _ => .bad)
  | _ => .bad
theorem sg_fld {ks : List Str} {f : Str} {o : Expr} {d : DE} (hk : FK X ks f) (h : SE X cur o d) : SG X cur (.Attribute o f pos) (gFld ks f d) := ⟨⟨fun pins s σ H v u Q I r ⟨ρ, env, S, w, hE, hS, rw, p⟩ => by
  show wpAny _ _ (do
    let ov ← holding [u] (eval o X.env)
    standAt pos.atName
    holding [u, ov] (setAttr ov f u)
    release [u, ov] []) _ _ _
  unfold gFld at p
  cases e : d env S with
  | ok ow S1 =>
    rw [e] at p
    simp only at p
    cases e2 : fldPut ks f S1 ow w with
    | ok z S2 =>
      rw [e2] at p
      have hq : tD (cn X) cur d (fun _ _ _ _ => False) σ H fun x H1 => ∃ ρ1, RS (cn X) ρ1 H1 S1 ∧ Fut (cn X) ρ H S ρ1 H1 S1 ∧ RW (cn X) ρ1 S1.length H1 ow x := ⟨ρ, env, S, hE, hS, by
        rw [e]
        exact fun ρ' v' H' f' r' => ⟨ρ', f'.rs, f', r'⟩⟩
      refine wpAny_bind (wpAny_holding (thn ((h.pe _ noTake).run pins s σ H _ I hq) fun ov s1 ⟨x, H1, I1, r1, ρ1, rs1, f1, ro⟩ => ?_))
      obtain ⟨a, C, dx, gs, rfl, hg, c1, c2, hl, f2⟩ := fldPut_ok hk rs1 ro (f1.rw hS rw) e2
      obtain rfl : ov = Value.ref a := r1
      refine wpAny_bind (wpAny_standAt (wpAny_bind (wpAny_holding (setattr_ok I1 hg c1 c2 hl r fun s2 I2 => ?_))))
      have f12 := f1.trans hS f2
      exact wpAny_release ⟨σ, _, I2, p _ _ _ f12 (f12.re hS hE)⟩
    | exc k fs S2 => rw [e2] at p; exact p.elim
    | bad => rw [e2] at p; exact p.elim
  | exc k fs S1 => rw [e] at p; exact p.elim
  | bad => rw [e] at p; exact p.elim⟩⟩
/-! ### assignments -/
def dAsg (d : DE) (g : DG) : DS := fun env S => (d env S).fl env fun w S1 => match g w env S1 with
  | .ok env2 S2 => .nx env2 S2
  | _ => .bad
theorem asg_of {g : DG} {v : V} {w : W} {ρ : Nat → Addr} {H : Hp} {S : Store} {env : Env} {σ : L2.St} {D : Ends} {E : WX} (hE : RE (cn X) cur ρ S.length H env σ) (hS : RS (cn X) ρ H S) (rw : RW (cn X) ρ S.length H w v)
    (p : PostS (cn X) cur ρ H S (match g w env S with | .ok env2 S2 => Fl.nx env2 S2 | _ => Fl.bad) D E) : tG (cn X) cur g v σ H D.nx := ⟨ρ, env, S, w, hE, hS, rw, by
  cases e : g w env S with
  | ok env2 S2 => rw [e] at p; exact p
  | exc k fs S2 => rw [e] at p; exact p
  | bad => rw [e] at p; exact p⟩
theorem ss_asg {tg e : Expr} {d : DE} {g : DG} (h : SE X cur e d) (hg : SG X cur tg g) (hs : swapsWithSole [tg] e pos.line X.env = pure false := by rfl) (hw : swappedStores [tg] e X.env = pure none := by rfl)
    (h1 : (assignEach [tg] X.env).map (·.2) = [assign tg X.env] := by rfl) : SS X cur (.Assign [tg] e pos) (dAsg d g) := ⟨fun E tk => PS.imp (ps_asg (h.pe E tk) hg.pg hs hw h1) fun D σ H ⟨ρ, env, S, hE, hS, p⟩ =>
  (bindES hE hS p).mono fun v H1 ⟨ρ1, S1, w, rs1, re1, rw1, f1, p1⟩ => asg_of re1 rs1 rw1 p1⟩
theorem ss_set (i : Nat) {x : Str} {e : Expr} {d : DE} {pos' : Pos} (hN : X.N.Nodup) (hc : ∀ z, cur = some z → z.i ≠ i) (h : SE X cur e d) (hi : X.N[i]? = some x := by rfl) (hx : Loc X.env.scope x := by first | exact Or.inl rfl | exact Or.inr rfl) (hs : swapsWith e (some (.Name x pos')) pos.line X.env = pure false := by rfl)
    (hf : X.fn x = true ∨ X.env.scope.names.lookup x = some .local := by first | exact .inl rfl | exact .inr rfl | assumption) : SS X cur (.Assign [.Name x pos'] e pos) (dAsg d (gSet i)) := ⟨fun E tk => PS.imp (ps_set hN hi hx (h.pe E tk) hs hf) fun D σ H ⟨ρ, env, S, hE, hS, p⟩ =>
  (bindES hE hS p).mono fun v H1 ⟨ρ1, S1, w, rs1, re1, rw1, f1, p1⟩ => p1.here rs1 (re1.set rw1 hc)⟩
def dFldS (ks : List Str) (f : Str) (dv d : DE) : DS := fun env S => (dv env S).fl env fun w S1 => (d env S1).fl env fun o S2 => match fldPut ks f S2 o w with
  | .ok _ S3 => .nx env S3
  | _ => .bad
theorem ss_fld {ks : List Str} {f : Str} {o e : Expr} {d dv : DE} {pos' : Pos} (hk : FK X ks f) (hv : SE X cur e dv) (h : SE X cur o d) (hs : swapsWith e (some (.Attribute o f pos')) pos.line X.env = pure false := by rfl) : SS X cur (.Assign [.Attribute o f pos'] e pos) (dFldS ks f dv d) := ⟨fun E tk =>
  PS.imp (ps_fld (h.pe E tk) (hv.pe E tk) hs) fun D σ H ⟨ρ, env, S, hE, hS, p⟩ => (bindES hE hS p).mono fun v H1 ⟨ρ1, S1, w, rs1, re1, rw1, f1, p1⟩ => (bindES re1 rs1 p1).mono fun x H2 ⟨ρ2, S2, o, rs2, re2, rw2, f2, p2⟩ => by
    cases e2 : fldPut ks f S2 o w with
    | ok z S3 =>
      rw [e2] at p2
      obtain ⟨a, C, dx, gs, rfl, hg, c1, c2, hl, f3⟩ := fldPut_ok hk rs2 rw2 (f2.rw rs1 rw1) e2
      exact ⟨_, C, dx, gs, rfl, hg, c1, c2, hl, p2 _ _ _ f3 (f3.re rs2 re2)⟩
    | exc k fs S3 => rw [e2] at p2; exact p2.elim
    | bad => rw [e2] at p2; exact p2.elim⟩
def addII : W → W → Option Int
  | .int i, .int j => some (i + j)
  | _, _ => none
theorem addII_ok {x y : W} {n : Int} (e : addII x y = some n) : ∃ i j, x = .int i ∧ y = .int j ∧ n = i + j := by
  unfold addII at e
  split at e
  · cases e; exact ⟨_, _, rfl, rfl, rfl⟩
  · cases e
def clsW (S : Store) (o : W) : Option Str := (insW S o).map (·.2.1)
/-- o.f += e, whole numbers -/
def dFldAdd (ks : List Str) (f : Str) (d dv : DE) : DS := fun env S => (d env S).fl env fun o S1 => (fldW ks f S1 o).fl env fun x _ => (dv env S1).fl env fun y S2 => match addII x y with
  | some n => if clsW S1 o = clsW S2 o then (match fldPut ks f S2 o (.int n) with
    | .ok _ S3 => .nx env S3
    | _ => .bad) else .bad
  | none => .bad
theorem fldW_ok {ks : List Str} {f : Str} (hk : FK X ks f) {o u : W} {x : V} {ρ : Nat → Addr} {H : Hp} {S S' : Store} (hS : RS (cn X) ρ H S) (ro : RW (cn X) ρ S.length H o x) (e : fldW ks f S o = .ok u S') :
    S' = S ∧ ∃ n a C dx gs v, o = .ref n ∧ x = .ref a ∧ a = ρ n ∧ n < S.length ∧ H a = some (.ins C dx gs) ∧ Cls X.K C ∧ NoAttr X.K C f ∧ gs.lookup f = some v ∧ RW (cn X) ρ S.length H u v := by
  unfold fldW at e
  cases e1 : insW S o with
  | none => rw [e1] at e; cases e
  | some y =>
    obtain ⟨n, k, fs⟩ := y
    rw [e1] at e
    by_cases h : k ∈ ks
    · simp only [h, if_true] at e
      cases e2 : fs.lookup f with
      | none => rw [e2] at e; cases e
      | some w =>
        rw [e2] at e
        cases e
        obtain ⟨rfl, rfl, hn, _, C, dx, gs, hC, hg, tg⟩ := insW_ok hS ro e1
        obtain ⟨c1, c2⟩ := hk k h C hC
        obtain ⟨v, e3, rv⟩ := tg.look f e2
        exact ⟨rfl, n, _, C, dx, gs, v, rfl, rfl, rfl, hn, hg, c1, c2, e3, rv⟩
    · simp only [h, if_false] at e
      cases e
theorem clsW_ok {c : Cn} {ρ : Nat → Addr} {H : Hp} {S : Store} {o : W} {a C dx : Addr} {gs : List (Str × V)} (hS : RS c ρ H S) (r : RW c ρ S.length H o (.ref a)) (h : H a = some (.ins C dx gs)) {k : Str} (e : clsW S o = some k) : c.mg k = some (.ref C) := by
  unfold clsW at e
  obtain ⟨⟨n, k', fs⟩, e1, rfl⟩ := Option.map_eq_some_iff.mp e
  obtain ⟨rfl, e2, hn, _, C', dx', gs', hC, hg, _⟩ := insW_ok hS r e1
  cases e2
  rw [h] at hg
  cases hg
  exact hC
theorem fldW_cls {ks : List Str} {f : Str} {o u : W} {S S' : Store} (e : fldW ks f S o = .ok u S') : ∃ k, clsW S o = some k := by
  unfold fldW at e
  unfold clsW
  cases e1 : insW S o with
  | none => rw [e1] at e; cases e
  | some y => exact ⟨_, rfl⟩
theorem ss_fldadd {ks : List Str} {f : Str} {o e : Expr} {d dv : DE} {tpos : Pos} (hk : FK X ks f) (h : SE X cur o d) (hv : SE X cur e dv) : SS X cur (.AugAssign (.Attribute o f tpos) .Add e pos) (dFldAdd ks f d dv) := ⟨fun E tk =>
  PS.imp (ps_fldaug (h.pe E tk) (hv.pe E tk) in_add) fun D σ H ⟨ρ, env, S, hE, hS, p⟩ => (bindES hE hS p).mono fun v H1 ⟨ρ1, S1, o, rs1, re1, rw1, f1, p1⟩ => by
    cases e1 : fldW ks f S1 o with
    | ok x S1' =>
      rw [e1] at p1
      obtain ⟨kk, hkk⟩ := fldW_cls e1
      obtain ⟨rfl, n, a, C, dx, gs, v', rfl, rfl, ea, hn, hg, c1, c2, hl, rv⟩ := fldW_ok hk rs1 rw1 e1
      have hC1 := clsW_ok rs1 rw1 hg hkk
      simp only [R.fl_ok] at p1
      refine ⟨a, C, dx, gs, v', rfl, hg, c1, c2, hl, (bindES re1 rs1 p1).mono fun y H2 ⟨ρ2, S2, u, rs2, re2, rw2, f2, p2⟩ => ?_⟩
      have rv2 := f2.rw rs1 rv
      have ro2 := f2.rw rs1 rw1
      cases e0 : addII x u with
      | none => rw [e0] at p2; exact p2.elim
      | some m =>
        rw [e0] at p2
        obtain ⟨i, j, rfl, rfl, rfl⟩ := addII_ok e0
        refine ⟨i, j, rv2.int_inv, rw2.int_inv, ?_⟩
        by_cases q : clsW S1' (W.ref n) = clsW S2 (W.ref n)
        · simp only [q, if_true] at p2
          cases e2 : fldPut ks f S2 (.ref n) (.int (i + j)) with
          | ok z S3 =>
            rw [e2] at p2
            obtain ⟨a', C', dx', gs', e3, hg', _, _, hl', f3⟩ := fldPut_ok hk rs2 ro2 (.int (i + j)) e2
            cases e3
            have hC2 := clsW_ok rs2 ro2 hg' (q.symm.trans hkk)
            have eC : C' = C := by
              have := hC1.symm.trans hC2
              cases this; rfl
            subst eC
            exact ⟨dx', gs', hg', hl', p2 _ _ _ f3 (f3.re rs2 re2)⟩
          | exc k fs S3 => rw [e2] at p2; exact p2.elim
          | bad => rw [e2] at p2; exact p2.elim
        · simp only [q, if_false] at p2
          exact p2.elim
    | exc k fs S1' =>
      exfalso
      unfold fldW at e1
      repeat' (first | (cases e1; done) | split at e1)
    | bad => rw [e1] at p1; exact p1.elim⟩
end
end Dn

set_option maxHeartbeats 2000000
/-! Dn8: stores by place, loops, comprehensions -/
namespace Dn
open PySem PySem.Spec PyProof.Rows L2
section
variable {X : Cx} {cur : Option Cur} {pos : Pos}
/-! ### o[i] = .. -/
theorem set_dict (hu : X.A.units + 1 < cLine) : PSet X (fun o i v H Q => ∃ a H', o = .ref a ∧ DPut H a i v H' ∧ Q H') := by
  intro pins s σ H o i v ov iv u Q I ro ri rv ⟨a, H', e, g, q⟩
  subst e
  obtain rfl : ov = Value.ref a := ro
  exact d_setItem hu I g ri rv fun s4 I4 => ⟨H', I4, q⟩
def subPut (S : Store) (o i w : W) : Option Store := match lstW S o, i with
  | some (n, xs), .int k => (ixN xs.length k).map fun j => S.set n (.lst (xs.set j w))
  | _, _ => match dicW S o, keyW i with
    | some (n, kvs), some k => if kvs.length < sizeLine then some (S.set n (.dic (putKW kvs k w))) else none
    | _, _ => none
theorem set_both (hu : X.A.units + 1 < cLine) : PSet X (fun o i v H Q => rSetL o i v H Q ∨ ∃ a H', o = .ref a ∧ DPut H a i v H' ∧ Q H') := by
  intro pins s σ H o i v ov iv u Q I ro ri rv h
  rcases h with h | h
  · exact set_list pins s σ H o i v ov iv u Q I ro ri rv h
  · exact set_dict hu pins s σ H o i v ov iv u Q I ro ri rv h
theorem subPut_ok {o i w : W} {xo xi v : V} {ρ : Nat → Addr} {H : Hp} {S S' : Store} {Q : Hp → Prop} (hS : RS (cn X) ρ H S) (ro : RW (cn X) ρ S.length H o xo) (ri : RW (cn X) ρ S.length H i xi) (rw : RW (cn X) ρ S.length H w v) (e : subPut S o i w = some S')
    (q : ∀ H', Fut (cn X) ρ H S ρ H' S' → Q H') : rSetL xo xi v H Q ∨ ∃ a H', xo = .ref a ∧ DPut H a xi v H' ∧ Q H' := by
  have dicts : (match dicW S o, keyW i with
    | some (n, kvs), some k => if kvs.length < sizeLine then some (S.set n (.dic (putKW kvs k w))) else none
    | _, _ => none) = some S' → rSetL xo xi v H Q ∨ ∃ a H', xo = .ref a ∧ DPut H a xi v H' ∧ Q H' := fun e => by
    cases e1 : dicW S o with
    | none => rw [e1] at e; cases e
    | some x =>
      obtain ⟨n, kvs⟩ := x
      cases e2 : keyW i with
      | none => rw [e1, e2] at e; cases e
      | some k =>
        rw [e1, e2] at e
        simp only at e
        split at e
        · rename_i hz
          cases e
          obtain ⟨rfl, rfl, hn, _, gs, hg, tg⟩ := dicW_ok hS ro e1
          have hl : gs.length = kvs.length := by simpa using congrArg List.length tg.1
          exact .inr ⟨_, upd H (ρ n) (.dK (putK gs k v)), rfl, .inl ⟨gs, k, hg, keyW_ok ri e2, by rw [hl]; exact hz, rfl⟩, q _ (Fut.put hS hn fun kp => ⟨_, upd_same, (tg.put rw).mono (fun _ _ => rfl) (Nat.le_refl _) kp⟩)⟩
        · cases e
  unfold subPut at e
  cases e1 : lstW S o with
  | none => rw [e1] at e; exact dicts e
  | some x =>
    obtain ⟨n, xs⟩ := x
    rw [e1] at e
    cases i with
    | int k =>
      simp only [Option.map_eq_some_iff] at e
      obtain ⟨j, e2, rfl⟩ := e
      obtain ⟨rfl, rfl, hn, _, vs, h, t⟩ := lstW_ok hS ro e1
      refine .inl ⟨ρ n, vs, k, j, rfl, ri.int_inv, h, by rw [← t.length]; exact e2, q _ (Fut.put hS hn fun kp => ⟨_, upd_same, (RWs.set rw j t).mono (fun _ _ => rfl) (Nat.le_refl _) kp⟩)⟩
    | _ => exact dicts e
def gSubW (d di : DE) : DG := fun w env S => match d env S with
  | .ok o S1 => (match di env S1 with
    | .ok i S2 => (match subPut S2 o i w with
      | some S3 => .ok env S3
      | none => .bad)
    | _ => .bad)
  | _ => .bad
theorem sg_sub {o i : Expr} {d di : DE} (hu : X.A.units + 1 < cLine) (ho : SE X cur o d) (hi : SE X cur i di)
    (ha : ∀ v, assign (.Subscript o i pos) X.env v = (do
      let ov ← holding [v] (eval o X.env)
      let iv ← holding [v, ov] (eval i X.env)
      standAt pos
      holding [v, ov, iv] (setItem ov iv v)
      release [v, ov, iv] []) := by intro _; rfl) : SG X cur (.Subscript o i pos) (gSubW d di) := ⟨PG.imp (pg_sub (ho.pe (fun _ _ _ _ => False) noTake) (hi.pe (fun _ _ _ _ => False) noTake) (set_both hu) ha) fun v σ H Q ⟨ρ, env, S, w, hE, hS, rw, p⟩ => by
  unfold gSubW at p
  refine ⟨ρ, env, S, hE, hS, ?_⟩
  cases e : d env S with
  | ok o S1 =>
    rw [e] at p
    simp only at p
    intro ρ1 v1 H1 f1 r1
    refine ⟨ρ1, env, S1, f1.re hS hE, f1.rs, ?_⟩
    cases e2 : di env S1 with
    | ok i S2 =>
      rw [e2] at p
      simp only at p
      intro ρ2 v2 H2 f2 r2
      cases e3 : subPut S2 o i w with
      | none => rw [e3] at p; exact p.elim
      | some S3 =>
        rw [e3] at p
        have f12 := f1.trans hS f2
        refine subPut_ok f2.rs (f2.rw f1.rs r1) r2 (f12.rw hS rw) e3 fun H' f3 => ?_
        have f := f12.trans hS f3
        exact p _ _ _ f (f.re hS hE)
    | exc k fs S2 => rw [e2] at p; exact p.elim
    | bad => rw [e2] at p; exact p.elim
  | exc k fs S1 => rw [e] at p; exact p.elim
  | bad => rw [e] at p; exact p.elim⟩
/-! ### equality of values -/
mutual
def eqW : W → W → Bool
  | .non, .non => true
  | .bl a, .bl b => a == b
  | .int a, .int b => a == b
  | .str a, .str b => decide (a = b)
  | .tup a, .tup b => eqWs a b
  | .fls a, .fls b => eqWs a b
  | .ref a, .ref b => a == b
  | .lam a b q vs ws, .lam c d r us xs => a == c && (b == d && (decide (q = r) && (decide (vs = us) && eqWs ws xs)))
  | _, _ => false
def eqWs : List W → List W → Bool
  | [], [] => true
  | a :: as, b :: bs => eqW a b && eqWs as bs
  | _, _ => false
end
mutual
theorem eqW_ok : ∀ (a b : W), eqW a b = true → a = b
  | .non, b, h => by cases b <;> simp [eqW] at h; rfl
  | .bl x, b, h => by cases b <;> simp [eqW] at h; rw [h]
  | .int x, b, h => by cases b <;> simp [eqW] at h; rw [h]
  | .str x, b, h => by cases b <;> simp [eqW] at h; rw [h]
  | .tup x, b, h => by
    cases b with
    | tup y => simp only [eqW] at h; rw [eqWs_ok x y h]
    | _ => simp [eqW] at h
  | .fls x, b, h => by
    cases b with
    | fls y => simp only [eqW] at h; rw [eqWs_ok x y h]
    | _ => simp [eqW] at h
  | .ref x, b, h => by cases b <;> simp [eqW] at h; rw [h]
  | .lam x y q vs ws, b, h => by
    cases b with
    | lam x' y' q' vs' ws' =>
      simp only [eqW, Bool.and_eq_true, beq_iff_eq, decide_eq_true_eq] at h
      obtain ⟨rfl, rfl, rfl, rfl, h⟩ := h
      rw [eqWs_ok ws ws' h]
    | _ => simp [eqW] at h
theorem eqWs_ok : ∀ (a b : List W), eqWs a b = true → a = b
  | [], b, h => by cases b <;> simp [eqWs] at h; rfl
  | x :: xs, b, h => by
    cases b with
    | nil => simp [eqWs] at h
    | cons y ys =>
      simp only [eqWs, Bool.and_eq_true] at h
      rw [eqW_ok x y h.1, eqWs_ok xs ys h.2]
end
mutual
theorem eqW_self : ∀ a : W, eqW a a = true
  | .non => rfl
  | .bl x => by simp [eqW]
  | .int x => by simp [eqW]
  | .str x => by simp [eqW]
  | .tup x => by simp only [eqW]; exact eqWs_self x
  | .fls x => by simp only [eqW]; exact eqWs_self x
  | .ref x => by simp [eqW]
  | .lam x y q vs ws => by simp only [eqW, Bool.and_eq_true, beq_self_eq_true, decide_eq_true_eq, true_and]; exact eqWs_self ws
theorem eqWs_self : ∀ a : List W, eqWs a a = true
  | [] => rfl
  | x :: xs => by simp only [eqWs, Bool.and_eq_true]; exact ⟨eqW_self x, eqWs_self xs⟩
end
/-! ### what is walked -/
/-- the items, and what must stay -/
abbrev Src := List W × (Store → Bool)
abbrev DI := Env → Store → R Src
structure ItOk (c : Cn) (ρ0 : Nat → Addr) (H0 : Hp) (S0 : Store) (J : It) (ws : List W) (chk : Store → Bool) : Prop where
  go : ∀ ρ H S i, Fut c ρ0 H0 S0 ρ H S → chk S = true → i < ws.length → J.go i H
  yld : ∀ ρ H S i x H', Fut c ρ0 H0 S0 ρ H S → chk S = true → i < ws.length → J.yld i H x H' → ∃ w, ws[i]? = some w ∧ Fut c ρ H S ρ H' S ∧ RW c ρ S.length H' w x ∧ ∀ a o, H a = some o → H' a = some o
  stop : ∀ ρ H S, Fut c ρ0 H0 S0 ρ H S → chk S = true → J.stop ws.length H
def tI (c : Cn) (cur : Option Cur) (di : DI) (E : WX) : TI := fun σ H T => ∃ ρ env S, RE c cur ρ S.length H env σ ∧ RS c ρ H S ∧ match di env S with
  | .ok x S' => ∀ ρ' H' J, Fut c ρ H S ρ' H' S' → ItOk c ρ' H' S' J x.1 x.2 → T J H'
  | .exc k fs S' => ∀ ρ' cv dd H', Fut c ρ H S ρ' H' S' → ExcAt c ρ' S'.length H' k fs cv dd → E cv dd σ H'
  | .bad => False
structure SI (X : Cx) (cur : Option Cur) (tg iter : Expr) (di : DI) : Prop where
  pi : ∀ E : WX, Takes X E → PI X tg iter (tI (cn X) cur di E)
theorem PI.imp {tg e : Expr} {t t' : TI} (h : PI X tg e t) (hi : ∀ σ H T, t' σ H T → t σ H T) : PI X tg e t' := ⟨fun pins s σ H T I q => h.run pins s σ H T I (hi σ H T q)⟩
theorem PI.orI {tg e : Expr} {t t' : TI} (h : PI X tg e t) (h' : PI X tg e t') : PI X tg e (fun σ H T => t σ H T ∨ t' σ H T) := ⟨fun pins s σ H T I q => q.elim (h.run pins s σ H T I) (h'.run pins s σ H T I)⟩
/-- the list n is still xs -/
def stays (n : Nat) (xs : List W) (S : Store) : Bool := match lstW S (.ref n) with
  | some (_, ys) => eqWs ys xs
  | none => false
theorem lstW_ref {S : Store} {n m : Nat} {ys : List W} (e : lstW S (.ref n) = some (m, ys)) : m = n := by
  unfold lstW at e
  simp only at e
  cases q : S[n]? with
  | none => rw [q] at e; cases e
  | some x =>
    rw [q] at e
    cases x with
    | lst xs => simp only [Option.some.injEq, Prod.mk.injEq] at e; exact e.1.symm
    | dic xs => cases e
    | ins k fs => cases e
theorem stays_ok {n : Nat} {xs : List W} {S : Store} (h : stays n xs S = true) : lstW S (.ref n) = some (n, xs) := by
  unfold stays at h
  cases e : lstW S (.ref n) with
  | none => rw [e] at h; cases h
  | some y =>
    obtain ⟨m, ys⟩ := y
    rw [e] at h
    rw [lstW_ref e, eqWs_ok _ _ h]
theorem stays_at {n : Nat} {xs : List W} {S : Store} (h : S[n]? = some (.lst xs)) : stays n xs S = true := by
  unfold stays lstW
  simp only [h]
  exact eqWs_self xs
def srcW (S : Store) : W → Option Src
  | .tup xs => some (xs, fun _ => true)
  | .fls xs => some (xs, fun _ => true)
  | .str x => some (x.cps.toList.map fun k => .str ⟨#[k]⟩, fun _ => true)
  | .ref n => (lstW S (.ref n)).map fun y => (y.2, stays n y.2)
  | _ => none
def dSrc (d : DE) : DI := fun env S => (d env S).bind fun w S1 => match srcW S1 w with
  | some x => .ok x S1
  | none => .bad
theorem it_list {c : Cn} {ρ0 : Nat → Addr} {H0 : Hp} {S0 : Store} {a : Addr} {ws : List W} {chk : Store → Bool} (h : ∀ ρ H S, Fut c ρ0 H0 S0 ρ H S → chk S = true → ∃ vs, SqL c.K H a vs ∧ RWs c ρ S.length H ws vs) (hS : RS c ρ0 H0 S0) : ItOk c ρ0 H0 S0 (Itl c.K a) ws chk where
  go := fun ρ H S i f k hi => by
    obtain ⟨vs, h1, t⟩ := h ρ H S f k
    obtain ⟨v, hv, _⟩ := t.get (List.getElem?_eq_getElem hi)
    exact ⟨vs, v, h1, hv⟩
  yld := fun ρ H S i x H' f k hi y => by
    obtain ⟨vs, h1, t⟩ := h ρ H S f k
    obtain ⟨rfl, y⟩ := y
    obtain ⟨w, hw, r⟩ := t.getV (y vs h1)
    exact ⟨w, hw, Fut.refl f.rs, r, fun _ _ e => e⟩
  stop := fun ρ H S f k => by
    obtain ⟨vs, h1, t⟩ := h ρ H S f k
    exact ⟨vs, h1, by rw [t.length]; exact Nat.le_refl _⟩
theorem it_tup {c : Cn} {ρ0 : Nat → Addr} {H0 : Hp} {S0 : Store} {a : Addr} {ws : List W} {vs : List V} (h : SqT c.K H0 a vs) (t : RWs c ρ0 S0.length H0 ws vs) (hS : RS c ρ0 H0 S0) : ItOk c ρ0 H0 S0 (Itt c.K a) ws (fun _ => true) where
  go := fun ρ H S i f k hi => by
    obtain ⟨v, hv, _⟩ := t.get (List.getElem?_eq_getElem hi)
    exact ⟨vs, v, (f.kp hS).tup _ _ h, hv⟩
  yld := fun ρ H S i x H' f k hi y => by
    obtain ⟨rfl, y⟩ := y
    obtain ⟨w, hw, r⟩ := t.getV (y vs ((f.kp hS).tup _ _ h))
    exact ⟨w, hw, Fut.refl f.rs, f.rw hS r, fun _ _ e => e⟩
  stop := fun ρ H S f k => ⟨vs, (f.kp hS).tup _ _ h, by rw [t.length]; exact Nat.le_refl _⟩
theorem it_str {c : Cn} {ρ0 : Nat → Addr} {H0 : Hp} {S0 : Store} (x : Str) : ItOk c ρ0 H0 S0 (Its x) (x.cps.toList.map fun k => .str ⟨#[k]⟩) (fun _ => true) where
  go := fun ρ H S i f k hi => by show i < x.cps.size; simpa using hi
  yld := fun ρ H S i v H' f k hi y => by
    obtain ⟨rfl, q, hq, rfl⟩ := y
    refine ⟨.str ⟨#[q]⟩, ?_, Fut.refl f.rs, .str _, fun _ _ e => e⟩
    rw [List.getElem?_map, Array.getElem?_toList, hq]; rfl
  stop := fun ρ H S f k => by show x.cps.size ≤ _; simp
theorem si_src {tg e : Expr} {d : DE} (h : SE X cur e d) : SI X cur tg e (dSrc d) := ⟨fun E tk =>
  PI.imp (PI.orI (pi_list (tg := tg) (h.pe E tk)) (PI.orI (pi_tup (h.pe E tk)) (pi_str (h.pe E tk)))) fun σ H T ⟨ρ, env, S, hE, hS, p⟩ => by
    unfold dSrc at p
    have go : ∀ {Tq : V → Hp → Prop}, (∀ w S1, d env S = .ok w S1 → ∀ ρ' v H', Fut (cn X) ρ H S ρ' H' S1 → RW (cn X) ρ' S1.length H' w v → Tq v H') → tD (cn X) cur d E σ H Tq := fun {Tq} hq => ⟨ρ, env, S, hE, hS, by
      cases e : d env S with
      | ok w S1 => exact hq w S1 e
      | exc k fs S1 => rw [e] at p; exact p
      | bad => rw [e] at p; exact p⟩
    cases e : d env S with
    | ok w S1 =>
      rw [e] at p
      simp only [R.bind_ok] at p
      cases w with
      | tup xs =>
        refine .inr (.inl (go fun w' S1' e' ρ' v H' f r => ?_))
        rw [e] at e'; cases e'
        obtain ⟨a, vs, rfl, h1, t⟩ := r.tup_inv
        exact ⟨a, rfl, ⟨vs, h1⟩, p ρ' H' _ f (it_tup h1 t f.rs)⟩
      | fls xs =>
        refine .inl (go fun w' S1' e' ρ' v H' f r => ?_)
        rw [e] at e'; cases e'
        obtain ⟨a, vs, rfl, h1, t⟩ := r.fls_inv
        exact ⟨a, rfl, ⟨vs, h1.sq⟩, p ρ' H' _ f (it_list (fun ρ2 H2 S2 f2 _ => ⟨vs, ((f2.kp f.rs).fls _ _ h1).sq, f2.rws f.rs t⟩) f.rs)⟩
      | str x =>
        refine .inr (.inr (go fun w' S1' e' ρ' v H' f r => ?_))
        rw [e] at e'; cases e'
        exact ⟨x, r.str_inv, p ρ' H' _ f (it_str x)⟩
      | ref n =>
        refine .inl (go fun w' S1' e' ρ' v H' f r => ?_)
        rw [e] at e'; cases e'
        simp only [srcW] at p
        cases e2 : lstW S1 (.ref n) with
        | none => rw [e2] at p; exact p.elim
        | some y =>
          obtain ⟨m, xs⟩ := y
          rw [e2] at p
          simp only [Option.map_some] at p
          obtain ⟨em, rfl, hn, _, vs, h1, t⟩ := lstW_ok f.rs r e2
          cases em
          refine ⟨ρ' n, rfl, ⟨vs, .of h1⟩, p ρ' H' _ f (it_list (fun ρ2 H2 S2 f2 ck => ?_) f.rs)⟩
          have r2 := f2.rw f.rs r
          obtain ⟨_, e3, _, _, vs2, h2, t2⟩ := lstW_ok f2.rs r2 (stays_ok ck)
          exact ⟨vs2, by rw [← f2.sm n hn]; exact .of h2, t2⟩
      | non => exact p.elim
      | bl b => exact p.elim
      | int i => exact p.elim
      | lam f c q vs ws => exact p.elim
    | exc k fs S1 => exact .inl (go fun w' S1' e' => by rw [e] at e'; cases e')
    | bad => rw [e] at p; exact p.elim⟩
theorem tD.of {c : Cn} {ρ : Nat → Addr} {H : Hp} {S : Store} {σ : L2.St} {env : Env} {d : DE} {E : WX} {T : VK} (hE : RE c cur ρ S.length H env σ) (hS : RS c ρ H S) (ok : ∀ w S1, d env S = .ok w S1 → ∀ ρ' v H', Fut c ρ H S ρ' H' S1 → RW c ρ' S1.length H' w v → T v H')
    (ex : ∀ k fs S1, d env S = .exc k fs S1 → ∀ ρ' cv dd H', Fut c ρ H S ρ' H' S1 → ExcAt c ρ' S1.length H' k fs cv dd → E cv dd σ H') (nb : d env S ≠ .bad) : tD c cur d E σ H T := ⟨ρ, env, S, hE, hS, by
  cases e : d env S with
  | ok w S1 => exact ok w S1 e
  | exc k fs S1 => exact ex k fs S1 e
  | bad => exact absurd e nb⟩
/-- behind a value, for what is walked -/
theorem bindI {c : Cn} {ρ : Nat → Addr} {H : Hp} {S : Store} {σ : L2.St} {env : Env} {d : DE} {E : WX} {f : W → Store → R Src} {T : It → Hp → Prop} (hE : RE c cur ρ S.length H env σ) (hS : RS c ρ H S)
    (p : match (d env S).bind f with
      | .ok x S' => ∀ ρ' H' J, Fut c ρ H S ρ' H' S' → ItOk c ρ' H' S' J x.1 x.2 → T J H'
      | .exc k fs S' => ∀ ρ' cv dd H', Fut c ρ H S ρ' H' S' → ExcAt c ρ' S'.length H' k fs cv dd → E cv dd σ H'
      | .bad => False) :
    tD c cur d E σ H fun v H1 => ∃ ρ1 S1 w, RS c ρ1 H1 S1 ∧ RE c cur ρ1 S1.length H1 env σ ∧ RW c ρ1 S1.length H1 w v ∧ Fut c ρ H S ρ1 H1 S1 ∧ match f w S1 with
      | .ok x S' => ∀ ρ' H' J, Fut c ρ1 H1 S1 ρ' H' S' → ItOk c ρ' H' S' J x.1 x.2 → T J H'
      | .exc k fs S' => ∀ ρ' cv dd H', Fut c ρ1 H1 S1 ρ' H' S' → ExcAt c ρ' S'.length H' k fs cv dd → E cv dd σ H'
      | .bad => False := by
  refine tD.of hE hS (fun w S1 e ρ' v H' f' r => ⟨ρ', S1, w, f'.rs, f'.re hS hE, r, f', ?_⟩) (fun k fs S1 e => ?_) (fun e => ?_)
  · rw [e] at p
    simp only [R.bind_ok] at p
    cases q : f w S1 with
    | ok x S' => rw [q] at p; exact fun ρ2 H2 J f2 => p ρ2 H2 J (f'.trans hS f2)
    | exc k fs S' => rw [q] at p; exact fun ρ2 cv dd H2 f2 => p ρ2 cv dd H2 (f'.trans hS f2)
    | bad => rw [q] at p; exact p
  · rw [e] at p; exact p
  · rw [e] at p; exact p
/-! range -/
def big62 (j : Int) : Bool := decide (-(2 ^ 62) ≤ j) && decide (j < 2 ^ 62)
theorem big62_ok {j : Int} (h : big62 j = true) : -(2 ^ 62) ≤ j ∧ j < 2 ^ 62 := by
  obtain ⟨a, b⟩ := Bool.and_eq_true_iff.mp h
  exact ⟨of_decide_eq_true a, of_decide_eq_true b⟩
def intW : W → Option Int
  | .int i => some i
  | _ => none
theorem intW_ok {w : W} {i : Int} (e : intW w = some i) : w = .int i := by cases w <;> simp [intW] at e; rw [e]
def rngSrc (lo hi : Int) : R Src → R Src := id
def dRng1 (d : DE) : DI := fun env S => (d env S).bind fun w S1 => match intW w with
  | some j => if big62 j = true then .ok ((List.range j.toNat).map fun i => .int ((i : Nat) : Int), fun _ => true) S1 else .bad
  | none => .bad
def dRng2 (d d2 : DE) : DI := fun env S => (d env S).bind fun w S1 => (d2 env S1).bind fun u S2 => match intW w, intW u with
  | some i, some j => if big62 i = true ∧ big62 j = true then .ok ((List.range (j - i).toNat).map fun k => .int (i + ((k : Nat) : Int)), fun _ => true) S2 else .bad
  | _, _ => .bad
theorem it_rng {c : Cn} {ρ0 : Nat → Addr} {H0 : Hp} {S0 : Store} (lo : Int) (n : Nat) : ItOk c ρ0 H0 S0 (Itr lo n) ((List.range n).map fun i => .int (lo + ((i : Nat) : Int))) (fun _ => true) where
  go := fun ρ H S i f k hi => by show i < n; simpa using hi
  yld := fun ρ H S i v H' f k hi y => by
    obtain ⟨rfl, rfl⟩ := y
    have hi' : i < n := by simpa using hi
    exact ⟨_, by simp [hi'], Fut.refl f.rs, .int _, fun _ _ e => e⟩
  stop := fun ρ H S f k => by show n ≤ _; simp
theorem si_rng1 {tg a : Expr} {d : DE} {p : Pos} (ha : SE X cur a d) (hm : X.mg "range" = none) (hg : Gl X "range" := by rfl) (hs : starEach [a] X.env = [(false, eval a X.env)] := by rfl) : SI X cur tg (.Call (.Name "range" p) [a] [] pos) (dRng1 d) := ⟨fun E tk =>
  PI.imp (pi_range1 hg hm (pa_cons (ha.pe E tk) pa_nil hs) hs) fun σ H T ⟨ρ, env, S, hE, hS, p⟩ => (bindI hE hS p).mono fun v H1 ⟨ρ1, S1, w, rs1, re1, rw1, f1, p1⟩ => by
    cases e : intW w with
    | none => rw [e] at p1; exact p1.elim
    | some j =>
      rw [e] at p1
      simp only at p1
      by_cases hz : big62 j = true
      · rw [if_pos hz] at p1
        obtain rfl := intW_ok e
        obtain ⟨h1, h2⟩ := big62_ok hz
        have := it_rng (c := cn X) (ρ0 := ρ1) (H0 := H1) (S0 := S1) 0 j.toNat
        simp only [Int.zero_add] at this
        exact ⟨j, by rw [rw1.int_inv], h1, h2, p1 ρ1 H1 _ (Fut.refl rs1) this⟩
      · rw [if_neg hz] at p1; exact p1.elim⟩
theorem si_rng2 {tg a b : Expr} {d d2 : DE} {p : Pos} (ha : SE X cur a d) (hb : SE X cur b d2) (hm : X.mg "range" = none) (hg : Gl X "range" := by rfl) (hs : starEach [a, b] X.env = [(false, eval a X.env), (false, eval b X.env)] := by rfl) (hs2 : starEach [b] X.env = [(false, eval b X.env)] := by rfl) : SI X cur tg (.Call (.Name "range" p) [a, b] [] pos) (dRng2 d d2) := ⟨fun E tk =>
  PI.imp (pi_range2 hg hm (pa_cons (ha.pe E tk) (pa_cons (hb.pe E tk) pa_nil hs2) (by rw [hs, hs2])) hs hs2) fun σ H T ⟨ρ, env, S, hE, hS, p⟩ => (bindI hE hS p).mono fun v H1 ⟨ρ1, S1, w, rs1, re1, rw1, f1, p1⟩ => (bindI re1 rs1 p1).mono fun y H2 ⟨ρ2, S2, u, rs2, re2, rw2, f2, p2⟩ => by
    cases e : intW w with
    | none => rw [e] at p2; exact p2.elim
    | some i =>
      cases e2 : intW u with
      | none => rw [e, e2] at p2; exact p2.elim
      | some j =>
        rw [e, e2] at p2
        simp only at p2
        by_cases hz : big62 i = true ∧ big62 j = true
        · rw [if_pos hz] at p2
          obtain rfl := intW_ok e
          obtain rfl := intW_ok e2
          obtain ⟨h1, h2⟩ := big62_ok hz.1
          obtain ⟨h3, h4⟩ := big62_ok hz.2
          exact ⟨i, j, by rw [rw1.int_inv, rw2.int_inv], ⟨h1, h2, h3, h4⟩, p2 ρ2 H2 _ (Fut.refl rs2) (it_rng i (j - i).toNat)⟩
        · rw [if_neg hz] at p2; exact p2.elim⟩
/-! enumerate(list), zip of two lists or two tuples -/
def enumL (i : Nat) : List W → List W
  | [] => []
  | x :: xs => .tup [.int (i : Nat), x] :: enumL (i + 1) xs
theorem enumL_length : ∀ (i : Nat) (xs : List W), (enumL i xs).length = xs.length
  | _, [] => rfl
  | i, x :: xs => by rw [enumL, List.length_cons, List.length_cons, enumL_length]
theorem enumL_get : ∀ (k i : Nat) (xs : List W) (w : W), xs[k]? = some w → (enumL i xs)[k]? = some (.tup [.int ((i + k : Nat) : Int), w])
  | _, _, [], _, e => by simp at e
  | 0, i, x :: xs, w, e => by simp at e; subst e; simp [enumL]
  | k + 1, i, x :: xs, w, e => by
    have h := enumL_get k (i + 1) xs w (by simpa using e)
    rw [enumL, List.getElem?_cons_succ, h]
    have : i + 1 + k = i + (k + 1) := by omega
    rw [this]
def dEnum (d : DE) : DI := fun env S => (d env S).bind fun w S1 => match w with
  | .fls xs => .ok (enumL 0 xs, fun _ => true) S1
  | .ref n => (match lstW S1 (.ref n) with
    | some (_, xs) => .ok (enumL 0 xs, stays n xs) S1
    | none => .bad)
  | _ => .bad
theorem it_enum {c : Cn} {ρ0 : Nat → Addr} {H0 : Hp} {S0 : Store} {a : Addr} {ws : List W} {chk : Store → Bool} (h : ∀ ρ H S, Fut c ρ0 H0 S0 ρ H S → chk S = true → ∃ vs, SqL c.K H a vs ∧ RWs c ρ S.length H ws vs) : ItOk c ρ0 H0 S0 (Ite c.K a) (enumL 0 ws) chk where
  go := fun ρ H S i f k hi => by
    obtain ⟨vs, h1, t⟩ := h ρ H S f k
    rw [enumL_length] at hi
    obtain ⟨v, hv, _⟩ := t.get (List.getElem?_eq_getElem hi)
    exact ⟨vs, v, h1, hv⟩
  yld := fun ρ H S i x H' f k hi y => by
    obtain ⟨vs, h1, t⟩ := h ρ H S f k
    obtain ⟨p, v, rfl, hp, rfl, hy⟩ := y
    obtain ⟨w, hw, r⟩ := t.getV (hy vs h1)
    have f2 : Fut c ρ H S ρ (upd H p (.tup [.int (i : Nat), v])) S := Fut.tup f.rs hp
    refine ⟨_, enumL_get i 0 ws w hw, f2, .tup (.of upd_same) (.cons (by rw [Nat.zero_add]; exact .int _) (.cons (f2.rw f.rs r) .nil)), fun a o e => by rw [upd_ne (ne_of_none e hp)]; exact e⟩
  stop := fun ρ H S f k => by
    obtain ⟨vs, h1, t⟩ := h ρ H S f k
    exact ⟨vs, h1, by rw [enumL_length, t.length]; exact Nat.le_refl _⟩
theorem si_enum {a : Expr} {d : DE} {p tpos : Pos} {elts : List Expr} {kk : Nat} (ha : SE X cur a d) (hm : X.mg "enumerate" = none) (hg : Gl X "enumerate" := by rfl) (hs : starEach [a] X.env = [(false, eval a X.env)] := by rfl) : SI X cur (.Tuple elts kk tpos) (.Call (.Name "enumerate" p) [a] [] pos) (dEnum d) := ⟨fun E tk =>
  PI.imp (pi_enum hg hm (pa_cons (ha.pe E tk) pa_nil hs) hs) fun σ H T ⟨ρ, env, S, hE, hS, p⟩ => (bindI hE hS p).mono fun v H1 ⟨ρ1, S1, w, rs1, re1, rw1, f1, p1⟩ => by
    cases w with
    | fls xs =>
      obtain ⟨a, vs, rfl, h1, t⟩ := rw1.fls_inv
      exact ⟨a, vs, rfl, h1.sq, p1 ρ1 H1 _ (Fut.refl rs1) (it_enum fun ρ2 H2 S2 f2 _ => ⟨vs, ((f2.kp rs1).fls _ _ h1).sq, f2.rws rs1 t⟩)⟩
    | ref n =>
      simp only at p1
      cases e2 : lstW S1 (.ref n) with
      | none => rw [e2] at p1; exact p1.elim
      | some y =>
        obtain ⟨m, xs⟩ := y
        rw [e2] at p1
        obtain ⟨em, rfl, hn, _, vs, h1, t⟩ := lstW_ok rs1 rw1 e2
        cases em
        refine ⟨ρ1 n, vs, rfl, .of h1, p1 ρ1 H1 _ (Fut.refl rs1) (it_enum fun ρ2 H2 S2 f2 ck => ?_)⟩
        have r2 := f2.rw rs1 rw1
        obtain ⟨_, e3, _, _, vs2, h2, t2⟩ := lstW_ok f2.rs r2 (stays_ok ck)
        exact ⟨vs2, by rw [← f2.sm n hn]; exact .of h2, t2⟩
    | _ => exact p1.elim⟩
def zipL : List W → List W → List W
  | x :: xs, y :: ys => .tup [x, y] :: zipL xs ys
  | _, _ => []
theorem zipL_length : ∀ xs ys : List W, (zipL xs ys).length = min xs.length ys.length
  | [], _ => by simp [zipL]
  | _ :: _, [] => by simp [zipL]
  | x :: xs, y :: ys => by rw [zipL, List.length_cons, zipL_length, List.length_cons, List.length_cons]; omega
theorem zipL_get : ∀ (k : Nat) (xs ys : List W) (a b : W), xs[k]? = some a → ys[k]? = some b → (zipL xs ys)[k]? = some (.tup [a, b])
  | _, [], _, _, _, e, _ => by simp at e
  | _, _ :: _, [], _, _, _, e => by simp at e
  | 0, x :: xs, y :: ys, a, b, e, e' => by simp at e e'; subst e; subst e'; simp [zipL]
  | k + 1, x :: xs, y :: ys, a, b, e, e' => by
    rw [zipL, List.getElem?_cons_succ]
    exact zipL_get k xs ys a b (by simpa using e) (by simpa using e')
/-- a list that is walked, and what must stay -/
def walkL (S : Store) : W → Option (List W × (Store → Bool))
  | .fls xs => some (xs, fun _ => true)
  | .ref n => (lstW S (.ref n)).map fun y => (y.2, stays n y.2)
  | _ => none
theorem walkL_ok {c : Cn} {ρ0 : Nat → Addr} {H0 : Hp} {S0 : Store} {w : W} {v : V} {xs : List W} {chk : Store → Bool} (hS : RS c ρ0 H0 S0) (r : RW c ρ0 S0.length H0 w v) (e : walkL S0 w = some (xs, chk)) :
    ∃ a vs, v = .ref a ∧ SqL c.K H0 a vs ∧ ∀ ρ H S, Fut c ρ0 H0 S0 ρ H S → chk S = true → ∃ vs, SqL c.K H a vs ∧ RWs c ρ S.length H xs vs := by
  cases w with
  | fls ys =>
    cases e
    obtain ⟨a, vs, rfl, h1, t⟩ := r.fls_inv
    exact ⟨a, vs, rfl, h1.sq, fun ρ2 H2 S2 f2 _ => ⟨vs, ((f2.kp hS).fls _ _ h1).sq, f2.rws hS t⟩⟩
  | ref n =>
    simp only [walkL, Option.map_eq_some_iff] at e
    obtain ⟨⟨m, ys⟩, e2, e3⟩ := e
    cases e3
    obtain ⟨em, rfl, hn, _, vs, h1, t⟩ := lstW_ok hS r e2
    cases em
    refine ⟨ρ0 n, vs, rfl, .of h1, fun ρ2 H2 S2 f2 ck => ?_⟩
    have r2 := f2.rw hS r
    obtain ⟨_, e3, _, _, vs2, h2, t2⟩ := lstW_ok f2.rs r2 (stays_ok ck)
    exact ⟨vs2, by rw [← f2.sm n hn]; exact .of h2, t2⟩
  | _ => cases e
def zipSrc (S : Store) (x y : W) : R Src := match x, y with
  | .tup xs, .tup ys => .ok (zipL xs ys, fun _ => true) S
  | x, y => match walkL S x, walkL S y with
    | some (xs, f), some (ys, g) => .ok (zipL xs ys, fun S => f S && g S) S
    | _, _ => .bad
def dZip (d d2 : DE) : DI := fun env S => (d env S).bind fun x S1 => (d2 env S1).bind fun y S2 => zipSrc S2 x y
theorem it_zipL {c : Cn} {ρ0 : Nat → Addr} {H0 : Hp} {S0 : Store} {a b : Addr} {xs ys : List W} {f g : Store → Bool} (h : ∀ ρ H S, Fut c ρ0 H0 S0 ρ H S → f S = true → ∃ vs, SqL c.K H a vs ∧ RWs c ρ S.length H xs vs) (h' : ∀ ρ H S, Fut c ρ0 H0 S0 ρ H S → g S = true → ∃ vs, SqL c.K H b vs ∧ RWs c ρ S.length H ys vs) :
    ItOk c ρ0 H0 S0 (Itz c.K a b) (zipL xs ys) (fun S => f S && g S) where
  go := fun ρ H S i fu k hi => by
    obtain ⟨k1, k2⟩ := Bool.and_eq_true_iff.mp k
    obtain ⟨vs, h1, t⟩ := h ρ H S fu k1
    obtain ⟨us, h2, t2⟩ := h' ρ H S fu k2
    rw [zipL_length] at hi
    obtain ⟨v, hv, _⟩ := t.get (List.getElem?_eq_getElem (show i < xs.length by omega))
    obtain ⟨u, hu, _⟩ := t2.get (List.getElem?_eq_getElem (show i < ys.length by omega))
    exact ⟨vs, us, v, u, h1, h2, hv, hu⟩
  yld := fun ρ H S i x H' fu k hi y => by
    obtain ⟨k1, k2⟩ := Bool.and_eq_true_iff.mp k
    obtain ⟨vs, h1, t⟩ := h ρ H S fu k1
    obtain ⟨us, h2, t2⟩ := h' ρ H S fu k2
    obtain ⟨p, v, u, rfl, hp, rfl, hy1, hy2⟩ := y
    obtain ⟨w, hw, r⟩ := t.getV (hy1 vs h1)
    obtain ⟨w2, hw2, r2⟩ := t2.getV (hy2 us h2)
    have f2 : Fut c ρ H S ρ (upd H p (.tup [v, u])) S := Fut.tup fu.rs hp
    exact ⟨_, zipL_get i xs ys w w2 hw hw2, f2, .tup (.of upd_same) (.cons (f2.rw fu.rs r) (.cons (f2.rw fu.rs r2) .nil)), fun a o e => by rw [upd_ne (ne_of_none e hp)]; exact e⟩
  stop := fun ρ H S fu k => by
    obtain ⟨k1, k2⟩ := Bool.and_eq_true_iff.mp k
    obtain ⟨vs, h1, t⟩ := h ρ H S fu k1
    obtain ⟨us, h2, t2⟩ := h' ρ H S fu k2
    refine ⟨vs, us, h1, h2, ?_⟩
    rw [zipL_length, ← t.length, ← t2.length]
    omega
theorem it_zipT {c : Cn} {ρ0 : Nat → Addr} {H0 : Hp} {S0 : Store} {a b : Addr} {xs ys : List W} {vs us : List V} (hS : RS c ρ0 H0 S0) (h : SqT c.K H0 a vs) (t : RWs c ρ0 S0.length H0 xs vs) (h' : SqT c.K H0 b us) (t' : RWs c ρ0 S0.length H0 ys us) :
    ItOk c ρ0 H0 S0 (RZ.ItzT c.K a b) (zipL xs ys) (fun _ => true) where
  go := fun ρ H S i fu k hi => by
    rw [zipL_length] at hi
    obtain ⟨v, hv, _⟩ := t.get (List.getElem?_eq_getElem (show i < xs.length by omega))
    obtain ⟨u, hu, _⟩ := t'.get (List.getElem?_eq_getElem (show i < ys.length by omega))
    exact ⟨vs, us, v, u, (fu.kp hS).tup _ _ h, (fu.kp hS).tup _ _ h', hv, hu⟩
  yld := fun ρ H S i x H' fu k hi y => by
    obtain ⟨p, v, u, rfl, hp, rfl, hy1, hy2⟩ := y
    obtain ⟨w, hw, r⟩ := t.getV (hy1 vs ((fu.kp hS).tup _ _ h))
    obtain ⟨w2, hw2, r2⟩ := t'.getV (hy2 us ((fu.kp hS).tup _ _ h'))
    have f2 : Fut c ρ H S ρ (upd H p (.tup [v, u])) S := Fut.tup fu.rs hp
    have f02 := fu.trans hS f2
    exact ⟨_, zipL_get i xs ys w w2 hw hw2, f2, .tup (.of upd_same) (.cons (f02.rw hS r) (.cons (f02.rw hS r2) .nil)), fun a o e => by rw [upd_ne (ne_of_none e hp)]; exact e⟩
  stop := fun ρ H S fu k => by
    refine ⟨vs, us, (fu.kp hS).tup _ _ h, (fu.kp hS).tup _ _ h', ?_⟩
    rw [zipL_length, ← t.length, ← t'.length]
    omega
theorem si_zip {a b : Expr} {d d2 : DE} {p tpos : Pos} {elts : List Expr} {kk : Nat} (ha : SE X cur a d) (hb : SE X cur b d2) (hm : X.mg "zip" = none) (hg : Gl X "zip" := by rfl) (hs : starEach [a, b] X.env = (false, eval a X.env) :: starEach [b] X.env := by rfl) (hs2 : starEach [b] X.env = [(false, eval b X.env)] := by rfl) (hpl : (backTo pos (starEach [b] X.env)).any (·.1) = false := by rfl) :
    SI X cur (.Tuple elts kk tpos) (.Call (.Name "zip" p) [a, b] [] pos) (dZip d d2) := ⟨fun E tk =>
  PI.imp (RZ.pi_zipA hg hm (pa_cons (ha.pe E tk) (pa_cons (hb.pe E tk) pa_nil hs2) hs) hs hpl) fun σ H T ⟨ρ, env, S, hE, hS, p⟩ => (bindI hE hS p).mono fun v H1 ⟨ρ1, S1, x, rs1, re1, rw1, f1, p1⟩ => (bindI re1 rs1 p1).mono fun u H2 ⟨ρ2, S2, y, rs2, re2, rw2, f2, p2⟩ => by
    have rx := f2.rw rs1 rw1
    have lists' : (match walkL S2 x, walkL S2 y with
        | some (xs, f), some (ys, g) => R.ok (zipL xs ys, fun S => f S && g S) S2
        | _, _ => (R.bad : R Src)) = zipSrc S2 x y → ∃ a b xs ys, [v, u] = [V.ref a, V.ref b] ∧ ((SqL X.K H2 a xs ∧ SqL X.K H2 b ys ∧ T (Itz X.K a b) H2) ∨ (SqT X.K H2 a xs ∧ SqT X.K H2 b ys ∧ T (RZ.ItzT X.K a b) H2)) := fun e => by
      rw [← e] at p2
      cases e1 : walkL S2 x with
      | none => rw [e1] at p2; exact p2.elim
      | some q1 =>
        cases e2 : walkL S2 y with
        | none => rw [e1, e2] at p2; exact p2.elim
        | some q2 =>
          obtain ⟨xs, f⟩ := q1
          obtain ⟨ys, g⟩ := q2
          rw [e1, e2] at p2
          obtain ⟨a, vs, rfl, h1, g1⟩ := walkL_ok rs2 rx e1
          obtain ⟨b, us, rfl, h2, g2⟩ := walkL_ok rs2 rw2 e2
          exact ⟨a, b, vs, us, rfl, .inl ⟨h1, h2, p2 ρ2 H2 _ (Fut.refl rs2) (it_zipL g1 g2)⟩⟩
    cases x with
    | tup xs =>
      cases y with
      | tup ys =>
        obtain ⟨a, vs, rfl, h1, t1⟩ := rx.tup_inv
        obtain ⟨b, us, rfl, h2, t2⟩ := rw2.tup_inv
        exact ⟨a, b, vs, us, rfl, .inr ⟨h1, h2, p2 ρ2 H2 _ (Fut.refl rs2) (it_zipT rs2 h1 t1 h2 t2)⟩⟩
      | _ => exact lists' rfl
    | _ => exact lists' rfl⟩
end
end Dn

set_option maxHeartbeats 2000000
/-! Dn9: for, while, comprehensions -/
namespace Dn
open PySem PySem.Spec PyProof.Rows L2
/-- the turns of a for -/
def forL (chk : Store → Bool) (g : DG) (body : DS) : List W → Env → Store → Fl
  | [], env, S => if chk S = true then .nx env S else .bad
  | w :: ws, env, S => if chk S = true then (match g w env S with
    | .ok env1 S1 => (match body env1 S1 with
      | .nx e S2 => forL chk g body ws e S2
      | .ct e S2 => forL chk g body ws e S2
      | .bk e S2 => .nx e S2
      | r => r)
    | _ => .bad) else .bad
def dFor (di : DI) (g : DG) (body : DS) : DS := fun env S => (di env S).fl env fun x S1 => forL x.2 g body x.1 env S1
section
variable {X : Cx} {cur : Option Cur} {pos : Pos}
theorem for_of {ρ1 : Nat → Addr} {H1 : Hp} {S1 : Store} {J : It} {ws : List W} {chk : Store → Bool} {g : DG} {body : DS} {env : Env} {σ : L2.St} {D : Ends} {E : WX} (ok : ItOk (cn X) ρ1 H1 S1 J ws chk) (hS : RS (cn X) ρ1 H1 S1) (hE : RE (cn X) cur ρ1 S1.length H1 env σ)
    (p : PostS (cn X) cur ρ1 H1 S1 (forL chk g body ws env S1) D E) :
    ∃ W' : Nat → Nat → L2.St → Hp → Prop, (∃ m, W' 0 m σ H1) ∧ ∀ i m σ H, W' i m σ H →
      (J.stop i H ∧ D.nx σ H) ∨ (J.go i H ∧ ∃ N : L2.St → Hp → Prop, (∀ σ' H', N σ' H' → ∃ m', m' < m ∧ W' (i + 1) m' σ' H') ∧ ∀ x H', J.yld i H x H' → tG (cn X) cur g x σ H' fun σ2 H2 => tDS (cn X) cur body E { D with nx := N, ct := N, bk := D.nx } σ2 H2) := by
  refine ⟨fun i m σ H => ∃ ρ env S, m = ws.length - i ∧ i ≤ ws.length ∧ Fut (cn X) ρ1 H1 S1 ρ H S ∧ RE (cn X) cur ρ S.length H env σ ∧ PostS (cn X) cur ρ H S (forL chk g body (ws.drop i) env S) D E,
    ⟨_, ρ1, env, S1, rfl, Nat.zero_le _, Fut.refl hS, hE, p⟩, ?_⟩
  rintro i m σ H ⟨ρ, env, S, rfl, hi, f, re, p⟩
  by_cases hlt : i < ws.length
  · rw [List.drop_eq_getElem_cons hlt] at p
    simp only [forL] at p
    by_cases ck : chk S = true
    · rw [if_pos ck] at p
      refine .inr ⟨ok.go ρ H S i f ck hlt, fun σ' H' => ∃ ρ env S, Fut (cn X) ρ1 H1 S1 ρ H' S ∧ RE (cn X) cur ρ S.length H' env σ' ∧ PostS (cn X) cur ρ H' S (forL chk g body (ws.drop (i + 1)) env S) D E,
        fun σ' H' ⟨ρ', env', S', f', re', p'⟩ => ⟨ws.length - (i + 1), by omega, ρ', env', S', rfl, hlt, f', re', p'⟩, fun x H' y => ?_⟩
      obtain ⟨w, hw, f2, r, _⟩ := ok.yld ρ H S i x H' f ck hlt y
      rw [List.getElem?_eq_getElem hlt] at hw
      cases hw
      have fA := f.trans hS f2
      refine ⟨ρ, env, S, _, f2.re f.rs re, f2.rs, r, ?_⟩
      have p2 := PostS.fut f.rs f2 p
      cases e : g ws[i] env S with
      | ok env1 S2 =>
        rw [e] at p2
        simp only at p2
        intro ρ3 σ3 H3 f3 re3
        have fB := fA.trans hS f3
        have p3 := PostS.fut f2.rs f3 p2
        refine ⟨ρ3, env1, S2, re3, f3.rs, ?_⟩
        cases e2 : body env1 S2 with
        | nx env4 S4 => rw [e2] at p3; exact fun ρ4 σ4 H4 f4 re4 => ⟨ρ4, env4, S4, fB.trans hS f4, re4, PostS.fut f3.rs f4 p3⟩
        | ct env4 S4 => rw [e2] at p3; exact fun ρ4 σ4 H4 f4 re4 => ⟨ρ4, env4, S4, fB.trans hS f4, re4, PostS.fut f3.rs f4 p3⟩
        | bk env4 S4 => rw [e2] at p3; exact p3
        | rt w4 S4 => rw [e2] at p3; exact p3
        | exc k fs env4 S4 => rw [e2] at p3; exact p3
        | bad => rw [e2] at p3; exact p3.elim
      | exc k fs S2 => rw [e] at p2; exact p2.elim
      | bad => rw [e] at p2; exact p2.elim
    · rw [if_neg ck] at p; exact p.elim
  · have e : i = ws.length := by omega
    subst e
    rw [List.drop_length] at p
    simp only [forL] at p
    by_cases ck : chk S = true
    · rw [if_pos ck] at p
      exact .inl ⟨ok.stop ρ H S f ck, p.here f.rs re⟩
    · rw [if_neg ck] at p; exact p.elim
theorem ss_for {tg iter : Expr} {body : List Stmt} {di : DI} {g : DG} {db : DS} (hp : PassesOwn (model X.prog X.w) X.A X.env X.xe) (hc : X.calm = true) (hi : SI X cur tg iter di) (hg : SG X cur tg g) (hb : SSs X cur body db)
    (hs : ∀ x, foldedSetIterable iter X.env x = pure x := by intro _; rfl) : SS X cur (.For tg iter body [] pos) (dFor di g db) := ⟨fun E tk => PS.imp (ps_for hp hc (hi.pi E tk) hg.pg (hb.pss E tk) hs) fun D σ H ⟨ρ, env, S, hE, hS, p⟩ => by
  refine ⟨ρ, env, S, hE, hS, ?_⟩
  unfold dFor at p
  cases e : di env S with
  | ok x S1 =>
    rw [e] at p
    simp only [R.fl_ok] at p
    exact fun ρ1 H1 J f1 ok => for_of ok f1.rs (f1.re hS hE) (PostS.fut hS f1 p)
  | exc k fs S1 => rw [e] at p; exact fun ρ' cv dd H' f x => p ρ' σ cv dd H' f (f.re hS hE) x
  | bad => rw [e] at p; exact p⟩
/-! ### while -/
def whileL (c : DT) (body : DS) : Nat → Env → Store → Fl
  | 0, _, _ => .bad
  | n + 1, env, S => match c env S with
    | .ok true S1 => (match body env S1 with
      | .nx e S2 => whileL c body n e S2
      | .ct e S2 => whileL c body n e S2
      | .bk e S2 => .nx e S2
      | r => r)
    | .ok false S1 => .nx env S1
    | .exc k fs S1 => .exc k fs env S1
    | .bad => .bad
def lapsMax : Nat := 1000000000000
def dWhile (c : DT) (body : DS) : DS := fun env S => whileL c body lapsMax env S
theorem ss_while {c : Expr} {body : List Stmt} {dc : DT} {db : DS} (hp : PassesOwn (model X.prog X.w) X.A X.env X.xe) (hc : ST X cur c dc) (hb : SSs X cur body db) : SS X cur (.While c body [] pos) (dWhile dc db) := ⟨fun E tk => PS.imp (ps_while hp (hc.pt E tk) (hb.pss E tk)) fun D σ H ⟨ρ, env, S, hE, hS, p⟩ => by
  refine ⟨fun m σ H => ∃ ρ env S, RE (cn X) cur ρ S.length H env σ ∧ RS (cn X) ρ H S ∧ PostS (cn X) cur ρ H S (whileL dc db m env S) D E, ⟨lapsMax, ρ, env, S, hE, hS, p⟩, ?_⟩
  rintro m σ H ⟨ρ, env, S, hE, hS, p⟩
  cases m with
  | zero => exact p.elim
  | succ m =>
    simp only [whileL] at p
    refine ⟨ρ, env, S, hE, hS, ?_⟩
    cases e : dc env S with
    | ok b S1 =>
      rw [e] at p
      cases b with
      | true =>
        simp only at p
        intro ρ1 H1 f1
        rw [if_pos rfl]
        refine ⟨fun σ' H' => ∃ ρ env S, RE (cn X) cur ρ S.length H' env σ' ∧ RS (cn X) ρ H' S ∧ PostS (cn X) cur ρ H' S (whileL dc db m env S) D E, fun σ' H' h => ⟨m, Nat.lt_succ_self m, h⟩, ρ1, env, S1, f1.re hS hE, f1.rs, ?_⟩
        have p1 := PostS.fut hS f1 p
        cases e2 : db env S1 with
        | nx env4 S4 => rw [e2] at p1; exact fun ρ4 σ4 H4 f4 re4 => ⟨ρ4, env4, S4, re4, f4.rs, PostS.fut f1.rs f4 p1⟩
        | ct env4 S4 => rw [e2] at p1; exact fun ρ4 σ4 H4 f4 re4 => ⟨ρ4, env4, S4, re4, f4.rs, PostS.fut f1.rs f4 p1⟩
        | bk env4 S4 => rw [e2] at p1; exact p1
        | rt w4 S4 => rw [e2] at p1; exact p1
        | exc k fs env4 S4 => rw [e2] at p1; exact p1
        | bad => rw [e2] at p1; exact p1.elim
      | false =>
        simp only at p
        intro ρ1 H1 f1
        rw [if_neg Bool.false_ne_true]
        exact p ρ1 σ H1 f1 (f1.re hS hE)
    | exc k fs S1 => rw [e] at p; exact fun ρ' cv dd H' f x => p ρ' σ cv dd H' f (f.re hS hE) x
    | bad => rw [e] at p; exact p⟩
/-! ### comprehensions -/
def wipeE (env : Env) : List Nat → Env
  | [] => env
  | v :: vs => (wipeE env vs).set v none
/-- the items of a comprehension -/
def compL (chk : Store → Bool) (g : DG) (dt : DT) (de : DE) (env0 : Env) : List W → Store → R (List W)
  | [], S => if chk S = true then .ok [] S else .bad
  | w :: ws, S => if chk S = true then (match g w env0 S with
    | .ok env1 S1 => (match dt env1 S1 with
      | .ok true S2 => (match de env1 S2 with
        | .ok y S3 => (compL chk g dt de env0 ws S3).bind fun ys S4 => .ok (y :: ys) S4
        | _ => .bad)
      | .ok false S2 => compL chk g dt de env0 ws S2
      | _ => .bad)
    | _ => .bad) else .bad
def dComp (di : DI) (g : DG) (dt : DT) (de : DE) (own : List Nat) : DE := fun env S => (di env S).bind fun x S1 => (compL x.2 g dt de (wipeE env own) x.1 S1).bind fun ys S2 => if ys.length ≤ sizeLine then .ok (.ref S2.length) (S2 ++ [.lst ys]) else .bad
def dYes : DT := fun _ S => .ok true S
structure STs (X : Cx) (cur : Option Cur) (ifs : List Expr) (dt : DT) : Prop where
  pts : ∀ E : WX, Takes X E → PTs X ifs (tDT (cn X) cur dt E)
theorem sts_nil : STs X cur [] dYes := ⟨fun E tk => ⟨fun pins s σ H Q I ⟨ρ, env, S, hE, hS, p⟩ => pts_nil.run pins s σ H Q I (p ρ H (Fut.refl hS))⟩⟩
theorem sts_one {c : Expr} {d : DT} (h : ST X cur c d) : STs X cur [c] d := ⟨fun E tk => pts_one (h.pt E tk)⟩
theorem RE.wipe {c : Cn} {ρ : Nat → Addr} {n : Nat} {H : Hp} {env : Env} {σ : L2.St} (h : RE c none ρ n H env σ) : ∀ vs : List Nat, RE c none ρ n H (wipeE env vs) (wipe σ vs)
  | [] => h
  | v :: vs => by
    have ih := RE.wipe h vs
    refine ⟨by show ((wipeE env vs).set v none).length = ((L2.wipe σ vs).set v none).length; rw [List.length_set, List.length_set]; exact ih.len, fun i w e => ?_, fun z hz => nomatch hz⟩
    have e' : ((wipeE env vs).set v none)[i]? = some (some w) := e
    show ∃ x, ((L2.wipe σ vs).set v none)[i]? = some (some x) ∧ RW c ρ n H w x
    by_cases q : v = i
    · subst q
      by_cases hl : v < (wipeE env vs).length
      · rw [List.getElem?_set_self hl] at e'; cases e'
      · rw [List.getElem?_eq_none (by simpa using hl)] at e'; cases e'
    · rw [List.getElem?_set_ne q] at e'
      rw [List.getElem?_set_ne q]
      exact ih.val i w e'
/-- targets of a comprehension: they store to own slots alone -/
def tGo (c : Cn) (own : List Nat) (g : DG) : TG := fun v σ H Q => ∃ ρ env S w, RE c none ρ S.length H env σ ∧ RS c ρ H S ∧ RW c ρ S.length H w v ∧ match g w env S with
  | .ok env' S' => ∀ ρ' σ' H', Fut c ρ H S ρ' H' S' → RE c none ρ' S'.length H' env' σ' → L2.wipe σ' own = L2.wipe σ own → Q σ' H'
  | _ => False
structure SGo (X : Cx) (own : List Nat) (tg : Expr) (g : DG) : Prop where
  pg : PG X tg (tGo (cn X) own g)
theorem wipe_set (σ : L2.St) (v : V) : ∀ (own : List Nat) (i : Nat), i ∈ own → L2.wipe (σ.set i (some v)) own = L2.wipe σ own := by
  have comm : ∀ (own : List Nat) (τ : L2.St) (i : Nat) (x : Option V), L2.wipe (τ.set i x) own = if i ∈ own then L2.wipe τ own else (L2.wipe τ own).set i x := by
    intro own
    induction own with
    | nil => intro τ i x; rfl
    | cons j own ih =>
      intro τ i x
      show (L2.wipe (τ.set i x) own).set j none = _
      rw [ih]
      by_cases h : i ∈ own
      · rw [if_pos h, if_pos (List.mem_cons_of_mem _ h)]; rfl
      · rw [if_neg h]
        by_cases e : i = j
        · subst e
          rw [if_pos List.mem_cons_self, List.set_set]; rfl
        · rw [if_neg (by simp [h, e]), List.set_comm _ _ e]; rfl
  intro own i h
  rw [comm, if_pos h]
theorem sgo_name (i : Nat) {own : List Nat} {x : Str} (hN : X.N.Nodup) (ho : i ∈ own := by decide) (hi : X.N[i]? = some x := by rfl) (hx : Loc X.env.scope x := by first | exact Or.inl rfl | exact Or.inr rfl) (hf : X.fn x = true ∨ X.env.scope.names.lookup x = some .local := by first | exact .inl rfl | exact .inr rfl | assumption) : SGo X own (.Name x pos) (gSet i) := ⟨PG.imp (pg_name hN hi hx hf) fun v σ H Q ⟨ρ, env, S, w, hE, hS, rw, p⟩ => p ρ _ H (Fut.refl hS) (hE.set rw fun z hz => nomatch hz) (wipe_set σ v own i ho)⟩
def tGos (c : Cn) (own : List Nat) (gs : List DG) : TGs := fun vs σ H Q => ∃ ρ env S ws, RE c none ρ S.length H env σ ∧ RS c ρ H S ∧ RWs c ρ S.length H ws vs ∧ match gEach gs ws env S with
  | .ok env' S' => ∀ ρ' σ' H', Fut c ρ H S ρ' H' S' → RE c none ρ' S'.length H' env' σ' → L2.wipe σ' own = L2.wipe σ own → Q σ' H'
  | _ => False
structure SGos (X : Cx) (own : List Nat) (tgs : List Expr) (gs : List DG) : Prop where
  pgs : PGs X tgs (tGos (cn X) own gs)
theorem sgos_nil {own : List Nat} : SGos X own [] [] := ⟨PGs.imp pgs_nil fun vs σ H Q ⟨ρ, env, S, ws, hE, hS, rw, p⟩ => by
  cases rw with
  | nil => exact ⟨rfl, p ρ σ H (Fut.refl hS) hE rfl⟩
  | cons r t => exact p.elim⟩
theorem sgos_cons {own : List Nat} {e : Expr} {es : List Expr} {g : DG} {gs : List DG} (h1 : SGo X own e g) (h2 : SGos X own es gs) (hs : (assignEach (e :: es) X.env).map (·.2) = assign e X.env :: (assignEach es X.env).map (·.2) := by rfl) : SGos X own (e :: es) (g :: gs) := ⟨PGs.imp (pgs_cons h1.pg h2.pgs hs) fun vs σ H Q ⟨ρ, env, S, ws, hE, hS, rw, p⟩ => by
  cases rw with
  | nil => exact p.elim
  | @cons w v ws vs r t =>
    refine ⟨v, vs, rfl, ρ, env, S, w, hE, hS, r, ?_⟩
    simp only [gEach] at p
    cases e1 : g w env S with
    | ok env1 S1 =>
      rw [e1] at p
      simp only [R.bind_ok] at p
      exact fun ρ1 σ1 H1 f1 re1 q1 => ⟨ρ1, env1, S1, ws, re1, f1.rs, f1.rws hS t, by
        cases e2 : gEach gs ws env1 S1 with
        | ok env2 S2 => rw [e2] at p; exact fun ρ' σ' H' f r q => p ρ' σ' H' (f1.trans hS f) r (q.trans q1)
        | exc k fs S2 => rw [e2] at p; exact p
        | bad => rw [e2] at p; exact p⟩
    | exc k fs S1 => rw [e1] at p; exact p
    | bad => rw [e1] at p; exact p⟩
theorem sgo_tup {own : List Nat} {es : List Expr} {k : Nat} {gs : List DG} (hc : X.calm = true) (h : SGos X own es gs) (hn : (assignEach es X.env).length = gs.length := by rfl) (hst : (assignEach es X.env).findIdx? (·.1) = none := by rfl) : SGo X own (.Tuple es k pos) (gTupW gs) :=
  ⟨PG.imp (PG.orG (pg_tup hc h.pgs hn hst) (pg_unl hc h.pgs hn hst)) fun v σ H Q ⟨ρ, env, S, w, hE, hS, rw, p⟩ => by
    unfold gTupW at p
    cases e : unpW S w with
    | none => rw [e] at p; exact p.elim
    | some x =>
      obtain ⟨b, ws⟩ := x
      rw [e] at p
      by_cases hl : ws.length = gs.length
      · simp only [hl, if_true] at p
        obtain ⟨a, vs, rfl, h1, t⟩ := unpW_ok hS rw e
        rcases h1 with h1 | h1
        · exact .inl ⟨a, vs, rfl, h1, by rw [← t.length]; exact hl, ρ, env, S, ws, hE, hS, t, p⟩
        · exact .inr ⟨a, vs, rfl, h1, by rw [← t.length]; exact hl, ρ, env, S, ws, hE, hS, t, p⟩
      · simp only [hl, if_false] at p⟩
/-- an object beside the store -/
theorem Fut.beside {c : Cn} {ρ ρ' : Nat → Addr} {H H' : Hp} {S S' : Store} {D : Addr} {o : HO} (f : Fut c ρ H S ρ' H' S') (nD : ∀ j, j < S.length → ρ j ≠ D) (hD : H D = some o) (m0 : Mu o) : (∀ j, j < S'.length → ρ' j ≠ D) ∧ H' D = some o := by
  refine ⟨fun j hj z => ?_, f.fr.keep hD nD fun ps z => by rw [z] at m0; exact m0⟩
  by_cases q : j < S.length
  · exact nD j q ((f.sm j q).symm.trans z)
  · exact (f.nw j (Nat.not_lt.mp q) hj).mu (by rw [z]; exact hD) m0
theorem kp_side {c : Cn} {H : Hp} {D : Addr} {o o' : HO} (hD : H D = some o') (m : Mu o') : Kp c H (upd H D o) := by
  have ne : ∀ a u, H a = some u → ¬ Mu u → a ≠ D := fun a u e q z => by
    rw [z, hD] at e; cases e; exact q m
  refine ⟨fun a xs h => ?_, fun a xs h => ?_, fun d fs h => by rw [upd_ne (ne _ _ h fun z => z)]; exact h, fun a q h => by rw [upd_ne (ne _ _ h fun z => z)]; exact h⟩
  · rcases h with (h | ⟨u, h⟩) | h
    · exact .inl (.inl (by rw [upd_ne (ne _ _ h fun z => z)]; exact h))
    · exact .inl (.inr ⟨u, by rw [upd_ne (ne _ _ h fun z => z)]; exact h⟩)
    · exact .inr h
  · rcases h with ⟨u, h⟩ | h
    · exact .inl ⟨u, by rw [upd_ne (ne _ _ h fun z => z)]; exact h⟩
    · exact .inr h
theorem Fut.side {c : Cn} {ρ ρ' : Nat → Addr} {H H' : Hp} {S S' : Store} {D : Addr} {o o' : HO} (f : Fut c ρ H S ρ' H' S') (h0 : H D = none) (nD : ∀ j, j < S'.length → ρ' j ≠ D) (hD : H' D = some o') (m : Mu o') : Fut c ρ H S ρ' (upd H' D o) S' where
  sm := f.sm
  le := f.le
  fr := fun a u e t h => by
    rw [upd_ne fun z => by rw [z, h0] at e; cases e]
    exact f.fr a u e t h
  nw := f.nw
  rs := ⟨tabs_upd f.rs.tab (fun u e => by rw [hD] at e; cases e; exact m), f.rs.inj, fun i x hx => (f.rs.cell i x hx).mono (fun _ _ => rfl) (Nat.le_refl _) (kp_side hD m) (upd_ne (nD i (List.getElem?_eq_some_iff.mp hx).1))⟩
theorem Fut.adopt {c : Cn} {ρ ρ' : Nat → Addr} {H H' : Hp} {S S' : Store} {D : Addr} {x : Cell} (f : Fut c ρ H S ρ' H' S') (h0 : H D = none) (nD : ∀ j, j < S'.length → ρ' j ≠ D) (hx : CellOk c (ext ρ' S'.length D) (S'.length + 1) H' D x) : Fut c ρ H S (ext ρ' S'.length D) H' (S' ++ [x]) where
  sm := fun i hi => by rw [ext_lt i (Nat.lt_of_lt_of_le hi f.le)]; exact f.sm i hi
  le := by have := f.le; simp; omega
  fr := f.fr
  nw := fun i h1 h2 => by
    by_cases q : i < S'.length
    · rw [ext_lt i q]; exact f.nw i h1 q
    · have : i = S'.length := by simp at h2; omega
      rw [this, ext_at]; exact .of h0
  rs := by
    refine ⟨f.rs.tab, fun i j hi hj e => ?_, fun i y hy => ?_⟩
    · rw [List.length_append, List.length_singleton] at hi hj
      by_cases h1 : i = S'.length
      · by_cases h2 : j = S'.length
        · rw [h1, h2]
        · rw [h1, ext_at, ext_lt j (by omega)] at e
          exact absurd e.symm (nD j (by omega))
      · by_cases h2 : j = S'.length
        · rw [h2, ext_at, ext_lt i (by omega)] at e
          exact absurd e (nD i (by omega))
        · rw [ext_lt i (by omega), ext_lt j (by omega)] at e
          exact f.rs.inj i j (by omega) (by omega) e
    · rw [List.length_append, List.length_singleton]
      by_cases h1 : i < S'.length
      · rw [List.getElem?_append_left h1] at hy
        rw [ext_lt i h1]
        exact (f.rs.cell i y hy).mono (fun j hj => ext_lt j hj) (by omega) (Kp.refl _ _) rfl
      · rw [List.getElem?_append_right (by omega)] at hy
        have hi : i = S'.length := by
          have z := (List.getElem?_eq_some_iff.mp hy).1
          simp at z; omega
        subst hi
        rw [Nat.sub_self] at hy
        simp at hy
        subst hy
        rw [ext_at]; exact hx
theorem comp_of {ρ1 : Nat → Addr} {H1 : Hp} {S1 S2 : Store} {J : It} {ws tot : List W} {chk : Store → Bool} {g : DG} {dt : DT} {de : DE} {env : Env} {σ : L2.St} {Q : VK} {Er : XK} {own : List Nat} {D : Addr} (ok : ItOk (cn X) ρ1 H1 S1 J ws chk) (hS : RS (cn X) ρ1 H1 S1) (hE : RE (cn X) none ρ1 S1.length H1 env σ)
    (e0 : compL chk g dt de (wipeE env own) ws S1 = .ok tot S2) (hz : tot.length ≤ sizeLine) (p : Post (cn X) ρ1 H1 S1 (.ok (.ref S2.length) (S2 ++ [.lst tot])) Q Er) (hD : H1 D = none) :
    ∃ W' : Nat → Nat → Hp → Prop, (∃ m, W' 0 m (upd H1 D (.lst []))) ∧ ∀ i m H, W' i m H →
      (J.stop i H ∧ Q (.ref D) H) ∨ (J.go i H ∧ ∃ Nx : Hp → Prop, (∀ H', Nx H' → ∃ m', m' < m ∧ W' (i + 1) m' H') ∧ ∀ x H', J.yld i H x H' → tGo (cn X) own g x (L2.wipe σ own) H' fun σ2 H2 => L2.wipe σ2 own = L2.wipe σ own ∧ tDT (cn X) none dt (fun _ _ _ _ => False) σ2 H2 fun b H3 =>
        if b = true then tD (cn X) none de (fun _ _ _ _ => False) σ2 H3 fun y H4 => ∃ acc, H4 D = some (.lst acc) ∧ acc.length < sizeLine ∧ Nx (upd H4 D (.lst (acc ++ [y]))) else Nx H3) := by
  have nD1 : ∀ j, j < S1.length → ρ1 j ≠ D := fun j hj z => by
    obtain ⟨u, e, _⟩ := hS.mut hj
    rw [z, hD] at e; cases e
  refine ⟨fun i m H => ∃ ρ S acc ys vs, m = ws.length - i ∧ i ≤ ws.length ∧ Fut (cn X) ρ1 H1 S1 ρ H S ∧ (∀ j, j < S.length → ρ j ≠ D) ∧ H D = some (.lst vs) ∧ RWs (cn X) ρ S.length H acc vs ∧ compL chk g dt de (wipeE env own) (ws.drop i) S = .ok ys S2 ∧ acc ++ ys = tot,
    ⟨_, ρ1, S1, [], tot, [], rfl, Nat.zero_le _, Fut.tup hS hD, nD1, upd_same, .nil, e0, rfl⟩, ?_⟩
  rintro i m H ⟨ρ, S, acc, ys, vs, rfl, hi, f, nD, hHD, ra, e, et⟩
  by_cases hlt : i < ws.length
  · rw [List.drop_eq_getElem_cons hlt] at e
    simp only [compL] at e
    by_cases ck : chk S = true
    · rw [if_pos ck] at e
      refine .inr ⟨ok.go ρ H S i f ck hlt, fun H' => ∃ ρ S acc ys vs, Fut (cn X) ρ1 H1 S1 ρ H' S ∧ (∀ j, j < S.length → ρ j ≠ D) ∧ H' D = some (.lst vs) ∧ RWs (cn X) ρ S.length H' acc vs ∧ compL chk g dt de (wipeE env own) (ws.drop (i + 1)) S = .ok ys S2 ∧ acc ++ ys = tot,
        fun H' ⟨ρ', S', acc', ys', vs', h1, h2, h3, h4, h5, h6⟩ => ⟨ws.length - (i + 1), by omega, ρ', S', acc', ys', vs', rfl, hlt, h1, h2, h3, h4, h5, h6⟩, fun x H' y => ?_⟩
      obtain ⟨w, hw, f2, r, kept⟩ := ok.yld ρ H S i x H' f ck hlt y
      rw [List.getElem?_eq_getElem hlt] at hw
      cases hw
      have fA := f.trans hS f2
      have reA : RE (cn X) none ρ S.length H' (wipeE env own) (L2.wipe σ own) := (fA.re hS hE).wipe own
      have raA := f2.rws f.rs ra
      refine ⟨ρ, wipeE env own, S, _, reA, f2.rs, r, ?_⟩
      cases e1 : g ws[i] (wipeE env own) S with
      | bad => rw [e1] at e; cases e
      | exc k fs S3 => rw [e1] at e; cases e
      | ok env1 S3 =>
        rw [e1] at e
        simp only at e
        intro ρ3 σ3 H3 f3 re3 w3
        obtain ⟨nD3, hD3⟩ := f3.beside nD (kept _ _ hHD) trivial
        have fB := fA.trans hS f3
        refine ⟨w3.trans (by
          have hw : ∀ (own : List Nat) (τ : L2.St), L2.wipe (L2.wipe τ own) own = L2.wipe τ own := by
            intro own
            have gen : ∀ (l : List Nat) (τ : L2.St), (∀ j ∈ l, j < τ.length → τ[j]? = some none) → L2.wipe τ l = τ := by
              intro l
              induction l with
              | nil => intro τ _; rfl
              | cons j l ih =>
                intro τ h
                show (L2.wipe τ l).set j none = τ
                rw [ih τ fun k hk => h k (List.mem_cons_of_mem _ hk)]
                refine List.ext_getElem? fun k => ?_
                by_cases q : j = k
                · subst q
                  by_cases hl : j < τ.length
                  · rw [List.getElem?_set_self hl, h j List.mem_cons_self hl]
                  · rw [List.getElem?_eq_none (by simpa using hl), List.getElem?_eq_none (by simpa using hl)]
                · rw [List.getElem?_set_ne q]
            intro τ
            refine gen own _ fun j hj hl => ?_
            cases q : (L2.wipe τ own)[j]? with
            | none => rw [List.getElem?_eq_none_iff] at q; omega
            | some x =>
              cases x with
              | none => rfl
              | some x => exact absurd hj (L2.wipe_some q).2
          exact hw own σ), ρ3, env1, S3, re3, f3.rs, ?_⟩
        cases e2 : dt env1 S3 with
        | bad => rw [e2] at e; cases e
        | exc k fs S4 => rw [e2] at e; cases e
        | ok b S4 =>
          rw [e2] at e
          intro ρ4 H4 f4
          obtain ⟨nD4, hD4⟩ := f4.beside nD3 hD3 trivial
          have fC := fB.trans hS f4
          have ra4 := f4.rws f3.rs (f3.rws f2.rs raA)
          cases b with
          | false =>
            simp only at e
            rw [if_neg Bool.false_ne_true]
            exact ⟨ρ4, S4, acc, ys, vs, fC, nD4, hD4, ra4, e, et⟩
          | true =>
            simp only at e
            rw [if_pos rfl]
            refine ⟨ρ4, env1, S4, f4.re f3.rs re3, f4.rs, ?_⟩
            cases e3 : de env1 S4 with
            | bad => rw [e3] at e; cases e
            | exc k fs S5 => rw [e3] at e; cases e
            | ok u S5 =>
              rw [e3] at e
              simp only at e
              intro ρ5 v5 H5 f5 r5
              obtain ⟨nD5, hD5⟩ := f5.beside nD4 hD4 trivial
              have fD := fC.trans hS f5
              cases e4 : compL chk g dt de (wipeE env own) (ws.drop (i + 1)) S5 with
              | bad => rw [e4] at e; cases e
              | exc k fs S6 => rw [e4] at e; cases e
              | ok zs S6 =>
                rw [e4] at e
                simp only [R.bind_ok, R.ok.injEq] at e
                obtain ⟨rfl, rfl⟩ := e
                have ra5 := f5.rws f4.rs ra4
                have kS : Kp (cn X) H5 (upd H5 D (.lst (vs ++ [v5]))) := kp_side hD5 trivial
                refine ⟨vs, hD5, ?_, ρ5, S5, acc ++ [u], zs, vs ++ [v5], fD.side hD nD5 hD5 trivial, nD5, upd_same, (ra5.append (.cons r5 .nil)).mono (fun _ _ => rfl) (Nat.le_refl _) kS, e4, by rw [List.append_assoc]; exact et⟩
                have hl := ra5.length
                have := congrArg List.length et
                simp only [List.length_append, List.length_cons] at this
                omega
    · rw [if_neg ck] at e; cases e
  · have ei : i = ws.length := by omega
    subst ei
    rw [List.drop_length] at e
    simp only [compL] at e
    by_cases ck : chk S = true
    · rw [if_pos ck] at e
      cases e
      rw [List.append_nil] at et
      subst et
      refine .inl ⟨ok.stop ρ H S2 f ck, ?_⟩
      have fZ : Fut (cn X) ρ1 H1 S1 (ext ρ S2.length D) H (S2 ++ [.lst acc]) := f.adopt hD nD ⟨vs, hHD, ra.mono (fun j hj => ext_lt j hj) (by omega) (Kp.refl _ _)⟩
      have r : RW (cn X) (ext ρ S2.length D) (S2 ++ [Cell.lst acc]).length H (.ref S2.length) (.ref (ext ρ S2.length D S2.length)) := .ref (by simp)
      rw [ext_at] at r
      exact p _ _ _ fZ r
    · rw [if_neg ck] at e; cases e
theorem se_comp {elt tg iter : Expr} {ifs : List Expr} {scope : Scope} {own : List (Str × Nat)} {di : DI} {g : DG} {dt : DT} {de : DE} (hc : X.calm = true) (hN : X.N.Nodup) (hi : SI X none tg iter di) (ok : BlkOk X.N X.env.scope scope own)
    (hg : ∀ (s : Shared) (H : Hp) (C : Addr) (cl : List (Str × Addr)) (fp : List Addr), SGo (X.blk s H scope (compEnvC scope cl C X.env) fp) (own.map (·.2)) tg g)
    (ht : ∀ (s : Shared) (H : Hp) (C : Addr) (cl : List (Str × Addr)) (fp : List Addr), STs (X.blk s H scope (compEnvC scope cl C X.env) fp) none ifs dt)
    (he : ∀ (s : Shared) (H : Hp) (C : Addr) (cl : List (Str × Addr)) (fp : List Addr), SE (X.blk s H scope (compEnvC scope cl C X.env) fp) none elt de)
    (hs : ∀ x, foldedSetIterable iter X.env x = pure x := by intro _; rfl) : SE X none (.ListComp elt [⟨tg, iter, ifs, 0⟩] scope pos) (dComp di g dt de (own.map (·.2))) := ⟨fun E tk =>
  PE.imp (pe_lc (g := tGo (cn X) (own.map (·.2)) g) (tt := tDT (cn X) none dt fun _ _ _ _ => False) (te := tD (cn X) none de fun _ _ _ _ => False) hc hN (hi.pi E tk) ok (fun s H C cl fp => (hg s H C cl fp).pg) (fun s H C cl fp => (ht s H C cl fp).pts _ noTake) (fun s H C cl fp => (he s H C cl fp).pe _ noTake) hs) fun σ H Q ⟨ρ, env, S, hE, hS, p⟩ => by
    refine ⟨ρ, env, S, hE, hS, ?_⟩
    unfold dComp at p
    cases e : di env S with
    | ok x S1 =>
      rw [e] at p
      simp only [R.bind_ok] at p
      intro ρ1 H1 J f1 ok1 D hD
      have p1 := Post.fut hS f1 p
      cases e2 : compL x.2 g dt de (wipeE env (own.map (·.2))) x.1 S1 with
      | ok tot S2 =>
        rw [e2] at p1
        simp only [R.bind_ok] at p1
        by_cases hz : tot.length ≤ sizeLine
        · rw [if_pos hz] at p1
          exact comp_of ok1 f1.rs (f1.re hS hE) e2 hz p1 hD
        · rw [if_neg hz] at p1; exact p1.elim
      | exc k fs S2 =>
        exfalso
        have none_exc : ∀ (ws : List W) (S : Store), compL x.2 g dt de (wipeE env (own.map (·.2))) ws S ≠ .exc k fs S2 := by
          intro ws
          induction ws with
          | nil => intro S h; simp only [compL] at h; split at h <;> cases h
          | cons w ws ih =>
            intro S h
            simp only [compL] at h
            split at h
            · split at h
              · split at h
                · split at h
                  · rename_i y S3 _
                    cases q : compL x.2 g dt de (wipeE env (own.map (·.2))) ws S3 with
                    | ok ys S4 => rw [q] at h; cases h
                    | exc k2 fs2 S4 => rw [q] at h; simp only [R.bind_exc, R.exc.injEq] at h; obtain ⟨rfl, rfl, rfl⟩ := h; exact ih S3 q
                    | bad => rw [q] at h; cases h
                  · cases h
                · exact ih _ h
                · cases h
              · cases h
            · cases h
        exact none_exc _ _ e2
      | bad => rw [e2] at p1; exact p1.elim
    | exc k fs S1 => rw [e] at p; exact p
    | bad => rw [e] at p; exact p⟩
end
end Dn

set_option maxHeartbeats 2000000
/-! Dn10: defs: promises by plain functions, calls; what is left over -/
namespace Dn
open PySem PySem.Spec PyProof.Rows L2

/-! ### which cells a value may lead to -/
mutual
def ltW (n : Nat) : W → Bool
  | .non => true
  | .bl _ => true
  | .int _ => true
  | .str _ => true
  | .tup xs => ltWs n xs
  | .fls xs => ltWs n xs
  | .ref i => decide (i < n)
  | .lam _ _ _ _ ws => ltWs n ws
def ltWs (n : Nat) : List W → Bool
  | [] => true
  | w :: ws => ltW n w && ltWs n ws
end
def ltCell (n : Nat) : Cell → Bool
  | .lst xs => ltWs n xs
  | .dic kvs => ltWs n (kvs.map (·.2))
  | .ins _ fs => ltWs n (fs.map (·.2))
def ClS (n : Nat) (S : Store) : Prop := ∀ x ∈ S, ltCell n x = true
section
variable {c : Cn} {ρ ρ' : Nat → Addr} {n m : Nat} {H H' : Hp}
mutual
theorem RW.lt : ∀ {w : W} {v : V}, RW c ρ n H w v → ltW n w = true
  | _, _, .non => rfl
  | _, _, .bl b => rfl
  | _, _, .int i => rfl
  | _, _, .str x => rfl
  | _, _, .tup _ r => by unfold ltW; exact RWs.lt r
  | _, _, .fls _ r => by unfold ltW; exact RWs.lt r
  | _, _, .ref h => by unfold ltW; exact decide_eq_true h
  | _, _, .lam _ r => by unfold ltW; exact RWs.lt r
theorem RWs.lt : ∀ {ws : List W} {vs : List V}, RWs c ρ n H ws vs → ltWs n ws = true
  | _, _, .nil => rfl
  | _, _, .cons r t => by unfold ltWs; rw [RW.lt r, RWs.lt t]; rfl
end
mutual
theorem RW.re (hρ : ∀ i, i < m → ρ' i = ρ i) : ∀ {w : W} {v : V}, RW c ρ n H w v → ltW m w = true → RW c ρ' m H w v
  | _, _, .non, _ => .non
  | _, _, .bl b, _ => .bl b
  | _, _, .int i, _ => .int i
  | _, _, .str x, _ => .str x
  | _, _, .tup h r, e => .tup h (RWs.re hρ r (by unfold ltW at e; exact e))
  | _, _, .fls h r, e => .fls h (RWs.re hρ r (by unfold ltW at e; exact e))
  | _, _, .ref (i := i) h, e => by
    unfold ltW at e
    rw [← hρ i (of_decide_eq_true e)]
    exact .ref (of_decide_eq_true e)
  | _, _, .lam h r, e => .lam h (RWs.re hρ r (by unfold ltW at e; exact e))
theorem RWs.re (hρ : ∀ i, i < m → ρ' i = ρ i) : ∀ {ws : List W} {vs : List V}, RWs c ρ n H ws vs → ltWs m ws = true → RWs c ρ' m H ws vs
  | _, _, .nil, _ => .nil
  | _, _, .cons r t, e => by
    unfold ltWs at e
    rw [Bool.and_eq_true] at e
    exact .cons (RW.re hρ r e.1) (RWs.re hρ t e.2)
end
theorem RF.re {fs : List (Str × W)} {gs : List (Str × V)} (hρ : ∀ i, i < m → ρ' i = ρ i) (h : RF c ρ n H fs gs) (e : ltWs m (fs.map (·.2)) = true) : RF c ρ' m H fs gs := ⟨h.1, h.2.re hρ e⟩
theorem CellOk.re {x : Cell} {a : Addr} (hρ : ∀ i, i < m → ρ' i = ρ i) (h : CellOk c ρ n H a x) (e : ltCell m x = true) : CellOk c ρ' m H a x := by
  cases x with
  | lst ws => obtain ⟨vs, h1, h2⟩ := h; exact ⟨vs, h1, h2.re hρ e⟩
  | dic kvs => obtain ⟨gs, h1, h2, h3⟩ := h; exact ⟨gs, h1, h2, h3.re hρ e⟩
  | ins kk fs => obtain ⟨C, dx, gs, h0, h1, h2, h3⟩ := h; exact ⟨C, dx, gs, h0, h1, h2, h3.re hρ e⟩
theorem CellOk.lt {x : Cell} {a : Addr} (h : CellOk c ρ n H a x) : ltCell n x = true := by
  cases x with
  | lst ws => obtain ⟨vs, h1, h2⟩ := h; exact h2.lt
  | dic kvs => obtain ⟨gs, h1, h2, h3⟩ := h; exact h3.lt
  | ins kk fs => obtain ⟨C, dx, gs, h0, h1, h2, h3⟩ := h; exact h3.lt
theorem RS.cl {S : Store} (h : RS c ρ H S) : ClS S.length S := fun x hx => by
  obtain ⟨i, hi⟩ := List.getElem?_of_mem hx
  exact (h.cell i x hi).lt
theorem ExcAt.re {k : Str} {fs : List (Str × W)} {cv : Value} {d : Option Addr} (hρ : ∀ i, i < m → ρ' i = ρ i) (h : ExcAt c ρ n H k fs cv d) (e : ltWs m (fs.map (·.2)) = true) : ExcAt c ρ' m H k fs cv d := by
  obtain ⟨h1, h | ⟨dd, gs, h2, h3, h4⟩⟩ := h
  · exact ⟨h1, .inl h⟩
  · exact ⟨h1, .inr ⟨dd, gs, h2, h3, h4.re hρ e⟩⟩
/-- what nothing leads to is left out -/
theorem RS.trim {S G : Store} (h : RS c ρ H (S ++ G)) (e : ClS S.length S) : RS c ρ H S where
  tab := h.tab
  inj := fun i j hi hj q => h.inj i j (by rw [List.length_append]; omega) (by rw [List.length_append]; omega) q
  cell := fun i x hx => (h.cell i x (by rw [List.getElem?_append_left (List.getElem?_eq_some_iff.mp hx).1]; exact hx)).re (fun _ _ => rfl) (e x (List.mem_of_getElem? hx))
theorem Fut.trim {S S' G : Store} (f : Fut c ρ H S ρ' H' (S' ++ G)) (hl : S.length ≤ S'.length) (e : ClS S'.length S') : Fut c ρ H S ρ' H' S' where
  sm := f.sm
  le := hl
  fr := f.fr
  nw := fun i h1 h2 => f.nw i h1 (by rw [List.length_append]; omega)
  rs := f.rs.trim e
end
/-- r' is r without what is left over -/
def Tr (n : Nat) (r r' : R W) : Prop := match r' with
  | .ok w S' => ∃ G, r = .ok w (S' ++ G) ∧ n ≤ S'.length ∧ ClS S'.length S' ∧ ltW S'.length w = true
  | .exc k fs S' => ∃ G, r = .exc k fs (S' ++ G) ∧ n ≤ S'.length ∧ ClS S'.length S' ∧ ltWs S'.length (fs.map (·.2)) = true
  | .bad => True
theorem Post.trim {c : Cn} {ρ : Nat → Addr} {H : Hp} {S : Store} {r r' : R W} {Q : VK} {E : XK} (t : Tr S.length r r') (p : Post c ρ H S r' Q E) : Post c ρ H S r Q E := by
  cases r' with
  | ok w S' =>
    obtain ⟨G, rfl, h1, h2, h3⟩ := t
    exact fun ρ' v H' f q => p ρ' v H' (f.trim h1 h2) (q.re (fun _ _ => rfl) h3)
  | exc k fs S' =>
    obtain ⟨G, rfl, h1, h2, h3⟩ := t
    exact fun ρ' cv d H' f q => p ρ' cv d H' (f.trim h1 h2) (q.re (fun _ _ => rfl) h3)
  | bad => exact p.elim
/-! ### what is shown at a bare store holds at any -/
mutual
def shW (n : Nat) : W → W
  | .tup xs => .tup (shWs n xs)
  | .fls xs => .fls (shWs n xs)
  | .ref i => .ref (n + i)
  | .lam f c q vs ws => .lam f c q vs (shWs n ws)
  | .non => .non
  | .bl b => .bl b
  | .int i => .int i
  | .str x => .str x
def shWs (n : Nat) : List W → List W
  | [] => []
  | w :: ws => shW n w :: shWs n ws
end
def shCell (n : Nat) : Cell → Cell
  | .lst xs => .lst (shWs n xs)
  | .dic kvs => .dic (kvs.map fun p => (p.1, shW n p.2))
  | .ins k fs => .ins k (fs.map fun p => (p.1, shW n p.2))
def shF (n : Nat) (fs : List (Str × W)) : List (Str × W) := fs.map fun p => (p.1, shW n p.2)
theorem shWs_map (n : Nat) : ∀ ws : List W, shWs n ws = ws.map (shW n)
  | [] => rfl
  | w :: ws => by unfold shWs; rw [shWs_map n ws]; rfl
section
variable {c : Cn} {ρ ρ' : Nat → Addr} {n m : Nat} {H H' : Hp}
/-- ρ ahead of n, ρ' behind -/
def glue (n : Nat) (ρ ρ' : Nat → Addr) : Nat → Addr := fun i => if i < n then ρ i else ρ' (i - n)
theorem glue_lt {i : Nat} (h : i < n) : glue n ρ ρ' i = ρ i := if_pos h
theorem glue_ge {i : Nat} (h : n ≤ i) : glue n ρ ρ' i = ρ' (i - n) := if_neg (Nat.not_lt.mpr h)
theorem glue_add {i : Nat} : glue n ρ ρ' (n + i) = ρ' i := by rw [glue_ge (Nat.le_add_right _ _), Nat.add_sub_cancel_left]
mutual
theorem RW.shift : ∀ {w : W} {v : V}, RW c ρ' m H w v → RW c (glue n ρ ρ') (n + m) H (shW n w) v
  | _, _, .non => .non
  | _, _, .bl b => .bl b
  | _, _, .int i => .int i
  | _, _, .str x => .str x
  | _, _, .tup h r => by unfold shW; exact .tup h (RWs.shift r)
  | _, _, .fls h r => by unfold shW; exact .fls h (RWs.shift r)
  | _, _, .ref (i := i) h => by
    unfold shW
    rw [← glue_add (n := n) (ρ := ρ) (ρ' := ρ') (i := i)]
    exact .ref (by omega)
  | _, _, .lam h r => by unfold shW; exact .lam h (RWs.shift r)
theorem RWs.shift : ∀ {ws : List W} {vs : List V}, RWs c ρ' m H ws vs → RWs c (glue n ρ ρ') (n + m) H (shWs n ws) vs
  | _, _, .nil => .nil
  | _, _, .cons r t => by unfold shWs; exact .cons (RW.shift r) (RWs.shift t)
end
theorem RK.shift {α : Type} {fs : List (α × W)} {gs : List (α × V)} (h : gs.map (·.1) = fs.map (·.1) ∧ RWs c ρ' m H (fs.map (·.2)) (gs.map (·.2))) :
    gs.map (·.1) = (fs.map fun p => (p.1, shW n p.2)).map (·.1) ∧ RWs c (glue n ρ ρ') (n + m) H ((fs.map fun p => (p.1, shW n p.2)).map (·.2)) (gs.map (·.2)) := by
  refine ⟨by rw [h.1, List.map_map]; rfl, ?_⟩
  have e : (fs.map fun p => (p.1, shW n p.2)).map (·.2) = shWs n (fs.map (·.2)) := by rw [shWs_map, List.map_map, List.map_map]; rfl
  rw [e]
  exact RWs.shift h.2
theorem CellOk.shift {x : Cell} {a : Addr} (h : CellOk c ρ' m H a x) : CellOk c (glue n ρ ρ') (n + m) H a (shCell n x) := by
  cases x with
  | lst ws => obtain ⟨vs, h1, h2⟩ := h; exact ⟨vs, h1, h2.shift⟩
  | dic kvs => obtain ⟨gs, h1, h2⟩ := h; exact ⟨gs, h1, RK.shift h2⟩
  | ins kk fs => obtain ⟨C, dx, gs, h0, h1, h2⟩ := h; exact ⟨C, dx, gs, h0, h1, RK.shift h2⟩
theorem ExcAt.shift {k : Str} {fs : List (Str × W)} {cv : Value} {d : Option Addr} (h : ExcAt c ρ' m H k fs cv d) : ExcAt c (glue n ρ ρ') (n + m) H k (shF n fs) cv d := by
  obtain ⟨h1, ⟨h2, rfl⟩ | ⟨dd, gs, h2, h3, h4⟩⟩ := h
  · exact ⟨h1, .inl ⟨h2, rfl⟩⟩
  · exact ⟨h1, .inr ⟨dd, gs, h2, h3, RK.shift h4⟩⟩
theorem Fut.shift {S S1 : Store} (rs : RS c ρ H S) (f : Fut c ρ H [] ρ' H' S1) : Fut c ρ H S (glue S.length ρ ρ') H' (S ++ S1.map (shCell S.length)) where
  sm := fun i h => glue_lt h
  le := by simp
  fr := fun a o e t _ => f.fr a o e t fun i hi => absurd hi (Nat.not_lt_zero i)
  nw := fun i h1 h2 => by
    rw [glue_ge h1]
    rw [List.length_append, List.length_map] at h2
    exact f.nw _ (Nat.zero_le _) (by omega)
  rs := by
    have fr : ∀ a o, H a = some o → (∀ ps, o ≠ .tbl ps) → H' a = some o := fun a o e t => f.fr a o e t fun i hi => absurd hi (Nat.not_lt_zero i)
    have kpo : Kp c H H' := rs.kp fun a o e t _ => fr a o e t
    have keep : ∀ a o, H a = some o → Mu o → H' a = some o := fun a o e m => fr a o e fun ps z => by rw [z] at m; exact m
    have new : ∀ i, i < S1.length → Nt H (ρ' i) := fun i hi => f.nw i (Nat.zero_le _) hi
    have old : ∀ i, i < S.length → ∃ o, H (ρ i) = some o ∧ Mu o := fun i hi => rs.mut hi
    refine ⟨f.rs.tab, fun i j hi hj e => ?_, fun i x hx => ?_⟩
    · rw [List.length_append, List.length_map] at hi hj
      by_cases h1 : i < S.length
      · by_cases h2 : j < S.length
        · rw [glue_lt h1, glue_lt h2] at e; exact rs.inj i j h1 h2 e
        · rw [glue_lt h1, glue_ge (by omega)] at e
          obtain ⟨o, ho, mo⟩ := old i h1
          rw [e] at ho; exact ((new _ (by omega)).mu ho mo).elim
      · by_cases h2 : j < S.length
        · rw [glue_lt h2, glue_ge (by omega)] at e
          obtain ⟨o, ho, mo⟩ := old j h2
          rw [← e] at ho; exact ((new _ (by omega)).mu ho mo).elim
        · rw [glue_ge (by omega), glue_ge (by omega)] at e
          have := f.rs.inj _ _ (by omega) (by omega) e
          omega
    · rw [List.length_append, List.length_map]
      by_cases h1 : i < S.length
      · rw [List.getElem?_append_left h1] at hx
        rw [glue_lt h1]
        obtain ⟨o, ho, mo⟩ := old i h1
        exact (rs.cell i x hx).mono (fun j hj => glue_lt hj) (by omega) kpo (by rw [keep _ _ ho mo, ho])
      · rw [List.getElem?_append_right (by omega), List.getElem?_map] at hx
        cases e : S1[i - S.length]? with
        | none => rw [e] at hx; cases hx
        | some y =>
          rw [e] at hx
          cases hx
          rw [glue_ge (by omega)]
          exact (f.rs.cell _ y e).shift
theorem RS.empty (t : LamX.Tabs (tabK c.K) H) : RS c ρ H [] := ⟨t, fun i _ hi => absurd hi (Nat.not_lt_zero i), fun i x hx => by simp at hx⟩
end
def shR (n : Nat) (S : Store) : R W → R W
  | .ok w S1 => .ok (shW n w) (S ++ S1.map (shCell n))
  | .exc k fs S1 => .exc k (shF n fs) (S ++ S1.map (shCell n))
  | .bad => .bad
theorem Post.shift {c : Cn} {ρ : Nat → Addr} {H : Hp} {S : Store} {r : R W} {Q : VK} {E : XK} (rs : RS c ρ H S) (p : Post c ρ H S (shR S.length S r) Q E) : Post c ρ H [] r Q E := by
  cases r with
  | ok w S1 =>
    intro ρ' v H' f q
    refine p _ v H' (f.shift rs) ?_
    rw [List.length_append, List.length_map]
    exact q.shift
  | exc k fs S1 =>
    intro ρ' cv d H' f q
    refine p _ cv d H' (f.shift rs) ?_
    rw [List.length_append, List.length_map]
    exact q.shift
  | bad => exact p.elim
end Dn

set_option maxHeartbeats 2000000
/-! Dn11: defs: promises by plain functions, calls, methods, new instances -/
namespace Dn
open PySem PySem.Spec PyProof.Rows L2

abbrev FW := List W → Store → R W
/-- a def's body, its end taken as the call's -/
def bodyR : Fl → R W
  | .nx _ S' => .ok .non S'
  | .rt w S' => .ok w S'
  | .exc k fs _ S' => .exc k fs S'
  | _ => .bad
def bodyD (N n : Nat) (d : DS) : FW := fun ws S => if ws.length = n then bodyR (d (ws.map some ++ List.replicate (N - n) none) S) else .bad
theorem bodyD_at {N n : Nat} {d : DS} {ws : List W} {S : Store} (h : ws.length = n) : bodyD N n d ws S = bodyR (d (ws.map some ++ List.replicate (N - n) none) S) := if_pos h
theorem bodyD_off {N n : Nat} {d : DS} {ws : List W} {S : Store} (h : ws.length ≠ n) : bodyD N n d ws S = .bad := if_neg h
/-- the promise of a def that does what f does -/
def SpD (c : Cn) (n : Nat) (f : FW) : Sp := fun vs H Q E => vs.length = n ∧ ∃ ρ ws S, RS c ρ H S ∧ RWs c ρ S.length H ws vs ∧ Post c ρ H S (f ws S) Q E
theorem start_at {N : List Str} {vs : List V} {i : Nat} {v : V} (h : vs[i]? = some v) : (L2.start N vs)[i]? = some (some v) := by
  unfold L2.start
  rw [List.getElem?_append_left (by simpa using (List.getElem?_eq_some_iff.mp h).1), List.getElem?_map, h]
  rfl
theorem re_start {c : Cn} {ρ : Nat → Addr} {m n : Nat} {H : Hp} {N : List Str} {ws : List W} {vs : List V} (r : RWs c ρ m H ws vs) (hn : ws.length = n) : RE c none ρ m H (ws.map some ++ List.replicate (N.length - n) none) (L2.start N vs) := by
  refine ⟨?_, fun i w e => ?_, fun z e => nomatch e⟩
  · unfold L2.start
    rw [List.length_append, List.length_append, List.length_map, List.length_map, List.length_replicate, List.length_replicate, ← hn, r.length]
  · by_cases hi : i < ws.length
    · rw [List.getElem?_append_left (by simpa using hi), List.getElem?_map] at e
      cases q : ws[i]? with
      | none => rw [q] at e; cases e
      | some u =>
        rw [q] at e
        cases e
        obtain ⟨v, h1, h2⟩ := r.get q
        exact ⟨v, start_at h1, h2⟩
    · rw [List.getElem?_append_right (by simpa using hi), List.getElem?_replicate] at e
      split at e <;> cases e
/-- f is the body d, what is left over set aside -/
def Does (N n : Nat) (d : DS) (f : FW) : Prop := ∀ ws S, ws.length = n → ltWs S.length ws = true → ClS S.length S → Tr S.length (bodyD N n d ws S) (f ws S)
theorem Tr.self {n : Nat} {r : R W} (h : match r with
    | .ok w S' => n ≤ S'.length ∧ ClS S'.length S' ∧ ltW S'.length w = true
    | .exc k fs S' => n ≤ S'.length ∧ ClS S'.length S' ∧ ltWs S'.length (fs.map (·.2)) = true
    | .bad => True) : Tr n r r := by
  cases r with
  | ok w S' => exact ⟨[], by rw [List.append_nil], h⟩
  | exc k fs S' => exact ⟨[], by rw [List.append_nil], h⟩
  | bad => trivial
/-- the code object of the def at fa -/
def Cod (K : PySem.W.Frag) (fa : Addr) (cdv : Value) (q : Str) : Prop := PySem.W.codeIn K cdv q = true ∧ ∃ (oc : Value) (od : Option Addr) (osl : Array (Option Value)) (fd : FuncData), K.lookup fa = some ⟨oc, od, .func fd, osl⟩ ∧ fd.code = cdv
section
variable {P : Program} {w : World} {K : PySem.W.Frag} {mg : Str → Option Value} {base : Heap}
/-- THE RULE: a def keeps the promise of its body's meaning -/
theorem fnD {x qual : Str} {params : Arguments} {body : List Stmt} {scope : Scope} {dvs : List V} {kws : List (Str × V)} {fa : Addr} {fd : FuncData} {N ps : List Str} {n k : Nat} {d : DS} {f : FW} (F : FunD K x qual params body scope dvs kws fa fd) (Sc : FnScope N ps scope) (hn : n = ps.length)
    (hb : ∀ (cdv : Value) (A : Around) (outer : List PySem.Env) (s : Shared) (H : Hp) (E : XK), Cod K fa cdv qual → Room k (A.deeper (envOfC qual scope s.heap.objs.size fa cdv)) → SSs (cxOf (L2.CX P w) P w K mg base N qual scope fa cdv A outer s H E) none body d)
    (hd : (∀ ws S, f ws S = bodyD N.length n d ws S) ∨ Does N.length n d f) : FnOk P w K mg base (L2.CX P w) (k + 1) fa fd ps (SpD ⟨K, mg⟩ n f) := by
  obtain ⟨oc, od, dV, kV, doc, pm, an, cdv, ct, osl, rfl, lk, hcd, _, _⟩ := F.ex
  refine fn_of lk hcd Sc (fun vs H Q E h => h.1.trans hn) fun A outer s H vs Q E hr ⟨hl, ρ, ws, S, hS, hW, p⟩ => ?_
  have tk : Takes (cxOf (L2.CX P w) P w K mg base N qual scope fa cdv A outer s H E) (fun cls d _ H => E cls d H) := takes_of rfl rfl rfl rfl
  have hlw : ws.length = n := hW.length.trans hl
  refine ⟨_, (hb cdv A outer s H E ⟨hcd, oc, od, osl, _, lk, rfl⟩ hr).pss _ tk, ρ, _, S, re_start (N := N) hW hlw, hS, ?_⟩
  have p2 : Post ⟨K, mg⟩ ρ H S (bodyD N.length n d ws S) Q E := by
    rcases hd with h | h
    · rw [← h]; exact p
    · exact p.trim (h ws S hlw hW.lt hS.cl)
  rw [bodyD_at hlw] at p2
  revert p2
  cases e : d (ws.map some ++ List.replicate (N.length - n) none) S with
  | nx env1 S1 => exact fun p2 ρ' σ' H' f r => p2 ρ' .non H' f .non
  | rt w S1 => exact fun p2 => p2
  | bk env1 S1 => exact fun p2 => p2.elim
  | ct env1 S1 => exact fun p2 => p2.elim
  | exc k fs env1 S1 => exact fun p2 ρ' σ' cv dd H' f r x => p2 ρ' cv dd H' f x
  | bad => exact fun p2 => p2.elim
/-- a def that is called by its name -/
structure Cal (P : Program) (w : World) (K : PySem.W.Frag) (mg : Str → Option Value) (base : Heap) (k : Nat) (x : Str) (dws : List W) (f : FW) : Prop where
  ex : ∃ (fa : Addr) (fd : FuncData) (ps : List Str) (n : Nat) (ds : List Value) (dvs : List V), FnOk P w K mg base (L2.CX P w) k fa fd ps (SpD ⟨K, mg⟩ n f) ∧ (∀ ws S, ws.length ≠ n → f ws S = .bad) ∧ mg x = some (.ref fa) ∧ PySem.W.keepIn K (.ref fa) = true ∧ Binds K fd ps ds ∧ Vals dvs ds ∧
    ∀ ρ n H, RWs ⟨K, mg⟩ ρ n H dws dvs
/-- a method of the class of the name c -/
structure Met (P : Program) (w : World) (K : PySem.W.Frag) (mg : Str → Option Value) (base : Heap) (k : Nat) (c m : Str) (f : FW) : Prop where
  ex : ∃ (C fa : Addr) (fd : FuncData) (ps : List Str) (n : Nat), FnOk P w K mg base (L2.CX P w) k fa fd ps (SpD ⟨K, mg⟩ n f) ∧ (∀ ws S, ws.length ≠ n → f ws S = .bad) ∧ mg c = some (.ref C) ∧ Cls K C ∧ Meth K C m fa ∧ Binds K fd ps []
/-- a class of the name c, f its __init__ -/
structure Mak (P : Program) (w : World) (K : PySem.W.Frag) (mg : Str → Option Value) (base : Heap) (k : Nat) (c : Str) (f : FW) : Prop where
  ex : ∃ (C fa : Addr) (fd : FuncData) (ps : List Str) (n : Nat), FnOk P w K mg base (L2.CX P w) k fa fd ps (SpD ⟨K, mg⟩ n f) ∧ (∀ ws S, ws.length ≠ n → f ws S = .bad) ∧ mg c = some (.ref C) ∧ Mk K C fa ∧ Binds K fd ps []
end
section
variable {X : Cx} {cur : Option Cur} {pos : Pos}
theorem Takes.at {E : WX} (tk : Takes X E) (σ : L2.St) : PassesAt (L2.CX X.prog X.w) X σ (WE E σ) := passAt tk σ
/-- behind the arguments: the call -/
theorem post_call {c : Cn} {ρ : Nat → Addr} {H : Hp} {S : Store} {ws dws : List W} {vs dvs : List V} {f : FW} {n : Nat} {Q : VK} {E : XK} (hS : RS c ρ H S) (r : RWs c ρ S.length H ws vs) (rd : RWs c ρ S.length H dws dvs) (hf : ∀ ws S, ws.length ≠ n → f ws S = .bad)
    (p : Post c ρ H S (f (ws ++ dws) S) Q E) : SpD c n f (vs ++ dvs) H Q E := by
  have ra := r.append rd
  refine ⟨?_, ρ, ws ++ dws, S, hS, ra, p⟩
  rw [← ra.length]
  by_cases h : (ws ++ dws).length = n
  · exact h
  · rw [hf _ S h] at p; exact p.elim
def dCallF (f : FW) (dws : List W) (da : DA) : DE := fun env S => (da env S).bind fun ws S1 => f (ws ++ dws) S1
theorem se_call {k j : Nat} {x : Str} {p : Pos} {dws : List W} {f : FW} {e : Expr} {es : List Expr} {da : DA} (c : Cal X.prog X.w X.K X.mg X.base k x dws f) (hr : Room j X.A) (hk : k ≤ j) (ha : SA X cur (e :: es) da) (hg : Gl X x := by rfl)
    (hdb : (x == ("__debug__" : Str)) = false := by decide) (he : starEach (e :: es) X.env = (false, eval e X.env) :: starEach es X.env := by rfl) (hpl : (backTo pos (starEach es X.env)).any (·.1) = false := by rfl) : SE X cur (.Call (.Name x p) (e :: es) [] pos) (dCallF f dws da) := ⟨fun E tk => by
  obtain ⟨fa, fd, ps, n, ds, dvs, F, hf, hm, kp, hb, hv, hw⟩ := c.ex
  refine PE.imp (pe_callSD F (hr.mono hk) hg hm kp hb hv (fun σ => Takes.at tk σ) (ha.pa E tk) hdb he hpl) fun σ H Q ⟨ρ, env, S, hE, hS, p⟩ => ?_
  exact (bindA hE hS p).mono fun vs H1 ⟨ρ1, S1, ws, rs1, re1, rw1, f1, p1⟩ => post_call rs1 rw1 (hw ρ1 _ H1) hf p1⟩
theorem pe_callSD0 {CX : CXT} {k : Nat} {f : Addr} {fd : FuncData} {ps : List Str} {sp : Sp} {dvs : List V} {ds : List Value} {E : L2.St → XK} {x : Str} {p : Pos} (F : FnOk X.prog X.w X.K X.mg X.base CX k f fd ps sp) (hr : Room k X.A) (hg : Gl X x) (hm : X.mg x = some (.ref f)) (hk : PySem.W.keepIn X.K (.ref f) = true) (hb : Binds X.K fd ps ds) (hd : Vals dvs ds)
    (hx : ∀ σ, PassesAt CX X σ (E σ)) (hdb : (x == ("__debug__" : Str)) = false := by decide) : PE X (.Call (.Name x p) [] [] pos) (tCallSD sp dvs E tNil) := ⟨fun pins s σ H Q I h => by
  refine wpAny_Call_Name_kw (ld_glob I hg hm ?_ hdb)
  exact PySem.W.callWith_K0 I.kIn hk (run_fnSD (us := []) F hr hb hd (hx σ) I .nil h)⟩
theorem se_call0 {k j : Nat} {x : Str} {p : Pos} {dws : List W} {f : FW} (c : Cal X.prog X.w X.K X.mg X.base k x dws f) (hr : Room j X.A) (hk : k ≤ j) (hg : Gl X x := by rfl)
    (hdb : (x == ("__debug__" : Str)) = false := by decide) : SE X cur (.Call (.Name x p) [] [] pos) (fun _ S => f dws S) := ⟨fun E tk => by
  obtain ⟨fa, fd, ps, n, ds, dvs, F, hf, hm, kp, hb, hv, hw⟩ := c.ex
  exact PE.imp (pe_callSD0 F (hr.mono hk) hg hm kp hb hv (fun σ => Takes.at tk σ) hdb) fun σ H Q ⟨ρ, env, S, hE, hS, p⟩ => post_call (ws := []) hS .nil (hw ρ _ H) hf p⟩
/-! methods -/
def tMethSD (C : Addr) (m : Str) (sp : Sp) (E : L2.St → XK) (ta : TE) (t : TA) : TE := fun σ H Q => ta σ H fun x H1 => ∃ a dx fs, x = .ref a ∧ H1 a = some (.ins C dx fs) ∧ fs.lookup m = none ∧ t σ H1 fun vs H2 => sp (x :: vs) H2 Q (E σ)
section
variable {CX : CXT} {k : Nat} {C f : Addr} {fd : FuncData} {ps : List Str} {sp : Sp} {E : L2.St → XK} {x m : Str} {p apos : Pos} {e o : Expr} {es : List Expr} {ta : TE} {t : TA}
theorem pe_methSD {pl : Sem Bool} (he : PE X o ta) (c : Cls X.K C) (hm : Meth X.K C m f) (F : FnOk X.prog X.w X.K X.mg X.base CX k f fd ps sp) (hr : Room k X.A) (hb : Binds X.K fd ps []) (hx : ∀ σ, PassesAt CX X σ (E σ)) (ha : PA X (e :: es) t)
    (hst : starEach (e :: es) X.env = (false, eval e X.env) :: starEach es X.env) (hpl : (backTo pos (starEach es X.env)).any (·.1) = false)
    (ht : eval (.Call (.Attribute o m apos) (e :: es) [] pos) X.env = (do
      let ov ← eval o X.env
      standAt apos.atName
      let (f, first) ← holding [ov] (getMethod ov m pl)
      callWith pos f first (backTo pos (starEach (e :: es) X.env)) (backToKw pos (keywordEach [] X.env)))) :
    PE X (.Call (.Attribute o m apos) (e :: es) [] pos) (tMethSD C m sp E ta t) := ⟨fun pins s σ H Q I h =>
  PySem.W.methodCall_KW (pl := pl) (thn (he.run pins s σ H _ I h) fun u s1 ⟨x, H1, I1, rx, a, dx, fs, ex, ea, l, q⟩ => by
    subst ex
    obtain rfl : u = Value.ref a := rx
    refine getmeth_ok I1 ea c hm l (PySem.W.callWith_K (first := [.ref a]) (h₀ := X.base) I.ok.mod.kin hm.kp (thn (ha.run pos pins s1 σ H1 _ I1 q) fun us s2 ⟨vs, H2, I2, r, q2⟩ => ⟨I2.kIn, ?_⟩) hst hpl)
    exact run_fnSD (us := .ref a :: us) (vs := .ref a :: vs) (dvs := []) (ds := []) F hr hb .nil (hx σ) I2 (.cons rfl r) (by rw [List.append_nil]; exact q2)) ht⟩
theorem pe_methSD0 {pl : Sem Bool} (he : PE X o ta) (c : Cls X.K C) (hm : Meth X.K C m f) (F : FnOk X.prog X.w X.K X.mg X.base CX k f fd ps sp) (hr : Room k X.A) (hb : Binds X.K fd ps []) (hx : ∀ σ, PassesAt CX X σ (E σ))
    (ht : eval (.Call (.Attribute o m apos) [] [] pos) X.env = (do
      let ov ← eval o X.env
      standAt apos.atName
      let (f, first) ← holding [ov] (getMethod ov m pl)
      callWith pos f first (backTo pos (starEach [] X.env)) (backToKw pos (keywordEach [] X.env)))) :
    PE X (.Call (.Attribute o m apos) [] [] pos) (tMethSD C m sp E ta tNil) := ⟨fun pins s σ H Q I h =>
  PySem.W.methodCall_KW (pl := pl) (thn (he.run pins s σ H _ I h) fun u s1 ⟨x, H1, I1, rx, a, dx, fs, ex, ea, l, q⟩ => by
    subst ex
    obtain rfl : u = Value.ref a := rx
    exact getmeth_ok I1 ea c hm l (PySem.W.callWith_K0 (first := [.ref a]) I1.kIn hm.kp (run_fnSD (us := [.ref a]) (vs := [.ref a]) (dvs := []) (ds := []) F hr hb .nil (hx σ) I1 (.cons rfl .nil) q))) ht⟩
end
/-- the object is an instance of the class of that name, of no field of the method's name -/
def metO (c m : Str) (S : Store) : W → Bool
  | .ref i => match S[i]? with
    | some (.ins k fs) => decide (k = c) && (fs.lookup m).isNone
    | _ => false
  | _ => false
def dMethF (c m : Str) (f : FW) (d : DE) (da : DA) : DE := fun env S => (d env S).bind fun o S1 => if metO c m S1 o = true then (da env S1).bind fun ws S2 => f (o :: ws) S2 else .bad
theorem lookup_none {α : Type} {m : Str} : ∀ {fs : List (Str × W)} {gs : List (Str × α)}, gs.map (·.1) = fs.map (·.1) → fs.lookup m = none → gs.lookup m = none
  | [], [], _, _ => rfl
  | [], _ :: _, h, _ => by simp at h
  | _ :: _, [], h, _ => by simp at h
  | (a, x) :: fs, (b, y) :: gs, h, e => by
    rw [List.map_cons, List.map_cons] at h
    injection h with h1 h2
    have h1 : b = a := h1
    subst h1
    rw [List.lookup_cons] at e ⊢
    cases q : (m == b) with
    | true => rw [q] at e; cases e
    | false => rw [q] at e; exact lookup_none h2 e
theorem metO_ok {c : Cn} {k m : Str} {C : Addr} {ρ : Nat → Addr} {H : Hp} {S : Store} {o : W} {v : V} (hS : RS c ρ H S) (r : RW c ρ S.length H o v) (hC : c.mg k = some (.ref C)) (e : metO k m S o = true) : ∃ a dx fs, v = .ref a ∧ H a = some (.ins C dx fs) ∧ fs.lookup m = none := by
  cases r with
  | ref hi =>
    rename_i i
    unfold metO at e
    cases q : S[i]? with
    | none => simp only [q] at e; cases e
    | some x =>
      simp only [q] at e
      cases x with
      | lst xs => simp at e
      | dic xs => simp at e
      | ins k2 fs =>
        simp only [Bool.and_eq_true, decide_eq_true_eq, Option.isNone_iff_eq_none] at e
        obtain ⟨C', dx, gs, h0, h1, h2, h3⟩ := hS.cell i _ q
        rw [e.1] at h0
        rw [hC] at h0
        cases h0
        exact ⟨_, dx, gs, rfl, h1, lookup_none h2 e.2⟩
  | _ => cases e
theorem se_meth {k j : Nat} {c m : Str} {f : FW} {o e : Expr} {es : List Expr} {d : DE} {da : DA} {apos : Pos} {pl : Sem Bool} (M : Met X.prog X.w X.K X.mg X.base k c m f) (hr : Room j X.A) (hk : k ≤ j) (ho : SE X cur o d) (ha : SA X cur (e :: es) da)
    (hst : starEach (e :: es) X.env = (false, eval e X.env) :: starEach es X.env := by rfl) (hpl : (backTo pos (starEach es X.env)).any (·.1) = false := by rfl)
    (ht : eval (.Call (.Attribute o m apos) (e :: es) [] pos) X.env = (do
      let ov ← eval o X.env
      standAt apos.atName
      let (f, first) ← holding [ov] (getMethod ov m pl)
      callWith pos f first (backTo pos (starEach (e :: es) X.env)) (backToKw pos (keywordEach [] X.env))) := by rfl) : SE X cur (.Call (.Attribute o m apos) (e :: es) [] pos) (dMethF c m f d da) := ⟨fun E tk => by
  obtain ⟨C, fa, fd, ps, n, F, hf, hC, cls, hm, hb⟩ := M.ex
  refine PE.imp (pe_methSD (pl := pl) (ho.pe E tk) cls hm F (hr.mono hk) hb (fun σ => Takes.at tk σ) (ha.pa E tk) hst hpl ht) fun σ H Q ⟨ρ, env, S, hE, hS, p⟩ => ?_
  refine (bindE hE hS p).mono fun v H1 ⟨ρ1, S1, w, rs1, re1, rw1, f1, _, p1⟩ => ?_
  by_cases q : metO c m S1 w = true
  · rw [if_pos q] at p1
    obtain ⟨a, dx, fs, e1, e2, e3⟩ := metO_ok rs1 rw1 hC q
    refine ⟨a, dx, fs, e1, e2, e3, (bindA re1 rs1 p1).mono fun vs H2 ⟨ρ2, S2, ws, rs2, re2, rw2, f2, p2⟩ => ?_⟩
    have := post_call (ws := w :: ws) (dws := []) (vs := v :: vs) (dvs := []) rs2 (.cons (f2.rw rs1 rw1) rw2) .nil hf (by rw [List.append_nil]; exact p2)
    rwa [List.append_nil] at this
  · rw [if_neg q] at p1; exact p1.elim⟩
theorem se_meth0 {k j : Nat} {c m : Str} {f : FW} {o : Expr} {d : DE} {apos : Pos} {pl : Sem Bool} (M : Met X.prog X.w X.K X.mg X.base k c m f) (hr : Room j X.A) (hk : k ≤ j) (ho : SE X cur o d)
    (ht : eval (.Call (.Attribute o m apos) [] [] pos) X.env = (do
      let ov ← eval o X.env
      standAt apos.atName
      let (f, first) ← holding [ov] (getMethod ov m pl)
      callWith pos f first (backTo pos (starEach [] X.env)) (backToKw pos (keywordEach [] X.env))) := by rfl) : SE X cur (.Call (.Attribute o m apos) [] [] pos) (dMethF c m f d dNil) := ⟨fun E tk => by
  obtain ⟨C, fa, fd, ps, n, F, hf, hC, cls, hm, hb⟩ := M.ex
  refine PE.imp (pe_methSD0 (pl := pl) (ho.pe E tk) cls hm F (hr.mono hk) hb (fun σ => Takes.at tk σ) ht) fun σ H Q ⟨ρ, env, S, hE, hS, p⟩ => ?_
  refine (bindE hE hS p).mono fun v H1 ⟨ρ1, S1, w, rs1, re1, rw1, f1, _, p1⟩ => ?_
  by_cases q : metO c m S1 w = true
  · rw [if_pos q] at p1
    obtain ⟨a, dx, fs, e1, e2, e3⟩ := metO_ok rs1 rw1 hC q
    refine ⟨a, dx, fs, e1, e2, e3, ?_⟩
    exact post_call (ws := [w]) (dws := []) (vs := [v]) (dvs := []) rs1 (.cons rw1 .nil) .nil hf p1
  · rw [if_neg q] at p1; exact p1.elim⟩
/-! new instances -/
def tMakeSD (C : Addr) (sp : Sp) (E : L2.St → XK) (t : TA) : TE := fun σ H Q => t σ H fun vs H1 => ∀ x dx, H1 x = none → H1 dx = none → dx ≠ x → sp (.ref x :: vs) (upd (upd H1 dx (.own x)) x (.ins C dx [])) (fun v H2 => v = .non ∧ Q (.ref x) H2) (E σ)
theorem run_makeSD {CX : CXT} {k : Nat} {C f : Addr} {fd : FuncData} {ps : List Str} {sp : Sp} {E : XK} {pins : List (Addr × Obj)} {σ : L2.St} {H : Hp} {s : Shared} {Q : VK} {us : List Value} {vs : List V} (M : Mk X.K C f) (F : FnOk X.prog X.w X.K X.mg X.base CX k f fd ps sp) (hr : Room (k + 1) X.A) (hb : Binds X.K fd ps [])
    (hx : PassesAt CX X σ E) (I : Inv X pins σ H s) (r : Vals vs us)
    (h : ∀ x dx, H x = none → H dx = none → dx ≠ x → sp (.ref x :: vs) (upd (upd H dx (.own x)) x (.ins C dx [])) (fun v H2 => v = .non ∧ Q (.ref x) H2) E) :
    wpAny (model X.prog X.w) X.A (call (.ref C) us) (EP X pins σ Q) X.xe s := by
  have hq := h (s.heap.objs.size + 1) s.heap.objs.size (I.hok.fresh (Nat.le_succ _)) (I.hok.fresh (Nat.le_refl _)) (Nat.ne_of_lt (Nat.lt_succ_self _))
  have I2 := Inv.made (C := C) I
  have r2 : Vals (V.ref (s.heap.objs.size + 1) :: vs) (Value.ref (s.heap.objs.size + 1) :: us) := .cons rfl r
  have hl : ((Value.ref (s.heap.objs.size + 1) :: us) ++ []).length = ps.length := by
    rw [List.append_nil, ← r2.length]
    exact F.len _ _ _ _ hq
  have hbb := hb _ (Value.ref (s.heap.objs.size + 1) :: us) I2.kIn hl
  rw [List.append_nil] at hbb
  refine wpAny_call (make_map (f := f) I.kIn M.makes M.init (beq_iff_eq.mp M.fn) (codeAny_mono (F.run _ X.stack _ _ ⟨Value.ref (s.heap.objs.size + 1) :: us, []⟩ (Value.ref (s.heap.objs.size + 1) :: us) _ _ E (hr.make C us []) (I2.env0.make C us []) hbb r2 hq) fun r s' hq' => ?_))
  cases r with
  | error e => exact hx pins _ _ e s' I2 hq'
  | ok fl =>
    cases fl with
    | ret u =>
      obtain ⟨v, H', I3, rv, ev, q3⟩ := I2.after hq'
      subst ev
      exact ⟨rv, ⟨V.ref (s.heap.objs.size + 1), H', I3, rfl, q3⟩⟩
    | next => exact False.elim hq'
    | brk => exact False.elim hq'
    | cont => exact False.elim hq'
/-- a new instance of the class of the name c, by its __init__ -/
def newI (c : Str) (f : FW) : FW := fun ws S => (f (.ref S.length :: ws) (S ++ [.ins c []])).bind fun u S' => match u with
  | .non => .ok (.ref S.length) S'
  | _ => .bad
def dMake (c : Str) (f : FW) (da : DA) : DE := fun env S => (da env S).bind fun ws S1 => newI c f ws S1
theorem post_make {c : Cn} {k : Str} {C : Addr} {ρ : Nat → Addr} {H : Hp} {S : Store} {ws : List W} {vs : List V} {f : FW} {n : Nat} {Q : VK} {E : XK} (hC : c.mg k = some (.ref C)) (hS : RS c ρ H S) (r : RWs c ρ S.length H ws vs) (hf : ∀ ws S, ws.length ≠ n → f ws S = .bad)
    (p : Post c ρ H S (newI k f ws S) Q E) {x dx : Addr} (h1 : H x = none) (h2 : H dx = none) (ne : dx ≠ x) : SpD c n f (.ref x :: vs) (upd (upd H dx (.own x)) x (.ins C dx [])) (fun v H2 => v = .non ∧ Q (.ref x) H2) E := by
  have f1 : Fut c ρ H S ρ (upd H dx (.own x)) S := Fut.tup hS h2
  have h3 : upd H dx (.own x) x = none := by rw [upd_ne (Ne.symm ne)]; exact h1
  have f2 : Fut c ρ (upd H dx (.own x)) S (ext ρ S.length x) (upd (upd H dx (.own x)) x (.ins C dx [])) (S ++ [.ins k []]) := Fut.new f1.rs h3 ⟨C, dx, [], hC, upd_same, rfl, .nil⟩
  have f3 := f1.trans hS f2
  have rx : RW c (ext ρ S.length x) (S ++ [Cell.ins k []]).length (upd (upd H dx (.own x)) x (.ins C dx [])) (.ref S.length) (.ref x) := by
    have : RW c (ext ρ S.length x) (S ++ [Cell.ins k []]).length (upd (upd H dx (.own x)) x (.ins C dx [])) (.ref S.length) (.ref (ext ρ S.length x S.length)) := .ref (by simp)
    rwa [ext_at] at this
  have key := Post.fut hS f3 p
  have e2 : SpD c n f ((.ref x :: vs) ++ []) (upd (upd H dx (.own x)) x (.ins C dx [])) (fun v H2 => v = .non ∧ Q (.ref x) H2) E := by
    refine post_call (ws := .ref S.length :: ws) (dws := []) f2.rs (.cons rx (f3.rws hS r)) .nil hf ?_
    rw [List.append_nil]
    unfold newI at key
    revert key
    cases e : f (.ref S.length :: ws) (S ++ [.ins k []]) with
    | ok u S' =>
      intro key
      rw [R.bind_ok] at key
      intro ρ' v H' f' rv
      cases u with
      | non => exact ⟨by cases rv; rfl, key ρ' _ H' f' (f'.rw f2.rs rx)⟩
      | _ => exact key.elim
    | exc q fs S' => exact fun key => key
    | bad => exact fun key => key.elim
  rwa [List.append_nil] at e2
theorem se_make {k j : Nat} {c : Str} {f : FW} {p : Pos} {e : Expr} {es : List Expr} {da : DA} (M : Mak X.prog X.w X.K X.mg X.base k c f) (hr : Room j X.A) (hk : k + 1 ≤ j) (ha : SA X cur (e :: es) da) (hg : Gl X c := by rfl)
    (hdb : (c == ("__debug__" : Str)) = false := by decide) (he : starEach (e :: es) X.env = (false, eval e X.env) :: starEach es X.env := by rfl) (hpl : (backTo pos (starEach es X.env)).any (·.1) = false := by rfl) : SE X cur (.Call (.Name c p) (e :: es) [] pos) (dMake c f da) := ⟨fun E tk => by
  obtain ⟨C, fa, fd, ps, n, F, hf, hC, mk, hb⟩ := M.ex
  have rule : PE X (.Call (.Name c p) (e :: es) [] pos) (tMakeSD C (SpD (cn X) n f) (fun σ => WE E σ) (tDA (cn X) cur da E)) := ⟨fun pins s σ H Q I h => by
    refine wpAny_Call_Name_kw (ld_glob I hg hC ?_ hdb)
    exact PySem.W.callWith_K (h₀ := X.base) I.ok.mod.kin mk.kp (thn ((ha.pa E tk).run pos pins s σ H _ I h) fun us s1 ⟨vs, H1, I1, r, q⟩ => ⟨I1.kIn, run_makeSD mk F (hr.mono hk) hb (Takes.at tk σ) I1 r q⟩) he hpl⟩
  exact PE.imp rule fun σ H Q ⟨ρ, env, S, hE, hS, p⟩ => (bindA hE hS p).mono fun vs H1 ⟨ρ1, S1, ws, rs1, re1, rw1, f1, p1⟩ x dx h1 h2 ne => post_make (c := cn X) hC rs1 rw1 hf p1 h1 h2 ne⟩
theorem se_make0 {k j : Nat} {c : Str} {f : FW} {p : Pos} (M : Mak X.prog X.w X.K X.mg X.base k c f) (hr : Room j X.A) (hk : k + 1 ≤ j) (hg : Gl X c := by rfl) (hdb : (c == ("__debug__" : Str)) = false := by decide) : SE X cur (.Call (.Name c p) [] [] pos) (fun _ S => newI c f [] S) := ⟨fun E tk => by
  obtain ⟨C, fa, fd, ps, n, F, hf, hC, mk, hb⟩ := M.ex
  have rule : PE X (.Call (.Name c p) [] [] pos) (tMakeSD C (SpD (cn X) n f) (fun σ => WE E σ) tNil) := ⟨fun pins s σ H Q I h => by
    refine wpAny_Call_Name_kw (ld_glob I hg hC ?_ hdb)
    exact PySem.W.callWith_K0 I.kIn mk.kp (run_makeSD (us := []) mk F (hr.mono hk) hb (Takes.at tk σ) I .nil h)⟩
  exact PE.imp rule fun σ H Q ⟨ρ, env, S, hE, hS, p⟩ x dx h1 h2 ne => post_make (c := cn X) hC hS .nil hf p h1 h2 ne⟩
end
end Dn

set_option maxHeartbeats 4000000
/-! Dn12: raise, try, except clauses with and without a name -/
namespace Dn
open PySem PySem.Spec PyProof.Rows L2

/-! ### several clauses, named or not -/
/-- how a suite ends when its name is unbound behind it -/
def unset (D : Ends) (i : Nat) : Ends := { nx := fun σ H => D.nx (σ.set i none) H, rt := D.rt, bk := fun σ H => D.bk (σ.set i none) H, ct := fun σ H => D.ct (σ.set i none) H }
abbrev Suite := Addr → Value → Option Addr → TS
/-- one clause's wish -/
def wOne (D : Ends) (oi : Option Nat) (ts : Suite) (a : Addr) (cls : Value) (d : Option Addr) (σ : L2.St) (H : Hp) : Prop := match oi with
  | none => ts a cls d D σ H
  | some i => ts a cls d (unset D i) (σ.set i (some (.ref a))) H
def wAll (K : PySem.W.Frag) (Wout : WX) (D : Ends) : List (Value × Option Nat × Suite) → WX
  | [] => Wout
  | (c, oi, ts) :: r => fun cls d σ H => ∃ b, PySem.W.exmOne K cls c = some b ∧ (b = true → ∀ a, H a = none → wOne D oi ts a cls d σ H) ∧ (b = false → wAll K Wout D r cls d σ H)
/-- a clause: its name's slot, if any -/
def NmOk (X : Cx) : Option Str → Option Nat → Prop
  | none, none => True
  | some n, some i => X.N.Nodup ∧ X.N[i]? = some n ∧ X.env.kindOf n = some .local
  | _, _ => False
inductive Hds (X : Cx) : List ExceptHandler → List (Value × Option Nat × Suite) → Prop
  | nil : Hds X [] []
  | cons {x : Str} {c : Value} {on : Option Str} {oi : Option Nat} {ts : Suite} {b₀ : Stmt} {suite : List Stmt} {np pos' : Pos} {hds : List ExceptHandler} {l : List (Value × Option Nat × Suite)} (hc : Names X x c) (hn : NmOk X on oi)
      (hsu : ∀ (a : Addr) (oe : Obj) (cls : Value) (d : Option Addr) (pn : List (Addr × Obj)), Zc cls d oe → (∃ vs, oe.data = .fields vs) → PSs (X.suite a ((a, oe) :: pn)) (b₀ :: suite) (ts a cls d)) (r : Hds X hds l) :
      Hds X (.ExceptHandler (some (.Name x np)) on (b₀ :: suite) pos' :: hds) ((c, oi, ts) :: l)
section
variable {X : Cx}
/-- behind a suite: the ends as they were -/
theorem unsuite_sp {a : Addr} {oe : Obj} {pins : List (Addr × Obj)} {D : Ends} {f : Flow} {s : Shared} (ok : X.Ok) (h : SP (X.suite a ((a, oe) :: (X.pn ++ pins))) [] D f s) : SP X pins D f s := by
  cases f with
  | next => obtain ⟨σ, H, I, q⟩ := h; exact ⟨_, _, I.unsuite ok, q⟩
  | brk => obtain ⟨σ, H, I, q⟩ := h; exact ⟨_, _, I.unsuite ok, q⟩
  | cont => obtain ⟨σ, H, I, q⟩ := h; exact ⟨_, _, I.unsuite ok, q⟩
  | ret u => obtain ⟨v, σ, H, I, r, q⟩ := h; exact ⟨_, _, _, I.unsuite ok, r, q⟩
theorem unname_sp {a : Addr} {oe : Obj} {pins : List (Addr × Obj)} {D : Ends} {f : Flow} {s : Shared} {i : Nat} {n : Str} {pos' : Pos} (ok : X.Ok) (hN : X.N.Nodup) (hi : X.N[i]? = some n) (hln : X.env.kindOf n = some .local) (h : SP (X.suite a ((a, oe) :: (X.pn ++ pins))) [] (unset D i) f s) :
    wpAny (model X.prog X.w) X.A (do bindName X.env n .none; unbindBehindTheSuite X.env n pos') (fun _ s7 => SP X pins D f s7) X.xe s := by
  cases f with
  | next => obtain ⟨σ, H, I, q⟩ := h; exact gone_ok (I.unsuite ok) hN hi hln fun s7 J => ⟨_, _, J, q⟩
  | brk => obtain ⟨σ, H, I, q⟩ := h; exact gone_ok (I.unsuite ok) hN hi hln fun s7 J => ⟨_, _, J, q⟩
  | cont => obtain ⟨σ, H, I, q⟩ := h; exact gone_ok (I.unsuite ok) hN hi hln fun s7 J => ⟨_, _, J, q⟩
  | ret u => obtain ⟨v, σ, H, I, r, q⟩ := h; exact gone_ok (I.unsuite ok) hN hi hln fun s7 J => ⟨_, _, _, J, r, q⟩
theorem ps_try_all {body : List Stmt} {h₀ : ExceptHandler} {hds : List ExceptHandler} {l : List (Value × Option Nat × Suite)} {pos : Pos} {tb : WX → TS} {Wout : WX} (hs : X.stack = X.env :: X.outer) (hf : X.env.frame = some X.env.locals) (tk : Takes X Wout)
    (hb : ∀ (W : WX) (pn : List (Addr × Obj)) (xe : Value → Shared → Prop), Takes (X.tr pn xe) W → PassesOwn (model X.prog X.w) X.A X.env xe → PSs (X.tr pn xe) body (tb W))
    (hh : Hds X (h₀ :: hds) l) : PS X (.Try body (h₀ :: hds) [] [] pos) (fun D σ H => tb (wAll X.K Wout D l) D σ H) := ⟨fun pins s σ H D I h => by
  have ok := I.ok
  have hfr : X.A.frames = some (X.env :: X.outer) := by rw [ok.frames, hs]
  refine wpAny_Try_except (wpAny_mono ((hb (wAll X.K Wout D l) (X.pn ++ pins) (fun e s₁ => wpAny (model X.prog X.w) X.A (noteFrame e X.env) (fun _ s₂ => wpAny (model X.prog X.w) X.A (setFlight e none) (fun _ s₃ =>
    wpAny (model X.prog X.w) X.A (handleBy e X.env (h₀ :: hds)) (SP X pins D) X.xe s₃) X.xe s₂) X.xe s₁) (fun u s' xx => ?_) PassesOwn.looking).run [] s σ H D (I.toTry _) h) (fun f s1 q => ?_) (fun e s1 he => he))
  · obtain ⟨a, B, sI, pins', σ', H', cls, d, rfl, J', nb, up, sky, na, os, ag, w⟩ := xx
    have J : Inv X pins σ' H' sI := J'.ofTry ok
    rw [show (X.tr (X.pn ++ pins) _).stack = X.env :: X.outer from hs] at sky
    show wpAny (model X.prog X.w) X.A (noteFrame (.ref a) X.env) _ _ _
    refine Sky.land Zc.steady hfr hf sky fun h3 fl3 up3 => ?_
    have J3 : Inv X pins σ' H' { s' with heap := h3 } := J.landed nb fl3.1 (up.trans up3) os ag
    obtain ⟨oe3, vs3, he3, hz3, hd3⟩ := fl3.there
    have nfr : a ∉ frs (X.env :: X.outer) := fun hm => by
      obtain ⟨_, o', e', hnf⟩ := fl3.2.2.1.mem hm
      rw [he3] at e'; cases e'
      exact hnf _ hd3
    have nL : a ≠ X.env.locals := fun z => nfr (List.mem_filterMap.mpr ⟨X.env, List.mem_cons_self, by rw [hf, z]⟩)
    have nF : a ∉ X.fs := fun hm => by
      obtain ⟨e, he, q⟩ := List.mem_filterMap.mp hm
      exact nfr (List.mem_filterMap.mpr ⟨e, List.mem_cons_of_mem _ he, q⟩)
    have S3 := J3.suite he3 hd3 na nL nF
    have go : ∀ {hds' : List ExceptHandler} {l' : List (Value × Option Nat × Suite)}, Hds X hds' l' → wAll X.K Wout D l' cls d σ' H' → wpAny (model X.prog X.w) X.A (handleBy (.ref a) X.env hds') (SP X pins D) X.xe { s' with heap := h3 } := by
      intro hds' l' hk
      induction hk with
      | nil =>
        intro w
        refine wpAny_handleBy_nil ?_
        obtain ⟨k1, k2, k3, oe, vs, T, oT, ts', he, hz, hd, h1, hr⟩ := id fl3
        unfold PySem.passOn
        refine wpAny_bind (wpAny_field he hd h1 ?_)
        rw [if_neg (show ¬ ((Value.ref T == Value.none) = true) from by simp)]
        have fin : wpAny (model X.prog X.w) X.A (setFlight (.ref a) X.env.frame) (fun _ s4 => wpAny (model X.prog X.w) X.A (throw (.ref a) : Sem Flow) (SP X pins D) X.xe s4) X.xe { s' with heap := h3 } := by
          rw [hf]
          exact HandSPX.setFlight_upZ fl3 fun h4 hh4 up4 => wpAny_throw (tk _ _ ⟨a, B, sI, pins, σ', H', cls, d, rfl, J, nb, (up.trans up3).trans up4, .inr (.inr (by rw [hs]; exact hh4)), na, os, ag, w⟩)
        first
          | exact wpAny_bind (wpAny_pure (wpAny_bind fin))
          | exact wpAny_bind fin
      | @cons x c on oi ts b₀ suite np pos' hds2 l2 hc hn hsu r ih =>
        rintro ⟨b, hb1, hyes, hno⟩
        refine wpAny_handleBy_cons (codeAny_handlers_test ?_) (by intro q; cases q)
        have LT : PySem.W.Looks (model X.prog X.w) h3 (typeOf (.ref a)) cls := fun A Q E s k q => wpAny_typeOf_ref (k _ _ he3) (by rw [hz3.1]; exact q)
        have LM := PySem.W.exm_one (M := model X.prog X.w) (J3.kIn) LT hb1
        have test : ∀ {Q : Value → Shared → Prop} {E : Value → Shared → Prop}, Q c { s' with heap := h3 } → wpAny (model X.prog X.w) (X.A.mark (some (.ref a))) (eval (.Name x np) X.env) Q E { s' with heap := h3 } := fun {Q E} q => by
          obtain ⟨hg, hdbg, hm | ⟨hm, hv, hnn⟩⟩ := hc
          · exact ld_glob (X := X.suite a ((a, oe3) :: (X.pn ++ pins))) S3 hg hm q hdbg
          · exact ld_blt (X := X.suite a ((a, oe3) :: (X.pn ++ pins))) S3 hg hm hv q hnn hdbg
        refine test (LM.here ?_)
        cases b with
        | false => exact ih (hno rfl)
        | true =>
          have ww := hyes rfl a na
          match on, oi, hn, ww with
          | none, none, _, ww =>
            refine codeAny_handlers_suite (HandSPX.lands_againZ fl3 fun h4 fl4 up4 => ?_)
            have J4 : Inv X pins σ' H' { s' with heap := h4 } := J.landed nb fl4.1 ((up.trans up3).trans up4) os ag
            obtain ⟨oe4, vs4, he4, hz4, hd4⟩ := fl4.there
            exact wpAny_mono ((hsu a oe4 cls d (X.pn ++ pins) hz4 ⟨_, hd4⟩).run [] _ _ H' _ (J4.suite he4 hd4 na nL nF) ww) (fun f s6 q => unsuite_sp ok q) (fun _ _ z => False.elim z)
          | some n, some i, ⟨hN, hi, hln⟩, ww =>
            refine codeAny_handlers_suite_as (HandSPX.lands_againZ fl3 fun h4 fl4 up4 => ?_)
            have J4 : Inv X pins σ' H' { s' with heap := h4 } := J.landed nb fl4.1 ((up.trans up3).trans up4) os ag
            obtain ⟨oe4, vs4, he4, hz4, hd4⟩ := fl4.there
            refine store_ok (X := X.suite a ((a, oe4) :: (X.pn ++ pins))) (v := .ref a) (J4.suite he4 hd4 na nL nF) hN hi (.inl hln) rfl (fun s5 S5 => ?_) (.inr hln)
            exact wpAny_mono ((hsu a oe4 cls d (X.pn ++ pins) hz4 ⟨_, hd4⟩).run [] s5 _ H' _ S5 ww) (fun f s6 q => unname_sp ok hN hi hln q) (fun _ _ z => False.elim z)
    exact go hh w
  · cases f with
    | next => obtain ⟨σ', H', J', q⟩ := q; exact wpAny_execs_nil ⟨σ', H', J'.ofTry ok, q⟩
    | brk => obtain ⟨σ', H', J', q⟩ := q; exact ⟨σ', H', J'.ofTry ok, q⟩
    | cont => obtain ⟨σ', H', J', q⟩ := q; exact ⟨σ', H', J'.ofTry ok, q⟩
    | ret u => obtain ⟨v, σ', H', J', r, q⟩ := q; exact ⟨v, σ', H', J'.ofTry ok, r, q⟩⟩
end
end Dn

set_option maxHeartbeats 4000000
/-! Dn13: raise, try, except clauses: what they mean -/
namespace Dn
open PySem PySem.Spec PyProof.Rows L2
/-! ### exception classes: an __init__ that keeps its arguments -/
def xfs {α : Type} (names : List Str) (ys : List α) : List (Str × α) := (names.zip ys).reverse
def SpX (K : PySem.W.Frag) (names : List Str) : Sp := fun vs H Q _ => vs.length = names.length + 1 ∧ ∃ (a C : Addr) (ys : List V), vs = .ref a :: ys ∧ OexC K C ∧ (∀ f ∈ names, PySem.W.findIn K (.ref C) f = some none) ∧ H a = some (exo a C none) ∧
  ∀ (d : Addr) (H2 : Hp), H d = none → d ≠ a → H2 a = some (exo a C (some d)) → H2 d = some (exd d (xfs names ys)) → (∀ b, b ≠ a → b ≠ d → H2 b = H b) → Q .non H2
def tOsts (K : PySem.W.Frag) : List (Str × Nat) → TS
  | [] => tNext
  | (f, i) :: r => tSeq (tOst K f (tVar 0) (tVar i)) (tOsts K r)
theorem osts_ok {K : PySem.W.Frag} {C a dx : Addr} {D : Ends} {σ : L2.St} (T : OexC K C) (ha : σ[0]? = some (some (.ref a))) (dne : dx ≠ a) : ∀ (names : List Str) (ys : List V) (m : Nat) (fs : List (Str × V)) (H : Hp), names.length = ys.length → fs.length + names.length ≤ 900 →
    (∀ f ∈ names, PySem.W.findIn K (.ref C) f = some none) → (∀ j y, ys[j]? = some y → σ[m + j]? = some (some y)) → H a = some (exo a C (some dx)) → H dx = some (exd dx fs) →
    (∀ H2, H2 a = some (exo a C (some dx)) → H2 dx = some (exd dx (xfs names ys ++ fs)) → (∀ b, b ≠ a → b ≠ dx → H2 b = H b) → D.nx σ H2) → tOsts K (names.zipIdx m) D σ H
  | [], [], m, fs, H, _, _, _, _, e1, e2, h => h H e1 e2 fun _ _ _ => rfl
  | [], _ :: _, _, _, _, hl, _, _, _, _, _, _ => by simp at hl
  | _ :: _, [], _, _, _, hl, _, _, _, _, _, _ => by simp at hl
  | f :: names, y :: ys, m, fs, H, hl, hz, hno, hy, e1, e2, h => by
    refine ⟨y, hy 0 y rfl, .ref a, ha, a, C, rfl, T, hno f List.mem_cons_self, .inr ⟨dx, fs, e1, e2, by omega, ?_⟩⟩
    refine osts_ok T ha dne names ys (m + 1) ((f, y) :: fs) _ (by simpa using hl) (by simp at hz ⊢; omega) (fun g hg => hno g (List.mem_cons_of_mem _ hg)) (fun j z hj => ?_) (by rw [upd_ne (Ne.symm dne)]; exact e1) upd_same fun H2 q1 q2 q3 => ?_
    · have := hy (j + 1) z (by simpa using hj)
      rwa [show m + (j + 1) = m + 1 + j by omega] at this
    · refine h H2 q1 ?_ fun b h1 h2 => by rw [q3 b h1 h2, upd_ne h2]
      rw [q2]
      unfold xfs
      simp
theorem fnX {P : Program} {w : World} {K : PySem.W.Frag} {mg : Str → Option Value} {base : Heap} {x qual self : Str} {params : Arguments} {body : List Stmt} {scope : Scope} {dvs : List V} {kws : List (Str × V)} {fI : Addr} {fd : FuncData} {names : List Str} {k : Nat} (F : FunD K x qual params body scope dvs kws fI fd) (Sc : FnScope (self :: names) (self :: names) scope)
    (hl : names.length ≤ 100) (h0 : names ≠ [])
    (hb : ∀ (cdv : Value) (A : Around) (outer : List PySem.Env) (s : Shared) (H : Hp) (E : XK), PSs (cxOf (L2.CX P w) P w K mg base (self :: names) qual scope fI cdv A outer s H E) body (tOsts K (names.zipIdx 1))) :
    FnOk P w K mg base (L2.CX P w) (k + 1) fI fd (self :: names) (SpX K names) := by
  refine FunD.ok F Sc (fun vs H Q E h => by rw [h.1]; rfl) fun cdv A outer s H vs Q E hr h => ⟨_, hb cdv A outer s H E, ?_⟩
  obtain ⟨hlen, a, C, ys, rfl, T, hno, ha, hq⟩ := h
  have hly : ys.length = names.length := by simpa using hlen
  have st : ∀ j y, (V.ref a :: ys)[j]? = some y → (L2.start (self :: names) (.ref a :: ys))[j]? = some (some y) := fun j y e => start_at e
  match names, ys, h0, hly with
  | f :: names, y :: ys, _, hly =>
    show tSeq (tOst K f (tVar 0) (tVar 1)) (tOsts K (names.zipIdx 2)) _ _ _
    refine ⟨y, st 1 y rfl, .ref a, st 0 _ rfl, a, C, rfl, T, hno f List.mem_cons_self, .inl ⟨ha, fun dx n ne => ?_⟩⟩
    refine osts_ok T (st 0 _ rfl) ne names ys 2 [(f, y)] _ (by simpa using hly.symm) (by simp at hl ⊢; omega) (fun g hg => hno g (List.mem_cons_of_mem _ hg)) (fun j z hj => ?_) upd_same (by rw [upd_ne ne, upd_same]) fun H2 q1 q2 q3 => ?_
    · refine st (2 + j) z ?_
      rw [show 2 + j = (j + 1) + 1 by omega]
      simpa using hj
    · refine hq dx H2 n ne q1 ?_ fun b h1 h2 => by rw [q3 b h1 h2, upd_ne h1, upd_ne h2]
      rw [q2]
      unfold xfs
      simp
/-- an exception class of the module, its fields' names -/
structure Xcl (P : Program) (w : World) (K : PySem.W.Frag) (mg : Str → Option Value) (base : Heap) (lv : Nat) (k : Str) (names : List Str) : Prop where
  ex : ∃ (C fI : Addr) (fd : FuncData) (ps : List Str), mg k = some (.ref C) ∧ OexC K C ∧ XfC K C ∧ (∀ f ∈ names, PySem.W.findIn K (.ref C) f = some none) ∧ PySem.W.findIn K (.ref C) "__init__" = some (some (.ref fI)) ∧ PySem.W.typeIn K (.ref fI) = some (.type "function") ∧
    FnOk P w K mg base (L2.CX P w) lv fI fd ps (SpX K names) ∧ Binds K fd ps []
theorem map_rev_zip {c : Cn} {ρ : Nat → Addr} {n : Nat} {H : Hp} {names : List Str} {ws : List W} {vs : List V} (hl : ws.length = names.length) (r : RWs c ρ n H ws vs) : RF c ρ n H (xfs names ws) (xfs names vs) := by
  have e1 : ∀ {α : Type} (ys : List α), ys.length = names.length → (xfs names ys).map (·.1) = names.reverse := fun ys h => by
    unfold xfs
    rw [List.map_reverse, List.map_fst_zip (by omega)]
  have e2 : ∀ {α : Type} (ys : List α), ys.length = names.length → (xfs names ys).map (·.2) = ys.reverse := fun ys h => by
    unfold xfs
    rw [List.map_reverse, List.map_snd_zip (by omega)]
  refine ⟨by rw [e1 ws hl, e1 vs (by rw [← r.length]; exact hl)], ?_⟩
  rw [e2 ws hl, e2 vs (by rw [← r.length]; exact hl)]
  exact r.reverse
section
variable {X : Cx} {cur : Option Cur} {pos : Pos}
def dRaise (k : Str) (names : List Str) (da : DA) : DS := fun env S => (da env S).fl env fun ws S1 => if ws.length = names.length ∧ ws.length ≤ 1000 then .exc k (xfs names ws) env S1 else .bad
theorem bindAS {c : Cn} {cur : Option Cur} {ρ : Nat → Addr} {H : Hp} {S : Store} {σ : L2.St} {env : Env} {D : Ends} {E : WX} {d : DA} {f : List W → Store → Fl} (hE : RE c cur ρ S.length H env σ) (hS : RS c ρ H S) (p : PostS c cur ρ H S ((d env S).fl env f) D E) :
    tDA c cur d E σ H fun vs H1 => ∃ ρ1 S1 ws, RS c ρ1 H1 S1 ∧ RE c cur ρ1 S1.length H1 env σ ∧ RWs c ρ1 S1.length H1 ws vs ∧ Fut c ρ H S ρ1 H1 S1 ∧ PostS c cur ρ1 H1 S1 (f ws S1) D E := by
  refine ⟨ρ, env, S, hE, hS, ?_⟩
  cases e : d env S with
  | ok w S1 =>
    rw [e] at p
    exact fun ρ' v H' f' r => ⟨ρ', S1, w, f'.rs, f'.re hS hE, r, f', PostS.fut hS f' p⟩
  | exc k fs S1 =>
    rw [e] at p
    exact fun ρ' cv dd H' f x => p ρ' σ cv dd H' f (f.re hS hE) x
  | bad => rw [e] at p; exact p
theorem ss_raise {lv j : Nat} {k : Str} {names : List Str} {p pos' : Pos} {e : Expr} {es : List Expr} {da : DA} (M : Xcl X.prog X.w X.K X.mg X.base lv k names) (hcm : X.calm = true) (hr : Room j X.A) (hk : lv + 1 ≤ j) (ha : SA X cur (e :: es) da) (hg : Gl X k := by rfl)
    (hdb : (k == ("__debug__" : Str)) = false := by decide) (he : starEach (e :: es) X.env = (false, eval e X.env) :: starEach es X.env := by rfl) (hpl : (backTo pos (starEach es X.env)).any (·.1) = false := by rfl) : SS X cur (.Raise (some (.Call (.Name k p) (e :: es) [] pos)) none pos') (dRaise k names da) := ⟨fun E tk => by
  obtain ⟨C, fI, fd, ps, hC, T, hX, hno, hi, hti, F, hb⟩ := M.ex
  refine PS.imp (ps_raise hcm tk (pmk_oex T hi hti F (hr.mono hk) hb .nil passL hg hC (ha.pa E tk) hdb he hpl)) fun D σ H ⟨ρ, env, S, hE, hS, p⟩ => ?_
  refine (bindAS hE hS p).mono fun vs H1 ⟨ρ1, S1, ws, rs1, re1, rw1, f1, p1⟩ => ?_
  by_cases hl : ws.length = names.length ∧ ws.length ≤ 1000
  · rw [if_pos hl] at p1
    have hvl := rw1.length
    refine ⟨by rw [← hvl]; exact hl.2, fun a na => ⟨by rw [List.append_nil, List.length_cons, ← hvl, hl.1], a, C, vs, by rw [List.append_nil], T, hno, upd_same, fun d H2 n ne q1 q2 q3 => ⟨rfl, d, _, q1, q2, ?_, ?_⟩⟩⟩
    · rw [upd_ne ne] at n; exact n
    · rw [upd_ne ne] at n
      have e : upd (del H2 a) d (.xd (xfs names vs)) = upd H1 d (.xd (xfs names vs)) := by
        funext b
        by_cases hbd : b = d
        · rw [hbd, upd_same, upd_same]
        · rw [upd_ne hbd, upd_ne hbd]
          by_cases hba : b = a
          · rw [hba, del_same, na]
          · rw [del_ne hba, q3 b hba hbd, upd_ne hba]
      rw [e]
      have f2 : Fut (cn X) ρ1 H1 S1 ρ1 (upd H1 d (.xd (xfs names vs))) S1 := Fut.tup rs1 n
      exact p1 ρ1 σ (.ref C) (some d) _ f2 (f2.re rs1 re1) ⟨hC, .inr ⟨d, _, rfl, upd_same, map_rev_zip hl.1 (f2.rws rs1 rw1)⟩⟩
  · rw [if_neg hl] at p1; exact p1.elim⟩
/-! ### the fields of what is held -/
theorem rf_lookup {c : Cn} {ρ : Nat → Addr} {n : Nat} {H : Hp} {f : Str} {w : W} : ∀ {fs : List (Str × W)} {gs : List (Str × V)}, RF c ρ n H fs gs → fs.lookup f = some w → ∃ v, gs.lookup f = some v ∧ RW c ρ n H w v
  | [], _, _, e => by cases e
  | (a, x) :: fs, [], ⟨h, _⟩, _ => by simp at h
  | (a, x) :: fs, (b, y) :: gs, ⟨h, r⟩, e => by
    rw [List.map_cons, List.map_cons] at h
    injection h with h1 h2
    have h1 : b = a := h1
    subst h1
    cases r with
    | cons r1 r2 =>
      rw [List.lookup_cons] at e ⊢
      cases q : (f == b) with
      | true => rw [q] at e; cases e; exact ⟨y, rfl, r1⟩
      | false => rw [q] at e; exact rf_lookup ⟨h2, r2⟩ e
def dXf (fs : List (Str × W)) (f : Str) : DE := fun _ S => match fs.lookup f with
  | some w => .ok w S
  | none => .bad
theorem se_xf {lv : Nat} {names : List Str} {z : Cur} {oe : Obj} {pn : List (Addr × Obj)} {n f : Str} {p : Pos} (M : Xcl X.prog X.w X.K X.mg X.base lv z.k names) (hf : f ∈ names) (hz : Zc z.cv z.d oe) (hv : ∃ vs, oe.data = .fields vs) (hi : X.N[z.i]? = some n := by rfl)
    (hvis : Vis X.env.scope n := by first | exact Or.inl rfl | exact Or.inr (Or.inl rfl) | exact Or.inr (Or.inr rfl)) (hd : (n == ("__debug__" : Str)) = false := by decide) (hcd : (n == ("__classdict__" : Str)) = false := by decide)
    (hb : attributeBase (.Name n p) f X.env (eval (.Name n p) X.env) = eval (.Name n p) X.env := by rfl) : SE (X.suite z.a ((z.a, oe) :: pn)) (some z) (.Attribute (.Name n p) f pos) (dXf z.fs f) := ⟨fun E tk => by
  obtain ⟨C, fI, fd, ps, hC, T, hX, hno, hi', hti, F, hbb⟩ := M.ex
  have hvar : PE (X.suite z.a ((z.a, oe) :: pn)) (.Name n p) (tVar z.i) := pe_var (X := X.suite z.a ((z.a, oe) :: pn)) hi hvis hd hcd
  refine PE.imp (pe_xf (X := X) hX (hno f hf) hz hv hvar hb) fun σ H Q ⟨ρ, env, S, hE, hS, p⟩ => ?_
  unfold dXf at p
  cases e : z.fs.lookup f with
  | none => rw [e] at p; exact p.elim
  | some w =>
    rw [e] at p
    obtain ⟨h1, h2, h3⟩ := hE.cur z rfl
    have hcv : z.cv = .ref C := Option.some.inj ((show X.mg z.k = some z.cv from h2).symm.trans hC)
    rcases h3 with ⟨_, h4⟩ | ⟨dd, gs, h4, h5, h6⟩
    · rw [h4] at e; cases e
    · obtain ⟨v, q1, q2⟩ := rf_lookup h6 e
      exact ⟨.ref z.a, h1, rfl, hcv, dd, gs, v, h4, h5, q1, p ρ v H (Fut.refl hS) q2⟩⟩
/-! ### try -/
/-- a clause: its class's name, its name's slot, what its suite means, by what is held -/
structure Cl where
  c : Str
  oi : Option Nat
  sd : Str → List (Str × W) → DS
/-- the end of a suite -/
def offS (oi : Option Nat) : Fl → Fl
  | .nx e S => .nx (match oi with | some i => e.set i none | none => e) S
  | .bk e S => .bk (match oi with | some i => e.set i none | none => e) S
  | .ct e S => .ct (match oi with | some i => e.set i none | none => e) S
  | .rt w S => .rt w S
  | _ => .bad
def dCls (isX : Str → Str → Option Bool) : List Cl → Str → List (Str × W) → DS
  | [], k, fs => fun env S => .exc k fs env S
  | h :: r, k, fs => fun env S => match isX k h.c with
    | some true => if (match h.oi with | some i => decide (i < env.length) | none => true) = true then offS h.oi (h.sd k fs (match h.oi with | some i => env.set i none | none => env) S) else .bad
    | some false => dCls isX r k fs env S
    | none => .bad
def dTry (isX : Str → Str → Option Bool) (body : DS) (hs : List Cl) : DS := fun env S => match body env S with
  | .exc k fs env1 S1 => dCls isX hs k fs env1 S1
  | r => r
/-- which classes are told to be of which -/
def IsXOk (X : Cx) (isX : Str → Str → Option Bool) : Prop := ∀ k c b cv, isX k c = some b → X.mg k = some cv → ∃ cc, X.mg c = some cc ∧ PySem.W.exmOne X.K cv cc = some b
def curOf (oi : Option Nat) (a : Addr) (cv : Value) (d : Option Addr) (k : Str) (fs : List (Str × W)) : Option Cur := oi.map fun i => ⟨i, a, cv, d, k, fs⟩
/-- the suites' readings -/
def suR (c : Cn) (h : Cl) : Suite := fun a cv d D σ H => ∃ k fs, tDS c (curOf h.oi a cv d k fs) (h.sd k fs) (fun _ _ _ _ => False) D σ H
inductive SHs (X : Cx) : List ExceptHandler → List Cl → List (Value × Option Nat × Suite) → Prop
  | nil : SHs X [] [] []
  | cons {h : Cl} {cc : Value} {on : Option Str} {b₀ : Stmt} {suite : List Stmt} {np pos' : Pos} {hds : List ExceptHandler} {l : List Cl} {vs : List (Value × Option Nat × Suite)} (hg : Gl X h.c) (hm : X.mg h.c = some cc) (hn : NmOk X on h.oi)
      (hsu : ∀ (a : Addr) (oe : Obj) (cv : Value) (d : Option Addr) (pn : List (Addr × Obj)) (k : Str) (fs : List (Str × W)), Zc cv d oe → (∃ vs, oe.data = .fields vs) → SSs (X.suite a ((a, oe) :: pn)) (curOf h.oi a cv d k fs) (b₀ :: suite) (h.sd k fs)) (r : SHs X hds l vs)
      (hdb : (h.c == ("__debug__" : Str)) = false := by decide) :
      SHs X (.ExceptHandler (some (.Name h.c np)) on (b₀ :: suite) pos' :: hds) (h :: l) ((cc, h.oi, suR (cn X) h) :: vs)
theorem re_off {c : Cn} {z : Cur} {ρ : Nat → Addr} {n : Nat} {H : Hp} {env : Env} {σ : L2.St} (h : RE c (some z) ρ n H env σ) : RE c none ρ n H (env.set z.i none) (σ.set z.i none) := by
  refine ⟨by simp [h.len], fun j u e => ?_, fun _ q => nomatch q⟩
  by_cases q : z.i = j
  · subst q
    have hl : z.i < env.length := by
      have := (List.getElem?_eq_some_iff.mp e).1
      simpa using this
    rw [List.getElem?_set_self hl] at e
    cases e
  · rw [List.getElem?_set_ne q] at e ⊢
    exact h.val j u e
theorem re_on {c : Cn} {ρ : Nat → Addr} {n : Nat} {H : Hp} {env : Env} {σ : L2.St} {i : Nat} {a : Addr} {cv : Value} {d : Option Addr} {k : Str} {fs : List (Str × W)} (h : RE c none ρ n H env σ) (x : ExcAt c ρ n H k fs cv d) (hi : i < σ.length) : RE c (some ⟨i, a, cv, d, k, fs⟩) ρ n H (env.set i none) (σ.set i (some (.ref a))) := by
  refine ⟨by simp [h.len], fun j u e => ?_, fun z q => ?_⟩
  · by_cases q : i = j
    · subst q
      have hl : i < env.length := by
        have := (List.getElem?_eq_some_iff.mp e).1
        simpa using this
      rw [List.getElem?_set_self hl] at e
      cases e
    · rw [List.getElem?_set_ne q] at e ⊢
      exact h.val j u e
  · cases q
    exact ⟨List.getElem?_set_self hi, x⟩
theorem SHs.hds {hds : List ExceptHandler} {l : List Cl} {vs : List (Value × Option Nat × Suite)} (h : SHs X hds l vs) : Hds X hds vs := by
  induction h with
  | nil => exact .nil
  | @cons h cc on b₀ suite np pos' hds l vs hg hm hn hsu r hdb ih =>
    refine .cons (x := h.c) ⟨hg, hdb, .inl hm⟩ hn (fun a oe cv d pn hz hv => ⟨fun pins s σ H Q I q => ?_⟩) ih
    obtain ⟨k, fs, q⟩ := q
    exact ((hsu a oe cv d pn k fs hz hv).pss _ noTake).run pins s σ H Q I q
theorem cls_ok {isX : Str → Str → Option Bool} (hx : IsXOk X isX) {hds : List ExceptHandler} {l : List Cl} {vs : List (Value × Option Nat × Suite)} (h : SHs X hds l vs) {ρ : Nat → Addr} {H : Hp} {S : Store} {env : Env} {σ : L2.St} {D : Ends} {E : WX} {k : Str} {fs : List (Str × W)} {cv : Value} {d : Option Addr}
    (hE : RE (cn X) none ρ S.length H env σ) (hS : RS (cn X) ρ H S) (x : ExcAt (cn X) ρ S.length H k fs cv d) (p : PostS (cn X) none ρ H S (dCls isX l k fs env S) D E) : wAll X.K E D vs cv d σ H := by
  induction h with
  | nil => exact p ρ σ cv d H (Fut.refl hS) hE x
  | @cons h cc on b₀ suite np pos' hds l vs hg hm hn hsu r hdb ih =>
    unfold dCls at p
    cases e : isX k h.c with
    | none => simp only [e] at p; exact p.elim
    | some b =>
      obtain ⟨cc', e1, e2⟩ := hx k h.c b cv e x.1
      have ec : cc' = cc := Option.some.inj (e1.symm.trans hm)
      subst ec
      refine ⟨b, e2, fun hb a na => ?_, fun hb => ?_⟩
      · subst hb
        simp only [e] at p
        cases eo : h.oi with
        | none =>
          rw [eo] at p
          simp only [if_true] at p
          refine ⟨k, fs, ρ, env, S, by rw [eo]; exact hE, hS, ?_⟩
          rw [eo]
          revert p
          cases ee : h.sd k fs env S with
          | nx e2 S2 => exact fun p => p
          | rt w S2 => exact fun p => p
          | bk e2 S2 => exact fun p => p
          | ct e2 S2 => exact fun p => p
          | exc q gs e2 S2 => exact fun p => p.elim
          | bad => exact fun p => p
        | some i =>
          rw [eo] at p
          simp only at p
          by_cases hi : i < env.length
          · rw [if_pos (decide_eq_true hi)] at p
            refine ⟨k, fs, ρ, env.set i none, S, by rw [eo]; exact re_on hE x (by rw [← hE.len]; exact hi), hS, ?_⟩
            rw [eo]
            revert p
            cases ee : h.sd k fs (env.set i none) S with
            | nx e2 S2 => exact fun p ρ' σ' H' f r => p ρ' _ H' f (re_off r)
            | rt w S2 => exact fun p => p
            | bk e2 S2 => exact fun p ρ' σ' H' f r => p ρ' _ H' f (re_off r)
            | ct e2 S2 => exact fun p ρ' σ' H' f r => p ρ' _ H' f (re_off r)
            | exc q gs e2 S2 => exact fun p => p.elim
            | bad => exact fun p => p
          · rw [if_neg (fun q => hi (of_decide_eq_true q))] at p; exact p.elim
      · subst hb
        simp only [e] at p
        exact ih p
theorem ss_try {isX : Str → Str → Option Bool} {body : List Stmt} {h₀ : ExceptHandler} {hds : List ExceptHandler} {l : List Cl} {vs : List (Value × Option Nat × Suite)} {db : DS} (hx : IsXOk X isX) (hs : X.stack = X.env :: X.outer) (hf : X.env.frame = some X.env.locals)
    (hb : ∀ (pn : List (Addr × Obj)) (xe : Value → Shared → Prop), PassesOwn (model X.prog X.w) X.A X.env xe → SSs (X.tr pn xe) none body db) (hh : SHs X (h₀ :: hds) l vs) : SS X none (.Try body (h₀ :: hds) [] [] pos) (dTry isX db l) := ⟨fun E tk =>
  PS.imp (ps_try_all (tb := fun W => tDS (cn X) none db W) hs hf tk (fun W pn xe tk2 hp => (hb pn xe hp).pss W tk2) hh.hds) fun D σ H ⟨ρ, env, S, hE, hS, p⟩ => by
    refine ⟨ρ, env, S, hE, hS, ?_⟩
    unfold dTry at p
    cases e : db env S with
    | exc k fs env1 S1 =>
      rw [e] at p
      exact fun ρ' σ' cv d H' f r x => cls_ok hx hh r f.rs x (PostS.fut hS f p)
    | nx e2 S2 => rw [e] at p; exact p
    | rt w S2 => rw [e] at p; exact p
    | bk e2 S2 => rw [e] at p; exact p
    | ct e2 S2 => rw [e] at p; exact p
    | bad => rw [e] at p; exact p⟩
end
end Dn

set_option maxHeartbeats 4000000
/-! Dn14: x(lambda: e), x a def that calls what it gets -/
namespace Dn
open PySem PySem.Spec PyProof.Rows L2
/-! ### what a lambda sees -/
theorem cap_ok {c : Cn} {ρ : Nat → Addr} {n : Nat} {H : Hp} : ∀ (env : Env) (σ : L2.St), env.length = σ.length → (∀ (i : Nat) (w : W), env[i]? = some (some w) → ∃ v, σ[i]? = some (some v) ∧ RW c ρ n H w v) →
    ∃ vs, RWs c ρ n H (env.filterMap id) vs ∧ ∀ ρ' n' H', RWs c ρ' n' H' (env.filterMap id) vs → ∀ (i : Nat) (w : W), env[i]? = some (some w) → ∃ v, σ[i]? = some (some v) ∧ RW c ρ' n' H' w v
  | [], [], _, _ => ⟨[], .nil, fun _ _ _ _ i w e => by simp at e⟩
  | [], _ :: _, h, _ => by simp at h
  | _ :: _, [], h, _ => by simp at h
  | none :: env, o :: σ, hl, h => by
    obtain ⟨vs, r, k⟩ := cap_ok env σ (by simpa using hl) fun i w e => by simpa using h (i + 1) w (by simpa using e)
    refine ⟨vs, r, fun ρ' n' H' r' i w e => ?_⟩
    cases i with
    | zero => simp at e
    | succ i => simpa using k ρ' n' H' r' i w (by simpa using e)
  | some u :: env, o :: σ, hl, h => by
    obtain ⟨vs, r, k⟩ := cap_ok env σ (by simpa using hl) fun i w e => by simpa using h (i + 1) w (by simpa using e)
    obtain ⟨v, h1, h2⟩ := h 0 u rfl
    simp at h1
    subst h1
    refine ⟨v :: vs, .cons h2 r, fun ρ' n' H' r' i w e => ?_⟩
    cases r' with
    | cons q1 q2 =>
      cases i with
      | zero => simp at e; subst e; exact ⟨v, rfl, q1⟩
      | succ i => simpa using k ρ' n' H' q2 i w (by simpa using e)
/-- the callee's word for calling what it got -/
def dCb (l : W) (cb : Store → R W) : DE := fun env S => match env[0]? with
  | some (some w) => if eqW w l = true then cb S else .bad
  | _ => .bad
abbrev FLW := (Store → R W) → Store → R W
section
variable {X : Cx} {pins : List (Addr × Obj)} {σ : L2.St} {H HZ : Hp} {s : Shared}
open LamX
/-- x(), in the def that got the lambda; what is let out is wished for at the slots there -/
theorem pe_actS {CXg : CXT} {Eg : XK} {Ng : List Str} {qg : Str} {sg : Scope} {g f c' : Addr} {cdg pm ctv : Value} {params : Arguments} {body : Expr} {scope : Scope} {k i : Nat} {a : Str} {pn : List (Addr × Obj)} {xe : Value → Shared → Prop} {W : WX} {tb : XK → TE} {p1 p2 : Pos}
    (I : Inv X pins σ H s) (L : LamS X.env.scope scope) (hf : s.heap.get? f = some (PySem.W.kla_obj "<lambda>" (X.env.qual ++ "<lambda>") params body scope (cloFrom X.env.cells scope.names []) pm c' ctv)) (hfn : H f = none) (hfr : f ∉ frs X.stack)
    (hbind : bindArgs (PySem.W.kla_fn "<lambda>" (X.env.qual ++ "<lambda>") params body scope (cloFrom X.env.cells scope.names []) pm (.ref c') ctv) ⟨[], []⟩ = pure [])
    (tk : Takes ((cxOf CXg X.prog X.w X.K X.mg X.base Ng qg sg g cdg X.A X.stack s H Eg).tr pn xe) W) (hr : Room (k + 1) (X.A.deeper (envOfC qg sg s.heap.objs.size g cdg)))
    (hbody : ∀ (A : Around) (outer : List PySem.Env) (s : Shared) (H : Hp) (E : XK), Room k (A.deeper (lamEnv X scope s.heap.objs.size f c')) → PE (lamCx X A outer s H E scope f c') body (tb E))
    (hN : Ng[i]? = some a) (hv : Vis sg a) (hd : (a == ("__debug__" : Str)) = false) (hcd : (a == ("__classdict__" : Str)) = false) :
    PE ((cxOf CXg X.prog X.w X.K X.mg X.base Ng qg sg g cdg X.A X.stack s H Eg).tr pn xe) (.Call (.Name a p1) [] [] p2)
      (fun σZ HZ Q => σZ[i]? = some (some (.ref f)) ∧ HZ c' = some (CodeO c' (X.env.qual ++ "<lambda>")) ∧ tb (WE W σZ) σ HZ Q) := by
  refine ⟨fun pinsZ sZ σZ HZ Q IZ ⟨hs, hc, ht⟩ => ?_⟩
  refine wpAny_Call_Name_kw (thn ((pe_var (pos := p1) (i := i) hN hv hd hcd).run pinsZ sZ σZ HZ (fun v H1 => v = .ref f ∧ H1 = HZ) IZ ⟨.ref f, hs, rfl, rfl⟩) fun u s1 ⟨v, H1, I1, r1, ev, eH⟩ => ?_)
  subst ev
  subst eH
  obtain rfl : u = Value.ref f := r1
  have of1 : s1.heap.get? f = some (PySem.W.kla_obj "<lambda>" (X.env.qual ++ "<lambda>") params body scope (cloFrom X.env.cells scope.names []) pm c' ctv) := I1.base.keep f _ hf hfn hfr (fun z => nomatch (show f ∈ ([] : List Addr) from z))
  refine PySem.W.callWith_F0 ⟨_, _, _, _, of1⟩ ?_
  have un : Un (frs X.stack) [] H H1 s.heap s1.heap := I1.base
  obtain ⟨⟨oc, vs, t, hoc, hdc, hvc⟩, _, _⟩ := I1.hok c' _ hc
  have rc : codeAny (model X.prog X.w) (X.A.deeper (envOfC qg sg s.heap.objs.size g cdg)) (.call (.ref f) ⟨[], []⟩) (CR (L2.CX X.prog X.w) (envOfC qg sg s.heap.objs.size g cdg :: X.stack) X.prog X.w H1 s1 Q (WE W σZ)) s1 := by
    refine PySem.W.kla_callFunE hr.depth of1 rfl L.co L.gen rfl ⟨c', oc, vs, t, rfl, hoc, hdc, hvc⟩ ?_
    rw [hbind]
    refine wpAny_pure (wpAny_newFunctionEnv (fun y hy => (L.own y hy).2) (fun y hy => absurd hy (by simp)) (fun h₁ hns hsb => ⟨I1.nolimit.fresh _ hsb, ?_⟩) L.kind)
    show codeAny _ _ (.expr body (lamEnv X scope s1.heap.objs.size f c')) _ _
    have kp : ∀ b o, s1.heap.get? b = some o → h₁.get? b = some o := fun b o e => hsb.extBut b o (Nat.ne_of_lt (Heap.lt_size e)) (Heap.get?_push_of_some _ e)
    have J : Inv (lamCx X (X.A.deeper (envOfC qg sg s.heap.objs.size g cdg)) (envOfC qg sg s.heap.objs.size g cdg :: X.stack) s1 H1 (WE W σZ) scope f c') [] σ H1 { s1 with heap := h₁, toks := s1.toks + ([] : List (Str × Value)).length } :=
      lam_start2 I L I1.env0 hr.hd un hns kp
    refine PySem.W.kla_codeExpr (wpAny_mono ((hbody _ _ s1 H1 (WE W σZ) (hr.deeper _)).run [] _ _ H1 Q J ht) (fun v s' hq => ?_) fun e s' hq => hq)
    obtain ⟨w', H', J', rv, q⟩ := hq
    exact ⟨w', H', J'.os, J'.bare, J'.base, J'.hok, rv, q⟩
  refine wpAny_call (codeAny_mono rc fun r s' hq => ?_)
  cases r with
  | error e => exact passAt tk σZ pinsZ H1 s1 e s' I1 hq
  | ok fl =>
    cases fl with
    | ret u => exact I1.after hq
    | next => exact False.elim hq
    | brk => exact False.elim hq
    | cont => exact False.elim hq
end
/-- a def that calls the function it gets, and lets nothing out; FL: what it does, by what the function does -/
structure CalL (P : Program) (w : World) (K : PySem.W.Frag) (mg : Str → Option Value) (base : Heap) (kb : Nat) (x : Str) (FL : FLW) : Prop where
  ex : ∃ (g : Addr) (pg : Arguments) (bg : List Stmt) (sg : Scope) (dV kV doc pm cdv ct oc : Value) (an od : Option Addr) (osl : Array (Option Value)) (Ng : List Str) (a : Str),
    mg x = some (.ref g) ∧ PySem.W.keepIn K (.ref g) = true ∧ K.lookup g = some ⟨oc, od, .func (PySem.W.fnOf x x pg bg sg dV kV doc pm an cdv ct), osl⟩ ∧ PySem.W.codeIn K cdv x = true ∧ L2.Binds K (PySem.W.fnOf x x pg bg sg dV kV doc pm an cdv ct) [a] [] ∧
    FnScope Ng [a] sg ∧ Ng[0]? = some a ∧ Vis sg a ∧ (a == ("__debug__" : Str)) = false ∧ (a == ("__classdict__" : Str)) = false ∧
    ∀ (A : Around) (outer : List PySem.Env) (s : Shared) (H : Hp) (l : W) (cb : Store → R W), Room kb (A.deeper (envOfC x sg s.heap.objs.size g cdv)) →
      (∀ (pn : List (Addr × Obj)) (xe : Value → Shared → Prop) (p1 p2 : Pos), SE ((cxOf C8.CX0 P w K mg base Ng x sg g cdv A outer s H C8.E0).tr pn xe) none (.Call (.Name a p1) [] [] p2) (dCb l cb)) →
      ∃ d, SSs (cxOf C8.CX0 P w K mg base Ng x sg g cdv A outer s H C8.E0).nox none bg d ∧ ∀ S, FL cb S = .bad ∨ bodyD Ng.length 1 d [l] S = FL cb S
/-- what a lambda's maker must have: its code object's table -/
structure LamM (X : Cx) : Prop where
  ex : ∃ c P : Addr, X.env.code = .ref c ∧ LamX.TabB X.base X.mg c P ∧ (P, X.env.qual ++ "<lambda>") ∈ tabK X.K ∧ ∀ p ∈ tabK X.K, p.1 = P → p.2 = X.env.qual ++ "<lambda>"
section
variable {X : Cx} {pos : Pos}
open LamX
def noXR : R W → R W
  | .exc _ _ _ => .bad
  | r => r
def dLam (FL : FLW) (de : DE) : DE := fun env S => noXR (FL (de env) S)
theorem se_lam {x : Str} {FL : FLW} {k j kb : Nat} {params : Arguments} {body : Expr} {scope : Scope} {de : DE} {p lpos : Pos} (G : CalL X.prog X.w X.K X.mg X.base kb x FL) (LM : LamM X) (hr : Room j X.A) (hj : k + 2 ≤ j) (hkb : kb ≤ k + 1) (L : LamS X.env.scope scope)
    (hbody : ∀ (A : Around) (outer : List PySem.Env) (s : Shared) (H : Hp) (E : XK) (f c' : Addr), Room k (A.deeper (lamEnv X scope s.heap.objs.size f c')) → SE (lamCx X A outer s H E scope f c') none body de)
    (hg : Gl X x := by rfl) (hdef : defaultsOf params X.env = ([], []) := by rfl)
    (hbind : ∀ (q : Str) (cl : List (Str × Addr)) (pm cv ctv : Value), bindArgs (PySem.W.kla_fn "<lambda>" q params body scope cl pm cv ctv) ⟨[], []⟩ = pure [] := by intros; rfl) (hdb : (x == ("__debug__" : Str)) = false := by decide) :
    SE X none (.Call (.Name x p) [.Lambda params body scope lpos] [] pos) (dLam FL de) := ⟨fun E tk => ⟨fun pins s σ H Q I ⟨ρ, env, S, hE, hS, pq⟩ => by
  obtain ⟨g, pg, bg, sg, dV, kV, doc, pm, cdv, ct, oc, an, od, osl, Ng, a, hm, hk, lk, hcg, hb, Sg, hNg, hva, hd, hcd, hG⟩ := G.ex
  obtain ⟨c, P, hcode, TB, hmT, hu⟩ := LM.ex
  refine wpAny_Call_Name_kw (ld_glob I hg hm ?_ hdb)
  refine PySem.W.callWith_K (h₀ := X.base) I.ok.mod.kin hk ?_ (by rfl) (by rfl)
  show wpAny _ _ (spliced ((false, eval (.Lambda params body scope lpos) X.env) :: backTo pos (starEach [] X.env))) _ _ s
  refine Calls.spliced_cons (lam_make2 I TB hcode hmT hu hS.tab hdef (L.has I.ok) fun f c' pm' ctv H1 s' I1 eN T1 hf hfn hfr hco => ?_)
  refine Calls.spliced_nil ⟨I1.kIn, ?_⟩
  have fr : Fr0 ρ S.length H H1 := fun b o e t _ => eN b o e t
  have hS1 : RS (cn X) ρ H1 S := ⟨T1, hS.inj, fun i y hy => (hS.cell i y hy).mono (fun _ _ => rfl) (Nat.le_refl _) (hS.kp fr) (by
    obtain ⟨o, e, m⟩ := hS.mut (List.getElem?_eq_some_iff.mp hy).1
    rw [eN _ _ e fun ps z => by rw [z] at m; exact m, e])⟩
  have f1 : Fut (cn X) ρ H S ρ H1 S := ⟨fun _ _ => rfl, Nat.le_refl _, fr, fun _ h1 h2 => absurd h2 (Nat.not_lt.mpr h1), hS1⟩
  have hE1 := f1.re hS hE
  have pq1 := Post.fut hS f1 pq
  obtain ⟨vs, hcap, hback⟩ := cap_ok env σ hE1.len hE1.val
  have rl : RW (cn X) ρ S.length H1 (.lam f c' (X.env.qual ++ "<lambda>") vs (env.filterMap id)) (.ref f) := .lam hco hcap
  have rc : codeAny (model X.prog X.w) X.A (.call (.ref g) ⟨[.ref f], []⟩) (CR C8.CX0 X.stack X.prog X.w H1 s' Q C8.E0) s' := by
    refine run_ofS (N := Ng) (ps := [a]) (us := [.ref f]) (vs := [.ref f]) lk hcg Sg ((hr.mono hj : Room (k + 2) X.A)) I1.env0 (hb s' [.ref f] I1.kIn rfl) (.cons rfl .nil) rfl fun hr' => ?_
    obtain ⟨d, hd1, hd2⟩ := hG X.A X.stack s' H1 (.lam f c' (X.env.qual ++ "<lambda>") vs (env.filterMap id)) (de env) (hr'.mono hkb) fun pn xe p1 p2 => ⟨fun W tkW => PE.imp (pe_actS (i := 0) (W := W) (k := k) (tb := fun E => tD (cn X) none de (fun cls d _ H => E cls d H)) I1 L hf hfn hfr (hbind _ _ _ _ _) tkW hr'
        (fun A outer s2 H2 E2 hr2 => (hbody A outer s2 H2 E2 f c' hr2).pe _ (takes_of rfl rfl rfl rfl)) hNg hva hd hcd) fun σZ HZ Q' ⟨ρZ, envZ, SZ, hEZ, hSZ, pZ⟩ => by
      unfold dCb at pZ
      cases e0 : envZ[0]? with
      | none => simp only [e0] at pZ; exact pZ.elim
      | some o =>
        cases o with
        | none => simp only [e0] at pZ; exact pZ.elim
        | some w =>
          simp only [e0] at pZ
          by_cases q : eqW w (.lam f c' (X.env.qual ++ "<lambda>") vs (env.filterMap id)) = true
          · rw [if_pos q] at pZ
            have ew := eqW_ok _ _ q
            subst ew
            obtain ⟨v, h1, h2⟩ := hEZ.val 0 _ e0
            cases h2 with
            | lam hcZ rZ =>
              refine ⟨h1, hcZ, ρZ, env, SZ, ⟨hE1.len, hback ρZ SZ.length HZ rZ, fun z ez => nomatch ez⟩, hSZ, pZ⟩
          · rw [if_neg q] at pZ; exact pZ.elim⟩
    refine ⟨_, (hd1.pss (fun _ _ _ _ => False) noTake).nox, ρ, _, S, re_start (N := Ng) (n := 1) (.cons rl .nil) rfl, hS1, ?_⟩
    have tr := hd2 S
    have p2 : Post (cn X) ρ H1 S (bodyD Ng.length 1 d [.lam f c' (X.env.qual ++ "<lambda>") vs (env.filterMap id)] S) Q (fun cv dd H' => E cv dd σ H') := by
      unfold dLam at pq1
      rcases tr with tr | tr
      · rw [tr] at pq1; exact pq1.elim
      · rw [tr]
        revert pq1
        cases FL (de env) S with
        | ok w S' => exact fun pq1 => pq1
        | exc k fs S' => exact fun pq1 => pq1.elim
        | bad => exact fun pq1 => pq1.elim
    have nx2 : ∀ k fs S1, bodyR (d ([W.lam f c' (X.env.qual ++ "<lambda>") vs (env.filterMap id)].map some ++ List.replicate (Ng.length - 1) none) S) ≠ .exc k fs S1 := fun k fs S1 e => by
      rw [bodyD_at (n := 1) (ws := [_]) rfl, e] at tr
      unfold dLam at pq1
      rcases tr with tr | tr
      · rw [tr] at pq1; exact pq1.elim
      · rw [← tr] at pq1; exact pq1.elim
    rw [bodyD_at (n := 1) (ws := [_]) rfl] at p2
    revert p2
    cases e : d ([W.lam f c' (X.env.qual ++ "<lambda>") vs (env.filterMap id)].map some ++ List.replicate (Ng.length - 1) none) S with
    | nx env1 S1 => exact fun p2 ρ' σ' H' f r => p2 ρ' .non H' f .non
    | rt w S1 => exact fun p2 => p2
    | bk env1 S1 => exact fun p2 => p2.elim
    | ct env1 S1 => exact fun p2 => p2.elim
    | exc k fs env1 S1 => exact fun _ => absurd (show bodyR _ = _ by rw [e]; rfl) (nx2 k fs S1)
    | bad => exact fun p2 => p2.elim
  refine wpAny_call (codeAny_mono rc fun r s2 hq => ?_)
  cases r with
  | error e => exact (show False from hq).elim
  | ok fl =>
    cases fl with
    | ret u => exact I1.after hq
    | next => exact False.elim hq
    | brk => exact False.elim hq
    | cont => exact False.elim hq⟩⟩
end
end Dn

set_option maxHeartbeats 4000000
/-! Dn15: parallel assignment, name += int, all, any, sum, max, min; what is never come to -/
namespace Dn
open PySem PySem.Spec PyProof.Rows L2
section
variable {X : Cx} {cur : Option Cur} {pos : Pos}
/-! never come to -/
def dBadE : DE := fun _ _ => .bad
def dBadT : DT := fun _ _ => .bad
def dBadS : DS := fun _ _ => .bad
theorem se_bad {e : Expr} : SE X cur e dBadE := ⟨fun E tk => ⟨fun pins s σ H Q I ⟨ρ, env, S, hE, hS, p⟩ => p.elim⟩⟩
theorem ss_bad {st : Stmt} : SS X cur st dBadS := ⟨fun E tk => ⟨fun pins s σ H Q I ⟨ρ, env, S, hE, hS, p⟩ => p.elim⟩⟩
theorem sss_bad {st : List Stmt} : SSs X cur st dBadS := ⟨fun E tk => ⟨fun pins s σ H Q I ⟨ρ, env, S, hE, hS, p⟩ => p.elim⟩⟩
/-! a, b = x, y -/
def dPar (i j : Nat) (da : DA) : DS := fun env S => (da env S).fl env fun ws S1 => match ws with
  | [a, b] => .nx ((env.set i (some a)).set j (some b)) S1
  | _ => .bad
theorem ss_par {i j : Nat} {x y : Str} {a b : Expr} {da : DA} {px py pt : Pos} {kt k2 pt2} (hc : X.calm = true) (hN : X.N.Nodup) (hn : cur = none) (ha : SA X cur [a, b] da) (hi : X.N[i]? = some x := by rfl) (hj : X.N[j]? = some y := by rfl) (hij : i ≠ j := by decide)
    (hx : X.env.scope.names.lookup x = some .local := by rfl) (hy : X.env.scope.names.lookup y = some .local := by rfl)
    (hw : swappedStores [.Tuple [.Name x px, .Name y py] kt pt] (.Tuple [a, b] k2 pt2) X.env = pure (some [x, y]) := by rfl)
    (hs : swapsWithSole [.Tuple [.Name x px, .Name y py] kt pt] (.Tuple [a, b] k2 pt2) pos.line X.env = pure false := by rfl) :
    SS X cur (.Assign [.Tuple [.Name x px, .Name y py] kt pt] (.Tuple [a, b] k2 pt2) pos) (dPar i j da) := ⟨fun E tk =>
  PS.imp (ps_par hc hN hi hj hij hx hy (ha.pa E tk) hw hs) fun D σ H ⟨ρ, env, S, hE, hS, p⟩ => (bindAS hE hS p).mono fun vs H1 ⟨ρ1, S1, ws, rs1, re1, rw1, f1, p1⟩ => by
    split at p1
    · rename_i u w
      obtain ⟨v, v', rfl, r1, r2⟩ := rw1.two
      refine ⟨v, v', rfl, p1 ρ1 _ H1 (Fut.refl rs1) ((re1.set r1 fun z hz => ?_).set r2 fun z hz => ?_)⟩
      all_goals (rw [hn] at hz; cases hz)
    · exact p1.elim⟩
theorem RWs.three {c : Cn} {ρ : Nat → Addr} {n : Nat} {H : Hp} {w w' w2 : W} {vs : List V} (r : RWs c ρ n H [w, w', w2] vs) : ∃ v v' v2, vs = [v, v', v2] ∧ RW c ρ n H w v ∧ RW c ρ n H w' v' ∧ RW c ρ n H w2 v2 := by
  cases r with
  | cons r t =>
    obtain ⟨v, v', rfl, r1, r2⟩ := t.two
    exact ⟨_, _, _, rfl, r, r1, r2⟩
def dPar3 (i j l : Nat) (da : DA) : DS := fun env S => (da env S).fl env fun ws S1 => match ws with
  | [a, b, c] => .nx (((env.set i (some a)).set j (some b)).set l (some c)) S1
  | _ => .bad
theorem ss_par3 {i j l : Nat} {x y z : Str} {a b c : Expr} {da : DA} {px py pz pt : Pos} {kt k2 pt2} (hc : X.calm = true) (hN : X.N.Nodup) (hn : cur = none) (ha : SA X cur [a, b, c] da) (hi : X.N[i]? = some x := by rfl) (hj : X.N[j]? = some y := by rfl) (hl : X.N[l]? = some z := by rfl) (hij : i ≠ j := by decide) (hil : i ≠ l := by decide) (hjl : j ≠ l := by decide)
    (hx : X.env.scope.names.lookup x = some .local := by rfl) (hy : X.env.scope.names.lookup y = some .local := by rfl) (hz : X.env.scope.names.lookup z = some .local := by rfl)
    (hw : swappedStores [.Tuple [.Name x px, .Name y py, .Name z pz] kt pt] (.Tuple [a, b, c] k2 pt2) X.env = pure (some [x, y, z]) := by rfl)
    (hs : swapsWithSole [.Tuple [.Name x px, .Name y py, .Name z pz] kt pt] (.Tuple [a, b, c] k2 pt2) pos.line X.env = pure false := by rfl) :
    SS X cur (.Assign [.Tuple [.Name x px, .Name y py, .Name z pz] kt pt] (.Tuple [a, b, c] k2 pt2) pos) (dPar3 i j l da) := ⟨fun E tk =>
  PS.imp (ps_par3 hc hN hi hj hl hij hil hjl hx hy hz (ha.pa E tk) hw hs) fun D σ H ⟨ρ, env, S, hE, hS, p⟩ => (bindAS hE hS p).mono fun vs H1 ⟨ρ1, S1, ws, rs1, re1, rw1, f1, p1⟩ => by
    split at p1
    · rename_i u w w2
      obtain ⟨v, v', v2, rfl, r1, r2, r3⟩ := rw1.three
      refine ⟨v, v', v2, rfl, p1 ρ1 _ H1 (Fut.refl rs1) (((re1.set r1 fun z hz => ?_).set r2 fun z hz => ?_).set r3 fun z hz => ?_)⟩
      all_goals (rw [hn] at hz; cases hz)
    · exact p1.elim⟩
/-! name += int, name -= int -/
def dAugI (i : Nat) (f : Int → Int → Int) (d : DE) : DS := fun env S => match env[i]? with
  | some (some (.int a)) => (d env S).fl env fun w S1 => (match w with
    | .int b => .nx (env.set i (some (.int (f a b)))) S1
    | _ => .bad)
  | _ => .bad
theorem ss_augI {i : Nat} {op : Operator} {f : Int → Int → Int} {x : Str} {e : Expr} {d : DE} {p : Pos} (ho : PIp X op (ipI f)) (hN : X.N.Nodup) (hn : cur = none) (he : SE X cur e d) (hi : X.N[i]? = some x := by rfl) (hx : Loc X.env.scope x := by first | exact Or.inl rfl | exact Or.inr rfl)
    (hf : X.fn x = true ∨ X.env.scope.names.lookup x = some .local := by first | exact .inl rfl | exact .inr rfl) : SS X cur (.AugAssign (.Name x p) op e pos) (dAugI i f d) := ⟨fun E tk =>
  PS.imp (ps_aug hN hi hx (he.pe E tk) ho) fun D σ H ⟨ρ, env, S, hE, hS, p⟩ => by
    unfold dAugI at p
    split at p
    · rename_i a e0
      obtain ⟨v, h1, h2⟩ := hE.val i _ e0
      refine ⟨v, h1, (bindES hE hS p).mono fun y H1 ⟨ρ1, S1, w, rs1, re1, rw1, f1, p1⟩ => ?_⟩
      split at p1
      · rename_i b
        exact ⟨a, b, h2.int_inv, rw1.int_inv, p1 ρ1 _ H1 (Fut.refl rs1) (re1.set (.int _) fun z hz => by rw [hn] at hz; cases hz)⟩
      · exact p1.elim
    · exact p.elim⟩
/-! all, any, sum of a list -/
def blsW : List W → Option (List Bool)
  | [] => some []
  | .bl b :: ws => (blsW ws).map fun bs => b :: bs
  | _ => none
theorem blsW_ok {c : Cn} {ρ : Nat → Addr} {n : Nat} {H : Hp} : ∀ {ws : List W} {vs : List V} {bs : List Bool}, RWs c ρ n H ws vs → blsW ws = some bs → vs = bs.map V.bl
  | [], _, _, .nil, e => by cases e; rfl
  | w :: ws, _, bs, .cons r t, e => by
    cases w with
    | bl b =>
      simp only [blsW, Option.map_eq_some_iff] at e
      obtain ⟨bs', e1, rfl⟩ := e
      rw [r.bl_inv, blsW_ok t e1]; rfl
    | _ => simp [blsW] at e
def intsW : List W → Option (List Int)
  | [] => some []
  | .int b :: ws => (intsW ws).map fun bs => b :: bs
  | _ => none
theorem intsW_ok {c : Cn} {ρ : Nat → Addr} {n : Nat} {H : Hp} : ∀ {ws : List W} {vs : List V} {bs : List Int}, RWs c ρ n H ws vs → intsW ws = some bs → vs = bs.map V.int
  | [], _, _, .nil, e => by cases e; rfl
  | w :: ws, _, bs, .cons r t, e => by
    cases w with
    | int b =>
      simp only [intsW, Option.map_eq_some_iff] at e
      obtain ⟨bs', e1, rfl⟩ := e
      rw [r.int_inv, intsW_ok t e1]; rfl
    | _ => simp [intsW] at e
def gAll : List W → Store → R W := fun ws S => match ws with
  | [w] => (match lisW S w with
    | some xs => (match blsW xs with
      | some bs => .ok (.bl (bs.all id)) S
      | none => .bad)
    | none => .bad)
  | _ => .bad
def gAny : List W → Store → R W := fun ws S => match ws with
  | [w] => (match lisW S w with
    | some xs => (match blsW xs with
      | some bs => .ok (.bl (bs.any id)) S
      | none => .bad)
    | none => .bad)
  | _ => .bad
def gSum : List W → Store → R W := fun ws S => match ws with
  | [w] => (match lisW S w with
    | some xs => (match intsW xs with
      | some bs => .ok (.int bs.sum) S
      | none => .bad)
    | none => .bad)
  | _ => .bad
def gMax2 : List W → Store → R W := fun ws S => match ws with
  | [.int i, .int j] => .ok (.int (if j > i then j else i)) S
  | _ => .bad
def gMin2 : List W → Store → R W := fun ws S => match ws with
  | [.int i, .int j] => .ok (.int (if j < i then j else i)) S
  | _ => .bad
theorem nx_all : NoXL gAll := by intro ws S k fs S' h; unfold gAll at h; repeat' (first | (cases h; done) | split at h)
theorem nx_any : NoXL gAny := by intro ws S k fs S' h; unfold gAny at h; repeat' (first | (cases h; done) | split at h)
theorem nx_sum : NoXL gSum := by intro ws S k fs S' h; unfold gSum at h; repeat' (first | (cases h; done) | split at h)
theorem nx_max2 : NoXL gMax2 := by intro ws S k fs S' h; unfold gMax2 at h; split at h <;> cases h
theorem nx_min2 : NoXL gMin2 := by intro ws S k fs S' h; unfold gMin2 at h; split at h <;> cases h
theorem cs_all (hc : X.calm = true) : CallS X (.builtin "all") gAll := by
  intro vs H Q ρ S ws w S' hS r e q
  unfold gAll at e
  split at e
  · rename_i x
    obtain ⟨v, rfl, rx⟩ := r.one
    split at e
    · rename_i xs e1
      split at e
      · rename_i bs e2
        cases e
        obtain ⟨a, us, rfl, h1, t⟩ := lisW_ok hS rx e1
        exact ⟨_, cr_all hc, a, bs, rfl, by rw [← blsW_ok t e2]; exact h1, same0 hS q (.bl _)⟩
      · cases e
    · cases e
  · cases e
theorem cs_any (hc : X.calm = true) : CallS X (.builtin "any") gAny := by
  intro vs H Q ρ S ws w S' hS r e q
  unfold gAny at e
  split at e
  · rename_i x
    obtain ⟨v, rfl, rx⟩ := r.one
    split at e
    · rename_i xs e1
      split at e
      · rename_i bs e2
        cases e
        obtain ⟨a, us, rfl, h1, t⟩ := lisW_ok hS rx e1
        exact ⟨_, cr_any hc, a, bs, rfl, by rw [← blsW_ok t e2]; exact h1, same0 hS q (.bl _)⟩
      · cases e
    · cases e
  · cases e
theorem cs_sum (hc : X.calm = true) : CallS X (.builtin "sum") gSum := by
  intro vs H Q ρ S ws w S' hS r e q
  unfold gSum at e
  split at e
  · rename_i x
    obtain ⟨v, rfl, rx⟩ := r.one
    split at e
    · rename_i xs e1
      split at e
      · rename_i bs e2
        cases e
        obtain ⟨a, us, rfl, h1, t⟩ := lisW_ok hS rx e1
        exact ⟨_, cr_sum hc, a, bs, rfl, by rw [← intsW_ok t e2]; exact h1, same0 hS q (.int _)⟩
      · cases e
    · cases e
  · cases e
theorem cs_max2 (hc : X.calm = true) : CallS X (.builtin "max") gMax2 := by
  intro vs H Q ρ S ws w S' hS r e q
  unfold gMax2 at e
  split at e
  · rename_i i j
    cases e
    obtain ⟨v, v', rfl, r1, r2⟩ := r.two
    rw [r1.int_inv, r2.int_inv]
    exact ⟨_, call_max2 hc, i, j, rfl, same0 hS q (.int _)⟩
  · cases e
theorem cs_min2 (hc : X.calm = true) : CallS X (.builtin "min") gMin2 := by
  intro vs H Q ρ S ws w S' hS r e q
  unfold gMin2 at e
  split at e
  · rename_i i j
    cases e
    obtain ⟨v, v', rfl, r1, r2⟩ := r.two
    rw [r1.int_inv, r2.int_inv]
    exact ⟨_, call_min2 hc, i, j, rfl, same0 hS q (.int _)⟩
  · cases e
theorem boot_all' : bootBuiltins "all" = some (.builtin "all") := by decide +kernel
theorem boot_any' : bootBuiltins "any" = some (.builtin "any") := by decide +kernel
theorem boot_sum' : bootBuiltins "sum" = some (.builtin "sum") := by decide +kernel
theorem boot_max' : bootBuiltins "max" = some (.builtin "max") := by decide +kernel
theorem boot_min' : bootBuiltins "min" = some (.builtin "min") := by decide +kernel
theorem boot_len' : bootBuiltins "len" = some (.builtin "len") := by decide +kernel
theorem boot_int' : bootBuiltins "int" = some (.type "int") := by decide +kernel
theorem boot_str' : bootBuiltins "str" = some (.type "str") := by decide +kernel
theorem boot_list' : bootBuiltins "list" = some (.type "list") := by decide +kernel
theorem boot_tuple' : bootBuiltins "tuple" = some (.type "tuple") := by decide +kernel
theorem boot_dict' : bootBuiltins "dict" = some (.type "dict") := by decide +kernel
theorem boot_bool' : bootBuiltins "bool" = some (.type "bool") := by decide +kernel
end
end Dn

set_option maxHeartbeats 4000000
/-! Dn16: subscripts of dicts and sequences; what printed walks lean on -/
namespace Dn
open PySem PySem.Spec PyProof.Rows L2
def isDic (S : Store) : W → Bool
  | .ref n => match S[n]? with
    | some (.dic _) => true
    | _ => false
  | _ => false
def subW (x y : W) (S : Store) : R W := if isDic S x = true then dGetW S x y else rIxW x y S
def dSub (da db : DE) : DE := fun env S => (da env S).bind fun x S1 => (db env S1).bind fun y S2 => subW x y S2
section
variable {X : Cx} {cur : Option Cur} {pos : Pos}
theorem PE.or {e : Expr} {t t' : TE} (h : PE X e t) (h' : PE X e t') : PE X e (fun σ H Q => t σ H Q ∨ t' σ H Q) := ⟨fun pins s σ H Q I q => q.elim (h.run pins s σ H Q I) (h'.run pins s σ H Q I)⟩
theorem se_sub {a b : Expr} {da db : DE} (hu : X.A.units + 1 < cLine) (ha : SE X cur a da) (hb : SE X cur b db) (hs : PlainIx b := by exact fun _ _ => rfl) (hs2 : NoSl b := by exact fun _ _ => rfl) : SE X cur (.Subscript a b pos) (dSub da db) := ⟨fun E tk =>
  PE.imp (PE.or ((se_dget hu ha hb hs2).pe E tk) ((se_ix ha hb hs).pe E tk)) fun σ H Q ⟨ρ, env, S, hE, hS, p⟩ => by
    by_cases q : ∃ x S1 y S2, da env S = .ok x S1 ∧ db env S1 = .ok y S2 ∧ isDic S2 x = true
    · obtain ⟨x, S1, y, S2, e1, e2, e3⟩ := q
      refine .inl ⟨ρ, env, S, hE, hS, ?_⟩
      unfold dSub subW at p
      unfold dDGet
      simp only [e1, e2, R.bind_ok, if_pos e3] at p ⊢
      exact p
    · refine .inr ⟨ρ, env, S, hE, hS, ?_⟩
      unfold dSub subW at p
      unfold dOp
      cases e1 : da env S with
      | ok x S1 =>
        simp only [e1, R.bind_ok] at p ⊢
        cases e2 : db env S1 with
        | ok y S2 =>
          simp only [e2, R.bind_ok] at p ⊢
          by_cases e3 : isDic S2 x = true
          · exact absurd ⟨x, S1, y, S2, e1, e2, e3⟩ q
          · rw [if_neg e3] at p; exact p
        | exc k fs S2 => simp only [e2, R.bind_exc] at p ⊢; exact p
        | bad => simp only [e2, R.bind_bad] at p ⊢; exact p
      | exc k fs S1 => simp only [e1, R.bind_exc] at p ⊢; exact p
      | bad => simp only [e1, R.bind_bad] at p ⊢; exact p⟩
theorem u64 {j : Nat} {A : Around} (hr : Room j A) : A.units + 64 < cLine := by have := hr.un; omega
theorem u65 {j : Nat} {A : Around} (hr : Room j A) : A.units + 65 < cLine := by have := hr.un; omega
theorem u1 {j : Nat} {A : Around} (hr : Room j A) : A.units + 1 < cLine := by have := hr.un; omega
theorem sss_ite {sts : List Stmt} {p : Prop} [Decidable p] {d : DS} (h : p → SSs X cur sts d) : SSs X cur sts (if p then d else dBadS) := by
  by_cases q : p
  · rw [if_pos q]; exact h q
  · rw [if_neg q]; exact sss_bad
theorem nmOk_some {n : Str} {i : Nat} (hN : X.N.Nodup) (hi : X.N[i]? = some n) (hk : X.env.kindOf n = some .local) : NmOk X (some n) (some i) := ⟨hN, hi, hk⟩
theorem nmOk_none : NmOk X none none := trivial
/-- which error classes are of which: all stand right below one -/
def isXo (root : Str) (ks : List Str) : Str → Str → Option Bool := fun k c => if k ∈ ks then (if c = root then some true else if c ∈ ks then some (decide (k = c)) else none) else none
end
/-- a constant of the module -/
def GWm (K : PySem.W.Frag) (mg : Str → Option Value) (x : Str) (w : W) : Prop := ∃ v u, mg x = some u ∧ RelV v u ∧ ∀ ρ n H, RW ⟨K, mg⟩ ρ n H w v
end Dn

set_option maxHeartbeats 4000000
/-! Dn17: what a def is told to do: its body; its body without what is left over; a law of plain values -/
namespace Dn
open PySem PySem.Spec PyProof.Rows L2
/-- f tells what the body d does -/
structure Mn (N n : Nat) (d : DS) (f : FW) : Prop where
  off : ∀ ws S, ws.length ≠ n → f ws S = .bad
  go : ∀ (c : Cn) (ρ : Nat → Addr) (H : Hp) (S : Store) (ws : List W) (vs : List V) (Q : VK) (E : XK), ws.length = n → RS c ρ H S → RWs c ρ S.length H ws vs → Post c ρ H S (f ws S) Q E → ∃ ρ' S', RS c ρ' H S' ∧ RWs c ρ' S'.length H ws vs ∧ Post c ρ' H S' (bodyD N n d ws S') Q E
theorem Mn.self {N n : Nat} {d : DS} : Mn N n d (bodyD N n d) := ⟨fun ws S h => bodyD_off h, fun c ρ H S ws vs Q E _ hS hW p => ⟨ρ, S, hS, hW, p⟩⟩
theorem Mn.trim {N n : Nat} {d : DS} {f : FW} (off : ∀ ws S, ws.length ≠ n → f ws S = .bad) (h : Does N n d f) : Mn N n d f := ⟨off, fun c ρ H S ws vs Q E hl hS hW p => ⟨ρ, S, hS, hW, p.trim (h ws S hl hW.lt hS.cl)⟩⟩
/-! a law of plain values -/
inductive P where
  | ok (w : W) | exc (k : Str) (fs : List (Str × W)) | bad
def P.at (S : Store) : P → R W
  | .ok w => .ok w S
  | .exc k fs => .exc k fs S
  | .bad => .bad
def pureF (n : Nat) (p : List W → P) : FW := fun ws S => if ws.length = n then (if ltWs 0 ws = true then (p ws).at S else .bad) else .bad
mutual
theorem shW_pure (n : Nat) : ∀ w : W, ltW 0 w = true → shW n w = w
  | .non, _ => rfl
  | .bl _, _ => rfl
  | .int _, _ => rfl
  | .str _, _ => rfl
  | .tup xs, h => by unfold shW; rw [shWs_pure n xs (by unfold ltW at h; exact h)]
  | .fls xs, h => by unfold shW; rw [shWs_pure n xs (by unfold ltW at h; exact h)]
  | .ref i, h => by unfold ltW at h; exact absurd (of_decide_eq_true h) (Nat.not_lt_zero i)
  | .lam f c q vs ws, h => by unfold shW; rw [shWs_pure n ws (by unfold ltW at h; exact h)]
theorem shWs_pure (n : Nat) : ∀ ws : List W, ltWs 0 ws = true → shWs n ws = ws
  | [], _ => rfl
  | w :: ws, h => by
    unfold ltWs at h
    rw [Bool.and_eq_true] at h
    unfold shWs
    rw [shW_pure n w h.1, shWs_pure n ws h.2]
end
mutual
theorem ltW_mono {m n : Nat} (hm : m ≤ n) : ∀ w : W, ltW m w = true → ltW n w = true
  | .non, _ => rfl
  | .bl _, _ => rfl
  | .int _, _ => rfl
  | .str _, _ => rfl
  | .tup xs, h => by unfold ltW at h ⊢; exact ltWs_mono hm xs h
  | .fls xs, h => by unfold ltW at h ⊢; exact ltWs_mono hm xs h
  | .ref i, h => by unfold ltW at h ⊢; have := of_decide_eq_true h; exact decide_eq_true (by omega)
  | .lam f c q vs ws, h => by unfold ltW at h ⊢; exact ltWs_mono hm ws h
theorem ltWs_mono {m n : Nat} (hm : m ≤ n) : ∀ ws : List W, ltWs m ws = true → ltWs n ws = true
  | [], _ => rfl
  | w :: ws, h => by
    unfold ltWs at h ⊢
    rw [Bool.and_eq_true] at h ⊢
    exact ⟨ltW_mono hm w h.1, ltWs_mono hm ws h.2⟩
end
theorem shF_pure (n : Nat) : ∀ fs : List (Str × W), ltWs 0 (fs.map (·.2)) = true → shF n fs = fs
  | [], _ => rfl
  | (k, w) :: fs, h => by
    rw [List.map_cons] at h
    unfold ltWs at h
    rw [Bool.and_eq_true] at h
    have ih := shF_pure n fs h.2
    unfold shF at ih ⊢
    rw [List.map_cons, ih, shW_pure n w h.1]
/-- what is shown of plain values at the bare store -/
def DoesP (N n : Nat) (d : DS) (p : List W → P) : Prop := ∀ ws, ws.length = n → ltWs 0 ws = true → match p ws with
  | .ok w => ltW 0 w = true ∧ ∃ G, bodyD N n d ws [] = .ok w G
  | .exc k fs => ltWs 0 (fs.map (·.2)) = true ∧ ∃ G, bodyD N n d ws [] = .exc k fs G
  | .bad => True
theorem Mn.pure {N n : Nat} {d : DS} {p : List W → P} (h : DoesP N n d p) : Mn N n d (pureF n p) := by
  refine ⟨fun ws S hl => if_neg hl, fun c ρ H S ws vs Q E hl hS hW q => ?_⟩
  unfold pureF at q
  rw [if_pos hl] at q
  by_cases h0 : ltWs 0 ws = true
  · rw [if_pos h0] at q
    refine ⟨ρ, [], RS.empty hS.tab, hW.re (fun _ _ => rfl) h0, Post.shift hS ?_⟩
    have hp := h ws hl h0
    revert hp q
    cases p ws with
    | ok w =>
      rintro q ⟨h1, G, e⟩
      rw [e]
      refine Post.trim ?_ q
      exact ⟨G.map (shCell S.length), by show R.ok (shW _ w) _ = _; rw [shW_pure _ _ h1], Nat.le_refl _, hS.cl, ltW_mono (Nat.zero_le _) _ h1⟩
    | exc k fs =>
      rintro q ⟨h1, G, e⟩
      rw [e]
      refine Post.trim ?_ q
      exact ⟨G.map (shCell S.length), by show R.exc k (shF _ fs) _ = _; rw [shF_pure _ _ h1], Nat.le_refl _, hS.cl, ltWs_mono (Nat.zero_le _) _ h1⟩
    | bad => exact fun q _ => q.elim
  · rw [if_neg h0] at q; exact q.elim
section
variable {P : Program} {w : World} {K : PySem.W.Frag} {mg : Str → Option Value} {base : Heap}
/-- THE RULE: a def keeps the promise of what it is told to do -/
theorem fnM {x qual : Str} {params : Arguments} {body : List Stmt} {scope : Scope} {dvs : List V} {kws : List (Str × V)} {fa : Addr} {fd : FuncData} {N ps : List Str} {n k : Nat} {d : DS} {f : FW} (F : FunD K x qual params body scope dvs kws fa fd) (Sc : FnScope N ps scope) (hn : n = ps.length)
    (hb : ∀ (cdv : Value) (A : Around) (outer : List PySem.Env) (s : Shared) (H : Hp) (E : XK), Cod K fa cdv qual → Room k (A.deeper (envOfC qual scope s.heap.objs.size fa cdv)) → SSs (cxOf (L2.CX P w) P w K mg base N qual scope fa cdv A outer s H E) none body d)
    (hd : Mn N.length n d f) : FnOk P w K mg base (L2.CX P w) (k + 1) fa fd ps (SpD ⟨K, mg⟩ n f) :=
  (fnD F Sc hn hb (.inl fun _ _ => rfl)).imp fun vs H Q E ⟨hl, ρ, ws, S, hS, hW, p⟩ => by
    obtain ⟨ρ', S', h1, h2, h3⟩ := hd.go _ ρ H S ws vs Q E (hW.length.trans hl) hS hW p
    exact ⟨hl, ρ', ws, S', h1, h2, h3⟩
theorem calM {x : Str} {params : Arguments} {body : List Stmt} {scope : Scope} {fa : Addr} {fd : FuncData} {N ps : List Str} {n k : Nat} {d : DS} {f : FW} (F : FunD K x x params body scope [] [] fa fd) (hg : mg x = some (.ref fa)) (Sc : FnScope N ps scope) (hn : n = ps.length) (b : Binds K fd ps [])
    (hb : ∀ (cdv : Value) (A : Around) (outer : List PySem.Env) (s : Shared) (H : Hp) (E : XK), Cod K fa cdv x → Room k (A.deeper (envOfC x scope s.heap.objs.size fa cdv)) → SSs (cxOf (L2.CX P w) P w K mg base N x scope fa cdv A outer s H E) none body d)
    (hd : Mn N.length n d f) : Cal P w K mg base (k + 1) x [] f := ⟨fa, fd, ps, n, [], [], fnM F Sc hn hb hd, hd.off, hg, F.kp, b, .nil, fun _ _ _ => .nil⟩
theorem metM {c m qual : Str} {C : Addr} {params : Arguments} {body : List Stmt} {scope : Scope} {fa : Addr} {fd : FuncData} {N ps : List Str} {n k : Nat} {d : DS} {f : FW} (F : FunD K m qual params body scope [] [] fa fd) (hg : mg c = some (.ref C)) (cl : Cls K C) (me : Meth K C m fa) (Sc : FnScope N ps scope) (hn : n = ps.length) (b : Binds K fd ps [])
    (hb : ∀ (cdv : Value) (A : Around) (outer : List PySem.Env) (s : Shared) (H : Hp) (E : XK), Cod K fa cdv qual → Room k (A.deeper (envOfC qual scope s.heap.objs.size fa cdv)) → SSs (cxOf (L2.CX P w) P w K mg base N qual scope fa cdv A outer s H E) none body d)
    (hd : Mn N.length n d f) : Met P w K mg base (k + 1) c m f := ⟨C, fa, fd, ps, n, fnM F Sc hn hb hd, hd.off, hg, cl, me, b⟩
theorem makM {c qual : Str} {C : Addr} {params : Arguments} {body : List Stmt} {scope : Scope} {fa : Addr} {fd : FuncData} {N ps : List Str} {n k : Nat} {d : DS} {f : FW} (F : FunD K "__init__" qual params body scope [] [] fa fd) (hg : mg c = some (.ref C)) (mk : Mk K C fa) (Sc : FnScope N ps scope) (hn : n = ps.length) (b : Binds K fd ps [])
    (hb : ∀ (cdv : Value) (A : Around) (outer : List PySem.Env) (s : Shared) (H : Hp) (E : XK), Cod K fa cdv qual → Room k (A.deeper (envOfC qual scope s.heap.objs.size fa cdv)) → SSs (cxOf (L2.CX P w) P w K mg base N qual scope fa cdv A outer s H E) none body d)
    (hd : Mn N.length n d f) : Mak P w K mg base (k + 1) c f := ⟨C, fa, fd, ps, n, fnM F Sc hn hb hd, hd.off, hg, mk, b⟩
theorem Cal.mono {j k : Nat} {x : Str} {dws : List W} {f : FW} (c : Cal P w K mg base j x dws f) (h : j ≤ k) : Cal P w K mg base k x dws f := by
  obtain ⟨fa, fd, ps, n, ds, dvs, F, r⟩ := c.ex
  exact ⟨fa, fd, ps, n, ds, dvs, F.mono h, r⟩
theorem Met.mono {j k : Nat} {x m : Str} {f : FW} (c : Met P w K mg base j x m f) (h : j ≤ k) : Met P w K mg base k x m f := by
  obtain ⟨C, fa, fd, ps, n, F, r⟩ := c.ex
  exact ⟨C, fa, fd, ps, n, F.mono h, r⟩
theorem Mak.mono {j k : Nat} {x : Str} {f : FW} (c : Mak P w K mg base j x f) (h : j ≤ k) : Mak P w K mg base k x f := by
  obtain ⟨C, fa, fd, ps, n, F, r⟩ := c.ex
  exact ⟨C, fa, fd, ps, n, F.mono h, r⟩
/-- nothing is known of what never is called -/
theorem Cal.bot {k : Nat} {x : Str} {dws : List W} {n : Nat} {fa : Addr} {fd : FuncData} {ps : List Str} {ds : List Value} {dvs : List V} (hn : n = ps.length) (hg : mg x = some (.ref fa)) (kp : PySem.W.keepIn K (.ref fa) = true) (b : Binds K fd ps ds) (v : Vals dvs ds) (r : ∀ ρ n H, RWs ⟨K, mg⟩ ρ n H dws dvs) :
    Cal P w K mg base k x dws (fun _ _ => .bad) := ⟨fa, fd, ps, n, ds, dvs, ⟨fun vs H Q E h => h.1.trans hn, fun A outer s H args us vs Q E _ _ _ _ ⟨_, _, _, _, _, _, p⟩ => p.elim⟩, fun _ _ _ => rfl, hg, kp, b, v, r⟩
end
end Dn

set_option maxHeartbeats 4000000
/-! Dn18: what the head tells of the written part; the end -/
namespace Dn
open PySem PySem.Spec PyProof.Rows L2
/-! ### tests of the written part -/
/-- a class of errors, over ValueError's, with its own __init__ or not -/
def oexB (K : PySem.W.Frag) (C : Addr) : Bool := (match K.lookup C with
  | some ⟨.type "type", dd, .cls cd, sl⟩ => (match cd.mro, sl.toList with
    | .ref C' :: bm, [_, _, _, _, some (.builtin n), _] => decide (C' = C) && (decide (n = "ValueError.__new__") && (!cd.hasDel && (cd.hasDict && PySem.HandSPX.refsVE bm)))
    | _, _ => false)
  | _ => false) && (He.eqO (PySem.W.findIn K (.ref C) "__setattr__") (some (some (.builtin "object.__setattr__"))) && (decide (PySem.W.subIn K (.ref C) (.type "BaseException") = some true) && (decide (PySem.W.typeIn K (.ref C) = some (.type "type")) && PySem.W.keepIn K (.ref C))))
theorem oexB_ok {K : PySem.W.Frag} {C : Addr} (h : oexB K C = true) : OexC K C := by
  unfold oexB at h
  obtain ⟨h1, h⟩ := He.ba h
  obtain ⟨h2, h⟩ := He.ba h
  obtain ⟨h3, h⟩ := He.ba h
  obtain ⟨h4, h5⟩ := He.ba h
  refine ⟨?_, He.eqO_ok h2, of_decide_eq_true h3, of_decide_eq_true h4, h5⟩
  split at h1
  · rename_i dd cd sl ho
    split at h1
    · rename_i C' bm k0 k1 k2 k3 n k5 hm hs
      obtain ⟨g1, g⟩ := He.ba h1
      obtain ⟨g2, g⟩ := He.ba g
      obtain ⟨g3, g⟩ := He.ba g
      obtain ⟨g4, g5⟩ := He.ba g
      have g1 := of_decide_eq_true g1
      have g2 := of_decide_eq_true g2
      subst g1 g2
      obtain ⟨nm, bs, mro, ns, qn, hd, sn, sb, ab, col, dl⟩ := cd
      dsimp only at hm g3 g4
      subst hm g4
      have g3 : dl = false := by cases dl <;> first | rfl | cases g3
      subst g3
      have e : sl = #[k0, k1, k2, k3, some (.builtin "ValueError.__new__"), k5] := by
        apply Array.ext'
        rw [hs]
      subst e
      exact ⟨_, _, _, _, _, _, _, _, _, _, _, _, _, _, _, ho, g5⟩
    · cases h1
  · cases h1
/-! a value of the module: tuples within tuples -/
mutual
def wB (K : PySem.W.Frag) : W → Value → Bool
  | .non, .none => true
  | .bl b, .bool c => b == c
  | .int i, .int j _ => decide (i = j)
  | .str x, .str y _ => decide (x = y)
  | .tup ws, .ref a => (match K.lookup a with
    | some ⟨.type c, _, .seq its _, _⟩ => decide (c = "tuple") && (decide (its.size ≤ sizeLine) && wsB K ws its.toList)
    | _ => false)
  | _, _ => false
def wsB (K : PySem.W.Frag) : List W → List Value → Bool
  | [], [] => true
  | w :: ws, u :: us => wB K w u && wsB K ws us
  | _, _ => false
end
mutual
theorem wB_ok {K : PySem.W.Frag} : ∀ (w : W) (u : Value), wB K w u = true → ∃ v, RelV v u ∧ ∀ (mg : Str → Option Value) ρ n H, RW ⟨K, mg⟩ ρ n H w v
  | .non, u, h => by
    cases u <;> first | (exact ⟨.non, rfl, fun _ _ _ _ => .non⟩) | (simp [wB] at h)
  | .bl b, u, h => by
    cases u with
    | bool c =>
      simp only [wB, beq_iff_eq] at h
      subst h
      exact ⟨.bl b, rfl, fun _ _ _ _ => .bl b⟩
    | _ => simp [wB] at h
  | .int i, u, h => by
    cases u with
    | int j t =>
      simp only [wB, decide_eq_true_eq] at h
      subst h
      exact ⟨.int i, ⟨t, rfl⟩, fun _ _ _ _ => .int i⟩
    | _ => simp [wB] at h
  | .str x, u, h => by
    cases u with
    | str j t =>
      simp only [wB, decide_eq_true_eq] at h
      subst h
      exact ⟨.str x, ⟨t, rfl⟩, fun _ _ _ _ => .str x⟩
    | _ => simp [wB] at h
  | .tup ws, u, h => by
    cases u with
    | ref a =>
      simp only [wB] at h
      split at h
      · rename_i c od its n sl e
        obtain ⟨h1, h⟩ := He.ba h
        obtain ⟨h2, h3⟩ := He.ba h
        have h1 := of_decide_eq_true h1
        subst h1
        obtain ⟨vs, rv, rw⟩ := wsB_ok ws its.toList h3
        exact ⟨.ref a, rfl, fun mg ρ n' H => .tup (.inr ⟨_, its, n, e, rfl, rfl, of_decide_eq_true h2, rv⟩) (rw mg ρ n' H)⟩
      · cases h
    | _ => simp [wB] at h
  | .fls ws, u, h => by cases u <;> simp [wB] at h
  | .ref i, u, h => by cases u <;> simp [wB] at h
  | .lam _ _ _ _ _, u, h => by cases u <;> simp [wB] at h
theorem wsB_ok {K : PySem.W.Frag} : ∀ (ws : List W) (us : List Value), wsB K ws us = true → ∃ vs, Vals vs us ∧ ∀ (mg : Str → Option Value) ρ n H, RWs ⟨K, mg⟩ ρ n H ws vs
  | [], us, h => by
    cases us with
    | nil => exact ⟨[], .nil, fun _ _ _ _ => .nil⟩
    | cons u us => simp [wsB] at h
  | w :: ws, us, h => by
    cases us with
    | nil => simp [wsB] at h
    | cons u us =>
      simp only [wsB] at h
      obtain ⟨h1, h2⟩ := He.ba h
      obtain ⟨v, r1, q1⟩ := wB_ok w u h1
      obtain ⟨vs, r2, q2⟩ := wsB_ok ws us h2
      exact ⟨v :: vs, .cons r1 r2, fun mg ρ n H => .cons (q1 mg ρ n H) (q2 mg ρ n H)⟩
end
def gwB (K : PySem.W.Frag) (x : Str) (w : W) : Bool := match PySem.W.nsIn K mainGlobals x with
  | some (some u) => wB K w u
  | _ => false
theorem gwB_ok {K : PySem.W.Frag} {h : Heap} {mg : Str → Option Value} {x : Str} {w : W} (X : K.In h) (G : h.Ns mainGlobals mg) (c : gwB K x w = true) : GWm K mg x w := by
  unfold gwB at c
  split at c
  · rename_i u e
    obtain ⟨v, r, q⟩ := wB_ok w u c
    exact ⟨v, u, PySem.W.mg_of X G e, r, q mg⟩
  · cases c
/-- the code objects of the written part and their tables are those of the defs told of -/
def codesB (K : PySem.W.Frag) (tf : List He.Defn) : Bool := codesOf (tf.map (He.cT K)) K
where codesOf (cs : List (Addr × Addr)) (K : PySem.W.Frag) : Bool := (K.all fun p => match tabO p.2 with
  | none => true
  | some t => cs.any fun q => Nat.beq q.1 p.1 && Nat.beq q.2 t.1) && (tabK K).all fun t => (tabK K).all fun u => !(Nat.beq t.1 u.1) || decide (t.2 = u.2)
theorem codesB_ok {K : PySem.W.Frag} {tf : List He.Defn} (h : codesB K tf = true) : (∀ t ∈ tabK K, ∃ p ∈ tf, (He.cT K p).2 = t.1) ∧ ∀ t ∈ tabK K, ∀ u ∈ tabK K, t.1 = u.1 → t.2 = u.2 := by
  unfold codesB codesB.codesOf at h
  obtain ⟨h1, h2⟩ := He.ba h
  refine ⟨fun t ht => ?_, fun t ht u hu e => ?_⟩
  · obtain ⟨p, hp, e⟩ := List.mem_filterMap.mp ht
    have q := List.all_eq_true.mp h1 p hp
    rw [e] at q
    obtain ⟨c, hc, q⟩ := List.any_eq_true.mp q
    obtain ⟨d, hd, rfl⟩ := List.mem_map.mp hc
    exact ⟨d, hd, Nat.eq_of_beq_eq_true (He.ba q).2⟩
  · have q := List.all_eq_true.mp (List.all_eq_true.mp h2 t ht) u hu
    rw [e, show Nat.beq u.1 u.1 = true from Nat.beq_refl u.1] at q
    exact of_decide_eq_true q
/-- a def that makes lambdas -/
theorem lamM_of {X : Cx} {q : Str} {c P : Addr} (hq : X.env.qual = q ++ ".<locals>.") (hcode : X.env.code = .ref c) (TB : LamX.TabB X.base X.mg c P) (hc : PySem.W.codeIn X.K (.ref c) q = true) (hP : PySem.W.codeHdIn X.K c P = true) (u : ∀ t ∈ tabK X.K, ∀ u ∈ tabK X.K, t.1 = u.1 → t.2 = u.2) : LamM X := by
  have hm : (P, X.env.qual ++ "<lambda>") ∈ tabK X.K := by
    have hc' : (match X.K.lookup c with
      | some ⟨_, _, .fields vs, _⟩ => (match vs.toList with | _ :: .str n _ :: _ => n == q | _ => false)
      | _ => false) = true := hc
    unfold PySem.W.codeHdIn at hP
    split at hP
    · rename_i dd vs sl e
      rw [e] at hc'
      simp only at hc'
      obtain ⟨hP, _⟩ := He.ba hP
      obtain ⟨hP, _⟩ := He.ba hP
      obtain ⟨hP, _⟩ := He.ba hP
      obtain ⟨hP, _⟩ := He.ba hP
      obtain ⟨hP, _⟩ := He.ba hP
      split at hP
      · rename_i P' e1
        have eP := beq_iff_eq.mp hP
        subst eP
        split at hc'
        · rename_i x n t l e2
          have en := beq_iff_eq.mp hc'
          subst en
          refine List.mem_filterMap.mpr ⟨(c, _), He.lookup_mem e, ?_⟩
          unfold tabO
          have d1 : vs.toList.drop 1 = .str n t :: l := by rw [e2]; rfl
          have d11 : ∃ l', vs.toList.drop 11 = .ref P' :: l' := by
            have e1' : vs.toList[11]? = some (.ref P') := by rw [Array.getElem?_toList]; exact e1
            obtain ⟨h11, e3⟩ := List.getElem?_eq_some_iff.mp e1'
            exact ⟨vs.toList.drop 12, by rw [List.drop_eq_getElem_cons h11, e3]⟩
          obtain ⟨l', d11⟩ := d11
          simp only [d1, d11, hq]
        · cases hc'
      · cases hP
    · cases hP
  exact ⟨c, P, hcode, TB, hm, fun p hp e => u p hp _ hm e⟩
/-! ### the end -/
theorem rws_ints {c : Cn} {ρ : Nat → Addr} {n : Nat} {H : Hp} : ∀ ns : List Int, RWs c ρ n H (ns.map W.int) (ns.map V.int)
  | [] => .nil
  | z :: ns => .cons (.int z) (rws_ints ns)
/-- what a law must do -/
def LawOk (n : Nat) (f : FW) : Prop := ∀ ns : List Int, ns.length ≤ n → (∀ z ∈ ns, Builtin.Int.intBits z ≤ 1048576) → (∃ S', f [.fls (ns.map W.int)] [] = .ok (.bl true) S') ∧ ∃ S', f [.ref 0] [.lst (ns.map W.int)] = .ok (.bl true) S'
theorem lawAt {l : PySem.W.OpenLaw} {w : World} {K : PySem.W.Frag} {mg : Str → Option Value} {fa : Addr} {h : Heap} {n k : Nat} {x : Str} {tf : List He.Defn} {f : FW} {fd : FuncData} (KX : K.In h) (hd : ∀ p ∈ tf, PySem.W.codeHdIn K (He.cT K p).1 (He.cT K p).2 = true) (out : ∀ p ∈ tf, K.lookup (He.cT K p).2 = none)
    (emp : ∀ p ∈ tf, h.get? (He.cT K p).2 = some { cls := .none, data := .fields #[] }) (hc : codesB K tf = true) (hb : ∀ (s : Shared) (u : Value), BindsTo s fd ⟨[u], []⟩ [(x, u)])
    (F : ∀ base : Heap, K.In base → base.Ns mainGlobals mg → (∀ p ∈ tf, LamX.TabB base mg (He.cT K p).1 (He.cT K p).2) → FnOk l.prog w K mg base (L2.CX l.prog w) k fa fd [x] (SpD ⟨K, mg⟩ 1 f)) (hf : LawOk n f) : LamX.LawAtS l w K (L2.CX l.prog w) k n x mg fa h := by
  have hm : ∀ q ∈ tf.map (He.cT K), ∃ p ∈ tf, He.cT K p = q := fun q hq => List.mem_map.mp hq
  refine ⟨fd, tf.map (He.cT K), SpD ⟨K, mg⟩ 1 f, fun q hq => ?_, fun q hq => ?_, fun q hq => ?_, hb, fun H a ns hl hz hT hS => ?_, fun base b1 b2 b3 => F base b1 b2 fun p hp => b3 _ (List.mem_map.mpr ⟨p, hp, rfl⟩)⟩
  · obtain ⟨p, hp, rfl⟩ := hm q hq; exact emp p hp
  · obtain ⟨p, hp, rfl⟩ := hm q hq; exact out p hp
  · obtain ⟨p, hp, rfl⟩ := hm q hq; exact PySem.W.codeHd_of_K KX (hd p hp)
  · have tab : LamX.Tabs (tabK K) H := fun t ht => by
      obtain ⟨p, hp, e⟩ := (codesB_ok hc).1 t ht
      have := hT _ (List.mem_map.mpr ⟨p, hp, rfl⟩)
      rw [e] at this
      exact LamX.TabS.nil this
    obtain ⟨⟨S1, e1⟩, S2, e2⟩ := hf ns hl hz
    have go : ∀ {ρ : Nat → Addr} {ws : List W} {S S' : Store}, RS ⟨K, mg⟩ ρ H S → RWs ⟨K, mg⟩ ρ S.length H ws [.ref a] → f ws S = .ok (.bl true) S' → SpD ⟨K, mg⟩ 1 f [.ref a] H (fun v _ => v = .bl true) fun _ _ _ => False := fun {ρ ws S S'} hR hW e => ⟨rfl, ρ, ws, S, hR, hW, by
      rw [e]
      exact fun ρ' v H' _ r => by cases r; rfl⟩
    have fz : SqF K H a (ns.map V.int) → SpD ⟨K, mg⟩ 1 f [.ref a] H (fun v _ => v = .bl true) fun _ _ _ => False := fun q =>
      go (ρ := fun _ => a) (RS.empty tab) (.cons (.fls q (rws_ints ns)) .nil) e1
    rcases hS with (h1 | h1) | h1
    · refine go (ρ := fun _ => a) (S := [.lst (ns.map W.int)]) ⟨tab, fun i j hi hj _ => ?_, fun i y hy => ?_⟩ (.cons (.ref (by simp)) .nil) e2
      · simp at hi hj; omega
      · have : i = 0 := by
          have := (List.getElem?_eq_some_iff.mp hy).1
          simpa using this
        subst this
        simp at hy
        subst hy
        exact ⟨_, h1, rws_ints ns⟩
    · exact fz (.inl h1)
    · exact fz (.inr h1)
theorem cx_end {P : Program} {w : World} : ∀ (H : Hp) (s : Shared) (e : Value) (s' : Shared), L2.CX P w [] H s (fun _ _ _ => False) e s' → False := fun _ _ _ _ h => by
  obtain ⟨_, _, _, _, _, _, _, _, _, _, _, _, z⟩ := h
  exact z
theorem lamM_at {X : Cx} {q : Str} {fa : Addr} {cdv : Value} {p : He.Defn} (hq : X.env.qual = q ++ ".<locals>.") (hcode : X.env.code = cdv) (hc : Cod X.K fa cdv q) (hp : He.fAd X.K p = fa) (hd : PySem.W.codeHdIn X.K (He.cT X.K p).1 (He.cT X.K p).2 = true) (TB : LamX.TabB X.base X.mg (He.cT X.K p).1 (He.cT X.K p).2)
    (u : ∀ t ∈ tabK X.K, ∀ u ∈ tabK X.K, t.1 = u.1 → t.2 = u.2) : LamM X := by
  obtain ⟨h1, oc, od, osl, fd, lk, e⟩ := hc
  obtain ⟨c, ec⟩ := He.codeIn_ref h1
  have ed : fd.code = .ref c := e.trans ec
  have e2 : He.codeOf X.K p = c := He.codeOf_eq (by rw [hp]; exact lk) ed
  have e3 : (He.cT X.K p).1 = c := e2
  rw [e3] at hd TB
  subst ec
  exact lamM_of hq hcode TB h1 hd u
/-- a def that calls what it gets -/
theorem calL_of {P : Program} {w : World} {K : PySem.W.Frag} {mg : Str → Option Value} {base : Heap} {kb : Nat} {x a : Str} {FL : FLW} {params : Arguments} {body : List Stmt} {scope : Scope} {fa : Addr} {fd : FuncData} {N : List Str} {dB : W → (Store → R W) → DS} (F : FunD K x x params body scope [] [] fa fd) (hg : mg x = some (.ref fa)) (Sc : FnScope N [a] scope) (hN : N[0]? = some a) (hva : Vis scope a) (b : Binds K fd [a] [])
    (hb : ∀ (cdv : Value) (A : Around) (outer : List PySem.Env) (s : Shared) (H : Hp) (l : W) (cb : Store → R W), Room kb (A.deeper (envOfC x scope s.heap.objs.size fa cdv)) →
      (∀ (pn : List (Addr × Obj)) (xe : Value → Shared → Prop) (p1 p2 : Pos), SE ((cxOf C8.CX0 P w K mg base N x scope fa cdv A outer s H C8.E0).tr pn xe) none (.Call (.Name a p1) [] [] p2) (dCb l cb)) →
      SSs (cxOf C8.CX0 P w K mg base N x scope fa cdv A outer s H C8.E0).nox none body (dB l cb))
    (hT : ∀ l cb S, FL cb S = .bad ∨ bodyD N.length 1 (dB l cb) [l] S = FL cb S) (hd : (a == ("__debug__" : Str)) = false := by decide) (hcd : (a == ("__classdict__" : Str)) = false := by decide) : CalL P w K mg base kb x FL := by
  obtain ⟨oc, od, dV, kV, doc, pm, an, cdv, ct, osl, rfl, lk, hc, _, _⟩ := F.ex
  exact ⟨fa, params, body, scope, dV, kV, doc, pm, cdv, ct, oc, an, od, osl, N, a, hg, F.kp, lk, hc, b, Sc, hN, hva, hd, hcd, fun A outer s H l cb hr hcb => ⟨dB l cb, hb cdv A outer s H l cb hr hcb, hT l cb⟩⟩
/-- an exception class by the written part -/
theorem xcl_of {P : Program} {w : World} {K : PySem.W.Frag} {mg : Str → Option Value} {base : Heap} {lv : Nat} {k : Str} {names : List Str} {C fI : Addr} {fd : FuncData} {ps : List Str} (hg : mg k = some (.ref C)) (h1 : oexB K C = true) (h2 : xfB K C = true) (h3 : (names.all fun f => He.eqO (PySem.W.findIn K (.ref C) f) (some none)) = true) (h4 : PySem.W.findIn K (.ref C) "__init__" = some (some (.ref fI)))
    (h5 : PySem.W.typeIn K (.ref fI) = some (.type "function")) (F : FnOk P w K mg base (L2.CX P w) lv fI fd ps (SpX K names)) (b : Binds K fd ps []) : Xcl P w K mg base lv k names :=
  ⟨C, fI, fd, ps, hg, oexB_ok h1, xfB_ok h2, fun f hf => He.eqO_ok (List.all_eq_true.mp h3 f hf), h4, h5, F, b⟩
end Dn

set_option maxHeartbeats 4000000
/-! Dn19: lists of tests of the written part -/
namespace Dn
open PySem PySem.Spec PyProof.Rows L2
section
variable {K : PySem.W.Frag} {h : Heap} {mg : Str → Option Value}
def gloB (xs : List Str) (K : PySem.W.Frag) : Bool := xs.all fun x => He.eqO (PySem.W.nsIn K mainGlobals x) (some (some (.ref (He.ga K x))))
theorem gloB_ok {xs : List Str} (X : K.In h) (G : h.Ns mainGlobals mg) (c : gloB xs K = true) {x : Str} (hx : x ∈ xs) : mg x = some (.ref (He.ga K x)) := PySem.W.mg_of X G (He.eqO_ok (List.all_eq_true.mp c x hx))
def freeB (xs : List Str) (K : PySem.W.Frag) : Bool := xs.all fun x => He.eqO (PySem.W.nsIn K mainGlobals x) (some none)
theorem freeB_ok {xs : List Str} (X : K.In h) (G : h.Ns mainGlobals mg) (c : freeB xs K = true) {x : Str} (hx : x ∈ xs) : mg x = none := PySem.W.mg_none_of X G (He.eqO_ok (List.all_eq_true.mp c x hx))
def fkB (ps : List (Str × Str)) (K : PySem.W.Frag) : Bool := ps.all fun p => (He.Fa.glo p.1).ok K && ((He.Fa.cls p.1).ok K && (He.Fa.noat p.1 p.2).ok K)
theorem fkB_ok {ps : List (Str × Str)} (X : K.In h) (G : h.Ns mainGlobals mg) (c : fkB ps K = true) : ∀ p ∈ ps, ∀ C, mg p.1 = some (.ref C) → Cls K C ∧ NoAttr K C p.2 := fun p hp C hC => by
  obtain ⟨c0, c⟩ := He.ba (List.all_eq_true.mp c p hp)
  obtain ⟨c1, c2⟩ := He.ba c
  have e := hC.symm.trans (He.glo_ok X G c0)
  cases e
  exact ⟨He.cls_ok c1, He.noat_ok c2⟩
def exmAll (root : Str) (ks : List Str) (K : PySem.W.Frag) : Bool := ks.all fun k => ks.all fun c => decide (PySem.W.exmOne K (.ref (He.ga K k)) (.ref (He.ga K c)) = some (if c = root then true else decide (k = c)))
theorem isx_of {root : Str} {ks : List Str} (hg : ∀ x ∈ ks, mg x = some (.ref (He.ga K x))) (hr : root ∈ ks) (h : exmAll root ks K = true) : ∀ k c b cv, isXo root ks k c = some b → mg k = some cv → ∃ cc, mg c = some cc ∧ PySem.W.exmOne K cv cc = some b := by
  intro k c b cv e hk
  unfold isXo at e
  by_cases q : k ∈ ks
  · rw [if_pos q] at e
    have ek := Option.some.inj (hk.symm.trans (hg k q))
    subst ek
    have key : c ∈ ks → (if c = root then true else decide (k = c)) = b → ∃ cc, mg c = some cc ∧ PySem.W.exmOne K (.ref (He.ga K k)) cc = some b := fun hc eb => by
      refine ⟨_, hg c hc, ?_⟩
      rw [← eb]
      exact of_decide_eq_true (List.all_eq_true.mp (List.all_eq_true.mp h k q) c hc)
    by_cases z : c = root
    · rw [if_pos z] at e
      exact key (z ▸ hr) (by rw [if_pos z]; exact Option.some.inj e)
    · rw [if_neg z] at e
      by_cases z2 : c ∈ ks
      · rw [if_pos z2] at e
        exact key z2 (by rw [if_neg z]; exact Option.some.inj e)
      · rw [if_neg z2] at e; cases e
  · rw [if_neg q] at e; cases e
/-- an exception class with these fields -/
def xclB (k : Str) (names : List Str) (K : PySem.W.Frag) : Bool := oexB K (He.ga K k) && (xfB K (He.ga K k) && ((names.all fun f => He.eqO (PySem.W.findIn K (.ref (He.ga K k)) f) (some none)) && (He.eqO (PySem.W.findIn K (.ref (He.ga K k)) "__init__") (some (some (.ref (He.ma K (He.ga K k) "__init__")))) && decide (PySem.W.typeIn K (.ref (He.ma K (He.ga K k) "__init__")) = some (.type "function")))))
theorem xclB_ok {P : Program} {w : World} {base : Heap} {lv : Nat} {k : Str} {names : List Str} {fd : FuncData} {ps : List Str} (hg : mg k = some (.ref (He.ga K k))) (c : xclB k names K = true) (F : FnOk P w K mg base (L2.CX P w) lv (He.ma K (He.ga K k) "__init__") fd ps (SpX K names)) (b : Binds K fd ps []) : Xcl P w K mg base lv k names := by
  obtain ⟨c1, c⟩ := He.ba c
  obtain ⟨c2, c⟩ := He.ba c
  obtain ⟨c3, c⟩ := He.ba c
  obtain ⟨c4, c5⟩ := He.ba c
  exact xcl_of hg c1 c2 c3 (He.eqO_ok c4) (of_decide_eq_true c5) F b
/-- classes' methods, makers -/
def methB (ps : List (Str × Str)) (K : PySem.W.Frag) : Bool := ps.all fun p => (He.Fa.cls p.1).ok K && (He.Fa.meth p.1 p.2).ok K
theorem methB_ok {ps : List (Str × Str)} (c : methB ps K = true) {p : Str × Str} (hp : p ∈ ps) : Cls K (He.ga K p.1) ∧ Meth K (He.ga K p.1) p.2 (He.ma K (He.ga K p.1) p.2) := by
  obtain ⟨c1, c2⟩ := He.ba (List.all_eq_true.mp c p hp)
  exact ⟨He.cls_ok c1, He.meth_ok c2⟩
def mkrB (xs : List Str) (K : PySem.W.Frag) : Bool := xs.all fun x => (He.Fa.mkr x).ok K
theorem mkrB_ok {xs : List Str} (c : mkrB xs K = true) {x : Str} (hx : x ∈ xs) : Mk K (He.ga K x) (He.ma K (He.ga K x) "__init__") := He.mkr_ok (List.all_eq_true.mp c x hx)
def gwsB (ps : List (Str × W)) (K : PySem.W.Frag) : Bool := ps.all fun p => gwB K p.1 p.2
theorem gwsB_ok {ps : List (Str × W)} (X : K.In h) (G : h.Ns mainGlobals mg) (c : gwsB ps K = true) {p : Str × W} (hp : p ∈ ps) : GWm K mg p.1 p.2 := gwB_ok X G (List.all_eq_true.mp c p hp)
end
end Dn

set_option maxHeartbeats 4000000
/-! Dn20: how meanings are reckoned out -/
namespace Dn
open PySem PySem.Spec PyProof.Rows L2
section
variable {env : Env} {S : Store}
@[simp] theorem ap_dVar {i : Nat} : dVar i env S = (match env[i]? with | some (some w) => R.ok w S | _ => .bad) := id rfl
@[simp] theorem ap_dC {w : W} : dC w env S = .ok w S := id rfl
@[simp] theorem ap_dOp {r : W → W → Store → R W} {a b : DE} : dOp r a b env S = (a env S).bind fun x S1 => (b env S1).bind fun y S2 => r x y S2 := id rfl
@[simp] theorem ap_dSub {a b : DE} : dSub a b env S = (a env S).bind fun x S1 => (b env S1).bind fun y S2 => subW x y S2 := id rfl
@[simp] theorem ap_dBool {d : DE} : dBool d env S = (d env S).bind fun w S1 => (match w with | .bl b => R.ok b S1 | _ => .bad) := id rfl
@[simp] theorem ap_dTru {d : DE} : dTru d env S = (d env S).bind fun w S1 => (match truW S1 w with | some b => R.ok b S1 | none => .bad) := id rfl
@[simp] theorem ap_dNot {d : DT} : dNot d env S = (d env S).bind fun b S1 => .ok (!b) S1 := id rfl
@[simp] theorem ap_dAnd {a b : DT} : dAnd a b env S = (a env S).bind fun k S1 => if k = true then b env S1 else .ok false S1 := id rfl
@[simp] theorem ap_dOr {a b : DT} : dOr a b env S = (a env S).bind fun k S1 => if k = true then .ok true S1 else b env S1 := id rfl
@[simp] theorem ap_dIf {c : DT} {a b : DE} : dIf c a b env S = (c env S).bind fun k S1 => if k = true then a env S1 else b env S1 := id rfl
@[simp] theorem ap_dNil : dNil env S = .ok [] S := id rfl
@[simp] theorem ap_dCons {d : DE} {ds : DA} : dCons d ds env S = (d env S).bind fun x S1 => (ds env S1).bind fun xs S2 => .ok (x :: xs) S2 := id rfl
@[simp] theorem ap_dTup {ds : DA} : dTup ds env S = (ds env S).bind fun xs S1 => if xs.length ≤ sizeLine then .ok (.tup xs) S1 else .bad := id rfl
@[simp] theorem ap_dLst {ds : DA} : dLst ds env S = (ds env S).bind fun xs S1 => if xs.length ≤ sizeLine then .ok (.ref S1.length) (S1 ++ [.lst xs]) else .bad := id rfl
@[simp] theorem ap_dCall {g : List W → Store → R W} {da : DA} : dCall g da env S = (da env S).bind g := id rfl
@[simp] theorem ap_dCallF {f : FW} {dws : List W} {da : DA} : dCallF f dws da env S = (da env S).bind fun ws S1 => f (ws ++ dws) S1 := id rfl
@[simp] theorem ap_dMake {c : Str} {f : FW} {da : DA} : dMake c f da env S = (da env S).bind fun ws S1 => newI c f ws S1 := id rfl
@[simp] theorem ap_dMethF {c m : Str} {f : FW} {d : DE} {da : DA} : dMethF c m f d da env S = (d env S).bind fun o S1 => if metO c m S1 o = true then (da env S1).bind fun ws S2 => f (o :: ws) S2 else .bad := id rfl
@[simp] theorem ap_dMeth {T : String} {g : W → List W → Store → R W} {d : DE} {da : DA} : dMeth T g d da env S = (d env S).bind fun x S1 => if hasT T S1 x = true then (da env S1).bind fun xs S2 => g x xs S2 else .bad := id rfl
@[simp] theorem ap_dFld {ks : List Str} {f : Str} {d : DE} : dFld ks f d env S = (d env S).bind fun w S1 => fldW ks f S1 w := id rfl
@[simp] theorem ap_dIsi {T : String} {own : List (Str × Bool)} {d : DE} : dIsi T own d env S = (d env S).bind fun w S1 => isiW T own S1 w := id rfl
@[simp] theorem ap_dSlice {d : DE} {dl dh : Env → Store → R (Option Int)} : dSlice d dl dh env S = (d env S).bind fun x S1 => (dl env S1).bind fun lo S2 => (dh env S2).bind fun hi S3 => sliceW x lo hi S3 := id rfl
@[simp] theorem ap_dPart {d : DE} : dPart d env S = (d env S).bind fun w S1 => (match w with | .int i => R.ok (some i) S1 | _ => .bad) := id rfl
@[simp] theorem ap_dNoPart : dNoPart env S = .ok none S := id rfl
@[simp] theorem ap_dNext : dNext env S = .nx env S := id rfl
@[simp] theorem ap_dRet {d : DE} : dRet d env S = (d env S).fl env fun w S1 => .rt w S1 := id rfl
@[simp] theorem ap_dRetN : dRetN env S = .rt .non S := id rfl
@[simp] theorem ap_dExpr {d : DE} : dExpr d env S = (d env S).fl env fun _ S1 => .nx env S1 := id rfl
@[simp] theorem ap_dBreak : dBreak env S = .bk env S := id rfl
@[simp] theorem ap_dCont : dCont env S = .ct env S := id rfl
@[simp] theorem ap_dIfS {c : DT} {a b : DS} : dIfS c a b env S = (c env S).fl env fun k S1 => if k = true then a env S1 else b env S1 := id rfl
@[simp] theorem ap_dAsg {d : DE} {g : DG} : dAsg d g env S = (d env S).fl env fun w S1 => (match g w env S1 with | .ok env2 S2 => Fl.nx env2 S2 | _ => .bad) := id rfl
@[simp] theorem ap_gSet {i : Nat} {w : W} : gSet i w env S = .ok (env.set i (some w)) S := id rfl
@[simp] theorem ap_dPar {i j : Nat} {da : DA} : dPar i j da env S = (da env S).fl env fun ws S1 => (match ws with | [a, b] => Fl.nx ((env.set i (some a)).set j (some b)) S1 | _ => .bad) := id rfl
@[simp] theorem ap_dPar3 {i j l : Nat} {da : DA} : dPar3 i j l da env S = (da env S).fl env fun ws S1 => (match ws with | [a, b, c] => Fl.nx (((env.set i (some a)).set j (some b)).set l (some c)) S1 | _ => .bad) := id rfl
@[simp] theorem ap_dFor {di : DI} {g : DG} {b : DS} : dFor di g b env S = (di env S).fl env fun x S1 => forL x.2 g b x.1 env S1 := id rfl
@[simp] theorem ap_dSrc {d : DE} : dSrc d env S = (d env S).bind fun w S1 => (match srcW S1 w with | some x => R.ok x S1 | none => .bad) := id rfl
@[simp] theorem ap_dBadS : dBadS env S = .bad := id rfl
@[simp] theorem seq_nx {a b : DS} {env2 : Env} {S2 : Store} (h : a env S = .nx env2 S2) : dSeq a b env S = b env2 S2 := by unfold dSeq; rw [h]
theorem ap_dSeq {a b : DS} : dSeq a b env S = (match a env S with | .nx env1 S1 => b env1 S1 | r => r) := id rfl
@[simp] theorem bodyD0 {N : Nat} {d : DS} : bodyD N 0 d [] S = bodyR (d (List.replicate N none) S) := id rfl
@[simp] theorem bodyD1 {N : Nat} {d : DS} {a : W} : bodyD N 1 d [a] S = bodyR (d (some a :: List.replicate (N - 1) none) S) := id rfl
@[simp] theorem bodyD2 {N : Nat} {d : DS} {a b : W} : bodyD N 2 d [a, b] S = bodyR (d (some a :: some b :: List.replicate (N - 2) none) S) := id rfl
@[simp] theorem bodyD3 {N : Nat} {d : DS} {a b c : W} : bodyD N 3 d [a, b, c] S = bodyR (d (some a :: some b :: some c :: List.replicate (N - 3) none) S) := id rfl
@[simp] theorem bodyR_nx {e : Env} : bodyR (.nx e S) = .ok .non S := id rfl
@[simp] theorem bodyR_rt {w : W} : bodyR (.rt w S) = .ok w S := id rfl
@[simp] theorem bodyR_exc {k : Str} {fs : List (Str × W)} {e : Env} : bodyR (.exc k fs e S) = .exc k fs S := id rfl
@[simp] theorem rAdd_int {i j : Int} : rAdd (.int i) (.int j) S = .ok (.int (i + j)) S := id rfl
@[simp] theorem rSub_int {g : Int → Int → W} {i j : Int} : rI2 g (.int i) (.int j) S = .ok (g i j) S := id rfl
theorem rMul_int {i j : Int} (h : CMul i j) : rMul (.int i) (.int j) S = .ok (.int (i * j)) S := if_pos h
theorem rIC_int {C : Int → Int → Prop} [∀ i j, Decidable (C i j)] {g : Int → Int → Int} {i j : Int} (h : C i j) : rIC C g (.int i) (.int j) S = .ok (.int (g i j)) S := if_pos h
@[simp] theorem rOrd_int {fi : Int → Int → Bool} {fs : List Nat → List Nat → Bool} {i j : Int} : rOrd fi fs (.int i) (.int j) S = .ok (.bl (fi i j)) S := id rfl
@[simp] theorem rEq_int {i j : Int} : rEqW false (.int i) (.int j) S = .ok (.bl (decide (i = j))) S := by
  have h : rEqW false (.int i) (.int j) S = .ok (.bl (decide (V.int i = V.int j))) S := rfl
  rw [h]; simp
@[simp] theorem rNe_int {i j : Int} : rEqW true (.int i) (.int j) S = .ok (.bl (!decide (i = j))) S := by
  have h : rEqW true (.int i) (.int j) S = .ok (.bl (!decide (V.int i = V.int j))) S := rfl
  rw [h]; simp
@[simp] theorem gInt_int {i : Int} : gInt [.int i] S = .ok (.int i) S := id rfl
/-! dicts, lists -/
theorem dicW_at {n : Nat} {kvs : List (Key × W)} (h : S[n]? = some (.dic kvs)) : dicW S (.ref n) = some (n, kvs) := by
  simp only [dicW, h]
theorem lstW_no {n : Nat} {kvs : List (Key × W)} (h : S[n]? = some (.dic kvs)) : lstW S (.ref n) = none := by
  simp only [lstW, h]
theorem lstW_at {n : Nat} {xs : List W} (h : S[n]? = some (.lst xs)) : lstW S (.ref n) = some (n, xs) := by
  simp only [lstW, h]
theorem seqW_at {n : Nat} {xs : List W} (h : S[n]? = some (.lst xs)) : seqW S (.ref n) = some xs := by
  simp only [seqW, h]
theorem dicW_no {n : Nat} {xs : List W} (h : S[n]? = some (.lst xs)) : dicW S (.ref n) = none := by
  simp only [dicW, h]
theorem isDic_at {n : Nat} {kvs : List (Key × W)} (h : S[n]? = some (.dic kvs)) : isDic S (.ref n) = true := by
  simp only [isDic, h]
theorem isDic_no {n : Nat} {xs : List W} (h : S[n]? = some (.lst xs)) : isDic S (.ref n) = false := by
  simp only [isDic, h]
theorem sub_dic {n : Nat} {kvs : List (Key × W)} {y w : W} {k : Key} (h : S[n]? = some (.dic kvs)) (hk : keyW y = some k) (hv : valW kvs k = some w) : subW (.ref n) y S = .ok w S := by
  unfold subW
  rw [if_pos (isDic_at h)]
  simp only [dGetW, dicW_at h, hk, hv]
theorem put_dic {n : Nat} {kvs kvs' : List (Key × W)} {y w : W} {k : Key} (h : S[n]? = some (.dic kvs)) (hk : keyW y = some k) (hl : kvs.length < sizeLine) (e : putKW kvs k w = kvs') : subPut S (.ref n) y w = some (S.set n (.dic kvs')) := by
  simp only [subPut, lstW_no h, dicW_at h, hk, if_pos hl, e]
theorem ix_at {xs : List W} {x : W} {i : Nat} {w : W} (h : seqW S x = some xs) (e : xs[i]? = some w) : rIxW x (.int (i : Int)) S = .ok w S := by
  have h2 : L2.atI xs ((i : Nat) : Int) = some w := by
    have hl : i < xs.length := (List.getElem?_eq_some_iff.mp e).1
    unfold L2.atI
    have : ixN xs.length ((i : Nat) : Int) = some i := by
      unfold ixN
      simp [hl]
    rw [this]
    exact e
  cases x with
  | str z => simp [seqW] at h
  | _ => simp only [rIxW, h, h2]
theorem sub_lst {n i : Nat} {xs : List W} {w : W} (h : S[n]? = some (.lst xs)) (e : xs[i]? = some w) : subW (.ref n) (.int (i : Int)) S = .ok w S := by
  unfold subW
  rw [isDic_no h, if_neg Bool.false_ne_true]
  exact ix_at (seqW_at h) e
theorem len_lst {n : Nat} {xs : List W} (h : S[n]? = some (.lst xs)) : gLen [.ref n] S = .ok (.int (xs.length : Int)) S := by
  simp only [gLen, lenW, dicW_no h, seqW_at h, Option.map_some]
theorem set_at {p : Nat} {x y : Cell} (h : S[p]? = some y) : (S.set p x)[p]? = some x := List.getElem?_set_self (List.getElem?_eq_some_iff.mp h).1
theorem set_off {p c : Nat} {x : Cell} (h : p ≠ c) : (S.set p x)[c]? = S[c]? := List.getElem?_set_ne h
theorem asg_sub {d dx di : DE} {w o i : W} {S1 S2 S3 : Store} (e1 : d env S = .ok w S1) (e2 : dx env S1 = .ok o S2) (e3 : di env S2 = .ok i S3) {S4 : Store} (e4 : subPut S3 o i w = some S4) : dAsg d (gSubW dx di) env S = .nx env S4 := by
  unfold dAsg gSubW
  simp only [e1, R.fl_ok, e2, e3, e4]
end
end Dn

set_option maxHeartbeats 4000000
/-! Dn21: loops by what stays true, texts -/
namespace Dn
open PySem PySem.Spec PyProof.Rows L2
/-- a for: P of what is left; O of the end -/
theorem forL_rule {chk : Store → Bool} {g : DG} {body : DS} (P : List W → Env → Store → Prop) (O : Fl → Prop)
    (step : ∀ w rest env S, P (w :: rest) env S → chk S = true ∧ ∃ env1 S1, g w env S = .ok env1 S1 ∧ match body env1 S1 with
      | .nx e S2 => P rest e S2
      | .ct e S2 => P rest e S2
      | .bk e S2 => O (.nx e S2)
      | r => O r)
    (fin : ∀ env S, P [] env S → chk S = true ∧ O (.nx env S)) : ∀ ws env S, P ws env S → O (forL chk g body ws env S)
  | [], env, S, h => by
    obtain ⟨h1, h2⟩ := fin env S h
    unfold forL
    rw [if_pos h1]; exact h2
  | w :: rest, env, S, h => by
    obtain ⟨h1, env1, S1, e1, h2⟩ := step w rest env S h
    unfold forL
    rw [if_pos h1, e1]
    simp only
    revert h2
    cases e : body env1 S1 with
    | nx e2 S2 => exact fun h2 => forL_rule P O step fin rest e2 S2 h2
    | ct e2 S2 => exact fun h2 => forL_rule P O step fin rest e2 S2 h2
    | bk e2 S2 => exact fun h2 => h2
    | rt w2 S2 => exact fun h2 => h2
    | exc k fs e2 S2 => exact fun h2 => h2
    | bad => exact fun h2 => h2
/-- a while by a measure -/
theorem whileL_rule {c : DT} {body : DS} (P : Nat → Env → Store → Prop) (O : Fl → Prop)
    (step : ∀ n env S, P n env S → (∃ S1, c env S = .ok false S1 ∧ O (.nx env S1)) ∨ ∃ S1, c env S = .ok true S1 ∧ match body env S1 with
      | .nx e S2 => ∃ n', n' < n ∧ P n' e S2
      | .ct e S2 => ∃ n', n' < n ∧ P n' e S2
      | .bk e S2 => O (.nx e S2)
      | r => O r) : ∀ f n env S, n < f → P n env S → O (whileL c body f env S)
  | 0, n, env, S, hf, _ => absurd hf (Nat.not_lt_zero n)
  | f + 1, n, env, S, hf, h => by
    unfold whileL
    rcases step n env S h with ⟨S1, e1, h1⟩ | ⟨S1, e1, h1⟩
    · rw [e1]; exact h1
    · rw [e1]
      simp only
      revert h1
      cases e : body env S1 with
      | nx e2 S2 => rintro ⟨n', hn, h2⟩; exact whileL_rule P O step f n' e2 S2 (by omega) h2
      | ct e2 S2 => rintro ⟨n', hn, h2⟩; exact whileL_rule P O step f n' e2 S2 (by omega) h2
      | bk e2 S2 => exact fun h2 => h2
      | rt w2 S2 => exact fun h2 => h2
      | exc k fs e2 S2 => exact fun h2 => h2
      | bad => exact fun h2 => h2
/-- a comprehension: P of what is left and what is made -/
theorem compL_rule {chk : Store → Bool} {g : DG} {dt : DT} {de : DE} {env0 : Env} (P : List W → List W → Store → Prop)
    (step : ∀ w rest acc S, P (w :: rest) acc S → chk S = true ∧ ∃ env1 S1, g w env0 S = .ok env1 S1 ∧ ((∃ S2, dt env1 S1 = .ok false S2 ∧ P rest acc S2) ∨ ∃ S2 y S3, dt env1 S1 = .ok true S2 ∧ de env1 S2 = .ok y S3 ∧ P rest (acc ++ [y]) S3))
    (fin : ∀ acc S, P [] acc S → chk S = true) : ∀ ws acc S, P ws acc S → ∃ ys S', compL chk g dt de env0 ws S = .ok ys S' ∧ P [] (acc ++ ys) S'
  | [], acc, S, h => ⟨[], S, by unfold compL; rw [if_pos (fin acc S h)], by rw [List.append_nil]; exact h⟩
  | w :: rest, acc, S, h => by
    obtain ⟨h1, env1, S1, e1, h2⟩ := step w rest acc S h
    rcases h2 with ⟨S2, e2, h3⟩ | ⟨S2, y, S3, e2, e3, h3⟩
    · obtain ⟨ys, S', e, h4⟩ := compL_rule P step fin rest acc S2 h3
      refine ⟨ys, S', ?_, h4⟩
      unfold compL
      rw [if_pos h1, e1]
      simp only [e2]
      exact e
    · obtain ⟨ys, S', e, h4⟩ := compL_rule P step fin rest (acc ++ [y]) S3 h3
      refine ⟨y :: ys, S', ?_, by rw [List.append_assoc] at h4; exact h4⟩
      unfold compL
      rw [if_pos h1, e1]
      simp only [e2, e3, e, R.bind_ok]
theorem dComp_ok {di : DI} {g : DG} {dt : DT} {de : DE} {own : List Nat} {env : Env} {S S1 S2 : Store} {x : Src} {ys : List W} (e1 : di env S = .ok x S1) (e2 : compL x.2 g dt de (wipeE env own) x.1 S1 = .ok ys S2) (h : ys.length ≤ sizeLine) : dComp di g dt de own env S = .ok (.ref S2.length) (S2 ++ [.lst ys]) := by
  unfold dComp
  rw [e1, R.bind_ok, e2, R.bind_ok, if_pos h]
/-! texts as lists of signs -/
def sx (l : List Nat) : Str := ⟨l.toArray⟩
@[simp] theorem sx_cps (l : List Nat) : (sx l).cps.toList = l := by unfold sx; simp
theorem sx_of (x : Str) : x = sx x.cps.toList := by
  obtain ⟨a⟩ := x
  unfold sx
  simp
theorem sx_inj {l m : List Nat} : sx l = sx m ↔ l = m := ⟨fun h => by have := congrArg (fun x : Str => x.cps.toList) h; simpa using this, fun h => by rw [h]⟩
@[simp] theorem sx_len (l : List Nat) : (sx l).length = l.length := by unfold sx Str.length; simp
theorem sx_app (a b : List Nat) : sx a ++ sx b = sx (a ++ b) := by
  show Str.append (sx a) (sx b) = _
  unfold Str.append sx
  simp
theorem cut_lo (l : List Nat) (k : Nat) : cutS (sx l) none (some (k : Int)) = sx (l.take k) := by
  unfold cutS
  rw [HT.sIx_none, HT.sIx_nat, sx_cps, sx_len]
  show sx _ = _
  rw [sx_inj]
  simp [Nat.min_comm]
theorem cut_hi (l : List Nat) (k : Nat) : cutS (sx l) (some (k : Int)) none = sx (l.drop k) := by
  unfold cutS
  rw [HT.sIx_none, HT.sIx_nat, sx_cps, sx_len]
  show sx _ = _
  rw [sx_inj]
  by_cases h : k ≤ l.length
  · rw [Nat.min_eq_left h, List.take_of_length_le (by simp)]
  · rw [Nat.min_eq_right (by omega), List.drop_of_length_le (by omega), List.drop_of_length_le (by omega)]; simp
theorem cut_mid (l : List Nat) (i j : Nat) : cutS (sx l) (some (i : Int)) (some (j : Int)) = sx ((l.take j).drop i) := by
  unfold cutS
  rw [HT.sIx_nat, HT.sIx_nat, sx_cps, sx_len]
  show sx _ = _
  rw [sx_inj]
  apply List.ext_getElem?
  intro n
  simp only [List.getElem?_take, List.getElem?_drop]
  by_cases h1 : i ≤ l.length
  · rw [Nat.min_eq_left h1]
    by_cases h2 : j ≤ l.length
    · rw [Nat.min_eq_left h2]
      by_cases h3 : n < j - i
      · rw [if_pos h3, if_pos (by omega)]
      · rw [if_neg h3, if_neg (by omega)]
    · rw [Nat.min_eq_right (by omega)]
      by_cases h3 : n < l.length - i
      · rw [if_pos h3, if_pos (by omega)]
      · rw [if_neg h3, List.getElem?_eq_none (by omega)]; split <;> rfl
  · rw [Nat.min_eq_right (show l.length ≤ i by omega), List.getElem?_eq_none (show l.length ≤ l.length + n by omega), List.getElem?_eq_none (show l.length ≤ i + n by omega)]
    split <;> split <;> rfl
section
variable {S : Store}
theorem slice_str {z : Str} {lo hi : Option Int} (h : z.length ≤ sizeLine) : sliceW (.str z) lo hi S = .ok (.str (cutS z lo hi)) S := if_pos h
theorem add_str {a b : List Nat} (h : a.length + b.length ≤ sizeLine) : rAdd (.str (sx a)) (.str (sx b)) S = .ok (.str (sx (a ++ b))) S := by
  show (if (sx a).length + (sx b).length ≤ sizeLine then R.ok (W.str (sx a ++ sx b)) S else .bad) = _
  rw [sx_len, sx_len, if_pos h, sx_app]
theorem len_str {z : Str} (h : z.length ≤ sizeLine) : gLen [.str z] S = .ok (.int z.length) S := by
  simp only [gLen, lenW, if_pos h]
theorem ix_str {z : Str} {i : Nat} {k : Nat} (h : z.length ≤ sizeLine) (e : z.cps.toList[i]? = some k) : subW (.str z) (.int (i : Int)) S = .ok (.str (sx [k])) S := by
  have h2 : L2.atI z.cps.toList ((i : Nat) : Int) = some k := by
    have hl : i < z.cps.toList.length := (List.getElem?_eq_some_iff.mp e).1
    unfold L2.atI
    have : ixN z.cps.toList.length ((i : Nat) : Int) = some i := by
      unfold ixN
      rw [if_pos (by omega), if_pos (by omega), Int.toNat_natCast]
    rw [this]
    exact e
  show (if isDic S (.str z) = true then _ else rIxW (.str z) (.int (i : Int)) S) = _
  rw [if_neg (by simp [isDic])]
  simp only [rIxW, if_pos h, h2]
  rfl
theorem in_str {k : Nat} {z : Str} : rInW false (.str (sx [k])) (.str z) S = .ok (.bl (decide (k ∈ z.cps.toList))) S := rfl
theorem notin_str {k : Nat} {z : Str} : rInW true (.str (sx [k])) (.str z) S = .ok (.bl (!decide (k ∈ z.cps.toList))) S := rfl
theorem eq_str {a b : Str} : rEqW false (.str a) (.str b) S = .ok (.bl (decide (a = b))) S := by
  have h : rEqW false (.str a) (.str b) S = .ok (.bl (decide (V.str a = V.str b))) S := rfl
  rw [h]; simp
theorem ne_str {a b : Str} : rEqW true (.str a) (.str b) S = .ok (.bl (!decide (a = b))) S := by
  have h : rEqW true (.str a) (.str b) S = .ok (.bl (!decide (V.str a = V.str b))) S := rfl
  rw [h]; simp
end
theorem small {n : Nat} (h : n ≤ 1000000) : n ≤ sizeLine := Nat.le_trans h (by decide)
end Dn

set_option maxHeartbeats 4000000
namespace Dn
open PySem PySem.Spec PyProof.Rows L2
def EXR : Str := "YardError"
def EXS : List Str := ["BadName", "BadNumber", "BadRow", "BadText", "Misplaced", "Misread", "NotThere", "TakenName", "TooMany", "Unlike", "YardError"]
def d_is_run_sign : DS := dSeq (dRet (dOrV (dOp (rInW false) (dVar 0) (dC (.str "abcdefghijklmnopqrstuvwxyz"))) (dOp (rInW false) (dVar 0) (dC (.str "0123456789"))))) (dNext)
def d_kind_of : DS := dSeq (dIfS (dBool (dOp (rInW false) (dVar 0) (dC (.tup [(.str "yard"), (.str "lock"), (.str "thing"), (.str "routine"), (.str "kind"), (.str "hold"), (.str "shared"), (.str "read"), (.str "write"), (.str "mark"), (.str "call"), (.str "either"), (.str "or"), (.str "loop")])))) (dSeq (dRet (dC (.str "key"))) (dNext)) (dNext)) (dSeq (dRet (dIf (dAnd (dBool (dOp (rInW false) (dSub (dVar 0) (dC (.int 0))) (dC (.str "abcdefghijklmnopqrstuvwxyz")))) (dBool (dOp rLe (dCall gLen (dCons (dVar 0) (dNil))) (dC (.int 12))))) (dC (.str "name")) (dC .non))) (dNext))
def d_is_name (f_is_run_sign : FW) (f_kind_of : FW) : DS := dSeq (dIfS (dOr (dNot (dTru (dIsi "str" [] (dVar 0)))) (dOr (dBool (dOp (rEqW false) (dVar 0) (dC (.str "")))) (dNot (dTru (dCall gAll (dCons (dComp (dSrc (dVar 0)) (gSet 1) (dYes) (dCallF f_is_run_sign [] (dCons (dVar 1) (dNil))) [1]) (dNil))))))) (dSeq (dRet (dC (.bl false))) (dNext)) (dNext)) (dSeq (dRet (dOp (rEqW false) (dCallF f_kind_of [] (dCons (dVar 0) (dNil))) (dC (.str "name")))) (dNext))
def d_Scanner___init__ : DS := dSeq (dFldS ["Scanner"] "text" (dVar 1) (dVar 0)) (dSeq (dFldS ["Scanner"] "at" (dC (.int 0)) (dVar 0)) (dSeq (dFldS ["Scanner"] "line" (dC (.int 1)) (dVar 0)) (dSeq (dFldS ["Scanner"] "column" (dC (.int 1)) (dVar 0)) (dNext))))
def d_Scanner_is_over : DS := dSeq (dRet (dOp (rEqW false) (dFld ["Scanner"] "at" (dVar 0)) (dCall gLen (dCons (dFld ["Scanner"] "text" (dVar 0)) (dNil))))) (dNext)
def d_Scanner_skip : DS := dSeq (dFldAdd ["Scanner"] "at" (dVar 0) (dVar 1)) (dSeq (dFldAdd ["Scanner"] "column" (dVar 0) (dVar 1)) (dNext))
def d_Scanner_pass_gap (m_Scanner_skip : FW) : DS := dSeq (dAsg (dSub (dFld ["Scanner"] "text" (dVar 0)) (dFld ["Scanner"] "at" (dVar 0))) (gSet 1)) (dSeq (dIfS (dBool (dOp (rEqW false) (dVar 1) (dC (.str "\n")))) (dSeq (dAsg (dTup (dCons (dOp rAdd (dFld ["Scanner"] "at" (dVar 0)) (dC (.int 1))) (dCons (dOp rAdd (dFld ["Scanner"] "line" (dVar 0)) (dC (.int 1))) (dCons (dC (.int 1)) (dNil))))) (gTupW [gFld ["Scanner"] "at" (dVar 0), gFld ["Scanner"] "line" (dVar 0), gFld ["Scanner"] "column" (dVar 0)])) (dNext)) (dSeq (dIfS (dBool (dOp (rEqW false) (dVar 1) (dC (.str " ")))) (dSeq (dExpr (dMethF "Scanner" "skip" m_Scanner_skip (dVar 0) (dCons (dC (.int 1)) (dNil)))) (dNext)) (dSeq (dIfS (dBool (dOp (rEqW false) (dVar 1) (dC (.str "#")))) (dSeq (dExpr (dMethF "Scanner" "skip" m_Scanner_skip (dVar 0) (dCons (dCall gLen (dCons (dSub (dMeth "str" gSplit (dSlice (dFld ["Scanner"] "text" (dVar 0)) (dPart (dFld ["Scanner"] "at" (dVar 0))) (dNoPart)) (dCons (dC (.str "\n")) (dNil))) (dC (.int 0))) (dNil))) (dNil)))) (dNext)) (dNext)) (dNext))) (dNext))) (dSeq (dRet (dOp (rInW false) (dVar 1) (dC (.str "\n #")))) (dNext)))
def d_Scanner_token (f_is_run_sign : FW) (f_kind_of : FW) (m_Scanner_skip : FW) : DS := dSeq (dPar 1 2 (dCons (dTup (dCons (dFld ["Scanner"] "line" (dVar 0)) (dCons (dFld ["Scanner"] "column" (dVar 0)) (dNil)))) (dCons (dC (.int 0)) (dNil)))) (dSeq (dWhile (dAnd (dBool (dOp rLt (dOp rAdd (dFld ["Scanner"] "at" (dVar 0)) (dVar 2)) (dCall gLen (dCons (dFld ["Scanner"] "text" (dVar 0)) (dNil))))) (dTru (dCallF f_is_run_sign [] (dCons (dSub (dFld ["Scanner"] "text" (dVar 0)) (dOp rAdd (dFld ["Scanner"] "at" (dVar 0)) (dVar 2))) (dNil))))) (dSeq (dAugI 2 (fun i j => i + j) (dC (.int 1))) (dNext))) (dSeq (dAsg (dSlice (dFld ["Scanner"] "text" (dVar 0)) (dPart (dFld ["Scanner"] "at" (dVar 0))) (dPart (dOp rAdd (dFld ["Scanner"] "at" (dVar 0)) (dCall gMax2 (dCons (dC (.int 1)) (dCons (dVar 2) (dNil))))))) (gSet 3)) (dSeq (dAsg (dIf (dBool (dOp rGt (dVar 2) (dC (.int 0)))) (dCallF f_kind_of [] (dCons (dVar 3) (dNil))) (dIf (dBool (dOp (rInW false) (dVar 3) (dC (.tup [(.str "{"), (.str "}"), (.str ";")])))) (dC (.str "sign")) (dC .non))) (gSet 4)) (dSeq (dIfS (dBool (dOp (rIs false) (dVar 4) (dC .non))) (dSeq (dRaise "Misread" ["line", "column"] (dCons (dFld ["Scanner"] "line" (dVar 0)) (dCons (dFld ["Scanner"] "column" (dVar 0)) (dNil)))) (dNext)) (dNext)) (dSeq (dExpr (dMethF "Scanner" "skip" m_Scanner_skip (dVar 0) (dCons (dCall gLen (dCons (dVar 3) (dNil))) (dNil)))) (dSeq (dRet (dTup (dCons (dVar 4) (dCons (dVar 3) (dCons (dVar 1) (dNil)))))) (dNext)))))))
def d_tokens (i_Scanner : FW) (m_Scanner_is_over : FW) (m_Scanner_pass_gap : FW) (m_Scanner_token : FW) : DS := dSeq (dIfS (dNot (dTru (dIsi "str" [] (dVar 0)))) (dSeq (dRaise "Misread" ["line", "column"] (dCons (dC (.int 0)) (dCons (dC (.int 0)) (dNil)))) (dNext)) (dNext)) (dSeq (dPar 1 2 (dCons (dMake "Scanner" i_Scanner (dCons (dVar 0) (dNil))) (dCons (dLst (dNil)) (dNil)))) (dSeq (dWhile (dNot (dTru (dMethF "Scanner" "is_over" m_Scanner_is_over (dVar 1) dNil))) (dSeq (dIfS (dNot (dTru (dMethF "Scanner" "pass_gap" m_Scanner_pass_gap (dVar 1) dNil))) (dSeq (dExpr (dMeth "list" gAppend (dVar 2) (dCons (dMethF "Scanner" "token" m_Scanner_token (dVar 1) dNil) (dNil)))) (dNext)) (dNext)) (dNext))) (dSeq (dExpr (dMeth "list" gAppend (dVar 2) (dCons (dTup (dCons (dC (.str "end")) (dCons (dC (.str "")) (dCons (dTup (dCons (dFld ["Scanner"] "line" (dVar 1)) (dCons (dFld ["Scanner"] "column" (dVar 1)) (dNil)))) (dNil))))) (dNil)))) (dSeq (dRet (dCall gTuple (dCons (dVar 2) (dNil)))) (dNext)))))
def d__law_pen : DS := dSeq (dAsg (dC (.int 61)) (gSet 1)) (dSeq (dFor (dSrc (dVar 0)) (gSet 2) (dSeq (dAsg (dOp rMod (dCall gInt (dCons (dOp rAdd (dOp rMul (dVar 1) (dC (.int 197))) (dVar 2)) (dNil))) (dC (.int 1000000637))) (gSet 1)) (dNext))) (dSeq (dRet (dDict [(dC (.str "cells"), dCall gList (dCons (dVar 0) (dNil))), (dC (.str "at"), dC (.int 0)), (dC (.str "digits"), dC (.int 0)), (dC (.str "count"), dC (.int 0)), (dC (.str "fold"), dVar 1)])) (dNext)))
def d__law_draw : DS := dSeq (dAsg (dOp rAdd (dSub (dVar 0) (dC (.str "count"))) (dC (.int 1))) (gSubW (dVar 0) (dC (.str "count")))) (dSeq (dIfS (dAnd (dBool (dOp (rEqW false) (dSub (dVar 0) (dC (.str "digits"))) (dC (.int 0)))) (dBool (dOp rLt (dSub (dVar 0) (dC (.str "at"))) (dCall gLen (dCons (dSub (dVar 0) (dC (.str "cells"))) (dNil)))))) (dSeq (dAsg (dSub (dSub (dVar 0) (dC (.str "cells"))) (dSub (dVar 0) (dC (.str "at")))) (gSet 2)) (dSeq (dAsg (dOp rAdd (dSub (dVar 0) (dC (.str "at"))) (dC (.int 1))) (gSubW (dVar 0) (dC (.str "at")))) (dSeq (dIfS (dBool (dOp rGe (dVar 2) (dOp rPow (dC (.int 10)) (dC (.int 18))))) (dSeq (dAsg (dOp rSub (dVar 2) (dOp rPow (dC (.int 10)) (dC (.int 18)))) (gSubW (dVar 0) (dC (.str "digits")))) (dNext)) (dSeq (dAsg (dOp rMod (dCall gInt (dCons (dOp rAdd (dOp rMul (dSub (dVar 0) (dC (.str "fold"))) (dC (.int 70223))) (dVar 2)) (dNil))) (dC (.int 2147482811))) (gSubW (dVar 0) (dC (.str "fold")))) (dNext))) (dNext)))) (dNext)) (dSeq (dIfS (dBool (dOp rGt (dSub (dVar 0) (dC (.str "digits"))) (dC (.int 0)))) (dSeq (dAsg (dOp rMod (dCall gInt (dCons (dSub (dVar 0) (dC (.str "digits"))) (dNil))) (dVar 1)) (gSet 3)) (dSeq (dAsg (dOp rFdiv (dSub (dVar 0) (dC (.str "digits"))) (dVar 1)) (gSubW (dVar 0) (dC (.str "digits")))) (dSeq (dRet (dVar 3)) (dNext)))) (dNext)) (dSeq (dAsg (dOp rAdd (dOp rAdd (dSub (dVar 0) (dC (.str "fold"))) (dOp rMul (dSub (dVar 0) (dC (.str "count"))) (dC (.int 7951)))) (dC (.int 113))) (gSet 4)) (dSeq (dRet (dOp rMod (dOp rFdiv (dCall gInt (dCons (dOp rMod (dOp rPow (dVar 4) (dC (.int 17))) (dC (.int 2305843009213693951))) (dNil))) (dC (.int 128))) (dVar 1))) (dNext)))))
def d__law_pick (f__law_draw : FW) : DS := dSeq (dRet (dSub (dVar 1) (dCallF f__law_draw [] (dCons (dVar 0) (dCons (dCall gLen (dCons (dVar 1) (dNil))) (dNil)))))) (dNext)
def d__law_shuffled (f__law_draw : FW) : DS := dSeq (dPar 2 3 (dCons (dCall gList (dCons (dVar 1) (dNil))) (dCons (dLst (dNil)) (dNil)))) (dSeq (dFor (dRng1 (dCall gLen (dCons (dVar 1) (dNil)))) (gSet 4) (dSeq (dExpr (dMeth "list" gAppend (dVar 3) (dCons (dMeth "list" gPop (dVar 2) (dCons (dCallF f__law_draw [] (dCons (dVar 0) (dCons (dCall gLen (dCons (dVar 2) (dNil))) (dNil)))) (dNil))) (dNil)))) (dNext))) (dSeq (dRet (dVar 3)) (dNext)))
def d__law_name (f__law_draw : FW) : DS := dSeq (dAsg (dC (.str "")) (gSet 2)) (dSeq (dFor (dRng1 (dOp rAdd (dC (.int 1)) (dCallF f__law_draw [] (dCons (dVar 0) (dCons (dC (.int 8)) (dNil)))))) (gSet 3) (dSeq (dAsg (dOp rAdd (dVar 2) (dSub (dC (.str "abcdefghijklmnopqrstuvwxyz")) (dCallF f__law_draw [] (dCons (dVar 0) (dCons (dC (.int 26)) (dNil)))))) (gSet 2)) (dNext))) (dSeq (dAsg (dOp rAdd (dC (.int 1)) (dCallF f__law_draw [] (dCons (dVar 0) (dCons (dCall gLen (dCons (dVar 2) (dNil))) (dNil))))) (gSet 4)) (dSeq (dRet (dOp rAdd (dOp rAdd (dSlice (dVar 2) (dNoPart) (dPart (dVar 4))) (dCall gStrI (dCons (dVar 1) (dNil)))) (dSlice (dVar 2) (dPart (dVar 4)) (dNoPart)))) (dNext))))
def d__law_names (f__law_name : FW) (f__law_shuffled : FW) : DS := dSeq (dRet (dCallF f__law_shuffled [] (dCons (dVar 0) (dCons (dComp (dRng1 (dVar 1)) (gSet 2) (dYes) (dCallF f__law_name [] (dCons (dVar 0) (dCons (dVar 2) (dNil)))) [2]) (dNil))))) (dNext)
def d__law_same (f__law_same : FW) : DS := dSeq (dIfS (dTru (dIsi "tuple" [] (dVar 1))) (dSeq (dRet (dAndV (dIsi "tuple" [] (dVar 0)) (dAndV (dOp (rEqW false) (dCall gLen (dCons (dVar 0) (dNil))) (dCall gLen (dCons (dVar 1) (dNil)))) (dCall gAll (dCons (dComp (dZip (dVar 0) (dVar 1)) (gTupW [gSet 2, gSet 3]) (dYes) (dCallF f__law_same [] (dCons (dVar 2) (dCons (dVar 3) (dNil)))) [2, 3]) (dNil)))))) (dNext)) (dNext)) (dSeq (dIfS (dBool (dOp (rIs false) (dVar 1) (dC .non))) (dSeq (dRet (dOp (rIs false) (dVar 0) (dC .non))) (dNext)) (dNext)) (dSeq (dIfS (dBool (dOp (rIs false) (dVar 1) (dC (.bl true)))) (dSeq (dRet (dOp (rIs false) (dVar 0) (dC (.bl true)))) (dNext)) (dNext)) (dSeq (dIfS (dBool (dOp (rIs false) (dVar 1) (dC (.bl false)))) (dSeq (dRet (dOp (rIs false) (dVar 0) (dC (.bl false)))) (dNext)) (dNext)) (dSeq (dIfS (dTru (dIsi "int" [] (dVar 1))) (dSeq (dRet (dAndV (dIsi "int" [] (dVar 0)) (dAndV (dNotV (dIsi "bool" [] (dVar 0))) (dOp (rEqW false) (dVar 0) (dVar 1))))) (dNext)) (dNext)) (dSeq (dRet (dAndV (dIsi "str" [] (dVar 0)) (dOp (rEqW false) (dVar 0) (dVar 1)))) (dNext))))))
def d__law_why (EXR : Str) (EXS : List Str) (l : W) (cb : Store → R W) : DS := dSeq (dAsg (dC .non) (gSet 1)) (dSeq (dTry (isXo EXR EXS) (dSeq (dExpr (dCb l cb)) (dNext)) [⟨"Misread", some 2, fun k fs => if k = "Misread" then dSeq (dAsg (dLst (dCons (dC (.str "read")) (dCons (dXf fs "line") (dCons (dXf fs "column") (dNil))))) (gSet 1)) (dNext) else dBadS⟩, ⟨"Misplaced", some 2, fun k fs => if k = "Misplaced" then dSeq (dAsg (dLst (dCons (dC (.str "placed")) (dCons (dXf fs "line") (dCons (dXf fs "column") (dCons (dXf fs "why") (dCons (dXf fs "name") (dNil))))))) (gSet 1)) (dNext) else dBadS⟩, ⟨"BadText", some 2, fun k fs => if k = "BadText" then dSeq (dAsg (dLst (dCons (dC (.str "text")) (dCons (dXf fs "line") (dCons (dXf fs "word") (dNil))))) (gSet 1)) (dNext) else dBadS⟩, ⟨"BadName", some 2, fun k fs => if k = "BadName" then dSeq (dBadS) (dNext) else dBadS⟩, ⟨"NotThere", some 2, fun k fs => if k = "NotThere" then dSeq (dBadS) (dNext) else dBadS⟩, ⟨"TakenName", some 2, fun k fs => if k = "TakenName" then dSeq (dBadS) (dNext) else dBadS⟩, ⟨"BadNumber", some 2, fun k fs => if k = "BadNumber" then dSeq (dBadS) (dNext) else dBadS⟩, ⟨"BadRow", some 2, fun k fs => if k = "BadRow" then dSeq (dBadS) (dNext) else dBadS⟩, ⟨"Unlike", some 2, fun k fs => if k = "Unlike" then dSeq (dAsg (dLst (dCons (dC (.str "unlike")) (dCons (dXf fs "what") (dNil)))) (gSet 1)) (dNext) else dBadS⟩, ⟨"TooMany", some 2, fun k fs => if k = "TooMany" then dSeq (dAsg (dLst (dCons (dC (.str "many")) (dCons (dXf fs "what") (dCons (dXf fs "many") (dCons (dXf fs "limit") (dNil)))))) (gSet 1)) (dNext) else dBadS⟩]) (dSeq (dRet (dVar 1)) (dNext)))
def d__law_keys : DS := dSeq (dRet (dLst (dCons (dC (.str "yard")) (dCons (dC (.str "lock")) (dCons (dC (.str "thing")) (dCons (dC (.str "routine")) (dCons (dC (.str "kind")) (dCons (dC (.str "hold")) (dCons (dC (.str "shared")) (dCons (dC (.str "read")) (dCons (dC (.str "write")) (dCons (dC (.str "mark")) (dCons (dC (.str "call")) (dCons (dC (.str "either")) (dCons (dC (.str "or")) (dCons (dC (.str "loop")) (dNil))))))))))))))))) (dNext)
def d__law_is_name (f__law_keys : FW) : DS := dSeq (dIfS (dOr (dNot (dTru (dIsi "str" [] (dVar 0)))) (dOr (dBool (dOp (rEqW false) (dVar 0) (dC (.str "")))) (dOr (dBool (dOp rGt (dCall gLen (dCons (dVar 0) (dNil))) (dC (.int 12)))) (dOr (dBool (dOp (rInW false) (dVar 0) ((fun _ S => f__law_keys [] S)))) (dBool (dOp (rInW false) (dSub (dVar 0) (dC (.int 0))) (dC (.str "0123456789")))))))) (dSeq (dRet (dC (.bl false))) (dNext)) (dNext)) (dSeq (dRet (dOp (rEqW false) (dComp (dSrc (dVar 0)) (gSet 1) (dBool (dOp (rInW true) (dVar 1) (dC (.str "abcdefghijklmnopqrstuvwxyz0123456789")))) (dVar 1) [1]) (dLst (dNil)))) (dNext))
def d__law_kind_of_word (f__law_is_name : FW) (f__law_keys : FW) : DS := dSeq (dIfS (dBool (dOp (rInW false) (dVar 0) ((fun _ S => f__law_keys [] S)))) (dSeq (dRet (dC (.str "key"))) (dNext)) (dNext)) (dSeq (dIfS (dTru (dCallF f__law_is_name [] (dCons (dVar 0) (dNil)))) (dSeq (dRet (dC (.str "name"))) (dNext)) (dNext)) (dSeq (dRet (dC .non)) (dNext)))
def d__law_due (f__law_kind_of_word : FW) : DS := dSeq (dAsg (dTup (dCons (dLst (dNil)) (dCons (dC (.int 1)) (dCons (dC (.int 1)) (dCons (dC (.int 0)) (dCons (dC (.str "abcdefghijklmnopqrstuvwxyz0123456789")) (dNil))))))) (gTupW [gSet 1, gSet 2, gSet 3, gSet 4, gSet 5])) (dSeq (dFor (dRng1 (dOp rAdd (dCall gLen (dCons (dVar 0) (dNil))) (dC (.int 1)))) (gSet 6) (dSeq (dIfS (dBool (dOp rGe (dVar 4) (dCall gLen (dCons (dVar 0) (dNil))))) (dSeq (dBreak) (dNext)) (dNext)) (dSeq (dAsg (dSub (dVar 0) (dVar 4)) (gSet 7)) (dSeq (dIfS (dBool (dOp (rEqW false) (dVar 7) (dC (.str "#")))) (dSeq (dAsg (dCall gLen (dCons (dSub (dMeth "str" gSplit (dSlice (dVar 0) (dPart (dVar 4)) (dNoPart)) (dCons (dC (.str "\n")) (dNil))) (dC (.int 0))) (dNil))) (gSet 8)) (dSeq (dPar 4 3 (dCons (dOp rAdd (dVar 4) (dVar 8)) (dCons (dOp rAdd (dVar 3) (dVar 8)) (dNil)))) (dSeq (dCont) (dNext)))) (dNext)) (dSeq (dIfS (dBool (dOp (rInW false) (dVar 7) (dC (.str " \n")))) (dSeq (dAsg (dIf (dBool (dOp (rEqW false) (dVar 7) (dC (.str "\n")))) (dTup (dCons (dOp rAdd (dVar 2) (dC (.int 1))) (dCons (dC (.int 1)) (dNil)))) (dTup (dCons (dVar 2) (dCons (dOp rAdd (dVar 3) (dC (.int 1))) (dNil))))) (gTupW [gSet 2, gSet 3])) (dSeq (dAsg (dOp rAdd (dVar 4) (dC (.int 1))) (gSet 4)) (dSeq (dCont) (dNext)))) (dNext)) (dSeq (dAsg (dC (.int 1)) (gSet 8)) (dSeq (dIfS (dBool (dOp (rInW false) (dVar 7) (dVar 5))) (dSeq (dFor (dRng1 (dCall gLen (dCons (dVar 0) (dNil)))) (gSet 9) (dSeq (dIfS (dAnd (dBool (dOp rLt (dOp rAdd (dVar 4) (dVar 8)) (dCall gLen (dCons (dVar 0) (dNil))))) (dBool (dOp (rInW false) (dSub (dVar 0) (dOp rAdd (dVar 4) (dVar 8))) (dVar 5)))) (dSeq (dAsg (dOp rAdd (dVar 8) (dC (.int 1))) (gSet 8)) (dNext)) (dNext)) (dNext))) (dNext)) (dNext)) (dSeq (dAsg (dSlice (dVar 0) (dPart (dVar 4)) (dPart (dOp rAdd (dVar 4) (dVar 8)))) (gSet 10)) (dSeq (dAsg (dIf (dBool (dOp (rInW false) (dVar 10) (dLst (dCons (dC (.str "{")) (dCons (dC (.str "}")) (dCons (dC (.str ";")) (dNil))))))) (dC (.str "sign")) (dIf (dBool (dOp (rInW false) (dVar 7) (dVar 5))) (dCallF f__law_kind_of_word [] (dCons (dVar 10) (dNil))) (dC .non))) (gSet 11)) (dSeq (dIfS (dBool (dOp (rIs false) (dVar 11) (dC .non))) (dSeq (dRet (dTup (dCons (dLst (dCons (dC (.str "read")) (dCons (dVar 2) (dCons (dVar 3) (dNil))))) (dCons (dC .non) (dNil))))) (dNext)) (dNext)) (dSeq (dExpr (dMeth "list" gAppend (dVar 1) (dCons (dTup (dCons (dVar 11) (dCons (dVar 10) (dCons (dTup (dCons (dVar 2) (dCons (dVar 3) (dNil)))) (dNil))))) (dNil)))) (dSeq (dPar 4 3 (dCons (dOp rAdd (dVar 4) (dVar 8)) (dCons (dOp rAdd (dVar 3) (dVar 8)) (dNil)))) (dNext))))))))))))) (dSeq (dRet (dTup (dCons (dC .non) (dCons (dCall gTuple (dCons (dOp rAdd (dVar 1) (dLst (dCons (dTup (dCons (dC (.str "end")) (dCons (dC (.str "")) (dCons (dTup (dCons (dVar 2) (dCons (dVar 3) (dNil)))) (dNil))))) (dNil)))) (dNil))) (dNil))))) (dNext)))
def d__law_is_told (f__law_due : FW) (f__law_same : FW) (f_tokens : FW) (L__law_why : FLW) : DS := dSeq (dAsg (dTup (dCons (dLst (dNil)) (dCons (dCallF f__law_due [] (dCons (dVar 0) (dNil))) (dNil)))) (gTupW [gSet 1, gSet 2])) (dSeq (dIfS (dBool (dOp (rEqW true) (dLam L__law_why (dMeth "list" gAppend (dVar 1) (dCons (dCallF f_tokens [] (dCons (dVar 0) (dNil))) (dNil)))) (dSub (dVar 2) (dC (.int 0))))) (dSeq (dRet (dC (.bl false))) (dNext)) (dNext)) (dSeq (dRet (dOrV (dOp (rIs true) (dSub (dVar 2) (dC (.int 0))) (dC .non)) (dCallF f__law_same [] (dCons (dSub (dVar 1) (dC (.int 0))) (dCons (dSub (dVar 2) (dC (.int 1))) (dNil)))))) (dNext)))
def d_law (f__law_draw : FW) (f__law_is_name : FW) (f__law_is_told : FW) (f__law_keys : FW) (f__law_names : FW) (f__law_pen : FW) (f__law_pick : FW) (f__law_same : FW) (f_is_name : FW) (f_tokens : FW) (L__law_why : FLW) : DS := dSeq (dAsg (dCallF f__law_pen [] (dCons (dVar 0) (dNil))) (gSet 1)) (dSeq (dFor (dRng1 (dC (.int 6))) (gSet 2) (dSeq (dAsg (dCallF f__law_names [] (dCons (dVar 1) (dCons (dC (.int 3)) (dNil)))) (gSet 3)) (dSeq (dAsg (dOp rAdd (dOp rAdd (dVar 3) ((fun _ S => f__law_keys [] S))) (dLst (dCons (dC (.str "{")) (dCons (dC (.str "}")) (dCons (dC (.str ";")) (dCons (dC (.str "abcdefghijkl")) (dCons (dC (.str "a1")) (dCons (dC (.str "lock2")) (dNil))))))))) (gSet 4)) (dSeq (dAsg (dLst (dCons (dC (.str "01")) (dCons (dC (.str "00")) (dCons (dC (.str "1000")) (dCons (dC (.str "1a")) (dCons (dC (.str "abcdefghijklm")) (dCons (dC (.str "shopshopshop1")) (dCons (dC (.str "A")) (dCons (dC (.str "_")) (dCons (dC (.str "a.b")) (dCons (dC (.str ".")) (dCons (dC (.str "[")) (dCons (dC (.str "\t")) (dCons (dC (.str "*")) (dCons (dC (.str "a_")) (dNil)))))))))))))))) (gSet 5)) (dSeq (dAsg (dC (.str "")) (gSet 6)) (dSeq (dFor (dRng1 (dCallF f__law_draw [] (dCons (dVar 1) (dCons (dC (.int 25)) (dNil))))) (gSet 7) (dSeq (dAsg (dIf (dBool (dOp rGt (dCallF f__law_draw [] (dCons (dVar 1) (dCons (dC (.int 12)) (dNil)))) (dC (.int 0)))) (dCallF f__law_pick [] (dCons (dVar 1) (dCons (dVar 4) (dNil)))) (dCallF f__law_pick [] (dCons (dVar 1) (dCons (dVar 5) (dNil))))) (gSet 8)) (dSeq (dAsg (dOp rAdd (dOp rAdd (dVar 6) (dVar 8)) (dCallF f__law_pick [] (dCons (dVar 1) (dCons (dLst (dCons (dC (.str " ")) (dCons (dC (.str " ")) (dCons (dC (.str "\n")) (dCons (dC (.str "")) (dCons (dC (.str "  ")) (dCons (dC (.str " # x } 01\n")) (dCons (dC (.str "#\n")) (dCons (dC (.str "\n\n")) (dNil)))))))))) (dNil))))) (gSet 6)) (dNext)))) (dSeq (dIfS (dOr (dNot (dTru (dCallF f__law_is_told [] (dCons (dVar 6) (dNil))))) (dNot (dTru (dCallF f__law_is_told [] (dCons (dOp rAdd (dVar 6) (dCallF f__law_pick [] (dCons (dVar 1) (dCons (dLst (dCons (dC (.str "#")) (dCons (dC (.str "# end")) (dCons (dC (.str " ")) (dCons (dC (.str "\n")) (dCons (dC (.str "\n ")) (dCons (dC (.str "# a\n#b")) (dNil)))))))) (dNil))))) (dNil)))))) (dSeq (dRet (dC (.bl false))) (dNext)) (dNext)) (dNext)))))))) (dSeq (dFor (dSrc (dLst (dCons (dC (.str "")) (dCons (dC (.str " ")) (dCons (dC (.str "\n")) (dCons (dC (.str "#")) (dCons (dC (.str "a#b\nc")) (dCons (dC (.str "{}=;,+-")) (dCons (dC (.str "a-1")) (dCons (dC (.str "shop2")) (dCons (dC (.str "2shop")) (dCons (dC (.str "thing")) (dCons (dC (.str "things")) (dNil)))))))))))))) (gSet 9) (dSeq (dIfS (dNot (dTru (dCallF f__law_is_told [] (dCons (dVar 9) (dNil))))) (dSeq (dRet (dC (.bl false))) (dNext)) (dNext)) (dNext))) (dSeq (dAsg (dCallF f__law_pick [] (dCons (dVar 1) (dCons (dLst (dCons (dC .non) (dCons (dC (.int 5)) (dCons (dTup (dNil)) (dCons (dLst (dCons (dC (.str "yard")) (dNil))) (dCons (dC (.bl true)) (dCons (dDict0) (dNil)))))))) (dNil)))) (gSet 10)) (dSeq (dIfS (dBool (dOp (rEqW true) (dLam L__law_why (dCallF f_tokens [] (dCons (dVar 10) (dNil)))) (dLst (dCons (dC (.str "read")) (dCons (dC (.int 0)) (dCons (dC (.int 0)) (dNil))))))) (dSeq (dRet (dC (.bl false))) (dNext)) (dNext)) (dSeq (dFor (dSrc (dOp rAdd (dOp rAdd (dCallF f__law_names [] (dCons (dVar 1) (dCons (dC (.int 3)) (dNil)))) ((fun _ S => f__law_keys [] S))) (dLst (dCons (dC (.str "")) (dCons (dOp rMul (dC (.str "a")) (dC (.int 12))) (dCons (dOp rMul (dC (.str "a")) (dC (.int 13))) (dCons (dC (.str "1a")) (dCons (dC (.str "a1")) (dCons (dC (.str "A")) (dCons (dC (.str "a b")) (dCons (dC (.str "a\n")) (dCons (dC .non) (dCons (dC (.int 5)) (dCons (dC (.bl true)) (dCons (dTup (dNil)) (dCons (dLst (dCons (dC (.str "a")) (dNil))) (dCons (dC (.str "7")) (dCons (dC (.str "-")) (dNil))))))))))))))))))) (gSet 9) (dSeq (dIfS (dNot (dTru (dCallF f__law_same [] (dCons (dCallF f_is_name [] (dCons (dVar 9) (dNil))) (dCons (dCallF f__law_is_name [] (dCons (dVar 9) (dNil))) (dNil)))))) (dSeq (dRet (dC (.bl false))) (dNext)) (dNext)) (dNext))) (dSeq (dRet (dC (.bl true))) (dNext)))))))
end Dn

set_option maxHeartbeats 4000000
namespace Dn
open PySem PySem.Spec PyProof.Rows L2
def f_is_run_sign : FW := bodyD 1 1 (d_is_run_sign)
theorem mn_is_run_sign : Mn 1 1 (d_is_run_sign) f_is_run_sign := Mn.self
def f_kind_of : FW := bodyD 1 1 (d_kind_of)
theorem mn_kind_of : Mn 1 1 (d_kind_of) f_kind_of := Mn.self
def f_is_name : FW := bodyD 2 1 (d_is_name f_is_run_sign f_kind_of)
theorem mn_is_name : Mn 2 1 (d_is_name f_is_run_sign f_kind_of) f_is_name := Mn.self
def i_Scanner : FW := bodyD 2 2 (d_Scanner___init__)
theorem mn_Scanner___init__ : Mn 2 2 (d_Scanner___init__) i_Scanner := Mn.self
def m_Scanner_is_over : FW := bodyD 1 1 (d_Scanner_is_over)
theorem mn_Scanner_is_over : Mn 1 1 (d_Scanner_is_over) m_Scanner_is_over := Mn.self
def m_Scanner_skip : FW := bodyD 2 2 (d_Scanner_skip)
theorem mn_Scanner_skip : Mn 2 2 (d_Scanner_skip) m_Scanner_skip := Mn.self
def m_Scanner_pass_gap : FW := bodyD 2 1 (d_Scanner_pass_gap m_Scanner_skip)
theorem mn_Scanner_pass_gap : Mn 2 1 (d_Scanner_pass_gap m_Scanner_skip) m_Scanner_pass_gap := Mn.self
def m_Scanner_token : FW := bodyD 5 1 (d_Scanner_token f_is_run_sign f_kind_of m_Scanner_skip)
theorem mn_Scanner_token : Mn 5 1 (d_Scanner_token f_is_run_sign f_kind_of m_Scanner_skip) m_Scanner_token := Mn.self
def f_tokens : FW := bodyD 3 1 (d_tokens i_Scanner m_Scanner_is_over m_Scanner_pass_gap m_Scanner_token)
theorem mn_tokens : Mn 3 1 (d_tokens i_Scanner m_Scanner_is_over m_Scanner_pass_gap m_Scanner_token) f_tokens := Mn.self
def f__law_pen : FW := bodyD 3 1 (d__law_pen)
theorem mn__law_pen : Mn 3 1 (d__law_pen) f__law_pen := Mn.self
def f__law_draw : FW := bodyD 5 2 (d__law_draw)
theorem mn__law_draw : Mn 5 2 (d__law_draw) f__law_draw := Mn.self
def f__law_pick : FW := bodyD 2 2 (d__law_pick f__law_draw)
theorem mn__law_pick : Mn 2 2 (d__law_pick f__law_draw) f__law_pick := Mn.self
def f__law_shuffled : FW := bodyD 5 2 (d__law_shuffled f__law_draw)
theorem mn__law_shuffled : Mn 5 2 (d__law_shuffled f__law_draw) f__law_shuffled := Mn.self
def f__law_name : FW := bodyD 5 2 (d__law_name f__law_draw)
theorem mn__law_name : Mn 5 2 (d__law_name f__law_draw) f__law_name := Mn.self
def f__law_names : FW := bodyD 3 2 (d__law_names f__law_name f__law_shuffled)
theorem mn__law_names : Mn 3 2 (d__law_names f__law_name f__law_shuffled) f__law_names := Mn.self
def r__law_same : Nat → FW
  | 0 => fun _ _ => .bad
  | n + 1 => bodyD 4 2 (d__law_same (r__law_same n))
def f__law_same : FW := r__law_same 40
/-- what _law_why tells -/
def whyR : R W → R W
  | .ok _ T => .ok .non T
  | .exc k fs T => if k = "Misread" then (match fs.lookup ("line" : Str), fs.lookup ("column" : Str) with
    | some a, some b => .ok (.ref T.length) (T ++ [.lst [.str "read", a, b]])
    | _, _ => .bad) else .bad
  | .bad => .bad
def L__law_why : FLW := fun cb S => whyR (cb S)
theorem try_nx {isX : Str → Str → Option Bool} {b : DS} {hs : List Cl} {env e1 : Env} {S S1 : Store} (h : b env S = .nx e1 S1) : dTry isX b hs env S = .nx e1 S1 := by unfold dTry; rw [h]
theorem try_hd {isX : Str → Str → Option Bool} {b : DS} {hs : List Cl} {env e1 e2 : Env} {S S1 S2 : Store} {k c : Str} {fs : List (Str × W)} {i : Nat} {sd : Str → List (Str × W) → DS} (h : b env S = .exc k fs e1 S1) (hx : isX k c = some true)
    (hl : i < e1.length) (hs' : sd k fs (e1.set i none) S1 = .nx e2 S2) : dTry isX b (⟨c, some i, sd⟩ :: hs) env S = .nx (e2.set i none) S2 := by
  unfold dTry; rw [h]
  show dCls isX (⟨c, some i, sd⟩ :: hs) k fs e1 S1 = _
  unfold dCls
  rw [hx]
  show (if decide (i < e1.length) = true then offS (some i) (sd k fs (e1.set i none) S1) else Fl.bad) = _
  rw [if_pos (decide_eq_true hl), hs']; rfl
theorem tr__law_why (l : W) (cb : Store → R W) (S : Store) : L__law_why cb S = .bad ∨ bodyD 3 1 (d__law_why EXR EXS l cb) [l] S = L__law_why cb S := by
  have e0 : dCb l cb [some l, some .non, none] S = cb S := by
    show (if eqW l l = true then cb S else .bad) = cb S
    rw [eqW_self, if_pos rfl]
  have st : bodyD 3 1 (d__law_why EXR EXS l cb) [l] S = bodyR (d__law_why EXR EXS l cb [some l, none, none] S) := rfl
  unfold L__law_why
  rw [st]
  unfold d__law_why
  rw [seq_nx (env := [some l, none, none]) (env2 := [some l, some .non, none]) (S2 := S) rfl]
  cases h : cb S with
  | bad => exact .inl rfl
  | ok w T =>
    refine .inr ?_
    have e1 : (dSeq (dExpr (dCb l cb)) dNext) [some l, some .non, none] S = .nx [some l, some .non, none] T := by
      simp only [ap_dSeq, ap_dExpr, e0, h]; rfl
    rw [seq_nx (env2 := [some l, some .non, none]) (S2 := T) (try_nx e1)]
    rfl
  | exc k fs T =>
    have e1 : (dSeq (dExpr (dCb l cb)) dNext) [some l, some .non, none] S = .exc k fs [some l, some .non, none] T := by
      simp only [ap_dSeq, ap_dExpr, e0, h]; rfl
    by_cases hk : k = "Misread"
    · subst hk
      cases h1 : fs.lookup ("line" : Str) with
      | none => left; simp only [whyR, h1, if_true]
      | some a =>
        cases h2 : fs.lookup ("column" : Str) with
        | none => left; simp only [whyR, h1, h2, if_true]
        | some b =>
          right
          have hx : isXo EXR EXS "Misread" "Misread" = some true := by decide
          refine (congrArg bodyR (seq_nx (env2 := [some l, some (.ref T.length), none]) (S2 := T ++ [.lst [.str "read", a, b]]) (try_hd (e2 := [some l, some (.ref T.length), none]) e1 hx (show 2 < 3 by omega) ?_))).trans ?_
          · simp only [if_true, ap_dSeq, ap_dAsg, ap_dLst, ap_dCons, ap_dNil, ap_dC, dXf, h1, h2]
            rfl
          · simp only [whyR, h1, h2, if_true]
            rfl
    · left
      simp only [whyR, if_neg hk]
def f__law_keys : FW := bodyD 0 0 (d__law_keys)
theorem mn__law_keys : Mn 0 0 (d__law_keys) f__law_keys := Mn.self
def f__law_is_name : FW := bodyD 2 1 (d__law_is_name f__law_keys)
theorem mn__law_is_name : Mn 2 1 (d__law_is_name f__law_keys) f__law_is_name := Mn.self
def f__law_kind_of_word : FW := bodyD 1 1 (d__law_kind_of_word f__law_is_name f__law_keys)
theorem mn__law_kind_of_word : Mn 1 1 (d__law_kind_of_word f__law_is_name f__law_keys) f__law_kind_of_word := Mn.self
def f__law_due : FW := bodyD 12 1 (d__law_due f__law_kind_of_word)
theorem mn__law_due : Mn 12 1 (d__law_due f__law_kind_of_word) f__law_due := Mn.self
def f__law_is_told : FW := bodyD 3 1 (d__law_is_told f__law_due f__law_same f_tokens L__law_why)
theorem mn__law_is_told : Mn 3 1 (d__law_is_told f__law_due f__law_same f_tokens L__law_why) f__law_is_told := Mn.self
def f_law : FW := bodyD 11 1 (d_law f__law_draw f__law_is_name f__law_is_told f__law_keys f__law_names f__law_pen f__law_pick f__law_same f_is_name f_tokens L__law_why)
theorem mn_law : Mn 11 1 (d_law f__law_draw f__law_is_name f__law_is_told f__law_keys f__law_names f__law_pen f__law_pick f__law_same f_is_name f_tokens L__law_why) f_law := Mn.self
end Dn

set_option maxHeartbeats 4000000
/-! the pen: what a draw does -/
namespace Dn
open PySem PySem.Spec PyProof.Rows L2
def penFs (c : Nat) (a dg ct fo : Int) : List (Key × W) := [(.inr "cells", .ref c), (.inr "at", .int a), (.inr "digits", .int dg), (.inr "count", .int ct), (.inr "fold", .int fo)]
section
variable {S : Store} {p c : Nat} {a dg ct fo : Int}
theorem pn_cells (h : S[p]? = some (.dic (penFs c a dg ct fo))) : subW (.ref p) (.str "cells") S = .ok (.ref c) S := sub_dic h rfl rfl
theorem pn_at (h : S[p]? = some (.dic (penFs c a dg ct fo))) : subW (.ref p) (.str "at") S = .ok (.int a) S := sub_dic h rfl rfl
theorem pn_digits (h : S[p]? = some (.dic (penFs c a dg ct fo))) : subW (.ref p) (.str "digits") S = .ok (.int dg) S := sub_dic h rfl rfl
theorem pn_count (h : S[p]? = some (.dic (penFs c a dg ct fo))) : subW (.ref p) (.str "count") S = .ok (.int ct) S := sub_dic h rfl rfl
theorem pn_fold (h : S[p]? = some (.dic (penFs c a dg ct fo))) : subW (.ref p) (.str "fold") S = .ok (.int fo) S := sub_dic h rfl rfl
theorem five_le : (5 : Nat) < sizeLine := by decide
theorem pp_at (h : S[p]? = some (.dic (penFs c a dg ct fo))) (x : Int) : subPut S (.ref p) (.str "at") (.int x) = some (S.set p (.dic (penFs c x dg ct fo))) := put_dic h rfl five_le rfl
theorem pp_digits (h : S[p]? = some (.dic (penFs c a dg ct fo))) (x : Int) : subPut S (.ref p) (.str "digits") (.int x) = some (S.set p (.dic (penFs c a x ct fo))) := put_dic h rfl five_le rfl
theorem pp_count (h : S[p]? = some (.dic (penFs c a dg ct fo))) (x : Int) : subPut S (.ref p) (.str "count") (.int x) = some (S.set p (.dic (penFs c a dg x fo))) := put_dic h rfl five_le rfl
theorem pp_fold (h : S[p]? = some (.dic (penFs c a dg ct fo))) (x : Int) : subPut S (.ref p) (.str "fold") (.int x) = some (S.set p (.dic (penFs c a dg ct x))) := put_dic h rfl five_le rfl
end
/-- the last part of a draw -/
def drawEnd : DS := dSeq (dIfS (dBool (dOp rGt (dSub (dVar 0) (dC (.str "digits"))) (dC (.int 0)))) (dSeq (dAsg (dOp rMod (dCall gInt (dCons (dSub (dVar 0) (dC (.str "digits"))) (dNil))) (dVar 1)) (gSet 3)) (dSeq (dAsg (dOp rFdiv (dSub (dVar 0) (dC (.str "digits"))) (dVar 1)) (gSubW (dVar 0) (dC (.str "digits")))) (dSeq (dRet (dVar 3)) (dNext)))) (dNext)) (dSeq (dAsg (dOp rAdd (dOp rAdd (dSub (dVar 0) (dC (.str "fold"))) (dOp rMul (dSub (dVar 0) (dC (.str "count"))) (dC (.int 7951)))) (dC (.int 113))) (gSet 4)) (dSeq (dRet (dOp rMod (dOp rFdiv (dCall gInt (dCons (dOp rMod (dOp rPow (dVar 4) (dC (.int 17))) (dC (.int 2305843009213693951))) (dNil))) (dC (.int 128))) (dVar 1))) (dNext)))
theorem drawEnd_ok {S : Store} {p c : Nat} {a dg ct fo m : Int} {x : Option W} (h : S[p]? = some (.dic (penFs c a dg ct fo))) (hm : 1 ≤ m ∧ m < 1073741824) (hd : 0 ≤ dg) (hct : 0 ≤ ct ∧ ct ≤ 2 ^ 50) (hfo : 0 ≤ fo ∧ fo < 2 ^ 32) :
    ∃ r dg' S', drawEnd [some (.ref p), some (.int m), x, none, none] S = .rt (.int r) S' ∧ 0 ≤ r ∧ r < m ∧ 0 ≤ dg' ∧ (S' = S ∧ dg' = dg ∨ S' = S.set p (.dic (penFs c a dg' ct fo))) := by
  have m0 : m ≠ 0 := by omega
  by_cases hpos : 0 < dg
  · refine ⟨dg.fmod m, dg.fdiv m, S.set p (.dic (penFs c a (dg.fdiv m) ct fo)), ?_, Int.fmod_nonneg_of_pos _ (by omega), Int.fmod_lt_of_pos _ (by omega), Int.fdiv_nonneg hd (by omega), .inr rfl⟩
    unfold drawEnd
    simp [ap_dSeq, pn_digits h, hpos, gSubW, pp_digits h, rIC_int (C := fun _ j => j ≠ 0) (i := dg) (j := m) (show m ≠ 0 from m0), rIC_int (C := CDivN) (i := dg) (j := m) ⟨m0, by omega⟩]
  · have hdg : dg = 0 := by omega
    subst hdg
    have cm : CMul ct 7951 := .inr ⟨by decide, by decide⟩
    have cp : CPow (fo + ct * 7951 + 113) 17 := ⟨by decide, by decide, by
      have h1 : 0 ≤ ct * 7951 := by omega
      have h2 : ct * 7951 ≤ 2 ^ 50 * 7951 := by omega
      omega⟩
    have q1 := rIC_int (S := S) (C := CPow) (g := fun i j => i ^ j.toNat) cp
    have q2 := fun b => rIC_int (S := S) (C := fun _ j => j ≠ 0) (g := fun i j => i.fmod j) (i := b) (j := 2305843009213693951) (by decide)
    have q3 := fun b => rIC_int (S := S) (C := CDivN) (g := fun i j => i.fdiv j) (i := b) (j := 128) ⟨by decide, by decide⟩
    have q4 := fun b => rIC_int (S := S) (C := fun _ j => j ≠ 0) (g := fun i j => i.fmod j) (i := b) (j := m) m0
    refine ⟨((((fo + ct * 7951 + 113) ^ (17 : Int).toNat).fmod 2305843009213693951).fdiv 128).fmod m, 0, S, ?_, Int.fmod_nonneg_of_pos _ (by omega), Int.fmod_lt_of_pos _ (by omega), Int.le_refl 0, .inl ⟨rfl, rfl⟩⟩
    unfold drawEnd
    simp [ap_dSeq, pn_digits h, pn_fold h, pn_count h, rMul_int cm, q1, q2, q3, q4]
/-- what stands otherwise stays -/
structure But (p : Nat) (S S' : Store) : Prop where
  len : S'.length = S.length
  at_ : ∀ i, i ≠ p → S'[i]? = S[i]?
theorem But.refl (p : Nat) (S : Store) : But p S S := ⟨rfl, fun _ _ => rfl⟩
theorem But.trans {p : Nat} {S S1 S2 : Store} (h : But p S S1) (h' : But p S1 S2) : But p S S2 := ⟨h'.len.trans h.len, fun i hi => (h'.at_ i hi).trans (h.at_ i hi)⟩
theorem But.set (p : Nat) (S : Store) (x : Cell) : But p S (S.set p x) := ⟨List.length_set, fun i hi => List.getElem?_set_ne (Ne.symm hi)⟩
def drawA : DS := dAsg (dOp rAdd (dSub (dVar 0) (dC (.str "count"))) (dC (.int 1))) (gSubW (dVar 0) (dC (.str "count")))
def drawT : DT := dAnd (dBool (dOp (rEqW false) (dSub (dVar 0) (dC (.str "digits"))) (dC (.int 0)))) (dBool (dOp rLt (dSub (dVar 0) (dC (.str "at"))) (dCall gLen (dCons (dSub (dVar 0) (dC (.str "cells"))) (dNil)))))
def drawC : DS := dAsg (dSub (dSub (dVar 0) (dC (.str "cells"))) (dSub (dVar 0) (dC (.str "at")))) (gSet 2)
def drawD : DS := dAsg (dOp rAdd (dSub (dVar 0) (dC (.str "at"))) (dC (.int 1))) (gSubW (dVar 0) (dC (.str "at")))
def drawF : DS := dIfS (dBool (dOp rGe (dVar 2) (dOp rPow (dC (.int 10)) (dC (.int 18))))) (dSeq (dAsg (dOp rSub (dVar 2) (dOp rPow (dC (.int 10)) (dC (.int 18)))) (gSubW (dVar 0) (dC (.str "digits")))) (dNext)) (dSeq (dAsg (dOp rMod (dCall gInt (dCons (dOp rAdd (dOp rMul (dSub (dVar 0) (dC (.str "fold"))) (dC (.int 70223))) (dVar 2)) (dNil))) (dC (.int 2147482811))) (gSubW (dVar 0) (dC (.str "fold")))) (dNext))
def drawB : DS := dIfS drawT (dSeq drawC (dSeq drawD (dSeq drawF dNext))) dNext
theorem draw_parts : d__law_draw = dSeq drawA (dSeq drawB drawEnd) := rfl
theorem drawB_ok {S : Store} {p c : Nat} {a dg ct fo m : Int} {ns : List Int} (h : S[p]? = some (.dic (penFs c a dg ct fo))) (hc : S[c]? = some (.lst (ns.map W.int))) (ha : 0 ≤ a) (hd : 0 ≤ dg) (hfo : 0 ≤ fo ∧ fo < 2 ^ 32) :
    ∃ x S' a' dg' fo', drawB [some (.ref p), some (.int m), none, none, none] S = .nx [some (.ref p), some (.int m), x, none, none] S' ∧ S'[p]? = some (.dic (penFs c a' dg' ct fo')) ∧ 0 ≤ a' ∧ 0 ≤ dg' ∧ (0 ≤ fo' ∧ fo' < 2 ^ 32) ∧ But p S S' := by
  have hpc : p ≠ c := fun e => by rw [e, hc] at h; cases h
  have hl : gLen [.ref c] S = .ok (.int (ns.length : Int)) S := by rw [len_lst hc, List.length_map]
  by_cases q : dg = 0 ∧ a < ns.length
  · obtain ⟨rfl, q⟩ := q
    have eT : drawT [some (.ref p), some (.int m), none, none, none] S = .ok true S := by simp [drawT, pn_digits h, pn_at h, pn_cells h, hl, q]
    obtain ⟨k, rfl⟩ : ∃ k : Nat, a = k := ⟨a.toNat, by omega⟩
    have hk : k < ns.length := by omega
    have e2 : (ns.map W.int)[k]? = some (.int ns[k]) := by simp [hk]
    have eC : drawC [some (.ref p), some (.int m), none, none, none] S = .nx [some (.ref p), some (.int m), some (.int ns[k]), none, none] S := by simp [drawC, pn_at h, pn_cells h, sub_lst hc e2]
    have h1 : (S.set p (.dic (penFs c (k + 1) 0 ct fo)))[p]? = some (.dic (penFs c (k + 1) 0 ct fo)) := set_at h
    have eD : drawD [some (.ref p), some (.int m), some (.int ns[k]), none, none] S = .nx [some (.ref p), some (.int m), some (.int ns[k]), none, none] (S.set p (.dic (penFs c (k + 1) 0 ct fo))) := by simp [drawD, gSubW, pn_at h, pp_at h]
    have b1 := But.set p S (.dic (penFs c (k + 1) 0 ct fo))
    have cp : CPow 10 18 := ⟨by decide, by decide, by decide⟩
    have q1 := fun S => rIC_int (S := S) (C := CPow) (g := fun i j => i ^ j.toNat) cp
    have b0 : ∀ {x : Option W} {T : Store}, drawF [some (.ref p), some (.int m), some (.int ns[k]), none, none] (S.set p (.dic (penFs c (k + 1) 0 ct fo))) = .nx [some (.ref p), some (.int m), x, none, none] T → drawB [some (.ref p), some (.int m), none, none, none] S = .nx [some (.ref p), some (.int m), x, none, none] T := fun {x T} e => by
      unfold drawB
      rw [ap_dIfS, eT]
      simp only [R.fl_ok, if_true]
      rw [seq_nx eC, seq_nx eD, seq_nx e, ap_dNext]
    generalize hT : S.set p (.dic (penFs c (k + 1) 0 ct fo)) = T at h1 b0 b1
    by_cases z : (1000000000000000000 : Int) ≤ ns[k]
    · refine ⟨_, T.set p (.dic (penFs c (k + 1) (ns[k] - 1000000000000000000) ct fo)), k + 1, ns[k] - 1000000000000000000, fo, b0 (x := some (.int ns[k])) ?_, set_at h1, by omega, by omega, hfo, b1.trans (But.set p T _)⟩
      have e10 : (10 : Int) ^ (18 : Int).toNat = 1000000000000000000 := by decide
      unfold drawF
      simp [ap_dSeq, q1, e10, z, gSubW, pp_digits h1]
    · have cm : CMul fo 70223 := .inr ⟨by decide, by decide⟩
      have q2 := fun b => rIC_int (S := T) (C := fun _ j => j ≠ 0) (g := fun i j => i.fmod j) (i := b) (j := 2147482811) (by decide)
      refine ⟨_, T.set p (.dic (penFs c (k + 1) 0 ct ((fo * 70223 + ns[k]).fmod 2147482811))), k + 1, 0, (fo * 70223 + ns[k]).fmod 2147482811, b0 (x := some (.int ns[k])) ?_, set_at h1, by omega, by omega, ⟨Int.fmod_nonneg_of_pos _ (by decide), Int.lt_trans (Int.fmod_lt_of_pos _ (by decide)) (by decide)⟩, b1.trans (But.set p T _)⟩
      have e10 : (10 : Int) ^ (18 : Int).toNat = 1000000000000000000 := by decide
      unfold drawF
      simp [ap_dSeq, q1, e10, z, gSubW, pn_fold h1, pp_fold h1, rMul_int cm, q2]
  · refine ⟨none, S, a, dg, fo, ?_, h, ha, hd, hfo, But.refl p S⟩
    have eT : drawT [some (.ref p), some (.int m), none, none, none] S = .ok false S := by
      by_cases q1 : dg = 0
      · have q2 : ¬ a < ns.length := fun z => q ⟨q1, z⟩
        simp [drawT, pn_digits h, pn_at h, pn_cells h, hl, q1, q2]
      · simp [drawT, pn_digits h, pn_at h, pn_cells h, hl, q1]
    unfold drawB
    rw [ap_dIfS, eT]
    rfl
/-- the pen at p: what is left of the script, how many draws it stands -/
structure PenAt (S : Store) (p c b : Nat) : Prop where
  ex : ∃ (ns : List Int) (a dg ct fo : Int), S[p]? = some (.dic (penFs c a dg ct fo)) ∧ S[c]? = some (.lst (ns.map W.int)) ∧ ns.length ≤ 63 ∧ 0 ≤ a ∧ 0 ≤ dg ∧ 0 ≤ ct ∧ ct + b ≤ 2 ^ 50 ∧ 0 ≤ fo ∧ fo < 2 ^ 32
theorem PenAt.mono {S : Store} {p c b b' : Nat} (h : PenAt S p c b) (hb : b' ≤ b) : PenAt S p c b' := by
  obtain ⟨ns, a, dg, ct, fo, h1, h2, h3, h4, h5, h6, h7, h8⟩ := h.ex
  exact ⟨ns, a, dg, ct, fo, h1, h2, h3, h4, h5, h6, by omega, h8⟩
theorem PenAt.lt {S : Store} {p c b : Nat} (h : PenAt S p c b) : p < S.length := by
  obtain ⟨ns, a, dg, ct, fo, h1, _⟩ := h.ex
  exact (List.getElem?_eq_some_iff.mp h1).1
theorem PenAt.ltc {S : Store} {p c b : Nat} (h : PenAt S p c b) : c < S.length := by
  obtain ⟨ns, a, dg, ct, fo, _, h1, _⟩ := h.ex
  exact (List.getElem?_eq_some_iff.mp h1).1
theorem PenAt.of {S T : Store} {p c b : Nat} (h : PenAt S p c b) (h1 : T[p]? = S[p]?) (h2 : T[c]? = S[c]?) : PenAt T p c b := by
  obtain ⟨ns, a, dg, ct, fo, q1, q2, q⟩ := h.ex
  exact ⟨ns, a, dg, ct, fo, by rw [h1]; exact q1, by rw [h2]; exact q2, q⟩
theorem PenAt.app {S : Store} {p c b : Nat} (h : PenAt S p c b) (G : Store) : PenAt (S ++ G) p c b := h.of (List.getElem?_append_left h.lt) (List.getElem?_append_left h.ltc)
theorem PenAt.set {S : Store} {p c b i : Nat} (h : PenAt S p c b) (x : Cell) (hp : i ≠ p) (hc : i ≠ c) : PenAt (S.set i x) p c b := h.of (List.getElem?_set_ne hp) (List.getElem?_set_ne hc)
theorem PenAt.no {S : Store} {p c b n : Nat} {xs : List W} (h : PenAt S p c b) (hx : S[n]? = some (.lst xs)) : n ≠ p := fun e => by
  obtain ⟨ns, a, dg, ct, fo, hp, _⟩ := h.ex
  rw [e, hp] at hx; cases hx
theorem draw_ok {S : Store} {p c b : Nat} {m : Int} (h : PenAt S p c (b + 1)) (hm : 1 ≤ m ∧ m < 1073741824) : ∃ r S', f__law_draw [.ref p, .int m] S = .ok (.int r) S' ∧ 0 ≤ r ∧ r < m ∧ PenAt S' p c b ∧ But p S S' := by
  obtain ⟨ns, a, dg, ct, fo, hp, hc, hn, ha, hd, h0, h1, hfo⟩ := h.ex
  have hpc : p ≠ c := fun e => by rw [e, hc] at hp; cases hp
  have hp1 : (S.set p (.dic (penFs c a dg (ct + 1) fo)))[p]? = some (.dic (penFs c a dg (ct + 1) fo)) := set_at hp
  have hc1 : (S.set p (.dic (penFs c a dg (ct + 1) fo)))[c]? = some (.lst (ns.map W.int)) := by rw [set_off hpc]; exact hc
  have st1 : f__law_draw [.ref p, .int m] S = bodyR ((dSeq drawB drawEnd) [some (.ref p), some (.int m), none, none, none] (S.set p (.dic (penFs c a dg (ct + 1) fo)))) := by
    show bodyR (d__law_draw _ S) = _
    rw [draw_parts, seq_nx (env2 := [some (.ref p), some (.int m), none, none, none]) (S2 := S.set p (.dic (penFs c a dg (ct + 1) fo)))]
    simp [drawA, gSubW, pn_count hp, pp_count hp]
  rw [st1]
  obtain ⟨x, T, a', dg', fo', e1, hT, ha', hd', hfo', bT⟩ := drawB_ok (m := m) hp1 hc1 ha hd hfo
  rw [seq_nx e1]
  obtain ⟨r, dg2, S', e2, r1, r2, hd2, q⟩ := drawEnd_ok (x := x) hT hm hd' (ct := ct + 1) (by omega) hfo'
  rw [e2]
  have bS := (But.set p S (.dic (penFs c a dg (ct + 1) fo))).trans bT
  refine ⟨r, S', rfl, r1, r2, ?_, ?_⟩
  · rcases q with ⟨rfl, rfl⟩ | rfl
    · exact ⟨ns, a', dg2, ct + 1, fo', hT, by rw [bT.at_ c (Ne.symm hpc)]; exact hc1, hn, ha', hd2, by omega, by omega, hfo'⟩
    · exact ⟨ns, a', dg2, ct + 1, fo', set_at hT, by rw [set_off hpc, bT.at_ c (Ne.symm hpc)]; exact hc1, hn, ha', hd2, by omega, by omega, hfo'⟩
  · rcases q with ⟨rfl, rfl⟩ | rfl
    · exact bS
    · exact bS.trans (But.set p T _)
end Dn

set_option maxHeartbeats 4000000
/-! pens: picks, shuffled lists, names -/
namespace Dn
open PySem PySem.Spec PyProof.Rows L2
/-! ### pick -/
theorem pick_lst {S : Store} {p c b n : Nat} {xs : List W} (h : PenAt S p c (b + 1)) (hx : S[n]? = some (.lst xs)) (hl : 1 ≤ xs.length ∧ xs.length < 1000000) : ∃ w S', f__law_pick [.ref p, .ref n] S = .ok w S' ∧ w ∈ xs ∧ PenAt S' p c b ∧ But p S S' := by
  obtain ⟨r, S', e1, r1, r2, hP, hB⟩ := draw_ok (m := (xs.length : Int)) h (by omega)
  obtain ⟨k, rfl⟩ : ∃ k : Nat, r = k := ⟨r.toNat, by omega⟩
  have hk : k < xs.length := by omega
  have hx' : S'[n]? = some (.lst xs) := by rw [hB.at_ n (h.no hx)]; exact hx
  refine ⟨xs[k], S', ?_, List.getElem_mem hk, hP, hB⟩
  show bodyR (d__law_pick f__law_draw [some (.ref p), some (.ref n)] S) = _
  unfold d__law_pick
  simp [ap_dSeq, len_lst hx, e1, sub_lst hx' (List.getElem?_eq_getElem hk)]
/-! ### shuffled -/
theorem big62_nat {n : Nat} (h : n < 2 ^ 62) : big62 ((n : Nat) : Int) = true := by
  have e : ((2 : Int) ^ 62) = ((2 ^ 62 : Nat) : Int) := by decide
  unfold big62
  rw [e]
  rw [decide_eq_true (Int.ofNat_lt.mpr h), decide_eq_true (show -((2 ^ 62 : Nat) : Int) ≤ (n : Int) from Int.le_trans (Int.neg_nonpos_of_nonneg (Int.natCast_nonneg _)) (Int.natCast_nonneg _))]
  rfl
theorem rng1 {d : DE} {env : Env} {S S1 : Store} {n : Nat} (e : d env S = .ok (.int (n : Int)) S1) (h : n ≤ 2000000) : dRng1 d env S = .ok ((List.range n).map fun i => .int ((i : Nat) : Int), fun _ => true) S1 := by
  unfold dRng1
  rw [e, R.bind_ok]
  show (if big62 ((n : Nat) : Int) = true then R.ok (((List.range ((n : Nat) : Int).toNat).map fun i => W.int ((i : Nat) : Int), fun _ => true) : Src) S1 else .bad) = _
  rw [if_pos (big62_nat (Nat.lt_of_le_of_lt h (by decide))), Int.toNat_natCast]
theorem app_lst {S : Store} {n : Nat} {xs : List W} {w : W} (h : S[n]? = some (.lst xs)) (hl : xs.length < sizeLine) : gAppend (.ref n) [w] S = .ok .non (S.set n (.lst (xs ++ [w]))) := by
  simp only [gAppend, lstW_at h, if_pos hl]
theorem lisW_at {S : Store} {n : Nat} {xs : List W} (h : S[n]? = some (.lst xs)) : lisW S (.ref n) = some xs := by
  simp only [lisW, lstW_at h, Option.map_some]
theorem hasT_lst {S : Store} {n : Nat} {xs : List W} (h : S[n]? = some (.lst xs)) : hasT "list" S (.ref n) = true := by
  simp only [hasT, lisW_at h]
  rfl
theorem pop_lst {S : Store} {n k : Nat} {xs : List W} (h : S[n]? = some (.lst xs)) (hk : k < xs.length) (hl : xs.length < 2 ^ 62) : gPop (.ref n) [.int (k : Int)] S = .ok xs[k] (S.set n (.lst (xs.eraseIdx k))) := by
  have h1 : -(2 ^ 63 : Int) ≤ (k : Int) ∧ ((k : Nat) : Int) < 2 ^ 63 := by omega
  have h2 : seqIndex? ((k : Nat) : Int) xs.length = some k := by
    have := (ixN_seq (n := xs.length) (i := ((k : Nat) : Int)) (j := k) (by unfold ixN; rw [if_pos (by omega), if_pos (by omega), Int.toNat_natCast])).1
    exact this
  simp only [gPop, lstW_at h, if_pos h1, h2, List.getElem?_eq_getElem hk]
theorem perm_erase : ∀ (l : List W) (k : Nat) (hk : k < l.length), ([l[k]] ++ l.eraseIdx k).Perm l
  | a :: l, 0, _ => .refl _
  | a :: l, k + 1, hk => by
    have ih := perm_erase l k (by simpa using hk)
    have hk' : k < l.length := by simpa using hk
    show (l[k]'hk' :: a :: l.eraseIdx k).Perm (a :: l)
    exact (List.Perm.swap _ _ _).trans (List.Perm.cons a ih)
theorem perm_pop {xs found left : List W} {k : Nat} (hk : k < left.length) (h : (found ++ left).Perm xs) : ((found ++ [left[k]]) ++ left.eraseIdx k).Perm xs := by
  refine List.Perm.trans ?_ h
  rw [List.append_assoc]
  refine List.Perm.append_left found ?_
  exact perm_erase left k hk
def shufB (f__law_draw : FW) : DS := dSeq (dExpr (dMeth "list" gAppend (dVar 3) (dCons (dMeth "list" gPop (dVar 2) (dCons (dCallF f__law_draw [] (dCons (dVar 0) (dCons (dCall gLen (dCons (dVar 2) (dNil))) (dNil)))) (dNil))) (dNil)))) (dNext)
theorem shufB_ok {T : Store} {p c b L : Nat} {left found : List W} {x0 x : Option W} (hP : PenAt T p c (b + 1)) (h2 : T[L]? = some (.lst left)) (h3 : T[L + 1]? = some (.lst found)) (hc : c < L) (h0 : left ≠ []) (hl : left.length < 1000000 ∧ found.length < 1000000) :
    ∃ k T', ∃ hk : k < left.length, shufB f__law_draw [some (.ref p), x0, some (.ref L), some (.ref (L + 1)), x] T = .nx [some (.ref p), x0, some (.ref L), some (.ref (L + 1)), x] T' ∧ T'[L]? = some (.lst (left.eraseIdx k)) ∧ T'[L + 1]? = some (.lst (found ++ [left[k]])) ∧ PenAt T' p c b ∧ T'.length = T.length ∧ ∀ i, i < L → i ≠ p → T'[i]? = T[i]? := by
  have hpos : 1 ≤ left.length := by
    cases left with
    | nil => exact absurd rfl h0
    | cons a l => simp
  obtain ⟨r, T1, e1, r1, r2, hP1, hB⟩ := draw_ok (m := (left.length : Int)) hP (by omega)
  obtain ⟨k, rfl⟩ : ∃ k : Nat, r = k := ⟨r.toNat, by omega⟩
  have hk : k < left.length := by omega
  have a2 : T1[L]? = some (.lst left) := by rw [hB.at_ L (hP.no h2)]; exact h2
  have a3 : T1[L + 1]? = some (.lst found) := by rw [hB.at_ _ (hP.no h3)]; exact h3
  have b3 : (T1.set L (.lst (left.eraseIdx k)))[L + 1]? = some (.lst found) := by rw [set_off (by omega)]; exact a3
  have sl : found.length < sizeLine := Nat.lt_trans hl.2 (by decide)
  refine ⟨k, (T1.set L (.lst (left.eraseIdx k))).set (L + 1) (.lst (found ++ [left[k]])), hk, ?_, ?_, ?_, ?_, ?_, fun i hi hp => ?_⟩
  · unfold shufB
    simp [ap_dSeq, hasT_lst h3, hasT_lst h2, len_lst h2, e1, pop_lst a2 hk (by omega), app_lst b3 sl]
  · rw [set_off (by omega)]; exact set_at a2
  · exact set_at b3
  · exact (hP1.set _ (hP1.no a2) (by omega)).set _ ((hP1.set _ (hP1.no a2) (by omega)).no b3) (by omega)
  · rw [List.length_set, List.length_set]; exact hB.len
  · rw [set_off (by omega), set_off (by omega)]; exact hB.at_ i hp
/-- what a shuffle has made: the items, one by one, of what was left -/
theorem shuffled_ok {S : Store} {p c b n : Nat} {xs : List W} (h : PenAt S p c (b + xs.length)) (hx : S[n]? = some (.lst xs)) (hl : xs.length < 1000000) :
    ∃ ys T, f__law_shuffled [.ref p, .ref n] S = .ok (.ref (S.length + 1)) T ∧ T[S.length + 1]? = some (.lst ys) ∧ ys.Perm xs ∧ PenAt T p c b ∧ T.length = S.length + 2 ∧ ∀ i, i < S.length → i ≠ p → T[i]? = S[i]? := by
  have hL := h.ltc
  have z0 : (0 : Nat) ≤ sizeLine := Nat.zero_le _
  have st1 : f__law_shuffled [.ref p, .ref n] S = bodyR ((dSeq (dFor (dRng1 (dCall gLen (dCons (dVar 1) (dNil)))) (gSet 4) (shufB f__law_draw)) (dSeq (dRet (dVar 3)) (dNext))) [some (.ref p), some (.ref n), some (.ref S.length), some (.ref (S.length + 1)), none] (S ++ [.lst xs, .lst []])) := by
    show bodyR (d__law_shuffled f__law_draw _ S) = _
    unfold d__law_shuffled
    rw [seq_nx (env2 := [some (.ref p), some (.ref n), some (.ref S.length), some (.ref (S.length + 1)), none]) (S2 := S ++ [.lst xs, .lst []])]
    · rfl
    · simp [gList, seqW_at hx, z0]
  rw [st1]
  have l1 : (S ++ [Cell.lst xs, Cell.lst []])[n]? = some (.lst xs) := by rw [List.getElem?_append_left (List.getElem?_eq_some_iff.mp hx).1]; exact hx
  have er : dRng1 (dCall gLen (dCons (dVar 1) (dNil))) [some (.ref p), some (.ref n), some (.ref S.length), some (.ref (S.length + 1)), none] (S ++ [.lst xs, .lst []]) = .ok ((List.range xs.length).map fun i => .int ((i : Nat) : Int), fun _ => true) (S ++ [.lst xs, .lst []]) := rng1 (by simp [len_lst l1]) (by omega)
  have key := forL_rule (chk := fun _ => true) (g := gSet 4) (body := shufB f__law_draw)
    (fun rest env T => ∃ left found x, env = [some (.ref p), some (.ref n), some (.ref S.length), some (.ref (S.length + 1)), x] ∧ T[S.length]? = some (.lst left) ∧ T[S.length + 1]? = some (.lst found) ∧ rest.length = left.length ∧ (found ++ left).Perm xs ∧ PenAt T p c (b + left.length) ∧ T.length = S.length + 2 ∧ ∀ i, i < S.length → i ≠ p → T[i]? = S[i]?)
    (fun fl => ∃ ys x T, fl = .nx [some (.ref p), some (.ref n), some (.ref S.length), some (.ref (S.length + 1)), x] T ∧ T[S.length + 1]? = some (.lst ys) ∧ ys.Perm xs ∧ PenAt T p c b ∧ T.length = S.length + 2 ∧ ∀ i, i < S.length → i ≠ p → T[i]? = S[i]?)
    (fun w rest env T ⟨left, found, x, e, h2, h3, hr, hp, hP, hlen, hfr⟩ => by
      subst e
      have ll : (found ++ left).length = xs.length := hp.length_eq
      rw [List.length_append] at ll
      cases left with
      | nil => simp at hr
      | cons a l =>
        obtain ⟨k, T', hk, e1, q2, q3, qP, ql, qf⟩ := shufB_ok (x0 := some (.ref n)) (x := some w) (b := b + l.length) (by rw [List.length_cons] at hP; exact hP) h2 h3 hL (by simp) (by constructor <;> omega)
        refine ⟨rfl, _, T, rfl, ?_⟩
        show (match shufB f__law_draw [some (.ref p), some (.ref n), some (.ref S.length), some (.ref (S.length + 1)), some w] T with | .nx e S2 => _ | .ct e S2 => _ | .bk e S2 => _ | r => _)
        rw [e1]
        refine ⟨_, _, _, rfl, q2, q3, ?_, perm_pop hk hp, ?_, by rw [ql, hlen], fun i hi hp' => by rw [qf i hi hp']; exact hfr i hi hp'⟩
        · rw [List.length_eraseIdx_of_lt hk]; simpa using hr
        · rw [List.length_eraseIdx_of_lt hk]; exact qP)
    (fun env T ⟨left, found, x, e, h2, h3, hr, hp, hP, hlen, hfr⟩ => by
      have : left = [] := by simpa using hr.symm
      subst this
      rw [List.append_nil] at hp
      exact ⟨rfl, found, x, T, by rw [e], h3, hp, hP, hlen, hfr⟩)
    ((List.range xs.length).map fun i => .int ((i : Nat) : Int)) [some (.ref p), some (.ref n), some (.ref S.length), some (.ref (S.length + 1)), none] (S ++ [.lst xs, .lst []])
    ⟨xs, [], none, rfl, by simp, by simp, by simp, by simp, h.app _, by simp, fun i hi _ => List.getElem?_append_left hi⟩
  obtain ⟨ys, x, T, e, q1, q2, q3, q4, q5⟩ := key
  refine ⟨ys, T, ?_, q1, q2, q3, q4, q5⟩
  rw [seq_nx (env2 := _) (S2 := T) (by rw [ap_dFor, er]; exact e)]
  simp [ap_dSeq]
end Dn

set_option maxHeartbeats 4000000
/-! pens: names, the pen itself -/
namespace Dn
open PySem PySem.Spec PyProof.Rows L2
def abc : Str := "abcdefghijklmnopqrstuvwxyz"
theorem abc_cps : abc.cps.toList = List.range' 97 26 := by decide +kernel
theorem abc_len : abc.length = 26 := by decide +kernel
def Letters (l : List Nat) : Prop := ∀ k ∈ l, 97 ≤ k ∧ k ≤ 122
def dgts (i : Nat) : List Nat := (Str.ofString (toString (i : Int))).cps.toList
theorem dgts_ok : ∀ i : Fin 100, ((dgts i).all fun k => decide (48 ≤ k ∧ k ≤ 57)) = true ∧ 1 ≤ (dgts i).length ∧ (dgts i).length ≤ 2 := by decide +kernel
/-- a name of the number i -/
def NameOf (i : Nat) (x : List Nat) : Prop := ∃ u v, Letters u ∧ Letters v ∧ u ≠ [] ∧ u.length + v.length ≤ 8 ∧ x = u ++ dgts i ++ v
theorem strI {S : Store} {i : Nat} (h : i < 100) : gStrI [.int (i : Int)] S = .ok (.str (sx (dgts i))) S := by
  have h1 : ((i : Int)).natAbs.log2 < 1920 := by
    rw [Int.natAbs_natCast]
    have : i.log2 ≤ i := Nat.log2_le_self i
    omega
  show (if ((i : Int)).natAbs.log2 < 1920 then R.ok (W.str (Str.ofString (toString (i : Int)))) S else .bad) = _
  rw [if_pos h1]
  unfold dgts
  rw [← sx_of]
def nameB (f__law_draw : FW) : DS := dSeq (dAsg (dOp rAdd (dVar 2) (dSub (dC (.str "abcdefghijklmnopqrstuvwxyz")) (dCallF f__law_draw [] (dCons (dVar 0) (dCons (dC (.int 26)) (dNil)))))) (gSet 2)) (dNext)
theorem nameB_ok {S : Store} {p c b : Nat} {i x : Option W} {u : List Nat} (h : PenAt S p c (b + 1)) (hu : u.length < 1000) : ∃ k S', nameB f__law_draw [some (.ref p), i, some (.str (sx u)), x, none] S = .nx [some (.ref p), i, some (.str (sx (u ++ [k]))), x, none] S' ∧ 97 ≤ k ∧ k ≤ 122 ∧ PenAt S' p c b ∧ But p S S' := by
  obtain ⟨r, S', e1, r1, r2, hP, hB⟩ := draw_ok (m := 26) h (by decide)
  obtain ⟨j, rfl⟩ : ∃ j : Nat, r = j := ⟨r.toNat, by omega⟩
  have ha : abc.length ≤ sizeLine := by rw [abc_len]; exact small (by decide)
  have e2 : subW (.str abc) (.int (j : Int)) S' = .ok (.str (sx [97 + j])) S' := ix_str ha (by rw [abc_cps, List.getElem?_range' (by omega)]; simp)
  have e2' : subW (.str ("abcdefghijklmnopqrstuvwxyz" : Str)) (.int (j : Int)) S' = .ok (.str (sx [97 + j])) S' := e2
  have e3 : rAdd (.str (sx u)) (.str (sx [97 + j])) S' = .ok (.str (sx (u ++ [97 + j]))) S' := add_str (small (by simp; omega))
  refine ⟨97 + j, S', ?_, by omega, by omega, hP, hB⟩
  unfold nameB
  simp [ap_dSeq, e1, e2', e3]
theorem name_ok {S : Store} {p c b i : Nat} (h : PenAt S p c (b + 10)) (hi : i < 100) : ∃ x S', f__law_name [.ref p, .int (i : Int)] S = .ok (.str (sx x)) S' ∧ NameOf i x ∧ PenAt S' p c b ∧ But p S S' := by
  obtain ⟨r, S1, e1, r1, r2, hP1, hB1⟩ := draw_ok (m := 8) (b := b + 9) h (by decide)
  obtain ⟨j, rfl⟩ : ∃ j : Nat, r = j := ⟨r.toNat, by omega⟩
  have er : dRng1 (dOp rAdd (dC (.int 1)) (dCallF f__law_draw [] (dCons (dVar 0) (dCons (dC (.int 8)) (dNil))))) [some (.ref p), some (.int (i : Int)), some (.str (sx [])), none, none] S = .ok ((List.range (1 + j)).map fun i => .int ((i : Nat) : Int), fun _ => true) S1 :=
    rng1 (by simp [e1]) (by omega)
  have key := forL_rule (chk := fun _ => true) (g := gSet 3) (body := nameB f__law_draw)
    (fun rest env T => ∃ u x, env = [some (.ref p), some (.int (i : Int)), some (.str (sx u)), x, none] ∧ Letters u ∧ u.length + rest.length = 1 + j ∧ PenAt T p c (b + 1 + rest.length) ∧ But p S T)
    (fun fl => ∃ u x T, fl = .nx [some (.ref p), some (.int (i : Int)), some (.str (sx u)), x, none] T ∧ Letters u ∧ u.length = 1 + j ∧ PenAt T p c (b + 1) ∧ But p S T)
    (fun w rest env T ⟨u, x, e, hu, hl, hP, hB⟩ => by
      subst e
      rw [List.length_cons] at hl hP
      obtain ⟨k, T', e2, k1, k2, hP2, hB2⟩ := nameB_ok (i := some (.int (i : Int))) (x := some w) (u := u) (b := b + 1 + rest.length) hP (by omega)
      refine ⟨rfl, _, T, rfl, ?_⟩
      show (match nameB f__law_draw [some (.ref p), some (.int (i : Int)), some (.str (sx u)), some w, none] T with | .nx e S2 => _ | .ct e S2 => _ | .bk e S2 => _ | r => _)
      rw [e2]
      refine ⟨_, _, rfl, fun z hz => ?_, by simp; omega, hP2, hB.trans hB2⟩
      rcases List.mem_append.mp hz with hz | hz
      · exact hu z hz
      · rw [List.mem_singleton.mp hz]; exact ⟨k1, k2⟩)
    (fun env T ⟨u, x, e, hu, hl, hP, hB⟩ => ⟨rfl, u, x, T, by rw [e], hu, by simpa using hl, by simpa using hP, hB⟩)
    ((List.range (1 + j)).map fun i => .int ((i : Nat) : Int)) [some (.ref p), some (.int (i : Int)), some (.str (sx [])), none, none] S1
    ⟨[], none, rfl, fun z hz => (by cases hz), by simp, hP1.mono (by simp; omega), hB1⟩
  obtain ⟨u, x, T, e, hu, hl, hPT, hBT⟩ := key
  obtain ⟨r, S', e2, r1, r2, hP, hB⟩ := draw_ok (m := (u.length : Int)) hPT (by omega)
  obtain ⟨q, rfl⟩ : ∃ q : Nat, r = q := ⟨r.toNat, by omega⟩
  have hlu : gLen [.str (sx u)] T = .ok (.int (u.length : Int)) T := by rw [len_str (small (by simp; omega)), sx_len]
  have hd := dgts_ok ⟨i, hi⟩
  have hsx : (sx u).length ≤ sizeLine := by rw [sx_len]; exact small (by omega)
  have hdl : (dgts i).length ≤ 2 := hd.2.2
  have htl : (u.take (1 + q)).length ≤ 8 := by rw [List.length_take]; omega
  have hdr : (u.drop (1 + q)).length ≤ 8 := by rw [List.length_drop]; omega
  have eq1 : (1 : Int) + (q : Int) = ((1 + q : Nat) : Int) := by omega
  refine ⟨u.take (1 + q) ++ dgts i ++ u.drop (1 + q), S', ?_, ⟨u.take (1 + q), u.drop (1 + q), fun z hz => hu z (List.mem_of_mem_take hz), fun z hz => hu z (List.mem_of_mem_drop hz), ?_, by simp; omega, rfl⟩, hP, hBT.trans hB⟩
  · have es : ∀ T', sliceW (.str (sx u)) none (some ((1 + q : Nat) : Int)) T' = .ok (.str (sx (u.take (1 + q)))) T' := fun T' => by rw [slice_str hsx, cut_lo]
    have es2 : ∀ T', sliceW (.str (sx u)) (some ((1 + q : Nat) : Int)) none T' = .ok (.str (sx (u.drop (1 + q)))) T' := fun T' => by rw [slice_str hsx, cut_hi]
    have a1 : ∀ T', rAdd (.str (sx (u.take (1 + q)))) (.str (sx (dgts i))) T' = .ok (.str (sx (u.take (1 + q) ++ dgts i))) T' := fun T' => add_str (small (by omega))
    have a2 : ∀ T', rAdd (.str (sx (u.take (1 + q) ++ dgts i))) (.str (sx (u.drop (1 + q)))) T' = .ok (.str (sx (u.take (1 + q) ++ dgts i ++ u.drop (1 + q)))) T' := fun T' => add_str (small (by rw [List.length_append]; omega))
    show bodyR (d__law_name f__law_draw [some (.ref p), some (.int (i : Int)), none, none, none] S) = _
    unfold d__law_name
    rw [seq_nx (env2 := [some (.ref p), some (.int (i : Int)), some (.str (sx [])), none, none]) (S2 := S), seq_nx (env2 := [some (.ref p), some (.int (i : Int)), some (.str (sx u)), x, none]) (S2 := T)]
    · simp only [ap_dSeq, ap_dVar, ap_dC, ap_dOp, ap_dSub, ap_dBool, ap_dTru, ap_dNot, ap_dAnd, ap_dOr, ap_dIf, ap_dNil, ap_dCons, ap_dTup, ap_dLst, ap_dCall, ap_dCallF, ap_dMake, ap_dMethF, ap_dMeth, ap_dFld, ap_dIsi, ap_dSlice, ap_dNoPart, ap_dPart, ap_dNext, ap_dRet, ap_dRetN, ap_dExpr, ap_dBreak, ap_dCont, ap_dIfS, ap_dAsg, ap_gSet, ap_dPar, ap_dPar3, ap_dFor, ap_dSrc, R.bind_ok, R.bind_exc, R.fl_ok, R.fl_exc, List.getElem?_cons_zero, List.getElem?_cons_succ, List.set_cons_zero, List.set_cons_succ, bodyR_nx, bodyR_rt, bodyR_exc, rAdd_int, rSub_int, rOrd_int, gInt_int, List.append_nil, if_true, if_false, Bool.false_eq_true, Bool.not_true, Bool.not_false, rEq_int, rNe_int, hlu, e2, eq1, es, es2, strI hi, a1, a2]
    · rw [ap_dFor, er]; exact e
    · rfl
  · intro e
    have := congrArg List.length e
    rw [List.length_take, List.length_nil] at this
    omega
/-- what stood stays, but at p; more may stand -/
structure Gro (p : Nat) (S T : Store) : Prop where
  le : S.length ≤ T.length
  at_ : ∀ i, i < S.length → i ≠ p → T[i]? = S[i]?
theorem Gro.refl (p : Nat) (S : Store) : Gro p S S := ⟨Nat.le_refl _, fun _ _ _ => rfl⟩
theorem Gro.trans {p : Nat} {S S1 S2 : Store} (h : Gro p S S1) (h' : Gro p S1 S2) : Gro p S S2 := ⟨Nat.le_trans h.le h'.le, fun i hi hp => (h'.at_ i (Nat.lt_of_lt_of_le hi h.le) hp).trans (h.at_ i hi hp)⟩
theorem But.gro {p : Nat} {S T : Store} (h : But p S T) : Gro p S T := ⟨Nat.le_of_eq h.len.symm, fun i _ hp => h.at_ i hp⟩
theorem Gro.app (p : Nat) (S G : Store) : Gro p S (S ++ G) := ⟨by rw [List.length_append]; omega, fun i hi _ => List.getElem?_append_left hi⟩
theorem Gro.some {p i : Nat} {S T : Store} {x : Cell} (h : Gro p S T) (e : S[i]? = some x) (hp : i ≠ p) : T[i]? = .some x := by rw [h.at_ i (List.getElem?_eq_some_iff.mp e).1 hp]; exact e
theorem names_ev0 {f g : FW} {a b : W} {S S1 T : Store} {w u : W} (ec : dComp (dRng1 (dVar 1)) (gSet 2) dYes (dCallF f [] (dCons (dVar 0) (dCons (dVar 2) dNil))) [2] [some a, some b, none] S = .ok w S1) (e2 : g [a, w] S1 = .ok u T) : bodyD 3 2 (d__law_names f g) [a, b] S = .ok u T := by
  show bodyR (d__law_names f g [some a, some b, none] S) = _
  unfold d__law_names
  simp only [ap_dSeq, ap_dVar, ap_dC, ap_dOp, ap_dSub, ap_dBool, ap_dTru, ap_dNot, ap_dAnd, ap_dOr, ap_dIf, ap_dNil, ap_dCons, ap_dTup, ap_dLst, ap_dCall, ap_dCallF, ap_dMake, ap_dMethF, ap_dMeth, ap_dFld, ap_dIsi, ap_dSlice, ap_dNoPart, ap_dPart, ap_dNext, ap_dRet, ap_dRetN, ap_dExpr, ap_dBreak, ap_dCont, ap_dIfS, ap_dAsg, ap_gSet, ap_dPar, ap_dPar3, ap_dFor, ap_dSrc, R.bind_ok, R.bind_exc, R.fl_ok, R.fl_exc, List.getElem?_cons_zero, List.getElem?_cons_succ, List.set_cons_zero, List.set_cons_succ, bodyR_nx, bodyR_rt, bodyR_exc, rAdd_int, rSub_int, rOrd_int, gInt_int, List.append_nil, if_true, if_false, Bool.false_eq_true, Bool.not_true, Bool.not_false, rEq_int, rNe_int, ec, e2]
theorem names_ev {a b : W} {S S1 T : Store} {w u : W} (ec : dComp (dRng1 (dVar 1)) (gSet 2) dYes (dCallF f__law_name [] (dCons (dVar 0) (dCons (dVar 2) dNil))) [2] [some a, some b, none] S = .ok w S1) (e2 : f__law_shuffled [a, w] S1 = .ok u T) : f__law_names [a, b] S = .ok u T := names_ev0 ec e2
theorem names_ok {S : Store} {p c b m : Nat} (h : PenAt S p c (b + 11 * m)) (hm : m ≤ 100) : ∃ (zs : List (List Nat)) (ys : List W) (r : Nat) (T : Store), f__law_names [.ref p, .int (m : Int)] S = .ok (.ref r) T ∧ T[r]? = some (.lst ys) ∧ ys.Perm (zs.map fun x => .str (sx x)) ∧ zs.length = m ∧ (∀ (i : Nat) x, zs[i]? = some x → NameOf i x) ∧ PenAt T p c b ∧ Gro p S T ∧ S.length ≤ r := by
  have er : dRng1 (dVar 1) [some (.ref p), some (.int (m : Int)), none] S = .ok ((List.range m).map fun i => .int ((i : Nat) : Int), fun _ => true) S := rng1 rfl (by omega)
  obtain ⟨ws, S1, e1, zs, hz, hws, _, hnm, hP1, hB1⟩ := compL_rule (chk := fun _ => true) (g := gSet 2) (dt := dYes) (de := dCallF f__law_name [] (dCons (dVar 0) (dCons (dVar 2) (dNil)))) (env0 := [some (.ref p), some (.int (m : Int)), none])
    (fun rest acc T => ∃ zs : List (List Nat), rest = (((List.range m).map fun i => W.int ((i : Nat) : Int)).drop zs.length) ∧ acc = zs.map (fun x => .str (sx x)) ∧ zs.length ≤ m ∧ (∀ (i : Nat) x, zs[i]? = some x → NameOf i x) ∧ PenAt T p c (b + m + 10 * (m - zs.length)) ∧ But p S T)
    (fun w rest acc T ⟨zs, hr, ha, hl, hn, hP, hB⟩ => by
      have hlt : zs.length < m := by
        have := congrArg List.length hr
        simp at this
        omega
      rw [List.drop_eq_getElem_cons (by simpa using hlt)] at hr
      injection hr with hw hrest
      simp at hw
      subst hw
      obtain ⟨x, T', e, q1, q2, q3⟩ := name_ok (i := zs.length) (b := b + m + 10 * (m - (zs.length + 1))) (hP.mono (by omega)) (by omega)
      refine ⟨rfl, _, T, rfl, .inr ⟨T, .str (sx x), T', rfl, by simp only [ap_dSeq, ap_dVar, ap_dC, ap_dOp, ap_dSub, ap_dBool, ap_dTru, ap_dNot, ap_dAnd, ap_dOr, ap_dIf, ap_dNil, ap_dCons, ap_dTup, ap_dLst, ap_dCall, ap_dCallF, ap_dMake, ap_dMethF, ap_dMeth, ap_dFld, ap_dIsi, ap_dSlice, ap_dNoPart, ap_dPart, ap_dNext, ap_dRet, ap_dRetN, ap_dExpr, ap_dBreak, ap_dCont, ap_dIfS, ap_dAsg, ap_gSet, ap_dPar, ap_dPar3, ap_dFor, ap_dSrc, R.bind_ok, R.bind_exc, R.fl_ok, R.fl_exc, List.getElem?_cons_zero, List.getElem?_cons_succ, List.set_cons_zero, List.set_cons_succ, bodyR_nx, bodyR_rt, bodyR_exc, rAdd_int, rSub_int, rOrd_int, gInt_int, List.append_nil, if_true, if_false, Bool.false_eq_true, Bool.not_true, Bool.not_false, rEq_int, rNe_int, e], zs ++ [x], ?_, ?_, by simp; omega, fun i y hy => ?_, ?_, hB.trans q3⟩⟩
      · rw [hrest]; simp
      · rw [ha]; simp
      · by_cases hi : i < zs.length
        · rw [List.getElem?_append_left hi] at hy; exact hn i y hy
        · have : i = zs.length := by
            have := (List.getElem?_eq_some_iff.mp hy).1
            simp at this; omega
          subst this
          simp at hy
          subst hy; exact q1
      · simpa using q2)
    (fun acc T _ => rfl) ((List.range m).map fun i => W.int ((i : Nat) : Int)) [] S ⟨[], by simp, rfl, by simp, fun i x hx => by simp at hx, h.mono (by simp; omega), But.refl p S⟩
  have hzl : zs.length = m := by
    have := congrArg List.length hz
    simp at this
    omega
  rw [List.nil_append] at hws
  subst hws
  have sl : (zs.map fun x => W.str (sx x)).length ≤ sizeLine := by rw [List.length_map]; exact small (by omega)
  have a1 : (S1 ++ [Cell.lst (zs.map fun x => W.str (sx x))])[S1.length]? = some (.lst (zs.map fun x => W.str (sx x))) := by simp
  obtain ⟨ys, T, e2, q1, q2, q3, q4, q5⟩ := shuffled_ok (b := b) (p := p) (c := c) (n := S1.length) ((hP1.app [Cell.lst (zs.map fun x => W.str (sx x))]).mono (by simp; omega)) a1 (by simp; omega)
  refine ⟨zs, ys, _, T, ?_, q1, q2, hzl, hnm, q3, ?_, by simp; have := hB1.len; omega⟩
  · exact names_ev (dComp_ok er e1 sl) e2
  · have g1 : Gro p S1 T := (Gro.app p S1 [Cell.lst (zs.map fun x => W.str (sx x))]).trans ⟨by omega, fun i hi hp => q5 i hi hp⟩
    exact hB1.gro.trans g1
end Dn

set_option maxHeartbeats 4000000
/-! the pen is made -/
namespace Dn
open PySem PySem.Spec PyProof.Rows L2
def penB : DS := dSeq (dAsg (dOp rMod (dCall gInt (dCons (dOp rAdd (dOp rMul (dVar 1) (dC (.int 197))) (dVar 2)) (dNil))) (dC (.int 1000000637))) (gSet 1)) (dNext)
theorem penB_ok {S : Store} {w : W} {fo z : Int} : ∃ fo', penB [some w, some (.int fo), some (.int z)] S = .nx [some w, some (.int fo'), some (.int z)] S ∧ 0 ≤ fo' ∧ fo' < 2 ^ 32 := by
  have cm : CMul fo 197 := .inr ⟨by decide, by decide⟩
  have q2 : rIC (fun _ j => j ≠ 0) (fun i j => i.fmod j) (.int (fo * 197 + z)) (.int 1000000637) S = .ok (.int ((fo * 197 + z).fmod 1000000637)) S := rIC_int (C := fun _ j => j ≠ 0) (by decide)
  refine ⟨(fo * 197 + z).fmod 1000000637, ?_, Int.fmod_nonneg_of_pos _ (by decide), Int.lt_trans (Int.fmod_lt_of_pos _ (by decide)) (by decide)⟩
  unfold penB
  simp only [ap_dSeq, ap_dVar, ap_dC, ap_dOp, ap_dSub, ap_dBool, ap_dTru, ap_dNot, ap_dAnd, ap_dOr, ap_dIf, ap_dNil, ap_dCons, ap_dTup, ap_dLst, ap_dCall, ap_dCallF, ap_dMake, ap_dMethF, ap_dMeth, ap_dFld, ap_dIsi, ap_dSlice, ap_dNoPart, ap_dPart, ap_dNext, ap_dRet, ap_dRetN, ap_dExpr, ap_dBreak, ap_dCont, ap_dIfS, ap_dAsg, ap_gSet, ap_dPar, ap_dPar3, ap_dFor, ap_dSrc, R.bind_ok, R.bind_exc, R.fl_ok, R.fl_exc, List.getElem?_cons_zero, List.getElem?_cons_succ, List.set_cons_zero, List.set_cons_succ, bodyR_nx, bodyR_rt, bodyR_exc, rAdd_int, rSub_int, rOrd_int, gInt_int, List.append_nil, if_true, if_false, Bool.false_eq_true, Bool.not_true, Bool.not_false, rEq_int, rNe_int, rMul_int cm, q2]
def penD : DE := dDict [(dC (.str "cells"), dCall gList (dCons (dVar 0) (dNil))), (dC (.str "at"), dC (.int 0)), (dC (.str "digits"), dC (.int 0)), (dC (.str "count"), dC (.int 0)), (dC (.str "fold"), dVar 1)]
theorem penD_ok {S : Store} {w : W} {fo : Int} {x : Option W} {xs : List W} (h : seqW S w = some xs) : penD [some w, some (.int fo), x] S = .ok (.ref (S.length + 1)) (S ++ [.lst xs, .dic (penFs S.length 0 0 0 fo)]) := by
  have e : gList [w] S = .ok (.ref S.length) (S ++ [.lst xs]) := by simp only [gList, h]
  have e2 : dPairs [(dC (.str "cells"), dCall gList (dCons (dVar 0) (dNil))), (dC (.str "at"), dC (.int 0)), (dC (.str "digits"), dC (.int 0)), (dC (.str "count"), dC (.int 0)), (dC (.str "fold"), dVar 1)] [some w, some (.int fo), x] S = .ok [(.str "cells", .ref S.length), (.str "at", .int 0), (.str "digits", .int 0), (.str "count", .int 0), (.str "fold", .int fo)] (S ++ [.lst xs]) := by
    simp only [dPairs]
    simp only [ap_dSeq, ap_dVar, ap_dC, ap_dOp, ap_dSub, ap_dBool, ap_dTru, ap_dNot, ap_dAnd, ap_dOr, ap_dIf, ap_dNil, ap_dCons, ap_dTup, ap_dLst, ap_dCall, ap_dCallF, ap_dMake, ap_dMethF, ap_dMeth, ap_dFld, ap_dIsi, ap_dSlice, ap_dNoPart, ap_dPart, ap_dNext, ap_dRet, ap_dRetN, ap_dExpr, ap_dBreak, ap_dCont, ap_dIfS, ap_dAsg, ap_gSet, ap_dPar, ap_dPar3, ap_dFor, ap_dSrc, R.bind_ok, R.bind_exc, R.fl_ok, R.fl_exc, List.getElem?_cons_zero, List.getElem?_cons_succ, List.set_cons_zero, List.set_cons_succ, bodyR_nx, bodyR_rt, bodyR_exc, rAdd_int, rSub_int, rOrd_int, gInt_int, List.append_nil, if_true, if_false, Bool.false_eq_true, Bool.not_true, Bool.not_false, rEq_int, rNe_int, e]
  unfold penD dDict
  rw [e2, R.bind_ok]
  show R.ok (W.ref (S ++ [Cell.lst xs]).length) ((S ++ [Cell.lst xs]) ++ [.dic (penFs S.length 0 0 0 fo)]) = _
  rw [List.length_append, List.append_assoc]
  rfl
theorem pen_ok {S : Store} {w : W} {ns : List Int} {chk : Store → Bool} (h1 : srcW S w = some (ns.map W.int, chk)) (hc : chk S = true) (h2 : seqW S w = some (ns.map W.int)) (hn : ns.length ≤ 63) :
    ∃ T, f__law_pen [w] S = .ok (.ref (S.length + 1)) T ∧ PenAt T (S.length + 1) S.length (2 ^ 50) ∧ Gro (S.length + 1) S T := by
  have key := forL_rule (chk := chk) (g := gSet 2) (body := penB)
    (fun rest env T => T = S ∧ (∃ ms : List Int, rest = ms.map W.int) ∧ ∃ fo x, env = [some w, some (.int fo), x] ∧ 0 ≤ fo ∧ fo < 2 ^ 32)
    (fun fl => ∃ fo x, fl = .nx [some w, some (.int fo), x] S ∧ 0 ≤ fo ∧ fo < 2 ^ 32)
    (fun u rest env T ⟨hT, ⟨ms, hr⟩, fo, x, e, _, _⟩ => by
      subst hT e
      cases ms with
      | nil => cases hr
      | cons z ms =>
        injection hr with hz hr
        subst hz
        obtain ⟨fo', e, h3, h4⟩ := penB_ok (S := T) (w := w) (fo := fo) (z := z)
        refine ⟨hc, _, T, rfl, ?_⟩
        show (match penB [some w, some (.int fo), some (.int z)] T with | .nx e S2 => _ | .ct e S2 => _ | .bk e S2 => _ | r => _)
        rw [e]
        exact ⟨rfl, ⟨ms, hr⟩, fo', _, rfl, h3, h4⟩)
    (fun env T ⟨hT, _, fo, x, e, h3, h4⟩ => by
      subst hT
      exact ⟨hc, fo, x, by rw [e], h3, h4⟩)
    (ns.map W.int) [some w, some (.int 61), none] S ⟨rfl, ⟨ns, rfl⟩, 61, none, rfl, by decide, by decide⟩
  obtain ⟨fo, x, e, h3, h4⟩ := key
  have e2 := penD_ok (fo := fo) (x := x) h2
  refine ⟨S ++ [.lst (ns.map W.int), .dic (penFs S.length 0 0 0 fo)], ?_, ⟨ns, 0, 0, 0, fo, by simp, by simp, hn, by decide, by decide, by decide, by decide, h3, h4⟩, Gro.app _ _ _⟩
  show bodyR ((dSeq (dAsg (dC (.int 61)) (gSet 1)) (dSeq (dFor (dSrc (dVar 0)) (gSet 2) penB) (dSeq (dRet penD) dNext))) [some w, none, none] S) = _
  rw [seq_nx (env2 := [some w, some (.int 61), none]) (S2 := S), seq_nx (env2 := [some w, some (.int fo), x]) (S2 := S)]
  · simp only [ap_dSeq, ap_dVar, ap_dC, ap_dOp, ap_dSub, ap_dBool, ap_dTru, ap_dNot, ap_dAnd, ap_dOr, ap_dIf, ap_dNil, ap_dCons, ap_dTup, ap_dLst, ap_dCall, ap_dCallF, ap_dMake, ap_dMethF, ap_dMeth, ap_dFld, ap_dIsi, ap_dSlice, ap_dNoPart, ap_dPart, ap_dNext, ap_dRet, ap_dRetN, ap_dExpr, ap_dBreak, ap_dCont, ap_dIfS, ap_dAsg, ap_gSet, ap_dPar, ap_dPar3, ap_dFor, ap_dSrc, R.bind_ok, R.bind_exc, R.fl_ok, R.fl_exc, List.getElem?_cons_zero, List.getElem?_cons_succ, List.set_cons_zero, List.set_cons_succ, bodyR_nx, bodyR_rt, bodyR_exc, rAdd_int, rSub_int, rOrd_int, gInt_int, List.append_nil, if_true, if_false, Bool.false_eq_true, Bool.not_true, Bool.not_false, rEq_int, rNe_int, e2]
  · have e3 : dSrc (dVar 0) [some w, some (.int 61), none] S = .ok (ns.map W.int, chk) S := by simp only [ap_dSeq, ap_dVar, ap_dC, ap_dOp, ap_dSub, ap_dBool, ap_dTru, ap_dNot, ap_dAnd, ap_dOr, ap_dIf, ap_dNil, ap_dCons, ap_dTup, ap_dLst, ap_dCall, ap_dCallF, ap_dMake, ap_dMethF, ap_dMeth, ap_dFld, ap_dIsi, ap_dSlice, ap_dNoPart, ap_dPart, ap_dNext, ap_dRet, ap_dRetN, ap_dExpr, ap_dBreak, ap_dCont, ap_dIfS, ap_dAsg, ap_gSet, ap_dPar, ap_dPar3, ap_dFor, ap_dSrc, R.bind_ok, R.bind_exc, R.fl_ok, R.fl_exc, List.getElem?_cons_zero, List.getElem?_cons_succ, List.set_cons_zero, List.set_cons_succ, bodyR_nx, bodyR_rt, bodyR_exc, rAdd_int, rSub_int, rOrd_int, gInt_int, List.append_nil, if_true, if_false, Bool.false_eq_true, Bool.not_true, Bool.not_false, rEq_int, rNe_int, h1]
    rw [ap_dFor, e3]; exact e
  · rfl
end Dn

set_option maxHeartbeats 4000000
/-! texts: signs, kinds of words -/
namespace Dn
open PySem PySem.Spec PyProof.Rows L2
def isLet (k : Nat) : Bool := decide (97 ≤ k) && decide (k ≤ 122)
def isFig (k : Nat) : Bool := decide (48 ≤ k) && decide (k ≤ 57)
def isRun (k : Nat) : Bool := isLet k || isFig k
theorem mem_abc (k : Nat) : decide (k ∈ ("abcdefghijklmnopqrstuvwxyz" : Str).cps.toList) = isLet k := by
  have e : ("abcdefghijklmnopqrstuvwxyz" : Str).cps.toList = List.range' 97 26 := abc_cps
  rw [e, Bool.eq_iff_iff]
  simp [isLet, List.mem_range'_1]
  omega
theorem mem_fig (k : Nat) : decide (k ∈ ("0123456789" : Str).cps.toList) = isFig k := by
  have e : ("0123456789" : Str).cps.toList = List.range' 48 10 := by decide +kernel
  rw [e, Bool.eq_iff_iff]
  simp [isFig, List.mem_range'_1]
  omega
theorem mem_run (k : Nat) : decide (k ∈ ("abcdefghijklmnopqrstuvwxyz0123456789" : Str).cps.toList) = isRun k := by
  have e : ("abcdefghijklmnopqrstuvwxyz0123456789" : Str).cps.toList = List.range' 97 26 ++ List.range' 48 10 := by decide +kernel
  rw [e, Bool.eq_iff_iff]
  simp [isRun, isLet, isFig, List.mem_range'_1]
  omega
theorem is_run_ok {S : Store} {k : Nat} : f_is_run_sign [.str (sx [k])] S = .ok (.bl (isRun k)) S := by
  show bodyR (d_is_run_sign [some (.str (sx [k]))] S) = _
  unfold d_is_run_sign
  have e1 : rInW false (.str (sx [k])) (.str "abcdefghijklmnopqrstuvwxyz") S = .ok (.bl (isLet k)) S := by rw [in_str, mem_abc]
  have e2 : rInW false (.str (sx [k])) (.str "0123456789") S = .ok (.bl (isFig k)) S := by rw [in_str, mem_fig]
  unfold isRun
  have : dOrV (dOp (rInW false) (dVar 0) (dC (.str "abcdefghijklmnopqrstuvwxyz"))) (dOp (rInW false) (dVar 0) (dC (.str "0123456789"))) [some (.str (sx [k]))] S = .ok (.bl (isLet k || isFig k)) S := by
    unfold dOrV
    simp only [ap_dSeq, ap_dVar, ap_dC, ap_dOp, ap_dSub, ap_dBool, ap_dTru, ap_dNot, ap_dAnd, ap_dOr, ap_dIf, ap_dNil, ap_dCons, ap_dTup, ap_dLst, ap_dCall, ap_dCallF, ap_dMake, ap_dMethF, ap_dMeth, ap_dFld, ap_dIsi, ap_dSlice, ap_dNoPart, ap_dPart, ap_dNext, ap_dRet, ap_dRetN, ap_dExpr, ap_dBreak, ap_dCont, ap_dIfS, ap_dAsg, ap_gSet, ap_dPar, ap_dPar3, ap_dFor, ap_dSrc, R.bind_ok, R.bind_exc, R.fl_ok, R.fl_exc, List.getElem?_cons_zero, List.getElem?_cons_succ, List.set_cons_zero, List.set_cons_succ, bodyR_nx, bodyR_rt, bodyR_exc, rAdd_int, rSub_int, rOrd_int, gInt_int, List.append_nil, if_true, if_false, Bool.false_eq_true, Bool.not_true, Bool.not_false, rEq_int, rNe_int, e1, e2, truW]
    cases isLet k <;> rfl
  simp only [ap_dSeq, ap_dVar, ap_dC, ap_dOp, ap_dSub, ap_dBool, ap_dTru, ap_dNot, ap_dAnd, ap_dOr, ap_dIf, ap_dNil, ap_dCons, ap_dTup, ap_dLst, ap_dCall, ap_dCallF, ap_dMake, ap_dMethF, ap_dMeth, ap_dFld, ap_dIsi, ap_dSlice, ap_dNoPart, ap_dPart, ap_dNext, ap_dRet, ap_dRetN, ap_dExpr, ap_dBreak, ap_dCont, ap_dIfS, ap_dAsg, ap_gSet, ap_dPar, ap_dPar3, ap_dFor, ap_dSrc, R.bind_ok, R.bind_exc, R.fl_ok, R.fl_exc, List.getElem?_cons_zero, List.getElem?_cons_succ, List.set_cons_zero, List.set_cons_succ, bodyR_nx, bodyR_rt, bodyR_exc, rAdd_int, rSub_int, rOrd_int, gInt_int, List.append_nil, if_true, if_false, Bool.false_eq_true, Bool.not_true, Bool.not_false, rEq_int, rNe_int, this]
/-! the first part of a split -/
theorem spl_first (c : Nat) : ∀ (l acc : List Nat), ∃ r, TL.spl [c] 0 acc l = (acc ++ l.takeWhile (· != c)) :: r
  | [], acc => ⟨[], by rw [TL.spl_nil]; simp⟩
  | d :: l, acc => by
    by_cases h : d = c
    · subst h
      refine ⟨TL.spl [d] 0 [] l, ?_⟩
      rw [TL.spl_hit (by simp [TL.pre])]
      simp
    · obtain ⟨r, e⟩ := spl_first c l (acc ++ [d])
      refine ⟨r, ?_⟩
      rw [TL.spl_miss (by simp [TL.pre]; exact h), e]
      have : (d != c) = true := by simpa using h
      simp [List.takeWhile_cons, this]
theorem split_nl {S : Store} {l : List Nat} (h : l.length ≤ 1000000) : ∃ r, gSplit (.str (sx l)) [.str "\n"] S = .ok (.ref S.length) (S ++ [.lst (.str (sx (l.takeWhile (· != 10))) :: r)]) := by
  obtain ⟨r, e⟩ := spl_first 10 l []
  have e2 : Txt.split (sx l) ("\n" : Str) = (TL.spl [10] 0 [] l).map sx := SX.split_S (a := l) (b := [10]) (by simp) (by decide)
  rw [e, List.nil_append] at e2
  have z : (("\n" : Str).length == 0) = false := by decide +kernel
  have z2 : (sx l).length + 2 ≤ sizeLine := by rw [sx_len]; exact Nat.le_trans (Nat.add_le_add_right h 2) (by decide)
  refine ⟨(r.map sx).map W.str, ?_⟩
  show (if (("\n" : Str).length == 0) = false ∧ (sx l).length + 2 ≤ sizeLine then R.ok (W.ref S.length) (S ++ [.lst ((Txt.split (sx l) ("\n" : Str)).map W.str)]) else .bad) = _
  rw [if_pos ⟨z, z2⟩, e2]
  rfl
/-! kinds of words -/
def keyStrs : List Str := ["yard", "lock", "thing", "routine", "kind", "hold", "shared", "read", "write", "mark", "call", "either", "or", "loop"]
def isKey (w : List Nat) : Bool := keyStrs.any fun y => y == sx w
def kindW (w : List Nat) : W := if isKey w = true then .str "key" else if (isLet (w.headD 0) && decide (w.length ≤ 12)) = true then .str "name" else .non
theorem kindW_key {w : List Nat} (h : isKey w = true) : kindW w = .str "key" := if_pos h
theorem kindW_name {w : List Nat} (h : isKey w = false) (h1 : isLet (w.headD 0) = true) (h2 : w.length ≤ 12) : kindW w = .str "name" := by
  unfold kindW
  rw [h, if_neg Bool.false_ne_true, h1, decide_eq_true h2]; rfl
theorem kindW_non {w : List Nat} (h : isKey w = false) (h1 : isLet (w.headD 0) = false ∨ ¬ w.length ≤ 12) : kindW w = .non := by
  unfold kindW
  rw [h, if_neg Bool.false_ne_true]
  rcases h1 with h1 | h1
  · rw [h1]; rfl
  · rw [decide_eq_false h1, Bool.and_false]; rfl
theorem in_tup {S : Store} {w : Str} {ys : List Str} : rInW false (.str w) (.tup (ys.map W.str)) S = .ok (.bl (ys.any fun y => y == w)) S := by
  have e : flats (ys.map W.str) = some (ys.map V.str) := by
    induction ys with
    | nil => rfl
    | cons y ys ih =>
      show (match flatW (.str y), flats (ys.map W.str) with | some v, some vs => some (v :: vs) | _, _ => none) = _
      rw [ih]; rfl
  have e2 : inV (.str w) (ys.map V.str) = ys.any fun y => y == w := by
    unfold inV
    rw [List.any_map]; rfl
  show (match flatW (.str w), flats (ys.map W.str) with | some v, some vs => R.ok (W.bl (if false then !inV v vs else inV v vs)) S | _, _ => .bad) = _
  rw [e]
  show R.ok (W.bl (inV (.str w) (ys.map V.str))) S = _
  rw [e2]
theorem in_lst {S : Store} {n : Nat} {w : Str} {ys : List Str} (h : S[n]? = some (.lst (ys.map W.str))) : rInW false (.str w) (.ref n) S = .ok (.bl (ys.any fun y => y == w)) S := by
  have e : flats (ys.map W.str) = some (ys.map V.str) := by
    clear h
    induction ys with
    | nil => rfl
    | cons y ys ih =>
      show (match flatW (.str y), flats (ys.map W.str) with | some v, some vs => some (v :: vs) | _, _ => none) = _
      rw [ih]; rfl
  have e2 : inV (.str w) (ys.map V.str) = ys.any fun y => y == w := by
    unfold inV
    rw [List.any_map]; rfl
  simp only [rInW, h, flatW, e, e2]
  rfl
theorem kind_of_ok {S : Store} {w : List Nat} (h0 : w ≠ []) (hl : w.length ≤ 1000000) : f_kind_of [.str (sx w)] S = .ok (kindW w) S := by
  show bodyR (d_kind_of [some (.str (sx w))] S) = _
  unfold d_kind_of
  have e1 : rInW false (.str (sx w)) (.tup [(.str "yard"), (.str "lock"), (.str "thing"), (.str "routine"), (.str "kind"), (.str "hold"), (.str "shared"), (.str "read"), (.str "write"), (.str "mark"), (.str "call"), (.str "either"), (.str "or"), (.str "loop")]) S = .ok (.bl (isKey w)) S := in_tup (ys := keyStrs)
  obtain ⟨k, l, rfl⟩ : ∃ k l, w = k :: l := by cases w with | nil => exact absurd rfl h0 | cons k l => exact ⟨k, l, rfl⟩
  have hz : (sx (k :: l)).length ≤ sizeLine := by rw [sx_len]; exact small hl
  have e2 : subW (.str (sx (k :: l))) (.int 0) S = .ok (.str (sx [k])) S := ix_str (i := 0) hz (by rw [sx_cps]; rfl)
  have e3 : rInW false (.str (sx [k])) (.str "abcdefghijklmnopqrstuvwxyz") S = .ok (.bl (isLet k)) S := by rw [in_str, mem_abc]
  have e4 : gLen [.str (sx (k :: l))] S = .ok (.int ((k :: l).length : Int)) S := by rw [len_str hz, sx_len]
  have e5 : decide (((k :: l).length : Int) ≤ 12) = decide ((k :: l).length ≤ 12) := by rw [Bool.eq_iff_iff]; simp; omega
  cases h1 : isKey (k :: l) with
  | true =>
    rw [h1] at e1
    rw [kindW_key h1]
    simp only [ap_dSeq, ap_dVar, ap_dC, ap_dOp, ap_dSub, ap_dBool, ap_dTru, ap_dNot, ap_dAnd, ap_dOr, ap_dIf, ap_dNil, ap_dCons, ap_dTup, ap_dLst, ap_dCall, ap_dCallF, ap_dMake, ap_dMethF, ap_dMeth, ap_dFld, ap_dIsi, ap_dSlice, ap_dNoPart, ap_dPart, ap_dNext, ap_dRet, ap_dRetN, ap_dExpr, ap_dBreak, ap_dCont, ap_dIfS, ap_dAsg, ap_gSet, ap_dPar, ap_dPar3, ap_dFor, ap_dSrc, R.bind_ok, R.bind_exc, R.fl_ok, R.fl_exc, List.getElem?_cons_zero, List.getElem?_cons_succ, List.set_cons_zero, List.set_cons_succ, bodyR_nx, bodyR_rt, bodyR_exc, rAdd_int, rSub_int, rOrd_int, gInt_int, List.append_nil, if_true, if_false, Bool.false_eq_true, Bool.not_true, Bool.not_false, rEq_int, rNe_int, e1]
  | false =>
    rw [h1] at e1
    by_cases h2 : isLet k = true
    · rw [h2] at e3
      by_cases q : (k :: l).length ≤ 12
      · have q2 : decide (((k :: l).length : Int) ≤ 12) = true := by rw [e5]; exact decide_eq_true q
        rw [kindW_name h1 h2 q]
        simp only [ap_dSeq, ap_dVar, ap_dC, ap_dOp, ap_dSub, ap_dBool, ap_dTru, ap_dNot, ap_dAnd, ap_dOr, ap_dIf, ap_dNil, ap_dCons, ap_dTup, ap_dLst, ap_dCall, ap_dCallF, ap_dMake, ap_dMethF, ap_dMeth, ap_dFld, ap_dIsi, ap_dSlice, ap_dNoPart, ap_dPart, ap_dNext, ap_dRet, ap_dRetN, ap_dExpr, ap_dBreak, ap_dCont, ap_dIfS, ap_dAsg, ap_gSet, ap_dPar, ap_dPar3, ap_dFor, ap_dSrc, R.bind_ok, R.bind_exc, R.fl_ok, R.fl_exc, List.getElem?_cons_zero, List.getElem?_cons_succ, List.set_cons_zero, List.set_cons_succ, bodyR_nx, bodyR_rt, bodyR_exc, rAdd_int, rSub_int, rOrd_int, gInt_int, List.append_nil, if_true, if_false, Bool.false_eq_true, Bool.not_true, Bool.not_false, rEq_int, rNe_int, e1, e2, e3, e4, q2]
      · have q2 : decide (((k :: l).length : Int) ≤ 12) = false := by rw [e5]; exact decide_eq_false q
        rw [kindW_non h1 (.inr q)]
        simp only [ap_dSeq, ap_dVar, ap_dC, ap_dOp, ap_dSub, ap_dBool, ap_dTru, ap_dNot, ap_dAnd, ap_dOr, ap_dIf, ap_dNil, ap_dCons, ap_dTup, ap_dLst, ap_dCall, ap_dCallF, ap_dMake, ap_dMethF, ap_dMeth, ap_dFld, ap_dIsi, ap_dSlice, ap_dNoPart, ap_dPart, ap_dNext, ap_dRet, ap_dRetN, ap_dExpr, ap_dBreak, ap_dCont, ap_dIfS, ap_dAsg, ap_gSet, ap_dPar, ap_dPar3, ap_dFor, ap_dSrc, R.bind_ok, R.bind_exc, R.fl_ok, R.fl_exc, List.getElem?_cons_zero, List.getElem?_cons_succ, List.set_cons_zero, List.set_cons_succ, bodyR_nx, bodyR_rt, bodyR_exc, rAdd_int, rSub_int, rOrd_int, gInt_int, List.append_nil, if_true, if_false, Bool.false_eq_true, Bool.not_true, Bool.not_false, rEq_int, rNe_int, e1, e2, e3, e4, q2]
    · have h3 : isLet k = false := by simpa using h2
      rw [h3] at e3
      rw [kindW_non h1 (.inl h3)]
      simp only [ap_dSeq, ap_dVar, ap_dC, ap_dOp, ap_dSub, ap_dBool, ap_dTru, ap_dNot, ap_dAnd, ap_dOr, ap_dIf, ap_dNil, ap_dCons, ap_dTup, ap_dLst, ap_dCall, ap_dCallF, ap_dMake, ap_dMethF, ap_dMeth, ap_dFld, ap_dIsi, ap_dSlice, ap_dNoPart, ap_dPart, ap_dNext, ap_dRet, ap_dRetN, ap_dExpr, ap_dBreak, ap_dCont, ap_dIfS, ap_dAsg, ap_gSet, ap_dPar, ap_dPar3, ap_dFor, ap_dSrc, R.bind_ok, R.bind_exc, R.fl_ok, R.fl_exc, List.getElem?_cons_zero, List.getElem?_cons_succ, List.set_cons_zero, List.set_cons_succ, bodyR_nx, bodyR_rt, bodyR_exc, rAdd_int, rSub_int, rOrd_int, gInt_int, List.append_nil, if_true, if_false, Bool.false_eq_true, Bool.not_true, Bool.not_false, rEq_int, rNe_int, e1, e2, e3]
end Dn

set_option maxHeartbeats 4000000
/-! the scanner -/
namespace Dn
open PySem PySem.Spec PyProof.Rows L2
def scn (t : List Nat) (a l c : Nat) : Cell := .ins "Scanner" [("text", .str (sx t)), ("at", .int (a : Int)), ("line", .int (l : Int)), ("column", .int (c : Int))]
section
variable {S : Store} {n : Nat} {t : List Nat} {a l c : Nat}
theorem insW_at {k : Str} {fs : List (Str × W)} (h : S[n]? = some (.ins k fs)) : insW S (.ref n) = some (n, k, fs) := by simp only [insW, h]
theorem fld_at {k f : Str} {fs : List (Str × W)} {ks : List Str} {w : W} (h : S[n]? = some (.ins k fs)) (hk : k ∈ ks) (hf : fs.lookup f = some w) : fldW ks f S (.ref n) = .ok w S := by
  simp only [fldW, insW_at h, if_pos hk, hf]
theorem put_at {k f : Str} {fs fs' : List (Str × W)} {ks : List Str} {w : W} (h : S[n]? = some (.ins k fs)) (hk : k ∈ ks) (hl : fs.length < 1000) (e : putW f w fs = fs') : fldPut ks f S (.ref n) w = .ok () (S.set n (.ins k fs')) := by
  simp only [fldPut, insW_at h, if_pos (And.intro hk hl), e]
theorem mem1 {k : Str} : k ∈ [k] := List.mem_singleton.mpr rfl
theorem s_text (h : S[n]? = some (scn t a l c)) : fldW ["Scanner"] "text" S (.ref n) = .ok (.str (sx t)) S := fld_at h mem1 rfl
theorem s_at (h : S[n]? = some (scn t a l c)) : fldW ["Scanner"] "at" S (.ref n) = .ok (.int (a : Int)) S := fld_at h mem1 rfl
theorem s_line (h : S[n]? = some (scn t a l c)) : fldW ["Scanner"] "line" S (.ref n) = .ok (.int (l : Int)) S := fld_at h mem1 rfl
theorem s_column (h : S[n]? = some (scn t a l c)) : fldW ["Scanner"] "column" S (.ref n) = .ok (.int (c : Int)) S := fld_at h mem1 rfl
theorem p_at (h : S[n]? = some (scn t a l c)) (x : Nat) : fldPut ["Scanner"] "at" S (.ref n) (.int (x : Int)) = .ok () (S.set n (scn t x l c)) := put_at h mem1 (by simp) rfl
theorem p_line (h : S[n]? = some (scn t a l c)) (x : Nat) : fldPut ["Scanner"] "line" S (.ref n) (.int (x : Int)) = .ok () (S.set n (scn t a x c)) := put_at h mem1 (by simp) rfl
theorem p_column (h : S[n]? = some (scn t a l c)) (x : Nat) : fldPut ["Scanner"] "column" S (.ref n) (.int (x : Int)) = .ok () (S.set n (scn t a l x)) := put_at h mem1 (by simp) rfl
theorem metO_at {k m : Str} {fs : List (Str × W)} (h : S[n]? = some (.ins k fs)) (hf : fs.lookup m = none) : metO k m S (.ref n) = true := by
  simp only [metO, h, hf]
  simp
theorem add_at {ks : List Str} {f k : Str} {fs fs' : List (Str × W)} {d dv : DE} {env : Env} {x y : Int} (e1 : d env S = .ok (.ref n) S) (e2 : dv env S = .ok (.int y) S) (h : S[n]? = some (.ins k fs)) (hk : k ∈ ks) (hf : fs.lookup f = some (.int x)) (hl : fs.length < 1000) (hp : putW f (.int (x + y)) fs = fs') :
    dFldAdd ks f d dv env S = .nx env (S.set n (.ins k fs')) := by
  unfold dFldAdd
  simp only [e1, R.fl_ok, fld_at h hk hf, e2, addII, put_at h hk hl hp]
  simp
theorem skip_ok {m : Nat} (h : S[n]? = some (scn t a l c)) : m_Scanner_skip [.ref n, .int (m : Int)] S = .ok .non (S.set n (scn t (a + m) l (c + m))) := by
  show bodyR (d_Scanner_skip [some (.ref n), some (.int (m : Int))] S) = _
  unfold d_Scanner_skip
  have h1 : (S.set n (scn t (a + m) l c))[n]? = some (scn t (a + m) l c) := set_at h
  have e1 : dFldAdd ["Scanner"] "at" (dVar 0) (dVar 1) [some (.ref n), some (.int (m : Int))] S = .nx [some (.ref n), some (.int (m : Int))] (S.set n (scn t (a + m) l c)) := add_at (x := (a : Int)) (y := (m : Int)) rfl rfl h mem1 rfl (by simp) (by rw [show ((a : Int) + (m : Int)) = ((a + m : Nat) : Int) by omega]; rfl)
  have e2 : dFldAdd ["Scanner"] "column" (dVar 0) (dVar 1) [some (.ref n), some (.int (m : Int))] (S.set n (scn t (a + m) l c)) = .nx [some (.ref n), some (.int (m : Int))] ((S.set n (scn t (a + m) l c)).set n (scn t (a + m) l (c + m))) := add_at (x := (c : Int)) (y := (m : Int)) rfl rfl h1 mem1 rfl (by simp) (by rw [show ((c : Int) + (m : Int)) = ((c + m : Nat) : Int) by omega]; rfl)
  simp only [ap_dSeq, ap_dVar, ap_dC, ap_dOp, ap_dSub, ap_dBool, ap_dTru, ap_dNot, ap_dAnd, ap_dOr, ap_dIf, ap_dNil, ap_dCons, ap_dTup, ap_dLst, ap_dCall, ap_dCallF, ap_dMake, ap_dMethF, ap_dMeth, ap_dFld, ap_dIsi, ap_dSlice, ap_dNoPart, ap_dPart, ap_dNext, ap_dRet, ap_dRetN, ap_dExpr, ap_dBreak, ap_dCont, ap_dIfS, ap_dAsg, ap_gSet, ap_dPar, ap_dPar3, ap_dFor, ap_dSrc, R.bind_ok, R.bind_exc, R.fl_ok, R.fl_exc, List.getElem?_cons_zero, List.getElem?_cons_succ, List.set_cons_zero, List.set_cons_succ, bodyR_nx, bodyR_rt, bodyR_exc, rAdd_int, rSub_int, rOrd_int, gInt_int, List.append_nil, if_true, if_false, Bool.false_eq_true, Bool.not_true, Bool.not_false, rEq_int, rNe_int, e1, e2, List.set_set]
theorem over_ok (h : S[n]? = some (scn t a l c)) (hl : t.length ≤ 1000000) : m_Scanner_is_over [.ref n] S = .ok (.bl (decide (a = t.length))) S := by
  show bodyR (d_Scanner_is_over [some (.ref n)] S) = _
  unfold d_Scanner_is_over
  have e1 : gLen [.str (sx t)] S = .ok (.int (t.length : Int)) S := by rw [len_str (by rw [sx_len]; exact small hl), sx_len]
  have e2 : decide ((a : Int) = (t.length : Int)) = decide (a = t.length) := decide_eq_decide.mpr (by omega)
  simp only [ap_dSeq, ap_dVar, ap_dC, ap_dOp, ap_dSub, ap_dBool, ap_dTru, ap_dNot, ap_dAnd, ap_dOr, ap_dIf, ap_dNil, ap_dCons, ap_dTup, ap_dLst, ap_dCall, ap_dCallF, ap_dMake, ap_dMethF, ap_dMeth, ap_dFld, ap_dIsi, ap_dSlice, ap_dNoPart, ap_dPart, ap_dNext, ap_dRet, ap_dRetN, ap_dExpr, ap_dBreak, ap_dCont, ap_dIfS, ap_dAsg, ap_gSet, ap_dPar, ap_dPar3, ap_dFor, ap_dSrc, R.bind_ok, R.bind_exc, R.fl_ok, R.fl_exc, List.getElem?_cons_zero, List.getElem?_cons_succ, List.set_cons_zero, List.set_cons_succ, bodyR_nx, bodyR_rt, bodyR_exc, rAdd_int, rSub_int, rOrd_int, gInt_int, List.append_nil, if_true, if_false, Bool.false_eq_true, Bool.not_true, Bool.not_false, rEq_int, rNe_int, s_at h, s_text h, e1, e2]
end
def restLen (t : List Nat) (a : Nat) : Nat := ((t.drop a).takeWhile (· != 10)).length
def isGap (k : Nat) : Bool := decide (k = 10) || (decide (k = 32) || decide (k = 35))
theorem gTup_ok {gs : List DG} {ws : List W} {env env' : Env} {S S' : Store} (h : ws.length = gs.length) (e : gEach gs ws env S = .ok env' S') : gTupW gs (.tup ws) env S = .ok env' S' := by
  unfold gTupW unpW
  simp only [if_pos h, e]
theorem gEach_step {g : DG} {gs : List DG} {w : W} {ws : List W} {env env1 : Env} {S S1 : Store} (e : g w env S = .ok env1 S1) : gEach (g :: gs) (w :: ws) env S = gEach gs ws env1 S1 := by
  show (g w env S).bind _ = _
  rw [e]; rfl
theorem gFld_ok {ks : List Str} {f : Str} {d : DE} {w o : W} {u : Unit} {env : Env} {S S1 S2 : Store} (e1 : d env S = .ok o S1) (e2 : fldPut ks f S1 o w = .ok u S2) : gFld ks f d w env S = .ok env S2 := by
  unfold gFld
  simp only [e1, e2]
/-- where a gap leads -/
def gapTo (t : List Nat) (k a l c : Nat) : Nat × Nat × Nat := if k = 10 then (a + 1, l + 1, 1) else if k = 32 then (a + 1, l, c + 1) else (a + restLen t a, l, c + restLen t a)
def gapA : DS := dSeq (dAsg (dTup (dCons (dOp rAdd (dFld ["Scanner"] "at" (dVar 0)) (dC (.int 1))) (dCons (dOp rAdd (dFld ["Scanner"] "line" (dVar 0)) (dC (.int 1))) (dCons (dC (.int 1)) (dNil))))) (gTupW [gFld ["Scanner"] "at" (dVar 0), gFld ["Scanner"] "line" (dVar 0), gFld ["Scanner"] "column" (dVar 0)])) (dNext)
def gapC (m_Scanner_skip : FW) : DS := dSeq (dExpr (dMethF "Scanner" "skip" m_Scanner_skip (dVar 0) (dCons (dCall gLen (dCons (dSub (dMeth "str" gSplit (dSlice (dFld ["Scanner"] "text" (dVar 0)) (dPart (dFld ["Scanner"] "at" (dVar 0))) (dNoPart)) (dCons (dC (.str "\n")) (dNil))) (dC (.int 0))) (dNil))) (dNil)))) (dNext)
section
variable {S : Store} {n : Nat} {t : List Nat} {a l c : Nat}
theorem gapA_ok {x : Option W} (h : S[n]? = some (scn t a l c)) : gapA [some (.ref n), x] S = .nx [some (.ref n), x] (S.set n (scn t (a + 1) (l + 1) 1)) := by
  have h1 : (S.set n (scn t (a + 1) l c))[n]? = some (scn t (a + 1) l c) := set_at h
  have h2 : (S.set n (scn t (a + 1) (l + 1) c))[n]? = some (scn t (a + 1) (l + 1) c) := set_at h
  have e1 : dTup (dCons (dOp rAdd (dFld ["Scanner"] "at" (dVar 0)) (dC (.int 1))) (dCons (dOp rAdd (dFld ["Scanner"] "line" (dVar 0)) (dC (.int 1))) (dCons (dC (.int 1)) (dNil)))) [some (.ref n), x] S = .ok (.tup [.int ((a + 1 : Nat) : Int), .int ((l + 1 : Nat) : Int), .int ((1 : Nat) : Int)]) S := by
    simp only [ap_dSeq, ap_dVar, ap_dC, ap_dOp, ap_dSub, ap_dBool, ap_dTru, ap_dNot, ap_dAnd, ap_dOr, ap_dIf, ap_dNil, ap_dCons, ap_dTup, ap_dLst, ap_dCall, ap_dCallF, ap_dMake, ap_dMethF, ap_dMeth, ap_dFld, ap_dIsi, ap_dSlice, ap_dNoPart, ap_dPart, ap_dNext, ap_dRet, ap_dRetN, ap_dExpr, ap_dBreak, ap_dCont, ap_dIfS, ap_dAsg, ap_gSet, ap_dPar, ap_dPar3, ap_dFor, ap_dSrc, R.bind_ok, R.bind_exc, R.fl_ok, R.fl_exc, List.getElem?_cons_zero, List.getElem?_cons_succ, List.set_cons_zero, List.set_cons_succ, bodyR_nx, bodyR_rt, bodyR_exc, rAdd_int, rSub_int, rOrd_int, gInt_int, List.append_nil, if_true, if_false, Bool.false_eq_true, Bool.not_true, Bool.not_false, rEq_int, rNe_int, s_at h, s_line h]
    rw [if_pos (small (by simp))]
    rfl
  have e2 : gTupW [gFld ["Scanner"] "at" (dVar 0), gFld ["Scanner"] "line" (dVar 0), gFld ["Scanner"] "column" (dVar 0)] (.tup [.int ((a + 1 : Nat) : Int), .int ((l + 1 : Nat) : Int), .int ((1 : Nat) : Int)]) [some (.ref n), x] S = .ok [some (.ref n), x] (S.set n (scn t (a + 1) (l + 1) 1)) := by
    refine gTup_ok rfl ?_
    rw [gEach_step (gFld_ok (o := .ref n) (S1 := S) rfl (p_at h (a + 1))), gEach_step (gFld_ok (o := .ref n) rfl (p_line h1 (l + 1))), List.set_set, gEach_step (gFld_ok (o := .ref n) rfl (p_column h2 1)), List.set_set]
    rfl
  unfold gapA
  rw [ap_dSeq, ap_dAsg, e1, R.fl_ok, e2]
  rfl
theorem skip_meth (h : S[n]? = some (scn t a l c)) : metO "Scanner" "skip" S (.ref n) = true := metO_at h rfl
theorem gapC_ok {x : Option W} (h : S[n]? = some (scn t a l c)) (hl : t.length ≤ 1000000) : ∃ T, gapC m_Scanner_skip [some (.ref n), x] S = .nx [some (.ref n), x] T ∧ T[n]? = some (scn t (a + restLen t a) l (c + restLen t a)) ∧ Gro n S T := by
  have hd : (t.drop a).length ≤ 1000000 := by rw [List.length_drop]; omega
  have e1 : sliceW (.str (sx t)) (some (a : Int)) none S = .ok (.str (sx (t.drop a))) S := by rw [slice_str (by rw [sx_len]; exact small hl), cut_hi]
  obtain ⟨r, e2⟩ := split_nl (S := S) hd
  have hn : n < S.length := (List.getElem?_eq_some_iff.mp h).1
  have h1 : (S ++ [Cell.lst (.str (sx ((t.drop a).takeWhile (· != 10))) :: r)])[S.length]? = some (.lst (.str (sx ((t.drop a).takeWhile (· != 10))) :: r)) := by simp
  have e3 : subW (.ref S.length) (.int 0) (S ++ [Cell.lst (.str (sx ((t.drop a).takeWhile (· != 10))) :: r)]) = .ok (.str (sx ((t.drop a).takeWhile (· != 10)))) (S ++ [Cell.lst (.str (sx ((t.drop a).takeWhile (· != 10))) :: r)]) := sub_lst (i := 0) h1 rfl
  have hr : ((t.drop a).takeWhile (· != 10)).length ≤ 1000000 := Nat.le_trans (List.takeWhile_sublist _).length_le hd
  have e4 : ∀ T, gLen [.str (sx ((t.drop a).takeWhile (· != 10)))] T = .ok (.int (restLen t a : Int)) T := fun T => by rw [len_str (by rw [sx_len]; exact small hr), sx_len]; rfl
  have h2 : (S ++ [Cell.lst (.str (sx ((t.drop a).takeWhile (· != 10))) :: r)])[n]? = some (scn t a l c) := by rw [List.getElem?_append_left hn]; exact h
  have e5 := skip_ok (m := restLen t a) h2
  have ht : hasT "str" S (.str (sx (t.drop a))) = true := rfl
  refine ⟨_, ?_, set_at h2, (Gro.app n S _).trans (But.set n _ _).gro⟩
  unfold gapC
  simp only [ap_dSeq, ap_dVar, ap_dC, ap_dOp, ap_dSub, ap_dBool, ap_dTru, ap_dNot, ap_dAnd, ap_dOr, ap_dIf, ap_dNil, ap_dCons, ap_dTup, ap_dLst, ap_dCall, ap_dCallF, ap_dMake, ap_dMethF, ap_dMeth, ap_dFld, ap_dIsi, ap_dSlice, ap_dNoPart, ap_dPart, ap_dNext, ap_dRet, ap_dRetN, ap_dExpr, ap_dBreak, ap_dCont, ap_dIfS, ap_dAsg, ap_gSet, ap_dPar, ap_dPar3, ap_dFor, ap_dSrc, R.bind_ok, R.bind_exc, R.fl_ok, R.fl_exc, List.getElem?_cons_zero, List.getElem?_cons_succ, List.set_cons_zero, List.set_cons_succ, bodyR_nx, bodyR_rt, bodyR_exc, rAdd_int, rSub_int, rOrd_int, gInt_int, List.append_nil, if_true, if_false, Bool.false_eq_true, Bool.not_true, Bool.not_false, rEq_int, rNe_int, skip_meth h, s_text h, s_at h, e1, ht, e2, e3, e4, List.cons_append, List.nil_append, e5]
theorem gap_meth (h : S[n]? = some (scn t a l c)) : metO "Scanner" "pass_gap" S (.ref n) = true := metO_at h rfl
theorem is_chr {j : Nat} {x : Str} {m : Nat} (hx : x.cps.toList = [m]) : rEqW false (.str (sx [j])) (.str x) S = .ok (.bl (decide (j = m))) S := by
  rw [eq_str]
  have : x = sx [m] := by rw [sx_of x, hx]
  rw [this]
  have : decide (sx [j] = sx [m]) = decide (j = m) := decide_eq_decide.mpr (by rw [sx_inj]; simp)
  rw [this]
theorem gap_ok {k : Nat} (h : S[n]? = some (scn t a l c)) (hl : t.length ≤ 1000000) (hk : t[a]? = some k) : ∃ T, m_Scanner_pass_gap [.ref n] S = .ok (.bl (isGap k)) T ∧ (isGap k = true → T[n]? = some (scn t (gapTo t k a l c).1 (gapTo t k a l c).2.1 (gapTo t k a l c).2.2)) ∧ (isGap k = false → T = S) ∧ Gro n S T := by
  have e0 : subW (.str (sx t)) (.int (a : Int)) S = .ok (.str (sx [k])) S := ix_str (by rw [sx_len]; exact small hl) (by rw [sx_cps]; exact hk)
  have st : m_Scanner_pass_gap [.ref n] S = bodyR (dSeq (dIfS (dBool (dOp (rEqW false) (dVar 1) (dC (.str "\n")))) gapA (dSeq (dIfS (dBool (dOp (rEqW false) (dVar 1) (dC (.str " ")))) (dSeq (dExpr (dMethF "Scanner" "skip" m_Scanner_skip (dVar 0) (dCons (dC (.int 1)) (dNil)))) (dNext)) (dSeq (dIfS (dBool (dOp (rEqW false) (dVar 1) (dC (.str "#")))) (gapC m_Scanner_skip) (dNext)) (dNext))) (dNext))) (dSeq (dRet (dOp (rInW false) (dVar 1) (dC (.str "\n #")))) (dNext)) [some (.ref n), some (.str (sx [k]))] S) := by
    show bodyR (d_Scanner_pass_gap m_Scanner_skip [some (.ref n), none] S) = _
    unfold d_Scanner_pass_gap
    rw [seq_nx (env2 := [some (.ref n), some (.str (sx [k]))]) (S2 := S)]
    · rfl
    · simp only [ap_dSeq, ap_dVar, ap_dC, ap_dOp, ap_dSub, ap_dBool, ap_dTru, ap_dNot, ap_dAnd, ap_dOr, ap_dIf, ap_dNil, ap_dCons, ap_dTup, ap_dLst, ap_dCall, ap_dCallF, ap_dMake, ap_dMethF, ap_dMeth, ap_dFld, ap_dIsi, ap_dSlice, ap_dNoPart, ap_dPart, ap_dNext, ap_dRet, ap_dRetN, ap_dExpr, ap_dBreak, ap_dCont, ap_dIfS, ap_dAsg, ap_gSet, ap_dPar, ap_dPar3, ap_dFor, ap_dSrc, R.bind_ok, R.bind_exc, R.fl_ok, R.fl_exc, List.getElem?_cons_zero, List.getElem?_cons_succ, List.set_cons_zero, List.set_cons_succ, bodyR_nx, bodyR_rt, bodyR_exc, rAdd_int, rSub_int, rOrd_int, gInt_int, List.append_nil, if_true, if_false, Bool.false_eq_true, Bool.not_true, Bool.not_false, rEq_int, rNe_int, s_text h, s_at h, e0]
  have t1 : ∀ T, rEqW false (.str (sx [k])) (.str "\n") T = .ok (.bl (decide (k = 10))) T := fun T => is_chr (by decide +kernel)
  have t2 : ∀ T, rEqW false (.str (sx [k])) (.str " ") T = .ok (.bl (decide (k = 32))) T := fun T => is_chr (by decide +kernel)
  have t3 : ∀ T, rEqW false (.str (sx [k])) (.str "#") T = .ok (.bl (decide (k = 35))) T := fun T => is_chr (by decide +kernel)
  have t4 : ∀ T, rInW false (.str (sx [k])) (.str "\n #") T = .ok (.bl (isGap k)) T := fun T => by
    rw [in_str]
    have e : ("\n #" : Str).cps.toList = [10, 32, 35] := by decide +kernel
    rw [e]
    have : decide (k ∈ [10, 32, 35]) = isGap k := by
      unfold isGap
      rw [Bool.eq_iff_iff]; simp
    rw [this]
  rw [st]
  by_cases k1 : k = 10
  · subst k1
    refine ⟨_, ?_, fun _ => set_at (S := S) (x := scn t (a + 1) (l + 1) 1) h, fun z => (by cases z), (But.set n S (scn t (a + 1) (l + 1) 1)).gro⟩
    have q := t1 S
    rw [decide_eq_true (show (10 : Nat) = 10 from rfl)] at q
    simp only [ap_dSeq, ap_dVar, ap_dC, ap_dOp, ap_dSub, ap_dBool, ap_dTru, ap_dNot, ap_dAnd, ap_dOr, ap_dIf, ap_dNil, ap_dCons, ap_dTup, ap_dLst, ap_dCall, ap_dCallF, ap_dMake, ap_dMethF, ap_dMeth, ap_dFld, ap_dIsi, ap_dSlice, ap_dNoPart, ap_dPart, ap_dNext, ap_dRet, ap_dRetN, ap_dExpr, ap_dBreak, ap_dCont, ap_dIfS, ap_dAsg, ap_gSet, ap_dPar, ap_dPar3, ap_dFor, ap_dSrc, R.bind_ok, R.bind_exc, R.fl_ok, R.fl_exc, List.getElem?_cons_zero, List.getElem?_cons_succ, List.set_cons_zero, List.set_cons_succ, bodyR_nx, bodyR_rt, bodyR_exc, rAdd_int, rSub_int, rOrd_int, gInt_int, List.append_nil, if_true, if_false, Bool.false_eq_true, Bool.not_true, Bool.not_false, rEq_int, rNe_int, q, gapA_ok h, t4]
  · have q1 : ∀ T, rEqW false (.str (sx [k])) (.str "\n") T = .ok (.bl false) T := fun T => by rw [t1, decide_eq_false k1]
    by_cases k2 : k = 32
    · subst k2
      have q := t2 S
      rw [decide_eq_true (show (32 : Nat) = 32 from rfl)] at q
      refine ⟨_, ?_, fun _ => set_at (S := S) (x := scn t (a + 1) l (c + 1)) h, fun z => (by cases z), (But.set n S (scn t (a + 1) l (c + 1))).gro⟩
      simp only [ap_dSeq, ap_dVar, ap_dC, ap_dOp, ap_dSub, ap_dBool, ap_dTru, ap_dNot, ap_dAnd, ap_dOr, ap_dIf, ap_dNil, ap_dCons, ap_dTup, ap_dLst, ap_dCall, ap_dCallF, ap_dMake, ap_dMethF, ap_dMeth, ap_dFld, ap_dIsi, ap_dSlice, ap_dNoPart, ap_dPart, ap_dNext, ap_dRet, ap_dRetN, ap_dExpr, ap_dBreak, ap_dCont, ap_dIfS, ap_dAsg, ap_gSet, ap_dPar, ap_dPar3, ap_dFor, ap_dSrc, R.bind_ok, R.bind_exc, R.fl_ok, R.fl_exc, List.getElem?_cons_zero, List.getElem?_cons_succ, List.set_cons_zero, List.set_cons_succ, bodyR_nx, bodyR_rt, bodyR_exc, rAdd_int, rSub_int, rOrd_int, gInt_int, List.append_nil, if_true, if_false, Bool.false_eq_true, Bool.not_true, Bool.not_false, rEq_int, rNe_int, q1, q, skip_meth h, List.cons_append, List.nil_append, show (1 : Int) = ((1 : Nat) : Int) from rfl, skip_ok h, t4]
    · have q2 : ∀ T, rEqW false (.str (sx [k])) (.str " ") T = .ok (.bl false) T := fun T => by rw [t2, decide_eq_false k2]
      by_cases k3 : k = 35
      · subst k3
        have q := t3 S
        rw [decide_eq_true (show (35 : Nat) = 35 from rfl)] at q
        obtain ⟨T, e5, h5, g5⟩ := gapC_ok (x := some (.str (sx [35]))) h hl
        refine ⟨T, ?_, fun _ => h5, fun z => (by cases z), g5⟩
        simp only [ap_dSeq, ap_dVar, ap_dC, ap_dOp, ap_dSub, ap_dBool, ap_dTru, ap_dNot, ap_dAnd, ap_dOr, ap_dIf, ap_dNil, ap_dCons, ap_dTup, ap_dLst, ap_dCall, ap_dCallF, ap_dMake, ap_dMethF, ap_dMeth, ap_dFld, ap_dIsi, ap_dSlice, ap_dNoPart, ap_dPart, ap_dNext, ap_dRet, ap_dRetN, ap_dExpr, ap_dBreak, ap_dCont, ap_dIfS, ap_dAsg, ap_gSet, ap_dPar, ap_dPar3, ap_dFor, ap_dSrc, R.bind_ok, R.bind_exc, R.fl_ok, R.fl_exc, List.getElem?_cons_zero, List.getElem?_cons_succ, List.set_cons_zero, List.set_cons_succ, bodyR_nx, bodyR_rt, bodyR_exc, rAdd_int, rSub_int, rOrd_int, gInt_int, List.append_nil, if_true, if_false, Bool.false_eq_true, Bool.not_true, Bool.not_false, rEq_int, rNe_int, q1, q2, q, e5, t4]
      · have q3 : ∀ T, rEqW false (.str (sx [k])) (.str "#") T = .ok (.bl false) T := fun T => by rw [t3, decide_eq_false k3]
        have z : isGap k = false := by unfold isGap; rw [decide_eq_false k1, decide_eq_false k2, decide_eq_false k3]; rfl
        refine ⟨S, ?_, fun y => (by rw [z] at y; cases y), fun _ => rfl, Gro.refl n S⟩
        simp only [ap_dSeq, ap_dVar, ap_dC, ap_dOp, ap_dSub, ap_dBool, ap_dTru, ap_dNot, ap_dAnd, ap_dOr, ap_dIf, ap_dNil, ap_dCons, ap_dTup, ap_dLst, ap_dCall, ap_dCallF, ap_dMake, ap_dMethF, ap_dMeth, ap_dFld, ap_dIsi, ap_dSlice, ap_dNoPart, ap_dPart, ap_dNext, ap_dRet, ap_dRetN, ap_dExpr, ap_dBreak, ap_dCont, ap_dIfS, ap_dAsg, ap_gSet, ap_dPar, ap_dPar3, ap_dFor, ap_dSrc, R.bind_ok, R.bind_exc, R.fl_ok, R.fl_exc, List.getElem?_cons_zero, List.getElem?_cons_succ, List.set_cons_zero, List.set_cons_succ, bodyR_nx, bodyR_rt, bodyR_exc, rAdd_int, rSub_int, rOrd_int, gInt_int, List.append_nil, if_true, if_false, Bool.false_eq_true, Bool.not_true, Bool.not_false, rEq_int, rNe_int, q1, q2, q3, t4]
end
end Dn

set_option maxHeartbeats 4000000
/-! the scanner's tokens -/
namespace Dn
open PySem PySem.Spec PyProof.Rows L2
def runLen (t : List Nat) (a : Nat) : Nat := ((t.drop a).takeWhile isRun).length
theorem tw_get {p : Nat → Bool} : ∀ (l : List Nat) (j : Nat), j < (l.takeWhile p).length → ∃ k, l[j]? = some k ∧ p k = true
  | [], j, h => by simp at h
  | d :: l, j, h => by
    cases hp : p d with
    | false => rw [List.takeWhile_cons, hp] at h; simp at h
    | true =>
      rw [List.takeWhile_cons, hp] at h
      cases j with
      | zero => exact ⟨d, rfl, hp⟩
      | succ j => simpa using tw_get l j (by simpa using h)
theorem tw_end {p : Nat → Bool} : ∀ (l : List Nat) (k : Nat), l[(l.takeWhile p).length]? = some k → p k = false
  | [], k, h => by simp at h
  | d :: l, k, h => by
    cases hp : p d with
    | false => rw [List.takeWhile_cons, hp] at h; simp at h; rw [← h]; exact hp
    | true =>
      rw [List.takeWhile_cons, hp] at h
      exact tw_end l k (by simpa using h)
theorem run_get {t : List Nat} {a j : Nat} (h : j < runLen t a) : ∃ k, t[a + j]? = some k ∧ isRun k = true := by
  obtain ⟨k, e, q⟩ := tw_get _ _ h
  exact ⟨k, by rw [← List.getElem?_drop]; exact e, q⟩
theorem run_end {t : List Nat} {a k : Nat} (h : t[a + runLen t a]? = some k) : isRun k = false := tw_end (t.drop a) k (by rw [List.getElem?_drop]; exact h)
theorem run_le (t : List Nat) (a : Nat) : runLen t a ≤ t.length := Nat.le_trans (List.takeWhile_sublist _).length_le (by rw [List.length_drop]; omega)
theorem run_lt {t : List Nat} {a : Nat} (h : a ≤ t.length) : a + runLen t a ≤ t.length := by
  have : runLen t a ≤ (t.drop a).length := (List.takeWhile_sublist _).length_le
  rw [List.length_drop] at this; omega
def wordAt (t : List Nat) (a : Nat) : List Nat := (t.drop a).take (max 1 (runLen t a))
def signStrs : List Str := ["{", "}", ";"]
def isSign (w : List Nat) : Bool := signStrs.any fun y => y == sx w
def kindAt (t : List Nat) (a : Nat) : W := if 0 < runLen t a then kindW (wordAt t a) else if isSign (wordAt t a) = true then .str "sign" else .non
theorem word_len {t : List Nat} {a : Nat} (h : a < t.length) : (wordAt t a).length = max 1 (runLen t a) := by
  unfold wordAt
  have := run_lt (t := t) (a := a) (by omega)
  rw [List.length_take, List.length_drop]
  omega
def tokC : DT := dAnd (dBool (dOp rLt (dOp rAdd (dFld ["Scanner"] "at" (dVar 0)) (dVar 2)) (dCall gLen (dCons (dFld ["Scanner"] "text" (dVar 0)) (dNil))))) (dTru (dCallF f_is_run_sign [] (dCons (dSub (dFld ["Scanner"] "text" (dVar 0)) (dOp rAdd (dFld ["Scanner"] "at" (dVar 0)) (dVar 2))) (dNil))))
def tokB : DS := dSeq (dAugI 2 (fun i j => i + j) (dC (.int 1))) (dNext)
section
variable {S : Store} {n : Nat} {t : List Nat} {a l c : Nat}
theorem tokC_ok {x y z : Option W} {j : Nat} (h : S[n]? = some (scn t a l c)) (hl : t.length ≤ 1000000) (ha : a ≤ t.length) (hj : j ≤ runLen t a) : tokC [some (.ref n), x, some (.int (j : Int)), y, z] S = .ok (decide (j < runLen t a)) S := by
  have e1 : gLen [.str (sx t)] S = .ok (.int (t.length : Int)) S := by rw [len_str (by rw [sx_len]; exact small hl), sx_len]
  have ea : ((a : Int) + (j : Int)) = ((a + j : Nat) : Int) := by omega
  have hle := run_lt ha
  by_cases q : j < runLen t a
  · obtain ⟨k, e2, e3⟩ := run_get q
    have e4 : subW (.str (sx t)) (.int ((a + j : Nat) : Int)) S = .ok (.str (sx [k])) S := ix_str (by rw [sx_len]; exact small hl) (by rw [sx_cps]; exact e2)
    have e5 := is_run_ok (S := S) (k := k)
    rw [e3] at e5
    have e6 : decide (((a + j : Nat) : Int) < (t.length : Int)) = true := decide_eq_true (by omega)
    unfold tokC
    simp only [ap_dSeq, ap_dVar, ap_dC, ap_dOp, ap_dSub, ap_dBool, ap_dTru, ap_dNot, ap_dAnd, ap_dOr, ap_dIf, ap_dNil, ap_dCons, ap_dTup, ap_dLst, ap_dCall, ap_dCallF, ap_dMake, ap_dMethF, ap_dMeth, ap_dFld, ap_dIsi, ap_dSlice, ap_dNoPart, ap_dPart, ap_dNext, ap_dRet, ap_dRetN, ap_dExpr, ap_dBreak, ap_dCont, ap_dIfS, ap_dAsg, ap_gSet, ap_dPar, ap_dPar3, ap_dFor, ap_dSrc, R.bind_ok, R.bind_exc, R.fl_ok, R.fl_exc, List.getElem?_cons_zero, List.getElem?_cons_succ, List.set_cons_zero, List.set_cons_succ, bodyR_nx, bodyR_rt, bodyR_exc, rAdd_int, rSub_int, rOrd_int, gInt_int, List.append_nil, if_true, if_false, Bool.false_eq_true, Bool.not_true, Bool.not_false, rEq_int, rNe_int, s_at h, s_text h, e1, ea, e4, e5, e6, truW]
    rw [decide_eq_true q]
  · have hj' : j = runLen t a := by omega
    unfold tokC
    by_cases q2 : a + j < t.length
    · have e6 : decide (((a + j : Nat) : Int) < (t.length : Int)) = true := decide_eq_true (by omega)
      have e2 : t[a + j]? = some t[a + j] := List.getElem?_eq_getElem q2
      have e3 : isRun t[a + j] = false := run_end (t := t) (a := a) (by rw [← hj']; exact e2)
      have e4 : subW (.str (sx t)) (.int ((a + j : Nat) : Int)) S = .ok (.str (sx [t[a + j]])) S := ix_str (by rw [sx_len]; exact small hl) (by rw [sx_cps]; exact e2)
      have e5 := is_run_ok (S := S) (k := t[a + j])
      rw [e3] at e5
      simp only [ap_dSeq, ap_dVar, ap_dC, ap_dOp, ap_dSub, ap_dBool, ap_dTru, ap_dNot, ap_dAnd, ap_dOr, ap_dIf, ap_dNil, ap_dCons, ap_dTup, ap_dLst, ap_dCall, ap_dCallF, ap_dMake, ap_dMethF, ap_dMeth, ap_dFld, ap_dIsi, ap_dSlice, ap_dNoPart, ap_dPart, ap_dNext, ap_dRet, ap_dRetN, ap_dExpr, ap_dBreak, ap_dCont, ap_dIfS, ap_dAsg, ap_gSet, ap_dPar, ap_dPar3, ap_dFor, ap_dSrc, R.bind_ok, R.bind_exc, R.fl_ok, R.fl_exc, List.getElem?_cons_zero, List.getElem?_cons_succ, List.set_cons_zero, List.set_cons_succ, bodyR_nx, bodyR_rt, bodyR_exc, rAdd_int, rSub_int, rOrd_int, gInt_int, List.append_nil, if_true, if_false, Bool.false_eq_true, Bool.not_true, Bool.not_false, rEq_int, rNe_int, s_at h, s_text h, e1, ea, e4, e5, e6, truW]
      rw [decide_eq_false q]
    · have e6 : decide (((a + j : Nat) : Int) < (t.length : Int)) = false := decide_eq_false (by omega)
      simp only [ap_dSeq, ap_dVar, ap_dC, ap_dOp, ap_dSub, ap_dBool, ap_dTru, ap_dNot, ap_dAnd, ap_dOr, ap_dIf, ap_dNil, ap_dCons, ap_dTup, ap_dLst, ap_dCall, ap_dCallF, ap_dMake, ap_dMethF, ap_dMeth, ap_dFld, ap_dIsi, ap_dSlice, ap_dNoPart, ap_dPart, ap_dNext, ap_dRet, ap_dRetN, ap_dExpr, ap_dBreak, ap_dCont, ap_dIfS, ap_dAsg, ap_gSet, ap_dPar, ap_dPar3, ap_dFor, ap_dSrc, R.bind_ok, R.bind_exc, R.fl_ok, R.fl_exc, List.getElem?_cons_zero, List.getElem?_cons_succ, List.set_cons_zero, List.set_cons_succ, bodyR_nx, bodyR_rt, bodyR_exc, rAdd_int, rSub_int, rOrd_int, gInt_int, List.append_nil, if_true, if_false, Bool.false_eq_true, Bool.not_true, Bool.not_false, rEq_int, rNe_int, s_at h, s_text h, e1, ea, e6]
      rw [decide_eq_false q]
theorem tokW_ok {x y z : Option W} (h : S[n]? = some (scn t a l c)) (hl : t.length ≤ 1000000) (ha : a ≤ t.length) : dWhile tokC tokB [some (.ref n), x, some (.int ((0 : Nat) : Int)), y, z] S = .nx [some (.ref n), x, some (.int (runLen t a : Int)), y, z] S := by
  have hle := run_lt ha
  refine whileL_rule (c := tokC) (body := tokB) (fun m env T => T = S ∧ ∃ j : Nat, env = [some (.ref n), x, some (.int (j : Int)), y, z] ∧ j ≤ runLen t a ∧ m = runLen t a - j) (fun fl => fl = .nx [some (.ref n), x, some (.int (runLen t a : Int)), y, z] S) ?_ lapsMax (runLen t a) _ S (by unfold lapsMax; omega) ⟨rfl, 0, rfl, Nat.zero_le _, rfl⟩
  rintro m env T ⟨rfl, j, rfl, hj, rfl⟩
  by_cases q : j < runLen t a
  · refine .inr ⟨T, by rw [tokC_ok h hl ha hj, decide_eq_true q], ?_⟩
    have e : tokB [some (.ref n), x, some (.int (j : Int)), y, z] T = .nx [some (.ref n), x, some (.int ((j + 1 : Nat) : Int)), y, z] T := rfl
    rw [e]
    exact ⟨runLen t a - (j + 1), by omega, rfl, j + 1, rfl, by omega, rfl⟩
  · refine .inl ⟨T, by rw [tokC_ok h hl ha hj, decide_eq_false q], ?_⟩
    have : j = runLen t a := by omega
    rw [this]
def tokE : DE := dIf (dBool (dOp rGt (dVar 2) (dC (.int 0)))) (dCallF f_kind_of [] (dCons (dVar 3) (dNil))) (dIf (dBool (dOp (rInW false) (dVar 3) (dC (.tup [(.str "{"), (.str "}"), (.str ";")])))) (dC (.str "sign")) (dC .non))
theorem tokE_ok {x z : Option W} {o : W} (hl : t.length ≤ 1000000) (ha : a < t.length) : tokE [some o, x, some (.int (runLen t a : Int)), some (.str (sx (wordAt t a))), z] S = .ok (kindAt t a) S := by
  unfold tokE kindAt
  have e2 : rInW false (.str (sx (wordAt t a))) (.tup [(.str "{"), (.str "}"), (.str ";")]) S = .ok (.bl (isSign (wordAt t a))) S := in_tup (ys := signStrs)
  have hw := word_len ha
  have e1 := kind_of_ok (S := S) (w := wordAt t a) (fun e => by rw [e] at hw; simp at hw; omega) (by rw [hw]; have := run_le t a; omega)
  by_cases q : 0 < runLen t a
  · have e6 : decide ((0 : Int) < (runLen t a : Int)) = true := decide_eq_true (by omega)
    rw [if_pos q]
    simp only [ap_dSeq, ap_dVar, ap_dC, ap_dOp, ap_dSub, ap_dBool, ap_dTru, ap_dNot, ap_dAnd, ap_dOr, ap_dIf, ap_dNil, ap_dCons, ap_dTup, ap_dLst, ap_dCall, ap_dCallF, ap_dMake, ap_dMethF, ap_dMeth, ap_dFld, ap_dIsi, ap_dSlice, ap_dNoPart, ap_dPart, ap_dNext, ap_dRet, ap_dRetN, ap_dExpr, ap_dBreak, ap_dCont, ap_dIfS, ap_dAsg, ap_gSet, ap_dPar, ap_dPar3, ap_dFor, ap_dSrc, R.bind_ok, R.bind_exc, R.fl_ok, R.fl_exc, List.getElem?_cons_zero, List.getElem?_cons_succ, List.set_cons_zero, List.set_cons_succ, bodyR_nx, bodyR_rt, bodyR_exc, rAdd_int, rSub_int, rOrd_int, gInt_int, List.append_nil, if_true, if_false, Bool.false_eq_true, Bool.not_true, Bool.not_false, rEq_int, rNe_int, e6, e1]
  · have e6 : decide ((0 : Int) < (runLen t a : Int)) = false := decide_eq_false (by omega)
    rw [if_neg q]
    cases hs : isSign (wordAt t a) with
    | true => rw [hs] at e2; simp only [ap_dSeq, ap_dVar, ap_dC, ap_dOp, ap_dSub, ap_dBool, ap_dTru, ap_dNot, ap_dAnd, ap_dOr, ap_dIf, ap_dNil, ap_dCons, ap_dTup, ap_dLst, ap_dCall, ap_dCallF, ap_dMake, ap_dMethF, ap_dMeth, ap_dFld, ap_dIsi, ap_dSlice, ap_dNoPart, ap_dPart, ap_dNext, ap_dRet, ap_dRetN, ap_dExpr, ap_dBreak, ap_dCont, ap_dIfS, ap_dAsg, ap_gSet, ap_dPar, ap_dPar3, ap_dFor, ap_dSrc, R.bind_ok, R.bind_exc, R.fl_ok, R.fl_exc, List.getElem?_cons_zero, List.getElem?_cons_succ, List.set_cons_zero, List.set_cons_succ, bodyR_nx, bodyR_rt, bodyR_exc, rAdd_int, rSub_int, rOrd_int, gInt_int, List.append_nil, if_true, if_false, Bool.false_eq_true, Bool.not_true, Bool.not_false, rEq_int, rNe_int, e6, e2]
    | false => rw [hs] at e2; simp only [ap_dSeq, ap_dVar, ap_dC, ap_dOp, ap_dSub, ap_dBool, ap_dTru, ap_dNot, ap_dAnd, ap_dOr, ap_dIf, ap_dNil, ap_dCons, ap_dTup, ap_dLst, ap_dCall, ap_dCallF, ap_dMake, ap_dMethF, ap_dMeth, ap_dFld, ap_dIsi, ap_dSlice, ap_dNoPart, ap_dPart, ap_dNext, ap_dRet, ap_dRetN, ap_dExpr, ap_dBreak, ap_dCont, ap_dIfS, ap_dAsg, ap_gSet, ap_dPar, ap_dPar3, ap_dFor, ap_dSrc, R.bind_ok, R.bind_exc, R.fl_ok, R.fl_exc, List.getElem?_cons_zero, List.getElem?_cons_succ, List.set_cons_zero, List.set_cons_succ, bodyR_nx, bodyR_rt, bodyR_exc, rAdd_int, rSub_int, rOrd_int, gInt_int, List.append_nil, if_true, if_false, Bool.false_eq_true, Bool.not_true, Bool.not_false, rEq_int, rNe_int, e6, e2]
theorem tokS_ok {x y z : Option W} (h : S[n]? = some (scn t a l c)) (hl : t.length ≤ 1000000) (ha : a < t.length) : dAsg (dSlice (dFld ["Scanner"] "text" (dVar 0)) (dPart (dFld ["Scanner"] "at" (dVar 0))) (dPart (dOp rAdd (dFld ["Scanner"] "at" (dVar 0)) (dCall gMax2 (dCons (dC (.int 1)) (dCons (dVar 2) (dNil))))))) (gSet 3) [some (.ref n), x, some (.int (runLen t a : Int)), y, z] S
    = .nx [some (.ref n), x, some (.int (runLen t a : Int)), some (.str (sx (wordAt t a))), z] S := by
  have e1 : gMax2 [.int 1, .int (runLen t a : Int)] S = .ok (.int ((max 1 (runLen t a) : Nat) : Int)) S := by
    show R.ok (W.int (if (runLen t a : Int) > 1 then (runLen t a : Int) else 1)) S = _
    by_cases q : 1 < runLen t a
    · rw [if_pos (by omega), Nat.max_eq_right (by omega)]
    · rw [if_neg (by omega), Nat.max_eq_left (by omega)]; rfl
  have ea : ((a : Int) + ((max 1 (runLen t a) : Nat) : Int)) = ((a + max 1 (runLen t a) : Nat) : Int) := by omega
  have e2 : sliceW (.str (sx t)) (some (a : Int)) (some ((a + max 1 (runLen t a) : Nat) : Int)) S = .ok (.str (sx (wordAt t a))) S := by
    rw [slice_str (by rw [sx_len]; exact small hl), cut_mid, List.drop_take, Nat.add_sub_cancel_left]; rfl
  simp only [ap_dSeq, ap_dVar, ap_dC, ap_dOp, ap_dSub, ap_dBool, ap_dTru, ap_dNot, ap_dAnd, ap_dOr, ap_dIf, ap_dNil, ap_dCons, ap_dTup, ap_dLst, ap_dCall, ap_dCallF, ap_dMake, ap_dMethF, ap_dMeth, ap_dFld, ap_dIsi, ap_dSlice, ap_dNoPart, ap_dPart, ap_dNext, ap_dRet, ap_dRetN, ap_dExpr, ap_dBreak, ap_dCont, ap_dIfS, ap_dAsg, ap_gSet, ap_dPar, ap_dPar3, ap_dFor, ap_dSrc, R.bind_ok, R.bind_exc, R.fl_ok, R.fl_exc, List.getElem?_cons_zero, List.getElem?_cons_succ, List.set_cons_zero, List.set_cons_succ, bodyR_nx, bodyR_rt, bodyR_exc, rAdd_int, rSub_int, rOrd_int, gInt_int, List.append_nil, if_true, if_false, Bool.false_eq_true, Bool.not_true, Bool.not_false, rEq_int, rNe_int, s_text h, s_at h, e1, ea, e2]
end
end Dn

set_option maxHeartbeats 4000000
/-! the scanner's tokens, all tokens -/
namespace Dn
open PySem PySem.Spec PyProof.Rows L2
theorem kindW_cases (w : List Nat) : kindW w = .non ∨ ∃ s, kindW w = .str s := by
  unfold kindW
  split
  · exact .inr ⟨_, rfl⟩
  · split
    · exact .inr ⟨_, rfl⟩
    · exact .inl rfl
theorem kindAt_cases (t : List Nat) (a : Nat) : kindAt t a = .non ∨ ∃ s, kindAt t a = .str s := by
  unfold kindAt
  split
  · exact kindW_cases _
  · split
    · exact .inr ⟨_, rfl⟩
    · exact .inl rfl
def tokP : DS := dPar 1 2 (dCons (dTup (dCons (dFld ["Scanner"] "line" (dVar 0)) (dCons (dFld ["Scanner"] "column" (dVar 0)) (dNil)))) (dCons (dC (.int 0)) (dNil)))
def tokS : DS := dAsg (dSlice (dFld ["Scanner"] "text" (dVar 0)) (dPart (dFld ["Scanner"] "at" (dVar 0))) (dPart (dOp rAdd (dFld ["Scanner"] "at" (dVar 0)) (dCall gMax2 (dCons (dC (.int 1)) (dCons (dVar 2) (dNil))))))) (gSet 3)
def tokR : DS := dIfS (dBool (dOp (rIs false) (dVar 4) (dC .non))) (dSeq (dRaise "Misread" ["line", "column"] (dCons (dFld ["Scanner"] "line" (dVar 0)) (dCons (dFld ["Scanner"] "column" (dVar 0)) (dNil)))) (dNext)) (dNext)
def tokK (m_Scanner_skip : FW) : DS := dExpr (dMethF "Scanner" "skip" m_Scanner_skip (dVar 0) (dCons (dCall gLen (dCons (dVar 3) (dNil))) (dNil)))
theorem tok_parts : d_Scanner_token f_is_run_sign f_kind_of m_Scanner_skip = dSeq tokP (dSeq (dWhile tokC tokB) (dSeq tokS (dSeq (dAsg tokE (gSet 4)) (dSeq tokR (dSeq (tokK m_Scanner_skip) (dSeq (dRet (dTup (dCons (dVar 4) (dCons (dVar 3) (dCons (dVar 1) (dNil)))))) (dNext))))))) := rfl
section
variable {S : Store} {n : Nat} {t : List Nat} {a l c : Nat}
theorem tokP_ok (h : S[n]? = some (scn t a l c)) : tokP [some (.ref n), none, none, none, none] S = .nx [some (.ref n), some (.tup [.int (l : Int), .int (c : Int)]), some (.int ((0 : Nat) : Int)), none, none] S := by
  unfold tokP
  simp only [ap_dSeq, ap_dVar, ap_dC, ap_dOp, ap_dSub, ap_dBool, ap_dTru, ap_dNot, ap_dAnd, ap_dOr, ap_dIf, ap_dNil, ap_dCons, ap_dTup, ap_dLst, ap_dCall, ap_dCallF, ap_dMake, ap_dMethF, ap_dMeth, ap_dFld, ap_dIsi, ap_dSlice, ap_dNoPart, ap_dPart, ap_dNext, ap_dRet, ap_dRetN, ap_dExpr, ap_dBreak, ap_dCont, ap_dIfS, ap_dAsg, ap_gSet, ap_dPar, ap_dPar3, ap_dFor, ap_dSrc, R.bind_ok, R.bind_exc, R.fl_ok, R.fl_exc, List.getElem?_cons_zero, List.getElem?_cons_succ, List.set_cons_zero, List.set_cons_succ, bodyR_nx, bodyR_rt, bodyR_exc, rAdd_int, rSub_int, rOrd_int, gInt_int, List.append_nil, if_true, if_false, Bool.false_eq_true, Bool.not_true, Bool.not_false, rEq_int, rNe_int, s_line h, s_column h]
  rw [if_pos (small (by simp))]
  rfl
theorem isNon_ok {w : W} : rIs false w .non S = .ok (.bl (match w with | .non => true | _ => false)) S := by cases w <;> rfl
theorem dRaise2 {k f g : Str} {da : DA} {env : Env} {u v : W} {S1 : Store} (e : da env S = .ok [u, v] S1) : dRaise k [f, g] da env S = .exc k [(g, v), (f, u)] env S1 := by
  unfold dRaise
  rw [e, R.fl_ok]
  rfl
/-- a token -/
def tokAt (t : List Nat) (a l c : Nat) : W := .tup [kindAt t a, .str (sx (wordAt t a)), .tup [.int (l : Int), .int (c : Int)]]
theorem token_ok (h : S[n]? = some (scn t a l c)) (hl : t.length ≤ 1000000) (ha : a < t.length) : m_Scanner_token [.ref n] S =
    if (match kindAt t a with | .non => true | _ => false) = true then .exc "Misread" [("column", .int (c : Int)), ("line", .int (l : Int))] S
    else .ok (tokAt t a l c) (S.set n (scn t (a + max 1 (runLen t a)) l (c + max 1 (runLen t a)))) := by
  have st : m_Scanner_token [.ref n] S = bodyR (dSeq tokR (dSeq (tokK m_Scanner_skip) (dSeq (dRet (dTup (dCons (dVar 4) (dCons (dVar 3) (dCons (dVar 1) (dNil)))))) (dNext))) [some (.ref n), some (.tup [.int (l : Int), .int (c : Int)]), some (.int (runLen t a : Int)), some (.str (sx (wordAt t a))), some (kindAt t a)] S) := by
    show bodyR (d_Scanner_token f_is_run_sign f_kind_of m_Scanner_skip [some (.ref n), none, none, none, none] S) = _
    rw [tok_parts, seq_nx (tokP_ok h), seq_nx (tokW_ok h hl (by omega)), seq_nx (a := tokS) (tokS_ok h hl ha), seq_nx (env2 := [some (.ref n), some (.tup [.int (l : Int), .int (c : Int)]), some (.int (runLen t a : Int)), some (.str (sx (wordAt t a))), some (kindAt t a)]) (S2 := S)]
    rw [ap_dAsg, tokE_ok hl ha]
    rfl
  rw [st]
  rcases kindAt_cases t a with e | ⟨s, e⟩
  · rw [e]
    have e1 : dCons (dFld ["Scanner"] "line" (dVar 0)) (dCons (dFld ["Scanner"] "column" (dVar 0)) (dNil)) [some (.ref n), some (.tup [.int (l : Int), .int (c : Int)]), some (.int (runLen t a : Int)), some (.str (sx (wordAt t a))), some .non] S = .ok [.int (l : Int), .int (c : Int)] S := by simp only [ap_dSeq, ap_dVar, ap_dC, ap_dOp, ap_dSub, ap_dBool, ap_dTru, ap_dNot, ap_dAnd, ap_dOr, ap_dIf, ap_dNil, ap_dCons, ap_dTup, ap_dLst, ap_dCall, ap_dCallF, ap_dMake, ap_dMethF, ap_dMeth, ap_dFld, ap_dIsi, ap_dSlice, ap_dNoPart, ap_dPart, ap_dNext, ap_dRet, ap_dRetN, ap_dExpr, ap_dBreak, ap_dCont, ap_dIfS, ap_dAsg, ap_gSet, ap_dPar, ap_dPar3, ap_dFor, ap_dSrc, R.bind_ok, R.bind_exc, R.fl_ok, R.fl_exc, List.getElem?_cons_zero, List.getElem?_cons_succ, List.set_cons_zero, List.set_cons_succ, bodyR_nx, bodyR_rt, bodyR_exc, rAdd_int, rSub_int, rOrd_int, gInt_int, List.append_nil, if_true, if_false, Bool.false_eq_true, Bool.not_true, Bool.not_false, rEq_int, rNe_int, s_line h, s_column h]
    unfold tokR
    simp only [ap_dSeq, ap_dVar, ap_dC, ap_dOp, ap_dSub, ap_dBool, ap_dTru, ap_dNot, ap_dAnd, ap_dOr, ap_dIf, ap_dNil, ap_dCons, ap_dTup, ap_dLst, ap_dCall, ap_dCallF, ap_dMake, ap_dMethF, ap_dMeth, ap_dFld, ap_dIsi, ap_dSlice, ap_dNoPart, ap_dPart, ap_dNext, ap_dRet, ap_dRetN, ap_dExpr, ap_dBreak, ap_dCont, ap_dIfS, ap_dAsg, ap_gSet, ap_dPar, ap_dPar3, ap_dFor, ap_dSrc, R.bind_ok, R.bind_exc, R.fl_ok, R.fl_exc, List.getElem?_cons_zero, List.getElem?_cons_succ, List.set_cons_zero, List.set_cons_succ, bodyR_nx, bodyR_rt, bodyR_exc, rAdd_int, rSub_int, rOrd_int, gInt_int, List.append_nil, if_true, if_false, Bool.false_eq_true, Bool.not_true, Bool.not_false, rEq_int, rNe_int, isNon_ok, dRaise2 e1]
  · have hw := word_len ha
    have hr := run_le t a
    have e4 : gLen [.str (sx (wordAt t a))] S = .ok (.int ((max 1 (runLen t a) : Nat) : Int)) S := by rw [len_str (by rw [sx_len]; exact small (by omega)), sx_len, hw]
    unfold tokAt
    rw [e]
    unfold tokR tokK
    simp only [ap_dSeq, ap_dVar, ap_dC, ap_dOp, ap_dSub, ap_dBool, ap_dTru, ap_dNot, ap_dAnd, ap_dOr, ap_dIf, ap_dNil, ap_dCons, ap_dTup, ap_dLst, ap_dCall, ap_dCallF, ap_dMake, ap_dMethF, ap_dMeth, ap_dFld, ap_dIsi, ap_dSlice, ap_dNoPart, ap_dPart, ap_dNext, ap_dRet, ap_dRetN, ap_dExpr, ap_dBreak, ap_dCont, ap_dIfS, ap_dAsg, ap_gSet, ap_dPar, ap_dPar3, ap_dFor, ap_dSrc, R.bind_ok, R.bind_exc, R.fl_ok, R.fl_exc, List.getElem?_cons_zero, List.getElem?_cons_succ, List.set_cons_zero, List.set_cons_succ, bodyR_nx, bodyR_rt, bodyR_exc, rAdd_int, rSub_int, rOrd_int, gInt_int, List.append_nil, if_true, if_false, Bool.false_eq_true, Bool.not_true, Bool.not_false, rEq_int, rNe_int, isNon_ok, skip_meth h, e4, skip_ok h, List.cons_append, List.nil_append]
    rw [if_pos (small (by simp))]
    rfl
theorem token_bad (h : S[n]? = some (scn t a l c)) (hl : t.length ≤ 1000000) (ha : a < t.length) (hk : kindAt t a = .non) : m_Scanner_token [.ref n] S = .exc "Misread" [("column", .int (c : Int)), ("line", .int (l : Int))] S := by
  rw [token_ok h hl ha, hk]; rfl
theorem token_good (h : S[n]? = some (scn t a l c)) (hl : t.length ≤ 1000000) (ha : a < t.length) {s : Str} (hk : kindAt t a = .str s) : m_Scanner_token [.ref n] S = .ok (tokAt t a l c) (S.set n (scn t (a + max 1 (runLen t a)) l (c + max 1 (runLen t a)))) := by
  rw [token_ok h hl ha, hk]; rfl
end
/-! ### the words of a text, by steps: an error's place, or the tokens and the end's place -/
inductive Lx where
  | err (l c : Nat) | ok (ts : List W)
def endTok (l c : Nat) : W := .tup [.str "end", .str "", .tup [.int (l : Int), .int (c : Int)]]
def lexR (t : List Nat) : Nat → Nat → Nat → Nat → List W → Lx
  | 0, _, l, c, acc => .ok (acc ++ [endTok l c])
  | f + 1, a, l, c, acc => match t[a]? with
    | none => .ok (acc ++ [endTok l c])
    | some k => if isGap k = true then lexR t f (gapTo t k a l c).1 (gapTo t k a l c).2.1 (gapTo t k a l c).2.2 acc
      else match kindAt t a with
        | .non => .err l c
        | _ => lexR t f (a + max 1 (runLen t a)) l (c + max 1 (runLen t a)) (acc ++ [tokAt t a l c])
def lex (t : List Nat) : Lx := lexR t (t.length + 1) 0 1 1 []
end Dn

set_option maxHeartbeats 4000000
/-! all tokens -/
namespace Dn
open PySem PySem.Spec PyProof.Rows L2
/-- what stood stays; more may stand -/
structure Ext (S T : Store) : Prop where
  le : S.length ≤ T.length
  at_ : ∀ i, i < S.length → T[i]? = S[i]?
theorem Ext.refl (S : Store) : Ext S S := ⟨Nat.le_refl _, fun _ _ => rfl⟩
theorem Ext.trans {S S1 S2 : Store} (h : Ext S S1) (h' : Ext S1 S2) : Ext S S2 := ⟨Nat.le_trans h.le h'.le, fun i hi => (h'.at_ i (Nat.lt_of_lt_of_le hi h.le)).trans (h.at_ i hi)⟩
theorem Ext.app (S G : Store) : Ext S (S ++ G) := ⟨by rw [List.length_append]; omega, fun i hi => List.getElem?_append_left hi⟩
theorem Ext.set {S T : Store} (h : Ext S T) {n : Nat} (x : Cell) (hn : S.length ≤ n) : Ext S (T.set n x) := ⟨by rw [List.length_set]; exact h.le, fun i hi => by rw [List.getElem?_set_ne (by omega)]; exact h.at_ i hi⟩
theorem Ext.gro {S T U : Store} (h : Ext S T) {n : Nat} (g : Gro n T U) (hn : S.length ≤ n) : Ext S U := ⟨Nat.le_trans h.le g.le, fun i hi => (g.at_ i (Nat.lt_of_lt_of_le hi h.le) (by omega)).trans (h.at_ i hi)⟩
theorem Ext.some {S T : Store} (h : Ext S T) {i : Nat} {x : Cell} (e : S[i]? = .some x) : T[i]? = .some x := by rw [h.at_ i (List.getElem?_eq_some_iff.mp e).1]; exact e
theorem init_ok {S : Store} {t : List Nat} : newI "Scanner" i_Scanner [.str (sx t)] S = .ok (.ref S.length) (S ++ [scn t 0 1 1]) := by
  have h0 : ∀ fs, (S ++ [Cell.ins "Scanner" fs])[S.length]? = some (.ins "Scanner" fs) := fun fs => by simp
  have hs : ∀ fs fs', (S ++ [Cell.ins "Scanner" fs]).set S.length (.ins "Scanner" fs') = S ++ [Cell.ins "Scanner" fs'] := fun fs fs' => by
    rw [List.set_append_right _ _ (Nat.le_refl _), Nat.sub_self]; rfl
  have step : ∀ {f : Str} {fs fs' : List (Str × W)} {dv : DE} {w : W}, dv [some (.ref S.length), some (.str (sx t))] (S ++ [Cell.ins "Scanner" fs]) = .ok w (S ++ [Cell.ins "Scanner" fs]) → fs.length < 1000 → putW f w fs = fs' →
      dFldS ["Scanner"] f dv (dVar 0) [some (.ref S.length), some (.str (sx t))] (S ++ [Cell.ins "Scanner" fs]) = .nx [some (.ref S.length), some (.str (sx t))] (S ++ [Cell.ins "Scanner" fs']) := fun {f fs fs' dv w} e1 e2 e3 => by
    unfold dFldS
    rw [e1, R.fl_ok, ap_dVar]
    simp only [List.getElem?_cons_zero, R.fl_ok, put_at (h0 fs) mem1 e2 e3, hs]
  have e : i_Scanner [.ref S.length, .str (sx t)] (S ++ [Cell.ins "Scanner" []]) = .ok .non (S ++ [scn t 0 1 1]) := by
    show bodyR (d_Scanner___init__ [some (.ref S.length), some (.str (sx t))] (S ++ [Cell.ins "Scanner" []])) = _
    unfold d_Scanner___init__
    rw [seq_nx (step (dv := dVar 1) (fs := []) (fs' := [("text", .str (sx t))]) (w := .str (sx t)) rfl (by simp) rfl), seq_nx (step (dv := dC (.int 0)) (fs := [("text", .str (sx t))]) (fs' := [("text", .str (sx t)), ("at", .int 0)]) (w := .int 0) rfl (by simp) rfl), seq_nx (step (dv := dC (.int 1)) (fs := [("text", .str (sx t)), ("at", .int 0)]) (fs' := [("text", .str (sx t)), ("at", .int 0), ("line", .int 1)]) (w := .int 1) rfl (by simp) rfl), seq_nx (step (dv := dC (.int 1)) (fs := [("text", .str (sx t)), ("at", .int 0), ("line", .int 1)]) (fs' := [("text", .str (sx t)), ("at", .int 0), ("line", .int 1), ("column", .int 1)]) (w := .int 1) rfl (by simp) rfl)]
    rfl
  unfold newI
  rw [e]
  rfl
theorem rest_pos {t : List Nat} {a k : Nat} (h : t[a]? = some k) (hk : k ≠ 10) : 1 ≤ restLen t a := by
  unfold restLen
  obtain ⟨ha, e⟩ := List.getElem?_eq_some_iff.mp h
  rw [List.drop_eq_getElem_cons ha, e, List.takeWhile_cons]
  have : (k != 10) = true := by simpa using hk
  rw [this]
  simp
theorem rest_le {t : List Nat} {a : Nat} (h : a ≤ t.length) : a + restLen t a ≤ t.length := by
  have : restLen t a ≤ (t.drop a).length := (List.takeWhile_sublist _).length_le
  rw [List.length_drop] at this; omega
theorem gapTo_lt {t : List Nat} {a k l c : Nat} (h : t[a]? = some k) (hg : isGap k = true) : a < (gapTo t k a l c).1 ∧ (gapTo t k a l c).1 ≤ t.length := by
  have ha := (List.getElem?_eq_some_iff.mp h).1
  unfold gapTo
  by_cases k1 : k = 10
  · rw [if_pos k1]; exact ⟨by simp, by simp; omega⟩
  · rw [if_neg k1]
    by_cases k2 : k = 32
    · rw [if_pos k2]; exact ⟨by simp, by simp; omega⟩
    · rw [if_neg k2]
      have := rest_pos h k1
      have := rest_le (t := t) (a := a) (by omega)
      exact ⟨by simp; omega, by simp; omega⟩
def allC : DT := dNot (dTru (dMethF "Scanner" "is_over" m_Scanner_is_over (dVar 1) dNil))
def allB : DS := dSeq (dIfS (dNot (dTru (dMethF "Scanner" "pass_gap" m_Scanner_pass_gap (dVar 1) dNil))) (dSeq (dExpr (dMeth "list" gAppend (dVar 2) (dCons (dMethF "Scanner" "token" m_Scanner_token (dVar 1) dNil) (dNil)))) (dNext)) (dNext)) (dNext)
section
variable {S : Store} {n m : Nat} {t : List Nat} {a l c : Nat} {acc : List W} {x : Option W}
theorem over_meth (h : S[n]? = some (scn t a l c)) : metO "Scanner" "is_over" S (.ref n) = true := metO_at h rfl
theorem token_meth (h : S[n]? = some (scn t a l c)) : metO "Scanner" "token" S (.ref n) = true := metO_at h rfl
theorem allC_ok (h : S[n]? = some (scn t a l c)) (hl : t.length ≤ 1000000) (ha : a ≤ t.length) : allC [x, some (.ref n), some (.ref m)] S = .ok (decide (a < t.length)) S := by
  unfold allC
  have e : decide (a < t.length) = !decide (a = t.length) := by
    by_cases q : a = t.length
    · rw [decide_eq_true q, decide_eq_false (by omega)]; rfl
    · rw [decide_eq_false q, decide_eq_true (by omega)]; rfl
  simp only [ap_dSeq, ap_dVar, ap_dC, ap_dOp, ap_dSub, ap_dBool, ap_dTru, ap_dNot, ap_dAnd, ap_dOr, ap_dIf, ap_dNil, ap_dCons, ap_dTup, ap_dLst, ap_dCall, ap_dCallF, ap_dMake, ap_dMethF, ap_dMeth, ap_dFld, ap_dIsi, ap_dSlice, ap_dNoPart, ap_dPart, ap_dNext, ap_dRet, ap_dRetN, ap_dExpr, ap_dBreak, ap_dCont, ap_dIfS, ap_dAsg, ap_gSet, ap_dPar, ap_dPar3, ap_dFor, ap_dSrc, R.bind_ok, R.bind_exc, R.fl_ok, R.fl_exc, List.getElem?_cons_zero, List.getElem?_cons_succ, List.set_cons_zero, List.set_cons_succ, bodyR_nx, bodyR_rt, bodyR_exc, rAdd_int, rSub_int, rOrd_int, gInt_int, List.append_nil, if_true, if_false, Bool.false_eq_true, Bool.not_true, Bool.not_false, rEq_int, rNe_int, over_meth h, over_ok h hl, truW, e]
theorem allB_gap {k : Nat} (h : S[n]? = some (scn t a l c)) (hl : t.length ≤ 1000000) (hk : t[a]? = some k) (hg : isGap k = true) : ∃ T, allB [x, some (.ref n), some (.ref m)] S = .nx [x, some (.ref n), some (.ref m)] T ∧ T[n]? = some (scn t (gapTo t k a l c).1 (gapTo t k a l c).2.1 (gapTo t k a l c).2.2) ∧ Gro n S T := by
  obtain ⟨T, e1, e2, _, e4⟩ := gap_ok h hl hk
  rw [hg] at e1
  refine ⟨T, ?_, e2 hg, e4⟩
  unfold allB
  simp only [ap_dSeq, ap_dVar, ap_dC, ap_dOp, ap_dSub, ap_dBool, ap_dTru, ap_dNot, ap_dAnd, ap_dOr, ap_dIf, ap_dNil, ap_dCons, ap_dTup, ap_dLst, ap_dCall, ap_dCallF, ap_dMake, ap_dMethF, ap_dMeth, ap_dFld, ap_dIsi, ap_dSlice, ap_dNoPart, ap_dPart, ap_dNext, ap_dRet, ap_dRetN, ap_dExpr, ap_dBreak, ap_dCont, ap_dIfS, ap_dAsg, ap_gSet, ap_dPar, ap_dPar3, ap_dFor, ap_dSrc, R.bind_ok, R.bind_exc, R.fl_ok, R.fl_exc, List.getElem?_cons_zero, List.getElem?_cons_succ, List.set_cons_zero, List.set_cons_succ, bodyR_nx, bodyR_rt, bodyR_exc, rAdd_int, rSub_int, rOrd_int, gInt_int, List.append_nil, if_true, if_false, Bool.false_eq_true, Bool.not_true, Bool.not_false, rEq_int, rNe_int, gap_meth h, e1, truW]
theorem allB_bad {k : Nat} (h : S[n]? = some (scn t a l c)) (hm : S[m]? = some (.lst acc)) (hl : t.length ≤ 1000000) (hk : t[a]? = some k) (hg : isGap k = false) (hkk : kindAt t a = .non) : allB [x, some (.ref n), some (.ref m)] S = .exc "Misread" [("column", .int (c : Int)), ("line", .int (l : Int))] [x, some (.ref n), some (.ref m)] S := by
  obtain ⟨T, e1, _, e3, _⟩ := gap_ok h hl hk
  have e3 := e3 hg
  subst e3
  rw [hg] at e1
  have ha := (List.getElem?_eq_some_iff.mp hk).1
  unfold allB
  simp only [ap_dSeq, ap_dVar, ap_dC, ap_dOp, ap_dSub, ap_dBool, ap_dTru, ap_dNot, ap_dAnd, ap_dOr, ap_dIf, ap_dNil, ap_dCons, ap_dTup, ap_dLst, ap_dCall, ap_dCallF, ap_dMake, ap_dMethF, ap_dMeth, ap_dFld, ap_dIsi, ap_dSlice, ap_dNoPart, ap_dPart, ap_dNext, ap_dRet, ap_dRetN, ap_dExpr, ap_dBreak, ap_dCont, ap_dIfS, ap_dAsg, ap_gSet, ap_dPar, ap_dPar3, ap_dFor, ap_dSrc, R.bind_ok, R.bind_exc, R.fl_ok, R.fl_exc, List.getElem?_cons_zero, List.getElem?_cons_succ, List.set_cons_zero, List.set_cons_succ, bodyR_nx, bodyR_rt, bodyR_exc, rAdd_int, rSub_int, rOrd_int, gInt_int, List.append_nil, if_true, if_false, Bool.false_eq_true, Bool.not_true, Bool.not_false, rEq_int, rNe_int, gap_meth h, e1, truW, hasT_lst hm, token_meth h, token_bad h hl ha hkk]
theorem allB_good {k : Nat} {s : Str} (h : S[n]? = some (scn t a l c)) (hm : S[m]? = some (.lst acc)) (hmn : n ≠ m) (hl : t.length ≤ 1000000) (hacc : acc.length ≤ 1000000) (hk : t[a]? = some k) (hg : isGap k = false) (hkk : kindAt t a = .str s) :
    allB [x, some (.ref n), some (.ref m)] S = .nx [x, some (.ref n), some (.ref m)] ((S.set n (scn t (a + max 1 (runLen t a)) l (c + max 1 (runLen t a)))).set m (.lst (acc ++ [tokAt t a l c]))) := by
  obtain ⟨T, e1, _, e3, _⟩ := gap_ok h hl hk
  have e3 := e3 hg
  subst e3
  rw [hg] at e1
  have ha := (List.getElem?_eq_some_iff.mp hk).1
  have hm2 : (T.set n (scn t (a + max 1 (runLen t a)) l (c + max 1 (runLen t a))))[m]? = some (.lst acc) := by rw [set_off hmn]; exact hm
  have e5 := app_lst (w := tokAt t a l c) hm2 (Nat.lt_of_le_of_lt hacc (by decide))
  unfold allB
  simp only [ap_dSeq, ap_dVar, ap_dC, ap_dOp, ap_dSub, ap_dBool, ap_dTru, ap_dNot, ap_dAnd, ap_dOr, ap_dIf, ap_dNil, ap_dCons, ap_dTup, ap_dLst, ap_dCall, ap_dCallF, ap_dMake, ap_dMethF, ap_dMeth, ap_dFld, ap_dIsi, ap_dSlice, ap_dNoPart, ap_dPart, ap_dNext, ap_dRet, ap_dRetN, ap_dExpr, ap_dBreak, ap_dCont, ap_dIfS, ap_dAsg, ap_gSet, ap_dPar, ap_dPar3, ap_dFor, ap_dSrc, R.bind_ok, R.bind_exc, R.fl_ok, R.fl_exc, List.getElem?_cons_zero, List.getElem?_cons_succ, List.set_cons_zero, List.set_cons_succ, bodyR_nx, bodyR_rt, bodyR_exc, rAdd_int, rSub_int, rOrd_int, gInt_int, List.append_nil, if_true, if_false, Bool.false_eq_true, Bool.not_true, Bool.not_false, rEq_int, rNe_int, gap_meth h, e1, truW, hasT_lst hm, token_meth h, token_good h hl ha hkk, e5]
end
end Dn

set_option maxHeartbeats 4000000
/-! tokens(text) tells the words of the text -/
namespace Dn
open PySem PySem.Spec PyProof.Rows L2
theorem lexR_end {t : List Nat} {f a l c : Nat} {acc : List W} (h : t[a]? = none) : lexR t f a l c acc = .ok (acc ++ [endTok l c]) := by
  cases f with
  | zero => rfl
  | succ f => unfold lexR; rw [h]
theorem lexR_gap {t : List Nat} {f a l c k : Nat} {acc : List W} (h : t[a]? = some k) (hg : isGap k = true) : lexR t (f + 1) a l c acc = lexR t f (gapTo t k a l c).1 (gapTo t k a l c).2.1 (gapTo t k a l c).2.2 acc := by
  rw [lexR]; simp only [h, if_pos hg]
theorem lexR_bad {t : List Nat} {f a l c k : Nat} {acc : List W} (h : t[a]? = some k) (hg : isGap k = false) (hk : kindAt t a = .non) : lexR t (f + 1) a l c acc = .err l c := by
  rw [lexR]; simp only [h, hg, hk]; rfl
theorem lexR_good {t : List Nat} {f a l c k : Nat} {acc : List W} {s : Str} (h : t[a]? = some k) (hg : isGap k = false) (hk : kindAt t a = .str s) : lexR t (f + 1) a l c acc = lexR t f (a + max 1 (runLen t a)) l (c + max 1 (runLen t a)) (acc ++ [tokAt t a l c]) := by
  rw [lexR]; simp only [h, hg, hk]; rfl
def tokMisread (l c : Nat) : List (Str × W) := [("column", .int (c : Int)), ("line", .int (l : Int))]
/-- the loop's turns -/
theorem all_loop {S : Store} {t : List Nat} {x : Option W} (hl : t.length ≤ 1000000) :
    (∃ l c T, lex t = .err l c ∧ dWhile allC allB [x, some (.ref S.length), some (.ref (S.length + 1))] (S ++ [scn t 0 1 1, .lst []]) = .exc "Misread" (tokMisread l c) [x, some (.ref S.length), some (.ref (S.length + 1))] T ∧ Ext S T) ∨
    ∃ a l c acc T, lex t = .ok (acc ++ [endTok l c]) ∧ dWhile allC allB [x, some (.ref S.length), some (.ref (S.length + 1))] (S ++ [scn t 0 1 1, .lst []]) = .nx [x, some (.ref S.length), some (.ref (S.length + 1))] T ∧ T[S.length]? = some (scn t a l c) ∧ T[S.length + 1]? = some (.lst acc) ∧ acc.length ≤ 1000000 ∧ Ext S T := by
  refine whileL_rule (c := allC) (body := allB)
    (fun m env T => env = [x, some (.ref S.length), some (.ref (S.length + 1))] ∧ ∃ a l c acc f, T[S.length]? = some (scn t a l c) ∧ T[S.length + 1]? = some (.lst acc) ∧ a ≤ t.length ∧ acc.length ≤ a ∧ lexR t f a l c acc = lex t ∧ t.length + 1 ≤ f + a ∧ m = t.length - a ∧ Ext S T)
    (fun fl => (∃ l c T, lex t = .err l c ∧ fl = .exc "Misread" (tokMisread l c) [x, some (.ref S.length), some (.ref (S.length + 1))] T ∧ Ext S T) ∨ ∃ a l c acc T, lex t = .ok (acc ++ [endTok l c]) ∧ fl = .nx [x, some (.ref S.length), some (.ref (S.length + 1))] T ∧ T[S.length]? = some (scn t a l c) ∧ T[S.length + 1]? = some (.lst acc) ∧ acc.length ≤ 1000000 ∧ Ext S T)
    ?_ lapsMax t.length _ (S ++ [scn t 0 1 1, .lst []]) (by unfold lapsMax; omega) ⟨rfl, 0, 1, 1, [], t.length + 1, by simp, by simp, Nat.zero_le _, Nat.le_refl _, rfl, by omega, rfl, Ext.app S _⟩
  rintro m env T ⟨rfl, a, l, c, acc, f, h, hm, ha, hacc, hx, hf, rfl, hE⟩
  by_cases q : a < t.length
  · refine .inr ⟨T, by rw [allC_ok h hl ha, decide_eq_true q], ?_⟩
    obtain ⟨k, hk⟩ : ∃ k, t[a]? = some k := ⟨t[a], List.getElem?_eq_getElem q⟩
    obtain ⟨f, rfl⟩ : ∃ f', f = f' + 1 := ⟨f - 1, by omega⟩
    cases hg : isGap k with
    | true =>
      obtain ⟨T', e1, e2, e3⟩ := allB_gap (m := S.length + 1) (x := x) h hl hk hg
      have hlt := gapTo_lt (l := l) (c := c) hk hg
      rw [e1]
      refine ⟨t.length - (gapTo t k a l c).1, by omega, rfl, _, _, _, acc, f, e2, ?_, hlt.2, by omega, by rw [← hx, lexR_gap hk hg], by omega, rfl, hE.gro e3 (Nat.le_refl _)⟩
      exact e3.some hm (by omega)
    | false =>
      rcases kindAt_cases t a with hkk | ⟨s, hkk⟩
      · rw [allB_bad h hm hl hk hg hkk]
        exact .inl ⟨l, c, T, by rw [← hx, lexR_bad hk hg hkk], rfl, hE⟩
      · rw [allB_good h hm (by omega) hl (by omega) hk hg hkk]
        have hr := run_lt (t := t) (a := a) ha
        have hm2 : (T.set S.length (scn t (a + max 1 (runLen t a)) l (c + max 1 (runLen t a))))[S.length + 1]? = some (.lst acc) := by rw [set_off (by omega)]; exact hm
        refine ⟨t.length - (a + max 1 (runLen t a)), by omega, rfl, a + max 1 (runLen t a), l, c + max 1 (runLen t a), acc ++ [tokAt t a l c], f, ?_, set_at hm2, by omega, by simp; omega, by rw [← hx, lexR_good hk hg hkk], by omega, rfl, (hE.set _ (Nat.le_refl _)).set _ (by omega)⟩
        rw [set_off (by omega)]; exact set_at h
  · have hae : a = t.length := by omega
    refine .inl ⟨T, by rw [allC_ok h hl ha, decide_eq_false q], .inr ⟨a, l, c, acc, T, ?_, rfl, h, hm, by omega, hE⟩⟩
    rw [← hx, lexR_end (by rw [List.getElem?_eq_none (by omega)])]
def allI : DS := dIfS (dNot (dTru (dIsi "str" [] (dVar 0)))) (dSeq (dRaise "Misread" ["line", "column"] (dCons (dC (.int 0)) (dCons (dC (.int 0)) (dNil)))) (dNext)) (dNext)
def allP : DS := dPar 1 2 (dCons (dMake "Scanner" i_Scanner (dCons (dVar 0) (dNil))) (dCons (dLst (dNil)) (dNil)))
def allE : DS := dExpr (dMeth "list" gAppend (dVar 2) (dCons (dTup (dCons (dC (.str "end")) (dCons (dC (.str "")) (dCons (dTup (dCons (dFld ["Scanner"] "line" (dVar 1)) (dCons (dFld ["Scanner"] "column" (dVar 1)) (dNil)))) (dNil))))) (dNil)))
theorem all_parts : d_tokens i_Scanner m_Scanner_is_over m_Scanner_pass_gap m_Scanner_token = dSeq allI (dSeq allP (dSeq (dWhile allC allB) (dSeq allE (dSeq (dRet (dCall gTuple (dCons (dVar 2) (dNil)))) (dNext))))) := rfl
theorem isi_str {S : Store} {z : Str} : isiW "str" [] S (.str z) = .ok (.bl true) S := rfl
theorem tokens_ok {S : Store} {t : List Nat} (hl : t.length ≤ 1000000) : ∃ T, Ext S T ∧ f_tokens [.str (sx t)] S = match lex t with
    | .err l c => .exc "Misread" (tokMisread l c) T
    | .ok ts => .ok (.tup ts) T := by
  have eI : allI [some (.str (sx t)), none, none] S = .nx [some (.str (sx t)), none, none] S := by unfold allI; simp only [ap_dSeq, ap_dVar, ap_dC, ap_dOp, ap_dSub, ap_dBool, ap_dTru, ap_dNot, ap_dAnd, ap_dOr, ap_dIf, ap_dNil, ap_dCons, ap_dTup, ap_dLst, ap_dCall, ap_dCallF, ap_dMake, ap_dMethF, ap_dMeth, ap_dFld, ap_dIsi, ap_dSlice, ap_dNoPart, ap_dPart, ap_dNext, ap_dRet, ap_dRetN, ap_dExpr, ap_dBreak, ap_dCont, ap_dIfS, ap_dAsg, ap_gSet, ap_dPar, ap_dPar3, ap_dFor, ap_dSrc, R.bind_ok, R.bind_exc, R.fl_ok, R.fl_exc, List.getElem?_cons_zero, List.getElem?_cons_succ, List.set_cons_zero, List.set_cons_succ, bodyR_nx, bodyR_rt, bodyR_exc, rAdd_int, rSub_int, rOrd_int, gInt_int, List.append_nil, if_true, if_false, Bool.false_eq_true, Bool.not_true, Bool.not_false, rEq_int, rNe_int, isi_str, truW]
  have eP : allP [some (.str (sx t)), none, none] S = .nx [some (.str (sx t)), some (.ref S.length), some (.ref (S.length + 1))] (S ++ [scn t 0 1 1, .lst []]) := by
    unfold allP
    simp only [ap_dSeq, ap_dVar, ap_dC, ap_dOp, ap_dSub, ap_dBool, ap_dTru, ap_dNot, ap_dAnd, ap_dOr, ap_dIf, ap_dNil, ap_dCons, ap_dTup, ap_dLst, ap_dCall, ap_dCallF, ap_dMake, ap_dMethF, ap_dMeth, ap_dFld, ap_dIsi, ap_dSlice, ap_dNoPart, ap_dPart, ap_dNext, ap_dRet, ap_dRetN, ap_dExpr, ap_dBreak, ap_dCont, ap_dIfS, ap_dAsg, ap_gSet, ap_dPar, ap_dPar3, ap_dFor, ap_dSrc, R.bind_ok, R.bind_exc, R.fl_ok, R.fl_exc, List.getElem?_cons_zero, List.getElem?_cons_succ, List.set_cons_zero, List.set_cons_succ, bodyR_nx, bodyR_rt, bodyR_exc, rAdd_int, rSub_int, rOrd_int, gInt_int, List.append_nil, if_true, if_false, Bool.false_eq_true, Bool.not_true, Bool.not_false, rEq_int, rNe_int, init_ok]
    rw [if_pos (small (by simp))]
    simp
  have st : f_tokens [.str (sx t)] S = bodyR (dSeq (dWhile allC allB) (dSeq allE (dSeq (dRet (dCall gTuple (dCons (dVar 2) (dNil)))) (dNext))) [some (.str (sx t)), some (.ref S.length), some (.ref (S.length + 1))] (S ++ [scn t 0 1 1, .lst []])) := by
    show bodyR (d_tokens i_Scanner m_Scanner_is_over m_Scanner_pass_gap m_Scanner_token [some (.str (sx t)), none, none] S) = _
    rw [all_parts, seq_nx eI, seq_nx eP]
  rw [st]
  rcases all_loop (S := S) (x := some (.str (sx t))) hl with ⟨l, c, T, e1, e2, hE⟩ | ⟨a, l, c, acc, T, e1, e2, h1, h2, h3, hE⟩
  · refine ⟨T, hE, ?_⟩
    rw [ap_dSeq, e2, e1]
    rfl
  · refine ⟨T.set (S.length + 1) (.lst (acc ++ [endTok l c])), hE.set _ (by omega), ?_⟩
    rw [seq_nx e2, e1]
    have e5 := app_lst (w := endTok l c) h2 (Nat.lt_of_le_of_lt h3 (by decide))
    have e4 : allE [some (.str (sx t)), some (.ref S.length), some (.ref (S.length + 1))] T = .nx [some (.str (sx t)), some (.ref S.length), some (.ref (S.length + 1))] (T.set (S.length + 1) (.lst (acc ++ [endTok l c]))) := by
      have z2 : (2 : Nat) ≤ sizeLine := small (by decide)
      have z3 : (3 : Nat) ≤ sizeLine := small (by decide)
      unfold allE
      simp only [ap_dSeq, ap_dVar, ap_dC, ap_dOp, ap_dSub, ap_dBool, ap_dTru, ap_dNot, ap_dAnd, ap_dOr, ap_dIf, ap_dNil, ap_dCons, ap_dTup, ap_dLst, ap_dCall, ap_dCallF, ap_dMake, ap_dMethF, ap_dMeth, ap_dFld, ap_dIsi, ap_dSlice, ap_dNoPart, ap_dPart, ap_dNext, ap_dRet, ap_dRetN, ap_dExpr, ap_dBreak, ap_dCont, ap_dIfS, ap_dAsg, ap_gSet, ap_dPar, ap_dPar3, ap_dFor, ap_dSrc, R.bind_ok, R.bind_exc, R.fl_ok, R.fl_exc, List.getElem?_cons_zero, List.getElem?_cons_succ, List.set_cons_zero, List.set_cons_succ, bodyR_nx, bodyR_rt, bodyR_exc, rAdd_int, rSub_int, rOrd_int, gInt_int, List.append_nil, if_true, if_false, Bool.false_eq_true, Bool.not_true, Bool.not_false, rEq_int, rNe_int, hasT_lst h2, s_line h1, s_column h1, List.length_cons, List.length_nil, Nat.zero_add, Nat.reduceAdd, z2, z3]
      show (R.fl (gAppend (.ref (S.length + 1)) [endTok l c] T) _ _) = _
      rw [e5]; rfl
    rw [seq_nx e4]
    have e6 : gTuple [.ref (S.length + 1)] (T.set (S.length + 1) (.lst (acc ++ [endTok l c]))) = .ok (.tup (acc ++ [endTok l c])) (T.set (S.length + 1) (.lst (acc ++ [endTok l c]))) := by simp only [gTuple, seqW_at (set_at h2)]
    simp only [ap_dSeq, ap_dVar, ap_dC, ap_dOp, ap_dSub, ap_dBool, ap_dTru, ap_dNot, ap_dAnd, ap_dOr, ap_dIf, ap_dNil, ap_dCons, ap_dTup, ap_dLst, ap_dCall, ap_dCallF, ap_dMake, ap_dMethF, ap_dMeth, ap_dFld, ap_dIsi, ap_dSlice, ap_dNoPart, ap_dPart, ap_dNext, ap_dRet, ap_dRetN, ap_dExpr, ap_dBreak, ap_dCont, ap_dIfS, ap_dAsg, ap_gSet, ap_dPar, ap_dPar3, ap_dFor, ap_dSrc, R.bind_ok, R.bind_exc, R.fl_ok, R.fl_exc, List.getElem?_cons_zero, List.getElem?_cons_succ, List.set_cons_zero, List.set_cons_succ, bodyR_nx, bodyR_rt, bodyR_exc, rAdd_int, rSub_int, rOrd_int, gInt_int, List.append_nil, if_true, if_false, Bool.false_eq_true, Bool.not_true, Bool.not_false, rEq_int, rNe_int, e6]
theorem tokens_no {S : Store} {w : W} (h : isiW "str" [] S w = .ok (.bl false) S) : f_tokens [w] S = .exc "Misread" (tokMisread 0 0) S := by
  have e : dCons (dC (.int 0)) (dCons (dC (.int 0)) (dNil)) [some w, none, none] S = .ok [.int 0, .int 0] S := rfl
  show bodyR (d_tokens i_Scanner m_Scanner_is_over m_Scanner_pass_gap m_Scanner_token [some w, none, none] S) = _
  rw [all_parts]
  unfold allI
  simp only [ap_dSeq, ap_dVar, ap_dC, ap_dOp, ap_dSub, ap_dBool, ap_dTru, ap_dNot, ap_dAnd, ap_dOr, ap_dIf, ap_dNil, ap_dCons, ap_dTup, ap_dLst, ap_dCall, ap_dCallF, ap_dMake, ap_dMethF, ap_dMeth, ap_dFld, ap_dIsi, ap_dSlice, ap_dNoPart, ap_dPart, ap_dNext, ap_dRet, ap_dRetN, ap_dExpr, ap_dBreak, ap_dCont, ap_dIfS, ap_dAsg, ap_gSet, ap_dPar, ap_dPar3, ap_dFor, ap_dSrc, R.bind_ok, R.bind_exc, R.fl_ok, R.fl_exc, List.getElem?_cons_zero, List.getElem?_cons_succ, List.set_cons_zero, List.set_cons_succ, bodyR_nx, bodyR_rt, bodyR_exc, rAdd_int, rSub_int, rOrd_int, gInt_int, List.append_nil, if_true, if_false, Bool.false_eq_true, Bool.not_true, Bool.not_false, rEq_int, rNe_int, h, truW, dRaise2 e]
  rfl
end Dn

set_option maxHeartbeats 4000000
/-! the law's own words: keys, names, kinds -/
namespace Dn
open PySem PySem.Spec PyProof.Rows L2
theorem keys_ok {S : Store} : f__law_keys [] S = .ok (.ref S.length) (S ++ [.lst (keyStrs.map W.str)]) := by
  have z : (14 : Nat) ≤ sizeLine := small (by decide)
  show bodyR (d__law_keys [] S) = _
  unfold d__law_keys
  simp only [ap_dSeq, ap_dVar, ap_dC, ap_dOp, ap_dSub, ap_dBool, ap_dTru, ap_dNot, ap_dAnd, ap_dOr, ap_dIf, ap_dNil, ap_dCons, ap_dTup, ap_dLst, ap_dCall, ap_dCallF, ap_dMake, ap_dMethF, ap_dMeth, ap_dFld, ap_dIsi, ap_dSlice, ap_dNoPart, ap_dPart, ap_dNext, ap_dRet, ap_dRetN, ap_dExpr, ap_dBreak, ap_dCont, ap_dIfS, ap_dAsg, ap_gSet, ap_dPar, ap_dPar3, ap_dFor, ap_dSrc, R.bind_ok, R.bind_exc, R.fl_ok, R.fl_exc, List.getElem?_cons_zero, List.getElem?_cons_succ, List.set_cons_zero, List.set_cons_succ, bodyR_nx, bodyR_rt, bodyR_exc, rAdd_int, rSub_int, rOrd_int, gInt_int, List.append_nil, if_true, if_false, Bool.false_eq_true, Bool.not_true, Bool.not_false, rEq_int, rNe_int, List.length_cons, List.length_nil, Nat.zero_add, Nat.reduceAdd, z]
  rfl
theorem in_keys {S : Store} {w : List Nat} : rInW false (.str (sx w)) (.ref S.length) (S ++ [.lst (keyStrs.map W.str)]) = .ok (.bl (isKey w)) (S ++ [.lst (keyStrs.map W.str)]) := in_lst (by simp)
/-- the law's word for a name -/
def isNm (w : List Nat) : Bool := !(decide (w = [])) && (decide (w.length ≤ 12) && (!isKey w && (!isFig (w.headD 0) && w.all isRun)))
def nmC : DE := dComp (dSrc (dVar 0)) (gSet 1) (dBool (dOp (rInW true) (dVar 1) (dC (.str "abcdefghijklmnopqrstuvwxyz0123456789")))) (dVar 1) [1]
theorem nmC_ok {S : Store} {w : List Nat} (hl : w.length ≤ 1000000) : nmC [some (.str (sx w)), none] S = .ok (.ref S.length) (S ++ [.lst ((w.filter fun k => !isRun k).map fun k => .str (sx [k]))]) := by
  have e0 : dSrc (dVar 0) [some (.str (sx w)), none] S = .ok (w.map fun k => .str (sx [k]), fun _ => true) S := by
    have : srcW S (.str (sx w)) = some (w.map fun k => .str (sx [k]), fun _ => true) := by
      show some ((sx w).cps.toList.map fun k => W.str ⟨#[k]⟩, fun _ => true) = _
      rw [sx_cps]; rfl
    simp only [ap_dSeq, ap_dVar, ap_dC, ap_dOp, ap_dSub, ap_dBool, ap_dTru, ap_dNot, ap_dAnd, ap_dOr, ap_dIf, ap_dNil, ap_dCons, ap_dTup, ap_dLst, ap_dCall, ap_dCallF, ap_dMake, ap_dMethF, ap_dMeth, ap_dFld, ap_dIsi, ap_dSlice, ap_dNoPart, ap_dPart, ap_dNext, ap_dRet, ap_dRetN, ap_dExpr, ap_dBreak, ap_dCont, ap_dIfS, ap_dAsg, ap_gSet, ap_dPar, ap_dPar3, ap_dFor, ap_dSrc, R.bind_ok, R.bind_exc, R.fl_ok, R.fl_exc, List.getElem?_cons_zero, List.getElem?_cons_succ, List.set_cons_zero, List.set_cons_succ, bodyR_nx, bodyR_rt, bodyR_exc, rAdd_int, rSub_int, rOrd_int, gInt_int, List.append_nil, if_true, if_false, Bool.false_eq_true, Bool.not_true, Bool.not_false, rEq_int, rNe_int, this]
  obtain ⟨ys, S', e1, e2, ms, hm, hys⟩ := compL_rule (chk := fun _ => true) (g := gSet 1) (dt := dBool (dOp (rInW true) (dVar 1) (dC (.str "abcdefghijklmnopqrstuvwxyz0123456789")))) (de := dVar 1) (env0 := [some (.str (sx w)), none])
    (fun rest acc T => T = S ∧ ∃ ms : List Nat, rest = ms.map (fun k => .str (sx [k])) ∧ acc ++ ((ms.filter fun k => !isRun k).map fun k => W.str (sx [k])) = ((w.filter fun k => !isRun k).map fun k => W.str (sx [k])))
    (fun u rest acc T ⟨hT, ms, hr, ha⟩ => by
      subst hT
      cases ms with
      | nil => cases hr
      | cons k ms =>
        injection hr with hu hr
        subst hu
        have e3 : rInW true (.str (sx [k])) (.str "abcdefghijklmnopqrstuvwxyz0123456789") T = .ok (.bl (!isRun k)) T := by rw [notin_str, mem_run]
        refine ⟨rfl, _, T, rfl, ?_⟩
        cases h : isRun k with
        | true =>
          rw [h] at e3
          refine .inl ⟨T, by simp only [ap_dSeq, ap_dVar, ap_dC, ap_dOp, ap_dSub, ap_dBool, ap_dTru, ap_dNot, ap_dAnd, ap_dOr, ap_dIf, ap_dNil, ap_dCons, ap_dTup, ap_dLst, ap_dCall, ap_dCallF, ap_dMake, ap_dMethF, ap_dMeth, ap_dFld, ap_dIsi, ap_dSlice, ap_dNoPart, ap_dPart, ap_dNext, ap_dRet, ap_dRetN, ap_dExpr, ap_dBreak, ap_dCont, ap_dIfS, ap_dAsg, ap_gSet, ap_dPar, ap_dPar3, ap_dFor, ap_dSrc, R.bind_ok, R.bind_exc, R.fl_ok, R.fl_exc, List.getElem?_cons_zero, List.getElem?_cons_succ, List.set_cons_zero, List.set_cons_succ, bodyR_nx, bodyR_rt, bodyR_exc, rAdd_int, rSub_int, rOrd_int, gInt_int, List.append_nil, if_true, if_false, Bool.false_eq_true, Bool.not_true, Bool.not_false, rEq_int, rNe_int, e3], rfl, ms, hr, ?_⟩
          rw [List.filter_cons, h] at ha
          exact ha
        | false =>
          rw [h] at e3
          refine .inr ⟨T, .str (sx [k]), T, by simp only [ap_dSeq, ap_dVar, ap_dC, ap_dOp, ap_dSub, ap_dBool, ap_dTru, ap_dNot, ap_dAnd, ap_dOr, ap_dIf, ap_dNil, ap_dCons, ap_dTup, ap_dLst, ap_dCall, ap_dCallF, ap_dMake, ap_dMethF, ap_dMeth, ap_dFld, ap_dIsi, ap_dSlice, ap_dNoPart, ap_dPart, ap_dNext, ap_dRet, ap_dRetN, ap_dExpr, ap_dBreak, ap_dCont, ap_dIfS, ap_dAsg, ap_gSet, ap_dPar, ap_dPar3, ap_dFor, ap_dSrc, R.bind_ok, R.bind_exc, R.fl_ok, R.fl_exc, List.getElem?_cons_zero, List.getElem?_cons_succ, List.set_cons_zero, List.set_cons_succ, bodyR_nx, bodyR_rt, bodyR_exc, rAdd_int, rSub_int, rOrd_int, gInt_int, List.append_nil, if_true, if_false, Bool.false_eq_true, Bool.not_true, Bool.not_false, rEq_int, rNe_int, e3], by simp only [ap_dSeq, ap_dVar, ap_dC, ap_dOp, ap_dSub, ap_dBool, ap_dTru, ap_dNot, ap_dAnd, ap_dOr, ap_dIf, ap_dNil, ap_dCons, ap_dTup, ap_dLst, ap_dCall, ap_dCallF, ap_dMake, ap_dMethF, ap_dMeth, ap_dFld, ap_dIsi, ap_dSlice, ap_dNoPart, ap_dPart, ap_dNext, ap_dRet, ap_dRetN, ap_dExpr, ap_dBreak, ap_dCont, ap_dIfS, ap_dAsg, ap_gSet, ap_dPar, ap_dPar3, ap_dFor, ap_dSrc, R.bind_ok, R.bind_exc, R.fl_ok, R.fl_exc, List.getElem?_cons_zero, List.getElem?_cons_succ, List.set_cons_zero, List.set_cons_succ, bodyR_nx, bodyR_rt, bodyR_exc, rAdd_int, rSub_int, rOrd_int, gInt_int, List.append_nil, if_true, if_false, Bool.false_eq_true, Bool.not_true, Bool.not_false, rEq_int, rNe_int], rfl, ms, hr, ?_⟩
          rw [List.filter_cons, h] at ha
          simpa using ha)
    (fun acc T _ => rfl) (w.map fun k => .str (sx [k])) [] S ⟨rfl, w, rfl, by simp⟩
  have hms : ms = [] := by simpa using hm.symm
  subst hms
  subst e2
  rw [List.nil_append, List.filter_nil, List.map_nil, List.append_nil] at hys
  rw [hys] at e1
  exact dComp_ok e0 e1 (small (by rw [List.length_map]; exact Nat.le_trans (List.length_filter_le _ _) hl))
def ChrOk (t : List Nat) : Prop := ∀ k ∈ t, k < 1114112
theorem strOk_sx {t : List Nat} (h : ChrOk t) : PyData.strOk (sx t) = true := by
  unfold PyData.strOk
  rw [← Array.all_toList, sx_cps, List.all_eq_true]
  exact fun k hk => decide_eq_true (h k hk)
theorem toPyL_strs (dr : Nat → Option PyData) : ∀ ws : List Str, toPyL dr (ws.map W.str) = some (ws.map PyData.str)
  | [] => rfl
  | w :: ws => by
    show (match toPyA dr (.str w), toPyL dr (ws.map W.str) with | some d, some ds => some (d :: ds) | _, _ => none) = _
    rw [toPyL_strs dr ws]; rfl
theorem toPy_lst {S : Store} {n : Nat} {ws : List Str} (h : S[n]? = some (.lst (ws.map W.str))) : toPy S (.ref n) = some (.list (ws.map PyData.str)) := by
  show derefN S 8 n = _
  simp only [derefN, h, toPyL_strs, Option.map_some]
theorem canLay_strs : ∀ ws : List Str, (∀ w ∈ ws, PyData.strOk w = true) → PyData.canLayAll0 (ws.map PyData.str) = true
  | [], _ => rfl
  | w :: ws, h => by
    show (PyData.strOk w && PyData.canLayAll0 (ws.map PyData.str)) = true
    rw [h w List.mem_cons_self, canLay_strs ws fun u hu => h u (List.mem_cons_of_mem _ hu)]; rfl
theorem depth_strs : ∀ ws : List Str, PyData.depthAll (ws.map PyData.str) = 0
  | [] => rfl
  | w :: ws => by
    show max 0 (PyData.depthAll (ws.map PyData.str)) = 0
    rw [depth_strs ws]; rfl
theorem shaped_strs {ws : List Str} (h : ∀ w ∈ ws, PyData.strOk w = true) : SeqAt.shaped (.list (ws.map PyData.str)) = true := by
  show (PyData.canLayAll0 (ws.map PyData.str) && decide (PyData.depthAll (ws.map PyData.str) + 1 ≤ 64)) = true
  rw [canLay_strs ws h, depth_strs]; rfl
theorem eq_lsts {S : Store} {n m : Nat} {ws : List Str} (h1 : S[n]? = some (.lst (ws.map W.str))) (h2 : S[m]? = some (.lst [])) (h : ∀ w ∈ ws, PyData.strOk w = true) : rEqW false (.ref n) (.ref m) S = .ok (.bl ws.isEmpty) S := by
  have e1 := toPy_lst h1
  have e2 : toPy S (.ref m) = some (.list (([] : List Str).map PyData.str)) := toPy_lst (ws := []) h2
  have s1 := shaped_strs h
  have s2 := shaped_strs (ws := []) (fun w hw => by cases hw)
  have e3 : PyData.eqv (.list (ws.map PyData.str)) (.list (([] : List Str).map PyData.str)) = ws.isEmpty := by cases ws <;> rfl
  simp only [rEqW, flatW, e1, e2, s1, s2, e3]
  rfl
def nmT (f__law_keys : FW) : DT := dOr (dNot (dTru (dIsi "str" [] (dVar 0)))) (dOr (dBool (dOp (rEqW false) (dVar 0) (dC (.str "")))) (dOr (dBool (dOp rGt (dCall gLen (dCons (dVar 0) (dNil))) (dC (.int 12)))) (dOr (dBool (dOp (rInW false) (dVar 0) ((fun _ S => f__law_keys [] S)))) (dBool (dOp (rInW false) (dSub (dVar 0) (dC (.int 0))) (dC (.str "0123456789")))))))
theorem nm_parts (f : FW) : d__law_is_name f = dSeq (dIfS (nmT f) (dSeq (dRet (dC (.bl false))) (dNext)) (dNext)) (dSeq (dRet (dOp (rEqW false) nmC (dLst (dNil)))) (dNext)) := rfl
theorem eq_empty {S : Store} {w : List Nat} : rEqW false (.str (sx w)) (.str "") S = .ok (.bl (decide (w = []))) S := by
  rw [eq_str]
  have e : ("" : Str) = sx [] := by decide +kernel
  rw [e]
  have : decide (sx w = sx []) = decide (w = []) := decide_eq_decide.mpr sx_inj
  rw [this]
/-- what the first row asks -/
def nmBad (w : List Nat) : Bool := decide (w = []) || (decide (12 < w.length) || (isKey w || isFig (w.headD 0)))
theorem nmT_ok {S : Store} {w : List Nat} (hl : w.length ≤ 1000000) : ∃ T, Ext S T ∧ nmT f__law_keys [some (.str (sx w)), none] S = .ok (nmBad w) T := by
  have e4 : gLen [.str (sx w)] S = .ok (.int (w.length : Int)) S := by rw [len_str (by rw [sx_len]; exact small hl), sx_len]
  unfold nmT nmBad
  by_cases h0 : w = []
  · subst h0
    have e1 := eq_empty (S := S) (w := [])
    rw [decide_eq_true rfl] at e1
    exact ⟨S, Ext.refl S, by simp only [ap_dSeq, ap_dVar, ap_dC, ap_dOp, ap_dSub, ap_dBool, ap_dTru, ap_dNot, ap_dAnd, ap_dOr, ap_dIf, ap_dNil, ap_dCons, ap_dTup, ap_dLst, ap_dCall, ap_dCallF, ap_dMake, ap_dMethF, ap_dMeth, ap_dFld, ap_dIsi, ap_dSlice, ap_dNoPart, ap_dPart, ap_dNext, ap_dRet, ap_dRetN, ap_dExpr, ap_dBreak, ap_dCont, ap_dIfS, ap_dAsg, ap_gSet, ap_dPar, ap_dPar3, ap_dFor, ap_dSrc, R.bind_ok, R.bind_exc, R.fl_ok, R.fl_exc, List.getElem?_cons_zero, List.getElem?_cons_succ, List.set_cons_zero, List.set_cons_succ, bodyR_nx, bodyR_rt, bodyR_exc, rAdd_int, rSub_int, rOrd_int, gInt_int, List.append_nil, if_true, if_false, Bool.false_eq_true, Bool.not_true, Bool.not_false, rEq_int, rNe_int, isi_str, truW, e1]; rfl⟩
  · have e1 := eq_empty (S := S) (w := w)
    rw [decide_eq_false h0] at e1
    rw [decide_eq_false h0, Bool.false_or]
    by_cases h1 : 12 < w.length
    · have q1 : decide ((12 : Int) < (w.length : Int)) = true := decide_eq_true (by omega)
      exact ⟨S, Ext.refl S, by simp only [ap_dSeq, ap_dVar, ap_dC, ap_dOp, ap_dSub, ap_dBool, ap_dTru, ap_dNot, ap_dAnd, ap_dOr, ap_dIf, ap_dNil, ap_dCons, ap_dTup, ap_dLst, ap_dCall, ap_dCallF, ap_dMake, ap_dMethF, ap_dMeth, ap_dFld, ap_dIsi, ap_dSlice, ap_dNoPart, ap_dPart, ap_dNext, ap_dRet, ap_dRetN, ap_dExpr, ap_dBreak, ap_dCont, ap_dIfS, ap_dAsg, ap_gSet, ap_dPar, ap_dPar3, ap_dFor, ap_dSrc, R.bind_ok, R.bind_exc, R.fl_ok, R.fl_exc, List.getElem?_cons_zero, List.getElem?_cons_succ, List.set_cons_zero, List.set_cons_succ, bodyR_nx, bodyR_rt, bodyR_exc, rAdd_int, rSub_int, rOrd_int, gInt_int, List.append_nil, if_true, if_false, Bool.false_eq_true, Bool.not_true, Bool.not_false, rEq_int, rNe_int, isi_str, truW, e1, e4, q1]; rw [decide_eq_true h1]; rfl⟩
    · have q1 : decide ((12 : Int) < (w.length : Int)) = false := decide_eq_false (by omega)
      rw [decide_eq_false h1, Bool.false_or]
      refine ⟨S ++ [.lst (keyStrs.map W.str)], Ext.app _ _, ?_⟩
      have e5 := in_keys (S := S) (w := w)
      cases h2 : isKey w with
      | true =>
        rw [h2] at e5
        simp only [ap_dSeq, ap_dVar, ap_dC, ap_dOp, ap_dSub, ap_dBool, ap_dTru, ap_dNot, ap_dAnd, ap_dOr, ap_dIf, ap_dNil, ap_dCons, ap_dTup, ap_dLst, ap_dCall, ap_dCallF, ap_dMake, ap_dMethF, ap_dMeth, ap_dFld, ap_dIsi, ap_dSlice, ap_dNoPart, ap_dPart, ap_dNext, ap_dRet, ap_dRetN, ap_dExpr, ap_dBreak, ap_dCont, ap_dIfS, ap_dAsg, ap_gSet, ap_dPar, ap_dPar3, ap_dFor, ap_dSrc, R.bind_ok, R.bind_exc, R.fl_ok, R.fl_exc, List.getElem?_cons_zero, List.getElem?_cons_succ, List.set_cons_zero, List.set_cons_succ, bodyR_nx, bodyR_rt, bodyR_exc, rAdd_int, rSub_int, rOrd_int, gInt_int, List.append_nil, if_true, if_false, Bool.false_eq_true, Bool.not_true, Bool.not_false, rEq_int, rNe_int, isi_str, truW, e1, e4, q1, keys_ok, e5]
        rfl
      | false =>
        rw [h2] at e5
        obtain ⟨k, l, rfl⟩ : ∃ k l, w = k :: l := by cases w with | nil => exact absurd rfl h0 | cons k l => exact ⟨k, l, rfl⟩
        have e6 : ∀ T, subW (.str (sx (k :: l))) (.int 0) T = .ok (.str (sx [k])) T := fun T => ix_str (i := 0) (by rw [sx_len]; exact small hl) (by rw [sx_cps]; rfl)
        have e7 : ∀ T, rInW false (.str (sx [k])) (.str "0123456789") T = .ok (.bl (isFig k)) T := fun T => by rw [in_str, mem_fig]
        simp only [ap_dSeq, ap_dVar, ap_dC, ap_dOp, ap_dSub, ap_dBool, ap_dTru, ap_dNot, ap_dAnd, ap_dOr, ap_dIf, ap_dNil, ap_dCons, ap_dTup, ap_dLst, ap_dCall, ap_dCallF, ap_dMake, ap_dMethF, ap_dMeth, ap_dFld, ap_dIsi, ap_dSlice, ap_dNoPart, ap_dPart, ap_dNext, ap_dRet, ap_dRetN, ap_dExpr, ap_dBreak, ap_dCont, ap_dIfS, ap_dAsg, ap_gSet, ap_dPar, ap_dPar3, ap_dFor, ap_dSrc, R.bind_ok, R.bind_exc, R.fl_ok, R.fl_exc, List.getElem?_cons_zero, List.getElem?_cons_succ, List.set_cons_zero, List.set_cons_succ, bodyR_nx, bodyR_rt, bodyR_exc, rAdd_int, rSub_int, rOrd_int, gInt_int, List.append_nil, if_true, if_false, Bool.false_eq_true, Bool.not_true, Bool.not_false, rEq_int, rNe_int, isi_str, truW, e1, e4, q1, keys_ok, e5, e6, e7]
        rfl
theorem filter_empty (w : List Nat) : ((w.filter fun k => !isRun k).map fun k => sx [k]).isEmpty = w.all isRun := by
  induction w with
  | nil => rfl
  | cons k w ih =>
    rw [List.filter_cons, List.all_cons]
    cases h : isRun k with
    | true => simpa using ih
    | false => rfl
theorem isNm_of (w : List Nat) : isNm w = (!nmBad w && w.all isRun) := by
  unfold isNm nmBad
  have : decide (w.length ≤ 12) = !decide (12 < w.length) := by
    by_cases h : 12 < w.length
    · rw [decide_eq_true h, decide_eq_false (by omega)]; rfl
    · rw [decide_eq_false h, decide_eq_true (by omega)]; rfl
  rw [this]
  cases decide (w = []) <;> cases decide (12 < w.length) <;> cases isKey w <;> cases isFig (w.headD 0) <;> rfl
theorem lawname_ok {S : Store} {w : List Nat} (hl : w.length ≤ 1000000) (hc : ChrOk w) : ∃ T, Ext S T ∧ f__law_is_name [.str (sx w)] S = .ok (.bl (isNm w)) T := by
  obtain ⟨T, hE, e1⟩ := nmT_ok (S := S) hl
  have st : f__law_is_name [.str (sx w)] S = bodyR (dSeq (dIfS (nmT f__law_keys) (dSeq (dRet (dC (.bl false))) (dNext)) (dNext)) (dSeq (dRet (dOp (rEqW false) nmC (dLst (dNil)))) (dNext)) [some (.str (sx w)), none] S) := by
    show bodyR (d__law_is_name f__law_keys [some (.str (sx w)), none] S) = _
    rw [nm_parts]
  rw [st, isNm_of]
  cases h : nmBad w with
  | true =>
    rw [h] at e1
    exact ⟨T, hE, by simp only [ap_dSeq, ap_dVar, ap_dC, ap_dOp, ap_dSub, ap_dBool, ap_dTru, ap_dNot, ap_dAnd, ap_dOr, ap_dIf, ap_dNil, ap_dCons, ap_dTup, ap_dLst, ap_dCall, ap_dCallF, ap_dMake, ap_dMethF, ap_dMeth, ap_dFld, ap_dIsi, ap_dSlice, ap_dNoPart, ap_dPart, ap_dNext, ap_dRet, ap_dRetN, ap_dExpr, ap_dBreak, ap_dCont, ap_dIfS, ap_dAsg, ap_gSet, ap_dPar, ap_dPar3, ap_dFor, ap_dSrc, R.bind_ok, R.bind_exc, R.fl_ok, R.fl_exc, List.getElem?_cons_zero, List.getElem?_cons_succ, List.set_cons_zero, List.set_cons_succ, bodyR_nx, bodyR_rt, bodyR_exc, rAdd_int, rSub_int, rOrd_int, gInt_int, List.append_nil, if_true, if_false, Bool.false_eq_true, Bool.not_true, Bool.not_false, rEq_int, rNe_int, e1]; rfl⟩
  | false =>
    rw [h] at e1
    have e2 := nmC_ok (S := T) hl
    have e2' : nmC [some (.str (sx w)), none] T = .ok (.ref T.length) (T ++ [.lst (((w.filter fun k => !isRun k).map fun k => sx [k]).map W.str)]) := by rw [e2, List.map_map]; rfl
    have z : (0 : Nat) ≤ sizeLine := Nat.zero_le _
    have e3 : rEqW false (.ref T.length) (.ref (T ++ [Cell.lst (((w.filter fun k => !isRun k).map fun k => sx [k]).map W.str)]).length) ((T ++ [Cell.lst (((w.filter fun k => !isRun k).map fun k => sx [k]).map W.str)]) ++ [.lst []]) = .ok (.bl (w.all isRun)) ((T ++ [Cell.lst (((w.filter fun k => !isRun k).map fun k => sx [k]).map W.str)]) ++ [.lst []]) := by
      rw [← filter_empty w]
      refine eq_lsts ?_ (by rw [List.getElem?_append_right (Nat.le_refl _), Nat.sub_self]; rfl) fun x hx => ?_
      · rw [List.getElem?_append_left (by simp), List.getElem?_append_right (Nat.le_refl _), Nat.sub_self]; rfl
      · obtain ⟨k, hk, rfl⟩ := List.mem_map.mp hx
        exact strOk_sx fun j hj => by rw [List.mem_singleton.mp hj]; exact hc k (List.mem_filter.mp hk).1
    refine ⟨(T ++ [Cell.lst (((w.filter fun k => !isRun k).map fun k => sx [k]).map W.str)]) ++ [.lst []], (hE.trans (Ext.app _ _)).trans (Ext.app _ _), ?_⟩
    simp only [ap_dSeq, ap_dVar, ap_dC, ap_dOp, ap_dSub, ap_dBool, ap_dTru, ap_dNot, ap_dAnd, ap_dOr, ap_dIf, ap_dNil, ap_dCons, ap_dTup, ap_dLst, ap_dCall, ap_dCallF, ap_dMake, ap_dMethF, ap_dMeth, ap_dFld, ap_dIsi, ap_dSlice, ap_dNoPart, ap_dPart, ap_dNext, ap_dRet, ap_dRetN, ap_dExpr, ap_dBreak, ap_dCont, ap_dIfS, ap_dAsg, ap_gSet, ap_dPar, ap_dPar3, ap_dFor, ap_dSrc, R.bind_ok, R.bind_exc, R.fl_ok, R.fl_exc, List.getElem?_cons_zero, List.getElem?_cons_succ, List.set_cons_zero, List.set_cons_succ, bodyR_nx, bodyR_rt, bodyR_exc, rAdd_int, rSub_int, rOrd_int, gInt_int, List.append_nil, if_true, if_false, Bool.false_eq_true, Bool.not_true, Bool.not_false, rEq_int, rNe_int, e1, e2', List.length_nil, z, e3]
    rfl
end Dn

set_option maxHeartbeats 4000000
/-! the law's own look at a text -/
namespace Dn
open PySem PySem.Spec PyProof.Rows L2
theorem let_fig {k : Nat} (h : isRun k = true) : isLet k = !isFig k := by
  unfold isRun at h
  unfold isLet isFig at *
  by_cases h1 : 97 ≤ k <;> by_cases h2 : k ≤ 122 <;> by_cases h3 : 48 ≤ k <;> by_cases h4 : k ≤ 57 <;> simp [h1, h2, h3, h4] at h ⊢ <;> omega
theorem kindW_run {w : List Nat} (h0 : w ≠ []) (hr : w.all isRun = true) : kindW w = if isKey w = true then .str "key" else if isNm w = true then .str "name" else .non := by
  obtain ⟨k, l, rfl⟩ : ∃ k l, w = k :: l := by cases w with | nil => exact absurd rfl h0 | cons k l => exact ⟨k, l, rfl⟩
  have hk : isRun k = true := by
    rw [List.all_cons] at hr
    exact (Bool.and_eq_true_iff.mp hr).1
  have hf := let_fig hk
  cases h1 : isKey (k :: l) with
  | true => rw [kindW_key h1]; rfl
  | false =>
    have e : isNm (k :: l) = (isLet k && decide ((k :: l).length ≤ 12)) := by
      unfold isNm
      rw [hr, h1, hf]
      simp only [List.headD_cons, decide_eq_false h0]
      cases isFig k <;> cases decide ((k :: l).length ≤ 12) <;> rfl
    unfold kindW
    rw [h1, e]
    rfl
theorem kindword_ok {S : Store} {w : List Nat} (hl : w.length ≤ 1000000) (hc : ChrOk w) (h0 : w ≠ []) (hr : w.all isRun = true) : ∃ T, Ext S T ∧ f__law_kind_of_word [.str (sx w)] S = .ok (kindW w) T := by
  obtain ⟨T, hE, e1⟩ := lawname_ok (S := S ++ [.lst (keyStrs.map W.str)]) hl hc
  have e0 := in_keys (S := S) (w := w)
  rw [kindW_run h0 hr]
  cases h1 : isKey w with
  | true =>
    rw [h1] at e0
    refine ⟨S ++ [.lst (keyStrs.map W.str)], Ext.app _ _, ?_⟩
    show bodyR (d__law_kind_of_word f__law_is_name f__law_keys [some (.str (sx w))] S) = _
    unfold d__law_kind_of_word
    simp only [ap_dSeq, ap_dVar, ap_dC, ap_dOp, ap_dSub, ap_dBool, ap_dTru, ap_dNot, ap_dAnd, ap_dOr, ap_dIf, ap_dNil, ap_dCons, ap_dTup, ap_dLst, ap_dCall, ap_dCallF, ap_dMake, ap_dMethF, ap_dMeth, ap_dFld, ap_dIsi, ap_dSlice, ap_dNoPart, ap_dPart, ap_dNext, ap_dRet, ap_dRetN, ap_dExpr, ap_dBreak, ap_dCont, ap_dIfS, ap_dAsg, ap_gSet, ap_dPar, ap_dPar3, ap_dFor, ap_dSrc, R.bind_ok, R.bind_exc, R.fl_ok, R.fl_exc, List.getElem?_cons_zero, List.getElem?_cons_succ, List.set_cons_zero, List.set_cons_succ, bodyR_nx, bodyR_rt, bodyR_exc, rAdd_int, rSub_int, rOrd_int, gInt_int, List.append_nil, if_true, if_false, Bool.false_eq_true, Bool.not_true, Bool.not_false, rEq_int, rNe_int, keys_ok, e0]
  | false =>
    rw [h1] at e0
    refine ⟨T, (Ext.app _ _).trans hE, ?_⟩
    show bodyR (d__law_kind_of_word f__law_is_name f__law_keys [some (.str (sx w))] S) = _
    unfold d__law_kind_of_word
    cases h2 : isNm w with
    | true =>
      rw [h2] at e1
      simp only [ap_dSeq, ap_dVar, ap_dC, ap_dOp, ap_dSub, ap_dBool, ap_dTru, ap_dNot, ap_dAnd, ap_dOr, ap_dIf, ap_dNil, ap_dCons, ap_dTup, ap_dLst, ap_dCall, ap_dCallF, ap_dMake, ap_dMethF, ap_dMeth, ap_dFld, ap_dIsi, ap_dSlice, ap_dNoPart, ap_dPart, ap_dNext, ap_dRet, ap_dRetN, ap_dExpr, ap_dBreak, ap_dCont, ap_dIfS, ap_dAsg, ap_gSet, ap_dPar, ap_dPar3, ap_dFor, ap_dSrc, R.bind_ok, R.bind_exc, R.fl_ok, R.fl_exc, List.getElem?_cons_zero, List.getElem?_cons_succ, List.set_cons_zero, List.set_cons_succ, bodyR_nx, bodyR_rt, bodyR_exc, rAdd_int, rSub_int, rOrd_int, gInt_int, List.append_nil, if_true, if_false, Bool.false_eq_true, Bool.not_true, Bool.not_false, rEq_int, rNe_int, keys_ok, e0, e1, truW]
    | false =>
      rw [h2] at e1
      simp only [ap_dSeq, ap_dVar, ap_dC, ap_dOp, ap_dSub, ap_dBool, ap_dTru, ap_dNot, ap_dAnd, ap_dOr, ap_dIf, ap_dNil, ap_dCons, ap_dTup, ap_dLst, ap_dCall, ap_dCallF, ap_dMake, ap_dMethF, ap_dMeth, ap_dFld, ap_dIsi, ap_dSlice, ap_dNoPart, ap_dPart, ap_dNext, ap_dRet, ap_dRetN, ap_dExpr, ap_dBreak, ap_dCont, ap_dIfS, ap_dAsg, ap_gSet, ap_dPar, ap_dPar3, ap_dFor, ap_dSrc, R.bind_ok, R.bind_exc, R.fl_ok, R.fl_exc, List.getElem?_cons_zero, List.getElem?_cons_succ, List.set_cons_zero, List.set_cons_succ, bodyR_nx, bodyR_rt, bodyR_exc, rAdd_int, rSub_int, rOrd_int, gInt_int, List.append_nil, if_true, if_false, Bool.false_eq_true, Bool.not_true, Bool.not_false, rEq_int, rNe_int, keys_ok, e0, e1, truW]
/-! the rows of the look -/
def dueM : DS := dFor (dRng1 (dCall gLen (dCons (dVar 0) (dNil)))) (gSet 9) (dSeq (dIfS (dAnd (dBool (dOp rLt (dOp rAdd (dVar 4) (dVar 8)) (dCall gLen (dCons (dVar 0) (dNil))))) (dBool (dOp (rInW false) (dSub (dVar 0) (dOp rAdd (dVar 4) (dVar 8))) (dVar 5)))) (dSeq (dAsg (dOp rAdd (dVar 8) (dC (.int 1))) (gSet 8)) (dNext)) (dNext)) (dNext))
def dueMB : DS := dSeq (dIfS (dAnd (dBool (dOp rLt (dOp rAdd (dVar 4) (dVar 8)) (dCall gLen (dCons (dVar 0) (dNil))))) (dBool (dOp (rInW false) (dSub (dVar 0) (dOp rAdd (dVar 4) (dVar 8))) (dVar 5)))) (dSeq (dAsg (dOp rAdd (dVar 8) (dC (.int 1))) (gSet 8)) (dNext)) (dNext)) (dNext)
def runS : Str := "abcdefghijklmnopqrstuvwxyz0123456789"
/-- the law's names: text, found, line, column, at, run, lap, sign, many, step, word, kind -/
def dueE (t : List Nat) (n l c a : Nat) (x6 x7 x8 x9 x10 x11 : Option W) : Env := [some (.str (sx t)), some (.ref n), some (.int (l : Int)), some (.int (c : Int)), some (.int (a : Int)), some (.str runS), x6, x7, x8, x9, x10, x11]
section
variable {S : Store} {n : Nat} {t : List Nat} {a l c : Nat} {x6 x7 x8 x9 x10 x11 : Option W}
theorem dueMB_ok {j : Nat} (hl : t.length ≤ 1000000) (ha : a ≤ t.length) (hj : j ≤ runLen t a) : dueMB (dueE t n l c a x6 x7 (some (.int (j : Int))) x9 x10 x11) S = .nx (dueE t n l c a x6 x7 (some (.int ((if j < runLen t a then j + 1 else j : Nat) : Int))) x9 x10 x11) S := by
  have e1 : gLen [.str (sx t)] S = .ok (.int (t.length : Int)) S := by rw [len_str (by rw [sx_len]; exact small hl), sx_len]
  have ea : ((a : Int) + (j : Int)) = ((a + j : Nat) : Int) := by omega
  have e5 : ∀ k, rInW false (.str (sx [k])) (.str runS) S = .ok (.bl (isRun k)) S := fun k => by
    have := mem_run k
    rw [in_str]
    exact congrArg (fun b => R.ok (W.bl b) S) this
  have hle := run_lt ha
  unfold dueMB dueE
  by_cases q : j < runLen t a
  · obtain ⟨k, e2, e3⟩ := run_get q
    have e4 : subW (.str (sx t)) (.int ((a + j : Nat) : Int)) S = .ok (.str (sx [k])) S := ix_str (by rw [sx_len]; exact small hl) (by rw [sx_cps]; exact e2)
    have e5 := e5 k
    rw [e3] at e5
    have e6 : decide (((a + j : Nat) : Int) < (t.length : Int)) = true := decide_eq_true (by omega)
    rw [if_pos q]
    simp only [ap_dSeq, ap_dVar, ap_dC, ap_dOp, ap_dSub, ap_dBool, ap_dTru, ap_dNot, ap_dAnd, ap_dOr, ap_dIf, ap_dNil, ap_dCons, ap_dTup, ap_dLst, ap_dCall, ap_dCallF, ap_dMake, ap_dMethF, ap_dMeth, ap_dFld, ap_dIsi, ap_dSlice, ap_dNoPart, ap_dPart, ap_dNext, ap_dRet, ap_dRetN, ap_dExpr, ap_dBreak, ap_dCont, ap_dIfS, ap_dAsg, ap_gSet, ap_dPar, ap_dPar3, ap_dFor, ap_dSrc, R.bind_ok, R.bind_exc, R.fl_ok, R.fl_exc, List.getElem?_cons_zero, List.getElem?_cons_succ, List.set_cons_zero, List.set_cons_succ, bodyR_nx, bodyR_rt, bodyR_exc, rAdd_int, rSub_int, rOrd_int, gInt_int, List.append_nil, if_true, if_false, Bool.false_eq_true, Bool.not_true, Bool.not_false, rEq_int, rNe_int, e1, ea, e4, e5, e6]
    rfl
  · have hj' : j = runLen t a := by omega
    rw [if_neg q]
    by_cases q2 : a + j < t.length
    · have e6 : decide (((a + j : Nat) : Int) < (t.length : Int)) = true := decide_eq_true (by omega)
      have e2 : t[a + j]? = some t[a + j] := List.getElem?_eq_getElem q2
      have e3 : isRun t[a + j] = false := run_end (t := t) (a := a) (by rw [← hj']; exact e2)
      have e4 : subW (.str (sx t)) (.int ((a + j : Nat) : Int)) S = .ok (.str (sx [t[a + j]])) S := ix_str (by rw [sx_len]; exact small hl) (by rw [sx_cps]; exact e2)
      have e5 := e5 t[a + j]
      rw [e3] at e5
      simp only [ap_dSeq, ap_dVar, ap_dC, ap_dOp, ap_dSub, ap_dBool, ap_dTru, ap_dNot, ap_dAnd, ap_dOr, ap_dIf, ap_dNil, ap_dCons, ap_dTup, ap_dLst, ap_dCall, ap_dCallF, ap_dMake, ap_dMethF, ap_dMeth, ap_dFld, ap_dIsi, ap_dSlice, ap_dNoPart, ap_dPart, ap_dNext, ap_dRet, ap_dRetN, ap_dExpr, ap_dBreak, ap_dCont, ap_dIfS, ap_dAsg, ap_gSet, ap_dPar, ap_dPar3, ap_dFor, ap_dSrc, R.bind_ok, R.bind_exc, R.fl_ok, R.fl_exc, List.getElem?_cons_zero, List.getElem?_cons_succ, List.set_cons_zero, List.set_cons_succ, bodyR_nx, bodyR_rt, bodyR_exc, rAdd_int, rSub_int, rOrd_int, gInt_int, List.append_nil, if_true, if_false, Bool.false_eq_true, Bool.not_true, Bool.not_false, rEq_int, rNe_int, e1, ea, e4, e5, e6]
    · have e6 : decide (((a + j : Nat) : Int) < (t.length : Int)) = false := decide_eq_false (by omega)
      simp only [ap_dSeq, ap_dVar, ap_dC, ap_dOp, ap_dSub, ap_dBool, ap_dTru, ap_dNot, ap_dAnd, ap_dOr, ap_dIf, ap_dNil, ap_dCons, ap_dTup, ap_dLst, ap_dCall, ap_dCallF, ap_dMake, ap_dMethF, ap_dMeth, ap_dFld, ap_dIsi, ap_dSlice, ap_dNoPart, ap_dPart, ap_dNext, ap_dRet, ap_dRetN, ap_dExpr, ap_dBreak, ap_dCont, ap_dIfS, ap_dAsg, ap_gSet, ap_dPar, ap_dPar3, ap_dFor, ap_dSrc, R.bind_ok, R.bind_exc, R.fl_ok, R.fl_exc, List.getElem?_cons_zero, List.getElem?_cons_succ, List.set_cons_zero, List.set_cons_succ, bodyR_nx, bodyR_rt, bodyR_exc, rAdd_int, rSub_int, rOrd_int, gInt_int, List.append_nil, if_true, if_false, Bool.false_eq_true, Bool.not_true, Bool.not_false, rEq_int, rNe_int, e1, ea, e6]
theorem dueM_ok (hl : t.length ≤ 1000000) (ha : a < t.length) (hr : 1 ≤ runLen t a) : ∃ y, dueM (dueE t n l c a x6 x7 (some (.int ((1 : Nat) : Int))) x9 x10 x11) S = .nx (dueE t n l c a x6 x7 (some (.int (runLen t a : Int))) y x10 x11) S := by
  have e1 : gLen [.str (sx t)] S = .ok (.int (t.length : Int)) S := by rw [len_str (by rw [sx_len]; exact small hl), sx_len]
  have er : dRng1 (dCall gLen (dCons (dVar 0) (dNil))) (dueE t n l c a x6 x7 (some (.int ((1 : Nat) : Int))) x9 x10 x11) S = .ok ((List.range t.length).map fun i => .int ((i : Nat) : Int), fun _ => true) S := rng1 (by unfold dueE; simp only [ap_dSeq, ap_dVar, ap_dC, ap_dOp, ap_dSub, ap_dBool, ap_dTru, ap_dNot, ap_dAnd, ap_dOr, ap_dIf, ap_dNil, ap_dCons, ap_dTup, ap_dLst, ap_dCall, ap_dCallF, ap_dMake, ap_dMethF, ap_dMeth, ap_dFld, ap_dIsi, ap_dSlice, ap_dNoPart, ap_dPart, ap_dNext, ap_dRet, ap_dRetN, ap_dExpr, ap_dBreak, ap_dCont, ap_dIfS, ap_dAsg, ap_gSet, ap_dPar, ap_dPar3, ap_dFor, ap_dSrc, R.bind_ok, R.bind_exc, R.fl_ok, R.fl_exc, List.getElem?_cons_zero, List.getElem?_cons_succ, List.set_cons_zero, List.set_cons_succ, bodyR_nx, bodyR_rt, bodyR_exc, rAdd_int, rSub_int, rOrd_int, gInt_int, List.append_nil, if_true, if_false, Bool.false_eq_true, Bool.not_true, Bool.not_false, rEq_int, rNe_int, e1]) (by omega)
  have hle := run_le t a
  have key := forL_rule (chk := fun _ => true) (g := gSet 9) (body := dueMB)
    (fun rest env T => T = S ∧ ∃ (j : Nat) (y : Option W), env = dueE t n l c a x6 x7 (some (.int (j : Int))) y x10 x11 ∧ j ≤ runLen t a ∧ runLen t a ≤ j + rest.length)
    (fun fl => ∃ y, fl = .nx (dueE t n l c a x6 x7 (some (.int (runLen t a : Int))) y x10 x11) S)
    (fun w rest env T ⟨hT, j, y, e, hj, hrest⟩ => by
      subst hT e
      refine ⟨rfl, dueE t n l c a x6 x7 (some (.int (j : Int))) (some w) x10 x11, T, rfl, ?_⟩
      rw [dueMB_ok hl (by omega) hj]
      rw [List.length_cons] at hrest
      by_cases q : j < runLen t a
      · exact ⟨rfl, j + 1, some w, by rw [if_pos q], by omega, by omega⟩
      · exact ⟨rfl, j, some w, by rw [if_neg q], by omega, by omega⟩)
    (fun env T ⟨hT, j, y, e, hj, hrest⟩ => by
      subst hT
      have : j = runLen t a := by rw [List.length_nil] at hrest; omega
      exact ⟨rfl, y, by rw [e, this]⟩)
    ((List.range t.length).map fun i => .int ((i : Nat) : Int)) (dueE t n l c a x6 x7 (some (.int ((1 : Nat) : Int))) x9 x10 x11) S ⟨rfl, 1, x9, rfl, hr, by simp; omega⟩
  obtain ⟨y, e⟩ := key
  refine ⟨y, ?_⟩
  show dFor (dRng1 (dCall gLen (dCons (dVar 0) (dNil)))) (gSet 9) dueMB _ S = _
  rw [ap_dFor, er]
  exact e
end
end Dn

set_option maxHeartbeats 4000000
/-! the law's own look at a text, turn by turn -/
namespace Dn
open PySem PySem.Spec PyProof.Rows L2
def dueA : DS := dIfS (dBool (dOp rGe (dVar 4) (dCall gLen (dCons (dVar 0) (dNil))))) (dSeq (dBreak) (dNext)) (dNext)
def dueB : DS := dAsg (dSub (dVar 0) (dVar 4)) (gSet 7)
def dueC : DS := dIfS (dBool (dOp (rEqW false) (dVar 7) (dC (.str "#")))) (dSeq (dAsg (dCall gLen (dCons (dSub (dMeth "str" gSplit (dSlice (dVar 0) (dPart (dVar 4)) (dNoPart)) (dCons (dC (.str "\n")) (dNil))) (dC (.int 0))) (dNil))) (gSet 8)) (dSeq (dPar 4 3 (dCons (dOp rAdd (dVar 4) (dVar 8)) (dCons (dOp rAdd (dVar 3) (dVar 8)) (dNil)))) (dSeq (dCont) (dNext)))) (dNext)
def dueD : DS := dIfS (dBool (dOp (rInW false) (dVar 7) (dC (.str " \n")))) (dSeq (dAsg (dIf (dBool (dOp (rEqW false) (dVar 7) (dC (.str "\n")))) (dTup (dCons (dOp rAdd (dVar 2) (dC (.int 1))) (dCons (dC (.int 1)) (dNil)))) (dTup (dCons (dVar 2) (dCons (dOp rAdd (dVar 3) (dC (.int 1))) (dNil))))) (gTupW [gSet 2, gSet 3])) (dSeq (dAsg (dOp rAdd (dVar 4) (dC (.int 1))) (gSet 4)) (dSeq (dCont) (dNext)))) (dNext)
def dueF : DS := dAsg (dC (.int 1)) (gSet 8)
def dueG : DS := dIfS (dBool (dOp (rInW false) (dVar 7) (dVar 5))) (dSeq dueM (dNext)) (dNext)
def dueH : DS := dAsg (dSlice (dVar 0) (dPart (dVar 4)) (dPart (dOp rAdd (dVar 4) (dVar 8)))) (gSet 10)
def dueI : DS := dAsg (dIf (dBool (dOp (rInW false) (dVar 10) (dLst (dCons (dC (.str "{")) (dCons (dC (.str "}")) (dCons (dC (.str ";")) (dNil))))))) (dC (.str "sign")) (dIf (dBool (dOp (rInW false) (dVar 7) (dVar 5))) (dCallF f__law_kind_of_word [] (dCons (dVar 10) (dNil))) (dC .non))) (gSet 11)
def dueJ : DS := dIfS (dBool (dOp (rIs false) (dVar 11) (dC .non))) (dSeq (dRet (dTup (dCons (dLst (dCons (dC (.str "read")) (dCons (dVar 2) (dCons (dVar 3) (dNil))))) (dCons (dC .non) (dNil))))) (dNext)) (dNext)
def dueK : DS := dExpr (dMeth "list" gAppend (dVar 1) (dCons (dTup (dCons (dVar 11) (dCons (dVar 10) (dCons (dTup (dCons (dVar 2) (dCons (dVar 3) (dNil)))) (dNil))))) (dNil)))
def dueL : DS := dPar 4 3 (dCons (dOp rAdd (dVar 4) (dVar 8)) (dCons (dOp rAdd (dVar 3) (dVar 8)) (dNil)))
def dueBody : DS := dSeq dueA (dSeq dueB (dSeq dueC (dSeq dueD (dSeq dueF (dSeq dueG (dSeq dueH (dSeq dueI (dSeq dueJ (dSeq dueK (dSeq dueL dNext))))))))))
def dueInit : DS := dAsg (dTup (dCons (dLst (dNil)) (dCons (dC (.int 1)) (dCons (dC (.int 1)) (dCons (dC (.int 0)) (dCons (dC (.str "abcdefghijklmnopqrstuvwxyz0123456789")) (dNil))))))) (gTupW [gSet 1, gSet 2, gSet 3, gSet 4, gSet 5])
def dueEnd : DS := dRet (dTup (dCons (dC .non) (dCons (dCall gTuple (dCons (dOp rAdd (dVar 1) (dLst (dCons (dTup (dCons (dC (.str "end")) (dCons (dC (.str "")) (dCons (dTup (dCons (dVar 2) (dCons (dVar 3) (dNil)))) (dNil))))) (dNil)))) (dNil))) (dNil))))
theorem due_parts : d__law_due f__law_kind_of_word = dSeq dueInit (dSeq (dFor (dRng1 (dOp rAdd (dCall gLen (dCons (dVar 0) (dNil))) (dC (.int 1)))) (gSet 6) dueBody) (dSeq dueEnd (dNext))) := rfl
section
variable {S : Store} {n : Nat} {t : List Nat} {a l c k : Nat} {x6 x7 x8 x9 x10 x11 : Option W} {acc : List W}
theorem dueA_no (hl : t.length ≤ 1000000) (ha : a < t.length) : dueA (dueE t n l c a x6 x7 x8 x9 x10 x11) S = .nx (dueE t n l c a x6 x7 x8 x9 x10 x11) S := by
  have e1 : gLen [.str (sx t)] S = .ok (.int (t.length : Int)) S := by rw [len_str (by rw [sx_len]; exact small hl), sx_len]
  have q : decide ((t.length : Int) ≤ (a : Int)) = false := decide_eq_false (by omega)
  unfold dueA dueE
  simp only [ap_dSeq, ap_dVar, ap_dC, ap_dOp, ap_dSub, ap_dBool, ap_dTru, ap_dNot, ap_dAnd, ap_dOr, ap_dIf, ap_dNil, ap_dCons, ap_dTup, ap_dLst, ap_dCall, ap_dCallF, ap_dMake, ap_dMethF, ap_dMeth, ap_dFld, ap_dIsi, ap_dSlice, ap_dNoPart, ap_dPart, ap_dNext, ap_dRet, ap_dRetN, ap_dExpr, ap_dBreak, ap_dCont, ap_dIfS, ap_dAsg, ap_gSet, ap_dPar, ap_dPar3, ap_dFor, ap_dSrc, R.bind_ok, R.bind_exc, R.fl_ok, R.fl_exc, List.getElem?_cons_zero, List.getElem?_cons_succ, List.set_cons_zero, List.set_cons_succ, bodyR_nx, bodyR_rt, bodyR_exc, rAdd_int, rSub_int, rOrd_int, gInt_int, List.append_nil, if_true, if_false, Bool.false_eq_true, Bool.not_true, Bool.not_false, rEq_int, rNe_int, e1, q]
theorem dueA_yes (hl : t.length ≤ 1000000) (ha : t.length ≤ a) : dueA (dueE t n l c a x6 x7 x8 x9 x10 x11) S = .bk (dueE t n l c a x6 x7 x8 x9 x10 x11) S := by
  have e1 : gLen [.str (sx t)] S = .ok (.int (t.length : Int)) S := by rw [len_str (by rw [sx_len]; exact small hl), sx_len]
  have q : decide ((t.length : Int) ≤ (a : Int)) = true := decide_eq_true (by omega)
  unfold dueA dueE
  simp only [ap_dSeq, ap_dVar, ap_dC, ap_dOp, ap_dSub, ap_dBool, ap_dTru, ap_dNot, ap_dAnd, ap_dOr, ap_dIf, ap_dNil, ap_dCons, ap_dTup, ap_dLst, ap_dCall, ap_dCallF, ap_dMake, ap_dMethF, ap_dMeth, ap_dFld, ap_dIsi, ap_dSlice, ap_dNoPart, ap_dPart, ap_dNext, ap_dRet, ap_dRetN, ap_dExpr, ap_dBreak, ap_dCont, ap_dIfS, ap_dAsg, ap_gSet, ap_dPar, ap_dPar3, ap_dFor, ap_dSrc, R.bind_ok, R.bind_exc, R.fl_ok, R.fl_exc, List.getElem?_cons_zero, List.getElem?_cons_succ, List.set_cons_zero, List.set_cons_succ, bodyR_nx, bodyR_rt, bodyR_exc, rAdd_int, rSub_int, rOrd_int, gInt_int, List.append_nil, if_true, if_false, Bool.false_eq_true, Bool.not_true, Bool.not_false, rEq_int, rNe_int, e1, q]
theorem dueB_ok (hl : t.length ≤ 1000000) (hk : t[a]? = some k) : dueB (dueE t n l c a x6 x7 x8 x9 x10 x11) S = .nx (dueE t n l c a x6 (some (.str (sx [k]))) x8 x9 x10 x11) S := by
  have e0 : subW (.str (sx t)) (.int (a : Int)) S = .ok (.str (sx [k])) S := ix_str (by rw [sx_len]; exact small hl) (by rw [sx_cps]; exact hk)
  unfold dueB dueE
  simp only [ap_dSeq, ap_dVar, ap_dC, ap_dOp, ap_dSub, ap_dBool, ap_dTru, ap_dNot, ap_dAnd, ap_dOr, ap_dIf, ap_dNil, ap_dCons, ap_dTup, ap_dLst, ap_dCall, ap_dCallF, ap_dMake, ap_dMethF, ap_dMeth, ap_dFld, ap_dIsi, ap_dSlice, ap_dNoPart, ap_dPart, ap_dNext, ap_dRet, ap_dRetN, ap_dExpr, ap_dBreak, ap_dCont, ap_dIfS, ap_dAsg, ap_gSet, ap_dPar, ap_dPar3, ap_dFor, ap_dSrc, R.bind_ok, R.bind_exc, R.fl_ok, R.fl_exc, List.getElem?_cons_zero, List.getElem?_cons_succ, List.set_cons_zero, List.set_cons_succ, bodyR_nx, bodyR_rt, bodyR_exc, rAdd_int, rSub_int, rOrd_int, gInt_int, List.append_nil, if_true, if_false, Bool.false_eq_true, Bool.not_true, Bool.not_false, rEq_int, rNe_int, e0]
theorem dueC_no (hk : k ≠ 35) : dueC (dueE t n l c a x6 (some (.str (sx [k]))) x8 x9 x10 x11) S = .nx (dueE t n l c a x6 (some (.str (sx [k]))) x8 x9 x10 x11) S := by
  have e : rEqW false (.str (sx [k])) (.str "#") S = .ok (.bl false) S := by rw [is_chr (m := 35) (by decide +kernel), decide_eq_false hk]
  unfold dueC dueE
  simp only [ap_dSeq, ap_dVar, ap_dC, ap_dOp, ap_dSub, ap_dBool, ap_dTru, ap_dNot, ap_dAnd, ap_dOr, ap_dIf, ap_dNil, ap_dCons, ap_dTup, ap_dLst, ap_dCall, ap_dCallF, ap_dMake, ap_dMethF, ap_dMeth, ap_dFld, ap_dIsi, ap_dSlice, ap_dNoPart, ap_dPart, ap_dNext, ap_dRet, ap_dRetN, ap_dExpr, ap_dBreak, ap_dCont, ap_dIfS, ap_dAsg, ap_gSet, ap_dPar, ap_dPar3, ap_dFor, ap_dSrc, R.bind_ok, R.bind_exc, R.fl_ok, R.fl_exc, List.getElem?_cons_zero, List.getElem?_cons_succ, List.set_cons_zero, List.set_cons_succ, bodyR_nx, bodyR_rt, bodyR_exc, rAdd_int, rSub_int, rOrd_int, gInt_int, List.append_nil, if_true, if_false, Bool.false_eq_true, Bool.not_true, Bool.not_false, rEq_int, rNe_int, e]
theorem dueC_yes (hl : t.length ≤ 1000000) : ∃ y T, dueC (dueE t n l c a x6 (some (.str (sx [35]))) x8 x9 x10 x11) S = .ct (dueE t n l (c + restLen t a) (a + restLen t a) x6 (some (.str (sx [35]))) y x9 x10 x11) T ∧ Ext S T := by
  have e : rEqW false (.str (sx [35])) (.str "#") S = .ok (.bl true) S := by rw [is_chr (m := 35) (by decide +kernel)]; rfl
  have hd : (t.drop a).length ≤ 1000000 := by rw [List.length_drop]; omega
  have e1 : sliceW (.str (sx t)) (some (a : Int)) none S = .ok (.str (sx (t.drop a))) S := by rw [slice_str (by rw [sx_len]; exact small hl), cut_hi]
  obtain ⟨r, e2⟩ := split_nl (S := S) hd
  have h1 : (S ++ [Cell.lst (.str (sx ((t.drop a).takeWhile (· != 10))) :: r)])[S.length]? = some (.lst (.str (sx ((t.drop a).takeWhile (· != 10))) :: r)) := by simp
  have e3 : subW (.ref S.length) (.int 0) (S ++ [Cell.lst (.str (sx ((t.drop a).takeWhile (· != 10))) :: r)]) = .ok (.str (sx ((t.drop a).takeWhile (· != 10)))) (S ++ [Cell.lst (.str (sx ((t.drop a).takeWhile (· != 10))) :: r)]) := sub_lst (i := 0) h1 rfl
  have hr : ((t.drop a).takeWhile (· != 10)).length ≤ 1000000 := Nat.le_trans (List.takeWhile_sublist _).length_le hd
  have e4 : ∀ T, gLen [.str (sx ((t.drop a).takeWhile (· != 10)))] T = .ok (.int (restLen t a : Int)) T := fun T => by rw [len_str (by rw [sx_len]; exact small hr), sx_len]; rfl
  have ht : hasT "str" S (.str (sx (t.drop a))) = true := rfl
  have ea : ((a : Int) + (restLen t a : Int)) = ((a + restLen t a : Nat) : Int) := by omega
  have ec : ((c : Int) + (restLen t a : Int)) = ((c + restLen t a : Nat) : Int) := by omega
  refine ⟨some (.int (restLen t a : Int)), S ++ [Cell.lst (.str (sx ((t.drop a).takeWhile (· != 10))) :: r)], ?_, Ext.app S _⟩
  unfold dueC dueE
  simp only [ap_dSeq, ap_dVar, ap_dC, ap_dOp, ap_dSub, ap_dBool, ap_dTru, ap_dNot, ap_dAnd, ap_dOr, ap_dIf, ap_dNil, ap_dCons, ap_dTup, ap_dLst, ap_dCall, ap_dCallF, ap_dMake, ap_dMethF, ap_dMeth, ap_dFld, ap_dIsi, ap_dSlice, ap_dNoPart, ap_dPart, ap_dNext, ap_dRet, ap_dRetN, ap_dExpr, ap_dBreak, ap_dCont, ap_dIfS, ap_dAsg, ap_gSet, ap_dPar, ap_dPar3, ap_dFor, ap_dSrc, R.bind_ok, R.bind_exc, R.fl_ok, R.fl_exc, List.getElem?_cons_zero, List.getElem?_cons_succ, List.set_cons_zero, List.set_cons_succ, bodyR_nx, bodyR_rt, bodyR_exc, rAdd_int, rSub_int, rOrd_int, gInt_int, List.append_nil, if_true, if_false, Bool.false_eq_true, Bool.not_true, Bool.not_false, rEq_int, rNe_int, e, e1, ht, e2, e3, e4, ea, ec]
theorem sp_nl (T : Store) : rInW false (.str (sx [k])) (.str " \n") T = .ok (.bl (decide (k = 32) || decide (k = 10))) T := by
  rw [in_str]
  have e : (" \n" : Str).cps.toList = [32, 10] := by decide +kernel
  rw [e]
  have : decide (k ∈ [32, 10]) = (decide (k = 32) || decide (k = 10)) := by rw [Bool.eq_iff_iff]; simp
  rw [this]
theorem dueD_no (h1 : k ≠ 32) (h2 : k ≠ 10) : dueD (dueE t n l c a x6 (some (.str (sx [k]))) x8 x9 x10 x11) S = .nx (dueE t n l c a x6 (some (.str (sx [k]))) x8 x9 x10 x11) S := by
  have e := sp_nl (k := k) S
  rw [decide_eq_false h1, decide_eq_false h2, Bool.or_self] at e
  unfold dueD dueE
  simp only [ap_dSeq, ap_dVar, ap_dC, ap_dOp, ap_dSub, ap_dBool, ap_dTru, ap_dNot, ap_dAnd, ap_dOr, ap_dIf, ap_dNil, ap_dCons, ap_dTup, ap_dLst, ap_dCall, ap_dCallF, ap_dMake, ap_dMethF, ap_dMeth, ap_dFld, ap_dIsi, ap_dSlice, ap_dNoPart, ap_dPart, ap_dNext, ap_dRet, ap_dRetN, ap_dExpr, ap_dBreak, ap_dCont, ap_dIfS, ap_dAsg, ap_gSet, ap_dPar, ap_dPar3, ap_dFor, ap_dSrc, R.bind_ok, R.bind_exc, R.fl_ok, R.fl_exc, List.getElem?_cons_zero, List.getElem?_cons_succ, List.set_cons_zero, List.set_cons_succ, bodyR_nx, bodyR_rt, bodyR_exc, rAdd_int, rSub_int, rOrd_int, gInt_int, List.append_nil, if_true, if_false, Bool.false_eq_true, Bool.not_true, Bool.not_false, rEq_int, rNe_int, e]
theorem gTup2 {i j : Nat} {u v : W} {env : Env} : gTupW [gSet i, gSet j] (.tup [u, v]) env S = .ok ((env.set i (some u)).set j (some v)) S := rfl
theorem dueD_nl : dueD (dueE t n l c a x6 (some (.str (sx [10]))) x8 x9 x10 x11) S = .ct (dueE t n (l + 1) 1 (a + 1) x6 (some (.str (sx [10]))) x8 x9 x10 x11) S := by
  have e := sp_nl (k := 10) S
  have e2 : rEqW false (.str (sx [10])) (.str "\n") S = .ok (.bl true) S := by rw [is_chr (m := 10) (by decide +kernel)]; rfl
  rw [show (decide (10 = 32) || decide (10 = 10)) = true from rfl] at e
  have z2 : (2 : Nat) ≤ sizeLine := small (by decide)
  have e1 : (1 : Int) = ((1 : Nat) : Int) := rfl
  have el : ((l : Int) + ((1 : Nat) : Int)) = ((l + 1 : Nat) : Int) := by omega
  have ea : ((a : Int) + ((1 : Nat) : Int)) = ((a + 1 : Nat) : Int) := by omega
  unfold dueD dueE
  simp only [ap_dSeq, ap_dVar, ap_dC, ap_dOp, ap_dSub, ap_dBool, ap_dTru, ap_dNot, ap_dAnd, ap_dOr, ap_dIf, ap_dNil, ap_dCons, ap_dTup, ap_dLst, ap_dCall, ap_dCallF, ap_dMake, ap_dMethF, ap_dMeth, ap_dFld, ap_dIsi, ap_dSlice, ap_dNoPart, ap_dPart, ap_dNext, ap_dRet, ap_dRetN, ap_dExpr, ap_dBreak, ap_dCont, ap_dIfS, ap_dAsg, ap_gSet, ap_dPar, ap_dPar3, ap_dFor, ap_dSrc, R.bind_ok, R.bind_exc, R.fl_ok, R.fl_exc, List.getElem?_cons_zero, List.getElem?_cons_succ, List.set_cons_zero, List.set_cons_succ, bodyR_nx, bodyR_rt, bodyR_exc, rAdd_int, rSub_int, rOrd_int, gInt_int, List.append_nil, if_true, if_false, Bool.false_eq_true, Bool.not_true, Bool.not_false, rEq_int, rNe_int, e, e2, List.length_cons, List.length_nil, Nat.zero_add, Nat.reduceAdd, z2, gTup2, e1, el, ea]
theorem dueD_sp : dueD (dueE t n l c a x6 (some (.str (sx [32]))) x8 x9 x10 x11) S = .ct (dueE t n l (c + 1) (a + 1) x6 (some (.str (sx [32]))) x8 x9 x10 x11) S := by
  have e := sp_nl (k := 32) S
  have e2 : rEqW false (.str (sx [32])) (.str "\n") S = .ok (.bl false) S := by rw [is_chr (m := 10) (by decide +kernel)]; rfl
  rw [show (decide (32 = 32) || decide (32 = 10)) = true from rfl] at e
  have z2 : (2 : Nat) ≤ sizeLine := small (by decide)
  have e1 : (1 : Int) = ((1 : Nat) : Int) := rfl
  have el : ((c : Int) + ((1 : Nat) : Int)) = ((c + 1 : Nat) : Int) := by omega
  have ea : ((a : Int) + ((1 : Nat) : Int)) = ((a + 1 : Nat) : Int) := by omega
  unfold dueD dueE
  simp only [ap_dSeq, ap_dVar, ap_dC, ap_dOp, ap_dSub, ap_dBool, ap_dTru, ap_dNot, ap_dAnd, ap_dOr, ap_dIf, ap_dNil, ap_dCons, ap_dTup, ap_dLst, ap_dCall, ap_dCallF, ap_dMake, ap_dMethF, ap_dMeth, ap_dFld, ap_dIsi, ap_dSlice, ap_dNoPart, ap_dPart, ap_dNext, ap_dRet, ap_dRetN, ap_dExpr, ap_dBreak, ap_dCont, ap_dIfS, ap_dAsg, ap_gSet, ap_dPar, ap_dPar3, ap_dFor, ap_dSrc, R.bind_ok, R.bind_exc, R.fl_ok, R.fl_exc, List.getElem?_cons_zero, List.getElem?_cons_succ, List.set_cons_zero, List.set_cons_succ, bodyR_nx, bodyR_rt, bodyR_exc, rAdd_int, rSub_int, rOrd_int, gInt_int, List.append_nil, if_true, if_false, Bool.false_eq_true, Bool.not_true, Bool.not_false, rEq_int, rNe_int, e, e2, List.length_cons, List.length_nil, Nat.zero_add, Nat.reduceAdd, z2, gTup2, e1, el, ea]
theorem run_in (T : Store) : rInW false (.str (sx [k])) (.str runS) T = .ok (.bl (isRun k)) T := by
  have := mem_run k
  rw [in_str]
  exact congrArg (fun b => R.ok (W.bl b) T) this
theorem isRun_at (hk : t[a]? = some k) : isRun k = decide (1 ≤ runLen t a) := by
  by_cases q : 1 ≤ runLen t a
  · obtain ⟨k', e1, e2⟩ := run_get (t := t) (a := a) (j := 0) (by omega)
    rw [Nat.add_zero, hk] at e1
    cases e1
    rw [e2, decide_eq_true q]
  · have h0 : runLen t a = 0 := by omega
    rw [decide_eq_false q]
    exact run_end (t := t) (a := a) (by rw [h0, Nat.add_zero]; exact hk)
/-- the word's length is reckoned out -/
theorem dueG_ok (hl : t.length ≤ 1000000) (hk : t[a]? = some k) : ∃ y, dueG (dueE t n l c a x6 (some (.str (sx [k]))) (some (.int ((1 : Nat) : Int))) x9 x10 x11) S = .nx (dueE t n l c a x6 (some (.str (sx [k]))) (some (.int ((max 1 (runLen t a) : Nat) : Int))) y x10 x11) S := by
  have ha := (List.getElem?_eq_some_iff.mp hk).1
  have e0 := run_in (k := k) S
  have e1 := isRun_at hk
  by_cases q : 1 ≤ runLen t a
  · rw [e1, decide_eq_true q] at e0
    obtain ⟨y, e2⟩ := dueM_ok (S := S) (n := n) (l := l) (c := c) (x6 := x6) (x7 := some (.str (sx [k]))) (x9 := x9) (x10 := x10) (x11 := x11) hl ha q
    refine ⟨y, ?_⟩
    have e3 : (dBool (dOp (rInW false) (dVar 7) (dVar 5))) (dueE t n l c a x6 (some (.str (sx [k]))) (some (.int ((1 : Nat) : Int))) x9 x10 x11) S = .ok true S := by unfold dueE; simp only [ap_dSeq, ap_dVar, ap_dC, ap_dOp, ap_dSub, ap_dBool, ap_dTru, ap_dNot, ap_dAnd, ap_dOr, ap_dIf, ap_dNil, ap_dCons, ap_dTup, ap_dLst, ap_dCall, ap_dCallF, ap_dMake, ap_dMethF, ap_dMeth, ap_dFld, ap_dIsi, ap_dSlice, ap_dNoPart, ap_dPart, ap_dNext, ap_dRet, ap_dRetN, ap_dExpr, ap_dBreak, ap_dCont, ap_dIfS, ap_dAsg, ap_gSet, ap_dPar, ap_dPar3, ap_dFor, ap_dSrc, R.bind_ok, R.bind_exc, R.fl_ok, R.fl_exc, List.getElem?_cons_zero, List.getElem?_cons_succ, List.set_cons_zero, List.set_cons_succ, bodyR_nx, bodyR_rt, bodyR_exc, rAdd_int, rSub_int, rOrd_int, gInt_int, List.append_nil, if_true, if_false, Bool.false_eq_true, Bool.not_true, Bool.not_false, rEq_int, rNe_int, e0]
    rw [show max 1 (runLen t a) = runLen t a by omega]
    unfold dueG
    rw [ap_dIfS, e3, R.fl_ok, if_pos rfl, seq_nx e2]
    rfl
  · rw [e1, decide_eq_false q] at e0
    refine ⟨x9, ?_⟩
    rw [show max 1 (runLen t a) = 1 by omega]
    unfold dueG dueE
    simp only [ap_dSeq, ap_dVar, ap_dC, ap_dOp, ap_dSub, ap_dBool, ap_dTru, ap_dNot, ap_dAnd, ap_dOr, ap_dIf, ap_dNil, ap_dCons, ap_dTup, ap_dLst, ap_dCall, ap_dCallF, ap_dMake, ap_dMethF, ap_dMeth, ap_dFld, ap_dIsi, ap_dSlice, ap_dNoPart, ap_dPart, ap_dNext, ap_dRet, ap_dRetN, ap_dExpr, ap_dBreak, ap_dCont, ap_dIfS, ap_dAsg, ap_gSet, ap_dPar, ap_dPar3, ap_dFor, ap_dSrc, R.bind_ok, R.bind_exc, R.fl_ok, R.fl_exc, List.getElem?_cons_zero, List.getElem?_cons_succ, List.set_cons_zero, List.set_cons_succ, bodyR_nx, bodyR_rt, bodyR_exc, rAdd_int, rSub_int, rOrd_int, gInt_int, List.append_nil, if_true, if_false, Bool.false_eq_true, Bool.not_true, Bool.not_false, rEq_int, rNe_int, e0]
theorem dueH_ok (hl : t.length ≤ 1000000) : dueH (dueE t n l c a x6 x7 (some (.int ((max 1 (runLen t a) : Nat) : Int))) x9 x10 x11) S = .nx (dueE t n l c a x6 x7 (some (.int ((max 1 (runLen t a) : Nat) : Int))) x9 (some (.str (sx (wordAt t a)))) x11) S := by
  have ea : ((a : Int) + ((max 1 (runLen t a) : Nat) : Int)) = ((a + max 1 (runLen t a) : Nat) : Int) := by omega
  have e2 : sliceW (.str (sx t)) (some (a : Int)) (some ((a + max 1 (runLen t a) : Nat) : Int)) S = .ok (.str (sx (wordAt t a))) S := by
    rw [slice_str (by rw [sx_len]; exact small hl), cut_mid, List.drop_take, Nat.add_sub_cancel_left]; rfl
  unfold dueH dueE
  simp only [ap_dSeq, ap_dVar, ap_dC, ap_dOp, ap_dSub, ap_dBool, ap_dTru, ap_dNot, ap_dAnd, ap_dOr, ap_dIf, ap_dNil, ap_dCons, ap_dTup, ap_dLst, ap_dCall, ap_dCallF, ap_dMake, ap_dMethF, ap_dMeth, ap_dFld, ap_dIsi, ap_dSlice, ap_dNoPart, ap_dPart, ap_dNext, ap_dRet, ap_dRetN, ap_dExpr, ap_dBreak, ap_dCont, ap_dIfS, ap_dAsg, ap_gSet, ap_dPar, ap_dPar3, ap_dFor, ap_dSrc, R.bind_ok, R.bind_exc, R.fl_ok, R.fl_exc, List.getElem?_cons_zero, List.getElem?_cons_succ, List.set_cons_zero, List.set_cons_succ, bodyR_nx, bodyR_rt, bodyR_exc, rAdd_int, rSub_int, rOrd_int, gInt_int, List.append_nil, if_true, if_false, Bool.false_eq_true, Bool.not_true, Bool.not_false, rEq_int, rNe_int, ea, e2]
end
end Dn

set_option maxHeartbeats 4000000
/-! the law's own look at a text: the whole -/
namespace Dn
open PySem PySem.Spec PyProof.Rows L2
theorem isSign_run {k : Nat} {l : List Nat} (h : isSign (k :: l) = true) : isRun k = false := by
  unfold isSign signStrs at h
  have e1 : ("{" : Str) = sx [123] := by decide +kernel
  have e2 : ("}" : Str) = sx [125] := by decide +kernel
  have e3 : (";" : Str) = sx [59] := by decide +kernel
  rw [e1, e2, e3] at h
  simp only [List.any_cons, List.any_nil, Bool.or_false, Bool.or_eq_true, beq_iff_eq, sx_inj] at h
  rcases h with h | h | h <;> (injection h with h1 _; subst h1; rfl)
theorem word_cons {t : List Nat} {a k : Nat} (hk : t[a]? = some k) : ∃ l, wordAt t a = k :: l := by
  obtain ⟨ha, e⟩ := List.getElem?_eq_some_iff.mp hk
  unfold wordAt
  rw [List.drop_eq_getElem_cons ha, e]
  obtain ⟨m, hm⟩ : ∃ m, max 1 (runLen t a) = m + 1 := ⟨max 1 (runLen t a) - 1, by omega⟩
  rw [hm]
  exact ⟨_, rfl⟩
theorem word_run {t : List Nat} {a : Nat} (h : 1 ≤ runLen t a) : (wordAt t a).all isRun = true := by
  unfold wordAt
  rw [show max 1 (runLen t a) = ((t.drop a).takeWhile isRun).length from by unfold runLen at *; omega]
  have e : (t.drop a).take ((t.drop a).takeWhile isRun).length = (t.drop a).takeWhile isRun := (List.prefix_iff_eq_take.mp (List.takeWhile_prefix _)).symm
  rw [e]
  exact List.all_takeWhile
theorem word_chr {t : List Nat} {a : Nat} (h : ChrOk t) : ChrOk (wordAt t a) := fun k hk => h k (List.mem_of_mem_drop (List.mem_of_mem_take hk))
section
variable {S : Store} {n : Nat} {t : List Nat} {a l c k : Nat} {x6 x7 x8 x9 x10 x11 : Option W} {acc : List W}
theorem dueI_ok (hl : t.length ≤ 1000000) (hch : ChrOk t) (hk : t[a]? = some k) : ∃ T, dueI (dueE t n l c a x6 (some (.str (sx [k]))) x8 x9 (some (.str (sx (wordAt t a)))) x11) S = .nx (dueE t n l c a x6 (some (.str (sx [k]))) x8 x9 (some (.str (sx (wordAt t a)))) (some (kindAt t a))) T ∧ Ext S T := by
  have ha := (List.getElem?_eq_some_iff.mp hk).1
  have z3 : (3 : Nat) ≤ sizeLine := small (by decide)
  have e2 : rInW false (.str (sx (wordAt t a))) (.ref S.length) (S ++ [.lst [.str "{", .str "}", .str ";"]]) = .ok (.bl (isSign (wordAt t a))) (S ++ [.lst [.str "{", .str "}", .str ";"]]) := in_lst (ys := signStrs) (by simp [signStrs])
  have e3 := fun T => run_in (k := k) T
  have e4 := isRun_at hk
  obtain ⟨w, hw⟩ := word_cons hk
  have hwl : (wordAt t a).length ≤ 1000000 := by rw [word_len ha]; have := run_le t a; omega
  by_cases q : 1 ≤ runLen t a
  · rw [decide_eq_true q] at e4
    have hs : isSign (wordAt t a) = false := by
      cases h : isSign (wordAt t a) with
      | false => rfl
      | true => rw [hw] at h; rw [isSign_run h] at e4; cases e4
    rw [hs] at e2
    simp only [e4] at e3
    obtain ⟨T, hE, e5⟩ := kindword_ok (S := S ++ [.lst [.str "{", .str "}", .str ";"]]) hwl (word_chr hch) (by rw [hw]; simp) (word_run q)
    refine ⟨T, ?_, (Ext.app _ _).trans hE⟩
    have ek : kindAt t a = kindW (wordAt t a) := if_pos q
    rw [ek]
    unfold dueI dueE
    simp only [ap_dSeq, ap_dVar, ap_dC, ap_dOp, ap_dSub, ap_dBool, ap_dTru, ap_dNot, ap_dAnd, ap_dOr, ap_dIf, ap_dNil, ap_dCons, ap_dTup, ap_dLst, ap_dCall, ap_dCallF, ap_dMake, ap_dMethF, ap_dMeth, ap_dFld, ap_dIsi, ap_dSlice, ap_dNoPart, ap_dPart, ap_dNext, ap_dRet, ap_dRetN, ap_dExpr, ap_dBreak, ap_dCont, ap_dIfS, ap_dAsg, ap_gSet, ap_dPar, ap_dPar3, ap_dFor, ap_dSrc, R.bind_ok, R.bind_exc, R.fl_ok, R.fl_exc, List.getElem?_cons_zero, List.getElem?_cons_succ, List.set_cons_zero, List.set_cons_succ, bodyR_nx, bodyR_rt, bodyR_exc, rAdd_int, rSub_int, rOrd_int, gInt_int, List.append_nil, if_true, if_false, Bool.false_eq_true, Bool.not_true, Bool.not_false, rEq_int, rNe_int, List.length_cons, List.length_nil, Nat.zero_add, Nat.reduceAdd, z3, e2, e3, e5]
  · rw [decide_eq_false q] at e4
    simp only [e4] at e3
    refine ⟨S ++ [.lst [.str "{", .str "}", .str ";"]], ?_, Ext.app _ _⟩
    have ek : kindAt t a = if isSign (wordAt t a) = true then .str "sign" else .non := if_neg q
    rw [ek]
    unfold dueI dueE
    cases hs : isSign (wordAt t a) with
    | true =>
      rw [hs] at e2
      simp only [ap_dSeq, ap_dVar, ap_dC, ap_dOp, ap_dSub, ap_dBool, ap_dTru, ap_dNot, ap_dAnd, ap_dOr, ap_dIf, ap_dNil, ap_dCons, ap_dTup, ap_dLst, ap_dCall, ap_dCallF, ap_dMake, ap_dMethF, ap_dMeth, ap_dFld, ap_dIsi, ap_dSlice, ap_dNoPart, ap_dPart, ap_dNext, ap_dRet, ap_dRetN, ap_dExpr, ap_dBreak, ap_dCont, ap_dIfS, ap_dAsg, ap_gSet, ap_dPar, ap_dPar3, ap_dFor, ap_dSrc, R.bind_ok, R.bind_exc, R.fl_ok, R.fl_exc, List.getElem?_cons_zero, List.getElem?_cons_succ, List.set_cons_zero, List.set_cons_succ, bodyR_nx, bodyR_rt, bodyR_exc, rAdd_int, rSub_int, rOrd_int, gInt_int, List.append_nil, if_true, if_false, Bool.false_eq_true, Bool.not_true, Bool.not_false, rEq_int, rNe_int, List.length_cons, List.length_nil, Nat.zero_add, Nat.reduceAdd, z3, e2]
    | false =>
      rw [hs] at e2
      simp only [ap_dSeq, ap_dVar, ap_dC, ap_dOp, ap_dSub, ap_dBool, ap_dTru, ap_dNot, ap_dAnd, ap_dOr, ap_dIf, ap_dNil, ap_dCons, ap_dTup, ap_dLst, ap_dCall, ap_dCallF, ap_dMake, ap_dMethF, ap_dMeth, ap_dFld, ap_dIsi, ap_dSlice, ap_dNoPart, ap_dPart, ap_dNext, ap_dRet, ap_dRetN, ap_dExpr, ap_dBreak, ap_dCont, ap_dIfS, ap_dAsg, ap_gSet, ap_dPar, ap_dPar3, ap_dFor, ap_dSrc, R.bind_ok, R.bind_exc, R.fl_ok, R.fl_exc, List.getElem?_cons_zero, List.getElem?_cons_succ, List.set_cons_zero, List.set_cons_succ, bodyR_nx, bodyR_rt, bodyR_exc, rAdd_int, rSub_int, rOrd_int, gInt_int, List.append_nil, if_true, if_false, Bool.false_eq_true, Bool.not_true, Bool.not_false, rEq_int, rNe_int, List.length_cons, List.length_nil, Nat.zero_add, Nat.reduceAdd, z3, e2, e3]
def readL (l c : Nat) : List W := [.str "read", .int (l : Int), .int (c : Int)]
theorem dueJ_no {s : Str} : dueJ (dueE t n l c a x6 x7 x8 x9 x10 (some (.str s))) S = .nx (dueE t n l c a x6 x7 x8 x9 x10 (some (.str s))) S := by
  unfold dueJ dueE
  simp only [ap_dSeq, ap_dVar, ap_dC, ap_dOp, ap_dSub, ap_dBool, ap_dTru, ap_dNot, ap_dAnd, ap_dOr, ap_dIf, ap_dNil, ap_dCons, ap_dTup, ap_dLst, ap_dCall, ap_dCallF, ap_dMake, ap_dMethF, ap_dMeth, ap_dFld, ap_dIsi, ap_dSlice, ap_dNoPart, ap_dPart, ap_dNext, ap_dRet, ap_dRetN, ap_dExpr, ap_dBreak, ap_dCont, ap_dIfS, ap_dAsg, ap_gSet, ap_dPar, ap_dPar3, ap_dFor, ap_dSrc, R.bind_ok, R.bind_exc, R.fl_ok, R.fl_exc, List.getElem?_cons_zero, List.getElem?_cons_succ, List.set_cons_zero, List.set_cons_succ, bodyR_nx, bodyR_rt, bodyR_exc, rAdd_int, rSub_int, rOrd_int, gInt_int, List.append_nil, if_true, if_false, Bool.false_eq_true, Bool.not_true, Bool.not_false, rEq_int, rNe_int, isNon_ok]
theorem dueJ_yes : dueJ (dueE t n l c a x6 x7 x8 x9 x10 (some .non)) S = .rt (.tup [.ref S.length, .non]) (S ++ [.lst (readL l c)]) := by
  have z2 : (2 : Nat) ≤ sizeLine := small (by decide)
  have z3 : (3 : Nat) ≤ sizeLine := small (by decide)
  unfold dueJ dueE
  simp only [ap_dSeq, ap_dVar, ap_dC, ap_dOp, ap_dSub, ap_dBool, ap_dTru, ap_dNot, ap_dAnd, ap_dOr, ap_dIf, ap_dNil, ap_dCons, ap_dTup, ap_dLst, ap_dCall, ap_dCallF, ap_dMake, ap_dMethF, ap_dMeth, ap_dFld, ap_dIsi, ap_dSlice, ap_dNoPart, ap_dPart, ap_dNext, ap_dRet, ap_dRetN, ap_dExpr, ap_dBreak, ap_dCont, ap_dIfS, ap_dAsg, ap_gSet, ap_dPar, ap_dPar3, ap_dFor, ap_dSrc, R.bind_ok, R.bind_exc, R.fl_ok, R.fl_exc, List.getElem?_cons_zero, List.getElem?_cons_succ, List.set_cons_zero, List.set_cons_succ, bodyR_nx, bodyR_rt, bodyR_exc, rAdd_int, rSub_int, rOrd_int, gInt_int, List.append_nil, if_true, if_false, Bool.false_eq_true, Bool.not_true, Bool.not_false, rEq_int, rNe_int, isNon_ok, List.length_cons, List.length_nil, Nat.zero_add, Nat.reduceAdd, z2, z3]
  rfl
theorem dueK_ok (hm : S[n]? = some (.lst acc)) (hacc : acc.length ≤ 1000000) (hk : x11 = some (kindAt t a)) : dueK (dueE t n l c a x6 x7 x8 x9 (some (.str (sx (wordAt t a)))) x11) S = .nx (dueE t n l c a x6 x7 x8 x9 (some (.str (sx (wordAt t a)))) x11) (S.set n (.lst (acc ++ [tokAt t a l c]))) := by
  subst hk
  have z2 : (2 : Nat) ≤ sizeLine := small (by decide)
  have z3 : (3 : Nat) ≤ sizeLine := small (by decide)
  have e5 := app_lst (w := tokAt t a l c) hm (Nat.lt_of_le_of_lt hacc (by decide))
  unfold tokAt at e5 ⊢
  unfold dueK dueE
  simp only [ap_dSeq, ap_dVar, ap_dC, ap_dOp, ap_dSub, ap_dBool, ap_dTru, ap_dNot, ap_dAnd, ap_dOr, ap_dIf, ap_dNil, ap_dCons, ap_dTup, ap_dLst, ap_dCall, ap_dCallF, ap_dMake, ap_dMethF, ap_dMeth, ap_dFld, ap_dIsi, ap_dSlice, ap_dNoPart, ap_dPart, ap_dNext, ap_dRet, ap_dRetN, ap_dExpr, ap_dBreak, ap_dCont, ap_dIfS, ap_dAsg, ap_gSet, ap_dPar, ap_dPar3, ap_dFor, ap_dSrc, R.bind_ok, R.bind_exc, R.fl_ok, R.fl_exc, List.getElem?_cons_zero, List.getElem?_cons_succ, List.set_cons_zero, List.set_cons_succ, bodyR_nx, bodyR_rt, bodyR_exc, rAdd_int, rSub_int, rOrd_int, gInt_int, List.append_nil, if_true, if_false, Bool.false_eq_true, Bool.not_true, Bool.not_false, rEq_int, rNe_int, hasT_lst hm, List.length_cons, List.length_nil, Nat.zero_add, Nat.reduceAdd, z2, z3, e5]
theorem dueL_ok {m : Nat} : dueL (dueE t n l c a x6 x7 (some (.int (m : Int))) x9 x10 x11) S = .nx (dueE t n l (c + m) (a + m) x6 x7 (some (.int (m : Int))) x9 x10 x11) S := by
  have ea : ((a : Int) + (m : Int)) = ((a + m : Nat) : Int) := by omega
  have ec : ((c : Int) + (m : Int)) = ((c + m : Nat) : Int) := by omega
  unfold dueL dueE
  simp only [ap_dSeq, ap_dVar, ap_dC, ap_dOp, ap_dSub, ap_dBool, ap_dTru, ap_dNot, ap_dAnd, ap_dOr, ap_dIf, ap_dNil, ap_dCons, ap_dTup, ap_dLst, ap_dCall, ap_dCallF, ap_dMake, ap_dMethF, ap_dMeth, ap_dFld, ap_dIsi, ap_dSlice, ap_dNoPart, ap_dPart, ap_dNext, ap_dRet, ap_dRetN, ap_dExpr, ap_dBreak, ap_dCont, ap_dIfS, ap_dAsg, ap_gSet, ap_dPar, ap_dPar3, ap_dFor, ap_dSrc, R.bind_ok, R.bind_exc, R.fl_ok, R.fl_exc, List.getElem?_cons_zero, List.getElem?_cons_succ, List.set_cons_zero, List.set_cons_succ, bodyR_nx, bodyR_rt, bodyR_exc, rAdd_int, rSub_int, rOrd_int, gInt_int, List.append_nil, if_true, if_false, Bool.false_eq_true, Bool.not_true, Bool.not_false, rEq_int, rNe_int, ea, ec]
/-! the turns -/
theorem body_gap (hl : t.length ≤ 1000000) (hk : t[a]? = some k) (hg : isGap k = true) : ∃ y7 y8 T, dueBody (dueE t n l c a x6 x7 x8 x9 x10 x11) S = .ct (dueE t n (gapTo t k a l c).2.1 (gapTo t k a l c).2.2 (gapTo t k a l c).1 x6 y7 y8 x9 x10 x11) T ∧ Ext S T := by
  have ha := (List.getElem?_eq_some_iff.mp hk).1
  have e0 : dueBody (dueE t n l c a x6 x7 x8 x9 x10 x11) S = (dSeq dueC (dSeq dueD (dSeq dueF (dSeq dueG (dSeq dueH (dSeq dueI (dSeq dueJ (dSeq dueK (dSeq dueL dNext))))))))) (dueE t n l c a x6 (some (.str (sx [k]))) x8 x9 x10 x11) S := by
    unfold dueBody
    rw [seq_nx (dueA_no hl ha), seq_nx (dueB_ok hl hk)]
  rw [e0]
  by_cases k3 : k = 35
  · subst k3
    obtain ⟨y, T, e1, hE⟩ := dueC_yes (S := S) (n := n) (l := l) (c := c) (a := a) (x6 := x6) (x8 := x8) (x9 := x9) (x10 := x10) (x11 := x11) hl
    exact ⟨_, y, T, by rw [ap_dSeq, e1]; rfl, hE⟩
  · rw [seq_nx (dueC_no k3)]
    by_cases k1 : k = 10
    · subst k1
      exact ⟨_, x8, S, by rw [ap_dSeq, dueD_nl]; rfl, Ext.refl S⟩
    · have k2 : k = 32 := by
        unfold isGap at hg
        rw [decide_eq_false k1, decide_eq_false k3, Bool.or_false, Bool.false_or] at hg
        exact of_decide_eq_true hg
      subst k2
      exact ⟨_, x8, S, by rw [ap_dSeq, dueD_sp]; rfl, Ext.refl S⟩
theorem body_tok (hl : t.length ≤ 1000000) (hch : ChrOk t) (hk : t[a]? = some k) (hg : isGap k = false) : ∃ y T, Ext S T ∧ dueBody (dueE t n l c a x6 x7 x8 x9 x10 x11) S = (dSeq dueJ (dSeq dueK (dSeq dueL dNext))) (dueE t n l c a x6 (some (.str (sx [k]))) (some (.int ((max 1 (runLen t a) : Nat) : Int))) y (some (.str (sx (wordAt t a)))) (some (kindAt t a))) T := by
  have ha := (List.getElem?_eq_some_iff.mp hk).1
  have k1 : k ≠ 10 := fun e => by subst e; cases hg
  have k2 : k ≠ 32 := fun e => by subst e; cases hg
  have k3 : k ≠ 35 := fun e => by subst e; cases hg
  obtain ⟨y, e1⟩ := dueG_ok (S := S) (n := n) (l := l) (c := c) (x6 := x6) (x9 := x9) (x10 := x10) (x11 := x11) hl hk
  obtain ⟨T, e2, hE⟩ := dueI_ok (S := S) (n := n) (l := l) (c := c) (x6 := x6) (x8 := some (.int ((max 1 (runLen t a) : Nat) : Int))) (x9 := y) (x11 := x11) hl hch hk
  refine ⟨y, T, hE, ?_⟩
  have eF : dueF (dueE t n l c a x6 (some (.str (sx [k]))) x8 x9 x10 x11) S = .nx (dueE t n l c a x6 (some (.str (sx [k]))) (some (.int ((1 : Nat) : Int))) x9 x10 x11) S := rfl
  unfold dueBody
  rw [seq_nx (dueA_no hl ha), seq_nx (dueB_ok hl hk), seq_nx (dueC_no k3), seq_nx (dueD_no k2 k1), seq_nx eF, seq_nx e1, seq_nx (dueH_ok hl), seq_nx e2]
theorem body_bad (hl : t.length ≤ 1000000) (hch : ChrOk t) (hk : t[a]? = some k) (hg : isGap k = false) (hkk : kindAt t a = .non) : ∃ T, Ext S T ∧ dueBody (dueE t n l c a x6 x7 x8 x9 x10 x11) S = .rt (.tup [.ref T.length, .non]) (T ++ [.lst (readL l c)]) := by
  obtain ⟨y, T, hE, e⟩ := body_tok (S := S) (n := n) (l := l) (c := c) (x6 := x6) (x7 := x7) (x8 := x8) (x9 := x9) (x10 := x10) (x11 := x11) hl hch hk hg
  exact ⟨T, hE, by rw [e, hkk, ap_dSeq, dueJ_yes]⟩
theorem body_good {s : Str} (hm : S[n]? = some (.lst acc)) (hacc : acc.length ≤ 1000000) (hl : t.length ≤ 1000000) (hch : ChrOk t) (hk : t[a]? = some k) (hg : isGap k = false) (hkk : kindAt t a = .str s) :
    ∃ y T, Ext S T ∧ dueBody (dueE t n l c a x6 x7 x8 x9 x10 x11) S = .nx (dueE t n l (c + max 1 (runLen t a)) (a + max 1 (runLen t a)) x6 (some (.str (sx [k]))) (some (.int ((max 1 (runLen t a) : Nat) : Int))) y (some (.str (sx (wordAt t a)))) (some (kindAt t a))) (T.set n (.lst (acc ++ [tokAt t a l c]))) := by
  obtain ⟨y, T, hE, e⟩ := body_tok (S := S) (n := n) (l := l) (c := c) (x6 := x6) (x7 := x7) (x8 := x8) (x9 := x9) (x10 := x10) (x11 := x11) hl hch hk hg
  refine ⟨y, T, hE, ?_⟩
  have ej : dueJ (dueE t n l c a x6 (some (.str (sx [k]))) (some (.int ((max 1 (runLen t a) : Nat) : Int))) y (some (.str (sx (wordAt t a)))) (some (kindAt t a))) T = .nx (dueE t n l c a x6 (some (.str (sx [k]))) (some (.int ((max 1 (runLen t a) : Nat) : Int))) y (some (.str (sx (wordAt t a)))) (some (kindAt t a))) T := by rw [hkk]; exact dueJ_no
  rw [e, seq_nx ej, seq_nx (dueK_ok (hE.some hm) hacc rfl), seq_nx dueL_ok]
  rfl
end
end Dn

set_option maxHeartbeats 4000000
/-! the law's own look at a text tells the words of the text -/
namespace Dn
open PySem PySem.Spec PyProof.Rows L2
theorem due_loop {S : Store} {t : List Nat} (hl : t.length ≤ 1000000) (hch : ChrOk t) :
    (∃ l c r T, lex t = .err l c ∧ forL (fun _ => true) (gSet 6) dueBody ((List.range (t.length + 1)).map fun i => .int ((i : Nat) : Int)) (dueE t S.length 1 1 0 none none none none none none) (S ++ [.lst []]) = .rt (.tup [.ref r, .non]) T ∧ T[r]? = some (.lst (readL l c)) ∧ Ext S T) ∨
    ∃ a l c acc x6 x7 x8 x9 x10 x11 T, lex t = .ok (acc ++ [endTok l c]) ∧ forL (fun _ => true) (gSet 6) dueBody ((List.range (t.length + 1)).map fun i => .int ((i : Nat) : Int)) (dueE t S.length 1 1 0 none none none none none none) (S ++ [.lst []]) = .nx (dueE t S.length l c a x6 x7 x8 x9 x10 x11) T ∧ T[S.length]? = some (.lst acc) ∧ acc.length ≤ 1000000 ∧ Ext S T := by
  refine forL_rule (chk := fun _ => true) (g := gSet 6) (body := dueBody)
    (fun rest env T => ∃ a l c acc f x6 x7 x8 x9 x10 x11, env = dueE t S.length l c a x6 x7 x8 x9 x10 x11 ∧ T[S.length]? = some (.lst acc) ∧ a ≤ t.length ∧ acc.length ≤ a ∧ lexR t f a l c acc = lex t ∧ t.length + 1 ≤ f + a ∧ t.length + 1 ≤ rest.length + a ∧ Ext S T)
    (fun fl => (∃ l c r T, lex t = .err l c ∧ fl = .rt (.tup [.ref r, .non]) T ∧ T[r]? = some (.lst (readL l c)) ∧ Ext S T) ∨ ∃ a l c acc x6 x7 x8 x9 x10 x11 T, lex t = .ok (acc ++ [endTok l c]) ∧ fl = .nx (dueE t S.length l c a x6 x7 x8 x9 x10 x11) T ∧ T[S.length]? = some (.lst acc) ∧ acc.length ≤ 1000000 ∧ Ext S T)
    ?_ ?_ ((List.range (t.length + 1)).map fun i => .int ((i : Nat) : Int)) (dueE t S.length 1 1 0 none none none none none none) (S ++ [.lst []]) ⟨0, 1, 1, [], t.length + 1, none, none, none, none, none, none, rfl, by simp, Nat.zero_le _, Nat.le_refl _, rfl, by omega, by simp, Ext.app S _⟩
  · rintro w rest env T ⟨a, l, c, acc, f, x6, x7, x8, x9, x10, x11, rfl, hm, ha, hacc, hx, hf, hr, hE⟩
    rw [List.length_cons] at hr
    refine ⟨rfl, dueE t S.length l c a (some w) x7 x8 x9 x10 x11, T, rfl, ?_⟩
    by_cases q : a < t.length
    · obtain ⟨k, hk⟩ : ∃ k, t[a]? = some k := ⟨t[a], List.getElem?_eq_getElem q⟩
      obtain ⟨f, rfl⟩ : ∃ f', f = f' + 1 := ⟨f - 1, by omega⟩
      cases hg : isGap k with
      | true =>
        obtain ⟨y7, y8, T', e, hE2⟩ := body_gap (S := T) (n := S.length) (l := l) (c := c) (x6 := some w) (x7 := x7) (x8 := x8) (x9 := x9) (x10 := x10) (x11 := x11) hl hk hg
        have hlt := gapTo_lt (l := l) (c := c) hk hg
        rw [e]
        exact ⟨_, _, _, acc, f, _, _, _, _, _, _, rfl, hE2.some hm, hlt.2, by omega, by rw [← hx, lexR_gap hk hg], by omega, by omega, hE.trans hE2⟩
      | false =>
        rcases kindAt_cases t a with hkk | ⟨s, hkk⟩
        · obtain ⟨T', hE2, e⟩ := body_bad (S := T) (n := S.length) (l := l) (c := c) (x6 := some w) (x7 := x7) (x8 := x8) (x9 := x9) (x10 := x10) (x11 := x11) hl hch hk hg hkk
          rw [e]
          exact .inl ⟨l, c, T'.length, _, by rw [← hx, lexR_bad hk hg hkk], rfl, by simp, (hE.trans hE2).trans (Ext.app _ _)⟩
        · obtain ⟨y, T', hE2, e⟩ := body_good (S := T) (n := S.length) (l := l) (c := c) (x6 := some w) (x7 := x7) (x8 := x8) (x9 := x9) (x10 := x10) (x11 := x11) hm (by omega) hl hch hk hg hkk
          have hrl := run_lt (t := t) (a := a) ha
          rw [e]
          refine ⟨_, _, _, acc ++ [tokAt t a l c], f, _, _, _, _, _, _, rfl, set_at (hE2.some hm), by omega, by simp; omega, by rw [← hx, lexR_good hk hg hkk], by omega, by omega, (hE.trans hE2).set _ (Nat.le_refl _)⟩
    · have e : dueBody (dueE t S.length l c a (some w) x7 x8 x9 x10 x11) T = .bk (dueE t S.length l c a (some w) x7 x8 x9 x10 x11) T := by
        unfold dueBody
        rw [ap_dSeq, dueA_yes hl (by omega)]
      rw [e]
      exact .inr ⟨a, l, c, acc, _, _, _, _, _, _, T, by rw [← hx, lexR_end (by rw [List.getElem?_eq_none (by omega)])], rfl, hm, by omega, hE⟩
  · rintro env T ⟨a, l, c, acc, f, x6, x7, x8, x9, x10, x11, rfl, hm, ha, hacc, hx, hf, hr, hE⟩
    rw [List.length_nil] at hr
    omega
theorem gTup5 {u v w x y : W} {env : Env} {S : Store} : gTupW [gSet 1, gSet 2, gSet 3, gSet 4, gSet 5] (.tup [u, v, w, x, y]) env S = .ok (((((env.set 1 (some u)).set 2 (some v)).set 3 (some w)).set 4 (some x)).set 5 (some y)) S := rfl
theorem add_lst {S : Store} {n m : Nat} {xs ys : List W} (h1 : S[n]? = some (.lst xs)) (h2 : S[m]? = some (.lst ys)) (hl : xs.length + ys.length ≤ sizeLine) : rAdd (.ref n) (.ref m) S = .ok (.ref S.length) (S ++ [.lst (xs ++ ys)]) := by
  simp only [rAdd, h1, h2, if_pos hl]
theorem due_ok {S : Store} {t : List Nat} (hl : t.length ≤ 1000000) (hch : ChrOk t) : ∃ T, Ext S T ∧ match lex t with
    | .err l c => ∃ r, f__law_due [.str (sx t)] S = .ok (.tup [.ref r, .non]) T ∧ T[r]? = some (.lst (readL l c))
    | .ok ts => f__law_due [.str (sx t)] S = .ok (.tup [.non, .tup ts]) T := by
  have z0 : (0 : Nat) ≤ sizeLine := Nat.zero_le _
  have z1 : (1 : Nat) ≤ sizeLine := small (by decide)
  have z2 : (2 : Nat) ≤ sizeLine := small (by decide)
  have z3 : (3 : Nat) ≤ sizeLine := small (by decide)
  have z5 : (5 : Nat) ≤ sizeLine := small (by decide)
  have eI : dueInit [some (.str (sx t)), none, none, none, none, none, none, none, none, none, none, none] S = .nx (dueE t S.length 1 1 0 none none none none none none) (S ++ [.lst []]) := by
    unfold dueInit
    simp only [ap_dSeq, ap_dVar, ap_dC, ap_dOp, ap_dSub, ap_dBool, ap_dTru, ap_dNot, ap_dAnd, ap_dOr, ap_dIf, ap_dNil, ap_dCons, ap_dTup, ap_dLst, ap_dCall, ap_dCallF, ap_dMake, ap_dMethF, ap_dMeth, ap_dFld, ap_dIsi, ap_dSlice, ap_dNoPart, ap_dPart, ap_dNext, ap_dRet, ap_dRetN, ap_dExpr, ap_dBreak, ap_dCont, ap_dIfS, ap_dAsg, ap_gSet, ap_dPar, ap_dPar3, ap_dFor, ap_dSrc, R.bind_ok, R.bind_exc, R.fl_ok, R.fl_exc, List.getElem?_cons_zero, List.getElem?_cons_succ, List.set_cons_zero, List.set_cons_succ, bodyR_nx, bodyR_rt, bodyR_exc, rAdd_int, rSub_int, rOrd_int, gInt_int, List.append_nil, if_true, if_false, Bool.false_eq_true, Bool.not_true, Bool.not_false, rEq_int, rNe_int, List.length_cons, List.length_nil, Nat.zero_add, Nat.reduceAdd, z0, z5, gTup5]
    rfl
  have e1 : gLen [.str (sx t)] (S ++ [.lst []]) = .ok (.int (t.length : Int)) (S ++ [.lst []]) := by rw [len_str (by rw [sx_len]; exact small hl), sx_len]
  have ea : ((t.length : Int) + 1) = ((t.length + 1 : Nat) : Int) := by omega
  have er : dRng1 (dOp rAdd (dCall gLen (dCons (dVar 0) (dNil))) (dC (.int 1))) (dueE t S.length 1 1 0 none none none none none none) (S ++ [.lst []]) = .ok ((List.range (t.length + 1)).map fun i => .int ((i : Nat) : Int), fun _ => true) (S ++ [.lst []]) := by
    have e3 : dOp rAdd (dCall gLen (dCons (dVar 0) (dNil))) (dC (.int 1)) (dueE t S.length 1 1 0 none none none none none none) (S ++ [.lst []]) = .ok (.int ((t.length : Int) + 1)) (S ++ [.lst []]) := by
      unfold dueE
      simp only [ap_dSeq, ap_dVar, ap_dC, ap_dOp, ap_dSub, ap_dBool, ap_dTru, ap_dNot, ap_dAnd, ap_dOr, ap_dIf, ap_dNil, ap_dCons, ap_dTup, ap_dLst, ap_dCall, ap_dCallF, ap_dMake, ap_dMethF, ap_dMeth, ap_dFld, ap_dIsi, ap_dSlice, ap_dNoPart, ap_dPart, ap_dNext, ap_dRet, ap_dRetN, ap_dExpr, ap_dBreak, ap_dCont, ap_dIfS, ap_dAsg, ap_gSet, ap_dPar, ap_dPar3, ap_dFor, ap_dSrc, R.bind_ok, R.bind_exc, R.fl_ok, R.fl_exc, List.getElem?_cons_zero, List.getElem?_cons_succ, List.set_cons_zero, List.set_cons_succ, bodyR_nx, bodyR_rt, bodyR_exc, rAdd_int, rSub_int, rOrd_int, gInt_int, List.append_nil, if_true, if_false, Bool.false_eq_true, Bool.not_true, Bool.not_false, rEq_int, rNe_int, e1]
    exact rng1 (by rw [e3, ea]) (by omega)
  have st : f__law_due [.str (sx t)] S = bodyR (dSeq (dFor (dRng1 (dOp rAdd (dCall gLen (dCons (dVar 0) (dNil))) (dC (.int 1)))) (gSet 6) dueBody) (dSeq dueEnd (dNext)) (dueE t S.length 1 1 0 none none none none none none) (S ++ [.lst []])) := by
    show bodyR (d__law_due f__law_kind_of_word [some (.str (sx t)), none, none, none, none, none, none, none, none, none, none, none] S) = _
    rw [due_parts, seq_nx eI]
  rcases due_loop (S := S) hl hch with ⟨l, c, r, T, e2, e3, h1, hE⟩ | ⟨a, l, c, acc, x6, x7, x8, x9, x10, x11, T, e2, e3, h1, h2, hE⟩
  · refine ⟨T, hE, ?_⟩
    rw [e2]
    refine ⟨r, ?_, h1⟩
    rw [st, ap_dSeq, ap_dFor, er, R.fl_ok, e3]
    rfl
  · have b1 : (T ++ [Cell.lst [endTok l c]])[S.length]? = some (.lst acc) := by rw [List.getElem?_append_left (List.getElem?_eq_some_iff.mp h1).1]; exact h1
    have b2 : (T ++ [Cell.lst [endTok l c]])[T.length]? = some (.lst [endTok l c]) := by simp
    have e4 := add_lst b1 b2 (Nat.le_trans (Nat.add_le_add_right h2 1) (by decide))
    have e4' : rAdd (.ref S.length) (.ref T.length) (T ++ [Cell.lst [endTok l c]]) = .ok (.ref (T.length + 1)) (T ++ [Cell.lst [endTok l c], .lst (acc ++ [endTok l c])]) := by rw [e4]; simp
    have e5 : gTuple [.ref (T.length + 1)] (T ++ [Cell.lst [endTok l c], .lst (acc ++ [endTok l c])]) = .ok (.tup (acc ++ [endTok l c])) (T ++ [Cell.lst [endTok l c], .lst (acc ++ [endTok l c])]) := by
      have : seqW (T ++ [Cell.lst [endTok l c], .lst (acc ++ [endTok l c])]) (.ref (T.length + 1)) = some (acc ++ [endTok l c]) := seqW_at (by simp)
      simp only [gTuple, this]
    refine ⟨T ++ [Cell.lst [endTok l c], .lst (acc ++ [endTok l c])], hE.trans (Ext.app _ _), ?_⟩
    rw [e2]
    show f__law_due [.str (sx t)] S = _
    have eF : dFor (dRng1 (dOp rAdd (dCall gLen (dCons (dVar 0) (dNil))) (dC (.int 1)))) (gSet 6) dueBody (dueE t S.length 1 1 0 none none none none none none) (S ++ [.lst []]) = .nx (dueE t S.length l c a x6 x7 x8 x9 x10 x11) T := by rw [ap_dFor, er, R.fl_ok, e3]
    rw [st, seq_nx eF]
    unfold endTok at e4' e5
    unfold dueEnd dueE endTok
    simp only [ap_dSeq, ap_dVar, ap_dC, ap_dOp, ap_dSub, ap_dBool, ap_dTru, ap_dNot, ap_dAnd, ap_dOr, ap_dIf, ap_dNil, ap_dCons, ap_dTup, ap_dLst, ap_dCall, ap_dCallF, ap_dMake, ap_dMethF, ap_dMeth, ap_dFld, ap_dIsi, ap_dSlice, ap_dNoPart, ap_dPart, ap_dNext, ap_dRet, ap_dRetN, ap_dExpr, ap_dBreak, ap_dCont, ap_dIfS, ap_dAsg, ap_gSet, ap_dPar, ap_dPar3, ap_dFor, ap_dSrc, R.bind_ok, R.bind_exc, R.fl_ok, R.fl_exc, List.getElem?_cons_zero, List.getElem?_cons_succ, List.set_cons_zero, List.set_cons_succ, bodyR_nx, bodyR_rt, bodyR_exc, rAdd_int, rSub_int, rOrd_int, gInt_int, List.append_nil, if_true, if_false, Bool.false_eq_true, Bool.not_true, Bool.not_false, rEq_int, rNe_int, List.length_cons, List.length_nil, Nat.zero_add, Nat.reduceAdd, z1, z2, z3, e4', e5]
end Dn

set_option maxHeartbeats 4000000
namespace Dn
open PySem PySem.Spec PyProof.Rows L2
theorem toPy_read {S : Store} {n : Nat} {l c : Nat} (h : S[n]? = some (.lst (readL l c))) : toPy S (.ref n) = some (.list [.str "read", .int (l : Int), .int (c : Int)]) := by
  show derefN S 8 n = _
  simp only [derefN, h, readL, toPyL, toPyA, Option.map_some]
theorem str_self (s : Str) : (s == s) = true := by
  simp
theorem eqv_read (l c : Int) : PyData.eqv (.list [.str "read", .int l, .int c]) (.list [.str "read", .int l, .int c]) = true := by
  show ((("read" : Str) == ("read" : Str)) && (decide (l = l) && (decide (c = c) && true))) = true
  simp
theorem strOk_read : PyData.strOk "read" = true := by decide +kernel
theorem shaped_read (l c : Int) : SeqAt.shaped (.list [.str "read", .int l, .int c]) = true := by
  show ((PyData.strOk "read" && (true && (true && true))) && decide (1 ≤ 64)) = true
  rw [strOk_read]; rfl
theorem ne_read {S : Store} {n m l c : Nat} (h1 : S[n]? = some (.lst (readL l c))) (h2 : S[m]? = some (.lst (readL l c))) : rEqW true (.ref n) (.ref m) S = .ok (.bl false) S := by
  have e1 := toPy_read h1
  have e2 := toPy_read h2
  have s1 := shaped_read (l : Int) (c : Int)
  simp only [rEqW, flatW, e1, e2, s1, eqv_read]
  rfl
theorem ne_non {S : Store} : rEqW true .non .non S = .ok (.bl false) S := rfl
/-! what _law_same tells -/
theorem r_same_succ (n : Nat) (ws : List W) (S : Store) : r__law_same (n + 1) ws S = bodyD 4 2 (d__law_same (r__law_same n)) ws S := rfl
theorem ap_dAndV {a b : DE} {env : Env} {S : Store} : dAndV a b env S = (a env S).bind fun x S1 => match truW S1 x with
  | some true => b env S1
  | some false => .ok x S1
  | none => .bad := id rfl
theorem tup_str {S : Store} {s : Str} : isiW "tuple" [] S (.str s) = .ok (.bl false) S := rfl
theorem int_str {S : Store} {s : Str} : isiW "int" [] S (.str s) = .ok (.bl false) S := rfl
theorem tup_int {S : Store} {s : Int} : isiW "tuple" [] S (.int s) = .ok (.bl false) S := rfl
theorem int_int {S : Store} {s : Int} : isiW "int" [] S (.int s) = .ok (.bl true) S := rfl
theorem bool_int {S : Store} {s : Int} : isiW "bool" [] S (.int s) = .ok (.bl false) S := rfl
theorem isBl_str {S : Store} {s : Str} {b : Bool} : rIs false (.str s) (.bl b) S = .ok (.bl false) S := rfl
theorem isBl_int {S : Store} {s : Int} {b : Bool} : rIs false (.int s) (.bl b) S = .ok (.bl false) S := rfl
theorem same_str {n : Nat} {S : Store} {s : Str} : r__law_same (n + 1) [.str s, .str s] S = .ok (.bl true) S := by
  have e : rEqW false (.str s) (.str s) S = .ok (.bl true) S := by rw [eq_str]; simp
  rw [r_same_succ, bodyD2]
  unfold d__law_same
  simp only [ap_dSeq, ap_dVar, ap_dC, ap_dOp, ap_dSub, ap_dBool, ap_dTru, ap_dNot, ap_dAnd, ap_dOr, ap_dIf, ap_dNil, ap_dCons, ap_dTup, ap_dLst, ap_dCall, ap_dCallF, ap_dMake, ap_dMethF, ap_dMeth, ap_dFld, ap_dIsi, ap_dSlice, ap_dNoPart, ap_dPart, ap_dNext, ap_dRet, ap_dRetN, ap_dExpr, ap_dBreak, ap_dCont, ap_dIfS, ap_dAsg, ap_gSet, ap_dPar, ap_dPar3, ap_dFor, ap_dSrc, R.bind_ok, R.bind_exc, R.fl_ok, R.fl_exc, List.getElem?_cons_zero, List.getElem?_cons_succ, List.set_cons_zero, List.set_cons_succ, bodyR_nx, bodyR_rt, bodyR_exc, rAdd_int, rSub_int, rOrd_int, gInt_int, List.append_nil, if_true, if_false, Bool.false_eq_true, Bool.not_true, Bool.not_false, rEq_int, rNe_int, ap_dAndV, tup_str, int_str, isi_str, isBl_str, isNon_ok, truW, e, List.replicate]
theorem same_int {n : Nat} {S : Store} {s : Int} : r__law_same (n + 1) [.int s, .int s] S = .ok (.bl true) S := by
  rw [r_same_succ, bodyD2]
  unfold d__law_same
  simp only [ap_dSeq, ap_dVar, ap_dC, ap_dOp, ap_dSub, ap_dBool, ap_dTru, ap_dNot, ap_dAnd, ap_dOr, ap_dIf, ap_dNil, ap_dCons, ap_dTup, ap_dLst, ap_dCall, ap_dCallF, ap_dMake, ap_dMethF, ap_dMeth, ap_dFld, ap_dIsi, ap_dSlice, ap_dNoPart, ap_dPart, ap_dNext, ap_dRet, ap_dRetN, ap_dExpr, ap_dBreak, ap_dCont, ap_dIfS, ap_dAsg, ap_gSet, ap_dPar, ap_dPar3, ap_dFor, ap_dSrc, R.bind_ok, R.bind_exc, R.fl_ok, R.fl_exc, List.getElem?_cons_zero, List.getElem?_cons_succ, List.set_cons_zero, List.set_cons_succ, bodyR_nx, bodyR_rt, bodyR_exc, rAdd_int, rSub_int, rOrd_int, gInt_int, List.append_nil, if_true, if_false, Bool.false_eq_true, Bool.not_true, Bool.not_false, rEq_int, rNe_int, ap_dAndV, tup_int, int_int, bool_int, isBl_int, isNon_ok, truW, List.replicate, dNotV]
  simp
end Dn

set_option maxHeartbeats 4000000
namespace Dn
open PySem PySem.Spec PyProof.Rows L2
theorem zip_self : ∀ as : List W, zipL as as = as.map fun a => .tup [a, a]
  | [] => rfl
  | a :: as => by rw [zipL, zip_self as]; rfl
theorem bls_rep : ∀ k : Nat, blsW (List.replicate k (.bl true)) = some (List.replicate k true)
  | 0 => rfl
  | k + 1 => by
    show (blsW (List.replicate k (.bl true))).map _ = _
    rw [bls_rep k]; rfl
theorem all_rep (k : Nat) : (List.replicate k true).all id = true := by simp
def smC (f : FW) : DE := dComp (dZip (dVar 0) (dVar 1)) (gTupW [gSet 2, gSet 3]) (dYes) (dCallF f [] (dCons (dVar 2) (dCons (dVar 3) (dNil)))) [2, 3]
theorem smC_ok {f : FW} {as : List W} {S : Store} (hl : as.length ≤ 1000000) (h : ∀ a ∈ as, ∀ S, ∃ T, Ext S T ∧ f [a, a] S = .ok (.bl true) T) :
    ∃ T, Ext S T ∧ smC f [some (.tup as), some (.tup as), none, none] S = .ok (.ref T.length) (T ++ [.lst (List.replicate as.length (.bl true))]) := by
  have e0 : dZip (dVar 0) (dVar 1) [some (.tup as), some (.tup as), none, none] S = .ok (as.map (fun a => W.tup [a, a]), fun _ => true) S := by
    rw [← zip_self]; rfl
  obtain ⟨ys, T, e1, ⟨bs, hb, hs, hk, hx⟩⟩ := compL_rule (chk := fun _ => true) (g := gTupW [gSet 2, gSet 3]) (dt := dYes) (de := dCallF f [] (dCons (dVar 2) (dCons (dVar 3) (dNil)))) (env0 := [some (.tup as), some (.tup as), none, none])
    (fun ws acc T => ∃ bs : List W, ws = bs.map (fun a => W.tup [a, a]) ∧ (∀ b ∈ bs, b ∈ as) ∧ (∃ k, acc = List.replicate k (.bl true) ∧ k + bs.length = as.length) ∧ Ext S T)
    (by
      rintro w rest acc S1 ⟨bs, hb, hs, ⟨k, hk, hn⟩, hx⟩
      cases bs with
      | nil => cases hb
      | cons b bs =>
        rw [List.map_cons, List.cons.injEq] at hb
        obtain ⟨rfl, rfl⟩ := hb
        obtain ⟨T, hT, eT⟩ := h b (hs b List.mem_cons_self) S1
        refine ⟨rfl, [some (.tup as), some (.tup as), some b, some b], S1, rfl, .inr ⟨S1, .bl true, T, rfl, ?_, bs, rfl, fun c hc => hs c (List.mem_cons_of_mem _ hc), ⟨k + 1, ?_, ?_⟩, hx.trans hT⟩⟩
        · exact eT
        · rw [hk, List.replicate_succ']
        · rw [List.length_cons] at hn; omega)
    (fun acc T _ => rfl) (as.map (fun a => W.tup [a, a])) [] S ⟨as, rfl, fun b hb => hb, ⟨0, rfl, by omega⟩, Ext.refl S⟩
  have hbs : bs = [] := by simpa using hb.symm
  subst hbs
  obtain ⟨k, hk, hn⟩ := hk
  rw [List.nil_append] at hk
  have : k = as.length := by simpa using hn
  subst this
  subst hk
  exact ⟨T, hx, dComp_ok e0 e1 (small (by rw [List.length_replicate]; exact hl))⟩
def smTest : DT := dTru (dIsi "tuple" [] (dVar 1))
theorem tup_tup {S : Store} {s : List W} : isiW "tuple" [] S (.tup s) = .ok (.bl true) S := rfl
theorem eq_intself {S : Store} {i : Int} : rEqW false (.int i) (.int i) S = .ok (.bl true) S := by rw [rEq_int]; simp
theorem all_true {S : Store} {n k : Nat} (h : S[n]? = some (.lst (List.replicate k (.bl true)))) : gAll [.ref n] S = .ok (.bl true) S := by
  have e : lisW S (.ref n) = some (List.replicate k (.bl true)) := by
    show (lstW S (.ref n)).map (·.2) = _
    unfold lstW
    simp only [h]
    rfl
  unfold gAll
  simp only [e, bls_rep, all_rep]
theorem len_tup {S : Store} {xs : List W} (h : xs.length ≤ sizeLine) : gLen [.tup xs] S = .ok (.int (xs.length : Int)) S := by
  first | (unfold gLen; simp [h]; done) | rfl | (unfold gLen; simp only [seqW]; rfl)
theorem same_tup {n : Nat} {as : List W} {S : Store} (hl : as.length ≤ 1000000) (h : ∀ a ∈ as, ∀ S, ∃ T, Ext S T ∧ r__law_same n [a, a] S = .ok (.bl true) T) :
    ∃ T, Ext S T ∧ r__law_same (n + 1) [.tup as, .tup as] S = .ok (.bl true) T := by
  obtain ⟨T, hT, eC⟩ := smC_ok (S := S) hl h
  have hL : gLen [.tup as] S = .ok (.int (as.length : Int)) S := len_tup (small hl)
  have hA : gAll [.ref T.length] (T ++ [.lst (List.replicate as.length (.bl true))]) = .ok (.bl true) (T ++ [.lst (List.replicate as.length (.bl true))]) := all_true (k := as.length) (by simp)
  refine ⟨T ++ [.lst (List.replicate as.length (.bl true))], hT.trans (Ext.app _ _), ?_⟩
  rw [r_same_succ, bodyD2]
  unfold d__law_same
  unfold smC at eC
  simp only [ap_dSeq, ap_dVar, ap_dC, ap_dOp, ap_dSub, ap_dBool, ap_dTru, ap_dNot, ap_dAnd, ap_dOr, ap_dIf, ap_dNil, ap_dCons, ap_dTup, ap_dLst, ap_dCall, ap_dCallF, ap_dMake, ap_dMethF, ap_dMeth, ap_dFld, ap_dIsi, ap_dSlice, ap_dNoPart, ap_dPart, ap_dNext, ap_dRet, ap_dRetN, ap_dExpr, ap_dBreak, ap_dCont, ap_dIfS, ap_dAsg, ap_gSet, ap_dPar, ap_dPar3, ap_dFor, ap_dSrc, R.bind_ok, R.bind_exc, R.fl_ok, R.fl_exc, List.getElem?_cons_zero, List.getElem?_cons_succ, List.set_cons_zero, List.set_cons_succ, bodyR_nx, bodyR_rt, bodyR_exc, rAdd_int, rSub_int, rOrd_int, gInt_int, List.append_nil, if_true, if_false, Bool.false_eq_true, Bool.not_true, Bool.not_false, rEq_int, rNe_int, ap_dAndV, tup_tup, truW, List.replicate, hL, eq_intself, eC, hA, decide_true]
end Dn

set_option maxHeartbeats 4000000
namespace Dn
open PySem PySem.Spec PyProof.Rows L2
/-- a token -/
def Tok (w : W) : Prop := ∃ s u : Str, ∃ l c : Int, w = .tup [.str s, .str u, .tup [.int l, .int c]]
theorem kindAt_two (t : List Nat) (a : Nat) : kindAt t a = .non ∨ ∃ s, kindAt t a = .str s := by
  unfold kindAt kindW
  split
  · split
    · exact .inr ⟨_, rfl⟩
    · split
      · exact .inr ⟨_, rfl⟩
      · exact .inl rfl
  · split
    · exact .inr ⟨_, rfl⟩
    · exact .inl rfl
theorem lexR_tok {t : List Nat} : ∀ f a l c acc ts, lexR t f a l c acc = .ok ts → (∀ w ∈ acc, Tok w) → (∀ w ∈ ts, Tok w) ∧ ts.length ≤ acc.length + f + 1
  | 0, a, l, c, acc, ts, e, h => by
    unfold lexR at e
    cases e
    refine ⟨fun w hw => ?_, by simp⟩
    rcases List.mem_append.mp hw with hw | hw
    · exact h w hw
    · rw [List.mem_singleton.mp hw]; exact ⟨_, _, _, _, rfl⟩
  | f + 1, a, l, c, acc, ts, e, h => by
    unfold lexR at e
    split at e
    · cases e
      refine ⟨fun w hw => ?_, by simp <;> omega⟩
      rcases List.mem_append.mp hw with hw | hw
      · exact h w hw
      · rw [List.mem_singleton.mp hw]; exact ⟨_, _, _, _, rfl⟩
    · split at e
      · obtain ⟨h1, h2⟩ := lexR_tok f _ _ _ acc ts e h
        exact ⟨h1, by omega⟩
      · rcases kindAt_two t a with hk | ⟨s, hk⟩
        · rw [hk] at e; cases e
        · rw [hk] at e
          obtain ⟨h1, h2⟩ := lexR_tok f _ _ _ (acc ++ [tokAt t a l c]) ts e (fun w hw => by
            rcases List.mem_append.mp hw with hw | hw
            · exact h w hw
            · rw [List.mem_singleton.mp hw]
              unfold tokAt
              rw [hk]
              exact ⟨_, _, _, _, rfl⟩)
          rw [List.length_append, List.length_singleton] at h2
          exact ⟨h1, by omega⟩
theorem lex_tok {t : List Nat} {ts : List W} (e : lex t = .ok ts) : (∀ w ∈ ts, Tok w) ∧ ts.length ≤ t.length + 2 := by
  obtain ⟨h1, h2⟩ := lexR_tok _ _ _ _ _ ts e (fun w hw => by cases hw)
  exact ⟨h1, by simpa using h2⟩
/-- a token is the same as itself -/
theorem same_tok {n : Nat} {w : W} {S : Store} (h : Tok w) : ∃ T, Ext S T ∧ r__law_same (n + 3) [w, w] S = .ok (.bl true) T := by
  obtain ⟨s, u, l, c, rfl⟩ := h
  refine same_tup (by show 3 ≤ 1000000; omega) fun a ha S => ?_
  simp only [List.mem_cons, List.not_mem_nil, or_false] at ha
  rcases ha with rfl | rfl | rfl
  · exact ⟨S, Ext.refl S, same_str⟩
  · exact ⟨S, Ext.refl S, same_str⟩
  · refine same_tup (by show 2 ≤ 1000000; omega) fun a ha S => ?_
    simp only [List.mem_cons, List.not_mem_nil, or_false] at ha
    rcases ha with rfl | rfl
    · exact ⟨S, Ext.refl S, same_int⟩
    · exact ⟨S, Ext.refl S, same_int⟩
theorem same_toks {t : List Nat} {ts : List W} {S : Store} (e : lex t = .ok ts) (hl : t.length ≤ 999000) : ∃ T, Ext S T ∧ f__law_same [.tup ts, .tup ts] S = .ok (.bl true) T := by
  obtain ⟨h1, h2⟩ := lex_tok e
  exact same_tup (n := 39) (by omega) fun a ha S => same_tok (n := 36) (h1 a ha)
end Dn

set_option maxHeartbeats 4000000
namespace Dn
open PySem PySem.Spec PyProof.Rows L2
def itA : DS := dAsg (dTup (dCons (dLst (dNil)) (dCons (dCallF f__law_due [] (dCons (dVar 0) (dNil))) (dNil)))) (gTupW [gSet 1, gSet 2])
def itL : DE := dLam L__law_why (dMeth "list" gAppend (dVar 1) (dCons (dCallF f_tokens [] (dCons (dVar 0) (dNil))) (dNil)))
def itB : DS := dIfS (dBool (dOp (rEqW true) itL (dSub (dVar 2) (dC (.int 0))))) (dSeq (dRet (dC (.bl false))) (dNext)) (dNext)
def itC : DS := dSeq (dRet (dOrV (dOp (rIs true) (dSub (dVar 2) (dC (.int 0))) (dC .non)) (dCallF f__law_same [] (dCons (dSub (dVar 1) (dC (.int 0))) (dCons (dSub (dVar 2) (dC (.int 1))) (dNil)))))) (dNext)
theorem it_parts : d__law_is_told f__law_due f__law_same f_tokens L__law_why = dSeq itA (dSeq itB itC) := rfl
theorem why_err {cb : Store → R W} {S T : Store} {l c : Nat} (h : cb S = .exc "Misread" (tokMisread l c) T) : L__law_why cb S = .ok (.ref T.length) (T ++ [.lst (readL l c)]) := by
  unfold L__law_why
  rw [h]; rfl
theorem why_ok {cb : Store → R W} {S T : Store} {w : W} (h : cb S = .ok w T) : L__law_why cb S = .ok .non T := by
  unfold L__law_why
  rw [h]; rfl
theorem ap_dOrV {a b : DE} {env : Env} {S : Store} : dOrV a b env S = (a env S).bind fun x S1 => match truW S1 x with
  | some true => .ok x S1
  | some false => b env S1
  | none => .bad := id rfl

theorem sub_tup {S : Store} {xs : List W} {i : Nat} {w : W} (e : xs[i]? = some w) : subW (.tup xs) (.int (i : Int)) S = .ok w S := by
  show (if isDic S (.tup xs) = true then _ else rIxW (.tup xs) (.int (i : Int)) S) = _
  rw [if_neg (by simp [isDic])]
  exact ix_at rfl e
def itAp : DE := dMeth "list" gAppend (dVar 1) (dCons (dCallF f_tokens [] (dCons (dVar 0) (dNil))) (dNil))
theorem itAp_err {S T : Store} {t : List Nat} {n l c : Nat} {xs : List W} {x : Option W} (g1 : S[n]? = some (.lst xs)) (k2 : f_tokens [.str (sx t)] S = .exc "Misread" (tokMisread l c) T) : itAp [some (.str (sx t)), some (.ref n), x] S = .exc "Misread" (tokMisread l c) T := by
  unfold itAp
  simp only [ap_dSeq, ap_dVar, ap_dC, ap_dOp, ap_dSub, ap_dBool, ap_dTru, ap_dNot, ap_dAnd, ap_dOr, ap_dIf, ap_dNil, ap_dCons, ap_dTup, ap_dLst, ap_dCall, ap_dCallF, ap_dMake, ap_dMethF, ap_dMeth, ap_dFld, ap_dIsi, ap_dSlice, ap_dNoPart, ap_dPart, ap_dNext, ap_dRet, ap_dRetN, ap_dExpr, ap_dBreak, ap_dCont, ap_dIfS, ap_dAsg, ap_gSet, ap_dPar, ap_dPar3, ap_dFor, ap_dSrc, R.bind_ok, R.bind_exc, R.fl_ok, R.fl_exc, List.getElem?_cons_zero, List.getElem?_cons_succ, List.set_cons_zero, List.set_cons_succ, bodyR_nx, bodyR_rt, bodyR_exc, rAdd_int, rSub_int, rOrd_int, gInt_int, List.append_nil, if_true, if_false, Bool.false_eq_true, Bool.not_true, Bool.not_false, rEq_int, rNe_int, hasT_lst g1, k2]
theorem itAp_ok {S T : Store} {t : List Nat} {n : Nat} {ts : List W} {x : Option W} (g1 : S[n]? = some (.lst [])) (g2 : T[n]? = some (.lst [])) (k2 : f_tokens [.str (sx t)] S = .ok (.tup ts) T) : itAp [some (.str (sx t)), some (.ref n), x] S = .ok .non (T.set n (.lst [.tup ts])) := by
  unfold itAp
  have e := app_lst (w := .tup ts) g2 (show 0 < sizeLine from Nat.lt_of_lt_of_le (by decide) (small (n := 5) (by decide)))
  simp only [ap_dSeq, ap_dVar, ap_dC, ap_dOp, ap_dSub, ap_dBool, ap_dTru, ap_dNot, ap_dAnd, ap_dOr, ap_dIf, ap_dNil, ap_dCons, ap_dTup, ap_dLst, ap_dCall, ap_dCallF, ap_dMake, ap_dMethF, ap_dMeth, ap_dFld, ap_dIsi, ap_dSlice, ap_dNoPart, ap_dPart, ap_dNext, ap_dRet, ap_dRetN, ap_dExpr, ap_dBreak, ap_dCont, ap_dIfS, ap_dAsg, ap_gSet, ap_dPar, ap_dPar3, ap_dFor, ap_dSrc, R.bind_ok, R.bind_exc, R.fl_ok, R.fl_exc, List.getElem?_cons_zero, List.getElem?_cons_succ, List.set_cons_zero, List.set_cons_succ, bodyR_nx, bodyR_rt, bodyR_exc, rAdd_int, rSub_int, rOrd_int, gInt_int, List.append_nil, if_true, if_false, Bool.false_eq_true, Bool.not_true, Bool.not_false, rEq_int, rNe_int, hasT_lst g1, k2, e, List.nil_append]
theorem itL_eq (env : Env) (S : Store) : itL env S = noXR (L__law_why (itAp env) S) := id rfl
theorem told_ok {S : Store} {t : List Nat} (hl : t.length ≤ 999000) (hch : ChrOk t) : ∃ T, Ext S T ∧ f__law_is_told [.str (sx t)] S = .ok (.bl true) T := by
  have z0 : (0 : Nat) ≤ sizeLine := Nat.zero_le _
  have z2 : (2 : Nat) ≤ sizeLine := small (by decide)
  have z1 : (1 : Nat) ≤ sizeLine := small (by decide)
  obtain ⟨T1, x1, d1⟩ := due_ok (S := S ++ [.lst []]) (t := t) (by omega) hch
  obtain ⟨T2, x2, k2⟩ := tokens_ok (S := T1) (t := t) (by omega)
  have g0 : (S ++ [Cell.lst []])[S.length]? = some (.lst []) := by simp
  have g1 : T1[S.length]? = some (.lst []) := by rw [x1.at_ _ (by simp)]; exact g0
  have g2 : T2[S.length]? = some (.lst []) := by rw [x2.at_ _ (List.getElem?_eq_some_iff.mp g1).1]; exact g1
  have x01 : Ext S T1 := (Ext.app S _).trans x1
  have st : f__law_is_told [.str (sx t)] S = bodyR (d__law_is_told f__law_due f__law_same f_tokens L__law_why [some (.str (sx t)), none, none] S) := rfl
  rw [st, it_parts]
  have hA : ∀ d : W, ∀ e : f__law_due [.str (sx t)] (S ++ [.lst []]) = .ok d T1, itA [some (.str (sx t)), none, none] S = .nx [some (.str (sx t)), some (.ref S.length), some d] T1 := fun d e => by
    unfold itA
    simp only [ap_dSeq, ap_dVar, ap_dC, ap_dOp, ap_dSub, ap_dBool, ap_dTru, ap_dNot, ap_dAnd, ap_dOr, ap_dIf, ap_dNil, ap_dCons, ap_dTup, ap_dLst, ap_dCall, ap_dCallF, ap_dMake, ap_dMethF, ap_dMeth, ap_dFld, ap_dIsi, ap_dSlice, ap_dNoPart, ap_dPart, ap_dNext, ap_dRet, ap_dRetN, ap_dExpr, ap_dBreak, ap_dCont, ap_dIfS, ap_dAsg, ap_gSet, ap_dPar, ap_dPar3, ap_dFor, ap_dSrc, R.bind_ok, R.bind_exc, R.fl_ok, R.fl_exc, List.getElem?_cons_zero, List.getElem?_cons_succ, List.set_cons_zero, List.set_cons_succ, bodyR_nx, bodyR_rt, bodyR_exc, rAdd_int, rSub_int, rOrd_int, gInt_int, List.append_nil, if_true, if_false, Bool.false_eq_true, Bool.not_true, Bool.not_false, rEq_int, rNe_int, e, List.length_nil, z0, List.length_cons, Nat.zero_add, Nat.reduceAdd, z2]
    rfl
  cases hx : lex t with
  | err l c =>
    rw [hx] at d1 k2
    obtain ⟨r, e1, hr⟩ := d1
    rw [seq_nx (hA _ e1)]
    have hr2 : T2[r]? = some (.lst (readL l c)) := by rw [x2.at_ _ (List.getElem?_eq_some_iff.mp hr).1]; exact hr
    have eL : itL [some (.str (sx t)), some (.ref S.length), some (.tup [.ref r, .non])] T1 = .ok (.ref T2.length) (T2 ++ [.lst (readL l c)]) := by
      rw [itL_eq, why_err (itAp_err g1 k2)]; rfl
    have q1 : (T2 ++ [Cell.lst (readL l c)])[T2.length]? = some (.lst (readL l c)) := by simp
    have q2 : (T2 ++ [Cell.lst (readL l c)])[r]? = some (.lst (readL l c)) := by rw [(Ext.app T2 _).at_ _ (List.getElem?_eq_some_iff.mp hr2).1]; exact hr2
    have s0 : subW (.tup [.ref r, .non]) (.int 0) (T2 ++ [Cell.lst (readL l c)]) = .ok (.ref r) (T2 ++ [Cell.lst (readL l c)]) := sub_tup (i := 0) rfl
    have eB : itB [some (.str (sx t)), some (.ref S.length), some (.tup [.ref r, .non])] T1 = .nx [some (.str (sx t)), some (.ref S.length), some (.tup [.ref r, .non])] (T2 ++ [.lst (readL l c)]) := by
      unfold itB
      simp only [ap_dSeq, ap_dVar, ap_dC, ap_dOp, ap_dSub, ap_dBool, ap_dTru, ap_dNot, ap_dAnd, ap_dOr, ap_dIf, ap_dNil, ap_dCons, ap_dTup, ap_dLst, ap_dCall, ap_dCallF, ap_dMake, ap_dMethF, ap_dMeth, ap_dFld, ap_dIsi, ap_dSlice, ap_dNoPart, ap_dPart, ap_dNext, ap_dRet, ap_dRetN, ap_dExpr, ap_dBreak, ap_dCont, ap_dIfS, ap_dAsg, ap_gSet, ap_dPar, ap_dPar3, ap_dFor, ap_dSrc, R.bind_ok, R.bind_exc, R.fl_ok, R.fl_exc, List.getElem?_cons_zero, List.getElem?_cons_succ, List.set_cons_zero, List.set_cons_succ, bodyR_nx, bodyR_rt, bodyR_exc, rAdd_int, rSub_int, rOrd_int, gInt_int, List.append_nil, if_true, if_false, Bool.false_eq_true, Bool.not_true, Bool.not_false, rEq_int, rNe_int, eL, s0, ne_read q1 q2]
    rw [seq_nx eB]
    refine ⟨T2 ++ [.lst (readL l c)], (x01.trans x2).trans (Ext.app _ _), ?_⟩
    have e3 : rIs true (.ref r) .non (T2 ++ [Cell.lst (readL l c)]) = .ok (.bl true) (T2 ++ [Cell.lst (readL l c)]) := rfl
    unfold itC
    simp only [ap_dSeq, ap_dVar, ap_dC, ap_dOp, ap_dSub, ap_dBool, ap_dTru, ap_dNot, ap_dAnd, ap_dOr, ap_dIf, ap_dNil, ap_dCons, ap_dTup, ap_dLst, ap_dCall, ap_dCallF, ap_dMake, ap_dMethF, ap_dMeth, ap_dFld, ap_dIsi, ap_dSlice, ap_dNoPart, ap_dPart, ap_dNext, ap_dRet, ap_dRetN, ap_dExpr, ap_dBreak, ap_dCont, ap_dIfS, ap_dAsg, ap_gSet, ap_dPar, ap_dPar3, ap_dFor, ap_dSrc, R.bind_ok, R.bind_exc, R.fl_ok, R.fl_exc, List.getElem?_cons_zero, List.getElem?_cons_succ, List.set_cons_zero, List.set_cons_succ, bodyR_nx, bodyR_rt, bodyR_exc, rAdd_int, rSub_int, rOrd_int, gInt_int, List.append_nil, if_true, if_false, Bool.false_eq_true, Bool.not_true, Bool.not_false, rEq_int, rNe_int, ap_dOrV, s0, e3, truW]
  | ok ts =>
    rw [hx] at d1 k2
    rw [seq_nx (hA _ d1)]
    have eL : itL [some (.str (sx t)), some (.ref S.length), some (.tup [.non, .tup ts])] T1 = .ok .non (T2.set S.length (.lst [.tup ts])) := by
      rw [itL_eq, why_ok (itAp_ok g1 g2 k2)]; rfl
    have s0 : ∀ U : Store, subW (.tup [.non, .tup ts]) (.int 0) U = .ok .non U := fun U => sub_tup (i := 0) rfl
    have s1 : ∀ U : Store, subW (.tup [.non, .tup ts]) (.int 1) U = .ok (.tup ts) U := fun U => sub_tup (i := 1) rfl
    have q1 : (T2.set S.length (.lst [.tup ts]))[S.length]? = some (.lst [.tup ts]) := set_at g2
    have t0 : subW (.ref S.length) (.int 0) (T2.set S.length (.lst [.tup ts])) = .ok (.tup ts) (T2.set S.length (.lst [.tup ts])) := sub_lst (i := 0) q1 rfl
    have eB : itB [some (.str (sx t)), some (.ref S.length), some (.tup [.non, .tup ts])] T1 = .nx [some (.str (sx t)), some (.ref S.length), some (.tup [.non, .tup ts])] (T2.set S.length (.lst [.tup ts])) := by
      unfold itB
      simp only [ap_dSeq, ap_dVar, ap_dC, ap_dOp, ap_dSub, ap_dBool, ap_dTru, ap_dNot, ap_dAnd, ap_dOr, ap_dIf, ap_dNil, ap_dCons, ap_dTup, ap_dLst, ap_dCall, ap_dCallF, ap_dMake, ap_dMethF, ap_dMeth, ap_dFld, ap_dIsi, ap_dSlice, ap_dNoPart, ap_dPart, ap_dNext, ap_dRet, ap_dRetN, ap_dExpr, ap_dBreak, ap_dCont, ap_dIfS, ap_dAsg, ap_gSet, ap_dPar, ap_dPar3, ap_dFor, ap_dSrc, R.bind_ok, R.bind_exc, R.fl_ok, R.fl_exc, List.getElem?_cons_zero, List.getElem?_cons_succ, List.set_cons_zero, List.set_cons_succ, bodyR_nx, bodyR_rt, bodyR_exc, rAdd_int, rSub_int, rOrd_int, gInt_int, List.append_nil, if_true, if_false, Bool.false_eq_true, Bool.not_true, Bool.not_false, rEq_int, rNe_int, eL, s0, ne_non]
    rw [seq_nx eB]
    obtain ⟨T3, x3, k3⟩ := same_toks (S := T2.set S.length (.lst [.tup ts])) hx hl
    refine ⟨T3, ((x01.trans x2).set _ (Nat.le_refl _)).trans x3, ?_⟩
    have e3 : ∀ U : Store, rIs true .non .non U = .ok (.bl false) U := fun U => rfl
    unfold itC
    simp only [ap_dSeq, ap_dVar, ap_dC, ap_dOp, ap_dSub, ap_dBool, ap_dTru, ap_dNot, ap_dAnd, ap_dOr, ap_dIf, ap_dNil, ap_dCons, ap_dTup, ap_dLst, ap_dCall, ap_dCallF, ap_dMake, ap_dMethF, ap_dMeth, ap_dFld, ap_dIsi, ap_dSlice, ap_dNoPart, ap_dPart, ap_dNext, ap_dRet, ap_dRetN, ap_dExpr, ap_dBreak, ap_dCont, ap_dIfS, ap_dAsg, ap_gSet, ap_dPar, ap_dPar3, ap_dFor, ap_dSrc, R.bind_ok, R.bind_exc, R.fl_ok, R.fl_exc, List.getElem?_cons_zero, List.getElem?_cons_succ, List.set_cons_zero, List.set_cons_succ, bodyR_nx, bodyR_rt, bodyR_exc, rAdd_int, rSub_int, rOrd_int, gInt_int, List.append_nil, if_true, if_false, Bool.false_eq_true, Bool.not_true, Bool.not_false, rEq_int, rNe_int, ap_dOrV, s0, e3, truW, t0, s1, k3]
end Dn

set_option maxHeartbeats 4000000
namespace Dn
open PySem PySem.Spec PyProof.Rows L2
/-! is_name of any value -/
def nmR : DE := dComp (dSrc (dVar 0)) (gSet 1) (dYes) (dCallF f_is_run_sign [] (dCons (dVar 1) (dNil))) [1]
theorem ap_dYes {env : Env} {S : Store} : dYes env S = .ok true S := id rfl
theorem nmR_ok {S : Store} {w : List Nat} (hl : w.length ≤ 1000000) : nmR [some (.str (sx w)), none] S = .ok (.ref S.length) (S ++ [.lst (w.map fun k => .bl (isRun k))]) := by
  have e0 : dSrc (dVar 0) [some (.str (sx w)), none] S = .ok (w.map fun k => .str (sx [k]), fun _ => true) S := by
    have : srcW S (.str (sx w)) = some (w.map fun k => .str (sx [k]), fun _ => true) := by
      show some ((sx w).cps.toList.map fun k => W.str ⟨#[k]⟩, fun _ => true) = _
      rw [sx_cps]; rfl
    simp only [ap_dSeq, ap_dVar, ap_dC, ap_dOp, ap_dSub, ap_dBool, ap_dTru, ap_dNot, ap_dAnd, ap_dOr, ap_dIf, ap_dNil, ap_dCons, ap_dTup, ap_dLst, ap_dCall, ap_dCallF, ap_dMake, ap_dMethF, ap_dMeth, ap_dFld, ap_dIsi, ap_dSlice, ap_dNoPart, ap_dPart, ap_dNext, ap_dRet, ap_dRetN, ap_dExpr, ap_dBreak, ap_dCont, ap_dIfS, ap_dAsg, ap_gSet, ap_dPar, ap_dPar3, ap_dFor, ap_dSrc, R.bind_ok, R.bind_exc, R.fl_ok, R.fl_exc, List.getElem?_cons_zero, List.getElem?_cons_succ, List.set_cons_zero, List.set_cons_succ, bodyR_nx, bodyR_rt, bodyR_exc, rAdd_int, rSub_int, rOrd_int, gInt_int, List.append_nil, if_true, if_false, Bool.false_eq_true, Bool.not_true, Bool.not_false, rEq_int, rNe_int, this]
  obtain ⟨ys, S', e1, e2, ms, hm, hys⟩ := compL_rule (chk := fun _ => true) (g := gSet 1) (dt := dYes) (de := dCallF f_is_run_sign [] (dCons (dVar 1) (dNil))) (env0 := [some (.str (sx w)), none])
    (fun rest acc T => T = S ∧ ∃ ms : List Nat, rest = ms.map (fun k => .str (sx [k])) ∧ acc ++ (ms.map fun k => W.bl (isRun k)) = (w.map fun k => W.bl (isRun k)))
    (fun u rest acc T ⟨hT, ms, hr, ha⟩ => by
      subst hT
      cases ms with
      | nil => cases hr
      | cons k ms =>
        injection hr with hu hr
        subst hu
        refine ⟨rfl, _, T, rfl, .inr ⟨T, .bl (isRun k), T, rfl, by simp only [ap_dSeq, ap_dVar, ap_dC, ap_dOp, ap_dSub, ap_dBool, ap_dTru, ap_dNot, ap_dAnd, ap_dOr, ap_dIf, ap_dNil, ap_dCons, ap_dTup, ap_dLst, ap_dCall, ap_dCallF, ap_dMake, ap_dMethF, ap_dMeth, ap_dFld, ap_dIsi, ap_dSlice, ap_dNoPart, ap_dPart, ap_dNext, ap_dRet, ap_dRetN, ap_dExpr, ap_dBreak, ap_dCont, ap_dIfS, ap_dAsg, ap_gSet, ap_dPar, ap_dPar3, ap_dFor, ap_dSrc, R.bind_ok, R.bind_exc, R.fl_ok, R.fl_exc, List.getElem?_cons_zero, List.getElem?_cons_succ, List.set_cons_zero, List.set_cons_succ, bodyR_nx, bodyR_rt, bodyR_exc, rAdd_int, rSub_int, rOrd_int, gInt_int, List.append_nil, if_true, if_false, Bool.false_eq_true, Bool.not_true, Bool.not_false, rEq_int, rNe_int, is_run_ok], rfl, ms, hr, ?_⟩⟩
        simpa using ha)
    (fun acc T _ => rfl) (w.map fun k => .str (sx [k])) [] S ⟨rfl, w, rfl, by simp⟩
  have hms : ms = [] := by simpa using hm.symm
  subst hms
  subst e2
  rw [List.nil_append, List.map_nil, List.append_nil] at hys
  rw [hys] at e1
  exact dComp_ok e0 e1 (small (by rw [List.length_map]; exact hl))
theorem blsW_map (f : Nat → Bool) : ∀ w : List Nat, blsW (w.map fun k => .bl (f k)) = some (w.map f)
  | [] => rfl
  | k :: w => by
    show (blsW (w.map fun k => .bl (f k))).map (fun bs => f k :: bs) = _
    rw [blsW_map f w]; rfl
theorem gAll_lst {S : Store} {n : Nat} {w : List Nat} {f : Nat → Bool} (h : S[n]? = some (.lst (w.map fun k => .bl (f k)))) : gAll [.ref n] S = .ok (.bl (w.all f)) S := by
  simp only [gAll, lisW_at h, blsW_map]
  simp [List.all_map]
theorem eq_non_str {S : Store} {s : Str} : rEqW false .non (.str s) S = .ok (.bl false) S := rfl
def inT (f_is_run_sign : FW) : DT := dOr (dNot (dTru (dIsi "str" [] (dVar 0)))) (dOr (dBool (dOp (rEqW false) (dVar 0) (dC (.str "")))) (dNot (dTru (dCall gAll (dCons (dComp (dSrc (dVar 0)) (gSet 1) (dYes) (dCallF f_is_run_sign [] (dCons (dVar 1) (dNil))) [1]) (dNil))))))
theorem in_parts (f g : FW) : d_is_name f g = dSeq (dIfS (inT f) (dSeq (dRet (dC (.bl false))) (dNext)) (dNext)) (dSeq (dRet (dOp (rEqW false) (dCallF g [] (dCons (dVar 0) (dNil))) (dC (.str "name")))) (dNext)) := rfl
theorem kind_name {S : Store} {w : List Nat} (h0 : w ≠ []) (hr : w.all isRun = true) : rEqW false (kindW w) (.str "name") S = .ok (.bl (isNm w)) S := by
  rw [kindW_run h0 hr]
  cases h1 : isKey w with
  | true =>
    have e : rEqW false (.str "key") (.str "name") S = .ok (.bl false) S := by rw [eq_str]; rfl
    rw [if_pos rfl, e]
    unfold isNm
    rw [h1]; simp
  | false =>
    rw [if_neg Bool.false_ne_true]
    cases h2 : isNm w with
    | true =>
      rw [if_pos rfl, eq_str]; rfl
    | false => rw [if_neg Bool.false_ne_true, eq_non_str]
theorem isname_ok {S : Store} {w : List Nat} (hl : w.length ≤ 1000000) : ∃ T, Ext S T ∧ f_is_name [.str (sx w)] S = .ok (.bl (isNm w)) T := by
  have st : f_is_name [.str (sx w)] S = bodyR (dSeq (dIfS (inT f_is_run_sign) (dSeq (dRet (dC (.bl false))) (dNext)) (dNext)) (dSeq (dRet (dOp (rEqW false) (dCallF f_kind_of [] (dCons (dVar 0) (dNil))) (dC (.str "name")))) (dNext)) [some (.str (sx w)), none] S) := by
    show bodyR (d_is_name f_is_run_sign f_kind_of [some (.str (sx w)), none] S) = _
    rw [in_parts]
  rw [st]
  by_cases h0 : w = []
  · subst h0
    have e1 : inT f_is_run_sign [some (.str (sx [])), none] S = .ok true S := by
      unfold inT
      simp only [ap_dSeq, ap_dVar, ap_dC, ap_dOp, ap_dSub, ap_dBool, ap_dTru, ap_dNot, ap_dAnd, ap_dOr, ap_dIf, ap_dNil, ap_dCons, ap_dTup, ap_dLst, ap_dCall, ap_dCallF, ap_dMake, ap_dMethF, ap_dMeth, ap_dFld, ap_dIsi, ap_dSlice, ap_dNoPart, ap_dPart, ap_dNext, ap_dRet, ap_dRetN, ap_dExpr, ap_dBreak, ap_dCont, ap_dIfS, ap_dAsg, ap_gSet, ap_dPar, ap_dPar3, ap_dFor, ap_dSrc, R.bind_ok, R.bind_exc, R.fl_ok, R.fl_exc, List.getElem?_cons_zero, List.getElem?_cons_succ, List.set_cons_zero, List.set_cons_succ, bodyR_nx, bodyR_rt, bodyR_exc, rAdd_int, rSub_int, rOrd_int, gInt_int, List.append_nil, if_true, if_false, Bool.false_eq_true, Bool.not_true, Bool.not_false, rEq_int, rNe_int, isi_str, truW, eq_empty]
      simp
    refine ⟨S, Ext.refl S, ?_⟩
    simp only [ap_dSeq, ap_dVar, ap_dC, ap_dOp, ap_dSub, ap_dBool, ap_dTru, ap_dNot, ap_dAnd, ap_dOr, ap_dIf, ap_dNil, ap_dCons, ap_dTup, ap_dLst, ap_dCall, ap_dCallF, ap_dMake, ap_dMethF, ap_dMeth, ap_dFld, ap_dIsi, ap_dSlice, ap_dNoPart, ap_dPart, ap_dNext, ap_dRet, ap_dRetN, ap_dExpr, ap_dBreak, ap_dCont, ap_dIfS, ap_dAsg, ap_gSet, ap_dPar, ap_dPar3, ap_dFor, ap_dSrc, R.bind_ok, R.bind_exc, R.fl_ok, R.fl_exc, List.getElem?_cons_zero, List.getElem?_cons_succ, List.set_cons_zero, List.set_cons_succ, bodyR_nx, bodyR_rt, bodyR_exc, rAdd_int, rSub_int, rOrd_int, gInt_int, List.append_nil, if_true, if_false, Bool.false_eq_true, Bool.not_true, Bool.not_false, rEq_int, rNe_int, e1]
    rfl
  · have e2 := nmR_ok (S := S) hl
    have e3 : gAll [.ref S.length] (S ++ [.lst (w.map fun k => .bl (isRun k))]) = .ok (.bl (w.all isRun)) (S ++ [.lst (w.map fun k => .bl (isRun k))]) := gAll_lst (by simp)
    have e1 : inT f_is_run_sign [some (.str (sx w)), none] S = .ok (!(w.all isRun)) (S ++ [.lst (w.map fun k => .bl (isRun k))]) := by
      unfold inT
      unfold nmR at e2
      simp only [ap_dSeq, ap_dVar, ap_dC, ap_dOp, ap_dSub, ap_dBool, ap_dTru, ap_dNot, ap_dAnd, ap_dOr, ap_dIf, ap_dNil, ap_dCons, ap_dTup, ap_dLst, ap_dCall, ap_dCallF, ap_dMake, ap_dMethF, ap_dMeth, ap_dFld, ap_dIsi, ap_dSlice, ap_dNoPart, ap_dPart, ap_dNext, ap_dRet, ap_dRetN, ap_dExpr, ap_dBreak, ap_dCont, ap_dIfS, ap_dAsg, ap_gSet, ap_dPar, ap_dPar3, ap_dFor, ap_dSrc, R.bind_ok, R.bind_exc, R.fl_ok, R.fl_exc, List.getElem?_cons_zero, List.getElem?_cons_succ, List.set_cons_zero, List.set_cons_succ, bodyR_nx, bodyR_rt, bodyR_exc, rAdd_int, rSub_int, rOrd_int, gInt_int, List.append_nil, if_true, if_false, Bool.false_eq_true, Bool.not_true, Bool.not_false, rEq_int, rNe_int, isi_str, truW, eq_empty, decide_eq_false h0, e2, e3]
    refine ⟨S ++ [.lst (w.map fun k => .bl (isRun k))], Ext.app S _, ?_⟩
    cases hr : w.all isRun with
    | true =>
      rw [hr] at e1
      simp only [ap_dSeq, ap_dVar, ap_dC, ap_dOp, ap_dSub, ap_dBool, ap_dTru, ap_dNot, ap_dAnd, ap_dOr, ap_dIf, ap_dNil, ap_dCons, ap_dTup, ap_dLst, ap_dCall, ap_dCallF, ap_dMake, ap_dMethF, ap_dMeth, ap_dFld, ap_dIsi, ap_dSlice, ap_dNoPart, ap_dPart, ap_dNext, ap_dRet, ap_dRetN, ap_dExpr, ap_dBreak, ap_dCont, ap_dIfS, ap_dAsg, ap_gSet, ap_dPar, ap_dPar3, ap_dFor, ap_dSrc, R.bind_ok, R.bind_exc, R.fl_ok, R.fl_exc, List.getElem?_cons_zero, List.getElem?_cons_succ, List.set_cons_zero, List.set_cons_succ, bodyR_nx, bodyR_rt, bodyR_exc, rAdd_int, rSub_int, rOrd_int, gInt_int, List.append_nil, if_true, if_false, Bool.false_eq_true, Bool.not_true, Bool.not_false, rEq_int, rNe_int, e1, kind_of_ok h0 hl, kind_name h0 hr]
    | false =>
      rw [hr] at e1
      have : isNm w = false := by rw [isNm_of, hr, Bool.and_false]
      simp only [ap_dSeq, ap_dVar, ap_dC, ap_dOp, ap_dSub, ap_dBool, ap_dTru, ap_dNot, ap_dAnd, ap_dOr, ap_dIf, ap_dNil, ap_dCons, ap_dTup, ap_dLst, ap_dCall, ap_dCallF, ap_dMake, ap_dMethF, ap_dMeth, ap_dFld, ap_dIsi, ap_dSlice, ap_dNoPart, ap_dPart, ap_dNext, ap_dRet, ap_dRetN, ap_dExpr, ap_dBreak, ap_dCont, ap_dIfS, ap_dAsg, ap_gSet, ap_dPar, ap_dPar3, ap_dFor, ap_dSrc, R.bind_ok, R.bind_exc, R.fl_ok, R.fl_exc, List.getElem?_cons_zero, List.getElem?_cons_succ, List.set_cons_zero, List.set_cons_succ, bodyR_nx, bodyR_rt, bodyR_exc, rAdd_int, rSub_int, rOrd_int, gInt_int, List.append_nil, if_true, if_false, Bool.false_eq_true, Bool.not_true, Bool.not_false, rEq_int, rNe_int, e1, this]
theorem isname_no {S : Store} {w : W} (h : isiW "str" [] S w = .ok (.bl false) S) : f_is_name [w] S = .ok (.bl false) S := by
  show bodyR (d_is_name f_is_run_sign f_kind_of [some w, none] S) = _
  rw [in_parts]
  unfold inT
  simp only [ap_dSeq, ap_dVar, ap_dC, ap_dOp, ap_dSub, ap_dBool, ap_dTru, ap_dNot, ap_dAnd, ap_dOr, ap_dIf, ap_dNil, ap_dCons, ap_dTup, ap_dLst, ap_dCall, ap_dCallF, ap_dMake, ap_dMethF, ap_dMeth, ap_dFld, ap_dIsi, ap_dSlice, ap_dNoPart, ap_dPart, ap_dNext, ap_dRet, ap_dRetN, ap_dExpr, ap_dBreak, ap_dCont, ap_dIfS, ap_dAsg, ap_gSet, ap_dPar, ap_dPar3, ap_dFor, ap_dSrc, R.bind_ok, R.bind_exc, R.fl_ok, R.fl_exc, List.getElem?_cons_zero, List.getElem?_cons_succ, List.set_cons_zero, List.set_cons_succ, bodyR_nx, bodyR_rt, bodyR_exc, rAdd_int, rSub_int, rOrd_int, gInt_int, List.append_nil, if_true, if_false, Bool.false_eq_true, Bool.not_true, Bool.not_false, rEq_int, rNe_int, h, truW]
theorem lawname_no {S : Store} {w : W} (h : isiW "str" [] S w = .ok (.bl false) S) : f__law_is_name [w] S = .ok (.bl false) S := by
  show bodyR (d__law_is_name f__law_keys [some w, none] S) = _
  rw [nm_parts]
  unfold nmT
  simp only [ap_dSeq, ap_dVar, ap_dC, ap_dOp, ap_dSub, ap_dBool, ap_dTru, ap_dNot, ap_dAnd, ap_dOr, ap_dIf, ap_dNil, ap_dCons, ap_dTup, ap_dLst, ap_dCall, ap_dCallF, ap_dMake, ap_dMethF, ap_dMeth, ap_dFld, ap_dIsi, ap_dSlice, ap_dNoPart, ap_dPart, ap_dNext, ap_dRet, ap_dRetN, ap_dExpr, ap_dBreak, ap_dCont, ap_dIfS, ap_dAsg, ap_gSet, ap_dPar, ap_dPar3, ap_dFor, ap_dSrc, R.bind_ok, R.bind_exc, R.fl_ok, R.fl_exc, List.getElem?_cons_zero, List.getElem?_cons_succ, List.set_cons_zero, List.set_cons_succ, bodyR_nx, bodyR_rt, bodyR_exc, rAdd_int, rSub_int, rOrd_int, gInt_int, List.append_nil, if_true, if_false, Bool.false_eq_true, Bool.not_true, Bool.not_false, rEq_int, rNe_int, h, truW]
theorem same_bl {n : Nat} {S : Store} {b : Bool} : r__law_same (n + 1) [.bl b, .bl b] S = .ok (.bl true) S := by
  rw [r_same_succ, bodyD2]
  unfold d__law_same
  have e1 : isiW "tuple" [] S (.bl b) = .ok (.bl false) S := rfl
  have e2 : rIs false (.bl b) .non S = .ok (.bl false) S := by cases b <;> rfl
  have e3 : ∀ c, rIs false (.bl b) (.bl c) S = .ok (.bl (decide (b = c))) S := fun c => by cases b <;> cases c <;> rfl
  cases b with
  | true => simp only [ap_dSeq, ap_dVar, ap_dC, ap_dOp, ap_dSub, ap_dBool, ap_dTru, ap_dNot, ap_dAnd, ap_dOr, ap_dIf, ap_dNil, ap_dCons, ap_dTup, ap_dLst, ap_dCall, ap_dCallF, ap_dMake, ap_dMethF, ap_dMeth, ap_dFld, ap_dIsi, ap_dSlice, ap_dNoPart, ap_dPart, ap_dNext, ap_dRet, ap_dRetN, ap_dExpr, ap_dBreak, ap_dCont, ap_dIfS, ap_dAsg, ap_gSet, ap_dPar, ap_dPar3, ap_dFor, ap_dSrc, R.bind_ok, R.bind_exc, R.fl_ok, R.fl_exc, List.getElem?_cons_zero, List.getElem?_cons_succ, List.set_cons_zero, List.set_cons_succ, bodyR_nx, bodyR_rt, bodyR_exc, rAdd_int, rSub_int, rOrd_int, gInt_int, List.append_nil, if_true, if_false, Bool.false_eq_true, Bool.not_true, Bool.not_false, rEq_int, rNe_int, e1, e2, e3, truW, decide_true, List.replicate, Nat.reduceSub]
  | false => simp only [ap_dSeq, ap_dVar, ap_dC, ap_dOp, ap_dSub, ap_dBool, ap_dTru, ap_dNot, ap_dAnd, ap_dOr, ap_dIf, ap_dNil, ap_dCons, ap_dTup, ap_dLst, ap_dCall, ap_dCallF, ap_dMake, ap_dMethF, ap_dMeth, ap_dFld, ap_dIsi, ap_dSlice, ap_dNoPart, ap_dPart, ap_dNext, ap_dRet, ap_dRetN, ap_dExpr, ap_dBreak, ap_dCont, ap_dIfS, ap_dAsg, ap_gSet, ap_dPar, ap_dPar3, ap_dFor, ap_dSrc, R.bind_ok, R.bind_exc, R.fl_ok, R.fl_exc, List.getElem?_cons_zero, List.getElem?_cons_succ, List.set_cons_zero, List.set_cons_succ, bodyR_nx, bodyR_rt, bodyR_exc, rAdd_int, rSub_int, rOrd_int, gInt_int, List.append_nil, if_true, if_false, Bool.false_eq_true, Bool.not_true, Bool.not_false, rEq_int, rNe_int, e1, e2, e3, truW, decide_true, List.replicate, Nat.reduceSub, decide_false]
end Dn

set_option maxHeartbeats 4000000
namespace Dn
open PySem PySem.Spec PyProof.Rows L2
/-! the law's own walk: parts -/
def dLits (ws : List W) : DA := ws.foldr (fun w d => dCons (dC w) d) dNil
theorem ap_dLits : ∀ (ws : List W) {env : Env} {S : Store}, dLits ws env S = .ok ws S
  | [], env, S => rfl
  | w :: ws, env, S => by
    show (dCons (dC w) (dLits ws)) env S = _
    rw [ap_dCons, ap_dC, R.bind_ok, ap_dLits ws]; rfl
/-- a text that can be told -/
def OkS (w : W) : Prop := ∃ x, w = .str (sx x) ∧ x.length ≤ 16 ∧ ChrOk x
def okB : W → Bool
  | .str x => decide (x.cps.toList.length ≤ 16) && x.cps.toList.all fun k => decide (k < 1114112)
  | _ => false
theorem okB_ok {w : W} (h : okB w = true) : OkS w := by
  cases w with
  | str x =>
    obtain ⟨h1, h2⟩ := Bool.and_eq_true_iff.mp h
    refine ⟨x.cps.toList, by rw [← sx_of], of_decide_eq_true h1, fun k hk => of_decide_eq_true (List.all_eq_true.mp h2 k hk)⟩
  | _ => simp [okB] at h
theorem okBs_ok {ws : List W} (h : ws.all okB = true) : ∀ w ∈ ws, OkS w := fun w hw => okB_ok (List.all_eq_true.mp h w hw)
theorem okS_name {i : Nat} {x : List Nat} (hi : i < 100) (h : NameOf i x) : OkS (.str (sx x)) := by
  obtain ⟨u, v, hu, hv, h0, hl, rfl⟩ := h
  have hd := dgts_ok ⟨i, hi⟩
  obtain ⟨d1, d2, d3⟩ := hd
  refine ⟨_, rfl, ?_, fun k hk => ?_⟩
  · rw [List.length_append, List.length_append]
    have : (dgts i).length ≤ 2 := d3
    omega
  · rcases List.mem_append.mp hk with hk | hk
    · rcases List.mem_append.mp hk with hk | hk
      · have := (hu k hk).2; omega
      · have := of_decide_eq_true (List.all_eq_true.mp d1 k hk); omega
    · have := (hv k hk).2; omega
theorem gro_app {p : Nat} {S T : Store} (h : Gro p S T) (G : Store) : Gro p S (T ++ G) := h.trans (Gro.app p T G)
/-- a pick of a list that is told on the spot -/
theorem pick_lits {S : Store} {p c b : Nat} {env : Env} {ws : List W} (hv : env[1]? = some (some (.ref p))) (h : PenAt S p c (b + 1)) (hl : 1 ≤ ws.length ∧ ws.length < 1000000) :
    ∃ w T, dCallF f__law_pick [] (dCons (dVar 1) (dCons (dLst (dLits ws)) dNil)) env S = .ok w T ∧ w ∈ ws ∧ PenAt T p c b ∧ Gro p S T := by
  obtain ⟨w, T, e, hw, hP, hB⟩ := pick_lst (n := S.length) (xs := ws) (h.app [.lst ws]) (by simp) hl
  refine ⟨w, T, ?_, hw, hP, (Gro.app p S _).trans hB.gro⟩
  have hz : ws.length ≤ sizeLine := small (by omega)
  simp only [ap_dSeq, ap_dVar, ap_dC, ap_dOp, ap_dSub, ap_dBool, ap_dTru, ap_dNot, ap_dAnd, ap_dOr, ap_dIf, ap_dNil, ap_dCons, ap_dTup, ap_dLst, ap_dCall, ap_dCallF, ap_dMake, ap_dMethF, ap_dMeth, ap_dFld, ap_dIsi, ap_dSlice, ap_dNoPart, ap_dPart, ap_dNext, ap_dRet, ap_dRetN, ap_dExpr, ap_dBreak, ap_dCont, ap_dIfS, ap_dAsg, ap_gSet, ap_dPar, ap_dPar3, ap_dFor, ap_dSrc, R.bind_ok, R.bind_exc, R.fl_ok, R.fl_exc, List.getElem?_cons_zero, List.getElem?_cons_succ, List.set_cons_zero, List.set_cons_succ, bodyR_nx, bodyR_rt, bodyR_exc, rAdd_int, rSub_int, rOrd_int, gInt_int, List.append_nil, if_true, if_false, Bool.false_eq_true, Bool.not_true, Bool.not_false, rEq_int, rNe_int, hv, ap_dLits, hz, e]
theorem pick_var {S : Store} {p c b i n : Nat} {env : Env} {ws : List W} (hv : env[1]? = some (some (.ref p))) (hi : env[i]? = some (some (.ref n))) (hx : S[n]? = some (.lst ws)) (h : PenAt S p c (b + 1)) (hl : 1 ≤ ws.length ∧ ws.length < 1000000) :
    ∃ w T, dCallF f__law_pick [] (dCons (dVar 1) (dCons (dVar i) dNil)) env S = .ok w T ∧ w ∈ ws ∧ PenAt T p c b ∧ Gro p S T := by
  obtain ⟨w, T, e, hw, hP, hB⟩ := pick_lst h hx hl
  refine ⟨w, T, ?_, hw, hP, hB.gro⟩
  simp only [ap_dSeq, ap_dVar, ap_dC, ap_dOp, ap_dSub, ap_dBool, ap_dTru, ap_dNot, ap_dAnd, ap_dOr, ap_dIf, ap_dNil, ap_dCons, ap_dTup, ap_dLst, ap_dCall, ap_dCallF, ap_dMake, ap_dMethF, ap_dMeth, ap_dFld, ap_dIsi, ap_dSlice, ap_dNoPart, ap_dPart, ap_dNext, ap_dRet, ap_dRetN, ap_dExpr, ap_dBreak, ap_dCont, ap_dIfS, ap_dAsg, ap_gSet, ap_dPar, ap_dPar3, ap_dFor, ap_dSrc, R.bind_ok, R.bind_exc, R.fl_ok, R.fl_exc, List.getElem?_cons_zero, List.getElem?_cons_succ, List.set_cons_zero, List.set_cons_succ, bodyR_nx, bodyR_rt, bodyR_exc, rAdd_int, rSub_int, rOrd_int, gInt_int, List.append_nil, if_true, if_false, Bool.false_eq_true, Bool.not_true, Bool.not_false, rEq_int, rNe_int, hv, hi, e]
theorem draw_c {S : Store} {p c b : Nat} {m : Nat} {env : Env} (hv : env[1]? = some (some (.ref p))) (h : PenAt S p c (b + 1)) (hm : 1 ≤ m ∧ m < 1000000) :
    ∃ r : Nat, ∃ T, dCallF f__law_draw [] (dCons (dVar 1) (dCons (dC (.int (m : Int))) dNil)) env S = .ok (.int (r : Int)) T ∧ r < m ∧ PenAt T p c b ∧ Gro p S T := by
  obtain ⟨r, T, e, h0, h1, hP, hB⟩ := draw_ok (m := (m : Int)) h (by omega)
  obtain ⟨k, rfl⟩ : ∃ k : Nat, r = k := ⟨r.toNat, by omega⟩
  refine ⟨k, T, ?_, by omega, hP, hB.gro⟩
  simp only [ap_dSeq, ap_dVar, ap_dC, ap_dOp, ap_dSub, ap_dBool, ap_dTru, ap_dNot, ap_dAnd, ap_dOr, ap_dIf, ap_dNil, ap_dCons, ap_dTup, ap_dLst, ap_dCall, ap_dCallF, ap_dMake, ap_dMethF, ap_dMeth, ap_dFld, ap_dIsi, ap_dSlice, ap_dNoPart, ap_dPart, ap_dNext, ap_dRet, ap_dRetN, ap_dExpr, ap_dBreak, ap_dCont, ap_dIfS, ap_dAsg, ap_gSet, ap_dPar, ap_dPar3, ap_dFor, ap_dSrc, R.bind_ok, R.bind_exc, R.fl_ok, R.fl_exc, List.getElem?_cons_zero, List.getElem?_cons_succ, List.set_cons_zero, List.set_cons_succ, bodyR_nx, bodyR_rt, bodyR_exc, rAdd_int, rSub_int, rOrd_int, gInt_int, List.append_nil, if_true, if_false, Bool.false_eq_true, Bool.not_true, Bool.not_false, rEq_int, rNe_int, hv, e]
def lwE (w : W) (p : Nat) (x2 x3 x4 x5 x6 x7 x8 x9 x10 : Option W) : Env := [some w, some (.ref p), x2, x3, x4, x5, x6, x7, x8, x9, x10]
def blanks : List W := [.str " ", .str " ", .str "\n", .str "", .str "  ", .str " # x } 01\n", .str "#\n", .str "\n\n"]
def tails : List W := [.str "#", .str "# end", .str " ", .str "\n", .str "\n ", .str "# a\n#b"]
def rights : List W := [.str "{", .str "}", .str ";", .str "abcdefghijkl", .str "a1", .str "lock2"]
def wrongs : List W := [.str "01", .str "00", .str "1000", .str "1a", .str "abcdefghijklm", .str "shopshopshop1", .str "A", .str "_", .str "a.b", .str ".", .str "[", .str "\t", .str "*", .str "a_"]
def fixs : List W := [.str "", .str " ", .str "\n", .str "#", .str "a#b\nc", .str "{}=;,+-", .str "a-1", .str "shop2", .str "2shop", .str "thing", .str "things"]
theorem blanks_ok : ∀ w ∈ blanks, OkS w := okBs_ok (by decide +kernel)
theorem tails_ok : ∀ w ∈ tails, OkS w := okBs_ok (by decide +kernel)
theorem rights_ok : ∀ w ∈ rights, OkS w := okBs_ok (by decide +kernel)
theorem wrongs_ok : ∀ w ∈ wrongs, OkS w := okBs_ok (by decide +kernel)
theorem fixs_ok : ∀ w ∈ fixs, OkS w := okBs_ok (by decide +kernel)
theorem keys_okS : ∀ w ∈ keyStrs.map W.str, OkS w := okBs_ok (by decide +kernel)
def pickV (i : Nat) : DE := dCallF f__law_pick [] (dCons (dVar 1) (dCons (dVar i) dNil))
def pickL (ws : List W) : DE := dCallF f__law_pick [] (dCons (dVar 1) (dCons (dLst (dLits ws)) dNil))
def drawN (m : Nat) : DE := dCallF f__law_draw [] (dCons (dVar 1) (dCons (dC (.int (m : Int))) dNil))
def turnW : DE := dIf (dBool (dOp rGt (drawN 12) (dC (.int 0)))) (pickV 4) (pickV 5)
def turnB : DS := dSeq (dAsg turnW (gSet 8)) (dSeq (dAsg (dOp rAdd (dOp rAdd (dVar 6) (dVar 8)) (pickL blanks)) (gSet 6)) (dNext))
section
variable {S : Store} {p c b r4 r5 : Nat} {w : W} {x2 x3 x6 x7 x8 x9 x10 : Option W} {rs ws : List W} {t : List Nat}
theorem turnW_ok (h : PenAt S p c (b + 2)) (h4 : S[r4]? = some (.lst rs)) (h5 : S[r5]? = some (.lst ws)) (k4 : ∀ w ∈ rs, OkS w) (k5 : ∀ w ∈ ws, OkS w) (l4 : 1 ≤ rs.length ∧ rs.length < 1000000) (l5 : 1 ≤ ws.length ∧ ws.length < 1000000) (n4 : r4 ≠ p) (n5 : r5 ≠ p) :
    ∃ x T, turnW (lwE w p x2 x3 (some (.ref r4)) (some (.ref r5)) x6 x7 x8 x9 x10) S = .ok (.str (sx x)) T ∧ x.length ≤ 16 ∧ ChrOk x ∧ PenAt T p c b ∧ Gro p S T := by
  obtain ⟨r, T1, e1, r1, hP1, hG1⟩ := draw_c (m := 12) (env := lwE w p x2 x3 (some (.ref r4)) (some (.ref r5)) x6 x7 x8 x9 x10) (b := b + 1) rfl h (by omega)
  by_cases q : 0 < r
  · obtain ⟨y, T2, e2, hy, hP2, hG2⟩ := pick_var (i := 4) (env := lwE w p x2 x3 (some (.ref r4)) (some (.ref r5)) x6 x7 x8 x9 x10) rfl rfl (hG1.some h4 n4) hP1 l4
    obtain ⟨x, rfl, hx, hc⟩ := k4 y hy
    refine ⟨x, T2, ?_, hx, hc, hP2, hG1.trans hG2⟩
    have q2 : decide ((0 : Int) < (r : Int)) = true := decide_eq_true (by omega)
    unfold turnW drawN pickV
    rw [ap_dIf, ap_dBool, ap_dOp, e1]
    simp only [R.bind_ok, ap_dC, rOrd_int, q2, if_true]
    exact e2
  · obtain ⟨y, T2, e2, hy, hP2, hG2⟩ := pick_var (i := 5) (env := lwE w p x2 x3 (some (.ref r4)) (some (.ref r5)) x6 x7 x8 x9 x10) rfl rfl (hG1.some h5 n5) hP1 l5
    obtain ⟨x, rfl, hx, hc⟩ := k5 y hy
    refine ⟨x, T2, ?_, hx, hc, hP2, hG1.trans hG2⟩
    have q2 : decide ((0 : Int) < (r : Int)) = false := decide_eq_false (by omega)
    unfold turnW drawN pickV
    rw [ap_dIf, ap_dBool, ap_dOp, e1]
    simp only [R.bind_ok, ap_dC, rOrd_int, q2, if_false, Bool.false_eq_true]
    exact e2
theorem chr_app {a b : List Nat} (h : ChrOk a) (h' : ChrOk b) : ChrOk (a ++ b) := fun k hk => (List.mem_append.mp hk).elim (h k) (h' k)
theorem turnB_ok (h : PenAt S p c (b + 3)) (h4 : S[r4]? = some (.lst rs)) (h5 : S[r5]? = some (.lst ws)) (k4 : ∀ w ∈ rs, OkS w) (k5 : ∀ w ∈ ws, OkS w) (l4 : 1 ≤ rs.length ∧ rs.length < 1000000) (l5 : 1 ≤ ws.length ∧ ws.length < 1000000) (n4 : r4 ≠ p) (n5 : r5 ≠ p) (ht : t.length ≤ 10000) (hc : ChrOk t) :
    ∃ t' y8 T, turnB (lwE w p x2 x3 (some (.ref r4)) (some (.ref r5)) (some (.str (sx t))) x7 x8 x9 x10) S = .nx (lwE w p x2 x3 (some (.ref r4)) (some (.ref r5)) (some (.str (sx t'))) x7 y8 x9 x10) T ∧ t'.length ≤ t.length + 32 ∧ ChrOk t' ∧ PenAt T p c b ∧ Gro p S T := by
  obtain ⟨x, T1, e1, hx, hcx, hP1, hG1⟩ := turnW_ok (w := w) (x2 := x2) (x3 := x3) (x6 := some (.str (sx t))) (x7 := x7) (x8 := x8) (x9 := x9) (x10 := x10) (b := b + 1) h h4 h5 k4 k5 l4 l5 n4 n5
  obtain ⟨y, T2, e2, hy, hP2, hG2⟩ := pick_lits (ws := blanks) (env := lwE w p x2 x3 (some (.ref r4)) (some (.ref r5)) (some (.str (sx t))) x7 (some (.str (sx x))) x9 x10) rfl hP1 (by decide)
  obtain ⟨z, rfl, hz, hcz⟩ := blanks_ok y hy
  refine ⟨t ++ x ++ z, some (.str (sx x)), T2, ?_, by rw [List.length_append, List.length_append]; omega, chr_app (chr_app hc hcx) hcz, hP2, hG1.trans hG2⟩
  have a1 : rAdd (.str (sx t)) (.str (sx x)) T1 = .ok (.str (sx (t ++ x))) T1 := add_str (small (by omega))
  have a2 : rAdd (.str (sx (t ++ x))) (.str (sx z)) T2 = .ok (.str (sx (t ++ x ++ z))) T2 := add_str (small (by rw [List.length_append]; omega))
  unfold turnB
  rw [seq_nx (env2 := lwE w p x2 x3 (some (.ref r4)) (some (.ref r5)) (some (.str (sx t))) x7 (some (.str (sx x))) x9 x10) (S2 := T1)]
  · unfold pickL
    rw [ap_dSeq, ap_dAsg, ap_dOp, ap_dOp]
    have v6 : dVar 6 (lwE w p x2 x3 (some (.ref r4)) (some (.ref r5)) (some (.str (sx t))) x7 (some (.str (sx x))) x9 x10) T1 = .ok (.str (sx t)) T1 := rfl
    have v8 : dVar 8 (lwE w p x2 x3 (some (.ref r4)) (some (.ref r5)) (some (.str (sx t))) x7 (some (.str (sx x))) x9 x10) T1 = .ok (.str (sx x)) T1 := rfl
    simp only [v6, v8, R.bind_ok, a1, e2, a2, R.fl_ok, ap_gSet, ap_dNext]
    rfl
  · rw [ap_dAsg, e1]; rfl
def turns : DS := dFor (dRng1 (drawN 25)) (gSet 7) turnB
theorem turns_ok (h : PenAt S p c (b + 100)) (h4 : S[r4]? = some (.lst rs)) (h5 : S[r5]? = some (.lst ws)) (k4 : ∀ w ∈ rs, OkS w) (k5 : ∀ w ∈ ws, OkS w) (l4 : 1 ≤ rs.length ∧ rs.length < 1000000) (l5 : 1 ≤ ws.length ∧ ws.length < 1000000) (n4 : r4 ≠ p) (n5 : r5 ≠ p) :
    ∃ t y7 y8 T, turns (lwE w p x2 x3 (some (.ref r4)) (some (.ref r5)) (some (.str (sx []))) x7 x8 x9 x10) S = .nx (lwE w p x2 x3 (some (.ref r4)) (some (.ref r5)) (some (.str (sx t))) y7 y8 x9 x10) T ∧ t.length ≤ 1000 ∧ ChrOk t ∧ PenAt T p c b ∧ Gro p S T := by
  obtain ⟨r, T1, e1, r1, hP1, hG1⟩ := draw_c (m := 25) (env := lwE w p x2 x3 (some (.ref r4)) (some (.ref r5)) (some (.str (sx []))) x7 x8 x9 x10) (b := b + 99) rfl h (by omega)
  have er := rng1 (d := drawN 25) e1 (by omega)
  have key := forL_rule (chk := fun _ => true) (g := gSet 7) (body := turnB)
    (fun rest env T => ∃ t y7 y8, env = lwE w p x2 x3 (some (.ref r4)) (some (.ref r5)) (some (.str (sx t))) y7 y8 x9 x10 ∧ t.length + 32 * rest.length ≤ 1000 ∧ ChrOk t ∧ PenAt T p c (b + 3 * rest.length) ∧ Gro p S T)
    (fun fl => ∃ t y7 y8 T, fl = .nx (lwE w p x2 x3 (some (.ref r4)) (some (.ref r5)) (some (.str (sx t))) y7 y8 x9 x10) T ∧ t.length ≤ 1000 ∧ ChrOk t ∧ PenAt T p c b ∧ Gro p S T)
    (fun u rest env T ⟨t, y7, y8, he, hl, hc, hP, hG⟩ => by
      subst he
      rw [List.length_cons] at hl hP
      obtain ⟨t', z8, T', e, h1, h2, h3, h6⟩ := turnB_ok (w := w) (x2 := x2) (x3 := x3) (x7 := some u) (x8 := y8) (x9 := x9) (x10 := x10) (b := b + 3 * rest.length) (hP.mono (by omega)) (hG.some h4 n4) (hG.some h5 n5) k4 k5 l4 l5 n4 n5 (t := t) (by omega) hc
      refine ⟨rfl, _, T, rfl, ?_⟩
      show (match turnB (lwE w p x2 x3 (some (.ref r4)) (some (.ref r5)) (some (.str (sx t))) (some u) y8 x9 x10) T with | .nx e S2 => _ | .ct e S2 => _ | .bk e S2 => _ | r => _)
      rw [e]
      exact ⟨t', some u, z8, rfl, by omega, h2, h3, hG.trans h6⟩)
    (fun env T ⟨t, y7, y8, he, hl, hc, hP, hG⟩ => ⟨rfl, t, y7, y8, T, by rw [he], by simpa using hl, hc, by simpa using hP, hG⟩)
    ((List.range r).map fun i => .int ((i : Nat) : Int)) (lwE w p x2 x3 (some (.ref r4)) (some (.ref r5)) (some (.str (sx []))) x7 x8 x9 x10) T1
    ⟨[], x7, x8, rfl, by rw [List.length_map, List.length_range]; show 0 + _ ≤ _; omega, (fun k hk => by cases hk), (by rw [List.length_map, List.length_range]; exact hP1.mono (by omega)), hG1⟩
  obtain ⟨t, y7, y8, T, e, q⟩ := key
  refine ⟨t, y7, y8, T, ?_, q⟩
  unfold turns
  rw [ap_dFor, er]
  exact e
end
end Dn

set_option maxHeartbeats 4000000
namespace Dn
open PySem PySem.Spec PyProof.Rows L2
theorem Ext.groP {p : Nat} {S T : Store} (h : Ext S T) : Gro p S T := ⟨h.le, fun i hi _ => h.at_ i hi⟩
theorem PenAt.ext {S T : Store} {p c b : Nat} (h : PenAt S p c b) (e : Ext S T) : PenAt T p c b := h.of (e.at_ p h.lt) (e.at_ c h.ltc)
theorem addL {S : Store} {m n : Nat} {xs ys : List W} (h1 : S[m]? = some (.lst xs)) (h2 : S[n]? = some (.lst ys)) (hl : xs.length + ys.length ≤ 1000000) : rAdd (.ref m) (.ref n) S = .ok (.ref S.length) (S ++ [.lst (xs ++ ys)]) := by
  exact add_lst h1 h2 (small hl)
theorem str_nil : W.str "" = W.str (sx []) := by
  have e : ("" : Str) = sx [] := by decide +kernel
  rw [e]
def keysE : DE := fun _ S => f__law_keys [] S
def lbN : DS := dAsg (dCallF f__law_names [] (dCons (dVar 1) (dCons (dC (.int 3)) dNil))) (gSet 3)
def lbR : DS := dAsg (dOp rAdd (dOp rAdd (dVar 3) keysE) (dLst (dLits rights))) (gSet 4)
def lbW : DS := dAsg (dLst (dLits wrongs)) (gSet 5)
def lbT : DS := dAsg (dC (.str "")) (gSet 6)
def lbI : DS := dIfS (dOr (dNot (dTru (dCallF f__law_is_told [] (dCons (dVar 6) dNil)))) (dNot (dTru (dCallF f__law_is_told [] (dCons (dOp rAdd (dVar 6) (pickL tails)) dNil))))) (dSeq (dRet (dC (.bl false))) dNext) dNext
def lapB : DS := dSeq lbN (dSeq lbR (dSeq lbW (dSeq lbT (dSeq turns (dSeq lbI dNext)))))
section
variable {S : Store} {p c b : Nat} {w : W} {x2 x3 x4 x5 x6 x7 x8 x9 x10 : Option W} {t : List Nat}
theorem lbI_ok (h : PenAt S p c (b + 1)) (ht : t.length ≤ 1000) (hc : ChrOk t) : ∃ T, lbI (lwE w p x2 x3 x4 x5 (some (.str (sx t))) x7 x8 x9 x10) S = .nx (lwE w p x2 x3 x4 x5 (some (.str (sx t))) x7 x8 x9 x10) T ∧ PenAt T p c b ∧ Gro p S T := by
  obtain ⟨T1, x1, e1⟩ := told_ok (S := S) (t := t) (by omega) hc
  obtain ⟨y, T2, e2, hy, hP2, hG2⟩ := pick_lits (ws := tails) (env := lwE w p x2 x3 x4 x5 (some (.str (sx t))) x7 x8 x9 x10) rfl (h.ext x1) (by decide)
  obtain ⟨z, rfl, hz, hcz⟩ := tails_ok y hy
  have a1 : rAdd (.str (sx t)) (.str (sx z)) T2 = .ok (.str (sx (t ++ z))) T2 := add_str (small (by omega))
  obtain ⟨T3, h3, e3⟩ := told_ok (S := T2) (t := t ++ z) (by rw [List.length_append]; omega) (chr_app hc hcz)
  refine ⟨T3, ?_, hP2.ext h3, (x1.groP.trans hG2).trans h3.groP⟩
  have e2' : pickL tails (lwE w p x2 x3 x4 x5 (some (.str (sx t))) x7 x8 x9 x10) T1 = .ok (.str (sx z)) T2 := e2
  have v6 : ∀ U, dVar 6 (lwE w p x2 x3 x4 x5 (some (.str (sx t))) x7 x8 x9 x10) U = .ok (.str (sx t)) U := fun U => rfl
  have c1 : dCallF f__law_is_told [] (dCons (dVar 6) dNil) (lwE w p x2 x3 x4 x5 (some (.str (sx t))) x7 x8 x9 x10) S = .ok (.bl true) T1 := by
    rw [ap_dCallF, ap_dCons, v6]
    exact e1
  have c2 : dCallF f__law_is_told [] (dCons (dOp rAdd (dVar 6) (pickL tails)) dNil) (lwE w p x2 x3 x4 x5 (some (.str (sx t))) x7 x8 x9 x10) T1 = .ok (.bl true) T3 := by
    rw [ap_dCallF, ap_dCons, ap_dOp, v6, R.bind_ok, e2', R.bind_ok, a1]
    exact e3
  unfold lbI
  rw [ap_dIfS, ap_dOr, ap_dNot, ap_dTru, c1]
  simp only [R.bind_ok, truW, Bool.not_true, Bool.false_eq_true, if_false]
  rw [ap_dNot, ap_dTru, c2]
  simp only [R.bind_ok, truW, Bool.not_true, R.fl_ok, Bool.false_eq_true, if_false, ap_dNext]
theorem lap_ok (h : PenAt S p c (b + 200)) : ∃ y3 y4 y5 y6 y7 y8 T, lapB (lwE w p x2 x3 x4 x5 x6 x7 x8 x9 x10) S = .nx (lwE w p x2 y3 y4 y5 y6 y7 y8 x9 x10) T ∧ PenAt T p c b ∧ Gro p S T := by
  obtain ⟨zs, ys, r, T1, e1, hr, hp, hz, hn, hP1, hG1, hrl⟩ := names_ok (m := 3) (b := b + 160) (h.mono (by omega)) (by decide)
  have hyl : ys.length = 3 := by rw [hp.length_eq, List.length_map, hz]
  have hys : ∀ w ∈ ys, OkS w := fun w hw => by
    obtain ⟨x, hx, rfl⟩ := List.mem_map.mp (hp.mem_iff.mp hw)
    obtain ⟨i, hi, he⟩ := List.getElem_of_mem hx
    exact okS_name (i := i) (by omega) (hn i x (by rw [List.getElem?_eq_getElem hi, he]))
  have eN : lbN (lwE w p x2 x3 x4 x5 x6 x7 x8 x9 x10) S = .nx (lwE w p x2 (some (.ref r)) x4 x5 x6 x7 x8 x9 x10) T1 := by
    unfold lbN lwE
    have e1' : f__law_names [.ref p, .int 3] S = .ok (.ref r) T1 := e1
    simp only [ap_dSeq, ap_dVar, ap_dC, ap_dOp, ap_dSub, ap_dBool, ap_dTru, ap_dNot, ap_dAnd, ap_dOr, ap_dIf, ap_dNil, ap_dCons, ap_dTup, ap_dLst, ap_dCall, ap_dCallF, ap_dMake, ap_dMethF, ap_dMeth, ap_dFld, ap_dIsi, ap_dSlice, ap_dNoPart, ap_dPart, ap_dNext, ap_dRet, ap_dRetN, ap_dExpr, ap_dBreak, ap_dCont, ap_dIfS, ap_dAsg, ap_gSet, ap_dPar, ap_dPar3, ap_dFor, ap_dSrc, R.bind_ok, R.bind_exc, R.fl_ok, R.fl_exc, List.getElem?_cons_zero, List.getElem?_cons_succ, List.set_cons_zero, List.set_cons_succ, bodyR_nx, bodyR_rt, bodyR_exc, rAdd_int, rSub_int, rOrd_int, gInt_int, List.append_nil, if_true, if_false, Bool.false_eq_true, Bool.not_true, Bool.not_false, rEq_int, rNe_int, e1']
  have kl : (keyStrs.map W.str).length = 14 := rfl
  have rl : rights.length = 6 := rfl
  have q1 : (T1 ++ [Cell.lst (keyStrs.map W.str)])[r]? = some (.lst ys) := by rw [(Ext.app T1 _).at_ _ (List.getElem?_eq_some_iff.mp hr).1]; exact hr
  have a1 := addL (S := T1 ++ [Cell.lst (keyStrs.map W.str)]) q1 (n := T1.length) (ys := keyStrs.map W.str) (by simp) (by rw [hyl, kl]; decide)
  generalize hU : (T1 ++ [Cell.lst (keyStrs.map W.str)]) ++ [Cell.lst (ys ++ keyStrs.map W.str)] = U at a1
  have xU : Ext T1 U := by rw [← hU]; exact (Ext.app _ _).trans (Ext.app _ _)
  have lU : (T1 ++ [Cell.lst (keyStrs.map W.str)]).length < U.length := by rw [← hU]; simp
  have q2 : U[(T1 ++ [Cell.lst (keyStrs.map W.str)]).length]? = some (.lst (ys ++ keyStrs.map W.str)) := by rw [← hU]; simp
  generalize (T1 ++ [Cell.lst (keyStrs.map W.str)]).length = m at a1 lU q2
  have q3 : (U ++ [Cell.lst rights])[m]? = some (.lst (ys ++ keyStrs.map W.str)) := by rw [(Ext.app U _).at_ _ lU]; exact q2
  have a2 := addL (S := U ++ [Cell.lst rights]) q3 (n := U.length) (ys := rights) (by simp) (by rw [List.length_append, hyl, kl, rl]; decide)
  have zr : rights.length ≤ sizeLine := small (by decide)
  have zw : wrongs.length ≤ sizeLine := small (by decide)
  have eR : lbR (lwE w p x2 (some (.ref r)) x4 x5 x6 x7 x8 x9 x10) T1 = .nx (lwE w p x2 (some (.ref r)) (some (.ref (U ++ [Cell.lst rights]).length)) x5 x6 x7 x8 x9 x10) ((U ++ [Cell.lst rights]) ++ [.lst ((ys ++ keyStrs.map W.str) ++ rights)]) := by
    have ek : ∀ env, keysE env T1 = .ok (.ref T1.length) (T1 ++ [Cell.lst (keyStrs.map W.str)]) := fun env => keys_ok
    unfold lbR lwE
    simp only [ap_dSeq, ap_dVar, ap_dC, ap_dOp, ap_dSub, ap_dBool, ap_dTru, ap_dNot, ap_dAnd, ap_dOr, ap_dIf, ap_dNil, ap_dCons, ap_dTup, ap_dLst, ap_dCall, ap_dCallF, ap_dMake, ap_dMethF, ap_dMeth, ap_dFld, ap_dIsi, ap_dSlice, ap_dNoPart, ap_dPart, ap_dNext, ap_dRet, ap_dRetN, ap_dExpr, ap_dBreak, ap_dCont, ap_dIfS, ap_dAsg, ap_gSet, ap_dPar, ap_dPar3, ap_dFor, ap_dSrc, R.bind_ok, R.bind_exc, R.fl_ok, R.fl_exc, List.getElem?_cons_zero, List.getElem?_cons_succ, List.set_cons_zero, List.set_cons_succ, bodyR_nx, bodyR_rt, bodyR_exc, rAdd_int, rSub_int, rOrd_int, gInt_int, List.append_nil, if_true, if_false, Bool.false_eq_true, Bool.not_true, Bool.not_false, rEq_int, rNe_int, ek, a1, ap_dLits, zr, a2]
  generalize hV : (U ++ [Cell.lst rights]) ++ [.lst ((ys ++ keyStrs.map W.str) ++ rights)] = V at eR
  have xV : Ext U V := by rw [← hV]; exact (Ext.app _ _).trans (Ext.app _ _)
  have q4 : V[(U ++ [Cell.lst rights]).length]? = some (.lst ((ys ++ keyStrs.map W.str) ++ rights)) := by rw [← hV]; simp
  generalize (U ++ [Cell.lst rights]).length = r4 at eR q4
  have eW : lbW (lwE w p x2 (some (.ref r)) (some (.ref r4)) x5 x6 x7 x8 x9 x10) V = .nx (lwE w p x2 (some (.ref r)) (some (.ref r4)) (some (.ref V.length)) x6 x7 x8 x9 x10) (V ++ [.lst wrongs]) := by
    unfold lbW lwE
    simp only [ap_dSeq, ap_dVar, ap_dC, ap_dOp, ap_dSub, ap_dBool, ap_dTru, ap_dNot, ap_dAnd, ap_dOr, ap_dIf, ap_dNil, ap_dCons, ap_dTup, ap_dLst, ap_dCall, ap_dCallF, ap_dMake, ap_dMethF, ap_dMeth, ap_dFld, ap_dIsi, ap_dSlice, ap_dNoPart, ap_dPart, ap_dNext, ap_dRet, ap_dRetN, ap_dExpr, ap_dBreak, ap_dCont, ap_dIfS, ap_dAsg, ap_gSet, ap_dPar, ap_dPar3, ap_dFor, ap_dSrc, R.bind_ok, R.bind_exc, R.fl_ok, R.fl_exc, List.getElem?_cons_zero, List.getElem?_cons_succ, List.set_cons_zero, List.set_cons_succ, bodyR_nx, bodyR_rt, bodyR_exc, rAdd_int, rSub_int, rOrd_int, gInt_int, List.append_nil, if_true, if_false, Bool.false_eq_true, Bool.not_true, Bool.not_false, rEq_int, rNe_int, ap_dLits, zw]
  have eT : lbT (lwE w p x2 (some (.ref r)) (some (.ref r4)) (some (.ref V.length)) x6 x7 x8 x9 x10) (V ++ [.lst wrongs]) = .nx (lwE w p x2 (some (.ref r)) (some (.ref r4)) (some (.ref V.length)) (some (.str (sx []))) x7 x8 x9 x10) (V ++ [.lst wrongs]) := by
    unfold lbT lwE
    rw [str_nil]
    simp only [ap_dSeq, ap_dVar, ap_dC, ap_dOp, ap_dSub, ap_dBool, ap_dTru, ap_dNot, ap_dAnd, ap_dOr, ap_dIf, ap_dNil, ap_dCons, ap_dTup, ap_dLst, ap_dCall, ap_dCallF, ap_dMake, ap_dMethF, ap_dMeth, ap_dFld, ap_dIsi, ap_dSlice, ap_dNoPart, ap_dPart, ap_dNext, ap_dRet, ap_dRetN, ap_dExpr, ap_dBreak, ap_dCont, ap_dIfS, ap_dAsg, ap_gSet, ap_dPar, ap_dPar3, ap_dFor, ap_dSrc, R.bind_ok, R.bind_exc, R.fl_ok, R.fl_exc, List.getElem?_cons_zero, List.getElem?_cons_succ, List.set_cons_zero, List.set_cons_succ, bodyR_nx, bodyR_rt, bodyR_exc, rAdd_int, rSub_int, rOrd_int, gInt_int, List.append_nil, if_true, if_false, Bool.false_eq_true, Bool.not_true, Bool.not_false, rEq_int, rNe_int]
  have hPV : PenAt (V ++ [.lst wrongs]) p c (b + 160) := ((hP1.ext xU).ext xV).ext (Ext.app _ _)
  have q5 : (V ++ [Cell.lst wrongs])[r4]? = some (.lst ((ys ++ keyStrs.map W.str) ++ rights)) := by rw [(Ext.app V _).at_ _ (List.getElem?_eq_some_iff.mp q4).1]; exact q4
  have q6 : (V ++ [Cell.lst wrongs])[V.length]? = some (.lst wrongs) := by simp
  obtain ⟨t, y7, y8, T2, e2, ht, hc, hP2, hG2⟩ := turns_ok (w := w) (x2 := x2) (x3 := some (.ref r)) (x7 := x7) (x8 := x8) (x9 := x9) (x10 := x10) (b := b + 60) hPV q5 q6
    (fun u hu => (List.mem_append.mp hu).elim (fun hu => (List.mem_append.mp hu).elim (hys u) (keys_okS u)) (rights_ok u)) wrongs_ok (by rw [List.length_append, List.length_append, hyl, kl, rl]; decide) (by decide) (hPV.no q5) (hPV.no q6)
  obtain ⟨T3, e3, hP3, hG3⟩ := lbI_ok (w := w) (x2 := x2) (x3 := some (.ref r)) (x4 := some (.ref r4)) (x5 := some (.ref V.length)) (x7 := y7) (x8 := y8) (x9 := x9) (x10 := x10) (b := b) (hP2.mono (by omega)) ht hc
  refine ⟨some (.ref r), some (.ref r4), some (.ref V.length), some (.str (sx t)), y7, y8, T3, ?_, hP3, ((((hG1.trans xU.groP).trans xV.groP).trans (Gro.app _ _ _)).trans hG2).trans hG3⟩
  unfold lapB
  rw [seq_nx eN, seq_nx eR, seq_nx eW, seq_nx eT, seq_nx e2, seq_nx e3, ap_dNext]
end
end Dn

set_option maxHeartbeats 4000000
namespace Dn
open PySem PySem.Spec PyProof.Rows L2
def lwA : DS := dAsg (dCallF f__law_pen [] (dCons (dVar 0) (dNil))) (gSet 1)
def lwL : DS := dFor (dRng1 (dC (.int 6))) (gSet 2) lapB
def fixB : DS := dSeq (dIfS (dNot (dTru (dCallF f__law_is_told [] (dCons (dVar 9) (dNil))))) (dSeq (dRet (dC (.bl false))) (dNext)) (dNext)) (dNext)
def lwF : DS := dFor (dSrc (dLst (dLits fixs))) (gSet 9) fixB
def oddA : DA := dCons (dC .non) (dCons (dC (.int 5)) (dCons (dTup (dNil)) (dCons (dLst (dCons (dC (.str "yard")) (dNil))) (dCons (dC (.bl true)) (dCons (dDict0) (dNil))))))
def lwO : DS := dAsg (dCallF f__law_pick [] (dCons (dVar 1) (dCons (dLst oddA) (dNil)))) (gSet 10)
def lwOL : DE := dLam L__law_why (dCallF f_tokens [] (dCons (dVar 10) (dNil)))
def lwOT : DS := dIfS (dBool (dOp (rEqW true) lwOL (dLst (dLits (readL 0 0))))) (dSeq (dRet (dC (.bl false))) (dNext)) (dNext)
def valA : DA := dCons (dC (.str "")) (dCons (dOp rMul (dC (.str "a")) (dC (.int 12))) (dCons (dOp rMul (dC (.str "a")) (dC (.int 13))) (dCons (dC (.str "1a")) (dCons (dC (.str "a1")) (dCons (dC (.str "A")) (dCons (dC (.str "a b")) (dCons (dC (.str "a\n")) (dCons (dC .non) (dCons (dC (.int 5)) (dCons (dC (.bl true)) (dCons (dTup (dNil)) (dCons (dLst (dCons (dC (.str "a")) (dNil))) (dCons (dC (.str "7")) (dCons (dC (.str "-")) (dNil)))))))))))))))
def valD : DE := dOp rAdd (dOp rAdd (dCallF f__law_names [] (dCons (dVar 1) (dCons (dC (.int 3)) (dNil)))) keysE) (dLst valA)
def valB : DS := dSeq (dIfS (dNot (dTru (dCallF f__law_same [] (dCons (dCallF f_is_name [] (dCons (dVar 9) (dNil))) (dCons (dCallF f__law_is_name [] (dCons (dVar 9) (dNil))) (dNil)))))) (dSeq (dRet (dC (.bl false))) (dNext)) (dNext)) (dNext)
def lwV : DS := dFor (dSrc valD) (gSet 9) valB
theorem law_parts : d_law f__law_draw f__law_is_name f__law_is_told f__law_keys f__law_names f__law_pen f__law_pick f__law_same f_is_name f_tokens L__law_why = dSeq lwA (dSeq lwL (dSeq lwF (dSeq lwO (dSeq lwOT (dSeq lwV (dSeq (dRet (dC (.bl true))) (dNext))))))) := rfl
section
variable {S : Store} {p c b : Nat} {w : W} {x2 x3 x4 x5 x6 x7 x8 x9 x10 : Option W} {t : List Nat}
theorem laps_ok (h : PenAt S p c (b + 1200)) : ∃ y2 y3 y4 y5 y6 y7 y8 T, lwL (lwE w p x2 x3 x4 x5 x6 x7 x8 x9 x10) S = .nx (lwE w p y2 y3 y4 y5 y6 y7 y8 x9 x10) T ∧ PenAt T p c b ∧ Gro p S T := by
  have er := rng1 (d := dC (.int 6)) (env := lwE w p x2 x3 x4 x5 x6 x7 x8 x9 x10) (S := S) (n := 6) rfl (by omega)
  have key := forL_rule (chk := fun _ => true) (g := gSet 2) (body := lapB)
    (fun rest env T => ∃ y2 y3 y4 y5 y6 y7 y8, env = lwE w p y2 y3 y4 y5 y6 y7 y8 x9 x10 ∧ PenAt T p c (b + 200 * rest.length) ∧ Gro p S T)
    (fun fl => ∃ y2 y3 y4 y5 y6 y7 y8 T, fl = .nx (lwE w p y2 y3 y4 y5 y6 y7 y8 x9 x10) T ∧ PenAt T p c b ∧ Gro p S T)
    (fun u rest env T ⟨y2, y3, y4, y5, y6, y7, y8, he, hP, hG⟩ => by
      subst he
      rw [List.length_cons] at hP
      obtain ⟨z3, z4, z5, z6, z7, z8, T', e, h1, h2⟩ := lap_ok (w := w) (x2 := some u) (x3 := y3) (x4 := y4) (x5 := y5) (x6 := y6) (x7 := y7) (x8 := y8) (x9 := x9) (x10 := x10) (b := b + 200 * rest.length) (hP.mono (by omega))
      refine ⟨rfl, _, T, rfl, ?_⟩
      show (match lapB (lwE w p (some u) y3 y4 y5 y6 y7 y8 x9 x10) T with | .nx e S2 => _ | .ct e S2 => _ | .bk e S2 => _ | r => _)
      rw [e]
      exact ⟨_, _, _, _, _, _, _, rfl, h1, hG.trans h2⟩)
    (fun env T ⟨y2, y3, y4, y5, y6, y7, y8, he, hP, hG⟩ => ⟨rfl, y2, y3, y4, y5, y6, y7, y8, T, by rw [he], by simpa using hP, hG⟩)
    ((List.range 6).map fun i => .int ((i : Nat) : Int)) (lwE w p x2 x3 x4 x5 x6 x7 x8 x9 x10) S
    ⟨x2, x3, x4, x5, x6, x7, x8, rfl, h, Gro.refl p S⟩
  obtain ⟨y2, y3, y4, y5, y6, y7, y8, T, e, q⟩ := key
  refine ⟨y2, y3, y4, y5, y6, y7, y8, T, ?_, q⟩
  unfold lwL
  rw [ap_dFor, er]
  exact e
theorem fix_ok (h : PenAt S p c b) : ∃ y9 T, lwF (lwE w p x2 x3 x4 x5 x6 x7 x8 x9 x10) S = .nx (lwE w p x2 x3 x4 x5 x6 x7 x8 y9 x10) T ∧ PenAt T p c b ∧ Gro p S T := by
  have zf : fixs.length ≤ sizeLine := small (by decide)
  have q0 : (S ++ [Cell.lst fixs])[S.length]? = some (.lst fixs) := by simp
  have key := forL_rule (chk := stays S.length fixs) (g := gSet 9) (body := fixB)
    (fun rest env T => ∃ y9, env = lwE w p x2 x3 x4 x5 x6 x7 x8 y9 x10 ∧ (∀ v ∈ rest, OkS v) ∧ Ext (S ++ [.lst fixs]) T)
    (fun fl => ∃ y9 T, fl = .nx (lwE w p x2 x3 x4 x5 x6 x7 x8 y9 x10) T ∧ Ext (S ++ [.lst fixs]) T)
    (fun u rest env T ⟨y9, he, hr, hx⟩ => by
      subst he
      obtain ⟨x, rfl, hl, hc⟩ := hr u List.mem_cons_self
      obtain ⟨T', x', e⟩ := told_ok (S := T) (t := x) (by omega) hc
      refine ⟨stays_at (hx.some q0), _, T, rfl, ?_⟩
      have e2 : fixB (lwE w p x2 x3 x4 x5 x6 x7 x8 (some (.str (sx x))) x10) T = .nx (lwE w p x2 x3 x4 x5 x6 x7 x8 (some (.str (sx x))) x10) T' := by
        unfold fixB lwE
        simp only [ap_dSeq, ap_dVar, ap_dC, ap_dOp, ap_dSub, ap_dBool, ap_dTru, ap_dNot, ap_dAnd, ap_dOr, ap_dIf, ap_dNil, ap_dCons, ap_dTup, ap_dLst, ap_dCall, ap_dCallF, ap_dMake, ap_dMethF, ap_dMeth, ap_dFld, ap_dIsi, ap_dSlice, ap_dNoPart, ap_dPart, ap_dNext, ap_dRet, ap_dRetN, ap_dExpr, ap_dBreak, ap_dCont, ap_dIfS, ap_dAsg, ap_gSet, ap_dPar, ap_dPar3, ap_dFor, ap_dSrc, R.bind_ok, R.bind_exc, R.fl_ok, R.fl_exc, List.getElem?_cons_zero, List.getElem?_cons_succ, List.set_cons_zero, List.set_cons_succ, bodyR_nx, bodyR_rt, bodyR_exc, rAdd_int, rSub_int, rOrd_int, gInt_int, List.append_nil, if_true, if_false, Bool.false_eq_true, Bool.not_true, Bool.not_false, rEq_int, rNe_int, e, truW]
      show (match fixB (lwE w p x2 x3 x4 x5 x6 x7 x8 (some (.str (sx x))) x10) T with | .nx e S2 => _ | .ct e S2 => _ | .bk e S2 => _ | r => _)
      rw [e2]
      exact ⟨_, rfl, fun v hv => hr v (List.mem_cons_of_mem _ hv), hx.trans x'⟩)
    (fun env T ⟨y9, he, hr, hx⟩ => ⟨stays_at (hx.some q0), y9, T, by rw [he], hx⟩)
    fixs (lwE w p x2 x3 x4 x5 x6 x7 x8 x9 x10) (S ++ [.lst fixs])
    ⟨x9, rfl, fixs_ok, Ext.refl _⟩
  obtain ⟨y9, T, e, hx⟩ := key
  have x0 := (Ext.app S [Cell.lst fixs]).trans hx
  refine ⟨y9, T, ?_, h.ext x0, x0.groP⟩
  have es : dSrc (dLst (dLits fixs)) (lwE w p x2 x3 x4 x5 x6 x7 x8 x9 x10) S = .ok (fixs, stays S.length fixs) (S ++ [.lst fixs]) := by
    have : srcW (S ++ [Cell.lst fixs]) (.ref S.length) = some (fixs, stays S.length fixs) := by
      show (lstW (S ++ [Cell.lst fixs]) (.ref S.length)).map (fun y => (y.2, stays S.length y.2)) = _
      rw [lstW_at q0]; rfl
    simp only [ap_dSeq, ap_dVar, ap_dC, ap_dOp, ap_dSub, ap_dBool, ap_dTru, ap_dNot, ap_dAnd, ap_dOr, ap_dIf, ap_dNil, ap_dCons, ap_dTup, ap_dLst, ap_dCall, ap_dCallF, ap_dMake, ap_dMethF, ap_dMeth, ap_dFld, ap_dIsi, ap_dSlice, ap_dNoPart, ap_dPart, ap_dNext, ap_dRet, ap_dRetN, ap_dExpr, ap_dBreak, ap_dCont, ap_dIfS, ap_dAsg, ap_gSet, ap_dPar, ap_dPar3, ap_dFor, ap_dSrc, R.bind_ok, R.bind_exc, R.fl_ok, R.fl_exc, List.getElem?_cons_zero, List.getElem?_cons_succ, List.set_cons_zero, List.set_cons_succ, bodyR_nx, bodyR_rt, bodyR_exc, rAdd_int, rSub_int, rOrd_int, gInt_int, List.append_nil, if_true, if_false, Bool.false_eq_true, Bool.not_true, Bool.not_false, rEq_int, rNe_int, ap_dLits, zf, this]
  unfold lwF
  rw [ap_dFor, es]
  exact e
theorem isi_no {S : Store} {w : W} {T : String} (h : tyW S w = some (.inl T)) (hT : T ≠ "str") : isiW "str" [] S w = .ok (.bl false) S := by
  unfold isiW
  rw [h]
  have : isiB T "str" = false := by
    unfold isiB
    have h1 : (T == "str") = false := by simpa using hT
    rw [h1]; simp
  simp only [this]
theorem tyW_lst {S : Store} {n : Nat} {xs : List W} (h : S[n]? = some (.lst xs)) : tyW S (.ref n) = some (.inl "list") := by
  simp only [tyW, h]
theorem tyW_dic {S : Store} {n : Nat} {xs : List (Key × W)} (h : S[n]? = some (.dic xs)) : tyW S (.ref n) = some (.inl "dict") := by
  simp only [tyW, h]
theorem odd_ok (h : PenAt S p c (b + 1)) : ∃ w' T, lwO (lwE w p x2 x3 x4 x5 x6 x7 x8 x9 x10) S = .nx (lwE w p x2 x3 x4 x5 x6 x7 x8 x9 (some w')) T ∧ isiW "str" [] T w' = .ok (.bl false) T ∧ PenAt T p c b ∧ Gro p S T := by
  generalize hU : (S ++ [Cell.lst [.str "yard"]]) ++ [Cell.dic []] = U
  have xU : Ext S U := by rw [← hU]; exact (Ext.app _ _).trans (Ext.app _ _)
  have u0 : U[S.length]? = some (.lst [.str "yard"]) := by rw [← hU]; simp
  have u1 : U[S.length + 1]? = some (.dic []) := by rw [← hU]; simp
  have z0 : (0 : Nat) ≤ sizeLine := Nat.zero_le _
  have z1 : (1 : Nat) ≤ sizeLine := small (by decide)
  have z6 : (6 : Nat) ≤ sizeLine := small (by decide)
  have eA : dLst oddA (lwE w p x2 x3 x4 x5 x6 x7 x8 x9 x10) S = .ok (.ref U.length) (U ++ [.lst [.non, .int 5, .tup [], .ref S.length, .bl true, .ref (S.length + 1)]]) := by
    unfold oddA
    have ed : ∀ env T, dDict0 env T = .ok (.ref T.length) (T ++ [.dic []]) := fun env T => rfl
    simp only [ap_dSeq, ap_dVar, ap_dC, ap_dOp, ap_dSub, ap_dBool, ap_dTru, ap_dNot, ap_dAnd, ap_dOr, ap_dIf, ap_dNil, ap_dCons, ap_dTup, ap_dLst, ap_dCall, ap_dCallF, ap_dMake, ap_dMethF, ap_dMeth, ap_dFld, ap_dIsi, ap_dSlice, ap_dNoPart, ap_dPart, ap_dNext, ap_dRet, ap_dRetN, ap_dExpr, ap_dBreak, ap_dCont, ap_dIfS, ap_dAsg, ap_gSet, ap_dPar, ap_dPar3, ap_dFor, ap_dSrc, R.bind_ok, R.bind_exc, R.fl_ok, R.fl_exc, List.getElem?_cons_zero, List.getElem?_cons_succ, List.set_cons_zero, List.set_cons_succ, bodyR_nx, bodyR_rt, bodyR_exc, rAdd_int, rSub_int, rOrd_int, gInt_int, List.append_nil, if_true, if_false, Bool.false_eq_true, Bool.not_true, Bool.not_false, rEq_int, rNe_int, ed, List.length_nil, z0, List.length_cons, Nat.zero_add, Nat.reduceAdd, z1, z6, hU, List.length_append]
  obtain ⟨w', T, e, hw, hP, hB⟩ := pick_lst (n := U.length) (xs := [.non, .int 5, .tup [], .ref S.length, .bl true, .ref (S.length + 1)]) ((h.ext xU).app [.lst [.non, .int 5, .tup [], .ref S.length, .bl true, .ref (S.length + 1)]]) (by simp) (by show 1 ≤ 6 ∧ 6 < 1000000; decide)
  have gT : Gro p U T := (Gro.app p U _).trans hB.gro
  have n0 : S.length ≠ p := fun e => by have := h.lt; omega
  have n1 : S.length + 1 ≠ p := fun e => by have := h.lt; omega
  refine ⟨w', T, ?_, ?_, hP, xU.groP.trans gT⟩
  · unfold lwO
    have v1 : dVar 1 (lwE w p x2 x3 x4 x5 x6 x7 x8 x9 x10) S = .ok (.ref p) S := rfl
    rw [ap_dAsg, ap_dCallF, ap_dCons, v1, R.bind_ok, ap_dCons, eA]
    simp only [R.bind_ok, ap_dNil, List.append_nil, e, R.fl_ok, ap_gSet]
    rfl
  · simp only [List.mem_cons, List.not_mem_nil, or_false] at hw
    rcases hw with rfl | rfl | rfl | rfl | rfl | rfl
    · rfl
    · rfl
    · rfl
    · exact isi_no (tyW_lst (gT.some u0 n0)) (by decide)
    · rfl
    · exact isi_no (tyW_dic (gT.some u1 n1)) (by decide)
theorem oddT_ok {w' : W} (h : isiW "str" [] S w' = .ok (.bl false) S) : ∃ T, lwOT (lwE w p x2 x3 x4 x5 x6 x7 x8 x9 (some w')) S = .nx (lwE w p x2 x3 x4 x5 x6 x7 x8 x9 (some w')) T ∧ Ext S T := by
  have eb : dCallF f_tokens [] (dCons (dVar 10) (dNil)) (lwE w p x2 x3 x4 x5 x6 x7 x8 x9 (some w')) S = .exc "Misread" (tokMisread 0 0) S := by
    have := tokens_no h
    unfold lwE
    simp only [ap_dSeq, ap_dVar, ap_dC, ap_dOp, ap_dSub, ap_dBool, ap_dTru, ap_dNot, ap_dAnd, ap_dOr, ap_dIf, ap_dNil, ap_dCons, ap_dTup, ap_dLst, ap_dCall, ap_dCallF, ap_dMake, ap_dMethF, ap_dMeth, ap_dFld, ap_dIsi, ap_dSlice, ap_dNoPart, ap_dPart, ap_dNext, ap_dRet, ap_dRetN, ap_dExpr, ap_dBreak, ap_dCont, ap_dIfS, ap_dAsg, ap_gSet, ap_dPar, ap_dPar3, ap_dFor, ap_dSrc, R.bind_ok, R.bind_exc, R.fl_ok, R.fl_exc, List.getElem?_cons_zero, List.getElem?_cons_succ, List.set_cons_zero, List.set_cons_succ, bodyR_nx, bodyR_rt, bodyR_exc, rAdd_int, rSub_int, rOrd_int, gInt_int, List.append_nil, if_true, if_false, Bool.false_eq_true, Bool.not_true, Bool.not_false, rEq_int, rNe_int, this]
  have e1 : lwOL (lwE w p x2 x3 x4 x5 x6 x7 x8 x9 (some w')) S = .ok (.ref S.length) (S ++ [.lst (readL 0 0)]) := by
    show noXR (L__law_why (dCallF f_tokens [] (dCons (dVar 10) (dNil)) (lwE w p x2 x3 x4 x5 x6 x7 x8 x9 (some w'))) S) = _
    rw [why_err eb]; rfl
  have zr : (readL 0 0).length ≤ sizeLine := small (show 3 ≤ 1000000 by decide)
  have e2 : rEqW true (.ref S.length) (.ref (S ++ [Cell.lst (readL 0 0)]).length) ((S ++ [Cell.lst (readL 0 0)]) ++ [Cell.lst (readL 0 0)]) = .ok (.bl false) ((S ++ [Cell.lst (readL 0 0)]) ++ [Cell.lst (readL 0 0)]) := ne_read (l := 0) (c := 0) (by rw [(Ext.app (S ++ [Cell.lst (readL 0 0)]) _).at_ _ (by simp)]; simp) (by simp)
  refine ⟨(S ++ [.lst (readL 0 0)]) ++ [.lst (readL 0 0)], ?_, (Ext.app _ _).trans (Ext.app _ _)⟩
  unfold lwOT
  simp only [ap_dSeq, ap_dVar, ap_dC, ap_dOp, ap_dSub, ap_dBool, ap_dTru, ap_dNot, ap_dAnd, ap_dOr, ap_dIf, ap_dNil, ap_dCons, ap_dTup, ap_dLst, ap_dCall, ap_dCallF, ap_dMake, ap_dMethF, ap_dMeth, ap_dFld, ap_dIsi, ap_dSlice, ap_dNoPart, ap_dPart, ap_dNext, ap_dRet, ap_dRetN, ap_dExpr, ap_dBreak, ap_dCont, ap_dIfS, ap_dAsg, ap_gSet, ap_dPar, ap_dPar3, ap_dFor, ap_dSrc, R.bind_ok, R.bind_exc, R.fl_ok, R.fl_exc, List.getElem?_cons_zero, List.getElem?_cons_succ, List.set_cons_zero, List.set_cons_succ, bodyR_nx, bodyR_rt, bodyR_exc, rAdd_int, rSub_int, rOrd_int, gInt_int, List.append_nil, if_true, if_false, Bool.false_eq_true, Bool.not_true, Bool.not_false, rEq_int, rNe_int, e1, ap_dLits, zr, e2]
/-- the values of the last loop -/
def Vok (n : Nat) (w : W) : Prop := OkS w ∨ w = .non ∨ w = .int 5 ∨ w = .bl true ∨ w = .tup [] ∨ w = .ref n
def aN (n : Nat) : W := .str (Txt.mul "a" (n : Int))
def valWs (n : Nat) : List W := [.str "", aN 12, aN 13, .str "1a", .str "a1", .str "A", .str "a b", .str "a\n", .non, .int 5, .bl true, .tup [], .ref n, .str "7", .str "-"]
theorem mul_a {S : Store} {n : Nat} (h : MulOk "a" (n : Int)) : rMul (.str "a") (.int (n : Int)) S = .ok (aN n) S := if_pos h
theorem valW_ok (n : Nat) : ∀ w ∈ valWs n, Vok n w := by
  intro w hw
  have k : ∀ u, okB u = true → Vok n u := fun u h => .inl (okB_ok h)
  simp only [valWs, List.mem_cons, List.not_mem_nil, or_false] at hw
  rcases hw with rfl | rfl | rfl | rfl | rfl | rfl | rfl | rfl | rfl | rfl | rfl | rfl | rfl | rfl | rfl
  · exact k _ (by decide +kernel)
  · exact k _ (by decide +kernel)
  · exact k _ (by decide +kernel)
  · exact k _ (by decide +kernel)
  · exact k _ (by decide +kernel)
  · exact k _ (by decide +kernel)
  · exact k _ (by decide +kernel)
  · exact k _ (by decide +kernel)
  · exact .inr (.inl rfl)
  · exact .inr (.inr (.inl rfl))
  · exact .inr (.inr (.inr (.inl rfl)))
  · exact .inr (.inr (.inr (.inr (.inl rfl))))
  · exact .inr (.inr (.inr (.inr (.inr rfl))))
  · exact k _ (by decide +kernel)
  · exact k _ (by decide +kernel)
theorem valB_ok {n : Nat} {u : W} {xs : List W} (hu : Vok n u) (hn : S[n]? = some (.lst xs)) : ∃ T, valB (lwE w p x2 x3 x4 x5 x6 x7 x8 (some u) x10) S = .nx (lwE w p x2 x3 x4 x5 x6 x7 x8 (some u) x10) T ∧ Ext S T := by
  have key : ∃ bb T1 T2, f_is_name [u] S = .ok (.bl bb) T1 ∧ Ext S T1 ∧ f__law_is_name [u] T1 = .ok (.bl bb) T2 ∧ Ext T1 T2 := by
    have no : isiW "str" [] S u = .ok (.bl false) S → ∃ bb T1 T2, f_is_name [u] S = .ok (.bl bb) T1 ∧ Ext S T1 ∧ f__law_is_name [u] T1 = .ok (.bl bb) T2 ∧ Ext T1 T2 := fun h => ⟨false, S, S, isname_no h, Ext.refl S, lawname_no h, Ext.refl S⟩
    rcases hu with ⟨x, rfl, hl, hc⟩ | rfl | rfl | rfl | rfl | rfl
    · obtain ⟨T1, x1, e1⟩ := isname_ok (S := S) (w := x) (by omega)
      obtain ⟨T2, h2, e2⟩ := lawname_ok (S := T1) (w := x) (by omega) hc
      exact ⟨_, T1, T2, e1, x1, e2, h2⟩
    · exact no rfl
    · exact no rfl
    · exact no rfl
    · exact no rfl
    · exact no (isi_no (tyW_lst hn) (by decide))
  obtain ⟨bb, T1, T2, e1, h1, e2, h2⟩ := key
  have e3 : f__law_same [.bl bb, .bl bb] T2 = .ok (.bl true) T2 := same_bl (n := 39)
  refine ⟨T2, ?_, h1.trans h2⟩
  unfold valB lwE
  simp only [ap_dSeq, ap_dVar, ap_dC, ap_dOp, ap_dSub, ap_dBool, ap_dTru, ap_dNot, ap_dAnd, ap_dOr, ap_dIf, ap_dNil, ap_dCons, ap_dTup, ap_dLst, ap_dCall, ap_dCallF, ap_dMake, ap_dMethF, ap_dMeth, ap_dFld, ap_dIsi, ap_dSlice, ap_dNoPart, ap_dPart, ap_dNext, ap_dRet, ap_dRetN, ap_dExpr, ap_dBreak, ap_dCont, ap_dIfS, ap_dAsg, ap_gSet, ap_dPar, ap_dPar3, ap_dFor, ap_dSrc, R.bind_ok, R.bind_exc, R.fl_ok, R.fl_exc, List.getElem?_cons_zero, List.getElem?_cons_succ, List.set_cons_zero, List.set_cons_succ, bodyR_nx, bodyR_rt, bodyR_exc, rAdd_int, rSub_int, rOrd_int, gInt_int, List.append_nil, if_true, if_false, Bool.false_eq_true, Bool.not_true, Bool.not_false, rEq_int, rNe_int, e1, e2, e3, truW]
theorem val_ok (h : PenAt S p c (b + 100)) : ∃ y9 T, lwV (lwE w p x2 x3 x4 x5 x6 x7 x8 x9 x10) S = .nx (lwE w p x2 x3 x4 x5 x6 x7 x8 y9 x10) T := by
  obtain ⟨zs, ys, r, T1, e1, hr, hp, hz, hn, hP1, hG1, hrl⟩ := names_ok (m := 3) (b := b) (h.mono (by omega)) (by decide)
  have hyl : ys.length = 3 := by rw [hp.length_eq, List.length_map, hz]
  have hys : ∀ w ∈ ys, OkS w := fun w hw => by
    obtain ⟨x, hx, rfl⟩ := List.mem_map.mp (hp.mem_iff.mp hw)
    obtain ⟨i, hi, he⟩ := List.getElem_of_mem hx
    exact okS_name (i := i) (by omega) (hn i x (by rw [List.getElem?_eq_getElem hi, he]))
  have kl : (keyStrs.map W.str).length = 14 := rfl
  have q1 : (T1 ++ [Cell.lst (keyStrs.map W.str)])[r]? = some (.lst ys) := by rw [(Ext.app T1 _).at_ _ (List.getElem?_eq_some_iff.mp hr).1]; exact hr
  have a1 := addL (S := T1 ++ [Cell.lst (keyStrs.map W.str)]) q1 (n := T1.length) (ys := keyStrs.map W.str) (by simp) (by rw [hyl, kl]; decide)
  generalize hU : (T1 ++ [Cell.lst (keyStrs.map W.str)]) ++ [Cell.lst (ys ++ keyStrs.map W.str)] = U at a1
  have lU : (T1 ++ [Cell.lst (keyStrs.map W.str)]).length < U.length := by rw [← hU]; simp
  have q2 : U[(T1 ++ [Cell.lst (keyStrs.map W.str)]).length]? = some (.lst (ys ++ keyStrs.map W.str)) := by rw [← hU]; simp
  generalize (T1 ++ [Cell.lst (keyStrs.map W.str)]).length = m at a1 lU q2
  have z0 : (0 : Nat) ≤ sizeLine := Nat.zero_le _
  have z1 : (1 : Nat) ≤ sizeLine := small (by decide)
  have z15 : (15 : Nat) ≤ sizeLine := small (by decide)
  have m12 : ∀ T, rMul (.str "a") (.int 12) T = .ok (aN 12) T := fun T => mul_a (n := 12) (by decide +kernel)
  have m13 : ∀ T, rMul (.str "a") (.int 13) T = .ok (aN 13) T := fun T => mul_a (n := 13) (by decide +kernel)
  have eA : dLst valA (lwE w p x2 x3 x4 x5 x6 x7 x8 x9 x10) U = .ok (.ref (U.length + 1)) ((U ++ [.lst [.str "a"]]) ++ [.lst (valWs U.length)]) := by
    unfold valA
    simp only [ap_dSeq, ap_dVar, ap_dC, ap_dOp, ap_dSub, ap_dBool, ap_dTru, ap_dNot, ap_dAnd, ap_dOr, ap_dIf, ap_dNil, ap_dCons, ap_dTup, ap_dLst, ap_dCall, ap_dCallF, ap_dMake, ap_dMethF, ap_dMeth, ap_dFld, ap_dIsi, ap_dSlice, ap_dNoPart, ap_dPart, ap_dNext, ap_dRet, ap_dRetN, ap_dExpr, ap_dBreak, ap_dCont, ap_dIfS, ap_dAsg, ap_gSet, ap_dPar, ap_dPar3, ap_dFor, ap_dSrc, R.bind_ok, R.bind_exc, R.fl_ok, R.fl_exc, List.getElem?_cons_zero, List.getElem?_cons_succ, List.set_cons_zero, List.set_cons_succ, bodyR_nx, bodyR_rt, bodyR_exc, rAdd_int, rSub_int, rOrd_int, gInt_int, List.append_nil, if_true, if_false, Bool.false_eq_true, Bool.not_true, Bool.not_false, rEq_int, rNe_int, m12, m13, List.length_nil, z0, List.length_cons, Nat.zero_add, Nat.reduceAdd, z1, z15, List.length_append]
    rfl
  generalize hV : (U ++ [Cell.lst [.str "a"]]) ++ [Cell.lst (valWs U.length)] = V at eA
  have xV : Ext U V := by rw [← hV]; exact (Ext.app _ _).trans (Ext.app _ _)
  have v0 : V[U.length]? = some (.lst [.str "a"]) := by rw [← hV]; simp
  have v1 : V[U.length + 1]? = some (.lst (valWs U.length)) := by rw [← hV]; simp
  have vl : (valWs U.length).length = 15 := rfl
  have a2 := addL (S := V) (by rw [xV.at_ _ lU]; exact q2) v1 (by rw [List.length_append, hyl, kl, vl]; decide)
  generalize hX : (ys ++ keyStrs.map W.str) ++ valWs U.length = vals at a2
  have hvals : ∀ u ∈ vals, Vok U.length u := fun u hu => by
    rw [← hX] at hu
    rcases List.mem_append.mp hu with hu | hu
    · rcases List.mem_append.mp hu with hu | hu
      · exact .inl (hys u hu)
      · exact .inl (keys_okS u hu)
    · exact valW_ok _ u hu
  have q0 : (V ++ [Cell.lst vals])[V.length]? = some (.lst vals) := by simp
  have v2 : (V ++ [Cell.lst vals])[U.length]? = some (.lst [.str "a"]) := by rw [(Ext.app V _).at_ _ (List.getElem?_eq_some_iff.mp v0).1]; exact v0
  have key := forL_rule (chk := stays V.length vals) (g := gSet 9) (body := valB)
    (fun rest env T => ∃ y9, env = lwE w p x2 x3 x4 x5 x6 x7 x8 y9 x10 ∧ (∀ v ∈ rest, Vok U.length v) ∧ Ext (V ++ [.lst vals]) T)
    (fun fl => ∃ y9 T, fl = .nx (lwE w p x2 x3 x4 x5 x6 x7 x8 y9 x10) T)
    (fun u rest env T ⟨y9, he, hr, hx⟩ => by
      subst he
      obtain ⟨T', e2, x'⟩ := valB_ok (w := w) (p := p) (x2 := x2) (x3 := x3) (x4 := x4) (x5 := x5) (x6 := x6) (x7 := x7) (x8 := x8) (x10 := x10) (hr u List.mem_cons_self) (hx.some v2)
      refine ⟨stays_at (hx.some q0), _, T, rfl, ?_⟩
      show (match valB (lwE w p x2 x3 x4 x5 x6 x7 x8 (some u) x10) T with | .nx e S2 => _ | .ct e S2 => _ | .bk e S2 => _ | r => _)
      rw [e2]
      exact ⟨_, rfl, fun v hv => hr v (List.mem_cons_of_mem _ hv), hx.trans x'⟩)
    (fun env T ⟨y9, he, hr, hx⟩ => ⟨stays_at (hx.some q0), y9, T, by rw [he]⟩)
    vals (lwE w p x2 x3 x4 x5 x6 x7 x8 x9 x10) (V ++ [.lst vals])
    ⟨x9, rfl, hvals, Ext.refl _⟩
  obtain ⟨y9, T, e⟩ := key
  refine ⟨y9, T, ?_⟩
  have ek : ∀ env, keysE env T1 = .ok (.ref T1.length) (T1 ++ [Cell.lst (keyStrs.map W.str)]) := fun env => keys_ok
  have e1' : f__law_names [.ref p, .int 3] S = .ok (.ref r) T1 := e1
  have es : dSrc valD (lwE w p x2 x3 x4 x5 x6 x7 x8 x9 x10) S = .ok (vals, stays V.length vals) (V ++ [.lst vals]) := by
    have : srcW (V ++ [Cell.lst vals]) (.ref V.length) = some (vals, stays V.length vals) := by
      show (lstW (V ++ [Cell.lst vals]) (.ref V.length)).map (fun y => (y.2, stays V.length y.2)) = _
      rw [lstW_at q0]; rfl
    have v1 : dVar 1 (lwE w p x2 x3 x4 x5 x6 x7 x8 x9 x10) S = .ok (.ref p) S := rfl
    unfold valD
    rw [ap_dSrc, ap_dOp, ap_dOp, ap_dCallF, ap_dCons, v1, R.bind_ok, ap_dCons]
    simp only [R.bind_ok, ap_dC, ap_dNil, List.append_nil, e1', ek, a1, eA, a2, this]
  unfold lwV
  rw [ap_dFor, es]
  exact e
end
theorem law_any {S : Store} {w : W} {ns : List Int} {chk : Store → Bool} (h1 : srcW S w = some (ns.map W.int, chk)) (hc : chk S = true) (h2 : seqW S w = some (ns.map W.int)) (hn : ns.length ≤ 63) : ∃ S', f_law [w] S = .ok (.bl true) S' := by
  obtain ⟨T0, e0, hP0, hG0⟩ := pen_ok h1 hc h2 hn
  have st : f_law [w] S = bodyR (d_law f__law_draw f__law_is_name f__law_is_told f__law_keys f__law_names f__law_pen f__law_pick f__law_same f_is_name f_tokens L__law_why [some w, none, none, none, none, none, none, none, none, none, none] S) := rfl
  rw [st, law_parts]
  generalize S.length + 1 = p at e0 hP0 hG0
  generalize S.length = c at hP0
  have eA : lwA [some w, none, none, none, none, none, none, none, none, none, none] S = .nx (lwE w p none none none none none none none none none) T0 := by
    unfold lwA lwE
    simp only [ap_dSeq, ap_dVar, ap_dC, ap_dOp, ap_dSub, ap_dBool, ap_dTru, ap_dNot, ap_dAnd, ap_dOr, ap_dIf, ap_dNil, ap_dCons, ap_dTup, ap_dLst, ap_dCall, ap_dCallF, ap_dMake, ap_dMethF, ap_dMeth, ap_dFld, ap_dIsi, ap_dSlice, ap_dNoPart, ap_dPart, ap_dNext, ap_dRet, ap_dRetN, ap_dExpr, ap_dBreak, ap_dCont, ap_dIfS, ap_dAsg, ap_gSet, ap_dPar, ap_dPar3, ap_dFor, ap_dSrc, R.bind_ok, R.bind_exc, R.fl_ok, R.fl_exc, List.getElem?_cons_zero, List.getElem?_cons_succ, List.set_cons_zero, List.set_cons_succ, bodyR_nx, bodyR_rt, bodyR_exc, rAdd_int, rSub_int, rOrd_int, gInt_int, List.append_nil, if_true, if_false, Bool.false_eq_true, Bool.not_true, Bool.not_false, rEq_int, rNe_int, e0]
  obtain ⟨y2, y3, y4, y5, y6, y7, y8, T1, e1, hP1, _⟩ := laps_ok (w := w) (x2 := none) (x3 := none) (x4 := none) (x5 := none) (x6 := none) (x7 := none) (x8 := none) (x9 := none) (x10 := none) (b := 1000) (hP0.mono (by decide))
  obtain ⟨y9, T2, e2, hP2, _⟩ := fix_ok (w := w) (x2 := y2) (x3 := y3) (x4 := y4) (x5 := y5) (x6 := y6) (x7 := y7) (x8 := y8) (x9 := none) (x10 := none) hP1
  obtain ⟨o, T3, e3, ho, hP3, _⟩ := odd_ok (w := w) (x2 := y2) (x3 := y3) (x4 := y4) (x5 := y5) (x6 := y6) (x7 := y7) (x8 := y8) (x9 := y9) (x10 := none) (b := 999) hP2
  obtain ⟨T4, e4, x4⟩ := oddT_ok (w := w) (p := p) (x2 := y2) (x3 := y3) (x4 := y4) (x5 := y5) (x6 := y6) (x7 := y7) (x8 := y8) (x9 := y9) ho
  obtain ⟨z9, T5, e5⟩ := val_ok (w := w) (x2 := y2) (x3 := y3) (x4 := y4) (x5 := y5) (x6 := y6) (x7 := y7) (x8 := y8) (x9 := y9) (x10 := some o) (b := 0) ((hP3.ext x4).mono (by decide))
  refine ⟨T5, ?_⟩
  rw [seq_nx eA, seq_nx e1, seq_nx e2, seq_nx e3, seq_nx e4, seq_nx e5]
  rfl
end Dn
namespace K02
open PySem PySem.Spec PyProof.Rows L2 Dn
theorem law_ok : LawOk 63 f_law := fun ns hl _ => by
  refine ⟨law_any (chk := fun _ => true) rfl rfl rfl hl, law_any (ns := ns) (chk := stays 0 (ns.map W.int)) rfl (stays_at rfl) rfl hl⟩
end K02

set_option maxHeartbeats 4000000
namespace K02
open PySem PySem.Spec PyProof.Rows L2 Dn
def top (i : Nat) : Stmt := PySem.Challenge.pw_nobodystuck_k02_whole_tokens.main.body.getD i (.Pass ⟨0, 0, 0, 0⟩)
/-- names that the module does not hold -/
structure Fr (mg : Str → Option Value) : Prop where
  fr_all : mg "all" = none
  fr_bool : mg "bool" = none
  fr_int : mg "int" = none
  fr_isinstance : mg "isinstance" = none
  fr_len : mg "len" = none
  fr_list : mg "list" = none
  fr_max : mg "max" = none
  fr_range : mg "range" = none
  fr_str : mg "str" = none
  fr_tuple : mg "tuple" = none
  fr_zip : mg "zip" = none
/-- classes and their fields -/
def fkPairs : List (Str × Str) := [("Scanner", "at"), ("Scanner", "column"), ("Scanner", "line"), ("Scanner", "text")]
def FkT (K : PySem.W.Frag) (mg : Str → Option Value) : Prop := ∀ p ∈ fkPairs, ∀ C, mg p.1 = some (.ref C) → Cls K C ∧ NoAttr K C p.2
theorem fk_of {X : Cx} (h : FkT X.K X.mg) (ks : List Str) (f : Str) (e : (ks.all fun k => decide ((k, f) ∈ fkPairs)) = true) : FK X ks f := fun k hk C hC => h (k, f) (of_decide_eq_true (List.all_eq_true.mp e k hk)) C hC
structure Gw (K : PySem.W.Frag) (mg : Str → Option Value) : Prop where
  gw_ : True
  gw_FIGURES : GWm K mg "FIGURES" (.str "0123456789")
  gw_KEYS : GWm K mg "KEYS" (.tup [(.str "yard"), (.str "lock"), (.str "thing"), (.str "routine"), (.str "kind"), (.str "hold"), (.str "shared"), (.str "read"), (.str "write"), (.str "mark"), (.str "call"), (.str "either"), (.str "or"), (.str "loop")])
  gw_LETTERS : GWm K mg "LETTERS" (.str "abcdefghijklmnopqrstuvwxyz")
  gw_LONGEST : GWm K mg "LONGEST" (.int 12)
  gw_SIGNS : GWm K mg "SIGNS" (.tup [(.str "{"), (.str "}"), (.str ";")])
structure Ex (K : PySem.W.Frag) (mg : Str → Option Value) (ca : Str → Value) : Prop where
  isx : ∀ k c b cv, isXo EXR EXS k c = some b → mg k = some cv → ∃ cc, mg c = some cc ∧ PySem.W.exmOne K cv cc = some b
  mg_BadName : mg "BadName" = some (ca "BadName")
  mg_BadNumber : mg "BadNumber" = some (ca "BadNumber")
  mg_BadRow : mg "BadRow" = some (ca "BadRow")
  mg_BadText : mg "BadText" = some (ca "BadText")
  mg_Misplaced : mg "Misplaced" = some (ca "Misplaced")
  mg_Misread : mg "Misread" = some (ca "Misread")
  mg_NotThere : mg "NotThere" = some (ca "NotThere")
  mg_TakenName : mg "TakenName" = some (ca "TakenName")
  mg_TooMany : mg "TooMany" = some (ca "TooMany")
  mg_Unlike : mg "Unlike" = some (ca "Unlike")
  mg_YardError : mg "YardError" = some (ca "YardError")
/-! is_run_sign -/
abbrev st_is_run_sign : Stmt := top 19
theorem sc_is_run_sign : FnScope ["sign"] ["sign"] (defScope st_is_run_sign) := ⟨rfl, rfl, rfl, by decide +kernel, rfl, by decide +kernel, by decide +kernel⟩
theorem nd_is_run_sign : (["sign"] : List Str).Nodup := by decide +kernel
theorem s_is_run_sign {P : Program} {w : World} {K : PySem.W.Frag} {mg : Str → Option Value} {base : Heap} (fr : Fr mg) (fk : FkT K mg) (gw : Gw K mg)  {fa : Addr} {cdv : Value} {A : Around} {outer : List PySem.Env} {s : Shared} {H : Hp} {E : XK} (hr : Room 0 (A.deeper (envOfC "is_run_sign" (defScope st_is_run_sign) s.heap.objs.size fa cdv))) : SSs (cxOf (L2.CX P w) P w K mg base ["sign"] "is_run_sign" (defScope st_is_run_sign) fa cdv A outer s H E) none (defBody st_is_run_sign) (d_is_run_sign) :=
  sss_cons (ss_ret (se_or (se_cmp (os_in (u65 hr)) nx_in (se_var 0) (se_glob (X := _) (gw.gw_LETTERS))) (se_one (se_cmp (os_in (u65 hr)) nx_in (se_var 0) (se_glob (X := _) (gw.gw_FIGURES)))))) (sss_nil)
/-! kind_of -/
abbrev st_kind_of : Stmt := top 20
theorem sc_kind_of : FnScope ["run"] ["run"] (defScope st_kind_of) := ⟨rfl, rfl, rfl, by decide +kernel, rfl, by decide +kernel, by decide +kernel⟩
theorem nd_kind_of : (["run"] : List Str).Nodup := by decide +kernel
theorem s_kind_of {P : Program} {w : World} {K : PySem.W.Frag} {mg : Str → Option Value} {base : Heap} (fr : Fr mg) (fk : FkT K mg) (gw : Gw K mg)  {fa : Addr} {cdv : Value} {A : Around} {outer : List PySem.Env} {s : Shared} {H : Hp} {E : XK} (hr : Room 0 (A.deeper (envOfC "kind_of" (defScope st_kind_of) s.heap.objs.size fa cdv))) : SSs (cxOf (L2.CX P w) P w K mg base ["run"] "kind_of" (defScope st_kind_of) fa cdv A outer s H E) none (defBody st_kind_of) (d_kind_of) :=
  sss_cons (ss_if (st_cmp (os_in (u65 hr)) nx_in (se_var 0) (se_glob (X := _) (gw.gw_KEYS))) (sss_cons (ss_ret (se_str)) (sss_nil)) (sss_nil)) (sss_cons (ss_ret (se_ifx (SW.st (sw_and (st_cmp (os_in (u65 hr)) nx_in (se_sub (u1 hr) (se_var 0) (se_int)) (se_glob (X := _) (gw.gw_LETTERS))) (sw_and1 (st_cmp os_le nx_ord (se_callB cs_len nx_len (sa_cons (se_var 0) (sa_nil)) (fr.fr_len) boot_len) (se_glob (X := _) (gw.gw_LONGEST)))))) (se_str) (se_non))) (sss_nil))
/-! is_name -/
abbrev st_is_name : Stmt := top 21
theorem sc_is_name : FnScope ["value", "sign"] ["value"] (defScope st_is_name) := ⟨rfl, rfl, rfl, by decide +kernel, rfl, by decide +kernel, by decide +kernel⟩
theorem nd_is_name : (["value", "sign"] : List Str).Nodup := by decide +kernel
theorem s_is_name {P : Program} {w : World} {K : PySem.W.Frag} {mg : Str → Option Value} {base : Heap} (fr : Fr mg) (fk : FkT K mg) (gw : Gw K mg) {f_is_run_sign : FW} (c_is_run_sign : Cal P w K mg base 1 "is_run_sign" [] f_is_run_sign) {f_kind_of : FW} (c_kind_of : Cal P w K mg base 1 "kind_of" [] f_kind_of) {fa : Addr} {cdv : Value} {A : Around} {outer : List PySem.Env} {s : Shared} {H : Hp} {E : XK} (hr : Room 1 (A.deeper (envOfC "is_name" (defScope st_is_name) s.heap.objs.size fa cdv))) : SSs (cxOf (L2.CX P w) P w K mg base ["value", "sign"] "is_name" (defScope st_is_name) fa cdv A outer s H E) none (defBody st_is_name) (d_is_name f_is_run_sign f_kind_of) :=
  sss_cons (ss_if (SW.st (sw_or (st_not (st_truth (se_isi (T := "str") (by decide) ownIs_nil (se_var 0) (fr.fr_isinstance) (fr.fr_str) boot_str'))) (sw_or (st_cmp (os_eq (u64 hr)) nx_eq (se_var 0) (se_str)) (sw_or1 (st_not (st_truth (se_callB (cs_all rfl) nx_all (sa_cons (se_comp (own := [("sign", 1)]) rfl nd_is_name (si_src (se_var 0)) (show BlkOk ["value", "sign"] (defScope st_is_name) _ [("sign", 1)] from blkOk_by (by decide +kernel)) (fun _ _ _ _ _ => sgo_name 1 nd_is_name) (fun _ _ _ _ _ => sts_nil) (fun _ _ _ _ _ => se_call c_is_run_sign hr (by decide) (sa_cons (se_var 1) (sa_nil)))) (sa_nil)) (fr.fr_all) boot_all'))))))) (sss_cons (ss_ret (se_bl)) (sss_nil)) (sss_nil)) (sss_cons (ss_ret (se_cmp (os_eq (u64 hr)) nx_eq (se_call c_kind_of hr (by decide) (sa_cons (se_var 0) (sa_nil))) (se_str))) (sss_nil))
/-! Scanner.__init__ -/
abbrev st_Scanner___init__ : Stmt := inClass (top 22) 0
theorem sc_Scanner___init__ : FnScope ["self", "text"] ["self", "text"] (defScope st_Scanner___init__) := ⟨rfl, rfl, rfl, by decide +kernel, rfl, by decide +kernel, by decide +kernel⟩
theorem nd_Scanner___init__ : (["self", "text"] : List Str).Nodup := by decide +kernel
theorem s_Scanner___init__ {P : Program} {w : World} {K : PySem.W.Frag} {mg : Str → Option Value} {base : Heap} (fr : Fr mg) (fk : FkT K mg) (gw : Gw K mg)  {fa : Addr} {cdv : Value} {A : Around} {outer : List PySem.Env} {s : Shared} {H : Hp} {E : XK} (hr : Room 0 (A.deeper (envOfC "Scanner.__init__" (defScope st_Scanner___init__) s.heap.objs.size fa cdv))) : SSs (cxOf (L2.CX P w) P w K mg base ["self", "text"] "Scanner.__init__" (defScope st_Scanner___init__) fa cdv A outer s H E) none (defBody st_Scanner___init__) (d_Scanner___init__) :=
  sss_cons (ss_fld (fk_of fk ["Scanner"] "text" (by decide)) (se_var 1) (se_var 0)) (sss_cons (ss_fld (fk_of fk ["Scanner"] "at" (by decide)) (se_int) (se_var 0)) (sss_cons (ss_fld (fk_of fk ["Scanner"] "line" (by decide)) (se_int) (se_var 0)) (sss_cons (ss_fld (fk_of fk ["Scanner"] "column" (by decide)) (se_int) (se_var 0)) (sss_nil))))
/-! Scanner.is_over -/
abbrev st_Scanner_is_over : Stmt := inClass (top 22) 1
theorem sc_Scanner_is_over : FnScope ["self"] ["self"] (defScope st_Scanner_is_over) := ⟨rfl, rfl, rfl, by decide +kernel, rfl, by decide +kernel, by decide +kernel⟩
theorem nd_Scanner_is_over : (["self"] : List Str).Nodup := by decide +kernel
theorem s_Scanner_is_over {P : Program} {w : World} {K : PySem.W.Frag} {mg : Str → Option Value} {base : Heap} (fr : Fr mg) (fk : FkT K mg) (gw : Gw K mg)  {fa : Addr} {cdv : Value} {A : Around} {outer : List PySem.Env} {s : Shared} {H : Hp} {E : XK} (hr : Room 0 (A.deeper (envOfC "Scanner.is_over" (defScope st_Scanner_is_over) s.heap.objs.size fa cdv))) : SSs (cxOf (L2.CX P w) P w K mg base ["self"] "Scanner.is_over" (defScope st_Scanner_is_over) fa cdv A outer s H E) none (defBody st_Scanner_is_over) (d_Scanner_is_over) :=
  sss_cons (ss_ret (se_cmp (os_eq (u64 hr)) nx_eq (se_fld (fk_of fk ["Scanner"] "at" (by decide)) (se_var 0)) (se_callB cs_len nx_len (sa_cons (se_fld (fk_of fk ["Scanner"] "text" (by decide)) (se_var 0)) (sa_nil)) (fr.fr_len) boot_len))) (sss_nil)
/-! Scanner.skip -/
abbrev st_Scanner_skip : Stmt := inClass (top 22) 2
theorem sc_Scanner_skip : FnScope ["self", "many"] ["self", "many"] (defScope st_Scanner_skip) := ⟨rfl, rfl, rfl, by decide +kernel, rfl, by decide +kernel, by decide +kernel⟩
theorem nd_Scanner_skip : (["self", "many"] : List Str).Nodup := by decide +kernel
theorem s_Scanner_skip {P : Program} {w : World} {K : PySem.W.Frag} {mg : Str → Option Value} {base : Heap} (fr : Fr mg) (fk : FkT K mg) (gw : Gw K mg)  {fa : Addr} {cdv : Value} {A : Around} {outer : List PySem.Env} {s : Shared} {H : Hp} {E : XK} (hr : Room 0 (A.deeper (envOfC "Scanner.skip" (defScope st_Scanner_skip) s.heap.objs.size fa cdv))) : SSs (cxOf (L2.CX P w) P w K mg base ["self", "many"] "Scanner.skip" (defScope st_Scanner_skip) fa cdv A outer s H E) none (defBody st_Scanner_skip) (d_Scanner_skip) :=
  sss_cons (ss_fldadd (fk_of fk ["Scanner"] "at" (by decide)) (se_var 0) (se_var 1)) (sss_cons (ss_fldadd (fk_of fk ["Scanner"] "column" (by decide)) (se_var 0) (se_var 1)) (sss_nil))
/-! Scanner.pass_gap -/
abbrev st_Scanner_pass_gap : Stmt := inClass (top 22) 3
theorem sc_Scanner_pass_gap : FnScope ["self", "sign"] ["self"] (defScope st_Scanner_pass_gap) := ⟨rfl, rfl, rfl, by decide +kernel, rfl, by decide +kernel, by decide +kernel⟩
theorem nd_Scanner_pass_gap : (["self", "sign"] : List Str).Nodup := by decide +kernel
theorem s_Scanner_pass_gap {P : Program} {w : World} {K : PySem.W.Frag} {mg : Str → Option Value} {base : Heap} (fr : Fr mg) (fk : FkT K mg) (gw : Gw K mg) {m_Scanner_skip : FW} (h_Scanner_skip : Met P w K mg base 1 "Scanner" "skip" m_Scanner_skip) {fa : Addr} {cdv : Value} {A : Around} {outer : List PySem.Env} {s : Shared} {H : Hp} {E : XK} (hr : Room 1 (A.deeper (envOfC "Scanner.pass_gap" (defScope st_Scanner_pass_gap) s.heap.objs.size fa cdv))) : SSs (cxOf (L2.CX P w) P w K mg base ["self", "sign"] "Scanner.pass_gap" (defScope st_Scanner_pass_gap) fa cdv A outer s H E) none (defBody st_Scanner_pass_gap) (d_Scanner_pass_gap m_Scanner_skip) :=
  sss_cons (ss_set 1 nd_Scanner_pass_gap (by intro z h; cases h) (se_sub (u1 hr) (se_fld (fk_of fk ["Scanner"] "text" (by decide)) (se_var 0)) (se_fld (fk_of fk ["Scanner"] "at" (by decide)) (se_var 0)))) (sss_cons (ss_if (st_cmp (os_eq (u64 hr)) nx_eq (se_var 1) (se_str)) (sss_cons (ss_asg (se_tup (sa_cons (se_op os_add nx_add (se_fld (fk_of fk ["Scanner"] "at" (by decide)) (se_var 0)) (se_int)) (sa_cons (se_op os_add nx_add (se_fld (fk_of fk ["Scanner"] "line" (by decide)) (se_var 0)) (se_int)) (sa_cons (se_int) (sa_nil))))) (sg_tup rfl (sgs_cons (sg_fld (fk_of fk ["Scanner"] "at" (by decide)) (se_var 0)) (sgs_cons (sg_fld (fk_of fk ["Scanner"] "line" (by decide)) (se_var 0)) (sgs_cons (sg_fld (fk_of fk ["Scanner"] "column" (by decide)) (se_var 0)) (sgs_nil)))))) (sss_nil)) (sss_cons (ss_if (st_cmp (os_eq (u64 hr)) nx_eq (se_var 1) (se_str)) (sss_cons (ss_expr (se_meth (pl := _) h_Scanner_skip hr (by decide) (se_var 0) (sa_cons (se_int) (sa_nil)))) (sss_nil)) (sss_cons (ss_if (st_cmp (os_eq (u64 hr)) nx_eq (se_var 1) (se_str)) (sss_cons (ss_expr (se_meth (pl := _) h_Scanner_skip hr (by decide) (se_var 0) (sa_cons (se_callB cs_len nx_len (sa_cons (se_sub (u1 hr) (se_bm PySem.F.plainAttrs_str PySem.F.slot_str_split PySem.F.type_str_split ms_split nx_split (se_slice (se_fld (fk_of fk ["Scanner"] "text" (by decide)) (se_var 0)) (so_some (se_fld (fk_of fk ["Scanner"] "at" (by decide)) (se_var 0))) (so_none)) (sa_cons (se_str) (sa_nil))) (se_int)) (sa_nil)) (fr.fr_len) boot_len) (sa_nil)))) (sss_nil)) (sss_nil)) (sss_nil))) (sss_nil))) (sss_cons (ss_ret (se_cmp (os_in (u65 hr)) nx_in (se_var 1) (se_str))) (sss_nil)))
/-! Scanner.token -/
abbrev st_Scanner_token : Stmt := inClass (top 22) 4
theorem sc_Scanner_token : FnScope ["self", "place", "many", "word", "kind"] ["self"] (defScope st_Scanner_token) := ⟨rfl, rfl, rfl, by decide +kernel, rfl, by decide +kernel, by decide +kernel⟩
theorem nd_Scanner_token : (["self", "place", "many", "word", "kind"] : List Str).Nodup := by decide +kernel
theorem s_Scanner_token {P : Program} {w : World} {K : PySem.W.Frag} {mg : Str → Option Value} {base : Heap} (fr : Fr mg) (fk : FkT K mg) (gw : Gw K mg) {f_is_run_sign : FW} (c_is_run_sign : Cal P w K mg base 1 "is_run_sign" [] f_is_run_sign) {f_kind_of : FW} (c_kind_of : Cal P w K mg base 1 "kind_of" [] f_kind_of) {m_Scanner_skip : FW} (h_Scanner_skip : Met P w K mg base 1 "Scanner" "skip" m_Scanner_skip) (x_Misread : Xcl P w K mg base 1 "Misread" ["line", "column"]) {fa : Addr} {cdv : Value} {A : Around} {outer : List PySem.Env} {s : Shared} {H : Hp} {E : XK} (hr : Room 2 (A.deeper (envOfC "Scanner.token" (defScope st_Scanner_token) s.heap.objs.size fa cdv))) : SSs (cxOf (L2.CX P w) P w K mg base ["self", "place", "many", "word", "kind"] "Scanner.token" (defScope st_Scanner_token) fa cdv A outer s H E) none (defBody st_Scanner_token) (d_Scanner_token f_is_run_sign f_kind_of m_Scanner_skip) :=
  sss_cons (ss_par (i := 1) (j := 2)  rfl nd_Scanner_token rfl (sa_cons (se_tup (sa_cons (se_fld (fk_of fk ["Scanner"] "line" (by decide)) (se_var 0)) (sa_cons (se_fld (fk_of fk ["Scanner"] "column" (by decide)) (se_var 0)) (sa_nil)))) (sa_cons (se_int) (sa_nil)))) (sss_cons (ss_while (passes_of rfl) (SW.st (sw_and (st_cmp os_lt nx_ord (se_op os_add nx_add (se_fld (fk_of fk ["Scanner"] "at" (by decide)) (se_var 0)) (se_var 2)) (se_callB cs_len nx_len (sa_cons (se_fld (fk_of fk ["Scanner"] "text" (by decide)) (se_var 0)) (sa_nil)) (fr.fr_len) boot_len)) (sw_and1 (st_truth (se_call c_is_run_sign hr (by decide) (sa_cons (se_sub (u1 hr) (se_fld (fk_of fk ["Scanner"] "text" (by decide)) (se_var 0)) (se_op os_add nx_add (se_fld (fk_of fk ["Scanner"] "at" (by decide)) (se_var 0)) (se_var 2))) (sa_nil))))))) (sss_cons (ss_augI (i := 2) ip_add nd_Scanner_token rfl (se_int)) (sss_nil))) (sss_cons (ss_set 3 nd_Scanner_token (by intro z h; cases h) (se_slice (se_fld (fk_of fk ["Scanner"] "text" (by decide)) (se_var 0)) (so_some (se_fld (fk_of fk ["Scanner"] "at" (by decide)) (se_var 0))) (so_some (se_op os_add nx_add (se_fld (fk_of fk ["Scanner"] "at" (by decide)) (se_var 0)) (se_callB (cs_max2 rfl) nx_max2 (sa_cons (se_int) (sa_cons (se_var 2) (sa_nil))) (fr.fr_max) boot_max'))))) (sss_cons (ss_set 4 nd_Scanner_token (by intro z h; cases h) (se_ifx (st_cmp os_gt nx_ord (se_var 2) (se_int)) (se_call c_kind_of hr (by decide) (sa_cons (se_var 3) (sa_nil))) (se_ifx (st_cmp (os_in (u65 hr)) nx_in (se_var 3) (se_glob (X := _) (gw.gw_SIGNS))) (se_str) (se_non)))) (sss_cons (ss_if (st_cmp os_is nx_is (se_var 4) (se_non)) (sss_cons (ss_raise x_Misread rfl hr (by decide) (sa_cons (se_fld (fk_of fk ["Scanner"] "line" (by decide)) (se_var 0)) (sa_cons (se_fld (fk_of fk ["Scanner"] "column" (by decide)) (se_var 0)) (sa_nil)))) (sss_nil)) (sss_nil)) (sss_cons (ss_expr (se_meth (pl := _) h_Scanner_skip hr (by decide) (se_var 0) (sa_cons (se_callB cs_len nx_len (sa_cons (se_var 3) (sa_nil)) (fr.fr_len) boot_len) (sa_nil)))) (sss_cons (ss_ret (se_tup (sa_cons (se_var 4) (sa_cons (se_var 3) (sa_cons (se_var 1) (sa_nil)))))) (sss_nil)))))))
/-! tokens -/
abbrev st_tokens : Stmt := top 23
theorem sc_tokens : FnScope ["text", "scanner", "found"] ["text"] (defScope st_tokens) := ⟨rfl, rfl, rfl, by decide +kernel, rfl, by decide +kernel, by decide +kernel⟩
theorem nd_tokens : (["text", "scanner", "found"] : List Str).Nodup := by decide +kernel
theorem s_tokens {P : Program} {w : World} {K : PySem.W.Frag} {mg : Str → Option Value} {base : Heap} (fr : Fr mg) (fk : FkT K mg) (gw : Gw K mg) {i_Scanner : FW} (n_Scanner : Mak P w K mg base 1 "Scanner" i_Scanner) {m_Scanner_is_over : FW} (h_Scanner_is_over : Met P w K mg base 1 "Scanner" "is_over" m_Scanner_is_over) {m_Scanner_pass_gap : FW} (h_Scanner_pass_gap : Met P w K mg base 2 "Scanner" "pass_gap" m_Scanner_pass_gap) {m_Scanner_token : FW} (h_Scanner_token : Met P w K mg base 3 "Scanner" "token" m_Scanner_token) (x_Misread : Xcl P w K mg base 1 "Misread" ["line", "column"]) {fa : Addr} {cdv : Value} {A : Around} {outer : List PySem.Env} {s : Shared} {H : Hp} {E : XK} (hr : Room 3 (A.deeper (envOfC "tokens" (defScope st_tokens) s.heap.objs.size fa cdv))) : SSs (cxOf (L2.CX P w) P w K mg base ["text", "scanner", "found"] "tokens" (defScope st_tokens) fa cdv A outer s H E) none (defBody st_tokens) (d_tokens i_Scanner m_Scanner_is_over m_Scanner_pass_gap m_Scanner_token) :=
  sss_cons (ss_if (st_not (st_truth (se_isi (T := "str") (by decide) ownIs_nil (se_var 0) (fr.fr_isinstance) (fr.fr_str) boot_str'))) (sss_cons (ss_raise x_Misread rfl hr (by decide) (sa_cons (se_int) (sa_cons (se_int) (sa_nil)))) (sss_nil)) (sss_nil)) (sss_cons (ss_par (i := 1) (j := 2)  rfl nd_tokens rfl (sa_cons (se_make n_Scanner hr (by decide) (sa_cons (se_var 0) (sa_nil))) (sa_cons (se_lst (sa_nil)) (sa_nil)))) (sss_cons (ss_while (passes_of rfl) (st_not (st_truth (se_meth0 (pl := _) h_Scanner_is_over hr (by decide) (se_var 1)))) (sss_cons (ss_if (st_not (st_truth (se_meth0 (pl := _) h_Scanner_pass_gap hr (by decide) (se_var 1)))) (sss_cons (ss_expr (se_bm PySem.F.plainAttrs_list PySem.F.slot_list_append PySem.F.type_list_append ms_append nx_append (se_var 2) (sa_cons (se_meth0 (pl := _) h_Scanner_token hr (by decide) (se_var 1)) (sa_nil)))) (sss_nil)) (sss_nil)) (sss_nil))) (sss_cons (ss_expr (se_bm PySem.F.plainAttrs_list PySem.F.slot_list_append PySem.F.type_list_append ms_append nx_append (se_var 2) (sa_cons (se_tup (sa_cons (se_str) (sa_cons (se_str) (sa_cons (se_tup (sa_cons (se_fld (fk_of fk ["Scanner"] "line" (by decide)) (se_var 1)) (sa_cons (se_fld (fk_of fk ["Scanner"] "column" (by decide)) (se_var 1)) (sa_nil)))) (sa_nil))))) (sa_nil)))) (sss_cons (ss_ret (se_callTy cs_tuple nx_tuple (sa_cons (se_var 2) (sa_nil)) (fr.fr_tuple) boot_tuple')) (sss_nil)))))
/-! _law_pen -/
abbrev st__law_pen : Stmt := top 25
theorem sc__law_pen : FnScope ["script", "fold", "cell"] ["script"] (defScope st__law_pen) := ⟨rfl, rfl, rfl, by decide +kernel, rfl, by decide +kernel, by decide +kernel⟩
theorem nd__law_pen : (["script", "fold", "cell"] : List Str).Nodup := by decide +kernel
theorem s__law_pen {P : Program} {w : World} {K : PySem.W.Frag} {mg : Str → Option Value} {base : Heap} (fr : Fr mg) (fk : FkT K mg) (gw : Gw K mg)  {fa : Addr} {cdv : Value} {A : Around} {outer : List PySem.Env} {s : Shared} {H : Hp} {E : XK} (hr : Room 0 (A.deeper (envOfC "_law_pen" (defScope st__law_pen) s.heap.objs.size fa cdv))) : SSs (cxOf (L2.CX P w) P w K mg base ["script", "fold", "cell"] "_law_pen" (defScope st__law_pen) fa cdv A outer s H E) none (defBody st__law_pen) (d__law_pen) :=
  sss_cons (ss_set 1 nd__law_pen (by intro z h; cases h) (se_int)) (sss_cons (ss_for (passes_of rfl) rfl (si_src (se_var 0)) (sg_name 2 nd__law_pen (by intro z h; cases h)) (sss_cons (ss_set 1 nd__law_pen (by intro z h; cases h) (se_op os_mod nx_IC (se_callTy cs_int nx_int (sa_cons (se_op os_add nx_add (se_op os_mul nx_mul (se_var 1) (se_int)) (se_var 2)) (sa_nil)) (fr.fr_int) boot_int') (se_int))) (sss_nil))) (sss_cons (ss_ret (se_dict (sps_cons (se_str) (se_callTy cs_list nx_list (sa_cons (se_var 0) (sa_nil)) (fr.fr_list) boot_list') (sps_cons (se_str) (se_int) (sps_cons (se_str) (se_int) (sps_cons (se_str) (se_int) (sps_cons (se_str) (se_var 1) (sps_nil)))))))) (sss_nil)))
/-! _law_draw -/
abbrev st__law_draw : Stmt := top 26
theorem sc__law_draw : FnScope ["pen", "many", "cell", "digit", "blend"] ["pen", "many"] (defScope st__law_draw) := ⟨rfl, rfl, rfl, by decide +kernel, rfl, by decide +kernel, by decide +kernel⟩
theorem nd__law_draw : (["pen", "many", "cell", "digit", "blend"] : List Str).Nodup := by decide +kernel
theorem s__law_draw {P : Program} {w : World} {K : PySem.W.Frag} {mg : Str → Option Value} {base : Heap} (fr : Fr mg) (fk : FkT K mg) (gw : Gw K mg)  {fa : Addr} {cdv : Value} {A : Around} {outer : List PySem.Env} {s : Shared} {H : Hp} {E : XK} (hr : Room 0 (A.deeper (envOfC "_law_draw" (defScope st__law_draw) s.heap.objs.size fa cdv))) : SSs (cxOf (L2.CX P w) P w K mg base ["pen", "many", "cell", "digit", "blend"] "_law_draw" (defScope st__law_draw) fa cdv A outer s H E) none (defBody st__law_draw) (d__law_draw) :=
  sss_cons (ss_asg (se_op os_add nx_add (se_sub (u1 hr) (se_var 0) (se_str)) (se_int)) (sg_sub (u1 hr) (se_var 0) (se_str))) (sss_cons (ss_if (SW.st (sw_and (st_cmp (os_eq (u64 hr)) nx_eq (se_sub (u1 hr) (se_var 0) (se_str)) (se_int)) (sw_and1 (st_cmp os_lt nx_ord (se_sub (u1 hr) (se_var 0) (se_str)) (se_callB cs_len nx_len (sa_cons (se_sub (u1 hr) (se_var 0) (se_str)) (sa_nil)) (fr.fr_len) boot_len))))) (sss_cons (ss_set 2 nd__law_draw (by intro z h; cases h) (se_sub (u1 hr) (se_sub (u1 hr) (se_var 0) (se_str)) (se_sub (u1 hr) (se_var 0) (se_str)))) (sss_cons (ss_asg (se_op os_add nx_add (se_sub (u1 hr) (se_var 0) (se_str)) (se_int)) (sg_sub (u1 hr) (se_var 0) (se_str))) (sss_cons (ss_if (st_cmp os_ge nx_ord (se_var 2) (se_op os_pow nx_IC (se_int) (se_int))) (sss_cons (ss_asg (se_op os_sub nx_I2 (se_var 2) (se_op os_pow nx_IC (se_int) (se_int))) (sg_sub (u1 hr) (se_var 0) (se_str))) (sss_nil)) (sss_cons (ss_asg (se_op os_mod nx_IC (se_callTy cs_int nx_int (sa_cons (se_op os_add nx_add (se_op os_mul nx_mul (se_sub (u1 hr) (se_var 0) (se_str)) (se_int)) (se_var 2)) (sa_nil)) (fr.fr_int) boot_int') (se_int)) (sg_sub (u1 hr) (se_var 0) (se_str))) (sss_nil))) (sss_nil)))) (sss_nil)) (sss_cons (ss_if (st_cmp os_gt nx_ord (se_sub (u1 hr) (se_var 0) (se_str)) (se_int)) (sss_cons (ss_set 3 nd__law_draw (by intro z h; cases h) (se_op os_mod nx_IC (se_callTy cs_int nx_int (sa_cons (se_sub (u1 hr) (se_var 0) (se_str)) (sa_nil)) (fr.fr_int) boot_int') (se_var 1))) (sss_cons (ss_asg (se_op os_fdiv nx_IC (se_sub (u1 hr) (se_var 0) (se_str)) (se_var 1)) (sg_sub (u1 hr) (se_var 0) (se_str))) (sss_cons (ss_ret (se_var 3)) (sss_nil)))) (sss_nil)) (sss_cons (ss_set 4 nd__law_draw (by intro z h; cases h) (se_op os_add nx_add (se_op os_add nx_add (se_sub (u1 hr) (se_var 0) (se_str)) (se_op os_mul nx_mul (se_sub (u1 hr) (se_var 0) (se_str)) (se_int))) (se_int))) (sss_cons (ss_ret (se_op os_mod nx_IC (se_op os_fdiv nx_IC (se_callTy cs_int nx_int (sa_cons (se_op os_mod nx_IC (se_op os_pow nx_IC (se_var 4) (se_int)) (se_int)) (sa_nil)) (fr.fr_int) boot_int') (se_int)) (se_var 1))) (sss_nil)))))
/-! _law_pick -/
abbrev st__law_pick : Stmt := top 27
theorem sc__law_pick : FnScope ["pen", "some"] ["pen", "some"] (defScope st__law_pick) := ⟨rfl, rfl, rfl, by decide +kernel, rfl, by decide +kernel, by decide +kernel⟩
theorem nd__law_pick : (["pen", "some"] : List Str).Nodup := by decide +kernel
theorem s__law_pick {P : Program} {w : World} {K : PySem.W.Frag} {mg : Str → Option Value} {base : Heap} (fr : Fr mg) (fk : FkT K mg) (gw : Gw K mg) {f__law_draw : FW} (c__law_draw : Cal P w K mg base 1 "_law_draw" [] f__law_draw) {fa : Addr} {cdv : Value} {A : Around} {outer : List PySem.Env} {s : Shared} {H : Hp} {E : XK} (hr : Room 1 (A.deeper (envOfC "_law_pick" (defScope st__law_pick) s.heap.objs.size fa cdv))) : SSs (cxOf (L2.CX P w) P w K mg base ["pen", "some"] "_law_pick" (defScope st__law_pick) fa cdv A outer s H E) none (defBody st__law_pick) (d__law_pick f__law_draw) :=
  sss_cons (ss_ret (se_sub (u1 hr) (se_var 1) (se_call c__law_draw hr (by decide) (sa_cons (se_var 0) (sa_cons (se_callB cs_len nx_len (sa_cons (se_var 1) (sa_nil)) (fr.fr_len) boot_len) (sa_nil)))))) (sss_nil)
/-! _law_shuffled -/
abbrev st__law_shuffled : Stmt := top 28
theorem sc__law_shuffled : FnScope ["pen", "some", "left", "found", "lap"] ["pen", "some"] (defScope st__law_shuffled) := ⟨rfl, rfl, rfl, by decide +kernel, rfl, by decide +kernel, by decide +kernel⟩
theorem nd__law_shuffled : (["pen", "some", "left", "found", "lap"] : List Str).Nodup := by decide +kernel
theorem s__law_shuffled {P : Program} {w : World} {K : PySem.W.Frag} {mg : Str → Option Value} {base : Heap} (fr : Fr mg) (fk : FkT K mg) (gw : Gw K mg) {f__law_draw : FW} (c__law_draw : Cal P w K mg base 1 "_law_draw" [] f__law_draw) {fa : Addr} {cdv : Value} {A : Around} {outer : List PySem.Env} {s : Shared} {H : Hp} {E : XK} (hr : Room 1 (A.deeper (envOfC "_law_shuffled" (defScope st__law_shuffled) s.heap.objs.size fa cdv))) : SSs (cxOf (L2.CX P w) P w K mg base ["pen", "some", "left", "found", "lap"] "_law_shuffled" (defScope st__law_shuffled) fa cdv A outer s H E) none (defBody st__law_shuffled) (d__law_shuffled f__law_draw) :=
  sss_cons (ss_par (i := 2) (j := 3)  rfl nd__law_shuffled rfl (sa_cons (se_callTy cs_list nx_list (sa_cons (se_var 1) (sa_nil)) (fr.fr_list) boot_list') (sa_cons (se_lst (sa_nil)) (sa_nil)))) (sss_cons (ss_for (passes_of rfl) rfl (si_rng1 (se_callB cs_len nx_len (sa_cons (se_var 1) (sa_nil)) (fr.fr_len) boot_len) (fr.fr_range)) (sg_name 4 nd__law_shuffled (by intro z h; cases h)) (sss_cons (ss_expr (se_bm PySem.F.plainAttrs_list PySem.F.slot_list_append PySem.F.type_list_append ms_append nx_append (se_var 3) (sa_cons (se_bm PySem.F.plainAttrs_list PySem.F.slot_list_pop PySem.F.type_list_pop ms_pop nx_pop (se_var 2) (sa_cons (se_call c__law_draw hr (by decide) (sa_cons (se_var 0) (sa_cons (se_callB cs_len nx_len (sa_cons (se_var 2) (sa_nil)) (fr.fr_len) boot_len) (sa_nil)))) (sa_nil))) (sa_nil)))) (sss_nil))) (sss_cons (ss_ret (se_var 3)) (sss_nil)))
/-! _law_name -/
abbrev st__law_name : Stmt := top 29
theorem sc__law_name : FnScope ["pen", "index", "word", "spot", "place"] ["pen", "index"] (defScope st__law_name) := ⟨rfl, rfl, rfl, by decide +kernel, rfl, by decide +kernel, by decide +kernel⟩
theorem nd__law_name : (["pen", "index", "word", "spot", "place"] : List Str).Nodup := by decide +kernel
theorem s__law_name {P : Program} {w : World} {K : PySem.W.Frag} {mg : Str → Option Value} {base : Heap} (fr : Fr mg) (fk : FkT K mg) (gw : Gw K mg) {f__law_draw : FW} (c__law_draw : Cal P w K mg base 1 "_law_draw" [] f__law_draw) {fa : Addr} {cdv : Value} {A : Around} {outer : List PySem.Env} {s : Shared} {H : Hp} {E : XK} (hr : Room 1 (A.deeper (envOfC "_law_name" (defScope st__law_name) s.heap.objs.size fa cdv))) : SSs (cxOf (L2.CX P w) P w K mg base ["pen", "index", "word", "spot", "place"] "_law_name" (defScope st__law_name) fa cdv A outer s H E) none (defBody st__law_name) (d__law_name f__law_draw) :=
  sss_cons (ss_set 2 nd__law_name (by intro z h; cases h) (se_str)) (sss_cons (ss_for (passes_of rfl) rfl (si_rng1 (se_op os_add nx_add (se_int) (se_call c__law_draw hr (by decide) (sa_cons (se_var 0) (sa_cons (se_int) (sa_nil))))) (fr.fr_range)) (sg_name 3 nd__law_name (by intro z h; cases h)) (sss_cons (ss_set 2 nd__law_name (by intro z h; cases h) (se_op os_add nx_add (se_var 2) (se_sub (u1 hr) (se_str) (se_call c__law_draw hr (by decide) (sa_cons (se_var 0) (sa_cons (se_int) (sa_nil))))))) (sss_nil))) (sss_cons (ss_set 4 nd__law_name (by intro z h; cases h) (se_op os_add nx_add (se_int) (se_call c__law_draw hr (by decide) (sa_cons (se_var 0) (sa_cons (se_callB cs_len nx_len (sa_cons (se_var 2) (sa_nil)) (fr.fr_len) boot_len) (sa_nil)))))) (sss_cons (ss_ret (se_op os_add nx_add (se_op os_add nx_add (se_slice (se_var 2) (so_none) (so_some (se_var 4))) (se_callTy cs_strI nx_strI (sa_cons (se_var 1) (sa_nil)) (fr.fr_str) boot_str')) (se_slice (se_var 2) (so_some (se_var 4)) (so_none)))) (sss_nil))))
/-! _law_names -/
abbrev st__law_names : Stmt := top 30
theorem sc__law_names : FnScope ["pen", "many", "index"] ["pen", "many"] (defScope st__law_names) := ⟨rfl, rfl, rfl, by decide +kernel, rfl, by decide +kernel, by decide +kernel⟩
theorem nd__law_names : (["pen", "many", "index"] : List Str).Nodup := by decide +kernel
theorem s__law_names {P : Program} {w : World} {K : PySem.W.Frag} {mg : Str → Option Value} {base : Heap} (fr : Fr mg) (fk : FkT K mg) (gw : Gw K mg) {f__law_name : FW} (c__law_name : Cal P w K mg base 2 "_law_name" [] f__law_name) {f__law_shuffled : FW} (c__law_shuffled : Cal P w K mg base 2 "_law_shuffled" [] f__law_shuffled) {fa : Addr} {cdv : Value} {A : Around} {outer : List PySem.Env} {s : Shared} {H : Hp} {E : XK} (hr : Room 2 (A.deeper (envOfC "_law_names" (defScope st__law_names) s.heap.objs.size fa cdv))) : SSs (cxOf (L2.CX P w) P w K mg base ["pen", "many", "index"] "_law_names" (defScope st__law_names) fa cdv A outer s H E) none (defBody st__law_names) (d__law_names f__law_name f__law_shuffled) :=
  sss_cons (ss_ret (se_call c__law_shuffled hr (by decide) (sa_cons (se_var 0) (sa_cons (se_comp (own := [("index", 2)]) rfl nd__law_names (si_rng1 (se_var 1) (fr.fr_range)) (show BlkOk ["pen", "many", "index"] (defScope st__law_names) _ [("index", 2)] from blkOk_by (by decide +kernel)) (fun _ _ _ _ _ => sgo_name 2 nd__law_names) (fun _ _ _ _ _ => sts_nil) (fun _ _ _ _ _ => se_call c__law_name hr (by decide) (sa_cons (se_var 0) (sa_cons (se_var 2) (sa_nil))))) (sa_nil))))) (sss_nil)
/-! _law_same -/
abbrev st__law_same : Stmt := top 31
theorem sc__law_same : FnScope ["told", "due", "one", "two"] ["told", "due"] (defScope st__law_same) := ⟨rfl, rfl, rfl, by decide +kernel, rfl, by decide +kernel, by decide +kernel⟩
theorem nd__law_same : (["told", "due", "one", "two"] : List Str).Nodup := by decide +kernel
theorem s__law_same {P : Program} {w : World} {K : PySem.W.Frag} {mg : Str → Option Value} {base : Heap} (fr : Fr mg) (fk : FkT K mg) (gw : Gw K mg) {j : Nat} {f__law_same : FW} (c__law_same : Cal P w K mg base j "_law_same" [] f__law_same) {fa : Addr} {cdv : Value} {A : Around} {outer : List PySem.Env} {s : Shared} {H : Hp} {E : XK} (hj : 0 ≤ j) (hr : Room j (A.deeper (envOfC "_law_same" (defScope st__law_same) s.heap.objs.size fa cdv))) : SSs (cxOf (L2.CX P w) P w K mg base ["told", "due", "one", "two"] "_law_same" (defScope st__law_same) fa cdv A outer s H E) none (defBody st__law_same) (d__law_same f__law_same) :=
  sss_cons (ss_if (st_truth (se_isi (T := "tuple") (by decide) ownIs_nil (se_var 1) (fr.fr_isinstance) (fr.fr_tuple) boot_tuple')) (sss_cons (ss_ret (se_and (se_isi (T := "tuple") (by decide) ownIs_nil (se_var 0) (fr.fr_isinstance) (fr.fr_tuple) boot_tuple') (se_and (se_cmp (os_eq (u64 hr)) nx_eq (se_callB cs_len nx_len (sa_cons (se_var 0) (sa_nil)) (fr.fr_len) boot_len) (se_callB cs_len nx_len (sa_cons (se_var 1) (sa_nil)) (fr.fr_len) boot_len)) (se_one (se_callB (cs_all rfl) nx_all (sa_cons (se_comp (own := [("one", 2), ("two", 3)]) rfl nd__law_same (si_zip (se_var 0) (se_var 1) (fr.fr_zip)) (show BlkOk ["told", "due", "one", "two"] (defScope st__law_same) _ [("one", 2), ("two", 3)] from blkOk_by (by decide +kernel)) (fun _ _ _ _ _ => sgo_tup rfl (sgos_cons (sgo_name 2 nd__law_same) (sgos_cons (sgo_name 3 nd__law_same) (sgos_nil)))) (fun _ _ _ _ _ => sts_nil) (fun _ _ _ _ _ => se_call c__law_same hr (by omega) (sa_cons (se_var 2) (sa_cons (se_var 3) (sa_nil))))) (sa_nil)) (fr.fr_all) boot_all'))))) (sss_nil)) (sss_nil)) (sss_cons (ss_if (st_cmp os_is nx_is (se_var 1) (se_non)) (sss_cons (ss_ret (se_cmp os_is nx_is (se_var 0) (se_non))) (sss_nil)) (sss_nil)) (sss_cons (ss_if (st_cmp os_is nx_is (se_var 1) (se_bl)) (sss_cons (ss_ret (se_cmp os_is nx_is (se_var 0) (se_bl))) (sss_nil)) (sss_nil)) (sss_cons (ss_if (st_cmp os_is nx_is (se_var 1) (se_bl)) (sss_cons (ss_ret (se_cmp os_is nx_is (se_var 0) (se_bl))) (sss_nil)) (sss_nil)) (sss_cons (ss_if (st_truth (se_isi (T := "int") (by decide) ownIs_nil (se_var 1) (fr.fr_isinstance) (fr.fr_int) boot_int')) (sss_cons (ss_ret (se_and (se_isi (T := "int") (by decide) ownIs_nil (se_var 0) (fr.fr_isinstance) (fr.fr_int) boot_int') (se_and (se_not (se_isi (T := "bool") (by decide) ownIs_nil (se_var 0) (fr.fr_isinstance) (fr.fr_bool) boot_bool')) (se_one (se_cmp (os_eq (u64 hr)) nx_eq (se_var 0) (se_var 1)))))) (sss_nil)) (sss_nil)) (sss_cons (ss_ret (se_and (se_isi (T := "str") (by decide) ownIs_nil (se_var 0) (fr.fr_isinstance) (fr.fr_str) boot_str') (se_one (se_cmp (os_eq (u64 hr)) nx_eq (se_var 0) (se_var 1))))) (sss_nil))))))
/-! _law_why -/
abbrev st__law_why : Stmt := top 32
theorem sc__law_why : FnScope ["call", "found", "error"] ["call"] (defScope st__law_why) := ⟨rfl, rfl, rfl, by decide +kernel, rfl, by decide +kernel, by decide +kernel⟩
theorem nd__law_why : (["call", "found", "error"] : List Str).Nodup := by decide +kernel
theorem s__law_why {P : Program} {w : World} {K : PySem.W.Frag} {mg : Str → Option Value} {base : Heap} (fr : Fr mg) (fk : FkT K mg) (gw : Gw K mg) {ca : Str → Value} (ex : Ex K mg ca) (x_BadName : Xcl P w K mg base 1 "BadName" ["name"]) (x_BadNumber : Xcl P w K mg base 1 "BadNumber" ["what", "number"]) (x_BadRow : Xcl P w K mg base 1 "BadRow" ["what", "row"]) (x_BadText : Xcl P w K mg base 1 "BadText" ["line", "word"]) (x_Misplaced : Xcl P w K mg base 1 "Misplaced" ["line", "column", "why", "name"]) (x_Misread : Xcl P w K mg base 1 "Misread" ["line", "column"]) (x_NotThere : Xcl P w K mg base 1 "NotThere" ["what"]) (x_TakenName : Xcl P w K mg base 1 "TakenName" ["name"]) (x_TooMany : Xcl P w K mg base 1 "TooMany" ["what", "many", "limit"]) (x_Unlike : Xcl P w K mg base 1 "Unlike" ["what"]) {fa : Addr} {cdv : Value} {A : Around} {outer : List PySem.Env} {s : Shared} {H : Hp} {E : XK} {l : W} {cb : Store → R W} (hcb : ∀ (pn : List (Addr × Obj)) (xe : Value → Shared → Prop) (p1 p2 : Pos), SE ((cxOf C8.CX0 P w K mg base ["call", "found", "error"] "_law_why" (defScope st__law_why) fa cdv A outer s H C8.E0).tr pn xe) none (.Call (.Name "call" p1) [] [] p2) (dCb l cb)) (hr : Room 2 (A.deeper (envOfC "_law_why" (defScope st__law_why) s.heap.objs.size fa cdv))) : SSs (cxOf C8.CX0 P w K mg base ["call", "found", "error"] "_law_why" (defScope st__law_why) fa cdv A outer s H C8.E0).nox none (defBody st__law_why) (d__law_why EXR EXS l cb) :=
  sss_cons (ss_set 1 nd__law_why (by intro z h; cases h) (se_non)) (sss_cons (ss_try (ex.isx) rfl rfl (fun pn xe hp => sss_cons (ss_expr (hcb _ _ _ _)) (sss_nil)) (.cons (h := ⟨"Misread", some 2, fun k fs => if k = "Misread" then dSeq (dAsg (dLst (dCons (dC (.str "read")) (dCons (dXf fs "line") (dCons (dXf fs "column") (dNil))))) (gSet 1)) (dNext) else dBadS⟩) (by rfl) (ex.mg_Misread) (nmOk_some nd__law_why rfl rfl) (fun a oe cv d pn k fs hz hv => sss_ite fun hk => by subst hk; exact (sss_cons (ss_set 1 nd__law_why (by intro z h; cases h; show (2 : Nat) ≠ 1; decide) (se_lst (sa_cons (se_str) (sa_cons (se_xf (z := ⟨2, a, cv, d, "Misread", fs⟩) x_Misread (by decide) hz hv) (sa_cons (se_xf (z := ⟨2, a, cv, d, "Misread", fs⟩) x_Misread (by decide) hz hv) (sa_nil)))))) (sss_nil))) (.cons (h := ⟨"Misplaced", some 2, fun k fs => if k = "Misplaced" then dSeq (dAsg (dLst (dCons (dC (.str "placed")) (dCons (dXf fs "line") (dCons (dXf fs "column") (dCons (dXf fs "why") (dCons (dXf fs "name") (dNil))))))) (gSet 1)) (dNext) else dBadS⟩) (by rfl) (ex.mg_Misplaced) (nmOk_some nd__law_why rfl rfl) (fun a oe cv d pn k fs hz hv => sss_ite fun hk => by subst hk; exact (sss_cons (ss_set 1 nd__law_why (by intro z h; cases h; show (2 : Nat) ≠ 1; decide) (se_lst (sa_cons (se_str) (sa_cons (se_xf (z := ⟨2, a, cv, d, "Misplaced", fs⟩) x_Misplaced (by decide) hz hv) (sa_cons (se_xf (z := ⟨2, a, cv, d, "Misplaced", fs⟩) x_Misplaced (by decide) hz hv) (sa_cons (se_xf (z := ⟨2, a, cv, d, "Misplaced", fs⟩) x_Misplaced (by decide) hz hv) (sa_cons (se_xf (z := ⟨2, a, cv, d, "Misplaced", fs⟩) x_Misplaced (by decide) hz hv) (sa_nil)))))))) (sss_nil))) (.cons (h := ⟨"BadText", some 2, fun k fs => if k = "BadText" then dSeq (dAsg (dLst (dCons (dC (.str "text")) (dCons (dXf fs "line") (dCons (dXf fs "word") (dNil))))) (gSet 1)) (dNext) else dBadS⟩) (by rfl) (ex.mg_BadText) (nmOk_some nd__law_why rfl rfl) (fun a oe cv d pn k fs hz hv => sss_ite fun hk => by subst hk; exact (sss_cons (ss_set 1 nd__law_why (by intro z h; cases h; show (2 : Nat) ≠ 1; decide) (se_lst (sa_cons (se_str) (sa_cons (se_xf (z := ⟨2, a, cv, d, "BadText", fs⟩) x_BadText (by decide) hz hv) (sa_cons (se_xf (z := ⟨2, a, cv, d, "BadText", fs⟩) x_BadText (by decide) hz hv) (sa_nil)))))) (sss_nil))) (.cons (h := ⟨"BadName", some 2, fun k fs => if k = "BadName" then dSeq (dBadS) (dNext) else dBadS⟩) (by rfl) (ex.mg_BadName) (nmOk_some nd__law_why rfl rfl) (fun a oe cv d pn k fs hz hv => sss_ite fun hk => by subst hk; exact (sss_cons (ss_bad) (sss_nil))) (.cons (h := ⟨"NotThere", some 2, fun k fs => if k = "NotThere" then dSeq (dBadS) (dNext) else dBadS⟩) (by rfl) (ex.mg_NotThere) (nmOk_some nd__law_why rfl rfl) (fun a oe cv d pn k fs hz hv => sss_ite fun hk => by subst hk; exact (sss_cons (ss_bad) (sss_nil))) (.cons (h := ⟨"TakenName", some 2, fun k fs => if k = "TakenName" then dSeq (dBadS) (dNext) else dBadS⟩) (by rfl) (ex.mg_TakenName) (nmOk_some nd__law_why rfl rfl) (fun a oe cv d pn k fs hz hv => sss_ite fun hk => by subst hk; exact (sss_cons (ss_bad) (sss_nil))) (.cons (h := ⟨"BadNumber", some 2, fun k fs => if k = "BadNumber" then dSeq (dBadS) (dNext) else dBadS⟩) (by rfl) (ex.mg_BadNumber) (nmOk_some nd__law_why rfl rfl) (fun a oe cv d pn k fs hz hv => sss_ite fun hk => by subst hk; exact (sss_cons (ss_bad) (sss_nil))) (.cons (h := ⟨"BadRow", some 2, fun k fs => if k = "BadRow" then dSeq (dBadS) (dNext) else dBadS⟩) (by rfl) (ex.mg_BadRow) (nmOk_some nd__law_why rfl rfl) (fun a oe cv d pn k fs hz hv => sss_ite fun hk => by subst hk; exact (sss_cons (ss_bad) (sss_nil))) (.cons (h := ⟨"Unlike", some 2, fun k fs => if k = "Unlike" then dSeq (dAsg (dLst (dCons (dC (.str "unlike")) (dCons (dXf fs "what") (dNil)))) (gSet 1)) (dNext) else dBadS⟩) (by rfl) (ex.mg_Unlike) (nmOk_some nd__law_why rfl rfl) (fun a oe cv d pn k fs hz hv => sss_ite fun hk => by subst hk; exact (sss_cons (ss_set 1 nd__law_why (by intro z h; cases h; show (2 : Nat) ≠ 1; decide) (se_lst (sa_cons (se_str) (sa_cons (se_xf (z := ⟨2, a, cv, d, "Unlike", fs⟩) x_Unlike (by decide) hz hv) (sa_nil))))) (sss_nil))) (.cons (h := ⟨"TooMany", some 2, fun k fs => if k = "TooMany" then dSeq (dAsg (dLst (dCons (dC (.str "many")) (dCons (dXf fs "what") (dCons (dXf fs "many") (dCons (dXf fs "limit") (dNil)))))) (gSet 1)) (dNext) else dBadS⟩) (by rfl) (ex.mg_TooMany) (nmOk_some nd__law_why rfl rfl) (fun a oe cv d pn k fs hz hv => sss_ite fun hk => by subst hk; exact (sss_cons (ss_set 1 nd__law_why (by intro z h; cases h; show (2 : Nat) ≠ 1; decide) (se_lst (sa_cons (se_str) (sa_cons (se_xf (z := ⟨2, a, cv, d, "TooMany", fs⟩) x_TooMany (by decide) hz hv) (sa_cons (se_xf (z := ⟨2, a, cv, d, "TooMany", fs⟩) x_TooMany (by decide) hz hv) (sa_cons (se_xf (z := ⟨2, a, cv, d, "TooMany", fs⟩) x_TooMany (by decide) hz hv) (sa_nil))))))) (sss_nil))) (.nil)))))))))))) (sss_cons (ss_ret (se_var 1)) (sss_nil)))
/-! _law_keys -/
abbrev st__law_keys : Stmt := top 33
theorem sc__law_keys : FnScope [] [] (defScope st__law_keys) := ⟨rfl, rfl, rfl, by decide +kernel, rfl, by decide +kernel, by decide +kernel⟩
theorem nd__law_keys : ([] : List Str).Nodup := by decide +kernel
theorem s__law_keys {P : Program} {w : World} {K : PySem.W.Frag} {mg : Str → Option Value} {base : Heap} (fr : Fr mg) (fk : FkT K mg) (gw : Gw K mg)  {fa : Addr} {cdv : Value} {A : Around} {outer : List PySem.Env} {s : Shared} {H : Hp} {E : XK} (hr : Room 0 (A.deeper (envOfC "_law_keys" (defScope st__law_keys) s.heap.objs.size fa cdv))) : SSs (cxOf (L2.CX P w) P w K mg base [] "_law_keys" (defScope st__law_keys) fa cdv A outer s H E) none (defBody st__law_keys) (d__law_keys) :=
  sss_cons (ss_ret (se_lst (sa_cons (se_str) (sa_cons (se_str) (sa_cons (se_str) (sa_cons (se_str) (sa_cons (se_str) (sa_cons (se_str) (sa_cons (se_str) (sa_cons (se_str) (sa_cons (se_str) (sa_cons (se_str) (sa_cons (se_str) (sa_cons (se_str) (sa_cons (se_str) (sa_cons (se_str) (sa_nil))))))))))))))))) (sss_nil)
/-! _law_is_name -/
abbrev st__law_is_name : Stmt := top 34
theorem sc__law_is_name : FnScope ["value", "sign"] ["value"] (defScope st__law_is_name) := ⟨rfl, rfl, rfl, by decide +kernel, rfl, by decide +kernel, by decide +kernel⟩
theorem nd__law_is_name : (["value", "sign"] : List Str).Nodup := by decide +kernel
theorem s__law_is_name {P : Program} {w : World} {K : PySem.W.Frag} {mg : Str → Option Value} {base : Heap} (fr : Fr mg) (fk : FkT K mg) (gw : Gw K mg) {f__law_keys : FW} (c__law_keys : Cal P w K mg base 1 "_law_keys" [] f__law_keys) {fa : Addr} {cdv : Value} {A : Around} {outer : List PySem.Env} {s : Shared} {H : Hp} {E : XK} (hr : Room 1 (A.deeper (envOfC "_law_is_name" (defScope st__law_is_name) s.heap.objs.size fa cdv))) : SSs (cxOf (L2.CX P w) P w K mg base ["value", "sign"] "_law_is_name" (defScope st__law_is_name) fa cdv A outer s H E) none (defBody st__law_is_name) (d__law_is_name f__law_keys) :=
  sss_cons (ss_if (SW.st (sw_or (st_not (st_truth (se_isi (T := "str") (by decide) ownIs_nil (se_var 0) (fr.fr_isinstance) (fr.fr_str) boot_str'))) (sw_or (st_cmp (os_eq (u64 hr)) nx_eq (se_var 0) (se_str)) (sw_or (st_cmp os_gt nx_ord (se_callB cs_len nx_len (sa_cons (se_var 0) (sa_nil)) (fr.fr_len) boot_len) (se_int)) (sw_or (st_cmp (os_in (u65 hr)) nx_in (se_var 0) (se_call0 c__law_keys hr (by decide))) (sw_or1 (st_cmp (os_in (u65 hr)) nx_in (se_sub (u1 hr) (se_var 0) (se_int)) (se_str)))))))) (sss_cons (ss_ret (se_bl)) (sss_nil)) (sss_nil)) (sss_cons (ss_ret (se_cmp (os_eq (u64 hr)) nx_eq (se_comp (own := [("sign", 1)]) rfl nd__law_is_name (si_src (se_var 0)) (show BlkOk ["value", "sign"] (defScope st__law_is_name) _ [("sign", 1)] from blkOk_by (by decide +kernel)) (fun _ _ _ _ _ => sgo_name 1 nd__law_is_name) (fun _ _ _ _ _ => sts_one (st_cmp (os_notin (u65 hr)) nx_in (se_var 1) (se_str))) (fun _ _ _ _ _ => se_var 1)) (se_lst (sa_nil)))) (sss_nil))
/-! _law_kind_of_word -/
abbrev st__law_kind_of_word : Stmt := top 35
theorem sc__law_kind_of_word : FnScope ["word"] ["word"] (defScope st__law_kind_of_word) := ⟨rfl, rfl, rfl, by decide +kernel, rfl, by decide +kernel, by decide +kernel⟩
theorem nd__law_kind_of_word : (["word"] : List Str).Nodup := by decide +kernel
theorem s__law_kind_of_word {P : Program} {w : World} {K : PySem.W.Frag} {mg : Str → Option Value} {base : Heap} (fr : Fr mg) (fk : FkT K mg) (gw : Gw K mg) {f__law_is_name : FW} (c__law_is_name : Cal P w K mg base 2 "_law_is_name" [] f__law_is_name) {f__law_keys : FW} (c__law_keys : Cal P w K mg base 1 "_law_keys" [] f__law_keys) {fa : Addr} {cdv : Value} {A : Around} {outer : List PySem.Env} {s : Shared} {H : Hp} {E : XK} (hr : Room 2 (A.deeper (envOfC "_law_kind_of_word" (defScope st__law_kind_of_word) s.heap.objs.size fa cdv))) : SSs (cxOf (L2.CX P w) P w K mg base ["word"] "_law_kind_of_word" (defScope st__law_kind_of_word) fa cdv A outer s H E) none (defBody st__law_kind_of_word) (d__law_kind_of_word f__law_is_name f__law_keys) :=
  sss_cons (ss_if (st_cmp (os_in (u65 hr)) nx_in (se_var 0) (se_call0 c__law_keys hr (by decide))) (sss_cons (ss_ret (se_str)) (sss_nil)) (sss_nil)) (sss_cons (ss_if (st_truth (se_call c__law_is_name hr (by decide) (sa_cons (se_var 0) (sa_nil)))) (sss_cons (ss_ret (se_str)) (sss_nil)) (sss_nil)) (sss_cons (ss_ret (se_non)) (sss_nil)))
/-! _law_due -/
abbrev st__law_due : Stmt := top 36
theorem sc__law_due : FnScope ["text", "found", "line", "column", "at", "run", "lap", "sign", "many", "step", "word", "kind"] ["text"] (defScope st__law_due) := ⟨rfl, rfl, rfl, by decide +kernel, rfl, by decide +kernel, by decide +kernel⟩
theorem nd__law_due : (["text", "found", "line", "column", "at", "run", "lap", "sign", "many", "step", "word", "kind"] : List Str).Nodup := by decide +kernel
theorem s__law_due {P : Program} {w : World} {K : PySem.W.Frag} {mg : Str → Option Value} {base : Heap} (fr : Fr mg) (fk : FkT K mg) (gw : Gw K mg) {f__law_kind_of_word : FW} (c__law_kind_of_word : Cal P w K mg base 3 "_law_kind_of_word" [] f__law_kind_of_word) {fa : Addr} {cdv : Value} {A : Around} {outer : List PySem.Env} {s : Shared} {H : Hp} {E : XK} (hr : Room 3 (A.deeper (envOfC "_law_due" (defScope st__law_due) s.heap.objs.size fa cdv))) : SSs (cxOf (L2.CX P w) P w K mg base ["text", "found", "line", "column", "at", "run", "lap", "sign", "many", "step", "word", "kind"] "_law_due" (defScope st__law_due) fa cdv A outer s H E) none (defBody st__law_due) (d__law_due f__law_kind_of_word) :=
  sss_cons (ss_asg (se_tup (sa_cons (se_lst (sa_nil)) (sa_cons (se_int) (sa_cons (se_int) (sa_cons (se_int) (sa_cons (se_str) (sa_nil))))))) (sg_tup rfl (sgs_cons (sg_name 1 nd__law_due (by intro z h; cases h)) (sgs_cons (sg_name 2 nd__law_due (by intro z h; cases h)) (sgs_cons (sg_name 3 nd__law_due (by intro z h; cases h)) (sgs_cons (sg_name 4 nd__law_due (by intro z h; cases h)) (sgs_cons (sg_name 5 nd__law_due (by intro z h; cases h)) (sgs_nil)))))))) (sss_cons (ss_for (passes_of rfl) rfl (si_rng1 (se_op os_add nx_add (se_callB cs_len nx_len (sa_cons (se_var 0) (sa_nil)) (fr.fr_len) boot_len) (se_int)) (fr.fr_range)) (sg_name 6 nd__law_due (by intro z h; cases h)) (sss_cons (ss_if (st_cmp os_ge nx_ord (se_var 4) (se_callB cs_len nx_len (sa_cons (se_var 0) (sa_nil)) (fr.fr_len) boot_len)) (sss_cons (ss_break) (sss_nil)) (sss_nil)) (sss_cons (ss_set 7 nd__law_due (by intro z h; cases h) (se_sub (u1 hr) (se_var 0) (se_var 4))) (sss_cons (ss_if (st_cmp (os_eq (u64 hr)) nx_eq (se_var 7) (se_str)) (sss_cons (ss_set 8 nd__law_due (by intro z h; cases h) (se_callB cs_len nx_len (sa_cons (se_sub (u1 hr) (se_bm PySem.F.plainAttrs_str PySem.F.slot_str_split PySem.F.type_str_split ms_split nx_split (se_slice (se_var 0) (so_some (se_var 4)) (so_none)) (sa_cons (se_str) (sa_nil))) (se_int)) (sa_nil)) (fr.fr_len) boot_len)) (sss_cons (ss_par (i := 4) (j := 3)  rfl nd__law_due rfl (sa_cons (se_op os_add nx_add (se_var 4) (se_var 8)) (sa_cons (se_op os_add nx_add (se_var 3) (se_var 8)) (sa_nil)))) (sss_cons (ss_continue) (sss_nil)))) (sss_nil)) (sss_cons (ss_if (st_cmp (os_in (u65 hr)) nx_in (se_var 7) (se_str)) (sss_cons (ss_asg (se_ifx (st_cmp (os_eq (u64 hr)) nx_eq (se_var 7) (se_str)) (se_tup (sa_cons (se_op os_add nx_add (se_var 2) (se_int)) (sa_cons (se_int) (sa_nil)))) (se_tup (sa_cons (se_var 2) (sa_cons (se_op os_add nx_add (se_var 3) (se_int)) (sa_nil))))) (sg_tup rfl (sgs_cons (sg_name 2 nd__law_due (by intro z h; cases h)) (sgs_cons (sg_name 3 nd__law_due (by intro z h; cases h)) (sgs_nil))))) (sss_cons (ss_set 4 nd__law_due (by intro z h; cases h) (se_op os_add nx_add (se_var 4) (se_int))) (sss_cons (ss_continue) (sss_nil)))) (sss_nil)) (sss_cons (ss_set 8 nd__law_due (by intro z h; cases h) (se_int)) (sss_cons (ss_if (st_cmp (os_in (u65 hr)) nx_in (se_var 7) (se_var 5)) (sss_cons (ss_for (passes_of rfl) rfl (si_rng1 (se_callB cs_len nx_len (sa_cons (se_var 0) (sa_nil)) (fr.fr_len) boot_len) (fr.fr_range)) (sg_name 9 nd__law_due (by intro z h; cases h)) (sss_cons (ss_if (SW.st (sw_and (st_cmp os_lt nx_ord (se_op os_add nx_add (se_var 4) (se_var 8)) (se_callB cs_len nx_len (sa_cons (se_var 0) (sa_nil)) (fr.fr_len) boot_len)) (sw_and1 (st_cmp (os_in (u65 hr)) nx_in (se_sub (u1 hr) (se_var 0) (se_op os_add nx_add (se_var 4) (se_var 8))) (se_var 5))))) (sss_cons (ss_set 8 nd__law_due (by intro z h; cases h) (se_op os_add nx_add (se_var 8) (se_int))) (sss_nil)) (sss_nil)) (sss_nil))) (sss_nil)) (sss_nil)) (sss_cons (ss_set 10 nd__law_due (by intro z h; cases h) (se_slice (se_var 0) (so_some (se_var 4)) (so_some (se_op os_add nx_add (se_var 4) (se_var 8))))) (sss_cons (ss_set 11 nd__law_due (by intro z h; cases h) (se_ifx (st_cmp (os_in (u65 hr)) nx_in (se_var 10) (se_lst (sa_cons (se_str) (sa_cons (se_str) (sa_cons (se_str) (sa_nil)))))) (se_str) (se_ifx (st_cmp (os_in (u65 hr)) nx_in (se_var 7) (se_var 5)) (se_call c__law_kind_of_word hr (by decide) (sa_cons (se_var 10) (sa_nil))) (se_non)))) (sss_cons (ss_if (st_cmp os_is nx_is (se_var 11) (se_non)) (sss_cons (ss_ret (se_tup (sa_cons (se_lst (sa_cons (se_str) (sa_cons (se_var 2) (sa_cons (se_var 3) (sa_nil))))) (sa_cons (se_non) (sa_nil))))) (sss_nil)) (sss_nil)) (sss_cons (ss_expr (se_bm PySem.F.plainAttrs_list PySem.F.slot_list_append PySem.F.type_list_append ms_append nx_append (se_var 1) (sa_cons (se_tup (sa_cons (se_var 11) (sa_cons (se_var 10) (sa_cons (se_tup (sa_cons (se_var 2) (sa_cons (se_var 3) (sa_nil)))) (sa_nil))))) (sa_nil)))) (sss_cons (ss_par (i := 4) (j := 3)  rfl nd__law_due rfl (sa_cons (se_op os_add nx_add (se_var 4) (se_var 8)) (sa_cons (se_op os_add nx_add (se_var 3) (se_var 8)) (sa_nil)))) (sss_nil))))))))))))) (sss_cons (ss_ret (se_tup (sa_cons (se_non) (sa_cons (se_callTy cs_tuple nx_tuple (sa_cons (se_op os_add nx_add (se_var 1) (se_lst (sa_cons (se_tup (sa_cons (se_str) (sa_cons (se_str) (sa_cons (se_tup (sa_cons (se_var 2) (sa_cons (se_var 3) (sa_nil)))) (sa_nil))))) (sa_nil)))) (sa_nil)) (fr.fr_tuple) boot_tuple') (sa_nil))))) (sss_nil)))
/-! _law_is_told -/
abbrev st__law_is_told : Stmt := top 37
theorem sc__law_is_told : FnScope ["text", "told", "due"] ["text"] (defScope st__law_is_told) := ⟨rfl, rfl, rfl, by decide +kernel, rfl, by decide +kernel, by decide +kernel⟩
theorem nd__law_is_told : (["text", "told", "due"] : List Str).Nodup := by decide +kernel
theorem s__law_is_told {P : Program} {w : World} {K : PySem.W.Frag} {mg : Str → Option Value} {base : Heap} (fr : Fr mg) (fk : FkT K mg) (gw : Gw K mg) {f__law_due : FW} (c__law_due : Cal P w K mg base 4 "_law_due" [] f__law_due) {f__law_same : FW} (c__law_same : Cal P w K mg base 41 "_law_same" [] f__law_same) {f_tokens : FW} (c_tokens : Cal P w K mg base 4 "tokens" [] f_tokens) {L__law_why : FLW} (l__law_why : CalL P w K mg base 2 "_law_why" L__law_why) {fa : Addr} {cdv : Value} {A : Around} {outer : List PySem.Env} {s : Shared} {H : Hp} {E : XK} (lm : LamM (cxOf (L2.CX P w) P w K mg base ["text", "told", "due"] "_law_is_told" (defScope st__law_is_told) fa cdv A outer s H E)) (hr : Room 41 (A.deeper (envOfC "_law_is_told" (defScope st__law_is_told) s.heap.objs.size fa cdv))) : SSs (cxOf (L2.CX P w) P w K mg base ["text", "told", "due"] "_law_is_told" (defScope st__law_is_told) fa cdv A outer s H E) none (defBody st__law_is_told) (d__law_is_told f__law_due f__law_same f_tokens L__law_why) :=
  sss_cons (ss_asg (se_tup (sa_cons (se_lst (sa_nil)) (sa_cons (se_call c__law_due hr (by decide) (sa_cons (se_var 0) (sa_nil))) (sa_nil)))) (sg_tup rfl (sgs_cons (sg_name 1 nd__law_is_told (by intro z h; cases h)) (sgs_cons (sg_name 2 nd__law_is_told (by intro z h; cases h)) (sgs_nil))))) (sss_cons (ss_if (st_cmp (os_ne (u64 hr)) nx_eq (se_lam (k := 39) l__law_why lm hr (by decide) (by decide) (show LamX.LamS (defScope st__law_is_told) _ from LamX.lamS_by (by decide +kernel)) (fun A outer s H E f c hr => se_bm PySem.F.plainAttrs_list PySem.F.slot_list_append PySem.F.type_list_append ms_append nx_append (se_var 1) (sa_cons (se_call c_tokens hr (by decide) (sa_cons (se_var 0) (sa_nil))) (sa_nil)))) (se_sub (u1 hr) (se_var 2) (se_int))) (sss_cons (ss_ret (se_bl)) (sss_nil)) (sss_nil)) (sss_cons (ss_ret (se_or (se_cmp os_isnot nx_is (se_sub (u1 hr) (se_var 2) (se_int)) (se_non)) (se_one (se_call c__law_same hr (by decide) (sa_cons (se_sub (u1 hr) (se_var 1) (se_int)) (sa_cons (se_sub (u1 hr) (se_var 2) (se_int)) (sa_nil))))))) (sss_nil)))
/-! law -/
abbrev st_law : Stmt := top 38
theorem sc_law : FnScope ["script", "pen", "lap", "names", "right", "wrong", "text", "turn", "word", "value", "odd"] ["script"] (defScope st_law) := ⟨rfl, rfl, rfl, by decide +kernel, rfl, by decide +kernel, by decide +kernel⟩
theorem nd_law : (["script", "pen", "lap", "names", "right", "wrong", "text", "turn", "word", "value", "odd"] : List Str).Nodup := by decide +kernel
theorem s_law {P : Program} {w : World} {K : PySem.W.Frag} {mg : Str → Option Value} {base : Heap} (fr : Fr mg) (fk : FkT K mg) (gw : Gw K mg) {f__law_draw : FW} (c__law_draw : Cal P w K mg base 1 "_law_draw" [] f__law_draw) {f__law_is_name : FW} (c__law_is_name : Cal P w K mg base 2 "_law_is_name" [] f__law_is_name) {f__law_is_told : FW} (c__law_is_told : Cal P w K mg base 42 "_law_is_told" [] f__law_is_told) {f__law_keys : FW} (c__law_keys : Cal P w K mg base 1 "_law_keys" [] f__law_keys) {f__law_names : FW} (c__law_names : Cal P w K mg base 3 "_law_names" [] f__law_names) {f__law_pen : FW} (c__law_pen : Cal P w K mg base 1 "_law_pen" [] f__law_pen) {f__law_pick : FW} (c__law_pick : Cal P w K mg base 2 "_law_pick" [] f__law_pick) {f__law_same : FW} (c__law_same : Cal P w K mg base 41 "_law_same" [] f__law_same) {f_is_name : FW} (c_is_name : Cal P w K mg base 2 "is_name" [] f_is_name) {f_tokens : FW} (c_tokens : Cal P w K mg base 4 "tokens" [] f_tokens) {L__law_why : FLW} (l__law_why : CalL P w K mg base 2 "_law_why" L__law_why) {fa : Addr} {cdv : Value} {A : Around} {outer : List PySem.Env} {s : Shared} {H : Hp} {E : XK} (lm : LamM (cxOf (L2.CX P w) P w K mg base ["script", "pen", "lap", "names", "right", "wrong", "text", "turn", "word", "value", "odd"] "law" (defScope st_law) fa cdv A outer s H E)) (hr : Room 42 (A.deeper (envOfC "law" (defScope st_law) s.heap.objs.size fa cdv))) : SSs (cxOf (L2.CX P w) P w K mg base ["script", "pen", "lap", "names", "right", "wrong", "text", "turn", "word", "value", "odd"] "law" (defScope st_law) fa cdv A outer s H E) none (defBody st_law) (d_law f__law_draw f__law_is_name f__law_is_told f__law_keys f__law_names f__law_pen f__law_pick f__law_same f_is_name f_tokens L__law_why) :=
  sss_cons (ss_set 1 nd_law (by intro z h; cases h) (se_call c__law_pen hr (by decide) (sa_cons (se_var 0) (sa_nil)))) (sss_cons (ss_for (passes_of rfl) rfl (si_rng1 (se_int) (fr.fr_range)) (sg_name 2 nd_law (by intro z h; cases h)) (sss_cons (ss_set 3 nd_law (by intro z h; cases h) (se_call c__law_names hr (by decide) (sa_cons (se_var 1) (sa_cons (se_int) (sa_nil))))) (sss_cons (ss_set 4 nd_law (by intro z h; cases h) (se_op os_add nx_add (se_op os_add nx_add (se_var 3) (se_call0 c__law_keys hr (by decide))) (se_lst (sa_cons (se_str) (sa_cons (se_str) (sa_cons (se_str) (sa_cons (se_str) (sa_cons (se_str) (sa_cons (se_str) (sa_nil)))))))))) (sss_cons (ss_set 5 nd_law (by intro z h; cases h) (se_lst (sa_cons (se_str) (sa_cons (se_str) (sa_cons (se_str) (sa_cons (se_str) (sa_cons (se_str) (sa_cons (se_str) (sa_cons (se_str) (sa_cons (se_str) (sa_cons (se_str) (sa_cons (se_str) (sa_cons (se_str) (sa_cons (se_str) (sa_cons (se_str) (sa_cons (se_str) (sa_nil))))))))))))))))) (sss_cons (ss_set 6 nd_law (by intro z h; cases h) (se_str)) (sss_cons (ss_for (passes_of rfl) rfl (si_rng1 (se_call c__law_draw hr (by decide) (sa_cons (se_var 1) (sa_cons (se_int) (sa_nil)))) (fr.fr_range)) (sg_name 7 nd_law (by intro z h; cases h)) (sss_cons (ss_set 8 nd_law (by intro z h; cases h) (se_ifx (st_cmp os_gt nx_ord (se_call c__law_draw hr (by decide) (sa_cons (se_var 1) (sa_cons (se_int) (sa_nil)))) (se_int)) (se_call c__law_pick hr (by decide) (sa_cons (se_var 1) (sa_cons (se_var 4) (sa_nil)))) (se_call c__law_pick hr (by decide) (sa_cons (se_var 1) (sa_cons (se_var 5) (sa_nil)))))) (sss_cons (ss_set 6 nd_law (by intro z h; cases h) (se_op os_add nx_add (se_op os_add nx_add (se_var 6) (se_var 8)) (se_call c__law_pick hr (by decide) (sa_cons (se_var 1) (sa_cons (se_lst (sa_cons (se_str) (sa_cons (se_str) (sa_cons (se_str) (sa_cons (se_str) (sa_cons (se_str) (sa_cons (se_str) (sa_cons (se_str) (sa_cons (se_str) (sa_nil)))))))))) (sa_nil)))))) (sss_nil)))) (sss_cons (ss_if (SW.st (sw_or (st_not (st_truth (se_call c__law_is_told hr (by decide) (sa_cons (se_var 6) (sa_nil))))) (sw_or1 (st_not (st_truth (se_call c__law_is_told hr (by decide) (sa_cons (se_op os_add nx_add (se_var 6) (se_call c__law_pick hr (by decide) (sa_cons (se_var 1) (sa_cons (se_lst (sa_cons (se_str) (sa_cons (se_str) (sa_cons (se_str) (sa_cons (se_str) (sa_cons (se_str) (sa_cons (se_str) (sa_nil)))))))) (sa_nil))))) (sa_nil)))))))) (sss_cons (ss_ret (se_bl)) (sss_nil)) (sss_nil)) (sss_nil)))))))) (sss_cons (ss_for (passes_of rfl) rfl (si_src (se_lst (sa_cons (se_str) (sa_cons (se_str) (sa_cons (se_str) (sa_cons (se_str) (sa_cons (se_str) (sa_cons (se_str) (sa_cons (se_str) (sa_cons (se_str) (sa_cons (se_str) (sa_cons (se_str) (sa_cons (se_str) (sa_nil)))))))))))))) (sg_name 9 nd_law (by intro z h; cases h)) (sss_cons (ss_if (st_not (st_truth (se_call c__law_is_told hr (by decide) (sa_cons (se_var 9) (sa_nil))))) (sss_cons (ss_ret (se_bl)) (sss_nil)) (sss_nil)) (sss_nil))) (sss_cons (ss_set 10 nd_law (by intro z h; cases h) (se_call c__law_pick hr (by decide) (sa_cons (se_var 1) (sa_cons (se_lst (sa_cons (se_non) (sa_cons (se_int) (sa_cons (se_tup (sa_nil)) (sa_cons (se_lst (sa_cons (se_str) (sa_nil))) (sa_cons (se_bl) (sa_cons (se_dict0) (sa_nil)))))))) (sa_nil))))) (sss_cons (ss_if (st_cmp (os_ne (u64 hr)) nx_eq (se_lam (k := 40) l__law_why lm hr (by decide) (by decide) (show LamX.LamS (defScope st_law) _ from LamX.lamS_by (by decide +kernel)) (fun A outer s H E f c hr => se_call c_tokens hr (by decide) (sa_cons (se_var 10) (sa_nil)))) (se_lst (sa_cons (se_str) (sa_cons (se_int) (sa_cons (se_int) (sa_nil)))))) (sss_cons (ss_ret (se_bl)) (sss_nil)) (sss_nil)) (sss_cons (ss_for (passes_of rfl) rfl (si_src (se_op os_add nx_add (se_op os_add nx_add (se_call c__law_names hr (by decide) (sa_cons (se_var 1) (sa_cons (se_int) (sa_nil)))) (se_call0 c__law_keys hr (by decide))) (se_lst (sa_cons (se_str) (sa_cons (se_op os_mul nx_mul (se_str) (se_int)) (sa_cons (se_op os_mul nx_mul (se_str) (se_int)) (sa_cons (se_str) (sa_cons (se_str) (sa_cons (se_str) (sa_cons (se_str) (sa_cons (se_str) (sa_cons (se_non) (sa_cons (se_int) (sa_cons (se_bl) (sa_cons (se_tup (sa_nil)) (sa_cons (se_lst (sa_cons (se_str) (sa_nil))) (sa_cons (se_str) (sa_cons (se_str) (sa_nil))))))))))))))))))) (sg_name 9 nd_law (by intro z h; cases h)) (sss_cons (ss_if (st_not (st_truth (se_call c__law_same hr (by decide) (sa_cons (se_call c_is_name hr (by decide) (sa_cons (se_var 9) (sa_nil))) (sa_cons (se_call c__law_is_name hr (by decide) (sa_cons (se_var 9) (sa_nil))) (sa_nil)))))) (sss_cons (ss_ret (se_bl)) (sss_nil)) (sss_nil)) (sss_nil))) (sss_cons (ss_ret (se_bl)) (sss_nil)))))))
end K02

set_option maxHeartbeats 4000000
namespace K02
open PySem PySem.Spec PyProof.Rows L2 Dn
abbrev st_BadName : Stmt := inClass (top 5) 0
abbrev st_BadNumber : Stmt := inClass (top 6) 0
abbrev st_BadRow : Stmt := inClass (top 7) 0
abbrev st_BadText : Stmt := inClass (top 2) 0
abbrev st_Misplaced : Stmt := inClass (top 4) 0
abbrev st_Misread : Stmt := inClass (top 3) 0
abbrev st_NotThere : Stmt := inClass (top 10) 0
abbrev st_TakenName : Stmt := inClass (top 8) 0
abbrev st_TooMany : Stmt := inClass (top 11) 0
abbrev st_Unlike : Stmt := inClass (top 9) 0
def fn : List He.DefD := ([
  ⟨("is_run_sign", none), "is_run_sign", "is_run_sign", defArgs st_is_run_sign, defBody st_is_run_sign, defScope st_is_run_sign, [], []⟩, 
  ⟨("kind_of", none), "kind_of", "kind_of", defArgs st_kind_of, defBody st_kind_of, defScope st_kind_of, [], []⟩, 
  ⟨("is_name", none), "is_name", "is_name", defArgs st_is_name, defBody st_is_name, defScope st_is_name, [], []⟩, 
  ⟨("Scanner", some "__init__"), "__init__", "Scanner.__init__", defArgs st_Scanner___init__, defBody st_Scanner___init__, defScope st_Scanner___init__, [], []⟩, 
  ⟨("Scanner", some "is_over"), "is_over", "Scanner.is_over", defArgs st_Scanner_is_over, defBody st_Scanner_is_over, defScope st_Scanner_is_over, [], []⟩, 
  ⟨("Scanner", some "skip"), "skip", "Scanner.skip", defArgs st_Scanner_skip, defBody st_Scanner_skip, defScope st_Scanner_skip, [], []⟩, 
  ⟨("Scanner", some "pass_gap"), "pass_gap", "Scanner.pass_gap", defArgs st_Scanner_pass_gap, defBody st_Scanner_pass_gap, defScope st_Scanner_pass_gap, [], []⟩, 
  ⟨("Scanner", some "token"), "token", "Scanner.token", defArgs st_Scanner_token, defBody st_Scanner_token, defScope st_Scanner_token, [], []⟩, 
  ⟨("tokens", none), "tokens", "tokens", defArgs st_tokens, defBody st_tokens, defScope st_tokens, [], []⟩, 
  ⟨("_law_pen", none), "_law_pen", "_law_pen", defArgs st__law_pen, defBody st__law_pen, defScope st__law_pen, [], []⟩, 
  ⟨("_law_draw", none), "_law_draw", "_law_draw", defArgs st__law_draw, defBody st__law_draw, defScope st__law_draw, [], []⟩, 
  ⟨("_law_pick", none), "_law_pick", "_law_pick", defArgs st__law_pick, defBody st__law_pick, defScope st__law_pick, [], []⟩, 
  ⟨("_law_shuffled", none), "_law_shuffled", "_law_shuffled", defArgs st__law_shuffled, defBody st__law_shuffled, defScope st__law_shuffled, [], []⟩, 
  ⟨("_law_name", none), "_law_name", "_law_name", defArgs st__law_name, defBody st__law_name, defScope st__law_name, [], []⟩, 
  ⟨("_law_names", none), "_law_names", "_law_names", defArgs st__law_names, defBody st__law_names, defScope st__law_names, [], []⟩, 
  ⟨("_law_same", none), "_law_same", "_law_same", defArgs st__law_same, defBody st__law_same, defScope st__law_same, [], []⟩, 
  ⟨("_law_why", none), "_law_why", "_law_why", defArgs st__law_why, defBody st__law_why, defScope st__law_why, [], []⟩, 
  ⟨("_law_keys", none), "_law_keys", "_law_keys", defArgs st__law_keys, defBody st__law_keys, defScope st__law_keys, [], []⟩, 
  ⟨("_law_is_name", none), "_law_is_name", "_law_is_name", defArgs st__law_is_name, defBody st__law_is_name, defScope st__law_is_name, [], []⟩, 
  ⟨("_law_kind_of_word", none), "_law_kind_of_word", "_law_kind_of_word", defArgs st__law_kind_of_word, defBody st__law_kind_of_word, defScope st__law_kind_of_word, [], []⟩, 
  ⟨("_law_due", none), "_law_due", "_law_due", defArgs st__law_due, defBody st__law_due, defScope st__law_due, [], []⟩, 
  ⟨("_law_is_told", none), "_law_is_told", "_law_is_told", defArgs st__law_is_told, defBody st__law_is_told, defScope st__law_is_told, [], []⟩, 
  ⟨("law", none), "law", "law", defArgs st_law, defBody st_law, defScope st_law, [], []⟩, 
  ⟨("BadName", some "__init__"), "__init__", "BadName.__init__", defArgs st_BadName, defBody st_BadName, defScope st_BadName, [], []⟩, 
  ⟨("BadNumber", some "__init__"), "__init__", "BadNumber.__init__", defArgs st_BadNumber, defBody st_BadNumber, defScope st_BadNumber, [], []⟩, 
  ⟨("BadRow", some "__init__"), "__init__", "BadRow.__init__", defArgs st_BadRow, defBody st_BadRow, defScope st_BadRow, [], []⟩, 
  ⟨("BadText", some "__init__"), "__init__", "BadText.__init__", defArgs st_BadText, defBody st_BadText, defScope st_BadText, [], []⟩, 
  ⟨("Misplaced", some "__init__"), "__init__", "Misplaced.__init__", defArgs st_Misplaced, defBody st_Misplaced, defScope st_Misplaced, [], []⟩, 
  ⟨("Misread", some "__init__"), "__init__", "Misread.__init__", defArgs st_Misread, defBody st_Misread, defScope st_Misread, [], []⟩, 
  ⟨("NotThere", some "__init__"), "__init__", "NotThere.__init__", defArgs st_NotThere, defBody st_NotThere, defScope st_NotThere, [], []⟩] : List He.DefD) ++ ([
  ⟨("TakenName", some "__init__"), "__init__", "TakenName.__init__", defArgs st_TakenName, defBody st_TakenName, defScope st_TakenName, [], []⟩, 
  ⟨("TooMany", some "__init__"), "__init__", "TooMany.__init__", defArgs st_TooMany, defBody st_TooMany, defScope st_TooMany, [], []⟩, 
  ⟨("Unlike", some "__init__"), "__init__", "Unlike.__init__", defArgs st_Unlike, defBody st_Unlike, defScope st_Unlike, [], []⟩] : List He.DefD)
def tf : List He.Defn := fn.map (·.at_)
def glos : List Str := ["is_run_sign", "kind_of", "is_name", "tokens", "_law_pen", "_law_draw", "_law_pick", "_law_shuffled", "_law_name", "_law_names", "_law_same", "_law_why", "_law_keys", "_law_is_name", "_law_kind_of_word", "_law_due", "_law_is_told", "law", "YardError", "BadText", "Misread", "Misplaced", "BadName", "BadNumber", "BadRow", "TakenName", "Unlike", "NotThere", "TooMany", "Scanner"]
def frees : List Str := ["all", "bool", "int", "isinstance", "len", "list", "max", "range", "str", "tuple", "zip"]
def gws : List (Str × W) := [("FIGURES", (.str "0123456789")), ("KEYS", (.tup [(.str "yard"), (.str "lock"), (.str "thing"), (.str "routine"), (.str "kind"), (.str "hold"), (.str "shared"), (.str "read"), (.str "write"), (.str "mark"), (.str "call"), (.str "either"), (.str "or"), (.str "loop")])), ("LETTERS", (.str "abcdefghijklmnopqrstuvwxyz")), ("LONGEST", (.int 12)), ("SIGNS", (.tup [(.str "{"), (.str "}"), (.str ";")]))]
def meths : List (Str × Str) := [("Scanner", "is_over"), ("Scanner", "skip"), ("Scanner", "pass_gap"), ("Scanner", "token")]
def mkrs : List Str := ["Scanner"]
def xcls : List (Str × List Str) := [("BadName", ["name"]), ("BadNumber", ["what", "number"]), ("BadRow", ["what", "row"]), ("BadText", ["line", "word"]), ("Misplaced", ["line", "column", "why", "name"]), ("Misread", ["line", "column"]), ("NotThere", ["what"]), ("TakenName", ["name"]), ("TooMany", ["what", "many", "limit"]), ("Unlike", ["what"])]
def tests : List (PySem.W.Frag → Bool) := [gloB glos, freeB frees, fkB fkPairs, gwsB gws, exmAll EXR EXS, fun K => xcls.all fun p => xclB p.1 p.2 K, methB meths, mkrB mkrs, fun K => codesB K tf]
def exT (K : PySem.W.Frag) : Bool := tests.all fun t => t K
theorem joint {P : Program} {w : World} {K : PySem.W.Frag} {mg : Str → Option Value} {h base : Heap} (X : K.In h) (G : h.Ns mainGlobals mg) (c : He.SaysX [] fn [] tf exT w h K) (hB : ∀ p ∈ tf, LamX.TabB base mg (He.cT K p).1 (He.cT K p).2)
    {fd : FuncData} (FL : FunD K "law" "law" (defArgs st_law) (defBody st_law) (defScope st_law) [] [] (He.ga K "law") fd) : FnOk P w K mg base (L2.CX P w) 43 (He.ga K "law") fd ["script"] (SpD ⟨K, mg⟩ 1 f_law) := by
  have ct : ∀ t ∈ tests, t K = true := List.all_eq_true.mp c.more
  have glo : ∀ x ∈ glos, mg x = some (.ref (He.ga K x)) := fun x hx => gloB_ok X G (ct _ (List.mem_of_getElem? (i := 0) rfl)) hx
  have fre : ∀ x ∈ frees, mg x = none := fun x hx => freeB_ok X G (ct _ (List.mem_of_getElem? (i := 1) rfl)) hx
  have fr : Fr mg := ⟨fre _ (List.mem_of_getElem? (i := 0) rfl), fre _ (List.mem_of_getElem? (i := 1) rfl), fre _ (List.mem_of_getElem? (i := 2) rfl), fre _ (List.mem_of_getElem? (i := 3) rfl), fre _ (List.mem_of_getElem? (i := 4) rfl), fre _ (List.mem_of_getElem? (i := 5) rfl), fre _ (List.mem_of_getElem? (i := 6) rfl), fre _ (List.mem_of_getElem? (i := 7) rfl), fre _ (List.mem_of_getElem? (i := 8) rfl), fre _ (List.mem_of_getElem? (i := 9) rfl), fre _ (List.mem_of_getElem? (i := 10) rfl)⟩
  have fk : FkT K mg := fkB_ok X G (ct _ (List.mem_of_getElem? (i := 2) rfl))
  have gw : Gw K mg := ⟨True.intro, gwsB_ok X G (ct _ (List.mem_of_getElem? (i := 3) rfl)) (p := ("FIGURES", (.str "0123456789"))) (List.mem_of_getElem? (i := 0) rfl), gwsB_ok X G (ct _ (List.mem_of_getElem? (i := 3) rfl)) (p := ("KEYS", (.tup [(.str "yard"), (.str "lock"), (.str "thing"), (.str "routine"), (.str "kind"), (.str "hold"), (.str "shared"), (.str "read"), (.str "write"), (.str "mark"), (.str "call"), (.str "either"), (.str "or"), (.str "loop")]))) (List.mem_of_getElem? (i := 1) rfl), gwsB_ok X G (ct _ (List.mem_of_getElem? (i := 3) rfl)) (p := ("LETTERS", (.str "abcdefghijklmnopqrstuvwxyz"))) (List.mem_of_getElem? (i := 2) rfl), gwsB_ok X G (ct _ (List.mem_of_getElem? (i := 3) rfl)) (p := ("LONGEST", (.int 12))) (List.mem_of_getElem? (i := 3) rfl), gwsB_ok X G (ct _ (List.mem_of_getElem? (i := 3) rfl)) (p := ("SIGNS", (.tup [(.str "{"), (.str "}"), (.str ";")]))) (List.mem_of_getElem? (i := 4) rfl)⟩
  have exg : ∀ x ∈ EXS, mg x = some (.ref (He.ga K x)) := fun x hx => glo x ((by decide +kernel : ∀ x ∈ EXS, x ∈ glos) x hx)
  have ex : Ex K mg (fun x => .ref (He.ga K x)) := ⟨isx_of exg (by decide +kernel) (ct _ (List.mem_of_getElem? (i := 4) rfl)), exg _ (List.mem_of_getElem? (i := 0) rfl), exg _ (List.mem_of_getElem? (i := 1) rfl), exg _ (List.mem_of_getElem? (i := 2) rfl), exg _ (List.mem_of_getElem? (i := 3) rfl), exg _ (List.mem_of_getElem? (i := 4) rfl), exg _ (List.mem_of_getElem? (i := 5) rfl), exg _ (List.mem_of_getElem? (i := 6) rfl), exg _ (List.mem_of_getElem? (i := 7) rfl), exg _ (List.mem_of_getElem? (i := 8) rfl), exg _ (List.mem_of_getElem? (i := 9) rfl), exg _ (List.mem_of_getElem? (i := 10) rfl)⟩
  have uq := (codesB_ok (ct (fun K => codesB K tf) (List.mem_of_getElem? (i := 8) rfl))).2
  obtain ⟨fx_BadName, X_BadName⟩ := c.t.d.def_ 23 rfl
  have x_BadName : Xcl P w K mg base 1 "BadName" ["name"] := xclB_ok (glo _ (List.mem_of_getElem? (i := 22) rfl)) (List.all_eq_true.mp (ct (fun K => xcls.all fun p => xclB p.1 p.2 K) (List.mem_of_getElem? (i := 5) rfl)) ("BadName", ["name"]) (List.mem_of_getElem? (i := 0) rfl)) (fnX (self := "self") X_BadName ⟨rfl, rfl, rfl, by decide +kernel, rfl, by decide +kernel, by decide +kernel⟩ (by decide) (by decide) fun cdv A outer s H E => pss_cons (ps_ost (pv 0) (pv 1)) (pss_nil)) (X_BadName.bindsN fun _ _ _ _ _ _ us hl => match us, hl with | [_, _], _ => rfl)
  obtain ⟨fx_BadNumber, X_BadNumber⟩ := c.t.d.def_ 24 rfl
  have x_BadNumber : Xcl P w K mg base 1 "BadNumber" ["what", "number"] := xclB_ok (glo _ (List.mem_of_getElem? (i := 23) rfl)) (List.all_eq_true.mp (ct (fun K => xcls.all fun p => xclB p.1 p.2 K) (List.mem_of_getElem? (i := 5) rfl)) ("BadNumber", ["what", "number"]) (List.mem_of_getElem? (i := 1) rfl)) (fnX (self := "self") X_BadNumber ⟨rfl, rfl, rfl, by decide +kernel, rfl, by decide +kernel, by decide +kernel⟩ (by decide) (by decide) fun cdv A outer s H E => pss_cons (ps_ost (pv 0) (pv 1)) (pss_cons (ps_ost (pv 0) (pv 2)) (pss_nil))) (X_BadNumber.bindsN fun _ _ _ _ _ _ us hl => match us, hl with | [_, _, _], _ => rfl)
  obtain ⟨fx_BadRow, X_BadRow⟩ := c.t.d.def_ 25 rfl
  have x_BadRow : Xcl P w K mg base 1 "BadRow" ["what", "row"] := xclB_ok (glo _ (List.mem_of_getElem? (i := 24) rfl)) (List.all_eq_true.mp (ct (fun K => xcls.all fun p => xclB p.1 p.2 K) (List.mem_of_getElem? (i := 5) rfl)) ("BadRow", ["what", "row"]) (List.mem_of_getElem? (i := 2) rfl)) (fnX (self := "self") X_BadRow ⟨rfl, rfl, rfl, by decide +kernel, rfl, by decide +kernel, by decide +kernel⟩ (by decide) (by decide) fun cdv A outer s H E => pss_cons (ps_ost (pv 0) (pv 1)) (pss_cons (ps_ost (pv 0) (pv 2)) (pss_nil))) (X_BadRow.bindsN fun _ _ _ _ _ _ us hl => match us, hl with | [_, _, _], _ => rfl)
  obtain ⟨fx_BadText, X_BadText⟩ := c.t.d.def_ 26 rfl
  have x_BadText : Xcl P w K mg base 1 "BadText" ["line", "word"] := xclB_ok (glo _ (List.mem_of_getElem? (i := 19) rfl)) (List.all_eq_true.mp (ct (fun K => xcls.all fun p => xclB p.1 p.2 K) (List.mem_of_getElem? (i := 5) rfl)) ("BadText", ["line", "word"]) (List.mem_of_getElem? (i := 3) rfl)) (fnX (self := "self") X_BadText ⟨rfl, rfl, rfl, by decide +kernel, rfl, by decide +kernel, by decide +kernel⟩ (by decide) (by decide) fun cdv A outer s H E => pss_cons (ps_ost (pv 0) (pv 1)) (pss_cons (ps_ost (pv 0) (pv 2)) (pss_nil))) (X_BadText.bindsN fun _ _ _ _ _ _ us hl => match us, hl with | [_, _, _], _ => rfl)
  obtain ⟨fx_Misplaced, X_Misplaced⟩ := c.t.d.def_ 27 rfl
  have x_Misplaced : Xcl P w K mg base 1 "Misplaced" ["line", "column", "why", "name"] := xclB_ok (glo _ (List.mem_of_getElem? (i := 21) rfl)) (List.all_eq_true.mp (ct (fun K => xcls.all fun p => xclB p.1 p.2 K) (List.mem_of_getElem? (i := 5) rfl)) ("Misplaced", ["line", "column", "why", "name"]) (List.mem_of_getElem? (i := 4) rfl)) (fnX (self := "self") X_Misplaced ⟨rfl, rfl, rfl, by decide +kernel, rfl, by decide +kernel, by decide +kernel⟩ (by decide) (by decide) fun cdv A outer s H E => pss_cons (ps_ost (pv 0) (pv 1)) (pss_cons (ps_ost (pv 0) (pv 2)) (pss_cons (ps_ost (pv 0) (pv 3)) (pss_cons (ps_ost (pv 0) (pv 4)) (pss_nil))))) (X_Misplaced.bindsN fun _ _ _ _ _ _ us hl => match us, hl with | [_, _, _, _, _], _ => rfl)
  obtain ⟨fx_Misread, X_Misread⟩ := c.t.d.def_ 28 rfl
  have x_Misread : Xcl P w K mg base 1 "Misread" ["line", "column"] := xclB_ok (glo _ (List.mem_of_getElem? (i := 20) rfl)) (List.all_eq_true.mp (ct (fun K => xcls.all fun p => xclB p.1 p.2 K) (List.mem_of_getElem? (i := 5) rfl)) ("Misread", ["line", "column"]) (List.mem_of_getElem? (i := 5) rfl)) (fnX (self := "self") X_Misread ⟨rfl, rfl, rfl, by decide +kernel, rfl, by decide +kernel, by decide +kernel⟩ (by decide) (by decide) fun cdv A outer s H E => pss_cons (ps_ost (pv 0) (pv 1)) (pss_cons (ps_ost (pv 0) (pv 2)) (pss_nil))) (X_Misread.bindsN fun _ _ _ _ _ _ us hl => match us, hl with | [_, _, _], _ => rfl)
  obtain ⟨fx_NotThere, X_NotThere⟩ := c.t.d.def_ 29 rfl
  have x_NotThere : Xcl P w K mg base 1 "NotThere" ["what"] := xclB_ok (glo _ (List.mem_of_getElem? (i := 27) rfl)) (List.all_eq_true.mp (ct (fun K => xcls.all fun p => xclB p.1 p.2 K) (List.mem_of_getElem? (i := 5) rfl)) ("NotThere", ["what"]) (List.mem_of_getElem? (i := 6) rfl)) (fnX (self := "self") X_NotThere ⟨rfl, rfl, rfl, by decide +kernel, rfl, by decide +kernel, by decide +kernel⟩ (by decide) (by decide) fun cdv A outer s H E => pss_cons (ps_ost (pv 0) (pv 1)) (pss_nil)) (X_NotThere.bindsN fun _ _ _ _ _ _ us hl => match us, hl with | [_, _], _ => rfl)
  obtain ⟨fx_TakenName, X_TakenName⟩ := c.t.d.def_ 30 rfl
  have x_TakenName : Xcl P w K mg base 1 "TakenName" ["name"] := xclB_ok (glo _ (List.mem_of_getElem? (i := 25) rfl)) (List.all_eq_true.mp (ct (fun K => xcls.all fun p => xclB p.1 p.2 K) (List.mem_of_getElem? (i := 5) rfl)) ("TakenName", ["name"]) (List.mem_of_getElem? (i := 7) rfl)) (fnX (self := "self") X_TakenName ⟨rfl, rfl, rfl, by decide +kernel, rfl, by decide +kernel, by decide +kernel⟩ (by decide) (by decide) fun cdv A outer s H E => pss_cons (ps_ost (pv 0) (pv 1)) (pss_nil)) (X_TakenName.bindsN fun _ _ _ _ _ _ us hl => match us, hl with | [_, _], _ => rfl)
  obtain ⟨fx_TooMany, X_TooMany⟩ := c.t.d.def_ 31 rfl
  have x_TooMany : Xcl P w K mg base 1 "TooMany" ["what", "many", "limit"] := xclB_ok (glo _ (List.mem_of_getElem? (i := 28) rfl)) (List.all_eq_true.mp (ct (fun K => xcls.all fun p => xclB p.1 p.2 K) (List.mem_of_getElem? (i := 5) rfl)) ("TooMany", ["what", "many", "limit"]) (List.mem_of_getElem? (i := 8) rfl)) (fnX (self := "self") X_TooMany ⟨rfl, rfl, rfl, by decide +kernel, rfl, by decide +kernel, by decide +kernel⟩ (by decide) (by decide) fun cdv A outer s H E => pss_cons (ps_ost (pv 0) (pv 1)) (pss_cons (ps_ost (pv 0) (pv 2)) (pss_cons (ps_ost (pv 0) (pv 3)) (pss_nil)))) (X_TooMany.bindsN fun _ _ _ _ _ _ us hl => match us, hl with | [_, _, _, _], _ => rfl)
  obtain ⟨fx_Unlike, X_Unlike⟩ := c.t.d.def_ 32 rfl
  have x_Unlike : Xcl P w K mg base 1 "Unlike" ["what"] := xclB_ok (glo _ (List.mem_of_getElem? (i := 26) rfl)) (List.all_eq_true.mp (ct (fun K => xcls.all fun p => xclB p.1 p.2 K) (List.mem_of_getElem? (i := 5) rfl)) ("Unlike", ["what"]) (List.mem_of_getElem? (i := 9) rfl)) (fnX (self := "self") X_Unlike ⟨rfl, rfl, rfl, by decide +kernel, rfl, by decide +kernel, by decide +kernel⟩ (by decide) (by decide) fun cdv A outer s H E => pss_cons (ps_ost (pv 0) (pv 1)) (pss_nil)) (X_Unlike.bindsN fun _ _ _ _ _ _ us hl => match us, hl with | [_, _], _ => rfl)
  obtain ⟨fd_is_run_sign, F_is_run_sign⟩ := c.t.d.def_ 0 rfl
  have c_is_run_sign : Cal P w K mg base 1 "is_run_sign" [] f_is_run_sign := calM F_is_run_sign (glo _ (List.mem_of_getElem? (i := 0) rfl)) sc_is_run_sign rfl (F_is_run_sign.bindsN fun _ _ _ _ _ _ us hl => match us, hl with | [_], _ => rfl) (fun cdv A outer s H E hcd hr => s_is_run_sign fr fk gw hr) mn_is_run_sign
  obtain ⟨fd_kind_of, F_kind_of⟩ := c.t.d.def_ 1 rfl
  have c_kind_of : Cal P w K mg base 1 "kind_of" [] f_kind_of := calM F_kind_of (glo _ (List.mem_of_getElem? (i := 1) rfl)) sc_kind_of rfl (F_kind_of.bindsN fun _ _ _ _ _ _ us hl => match us, hl with | [_], _ => rfl) (fun cdv A outer s H E hcd hr => s_kind_of fr fk gw hr) mn_kind_of
  obtain ⟨fd_is_name, F_is_name⟩ := c.t.d.def_ 2 rfl
  have c_is_name : Cal P w K mg base 2 "is_name" [] f_is_name := calM F_is_name (glo _ (List.mem_of_getElem? (i := 2) rfl)) sc_is_name rfl (F_is_name.bindsN fun _ _ _ _ _ _ us hl => match us, hl with | [_], _ => rfl) (fun cdv A outer s H E hcd hr => s_is_name fr fk gw c_is_run_sign c_kind_of hr) mn_is_name
  obtain ⟨fd_Scanner___init__, F_Scanner___init__⟩ := c.t.d.def_ 3 rfl
  have n_Scanner : Mak P w K mg base 1 "Scanner" i_Scanner := makM F_Scanner___init__ (glo _ (List.mem_of_getElem? (i := 29) rfl)) (mkrB_ok (ct _ (List.mem_of_getElem? (i := 7) rfl)) (List.mem_of_getElem? (i := 0) rfl)) sc_Scanner___init__ rfl (F_Scanner___init__.bindsN fun _ _ _ _ _ _ us hl => match us, hl with | [_, _], _ => rfl) (fun cdv A outer s H E hcd hr => s_Scanner___init__ fr fk gw hr) mn_Scanner___init__
  obtain ⟨fd_Scanner_is_over, F_Scanner_is_over⟩ := c.t.d.def_ 4 rfl
  have h_Scanner_is_over : Met P w K mg base 1 "Scanner" "is_over" m_Scanner_is_over := metM F_Scanner_is_over (glo _ (List.mem_of_getElem? (i := 29) rfl)) (methB_ok (ct _ (List.mem_of_getElem? (i := 6) rfl)) (p := ("Scanner", "is_over")) (List.mem_of_getElem? (i := 0) rfl)).1 (methB_ok (ct _ (List.mem_of_getElem? (i := 6) rfl)) (p := ("Scanner", "is_over")) (List.mem_of_getElem? (i := 0) rfl)).2 sc_Scanner_is_over rfl (F_Scanner_is_over.bindsN fun _ _ _ _ _ _ us hl => match us, hl with | [_], _ => rfl) (fun cdv A outer s H E hcd hr => s_Scanner_is_over fr fk gw hr) mn_Scanner_is_over
  obtain ⟨fd_Scanner_skip, F_Scanner_skip⟩ := c.t.d.def_ 5 rfl
  have h_Scanner_skip : Met P w K mg base 1 "Scanner" "skip" m_Scanner_skip := metM F_Scanner_skip (glo _ (List.mem_of_getElem? (i := 29) rfl)) (methB_ok (ct _ (List.mem_of_getElem? (i := 6) rfl)) (p := ("Scanner", "skip")) (List.mem_of_getElem? (i := 1) rfl)).1 (methB_ok (ct _ (List.mem_of_getElem? (i := 6) rfl)) (p := ("Scanner", "skip")) (List.mem_of_getElem? (i := 1) rfl)).2 sc_Scanner_skip rfl (F_Scanner_skip.bindsN fun _ _ _ _ _ _ us hl => match us, hl with | [_, _], _ => rfl) (fun cdv A outer s H E hcd hr => s_Scanner_skip fr fk gw hr) mn_Scanner_skip
  obtain ⟨fd_Scanner_pass_gap, F_Scanner_pass_gap⟩ := c.t.d.def_ 6 rfl
  have h_Scanner_pass_gap : Met P w K mg base 2 "Scanner" "pass_gap" m_Scanner_pass_gap := metM F_Scanner_pass_gap (glo _ (List.mem_of_getElem? (i := 29) rfl)) (methB_ok (ct _ (List.mem_of_getElem? (i := 6) rfl)) (p := ("Scanner", "pass_gap")) (List.mem_of_getElem? (i := 2) rfl)).1 (methB_ok (ct _ (List.mem_of_getElem? (i := 6) rfl)) (p := ("Scanner", "pass_gap")) (List.mem_of_getElem? (i := 2) rfl)).2 sc_Scanner_pass_gap rfl (F_Scanner_pass_gap.bindsN fun _ _ _ _ _ _ us hl => match us, hl with | [_], _ => rfl) (fun cdv A outer s H E hcd hr => s_Scanner_pass_gap fr fk gw h_Scanner_skip hr) mn_Scanner_pass_gap
  obtain ⟨fd_Scanner_token, F_Scanner_token⟩ := c.t.d.def_ 7 rfl
  have h_Scanner_token : Met P w K mg base 3 "Scanner" "token" m_Scanner_token := metM F_Scanner_token (glo _ (List.mem_of_getElem? (i := 29) rfl)) (methB_ok (ct _ (List.mem_of_getElem? (i := 6) rfl)) (p := ("Scanner", "token")) (List.mem_of_getElem? (i := 3) rfl)).1 (methB_ok (ct _ (List.mem_of_getElem? (i := 6) rfl)) (p := ("Scanner", "token")) (List.mem_of_getElem? (i := 3) rfl)).2 sc_Scanner_token rfl (F_Scanner_token.bindsN fun _ _ _ _ _ _ us hl => match us, hl with | [_], _ => rfl) (fun cdv A outer s H E hcd hr => s_Scanner_token fr fk gw c_is_run_sign c_kind_of h_Scanner_skip x_Misread hr) mn_Scanner_token
  obtain ⟨fd_tokens, F_tokens⟩ := c.t.d.def_ 8 rfl
  have c_tokens : Cal P w K mg base 4 "tokens" [] f_tokens := calM F_tokens (glo _ (List.mem_of_getElem? (i := 3) rfl)) sc_tokens rfl (F_tokens.bindsN fun _ _ _ _ _ _ us hl => match us, hl with | [_], _ => rfl) (fun cdv A outer s H E hcd hr => s_tokens fr fk gw n_Scanner h_Scanner_is_over h_Scanner_pass_gap h_Scanner_token x_Misread hr) mn_tokens
  obtain ⟨fd__law_pen, F__law_pen⟩ := c.t.d.def_ 9 rfl
  have c__law_pen : Cal P w K mg base 1 "_law_pen" [] f__law_pen := calM F__law_pen (glo _ (List.mem_of_getElem? (i := 4) rfl)) sc__law_pen rfl (F__law_pen.bindsN fun _ _ _ _ _ _ us hl => match us, hl with | [_], _ => rfl) (fun cdv A outer s H E hcd hr => s__law_pen fr fk gw hr) mn__law_pen
  obtain ⟨fd__law_draw, F__law_draw⟩ := c.t.d.def_ 10 rfl
  have c__law_draw : Cal P w K mg base 1 "_law_draw" [] f__law_draw := calM F__law_draw (glo _ (List.mem_of_getElem? (i := 5) rfl)) sc__law_draw rfl (F__law_draw.bindsN fun _ _ _ _ _ _ us hl => match us, hl with | [_, _], _ => rfl) (fun cdv A outer s H E hcd hr => s__law_draw fr fk gw hr) mn__law_draw
  obtain ⟨fd__law_pick, F__law_pick⟩ := c.t.d.def_ 11 rfl
  have c__law_pick : Cal P w K mg base 2 "_law_pick" [] f__law_pick := calM F__law_pick (glo _ (List.mem_of_getElem? (i := 6) rfl)) sc__law_pick rfl (F__law_pick.bindsN fun _ _ _ _ _ _ us hl => match us, hl with | [_, _], _ => rfl) (fun cdv A outer s H E hcd hr => s__law_pick fr fk gw c__law_draw hr) mn__law_pick
  obtain ⟨fd__law_shuffled, F__law_shuffled⟩ := c.t.d.def_ 12 rfl
  have c__law_shuffled : Cal P w K mg base 2 "_law_shuffled" [] f__law_shuffled := calM F__law_shuffled (glo _ (List.mem_of_getElem? (i := 7) rfl)) sc__law_shuffled rfl (F__law_shuffled.bindsN fun _ _ _ _ _ _ us hl => match us, hl with | [_, _], _ => rfl) (fun cdv A outer s H E hcd hr => s__law_shuffled fr fk gw c__law_draw hr) mn__law_shuffled
  obtain ⟨fd__law_name, F__law_name⟩ := c.t.d.def_ 13 rfl
  have c__law_name : Cal P w K mg base 2 "_law_name" [] f__law_name := calM F__law_name (glo _ (List.mem_of_getElem? (i := 8) rfl)) sc__law_name rfl (F__law_name.bindsN fun _ _ _ _ _ _ us hl => match us, hl with | [_, _], _ => rfl) (fun cdv A outer s H E hcd hr => s__law_name fr fk gw c__law_draw hr) mn__law_name
  obtain ⟨fd__law_names, F__law_names⟩ := c.t.d.def_ 14 rfl
  have c__law_names : Cal P w K mg base 3 "_law_names" [] f__law_names := calM F__law_names (glo _ (List.mem_of_getElem? (i := 9) rfl)) sc__law_names rfl (F__law_names.bindsN fun _ _ _ _ _ _ us hl => match us, hl with | [_, _], _ => rfl) (fun cdv A outer s H E hcd hr => s__law_names fr fk gw c__law_name c__law_shuffled hr) mn__law_names
  obtain ⟨fd__law_same, F__law_same⟩ := c.t.d.def_ 15 rfl
  have q__law_same : ∀ n, Cal P w K mg base (0 + 1 + n) "_law_same" [] (r__law_same n) := fun n => by
    induction n with
    | zero => exact Cal.bot (n := 2) (ps := ["told", "due"]) rfl (glo _ (List.mem_of_getElem? (i := 10) rfl)) F__law_same.kp (F__law_same.bindsN fun _ _ _ _ _ _ us hl => match us, hl with | [_, _], _ => rfl) .nil fun _ _ _ => .nil
    | succ n ih => exact calM F__law_same (glo _ (List.mem_of_getElem? (i := 10) rfl)) sc__law_same rfl (F__law_same.bindsN fun _ _ _ _ _ _ us hl => match us, hl with | [_, _], _ => rfl) (fun cdv A outer s H E hcd hr => s__law_same fr fk gw ih (by omega) hr) Mn.self
  have c__law_same : Cal P w K mg base 41 "_law_same" [] f__law_same := q__law_same 40
  obtain ⟨fd__law_why, F__law_why⟩ := c.t.d.def_ 16 rfl
  have l__law_why : CalL P w K mg base 2 "_law_why" L__law_why := calL_of F__law_why (glo _ (List.mem_of_getElem? (i := 11) rfl)) sc__law_why rfl (Or.inl rfl) (F__law_why.bindsN fun _ _ _ _ _ _ us hl => match us, hl with | [_], _ => rfl) (fun cdv A outer s H l cb hr hcb => s__law_why (E := fun _ _ _ => False) fr fk gw ex x_BadName x_BadNumber x_BadRow x_BadText x_Misplaced x_Misread x_NotThere x_TakenName x_TooMany x_Unlike hcb hr) tr__law_why
  obtain ⟨fd__law_keys, F__law_keys⟩ := c.t.d.def_ 17 rfl
  have c__law_keys : Cal P w K mg base 1 "_law_keys" [] f__law_keys := calM F__law_keys (glo _ (List.mem_of_getElem? (i := 12) rfl)) sc__law_keys rfl (F__law_keys.bindsN fun _ _ _ _ _ _ us hl => match us, hl with | [], _ => rfl) (fun cdv A outer s H E hcd hr => s__law_keys fr fk gw hr) mn__law_keys
  obtain ⟨fd__law_is_name, F__law_is_name⟩ := c.t.d.def_ 18 rfl
  have c__law_is_name : Cal P w K mg base 2 "_law_is_name" [] f__law_is_name := calM F__law_is_name (glo _ (List.mem_of_getElem? (i := 13) rfl)) sc__law_is_name rfl (F__law_is_name.bindsN fun _ _ _ _ _ _ us hl => match us, hl with | [_], _ => rfl) (fun cdv A outer s H E hcd hr => s__law_is_name fr fk gw c__law_keys hr) mn__law_is_name
  obtain ⟨fd__law_kind_of_word, F__law_kind_of_word⟩ := c.t.d.def_ 19 rfl
  have c__law_kind_of_word : Cal P w K mg base 3 "_law_kind_of_word" [] f__law_kind_of_word := calM F__law_kind_of_word (glo _ (List.mem_of_getElem? (i := 14) rfl)) sc__law_kind_of_word rfl (F__law_kind_of_word.bindsN fun _ _ _ _ _ _ us hl => match us, hl with | [_], _ => rfl) (fun cdv A outer s H E hcd hr => s__law_kind_of_word fr fk gw c__law_is_name c__law_keys hr) mn__law_kind_of_word
  obtain ⟨fd__law_due, F__law_due⟩ := c.t.d.def_ 20 rfl
  have c__law_due : Cal P w K mg base 4 "_law_due" [] f__law_due := calM F__law_due (glo _ (List.mem_of_getElem? (i := 15) rfl)) sc__law_due rfl (F__law_due.bindsN fun _ _ _ _ _ _ us hl => match us, hl with | [_], _ => rfl) (fun cdv A outer s H E hcd hr => s__law_due fr fk gw c__law_kind_of_word hr) mn__law_due
  obtain ⟨fd__law_is_told, F__law_is_told⟩ := c.t.d.def_ 21 rfl
  have c__law_is_told : Cal P w K mg base 42 "_law_is_told" [] f__law_is_told := calM F__law_is_told (glo _ (List.mem_of_getElem? (i := 16) rfl)) sc__law_is_told rfl (F__law_is_told.bindsN fun _ _ _ _ _ _ us hl => match us, hl with | [_], _ => rfl) (fun cdv A outer s H E hcd hr => s__law_is_told fr fk gw c__law_due c__law_same c_tokens l__law_why (lamM_at (p := ("_law_is_told", none)) rfl rfl hcd rfl (c.hd _ (List.mem_of_getElem? (i := 21) rfl)) (hB _ (List.mem_of_getElem? (i := 21) rfl)) uq) hr) mn__law_is_told
  exact fnM FL sc_law rfl (fun cdv A outer s H E hcd hr => s_law fr fk gw c__law_draw c__law_is_name c__law_is_told c__law_keys c__law_names c__law_pen c__law_pick c__law_same c_is_name c_tokens l__law_why (lamM_at (p := ("law", none)) rfl rfl hcd rfl (c.hd _ (List.mem_of_getElem? (i := 22) rfl)) (hB _ (List.mem_of_getElem? (i := 22) rfl)) uq) hr) mn_law
abbrev R : PySem.W.OpenRow := PySem.W.OpenLaw.row PySem.Challenge.rw_nobodystuck_k02_whole_tokens
abbrev hk : PySem.W.Hook := He.hookX 5 [] fn [] tf exT
def ob (s : PySem.W.SharedT) : He.AlX := He.obsX 5 [] fn [] tf exT (HandSHeadRun.getT s)
theorem ob_eq (s : PySem.W.SharedT) : ob s = hk.obs s.abs := He.obsX_eq (HandSHeadRun.getT_eq s)
def loose : List Str := (["is_run_sign", "kind_of", "is_name", "tokens", "_law_pen", "_law_draw", "_law_pick", "_law_shuffled", "_law_name", "_law_names", "_law_same", "_law_why", "_law_keys", "_law_is_name", "_law_kind_of_word", "_law_due", "_law_is_told", "YardError", "BadText", "Misread", "Misplaced", "BadName", "BadNumber", "BadRow", "TakenName", "Unlike", "NotThere", "TooMany", "Scanner", "YARD_KEYS"] : List Str) ++ (["KEYS", "SIGNS", "LETTERS", "FIGURES", "LONGEST"] : List Str)
end K02

set_option maxHeartbeats 4000000
set_option maxHeartbeats 0
namespace K02
open PySem PySem.Spec PyProof.Rows L2 Dn
theorem run (w : World) : HandSHeadRun.RunEq R (PySem.W.view R.prog [38]) hk ob 4000 loose w := by
  intro os
  kernel_rfl
theorem at_law {w : World} {mg : Str → Option Value} {fa : Addr} {h : Heap} (Y : hk.says w h) (G : h.Ns mainGlobals mg) (hmg : mg ("law" : Str) = some (.ref fa)) : ∃ K : PySem.W.Frag, K.In h ∧ LamX.LawAtS PySem.Challenge.rw_nobodystuck_k02_whole_tokens w K (L2.CX (PySem.Challenge.rw_nobodystuck_k02_whole_tokens).prog w) 43 63 "script" mg fa h := by
  obtain ⟨K, X, c⟩ := Y
  have ct : ∀ t ∈ tests, t K = true := List.all_eq_true.mp c.more
  obtain ⟨fd, F⟩ := c.t.d.def_ 22 rfl
  have e := hmg.symm.trans (gloB_ok X G (ct _ (List.mem_of_getElem? (i := 0) rfl)) (x := "law") (List.mem_of_getElem? (i := 17) rfl))
  cases e
  have b := F.bindsA (ps := ["script"]) fun _ _ _ _ _ _ us hl => match us, hl with | [_], _ => rfl
  exact ⟨K, X, lawAt X c.hd c.out c.empty (ct (fun K => codesB K tf) (List.mem_of_getElem? (i := 8) rfl)) (fun s u => b s [u] rfl) (fun base _ _ hB => joint X G c hB F) law_ok⟩
end K02
open PySem PySem.W PySem.Calls PyProof.Rows
theorem PySem.Challenge.cw_nobodystuck_k02_whole_tokens_holds : PySem.Challenge.rw_nobodystuck_k02_whole_tokens.Holds := by
  w_on; o_law
  refine HandSHeadRun.head_any (r := OpenLaw.row PySem.Challenge.rw_nobodystuck_k02_whole_tokens) (q := view (OpenLaw.row PySem.Challenge.rw_nobodystuck_k02_whole_tokens).prog [38]) (H := K02.hk) (ob := K02.ob) (M := 4000) (loose := K02.loose) (d := HandSHeadRun.topDef (OpenLaw.row PySem.Challenge.rw_nobodystuck_k02_whole_tokens).prog 38) (kwd := []) K02.ob_eq
    (by kernel_rfl) (fun s => by kernel_rfl) K02.run (by kernel_rfl) (by kernel_rfl) (by kernel_rfl) (by rfl) (by first | assumption | decide +kernel) (by decide +kernel) ⟨rfl, rfl, rfl, rfl, rfl, by decide +kernel⟩ ?hw ?hc
  case hw => w_witness2
  case hc =>
    refine LamX.walk_ofTsE (l := PySem.Challenge.rw_nobodystuck_k02_whole_tokens) (n := 63) (k := 43) (x := "script") (CX := fun w => L2.CX (PySem.Challenge.rw_nobodystuck_k02_whole_tokens).prog w) rfl (by decide) (by kernel_rfl) ⟨rfl, by decide, by decide⟩ ?F (fun w => Dn.cx_end)
    intro w mg fa h Y G hmg0
    have hmg : mg ("law" : PySem.Str) = some (.ref fa) := by
      have e : (HandSHeadRun.topDef (OpenLaw.row PySem.Challenge.rw_nobodystuck_k02_whole_tokens).prog 38).name = ("law" : PySem.Str) := by kernel_rfl
      rw [← e]
      exact hmg0
    exact K02.at_law Y G hmg

