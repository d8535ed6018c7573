import PyProof.Rows.All
import Wide.All
import OpenK.AllK
import Wide.FinOn
import KE.KStateDown
import HandS.ForMost
import HandS.ForExc
import HandS.IsInst
import HandS.Wide
import HandS.StrMore
import HandS.Codes
import HandS.TupLe
import HandS.TryOnly
import HandS.TryMany
import HandS.ExcIs
import HandS.ExcInit
import HandS.Defaults
import HandS.WordsExc
import HandS.Head0
import HandS.Head1
import HandS.Head2
import HandS.HeadEnd
import HandS.HeadHook1
import HandS.HeadHook2
import PyProof.StrOps2
import HandS.TupAny
import HandS.DictComp
import HandS.SuiteRaise
import HandS.Zip
import HandS.Rev
import HandS.Conv
import HandS.Walk
import KE.SortData
import HandS.EndBits
import KE.DataCmp
import HandS.Comp
import HandS.Exc
import HandS.ExcOwn
import HandS.TupLen
import HandS.Dict
import HandS.DictTup
import KE.KItemsList
import HandS.Deep
import HandS.Style
import HandS.DictEq
import KE.KRevSl
import KE.KDictWalk
import HandS.SetKeys
import HandS.CallSlots
import HandS.SortKw
import HandS.ExcField
import PyProof.NeKinds
import HandS.SetFor
import PySem.Challenge.RW_forerun_k12_shown_and_read_again
set_option Elab.async false
set_option linter.all false
set_option maxRecDepth 100000
set_option maxHeartbeats 4000000
namespace Sm
open PySem L2
inductive Exn where
  | noNumber | noTerm | noDealing (row : Int) | nought | great | folded | noHand | noOrder | noLine | noLog
inductive R (α : Type) where
  | ok (a : α) | err (e : Exn) | bad
def R.bind {α β : Type} : R α → (α → R β) → R β
  | .ok a, f => f a
  | .err e, _ => .err e
  | .bad, _ => .bad
def emp : Hp := fun _ => none
def jn (A B : Hp) : Hp := fun a => match A a with
  | some o => some o
  | none => B a
def Dj (A B : Hp) : Prop := ∀ a, A a = none ∨ B a = none
section
variable {A B C : Hp} {a : Addr} {o : HO}
theorem jn_some (h : A a = some o) : jn A B a = some o := by unfold jn; rw [h]
theorem jn_none (h : A a = none) : jn A B a = B a := by unfold jn; rw [h]
theorem jn_none_iff : jn A B a = none ↔ A a = none ∧ B a = none := by
  unfold jn
  cases e : A a with
  | some x => simp
  | none => simp
theorem jn_emp : jn A emp = A := by
  funext a
  unfold jn
  cases e : A a <;> rfl
theorem emp_jn : jn emp A = A := by funext a; rfl
theorem Dj.symm (h : Dj A B) : Dj B A := fun a => (h a).symm
theorem dj_emp : Dj A emp := fun _ => .inr rfl
theorem emp_dj : Dj emp A := fun _ => .inl rfl
theorem jn_comm (d : Dj A B) : jn A B = jn B A := by
  funext a
  cases e : A a with
  | some x =>
    have hb : B a = none := by
      rcases d a with h | h
      · rw [h] at e; cases e
      · exact h
    rw [jn_some e, jn_none hb, e]
  | none =>
    rw [jn_none e]
    cases f : B a with
    | some y => rw [jn_some f]
    | none => rw [jn_none f, e]
theorem jn_assoc : jn (jn A B) C = jn A (jn B C) := by
  funext a
  cases e : A a with
  | some x => rw [jn_some e, jn_some (jn_some e)]
  | none =>
    rw [jn_none e]
    cases f : B a with
    | some y => rw [jn_some f, jn_some ((jn_none e).trans f)]
    | none => rw [jn_none f, jn_none ((jn_none e).trans f)]
theorem Dj.jnl (h1 : Dj A C) (h2 : Dj B C) : Dj (jn A B) C := fun a => by
  rcases h1 a with x | x
  · rcases h2 a with y | y
    · exact .inl (jn_none_iff.mpr ⟨x, y⟩)
    · exact .inr y
  · exact .inr x
theorem Dj.jnr (h1 : Dj A B) (h2 : Dj A C) : Dj A (jn B C) := (Dj.jnl h1.symm h2.symm).symm
theorem Dj.l (h : Dj (jn A B) C) : Dj A C := fun a => (h a).imp_left fun x => (jn_none_iff.mp x).1
theorem Dj.r (h : Dj (jn A B) C) : Dj B C := fun a => (h a).imp_left fun x => (jn_none_iff.mp x).2
theorem Dj.rl (h : Dj A (jn B C)) : Dj A B := (Dj.l h.symm).symm
theorem Dj.rr (h : Dj A (jn B C)) : Dj A C := (Dj.r h.symm).symm
theorem same_jnl : Same A (jn A B) := fun _ _ h => jn_some h
theorem same_jnr (d : Dj A B) : Same B (jn A B) := fun a o h => by
  rcases d a with x | x
  · rw [jn_none x]; exact h
  · rw [x] at h; cases h
theorem same_jn {H : Hp} (h1 : Same A H) (h2 : Same B H) : Same (jn A B) H := fun a o h => by
  cases e : A a with
  | some x => rw [jn_some e] at h; rw [← h]; exact h1 a x e
  | none => rw [jn_none e] at h; exact h2 a o h
theorem jn_swap (d : Dj A B) : jn A (jn B C) = jn B (jn A C) := by rw [← jn_assoc, jn_comm d, jn_assoc]
theorem same_upd (h : A a = none) : Same A (upd A a o) := fun b u e => by rw [upd_ne (ne_of_none e h)]; exact e
theorem upd_jn : upd (jn A B) a o = jn (upd A a o) B := by
  funext b
  by_cases h : b = a
  · subst h; rw [upd_same, jn_some upd_same]
  · rw [upd_ne h]
    unfold jn
    rw [upd_ne h]
theorem Dj.upd (h : Dj A B) (n : B a = none) : Dj (upd A a o) B := fun b => by
  by_cases e : b = a
  · subst e; exact .inr n
  · rw [upd_ne e]; exact h b
theorem none_of_same {H : Hp} (s : Same A H) (h : H a = none) : A a = none := Same.free s h
end
theorem rd_mono {B B' : Hp} {a : Addr} {u : HO} (e : Same B B') (h : Rd B a u) : Rd B' a u := by
  rcases h with h | ⟨o, h⟩
  · exact .inl (e _ _ h)
  · exact .inr ⟨o, e _ _ h⟩
theorem sqt_mono {K : PySem.W.Frag} {B B' : Hp} {a : Addr} {xs : List V} (e : Same B B') (h : SqT K B a xs) : SqT K B' a xs := h.imp_left (rd_mono e)
theorem sql_mono {K : PySem.W.Frag} {B B' : Hp} {a : Addr} {xs : List V} (e : Same B B') (h : SqL K B a xs) : SqL K B' a xs := h.imp_left (rd_mono e)
inductive Dt where
  | non | bl (b : Bool) | int (i : Int) | str (x : Str) | lst (xs : List Dt) | tup (xs : List Dt)
  /-- the script: a list that is read only -/
  | scr (ns : List Int)
  /-- dicts that are read only: keys, what stands there -/
  | dk (ks : List Key) (xs : List Dt) | dt (ks : List (List Key)) (xs : List Dt)
  /-- a dict with tuple keys that is only looked at -/
  | du (ks : List (List Key)) (xs : List Dt)
  /-- a dict with one-part keys that is held fast -/
  | df (ks : List Key) (xs : List Dt)
  /-- an instance that is only looked at -/
  | ob (C : Addr) (fs : List Str) (xs : List Dt)
  /-- a tuple of numbers and texts that was made by the program (a key of dicts) -/
  | kt (ks : List Key)
  /-- no datum: what stands at an address -/
  | pin (a : Addr) (u : HO)
  /-- a reference, whatever stands there -/
  | wild
def kPy : Key → PyData
  | .inl i => .int i
  | .inr x => .str x
def kDt : Key → Dt
  | .inl i => .int i
  | .inr x => .str x
mutual
def Dt.py : Dt → PyData
  | .non => .none
  | .bl b => .bool b
  | .int i => .int i
  | .str x => .str x
  | .lst xs => .list (Dt.pys xs)
  | .tup xs => .tuple (Dt.pys xs)
  | .scr ns => .list (ns.map .int)
  | .dk _ _ => .none
  | .dt _ _ => .none
  | .du _ _ => .none
  | .df _ _ => .none
  | .ob _ _ _ => .none
  | .kt ks => .tuple (ks.map kPy)
  | .pin _ _ => .bool true
  | .wild => .none
def Dt.pys : List Dt → List PyData
  | [] => []
  | d :: ds => d.py :: Dt.pys ds
end
mutual
def Dt.pl : Dt → Bool
  | .lst xs => Dt.pls xs
  | .tup xs => Dt.pls xs
  | .dk _ _ => false
  | .dt _ _ => false
  | .du _ _ => false
  | .df _ _ => false
  | .ob _ _ _ => false
  | .kt _ => true
  | .pin _ _ => true
  | .wild => false
  | .non => true
  | .bl _ => true
  | .int _ => true
  | .str _ => true
  | .scr _ => true
def Dt.pls : List Dt → Bool
  | [] => true
  | d :: ds => d.pl && Dt.pls ds
end
mutual
def Rp (K : PySem.W.Frag) (B : Hp) : Dt → V → Prop
  | .non, v => v = .non
  | .bl b, v => v = .bl b
  | .int i, v => v = .int i
  | .str x, v => v = .str x
  | .lst ds, v => ∃ a xs, v = .ref a ∧ B a = some (.lst xs) ∧ RpA K B ds xs
  | .tup ds, v => ∃ a xs, v = .ref a ∧ SqT K B a xs ∧ RpA K B ds xs
  | .scr ns, v => ∃ a, v = .ref a ∧ SqL K B a (ns.map V.int)
  | .dk ks ds, v => ∃ a vs, v = .ref a ∧ B a = some (.dK (ks.zip vs)) ∧ ks.length = ds.length ∧ RpA K B ds vs
  | .dt ks ds, v => ∃ a o vs, v = .ref a ∧ B a = some (.frz o (.dT (ks.zip vs))) ∧ ks.length = ds.length ∧ RpA K B ds vs
  | .du ks ds, v => ∃ a vs, v = .ref a ∧ B a = some (.dT (ks.zip vs)) ∧ ks.length = ds.length ∧ RpA K B ds vs
  | .df ks ds, v => ∃ a o vs, v = .ref a ∧ B a = some (.frz o (.dK (ks.zip vs))) ∧ ks.length = ds.length ∧ RpA K B ds vs
  | .ob C fs ds, v => ∃ a dx vs, v = .ref a ∧ B a = some (.ins C dx (fs.zip vs)) ∧ fs.length = ds.length ∧ RpA K B ds vs
  | .kt ks, v => ∃ a, v = .ref a ∧ B a = some (.tup (ks.map kV))
  | .pin a u, v => v = .bl true ∧ B a = some u
  | .wild, v => ∃ a, v = .ref a
def RpA (K : PySem.W.Frag) (B : Hp) : List Dt → List V → Prop
  | [], vs => vs = []
  | d :: ds, vs => ∃ v r, vs = v :: r ∧ Rp K B d v ∧ RpA K B ds r
end
section
variable {K : PySem.W.Frag} {B B' : Hp}
mutual
theorem Rp.mono (e : Same B B') : ∀ {d : Dt} {v : V}, Rp K B d v → Rp K B' d v
  | .non, _, h => h
  | .bl _, _, h => h
  | .int _, _, h => h
  | .str _, _, h => h
  | .lst ds, v, h => by
    unfold Rp at h ⊢
    obtain ⟨a, xs, e1, e2, r⟩ := h
    exact ⟨a, xs, e1, e _ _ e2, RpA.mono e r⟩
  | .tup ds, v, h => by
    unfold Rp at h ⊢
    obtain ⟨a, xs, e1, e2, r⟩ := h
    exact ⟨a, xs, e1, sqt_mono e e2, RpA.mono e r⟩
  | .scr ns, v, h => by
    unfold Rp at h ⊢
    obtain ⟨a, e1, e2⟩ := h
    exact ⟨a, e1, sql_mono e e2⟩
  | .dk ks ds, v, h => by
    unfold Rp at h ⊢
    obtain ⟨a, xs, e1, e2, n, r⟩ := h
    exact ⟨a, xs, e1, e _ _ e2, n, RpA.mono e r⟩
  | .dt ks ds, v, h => by
    unfold Rp at h ⊢
    obtain ⟨a, o, xs, e1, e2, n, r⟩ := h
    exact ⟨a, o, xs, e1, e _ _ e2, n, RpA.mono e r⟩
  | .du ks ds, v, h => by
    unfold Rp at h ⊢
    obtain ⟨a, xs, e1, e2, n, r⟩ := h
    exact ⟨a, xs, e1, e _ _ e2, n, RpA.mono e r⟩
  | .df ks ds, v, h => by
    unfold Rp at h ⊢
    obtain ⟨a, o, xs, e1, e2, n, r⟩ := h
    exact ⟨a, o, xs, e1, e _ _ e2, n, RpA.mono e r⟩
  | .ob C fs ds, v, h => by
    unfold Rp at h ⊢
    obtain ⟨a, o, xs, e1, e2, n, r⟩ := h
    exact ⟨a, o, xs, e1, e _ _ e2, n, RpA.mono e r⟩
  | .kt ks, v, h => by
    unfold Rp at h ⊢
    obtain ⟨a, e1, e2⟩ := h
    exact ⟨a, e1, e _ _ e2⟩
  | .pin a u, v, h => by
    unfold Rp at h ⊢
    exact ⟨h.1, e _ _ h.2⟩
  | .wild, v, h => by
    unfold Rp at h ⊢
    exact h
theorem RpA.mono (e : Same B B') : ∀ {ds : List Dt} {vs : List V}, RpA K B ds vs → RpA K B' ds vs
  | [], _, h => h
  | d :: ds, vs, h => by
    unfold RpA at h ⊢
    obtain ⟨v, r, e1, h1, h2⟩ := h
    exact ⟨v, r, e1, Rp.mono e h1, RpA.mono e h2⟩
end
theorem RpA.length : ∀ {ds : List Dt} {vs : List V}, RpA K B ds vs → vs.length = ds.length
  | [], _, h => by unfold RpA at h; subst h; rfl
  | d :: ds, vs, h => by
    unfold RpA at h
    obtain ⟨v, r, rfl, _, h2⟩ := h
    simp [RpA.length h2]
theorem RpA.get : ∀ {ds : List Dt} {vs : List V} {i : Nat} {d : Dt}, RpA K B ds vs → ds[i]? = some d → ∃ v, vs[i]? = some v ∧ Rp K B d v
  | [], _, _, _, _, e => by simp at e
  | d0 :: ds, vs, i, d, h, e => by
    unfold RpA at h
    obtain ⟨v, r, rfl, h1, h2⟩ := h
    cases i with
    | zero => simp at e; subst e; exact ⟨v, rfl, h1⟩
    | succ i => simp at e; simpa using RpA.get h2 e
theorem rpa_nil : RpA K B [] [] := by unfold RpA; rfl
theorem rpa_cons {d : Dt} {v : V} {ds : List Dt} {vs : List V} (h : Rp K B d v) (k : RpA K B ds vs) : RpA K B (d :: ds) (v :: vs) := by
  unfold RpA
  exact ⟨v, vs, rfl, h, k⟩
theorem RpA.append : ∀ {ds es : List Dt} {vs us : List V}, RpA K B ds vs → RpA K B es us → RpA K B (ds ++ es) (vs ++ us)
  | [], es, vs, us, h, k => by unfold RpA at h; subst h; exact k
  | d :: ds, es, vs, us, h, k => by
    unfold RpA at h
    obtain ⟨v, r, rfl, h1, h2⟩ := h
    exact rpa_cons h1 (RpA.append h2 k)
theorem RpA.one {d : Dt} {v : V} (h : Rp K B d v) : RpA K B [d] [v] := rpa_cons h rpa_nil
theorem RpA.drop : ∀ {ds : List Dt} {vs : List V} (n : Nat), RpA K B ds vs → RpA K B (ds.drop n) (vs.drop n)
  | _, _, 0, h => h
  | [], vs, n + 1, h => by unfold RpA at h; subst h; exact rpa_nil
  | d :: ds, vs, n + 1, h => by
    unfold RpA at h
    obtain ⟨v, r, rfl, _, h2⟩ := h
    exact RpA.drop n h2
theorem RpA.take : ∀ {ds : List Dt} {vs : List V} (n : Nat), RpA K B ds vs → RpA K B (ds.take n) (vs.take n)
  | _, _, 0, h => by simpa using rpa_nil
  | [], vs, n + 1, h => by unfold RpA at h; subst h; exact rpa_nil
  | d :: ds, vs, n + 1, h => by
    unfold RpA at h
    obtain ⟨v, r, rfl, h1, h2⟩ := h
    exact rpa_cons h1 (RpA.take n h2)
theorem RpA.reverse : ∀ {ds : List Dt} {vs : List V}, RpA K B ds vs → RpA K B ds.reverse vs.reverse
  | [], vs, h => by unfold RpA at h; subst h; exact rpa_nil
  | d :: ds, vs, h => by
    unfold RpA at h
    obtain ⟨v, r, rfl, h1, h2⟩ := h
    rw [List.reverse_cons, List.reverse_cons]
    exact RpA.append (RpA.reverse h2) (RpA.one h1)
theorem RpA.set : ∀ {ds : List Dt} {vs : List V} {d : Dt} {v : V} (n : Nat), RpA K B ds vs → Rp K B d v → RpA K B (ds.set n d) (vs.set n v)
  | [], vs, _, _, n, h, _ => by unfold RpA at h; subst h; exact rpa_nil
  | d :: ds, vs, _, _, 0, h, k => by
    unfold RpA at h
    obtain ⟨v, r, rfl, h1, h2⟩ := h
    exact rpa_cons k h2
  | d :: ds, vs, _, _, n + 1, h, k => by
    unfold RpA at h
    obtain ⟨v, r, rfl, h1, h2⟩ := h
    exact rpa_cons h1 (RpA.set n h2 k)
theorem RpA.dropLast : ∀ {ds : List Dt} {vs : List V}, RpA K B ds vs → RpA K B ds.dropLast vs.dropLast := fun {ds vs} h => by
  rw [List.dropLast_eq_take, List.dropLast_eq_take, RpA.length h]
  exact RpA.take _ h
theorem rpa_ints : ∀ {ns : List Int} {vs : List V}, RpA K B (ns.map Dt.int) vs → vs = ns.map V.int
  | [], vs, h => by unfold RpA at h; exact h
  | n :: ns, vs, h => by
    rw [List.map_cons] at h
    unfold RpA at h
    obtain ⟨v, r, rfl, h1, h2⟩ := h
    unfold Rp at h1
    subst h1
    rw [rpa_ints h2]
    rfl
theorem rpa_of_ints : ∀ {ns : List Int}, RpA K B (ns.map Dt.int) (ns.map V.int)
  | [] => rpa_nil
  | n :: ns => rpa_cons (by unfold Rp; rfl) rpa_of_ints
theorem rpa_strs : ∀ {ns : List Str} {vs : List V}, RpA K B (ns.map Dt.str) vs → vs = ns.map V.str
  | [], vs, h => by unfold RpA at h; exact h
  | n :: ns, vs, h => by
    rw [List.map_cons] at h
    unfold RpA at h
    obtain ⟨v, r, rfl, h1, h2⟩ := h
    unfold Rp at h1
    subst h1
    rw [rpa_strs h2]
    rfl
theorem rpa_of_strs : ∀ {ns : List Str}, RpA K B (ns.map Dt.str) (ns.map V.str)
  | [] => rpa_nil
  | n :: ns => rpa_cons (by unfold Rp; rfl) rpa_of_strs
theorem dpa_ints : ∀ ns : List Int, DpAll K B (ns.map V.int) (ns.map PyData.int)
  | [] => .nil
  | n :: ns => .cons (.int n) (dpa_ints ns)
theorem dpa_keys : ∀ ks : List Key, DpAll K B (ks.map kV) (ks.map kPy)
  | [] => .nil
  | .inl i :: ks => .cons (.int i) (dpa_keys ks)
  | .inr x :: ks => .cons (.str x) (dpa_keys ks)
mutual
theorem Rp.dp : ∀ {d : Dt} {v : V}, Rp K B d v → d.pl = true → Dp K B v d.py
  | .non, _, h, _ => by unfold Rp at h; subst h; exact .non
  | .bl _, _, h, _ => by unfold Rp at h; subst h; exact .bl _
  | .int _, _, h, _ => by unfold Rp at h; subst h; exact .int _
  | .str _, _, h, _ => by unfold Rp at h; subst h; exact .str _
  | .lst ds, v, h, p => by
    unfold Rp at h
    obtain ⟨a, xs, rfl, e2, r⟩ := h
    unfold Dt.py
    unfold Dt.pl at p
    exact .lst (SqL.of e2) (RpA.dp r p)
  | .tup ds, v, h, p => by
    unfold Rp at h
    obtain ⟨a, xs, rfl, e2, r⟩ := h
    unfold Dt.py
    unfold Dt.pl at p
    exact .tup e2 (RpA.dp r p)
  | .scr ns, v, h, _ => by
    unfold Rp at h
    obtain ⟨a, rfl, e2⟩ := h
    unfold Dt.py
    exact .lst e2 (dpa_ints ns)
  | .dk _ _, _, _, p => by unfold Dt.pl at p; cases p
  | .dt _ _, _, _, p => by unfold Dt.pl at p; cases p
  | .du _ _, _, _, p => by unfold Dt.pl at p; cases p
  | .df _ _, _, _, p => by unfold Dt.pl at p; cases p
  | .ob _ _ _, _, _, p => by unfold Dt.pl at p; cases p
  | .wild, _, _, p => by unfold Dt.pl at p; cases p
  | .kt ks, v, h, _ => by
    unfold Rp at h
    obtain ⟨a, rfl, e2⟩ := h
    unfold Dt.py
    exact .tup (SqT.of e2) (dpa_keys ks)
  | .pin a u, v, h, _ => by
    unfold Rp at h
    rw [h.1]
    exact .bl true
theorem RpA.dp : ∀ {ds : List Dt} {vs : List V}, RpA K B ds vs → Dt.pls ds = true → DpAll K B vs (Dt.pys ds)
  | [], _, h, _ => by unfold RpA at h; subst h; exact .nil
  | d :: ds, vs, h, p => by
    unfold RpA at h
    obtain ⟨v, r, rfl, h1, h2⟩ := h
    unfold Dt.pls at p
    obtain ⟨p1, p2⟩ := Bool.and_eq_true_iff.mp p
    unfold Dt.pys
    exact .cons (Rp.dp h1 p1) (RpA.dp h2 p2)
end
theorem rpa_keys : ∀ ks : List Key, RpA K B (ks.map kDt) (ks.map kV)
  | [] => rpa_nil
  | .inl i :: ks => rpa_cons (by unfold kDt; unfold Rp; rfl) (rpa_keys ks)
  | .inr x :: ks => rpa_cons (by unfold kDt; unfold Rp; rfl) (rpa_keys ks)
theorem Rp.kt {ks : List Key} {v : V} (h : Rp K B (.kt ks) v) : Rp K B (.tup (ks.map kDt)) v := by
  unfold Rp at h ⊢
  obtain ⟨a, e, h⟩ := h
  exact ⟨a, _, e, SqT.of h, rpa_keys ks⟩
end
inductive Own where
  | dat (d : Dt)
  | hole (v : V)
  /-- any value; nothing owned -/
  | any
  /-- any value; beside it: the values vs stand for ds -/
  | rv (vs : List V) (ds : List Dt)
  | lst (xs : List Own)
  | tup (xs : List Own)
  | dK (ks : List Key) (xs : List Own)
  | dT (ks : List (List Key)) (xs : List Own)
  | ins (C : Addr) (fs : List Str) (xs : List Own)
  /-- an instance that is only looked at: its attributes are data -/
  | bo (C : Addr) (fs : List Str) (ds : List Dt)
  /-- a dict of one's own that is held fast just now -/
  | lk (od : Obj) (ks : List Key) (us : List V) (ds : List Dt)
  /-- the same, tuple keys -/
  | lkT (od : Obj) (ks : List (List Key)) (us : List V) (ds : List Dt)
  /-- t, the value being u -/
  | at_ (u : V) (t : Own)
mutual
def Ow (K : PySem.W.Frag) (B : Hp) : Own → Hp → V → Prop
  | .dat d, O, v => Rp K B d v ∧ O = emp
  | .hole w, O, v => v = w ∧ O = emp
  | .any, O, _ => O = emp
  | .rv vs ds, O, v => RpA K B ds vs ∧ O = emp
  | .lst xs, O, v => ∃ l vs O1, v = .ref l ∧ OwA K B xs O1 vs ∧ O1 l = none ∧ O = upd O1 l (.lst vs)
  | .tup xs, O, v => ∃ l vs, v = .ref l ∧ SqT K B l vs ∧ OwA K B xs O vs
  | .dK ks xs, O, v => ∃ l vs O1, v = .ref l ∧ OwA K B xs O1 vs ∧ O1 l = none ∧ ks.length = xs.length ∧ O = upd O1 l (.dK (ks.zip vs))
  | .dT ks xs, O, v => ∃ l vs O1, v = .ref l ∧ OwA K B xs O1 vs ∧ O1 l = none ∧ ks.length = xs.length ∧ O = upd O1 l (.dT (ks.zip vs))
  | .ins C fs xs, O, v => ∃ p dx vs O1, v = .ref p ∧ OwA K B xs O1 vs ∧ O1 p = none ∧ O1 dx = none ∧ dx ≠ p ∧ fs.length = xs.length ∧ O = upd (upd O1 dx (.own p)) p (.ins C dx (fs.zip vs))
  | .bo C fs ds, O, v => ∃ p dx vs, v = .ref p ∧ B p = some (.ins C dx (fs.zip vs)) ∧ fs.length = ds.length ∧ RpA K B ds vs ∧ O = emp
  | .lk od ks us ds, O, v => ∃ l, v = .ref l ∧ RpA K B ds us ∧ ks.length = ds.length ∧ O = upd emp l (.frz od (.dK (ks.zip us)))
  | .lkT od ks us ds, O, v => ∃ l, v = .ref l ∧ RpA K B ds us ∧ ks.length = ds.length ∧ O = upd emp l (.frz od (.dT (ks.zip us)))
  | .at_ u t, O, v => v = u ∧ Ow K B t O v
def OwA (K : PySem.W.Frag) (B : Hp) : List Own → Hp → List V → Prop
  | [], O, vs => vs = [] ∧ O = emp
  | t :: ts, O, vs => ∃ v r O1 O2, vs = v :: r ∧ Ow K B t O1 v ∧ OwA K B ts O2 r ∧ Dj O1 O2 ∧ O = jn O1 O2
end
section
variable {K : PySem.W.Frag} {B B' : Hp}
mutual
theorem Ow.mono (e : Same B B') : ∀ {t : Own} {O : Hp} {v : V}, Ow K B t O v → Ow K B' t O v
  | .dat d, O, v, h => by unfold Ow at h ⊢; exact ⟨Rp.mono e h.1, h.2⟩
  | .hole w, O, v, h => by unfold Ow at h ⊢; exact h
  | .any, O, v, h => by unfold Ow at h ⊢; exact h
  | .rv vs ds, O, v, h => by unfold Ow at h ⊢; exact ⟨RpA.mono e h.1, h.2⟩
  | .lst xs, O, v, h => by
    unfold Ow at h ⊢
    obtain ⟨l, vs, O1, a, b, c⟩ := h
    exact ⟨l, vs, O1, a, OwA.mono e b, c⟩
  | .tup xs, O, v, h => by
    unfold Ow at h ⊢
    obtain ⟨l, vs, a, b, c⟩ := h
    exact ⟨l, vs, a, sqt_mono e b, OwA.mono e c⟩
  | .dK ks xs, O, v, h => by
    unfold Ow at h ⊢
    obtain ⟨l, vs, O1, a, b, c⟩ := h
    exact ⟨l, vs, O1, a, OwA.mono e b, c⟩
  | .dT ks xs, O, v, h => by
    unfold Ow at h ⊢
    obtain ⟨l, vs, O1, a, b, c⟩ := h
    exact ⟨l, vs, O1, a, OwA.mono e b, c⟩
  | .ins C fs xs, O, v, h => by
    unfold Ow at h ⊢
    obtain ⟨p, dx, vs, O1, a, b, c⟩ := h
    exact ⟨p, dx, vs, O1, a, OwA.mono e b, c⟩
  | .bo C fs ds, O, v, h => by
    unfold Ow at h ⊢
    obtain ⟨p, dx, vs, a, b, c, d, f⟩ := h
    exact ⟨p, dx, vs, a, e _ _ b, c, RpA.mono e d, f⟩
  | .lk od ks us ds, O, v, h => by
    unfold Ow at h ⊢
    obtain ⟨l, a, b, c⟩ := h
    exact ⟨l, a, RpA.mono e b, c⟩
  | .lkT od ks us ds, O, v, h => by
    unfold Ow at h ⊢
    obtain ⟨l, a, b, c⟩ := h
    exact ⟨l, a, RpA.mono e b, c⟩
  | .at_ u t, O, v, h => by
    unfold Ow at h ⊢
    exact ⟨h.1, Ow.mono e h.2⟩
theorem OwA.mono (e : Same B B') : ∀ {ts : List Own} {O : Hp} {vs : List V}, OwA K B ts O vs → OwA K B' ts O vs
  | [], _, _, h => by unfold OwA at h ⊢; exact h
  | t :: ts, O, vs, h => by
    unfold OwA at h ⊢
    obtain ⟨v, r, O1, O2, a, b, c, d⟩ := h
    exact ⟨v, r, O1, O2, a, Ow.mono e b, OwA.mono e c, d⟩
end
theorem ow_dat {d : Dt} {v : V} (h : Rp K B d v) : Ow K B (.dat d) emp v := by unfold Ow; exact ⟨h, rfl⟩
theorem Ow.rp {d : Dt} {O : Hp} {v : V} (h : Ow K B (.dat d) O v) : Rp K B d v ∧ O = emp := by unfold Ow at h; exact h
theorem owa_nil : OwA K B [] emp [] := by unfold OwA; exact ⟨rfl, rfl⟩
theorem owa_cons {t : Own} {ts : List Own} {O1 O2 : Hp} {v : V} {vs : List V} (h : Ow K B t O1 v) (k : OwA K B ts O2 vs) (d : Dj O1 O2) : OwA K B (t :: ts) (jn O1 O2) (v :: vs) := by
  unfold OwA
  exact ⟨v, vs, O1, O2, rfl, h, k, d, rfl⟩
theorem OwA.length : ∀ {ts : List Own} {O : Hp} {vs : List V}, OwA K B ts O vs → vs.length = ts.length
  | [], O, vs, h => by unfold OwA at h; rw [h.1]; rfl
  | t :: ts, O, vs, h => by
    unfold OwA at h
    obtain ⟨v, r, O1, O2, rfl, a, b, c, d⟩ := h
    simp [OwA.length b]
theorem owa_dats : ∀ {ds : List Dt} {vs : List V}, RpA K B ds vs → OwA K B (ds.map Own.dat) emp vs
  | [], vs, h => by unfold RpA at h; subst h; exact owa_nil
  | d :: ds, vs, h => by
    unfold RpA at h
    obtain ⟨v, r, rfl, h1, h2⟩ := h
    have q := owa_cons (ow_dat h1) (owa_dats h2) emp_dj
    rw [emp_jn] at q
    exact q
theorem OwA.dats : ∀ {ds : List Dt} {O : Hp} {vs : List V}, OwA K B (ds.map Own.dat) O vs → RpA K B ds vs ∧ O = emp
  | [], O, vs, h => by rw [List.map_nil] at h; unfold OwA at h; obtain ⟨rfl, rfl⟩ := h; exact ⟨rpa_nil, rfl⟩
  | d :: ds, O, vs, h => by
    rw [List.map_cons] at h
    unfold OwA at h
    obtain ⟨v, r, O1, O2, rfl, a, b, c, rfl⟩ := h
    obtain ⟨h1, rfl⟩ := a.rp
    obtain ⟨h2, rfl⟩ := OwA.dats b
    exact ⟨rpa_cons h1 h2, emp_jn⟩
theorem OwA.at : ∀ {ts : List Own} {O : Hp} {vs : List V} {i : Nat} {t : Own}, OwA K B ts O vs → ts[i]? = some t →
    ∃ v O1 O2, vs[i]? = some v ∧ Ow K B t O1 v ∧ Dj O1 O2 ∧ O = jn O1 O2 ∧
      ∀ B' t' O1' v', Same B B' → Ow K B' t' O1' v' → Dj O1' O2 → OwA K B' (ts.set i t') (jn O1' O2) (vs.set i v')
  | [], _, _, _, _, _, e => by simp at e
  | t0 :: ts, O, vs, i, t, h, e => by
    unfold OwA at h
    obtain ⟨v, r, O1, O2, rfl, a, b, c, rfl⟩ := h
    cases i with
    | zero =>
      simp at e
      subst e
      exact ⟨v, O1, O2, rfl, a, c, rfl, fun B' t' O1' v' s k d => owa_cons k (OwA.mono s b) d⟩
    | succ i =>
      simp at e
      obtain ⟨v1, P1, P2, e1, a1, d1, rfl, q⟩ := OwA.at b e
      refine ⟨v1, P1, jn O1 P2, by simpa using e1, a1, Dj.jnr (Dj.rl c).symm d1, jn_swap (Dj.rl c), fun B' t' O1' v' s k d => ?_⟩
      have d' : Dj O1' P2 := Dj.rr d
      have d0 : Dj O1 O1' := (Dj.rl d).symm
      have z := owa_cons (Ow.mono s a) (q B' t' O1' v' s k d') (Dj.jnr d0 (Dj.rr c))
      rw [jn_swap d0] at z
      exact z
end
end Sm
namespace Sm
open PySem L2
abbrev Ent := Option Own
def Slots (K : PySem.W.Frag) (B : Hp) : List Ent → Hp → L2.St → Prop
  | [], O, σ => σ = [] ∧ O = emp
  | none :: Γ, O, σ => ∃ x r, σ = x :: r ∧ Slots K B Γ O r
  | some t :: Γ, O, σ => ∃ v r O1 O2, σ = some v :: r ∧ Ow K B t O1 v ∧ Slots K B Γ O2 r ∧ Dj O1 O2 ∧ O = jn O1 O2
section
variable {K : PySem.W.Frag} {B B' : Hp}
theorem Slots.mono (e : Same B B') : ∀ {Γ : List Ent} {O : Hp} {σ : L2.St}, Slots K B Γ O σ → Slots K B' Γ O σ
  | [], _, _, h => h
  | none :: Γ, O, σ, h => by
    unfold Slots at h ⊢
    obtain ⟨x, r, a, b⟩ := h
    exact ⟨x, r, a, Slots.mono e b⟩
  | some t :: Γ, O, σ, h => by
    unfold Slots at h ⊢
    obtain ⟨v, r, O1, O2, a, b, c, d⟩ := h
    exact ⟨v, r, O1, O2, a, b.mono e, Slots.mono e c, d⟩
theorem slots_own {t : Own} {v : V} {O1 O2 : Hp} {Γ : List Ent} {σ : L2.St} (h : Ow K B t O1 v) (k : Slots K B Γ O2 σ) (d : Dj O1 O2) : Slots K B (some t :: Γ) (jn O1 O2) (some v :: σ) := by
  unfold Slots
  exact ⟨v, σ, O1, O2, rfl, h, k, d, rfl⟩
theorem slots_un {x : Option V} {O : Hp} {Γ : List Ent} {σ : L2.St} (k : Slots K B Γ O σ) : Slots K B (none :: Γ) O (x :: σ) := by
  unfold Slots
  exact ⟨x, σ, rfl, k⟩
theorem Slots.len : ∀ {Γ : List Ent} {O : Hp} {σ : L2.St}, Slots K B Γ O σ → σ.length = Γ.length
  | [], _, _, h => by unfold Slots at h; rw [h.1]; rfl
  | none :: Γ, O, σ, h => by
    unfold Slots at h
    obtain ⟨x, r, rfl, b⟩ := h
    simp [Slots.len b]
  | some t :: Γ, O, σ, h => by
    unfold Slots at h
    obtain ⟨v, r, O1, O2, rfl, b, c, d⟩ := h
    simp [Slots.len c]
theorem Slots.at : ∀ {Γ : List Ent} {O : Hp} {σ : L2.St} {i : Nat} {t : Own}, Slots K B Γ O σ → Γ[i]? = some (some t) →
    ∃ v O1 O2, σ[i]? = some (some v) ∧ Ow K B t O1 v ∧ Dj O1 O2 ∧ O = jn O1 O2 ∧
      (∀ B' t' O1' v', Same B B' → Ow K B' t' O1' v' → Dj O1' O2 → Slots K B' (Γ.set i (some t')) (jn O1' O2) (σ.set i (some v'))) ∧
      ∀ B' x, Same B B' → Slots K B' (Γ.set i none) O2 (σ.set i x)
  | [], _, _, _, _, _, e => by simp at e
  | none :: Γ, O, σ, i, t, h, e => by
    unfold Slots at h
    obtain ⟨x, r, rfl, b⟩ := h
    cases i with
    | zero => simp at e
    | succ i =>
      simp at e
      obtain ⟨v1, P1, P2, e1, a1, d1, e2, q, q2⟩ := Slots.at b e
      exact ⟨v1, P1, P2, by simpa using e1, a1, d1, e2, fun B' t' O1' v' s k d => slots_un (q B' t' O1' v' s k d), fun B' x s => slots_un (q2 B' x s)⟩
  | some t0 :: Γ, O, σ, i, t, h, e => by
    unfold Slots at h
    obtain ⟨v, r, O1, O2, rfl, a, b, c, rfl⟩ := h
    cases i with
    | zero =>
      simp at e
      subst e
      exact ⟨v, O1, O2, rfl, a, c, rfl, fun B' t' O1' v' s k d => slots_own k (b.mono s) d, fun B' x s => slots_un (b.mono s)⟩
    | succ i =>
      simp at e
      obtain ⟨v1, P1, P2, e1, a1, d1, rfl, q, q2⟩ := Slots.at b e
      refine ⟨v1, P1, jn O1 P2, by simpa using e1, a1, Dj.jnr (Dj.rl c).symm d1, jn_swap (Dj.rl c), fun B' t' O1' v' s k d => ?_, fun B' x s => slots_own (a.mono s) (q2 B' x s) (Dj.rr c)⟩
      have d' : Dj O1' P2 := Dj.rr d
      have d0 : Dj O1 O1' := (Dj.rl d).symm
      have z := slots_own (Ow.mono s a) (q B' t' O1' v' s k d') (Dj.jnr d0 (Dj.rr c))
      rw [jn_swap d0] at z
      exact z
theorem Slots.un : ∀ {Γ : List Ent} {O : Hp} {σ : L2.St} {i : Nat}, Slots K B Γ O σ → Γ[i]? = some none → ∀ B' t' O1' v', Same B B' → Ow K B' t' O1' v' → Dj O1' O → Slots K B' (Γ.set i (some t')) (jn O1' O) (σ.set i (some v'))
  | [], _, _, _, _, e => by simp at e
  | none :: Γ, O, σ, i, h, e => by
    unfold Slots at h
    obtain ⟨x, r, rfl, b⟩ := h
    cases i with
    | zero => exact fun B' t' O1' v' s k d => slots_own k (b.mono s) d
    | succ i => simp at e; exact fun B' t' O1' v' s k d => slots_un (Slots.un b e B' t' O1' v' s k d)
  | some t0 :: Γ, O, σ, i, h, e => by
    unfold Slots at h
    obtain ⟨v, r, O1, O2, rfl, a, b, c, rfl⟩ := h
    cases i with
    | zero => simp at e
    | succ i =>
      simp at e
      intro B' t' O1' v' s k d
      have z := slots_own (Ow.mono s a) (Slots.un b e B' t' O1' v' s k (Dj.rr d)) (Dj.jnr (Dj.rl d).symm c)
      rw [jn_swap (Dj.rl d).symm] at z
      exact z
theorem Slots.put {Γ : List Ent} {O : Hp} {σ : L2.St} {i : Nat} (h : Slots K B Γ O σ) (hi : i < Γ.length) : ∃ Od O3, Dj Od O3 ∧ O = jn Od O3 ∧
    (∀ B' t' O1' v', Same B B' → Ow K B' t' O1' v' → Dj O1' O3 → Slots K B' (Γ.set i (some t')) (jn O1' O3) (σ.set i (some v'))) ∧ ∀ x, Slots K B (Γ.set i none) O3 (σ.set i x) := by
  cases e : Γ[i]? with
  | none => rw [List.getElem?_eq_none_iff] at e; omega
  | some x =>
    cases x with
    | none => exact ⟨emp, O, emp_dj, emp_jn.symm, h.un e, by
        have : ∀ {Γ : List Ent} {O : Hp} {σ : L2.St} {i : Nat}, Slots K B Γ O σ → Γ[i]? = some none → ∀ x, Slots K B (Γ.set i none) O (σ.set i x) := by
          intro Γ
          induction Γ with
          | nil => intro O σ i h e; simp at e
          | cons a Γ ih =>
            intro O σ i h e x
            cases a with
            | none =>
              unfold Slots at h
              obtain ⟨y, r, rfl, b⟩ := h
              cases i with
              | zero => exact slots_un b
              | succ i => simp at e; exact slots_un (ih b e x)
            | some t =>
              unfold Slots at h
              obtain ⟨v, r, O1, O2, rfl, a, b, c, rfl⟩ := h
              cases i with
              | zero => simp at e
              | succ i => simp at e; exact slots_own a (ih b e x) c
        exact this h e⟩
    | some t =>
      obtain ⟨v, O1, O2, _, a, d, e2, q, q2⟩ := h.at e
      exact ⟨O1, O2, d, e2, q, fun x => q2 B x (Same.refl _)⟩
inductive Wk : List Ent → List Ent → Prop
  | nil : Wk [] []
  | same {x : Ent} {Γ Γ' : List Ent} : Wk Γ Γ' → Wk (x :: Γ) (x :: Γ')
  | drop {x : Ent} {Γ Γ' : List Ent} : Wk Γ Γ' → Wk (x :: Γ) (none :: Γ')
theorem Wk.refl : ∀ Γ : List Ent, Wk Γ Γ
  | [] => .nil
  | _ :: Γ => .same (Wk.refl Γ)
theorem Wk.app : ∀ (Δ : List Ent) {Γ Γ' : List Ent}, Wk Γ Γ' → Wk (Δ ++ Γ) (Δ ++ Γ')
  | [], _, _, h => h
  | _ :: Δ, _, _, h => .same (Wk.app Δ h)
theorem Slots.weak : ∀ {Γ Γ' : List Ent} {O : Hp} {σ : L2.St}, Wk Γ Γ' → Slots K B Γ O σ → ∃ Od O', Dj Od O' ∧ O = jn Od O' ∧ Slots K B Γ' O' σ
  | _, _, O, σ, .nil, h => ⟨emp, O, emp_dj, emp_jn.symm, h⟩
  | none :: Γ, _, O, σ, .same w, h => by
    unfold Slots at h
    obtain ⟨x, r, rfl, b⟩ := h
    obtain ⟨Od, O', d, e, q⟩ := Slots.weak w b
    exact ⟨Od, O', d, e, slots_un q⟩
  | some t :: Γ, _, O, σ, .same w, h => by
    unfold Slots at h
    obtain ⟨v, r, O1, O2, rfl, a, b, c, rfl⟩ := h
    obtain ⟨Od, O', d, rfl, q⟩ := Slots.weak w b
    exact ⟨Od, jn O1 O', Dj.jnr (Dj.rl c).symm d, jn_swap (Dj.rl c), slots_own a q (Dj.rr c)⟩
  | none :: Γ, _, O, σ, .drop w, h => by
    unfold Slots at h
    obtain ⟨x, r, rfl, b⟩ := h
    obtain ⟨Od, O', d, e, q⟩ := Slots.weak w b
    exact ⟨Od, O', d, e, slots_un q⟩
  | some t :: Γ, _, O, σ, .drop w, h => by
    unfold Slots at h
    obtain ⟨v, r, O1, O2, rfl, a, b, c, rfl⟩ := h
    obtain ⟨Od, O', d, rfl, q⟩ := Slots.weak w b
    exact ⟨jn O1 Od, O', Dj.jnl (Dj.rr c) d, jn_assoc.symm, slots_un q⟩
end
def NT (O : Hp) : Prop := ∀ a xs, O a ≠ some (.tup xs)
theorem nt_emp : NT emp := fun _ _ z => nomatch z
theorem NT.jn {A C : Hp} (h : NT A) (k : NT C) : NT (jn A C) := fun a xs e => by
  by_cases q : A a = none
  · rw [jn_none q] at e; exact k a xs e
  · cases z : A a with
    | none => exact q z
    | some u => rw [jn_some z] at e; exact h a xs (z.trans e)
theorem NT.l {A C : Hp} (h : NT (Sm.jn A C)) : NT A := fun a xs e => h a xs (jn_some e)
theorem NT.r {A C : Hp} (h : NT (Sm.jn A C)) (d : Dj A C) : NT C := fun a xs e => h a xs (by
  rcases d a with z | z
  · rw [jn_none z]; exact e
  · rw [z] at e; cases e)
theorem NT.upd {A : Hp} {a : Addr} {o : HO} (h : NT A) (n : ∀ xs, o ≠ .tup xs) : NT (L2.upd A a o) := fun b xs e => by
  by_cases q : b = a
  · subst q; rw [upd_same] at e; exact n xs (Option.some.inj e)
  · rw [upd_ne q] at e; exact h b xs e
structure Post (B0 O0 H0 B O H : Hp) : Prop where
  b0 : Same B0 B
  bh : Same B H
  oh : Same O H
  dj : Dj B O
  fr : ∀ a o, H0 a = some o → O0 a = none → H a = some o
  yb : ∀ a, B a ≠ none → B0 a ≠ none ∨ O0 a ≠ none ∨ H0 a = none ∨ ∃ xs, H0 a = some (.tup xs)
  yo : ∀ a, O a ≠ none → O0 a ≠ none ∨ H0 a = none
  nt : NT O
section
variable {B0 O0 H0 B O H : Hp}
theorem Post.refl (h1 : Same B H) (h2 : Same O H) (h3 : Dj B O) (h4 : NT O) : Post B O H B O H :=
  ⟨Same.refl _, h1, h2, h3, fun _ _ h _ => h, fun _ h => .inl h, fun _ h => .inl h, h4⟩
theorem Post.fresh (p : Post B0 O0 H0 B O H) {a : Addr} (h : H a = none) : O0 a ≠ none ∨ H0 a = none := by
  by_cases q : O0 a = none
  · refine .inr ?_
    cases e : H0 a with
    | none => rfl
    | some o => rw [p.fr a o e q] at h; cases h
  · exact .inl q
theorem Post.newB (p : Post B0 O0 H0 B O H) {a : Addr} {o : HO} (h : H a = none) : Post B0 O0 H0 (upd B a o) O (upd H a o) where
  b0 := p.b0.trans (same_upd (none_of_same p.bh h))
  bh := fun b u e => by
    by_cases q : b = a
    · subst q; rw [upd_same] at e ⊢; exact e
    · rw [upd_ne q] at e ⊢; exact p.bh b u e
  oh := fun b u e => by rw [upd_ne (ne_of_none (p.oh b u e) h)]; exact p.oh b u e
  dj := p.dj.upd (none_of_same p.oh h)
  fr := fun b u e n => by rw [upd_ne (ne_of_none (p.fr b u e n) h)]; exact p.fr b u e n
  yb := fun b e => by
    by_cases q : b = a
    · subst q
      rcases p.fresh h with z | z
      · exact .inr (.inl z)
      · exact .inr (.inr (.inl z))
    · rw [upd_ne q] at e; exact p.yb b e
  yo := p.yo
  nt := p.nt
theorem Post.newO (p : Post B0 O0 H0 B O H) {a : Addr} {o : HO} (h : H a = none) (ho : ∀ xs, o ≠ .tup xs) : Post B0 O0 H0 B (upd O a o) (upd H a o) where
  b0 := p.b0
  bh := fun b u e => by rw [upd_ne (ne_of_none (p.bh b u e) h)]; exact p.bh b u e
  oh := fun b u e => by
    by_cases q : b = a
    · subst q; rw [upd_same] at e ⊢; exact e
    · rw [upd_ne q] at e ⊢; exact p.oh b u e
  dj := (p.dj.symm.upd (none_of_same p.bh h)).symm
  fr := fun b u e n => by rw [upd_ne (ne_of_none (p.fr b u e n) h)]; exact p.fr b u e n
  yb := p.yb
  yo := fun b e => by
    by_cases q : b = a
    · subst q; exact p.fresh h
    · rw [upd_ne q] at e; exact p.yo b e
  nt := p.nt.upd ho
theorem Post.mut (p : Post B0 O0 H0 B O H) {a : Addr} {o u : HO} (h : O a = some u) (ho : ∀ xs, o ≠ .tup xs := by intro xs z; cases z) : Post B0 O0 H0 B (upd O a o) (upd H a o) where
  b0 := p.b0
  bh := fun b w e => by
    have ne : b ≠ a := fun q => by
      subst q
      rcases p.dj b with z | z
      · rw [z] at e; cases e
      · rw [z] at h; cases h
    rw [upd_ne ne]; exact p.bh b w e
  oh := fun b w e => by
    by_cases q : b = a
    · subst q; rw [upd_same] at e ⊢; exact e
    · rw [upd_ne q] at e ⊢; exact p.oh b w e
  dj := (Dj.upd p.dj.symm (by
    rcases p.dj a with z | z
    · exact z
    · rw [z] at h; cases h)).symm
  fr := fun b w e n => by
    have ne : b ≠ a := fun q => by
      subst q
      rcases p.yo b (by rw [h]; simp) with z | z
      · exact z n
      · rw [z] at e; cases e
    rw [upd_ne ne]; exact p.fr b w e n
  yb := p.yb
  yo := fun b e => by
    by_cases q : b = a
    · subst q; exact p.yo b (by rw [h]; simp)
    · rw [upd_ne q] at e; exact p.yo b e
  nt := p.nt.upd ho
theorem Post.dropL {O1 O2 : Hp} (p : Post B0 O0 H0 B (jn O1 O2) H) (d : Dj O1 O2) : Post B0 O0 H0 B O2 H :=
  ⟨p.b0, p.bh, (same_jnr d).trans p.oh, p.dj.rr, p.fr, p.yb, fun a e => p.yo a fun z => e (jn_none_iff.mp z).2, p.nt.r d⟩
theorem Post.dropR {O1 O2 : Hp} (p : Post B0 O0 H0 B (jn O1 O2) H) : Post B0 O0 H0 B O1 H :=
  ⟨p.b0, p.bh, same_jnl.trans p.oh, p.dj.rl, p.fr, p.yb, fun a e => p.yo a fun z => e (jn_none_iff.mp z).1, p.nt.l⟩
theorem Post.freeze {O1 O2 : Hp} (p : Post B0 O0 H0 B (jn O1 O2) H) (d : Dj O1 O2) : Post B0 O0 H0 (jn B O1) O2 H where
  b0 := p.b0.trans same_jnl
  bh := same_jn p.bh (same_jnl.trans p.oh)
  oh := (same_jnr d).trans p.oh
  dj := Dj.jnl p.dj.rr d
  fr := p.fr
  yb := fun a e => by
    by_cases q : B a = none
    · rcases p.yo a fun z => e (jn_none_iff.mpr ⟨q, (jn_none_iff.mp z).1⟩) with z | z
      · exact .inr (.inl z)
      · exact .inr (.inr (.inl z))
    · exact p.yb a q
  yo := fun a e => p.yo a fun z => e (jn_none_iff.mp z).2
  nt := p.nt.r d
theorem Post.addB (p : Post B0 O0 H0 B O H) {a : Addr} {xs : List V} (h : H a = some (.tup xs)) : ∃ B', Post B0 O0 H0 B' O H ∧ Same B B' ∧ B' a = some (.tup xs) := by
  by_cases q : B a = none
  · refine ⟨upd B a (.tup xs), ⟨p.b0.trans (same_upd q), fun b u e => ?_, p.oh, p.dj.upd ?_, p.fr, fun b e => ?_, p.yo, p.nt⟩, same_upd q, upd_same⟩
    · by_cases z : b = a
      · subst z; rw [upd_same] at e; rw [← e]; exact h
      · rw [upd_ne z] at e; exact p.bh b u e
    · cases z : O a with
      | none => rfl
      | some u =>
        have e := p.oh a u z
        rw [h] at e
        cases e
        exact absurd z (p.nt a xs)
    · by_cases z : b = a
      · subst z
        by_cases z2 : O0 b = none
        · refine .inr (.inr ?_)
          cases z3 : H0 b with
          | none => exact .inl rfl
          | some u =>
            have e := p.fr b u z3 z2
            rw [h] at e
            cases e
            exact .inr ⟨xs, rfl⟩
        · exact .inr (.inl z2)
      · rw [upd_ne z] at e; exact p.yb b e
  · cases z : B a with
    | none => exact absurd z q
    | some u =>
      have e := p.bh a u z
      rw [h] at e
      cases e
      exact ⟨B, p, Same.refl _, z⟩
theorem Post.call {Oa Or B' Oa' H' : Hp} (p : Post B0 O0 H0 B (jn Oa Or) H) (d : Dj Oa Or) (q : Post B Oa H B' Oa' H') : Dj Oa' Or ∧ Post B0 O0 H0 B' (jn Oa' Or) H' := by
  have hr : Same Or H := (same_jnr d).trans p.oh
  have hr' : Same Or H' := fun a o e => q.fr a o (hr a o e) (by
    rcases d a with z | z
    · exact z
    · rw [z] at e; cases e)
  have notfresh : ∀ a, Or a ≠ none → H a ≠ none := fun a e z => e (none_of_same hr z)
  have d' : Dj Oa' Or := fun a => by
    by_cases z : Oa' a = none
    · exact .inl z
    · refine .inr ?_
      rcases q.yo a z with w | w
      · rcases d a with x | x
        · exact absurd x w
        · exact x
      · exact none_of_same hr w
  have ntr : NT Or := p.nt.r d
  refine ⟨d', ⟨p.b0.trans q.b0, q.bh, same_jn q.oh hr', ?_, ?_, ?_, ?_, q.nt.jn ntr⟩⟩
  · refine Dj.jnr q.dj fun a => ?_
    by_cases z : B' a = none
    · exact .inl z
    · refine .inr ?_
      rcases q.yb a z with w | w | w | ⟨xs, w⟩
      · rcases p.dj.rr a with x | x
        · exact absurd x w
        · exact x
      · rcases d a with x | x
        · exact absurd x w
        · exact x
      · exact none_of_same hr w
      · cases x : Or a with
        | none => rfl
        | some u =>
          have y := hr a u x
          rw [w] at y
          cases y
          exact absurd x (ntr a xs)
  · intro a o e n
    have h := p.fr a o e n
    refine q.fr a o h ?_
    cases z : Oa a with
    | none => rfl
    | some u =>
      rcases p.yo a (by rw [jn_some z]; simp) with w | w
      · exact absurd n w
      · rw [w] at e; cases e
  · intro a e
    rcases q.yb a e with w | w | w | ⟨xs, w⟩
    · exact p.yb a w
    · rcases p.yo a fun z => w (jn_none_iff.mp z).1 with x | x
      · exact .inr (.inl x)
      · exact .inr (.inr (.inl x))
    · rcases p.fresh w with x | x
      · exact .inr (.inl x)
      · exact .inr (.inr (.inl x))
    · by_cases x : O0 a = none
      · cases y : H0 a with
        | none => exact .inr (.inr (.inl rfl))
        | some u =>
          have z := p.fr a u y x
          rw [w] at z
          cases z
          exact .inr (.inr (.inr ⟨xs, rfl⟩))
      · exact .inr (.inl x)
  · intro a e
    by_cases z : Oa' a = none
    · refine p.yo a fun w => e (jn_none_iff.mpr ⟨z, (jn_none_iff.mp w).2⟩)
    · rcases q.yo a z with w | w
      · exact p.yo a fun x => w (jn_none_iff.mp x).1
      · exact p.fresh w
end
structure Fx where
  K : PySem.W.Frag
  B : Hp
  O : Hp
  H : Hp
  /-- the parameters that stay: slot, value -/
  ins : List (Nat × V)
def Stt (F : Fx) (Γ : List Ent) (T : List (V × Own)) (σ : L2.St) (H : Hp) : Prop :=
  ∃ B O, Slots F.K B (T.map (fun p => some p.2) ++ Γ) O (T.map (fun p => some p.1) ++ σ) ∧ Post F.B F.O F.H B O H ∧ ∀ p ∈ F.ins, σ[p.1]? = some (some p.2)
section
variable {F : Fx} {Γ Γ' : List Ent} {T : List (V × Own)} {σ : L2.St} {H H' : Hp} {v : V} {t : Own}
theorem Stt.push (h : Stt F Γ T σ H) {d : Dt} (k : ∀ B, Same B H → Rp F.K B d v) : Stt F Γ ((v, .dat d) :: T) σ H := by
  obtain ⟨B, O, s, p, i⟩ := h
  refine ⟨B, O, ?_, p, i⟩
  have q := slots_own (ow_dat (k B p.bh)) s emp_dj
  rw [emp_jn] at q
  exact q
theorem Stt.dup {i : Nat} {d : Dt} (h : Stt F Γ T σ H) (e : Γ[i]? = some (some (.dat d))) : ∃ v, σ[i]? = some (some v) ∧ Stt F Γ ((v, .dat d) :: T) σ H := by
  obtain ⟨B, O, s, p, q⟩ := h
  have e' : (T.map (fun p => some p.2) ++ Γ)[T.length + i]? = some (some (.dat d)) := by
    rw [List.getElem?_append_right (by simp)]
    simpa using e
  obtain ⟨v, O1, O2, e1, a, _⟩ := s.at e'
  refine ⟨v, ?_, B, O, ?_, p, q⟩
  · rw [List.getElem?_append_right (by simp)] at e1
    simpa using e1
  · have z := slots_own (ow_dat a.rp.1) s emp_dj
    rw [emp_jn] at z
    exact z
theorem Stt.pop (h : Stt F Γ ((v, t) :: T) σ H) : Stt F Γ T σ H := by
  obtain ⟨B, O, s, p, q⟩ := h
  unfold Slots at s
  obtain ⟨w, r, O1, O2, e, a, b, d, rfl⟩ := s
  cases e
  exact ⟨B, O2, b, p.dropL d, q⟩
theorem Stt.weak (h : Stt F Γ T σ H) (w : Wk Γ Γ') : Stt F Γ' T σ H := by
  obtain ⟨B, O, s, p, q⟩ := h
  obtain ⟨Od, O', d, rfl, s'⟩ := s.weak (Wk.app _ w)
  exact ⟨B, O', s', p.dropL d, q⟩
theorem Stt.top (h : Stt F Γ ((v, t) :: T) σ H) : ∃ B O1 O2, Ow F.K B t O1 v ∧ Slots F.K B (T.map (fun p => some p.2) ++ Γ) O2 (T.map (fun p => some p.1) ++ σ) ∧ Dj O1 O2 ∧ Post F.B F.O F.H B (jn O1 O2) H ∧ ∀ p ∈ F.ins, σ[p.1]? = some (some p.2) := by
  obtain ⟨B, O, s, p, q⟩ := h
  unfold Slots at s
  obtain ⟨w, r, O1, O2, e, a, b, d, rfl⟩ := s
  cases e
  exact ⟨B, O1, O2, a, b, d, p, q⟩
theorem Stt.topd {d : Dt} (h : Stt F Γ ((v, .dat d) :: T) σ H) : ∃ B, Same B H ∧ Rp F.K B d v := by
  obtain ⟨B, O1, O2, a, _, _, p, _⟩ := h.top
  exact ⟨B, p.bh, a.rp.1⟩
theorem Stt.topd2 {d e : Dt} {u : V} (h : Stt F Γ ((u, .dat e) :: (v, .dat d) :: T) σ H) : ∃ B, Same B H ∧ Rp F.K B d v ∧ Rp F.K B e u := by
  obtain ⟨B, O1, O2, a, b, _, p, _⟩ := h.top
  rw [List.map_cons, List.map_cons] at b
  unfold Slots at b
  obtain ⟨w, r, P1, P2, e1, a2, _⟩ := b
  cases e1
  exact ⟨B, p.bh, a2.rp.1, a.rp.1⟩
theorem Stt.assign {j : Nat} (h : Stt F Γ ((v, t) :: T) σ H) (hj : j < Γ.length) (ni : ∀ p ∈ F.ins, p.1 ≠ j) : Stt F (Γ.set j (some t)) T (σ.set j (some v)) H := by
  obtain ⟨B, O1, O2, a, s, d, p, q⟩ := h.top
  have hl : T.length + j < (T.map (fun p => some p.2) ++ Γ).length := by simp; omega
  obtain ⟨Od, O3, d3, rfl, q1, _⟩ := s.put hl
  refine ⟨B, jn O1 O3, ?_, ?_, fun p hp => by rw [List.getElem?_set_ne (Ne.symm (ni p hp))]; exact q p hp⟩
  · have z := q1 B t O1 v (Same.refl _) a (Dj.rr d)
    rw [List.set_append_right _ _ (by simp), List.set_append_right _ _ (by simp)] at z
    simpa using z
  · rw [jn_swap (Dj.rl d)] at p
    exact p.dropL (Dj.jnr (Dj.rl d).symm d3)
end
end Sm
namespace Sm
open PySem L2
section
variable {F : Fx} {Γ Γ' : List Ent} {T : List (V × Own)} {σ : L2.St} {H H' : Hp} {v : V} {t : Own}
theorem Stt.freeze {ds : List Dt} (h : Stt F Γ ((v, .lst (ds.map Own.dat)) :: T) σ H) : Stt F Γ ((v, .dat (.lst ds)) :: T) σ H := by
  obtain ⟨B, O1, O2, a, s, d, p, q⟩ := h.top
  unfold Ow at a
  obtain ⟨l, vs, O', rfl, oa, n, rfl⟩ := a
  obtain ⟨r, rfl⟩ := oa.dats
  have nB : B l = none := by
    rcases p.dj.rl l with z | z
    · exact z
    · rw [upd_same] at z; cases z
  refine ⟨jn B (upd emp l (.lst vs)), O2, ?_, p.freeze d, q⟩
  have k : Rp F.K (jn B (upd emp l (.lst vs))) (.lst ds) (.ref l) := by
    unfold Rp
    exact ⟨l, vs, rfl, by rw [jn_none nB, upd_same], r.mono same_jnl⟩
  have z := slots_own (ow_dat k) (s.mono same_jnl) emp_dj
  rw [emp_jn] at z
  exact z
theorem Stt.freezeAt {i : Nat} {ds : List Dt} (h : Stt F Γ T σ H) (e : Γ[i]? = some (some (.lst (ds.map Own.dat)))) : Stt F (Γ.set i (some (.dat (.lst ds)))) T σ H := by
  obtain ⟨B, O, s, p, q⟩ := h
  have e' : (T.map (fun p => some p.2) ++ Γ)[T.length + i]? = some (some (.lst (ds.map Own.dat))) := by
    rw [List.getElem?_append_right (by simp)]
    simpa using e
  obtain ⟨v, O1, O2, e1, a, d, rfl, k, _⟩ := s.at e'
  unfold Ow at a
  obtain ⟨l, vs, O', rfl, oa, n, rfl⟩ := a
  obtain ⟨r, rfl⟩ := oa.dats
  have nB : B l = none := by
    rcases p.dj.rl l with z | z
    · exact z
    · rw [upd_same] at z; cases z
  refine ⟨jn B (upd emp l (.lst vs)), O2, ?_, p.freeze d, q⟩
  have kk : Rp F.K (jn B (upd emp l (.lst vs))) (.lst ds) (.ref l) := by
    unfold Rp
    exact ⟨l, vs, rfl, by rw [jn_none nB, upd_same], r.mono same_jnl⟩
  have z := k _ _ emp (.ref l) same_jnl (ow_dat kk) emp_dj
  rw [emp_jn, List.set_append_right _ _ (by simp), List.set_append_right _ _ (by simp)] at z
  have hs : σ.set (T.length + i - (T.map fun p => some p.1).length) (some (V.ref l)) = σ := by
    rw [List.getElem?_append_right (by simp)] at e1
    apply List.ext_getElem?
    intro j
    by_cases hj : T.length + i - (T.map fun p => some p.1).length = j
    · subst hj
      rw [e1]
      have hl := (List.getElem?_eq_some_iff.mp e1).1
      rw [List.getElem?_set_self hl]
    · rw [List.getElem?_set_ne hj]
  rw [hs] at z
  simpa using z
end
def Ev (F : Fx) (te : TE) (Γ : List Ent) (t : Own) : Prop :=
  ∀ T σ H, Stt F Γ T σ H → ∀ Q : VK, (∀ v H', Stt F Γ ((v, t) :: T) σ H' → Same H H' → Q v H') → te σ H Q
def EvT (F : Fx) (tt : TT) (Γ : List Ent) (b : Bool) : Prop :=
  ∀ T σ H, Stt F Γ T σ H → ∀ Q : Bool → Hp → Prop, (∀ H', Stt F Γ T σ H' → Same H H' → Q b H') → tt σ H Q
def Op2 (F : Fx) (r : R2) (tx ty tz : Own) : Prop :=
  ∀ Γ T σ H x y, Stt F Γ ((y, ty) :: (x, tx) :: T) σ H → ∀ Q : VK, (∀ z H', Stt F Γ ((z, tz) :: T) σ H' → Same H H' → Q z H') → r x y H Q
def Op1 (F : Fx) (r : V → Hp → VK → Prop) (tx tz : Own) : Prop :=
  ∀ Γ T σ H x, Stt F Γ ((x, tx) :: T) σ H → ∀ Q : VK, (∀ z H', Stt F Γ ((z, tz) :: T) σ H' → Same H H' → Q z H') → r x H Q
section
variable {F : Fx} {Γ : List Ent} {T : List (V × Own)} {σ : L2.St} {H : Hp} {ta tb tc te : TE} {tx ty tz t : Own} {r : R2} {tt uu : TT} {a b c : Bool} {i j k : Int} {x y : Str} {d e : Dt}
theorem rp_int {K : PySem.W.Frag} {B : Hp} {i : Int} {v : V} (h : Rp K B (.int i) v) : v = .int i := by unfold Rp at h; exact h
theorem rp_str {K : PySem.W.Frag} {B : Hp} {i : Str} {v : V} (h : Rp K B (.str i) v) : v = .str i := by unfold Rp at h; exact h
theorem rp_bl {K : PySem.W.Frag} {B : Hp} {i : Bool} {v : V} (h : Rp K B (.bl i) v) : v = .bl i := by unfold Rp at h; exact h
theorem rp_non {K : PySem.W.Frag} {B : Hp} {v : V} (h : Rp K B .non v) : v = .non := by unfold Rp at h; exact h
theorem ev_int : Ev F (tC (.int i)) Γ (.dat (.int i)) := fun T σ H h Q q => q _ H (h.push fun _ _ => by unfold Rp; rfl) (Same.refl _)
theorem ev_str : Ev F (tC (.str x)) Γ (.dat (.str x)) := fun T σ H h Q q => q _ H (h.push fun _ _ => by unfold Rp; rfl) (Same.refl _)
theorem ev_bl : Ev F (tC (.bl a)) Γ (.dat (.bl a)) := fun T σ H h Q q => q _ H (h.push fun _ _ => by unfold Rp; rfl) (Same.refl _)
theorem ev_non : Ev F (tC .non) Γ (.dat .non) := fun T σ H h Q q => q _ H (h.push fun _ _ => by unfold Rp; rfl) (Same.refl _)
theorem ev_var {i : Nat} (h : Γ[i]? = some (some (.dat d))) : Ev F (tVar i) Γ (.dat d) := fun T σ H s Q q => by
  obtain ⟨v, e, s'⟩ := s.dup h
  exact ⟨v, e, q v H s' (Same.refl _)⟩
theorem ev_op (h1 : Ev F ta Γ tx) (h2 : Ev F tb Γ ty) (ho : Op2 F r tx ty tz) : Ev F (tOp r ta tb) Γ tz := fun T σ H s Q q =>
  h1 T σ H s _ fun x H1 s1 e1 => h2 _ σ H1 s1 _ fun y H2 s2 e2 => ho _ _ σ H2 x y s2 Q fun z H3 s3 e3 => q z H3 s3 ((e1.trans e2).trans e3)
theorem ev_un {r : V → Hp → VK → Prop} (h1 : Ev F ta Γ tx) (ho : Op1 F r tx tz) : Ev F (tUn r ta) Γ tz := fun T σ H s Q q =>
  h1 T σ H s _ fun x H1 s1 e1 => ho _ _ σ H1 x s1 Q fun z H3 s3 e3 => q z H3 s3 (e1.trans e3)
theorem ev_is (h : Ev F te Γ t) (e : t = tx) : Ev F te Γ tx := e ▸ h
theorem op2_val {dx dy dz : Dt} (z : V) (hz : ∀ B, Rp F.K B dz z) (h : ∀ B H x y (Q : VK), Same B H → Rp F.K B dx x → Rp F.K B dy y → Q z H → r x y H Q) : Op2 F r (.dat dx) (.dat dy) (.dat dz) := fun Γ T σ H x y s Q q => by
  obtain ⟨B, e, h1, h2⟩ := s.topd2
  exact h B H x y Q e h1 h2 (q z H (s.pop.pop.push fun B _ => hz B) (Same.refl _))
theorem op1_val {r : V → Hp → VK → Prop} {dx dz : Dt} (z : V) (hz : ∀ B, Rp F.K B dz z) (h : ∀ B H x (Q : VK), Same B H → Rp F.K B dx x → Q z H → r x H Q) : Op1 F r (.dat dx) (.dat dz) := fun Γ T σ H x s Q q => by
  obtain ⟨B, e, h1⟩ := s.topd
  exact h B H x Q e h1 (q z H (s.pop.push fun B _ => hz B) (Same.refl _))
theorem op2_I0 {g : Int → Int → Int} : Op2 F (rI0 fun i j => .int (g i j)) (.dat (.int i)) (.dat (.int j)) (.dat (.int (g i j))) :=
  op2_val _ (fun B => by unfold Rp; rfl) fun B H x y Q _ h1 h2 q => ⟨i, j, rp_int h1, rp_int h2, q⟩
theorem op2_B0 {g : Int → Int → Bool} : Op2 F (rI0 fun i j => .bl (g i j)) (.dat (.int i)) (.dat (.int j)) (.dat (.bl (g i j))) :=
  op2_val _ (fun B => by unfold Rp; rfl) fun B H x y Q _ h1 h2 q => ⟨i, j, rp_int h1, rp_int h2, q⟩
theorem op2_I {C : Int → Int → Prop} {g : Int → Int → Int} (hc : C i j) : Op2 F (rI C fun i j => .int (g i j)) (.dat (.int i)) (.dat (.int j)) (.dat (.int (g i j))) :=
  op2_val _ (fun B => by unfold Rp; rfl) fun B H x y Q _ h1 h2 q => ⟨i, j, rp_int h1, rp_int h2, hc, q⟩
theorem ev_add (h1 : Ev F ta Γ (.dat (.int i))) (h2 : Ev F tb Γ (.dat (.int j))) : Ev F (tOp (rI0 fun i j => .int (i + j)) ta tb) Γ (.dat (.int (i + j))) := ev_op h1 h2 (op2_I0 (g := fun i j => i + j))
theorem ev_sub (h1 : Ev F ta Γ (.dat (.int i))) (h2 : Ev F tb Γ (.dat (.int j))) : Ev F (tOp (rI0 fun i j => .int (i - j)) ta tb) Γ (.dat (.int (i - j))) := ev_op h1 h2 (op2_I0 (g := fun i j => i - j))
theorem ev_mod (hc : 0 < j) (h1 : Ev F ta Γ (.dat (.int i))) (h2 : Ev F tb Γ (.dat (.int j))) : Ev F (tOp (rI (fun _ j => 0 < j) fun i j => .int (i % j)) ta tb) Γ (.dat (.int (i % j))) := ev_op h1 h2 (op2_I (C := fun _ j => 0 < j) (g := fun i j => i % j) hc)
theorem ev_pow (hc : CPow i j) (h1 : Ev F ta Γ (.dat (.int i))) (h2 : Ev F tb Γ (.dat (.int j))) : Ev F (tOp (rI CPow fun i j => .int (i ^ j.toNat)) ta tb) Γ (.dat (.int (i ^ j.toNat))) := ev_op h1 h2 (op2_I (g := fun i j => i ^ j.toNat) hc)
theorem ev_lt (h1 : Ev F ta Γ (.dat (.int i))) (h2 : Ev F tb Γ (.dat (.int j))) : Ev F (tOp (rI0 fun i j => .bl (decide (i < j))) ta tb) Γ (.dat (.bl (decide (i < j)))) := ev_op h1 h2 (op2_B0 (g := fun i j => decide (i < j)))
theorem ev_gt (h1 : Ev F ta Γ (.dat (.int i))) (h2 : Ev F tb Γ (.dat (.int j))) : Ev F (tOp (rI0 fun i j => .bl (decide (j < i))) ta tb) Γ (.dat (.bl (decide (j < i)))) := ev_op h1 h2 (op2_B0 (g := fun i j => decide (j < i)))
theorem ev_neg (h1 : Ev F ta Γ (.dat (.int i))) : Ev F (tUn (rU fun i => .int (-i)) ta) Γ (.dat (.int (-i))) := ev_un h1 (op1_val _ (fun B => by unfold Rp; rfl) fun B H x Q _ h q => ⟨i, rp_int h, q⟩)
theorem ev_eqI (h1 : Ev F ta Γ (.dat (.int i))) (h2 : Ev F tb Γ (.dat (.int j))) : Ev F (tOp rEq ta tb) Γ (.dat (.bl (decide (i = j)))) := ev_op h1 h2 (op2_val _ (fun B => by unfold Rp; rfl) fun B H x y Q _ h1 h2 q => by
  rw [rp_int h1, rp_int h2]
  exact ⟨rfl, by rw [dec_int, Bool.beq_eq_decide_eq]; exact q⟩)
theorem ev_neI (h1 : Ev F ta Γ (.dat (.int i))) (h2 : Ev F tb Γ (.dat (.int j))) : Ev F (tOp rNe ta tb) Γ (.dat (.bl (!decide (i = j)))) := ev_op h1 h2 (op2_val _ (fun B => by unfold Rp; rfl) fun B H x y Q _ h1 h2 q => by
  rw [rp_int h1, rp_int h2]
  exact ⟨rfl, by rw [dec_int, Bool.beq_eq_decide_eq]; exact q⟩)
theorem ev_eqS (h1 : Ev F ta Γ (.dat (.str x))) (h2 : Ev F tb Γ (.dat (.str y))) : Ev F (tOp rEq ta tb) Γ (.dat (.bl (decide (x = y)))) := ev_op h1 h2 (op2_val _ (fun B => by unfold Rp; rfl) fun B H x y Q _ h1 h2 q => by
  rw [rp_str h1, rp_str h2]
  exact ⟨rfl, by rw [dec_str, Bool.beq_eq_decide_eq]; exact q⟩)
theorem ev_neS (h1 : Ev F ta Γ (.dat (.str x))) (h2 : Ev F tb Γ (.dat (.str y))) : Ev F (tOp rNe ta tb) Γ (.dat (.bl (!decide (x = y)))) := ev_op h1 h2 (op2_val _ (fun B => by unfold Rp; rfl) fun B H x y Q _ h1 h2 q => by
  rw [rp_str h1, rp_str h2]
  exact ⟨rfl, by rw [dec_str, Bool.beq_eq_decide_eq]; exact q⟩)
theorem ev_neB (h1 : Ev F ta Γ (.dat (.bl a))) (h2 : Ev F tb Γ (.dat (.bl b))) : Ev F (tOp rNe ta tb) Γ (.dat (.bl (!decide (a = b)))) := ev_op h1 h2 (op2_val _ (fun B => by unfold Rp; rfl) fun B H x y Q _ h1 h2 q => by
  rw [rp_bl h1, rp_bl h2]
  exact ⟨rfl, by rw [dec_bl, Bool.beq_eq_decide_eq]; exact q⟩)
theorem et_test (h : Ev F te Γ (.dat (.bl b))) : EvT F (tTest te) Γ b := fun T σ H s Q q => h T σ H s _ fun v H' s' e => by
  obtain ⟨B, _, r⟩ := s'.topd
  exact ⟨b, rp_bl r, q H' s'.pop e⟩
theorem et_B (h : Ev F te Γ (.dat (.bl b))) : EvT F (tB te) Γ b := fun T σ H s Q q => h T σ H s _ fun v H' s' e => by
  obtain ⟨B, _, r⟩ := s'.topd
  exact ⟨b, rp_bl r, q H' s'.pop e⟩
theorem et_and (h1 : EvT F tt Γ a) (h2 : EvT F uu Γ b) : EvT F (tAnd tt uu) Γ (a && b) := fun T σ H s Q q => h1 T σ H s _ fun H1 s1 e1 => by
  cases a with
  | true =>
    show uu σ H1 Q
    exact h2 T σ H1 s1 Q fun H2 s2 e2 => q H2 s2 (e1.trans e2)
  | false =>
    show Q false H1
    exact q H1 s1 e1
theorem et_or (h1 : EvT F tt Γ a) (h2 : EvT F uu Γ b) : EvT F (tOr tt uu) Γ (a || b) := fun T σ H s Q q => h1 T σ H s _ fun H1 s1 e1 => by
  cases a with
  | true =>
    show Q true H1
    exact q H1 s1 e1
  | false =>
    show uu σ H1 Q
    exact h2 T σ H1 s1 Q fun H2 s2 e2 => q H2 s2 (e1.trans e2)
theorem et_not (h1 : EvT F tt Γ a) : EvT F (tNot tt) Γ (!a) := fun T σ H s Q q => h1 T σ H s _ fun H1 s1 e1 => q H1 s1 e1
end
end Sm
namespace Sm
open PySem L2
def inB {α : Type} (xs : List α) (i : Int) : Prop := -(xs.length : Int) ≤ i ∧ i < xs.length
instance {α : Type} (xs : List α) (i : Int) : Decidable (inB xs i) := by unfold inB; infer_instance
def ixI {α : Type} (xs : List α) (i : Int) : Nat := if 0 ≤ i then i.toNat else (i + xs.length).toNat
def getI {α : Type} [Inhabited α] (xs : List α) (i : Int) : α := xs.getD (ixI xs i) default
def cutL {α : Type} (xs : List α) (lo hi : Option Int) : List α := (xs.drop (HT.sIx xs.length 0 lo)).take (HT.sIx xs.length xs.length hi - HT.sIx xs.length 0 lo)
def setI {α : Type} (xs : List α) (i : Int) (x : α) : List α := xs.set (ixI xs i) x
theorem ixN_of {n : Nat} {i : Int} (h : -(n : Int) ≤ i ∧ i < n) : ixN n i = some (if 0 ≤ i then i.toNat else (i + n).toNat) := by
  unfold ixN
  by_cases p : 0 ≤ i
  · rw [if_pos p, if_pos h.2, if_pos p]
  · rw [if_neg p, if_pos h.1, if_neg p]
theorem ixI_lt {α : Type} {xs : List α} {i : Int} (h : inB xs i) : ixI xs i < xs.length := by
  unfold inB at h; unfold ixI
  split <;> omega
theorem atI_of {α : Type} {xs : List α} {i : Int} (h : inB xs i) : atI xs i = xs[ixI xs i]? := by
  unfold atI
  rw [ixN_of h]
  rfl
theorem getI_get {α : Type} [Inhabited α] {xs : List α} {i : Int} (h : inB xs i) : xs[ixI xs i]? = some (getI xs i) := by
  have q := ixI_lt h
  unfold getI
  rw [List.getD_eq_getElem?_getD, List.getElem?_eq_getElem q]
  rfl
def sgn (c : Nat) : Str := ⟨#[c]⟩
def getS (z : Str) (i : Int) : Nat := z.cps.toList.getD (ixI z.cps.toList i) 0
def inS (z : Str) (i : Int) : Prop := z.length ≤ 16777216 ∧ inB z.cps.toList i
instance (z : Str) (i : Int) : Decidable (inS z i) := by unfold inS; infer_instance
theorem line_le {n : Nat} (h : n ≤ 16777216) : n ≤ sizeLine := by rw [sizeLine_eq]; exact h
theorem line_lt {n : Nat} (h : n < 16777216) : n < sizeLine := by rw [sizeLine_eq]; exact h
section
variable {F : Fx} {Γ Γ' : List Ent} {T : List (V × Own)} {σ : L2.St} {H H' : Hp} {v : V} {t : Own}
def EvL (F : Fx) (te : TE) (Γ : List Ent) (ds : List Dt) : Prop :=
  ∀ T σ H, Stt F Γ T σ H → ∀ Q : VK, (∀ l vs H', H' l = some (.lst vs) → Stt F Γ ((.ref l, .rv vs ds) :: T) σ H' → Same H H' → Q (.ref l) H') → te σ H Q
def EvQ (F : Fx) (te : TE) (Γ : List Ent) (d : Dt) : Prop :=
  ∀ T σ H, Stt F Γ T σ H → ∀ Q : VK, (∀ v H', Rp F.K H' d v → Stt F Γ T σ H' → Same H H' → Q v H') → te σ H Q
theorem Stt.rvs {vs : List V} {ds : List Dt} (h : Stt F Γ ((v, .rv vs ds) :: T) σ H) : ∃ B, Same B H ∧ RpA F.K B ds vs := by
  obtain ⟨B, O1, O2, a, _, _, p, _⟩ := h.top
  unfold Ow at a
  exact ⟨B, p.bh, a.1⟩
theorem Stt.derive {vs : List V} {ds : List Dt} {d : Dt} (h : Stt F Γ ((v, .rv vs ds) :: T) σ H) {u : V} (k : ∀ B, Same B H → RpA F.K B ds vs → Rp F.K B d u) : Stt F Γ ((u, .dat d) :: T) σ H := by
  obtain ⟨B, O1, O2, a, s, d', p, q⟩ := h.top
  unfold Ow at a
  obtain ⟨r, rfl⟩ := a
  exact ⟨B, _, slots_own (ow_dat (k B p.bh r)) s emp_dj, p, q⟩
variable {ta tb te : TE} {ds es : List Dt} {d e : Dt} {i j : Int}
theorem el_dat (h : Ev F te Γ (.dat (.lst ds))) : EvL F te Γ ds := fun T σ H s Q q => h T σ H s Q fun v H' s' e => by
  obtain ⟨B, O1, O2, a, b, c, p, i⟩ := s'.top
  obtain ⟨r, rfl⟩ := a.rp
  unfold Rp at r
  obtain ⟨l, vs, rfl, hl, ra⟩ := r
  exact q l vs H' (p.bh l _ hl) ⟨B, _, slots_own (show Ow F.K B (.rv vs ds) emp (.ref l) by unfold Ow; exact ⟨ra, rfl⟩) b emp_dj, p, i⟩ e
theorem el_own (h : Ev F te Γ (.lst (ds.map Own.dat))) : EvL F te Γ ds := fun T σ H s Q q => h T σ H s Q fun v H' s' e => by
  obtain ⟨B, O1, O2, a, b, c, p, i⟩ := s'.top
  unfold Ow at a
  obtain ⟨l, vs, O', rfl, oa, n, rfl⟩ := a
  obtain ⟨r, rfl⟩ := oa.dats
  refine q l vs H' (p.oh l _ (jn_some upd_same)) ⟨B, jn emp O2, slots_own (show Ow F.K B (.rv vs ds) emp (.ref l) by unfold Ow; exact ⟨r, rfl⟩) b emp_dj, ?_, i⟩ e
  rw [emp_jn]
  exact p.dropL c
theorem el_var {n : Nat} (h : Γ[n]? = some (some (.lst (ds.map Own.dat)))) : EvL F (tVar n) Γ ds := fun T σ H s Q q => by
  obtain ⟨B, O, s1, p, i⟩ := s
  have e' : (T.map (fun p => some p.2) ++ Γ)[T.length + n]? = some (some (.lst (ds.map Own.dat))) := by
    rw [List.getElem?_append_right (by simp)]
    simpa using h
  obtain ⟨v, O1, O2, e1, a, dj, rfl, _⟩ := s1.at e'
  unfold Ow at a
  obtain ⟨l, vs, O', rfl, oa, n', rfl⟩ := a
  obtain ⟨r, rfl⟩ := oa.dats
  refine ⟨.ref l, ?_, q l vs H (p.oh l _ (jn_some upd_same)) ⟨B, _, ?_, p, i⟩ (Same.refl _)⟩
  · rw [List.getElem?_append_right (by simp)] at e1
    simpa using e1
  · have z := slots_own (show Ow F.K B (.rv vs ds) emp (.ref l) by unfold Ow; exact ⟨r, rfl⟩) s1 emp_dj
    rw [emp_jn] at z
    exact z
theorem eq_l (h : EvL F te Γ ds) : EvQ F te Γ (.lst ds) := fun T σ H s Q q => h T σ H s Q fun l vs H' hl s' e => by
  obtain ⟨B, eb, r⟩ := s'.rvs
  refine q _ H' ?_ s'.pop e
  unfold Rp
  exact ⟨l, vs, rfl, hl, r.mono eb⟩
theorem ev_eqD (h1 : EvQ F ta Γ d) (h2 : EvQ F tb Γ e) (p1 : d.pl = true) (p2 : e.pl = true) (s1 : SeqAt.shaped d.py = true) (s2 : SeqAt.shaped e.py = true) : Ev F (tOp (rEqD F.K) ta tb) Γ (.dat (.bl (PyData.eqv d.py e.py))) := fun T σ H s Q q =>
  h1 T σ H s _ fun v H1 r1 st1 e1 => h2 T σ H1 st1 _ fun u H2 r2 st2 e2 =>
    ⟨d.py, e.py, (r1.mono e2).dp p1, r2.dp p2, s1, s2, q _ H2 (st2.push fun _ _ => by unfold Rp; rfl) (e1.trans e2)⟩
theorem ev_neD (h1 : EvQ F ta Γ d) (h2 : EvQ F tb Γ e) (p1 : d.pl = true) (p2 : e.pl = true) (s1 : SeqAt.shaped d.py = true) (s2 : SeqAt.shaped e.py = true) : Ev F (tOp (rNeD F.K) ta tb) Γ (.dat (.bl (!PyData.eqv d.py e.py))) := fun T σ H s Q q =>
  h1 T σ H s _ fun v H1 r1 st1 e1 => h2 T σ H1 st1 _ fun u H2 r2 st2 e2 =>
    ⟨d.py, e.py, (r1.mono e2).dp p1, r2.dp p2, s1, s2, q _ H2 (st2.push fun _ _ => by unfold Rp; rfl) (e1.trans e2)⟩
def SttA (F : Fx) (Γ : List Ent) (T : List (V × Own)) (vs : List V) (ds : List Dt) (σ : L2.St) (H : Hp) : Prop :=
  ∃ B O, RpA F.K B ds vs ∧ Slots F.K B (T.map (fun p => some p.2) ++ Γ) O (T.map (fun p => some p.1) ++ σ) ∧ Post F.B F.O F.H B O H ∧ ∀ p ∈ F.ins, σ[p.1]? = some (some p.2)
def EvA (F : Fx) (ta : TA) (Γ : List Ent) (ds : List Dt) : Prop :=
  ∀ T σ H, Stt F Γ T σ H → ∀ Q : List V → Hp → Prop, (∀ vs H', SttA F Γ T vs ds σ H' → Same H H' → Q vs H') → ta σ H Q
theorem SttA.nil (h : Stt F Γ T σ H) : SttA F Γ T [] [] σ H := by
  obtain ⟨B, O, s, p, q⟩ := h
  exact ⟨B, O, rpa_nil, s, p, q⟩
theorem SttA.cons {vs : List V} (h : SttA F Γ ((v, .dat d) :: T) vs ds σ H) : SttA F Γ T (v :: vs) (d :: ds) σ H := by
  obtain ⟨B, O, r, s, p, q⟩ := h
  rw [List.map_cons, List.map_cons] at s
  unfold Slots at s
  obtain ⟨w, r', O1, O2, e, a, b, c, rfl⟩ := s
  cases e
  obtain ⟨ra, rfl⟩ := a.rp
  exact ⟨B, O2, rpa_cons ra r, b, by rw [emp_jn] at p; exact p, q⟩
theorem ea_nil : EvA F tNil Γ [] := fun T σ H s Q q => q [] H (SttA.nil s) (Same.refl _)
theorem ea_cons {tr : TA} (h1 : Ev F te Γ (.dat d)) (h2 : EvA F tr Γ ds) : EvA F (tCons te tr) Γ (d :: ds) := fun T σ H s Q q =>
  h1 T σ H s _ fun v H1 s1 e1 => h2 _ σ H1 s1 _ fun vs H2 s2 e2 => q (v :: vs) H2 s2.cons (e1.trans e2)
theorem SttA.tup {vs : List V} (h : SttA F Γ T vs ds σ H) {p : Addr} (hp : H p = none) : Stt F Γ ((.ref p, .dat (.tup ds)) :: T) σ (upd H p (.tup vs)) := by
  obtain ⟨B, O, r, s, P, q⟩ := h
  have nB := none_of_same P.bh hp
  refine ⟨upd B p (.tup vs), O, ?_, P.newB hp, q⟩
  have k : Rp F.K (upd B p (.tup vs)) (.tup ds) (.ref p) := by
    unfold Rp
    exact ⟨p, vs, rfl, SqT.of upd_same, r.mono (same_upd nB)⟩
  have z := slots_own (ow_dat k) (s.mono (same_upd nB)) emp_dj
  rw [emp_jn] at z
  exact z
theorem SttA.lst {vs : List V} (h : SttA F Γ T vs ds σ H) {p : Addr} (hp : H p = none) : Stt F Γ ((.ref p, .lst (ds.map Own.dat)) :: T) σ (upd H p (.lst vs)) := by
  obtain ⟨B, O, r, s, P, q⟩ := h
  have hs : Stt F Γ T σ H := ⟨B, O, s, P, q⟩
  have n : O p = none := none_of_same P.oh hp
  have dd : Dj (upd emp p (.lst vs)) O := Dj.upd emp_dj n
  have ee : jn (upd emp p (.lst vs)) O = upd O p (.lst vs) := by rw [← upd_jn, emp_jn]
  refine ⟨B, jn (upd emp p (.lst vs)) O, slots_own ?_ s dd, ?_, q⟩
  · unfold Ow
    exact ⟨p, vs, emp, rfl, owa_dats r, rfl, rfl⟩
  · rw [ee]
    exact P.newO hp fun xs z => nomatch z
theorem ev_tup {ta : TA} (h : EvA F ta Γ ds) (hl : ds.length ≤ 1000) : Ev F (tTup ta) Γ (.dat (.tup ds)) := fun T σ H s Q q =>
  h T σ H s _ fun vs H1 s1 e1 => by
    have el : vs.length = ds.length := by obtain ⟨B, O, r, _⟩ := s1; exact r.length
    refine ⟨by rw [el]; exact line_le (by omega), fun p hp => ?_⟩
    exact q _ _ (s1.tup hp) (e1.trans (same_upd hp))
theorem ev_lst {ta : TA} (h : EvA F ta Γ ds) (hl : ds.length ≤ 1000) : Ev F (tLst ta) Γ (.lst (ds.map Own.dat)) := fun T σ H s Q q =>
  h T σ H s _ fun vs H1 s1 e1 => by
    have el : vs.length = ds.length := by obtain ⟨B, O, r, _⟩ := s1; exact r.length
    refine ⟨by rw [el]; exact line_le (by omega), fun p hp => ?_⟩
    exact q _ _ (s1.lst hp) (e1.trans (same_upd hp))
theorem ev_frz (h : Ev F te Γ (.lst (ds.map Own.dat))) : Ev F te Γ (.dat (.lst ds)) := fun T σ H s Q q => h T σ H s Q fun v H' s' e => q v H' s'.freeze e
theorem Stt.newL {vs us : List V} (h : Stt F Γ ((v, .rv vs ds) :: T) σ H) {p : Addr} (hp : H p = none) (k : ∀ B, RpA F.K B ds vs → RpA F.K B es us) : Stt F Γ ((.ref p, .lst (es.map Own.dat)) :: T) σ (upd H p (.lst us)) := by
  obtain ⟨B, O1, O2, a, s, d', P, q⟩ := h.top
  unfold Ow at a
  obtain ⟨r, rfl⟩ := a
  rw [emp_jn] at P
  exact SttA.lst ⟨B, O2, k B r, s, P, q⟩ hp
theorem Stt.newL2 {vs us ws : List V} {gs : List Dt} {u : V} (h : Stt F Γ ((u, .rv us es) :: (v, .rv vs ds) :: T) σ H) {p : Addr} (hp : H p = none) (k : ∀ B, RpA F.K B ds vs → RpA F.K B es us → RpA F.K B gs ws) :
    Stt F Γ ((.ref p, .lst (gs.map Own.dat)) :: T) σ (upd H p (.lst ws)) := by
  obtain ⟨B, O1, O2, a, s, d', P, q⟩ := h.top
  unfold Ow at a
  obtain ⟨r, rfl⟩ := a
  rw [emp_jn] at P
  rw [List.map_cons, List.map_cons] at s
  unfold Slots at s
  obtain ⟨w, r', P1, P2, e, a2, b, c, rfl⟩ := s
  cases e
  unfold Ow at a2
  obtain ⟨r2, rfl⟩ := a2
  rw [emp_jn] at P
  exact SttA.lst ⟨B, P2, k B r2 r, b, P, q⟩ hp
theorem ev_lenL (h : EvL F te Γ ds) : Ev F (tCB (fun xs H Q => ∃ p ys, xs = [.ref p] ∧ (SqL F.K H p ys ∨ SqT F.K H p ys) ∧ Q (.int ys.length) H) (tCons te tNil)) Γ (.dat (.int ds.length)) := fun T σ H s Q q =>
  h T σ H s _ fun l vs H1 hl s1 e1 => ⟨l, vs, rfl, .inl (SqL.of hl), by
    obtain ⟨B, eb, r⟩ := s1.rvs
    rw [r.length]
    exact q _ H1 (s1.pop.push fun _ _ => by unfold Rp; rfl) e1⟩
theorem ev_lenT (h : Ev F te Γ (.dat (.tup ds))) : Ev F (tCB (fun xs H Q => ∃ p ys, xs = [.ref p] ∧ (SqL F.K H p ys ∨ SqT F.K H p ys) ∧ Q (.int ys.length) H) (tCons te tNil)) Γ (.dat (.int ds.length)) := fun T σ H s Q q =>
  h T σ H s _ fun v H1 s1 e1 => by
    obtain ⟨B, eb, r⟩ := s1.topd
    unfold Rp at r
    obtain ⟨a, xs, rfl, hs, ra⟩ := r
    refine ⟨a, xs, rfl, .inr (sqt_mono eb hs), ?_⟩
    rw [ra.length]
    exact q _ H1 (s1.pop.push fun _ _ => by unfold Rp; rfl) e1
theorem ev_lenX {ns : List Int} (h : Ev F te Γ (.dat (.scr ns))) : Ev F (tCB (fun xs H Q => ∃ p ys, xs = [.ref p] ∧ (SqL F.K H p ys ∨ SqT F.K H p ys) ∧ Q (.int ys.length) H) (tCons te tNil)) Γ (.dat (.int ns.length)) := fun T σ H s Q q =>
  h T σ H s _ fun v H1 s1 e1 => by
    obtain ⟨B, eb, r⟩ := s1.topd
    unfold Rp at r
    obtain ⟨a, rfl, hs⟩ := r
    refine ⟨a, _, rfl, .inl (sql_mono eb hs), ?_⟩
    rw [List.length_map]
    exact q _ H1 (s1.pop.push fun _ _ => by unfold Rp; rfl) e1
theorem ev_lenS {x : Str} (hx : x.length ≤ 16777216) (h : Ev F te Γ (.dat (.str x))) : Ev F (tCB (fun xs H Q => ∃ z, xs = [.str z] ∧ z.length ≤ sizeLine ∧ Q (.int z.length) H) (tCons te tNil)) Γ (.dat (.int x.length)) := fun T σ H s Q q =>
  h T σ H s _ fun v H1 s1 e1 => by
    obtain ⟨B, eb, r⟩ := s1.topd
    exact ⟨x, by rw [rp_str r], line_le hx, q _ H1 (s1.pop.push fun _ _ => by unfold Rp; rfl) e1⟩
theorem ev_ixL {α : Type} [Inhabited α] {enc : α → Dt} {xs : List α} (hb : inB xs i) (h1 : EvL F ta Γ (xs.map enc)) (h2 : Ev F tb Γ (.dat (.int i))) : Ev F (tOp (rIxL F.K) ta tb) Γ (.dat (enc (getI xs i))) := fun T σ H s Q q =>
  h1 T σ H s _ fun l vs H1 hl s1 e1 => h2 _ σ H1 s1 _ fun u H2 s2 e2 => by
    obtain ⟨B, eb, r⟩ := s2.topd
    have s3 := s2.pop
    obtain ⟨B', eb', ra⟩ := s3.rvs
    have hl' : vs.length = xs.length := by rw [ra.length, List.length_map]
    have hb' : inB vs i := by unfold inB at hb ⊢; rw [hl']; exact hb
    have ix : ixI vs i = ixI xs i := by unfold ixI; rw [hl']
    obtain ⟨w, hw⟩ : ∃ w, vs[ixI vs i]? = some w := ⟨_, List.getElem?_eq_getElem (ixI_lt hb')⟩
    refine ⟨l, vs, i, w, rfl, rp_int r, SqL.of (e2 l _ hl), by rw [atI_of hb', hw], ?_⟩
    refine q w H2 (s3.derive fun B2 _ rb => ?_) (e1.trans e2)
    have hg : (xs.map enc)[ixI xs i]? = some (enc (getI xs i)) := by rw [List.getElem?_map, getI_get hb]; rfl
    obtain ⟨w', e', rw'⟩ := rb.get hg
    rw [← ix, hw] at e'
    cases e'
    exact rw'
theorem ev_ixT {α : Type} [Inhabited α] {enc : α → Dt} {xs : List α} (hb : inB xs i) (h1 : Ev F ta Γ (.dat (.tup (xs.map enc)))) (h2 : Ev F tb Γ (.dat (.int i))) : Ev F (tOp (rIxT F.K) ta tb) Γ (.dat (enc (getI xs i))) :=
  ev_op h1 h2 fun Γ T σ H x y s Q q => by
    obtain ⟨B, O1, O2, a, b, c, p, ii⟩ := s.top
    rw [List.map_cons, List.map_cons] at b
    unfold Slots at b
    obtain ⟨w, r', P1, P2, e, a2, b2, c2, rfl⟩ := b
    cases e
    obtain ⟨r1, rfl⟩ := a.rp
    obtain ⟨r2, rfl⟩ := a2.rp
    unfold Rp at r2
    obtain ⟨a', vs, rfl, hs, ra⟩ := r2
    have hl' : vs.length = xs.length := by rw [ra.length, List.length_map]
    have hb' : inB vs i := by unfold inB at hb ⊢; rw [hl']; exact hb
    have ix : ixI vs i = ixI xs i := by unfold ixI; rw [hl']
    have hg : (xs.map enc)[ixI xs i]? = some (enc (getI xs i)) := by rw [List.getElem?_map, getI_get hb]; rfl
    obtain ⟨u, e', ru⟩ := ra.get hg
    rw [← ix] at e'
    refine ⟨a', vs, i, u, rfl, rp_int r1, sqt_mono p.bh hs, by rw [atI_of hb', e'], q u H ⟨B, _, slots_own (ow_dat ru) b2 emp_dj, ?_, ii⟩ (Same.refl _)⟩
    rw [emp_jn, emp_jn] at p
    rw [emp_jn]
    exact p
theorem ev_ixC {n : Nat} (hn : ds[n]? = some d) (h1 : Ev F ta Γ (.dat (.tup ds))) (h2 : Ev F tb Γ (.dat (.int i))) (hi : ixN ds.length i = some n := by rfl) : Ev F (tOp (rIxT F.K) ta tb) Γ (.dat d) :=
  ev_op h1 h2 fun Γ T σ H x y s Q q => by
    obtain ⟨B, O1, O2, a, b, c, p, ii⟩ := s.top
    rw [List.map_cons, List.map_cons] at b
    unfold Slots at b
    obtain ⟨w, r', P1, P2, e, a2, b2, c2, rfl⟩ := b
    cases e
    obtain ⟨r1, rfl⟩ := a.rp
    obtain ⟨r2, rfl⟩ := a2.rp
    unfold Rp at r2
    obtain ⟨a', vs, rfl, hs, ra⟩ := r2
    obtain ⟨u, e', ru⟩ := ra.get hn
    refine ⟨a', vs, i, u, rfl, rp_int r1, sqt_mono p.bh hs, ?_, q u H ⟨B, _, slots_own (ow_dat ru) b2 emp_dj, ?_, ii⟩ (Same.refl _)⟩
    · unfold atI
      rw [ra.length, hi]
      exact e'
    · rw [emp_jn, emp_jn] at p
      rw [emp_jn]
      exact p
theorem ev_ixX {ns : List Int} (hb : inB ns i) (h1 : Ev F ta Γ (.dat (.scr ns))) (h2 : Ev F tb Γ (.dat (.int i))) : Ev F (tOp (rIxL F.K) ta tb) Γ (.dat (.int (getI ns i))) :=
  ev_op h1 h2 (op2_val _ (fun B => by unfold Rp; rfl) fun B H x y Q eb h1 h2 q => by
    unfold Rp at h1
    obtain ⟨a, rfl, hs⟩ := h1
    refine ⟨a, _, i, .int (getI ns i), rfl, rp_int h2, sql_mono eb hs, ?_, q⟩
    have hb' : inB (ns.map V.int) i := by unfold inB at hb ⊢; rw [List.length_map]; exact hb
    rw [atI_of hb']
    have ix : ixI (ns.map V.int) i = ixI ns i := by unfold ixI; rw [List.length_map]
    rw [ix, List.getElem?_map, getI_get hb]
    rfl)
theorem ev_ixS {z : Str} (hb : inS z i) (h1 : Ev F ta Γ (.dat (.str z))) (h2 : Ev F tb Γ (.dat (.int i))) : Ev F (tOp rIxS ta tb) Γ (.dat (.str (sgn (getS z i)))) :=
  ev_op h1 h2 (op2_val _ (fun B => by unfold Rp; rfl) fun B H x y Q eb h1 h2 q => by
    refine ⟨z, i, getS z i, rp_str h1, rp_int h2, line_le hb.1, ?_, q⟩
    rw [atI_of hb.2, getI_get hb.2]
    rfl)
def EvO (F : Fx) (to : TO) (Γ : List Ent) (o : Option Int) : Prop :=
  ∀ T σ H, Stt F Γ T σ H → ∀ Q : Option Int → Hp → Prop, (∀ H', Stt F Γ T σ H' → Same H H' → Q o H') → to σ H Q
theorem eo_no : EvO F tNoPart Γ none := fun T σ H s Q q => q H s (Same.refl _)
theorem eo_some (h : Ev F te Γ (.dat (.int i))) : EvO F (tPart te) Γ (some i) := fun T σ H s Q q => h T σ H s _ fun v H1 s1 e1 => by
  obtain ⟨B, eb, r⟩ := s1.topd
  exact ⟨i, rp_int r, q H1 s1.pop e1⟩
variable {tl th : TO} {lo hi : Option Int}
theorem cutL_map {α β : Type} (f : α → β) (xs : List α) (lo hi : Option Int) : cutL (xs.map f) lo hi = (cutL xs lo hi).map f := by
  unfold cutL
  rw [List.length_map, List.map_take, List.map_drop]
theorem RpA.cut {K : PySem.W.Frag} {B : Hp} {vs : List V} (h : RpA K B ds vs) (lo hi : Option Int) : RpA K B (cutL ds lo hi) (cutV vs lo hi) := by
  unfold cutL cutV
  rw [h.length]
  exact (h.drop _).take _
theorem ev_slL (h : EvL F te Γ ds) (hl : EvO F tl Γ lo) (hh : EvO F th Γ hi) : Ev F (tSl (rSlL F.K) te tl th) Γ (.lst ((cutL ds lo hi).map Own.dat)) := fun T σ H s Q q =>
  h T σ H s _ fun l vs H1 hv s1 e1 => hl _ σ H1 s1 _ fun H2 s2 e2 => hh _ σ H2 s2 _ fun H3 s3 e3 =>
    ⟨l, vs, rfl, SqL.of (e3 l _ (e2 l _ hv)), fun p hp => q _ _ (s3.newL hp fun B r => r.cut lo hi) (((e1.trans e2).trans e3).trans (same_upd hp))⟩
theorem ev_slX {ns : List Int} (h : Ev F te Γ (.dat (.scr ns))) (hl : EvO F tl Γ lo) (hh : EvO F th Γ hi) : Ev F (tSl (rSlL F.K) te tl th) Γ (.lst (((cutL ns lo hi).map Dt.int).map Own.dat)) := fun T σ H s Q q =>
  h T σ H s _ fun v H1 s1 e1 => hl _ σ H1 s1 _ fun H2 s2 e2 => hh _ σ H2 s2 _ fun H3 s3 e3 => by
    obtain ⟨B, eb, r⟩ := s3.topd
    unfold Rp at r
    obtain ⟨a, rfl, hs⟩ := r
    refine ⟨a, _, rfl, sql_mono eb hs, fun p hp => q _ _ ?_ (((e1.trans e2).trans e3).trans (same_upd hp))⟩
    have k : cutV (ns.map V.int) lo hi = (cutL ns lo hi).map V.int := cutL_map V.int ns lo hi
    rw [k]
    obtain ⟨B, O, s4, P, ii⟩ := s3.pop
    exact SttA.lst ⟨B, O, rpa_of_ints, s4, P, ii⟩ hp
theorem ev_slS {z : Str} (hz : z.length ≤ 16777216) (h : Ev F te Γ (.dat (.str z))) (hl : EvO F tl Γ lo) (hh : EvO F th Γ hi) : Ev F (tSl rSlS te tl th) Γ (.dat (.str (cutS z lo hi))) := fun T σ H s Q q =>
  h T σ H s _ fun v H1 s1 e1 => hl _ σ H1 s1 _ fun H2 s2 e2 => hh _ σ H2 s2 _ fun H3 s3 e3 => by
    obtain ⟨B, eb, r⟩ := s3.topd
    exact ⟨z, rp_str r, line_le hz, q _ H3 (s3.pop.push fun _ _ => by unfold Rp; rfl) ((e1.trans e2).trans e3)⟩
theorem ev_cat (hb : ds.length + es.length ≤ 16777216) (h1 : EvL F ta Γ ds) (h2 : EvL F tb Γ es) : Ev F (tOp rCat ta tb) Γ (.lst ((ds ++ es).map Own.dat)) := fun T σ H s Q q =>
  h1 T σ H s _ fun l vs H1 hv s1 e1 => h2 _ σ H1 s1 _ fun m us H2 hu s2 e2 => by
    obtain ⟨B, eb, r⟩ := s2.rvs
    obtain ⟨B', eb', r'⟩ := s2.pop.rvs
    refine ⟨l, m, vs, us, rfl, rfl, e2 l _ hv, hu, by rw [r.length, r'.length]; exact line_le hb, fun p hp => ?_⟩
    exact q _ _ (s2.newL2 hp fun B a b => a.append b) ((e1.trans e2).trans (same_upd hp))
theorem ev_tupleL (h : EvL F te Γ ds) : Ev F (tCB (fun xs H Q => ∃ p ys, xs = [.ref p] ∧ ((SqL F.K H p ys ∧ ∀ l, H l = none → Q (.ref l) (upd H l (.tup ys))) ∨ (SqT F.K H p ys ∧ Q (.ref p) H))) (tCons te tNil)) Γ (.dat (.tup ds)) := fun T σ H s Q q =>
  h T σ H s _ fun l vs H1 hl s1 e1 => ⟨l, vs, rfl, .inl ⟨SqL.of hl, fun p hp => by
    obtain ⟨B, O1, O2, a, b, c, P, ii⟩ := s1.top
    unfold Ow at a
    obtain ⟨r, rfl⟩ := a
    rw [emp_jn] at P
    exact q _ _ (SttA.tup ⟨B, O2, r, b, P, ii⟩ hp) (e1.trans (same_upd hp))⟩⟩
theorem ev_catS {x y : Str} (hb : x.length + y.length ≤ 16777216) (h1 : Ev F ta Γ (.dat (.str x))) (h2 : Ev F tb Γ (.dat (.str y))) :
    Ev F (tOp (fun x y H Q => ∃ i j, x = .str i ∧ y = .str j ∧ i.length + j.length ≤ sizeLine ∧ Q (.str (i ++ j)) H) ta tb) Γ (.dat (.str (x ++ y))) :=
  ev_op h1 h2 (op2_val _ (fun B => by unfold Rp; rfl) fun B H a b Q eb h1 h2 q => ⟨x, y, rp_str h1, rp_str h2, line_le hb, q⟩)
theorem ev_ninC {c : Nat} {z : Str} (h1 : Ev F ta Γ (.dat (.str (sgn c)))) (h2 : Ev F tb Γ (.dat (.str z))) : Ev F (tOp (fun x y H Q => ∃ (c : Nat) (z : Str), x = .str ⟨#[c]⟩ ∧ y = .str z ∧ Q (.bl (!decide (c ∈ z.cps.toList))) H) ta tb) Γ (.dat (.bl (!decide (c ∈ z.cps.toList)))) :=
  ev_op h1 h2 (op2_val _ (fun B => by unfold Rp; rfl) fun B H a b Q eb h1 h2 q => ⟨c, z, rp_str h1, rp_str h2, q⟩)
end
end Sm
namespace Sm
open PySem L2
def R.guard {α : Type} (p : Prop) [Decidable p] (k : R α) : R α := if p then k else .bad
def R.calm {α : Type} : R α → R α
  | .ok a => .ok a
  | _ => .bad
def foldR {α S : Type} (f : α → S → R S) : List α → S → R S
  | [], s => .ok s
  | x :: xs, s => (f x s).bind (foldR f xs)
inductive Ctl (S ρ : Type) where
  | nx (s : S) | rt (r : ρ) | bk (s : S)
def Ctl.step {S ρ : Type} (c : Ctl S ρ) (k : S → R (Ctl S ρ)) : R (Ctl S ρ) := match c with
  | .nx s => k s
  | .bk s => .ok (.nx s)
  | .rt r => .ok (.rt r)
def forR {α S ρ : Type} (f : α → S → R (Ctl S ρ)) : List α → S → R (Ctl S ρ)
  | [], s => .ok (.nx s)
  | x :: xs, s => (f x s).bind fun c => c.step (forR f xs)
def Ctl.fin {S ρ : Type} (c : Ctl S ρ) (k : S → R ρ) : R ρ := match c with
  | .nx s => k s
  | .bk s => k s
  | .rt r => .ok r
def Ctl.fin2 {S S2 ρ : Type} (c : Ctl S ρ) (k : S → R (Ctl S2 ρ)) : R (Ctl S2 ρ) := match c with
  | .nx s => k s
  | .bk s => k s
  | .rt r => .ok (.rt r)
def whileR {S ρ : Type} (c : S → R Bool) (f : S → R (Ctl S ρ)) : Nat → S → R (Ctl S ρ)
  | 0, _ => .bad
  | n + 1, s => (c s).bind fun b => match b with
    | false => .ok (.nx s)
    | true => (f s).bind fun c' => c'.step (whileR c f n)
def mapR {α β : Type} (f : α → R β) : List α → R (List β)
  | [] => .ok []
  | x :: xs => (f x).calm.bind fun y => (mapR f xs).bind fun ys => .ok (y :: ys)
def rng (lo hi : Int) : List Int := (List.range (hi - lo).toNat).map fun (i : Nat) => lo + (i : Int)
def ErrAt (Ce : Exn → Addr) (E : XK) (e : Exn) (H : Hp) : Prop := match e with
  | .noDealing r => ∀ d, H d = some (.xd [(("row" : Str), V.int r)]) → E (.ref (Ce e)) (some d) H
  | _ => E (.ref (Ce e)) none H
structure WOk (F : Fx) (Γe : List Ent) (Er : L2.St → Exn → Hp → Prop) {ρ : Type} (W : R ρ → Prop) : Prop where
  bad : ¬ W .bad
  err : ∀ e, W (.err e) → ∀ σ H, Stt F Γe [] σ H → Er σ e H
section
variable {F : Fx} {Γ Γ' Γe : List Ent} {T : List (V × Own)} {σ : L2.St} {H H' : Hp} {v : V} {t : Own} {Er : L2.St → Exn → Hp → Prop} {ρ α β S : Type} {W : R ρ → Prop}
theorem R.guard_ok {p : Prop} [Decidable p] {k : R ρ} (ok : WOk F Γe Er W) (h : W (R.guard p k)) : p ∧ W k := by
  unfold R.guard at h
  by_cases c : p
  · rw [if_pos c] at h; exact ⟨c, h⟩
  · rw [if_neg c] at h; exact absurd h ok.bad
theorem WOk.bind (ok : WOk F Γe Er W) (k : α → R ρ) : WOk F Γe Er (fun m : R α => W (m.bind k)) := ⟨ok.bad, ok.err⟩
theorem WOk.drop (ok : WOk F Γe Er W) {Γ2 : List Ent} (w : Wk Γ2 Γe) : WOk F Γ2 Er W := ⟨ok.bad, fun e h σ H s => ok.err e h σ H (s.weak w)⟩
theorem Stt.pops : ∀ {T : List (V × Own)} {H : Hp}, Stt F Γ T σ H → Stt F Γ [] σ H
  | [], _, h => h
  | _ :: T, _, h => Stt.pops (T := T) h.pop
def Wsh (K : PySem.W.Frag) (Ce : Exn → Addr) (B O H : Hp) (Q : VK) (E : XK) (res : α → Own) (outs : α → List Own) (keep : List Own) (iv : List V) : R α → Prop
  | .ok a => ∀ v B' O' H', Post B O H B' O' H' → OwA K B' (res a :: outs a) O' (v :: iv) → Q v H'
  | .err e => ∀ B' O' H', Post B O H B' O' H' → OwA K B' keep O' iv → ErrAt Ce E e H'
  | .bad => False
def spF {X : Type} (K : PySem.W.Frag) (Ce : Exn → Addr) (n : Nat) (insN : List Nat) (argT : X → List Own) (m : X → R α) (res : α → Own) (outs : α → List Own) (keep : X → List Own) : Sp := fun vs H Q E =>
  ∃ (x : X) (B O : Hp), (argT x).length = n ∧ OwA K B (argT x) O vs ∧ Same B H ∧ Same O H ∧ (Dj B O ∧ NT O) ∧ Wsh K Ce B O H Q E res outs (keep x) (insN.filterMap fun i => vs[i]?) (m x)
abbrev spD {X : Type} (K : PySem.W.Frag) (Ce : Exn → Addr) (n : Nat) (argT : X → List Dt) (m : X → R α) (res : α → Own) : Sp :=
  spF K Ce n [] (fun x => (argT x).map Own.dat) m res (fun _ => []) (fun _ => [])
theorem spF_len {X : Type} {K : PySem.W.Frag} {Ce : Exn → Addr} {n : Nat} {insN : List Nat} {argT : X → List Own} {m : X → R α} {res : α → Own} {outs : α → List Own} {keep : X → List Own} {ps : List Str} (hn : n = ps.length) (vs : List V) (H : Hp) (Q : VK) (E : XK)
    (h : spF K Ce n insN argT m res outs keep vs H Q E) : vs.length = ps.length := by
  obtain ⟨x, B, O, e, oa, _⟩ := h
  rw [oa.length, e, hn]
variable {D : Ends} {te : TE} {tt : TT} {t1 t2 : TS} {g : TG}
abbrev NI (F : Fx) (j : Nat) : Prop := ∀ p ∈ F.ins, p.1 ≠ j
theorem q_seq (h : t1 { D with nx := t2 D } σ H) : tSeq t1 t2 D σ H := h
theorem s_next (h : D.nx σ H) : tNext D σ H := h
theorem it_core {J : It} {n : Nat} {g : TG} {tb : TS} (Pv : Nat → L2.St → Hp → Prop) (h0 : Pv 0 σ H)
    (hs : ∀ i σ H, i < n → Pv i σ H → J.go i H ∧ ∀ x H', J.yld i H x H' → g x σ H' fun σ2 H2 => tb { D with nx := Pv (i + 1), ct := Pv (i + 1), bk := D.nx } σ2 H2) (hd : ∀ σ H, Pv n σ H → J.stop n H ∧ D.nx σ H) :
    ∃ W : Nat → Nat → L2.St → Hp → Prop, (∃ m, W 0 m σ H) ∧ ∀ i m σ H, W i m σ H →
      (J.stop i H ∧ D.nx σ H) ∨ (J.go i H ∧ ∃ N : L2.St → Hp → Prop, (∀ σ' H', N σ' H' → ∃ m', m' < m ∧ W (i + 1) m' σ' H') ∧ ∀ x H', J.yld i H x H' → g x σ H' fun σ2 H2 => tb { D with nx := N, ct := N, bk := D.nx } σ2 H2) := by
  refine ⟨fun i m σ H => m = n - i ∧ i ≤ n ∧ Pv i σ H, ⟨n, by simp, Nat.zero_le _, h0⟩, ?_⟩
  rintro i m σ H ⟨rfl, hi, p⟩
  by_cases hlt : i < n
  · obtain ⟨a, b⟩ := hs i σ H hlt p
    exact .inr ⟨a, Pv (i + 1), fun σ' H' p' => ⟨n - (i + 1), by omega, rfl, hlt, p'⟩, b⟩
  · have e : i = n := by omega
    subst e
    exact .inl (hd σ H p)
structure Wks (F : Fx) (J : It) (T : List (V × Own)) (ds : List Dt) : Prop where
  go : ∀ Γ T' σ H i d, Stt F Γ (T' ++ T) σ H → ds[i]? = some d → J.go i H ∧ ∀ x H', J.yld i H x H' → Stt F Γ ((x, .dat d) :: (T' ++ T)) σ H' ∧ Same H H'
  stop : ∀ Γ T' σ H, Stt F Γ (T' ++ T) σ H → J.stop ds.length H
theorem Stt.deep {T' : List (V × Own)} {d : Dt} (h : Stt F Γ (T' ++ (v, .dat d) :: T) σ H) : ∃ B O, Slots F.K B ((T' ++ (v, .dat d) :: T).map (fun p => some p.2) ++ Γ) O ((T' ++ (v, .dat d) :: T).map (fun p => some p.1) ++ σ) ∧ Post F.B F.O F.H B O H ∧ (∀ p ∈ F.ins, σ[p.1]? = some (some p.2)) ∧ Rp F.K B d v := by
  obtain ⟨B, O, s, p, i⟩ := h
  have e : ((T' ++ (v, .dat d) :: T).map (fun p => some p.2) ++ Γ)[T'.length]? = some (some (.dat d)) := by
    rw [List.getElem?_append_left (by simp), List.getElem?_map, List.getElem?_append_right (Nat.le_refl _)]
    simp
  obtain ⟨u, O1, O2, e1, a, _⟩ := s.at e
  rw [List.getElem?_append_left (by simp), List.getElem?_map, List.getElem?_append_right (Nat.le_refl _)] at e1
  simp at e1
  subst e1
  exact ⟨B, O, s, p, i, a.rp.1⟩
def Tg (F : Fx) (g : TG) (d : Dt) (Γ Γ' : List Ent) : Prop := ∀ T σ H x (Q : L2.St → Hp → Prop), Stt F Γ ((x, .dat d) :: T) σ H → (∀ σ' H', Stt F Γ' T σ' H' → Q σ' H') → g x σ H Q
theorem tg_name {j : Nat} {d : Dt} (hj : j < Γ.length) (ni : NI F j) : Tg F (gName j) d Γ (Γ.set j (some (.dat d))) := fun T σ H x Q s q => q _ H (s.assign hj ni)
theorem drop_some {l : List α} {i : Nat} (h : i < l.length) : ∃ x, l[i]? = some x ∧ l.drop i = x :: l.drop (i + 1) := ⟨l[i], List.getElem?_eq_getElem h, List.drop_eq_getElem_cons h⟩
theorem s_fold {J : It} {g : TG} {tb : TS} {xs : List α} {enc : α → Dt} {f : α → S → R S} {k : S → R ρ} {Γs : S → List Ent} {Γb : α → S → List Ent} {s0 : S}
    (wk : Wks F J T (xs.map enc)) (tg : ∀ x s, Tg F g (enc x) (Γs s) (Γb x s)) (h0 : Stt F (Γs s0) T σ H) (ok : WOk F Γe Er W) (hw : W ((foldR f xs s0).bind k))
    (body : ∀ x s (W' : R S → Prop) (N : L2.St → Hp → Prop) σ H, WOk F Γe Er W' → W' (f x s) → Stt F (Γb x s) T σ H → (∀ s' σ' H', W' (.ok s') → Stt F (Γs s') T σ' H' → N σ' H') → tb { D with nx := N, ct := N, bk := D.nx } σ H)
    (hd : ∀ s σ H, W (k s) → Stt F (Γs s) T σ H → D.nx σ H) :
    ∃ W : Nat → Nat → L2.St → Hp → Prop, (∃ m, W 0 m σ H) ∧ ∀ i m σ H, W i m σ H →
      (J.stop i H ∧ D.nx σ H) ∨ (J.go i H ∧ ∃ N : L2.St → Hp → Prop, (∀ σ' H', N σ' H' → ∃ m', m' < m ∧ W (i + 1) m' σ' H') ∧ ∀ x H', J.yld i H x H' → g x σ H' fun σ2 H2 => tb { D with nx := N, ct := N, bk := D.nx } σ2 H2) := by
  refine it_core (n := xs.length) (fun i σ H => ∃ s, Stt F (Γs s) T σ H ∧ W ((foldR f (xs.drop i) s).bind k)) ⟨s0, h0, hw⟩ (fun i σ H hi p => ?_) (fun σ H p => ?_)
  · obtain ⟨s, st, w⟩ := p
    obtain ⟨x, e1, e2⟩ := drop_some hi
    rw [e2] at w
    have w' : W (((f x s).bind (foldR f (xs.drop (i + 1)))).bind k) := w
    obtain ⟨a, b⟩ := wk.go _ [] σ H i (enc x) st (by rw [List.getElem?_map, e1]; rfl)
    refine ⟨a, fun y H' yl => tg x s T σ H' y _ (b y H' yl).1 fun σ' H2 st2 => ?_⟩
    exact body x s (fun m => W ((m.bind (foldR f (xs.drop (i + 1)))).bind k)) _ σ' H2 ⟨ok.bad, ok.err⟩ w' st2 fun s' σ'' H'' w2 st3 => ⟨s', st3, w2⟩
  · obtain ⟨s, st, w⟩ := p
    rw [List.drop_length] at w
    have e := wk.stop _ [] σ H st
    rw [List.length_map] at e
    exact ⟨e, hd s σ H w st⟩
theorem s_for {J : It} {g : TG} {tb : TS} {xs : List α} {enc : α → Dt} {f : α → S → R (Ctl S β)} {k : Ctl S β → R ρ} {Γs : S → List Ent} {Γb : α → S → List Ent} {s0 : S}
    (wk : Wks F J T (xs.map enc)) (tg : ∀ x s, Tg F g (enc x) (Γs s) (Γb x s)) (h0 : Stt F (Γs s0) T σ H) (ok : WOk F Γe Er W) (hw : W ((forR f xs s0).bind k))
    (body : ∀ x s (W' : R (Ctl S β) → Prop) (N Bk : L2.St → Hp → Prop) σ H, WOk F Γe Er W' → (∀ r, W' (.ok (.rt r)) → W (k (.rt r))) → W' (f x s) → Stt F (Γb x s) T σ H → (∀ s' σ' H', W' (.ok (.nx s')) → Stt F (Γs s') T σ' H' → N σ' H') →
      (∀ s' σ' H', W' (.ok (.bk s')) → Stt F (Γs s') T σ' H' → Bk σ' H') → tb { D with nx := N, ct := N, bk := Bk } σ H)
    (hd : ∀ s σ H, W (k (.nx s)) → Stt F (Γs s) T σ H → D.nx σ H) :
    ∃ W : Nat → Nat → L2.St → Hp → Prop, (∃ m, W 0 m σ H) ∧ ∀ i m σ H, W i m σ H →
      (J.stop i H ∧ D.nx σ H) ∨ (J.go i H ∧ ∃ N : L2.St → Hp → Prop, (∀ σ' H', N σ' H' → ∃ m', m' < m ∧ W (i + 1) m' σ' H') ∧ ∀ x H', J.yld i H x H' → g x σ H' fun σ2 H2 => tb { D with nx := N, ct := N, bk := D.nx } σ2 H2) := by
  refine it_core (n := xs.length) (fun i σ H => ∃ s, Stt F (Γs s) T σ H ∧ W ((forR f (xs.drop i) s).bind k)) ⟨s0, h0, hw⟩ (fun i σ H hi p => ?_) (fun σ H p => ?_)
  · obtain ⟨s, st, w⟩ := p
    obtain ⟨x, e1, e2⟩ := drop_some hi
    rw [e2] at w
    have w' : W (((f x s).bind fun c => c.step (forR f (xs.drop (i + 1)))).bind k) := w
    obtain ⟨a, b⟩ := wk.go _ [] σ H i (enc x) st (by rw [List.getElem?_map, e1]; rfl)
    refine ⟨a, fun y H' yl => tg x s T σ H' y _ (b y H' yl).1 fun σ' H2 st2 => ?_⟩
    exact body x s (fun m => W ((m.bind fun c => c.step (forR f (xs.drop (i + 1)))).bind k)) _ _ σ' H2 ⟨ok.bad, ok.err⟩ (fun r w => w) w' st2 (fun s' σ'' H'' w2 st3 => ⟨s', st3, w2⟩) fun s' σ'' H'' w2 st3 => hd s' σ'' H'' w2 st3
  · obtain ⟨s, st, w⟩ := p
    rw [List.drop_length] at w
    have e := wk.stop _ [] σ H st
    rw [List.length_map] at e
    exact ⟨e, hd s σ H w st⟩
theorem wks_list {a : Addr} {ds : List Dt} : Wks F (Itl F.K a) ((.ref a, .dat (.lst ds)) :: T) ds where
  go := fun Γ T' σ H i d s e => by
    obtain ⟨B, O, s1, p, ii, r⟩ := s.deep
    unfold Rp at r
    obtain ⟨l, vs, el, hl, ra⟩ := r
    cases el
    obtain ⟨u, e1, ru⟩ := ra.get e
    refine ⟨⟨vs, u, SqL.of (p.bh _ _ hl), e1⟩, fun x H' y => ?_⟩
    obtain ⟨rfl, y⟩ := y
    have := y vs (SqL.of (p.bh _ _ hl))
    rw [e1] at this
    cases this
    refine ⟨⟨B, _, slots_own (ow_dat ru) s1 emp_dj, ?_, ii⟩, Same.refl _⟩
    rw [emp_jn]
    exact p
  stop := fun Γ T' σ H s => by
    obtain ⟨B, O, s1, p, ii, r⟩ := s.deep
    unfold Rp at r
    obtain ⟨l, vs, el, hl, ra⟩ := r
    cases el
    exact ⟨vs, SqL.of (p.bh _ _ hl), by rw [ra.length]; exact Nat.le_refl _⟩
theorem wks_tup {a : Addr} {ds : List Dt} : Wks F (Itt F.K a) ((.ref a, .dat (.tup ds)) :: T) ds where
  go := fun Γ T' σ H i d s e => by
    obtain ⟨B, O, s1, p, ii, r⟩ := s.deep
    unfold Rp at r
    obtain ⟨l, vs, el, hl, ra⟩ := r
    cases el
    obtain ⟨u, e1, ru⟩ := ra.get e
    refine ⟨⟨vs, u, sqt_mono p.bh hl, e1⟩, fun x H' y => ?_⟩
    obtain ⟨rfl, y⟩ := y
    have := y vs (sqt_mono p.bh hl)
    rw [e1] at this
    cases this
    refine ⟨⟨B, _, slots_own (ow_dat ru) s1 emp_dj, ?_, ii⟩, Same.refl _⟩
    rw [emp_jn]
    exact p
  stop := fun Γ T' σ H s => by
    obtain ⟨B, O, s1, p, ii, r⟩ := s.deep
    unfold Rp at r
    obtain ⟨l, vs, el, hl, ra⟩ := r
    cases el
    exact ⟨vs, sqt_mono p.bh hl, by rw [ra.length]; exact Nat.le_refl _⟩
theorem wks_rng {lo : Int} {n : Nat} : Wks F (Itr lo n) T (((List.range n).map fun (i : Nat) => lo + (i : Int)).map Dt.int) where
  go := fun Γ T' σ H i d s e => by
    rw [List.getElem?_map, List.getElem?_map] at e
    cases en : (List.range n)[i]? with
    | none => rw [en] at e; cases e
    | some j =>
      rw [en] at e
      cases e
      obtain ⟨h1, h2⟩ := List.getElem?_eq_some_iff.mp en
      rw [List.getElem_range] at h2
      subst h2
      rw [List.length_range] at h1
      refine ⟨h1, fun x H' y => ?_⟩
      obtain ⟨rfl, rfl⟩ := y
      exact ⟨s.push fun _ _ => by unfold Rp; rfl, Same.refl _⟩
  stop := fun Γ T' σ H s => by show n ≤ _; simp
theorem wks_str {z : Str} : Wks F (Its z) T ((z.cps.toList.map sgn).map Dt.str) where
  go := fun Γ T' σ H i d s e => by
    rw [List.getElem?_map, List.getElem?_map] at e
    cases en : z.cps.toList[i]? with
    | none => rw [en] at e; cases e
    | some j =>
      rw [en] at e
      cases e
      have ea : z.cps[i]? = some j := by rw [← Array.getElem?_toList]; exact en
      obtain ⟨h1, h2⟩ := Array.getElem?_eq_some_iff.mp ea
      refine ⟨h1, fun x H' y => ?_⟩
      obtain ⟨rfl, c, ec, rfl⟩ := y
      rw [ea] at ec
      cases ec
      exact ⟨s.push fun _ _ => by unfold Rp; rfl, Same.refl _⟩
  stop := fun Γ T' σ H s => by show z.cps.size ≤ _; simp
variable {tl : TE} {ds : List Dt} {Ri : It → Hp → Prop}
end
end Sm
namespace Sm
open PySem L2
theorem R.bind_assoc {α β γ : Type} (m : R α) (f : α → R β) (g : β → R γ) : (m.bind f).bind g = m.bind fun a => (f a).bind g := by cases m <;> rfl
theorem R.ok_bind {α β : Type} (a : α) (f : α → R β) : (R.ok a).bind f = f a := rfl
section
variable {F : Fx} {Γ Γ' Γe : List Ent} {T : List (V × Own)} {σ : L2.St} {H H' : Hp} {v : V} {t : Own} {Er : L2.St → Exn → Hp → Prop} {ρ α β S : Type} {W : R ρ → Prop} {D : Ends}
theorem slots_of {K : PySem.W.Frag} {B : Hp} (n : Nat) : ∀ {ts : List Own} {O : Hp} {vs : List V}, OwA K B ts O vs → Slots K B (ts.map some ++ List.replicate n none) O (vs.map some ++ List.replicate n none)
  | [], O, vs, h => by
    unfold OwA at h
    obtain ⟨rfl, rfl⟩ := h
    show Slots K B (List.replicate n none) emp (List.replicate n none)
    induction n with
    | zero => exact ⟨rfl, rfl⟩
    | succ n ih => exact slots_un ih
  | t :: ts, O, vs, h => by
    unfold OwA at h
    obtain ⟨v, r, O1, O2, rfl, a, b, c, rfl⟩ := h
    exact slots_own a (slots_of n b) c
theorem spD_start {X : Type} {K : PySem.W.Frag} {Ce : Exn → Addr} {n : Nat} {argT : X → List Dt} {m : X → R α} {res : α → Own} {vs : List V} {Q : VK} {E : XK} (N : List Str) (h : spD K Ce n argT m res vs H Q E) :
    ∃ (x : X) (F : Fx) (W : R α → Prop), K = F.K ∧ (∀ j, NI F j) ∧ Stt F (((argT x).map Own.dat).map some ++ List.replicate (N.length - n) none) [] (L2.start N vs) H ∧ W (m x) ∧ (∀ Γe, WOk F Γe (fun _ => ErrAt Ce E) W) ∧
      ∀ a v T Γ σ H', W (.ok a) → Stt F Γ ((v, res a) :: T) σ H' → Q v H' := by
  obtain ⟨x, B, O, hn, oa, s1, s2, ⟨dj, nt⟩, hw⟩ := h
  have el : vs.length = n := by rw [oa.length, hn]
  refine ⟨x, ⟨K, B, O, H, []⟩, Wsh K Ce B O H Q E res (fun _ => []) [] [], rfl, fun j p hp => (nomatch hp), ⟨B, O, ?_, Post.refl s1 s2 dj nt, fun p hp => (nomatch hp)⟩, hw, fun Γe => ⟨fun z => z, fun e he σ H' s => ?_⟩, fun a v T Γ σ H' w s => ?_⟩
  · have z := slots_of (N.length - n) oa
    unfold L2.start
    rw [el]
    exact z
  · obtain ⟨B', O', sl, p, _⟩ := s
    have p' : Post B O H B' (jn emp O') H' := by rw [emp_jn]; exact p
    exact he B' emp H' p'.dropR owa_nil
  · obtain ⟨B', O1, O2, a1, _, _, p, _⟩ := s.top
    have z := w v B' (jn O1 emp) H' (by rw [jn_emp]; exact p.dropR)
    exact z (owa_cons a1 owa_nil dj_emp)
theorem wipe_get {σ : L2.St} {i : Nat} : ∀ {vs : List Nat}, (wipe σ vs)[i]? = if i ∈ vs ∧ i < σ.length then some none else σ[i]?
  | [] => by simp [wipe]
  | v :: vs => by
    unfold wipe
    by_cases e : v = i
    · subst e
      by_cases l : v < σ.length
      · rw [List.getElem?_set_self (by rw [wipe_length]; exact l)]
        simp [l]
      · rw [List.getElem?_eq_none (by rw [List.length_set, wipe_length]; omega)]
        simp [l]
        try omega
    · rw [List.getElem?_set_ne e, wipe_get]
      have e' : ¬ i = v := fun z => e z.symm
      simp [e']
theorem wipe_wipe (σ : L2.St) (vs : List Nat) : wipe (wipe σ vs) vs = wipe σ vs := by
  apply List.ext_getElem?
  intro i
  rw [wipe_get, wipe_get, wipe_length]
  by_cases h : i ∈ vs ∧ i < σ.length
  · rw [if_pos h, if_pos h]
  · rw [if_neg h]
theorem wipe_set (σ : L2.St) {vs : List Nat} {j : Nat} (x : Option V) (h : j ∈ vs) : wipe (σ.set j x) vs = wipe σ vs := by
  apply List.ext_getElem?
  intro i
  rw [wipe_get, wipe_get, List.length_set]
  by_cases c : i ∈ vs ∧ i < σ.length
  · rw [if_pos c, if_pos c]
  · rw [if_neg c, if_neg c]
    by_cases e : j = i
    · subst e
      have : ¬ j < σ.length := fun z => c ⟨h, z⟩
      rw [List.getElem?_eq_none (by rw [List.length_set]; omega), List.getElem?_eq_none (by omega)]
    · rw [List.getElem?_set_ne e]
def NoneAt (F : Fx) (Γ : List Ent) : List Nat → Prop
  | [] => True
  | v :: vs => (Γ[v]? = some none ∧ NI F v) ∧ NoneAt F Γ vs
theorem set_none {l : List Ent} {i : Nat} (h : l[i]? = some none) : l.set i none = l := by
  apply List.ext_getElem?
  intro j
  by_cases e : i = j
  · subst e; rw [List.getElem?_set_self (List.getElem?_eq_some_iff.mp h).1, h]
  · rw [List.getElem?_set_ne e]
theorem Slots.irr {K : PySem.W.Frag} {B : Hp} : ∀ {Γ : List Ent} {O : Hp} {σ : L2.St} {i : Nat} {x : Option V}, Slots K B Γ O (σ.set i x) → Γ[i]? = some none → Slots K B Γ O σ
  | [], _, _, _, _, _, e => by simp at e
  | none :: Γ, O, [], i, x, h, e => h
  | none :: Γ, O, y :: σ, 0, x, h, e => by
    unfold Slots at h
    obtain ⟨z, r, e1, b⟩ := h
    rw [List.set_cons_zero] at e1
    cases e1
    exact slots_un b
  | none :: Γ, O, y :: σ, i + 1, x, h, e => by
    unfold Slots at h
    obtain ⟨z, r, e1, b⟩ := h
    rw [List.set_cons_succ] at e1
    cases e1
    exact slots_un (Slots.irr b (by simpa using e))
  | some t :: Γ, O, [], i, x, h, e => h
  | some t :: Γ, O, y :: σ, 0, x, h, e => by simp at e
  | some t :: Γ, O, y :: σ, i + 1, x, h, e => by
    unfold Slots at h
    obtain ⟨v, r, O1, O2, e1, a, b, c, rfl⟩ := h
    rw [List.set_cons_succ] at e1
    cases e1
    exact slots_own a (Slots.irr b (by simpa using e)) c
theorem Stt.irr {i : Nat} {x : Option V} (h : Stt F Γ T (σ.set i x) H) (e : Γ[i]? = some none) (ni : NI F i) : Stt F Γ T σ H := by
  obtain ⟨B, O, s, p, q⟩ := h
  refine ⟨B, O, ?_, p, fun z hz => ?_⟩
  · have k : (T.map (fun p => some p.1) ++ σ).set (T.length + i) x = T.map (fun p => some p.1) ++ σ.set i x := by
      rw [List.set_append_right _ _ (by simp)]
      simp
    rw [← k] at s
    exact s.irr (by rw [List.getElem?_append_right (by simp)]; simpa using e)
  · have := q z hz
    rw [List.getElem?_set_ne (Ne.symm (ni z hz))] at this
    exact this
theorem Stt.setN {i : Nat} {x : Option V} (h : Stt F Γ T σ H) (e : Γ[i]? = some none) (ni : NI F i) : Stt F Γ T (σ.set i x) H := by
  obtain ⟨B, O, s, p, q⟩ := h
  have e' : (T.map (fun p => some p.2) ++ Γ)[T.length + i]? = some none := by
    rw [List.getElem?_append_right (by simp)]
    simpa using e
  obtain ⟨Od, O3, d, rfl, _, k⟩ := s.put (List.getElem?_eq_some_iff.mp e').1
  have z := k x
  rw [set_none e', List.set_append_right _ _ (by simp)] at z
  simp only [List.length_map, Nat.add_sub_cancel_left] at z
  exact ⟨B, O3, z, p.dropL d, fun z hz => by rw [List.getElem?_set_ne (Ne.symm (ni z hz))]; exact q z hz⟩
theorem Stt.wiped : ∀ {vs : List Nat} {σ : L2.St}, Stt F Γ T σ H → NoneAt F Γ vs → Stt F Γ T (wipe σ vs) H
  | [], σ, h, _ => h
  | v :: vs, σ, h, ⟨⟨e, ni⟩, n⟩ => (Stt.wiped h n).setN e ni
theorem Stt.unwiped : ∀ {vs : List Nat} {σ : L2.St}, Stt F Γ T (wipe σ vs) H → NoneAt F Γ vs → Stt F Γ T σ H
  | [], σ, h, _ => h
  | v :: vs, σ, h, ⟨⟨e, ni⟩, n⟩ => Stt.unwiped (h.irr e ni) n
def TgW (F : Fx) (g : TG) (d : Dt) (Γ Γ' : List Ent) (vs : List Nat) : Prop := ∀ T σ σ0 H x (Q : L2.St → Hp → Prop), wipe σ vs = wipe σ0 vs → Stt F Γ ((x, .dat d) :: T) σ H →
  (∀ σ' H', wipe σ' vs = wipe σ0 vs → Stt F Γ' T σ' H' → Same H H' → Q σ' H') → g x σ H Q
theorem tgw_name {j : Nat} {d : Dt} {vs : List Nat} (hj : j < Γ.length) (ni : NI F j) (hv : j ∈ vs) : TgW F (gName j) d Γ (Γ.set j (some (.dat d))) vs := fun T σ σ0 H x Q e s q =>
  q _ H ((wipe_set σ _ hv).trans e) (s.assign hj ni) (Same.refl _)
theorem Stt.appTop {d : Dt} {ds : List Dt} {l : Addr} (h : Stt F Γ ((v, .dat d) :: (.ref l, .lst (ds.map Own.dat)) :: T) σ H) :
    ∃ us, H l = some (.lst us) ∧ us.length = ds.length ∧ Stt F Γ ((.ref l, .lst ((ds ++ [d]).map Own.dat)) :: T) σ (upd H l (.lst (us ++ [v]))) := by
  obtain ⟨B, O1, O2, a, s, c, p, i⟩ := h.top
  obtain ⟨r, rfl⟩ := a.rp
  rw [emp_jn] at p
  rw [List.map_cons, List.map_cons] at s
  unfold Slots at s
  obtain ⟨w, r', P1, P2, e1, a2, b, d2, rfl⟩ := s
  cases e1
  unfold Ow at a2
  obtain ⟨l', us, O', el, oa, n, rfl⟩ := a2
  cases el
  obtain ⟨ra, rfl⟩ := oa.dats
  have p4 := p.mut (a := l) (o := .lst (us ++ [v])) (jn_some upd_same)
  rw [upd_jn, upd_upd] at p4
  refine ⟨us, p.oh l _ (jn_some upd_same), ra.length, B, _, slots_own (O1 := upd emp l (.lst (us ++ [v]))) ?_ b ?_, p4, i⟩
  · unfold Ow
    exact ⟨l, _, emp, rfl, owa_dats (ra.append (RpA.one r)), rfl, rfl⟩
  · refine Dj.upd emp_dj ?_
    rcases d2 l with x | x
    · rw [upd_same] at x; cases x
    · exact x
theorem Stt.nilTop {l : Addr} (h : Stt F Γ T σ H) (hl : H l = none) : Stt F Γ ((.ref l, .lst (([] : List Dt).map Own.dat)) :: T) σ (upd H l (.lst [])) := SttA.lst (SttA.nil h) hl
def Nb (L : Addr) (H0 H : Hp) : Prop := ∀ a o, a ≠ L → H0 a = some o → H a = some o
theorem nb_new {L : Addr} {o : HO} (h : H L = none) : Nb L H (upd H L o) := fun a u n e => by rw [upd_ne n]; exact e
theorem Nb.same {L : Addr} {H0 H1 H2 : Hp} (h : Nb L H0 H1) (s : Same H1 H2) : Nb L H0 H2 := fun a o n e => s a o (h a o n e)
theorem Nb.upd {L : Addr} {H0 H1 : Hp} {o : HO} (h : Nb L H0 H1) : Nb L H0 (upd H1 L o) := fun a u n e => by rw [upd_ne n]; exact h a u n e
theorem Nb.out {L : Addr} {H0 H1 : Hp} (h : Nb L H0 H1) (n : H0 L = none) : Same H0 H1 := fun a o e => h a o (ne_of_none e n) e
theorem lc_go {Γx : List Ent} {J : It} {g : TG} {te : TE} {vs : List Nat} {xs : List α} {enc : α → Dt} {encB : β → Dt} {f : α → R β} {k : List β → R ρ} {Γb : α → List Ent} {Q : VK}
    (wk : Wks F J T (xs.map enc)) (hn : NoneAt F Γ vs) (tg : ∀ x, TgW F g (enc x) Γ (Γb x) vs) (wkb : ∀ x, Wk (Γb x) Γ) (hl : xs.length ≤ 16777216) (hst : Stt F Γ T σ H) (ok : WOk F Γe Er W) (hw : W ((mapR f xs).bind k))
    (body : ∀ x T' (W' : R β → Prop) σ' H' (Qe : VK), WOk F Γx (fun _ _ _ => False) W' → W' (f x) → Stt F (Γb x) T' σ' H' → (∀ y v H'', W' (.ok y) → Stt F (Γb x) ((v, .dat (encB y)) :: T') σ' H'' → Same H' H'' → Qe v H'') → te σ' H' Qe)
    (q : ∀ ys v H', W (k ys) → Stt F Γ ((v, .lst ((ys.map encB).map Own.dat)) :: T) σ H' → Same H H' → Q v H') :
    ∀ L, H L = none → ∃ W : Nat → Nat → Hp → Prop, (∃ m, W 0 m (upd H L (.lst []))) ∧ ∀ i m H, W i m H →
      (J.stop i H ∧ Q (.ref L) H) ∨ (J.go i H ∧ ∃ Nx : Hp → Prop, (∀ H', Nx H' → ∃ m', m' < m ∧ W (i + 1) m' H') ∧ ∀ x H', J.yld i H x H' → g x (wipe σ vs) H' fun σ2 H2 => wipe σ2 vs = wipe σ vs ∧ tYes σ2 H2 fun b H3 =>
        if b = true then te σ2 H3 fun y H4 => ∃ acc, H4 L = some (.lst acc) ∧ acc.length < sizeLine ∧ Nx (upd H4 L (.lst (acc ++ [y]))) else Nx H3) := by
  intro L hL
  let H0 := H
  refine ⟨fun i m H => m = xs.length - i ∧ i ≤ xs.length ∧ ∃ acc : List β, acc.length = i ∧ Stt F Γ ((.ref L, .lst ((acc.map encB).map Own.dat)) :: T) (wipe σ vs) H ∧ W ((mapR f (xs.drop i)).bind fun ys => k (acc ++ ys)) ∧ Nb L H0 H,
    ⟨xs.length, by simp, Nat.zero_le _, [], rfl, (hst.wiped hn).nilTop hL, hw, nb_new hL⟩, ?_⟩
  rintro i m H1 ⟨rfl, hi, acc, ha, st, w, nb⟩
  by_cases hlt : i < xs.length
  · obtain ⟨x, e1, e2⟩ := drop_some hlt
    rw [e2] at w
    obtain ⟨a, b⟩ := wk.go Γ [_] _ H1 i (enc x) st (by rw [List.getElem?_map, e1]; rfl)
    refine .inr ⟨a, fun H' => ∃ acc : List β, acc.length = i + 1 ∧ Stt F Γ ((.ref L, .lst ((acc.map encB).map Own.dat)) :: T) (wipe σ vs) H' ∧ W ((mapR f (xs.drop (i + 1))).bind fun ys => k (acc ++ ys)) ∧ Nb L H0 H',
      fun H' ⟨acc', h1, h2, h3, h4⟩ => ⟨xs.length - (i + 1), by omega, rfl, hlt, acc', h1, h2, h3, h4⟩, fun y H' yl => ?_⟩
    have sy := (b y H' yl).2
    refine tg x _ _ σ H' y _ (wipe_wipe σ vs) (b y H' yl).1 fun σ2 H2 ew st2 sa2 => ⟨ew, ?_⟩
    show te σ2 H2 _
    have w' : W ((((f x).calm.bind fun y => (mapR f (xs.drop (i + 1))).bind fun ys => .ok (y :: ys))).bind fun ys => k (acc ++ ys)) := w
    refine body x _ (fun m => W (((m.calm.bind fun y => (mapR f (xs.drop (i + 1))).bind fun ys => .ok (y :: ys))).bind fun ys => k (acc ++ ys))) σ2 H2 _ ⟨ok.bad, fun e he _ _ _ => ok.bad he⟩ w' st2 fun y u H3 wy st3 sa3 => ?_
    obtain ⟨us, h1, h2, h3⟩ := st3.appTop
    have nb3 := ((nb.same sy).same sa2).same sa3
    refine ⟨us, h1, ?_, acc ++ [y], by simp [ha], ?_, ?_, nb3.upd⟩
    · rw [h2, List.length_map, ha]
      exact line_lt (by omega)
    · have z : Stt F Γ ((.ref L, .lst ((((acc ++ [y]).map encB)).map Own.dat)) :: T) σ2 (upd H3 L (.lst (us ++ [u]))) := by
        rw [List.map_append]
        exact h3.weak (wkb x)
      have z2 := z.wiped hn
      rw [ew] at z2
      exact z2
    · have w2 : W (((mapR f (xs.drop (i + 1))).bind fun ys => .ok (y :: ys)).bind fun ys => k (acc ++ ys)) := wy
      rw [R.bind_assoc] at w2
      have e3 : (fun ys => (R.ok (y :: ys)).bind fun ys => k (acc ++ ys)) = fun ys => k (acc ++ [y] ++ ys) := by
        funext ys
        rw [R.ok_bind, List.append_assoc]
        rfl
      rw [e3] at w2
      exact w2
  · have e : i = xs.length := by omega
    subst e
    rw [List.drop_length] at w
    have w2 : W (k (acc ++ [])) := w
    rw [List.append_nil] at w2
    have z := wk.stop Γ [_] _ H1 st
    rw [List.length_map] at z
    exact .inl ⟨z, q acc _ H1 w2 (st.unwiped hn) (nb.out hL)⟩
theorem s_while {tc : TT} {tb : TS} {c : S → R Bool} {f : S → R (Ctl S β)} {n : Nat} {k : Ctl S β → R ρ} {Γs : S → List Ent} {s0 : S}
    (h0 : Stt F (Γs s0) T σ H) (ok : WOk F Γe Er W) (hw : W ((whileR c f n s0).bind k))
    (cond : ∀ s (W' : R Bool → Prop) σ H (Q : Bool → Hp → Prop), WOk F Γe Er W' → W' (c s) → Stt F (Γs s) T σ H → (∀ b H', W' (.ok b) → Stt F (Γs s) T σ H' → Q b H') → tc σ H Q)
    (body : ∀ s (W' : R (Ctl S β) → Prop) (N Bk : L2.St → Hp → Prop) σ H, WOk F Γe Er W' → (∀ r, W' (.ok (.rt r)) → W (k (.rt r))) → W' (f s) → Stt F (Γs s) T σ H → (∀ s' σ' H', W' (.ok (.nx s')) → Stt F (Γs s') T σ' H' → N σ' H') →
      (∀ s' σ' H', W' (.ok (.bk s')) → Stt F (Γs s') T σ' H' → Bk σ' H') → tb { D with nx := N, ct := N, bk := Bk } σ H)
    (hd : ∀ s σ H, W (k (.nx s)) → Stt F (Γs s) T σ H → D.nx σ H) : tWhile tc tb D σ H := by
  refine ⟨fun n σ H => ∃ s, Stt F (Γs s) T σ H ∧ W ((whileR c f n s).bind k), ⟨n, s0, h0, hw⟩, ?_⟩
  rintro m σ H ⟨s, st, w⟩
  cases m with
  | zero => exact absurd w ok.bad
  | succ m =>
    have w' : W (((c s).bind fun b => match b with
      | false => .ok (.nx s)
      | true => (f s).bind fun c' => c'.step (whileR c f m)).bind k) := w
    refine cond s (fun mb => W ((mb.bind fun b => match b with
      | false => .ok (.nx s)
      | true => (f s).bind fun c' => c'.step (whileR c f m)).bind k)) σ H _ ⟨ok.bad, ok.err⟩ w' st fun b H1 wb st1 => ?_
    cases b with
    | false => exact hd s σ H1 wb st1
    | true =>
      refine ⟨fun σ' H' => ∃ s, Stt F (Γs s) T σ' H' ∧ W ((whileR c f m s).bind k), fun σ' H' p => ⟨m, Nat.lt_succ_self m, p⟩, ?_⟩
      exact body s (fun mb => W ((mb.bind fun c' => c'.step (whileR c f m)).bind k)) _ _ σ H1 ⟨ok.bad, ok.err⟩ (fun r z => z) wb st1 (fun s' σ' H' w2 s2 => ⟨s', s2, w2⟩) fun s' σ' H' w2 s2 => hd s' σ' H' w2 s2
end
end Sm
namespace Sm
open PySem L2
section
variable {F : Fx} {Γ Γ' Γe : List Ent} {T : List (V × Own)} {σ : L2.St} {H H' : Hp} {v : V} {t : Own} {Er : L2.St → Exn → Hp → Prop} {ρ α β S : Type} {W : R ρ → Prop} {D : Ends} {ta tb tc te : TE} {i j k : Int} {ds es : List Dt} {d e : Dt}
theorem inV_str {i : Str} : ∀ {ns : List Str}, inV (.str i) (ns.map V.str) = decide (i ∈ ns)
  | [] => by simp [inV]
  | n :: ns => by
    have ih := inV_str (i := i) (ns := ns)
    unfold inV at ih ⊢
    rw [List.map_cons, List.any_cons, ih]
    show ((n == i) || decide (i ∈ ns)) = decide (i ∈ n :: ns)
    by_cases h : n = i
    · subst h; simp
    · have h' : ¬ i = n := fun z => h z.symm
      simp [h, h']
theorem flat_strs : ∀ ns : List Str, (ns.map V.str).all flatV = true
  | [] => rfl
  | _ :: ns => by rw [List.map_cons, List.all_cons, flat_strs ns]; rfl
theorem ev_inTS {neg : Bool} {s : Str} {ns : List Str} (h1 : Ev F ta Γ (.dat (.str s))) (h2 : Ev F tb Γ (.dat (.tup (ns.map Dt.str)))) : Ev F (tOp (rIn F.K neg) ta tb) Γ (.dat (.bl (if neg then !decide (s ∈ ns) else decide (s ∈ ns)))) :=
  ev_op h1 h2 (op2_val _ (fun B => by unfold Rp; rfl) fun B H x y Q eb h1 h2 q => by
    rw [rp_str h1]
    unfold Rp at h2
    obtain ⟨a, xs, rfl, hs, ra⟩ := h2
    rw [rpa_strs ra] at hs
    exact ⟨a, _, rfl, .inr (sqt_mono eb hs), rfl, flat_strs ns, by rw [inV_str]; exact q⟩)
theorem ev_chain {g1 g2 : Int → Int → Bool} (h1 : Ev F ta Γ (.dat (.int i))) (h2 : Ev F tb Γ (.dat (.int j))) (h3 : Ev F tc Γ (.dat (.int k))) :
    Ev F (tChain (rI0 fun i j => .bl (g1 i j)) (rI0 fun i j => .bl (g2 i j)) ta tb tc) Γ (.dat (.bl (g1 i j && g2 j k))) := fun T σ H s Q q =>
  h1 T σ H s _ fun x H1 s1 e1 => h2 _ σ H1 s1 _ fun y H2 s2 e2 => by
    obtain ⟨B, _, r1, r2⟩ := s2.topd2
    refine ⟨i, j, rp_int r1, rp_int r2, g1 i j, rfl, ?_⟩
    cases c : g1 i j with
    | true =>
      rw [if_pos rfl]
      refine h3 _ σ H2 s2.pop.pop _ fun z H3 s3 e3 => ?_
      obtain ⟨B, _, r3⟩ := s3.topd
      refine ⟨j, k, rp_int r2, rp_int r3, ?_⟩
      rw [c] at q
      exact q _ H3 (s3.pop.push fun _ _ => by unfold Rp; rfl) ((e1.trans e2).trans e3)
    | false =>
      rw [if_neg Bool.false_ne_true]
      rw [c] at q
      exact q _ H2 (s2.pop.pop.push fun _ _ => by unfold Rp; rfl) (e1.trans e2)
def Tgs (F : Fx) (g : TGs) (ds : List Dt) (Γ Γ' : List Ent) : Prop := ∀ T σ H xs (Q : L2.St → Hp → Prop), SttA F Γ T xs ds σ H → (∀ σ' H', Stt F Γ' T σ' H' → Q σ' H') → g xs σ H Q
theorem tgs_nil : Tgs F gNil [] Γ Γ := fun T σ H xs Q s q => by
  obtain ⟨B, O, r, sl, p, i⟩ := s
  unfold RpA at r
  exact ⟨r, q σ H ⟨B, O, sl, p, i⟩⟩
theorem SttA.split {xs : List V} (h : SttA F Γ T xs (d :: ds) σ H) : ∃ v r, xs = v :: r ∧ ∃ B O, RpA F.K B ds r ∧ Slots F.K B (((v, Own.dat d) :: T).map (fun p => some p.2) ++ Γ) O (((v, Own.dat d) :: T).map (fun p => some p.1) ++ σ) ∧ Post F.B F.O F.H B O H ∧ ∀ p ∈ F.ins, σ[p.1]? = some (some p.2) := by
  obtain ⟨B, O, r, sl, p, i⟩ := h
  unfold RpA at r
  obtain ⟨v, r', rfl, h1, h2⟩ := r
  refine ⟨v, r', rfl, B, jn emp O, h2, slots_own (ow_dat h1) sl emp_dj, ?_, i⟩
  rw [emp_jn]
  exact p
theorem SttA.assign {xs : List V} {v : V} {jn_ : Nat} (h : ∃ B O, RpA F.K B ds xs ∧ Slots F.K B (((v, Own.dat d) :: T).map (fun p => some p.2) ++ Γ) O (((v, Own.dat d) :: T).map (fun p => some p.1) ++ σ) ∧ Post F.B F.O F.H B O H ∧ ∀ p ∈ F.ins, σ[p.1]? = some (some p.2))
    (hj : jn_ < Γ.length) (ni : NI F jn_) : SttA F (Γ.set jn_ (some (.dat d))) T xs ds (σ.set jn_ (some v)) H := by
  obtain ⟨B, O, r, sl, p, q⟩ := h
  rw [List.map_cons, List.map_cons] at sl
  unfold Slots at sl
  obtain ⟨w, r', O1, O2, e1, a, s, c, rfl⟩ := sl
  cases e1
  have s : Slots F.K B (T.map (fun p => some p.2) ++ Γ) O2 (T.map (fun p => some p.1) ++ σ) := s
  have hl : T.length + jn_ < (T.map (fun p => some p.2) ++ Γ).length := by simp; omega
  obtain ⟨Od, O3, d3, rfl, q1, _⟩ := s.put hl
  refine ⟨B, jn O1 O3, r, ?_, ?_, fun p hp => by rw [List.getElem?_set_ne (Ne.symm (ni p hp))]; exact q p hp⟩
  · have z := q1 B _ O1 v (Same.refl _) a (Dj.rr c)
    rw [List.set_append_right _ _ (by simp), List.set_append_right _ _ (by simp)] at z
    simpa using z
  · rw [jn_swap (Dj.rl c)] at p
    exact p.dropL (Dj.jnr (Dj.rl c).symm d3)
theorem tgs_cons {n : Nat} {gs : TGs} (hj : n < Γ.length) (ni : NI F n) (h : Tgs F gs ds (Γ.set n (some (.dat d))) Γ') : Tgs F (gCons (gName n) gs) (d :: ds) Γ Γ' := fun T σ H xs Q s q => by
  obtain ⟨v, r, rfl, s'⟩ := s.split
  exact ⟨v, r, rfl, h T _ H r Q (SttA.assign s' hj ni) q⟩
theorem tg_tup {n : Nat} {gs : TGs} (hn : ds.length = n) (h : Tgs F gs ds Γ Γ') : Tg F (gTup F.K n gs) (.tup ds) Γ Γ' := fun T σ H x Q s q => by
  obtain ⟨B, O1, O2, a, sl, c, p, i⟩ := s.top
  obtain ⟨r, rfl⟩ := a.rp
  unfold Rp at r
  obtain ⟨l, vs, rfl, hs, ra⟩ := r
  rw [emp_jn] at p
  exact ⟨l, vs, rfl, sqt_mono p.bh hs, by rw [ra.length, hn], h T σ H vs Q ⟨B, O2, ra, sl, p, i⟩ q⟩
theorem ev_globT {a : Addr} {xs : List V} (h : ∀ H, SqT F.K H a xs) (r : ∀ B, RpA F.K B ds xs) : Ev F (tC (.ref a)) Γ (.dat (.tup ds)) := fun T σ H s Q q => q _ H (s.push fun B _ => by
  unfold Rp
  exact ⟨a, xs, rfl, h B, r B⟩) (Same.refl _)
end
end Sm
namespace Sm
open PySem L2
theorem R.bind_ok {α : Type} (m : R α) : m.bind R.ok = m := by cases m <;> rfl
def R.and (a b : R Bool) : R Bool := a.bind fun x => match x with
  | true => b
  | false => .ok false
def R.or (a b : R Bool) : R Bool := a.bind fun x => match x with
  | true => .ok true
  | false => b
def gR (j : Int) : Prop := -(2 ^ 62) ≤ j ∧ j < 2 ^ 62
instance (j : Int) : Decidable (gR j) := by unfold gR; infer_instance
def R.not (a : R Bool) : R Bool := a.bind fun x => .ok (!x)
section
variable {F : Fx} {Γ Γ' Γe : List Ent} {T : List (V × Own)} {σ : L2.St} {H H' : Hp} {v : V} {Er : L2.St → Exn → Hp → Prop} {ρ α β γ S : Type} {W : R ρ → Prop} {D : Ends} {ta tb tc te : TE} {tt uu : TT} {i j : Int} {d e : Dt}
def MV (F : Fx) (Γe : List Ent) (Er : L2.St → Exn → Hp → Prop) (te : TE) (Γ : List Ent) (m : R α) (t : α → Own) : Prop :=
  ∀ (ρ : Type) (W : R ρ → Prop) (k : α → R ρ) T σ H, WOk F Γe Er W → W (m.bind k) → Stt F Γ T σ H → ∀ Q : VK, (∀ a v H', W (k a) → Stt F Γ ((v, t a) :: T) σ H' → Same H H' → Q v H') → te σ H Q
def MT (F : Fx) (Γe : List Ent) (Er : L2.St → Exn → Hp → Prop) (tt : TT) (Γ : List Ent) (m : R Bool) : Prop :=
  ∀ (ρ : Type) (W : R ρ → Prop) (k : Bool → R ρ) T σ H, WOk F Γe Er W → W (m.bind k) → Stt F Γ T σ H → ∀ Q : Bool → Hp → Prop, (∀ a H', W (k a) → Stt F Γ T σ H' → Same H H' → Q a H') → tt σ H Q
def MA (F : Fx) (Γe : List Ent) (Er : L2.St → Exn → Hp → Prop) (ta : TA) (Γ : List Ent) (m : R α) (ds : α → List Dt) : Prop :=
  ∀ (ρ : Type) (W : R ρ → Prop) (k : α → R ρ) T σ H, WOk F Γe Er W → W (m.bind k) → Stt F Γ T σ H → ∀ Q : List V → Hp → Prop, (∀ a vs H', W (k a) → SttA F Γ T vs (ds a) σ H' → Same H H' → Q vs H') → ta σ H Q
def OpM (F : Fx) (r : R2) (tx ty : Own) (m : R γ) (tz : γ → Own) : Prop :=
  ∀ (ρ : Type) (W : R ρ → Prop) (k : γ → R ρ) Γ T σ H x y, ¬ W .bad → W (m.bind k) → Stt F Γ ((y, ty) :: (x, tx) :: T) σ H → ∀ Q : VK, (∀ c z H', W (k c) → Stt F Γ ((z, tz c) :: T) σ H' → Same H H' → Q z H') → r x y H Q
theorem om_ok {r : R2} {tx ty : Own} {tz : γ → Own} {c : γ} (h : Op2 F r tx ty (tz c)) : OpM F r tx ty (.ok c) tz := fun _ W k Γ T σ H x y nb w s Q q => h Γ T σ H x y s Q fun z H' s' e => q c z H' w s' e
theorem om_guard {r : R2} {tx ty : Own} {tz : γ → Own} {p : Prop} [Decidable p] {m : R γ} (h : p → OpM F r tx ty m tz) : OpM F r tx ty (R.guard p m) tz := fun _ W k Γ T σ H x y nb w s Q q => by
  unfold R.guard at w
  by_cases c : p
  · rw [if_pos c] at w; exact h c _ W k Γ T σ H x y nb w s Q q
  · rw [if_neg c] at w; exact absurd w nb
theorem mv_ok {t : α → Own} {a : α} (h : Ev F te Γ (t a)) : MV F Γe Er te Γ (.ok a) t := fun _ W k T σ H ok w s Q q => h T σ H s Q fun v H' s' e => q a v H' w s' e
theorem mv_guard {t : α → Own} {p : Prop} [Decidable p] {m : R α} (h : p → MV F Γe Er te Γ m t) : MV F Γe Er te Γ (R.guard p m) t := fun _ W k T σ H ok w s Q q => by
  unfold R.guard at w
  by_cases c : p
  · rw [if_pos c] at w; exact h c _ W k T σ H ok w s Q q
  · rw [if_neg c] at w; exact absurd w ok.bad
theorem mv_op {r : R2} {tx : α → Own} {ty : α → β → Own} {tz : γ → Own} {m1 : R α} {m2 : α → R β} {m3 : α → β → R γ} (h1 : MV F Γe Er ta Γ m1 tx) (h2 : ∀ a, MV F Γe Er tb Γ (m2 a) (ty a)) (ho : ∀ a b, OpM F r (tx a) (ty a b) (m3 a b) tz) :
    MV F Γe Er (tOp r ta tb) Γ (m1.bind fun a => (m2 a).bind fun b => m3 a b) tz := fun _ W k T σ H ok w s Q q => by
  have w1 : W (m1.bind fun a => ((m2 a).bind fun b => m3 a b).bind k) := by rw [← R.bind_assoc]; exact w
  refine h1 _ W _ T σ H ok w1 s _ fun a x H1 w2 s1 e1 => ?_
  have w3 : W ((m2 a).bind fun b => (m3 a b).bind k) := by rw [← R.bind_assoc]; exact w2
  refine h2 a _ W _ _ σ H1 ok w3 s1 _ fun b y H2 w4 s2 e2 => ?_
  exact ho a b _ W k _ _ σ H2 x y ok.bad w4 s2 Q fun c z H3 w5 s3 e3 => q c z H3 w5 s3 ((e1.trans e2).trans e3)
theorem mv_map {t : α → Own} {u : β → Own} {m : R α} {f : α → β} (h : MV F Γe Er te Γ m t) (e : ∀ a, u (f a) = t a) : MV F Γe Er te Γ (m.bind fun a => .ok (f a)) u := fun _ W k T σ H ok w s Q q => by
  rw [R.bind_assoc] at w
  exact h _ W _ T σ H ok w s _ fun a x H1 w2 s1 e1 => q (f a) x H1 w2 (by rw [e a]; exact s1) e1
theorem mv_frz {ds : α → List Dt} {m : R α} (h : MV F Γe Er te Γ m fun a => .lst ((ds a).map Own.dat)) : MV F Γe Er te Γ m fun a => .dat (.lst (ds a)) := fun _ W k T σ H ok w s Q q =>
  h _ W k T σ H ok w s Q fun a v H' w' s' e => q a v H' w' s'.freeze e
theorem ma_ok {tr : TA} {ds : α → List Dt} {a : α} (h : EvA F tr Γ (ds a)) : MA F Γe Er tr Γ (.ok a) ds := fun _ W k T σ H ok w s Q q => h T σ H s Q fun vs H' s' e => q a vs H' w s' e
theorem ma_guard {tr : TA} {ds : α → List Dt} {p : Prop} [Decidable p] {m : R α} (h : p → MA F Γe Er tr Γ m ds) : MA F Γe Er tr Γ (R.guard p m) ds := fun _ W k T σ H ok w s Q q => by
  unfold R.guard at w
  by_cases c : p
  · rw [if_pos c] at w; exact h c _ W k T σ H ok w s Q q
  · rw [if_neg c] at w; exact absurd w ok.bad
theorem ma_consP {tr : TA} {ds : α → List Dt} {m : R α} (h1 : Ev F te Γ (.dat d)) (h2 : MA F Γe Er tr Γ m ds) : MA F Γe Er (tCons te tr) Γ m (fun a => d :: ds a) := fun _ W k T σ H ok w s Q q =>
  h1 T σ H s _ fun v H1 s1 e1 => h2 _ W k _ σ H1 ok w s1 _ fun a vs H2 w2 s2 e2 => q a (v :: vs) H2 w2 s2.cons (e1.trans e2)
theorem ma_consM {tr : TA} {e1 : α → Dt} {ds : β → List Dt} {m1 : R α} {m2 : α → R β} (h1 : MV F Γe Er te Γ m1 fun a => .dat (e1 a)) (h2 : ∀ a, MA F Γe Er tr Γ (m2 a) ds) : MA F Γe Er (tCons te tr) Γ (m1.bind fun a => (m2 a).bind fun b => .ok (a, b)) (fun p => e1 p.1 :: ds p.2) := fun _ W k T σ H ok w s Q q => by
  rw [R.bind_assoc] at w
  refine h1 _ W _ T σ H ok w s _ fun a v H1 w1 s1 e1 => ?_
  rw [R.bind_assoc] at w1
  exact h2 a _ W _ _ σ H1 ok w1 s1 _ fun b vs H2 w2 s2 e2 => q (a, b) (v :: vs) H2 w2 s2.cons (e1.trans e2)
theorem mv_tup {tr : TA} {ds : α → List Dt} {m : R α} (h : MA F Γe Er tr Γ m ds) (hl : ∀ a, (ds a).length ≤ 1000) : MV F Γe Er (tTup tr) Γ m fun a => .dat (.tup (ds a)) := fun _ W k T σ H ok w s Q q =>
  h _ W k T σ H ok w s _ fun a vs H1 w1 s1 e1 => by
    refine ⟨?_, fun p hp => q a _ _ w1 (SttA.tup s1 hp) (e1.trans (same_upd hp))⟩
    obtain ⟨B, O, r, _⟩ := s1
    rw [r.length]
    exact line_le (Nat.le_trans (hl a) (by decide))
theorem mv_lst {tr : TA} {ds : α → List Dt} {m : R α} (h : MA F Γe Er tr Γ m ds) (hl : ∀ a, (ds a).length ≤ 1000) : MV F Γe Er (tLst tr) Γ m fun a => .lst ((ds a).map Own.dat) := fun _ W k T σ H ok w s Q q =>
  h _ W k T σ H ok w s _ fun a vs H1 w1 s1 e1 => by
    refine ⟨?_, fun p hp => q a _ _ w1 (SttA.lst s1 hp) (e1.trans (same_upd hp))⟩
    obtain ⟨B, O, r, _⟩ := s1
    rw [r.length]
    exact line_le (Nat.le_trans (hl a) (by decide))
theorem call_goS {X : Type} {Ce : Exn → Addr} {n : Nat} {argT : X → List Dt} {m : X → R α} {res : α → Own} {k : α → R ρ} {vs : List V} {ds : List Dt} {Q : VK} {Ex : XK} (x : X)
    (hx : argT x = ds) (hn : ds.length = n) (A : SttA F Γ T vs ds σ H) (ok : WOk F Γe Er W) (hE : ∀ e H', Er σ e H' → ErrAt Ce Ex e H') (wk : Wk Γ Γe) (hw : W ((m x).bind k))
    (q : ∀ a v H', W (k a) → Stt F Γ ((v, res a) :: T) σ H' → Same H H' → Q v H') : spD F.K Ce n argT m res vs H Q Ex := by
  obtain ⟨B, O, r, s, p, i⟩ := A
  subst hx
  refine ⟨x, B, emp, by rw [List.length_map, hn], owa_dats r, p.bh, fun a o e => (nomatch e), ⟨dj_emp, nt_emp⟩, ?_⟩
  have pe : Post F.B F.O F.H B (jn emp O) H := by rw [emp_jn]; exact p
  cases e : m x with
  | ok a =>
    rw [e] at hw
    intro v B' O' H' P oa
    unfold OwA at oa
    obtain ⟨v', r', O1, O2, e1, a1, b1, d1, rfl⟩ := oa
    cases e1
    unfold OwA at b1
    obtain ⟨_, rfl⟩ := b1
    rw [jn_emp] at P
    obtain ⟨dj', P'⟩ := pe.call emp_dj P
    exact q a v H' hw ⟨B', jn O1 O, slots_own a1 (s.mono P.b0) dj', P', i⟩ fun a o h => P.fr a o h rfl
  | err ex =>
    rw [e] at hw
    intro B' O' H' P oa
    unfold OwA at oa
    obtain ⟨_, rfl⟩ := oa
    obtain ⟨dj', P'⟩ := pe.call emp_dj P
    rw [emp_jn] at P'
    refine hE ex H' (ok.err ex hw σ H' ?_)
    exact (Stt.pops (T := T) ⟨B', O, s.mono P.b0, P', i⟩).weak wk
  | bad =>
    rw [e] at hw
    exact absurd hw ok.bad
theorem mv_call {X : Type} {Ce : Exn → Addr} {n : Nat} {argT : X → List Dt} {m : X → R α} {res : α → Own} {tr : TA} {ds : β → List Dt} {Ex : L2.St → XK} {mx : R β} (x : β → X)
    (ha : MA F Γe Er tr Γ mx ds) (hx : ∀ b, argT (x b) = ds b) (hn : ∀ b, (ds b).length = n) (hE : ∀ σ e H', Er σ e H' → ErrAt Ce (Ex σ) e H') (wk : Wk Γ Γe) :
    MV F Γe Er (tCallS (spD F.K Ce n argT m res) Ex tr) Γ (mx.bind fun b => m (x b)) res := fun _ W k T σ H ok w s Q q => by
  rw [R.bind_assoc] at w
  exact ha _ W _ T σ H ok w s _ fun b vs H1 w1 A e1 => call_goS (x b) (hx b) (hn b) A ok (hE σ) wk w1 fun a v H2 w2 s2 e2 => q a v H2 w2 s2 (e1.trans e2)
theorem mv_callP {X : Type} {Ce : Exn → Addr} {n : Nat} {argT : X → List Dt} {m : X → R α} {res : α → Own} {tr : TA} {ds : List Dt} {Ex : L2.St → XK} (x : X)
    (ha : EvA F tr Γ ds) (hx : argT x = ds) (hn : ds.length = n) (hE : ∀ σ e H', Er σ e H' → ErrAt Ce (Ex σ) e H') (wk : Wk Γ Γe) :
    MV F Γe Er (tCallS (spD F.K Ce n argT m res) Ex tr) Γ (m x) res := fun _ W k T σ H ok w s Q q =>
  ha T σ H s _ fun vs H1 A e1 => call_goS x hx hn A ok (hE σ) wk w fun a v H2 w2 s2 e2 => q a v H2 w2 s2 (e1.trans e2)
theorem mt_ok {b : Bool} (h : EvT F tt Γ b) : MT F Γe Er tt Γ (.ok b) := fun _ W k T σ H ok w s Q q => h T σ H s Q fun H' s' e => q b H' w s' e
theorem mt_guard {p : Prop} [Decidable p] {m : R Bool} (h : p → MT F Γe Er tt Γ m) : MT F Γe Er tt Γ (R.guard p m) := fun _ W k T σ H ok w s Q q => by
  unfold R.guard at w
  by_cases c : p
  · rw [if_pos c] at w; exact h c _ W k T σ H ok w s Q q
  · rw [if_neg c] at w; exact absurd w ok.bad
theorem mt_test {m : R Bool} (h : MV F Γe Er te Γ m fun b => .dat (.bl b)) : MT F Γe Er (tTest te) Γ m := fun _ W k T σ H ok w s Q q => h _ W k T σ H ok w s _ fun b v H' w' s' e => by
  obtain ⟨B, _, r⟩ := s'.topd
  exact ⟨b, rp_bl r, q b H' w' s'.pop e⟩
theorem mt_B {m : R Bool} (h : MV F Γe Er te Γ m fun b => .dat (.bl b)) : MT F Γe Er (tB te) Γ m := fun _ W k T σ H ok w s Q q => h _ W k T σ H ok w s _ fun b v H' w' s' e => by
  obtain ⟨B, _, r⟩ := s'.topd
  exact ⟨b, rp_bl r, q b H' w' s'.pop e⟩
theorem mt_not {m : R Bool} (h : MT F Γe Er tt Γ m) : MT F Γe Er (tNot tt) Γ (R.not m) := fun _ W k T σ H ok w s Q q => by
  unfold R.not at w
  rw [R.bind_assoc] at w
  exact h _ W _ T σ H ok w s _ fun b H' w' s' e => q (!b) H' w' s' e
theorem mt_and {m n : R Bool} (h1 : MT F Γe Er tt Γ m) (h2 : MT F Γe Er uu Γ n) : MT F Γe Er (tAnd tt uu) Γ (R.and m n) := fun _ W k T σ H ok w s Q q => by
  unfold R.and at w
  rw [R.bind_assoc] at w
  refine h1 _ W _ T σ H ok w s _ fun b H1 w1 s1 e1 => ?_
  cases b with
  | true =>
    show uu σ H1 Q
    exact h2 _ W k T σ H1 ok w1 s1 Q fun a H2 w2 s2 e2 => q a H2 w2 s2 (e1.trans e2)
  | false =>
    show Q false H1
    exact q false H1 w1 s1 e1
theorem mt_or {m n : R Bool} (h1 : MT F Γe Er tt Γ m) (h2 : MT F Γe Er uu Γ n) : MT F Γe Er (tOr tt uu) Γ (R.or m n) := fun _ W k T σ H ok w s Q q => by
  unfold R.or at w
  rw [R.bind_assoc] at w
  refine h1 _ W _ T σ H ok w s _ fun b H1 w1 s1 e1 => ?_
  cases b with
  | true =>
    show Q true H1
    exact q true H1 w1 s1 e1
  | false =>
    show uu σ H1 Q
    exact h2 _ W k T σ H1 ok w1 s1 Q fun a H2 w2 s2 e2 => q a H2 w2 s2 (e1.trans e2)
abbrev oB : Bool → Own := fun b => .dat (.bl b)
theorem mv_andV {m n : R Bool} (h1 : MV F Γe Er ta Γ m oB) (h2 : MV F Γe Er tb Γ n oB) : MV F Γe Er (tAndV ta tb) Γ (R.and m n) oB := fun _ W k T σ H ok w s Q q => by
  unfold R.and at w
  rw [R.bind_assoc] at w
  refine h1 _ W _ T σ H ok w s _ fun b v H1 w1 s1 e1 => ?_
  obtain ⟨B, _, r⟩ := s1.topd
  refine ⟨b, rp_bl r, ?_⟩
  cases b with
  | true =>
    show tb σ H1 Q
    exact h2 _ W k T σ H1 ok w1 s1.pop Q fun a v H2 w2 s2 e2 => q a v H2 w2 s2 (e1.trans e2)
  | false =>
    show Q (.bl false) H1
    exact q false _ H1 w1 (s1.pop.push fun _ _ => by unfold Rp; rfl) e1
theorem s_asgM {t : α → Own} {m : R α} {k : α → R ρ} {j : Nat} (hst : Stt F Γ T σ H) (hw : W (m.bind k)) (ok : WOk F Γe Er W) (h : MV F Γe Er te Γ m t) (hj : j < Γ.length) (ni : NI F j)
    (q : ∀ a σ' H', W (k a) → Stt F (Γ.set j (some (t a))) T σ' H' → D.nx σ' H') : tAsg te (gName j) D σ H :=
  h _ W k T σ H ok hw hst _ fun a v H1 w s1 _ => q a _ H1 w (s1.assign hj ni)
theorem s_asgTM {n : Nat} {gs : TGs} {ds : α → List Dt} {m : R α} {k : α → R ρ} {Γ' : α → List Ent} (hst : Stt F Γ T σ H) (hw : W (m.bind k)) (ok : WOk F Γe Er W) (h : MV F Γe Er te Γ m fun a => .dat (.tup (ds a))) (hn : ∀ a, (ds a).length = n) (hg : ∀ a, Tgs F gs (ds a) Γ (Γ' a))
    (q : ∀ a σ' H', W (k a) → Stt F (Γ' a) T σ' H' → D.nx σ' H') : tAsg te (gTup F.K n gs) D σ H :=
  h _ W k T σ H ok hw hst _ fun a v H1 w s1 _ => tg_tup (hn a) (hg a) T σ H1 v _ s1 fun σ' H' s' => q a σ' H' w s'
theorem s_retM {t : α → Own} {m : R α} {k : α → R ρ} (hst : Stt F Γ T σ H) (hw : W (m.bind k)) (ok : WOk F Γe Er W) (h : MV F Γe Er te Γ m t)
    (q : ∀ a v H', W (k a) → Stt F Γ ((v, t a) :: T) σ H' → D.rt v H') : tRet te D σ H :=
  h _ W k T σ H ok hw hst _ fun a v H1 w s1 _ => q a v H1 w s1
theorem s_ifM {t1 t2 : TS} {m : R Bool} {A B : R ρ} (hst : Stt F Γ T σ H) (hw : W (m.bind fun b => if b = true then A else B)) (ok : WOk F Γe Er W) (h : MT F Γe Er tt Γ m)
    (q1 : ∀ H', W A → Stt F Γ T σ H' → t1 D σ H') (q2 : ∀ H', W B → Stt F Γ T σ H' → t2 D σ H') : tIfS tt t1 t2 D σ H :=
  h _ W _ T σ H ok hw hst _ fun b H1 w s1 _ => by
    cases b with
    | true => exact q1 H1 w s1
    | false => exact q2 H1 w s1
theorem s_ifJ {t1 t2 : TS} {m : R Bool} {A B : R S} {k : S → R ρ} {Γj : S → List Ent} (hst : Stt F Γ T σ H) (hw : W ((m.bind fun b => if b = true then A else B).bind k)) (ok : WOk F Γe Er W) (h : MT F Γe Er tt Γ m)
    (q1 : ∀ (W' : R S → Prop) (N : L2.St → Hp → Prop) H, WOk F Γe Er W' → W' A → Stt F Γ T σ H → (∀ s σ' H', W' (.ok s) → Stt F (Γj s) T σ' H' → N σ' H') → t1 { D with nx := N } σ H)
    (q2 : ∀ (W' : R S → Prop) (N : L2.St → Hp → Prop) H, WOk F Γe Er W' → W' B → Stt F Γ T σ H → (∀ s σ' H', W' (.ok s) → Stt F (Γj s) T σ' H' → N σ' H') → t2 { D with nx := N } σ H)
    (q : ∀ s σ' H', W (k s) → Stt F (Γj s) T σ' H' → D.nx σ' H') : tIfS tt t1 t2 D σ H := by
  rw [R.bind_assoc] at hw
  refine h _ W _ T σ H ok hw hst _ fun b H1 w s1 _ => ?_
  cases b with
  | true => exact q1 (fun m => W (m.bind k)) D.nx H1 (ok.bind k) w s1 q
  | false => exact q2 (fun m => W (m.bind k)) D.nx H1 (ok.bind k) w s1 q
theorem s_ifC {t1 t2 : TS} {m : R Bool} {A B : R (Ctl S β)} {k : Ctl S β → R ρ} {Γj : S → List Ent} (hst : Stt F Γ T σ H) (hw : W ((m.bind fun b => if b = true then A else B).bind k)) (ok : WOk F Γe Er W) (h : MT F Γe Er tt Γ m)
    (q1 : ∀ (W' : R (Ctl S β) → Prop) (N : L2.St → Hp → Prop) H, WOk F Γe Er W' → (∀ r, W' (.ok (.rt r)) → W (k (.rt r))) → W' A → Stt F Γ T σ H → (∀ s σ' H', W' (.ok (.nx s)) → Stt F (Γj s) T σ' H' → N σ' H') → t1 { D with nx := N } σ H)
    (q2 : ∀ (W' : R (Ctl S β) → Prop) (N : L2.St → Hp → Prop) H, WOk F Γe Er W' → (∀ r, W' (.ok (.rt r)) → W (k (.rt r))) → W' B → Stt F Γ T σ H → (∀ s σ' H', W' (.ok (.nx s)) → Stt F (Γj s) T σ' H' → N σ' H') → t2 { D with nx := N } σ H)
    (q : ∀ s σ' H', W (k (.nx s)) → Stt F (Γj s) T σ' H' → D.nx σ' H') : tIfS tt t1 t2 D σ H := by
  rw [R.bind_assoc] at hw
  refine h _ W _ T σ H ok hw hst _ fun b H1 w s1 _ => ?_
  cases b with
  | true => exact q1 (fun m => W (m.bind k)) D.nx H1 (ok.bind k) (fun r z => z) w s1 q
  | false => exact q2 (fun m => W (m.bind k)) D.nx H1 (ok.bind k) (fun r z => z) w s1 q
theorem s_appM {n : Nat} {ds : List Dt} {e : α → Dt} {m : R α} {k : α → R ρ} (hst : Stt F Γ T σ H) (hw : W (m.bind fun a => R.guard (ds.length < 16777216) (k a))) (ok : WOk F Γe Er W) (he : Γ[n]? = some (some (.lst (ds.map Own.dat)))) (h : MV F Γe Er te Γ m fun a => .dat (e a))
    (q : ∀ a σ' H', W (k a) → Stt F (Γ.set n (some (.lst ((ds ++ [e a]).map Own.dat)))) T σ' H' → D.nx σ' H') : tDrop (tBM F.K "list" rAppend (tVar n) (tCons te tNil)) D σ H := by
  have e' : (T.map (fun p => some p.2) ++ Γ)[T.length + n]? = some (some (.lst (ds.map Own.dat))) := by
    rw [List.getElem?_append_right (by simp)]
    simpa using he
  obtain ⟨B, O, s1, p, i⟩ := id hst
  obtain ⟨v, O1, O2, e1, a, dj, rfl, _⟩ := s1.at e'
  unfold Ow at a
  obtain ⟨l, vs, O', rfl, oa, n', rfl⟩ := a
  rw [List.getElem?_append_right (by simp)] at e1
  have e2 : σ[n]? = some (some (V.ref l)) := by simpa using e1
  refine ⟨.ref l, e2, .inl ⟨rfl, _, SqL.of (p.oh l _ (jn_some upd_same))⟩, ?_⟩
  refine h _ W _ T σ H ok hw hst _ fun a u H1 w s2 e3 => ?_
  obtain ⟨hl, w⟩ := R.guard_ok ok w
  obtain ⟨B2, Ou, Or, au, s3, dj3, p3, i3⟩ := s2.top
  obtain ⟨ru, rfl⟩ := au.rp
  rw [emp_jn] at p3
  obtain ⟨v', P1, P2, e1', a', dj', rfl, k', _⟩ := s3.at e'
  rw [List.getElem?_append_right (by simp)] at e1'
  have e2' : σ[n]? = some (some v') := by simpa using e1'
  rw [e2] at e2'
  cases e2'
  unfold Ow at a'
  obtain ⟨l', ws, Q', el, oa', n2, rfl⟩ := a'
  cases el
  obtain ⟨rw_, rfl⟩ := oa'.dats
  have hH : H1 l = some (.lst ws) := p3.oh l _ (jn_some upd_same)
  refine ⟨l, ws, u, rfl, rfl, hH, by rw [rw_.length]; exact line_lt hl, ?_⟩
  have z := k' B2 (.lst ((ds ++ [_]).map Own.dat)) (upd emp l (.lst (ws ++ [u]))) (.ref l) (Same.refl _) (by
    unfold Ow
    exact ⟨l, ws ++ [u], emp, rfl, owa_dats (rw_.append (RpA.one ru)), rfl, rfl⟩) (by
    have nl : P2 l = none := by
      rcases dj' l with x | x
      · rw [upd_same] at x; cases x
      · exact x
    exact Dj.upd emp_dj nl)
  rw [List.set_append_right _ _ (by simp), List.set_append_right _ _ (by simp)] at z
  have hs : σ.set (T.length + n - (T.map fun p => some p.1).length) (some (V.ref l)) = σ := by
    have en : T.length + n - (T.map fun (p : V × Own) => some p.1).length = n := by simp
    rw [en]
    apply List.ext_getElem?
    intro j
    by_cases hj : n = j
    · subst hj
      rw [e2, List.getElem?_set_self (List.getElem?_eq_some_iff.mp e2).1]
    · rw [List.getElem?_set_ne hj]
  rw [hs] at z
  have en : T.length + n - (T.map fun (p : V × Own) => some p.2).length = n := by simp
  rw [en] at z
  refine q a σ _ w ⟨B2, _, z, ?_, i3⟩
  have p4 := p3.mut (a := l) (o := .lst (ws ++ [u])) (jn_some upd_same)
  rw [upd_jn, upd_upd] at p4
  exact p4
def Sr (F : Fx) (Γe : List Ent) (Er : L2.St → Exn → Hp → Prop) (wi : L2.St → Hp → (It → Hp → Prop) → Prop) (Γ : List Ent) (m : R β) (xs : β → List α) (enc : α → Dt) : Prop :=
  ∀ (ρ : Type) (W : R ρ → Prop) (k : β → R ρ) T σ H, WOk F Γe Er W → W (m.bind k) → Stt F Γ T σ H → ∀ Ri : It → Hp → Prop,
    (∀ b T' J H', W (k b) → Stt F Γ (T' ++ T) σ H' → Same H H' → Wks F J (T' ++ T) ((xs b).map enc) → Ri J H') → wi σ H Ri
theorem sr_list {m : R β} {xs : β → List α} {enc : α → Dt} (h : MV F Γe Er te Γ m fun b => .dat (.lst ((xs b).map enc))) : Sr F Γe Er (iList F.K te) Γ m xs enc := fun _ W k T σ H ok w s Ri q =>
  h _ W k T σ H ok w s _ fun b v H1 w1 s1 e1 => by
    obtain ⟨B, eb, r⟩ := s1.topd
    unfold Rp at r
    obtain ⟨l, vs, rfl, hl, ra⟩ := r
    exact ⟨l, rfl, ⟨vs, SqL.of (eb _ _ hl)⟩, q b [_] _ H1 w1 s1 e1 wks_list⟩
theorem sr_str {m : R β} {z : β → Str} (h : MV F Γe Er te Γ m fun b => .dat (.str (z b))) : Sr F Γe Er (iStr te) Γ m (fun b => (z b).cps.toList) (fun c => .str (sgn c)) := fun _ W k T σ H ok w s Ri q =>
  h _ W k T σ H ok w s _ fun b v H1 w1 s1 e1 => by
    obtain ⟨B, eb, r⟩ := s1.topd
    refine ⟨z b, rp_str r, q b [] _ H1 w1 s1.pop e1 ?_⟩
    have := wks_str (F := F) (T := T) (z := z b)
    rw [List.map_map] at this
    exact this
theorem sr_rng1 {m : R Int} (h : MV F Γe Er te Γ m fun j => .dat (.int j)) : Sr F Γe Er (iRng1 (tCons te tNil)) Γ (m.bind fun j => R.guard (gR j) (.ok j)) (fun j => rng 0 j) Dt.int := fun _ W k T σ H ok w s Ri q => by
  rw [R.bind_assoc] at w
  refine h _ W _ T σ H ok w s _ fun j v H1 w1 s1 e1 => ?_
  obtain ⟨B, eb, r⟩ := s1.topd
  have w2 : W (R.guard (gR j) (k j)) := by
    unfold R.guard at w1 ⊢
    by_cases c : gR j
    · rw [if_pos c] at w1 ⊢; exact w1
    · rw [if_neg c] at w1; exact absurd w1 ok.bad
  obtain ⟨hb, w2⟩ := R.guard_ok ok w2
  refine ⟨j, by rw [rp_int r], hb.1, hb.2, q j [] _ H1 w2 s1.pop e1 ?_⟩
  have e : rng 0 j = (List.range j.toNat).map fun (i : Nat) => (0 : Int) + (i : Int) := by unfold rng; rw [Int.sub_zero]
  show Wks F (Itr 0 j.toNat) _ ((rng 0 j).map Dt.int)
  rw [e]
  exact wks_rng
theorem Stt.popn : ∀ {T' : List (V × Own)}, Stt F Γ (T' ++ T) σ H → Stt F Γ T σ H
  | [], h => h
  | _ :: T', h => Stt.popn (T' := T') (Stt.pop h)
theorem Slots.mid {K : PySem.W.Frag} {B : Hp} : ∀ {T' : List (V × Own)} {Γ : List Ent} {O : Hp} {σ : L2.St}, Slots K B (T'.map (fun p => some p.2) ++ Γ) O (T'.map (fun p => some p.1) ++ σ) → ∃ Od O', Dj Od O' ∧ O = jn Od O' ∧ Slots K B Γ O' σ
  | [], Γ, O, σ, h => ⟨emp, O, emp_dj, emp_jn.symm, h⟩
  | p :: T', Γ, O, σ, h => by
    rw [List.map_cons, List.map_cons, List.cons_append, List.cons_append] at h
    unfold Slots at h
    obtain ⟨v, r, O1, O2, e, a, b, c, rfl⟩ := h
    obtain ⟨_, rfl⟩ := List.cons.inj e
    obtain ⟨Od, O', d, rfl, s⟩ := Slots.mid b
    exact ⟨jn O1 Od, O', Dj.jnl (Dj.rr c) d, jn_assoc.symm, s⟩
theorem Stt.popm {T' : List (V × Own)} {t : Own} (h : Stt F Γ ((v, t) :: (T' ++ T)) σ H) : Stt F Γ ((v, t) :: T) σ H := by
  obtain ⟨B, O1, O2, a, s, d, p, i⟩ := h.top
  rw [List.map_append, List.map_append, List.append_assoc, List.append_assoc] at s
  obtain ⟨Od, O', d2, rfl, s'⟩ := s.mid
  refine ⟨B, jn O1 O', slots_own a s' d.rr, ?_, i⟩
  rw [jn_swap d.rl] at p
  exact p.dropL (Dj.jnr d.rl.symm d2)
theorem mv_lc {Γx : List Ent} {wi : L2.St → Hp → (It → Hp → Prop) → Prop} {g : TG} {vs : List Nat} {m : R γ} {xs : γ → List α} {enc : α → Dt} {encB : β → Dt} {f : γ → α → R β} {Γb : γ → α → List Ent}
    (hs : Sr F Γe Er wi Γ m xs enc) (hn : NoneAt F Γ vs) (tg : ∀ c x, TgW F g (enc x) Γ (Γb c x) vs) (wkb : ∀ c x, Wk (Γb c x) Γ)
    (body : ∀ c x, MV F Γx (fun _ _ _ => False) te (Γb c x) (f c x) fun y => .dat (encB y)) :
    MV F Γe Er (tLc wi g tYes te vs) Γ (m.bind fun c => R.guard ((xs c).length ≤ 16777216) (mapR (f c) (xs c))) (fun ys => .lst ((ys.map encB).map Own.dat)) := fun _ W k T σ H ok w s Q q => by
  rw [R.bind_assoc] at w
  refine hs _ W _ T σ H ok w s _ fun c T' J H1 w1 s1 e1 wk => ?_
  have w2 : W (R.guard ((xs c).length ≤ 16777216) ((mapR (f c) (xs c)).bind k)) := by
    unfold R.guard at w1 ⊢
    by_cases z : (xs c).length ≤ 16777216
    · rw [if_pos z] at w1 ⊢; exact w1
    · rw [if_neg z] at w1; exact absurd w1 ok.bad
  obtain ⟨hl, w2⟩ := R.guard_ok ok w2
  exact lc_go wk hn (tg c) (wkb c) hl s1 ok w2 (fun x T2 W' σ' H' Qe ok' w' st' q' => body c x _ W' R.ok T2 σ' H' ok' (by rw [R.bind_ok]; exact w') st' Qe q') fun ys v H' w3 s3 e3 => q ys v H' w3 s3.popm (e1.trans e3)
theorem wkN : ∀ {n : Nat} {Γ : List Ent}, Γ.length = n → Wk Γ (List.replicate n none)
  | 0, [], _ => .nil
  | n + 1, _ :: Γ, h => .drop (wkN (Nat.succ.inj h))
theorem s_retF {t : α → Own} {m : R α} {W : R α → Prop} (hst : Stt F Γ T σ H) (hw : W m) (ok : WOk F Γe Er W) (h : MV F Γe Er te Γ m t)
    (q : ∀ a v H', W (.ok a) → Stt F Γ ((v, t a) :: T) σ H' → D.rt v H') : tRet te D σ H :=
  h _ W R.ok T σ H ok (by rw [R.bind_ok]; exact hw) hst _ fun a v H1 w s1 _ => q a v H1 w s1
theorem s_foldM {wi : L2.St → Hp → (It → Hp → Prop) → Prop} {g : TG} {tb : TS} {m : R γ} {xs : γ → List α} {enc : α → Dt} {f : γ → α → S → R S} {k : S → R ρ} {Γs : S → List Ent} {Γb : γ → α → S → List Ent} {s0 : S}
    (hst : Stt F Γ T σ H) (hw : W ((m.bind fun c => foldR (f c) (xs c) s0).bind k)) (ok : WOk F Γe Er W) (hs : Sr F Γe Er wi Γ m xs enc) (wk0 : Wk Γ (Γs s0)) (tg : ∀ c x s, Tg F g (enc x) (Γs s) (Γb c x s))
    (body : ∀ c x s (W' : R S → Prop) (N : L2.St → Hp → Prop) T σ H, WOk F Γe Er W' → W' (f c x s) → Stt F (Γb c x s) T σ H → (∀ s' σ' H', W' (.ok s') → Stt F (Γs s') T σ' H' → N σ' H') → tb { D with nx := N, ct := N, bk := D.nx } σ H)
    (q : ∀ s σ H, W (k s) → Stt F (Γs s) T σ H → D.nx σ H) : tFor wi g tb D σ H := by
  rw [R.bind_assoc] at hw
  refine hs _ W _ T σ H ok hw hst _ fun c T' J H1 w1 s1 e1 wk => ?_
  exact s_fold wk (tg c) (s1.weak wk0) ok w1 (fun x s W' N σ H ok' w' st' q' => body c x s W' N _ σ H ok' w' st' q') fun s σ H w2 st => q s σ H w2 st.popn
theorem s_forM {wi : L2.St → Hp → (It → Hp → Prop) → Prop} {g : TG} {tb : TS} {m : R γ} {xs : γ → List α} {enc : α → Dt} {f : γ → α → S → R (Ctl S β)} {k : Ctl S β → R ρ} {Γs : S → List Ent} {Γb : γ → α → S → List Ent} {s0 : S}
    (hst : Stt F Γ T σ H) (hw : W ((m.bind fun c => forR (f c) (xs c) s0).bind k)) (ok : WOk F Γe Er W) (hs : Sr F Γe Er wi Γ m xs enc) (wk0 : Wk Γ (Γs s0)) (tg : ∀ c x s, Tg F g (enc x) (Γs s) (Γb c x s))
    (body : ∀ c x s (W' : R (Ctl S β) → Prop) (N Bk : L2.St → Hp → Prop) T σ H, WOk F Γe Er W' → (∀ r, W' (.ok (.rt r)) → W (k (.rt r))) → W' (f c x s) → Stt F (Γb c x s) T σ H → (∀ s' σ' H', W' (.ok (.nx s')) → Stt F (Γs s') T σ' H' → N σ' H') →
      (∀ s' σ' H', W' (.ok (.bk s')) → Stt F (Γs s') T σ' H' → Bk σ' H') → tb { D with nx := N, ct := N, bk := Bk } σ H)
    (q : ∀ s σ H, W (k (.nx s)) → Stt F (Γs s) T σ H → D.nx σ H) : tFor wi g tb D σ H := by
  rw [R.bind_assoc] at hw
  refine hs _ W _ T σ H ok hw hst _ fun c T' J H1 w1 s1 e1 wk => ?_
  exact s_for wk (tg c) (s1.weak wk0) ok w1 (fun x s W' N Bk σ H ok' r' w' st' q1 q2 => body c x s W' N Bk _ σ H ok' r' w' st' q1 q2) fun s σ H w2 st => q s σ H w2 st.popn
theorem s_whileM {tc : TT} {tb : TS} {c : S → R Bool} {f : S → R (Ctl S β)} {n : Nat} {k : Ctl S β → R ρ} {Γs : S → List Ent} {s0 : S}
    (hst : Stt F Γ T σ H) (hw : W ((whileR c f n s0).bind k)) (ok : WOk F Γe Er W) (wk0 : Wk Γ (Γs s0))
    (cond : ∀ s, MT F Γe Er tc (Γs s) (c s))
    (body : ∀ s (W' : R (Ctl S β) → Prop) (N Bk : L2.St → Hp → Prop) σ H, WOk F Γe Er W' → (∀ r, W' (.ok (.rt r)) → W (k (.rt r))) → W' (f s) → Stt F (Γs s) T σ H → (∀ s' σ' H', W' (.ok (.nx s')) → Stt F (Γs s') T σ' H' → N σ' H') →
      (∀ s' σ' H', W' (.ok (.bk s')) → Stt F (Γs s') T σ' H' → Bk σ' H') → tb { D with nx := N, ct := N, bk := Bk } σ H)
    (q : ∀ s σ H, W (k (.nx s)) → Stt F (Γs s) T σ H → D.nx σ H) : tWhile tc tb D σ H :=
  s_while (hst.weak wk0) ok hw (fun s W' σ H Q ok' w' st' q' => cond s _ W' R.ok T σ H ok' (by rw [R.bind_ok]; exact w') st' Q fun b H' w2 s2 _ => q' b H' w2 s2) body q
end
end Sm
namespace Sm
open PySem L2
def Sx (l : List Nat) : Str := ⟨l.toArray⟩
abbrev lt (x : Str) : List Nat := x.cps.toList
theorem Sx_lt (x : Str) : Sx (lt x) = x := by cases x; simp [Sx, lt]
theorem Sx_len (l : List Nat) : (Sx l).length = l.length := by simp [Sx, Str.length]
theorem Sx_cat (a b : List Nat) : Sx a ++ Sx b = Sx (a ++ b) := by
  show Str.append _ _ = _
  unfold Str.append Sx
  simp
theorem Sx_inj {a b : List Nat} : Sx a = Sx b ↔ a = b := ⟨fun h => by have := congrArg (fun x : Str => x.cps.toList) h; simpa [Sx] using this, fun h => h ▸ rfl⟩
theorem Sx_cut (l : List Nat) (lo hi : Option Int) : cutS (Sx l) lo hi = Sx (cutL l lo hi) := by
  unfold cutS cutL
  rw [Sx_len]
  rfl
abbrev eI : Int → Dt := Dt.int
abbrev eB : Bool → Dt := Dt.bl
abbrev eS (l : List Nat) : Dt := Dt.str (Sx l)
abbrev eC (c : Nat) : Dt := Dt.str (Sx [c])
abbrev eN (_ : Unit) : Dt := Dt.non
abbrev eX (ns : List Int) : Dt := Dt.scr ns
abbrev eL {α : Type} (e : α → Dt) (xs : List α) : Dt := Dt.lst (xs.map e)
abbrev eU {α : Type} (e : α → Dt) (xs : List α) : Dt := Dt.tup (xs.map e)
abbrev e1 {α : Type} (a : α → Dt) (p : α) : Dt := Dt.tup [a p]
abbrev e2 {α β : Type} (a : α → Dt) (b : β → Dt) (p : α × β) : Dt := Dt.tup [a p.1, b p.2]
abbrev e3 {α β γ : Type} (a : α → Dt) (b : β → Dt) (c : γ → Dt) (p : α × β × γ) : Dt := Dt.tup [a p.1, b p.2.1, c p.2.2]
abbrev e4 {α β γ δ : Type} (a : α → Dt) (b : β → Dt) (c : γ → Dt) (d : δ → Dt) (p : α × β × γ × δ) : Dt := Dt.tup [a p.1, b p.2.1, c p.2.2.1, d p.2.2.2]
abbrev eO {α : Type} (e : α → Dt) : Option α → Dt
  | none => Dt.non
  | some a => e a
abbrev oD {α : Type} (e : α → Dt) (a : α) : Own := .dat (e a)
abbrev oL {α : Type} (e : α → Dt) (xs : List α) : Own := .lst ((xs.map e).map Own.dat)
def gS (l : List Nat) : Prop := l.length ≤ 16777216
instance (l : List Nat) : Decidable (gS l) := by unfold gS; infer_instance
def gL {α : Type} (l : List α) : Prop := l.length < 16777216
instance {α : Type} (l : List α) : Decidable (gL l) := by unfold gL; infer_instance
instance (i j : Int) : Decidable (CMulW i j) := by unfold CMulW; infer_instance
instance (i j : Int) : Decidable (CDivW i j) := by unfold CDivW; infer_instance
instance (i j : Int) : Decidable (CPow i j) := by unfold CPow; infer_instance
section
variable {F : Fx} {Γ Γ' Γe : List Ent} {T : List (V × Own)} {σ : L2.St} {H H' : Hp} {v : V} {Er : L2.St → Exn → Hp → Prop} {ρ α β γ S : Type} {W : R ρ → Prop} {D : Ends} {ta tb tc te : TE} {tt uu : TT} {i j : Int} {d e : Dt} {a b : List Nat} {c : Nat} {ds : List Dt}
theorem ev_lit {x : Str} : Ev F (tC (.str x)) Γ (.dat (eS (lt x))) := ev_is ev_str (by rw [eS, Sx_lt])
theorem ev_mulW (hc : CMulW i j) (h1 : Ev F ta Γ (.dat (.int i))) (h2 : Ev F tb Γ (.dat (.int j))) : Ev F (tOp (rI CMulW fun i j => .int (i * j)) ta tb) Γ (.dat (.int (i * j))) := ev_op h1 h2 (op2_I (g := fun i j => i * j) hc)
theorem ev_divW (hc : CDivW i j) (h1 : Ev F ta Γ (.dat (.int i))) (h2 : Ev F tb Γ (.dat (.int j))) : Ev F (tOp (rI CDivW fun i j => .int (i / j)) ta tb) Γ (.dat (.int (i / j))) := ev_op h1 h2 (op2_I (g := fun i j => i / j) hc)
theorem ev_catX (hb : gS (a ++ b)) (h1 : Ev F ta Γ (.dat (eS a))) (h2 : Ev F tb Γ (.dat (eS b))) :
    Ev F (tOp (fun x y H Q => ∃ i j, x = .str i ∧ y = .str j ∧ i.length + j.length ≤ sizeLine ∧ Q (.str (i ++ j)) H) ta tb) Γ (.dat (eS (a ++ b))) := by
  have := ev_catS (x := Sx a) (y := Sx b) (by rw [Sx_len, Sx_len]; unfold gS at hb; rw [List.length_append] at hb; exact hb) h1 h2
  rw [Sx_cat] at this
  exact this
theorem ev_eqX (h1 : Ev F ta Γ (.dat (eS a))) (h2 : Ev F tb Γ (.dat (eS b))) : Ev F (tOp rEq ta tb) Γ (.dat (.bl (decide (a = b)))) := by
  have := ev_eqS h1 h2
  simp only [Sx_inj] at this
  exact this
theorem ev_neX (h1 : Ev F ta Γ (.dat (eS a))) (h2 : Ev F tb Γ (.dat (eS b))) : Ev F (tOp rNe ta tb) Γ (.dat (.bl (!decide (a = b)))) := by
  have := ev_neS h1 h2
  simp only [Sx_inj] at this
  exact this
theorem ev_lenSx (hx : gS a) (h : Ev F te Γ (.dat (eS a))) : Ev F (tCB (fun xs H Q => ∃ z, xs = [.str z] ∧ z.length ≤ sizeLine ∧ Q (.int z.length) H) (tCons te tNil)) Γ (.dat (.int a.length)) := by
  have := ev_lenS (x := Sx a) (by rw [Sx_len]; exact hx) h
  rw [Sx_len] at this
  exact this
theorem ev_ixSx (hb : gS a ∧ inB a i) (h1 : Ev F ta Γ (.dat (eS a))) (h2 : Ev F tb Γ (.dat (.int i))) : Ev F (tOp rIxS ta tb) Γ (.dat (eC (getI a i))) :=
  ev_ixS (z := Sx a) ⟨by rw [Sx_len]; exact hb.1, hb.2⟩ h1 h2
variable {tl th : TO} {lo hi : Option Int}
theorem ev_slSx (hz : gS a) (h : Ev F te Γ (.dat (eS a))) (hl : EvO F tl Γ lo) (hh : EvO F th Γ hi) : Ev F (tSl rSlS te tl th) Γ (.dat (eS (cutL a lo hi))) := by
  have := ev_slS (z := Sx a) (by rw [Sx_len]; exact hz) h hl hh
  rw [Sx_cut] at this
  exact this
theorem ev_ninX (h1 : Ev F ta Γ (.dat (eC c))) (h2 : Ev F tb Γ (.dat (eS a))) : Ev F (tOp (fun x y H Q => ∃ (c : Nat) (z : Str), x = .str ⟨#[c]⟩ ∧ y = .str z ∧ Q (.bl (!decide (c ∈ z.cps.toList))) H) ta tb) Γ (.dat (.bl (!decide (c ∈ a)))) := ev_ninC (z := Sx a) h1 h2
theorem map_eS (ns : List (List Nat)) : ns.map eS = (ns.map Sx).map Dt.str := by rw [List.map_map]; rfl
theorem mem_Sx {s : List Nat} {ns : List (List Nat)} : Sx s ∈ ns.map Sx ↔ s ∈ ns := by
  rw [List.mem_map]
  constructor
  · rintro ⟨x, h, e⟩
    rw [Sx_inj] at e
    exact e ▸ h
  · intro h
    exact ⟨s, h, rfl⟩
theorem ev_inTX {ns : List (List Nat)} (h1 : Ev F ta Γ (.dat (eS a))) (h2 : Ev F tb Γ (.dat (eU eS ns))) : Ev F (tOp (rIn F.K false) ta tb) Γ (.dat (.bl (decide (a ∈ ns)))) := by
  unfold eU at h2
  rw [map_eS] at h2
  have := ev_inTS (neg := false) h1 h2
  simp only [mem_Sx] at this
  exact this
theorem ev_ninTX {ns : List (List Nat)} (h1 : Ev F ta Γ (.dat (eS a))) (h2 : Ev F tb Γ (.dat (eU eS ns))) : Ev F (tOp (rIn F.K true) ta tb) Γ (.dat (.bl (!decide (a ∈ ns)))) := by
  unfold eU at h2
  rw [map_eS] at h2
  have := ev_inTS (neg := true) h1 h2
  simp only [mem_Sx] at this
  exact this
def Dt.tyn : Dt → String
  | .non => "NoneType"
  | .bl _ => "bool"
  | .int _ => "int"
  | .str _ => "str"
  | .lst _ => "list"
  | .tup _ => "tuple"
  | .scr _ => "list"
  | .dk _ _ => "dict"
  | .dt _ _ => "dict"
  | .du _ _ => "dict"
  | .df _ _ => "dict"
  | .ob _ _ _ => "?"
  | .kt _ => "tuple"
  | .pin _ _ => "bool"
  | .wild => "?"
theorem tyx_lst {K : PySem.W.Frag} {H : Hp} {a : Addr} {xs : List V} (h : SqL K H a xs) : TyX K H (.ref a) (.type "list") := by
  rcases h with (h | ⟨o, h⟩) | ⟨o, its, n, h, c, _⟩
  · exact .base (.lst h)
  · exact .base (.frz h)
  · exact .kList h c
theorem tyx_tup {K : PySem.W.Frag} {H : Hp} {a : Addr} {xs : List V} (h : SqT K H a xs) : TyX K H (.ref a) (.type "tuple") := by
  rcases h with (h | ⟨o, h⟩) | ⟨o, its, n, h, c, _⟩
  · exact .base (.tup h)
  · exact .fTuple h
  · exact .kTuple h c
def TyY (K : PySem.W.Frag) (H : Hp) (x : V) (t : Value) : Prop := TyX K H x t ∨ (t = .type "dict" ∧ ∃ a, x = .ref a ∧ ((∃ kvs, Rd H a (.dT kvs)) ∨ ∃ kvs, Rd H a (.dK kvs)))
def rIsiY (K : PySem.W.Frag) : List V → Hp → VK → Prop := fun xs H Q => ∃ (x c : V) (t u : Value) (b : Bool), xs = [x, c] ∧ ClsV c u ∧ TyY K H x t ∧ PySem.W.kitOne K t u = some b ∧ Q (.bl b) H
theorem call_isiY {X : Cx} : CallR X (.builtin "isinstance") (rIsiY X.K) := by
  intro pins s σ H xs us Q I r h
  obtain ⟨x, c, t, u, b, rfl, k, ty, e, q⟩ := h
  rcases ty with ty | ⟨rfl, a, rfl, ⟨kvs, ha⟩ | ⟨kvs, ha⟩⟩
  · exact call_isi pins s σ H _ us Q I r ⟨x, c, t, u, b, rfl, k, ty, e, q⟩
  · obtain ⟨u1, u2, rfl, r1, r2⟩ := vals2 r
    have e2 := k.eq r2
    subst e2
    cases (show u1 = Value.ref a from r1)
    obtain ⟨_, _, xs, _, dd⟩ := dt_rd I.hok ha
    exact PySem.W.kia_one PySem.W.kitx_dict I.kIn dd.typeIs e (fun z => nomatch z) fun tk => ⟨.bl b, H, I.tok tk, rfl, q⟩
  · obtain ⟨u1, u2, rfl, r1, r2⟩ := vals2 r
    have e2 := k.eq r2
    subst e2
    cases (show u1 = Value.ref a from r1)
    obtain ⟨_, _, xs, _, dd⟩ := dk_rd I.hok ha
    exact PySem.W.kia_one PySem.W.kitx_dict I.kIn dd.typeIs e (fun z => nomatch z) fun tk => ⟨.bl b, H, I.tok tk, rfl, q⟩
theorem tyx_of {K : PySem.W.Frag} {B H : Hp} (s : Same B H) : ∀ {d : Dt} {v : V}, (∀ ks xs fs, d ≠ .dt ks xs ∧ d ≠ .du ks xs ∧ d ≠ .df fs xs) → d.tyn ≠ "?" → Rp K B d v → TyX K H v (.type d.tyn)
  | .non, v, nd, no, h => by unfold Rp at h; subst h; exact .base .non
  | .bl b, v, nd, no, h => by unfold Rp at h; subst h; exact .base (.bl b)
  | .int i, v, nd, no, h => by unfold Rp at h; subst h; exact .base (.int i)
  | .str x, v, nd, no, h => by unfold Rp at h; subst h; exact .base (.str x)
  | .lst xs, v, nd, no, h => by
    unfold Rp at h
    obtain ⟨a, vs, rfl, h, _⟩ := h
    exact .base (.lst (s _ _ h))
  | .tup xs, v, nd, no, h => by
    unfold Rp at h
    obtain ⟨a, vs, rfl, h, _⟩ := h
    exact tyx_tup (sqt_mono s h)
  | .scr ns, v, nd, no, h => by
    unfold Rp at h
    obtain ⟨a, rfl, h⟩ := h
    exact tyx_lst (sql_mono s h)
  | .dk ks xs, v, nd, no, h => by
    unfold Rp at h
    obtain ⟨a, vs, rfl, h, _⟩ := h
    exact .base (.dK (s _ _ h))
  | .dt ks xs, v, nd, no, h => absurd rfl (nd ks xs []).1
  | .du ks xs, v, nd, no, h => absurd rfl (nd ks xs []).2.1
  | .df fs xs, v, nd, no, h => absurd rfl (nd [] xs fs).2.2
  | .ob _ _ _, v, nd, no, h => absurd rfl no
  | .wild, v, nd, no, h => absurd rfl no
  | .kt ks, v, nd, no, h => by
    unfold Rp at h
    obtain ⟨a, rfl, h⟩ := h
    exact tyx_tup (SqT.of (s _ _ h))
  | .pin a u, v, nd, no, h => by
    unfold Rp at h
    rw [h.1]
    exact .base (.bl true)
theorem tyy_of {K : PySem.W.Frag} {B H : Hp} (s : Same B H) {d : Dt} {v : V} (no : d.tyn ≠ "?") (h : Rp K B d v) : TyY K H v (.type d.tyn) := by
  have base : ∀ {t}, TyX K H v t → TyY K H v t := fun h => .inl h
  cases d with
  | dt ks xs =>
    unfold Rp at h
    obtain ⟨a, o, vs, rfl, h, _⟩ := h
    exact .inr ⟨rfl, a, rfl, .inl ⟨_, .inr ⟨o, s _ _ h⟩⟩⟩
  | du ks xs =>
    unfold Rp at h
    obtain ⟨a, vs, rfl, h, _⟩ := h
    exact .inr ⟨rfl, a, rfl, .inl ⟨_, .inl (s _ _ h)⟩⟩
  | df ks xs =>
    unfold Rp at h
    obtain ⟨a, o, vs, rfl, h, _⟩ := h
    exact .inr ⟨rfl, a, rfl, .inr ⟨_, .inr ⟨o, s _ _ h⟩⟩⟩
  | ob x y z => exact absurd rfl no
  | wild => exact absurd rfl no
  | non => exact base (tyx_of s (fun _ _ _ => ⟨(fun z => nomatch z), (fun z => nomatch z), (fun z => nomatch z)⟩) no h)
  | bl b => exact base (tyx_of s (fun _ _ _ => ⟨(fun z => nomatch z), (fun z => nomatch z), (fun z => nomatch z)⟩) no h)
  | int i => exact base (tyx_of s (fun _ _ _ => ⟨(fun z => nomatch z), (fun z => nomatch z), (fun z => nomatch z)⟩) no h)
  | str x => exact base (tyx_of s (fun _ _ _ => ⟨(fun z => nomatch z), (fun z => nomatch z), (fun z => nomatch z)⟩) no h)
  | lst x => exact base (tyx_of s (fun _ _ _ => ⟨(fun z => nomatch z), (fun z => nomatch z), (fun z => nomatch z)⟩) no h)
  | tup x => exact base (tyx_of s (fun _ _ _ => ⟨(fun z => nomatch z), (fun z => nomatch z), (fun z => nomatch z)⟩) no h)
  | scr x => exact base (tyx_of s (fun _ _ _ => ⟨(fun z => nomatch z), (fun z => nomatch z), (fun z => nomatch z)⟩) no h)
  | dk x y => exact base (tyx_of s (fun _ _ _ => ⟨(fun z => nomatch z), (fun z => nomatch z), (fun z => nomatch z)⟩) no h)
  | kt x => exact base (tyx_of s (fun _ _ _ => ⟨(fun z => nomatch z), (fun z => nomatch z), (fun z => nomatch z)⟩) no h)
  | pin x y => exact base (tyx_of s (fun _ _ _ => ⟨(fun z => nomatch z), (fun z => nomatch z), (fun z => nomatch z)⟩) no h)
theorem kitB_no {n : String} {r : Bool} (h : kitB "?" n = some r) : n = "?" := by
  unfold kitB at h
  split at h
  · rename_i e
    have := eq_of_beq e
    injection this with e
    exact e.symm
  · split at h
    · rw [show PySem.fastBuiltinMro "?" = none by decide +kernel] at h
      cases h
    · cases h
theorem ev_isi {n : String} {r : Bool} (hk : kitB d.tyn n = some r) (h : Ev F ta Γ (.dat d)) (hn : n ≠ "?" := by decide) : Ev F (tCB (rIsiY F.K) (tCons ta (tCons (tC (.ty n)) tNil))) Γ (.dat (.bl r)) := fun T σ H s Q q =>
  h T σ H s _ fun v H1 s1 e1 => by
    obtain ⟨B, eb, rr⟩ := s1.topd
    exact ⟨v, .ty n, _, _, r, rfl, .ty n, tyy_of eb (fun z => hn (kitB_no (by rw [z] at hk; exact hk))) rr, kit_ty hk, q _ H1 (s1.pop.push fun _ _ => by unfold Rp; rfl) e1⟩
end
end Sm
namespace Sm
open PySem L2
theorem passAtL {X : Cx} {σ : L2.St} : PassesAt (L2.CX X.prog X.w) X σ E0 := fun pins H s e s' I c => passL pins σ H s e s' I c
section
variable {F : Fx} {Γ Γ' Γe : List Ent} {T : List (V × Own)} {σ : L2.St} {H H' : Hp} {v : V} {Er : L2.St → Exn → Hp → Prop} {ρ α β γ S : Type} {W : R ρ → Prop} {D : Ends} {ta tb tc te : TE} {tt uu : TT} {i j : Int} {d e : Dt} {c : Bool}
theorem s_augI {n : Nat} {a : Int} {g : Int → Int → Int} {m : R Int} {k : Int → R ρ} (hst : Stt F Γ T σ H) (hw : W ((m.bind fun b => R.ok (g a b)).bind k)) (ok : WOk F Γe Er W) (he : Γ[n]? = some (some (.dat (.int a)))) (h : MV F Γe Er te Γ m (oD eI)) (hj : n < Γ.length) (ni : NI F n)
    (q : ∀ b σ' H', W (k b) → Stt F (Γ.set n (some (.dat (.int b)))) T σ' H' → D.nx σ' H') : tAug n te (ipI g) D σ H := by
  rw [R.bind_assoc] at hw
  obtain ⟨v, e1, s1⟩ := hst.dup he
  obtain ⟨B, _, r⟩ := s1.topd
  refine ⟨v, e1, h _ W _ T σ H ok hw hst _ fun b u H1 w s2 _ => ?_⟩
  obtain ⟨B', _, r'⟩ := s2.topd
  refine ⟨a, b, rp_int r, rp_int r', ?_⟩
  have s3 : Stt F Γ ((.int (g a b), .dat (.int (g a b))) :: T) σ H1 := s2.pop.push fun _ _ => by unfold Rp; rfl
  exact q (g a b) _ H1 w (s3.assign hj ni)
theorem ev_catL {enc : α → Dt} {xs ys : List α} (hb : (xs ++ ys).length ≤ 16777216) (h1 : EvL F ta Γ (xs.map enc)) (h2 : EvL F tb Γ (ys.map enc)) : Ev F (tOp rCat ta tb) Γ (oL enc (xs ++ ys)) := by
  have := ev_cat (by rw [List.length_map, List.length_map]; rw [List.length_append] at hb; exact hb) h1 h2
  rw [← List.map_append] at this
  exact this
theorem ev_slLE {enc : α → Dt} {xs : List α} {tl th : TO} {lo hi : Option Int} (h : EvL F te Γ (xs.map enc)) (hl : EvO F tl Γ lo) (hh : EvO F th Γ hi) : Ev F (tSl (rSlL F.K) te tl th) Γ (oL enc (cutL xs lo hi)) := by
  have := ev_slL h hl hh
  rw [cutL_map] at this
  exact this
theorem ev_lenLE {enc : α → Dt} {xs : List α} (h : EvL F te Γ (xs.map enc)) : Ev F (tCB (fun xs H Q => ∃ p ys, xs = [.ref p] ∧ (SqL F.K H p ys ∨ SqT F.K H p ys) ∧ Q (.int ys.length) H) (tCons te tNil)) Γ (.dat (.int xs.length)) := by
  have := ev_lenL h
  rw [List.length_map] at this
  exact this
theorem op2_eqX {a b : List Nat} : Op2 F rEq (.dat (eS a)) (.dat (eS b)) (.dat (.bl (decide (a = b)))) := op2_val _ (fun B => by unfold Rp; rfl) fun B H x y Q _ h1 h2 q => by
  rw [rp_str h1, rp_str h2]
  refine ⟨rfl, ?_⟩
  rw [dec_str, Bool.beq_eq_decide_eq]
  simp only [Sx_inj]
  exact q
theorem op2_catX {a b : List Nat} (hb : gS (a ++ b)) : Op2 F (fun x y H Q => ∃ i j, x = .str i ∧ y = .str j ∧ i.length + j.length ≤ sizeLine ∧ Q (.str (i ++ j)) H) (.dat (eS a)) (.dat (eS b)) (.dat (eS (a ++ b))) :=
  op2_val _ (fun B => by unfold Rp; rfl) fun B H x y Q _ h1 h2 q => ⟨Sx a, Sx b, rp_str h1, rp_str h2, by rw [Sx_len, Sx_len]; unfold gS at hb; rw [List.length_append] at hb; exact line_le hb, by rw [Sx_cat]; exact q⟩
end
def tbs (K : PySem.W.Frag) (tb : List (PySem.W.Frag → Bool)) : Bool := tb.all fun q => q K
abbrev AlT : Type := He.AlD × Bool
def obsT (fa : List He.Fa) (fn : List He.DefD) (tb : List (PySem.W.Frag → Bool)) (K : PySem.W.Frag) : AlT := (He.obsD fa fn K, tbs K tb)
def valT (fn : List He.DefD) : AlT := (He.valD fn, true)
def obsTG (n : Nat) (fa : List He.Fa) (fn : List He.DefD) (tb : List (PySem.W.Frag → Bool)) (g : Addr → Option Obj) : AlT := obsT fa fn tb (He.frG g (He.asD g n))
def hookT (n : Nat) (fa : List He.Fa) (fn : List He.DefD) (tb : List (PySem.W.Frag → Bool)) : PySem.W.Hook where
  α := AlT
  obs := fun s => obsTG n fa fn tb s.heap.get?
  val := fun _ => valT fn
  says := fun _ h => ∃ K : PySem.W.Frag, K.In h ∧ obsT fa fn tb K = valT fn
  of := fun _ _ e => ⟨_, He.frG_in, e⟩
  keeps := fun _ _ _ ⟨K, hK, c⟩ k => ⟨K, PySem.W.Frag.In.keeps hK k, c⟩
theorem obsTG_eq {n : Nat} {fa : List He.Fa} {fn : List He.DefD} {tb : List (PySem.W.Frag → Bool)} {g : Addr → Option Obj} {s : Shared} (h : ∀ a, g a = s.heap.get? a) : obsTG n fa fn tb g = (hookT n fa fn tb).obs s := by
  have e : g = s.heap.get? := funext h
  rw [e] <;> rfl
section
variable {fa : List He.Fa} {fn : List He.DefD} {tb : List (PySem.W.Frag → Bool)} {K : PySem.W.Frag}
theorem saysT (c : obsT fa fn tb K = valT fn) : He.SaysD fa fn K := congrArg (fun z : AlT => z.1) c
theorem tabT (c : obsT fa fn tb K = valT fn) (i : Nat) {q : PySem.W.Frag → Bool} (h : tb[i]? = some q := by rfl) : q K = true := by
  have c1 : tbs K tb = true := congrArg (fun z : AlT => z.2) c
  unfold tbs at c1
  exact List.all_eq_true.mp c1 q (List.mem_of_getElem? h)
end
end Sm
namespace Sm
open PySem L2
def R.sp2 {α β ρ : Type} (k : α → β → R ρ) (y : α × β) : R ρ := k y.1 y.2
section
variable {F : Fx} {Γ Γ' Γe : List Ent} {T : List (V × Own)} {σ : L2.St} {H H' : Hp} {v : V} {Er : L2.St → Exn → Hp → Prop} {ρ α β γ δ S : Type} {W : R ρ → Prop} {D : Ends} {ta tb tc te : TE} {tt uu : TT} {i j : Int} {d e : Dt} {c : Bool}
theorem sr_strX {m : R β} {z : β → List Nat} (h : MV F Γe Er te Γ m fun b => .dat (eS (z b))) : Sr F Γe Er (iStr te) Γ m z eC := sr_str (z := fun b => Sx (z b)) h
theorem s_appE {n : Nat} {enc : α → Dt} {xs : List α} {m : R α} {k : List α → R ρ} (hst : Stt F Γ T σ H) (hw : W (m.bind fun a => R.guard (gL xs) ((R.ok (xs ++ [a])).bind k))) (ok : WOk F Γe Er W) (he : Γ[n]? = some (some (oL enc xs))) (h : MV F Γe Er te Γ m (oD enc))
    (q : ∀ ys σ' H', W (k ys) → Stt F (Γ.set n (some (oL enc ys))) T σ' H' → D.nx σ' H') : tDrop (tBM F.K "list" rAppend (tVar n) (tCons te tNil)) D σ H := by
  refine s_appM (ds := xs.map enc) (e := enc) (k := fun a => k (xs ++ [a])) hst (by
    have e : (fun a => R.guard ((xs.map enc).length < 16777216) (k (xs ++ [a]))) = fun a => R.guard (gL xs) ((R.ok (xs ++ [a])).bind k) := by
      funext a
      unfold R.guard gL
      rw [List.length_map]
      rfl
    rw [e]
    exact hw) ok he h fun a σ' H' w s => q (xs ++ [a]) σ' H' w ?_
  have e : (xs ++ [a]).map enc = xs.map enc ++ [enc a] := by rw [List.map_append]; rfl
  unfold oL
  rw [e]
  exact s
theorem s_asgT2 {n : Nat} {gs : TGs} {ds : α × β → List Dt} {m : R (α × β)} {k : α → β → R ρ} {Γ' : α × β → List Ent} (hst : Stt F Γ T σ H) (hw : W (m.bind (R.sp2 k))) (ok : WOk F Γe Er W) (h : MV F Γe Er te Γ m fun a => .dat (.tup (ds a))) (hn : ∀ a, (ds a).length = n) (hg : ∀ a, Tgs F gs (ds a) Γ (Γ' a))
    (q : ∀ a b σ' H', W (k a b) → Stt F (Γ' (a, b)) T σ' H' → D.nx σ' H') : tAsg te (gTup F.K n gs) D σ H :=
  s_asgTM hst hw ok h hn hg fun a σ' H' w s => q a.1 a.2 σ' H' w s
theorem ma_map {tr : TA} {ds : α → List Dt} {ds2 : β → List Dt} {m : R α} {f : α → β} (h : MA F Γe Er tr Γ m ds) (e : ∀ a, ds2 (f a) = ds a) : MA F Γe Er tr Γ (m.bind fun a => .ok (f a)) ds2 := fun _ W k T σ H ok w s Q q => by
  rw [R.bind_assoc] at w
  exact h _ W _ T σ H ok w s _ fun a vs H1 w2 s1 e1 => q (f a) vs H1 w2 (by rw [e a]; exact s1) e1
def ML (F : Fx) (Γe : List Ent) (Er : L2.St → Exn → Hp → Prop) (te : TE) (Γ : List Ent) (enc : α → Dt) (m : R (List α)) : Prop :=
  ∀ (ρ : Type) (W : R ρ → Prop) (k : List α → R ρ) T σ H, WOk F Γe Er W → W (m.bind k) → Stt F Γ T σ H → ∀ Q : VK, (∀ xs l vs H', W (k xs) → H' l = some (.lst vs) → Stt F Γ ((.ref l, .rv vs (xs.map enc)) :: T) σ H' → Same H H' → Q (.ref l) H') → te σ H Q
theorem ml_ok {enc : α → Dt} {xs : List α} (h : EvL F te Γ (xs.map enc)) : ML F Γe Er te Γ enc (.ok xs) := fun _ W k T σ H ok w s Q q => h T σ H s Q fun l vs H' hl s' e => q xs l vs H' w hl s' e
theorem ml_guard {enc : α → Dt} {p : Prop} [Decidable p] {m : R (List α)} (h : p → ML F Γe Er te Γ enc m) : ML F Γe Er te Γ enc (R.guard p m) := fun _ W k T σ H ok w s Q q => by
  unfold R.guard at w
  by_cases c : p
  · rw [if_pos c] at w; exact h c _ W k T σ H ok w s Q q
  · rw [if_neg c] at w; exact absurd w ok.bad
theorem Stt.rvD {ds : List Dt} (h : Stt F Γ ((v, .dat (.lst ds)) :: T) σ H) : ∃ l vs, v = .ref l ∧ H l = some (.lst vs) ∧ Stt F Γ ((.ref l, .rv vs ds) :: T) σ H := by
  obtain ⟨B, O1, O2, a, b, c, p, ii⟩ := h.top
  obtain ⟨r, rfl⟩ := a.rp
  unfold Rp at r
  obtain ⟨l, vs, rfl, hl, ra⟩ := r
  refine ⟨l, vs, rfl, p.bh _ _ hl, B, jn emp O2, slots_own (O1 := emp) ?_ b emp_dj, p, ii⟩
  unfold Ow
  exact ⟨ra, rfl⟩
theorem ml_dat {enc : α → Dt} {m : R (List α)} (h : MV F Γe Er te Γ m (oD (eL enc))) : ML F Γe Er te Γ enc m := fun _ W k T σ H ok w s Q q => h _ W k T σ H ok w s Q fun xs v H' w' s' e => by
  obtain ⟨l, vs, rfl, hl, s2⟩ := s'.rvD
  exact q xs l vs H' w' hl s2 e
theorem ml_own {enc : α → Dt} {m : R (List α)} (h : MV F Γe Er te Γ m (oL enc)) : ML F Γe Er te Γ enc m := fun _ W k T σ H ok w s Q q => h _ W k T σ H ok w s Q fun xs v H' w' s' e => by
  obtain ⟨l, vs, rfl, hl, s2⟩ := s'.freeze.rvD
  exact q xs l vs H' w' hl s2 e
theorem ml_cat {enc : α → Dt} {m1 m2 : R (List α)} (h1 : ML F Γe Er ta Γ enc m1) (h2 : ML F Γe Er tb Γ enc m2) : MV F Γe Er (tOp rCat ta tb) Γ (m1.bind fun x => m2.bind fun y => R.guard ((x ++ y).length ≤ 16777216) (R.ok (x ++ y))) (oL enc) := fun _ W k T σ H ok w s Q q => by
  rw [R.bind_assoc] at w
  refine h1 _ W _ T σ H ok w s _ fun xs l vs H1 w1 hv s1 e1 => ?_
  rw [R.bind_assoc] at w1
  refine h2 _ W _ _ σ H1 ok w1 s1 _ fun ys m us H2 w2 hu s2 e2 => ?_
  have w3 : W (R.guard ((xs ++ ys).length ≤ 16777216) (k (xs ++ ys))) := by
    unfold R.guard at w2 ⊢
    by_cases z : (xs ++ ys).length ≤ 16777216
    · rw [if_pos z] at w2 ⊢; exact w2
    · rw [if_neg z] at w2; exact absurd w2 ok.bad
  obtain ⟨hb, w3⟩ := R.guard_ok ok w3
  obtain ⟨B, eb, r⟩ := s2.rvs
  obtain ⟨B', eb', r'⟩ := s2.pop.rvs
  refine ⟨l, m, vs, us, rfl, rfl, e2 l _ hv, hu, by rw [r.length, r'.length, List.length_map, List.length_map]; rw [List.length_append] at hb; exact line_le hb, fun p hp => ?_⟩
  refine q _ _ _ w3 ?_ ((e1.trans e2).trans (same_upd hp))
  have z := s2.newL2 hp (gs := (xs ++ ys).map enc) fun B a b => by rw [List.map_append]; exact a.append b
  exact z
end
theorem rpa_lits {K : PySem.W.Frag} {B : Hp} {ds : List Dt} {vs : List V} (xs : List Str) (h : ds = (xs.map lt).map eS) (h2 : vs = xs.map V.str := by rfl) : RpA K B ds vs := by
  subst h h2
  have e : (xs.map lt).map eS = xs.map Dt.str := by
    rw [List.map_map]
    apply List.map_congr_left
    intro x _
    show Dt.str (Sx (lt x)) = _
    rw [Sx_lt]
  rw [e]
  exact rpa_of_strs
theorem calm_of {α : Type} {m : R α} {F : Fx} {W : R α → Prop} {Q : VK} {res : α → Own} {Er : L2.St → Exn → Hp → Prop} (hw : W m.calm) (ok : ∀ Γe, WOk F Γe Er W) (rt : ∀ a v T Γ σ H', W (.ok a) → Stt F Γ ((v, res a) :: T) σ H' → Q v H') :
    ∃ W' : R α → Prop, W' m ∧ (∀ Γe, WOk F Γe (fun _ _ _ => False) W') ∧ ∀ a v T Γ σ H', W' (.ok a) → Stt F Γ ((v, res a) :: T) σ H' → Q v H' :=
  ⟨fun m => W m.calm, hw, fun Γe => ⟨(ok []).bad, fun e he _ _ _ => (ok []).bad he⟩, rt⟩
theorem q_nx {f : L2.St → Hp → Prop} {r : VK} {a b : L2.St → Hp → Prop} {σ : L2.St} {H : Hp} (h : f σ H) : (Ends.mk f r a b).nx σ H := h
theorem law_end {K : PySem.W.Frag} {Ce : Exn → Addr} {m : List Int → R Bool} {H : Hp} {a : Addr} {ns : List Int} (h : m ns = .ok true) (hS : SqL K H a (ns.map V.int)) :
    spD K Ce 1 (fun x => [eX x]) (fun x => (m x).calm) (oD eB) [.ref a] H (fun v _ => v = .bl true) fun _ _ _ => False := by
  refine ⟨ns, H, emp, rfl, ?_, Same.refl _, fun _ _ e => (nomatch e), ⟨dj_emp, nt_emp⟩, ?_⟩
  · refine owa_dats (ds := [eX ns]) (rpa_cons ?_ rpa_nil)
    unfold Rp
    exact ⟨a, rfl, hS⟩
  · show Wsh K Ce H emp H _ _ _ _ _ _ (m ns).calm
    rw [h]
    intro v B' O' H' _ oa
    unfold OwA at oa
    obtain ⟨v', r, O1, O2, e, a1, _⟩ := oa
    cases e
    exact rp_bl a1.rp.1
end Sm
namespace Sm
open PySem L2
abbrev eA (d : Dt) : Dt := d
def Dt.isT (n : String) (d : Dt) : Bool := (kitB d.tyn n).getD false
def gOb (d : Dt) : Prop := d.tyn ≠ "?"
instance (d : Dt) : Decidable (gOb d) := by unfold gOb; infer_instance
theorem tyn_mem {d : Dt} (g : gOb d) : d.tyn ∈ ["NoneType", "bool", "int", "str", "list", "tuple", "dict"] := by
  cases d with
  | ob C fs xs => exact absurd rfl g
  | wild => exact absurd rfl g
  | _ => simp [Dt.tyn]
def Dt.isI : Dt → Bool
  | .int _ => true
  | _ => false
def Dt.isX : Dt → Bool
  | .str _ => true
  | _ => false
def Dt.isU : Dt → Bool
  | .tup _ => true
  | _ => false
def Dt.asI : Dt → Int
  | .int i => i
  | _ => 0
def Dt.asX : Dt → List Nat
  | .str x => lt x
  | _ => []
def Dt.asU : Dt → List Dt
  | .tup ds => ds
  | _ => []
instance : Inhabited Dt := ⟨.non⟩
theorem map_eA (ds : List Dt) : ds.map eA = ds := by
  induction ds with
  | nil => rfl
  | cons d ds ih => rw [List.map_cons, ih]
section
variable {F : Fx} {Γ Γ' Γe : List Ent} {T : List (V × Own)} {σ : L2.St} {H H' : Hp} {v : V} {Er : L2.St → Exn → Hp → Prop} {ρ α β γ δ S : Type} {W : R ρ → Prop} {D : Ends} {ta tb tc te : TE} {tt uu : TT} {i j : Int} {d e : Dt} {c : Bool}
theorem asI_eq (g : d.isI = true) : d = eI d.asI := by cases d <;> first | rfl | cases g
theorem asX_eq (g : d.isX = true) : d = eS d.asX := by
  cases d with
  | str x => show Dt.str x = Dt.str (Sx (lt x)); rw [Sx_lt]
  | _ => cases g
theorem asU_eq (g : d.isU = true) : d = eU eA d.asU := by
  cases d with
  | tup ds => show Dt.tup ds = Dt.tup (ds.map eA); rw [map_eA]
  | _ => cases g
theorem ev_asI (g : d.isI = true) (h : Ev F te Γ (.dat d)) : Ev F te Γ (.dat (eI d.asI)) := ev_is h (congrArg Own.dat (asI_eq g))
theorem ev_asX (g : d.isX = true) (h : Ev F te Γ (.dat d)) : Ev F te Γ (.dat (eS d.asX)) := ev_is h (congrArg Own.dat (asX_eq g))
theorem ev_asU (g : d.isU = true) (h : Ev F te Γ (.dat d)) : Ev F te Γ (.dat (eU eA d.asU)) := ev_is h (congrArg Own.dat (asU_eq g))
theorem ev_isA {n : String} (hn : ∀ t ∈ ["NoneType", "bool", "int", "str", "list", "tuple", "dict"], (kitB t n).isSome = true) (g : gOb d) (h : Ev F ta Γ (.dat d)) (nq : n ≠ "?" := by decide) : Ev F (tCB (rIsiY F.K) (tCons ta (tCons (tC (.ty n)) tNil))) Γ (.dat (.bl (d.isT n))) := by
  have k : kitB d.tyn n = some (d.isT n) := by
    have := hn _ (tyn_mem g)
    unfold Dt.isT
    cases e : kitB d.tyn n with
    | none => rw [e] at this; cases this
    | some b => rfl
  exact ev_isi k h nq
def strI (i : Int) : List Nat := lt (Str.ofString (toString i))
def intX? (a : List Nat) : Option Int := intText? (Sx a)
theorem ev_strI (hb : i.natAbs.log2 < 1920) (h : Ev F te Γ (.dat (.int i))) : Ev F (tCB (fun xs H Q => ∃ i, xs = [.int i] ∧ i.natAbs.log2 < 1920 ∧ Q (.str (toString i)) H) (tCons te tNil)) Γ (.dat (eS (strI i))) := fun T σ H s Q q =>
  h T σ H s _ fun v H1 s1 e1 => by
    obtain ⟨B, _, r⟩ := s1.topd
    refine ⟨i, by rw [rp_int r], hb, q _ H1 (s1.pop.push fun _ _ => ?_) e1⟩
    show Rp F.K _ (Dt.str (Sx (strI i))) _
    unfold strI
    rw [Sx_lt]
    unfold Rp
    rfl
theorem ev_intX {a : List Nat} (hb : (intX? a).isSome = true ∧ a.length ≤ 640) (h : Ev F te Γ (.dat (eS a))) : Ev F (tCB (fun xs H Q => ∃ a n, xs = [.str a] ∧ PySem.intText? a = some n ∧ a.length ≤ 640 ∧ Q (.int n) H) (tCons te tNil)) Γ (.dat (.int ((intX? a).getD 0))) := fun T σ H s Q q =>
  h T σ H s _ fun v H1 s1 e1 => by
    obtain ⟨B, _, r⟩ := s1.topd
    obtain ⟨n, hn⟩ := Option.isSome_iff_exists.mp hb.1
    rw [hn] at q
    exact ⟨Sx a, n, by rw [rp_str r], hn, by rw [Sx_len]; exact hb.2, q _ H1 (s1.pop.push fun _ _ => by unfold Rp; rfl) e1⟩
theorem s_raise {x : Exn} {C : Addr} {E : XK} {tmk : L2.St → Hp → XK → Prop} (hst : Stt F Γ T σ H) (hw : W (.err x)) (ok : WOk F Γe Er W) (wk : Wk Γ Γe) (ht : ∀ σ H (Q : XK), Q (.ref C) none H → tmk σ H Q) (hE : Er σ x H → E (.ref C) none H) :
    tmk σ H fun cls d H' => E cls d H' :=
  ht σ H _ (hE (ok.err x hw σ H ((Stt.pops hst).weak wk)))
end
end Sm
namespace Sm
open PySem L2
def Exn.plain : Exn → Bool
  | .noDealing _ => false
  | _ => true
def R.tryC {α : Type} (m : R α) (c : Exn → Bool) (h : Exn → R α) : R α := match m with
  | .ok a => .ok a
  | .err e => if e.plain = true then (if c e = true then (h e).calm else .err e) else .bad
  | .bad => .bad
section
variable {F : Fx} {Γ Γ' Γe : List Ent} {T : List (V × Own)} {σ : L2.St} {H H' : Hp} {v : V} {Er : L2.St → Exn → Hp → Prop} {ρ α β γ δ S : Type} {W : R ρ → Prop} {D : Ends} {ta tb tc te : TE} {tt uu : TT} {i j : Int} {d e : Dt} {c : Bool}
theorem Stt.hole {i : Nat} {w : V} (h : Stt F Γ T σ H) (e : Γ[i]? = some none) (ni : NI F i) : Stt F (Γ.set i (some (.hole w))) T (σ.set i (some w)) H := by
  obtain ⟨B, O, s, p, q⟩ := h
  have e' : (T.map (fun p => some p.2) ++ Γ)[T.length + i]? = some none := by
    rw [List.getElem?_append_right (by simp)]
    simpa using e
  have z := s.un e' B (.hole w) emp w (Same.refl _) (by unfold Ow; exact ⟨rfl, rfl⟩) emp_dj
  rw [emp_jn, List.set_append_right _ _ (by simp), List.set_append_right _ _ (by simp)] at z
  simp only [List.length_map, Nat.add_sub_cancel_left] at z
  exact ⟨B, O, z, p, fun z hz => by rw [List.getElem?_set_ne (Ne.symm (ni z hz))]; exact q z hz⟩
theorem errAt_plain {Ce : Exn → Addr} {E : XK} {e : Exn} {H : Hp} (h : e.plain = true) : ErrAt Ce E e H = E (.ref (Ce e)) none H := by cases e <;> first | rfl | cases h
def tTryOnly (K : PySem.W.Frag) (c : Value) (ts : Addr → Value → Option Addr → TS) (Wout : WX) (tb : WX → TS) : TS := fun D σ H => tb (wOnly K c ts Wout D) D σ H
theorem ps_tryOnlyW {X : Cx} {x : Str} {c : Value} {body suite : List Stmt} {b₀ : Stmt} {np pos pos' : Pos} {tb : WX → TS} {ts : Addr → Value → Option Addr → TS} {Wout : WX} (hs : X.stack = X.env :: X.outer) (hf : X.env.frame = some X.env.locals) (hc : Names X x c) (tk : Takes X Wout)
    (hb : ∀ (W : WX) (pn : List (Addr × Obj)) (xe : Value → Shared → Prop), Takes (X.tr pn xe) W → PassesOwn (model X.prog X.w) X.A X.env xe → PSs (X.tr pn xe) body (tb W))
    (hsu : ∀ (a : Addr) (oe : Obj) (cls : Value) (d : Option Addr) (pn : List (Addr × Obj)), Zc cls d oe → (∃ vs, oe.data = .fields vs) → PSs (X.suite a ((a, oe) :: pn)) (b₀ :: suite) (ts a cls d)) :
    PS X (.Try body [.ExceptHandler (some (.Name x np)) none (b₀ :: suite) pos'] [] [] pos) (tTryOnly X.K c ts Wout tb) := ps_try_only hs hf hc tk hb hsu
theorem s_tryOnly {cv : Value} {tbd : WX → TS} {ts : Addr → Value → Option Addr → TS} {Wout : WX} {Ce : Exn → Addr} {m : R α} {ct : Exn → Bool} {h : Exn → R α} {k : α → R ρ} {Γt : List Ent}
    (hst : Stt F Γ [] σ H) (hw : W ((R.tryC m ct h).bind k)) (ok : WOk F Γe Er W) (wke : Wk Γt Γe)
    (hex : ∀ e, e.plain = true → PySem.W.exmOne F.K (.ref (Ce e)) cv = some (ct e)) (hEo : ∀ σ e H, Er σ e H → e.plain = true → Wout (.ref (Ce e)) none σ H)
    (qb : ∀ (W' : R α → Prop) (Wx : WX), WOk F Γt (fun σ e H => ErrAt Ce (WE Wx σ) e H) W' → (∀ a, W' (.ok a) → W (k a)) → W' m → tbd Wx D σ H)
    (qh : ∀ (e : Exn) (W' : R α → Prop) (a : Addr) σ H, e.plain = true → ct e = true → (∀ Γx, WOk F Γx (fun _ _ _ => False) W') → (∀ a, W' (.ok a) → W (k a)) → W' (h e) → Stt F Γt [] σ H → ts a (.ref (Ce e)) none D σ H) :
    tbd (wOnly F.K cv ts Wout D) D σ H := by
  refine qb (fun m => W ((R.tryC m ct h).bind k)) _ ⟨ok.bad, fun e he σ' H' s => ?_⟩ (fun a w => w) hw
  have he : W ((if e.plain = true then (if ct e = true then (h e).calm else .err e) else .bad : R α).bind k) := he
  by_cases hp : e.plain = true
  · rw [if_pos hp] at he
    rw [errAt_plain hp]
    refine ⟨ct e, hex e hp, fun hc a ha => ?_, fun hc => ?_⟩
    · rw [if_pos hc] at he
      exact qh e (fun m => W (m.calm.bind k)) a _ H' hp hc (fun Γx => ⟨ok.bad, fun e he _ _ _ => ok.bad he⟩) (fun a w => w) he s
    · rw [hc, if_neg Bool.false_ne_true] at he
      exact hEo σ' e H' (ok.err e he σ' H' (s.weak wke)) hp
  · rw [if_neg hp] at he
    exact absurd he ok.bad
theorem s_tryOnlyC {cv : Value} {tbd : WX → TS} {ts : Addr → Value → Option Addr → TS} {Wout : WX} {Ce : Exn → Addr} {m : R (Ctl S β)} {ct : Exn → Bool} {h : Exn → R (Ctl S β)} {k : Ctl S β → R ρ} {Γt : List Ent} {Γj : S → List Ent}
    (hst : Stt F Γ [] σ H) (hw : W ((R.tryC m ct h).bind k)) (ok : WOk F Γe Er W) (wke : Wk Γt Γe)
    (hex : ∀ e, e.plain = true → PySem.W.exmOne F.K (.ref (Ce e)) cv = some (ct e)) (hEo : ∀ σ e H, Er σ e H → e.plain = true → Wout (.ref (Ce e)) none σ H)
    (qb : ∀ (W' : R (Ctl S β) → Prop) (Wx : WX), WOk F Γt (fun σ e H => ErrAt Ce (WE Wx σ) e H) W' → (∀ r, W' (.ok (.rt r)) → W (k (.rt r))) → W' m → (∀ s σ' H', W' (.ok (.nx s)) → Stt F (Γj s) [] σ' H' → D.nx σ' H') → tbd Wx D σ H)
    (qh : ∀ (e : Exn) (W' : R (Ctl S β) → Prop) (a : Addr) σ H, e.plain = true → (∀ Γx, WOk F Γx (fun _ _ _ => False) W') → (∀ r, W' (.ok (.rt r)) → W (k (.rt r))) → W' (h e) → Stt F Γt [] σ H → (∀ s σ' H', W' (.ok (.nx s)) → Stt F (Γj s) [] σ' H' → D.nx σ' H') → ts a (.ref (Ce e)) none D σ H)
    (q : ∀ s σ' H', W (k (.nx s)) → Stt F (Γj s) [] σ' H' → D.nx σ' H') : tTryOnly F.K cv ts Wout tbd D σ H :=
  s_tryOnly hst hw ok wke hex hEo (fun W' Wx ok' hk w => qb W' Wx ok' (fun r => hk _) w fun s σ' H' w' st => q s σ' H' (hk _ w') st) fun e W' a σ' H' hp _ ok' hk w st => qh e W' a σ' H' hp ok' (fun r => hk _) w st fun s σ2 H2 w' st2 => q s _ H2 (hk _ w') st2
def Exn.is (n : String) (e : Exn) : Bool := n == "ForerunError" || n == "ValueError" || (match e with
  | .noNumber => n == "NoNumber"
  | .noTerm => n == "NoTerm"
  | .noDealing _ => n == "NoDealing"
  | .nought => n == "Nought"
  | .great => n == "Great"
  | .folded => n == "Folded"
  | .noHand => n == "NoHand"
  | .noOrder => n == "NoOrder"
  | .noLine => n == "NoLine"
  | .noLog => n == "NoLog")
inductive ClsT : TA → List V → List Value → Prop where
  | nil : ClsT tNil [] []
  | cons {cv : V} {u : Value} {tr : TA} {cs : List V} {us : List Value} (h : ClsV cv u) (k : ClsT tr cs us) : ClsT (tCons (tC cv) tr) (cv :: cs) (u :: us)
theorem ClsT.run {tr : TA} {cs : List V} {us : List Value} (h : ClsT tr cs us) : ∀ {σ : L2.St} {H : Hp} {Q : List V → Hp → Prop}, Q cs H → tr σ H Q := by
  induction h with
  | nil => exact fun q => q
  | cons h k ih => exact fun q => ih q
theorem ClsT.pair {tr : TA} {cs : List V} {us : List Value} (h : ClsT tr cs us) : Paired ClsV cs us := by
  induction h with
  | nil => exact .nil
  | cons h k ih => exact .cons h ih
theorem ClsT.len {tr : TA} {cs : List V} {us : List Value} (h : ClsT tr cs us) : cs.length = us.length := by
  induction h with
  | nil => rfl
  | cons h k ih => simp [ih]
theorem rp_ne_non {K : PySem.W.Frag} {B : Hp} {d : Dt} {v : V} (h : Rp K B d v) (n : d ≠ .non) : v ≠ .non := by
  intro z
  subst z
  cases d with
  | non => exact n rfl
  | bl b => exact nomatch rp_bl h
  | int i => exact nomatch rp_int h
  | str x => exact nomatch rp_str h
  | lst xs => unfold Rp at h; obtain ⟨_, _, e, _⟩ := h; cases e
  | tup xs => unfold Rp at h; obtain ⟨_, _, e, _⟩ := h; cases e
  | scr ns => unfold Rp at h; obtain ⟨_, e, _⟩ := h; cases e
  | dk ks xs => unfold Rp at h; obtain ⟨_, _, e, _⟩ := h; cases e
  | dt ks xs => unfold Rp at h; obtain ⟨_, _, _, e, _⟩ := h; cases e
  | du ks xs => unfold Rp at h; obtain ⟨_, _, e, _⟩ := h; cases e
  | df ks xs => unfold Rp at h; obtain ⟨_, _, _, e, _⟩ := h; cases e
  | ob C fs xs => unfold Rp at h; obtain ⟨_, _, _, e, _⟩ := h; cases e
  | kt ks => unfold Rp at h; obtain ⟨_, e, _⟩ := h; cases e
  | pin a u => unfold Rp at h; exact nomatch h.1
  | wild => unfold Rp at h; obtain ⟨_, e⟩ := h; cases e
end
section
variable {X : Cx}
end
abbrev rLenK (K : PySem.W.Frag) : List V → Hp → VK → Prop := fun xs H Q => ∃ p ys, xs = [.ref p] ∧ (SqL K H p ys ∨ SqT K H p ys) ∧ Q (.int ys.length) H
abbrev rTupK (K : PySem.W.Frag) : List V → Hp → VK → Prop := fun xs H Q => ∃ p ys, xs = [.ref p] ∧ ((SqL K H p ys ∧ ∀ l, H l = none → Q (.ref l) (upd H l (.tup ys))) ∨ (SqT K H p ys ∧ Q (.ref p) H))
abbrev rJoinK (K : PySem.W.Frag) : V → List V → Hp → VK → Prop := fun x xs H Q => ∃ a p, ∃ ys : List Str, x = .str a ∧ xs = [.ref p] ∧ (SqL K H p (ys.map V.str) ∨ SqT K H p (ys.map V.str)) ∧ (ys.map (·.length)).sum + ys.length * a.length ≤ 16777216 ∧ Q (.str (Txt.join a ys)) H
def gMS (a : List Nat) (n : Int) : Prop := 1 ≤ n ∧ n ≤ 100000 ∧ a.length ≤ 160
instance (a : List Nat) (n : Int) : Decidable (gMS a n) := by unfold gMS; infer_instance
def findX (a b : List Nat) : Int := Txt.find (Sx a) (Sx b)
def joinX (a : List Nat) (ys : List (List Nat)) : List Nat := lt (Txt.join (Sx a) (ys.map Sx))
def gJ (a : List Nat) (ys : List (List Nat)) : Prop := (ys.map (·.length)).sum + ys.length * a.length ≤ 16777216
instance (a : List Nat) (ys : List (List Nat)) : Decidable (gJ a ys) := by unfold gJ; infer_instance
section
variable {F : Fx} {Γ Γ' Γe : List Ent} {T : List (V × Own)} {σ : L2.St} {H H' : Hp} {v : V} {Er : L2.St → Exn → Hp → Prop} {ρ α β γ δ S : Type} {W : R ρ → Prop} {D : Ends} {ta tb tc te : TE} {tt uu : TT} {i j : Int} {d e : Dt} {c : Bool}
theorem ev_find {a b : List Nat} (h1 : Ev F ta Γ (.dat (eS a))) (h2 : Ev F tb Γ (.dat (eS b))) : Ev F (tM1 (fun x xs H Q => ∃ a b, x = .str a ∧ xs = [.str b] ∧ Q (.int (Txt.find a b)) H) ta tb) Γ (.dat (.int (findX a b))) := fun T σ H s Q q =>
  h1 T σ H s _ fun v H1 s1 e1 => by
    obtain ⟨B, _, r⟩ := s1.topd
    have r := rp_str r
    subst r
    refine ⟨⟨_, rfl⟩, h2 _ σ H1 s1 _ fun u H2 s2 e2 => ?_⟩
    obtain ⟨B2, _, r2⟩ := s2.topd
    have r2 := rp_str r2
    subst r2
    exact ⟨Sx a, Sx b, rfl, rfl, q _ H2 (s2.pop.pop.push fun _ _ => by unfold Rp; rfl) (e1.trans e2)⟩
theorem mv_joinX {a : List Nat} {m : R (List (List Nat))} (h1 : Ev F ta Γ (.dat (eS a))) (h2 : ML F Γe Er tb Γ eS m) :
    MV F Γe Er (tM1 (fun x xs H Q => ∃ a p, ∃ ys : List Str, x = .str a ∧ xs = [.ref p] ∧ (SqL F.K H p (ys.map V.str) ∨ SqT F.K H p (ys.map V.str)) ∧ (ys.map (·.length)).sum + ys.length * a.length ≤ 16777216 ∧ Q (.str (Txt.join a ys)) H) ta tb) Γ (m.bind fun ys => R.guard (gJ a ys) (R.ok (joinX a ys))) (oD eS) := fun _ W k T σ H ok w s Q q => by
  rw [R.bind_assoc] at w
  refine h1 T σ H s _ fun v H1 s1 e1 => ?_
  obtain ⟨B, _, r⟩ := s1.topd
  refine ⟨⟨_, rp_str r⟩, h2 _ W _ _ σ H1 ok w s1 _ fun ys l vs H2 w2 hl s2 e2 => ?_⟩
  have w3 : W (R.guard (gJ a ys) (k (joinX a ys))) := by
    unfold R.guard at w2 ⊢
    by_cases z : gJ a ys
    · rw [if_pos z] at w2 ⊢; exact w2
    · rw [if_neg z] at w2; exact absurd w2 ok.bad
  obtain ⟨hb, w3⟩ := R.guard_ok ok w3
  obtain ⟨B2, _, r2⟩ := s2.rvs
  have ev : vs = (ys.map Sx).map V.str := by
    rw [map_eS] at r2
    exact rpa_strs r2
  subst ev
  refine ⟨Sx a, l, ys.map Sx, rp_str r, rfl, .inl (SqL.of hl), ?_, ?_⟩
  · have e : (ys.map Sx).map (·.length) = ys.map (·.length) := by
      rw [List.map_map]
      apply List.map_congr_left
      intro x _
      exact Sx_len x
    rw [e, List.length_map, Sx_len]
    exact hb
  · refine q _ _ H2 w3 (s2.pop.pop.push fun _ _ => ?_) (e1.trans e2)
    show Rp F.K _ (Dt.str (Sx (joinX a ys))) _
    unfold Rp joinX
    rw [Sx_lt]
end
def exnAll : List Exn := [.noNumber, .noTerm, .nought, .great, .folded, .noHand, .noOrder, .noLine, .noLog]
theorem exn_mem {e : Exn} (h : e.plain = true) : e ∈ exnAll := by cases e <;> first | (unfold exnAll; simp; done) | cases h
def exmB (Ce : PySem.W.Frag → Exn → Addr) (x : Str) (n : String) (K : PySem.W.Frag) : Bool := exnAll.all fun e => decide (PySem.W.exmOne K (.ref (Ce K e)) (.ref (He.ga K x)) = some (e.is n))
theorem exmB_ok {Ce : PySem.W.Frag → Exn → Addr} {x : Str} {n : String} {K : PySem.W.Frag} (h : exmB Ce x n K = true) (e : Exn) (hp : e.plain = true) : PySem.W.exmOne K (.ref (Ce K e)) (.ref (He.ga K x)) = some (e.is n) :=
  of_decide_eq_true (List.all_eq_true.mp h e (exn_mem hp))
end Sm
namespace Sm
open PySem L2
theorem set_same {α : Type} {l : List α} {i : Nat} {x : α} (h : l[i]? = some x) : l.set i x = l := by
  apply List.ext_getElem?
  intro j
  by_cases e : i = j
  · subst e; rw [List.getElem?_set_self (List.getElem?_eq_some_iff.mp h).1, h]
  · rw [List.getElem?_set_ne e]
theorem slots_mut {K : PySem.W.Frag} {B : Hp} {Γ : List Ent} {O : Hp} {σ : L2.St} {i : Nat} {ds : List Dt} (s : Slots K B Γ O σ) (e : Γ[i]? = some (some (.lst (ds.map Own.dat)))) :
    ∃ l vs, σ[i]? = some (some (.ref l)) ∧ O l = some (.lst vs) ∧ RpA K B ds vs ∧ ∀ ds' vs', RpA K B ds' vs' → Slots K B (Γ.set i (some (.lst (ds'.map Own.dat)))) (upd O l (.lst vs')) σ := by
  obtain ⟨v, O1, O2, e1, a, dj, rfl, k, _⟩ := s.at e
  unfold Ow at a
  obtain ⟨l, vs, O', rfl, oa, n', rfl⟩ := a
  obtain ⟨ra, rfl⟩ := oa.dats
  refine ⟨l, vs, e1, jn_some upd_same, ra, fun ds' vs' r => ?_⟩
  have nl : O2 l = none := by
    rcases dj l with x | x
    · rw [upd_same] at x; cases x
    · exact x
  have z := k B (.lst (ds'.map Own.dat)) (upd emp l (.lst vs')) (.ref l) (Same.refl _) (by
    unfold Ow
    exact ⟨l, vs', emp, rfl, owa_dats r, rfl, rfl⟩) (Dj.upd emp_dj nl)
  rw [set_same e1] at z
  rw [upd_jn, upd_upd]
  exact z
section
variable {F : Fx} {Γ Γ' Γe : List Ent} {T : List (V × Own)} {σ : L2.St} {H H' : Hp} {v : V} {Er : L2.St → Exn → Hp → Prop} {ρ α β γ δ S : Type} {W : R ρ → Prop} {D : Ends} {ta tb tc te : TE} {tt uu : TT} {i j : Int} {d e : Dt} {c : Bool} {ds : List Dt} {n : Nat}
theorem Stt.mutL (h : Stt F Γ T σ H) (e : Γ[n]? = some (some (.lst (ds.map Own.dat)))) : ∃ l vs, σ[n]? = some (some (.ref l)) ∧ H l = some (.lst vs) ∧ vs.length = ds.length ∧
    (∀ d u ds' vs', (∀ B, RpA F.K B ds vs → RpA F.K B ds' vs' ∧ Rp F.K B d u) → Stt F (Γ.set n (some (.lst (ds'.map Own.dat)))) ((u, .dat d) :: T) σ (upd H l (.lst vs'))) := by
  obtain ⟨B, O, s, p, q⟩ := h
  have e' : (T.map (fun p => some p.2) ++ Γ)[T.length + n]? = some (some (.lst (ds.map Own.dat))) := by
    rw [List.getElem?_append_right (by simp)]
    simpa using e
  obtain ⟨l, vs, e1, eo, ra, k⟩ := slots_mut s e'
  rw [List.getElem?_append_right (by simp)] at e1
  refine ⟨l, vs, by simpa using e1, p.oh _ _ eo, ra.length, fun d u ds' vs' hr => ?_⟩
  obtain ⟨r1, r2⟩ := hr B ra
  have z := k ds' vs' r1
  rw [List.set_append_right _ _ (by simp)] at z
  simp only [List.length_map, Nat.add_sub_cancel_left] at z
  have z2 := slots_own (ow_dat r2) z emp_dj
  rw [emp_jn] at z2
  exact ⟨B, _, z2, p.mut eo, q⟩
theorem Stt.mutTop {u : V} (h : Stt F Γ ((u, .dat d) :: T) σ H) (e : Γ[n]? = some (some (.lst (ds.map Own.dat)))) : ∃ l vs, σ[n]? = some (some (.ref l)) ∧ H l = some (.lst vs) ∧ vs.length = ds.length ∧
    (∀ ds' vs', (∀ B, RpA F.K B ds vs → Rp F.K B d u → RpA F.K B ds' vs') → Stt F (Γ.set n (some (.lst (ds'.map Own.dat)))) T σ (upd H l (.lst vs'))) := by
  obtain ⟨B, O1, O2, a, s, dj, p, q⟩ := h.top
  obtain ⟨ru, rfl⟩ := a.rp
  rw [emp_jn] at p
  have e' : (T.map (fun p => some p.2) ++ Γ)[T.length + n]? = some (some (.lst (ds.map Own.dat))) := by
    rw [List.getElem?_append_right (by simp)]
    simpa using e
  obtain ⟨l, vs, e1, eo, ra, k⟩ := slots_mut s e'
  rw [List.getElem?_append_right (by simp)] at e1
  refine ⟨l, vs, by simpa using e1, p.oh _ _ eo, ra.length, fun ds' vs' hr => ?_⟩
  have z := k ds' vs' (hr B ra ru)
  rw [List.set_append_right _ _ (by simp)] at z
  simp only [List.length_map, Nat.add_sub_cancel_left] at z
  exact ⟨B, _, z, p.mut eo, q⟩
def MP (F : Fx) (Γe : List Ent) (Er : L2.St → Exn → Hp → Prop) (te : TE) (Γ : List Ent) (n : Nat) (enc : β → Dt) (m : R (α × List β)) (t : α → Own) : Prop :=
  ∀ (ρ : Type) (W : R ρ → Prop) (k : α × List β → R ρ) T σ H, WOk F Γe Er W → W (m.bind k) → Stt F Γ T σ H → ∀ Q : VK, (∀ a xs v H', W (k (a, xs)) → Stt F (Γ.set n (some (oL enc xs))) ((v, t a) :: T) σ H' → Q v H') → te σ H Q
def popR [Inhabited α] (xs : List α) : R (α × List α) := R.guard (0 < xs.length) (R.ok ((xs.getLast?).getD default, xs.dropLast))
theorem map_dropLast' (f : α → β) (xs : List α) : (xs.dropLast).map f = (xs.map f).dropLast := by simp [List.map_dropLast]
theorem getLastD_get [Inhabited α] {xs : List α} (h : 0 < xs.length) : xs[xs.length - 1]? = some ((xs.getLast?).getD default) := by
  cases xs with
  | nil => simp at h
  | cons x xs => rw [← List.getLast?_eq_getElem?, List.getLast?_cons]; rfl
theorem mp_pop [Inhabited α] {enc : α → Dt} {xs : List α} (he : Γ[n]? = some (some (oL enc xs))) : MP F Γe Er (tBM0 F.K "list" rPop (tVar n)) Γ n enc (popR xs) (oD enc) := fun _ W k T σ H ok w s Q q => by
  have w2 : W (R.guard (0 < xs.length) (k ((xs.getLast?).getD default, xs.dropLast))) := by
    unfold popR R.guard at w
    unfold R.guard
    by_cases z : 0 < xs.length
    · rw [if_pos z] at w ⊢; exact w
    · rw [if_neg z] at w; exact absurd w ok.bad
  obtain ⟨hl, w3⟩ := R.guard_ok ok w2
  obtain ⟨l, vs, e1, e2, e3, k2⟩ := s.mutL (ds := xs.map enc) he
  rw [List.length_map] at e3
  obtain ⟨u, hu⟩ : ∃ u, vs[vs.length - 1]? = some u := ⟨_, List.getElem?_eq_getElem (by omega)⟩
  refine ⟨.ref l, e1, .inl ⟨rfl, _, SqL.of e2⟩, l, vs, u, rfl, rfl, e2, hu, ?_⟩
  refine q _ _ u _ w3 ?_
  have z := k2 (enc ((xs.getLast?).getD default)) u ((xs.map enc).dropLast) vs.dropLast fun B r => ⟨r.dropLast, by
    have hg : (xs.map enc)[vs.length - 1]? = some (enc ((xs.getLast?).getD default)) := by rw [e3, List.getElem?_map, getLastD_get hl]; rfl
    obtain ⟨u', e', ru⟩ := r.get hg
    rw [hu] at e'
    cases e'
    exact ru⟩
  rw [← map_dropLast'] at z
  exact z
theorem s_asgP {jn_ : Nat} {enc : β → Dt} {m : R (α × List β)} {t : α → Own} {k : α → List β → R ρ} (hst : Stt F Γ T σ H) (hw : W (m.bind (R.sp2 k))) (ok : WOk F Γe Er W) (h : MP F Γe Er te Γ n enc m t) (hj : jn_ < Γ.length) (ni : NI F jn_)
    (q : ∀ a xs σ' H', W (k a xs) → Stt F ((Γ.set n (some (oL enc xs))).set jn_ (some (t a))) T σ' H' → D.nx σ' H') : tAsg te (gName jn_) D σ H :=
  h _ W _ T σ H ok hw hst _ fun a xs v H1 w s1 => q a xs _ H1 w (s1.assign (by rw [List.length_set]; exact hj) ni)
theorem s_dropP {enc : β → Dt} {m : R (α × List β)} {t : α → Own} {k : List β → R ρ} (hst : Stt F Γ T σ H) (hw : W (m.bind (R.sp2 fun _ xs => k xs))) (ok : WOk F Γe Er W) (h : MP F Γe Er te Γ n enc m t)
    (q : ∀ xs σ' H', W (k xs) → Stt F (Γ.set n (some (oL enc xs))) T σ' H' → D.nx σ' H') : tDrop te D σ H :=
  h _ W _ T σ H ok hw hst _ fun a xs v H1 w s1 => q xs σ H1 w s1.pop
theorem s_appP {n1 : Nat} {enc1 : α → Dt} {enc : β → Dt} {xs : List α} {m : R (α × List β)} {k : List β → List α → R ρ} (hst : Stt F Γ T σ H) (hw : W (m.bind (R.sp2 fun a ys => R.guard (gL xs) ((R.ok (xs ++ [a])).bind fun zs => k ys zs)))) (ok : WOk F Γe Er W)
    (he : Γ[n1]? = some (some (oL enc1 xs))) (hne : n ≠ n1) (h : MP F Γe Er te Γ n enc m (oD enc1))
    (q : ∀ ys zs σ' H', W (k ys zs) → Stt F ((Γ.set n (some (oL enc ys))).set n1 (some (oL enc1 zs))) T σ' H' → D.nx σ' H') : tDrop (tBM F.K "list" rAppend (tVar n1) (tCons te tNil)) D σ H := by
  obtain ⟨l, vs, e1, e2, e3, _⟩ := hst.mutL (ds := xs.map enc1) he
  refine ⟨.ref l, e1, .inl ⟨rfl, _, SqL.of e2⟩, ?_⟩
  refine h _ W _ T σ H ok hw hst _ fun a ys u H1 w s1 => ?_
  have w : W (R.guard (gL xs) ((R.ok (xs ++ [a])).bind fun zs => k ys zs)) := w
  obtain ⟨hl, w⟩ := R.guard_ok ok w
  have he' : (Γ.set n (some (oL enc ys)))[n1]? = some (some (.lst ((xs.map enc1).map Own.dat))) := by rw [List.getElem?_set_ne hne]; exact he
  obtain ⟨l', us, f1, f2, f3, k2⟩ := s1.mutTop he'
  rw [e1] at f1
  cases f1
  refine ⟨l, us, u, rfl, rfl, f2, by rw [f3, List.length_map]; exact line_lt hl, ?_⟩
  have z := k2 ((xs ++ [a]).map enc1) (us ++ [u]) fun B r ru => by rw [List.map_append]; exact r.append (RpA.one ru)
  exact q ys (xs ++ [a]) σ _ w z
theorem s_setL {enc : α → Dt} {xs : List α} {m : R α} {k : List α → R ρ} (hst : Stt F Γ T σ H) (hw : W (m.bind fun a => R.guard (inB xs i) ((R.ok (setI xs i a)).bind k))) (ok : WOk F Γe Er W) (he : Γ[n]? = some (some (oL enc xs))) (h : MV F Γe Er te Γ m (oD enc)) (hi : Ev F ta Γ (.dat (.int i)))
    (q : ∀ ys σ' H', W (k ys) → Stt F (Γ.set n (some (oL enc ys))) T σ' H' → D.nx σ' H') : tAsg te (gSub (tVar n) ta rSetL) D σ H := by
  refine h _ W _ T σ H ok hw hst _ fun a u H1 w s1 e1 => ?_
  obtain ⟨hb, w⟩ := R.guard_ok ok w
  obtain ⟨l, vs, f1, _⟩ := s1.mutTop (ds := xs.map enc) he
  refine ⟨.ref l, f1, hi _ σ H1 s1 _ fun iv H2 s2 e2 => ?_⟩
  obtain ⟨B, _, r⟩ := s2.topd
  obtain ⟨l', us, g1, g2, g3, k2⟩ := s2.pop.mutTop (ds := xs.map enc) he
  rw [f1] at g1
  cases g1
  rw [List.length_map] at g3
  refine ⟨l, us, i, ixI xs i, rfl, rp_int r, g2, ?_, ?_⟩
  · have := ixN_of (n := us.length) (i := i) (by rw [g3]; exact hb)
    rw [this]
    unfold ixI
    rw [g3]
  · have z := k2 ((setI xs i a).map enc) (us.set (ixI xs i) u) fun B r ru => by
      have e : (setI xs i a).map enc = (xs.map enc).set (ixI xs i) (enc a) := by unfold setI; rw [List.map_set]
      rw [e]
      exact r.set _ ru
    exact q (setI xs i a) σ _ w z
theorem ev_catU {enc : α → Dt} {xs ys : List α} (hb : (xs ++ ys).length ≤ 16777216) (h1 : Ev F ta Γ (.dat (eU enc xs))) (h2 : Ev F tb Γ (.dat (eU enc ys))) : Ev F (tOp (rCatA F.K) ta tb) Γ (.dat (eU enc (xs ++ ys))) :=
  ev_op h1 h2 fun Γ T σ H x y s Q q => by
    obtain ⟨B, O1, O2, a, b, c, p, ii⟩ := s.top
    rw [List.map_cons, List.map_cons] at b
    unfold Slots at b
    obtain ⟨w, r', P1, P2, e, a2, b2, c2, rfl⟩ := b
    cases e
    obtain ⟨r1, rfl⟩ := a.rp
    obtain ⟨r2, rfl⟩ := a2.rp
    have r2 : Rp F.K B (.tup (xs.map enc)) x := r2
    have r1 : Rp F.K B (.tup (ys.map enc)) y := r1
    unfold Rp at r1 r2
    obtain ⟨m, us, rfl, hm, ru⟩ := r1
    obtain ⟨l, vs, rfl, hl, rv⟩ := r2
    rw [emp_jn, emp_jn] at p
    have lu : us.length = ys.length := by rw [ru.length, List.length_map]
    have lv : vs.length = xs.length := by rw [rv.length, List.length_map]
    have app : RpA F.K B ((xs ++ ys).map enc) (vs ++ us) := by rw [List.map_append]; exact rv.append ru
    have one : ∀ {w : V} {zs : List α} (hz : Rp F.K B (.tup (zs.map enc)) w), Stt F Γ ((w, .dat (eU enc zs)) :: T) σ H := fun hz => by
      have z := slots_own (ow_dat hz) b2 emp_dj
      rw [emp_jn] at z
      exact ⟨B, P2, z, p, ii⟩
    refine ⟨l, m, vs, us, rfl, rfl, sqt_mono p.bh hl, sqt_mono p.bh hm, by rw [lu, lv]; rw [List.length_append] at hb; exact line_le hb, fun z => ?_, fun z1 z2 => ?_, fun z1 z2 t ht => ?_⟩
    · subst z
      have : xs = [] := List.eq_nil_of_length_eq_zero (by rw [← lv]; rfl)
      subst this
      exact q _ H (one (by unfold Rp; exact ⟨m, us, rfl, hm, ru⟩)) (Same.refl _)
    · subst z2
      have : ys = [] := List.eq_nil_of_length_eq_zero (by rw [← lu]; rfl)
      subst this
      rw [List.append_nil] at q
      exact q _ H (one (by unfold Rp; exact ⟨l, vs, rfl, hl, rv⟩)) (Same.refl _)
    · exact q _ _ (SttA.tup ⟨B, P2, app, b2, p, ii⟩ ht) (same_upd ht)
theorem ev_tupLE {enc : α → Dt} {xs : List α} (h : EvL F te Γ (xs.map enc)) : Ev F (tCB (rTupK F.K) (tCons te tNil)) Γ (.dat (eU enc xs)) := ev_tupleL h
def inA (d : Dt) (ns : List (List Nat)) : Bool := match d with
  | .str x => decide (lt x ∈ ns)
  | _ => false
def flatD (d : Dt) : Bool := d.isI || d.isX
theorem inV_intS (i : Int) : ∀ ns : List Str, inV (.int i) (ns.map V.str) = false
  | [] => by simp [inV]
  | n :: ns => by
    have ih := inV_intS i ns
    unfold inV at ih ⊢
    rw [List.map_cons, List.any_cons, ih]
    rfl
theorem ev_inTA {ns : List (List Nat)} (g : flatD d = true) (h1 : Ev F ta Γ (.dat d)) (h2 : Ev F tb Γ (.dat (eU eS ns))) : Ev F (tOp (rIn F.K false) ta tb) Γ (.dat (.bl (inA d ns))) := by
  unfold eU at h2
  rw [map_eS] at h2
  cases d with
  | str x =>
    have h1' : Ev F ta Γ (.dat (eS (lt x))) := ev_is h1 (by rw [eS, Sx_lt])
    have := ev_inTS (neg := false) h1' h2
    simp only [mem_Sx] at this
    exact this
  | int i =>
    exact ev_op h1 h2 (op2_val _ (fun B => by unfold Rp; rfl) fun B H x y Q eb h1 h2 q => by
      rw [rp_int h1]
      unfold Rp at h2
      obtain ⟨a, xs, rfl, hs, ra⟩ := h2
      rw [rpa_strs ra] at hs
      exact ⟨a, _, rfl, .inr (sqt_mono eb hs), rfl, flat_strs _, by rw [inV_intS]; exact q⟩)
  | _ => cases g
end
def CDivWN (_ j : Int) : Prop := j ≠ 0 ∧ j.natAbs.log2 < 9000
instance (i j : Int) : Decidable (CDivWN i j) := by unfold CDivWN; infer_instance
section
variable {α β : Type} [DecidableEq α]
def putD (kvs : List (α × β)) (k : α) (v : β) : List (α × β) := if (kvs.any fun p => decide (p.1 = k)) = true then kvs.map (fun p => if p.1 = k then (p.1, v) else p) else kvs ++ [(k, v)]
theorem zip_map {K : PySem.W.Frag} {B : Hp} {κ : Type} [DecidableEq κ] {kk : α → κ} {e : β → Dt} (inj : ∀ a b, kk a = kk b → a = b) {k : α} {b : β} {u : V} (hu : Rp K B (e b) u) : ∀ {kvs : List (α × β)} {vs : List V}, RpA K B (kvs.map fun p => e p.2) vs →
    ∃ ws, ((kvs.map fun p => kk p.1).zip vs).map (fun kv => if kv.1 = kk k then (kv.1, u) else kv) = ((kvs.map fun p => if p.1 = k then (p.1, b) else p).map fun p => kk p.1).zip ws ∧ RpA K B ((kvs.map fun p => if p.1 = k then (p.1, b) else p).map fun p => e p.2) ws
  | [], vs, h => ⟨[], rfl, rpa_nil⟩
  | p :: kvs, vs, h => by
    rw [List.map_cons] at h
    unfold RpA at h
    obtain ⟨v, r, rfl, h1, h2⟩ := h
    obtain ⟨ws, q1, q2⟩ := zip_map inj (k := k) hu h2
    by_cases c : p.1 = k
    · refine ⟨u :: ws, ?_, ?_⟩
      · simp only [List.map_cons, List.zip_cons_cons, q1]
        rw [if_pos (by rw [c]), if_pos c]
      · rw [List.map_cons, List.map_cons, if_pos c]
        exact rpa_cons hu q2
    · refine ⟨v :: ws, ?_, ?_⟩
      · simp only [List.map_cons, List.zip_cons_cons, q1]
        rw [if_neg fun z => c (inj _ _ z), if_neg c]
      · rw [List.map_cons, List.map_cons, if_neg c]
        exact rpa_cons h1 q2
end
section
variable {F : Fx} {Γ Γ' Γe : List Ent} {T : List (V × Own)} {σ : L2.St} {H H' : Hp} {v : V} {Er : L2.St → Exn → Hp → Prop} {ρ α β γ δ S : Type} {W : R ρ → Prop} {D : Ends} {ta tb tc te : TE} {tt uu : TT} {i j : Int} {d e : Dt} {c : Bool} {ds : List Dt} {n : Nat} [DecidableEq α] {kk : α → Key} {enc : β → Dt}
def gDE [DecidableEq β] (a b : List (α × β)) : Prop := a = b ∧ (a.map (·.1)).Nodup
instance [DecidableEq β] (a b : List (α × β)) : Decidable (gDE a b) := by unfold gDE; infer_instance
end
section
variable {F : Fx} {Γ Γ' Γe : List Ent} {T : List (V × Own)} {σ : L2.St} {H H' : Hp} {v : V} {Er : L2.St → Exn → Hp → Prop} {ρ α β γ δ S : Type} {W : R ρ → Prop} {D : Ends} {ta tb tc te : TE} {tt uu : TT} {i j : Int} {d e : Dt} {c : Bool} {ds es : List Dt} {n : Nat}
def gQ (d : Dt) : Prop := d.pl = true ∧ SeqAt.shaped d.py = true
instance (d : Dt) : Decidable (gQ d) := by unfold gQ; infer_instance
theorem eqvAll_nil (ds : List Dt) : PyData.eqvAll (Dt.pys ds) [] = decide (ds = []) := by
  cases ds with
  | nil => simp [Dt.pys, PyData.eqvAll]
  | cons d ds => simp [Dt.pys, PyData.eqvAll]
theorem shaped_nil : gQ (.lst []) := by
  refine ⟨rfl, ?_⟩
  unfold SeqAt.shaped
  simp [Dt.py, Dt.pys, PyData.canLay0, PyData.canLayAll0, PyData.depth, PyData.depthAll]
theorem ev_eqNil {enc : α → Dt} {xs : List α} (g : gQ (eL enc xs)) (h1 : EvQ F ta Γ (eL enc xs)) (h2 : EvQ F tb Γ (.lst [])) : Ev F (tOp (rEqD F.K) ta tb) Γ (.dat (.bl (decide (xs.length = 0)))) := by
  have := ev_eqD h1 h2 g.1 shaped_nil.1 g.2 shaped_nil.2
  have e : PyData.eqv (eL enc xs).py (Dt.lst []).py = decide (xs.length = 0) := by
    show PyData.eqv (.list (Dt.pys (xs.map enc))) (.list []) = _
    rw [PyData.eqv, eqvAll_nil]
    cases xs <;> simp
  rw [e] at this
  exact this
theorem ev_neNil {enc : α → Dt} {xs : List α} (g : gQ (eL enc xs)) (h1 : EvQ F ta Γ (eL enc xs)) (h2 : EvQ F tb Γ (.lst [])) : Ev F (tOp (rNeD F.K) ta tb) Γ (.dat (.bl (!decide (xs.length = 0)))) := by
  have := ev_neD h1 h2 g.1 shaped_nil.1 g.2 shaped_nil.2
  have e : PyData.eqv (eL enc xs).py (Dt.lst []).py = decide (xs.length = 0) := by
    show PyData.eqv (.list (Dt.pys (xs.map enc))) (.list []) = _
    rw [PyData.eqv, eqvAll_nil]
    cases xs <;> simp
  rw [e] at this
  exact this
end
theorem gQ_int (i : Int) : gQ (eI i) := ⟨rfl, by unfold SeqAt.shaped; simp [Dt.py, PyData.canLay0, PyData.depth]⟩
end Sm
namespace Sm
open PySem L2
def Sat {α : Type} (m : R α) (P : α → Prop) : Prop := ∃ a, m = .ok a ∧ P a
section
variable {α β γ S ρ : Type}
theorem sat_ok {a : α} {P : α → Prop} (h : P a) : Sat (.ok a) P := ⟨a, rfl, h⟩
theorem sat_bind {m : R α} {f : α → R β} {Q : α → Prop} {P : β → Prop} (h : Sat m Q) (k : ∀ a, Q a → Sat (f a) P) : Sat (m.bind f) P := by
  obtain ⟨a, rfl, q⟩ := h
  exact k a q
theorem sat_guard {p : Prop} [Decidable p] {m : R α} {P : α → Prop} (h : p) (k : Sat m P) : Sat (R.guard p m) P := by
  unfold R.guard
  rw [if_pos h]
  exact k
theorem sat_if {c : Prop} [Decidable c] {a b : R α} {P : α → Prop} (h1 : c → Sat a P) (h2 : ¬ c → Sat b P) : Sat (if c then a else b) P := by
  by_cases h : c
  · rw [if_pos h]; exact h1 h
  · rw [if_neg h]; exact h2 h
theorem sat_mono {m : R α} {P Q : α → Prop} (h : Sat m P) (k : ∀ a, P a → Q a) : Sat m Q := by
  obtain ⟨a, e, p⟩ := h
  exact ⟨a, e, k a p⟩
theorem sat_eq {m : R α} {a : α} (h : Sat m (· = a)) : m = .ok a := by
  obtain ⟨b, e, rfl⟩ := h
  exact e
theorem sat_of {m : R α} {a : α} {P : α → Prop} (h : m = .ok a) (p : P a) : Sat m P := ⟨a, h, p⟩
theorem sat_calm {m : R α} {P : α → Prop} (h : Sat m P) : Sat m.calm P := by
  obtain ⟨a, rfl, p⟩ := h
  exact ⟨a, rfl, p⟩
theorem sat_or {a b : R Bool} {x y : Bool} (h : Sat a (· = x)) (k : x = false → Sat b (· = y)) : Sat (R.or a b) (· = (x || y)) := by
  obtain ⟨x', rfl, rfl⟩ := h
  cases x' with
  | true => exact ⟨true, rfl, by simp⟩
  | false =>
    obtain ⟨_, rfl, rfl⟩ := k rfl
    exact ⟨_, rfl, by simp⟩
theorem sat_and {a b : R Bool} {x y : Bool} (h : Sat a (· = x)) (k : x = true → Sat b (· = y)) : Sat (R.and a b) (· = (x && y)) := by
  obtain ⟨x', rfl, rfl⟩ := h
  cases x' with
  | false => exact ⟨false, rfl, by simp⟩
  | true =>
    obtain ⟨_, rfl, rfl⟩ := k rfl
    exact ⟨_, rfl, by simp⟩
theorem sat_fold {f : α → S → R S} {xs : List α} {s0 : S} (I : List α → S → Prop) (h0 : I [] s0) (step : ∀ pre x suf s, xs = pre ++ x :: suf → I pre s → Sat (f x s) (I (pre ++ [x]))) : Sat (foldR f xs s0) (I xs) := by
  suffices h : ∀ suf pre s, xs = pre ++ suf → I pre s → Sat (foldR f suf s) (I xs) from h xs [] s0 rfl h0
  intro suf
  induction suf with
  | nil => intro pre s e i; rw [List.append_nil] at e; subst e; exact sat_ok i
  | cons x suf ih => intro pre s e i; exact sat_bind (step pre x suf s e i) fun s' i' => ih (pre ++ [x]) s' (by rw [e]; simp) i'
theorem sat_foldI {f : α → S → R S} {xs : List α} {s0 : S} (I : S → Prop) (h0 : I s0) (step : ∀ x s, x ∈ xs → I s → Sat (f x s) I) : Sat (foldR f xs s0) I :=
  sat_fold (fun _ => I) h0 fun pre x suf s e i => step x s (by rw [e]; simp) i
theorem sat_any {f : α → Unit → R (Ctl Unit ρ)} {xs : List α} {v : ρ} (p : α → Bool) (h : ∀ x, x ∈ xs → Sat (f x ()) (· = if p x = true then .rt v else .nx ())) : Sat (forR f xs ()) (· = if xs.any p = true then .rt v else .nx ()) := by
  induction xs with
  | nil => exact sat_ok rfl
  | cons x xs ih =>
    refine sat_bind (h x (by simp)) fun c e => ?_
    subst e
    cases hp : p x with
    | true => exact sat_ok (by simp [hp])
    | false =>
      have := ih fun y hy => h y (by simp [hy])
      simpa [hp, Ctl.step] using this
theorem sat_map {f : α → R β} {xs : List α} (Q : α → β → Prop) (h : ∀ x, x ∈ xs → Sat (f x) (Q x)) : Sat (mapR f xs) fun ys => ys.length = xs.length ∧ ∀ (i : Nat) (x : α) (y : β), xs[i]? = some x → ys[i]? = some y → Q x y := by
  induction xs with
  | nil => exact sat_ok ⟨rfl, fun i x y e => by simp at e⟩
  | cons x xs ih =>
    refine sat_bind (sat_calm (h x (by simp))) fun y q => sat_bind (ih fun z hz => h z (by simp [hz])) fun ys hys => sat_ok ⟨by simp [hys.1], fun i a b e1 e2 => ?_⟩
    cases i with
    | zero => simp at e1 e2; subst e1 e2; exact q
    | succ i => simp at e1 e2; exact hys.2 i a b e1 e2
theorem sat_mapM {f : α → R β} {xs : List α} (Q : β → Prop) (h : ∀ x, x ∈ xs → Sat (f x) Q) : Sat (mapR f xs) fun ys => ys.length = xs.length ∧ ∀ y, y ∈ ys → Q y :=
  sat_mono (sat_map (fun _ => Q) h) fun ys hy => ⟨hy.1, fun y my => by
    obtain ⟨i, hi, e⟩ := List.mem_iff_getElem.mp my
    have hx : i < xs.length := by rw [← hy.1]; exact hi
    exact hy.2 i xs[i] y (List.getElem?_eq_getElem hx) (by rw [List.getElem?_eq_getElem hi, e])⟩
theorem sat_while {c : S → R Bool} {f : S → R (Ctl S ρ)} {P : Ctl S ρ → Prop} (I : S → Prop) (μ : S → Nat) : ∀ {n : Nat} {s : S}, I s → μ s < n →
    (∀ s, I s → Sat (c s) fun b => match b with
      | false => P (.nx s)
      | true => Sat (f s) fun k => match k with
        | .nx s' => I s' ∧ μ s' < μ s
        | .rt r => P (.rt r)
        | .bk s' => P (.nx s')) → Sat (whileR c f n s) P
  | 0, _, _, h, _ => absurd h (Nat.not_lt_zero _)
  | n + 1, s, i, hm, step => by
    refine sat_bind (step s i) fun b h => ?_
    cases b with
    | false => exact sat_ok h
    | true =>
      refine sat_bind h fun k hk => ?_
      cases k with
      | nx s' => exact sat_while I μ hk.1 (by omega) step
      | rt r => exact sat_ok hk
      | bk s' => exact sat_ok hk
theorem rng_mem {i a b : Int} : i ∈ rng a b ↔ a ≤ i ∧ i < b := by
  unfold rng
  rw [List.mem_map]
  constructor
  · rintro ⟨n, h, rfl⟩
    rw [List.mem_range] at h
    omega
  · intro h
    exact ⟨(i - a).toNat, by rw [List.mem_range]; omega, by omega⟩
theorem rng_len {a b : Int} : (rng a b).length = (b - a).toNat := by unfold rng; simp
theorem rng_pre {a b : Int} {pre suf : List Int} {x : Int} (h : rng a b = pre ++ x :: suf) : x = a + pre.length := by
  have e : (rng a b)[pre.length]? = some x := by rw [h]; simp
  unfold rng at e
  rw [List.getElem?_map] at e
  cases q : (List.range (b - a).toNat)[pre.length]? with
  | none => rw [q] at e; cases e
  | some n =>
    rw [q] at e
    have := List.getElem?_eq_some_iff.mp q
    obtain ⟨h1, h2⟩ := this
    rw [List.getElem_range] at h2
    subst h2
    exact (Option.some.inj e).symm
theorem divW {i : Int} {n : Int} (h : 0 < n) (b : n < 1267650600228229401496703205376) : CDivW i n := ⟨h, Nat.lt_of_le_of_lt (Nat.log2_lt (n := n.natAbs) (k := 101) (by omega) |>.mpr (by omega) |> Nat.le_of_lt) (by decide)⟩
theorem mulW {i j : Int} {a b : Nat} (h1 : i.natAbs < 2 ^ a) (h2 : j.natAbs < 2 ^ b) (h3 : 0 < a) (h4 : 0 < b) (h : a + b ≤ 1000000) : CMulW i j := wide_mul h1 h2 h3 h4 h
theorem gS_of {l : List Nat} (h : l.length ≤ 16777216) : gS l := h
theorem gR_of {j : Int} (h : -1000000000 ≤ j) (k : j ≤ 1000000000) : gR j := ⟨by omega, by omega⟩
theorem getI_mem [Inhabited α] {xs : List α} {i : Int} (h : inB xs i) : getI xs i ∈ xs := List.mem_of_getElem? (getI_get h)
theorem inB_of {xs : List α} {i : Int} (h : 0 ≤ i) (k : i < xs.length) : inB xs i := ⟨by omega, k⟩
theorem cutL_length_le {xs : List α} {lo hi : Option Int} : (cutL xs lo hi).length ≤ xs.length := by
  unfold cutL
  rw [List.length_take, List.length_drop]
  omega
theorem cutL_mem {xs : List α} {lo hi : Option Int} {x : α} (h : x ∈ cutL xs lo hi) : x ∈ xs := by
  unfold cutL at h
  exact List.mem_of_mem_drop (List.mem_of_mem_take h)
end
end Sm
namespace Sm
open PySem L2 TL
def numI (w : Int) : List Nat := if w < 0 then 45 :: numL w.natAbs else numL w.natAbs
theorem lt_eq (s : String) : lt (Str.ofString s) = s.toList.map Char.toNat := tl_ofString s
theorem numL_repr (n : Nat) : (Nat.repr n).toList.map Char.toNat = numL n := by
  have := tl_num n
  rw [tl_ofString] at this
  exact this
theorem strI_eq (w : Int) : strI w = numI w := by
  unfold strI numI
  rw [lt_eq]
  cases w with
  | ofNat n => exact numL_repr n
  | negSucc n =>
    rw [if_pos (Int.negSucc_lt_zero n)]
    show (("-" ++ Nat.repr (n + 1) : String)).toList.map Char.toNat = _
    rw [String.toList_append, List.map_append, numL_repr]
    rfl
theorem fig_mem {c : Nat} : c ∈ lt "0123456789" ↔ 48 ≤ c ∧ c ≤ 57 := by
  have e : lt "0123456789" = [48, 49, 50, 51, 52, 53, 54, 55, 56, 57] := by decide +kernel
  rw [e]
  simp only [List.mem_cons, List.not_mem_nil, or_false]
  omega
theorem numL_head : ∀ {n : Nat}, 1 ≤ n → ∃ c r, numL n = c :: r ∧ c ≠ 48 := by
  intro n
  induction n using Nat.strongRecOn with
  | ind n ih =>
    intro h
    by_cases q : n < 10
    · exact ⟨48 + n, [], numL_lt q, by omega⟩
    · obtain ⟨c, r, e, hc⟩ := ih (n / 10) (by omega) (by omega)
      exact ⟨c, r ++ [48 + n % 10], by rw [numL_step (by omega), e]; rfl, hc⟩
theorem numL_short {n k : Nat} (hk : 0 < k) (h : n < 10 ^ k) : (numL n).length ≤ k := numL_len hk h
theorem intX_num {w : Int} (h : (numL w.natAbs).length ≤ 600) : intX? (numI w) = some w := by
  unfold intX? numI
  by_cases q : w < 0
  · rw [if_pos q]
    have e := intText_neg (x := Sx (45 :: numL w.natAbs)) (cs := numL w.natAbs) rfl (numL_digits _) (numL_ne _) (by rw [Sx_len, List.length_cons]; omega)
    rw [numL_val] at e
    rw [e]
    congr 1
    omega
  · rw [if_neg q]
    have e := intText_digits (x := Sx (numL w.natAbs)) (numL_digits _) (numL_ne _) (by rw [Sx_len]; omega)
    rw [show (Sx (numL w.natAbs)).cps.toList = numL w.natAbs from rfl, numL_val] at e
    rw [e]
    congr 1
    omega
theorem cut_head {α : Type} {xs : List α} : cutL xs none (some 1) = xs.take 1 := by
  unfold cutL HT.sIx
  cases xs <;> simp
theorem cut_tail {α : Type} {xs : List α} : cutL xs (some 1) none = xs.drop 1 := by
  unfold cutL HT.sIx
  cases xs with
  | nil => simp
  | cons x xs =>
    have : min (Int.toNat 1) (x :: xs).length = 1 := by simp
    simp [this]
theorem getI0 {α : Type} [Inhabited α] {x : α} {xs : List α} : getI (x :: xs) 0 = x := by
  unfold getI ixI
  simp
theorem sat_foldU {α : Type} {f : α → Unit → R Unit} {xs : List α} (h : ∀ x, x ∈ xs → f x () = .ok ()) : foldR f xs () = .ok () := by
  induction xs with
  | nil => rfl
  | cons x xs ih =>
    show (f x ()).bind _ = _
    rw [h x (by simp)]
    exact ih fun y hy => h y (by simp [hy])
theorem joinX_eq (a : List Nat) (ys : List (List Nat)) : joinX a ys = joinL a ys := by
  unfold joinX
  have e : Txt.join (Sx a) (ys.map Sx) = Str.join (Sx a) (ys.map Sx) := join_eq _ _
  rw [e]
  have := tl_join (Sx a) (ys.map Sx)
  have e2 : (ys.map Sx).map tl = ys := by
    rw [List.map_map]
    have : (tl ∘ Sx) = id := by funext l; rfl
    rw [this, List.map_id]
  rw [e2] at this
  exact this
theorem sum_le {ys : List (List Nat)} {n : Nat} (h : ∀ y ∈ ys, y.length ≤ n) : (ys.map List.length).sum ≤ ys.length * n := by
  induction ys with
  | nil => simp
  | cons y ys ih =>
    have h1 := h y (by simp)
    have h2 := ih fun z hz => h z (by simp [hz])
    rw [List.map_cons, List.sum_cons, List.length_cons, Nat.succ_mul]
    omega
end Sm
namespace Sm
open PySem L2 TL
section
variable {α β S : Type}
theorem foldR_app {f : α → S → R S} (a b : List α) (s : S) : foldR f (a ++ b) s = (foldR f a s).bind (foldR f b) := by
  induction a generalizing s with
  | nil => rfl
  | cons x a ih =>
    show (f x s).bind (foldR f (a ++ b)) = ((f x s).bind (foldR f a)).bind (foldR f b)
    cases f x s with
    | ok t => exact ih t
    | err e => rfl
    | bad => rfl
theorem popR_app [Inhabited α] (xs : List α) (x : α) : popR (xs ++ [x]) = .ok (x, xs) := by
  unfold popR R.guard
  rw [if_pos (by simp)]
  simp
theorem getI_last [Inhabited α] {xs : List α} {a : α} : getI (xs ++ [a]) (-1) = a := by
  unfold getI ixI
  rw [if_neg (by decide)]
  have : ((-1 : Int) + ((xs ++ [a]).length : Int)).toNat = xs.length := by rw [List.length_append, List.length_singleton]; omega
  rw [this]
  simp
theorem getI_last2 [Inhabited α] {xs : List α} {a b : α} : getI (xs ++ [a, b]) (-2) = a ∧ getI (xs ++ [a, b]) (-1) = b := by
  unfold getI ixI
  rw [if_neg (by decide), if_neg (by decide)]
  have h1 : ((-2 : Int) + ((xs ++ [a, b]).length : Int)).toNat = xs.length := by rw [List.length_append]; simp; omega
  have h2 : ((-1 : Int) + ((xs ++ [a, b]).length : Int)).toNat = xs.length + 1 := by rw [List.length_append]; simp; omega
  rw [h1, h2]
  simp
theorem cutL_last2 {xs : List α} {a b : α} : cutL (xs ++ [a, b]) none (some (-2)) = xs := by
  unfold cutL HT.sIx
  simp
  rw [List.take_append_of_le_length (by omega)]
  rw [List.take_of_length_le (by omega)]
theorem two_last {xs : List α} (h : 1 < xs.length) : ∃ r a b, xs = r ++ [a, b] := by
  have h1 : xs ≠ [] := by intro e; rw [e] at h; simp at h
  have e1 := List.dropLast_concat_getLast h1
  have h2 : xs.dropLast ≠ [] := by intro e; rw [e] at e1; rw [← e1] at h; simp at h
  have e2 := List.dropLast_concat_getLast h2
  refine ⟨xs.dropLast.dropLast, xs.dropLast.getLast h2, xs.getLast h1, ?_⟩
  rw [show [xs.dropLast.getLast h2, xs.getLast h1] = [xs.dropLast.getLast h2] ++ [xs.getLast h1] from rfl, ← List.append_assoc, e2, e1]
end
section
variable {α β : Type} [DecidableEq α]
end
def gQn (n : Nat) (d : Dt) : Prop := d.pl = true ∧ d.py.canLay0 = true ∧ d.py.depth ≤ n
theorem gQn_gQ {n : Nat} {d : Dt} (h : gQn n d) (hn : n ≤ 64) : gQ d := by
  refine ⟨h.1, ?_⟩
  unfold SeqAt.shaped
  rw [h.2.1, Bool.true_and, decide_eq_true_iff]
  exact Nat.le_trans h.2.2 hn
theorem gQn_int {n : Nat} (i : Int) : gQn n (eI i) := ⟨rfl, by simp [Dt.py, PyData.canLay0], by simp [Dt.py, PyData.depth]⟩
theorem gQn_str {n : Nat} {l : List Nat} (h : PyData.strOk (Sx l) = true) : gQn n (eS l) := ⟨rfl, by simpa [Dt.py, PyData.canLay0] using h, by simp [Dt.py, PyData.depth]⟩
theorem gQn_all {n : Nat} : ∀ {ds : List Dt}, (∀ d ∈ ds, gQn n d) → Dt.pls ds = true ∧ PyData.canLayAll0 (Dt.pys ds) = true ∧ PyData.depthAll (Dt.pys ds) ≤ n
  | [], _ => by simp [Dt.pls, Dt.pys, PyData.canLayAll0, PyData.depthAll]
  | d :: ds, h => by
    have h1 := h d (by simp)
    have ih := gQn_all fun e he => h e (List.mem_cons_of_mem _ he)
    refine ⟨?_, ?_, ?_⟩
    · unfold Dt.pls; rw [h1.1, ih.1]; rfl
    · unfold Dt.pys PyData.canLayAll0; rw [h1.2.1, ih.2.1]; rfl
    · unfold Dt.pys PyData.depthAll; exact Nat.max_le.mpr ⟨h1.2.2, ih.2.2⟩
theorem gQn_lst {n : Nat} {ds : List Dt} (h : ∀ d ∈ ds, gQn n d) : gQn (n + 1) (.lst ds) := by
  have := gQn_all h
  refine ⟨?_, ?_, ?_⟩
  · unfold Dt.pl; exact this.1
  · unfold Dt.py PyData.canLay0; exact this.2.1
  · unfold Dt.py PyData.depth; exact Nat.succ_le_succ this.2.2
theorem gQn_tup {n : Nat} {ds : List Dt} (h : ∀ d ∈ ds, gQn n d) : gQn (n + 1) (.tup ds) := by
  have := gQn_all h
  refine ⟨?_, ?_, ?_⟩
  · unfold Dt.pl; exact this.1
  · unfold Dt.py PyData.canLay0; exact this.2.1
  · unfold Dt.py PyData.depth; exact Nat.succ_le_succ this.2.2
theorem strOk_ascii {l : List Nat} (h : ∀ c ∈ l, c < 128) : PyData.strOk (Sx l) = true := by
  unfold PyData.strOk Sx
  rw [List.all_toArray, List.all_eq_true]
  intro c hc
  have := h c hc
  simp; omega
end Sm
namespace Sm
open PySem L2 TL
section
variable {F : Fx} {Γ Γ' Γe : List Ent} {T : List (V × Own)} {σ : L2.St} {H H' : Hp} {v : V} {Er : L2.St → Exn → Hp → Prop} {ρ α β γ δ S : Type} {W : R ρ → Prop} {D : Ends} {ta tb tc te : TE} {tt uu : TT} {i j : Int} {d e : Dt} {c : Bool} {ds es : List Dt} {n : Nat}
def eqD (d e : Dt) : Bool := PyData.eqv d.py e.py
def gQ2 (d e : Dt) : Prop := gQ d ∧ gQ e
instance (d e : Dt) : Decidable (gQ2 d e) := by unfold gQ2; infer_instance
theorem ev_eqDD (g : gQ2 d e) (h1 : EvQ F ta Γ d) (h2 : EvQ F tb Γ e) : Ev F (tOp (rEqD F.K) ta tb) Γ (.dat (.bl (eqD d e))) := ev_eqD h1 h2 g.1.1 g.2.1 g.1.2 g.2.2
theorem ev_neDD (g : gQ2 d e) (h1 : EvQ F ta Γ d) (h2 : EvQ F tb Γ e) : Ev F (tOp (rNeD F.K) ta tb) Γ (.dat (.bl (!eqD d e))) := ev_neD h1 h2 g.1.1 g.2.1 g.1.2 g.2.2
theorem eq_d (h : Ev F te Γ (.dat d)) : EvQ F te Γ d := fun T σ H s Q q => h T σ H s Q fun v H' s' e => by
  obtain ⟨B, eb, r⟩ := s'.topd
  exact q _ H' (r.mono eb) s'.pop e
theorem scr_eqv : ∀ ns : List Int, PyData.eqvAll (ns.map .int) (ns.map .int) = true
  | [] => by simp [PyData.eqvAll]
  | n :: ns => by simp [PyData.eqvAll, PyData.eqv, scr_eqv ns]
theorem keys_eqv : ∀ ks : List Key, PyData.eqvAll (ks.map kPy) (ks.map kPy) = true
  | [] => by simp [PyData.eqvAll]
  | .inl i :: ks => by simp [PyData.eqvAll, PyData.eqv, kPy, keys_eqv ks]
  | .inr x :: ks => by simp [PyData.eqvAll, PyData.eqv, kPy, keys_eqv ks]
mutual
theorem eqD_refl : ∀ {d : Dt}, d.pl = true → PyData.eqv d.py d.py = true
  | .non, _ => by simp [Dt.py, PyData.eqv]
  | .bl b, _ => by simp [Dt.py, PyData.eqv]
  | .int i, _ => by simp [Dt.py, PyData.eqv]
  | .str x, _ => by simp [Dt.py, PyData.eqv]
  | .lst xs, h => by unfold Dt.pl at h; simp only [Dt.py, PyData.eqv]; exact eqDs_refl h
  | .tup xs, h => by unfold Dt.pl at h; simp only [Dt.py, PyData.eqv]; exact eqDs_refl h
  | .scr ns, _ => by simp only [Dt.py, PyData.eqv]; exact scr_eqv ns
  | .dk _ _, h => by unfold Dt.pl at h; cases h
  | .dt _ _, h => by unfold Dt.pl at h; cases h
  | .du _ _, h => by unfold Dt.pl at h; cases h
  | .df _ _, h => by unfold Dt.pl at h; cases h
  | .ob _ _ _, h => by unfold Dt.pl at h; cases h
  | .wild, h => by unfold Dt.pl at h; cases h
  | .kt ks, _ => by simp only [Dt.py, PyData.eqv]; exact keys_eqv ks
  | .pin _ _, _ => by simp [Dt.py, PyData.eqv]
theorem eqDs_refl : ∀ {ds : List Dt}, Dt.pls ds = true → PyData.eqvAll (Dt.pys ds) (Dt.pys ds) = true
  | [], _ => by simp [Dt.pys, PyData.eqvAll]
  | d :: ds, h => by
    unfold Dt.pls at h
    rw [Bool.and_eq_true] at h
    unfold Dt.pys
    simp only [PyData.eqvAll, eqD_refl h.1, eqDs_refl h.2, Bool.and_self]
end
theorem eqD_same (h : d.pl = true) : eqD d d = true := eqD_refl h
end
end Sm
namespace Sm
open PySem L2 TL
section
variable {F : Fx} {Γ Γ' Γe : List Ent} {T : List (V × Own)} {σ : L2.St} {H H' : Hp} {v : V} {Er : L2.St → Exn → Hp → Prop} {ρ α β γ δ S : Type} {W : R ρ → Prop} {D : Ends} {ta tb tc te : TE} {tt uu : TT} {i j : Int} {d e : Dt} {c : Bool} {ds es : List Dt} {n : Nat}
def R.tryX {α : Type} (m : R α) (c : Exn → Bool) (h : Exn → R α) : R α := match m with
  | .ok a => .ok a
  | .err e => if e.plain = true then (if c e = true then h e else .err e) else .bad
  | .bad => .bad
theorem ps_tryOnlyXW {X : Cx} {x : Str} {c : Value} {body suite : List Stmt} {b₀ : Stmt} {np pos pos' : Pos} {tb : WX → TS} {ts : Addr → Value → Option Addr → TS} {Wout : WX} (hs : X.stack = X.env :: X.outer) (hf : X.env.frame = some X.env.locals) (hc : Names X x c) (hpa : ∀ hd : Option Value, PassesOwnAt (model X.prog X.w) (X.A.mark hd) X.A X.env X.xe) (tk : L2.Takes X Wout)
    (hb : ∀ (W : WX) (pn : List (Addr × Obj)) (xe : Value → Shared → Prop), L2N.Takes (X.tr pn xe) W → L2.Takes (X.tr pn xe) (L2H.wPass X.K c Wout) → PassesOwn (model X.prog X.w) X.A X.env xe → PSs (X.tr pn xe) body (tb W))
    (hsu : ∀ (a : Addr) (oe : Obj) (cls : Value) (d : Option Addr) (pn : List (Addr × Obj)), L2N.Zn cls d oe → (∃ vs, oe.data = .fields vs) → L2.Takes (L2H.suiteX X a ((a, oe) :: pn)) Wout → L2H.HotC (L2H.suiteX X a ((a, oe) :: pn)) →
      PSs (L2H.suiteX X a ((a, oe) :: pn)) (b₀ :: suite) (ts a cls d)) :
    PS X (.Try body [.ExceptHandler (some (.Name x np)) none (b₀ :: suite) pos'] [] [] pos) (tTryOnly X.K c ts Wout tb) := L2H.ps_try_onlyX hs hf hc hpa tk hb hsu
theorem s_tryOnlyX {cv : Value} {tbd : WX → TS} {ts : Addr → Value → Option Addr → TS} {Wout : WX} {Ce : Exn → Addr} {m : R α} {ct : Exn → Bool} {h : Exn → R α} {k : α → R ρ} {Γt : List Ent}
    (hst : Stt F Γ [] σ H) (hw : W ((R.tryX m ct h).bind k)) (ok : WOk F Γe Er W) (wke : Wk Γt Γe)
    (hex : ∀ e, e.plain = true → PySem.W.exmOne F.K (.ref (Ce e)) cv = some (ct e)) (hEo : ∀ σ e H, Er σ e H → e.plain = true → Wout (.ref (Ce e)) none σ H)
    (qb : ∀ (W' : R α → Prop) (Wx : WX), WOk F Γt (fun σ e H => ErrAt Ce (WE Wx σ) e H) W' → (∀ a, W' (.ok a) → W (k a)) → W' m → tbd Wx D σ H)
    (qh : ∀ (e : Exn) (W' : R α → Prop) (a : Addr) σ H, e.plain = true → WOk F Γe Er W' → (∀ a, W' (.ok a) → W (k a)) → W' (h e) → Stt F Γt [] σ H → ts a (.ref (Ce e)) none D σ H) :
    tTryOnly F.K cv ts Wout tbd D σ H := by
  refine qb (fun m => W ((R.tryX m ct h).bind k)) _ ⟨ok.bad, fun e he σ' H' s => ?_⟩ (fun a w => w) hw
  have he : W ((if e.plain = true then (if ct e = true then h e else .err e) else .bad : R α).bind k) := he
  by_cases hp : e.plain = true
  · rw [if_pos hp] at he
    rw [errAt_plain hp]
    refine ⟨ct e, hex e hp, fun hc a ha => ?_, fun hc => ?_⟩
    · rw [if_pos hc] at he
      exact qh e (fun m => W (m.bind k)) a _ H' hp ⟨ok.bad, fun e he σ2 H2 s2 => ok.err e he σ2 H2 s2⟩ (fun a w => w) he s
    · rw [hc, if_neg Bool.false_ne_true] at he
      exact hEo σ' e H' (ok.err e he σ' H' (s.weak wke)) hp
  · rw [if_neg hp] at he
    exact absurd he ok.bad
theorem s_tryOnlyXC {cv : Value} {tbd : WX → TS} {ts : Addr → Value → Option Addr → TS} {Wout : WX} {Ce : Exn → Addr} {m : R (Ctl S β)} {ct : Exn → Bool} {h : Exn → R (Ctl S β)} {k : Ctl S β → R ρ} {Γt : List Ent} {Γj : S → List Ent}
    (hst : Stt F Γ [] σ H) (hw : W ((R.tryX m ct h).bind k)) (ok : WOk F Γe Er W) (wke : Wk Γt Γe)
    (hex : ∀ e, e.plain = true → PySem.W.exmOne F.K (.ref (Ce e)) cv = some (ct e)) (hEo : ∀ σ e H, Er σ e H → e.plain = true → Wout (.ref (Ce e)) none σ H)
    (qb : ∀ (W' : R (Ctl S β) → Prop) (Wx : WX), WOk F Γt (fun σ e H => ErrAt Ce (WE Wx σ) e H) W' → (∀ r, W' (.ok (.rt r)) → W (k (.rt r))) → W' m → (∀ s σ' H', W' (.ok (.nx s)) → Stt F (Γj s) [] σ' H' → D.nx σ' H') → tbd Wx D σ H)
    (qh : ∀ (e : Exn) (W' : R (Ctl S β) → Prop) (a : Addr) σ H, e.plain = true → WOk F Γe Er W' → (∀ r, W' (.ok (.rt r)) → W (k (.rt r))) → W' (h e) → Stt F Γt [] σ H → (∀ s σ' H', W' (.ok (.nx s)) → Stt F (Γj s) [] σ' H' → D.nx σ' H') → ts a (.ref (Ce e)) none D σ H)
    (q : ∀ s σ' H', W (k (.nx s)) → Stt F (Γj s) [] σ' H' → D.nx σ' H') : tTryOnly F.K cv ts Wout tbd D σ H :=
  s_tryOnlyX hst hw ok wke hex hEo (fun W' Wx ok' hk w => qb W' Wx ok' (fun r => hk _) w fun s σ' H' w' st => q s σ' H' (hk _ w') st) fun e W' a σ' H' hp ok' hk w st => qh e W' a σ' H' hp ok' (fun r => hk _) w st fun s σ2 H2 w' st2 => q s _ H2 (hk _ w') st2
end
section
variable {F : Fx} {Γ Γ' Γe : List Ent} {T : List (V × Own)} {σ : L2.St} {H H' : Hp} {v : V} {Er : L2.St → Exn → Hp → Prop} {ρ α β γ δ S : Type} {W : R ρ → Prop} {D : Ends} {ta tb tc te : TE} {tt uu : TT} {i j : Int} {d e : Dt} {c : Bool} {ds es : List Dt} {n : Nat}
theorem slots_datAt {K : PySem.W.Frag} {B O : Hp} {Γ : List Ent} {σ : L2.St} {i : Nat} {d : Dt} {v : V} (s : Slots K B Γ O σ) (e : Γ[i]? = some (some (.dat d))) (e2 : σ[i]? = some (some v)) : Rp K B d v := by
  obtain ⟨u, O1, O2, e1, a, _⟩ := s.at e
  rw [e2] at e1
  cases e1
  exact a.rp.1
theorem Stt.deep2 {T' : List (V × Own)} {a b : V} {d e : Dt} (h : Stt F Γ (T' ++ (b, .dat e) :: (a, .dat d) :: T) σ H) : ∃ B O, Slots F.K B ((T' ++ (b, .dat e) :: (a, .dat d) :: T).map (fun p => some p.2) ++ Γ) O ((T' ++ (b, .dat e) :: (a, .dat d) :: T).map (fun p => some p.1) ++ σ) ∧ Post F.B F.O F.H B O H ∧ (∀ p ∈ F.ins, σ[p.1]? = some (some p.2)) ∧ Rp F.K B d a ∧ Rp F.K B e b := by
  obtain ⟨B, O, s, p, i⟩ := h
  refine ⟨B, O, s, p, i, ?_, ?_⟩
  · refine slots_datAt (i := T'.length + 1) s ?_ ?_
    · rw [List.getElem?_append_left (by simp), List.getElem?_map, List.getElem?_append_right (by omega)]
      simp
    · rw [List.getElem?_append_left (by simp), List.getElem?_map, List.getElem?_append_right (by omega)]
      simp
  · refine slots_datAt (i := T'.length) s ?_ ?_
    · rw [List.getElem?_append_left (by simp), List.getElem?_map, List.getElem?_append_right (by omega)]
      simp
    · rw [List.getElem?_append_left (by simp), List.getElem?_map, List.getElem?_append_right (by omega)]
      simp
theorem slots_pair {B O : Hp} {x y : V} {Tt : Addr} (sl : Slots F.K B ((T.map (fun p => some p.2)) ++ Γ) O (T.map (fun p => some p.1) ++ σ)) (P : Post F.B F.O F.H B O H) (ii : ∀ p ∈ F.ins, σ[p.1]? = some (some p.2)) (hT : H Tt = none) (hx : Rp F.K B d x) (hy : Rp F.K B e y) :
    Stt F Γ ((.ref Tt, .dat (.tup [d, e])) :: T) σ (upd H Tt (.tup [x, y])) := by
  have nB : B Tt = none := none_of_same P.bh hT
  refine ⟨upd B Tt (.tup [x, y]), O, ?_, P.newB hT, ii⟩
  have k : Rp F.K (upd B Tt (.tup [x, y])) (.tup [d, e]) (.ref Tt) := by
    unfold Rp
    exact ⟨Tt, [x, y], rfl, SqT.of upd_same, rpa_cons (hx.mono (same_upd nB)) (RpA.one (hy.mono (same_upd nB)))⟩
  have z := slots_own (ow_dat k) (sl.mono (same_upd nB)) emp_dj
  rw [emp_jn] at z
  exact z
theorem zip_at {ds es : List Dt} {i : Nat} {d : Dt} (h : ((ds.zip es).map fun p => Dt.tup [p.1, p.2])[i]? = some d) : ∃ a b, ds[i]? = some a ∧ es[i]? = some b ∧ d = .tup [a, b] := by
  rw [List.getElem?_map] at h
  cases q : (ds.zip es)[i]? with
  | none => rw [q] at h; cases h
  | some p =>
    rw [q] at h
    have := List.getElem?_zip_eq_some.mp q
    exact ⟨p.1, p.2, this.1, this.2, (Option.some.inj h).symm⟩
theorem wks_zipT {a b : Addr} {ds es : List Dt} : Wks F (RZ.ItzT F.K a b) ((.ref b, .dat (.tup es)) :: (.ref a, .dat (.tup ds)) :: T) ((ds.zip es).map fun p => .tup [p.1, p.2]) where
  go := fun Γ T' σ H i d s e => by
    obtain ⟨B, O, s1, p, ii, r1, r2⟩ := s.deep2
    unfold Rp at r1 r2
    obtain ⟨l1, vs, el1, hl1, ra⟩ := r1
    obtain ⟨l2, us, el2, hl2, rb⟩ := r2
    cases el1
    cases el2
    obtain ⟨x, y, ex, ey, rfl⟩ := zip_at e
    obtain ⟨u, e1, ru⟩ := ra.get ex
    obtain ⟨w, e2, rw_⟩ := rb.get ey
    refine ⟨⟨vs, us, u, w, sqt_mono p.bh hl1, sqt_mono p.bh hl2, e1, e2⟩, fun x' H' yl => ?_⟩
    obtain ⟨Tt, u', w', rfl, hT, rfl, f1, f2⟩ := yl
    have g1 := f1 vs (sqt_mono p.bh hl1)
    have g2 := f2 us (sqt_mono p.bh hl2)
    rw [e1] at g1
    rw [e2] at g2
    cases g1
    cases g2
    exact ⟨slots_pair s1 p ii hT ru rw_, same_upd hT⟩
  stop := fun Γ T' σ H s => by
    obtain ⟨B, O, s1, p, ii, r1, r2⟩ := s.deep2
    unfold Rp at r1 r2
    obtain ⟨l1, vs, el1, hl1, ra⟩ := r1
    obtain ⟨l2, us, el2, hl2, rb⟩ := r2
    cases el1
    cases el2
    refine ⟨vs, us, sqt_mono p.bh hl1, sqt_mono p.bh hl2, ?_⟩
    rw [ra.length, rb.length, List.length_map, List.length_zip]
    omega
theorem wks_zipL {a b : Addr} {ds es : List Dt} : Wks F (Itz F.K a b) ((.ref b, .dat (.lst es)) :: (.ref a, .dat (.lst ds)) :: T) ((ds.zip es).map fun p => .tup [p.1, p.2]) where
  go := fun Γ T' σ H i d s e => by
    obtain ⟨B, O, s1, p, ii, r1, r2⟩ := s.deep2
    unfold Rp at r1 r2
    obtain ⟨l1, vs, el1, hl1, ra⟩ := r1
    obtain ⟨l2, us, el2, hl2, rb⟩ := r2
    cases el1
    cases el2
    obtain ⟨x, y, ex, ey, rfl⟩ := zip_at e
    obtain ⟨u, e1, ru⟩ := ra.get ex
    obtain ⟨w, e2, rw_⟩ := rb.get ey
    refine ⟨⟨vs, us, u, w, SqL.of (p.bh _ _ hl1), SqL.of (p.bh _ _ hl2), e1, e2⟩, fun x' H' yl => ?_⟩
    obtain ⟨Tt, u', w', rfl, hT, rfl, f1, f2⟩ := yl
    have g1 := f1 vs (SqL.of (p.bh _ _ hl1))
    have g2 := f2 us (SqL.of (p.bh _ _ hl2))
    rw [e1] at g1
    rw [e2] at g2
    cases g1
    cases g2
    exact ⟨slots_pair s1 p ii hT ru rw_, same_upd hT⟩
  stop := fun Γ T' σ H s => by
    obtain ⟨B, O, s1, p, ii, r1, r2⟩ := s.deep2
    unfold Rp at r1 r2
    obtain ⟨l1, vs, el1, hl1, ra⟩ := r1
    obtain ⟨l2, us, el2, hl2, rb⟩ := r2
    cases el1
    cases el2
    refine ⟨vs, us, SqL.of (p.bh _ _ hl1), SqL.of (p.bh _ _ hl2), ?_⟩
    rw [ra.length, rb.length, List.length_map, List.length_zip]
    omega
theorem SttA.two {v w : V} {d e : Dt} (h : SttA F Γ T [v, w] [d, e] σ H) : Stt F Γ ((w, .dat e) :: (v, .dat d) :: T) σ H := by
  obtain ⟨B, O, r, sl, P, ii⟩ := h
  unfold RpA at r
  obtain ⟨_, _, e1, r1, r2⟩ := r
  cases e1
  unfold RpA at r2
  obtain ⟨_, _, e2, r2, _⟩ := r2
  cases e2
  have z := slots_own (ow_dat r1) sl emp_dj
  rw [emp_jn] at z
  have z2 := slots_own (ow_dat r2) z emp_dj
  rw [emp_jn] at z2
  exact ⟨B, O, z2, P, ii⟩
def enumX (xs : List α) : List (Int × α) := (rng 0 (xs.length : Int)).zip xs
theorem enum_at {ds : List Dt} {i : Nat} {d : Dt} (h : (((rng 0 (ds.length : Int)).zip ds).map fun p => Dt.tup [.int p.1, p.2])[i]? = some d) : ∃ b, ds[i]? = some b ∧ d = .tup [.int (i : Int), b] := by
  rw [List.getElem?_map] at h
  cases q : ((rng 0 (ds.length : Int)).zip ds)[i]? with
  | none => rw [q] at h; cases h
  | some p =>
    rw [q] at h
    have hz := List.getElem?_zip_eq_some.mp q
    refine ⟨p.2, hz.2, ?_⟩
    rw [← Option.some.inj h]
    have h1 := hz.1
    unfold rng at h1
    rw [List.getElem?_map] at h1
    cases q2 : (List.range ((ds.length : Int) - 0).toNat)[i]? with
    | none => rw [q2] at h1; cases h1
    | some n =>
      rw [q2] at h1
      obtain ⟨hh, e⟩ := List.getElem?_eq_some_iff.mp q2
      rw [List.getElem_range] at e
      subst e
      have : (0 : Int) + (i : Int) = p.1 := Option.some.inj h1
      show Dt.tup [Dt.int p.1, p.2] = _
      rw [← this, Int.zero_add]
theorem wks_enum {a : Addr} {ds : List Dt} : Wks F (Ite F.K a) ((.ref a, .dat (.lst ds)) :: T) (((rng 0 (ds.length : Int)).zip ds).map fun p => .tup [.int p.1, p.2]) where
  go := fun Γ T' σ H i d s e => by
    obtain ⟨B, O, s1, p, ii, r1⟩ := s.deep
    unfold Rp at r1
    obtain ⟨l1, vs, el1, hl1, ra⟩ := r1
    cases el1
    obtain ⟨x, ex, rfl⟩ := enum_at e
    obtain ⟨u, e1, ru⟩ := ra.get ex
    refine ⟨⟨vs, u, SqL.of (p.bh _ _ hl1), e1⟩, fun x' H' yl => ?_⟩
    obtain ⟨Tt, u', rfl, hT, rfl, f1⟩ := yl
    have g1 := f1 vs (SqL.of (p.bh _ _ hl1))
    rw [e1] at g1
    cases g1
    exact ⟨slots_pair s1 p ii hT (by unfold Rp; rfl) ru, same_upd hT⟩
  stop := fun Γ T' σ H s => by
    obtain ⟨B, O, s1, p, ii, r1⟩ := s.deep
    unfold Rp at r1
    obtain ⟨l1, vs, el1, hl1, ra⟩ := r1
    cases el1
    refine ⟨vs, SqL.of (p.bh _ _ hl1), ?_⟩
    rw [ra.length, List.length_map, List.length_zip, rng_len]
    omega
theorem sr_enum {m : R γ} {xs : γ → List α} {e1 : α → Dt} (h : MV F Γe Er ta Γ m fun b => .dat (.lst ((xs b).map e1))) :
    Sr F Γe Er (iEnum F.K (tCons ta tNil)) Γ m (fun b => enumX (xs b)) (e2 eI e1) := fun _ W k T σ H ok w s Ri q =>
  h _ W k T σ H ok w s _ fun b v H1 w1 s1 ee => by
    obtain ⟨B, O, sl, P, ii, r1⟩ := Stt.deep (T' := []) s1
    unfold Rp at r1
    obtain ⟨l1, us, rfl, hl1, ra⟩ := r1
    refine ⟨l1, us, rfl, SqL.of (P.bh _ _ hl1), ?_⟩
    refine q b [_] _ H1 w1 s1 ee ?_
    have e : (enumX (xs b)).map (e2 eI e1) = ((rng 0 (((xs b).map e1).length : Int)).zip ((xs b).map e1)).map fun p => Dt.tup [.int p.1, p.2] := by
      unfold enumX
      rw [List.length_map, ← List.map_id (rng 0 _), List.zip_map, List.map_map, List.map_id]
      rfl
    rw [e]
    exact wks_enum
def gML (xs : List α) (n : Int) : Prop := 0 ≤ n ∧ n ≤ 1000000 ∧ xs.length * n.toNat ≤ 16777216
instance (xs : List α) (n : Int) : Decidable (gML xs n) := by unfold gML; infer_instance
theorem mp_map {enc : β → Dt} {m : R (α × List β)} {t : α → Own} {t' : γ → Own} (f : α → γ) (h : MP F Γe Er te Γ n enc m t) (e : ∀ a, t' (f a) = t a) : MP F Γe Er te Γ n enc (m.bind fun p => R.ok (f p.1, p.2)) t' := fun _ W k T σ H ok w s Q q => by
  rw [R.bind_assoc] at w
  exact h _ W _ T σ H ok w s _ fun a xs v H1 w1 s1 => q (f a) xs v H1 w1 (by rw [e]; exact s1)
def Dt.isN : Dt → Bool
  | .non => true
  | _ => false
theorem isN_ne {d : Dt} (h : d.isN = false) : d ≠ .non := by intro e; subst e; cases h
theorem isN_eq {d : Dt} (h : d.isN = true) : d = .non := by cases d <;> first | rfl | cases h
theorem op2_isNA : Op2 F (fun x y H Q => y = .non ∧ Q (.bl (decide (x = .non))) H) (.dat d) (.dat .non) (.dat (.bl d.isN)) := op2_val _ (fun B => by unfold Rp; rfl) fun B H a b Q _ h1 h2 q => by
  refine ⟨rp_non h2, ?_⟩
  cases z : d.isN with
  | true =>
    rw [isN_eq z] at h1
    rw [decide_eq_true (rp_non h1)]
    rw [z] at q
    exact q
  | false =>
    rw [decide_eq_false (rp_ne_non h1 (isN_ne z))]
    rw [z] at q
    exact q
theorem ev_isNA (h1 : Ev F ta Γ (.dat d)) (h2 : Ev F tb Γ (.dat .non)) : Ev F (tOp (fun x y H Q => y = .non ∧ Q (.bl (decide (x = .non))) H) ta tb) Γ (.dat (.bl d.isN)) := ev_op h1 h2 op2_isNA
end
end Sm
namespace Sm
open PySem L2 TL
end Sm
namespace Sm
open PySem L2 TL
section
variable {F : Fx} {Γ Γ' Γe : List Ent} {T : List (V × Own)} {σ : L2.St} {H H' : Hp} {v : V} {Er : L2.St → Exn → Hp → Prop} {ρ α β γ δ S : Type} {W : R ρ → Prop} {D : Ends} {ta tb tc te : TE} {tt uu : TT} {i j : Int} {d e : Dt} {c : Bool} {ds es : List Dt} {n : Nat}
structure SortOk (enc : α → Dt) : Prop where
  pl : ∀ a, (enc a).pl = true
  al : ∀ a b, PySem.W.alike (enc a).py (enc b).py = true
  kd : (∀ a, ∃ x r, (enc a).py = .tuple (x :: r)) ∨ ∀ a, (enc a).py ≠ .none ∧ ∀ xs, (enc a).py ≠ .tuple xs
  dp : ∀ a, (enc a).py.depth ≤ 40
theorem Stt.re (h : Stt F Γ ((v, .dat d) :: T) σ H) (k : ∀ B, Rp F.K B d v → Rp F.K B e v) : Stt F Γ ((v, .dat e) :: T) σ H := by
  obtain ⟨B, O1, O2, a, s, dj, p, i⟩ := h.top
  obtain ⟨r, rfl⟩ := a.rp
  exact ⟨B, _, slots_own (ow_dat (k B r)) s dj, p, i⟩
variable [DecidableEq α] {kk : α → List Key} {enc : β → Dt}
omit [DecidableEq α] in
theorem Stt.pin {ks : List (List Key)} {ds : List Dt} (s : Stt F Γ ((v, .dat (.dt ks ds)) :: T) σ H) : ∃ a od vs, v = .ref a ∧ H a = some (.frz od (.dT (ks.zip vs))) ∧ vs.length = ds.length ∧ ks.length = ds.length ∧ RpA F.K H ds vs ∧
    Stt F Γ ((.bl true, .dat (.pin a (.frz od (.dT (ks.zip vs))))) :: (v, .dat (.dt ks ds)) :: T) σ H := by
  obtain ⟨B, O1, O2, a, sl, dj, p, ii⟩ := s.top
  obtain ⟨r, rfl⟩ := a.rp
  rw [emp_jn] at p
  have r0 := r
  unfold Rp at r
  obtain ⟨b, od, vs, rfl, hB, hl, ra⟩ := r
  refine ⟨b, od, vs, rfl, p.bh _ _ hB, ra.length, hl, ra.mono p.bh, B, O2, ?_, p, ii⟩
  have k : Rp F.K B (.pin b (.frz od (.dT (ks.zip vs)))) (.bl true) := by unfold Rp; exact ⟨rfl, hB⟩
  have z := slots_own (ow_dat k) (slots_own (ow_dat r0) sl emp_dj) emp_dj
  rw [emp_jn, emp_jn] at z
  exact z
omit [DecidableEq α] in
end
end Sm
namespace Sy
open PySem PySem.Spec PyProof.Rows L2
section
variable {prog : Program} {w : World} {A : Around} {E : Value → Shared → Prop}
abbrev KH := List Key × Addr × Value
structure Mk (P : Program) (w : World) (h : Heap) (S I : Addr) (xs : List KH) : Prop where
  dict : h.DictOfH (tupleKind (mixKind P w)) S xs
  keys : ∀ x ∈ xs, x.2.1 ≠ S ∧ x.2.1 ≠ I
theorem Mk.at {P : Program} {w : World} {h h' : Heap} {S I : Addr} {xs : List KH} (m : Mk P w h S I xs) (hS : ∀ o, h.get? S = some o → h'.get? S = some o) (k : ∀ b o, b ≠ S → b ≠ I → h.get? b = some o → h'.get? b = some o) : Mk P w h' S I xs := by
  obtain ⟨⟨o, es, ep, ho, hx, hd, he, hk, hn⟩, ks⟩ := m
  refine ⟨⟨o, es, ep, hS _ ho, hx, hd, he, fun x hx => ?_, hn⟩, ks⟩
  obtain ⟨ob, its, n, h1, h2⟩ := hk x hx
  exact ⟨ob, its, n, k _ _ (ks x hx).1 (ks x hx).2 h1, h2⟩
end
end Sy
namespace Sy
open PySem PySem.Spec PyProof.Rows L2
section
variable {X : Cx} {pins : List (Addr × Obj)} {σ : L2.St} {H : Hp} {s : Shared}
end
end Sy
namespace Sm
open PySem L2 TL
section
variable {F : Fx} {Γ Γ' Γe : List Ent} {T : List (V × Own)} {σ : L2.St} {H H' : Hp} {v : V} {Er : L2.St → Exn → Hp → Prop} {ρ α β γ δ S : Type} {W : R ρ → Prop} {D : Ends} {ta tb tc te : TE} {tt uu : TT} {i j : Int} {d e : Dt} {c : Bool} {ds es : List Dt} {n : Nat}
theorem Stt.grow (s : Stt F Γ T σ H) (e : Same H H') : Stt F Γ T σ H' := by
  obtain ⟨B, O, sl, p, ii⟩ := s
  exact ⟨B, O, sl, ⟨p.b0, p.bh.trans e, p.oh.trans e, p.dj, fun a o h n => e _ _ (p.fr a o h n), p.yb, p.yo, p.nt⟩, ii⟩
def EvAQ (F : Fx) (ta : TA) (Γ : List Ent) (ds : List Dt) : Prop :=
  ∀ T σ H, Stt F Γ T σ H → ∀ Q : List V → Hp → Prop, (∀ vs H', RpA F.K H' ds vs → Stt F Γ T σ H' → Same H H' → Q vs H') → ta σ H Q
theorem eaq_nil : EvAQ F tNil Γ [] := fun T σ H s Q q => q [] H rpa_nil s (Same.refl _)
theorem eaq_cons {tr : TA} (h1 : EvQ F te Γ d) (h2 : EvAQ F tr Γ ds) : EvAQ F (tCons te tr) Γ (d :: ds) := fun T σ H s Q q =>
  h1 T σ H s _ fun v H1 r s1 e1 => h2 T σ H1 s1 _ fun vs H2 rs s2 e2 => q (v :: vs) H2 (rpa_cons (r.mono e2) rs) s2 (e1.trans e2)
theorem mv_callQ {X : Type} {Ce : Exn → Addr} {n : Nat} {argT : X → List Dt} {m : X → R α} {enc : α → Dt} {tr : TA} {ds : List Dt} {Ex : L2.St → XK} (x : X)
    (ha : EvAQ F tr Γ ds) (hx : argT x = ds) (hn : ds.length = n) (hE : ∀ σ e H', Er σ e H' → ErrAt Ce (Ex σ) e H') (wk : Wk Γ Γe) (sc : ∀ (K : PySem.W.Frag) (B B' : Hp) a v, Rp K B (enc a) v → Rp K B' (enc a) v) :
    MV F Γe Er (tCallS (spD F.K Ce n argT m (oD enc)) Ex tr) Γ (m x) (oD enc) := fun _ W k T σ H ok w s Q q =>
  ha T σ H s _ fun vs H1 r s1 e1 => by
    subst hx
    refine ⟨x, H1, emp, by rw [List.length_map, hn], owa_dats r, Same.refl _, fun a o e => (nomatch e), ⟨dj_emp, nt_emp⟩, ?_⟩
    cases e : m x with
    | ok a =>
      rw [e] at w
      intro v B' O' H' P oa
      unfold OwA at oa
      obtain ⟨v', r', O1, O2, e2, a1, b1, d1, rfl⟩ := oa
      cases e2
      have hr := a1.rp.1
      have eH : Same H1 H' := P.b0.trans P.bh
      exact q a v H' w ((s1.grow eH).push fun B _ => sc _ _ _ _ _ hr) (e1.trans eH)
    | err ex =>
      rw [e] at w
      intro B' O' H' P oa
      exact hE σ ex H' (ok.err ex w σ H' ((s1.grow (P.b0.trans P.bh)).pops.weak wk))
    | bad =>
      rw [e] at w
      exact absurd w ok.bad
theorem sc_B (K : PySem.W.Frag) (B B' : Hp) (a : Bool) (v : V) (h : Rp K B (eB a) v) : Rp K B' (eB a) v := by unfold Rp at h ⊢; exact h
theorem sc_S (K : PySem.W.Frag) (B B' : Hp) (a : List Nat) (v : V) (h : Rp K B (eS a) v) : Rp K B' (eS a) v := by unfold Rp at h ⊢; exact h
end
end Sm
namespace L2
open PySem PySem.Spec PyProof.Rows
def CMulB (i j : Int) : Prop := i.natAbs.log2 + j.natAbs.log2 < 100000000
instance (i j : Int) : Decidable (CMulB i j) := by unfold CMulB; infer_instance
theorem CMulB.ok {i j : Int} (h : CMulB i j) : IntMulOk i j := by
  have b : ∀ x : Int, Builtin.Int.intBits x ≤ x.natAbs.log2 + 1 := fun x => by
    unfold Builtin.Int.intBits
    split <;> omega
  have h1 := b i
  have h2 := b j
  have h3 : i.natAbs.log2 + j.natAbs.log2 < 100000000 := h
  have e : bitsLine = 134217728 := by decide
  unfold IntMulOk
  intro z
  rw [Bool.and_eq_true] at z
  have z2 := z.2
  unfold Builtin.Int.intTooBig at z2
  have z3 := of_decide_eq_true z2
  rw [e] at z3
  omega
theorem walk_ofEB {l : PySem.W.OpenLaw} {n k : Nat} {q : Program} {loose : List Str} {XP : (Str → Option Value) → Heap → Prop} {YP : World → Heap → Prop} {d : DefRec} {CX : CXT} {x : Str}
    (hn : l.most = some n) (hn2 : n ≤ sizeLine) (hdf : d.params.defaults = []) (hr : Room k callerA)
    (F : ∀ (w : World) (mg : Str → Option Value) (fa : Addr) (h : Heap), YP w h → h.Ns mainGlobals mg → mg d.name = some (.ref fa) →
      ∃ (K : PySem.W.Frag) (fd : FuncData) (sp : Sp), K.In h ∧ (∀ (s : Shared) (u : Value), BindsTo s fd ⟨[u], []⟩ [(x, u)]) ∧
        (∀ (H : Hp) (a : Addr) (ns : List Int), ns.length ≤ n → (∀ z ∈ ns, Builtin.Int.intBits z ≤ 1048576) → Only H → SqL K H a (ns.map V.int) → sp [.ref a] H (fun v _ => v = .bl true) fun _ _ _ => False) ∧
        ∀ base : Heap, K.In base → base.Ns mainGlobals mg → FnOk l.prog w K mg base CX k fa fd [x] sp)
    (hCX : ∀ (H : Hp) (s : Shared) (e : Value) (s' : Shared), CX [] H s (fun _ _ _ => False) e s' → False) :
    PySem.W.WalkO q loose XP YP l.row.toRowW d [] (fun f vs => PySem.call f vs) := by
  refine Att.attach_callB hn hdf fun w s₀ s₁ mg mb fa o pm cd doc a vs ns G Y ho hd hcd hmg hobj hints hlen hbits hg => ?_
  obtain ⟨K, fd, sp, KX, hb, hsp, hF⟩ := F w mg fa _ Y G.T.g hmg
  exact law_call KX G.T.g G.T.b G.T.builtins G.T.nolimit hg hobj hints (Nat.le_trans hlen hn2) hr hF hb (fun H hO hS => hsp H a ns hlen hbits hO hS) fun H e s' => hCX H s₁ e s'
end L2
namespace Sm
open PySem L2 TL
def bits (z : Int) : Prop := Builtin.Int.intBits z ≤ 1048576
end Sm
namespace L2
open PySem PySem.Spec PyProof.Rows Builtin Builtin.Str
section
variable {X : Cx}
end
end L2
namespace Sm
open PySem L2 TL
section
variable {F : Fx} {Γ Γ' Γe : List Ent} {T : List (V × Own)} {σ : L2.St} {H H' : Hp} {v : V} {Er : L2.St → Exn → Hp → Prop} {ρ α β γ δ S : Type} {W : R ρ → Prop} {D : Ends} {ta tb tc te : TE} {tt uu : TT} {i j : Int} {d e : Dt} {c : Bool} {ds es : List Dt} {n : Nat}
def gRp (a b : List Nat) : Prop := b ≠ [] ∧ a.length ≤ 16777216
instance (a b : List Nat) : Decidable (gRp a b) := by unfold gRp; infer_instance
theorem sx_len0 {b : List Nat} (h : b ≠ []) : ((Sx b).length == 0) = false := by
  rw [Sx_len]
  cases b with
  | nil => exact absurd rfl h
  | cons x l => rfl
theorem rp_eS {K : PySem.W.Frag} {B : Hp} {x : Str} : Rp K B (eS (lt x)) (.str x) := by rw [eS, Sx_lt]; unfold Rp; rfl
def gZ (i : Int) : Prop := PadOk i = true
instance (i : Int) : Decidable (gZ i) := by unfold gZ; infer_instance
def splX (a b : List Nat) : List (List Nat) := (Txt.split (Sx a) (Sx b)).map lt
def gSp (a b : List Nat) : Prop := b ≠ [] ∧ a.length ≤ 1000000
instance (a b : List Nat) : Decidable (gSp a b) := by unfold gSp; infer_instance
abbrev rSplit : V → List V → Hp → VK → Prop := fun x xs H Q => ∃ a b, x = .str a ∧ xs = [.str b] ∧ (b.length == 0) = false ∧ a.length + 2 ≤ sizeLine ∧ rNewStrs (Txt.split a b) H Q
theorem ev_split {a b : List Nat} (g : gSp a b) (h1 : Ev F ta Γ (.dat (eS a))) (h2 : Ev F tb Γ (.dat (eS b))) : Ev F (tM1 rSplit ta tb) Γ (oL eS (splX a b)) := fun T σ H s Q q =>
  h1 T σ H s _ fun v H1 s1 e1 => by
    obtain ⟨B, _, r⟩ := s1.topd
    have r := rp_str r
    subst r
    refine ⟨⟨_, rfl⟩, h2 _ σ H1 s1 _ fun u H2 s2 e2 => ?_⟩
    obtain ⟨B2, _, r2⟩ := s2.topd
    have r2 := rp_str r2
    subst r2
    refine ⟨Sx a, Sx b, rfl, rfl, sx_len0 g.1, by rw [Sx_len]; exact line_le (by have := g.2; omega), fun p hp => ?_⟩
    obtain ⟨B3, O3, sl, P, ii⟩ := s2.pop.pop
    have hm : ∀ ys : List Str, RpA F.K B3 ((ys.map lt).map eS) (ys.map V.str) := fun ys => by
      induction ys with
      | nil => exact rpa_nil
      | cons y ys ih => exact rpa_cons rp_eS ih
    exact q _ _ (SttA.lst ⟨B3, O3, hm _, sl, P, ii⟩ hp) ((e1.trans e2).trans (same_upd hp))
def gMS0 (a : List Nat) (n : Int) : Prop := 0 ≤ n ∧ n ≤ 100000 ∧ a.length ≤ 160
instance (a : List Nat) (n : Int) : Decidable (gMS0 a n) := by unfold gMS0; infer_instance
def gR3 (p : Int × Int × Int) : Prop := p.2.2 ≠ 0 ∧ p.2.2.natAbs < 1073741824 ∧ Builtin.Range.small p.1 p.2.1 p.2.2 = true ∧ 0 ≤ Builtin.Range.rangeSize p.1 p.2.1 p.2.2
instance (p : Int × Int × Int) : Decidable (gR3 p) := by unfold gR3; infer_instance
end
end Sm
namespace Sm
open PySem L2
section
variable {X : Cx} {pins : List (Addr × Obj)} {σ : L2.St} {H3 : Hp} {s3 : Shared}
end
section
variable {X : Cx}
end
section
variable {F : Fx} {Γ Γe : List Ent} {T : List (V × Own)} {σ : L2.St} {H : Hp} {Er : L2.St → Exn → Hp → Prop} {ρ α β γ : Type} {W : R ρ → Prop} {te : TE}
end
end Sm
namespace Sm
open PySem L2 TL
section
variable {F : Fx} {Γ Γ' Γe : List Ent} {T : List (V × Own)} {σ : L2.St} {H H' : Hp} {v : V} {t : Own} {Er : L2.St → Exn → Hp → Prop} {ρ α β γ δ S : Type} {W : R ρ → Prop} {D : Ends} {ta tb tc te : TE} {tt uu : TT} {i j : Int} {d e : Dt} {ds es : List Dt} {n : Nat}
theorem Stt.atn (h : Stt F Γ T σ H) (e : Γ[n]? = some (some t)) : ∃ B v O1 O2, σ[n]? = some (some v) ∧ Ow F.K B t O1 v ∧ Dj O1 O2 ∧ Post F.B F.O F.H B (jn O1 O2) H ∧ (∀ p ∈ F.ins, σ[p.1]? = some (some p.2)) ∧
    Slots F.K B (T.map (fun p => some p.2) ++ Γ) (jn O1 O2) (T.map (fun p => some p.1) ++ σ) ∧
    (∀ B' t' O1', Same B B' → Ow F.K B' t' O1' v → Dj O1' O2 → Slots F.K B' (T.map (fun p => some p.2) ++ Γ.set n (some t')) (jn O1' O2) (T.map (fun p => some p.1) ++ σ)) ∧
    ∀ B', Same B B' → Slots F.K B' (T.map (fun p => some p.2) ++ Γ.set n none) O2 (T.map (fun p => some p.1) ++ σ) := by
  obtain ⟨B, O, s, p, q⟩ := h
  have e' : (T.map (fun p => some p.2) ++ Γ)[T.length + n]? = some (some t) := by
    rw [List.getElem?_append_right (by simp)]
    simpa using e
  obtain ⟨v, O1, O2, e1, a, dj, rfl, k1, k2⟩ := s.at e'
  have e2 : σ[n]? = some (some v) := by
    rw [List.getElem?_append_right (by simp)] at e1
    simpa using e1
  have hs : (T.map (fun p => some p.1) ++ σ).set (T.length + n) (some v) = T.map (fun p => some p.1) ++ σ := set_same e1
  have hg : ∀ x, (T.map (fun p => some p.2) ++ Γ).set (T.length + n) x = T.map (fun p => some p.2) ++ Γ.set n x := fun x => by
    rw [List.set_append_right _ _ (by simp)]
    simp
  refine ⟨B, v, O1, O2, e2, a, dj, p, q, s, fun B' t' O1' sm h' d' => ?_, fun B' sm => ?_⟩
  · have := k1 B' t' O1' v sm h' d'
    rw [hs, hg] at this
    exact this
  · have := k2 B' (some v) sm
    rw [hs, hg] at this
    exact this
theorem Stt.lend (h : Stt F Γ T σ H) (e : Γ[n]? = some (some (.lst (ds.map Own.dat)))) : ∃ l vs, σ[n]? = some (some (.ref l)) ∧ H l = some (.lst vs) ∧ Stt F (Γ.set n (some (.hole (.ref l)))) ((.ref l, .lst (ds.map Own.dat)) :: T) σ H := by
  obtain ⟨B, v, O1, O2, e1, a, dj, p, q, s, k, _⟩ := h.atn e
  have a0 := a
  unfold Ow at a0
  obtain ⟨l, vs, O', rfl, oa, nl, eO⟩ := a0
  refine ⟨l, vs, e1, p.oh l _ (by rw [eO]; exact jn_some upd_same), B, jn O1 O2, ?_, p, q⟩
  have z := k B (.hole (.ref l)) emp (Same.refl _) (by unfold Ow; exact ⟨rfl, rfl⟩) emp_dj
  rw [emp_jn] at z
  exact slots_own a z dj
theorem s_retVar {a : α} {t : Own} {W : R α → Prop} (hst : Stt F Γ T σ H) (hw : W (.ok a)) (he : Γ[n]? = some (some t))
    (q : ∀ v H', W (.ok a) → Stt F (Γ.set n none) ((v, t) :: T) σ H' → D.rt v H') : tRet (tVar n) D σ H := by
  obtain ⟨B, v, O1, O2, e1, a1, dj, p, qi, s, _, kn⟩ := hst.atn he
  exact ⟨v, e1, q v H hw ⟨B, jn O1 O2, slots_own a1 (kn B (Same.refl _)) dj, p, qi⟩⟩
theorem s_extM {n : Nat} {m : R α} {e : α → List Dt} {k : α → R ρ} (hst : Stt F Γ T σ H) (hw : W (m.bind fun a => R.guard (ds.length + (e a).length ≤ 16777216) (k a))) (ok : WOk F Γe Er W) (he : Γ[n]? = some (some (.lst (ds.map Own.dat)))) (h : MV F Γe Er te Γ m fun a => .lst ((e a).map Own.dat))
    (q : ∀ a σ' H', W (k a) → Stt F (Γ.set n (some (.lst ((ds ++ e a).map Own.dat)))) T σ' H' → D.nx σ' H') : tDrop (tBM F.K "list" rExtend (tVar n) (tCons te tNil)) D σ H := by
  obtain ⟨l, vs0, e1, hl0, _⟩ := hst.lend he
  refine ⟨.ref l, e1, .inl ⟨rfl, _, SqL.of hl0⟩, ?_⟩
  refine h _ W _ T σ H ok hw hst _ fun a u H1 w s2 e3 => ?_
  obtain ⟨hl, w⟩ := R.guard_ok ok w
  obtain ⟨B2, Ou, Or, au, s3, dj3, p3, i3⟩ := s2.top
  unfold Ow at au
  obtain ⟨b, zs, O', rfl, oa, nb, rfl⟩ := au
  obtain ⟨rz, rfl⟩ := oa.dats
  have hb : H1 b = some (.lst zs) := p3.oh b _ (jn_some upd_same)
  have s4 : Stt F Γ T σ H1 := s2.pop
  have e' : (T.map (fun p => some p.2) ++ Γ)[T.length + n]? = some (some (.lst (ds.map Own.dat))) := by
    rw [List.getElem?_append_right (by simp)]
    simpa using he
  obtain ⟨v', P1, P2, e1', a', dj', rfl, kk, _⟩ := s3.at e'
  have e2 : σ[n]? = some (some v') := by
    rw [List.getElem?_append_right (by simp)] at e1'
    simpa using e1'
  rw [e1] at e2
  cases e2
  unfold Ow at a'
  obtain ⟨l', ws, Q', el, oa', n2, rfl⟩ := a'
  cases el
  obtain ⟨rw_, rfl⟩ := oa'.dats
  have hH : H1 l = some (.lst ws) := p3.oh l _ (by rw [jn_comm dj3]; exact jn_some (jn_some upd_same))
  refine ⟨l, b, ws, zs, rfl, rfl, hH, hb, by rw [rw_.length, rz.length]; exact line_le hl, ?_⟩
  have z := kk B2 (.lst ((ds ++ e a).map Own.dat)) (upd emp l (.lst (ws ++ zs))) (.ref l) (Same.refl _) (by
    unfold Ow
    exact ⟨l, ws ++ zs, emp, rfl, owa_dats (rw_.append rz), rfl, rfl⟩) (by
    have nl : P2 l = none := by
      rcases dj' l with x | x
      · rw [upd_same] at x; cases x
      · exact x
    exact Dj.upd emp_dj nl)
  rw [set_same e1', List.set_append_right _ _ (by simp)] at z
  refine q a _ _ w ⟨B2, jn (upd emp l (.lst (ws ++ zs))) P2, by simpa using z, ?_, i3⟩
  have p5 : Post F.B F.O F.H B2 (jn (upd emp l (.lst ws)) P2) H1 := p3.dropL dj3
  have p4 := p5.mut (a := l) (o := .lst (ws ++ zs)) (jn_some upd_same)
  rw [upd_jn, upd_upd] at p4
  exact p4
theorem s_extE {n : Nat} {enc : α → Dt} {xs : List α} {m : R (List α)} {k : List α → R ρ} (hst : Stt F Γ T σ H) (hw : W (m.bind fun a => R.guard (xs.length + a.length ≤ 16777216) ((R.ok (xs ++ a)).bind k))) (ok : WOk F Γe Er W) (he : Γ[n]? = some (some (oL enc xs))) (h : MV F Γe Er te Γ m (oL enc))
    (q : ∀ ys σ' H', W (k ys) → Stt F (Γ.set n (some (oL enc ys))) T σ' H' → D.nx σ' H') : tDrop (tBM F.K "list" rExtend (tVar n) (tCons te tNil)) D σ H := by
  refine s_extM (ds := xs.map enc) (e := fun a => a.map enc) (k := fun a => k (xs ++ a)) hst (by
    have e : (fun (a : List α) => R.guard ((xs.map enc).length + (a.map enc).length ≤ 16777216) (k (xs ++ a))) = fun a => R.guard (xs.length + a.length ≤ 16777216) ((R.ok (xs ++ a)).bind k) := by
      funext a
      unfold R.guard
      rw [List.length_map, List.length_map]
      rfl
    rw [e]
    exact hw) ok he h fun a σ' H' w s => q (xs ++ a) σ' H' w ?_
  have e : (xs ++ a).map enc = xs.map enc ++ a.map enc := List.map_append
  unfold oL
  rw [e]
  exact s
end
end Sm
namespace Sy
open PySem PySem.Spec PyProof.Rows L2 L2.DX PySem.W PySem.Calls
section
variable {prog : Program} {w : World} {A : Around} {E : Value → Shared → Prop} {s : Shared} {d r : Addr} {es : Array DictEntry} {ep : Nat}
end
section
variable {X : Cx}
end
end Sy
namespace Sm
open PySem L2 TL L2.DX Sy
section
variable {F : Fx} {Γ Γ' Γe : List Ent} {T : List (V × Own)} {σ : L2.St} {H H' : Hp} {v : V} {t : Own} {Er : L2.St → Exn → Hp → Prop} {ρ α β γ δ S : Type} {W : R ρ → Prop} {D : Ends} {ta tb tc te : TE} {tt uu : TT} {i j : Int} {d e : Dt} {ds es : List Dt} {n : Nat}
theorem Post.grow {B0 O0 H0 B O H H' : Hp} (p : Post B0 O0 H0 B O H) (e : Same H H') : Post B0 O0 H0 B O H' := ⟨p.b0, p.bh.trans e, p.oh.trans e, p.dj, fun a o h n => e _ _ (p.fr a o h n), p.yb, p.yo, p.nt⟩
theorem Post.addRows {B0 O0 H0 B O H : Hp} {K : PySem.W.Frag} {kk : α → List Key} {ek : α → Dt} {enc : β → Dt} (hek : ∀ a, ek a = .kt (kk a)) (p : Post B0 O0 H0 B O H) : ∀ {ts : List Addr} {kvs : List (α × β)} {vs : List V}, ts.length = kvs.length → RpA K B (kvs.map fun r => enc r.2) vs →
    (∀ (j : Nat) (t : Addr) (e : α × β) (v : V), ts[j]? = some t → kvs[j]? = some e → vs[j]? = some v → ∃ kq, H t = some (.tup [.ref kq, v]) ∧ H kq = some (.tup ((kk e.1).map kV))) →
    ∃ B', Post B0 O0 H0 B' O H ∧ Same B B' ∧ RpA K B' (kvs.map (e2 ek enc)) (ts.map V.ref)
  | [], [], _, _, _, _ => ⟨B, p, Same.refl _, rpa_nil⟩
  | [], _ :: _, _, h, _, _ => by simp at h
  | _ :: _, [], _, h, _, _ => by simp at h
  | t :: ts, e :: kvs, vs, hl, r, hf => by
    rw [List.map_cons] at r
    unfold RpA at r
    obtain ⟨v, vr, rfl, r1, r2⟩ := r
    obtain ⟨B1, p1, e1, ra⟩ := Post.addRows hek p (ts := ts) (kvs := kvs) (by simpa using hl) r2 fun j t' e' v' h1 h2 h3 => hf (j + 1) t' e' v' (by simpa using h1) (by simpa using h2) (by simpa using h3)
    obtain ⟨kq, ht, hk⟩ := hf 0 t e v rfl rfl rfl
    obtain ⟨B2, p2, e2', hB⟩ := p1.addB hk
    obtain ⟨B3, p3, e3, hT⟩ := p2.addB ht
    refine ⟨B3, p3, (e1.trans e2').trans e3, ?_⟩
    rw [List.map_cons, List.map_cons]
    refine rpa_cons ?_ (ra.mono (e2'.trans e3))
    show Rp K B3 (.tup [ek e.1, enc e.2]) (.ref t)
    unfold Rp
    refine ⟨t, [.ref kq, v], rfl, SqT.of hT, rpa_cons ?_ (rpa_cons (r1.mono ((e1.trans e2').trans e3)) rpa_nil)⟩
    rw [hek]
    unfold Rp
    exact ⟨kq, rfl, e3 _ _ hB⟩
theorem Stt.rows {kk : α → List Key} {ek : α → Dt} {enc : β → Dt} (hek : ∀ a, ek a = .kt (kk a)) {ts : List Addr} {kvs : List (α × β)} {vs : List V} {B : Hp} {O : Hp} (s : Slots F.K B (T.map (fun p => some p.2) ++ Γ) O (T.map (fun p => some p.1) ++ σ)) (p : Post F.B F.O F.H B O H) (q : ∀ p ∈ F.ins, σ[p.1]? = some (some p.2))
    (hl : ts.length = kvs.length) (r : RpA F.K B (kvs.map fun r => enc r.2) vs) (hf : ∀ (j : Nat) (t : Addr) (e : α × β) (v : V), ts[j]? = some t → kvs[j]? = some e → vs[j]? = some v → ∃ kq, H t = some (.tup [.ref kq, v]) ∧ H kq = some (.tup ((kk e.1).map kV))) (v : V) :
    Stt F Γ ((v, .rv (ts.map V.ref) (kvs.map (e2 ek enc))) :: T) σ H := by
  obtain ⟨B', p', e', ra⟩ := Post.addRows hek p hl r hf
  refine ⟨B', O, ?_, p', q⟩
  have z := slots_own (show Ow F.K B' (.rv (ts.map V.ref) (kvs.map (e2 ek enc))) emp v by unfold Ow; exact ⟨ra, rfl⟩) (s.mono e') emp_dj
  rw [emp_jn] at z
  exact z
end
end Sm
namespace PySem.W
open Lean Elab Tactic Meta PySem PySem.Calls PyProof.Rows PyProof.V PySem.Spec
section
variable {prog : Program} {w : World} {A : Around} {E : Value → Shared → Prop} {s : Shared}
end
end PySem.W
namespace Sm
open PySem PySem.Spec PyProof.Rows L2 L2.DX PySem.W
section
variable {F : Fx} {Γ Γ' Γe : List Ent} {T : List (V × Own)} {σ : L2.St} {H H' : Hp} {v : V} {Er : L2.St → Exn → Hp → Prop} {ρ α β γ δ S : Type} {W : R ρ → Prop} {D : Ends} {ta tb tc te ti : TE} {tt uu : TT} {i j : Int} {d e : Dt} {c : Bool} {ds : List Dt} {n : Nat} [DecidableEq α] {enc : β → Dt}
end
section
variable {F : Fx} {Γ Γ' Γe : List Ent} {T : List (V × Own)} {σ : L2.St} {H H' : Hp} {v : V} {Er : L2.St → Exn → Hp → Prop} {ρ α β γ δ S : Type} {W : R ρ → Prop} {D : Ends} {ta tb tc te ti : TE} {tt uu : TT} {i j : Int} {d e : Dt} {c : Bool} {ds : List Dt} {n : Nat} {enc : α → Dt}
def gIns (xs : List α) (i : Int) : Prop := xs.length < 16777216 ∧ 0 ≤ i ∧ i < 2 ^ 63
instance {xs : List α} {i : Int} : Decidable (gIns xs i) := by unfold gIns; exact inferInstance
end
end Sm
namespace Sm
open PySem PySem.Spec PyProof.Rows L2 L2.DX PySem.W Sy
section
variable {K : PySem.W.Frag} {B B' : Hp}
theorem jn_upd {A C : Hp} {a : Addr} {o : HO} (n : A a = none) : jn A (upd C a o) = upd (jn A C) a o := by
  funext b
  by_cases e : b = a
  · subst e
    rw [jn_none n, upd_same, upd_same]
  · rw [upd_ne e]
    cases z : A b with
    | some x => rw [jn_some z, jn_some z]
    | none => rw [jn_none z, jn_none z, upd_ne e]
theorem dj_upd {A C : Hp} {a : Addr} {o : HO} (d : Dj A (upd C a o)) (n : C a = none) : A a = none ∧ Dj A C := by
  have na : A a = none := by
    rcases d a with x | x
    · exact x
    · rw [upd_same] at x; cases x
  refine ⟨na, fun b => ?_⟩
  by_cases e : b = a
  · subst e; exact .inl na
  · rcases d b with x | x
    · exact .inl x
    · rw [upd_ne e] at x; exact .inr x
section
variable {α β : Type} {kk : α → List Key} {enc : β → Dt}
end
end
section
variable {F : Fx} {Γ Γ' Γe : List Ent} {T : List (V × Own)} {σ : L2.St} {H H' : Hp} {v : V} {Er : L2.St → Exn → Hp → Prop} {ρ α β γ δ S : Type} {W : R ρ → Prop} {D : Ends} {ta tb tc te ti tj tk : TE} {tt uu : TT} {d e : Dt} {c : Bool} {ds : List Dt} {n : Nat} {kk : α → List Key} {enc : β → Dt}
abbrev e0 (_ : Unit) : Dt := Dt.tup []
def put2 [DecidableEq α] (xss : List (List (List (α × β)))) (i j : Int) (ky : α) (b : β) : List (List (List (α × β))) := setI xss i (setI (getI xss i) j (putD (getI (getI xss i) j) ky b))
end
end Sm
namespace Sm
open PySem PySem.Spec PyProof.Rows L2 PySem.W
inductive Ag where
  | d (x : Dt)
  | s (n : Nat)
def RA (K : PySem.W.Frag) (B : Hp) (σ : L2.St) : List Ag → List V → Prop
  | [], vs => vs = []
  | .d x :: as, vs => ∃ v r, vs = v :: r ∧ Rp K B x v ∧ RA K B σ as r
  | .s n :: as, vs => ∃ v r, vs = v :: r ∧ σ[n]? = some (some v) ∧ RA K B σ as r
theorem RA.mono {K : PySem.W.Frag} {B B' : Hp} {σ : L2.St} (e : Same B B') : ∀ {as : List Ag} {vs : List V}, RA K B σ as vs → RA K B' σ as vs
  | [], _, h => h
  | .d x :: as, _, ⟨v, r, e1, h1, h2⟩ => ⟨v, r, e1, h1.mono e, RA.mono e h2⟩
  | .s n :: as, _, ⟨v, r, e1, h1, h2⟩ => ⟨v, r, e1, h1, RA.mono e h2⟩
theorem RA.length {K : PySem.W.Frag} {B : Hp} {σ : L2.St} : ∀ {as : List Ag} {vs : List V}, RA K B σ as vs → vs.length = as.length
  | [], _, h => by rw [show _ = [] from h]; rfl
  | .d x :: as, _, ⟨v, r, e1, h1, h2⟩ => by rw [e1, List.length_cons, h2.length, List.length_cons]
  | .s n :: as, _, ⟨v, r, e1, h1, h2⟩ => by rw [e1, List.length_cons, h2.length, List.length_cons]
def agS : List Ag → List Nat
  | [] => []
  | .d _ :: as => agS as
  | .s n :: as => n :: agS as
def agV : List Ag → List V → List V
  | .d _ :: as, _ :: vs => agV as vs
  | .s _ :: as, v :: vs => v :: agV as vs
  | _, _ => []
def RS (σ : L2.St) : List Nat → List V → Prop
  | [], vs => vs = []
  | n :: ns, vs => ∃ v r, vs = v :: r ∧ σ[n]? = some (some v) ∧ RS σ ns r
theorem RA.rs {K : PySem.W.Frag} {B : Hp} {σ : L2.St} : ∀ {as : List Ag} {vs : List V}, RA K B σ as vs → RS σ (agS as) (agV as vs)
  | [], _, h => by rw [show _ = [] from h]; rfl
  | .d x :: as, _, ⟨v, r, e1, h1, h2⟩ => by rw [e1]; exact h2.rs
  | .s n :: as, _, ⟨v, r, e1, h1, h2⟩ => by rw [e1]; exact ⟨v, _, rfl, h1, h2.rs⟩
inductive Tk : List Ent → List Ag → List Own → List Ent → Prop
  | nil {Γ : List Ent} : Tk Γ [] [] Γ
  | d {Γ Γ' : List Ent} {as : List Ag} {ts : List Own} {x : Dt} : Tk Γ as ts Γ' → Tk Γ (.d x :: as) (.dat x :: ts) Γ'
  | s {Γ Γ' : List Ent} {as : List Ag} {ts : List Own} {n : Nat} {t : Own} : Γ[n]? = some (some t) → Tk (Γ.set n none) as ts Γ' → Tk Γ (.s n :: as) (t :: ts) Γ'
inductive Gv : List Ent → List Nat → List Own → List Ent → Prop
  | nil {Γ : List Ent} : Gv Γ [] [] Γ
  | cons {Γ Γ' : List Ent} {ns : List Nat} {ts : List Own} {n : Nat} {t : Own} : Γ[n]? = some none → Gv (Γ.set n (some t)) ns ts Γ' → Gv Γ (n :: ns) (t :: ts) Γ'
theorem take_ {K : PySem.W.Frag} {B : Hp} {σ : L2.St} {T : List (V × Own)} {Γ Γ' : List Ent} {as : List Ag} {ts : List Own} (tk : Tk Γ as ts Γ') : ∀ {vs : List V} {O : Hp}, RA K B σ as vs → Slots K B (T.map (fun p => some p.2) ++ Γ) O (T.map (fun p => some p.1) ++ σ) →
    ∃ Oa Or, OwA K B ts Oa vs ∧ Slots K B (T.map (fun p => some p.2) ++ Γ') Or (T.map (fun p => some p.1) ++ σ) ∧ Dj Oa Or ∧ O = jn Oa Or := by
  induction tk with
  | nil =>
    intro vs O ra sl
    rw [show vs = [] from ra]
    exact ⟨emp, O, owa_nil, sl, emp_dj, emp_jn.symm⟩
  | d _ ih =>
    intro vs O ra sl
    obtain ⟨v, r, rfl, r1, r2⟩ := ra
    obtain ⟨Oa, Or, oa, sl', dj, rfl⟩ := ih r2 sl
    refine ⟨Oa, Or, ?_, sl', dj, rfl⟩
    have z := owa_cons (ow_dat r1) oa emp_dj
    rw [emp_jn] at z
    exact z
  | @s Γ Γ' as ts n t he _ ih =>
    intro vs O ra sl
    obtain ⟨v, r, rfl, r1, r2⟩ := ra
    have e' : (T.map (fun p => some p.2) ++ Γ)[T.length + n]? = some (some t) := by
      rw [List.getElem?_append_right (by simp)]
      simpa using he
    obtain ⟨v', O1, O2, e1, a, dj, rfl, _, k2⟩ := sl.at e'
    have e2 : σ[n]? = some (some v') := by
      rw [List.getElem?_append_right (by simp)] at e1
      simpa using e1
    rw [r1] at e2
    cases e2
    have z := k2 B (some v) (Same.refl _)
    rw [set_same e1, List.set_append_right _ _ (by simp)] at z
    simp only [List.length_map, Nat.add_sub_cancel_left] at z
    obtain ⟨Oa, Or, oa, sl', dj', rfl⟩ := ih r2 z
    exact ⟨jn O1 Oa, Or, owa_cons a oa (Dj.rl dj), sl', Dj.jnl (Dj.rr dj) dj', jn_assoc.symm⟩
section
variable {F : Fx} {Γ Γ' Γ1 Γe Γx : List Ent} {T : List (V × Own)} {σ : L2.St} {H H' : Hp} {v : V} {Er : L2.St → Exn → Hp → Prop} {ρ α β γ S : Type} {W : R ρ → Prop} {D : Ends} {ta tb tc te : TE} {tr : TA} {d e : Dt} {ds : List Dt} {n : Nat}
def SttG (F : Fx) (Γ : List Ent) (T : List (V × Own)) (vs : List V) (as : List Ag) (σ : L2.St) (H : Hp) : Prop :=
  ∃ B O, RA F.K B σ as vs ∧ Slots F.K B (T.map (fun p => some p.2) ++ Γ) O (T.map (fun p => some p.1) ++ σ) ∧ Post F.B F.O F.H B O H ∧ ∀ p ∈ F.ins, σ[p.1]? = some (some p.2)
theorem SttG.dcons {vs : List V} {as : List Ag} (h : SttG F Γ ((v, .dat d) :: T) vs as σ H) : SttG F Γ T (v :: vs) (.d d :: as) σ H := by
  obtain ⟨B, O, ra, sl, p, ii⟩ := h
  rw [List.map_cons, List.map_cons] at sl
  unfold Slots at sl
  obtain ⟨_, _, O1, O2, e, a, b, c, rfl⟩ := sl
  cases e
  obtain ⟨r, rfl⟩ := a.rp
  rw [emp_jn] at p
  exact ⟨B, O2, ⟨v, vs, rfl, r, ra⟩, b, p, ii⟩
end
section
variable {F : Fx} {Γ Γ' Γ1 Γe Γx : List Ent} {T : List (V × Own)} {σ : L2.St} {H H' : Hp} {α : Type}
theorem ra_of {K : PySem.W.Frag} {B : Hp} {σ : L2.St} {vs : List V} : ∀ {ns : List Nat}, (∀ i ∈ ns, i < vs.length) → (∀ p ∈ ns.filterMap (fun i => vs[i]?.map fun v => (i, v)), σ[p.1]? = some (some p.2)) → RA K B σ (ns.map Ag.s) (ns.filterMap fun i => vs[i]?)
  | [], _, _ => rfl
  | n :: ns, hl, h => by
    have hn := hl n (by simp)
    have e : vs[n]? = some vs[n] := List.getElem?_eq_getElem hn
    have ih := ra_of (K := K) (B := B) (ns := ns) (fun i hi => hl i (by simp [hi])) fun p hp => h p (by
      rw [List.filterMap_cons, e]
      exact List.mem_cons_of_mem _ hp)
    rw [List.map_cons, List.filterMap_cons, e]
    exact ⟨vs[n], _, rfl, h (n, vs[n]) (by rw [List.filterMap_cons, e]; exact List.mem_cons_self), ih⟩
end
section
variable {X : Cx} {CX : CXT} {k : Nat} {f C : Addr} {fd : FuncData} {ps : List Str} {sp : Sp} {E : L2.St → XK} {x m : Str} {p pos apos : Pos} {e o : Expr} {es : List Expr} {ta : TE} {t : TA}
def tMethP (C : Addr) (m : Str) (sp : Sp) (E : L2.St → XK) (ta : TE) (t : TA) : TE := fun σ H Q => ta σ H fun x H1 => ∃ a dx fs, x = .ref a ∧ H1 a = some (.ins C dx fs) ∧ fs.lookup m = none ∧
  t σ H1 fun vs H2 => sp (x :: vs) H2 Q (E σ)
theorem pe_methP0 {pl : Sem Bool} (he : PE X o ta) (c : Cls X.K C) (hm : Meth X.K C m f) (F : FnOk X.prog X.w X.K X.mg X.base CX k f fd ps sp) (hr : Room k X.A) (hb : Binds X.K fd ps []) (hx : ∀ σ, PassesAt CX X σ (E σ))
    (ht : eval (.Call (.Attribute o m apos) [] [] pos) X.env = (do
      let ov ← eval o X.env
      standAt apos.atName
      let (f, first) ← holding [ov] (getMethod ov m pl)
      callWith pos f first (backTo pos (starEach [] X.env)) (backToKw pos (keywordEach [] X.env))) := by rfl) :
    PE X (.Call (.Attribute o m apos) [] [] pos) (tMethP C m sp E ta tNil) := by
  refine ⟨fun pins s σ H Q I h => ?_⟩
  refine PySem.W.methodCall_KW (pl := pl) (thn (he.run pins s σ H _ I h) fun u s1 ⟨x, H1, I1, rx, a, dx, fs, ex, ea, l, q⟩ => ?_) ht
  subst ex
  obtain rfl : u = Value.ref a := rx
  refine getmeth_ok I1 ea c hm l ?_
  exact PySem.W.callWith_K0 (first := [.ref a]) I1.kIn hm.kp (run_fnS (us := [.ref a]) (vs := [.ref a]) F hr hb (hx σ) I1 (.cons rfl .nil) q)
def tMakeP (C : Addr) (sp : Sp) (E : L2.St → XK) (t : TA) : TE := fun σ H Q => t σ H fun vs H1 => ∀ x dx, H1 x = none → H1 dx = none → dx ≠ x →
  sp (.ref x :: vs) (upd (upd H1 dx (.own x)) x (.ins C dx [])) (fun v H2 => v = .non ∧ Q (.ref x) H2) (E σ)
theorem run_makeP {pins : List (Addr × Obj)} {σ : L2.St} {H : Hp} {s : Shared} {Q : VK} {us : List Value} {vs : List V} (M : Mk X.K C f) (F : FnOk X.prog X.w X.K X.mg X.base CX k f fd ps sp) (hr : Room (k + 1) X.A) (hb : Binds X.K fd ps [])
    (hx : ∀ σ, PassesAt CX X σ (E σ)) (I : Inv X pins σ H s) (r : Vals vs us)
    (h : ∀ x dx, H x = none → H dx = none → dx ≠ x → sp (.ref x :: vs) (upd (upd H dx (.own x)) x (.ins C dx [])) (fun v H2 => v = .non ∧ Q (.ref x) H2) (E σ)) :
    wpAny (model X.prog X.w) X.A (call (.ref C) us) (EP X pins σ Q) X.xe s := by
  have hq := h (s.heap.objs.size + 1) s.heap.objs.size (I.hok.fresh (Nat.le_succ _)) (I.hok.fresh (Nat.le_refl _)) (Nat.ne_of_lt (Nat.lt_succ_self _))
  have I2 := Inv.made (C := C) I
  have r2 : Vals (V.ref (s.heap.objs.size + 1) :: vs) (Value.ref (s.heap.objs.size + 1) :: us) := .cons rfl r
  have hl : (Value.ref (s.heap.objs.size + 1) :: us).length = ps.length := by
    have e := r2.length
    rw [F.len _ _ _ _ hq] at e
    exact e.symm
  have b := hb _ (Value.ref (s.heap.objs.size + 1) :: us) I2.kIn (by rw [List.append_nil]; exact hl)
  rw [List.append_nil] at b
  refine wpAny_call (make_map (f := f) I.kIn M.makes M.init (beq_iff_eq.mp M.fn) (codeAny_mono (F.run _ X.stack _ _ ⟨Value.ref (s.heap.objs.size + 1) :: us, []⟩ (Value.ref (s.heap.objs.size + 1) :: us) _ _ (E σ) (hr.make C us [])
    (I2.env0.make C us []) b r2 hq) fun r s' hq' => ?_))
  cases r with
  | error e => exact hx σ pins _ _ e s' I2 hq'
  | ok fl =>
    cases fl with
    | ret u =>
      obtain ⟨v, H', I3, rv, ev, q3⟩ := I2.after hq'
      subst ev
      exact ⟨rv, ⟨V.ref (s.heap.objs.size + 1), H', I3, rfl, q3⟩⟩
    | next => exact False.elim hq'
    | brk => exact False.elim hq'
    | cont => exact False.elim hq'
theorem pe_makeP (M : Mk X.K C f) (F : FnOk X.prog X.w X.K X.mg X.base CX k f fd ps sp) (hr : Room (k + 1) X.A) (hg : Gl X x) (hm : X.mg x = some (.ref C)) (hb : Binds X.K fd ps []) (hx : ∀ σ, PassesAt CX X σ (E σ))
    (ha : PA X (e :: es) t) (hdb : (x == ("__debug__" : Str)) = false := by decide) (he : starEach (e :: es) X.env = (false, eval e X.env) :: starEach es X.env := by rfl) (hpl : (backTo pos (starEach es X.env)).any (·.1) = false := by rfl) :
    PE X (.Call (.Name x p) (e :: es) [] pos) (tMakeP C sp E t) := by
  refine ⟨fun pins s σ H Q I h => ?_⟩
  refine wpAny_Call_Name_kw (ld_glob I hg hm ?_ hdb)
  refine PySem.W.callWith_K (h₀ := X.base) I.ok.mod.kin M.kp (thn (ha.run pos pins s σ H _ I h) fun us s1 ⟨vs, H1, I1, r, q⟩ => ⟨I1.kIn, ?_⟩) he hpl
  exact run_makeP M F hr hb hx I1 r q
end
end Sm
namespace Sm
open PySem PySem.Spec PyProof.Rows L2 PySem.W
section
variable {K : PySem.W.Frag} {B B' : Hp}
theorem Ow.insAt {C : Addr} {fs : List Str} {xs : List Own} {i : Nat} {c : Own} {O : Hp} {v : V} (h : Ow K B (.ins C fs xs) O v) (e : xs[i]? = some c) : ∃ p dx vs vc O1 Or, v = .ref p ∧ Or p = some (.ins C dx (fs.zip vs)) ∧ vs.length = xs.length ∧ fs.length = xs.length ∧ vs[i]? = some vc ∧ Ow K B c O1 vc ∧ Dj O1 Or ∧ O = jn O1 Or ∧
    ∀ B' c' O1', Same B B' → Ow K B' c' O1' vc → Dj O1' Or → Ow K B' (.ins C fs (xs.set i c')) (jn O1' Or) (.ref p) := by
  unfold Ow at h
  obtain ⟨p, dx, vs, Oc, rfl, oa, np, nx, ne, hl, rfl⟩ := h
  obtain ⟨vc, O1, O2, e1, a, dj, rfl, k⟩ := oa.at e
  have p1 := (jn_none_iff.mp np).1
  have p2 := (jn_none_iff.mp np).2
  have x1 := (jn_none_iff.mp nx).1
  have x2 := (jn_none_iff.mp nx).2
  refine ⟨p, dx, vs, vc, O1, upd (upd O2 dx (.own p)) p (.ins C dx (fs.zip vs)), rfl, upd_same, oa.length, hl, e1, a, (Dj.upd (Dj.upd dj.symm x1) p1).symm, by rw [jn_upd p1, jn_upd x1], fun B' c' O1' s a' d' => ?_⟩
  obtain ⟨m1, d2⟩ := dj_upd d' (by rw [upd_ne (Ne.symm ne)]; exact p2)
  obtain ⟨m2, d3⟩ := dj_upd d2 x2
  have z := k B' c' O1' vc s a' d3
  rw [set_same e1] at z
  unfold Ow
  exact ⟨p, dx, vs, jn O1' O2, rfl, z, jn_none_iff.mpr ⟨m1, p2⟩, jn_none_iff.mpr ⟨m2, x2⟩, ne, by rw [List.length_set]; exact hl, by rw [jn_upd m1, jn_upd m2]⟩
end
inductive Rd1 : Own → Dt → Prop
  | dat {d : Dt} : Rd1 (.dat d) d
  | lk {od : Obj} {ks : List Key} {us : List V} {ds : List Dt} : Rd1 (.lk od ks us ds) (.df ks ds)
  | lst {ds : List Dt} : Rd1 (.lst (ds.map Own.dat)) (.lst ds)
inductive RdA : List Own → List Dt → Prop
  | nil : RdA [] []
  | cons {t : Own} {d : Dt} {ts : List Own} {ds : List Dt} : Rd1 t d → RdA ts ds → RdA (t :: ts) (d :: ds)
theorem Rd1.rp {K : PySem.W.Frag} {B H O : Hp} {t : Own} {d : Dt} {v : V} (r : Rd1 t d) (a : Ow K B t O v) (sb : Same B H) (so : Same O H) : Rp K H d v := by
  cases r with
  | dat => exact a.rp.1.mono sb
  | lk =>
    unfold Ow at a
    obtain ⟨l, rfl, r, hl, rfl⟩ := a
    unfold Rp
    exact ⟨l, _, _, rfl, so _ _ upd_same, hl, r.mono sb⟩
  | lst =>
    unfold Ow at a
    obtain ⟨l, vs, O1, rfl, oa, nl, rfl⟩ := a
    obtain ⟨r, rfl⟩ := oa.dats
    unfold Rp
    exact ⟨l, vs, rfl, so _ _ upd_same, r.mono sb⟩
theorem RdA.rp {K : PySem.W.Frag} {B H : Hp} {ts : List Own} {ds : List Dt} (r : RdA ts ds) : ∀ {O : Hp} {vs : List V}, OwA K B ts O vs → Same B H → Same O H → RpA K H ds vs := by
  induction r with
  | nil =>
    intro O vs oa _ _
    unfold OwA at oa
    obtain ⟨rfl, _⟩ := oa
    exact rpa_nil
  | cons h _ ih =>
    intro O vs oa sb so
    unfold OwA at oa
    obtain ⟨v, r, O1, O2, rfl, a, oa, dj, rfl⟩ := oa
    exact rpa_cons (h.rp a sb (same_jnl.trans so)) (ih oa sb ((same_jnr dj).trans so))
section
variable {F : Fx} {Γ Γ' Γ1 Γe Γx : List Ent} {T : List (V × Own)} {σ : L2.St} {H H' : Hp} {v : V} {Er : L2.St → Exn → Hp → Prop} {ρ α β γ S : Type} {W : R ρ → Prop} {D : Ends} {ta tb tc te ti : TE} {tr : TA} {d e : Dt} {ds : List Dt} {n j : Nat} {C : Addr} {fs : List Str} {f m' : Str} {xs : List Own}
end
end Sm
namespace Sm
open PySem PySem.Spec PyProof.Rows L2 PySem.W
theorem owa_snoc {K : PySem.W.Frag} {B : Hp} {t : Own} {Ot : Hp} {y : V} (a : Ow K B t Ot y) : ∀ {xs : List Own} {O : Hp} {vs : List V}, OwA K B xs O vs → Dj O Ot → OwA K B (xs ++ [t]) (jn O Ot) (vs ++ [y])
  | [], O, vs, oa, d => by
    unfold OwA at oa
    obtain ⟨rfl, rfl⟩ := oa
    rw [emp_jn]
    have z := owa_cons a owa_nil dj_emp
    rw [jn_emp] at z
    exact z
  | x :: xs, O, vs, oa, d => by
    unfold OwA at oa
    obtain ⟨v, r, O1, O2, rfl, b, oa, dj, rfl⟩ := oa
    have d1 : Dj O1 Ot := Dj.l d
    have d2 : Dj O2 Ot := fun b => by
      rcases d b with z | z
      · exact .inl (jn_none_iff.mp z).2
      · exact .inr z
    have z := owa_cons b (owa_snoc a oa d2) (Dj.jnr dj d1)
    rw [← jn_assoc] at z
    exact z
section
variable {F : Fx} {Γ Γ' Γ1 Γe Γx : List Ent} {T : List (V × Own)} {σ : L2.St} {H H' : Hp} {v : V} {Er : L2.St → Exn → Hp → Prop} {ρ α β γ S : Type} {W : R ρ → Prop} {D : Ends} {ta tb tc te ti tk : TE} {tt : TT} {tr : TA} {d e : Dt} {ds : List Dt} {n j : Nat} {C : Addr} {fs : List Str} {f m' : Str} {xs : List Own}
section
variable [DecidableEq α]
end
end
end Sm
namespace Sm
open PySem PySem.Spec PyProof.Rows L2 PySem.W
structure Adr where
  at_ : L2.St → Hp → V → Prop
  fn : ∀ {σ : L2.St} {H : Hp} {u u' : V}, at_ σ H u → at_ σ H u' → u = u'
  mono : ∀ {σ : L2.St} {H H' : Hp} {u : V}, Same H H' → at_ σ H u → at_ σ H' u
def Adr.var (n : Nat) : Adr := ⟨fun σ _ u => σ[n]? = some (some u), fun h k => by rw [h] at k; cases k; rfl, fun _ h => h⟩
def Adr.fld (A : Adr) (f : Str) : Adr := ⟨fun σ H u => ∃ p C dx fs, A.at_ σ H (.ref p) ∧ H p = some (.ins C dx fs) ∧ fs.lookup f = some u,
  fun ⟨p, C, dx, fs, a, b, c⟩ ⟨p', C', dx', fs', a', b', c'⟩ => by
    have e := A.fn a a'
    cases e
    rw [b] at b'
    cases b'
    rw [c] at c'
    cases c'
    rfl,
  fun s ⟨p, C, dx, fs, a, b, c⟩ => ⟨p, C, dx, fs, A.mono s a, s _ _ b, c⟩⟩
def Adr.ix (A : Adr) (i : Int) : Adr := ⟨fun σ H u => ∃ p vs, A.at_ σ H (.ref p) ∧ H p = some (.lst vs) ∧ atI vs i = some u,
  fun ⟨p, vs, a, b, c⟩ ⟨p', vs', a', b', c'⟩ => by
    have e := A.fn a a'
    cases e
    rw [b] at b'
    cases b'
    rw [c] at c'
    cases c'
    rfl,
  fun s ⟨p, vs, a, b, c⟩ => ⟨p, vs, A.mono s a, s _ _ b, c⟩⟩
def Loc (K : PySem.W.Frag) (Γ : List Ent) (A : Adr) (t : Own) (put : Own → List Ent) : Prop :=
  ∀ (T : List (V × Own)) (B O : Hp) (σ : L2.St), Slots K B (T.map (fun p => some p.2) ++ Γ) O (T.map (fun p => some p.1) ++ σ) →
    ∃ u O1 Or, A.at_ σ Or u ∧ Ow K B t O1 u ∧ Dj O1 Or ∧ O = jn O1 Or ∧
      ∀ B' t' O1', Same B B' → Ow K B' t' O1' u → Dj O1' Or → Slots K B' (T.map (fun p => some p.2) ++ put t') (jn O1' Or) (T.map (fun p => some p.1) ++ σ)
section
variable {K : PySem.W.Frag} {Γ Γ' : List Ent} {A : Adr} {t : Own} {put : Own → List Ent} {n j : Nat} {C : Addr} {fs : List Str} {f : Str} {xs : List Own} {i : Int} {B B' : Hp}
theorem loc_var (he : Γ[n]? = some (some t)) : Loc K Γ (.var n) t fun t' => Γ.set n (some t') := fun T B O σ sl => by
  have e' : (T.map (fun p => some p.2) ++ Γ)[T.length + n]? = some (some t) := by
    rw [List.getElem?_append_right (by simp)]
    simpa using he
  obtain ⟨v, O1, O2, e1, a, dj, rfl, k1, _⟩ := sl.at e'
  refine ⟨v, O1, O2, ?_, a, dj, rfl, fun B' t' O1' sm a' d' => ?_⟩
  · rw [List.getElem?_append_right (by simp)] at e1
    show σ[n]? = some (some v)
    simpa using e1
  · have z := k1 B' t' O1' v sm a' d'
    rw [set_same e1, List.set_append_right _ _ (by simp)] at z
    simpa using z
theorem loc_fld (h : Loc K Γ A (.ins C fs xs) put) (hj : xs[j]? = some t) (hl : ∀ vs : List V, vs.length = fs.length → (fs.zip vs).lookup f = vs[j]?) : Loc K Γ (A.fld f) t fun t' => put (.ins C fs (xs.set j t')) := fun T B O σ sl => by
  obtain ⟨v, O1, Or, av, a, dj, rfl, k⟩ := h T B O σ sl
  obtain ⟨p, dx, vs, u, P1, Pr, rfl, hp, hvl, hfl, hu, a1, d1, rfl, k1⟩ := a.insAt hj
  have dr : Dj P1 Or := Dj.l dj
  have drr : Dj Pr Or := fun b => by
    rcases dj b with x | x
    · exact .inl (jn_none_iff.mp x).2
    · exact .inr x
  refine ⟨u, P1, jn Pr Or, ⟨p, C, dx, fs.zip vs, A.mono (same_jnr drr) av, jn_some hp, by rw [hl vs (by rw [hvl, hfl]), hu]⟩, a1, Dj.jnr d1 dr, jn_assoc, fun B' t' O1' s a' d' => ?_⟩
  have z := k B' _ _ s (k1 B' t' O1' s a' (Dj.rl d')) (Dj.jnl (Dj.rr d') drr)
  rw [jn_assoc] at z
  exact z
theorem Ow.lstAt2 {m : Nat} {c : Own} {O : Hp} {v : V} (h : Ow K B (.lst xs) O v) (e : xs[m]? = some c) : ∃ p vs vc O1 Or, v = .ref p ∧ Or p = some (.lst vs) ∧ vs.length = xs.length ∧ vs[m]? = some vc ∧ Ow K B c O1 vc ∧ Dj O1 Or ∧ O = jn O1 Or ∧
    ∀ B' c' O1', Same B B' → Ow K B' c' O1' vc → Dj O1' Or → Ow K B' (.lst (xs.set m c')) (jn O1' Or) (.ref p) := by
  unfold Ow at h
  obtain ⟨p, vs, Oc, rfl, oa, np, rfl⟩ := h
  obtain ⟨vc, O1, O2, e1, a, dj, rfl, k⟩ := oa.at e
  have p1 := (jn_none_iff.mp np).1
  have p2 := (jn_none_iff.mp np).2
  refine ⟨p, vs, vc, O1, upd O2 p (.lst vs), rfl, upd_same, oa.length, e1, a, (Dj.upd dj.symm p1).symm, by rw [jn_upd p1], fun B' c' O1' s a' d' => ?_⟩
  obtain ⟨m1, d2⟩ := dj_upd d' p2
  have z := k B' c' O1' vc s a' d2
  rw [set_same e1] at z
  unfold Ow
  exact ⟨p, vs, jn O1' O2, rfl, z, jn_none_iff.mpr ⟨m1, p2⟩, by rw [jn_upd m1]⟩
theorem loc_ix (h : Loc K Γ A (.lst xs) put) (hb : inB xs i) (hx : xs[ixI xs i]? = some t) : Loc K Γ (A.ix i) t fun t' => put (.lst (xs.set (ixI xs i) t')) := fun T B O σ sl => by
  obtain ⟨v, O1, Or, av, a, dj, rfl, k⟩ := h T B O σ sl
  obtain ⟨p, vs, u, P1, Pr, rfl, hp, hvl, hu, a1, d1, rfl, k1⟩ := a.lstAt2 hx
  have dr : Dj P1 Or := Dj.l dj
  have drr : Dj Pr Or := fun b => by
    rcases dj b with x | x
    · exact .inl (jn_none_iff.mp x).2
    · exact .inr x
  have hb' : inB vs i := by unfold inB at hb ⊢; rw [hvl]; exact hb
  have ix : ixI vs i = ixI xs i := by unfold ixI; rw [hvl]
  refine ⟨u, P1, jn Pr Or, ⟨p, vs, A.mono (same_jnr drr) av, jn_some hp, by rw [atI_of hb', ix, hu]⟩, a1, Dj.jnr d1 dr, jn_assoc, fun B' t' O1' s a' d' => ?_⟩
  have z := k B' _ _ s (k1 B' t' O1' s a' (Dj.rl d')) (Dj.jnl (Dj.rr d') drr)
  rw [jn_assoc] at z
  exact z
end
structure Lv (F : Fx) (te : TE) (Γ : List Ent) (A : Adr) (t : Own) (put : Own → List Ent) : Prop where
  loc : Loc F.K Γ A t put
  ev : ∀ T σ H, Stt F Γ T σ H → ∀ Q : VK, (∀ u H', A.at_ σ H' u → Same H H' → Stt F Γ T σ H' → Q u H') → te σ H Q
section
variable {F : Fx} {Γ Γ' Γ1 Γe Γx : List Ent} {T : List (V × Own)} {σ : L2.St} {H H' : Hp} {v : V} {Er : L2.St → Exn → Hp → Prop} {ρ α β γ S : Type} {W : R ρ → Prop} {D : Ends} {ta tb tc te ti tk : TE} {tt : TT} {tr : TA} {d e : Dt} {ds : List Dt} {n j : Nat} {C : Addr} {fs : List Str} {f m' : Str} {xs : List Own} {A : Adr} {t : Own} {put : Own → List Ent} {i : Int}
theorem Loc.stt (h : Loc F.K Γ A t put) (s : Stt F Γ T σ H) : ∃ B u O1 Or, A.at_ σ H u ∧ A.at_ σ Or u ∧ Ow F.K B t O1 u ∧ Dj O1 Or ∧ Post F.B F.O F.H B (jn O1 Or) H ∧ (∀ p ∈ F.ins, σ[p.1]? = some (some p.2)) ∧
    Slots F.K B (T.map (fun p => some p.2) ++ Γ) (jn O1 Or) (T.map (fun p => some p.1) ++ σ) ∧
    ∀ B' t' O1', Same B B' → Ow F.K B' t' O1' u → Dj O1' Or → Slots F.K B' (T.map (fun p => some p.2) ++ put t') (jn O1' Or) (T.map (fun p => some p.1) ++ σ) := by
  obtain ⟨B, O, sl, P, ii⟩ := s
  obtain ⟨u, O1, Or, a, ow, dj, rfl, k⟩ := h T B O σ sl
  exact ⟨B, u, O1, Or, A.mono ((same_jnr dj).trans P.oh) a, a, ow, dj, P, ii, sl, k⟩
theorem lv_var (he : Γ[n]? = some (some t)) : Lv F (tVar n) Γ (.var n) t fun t' => Γ.set n (some t') := ⟨loc_var he, fun T σ H s Q q => by
  obtain ⟨B, u, O1, Or, a, _⟩ := (loc_var (K := F.K) he).stt s
  exact ⟨u, a, q u H a (Same.refl _) s⟩⟩
theorem lv_fld (h : Lv F te Γ A (.ins C fs xs) put) (hj : xs[j]? = some t) (c : Cls F.K C) (na : NoAttr F.K C f) (hl : ∀ vs : List V, vs.length = fs.length → (fs.zip vs).lookup f = vs[j]?) : Lv F (tFld F.K te f) Γ (A.fld f) t fun t' => put (.ins C fs (xs.set j t')) := by
  have lc := loc_fld h.loc hj hl
  refine ⟨lc, fun T σ H s Q q => h.ev T σ H s _ fun u H1 a e1 s1 => ?_⟩
  obtain ⟨B, w, O1, Or, a2, _⟩ := lc.stt s1
  have a2' := a2
  obtain ⟨p, C', dx, fs', b1, b2, b3⟩ := a2
  have eu := A.fn a b1
  subst eu
  -- the class
  obtain ⟨B2, u2, P1, Pr, c1, c1', ow, dj, P, ii, sl, k⟩ := h.loc.stt s1
  have eu := A.fn a c1
  subst eu
  unfold Ow at ow
  obtain ⟨p2, dx2, vs, Oc, ep, oa, np, nx, ne, hfl, rfl⟩ := ow
  cases ep
  have hH : H1 p = some (.ins C dx2 (fs.zip vs)) := P.oh p _ (jn_some upd_same)
  rw [b2] at hH
  injection hH with hH
  injection hH with h1 h2 h3
  subst h1 h2 h3
  exact ⟨p, _, _, _, w, rfl, b2, c, na, b3, q w H1 a2' e1 s1⟩
theorem lv_ix (h : Lv F te Γ A (.lst xs) put) (h2 : Ev F ti Γ (.dat (.int i))) (hb : inB xs i) (hx : xs[ixI xs i]? = some t) : Lv F (tOp (rIxL F.K) te ti) Γ (A.ix i) t fun t' => put (.lst (xs.set (ixI xs i) t')) := by
  have lc := loc_ix h.loc hb hx
  refine ⟨lc, fun T σ H s Q q => h.ev T σ H s _ fun u H1 a e1 s1 => h2 T σ H1 s1 _ fun y H2 s2 e2 => ?_⟩
  obtain ⟨B0, _, ry⟩ := s2.topd
  obtain ⟨B, w, O1, Or, a2, _⟩ := lc.stt s2.pop
  have a2' := a2
  obtain ⟨p, vs, b1, b2, b3⟩ := a2
  have eu := A.fn (A.mono e2 a) b1
  subst eu
  exact ⟨p, vs, i, w, rfl, rp_int ry, SqL.of b2, b3, q w H2 a2' (e1.trans e2) s2.pop⟩
theorem ev_lv (h : Lv F te Γ A (.dat d) put) : Ev F te Γ (.dat d) := fun T σ H s Q q => h.ev T σ H s _ fun u H1 a e1 s1 => q u H1 (by
  obtain ⟨B, u', O1, Or, a', _, ow, dj, P, ii, sl, k⟩ := h.loc.stt s1
  cases A.fn a a'
  obtain ⟨r, rfl⟩ := ow.rp
  have z := slots_own (ow_dat r) sl emp_dj
  rw [emp_jn] at z
  exact ⟨B, _, z, P, ii⟩) e1
end
def RdO (t : Own) (d : Dt) : Prop := ∀ (K : PySem.W.Frag) (B H O : Hp) (v : V), Ow K B t O v → Same B H → Same O H → Rp K H d v
def RdOA (ts : List Own) (ds : List Dt) : Prop := ∀ (K : PySem.W.Frag) (B H O : Hp) (vs : List V), OwA K B ts O vs → Same B H → Same O H → RpA K H ds vs
theorem rdo_dat {d : Dt} : RdO (.dat d) d := fun K B H O v a sb so => a.rp.1.mono sb
theorem rdoa_nil : RdOA [] [] := fun K B H O vs oa sb so => by
  unfold OwA at oa
  obtain ⟨rfl, _⟩ := oa
  exact rpa_nil
theorem rdoa_cons {t : Own} {d : Dt} {ts : List Own} {ds : List Dt} (h : RdO t d) (k : RdOA ts ds) : RdOA (t :: ts) (d :: ds) := fun K B H O vs oa sb so => by
  unfold OwA at oa
  obtain ⟨v, r, O1, O2, rfl, a, oa, dj, rfl⟩ := oa
  exact rpa_cons (h K B H O1 v a sb (same_jnl.trans so)) (k K B H O2 r oa sb ((same_jnr dj).trans so))
theorem rdoa_map {α : Type} {f : α → Own} {g : α → Dt} (h : ∀ a, RdO (f a) (g a)) : ∀ xs : List α, RdOA (xs.map f) (xs.map g)
  | [] => rdoa_nil
  | x :: xs => rdoa_cons (h x) (rdoa_map h xs)
theorem rdoa_dats (ds : List Dt) : RdOA (ds.map Own.dat) ds := by
  have := rdoa_map (f := Own.dat) (g := fun d => d) (fun _ => rdo_dat) ds
  rw [List.map_id'] at this
  exact this
theorem same_of_upd {O H : Hp} {p : Addr} {o : HO} (h : Same (upd O p o) H) (n : O p = none) : Same O H := fun a u e => h a u (by rw [upd_ne (fun z => by rw [z, n] at e; cases e)]; exact e)
theorem rdo_lst {ts : List Own} {ds : List Dt} (h : RdOA ts ds) : RdO (.lst ts) (.lst ds) := fun K B H O v a sb so => by
  unfold Ow at a
  obtain ⟨l, vs, O1, rfl, oa, nl, rfl⟩ := a
  unfold Rp
  exact ⟨l, vs, rfl, so _ _ upd_same, h K B H O1 vs oa sb (same_of_upd so nl)⟩
theorem rdo_tup {ts : List Own} {ds : List Dt} (h : RdOA ts ds) : RdO (.tup ts) (.tup ds) := fun K B H O v a sb so => by
  unfold Ow at a
  obtain ⟨l, vs, rfl, hs, oa⟩ := a
  unfold Rp
  exact ⟨l, vs, rfl, sqt_mono sb hs, h K B H O vs oa sb so⟩
section
variable {F : Fx} {Γ Γ' Γ1 Γe Γx : List Ent} {T : List (V × Own)} {σ : L2.St} {H H' : Hp} {v : V} {Er : L2.St → Exn → Hp → Prop} {ρ α β γ S : Type} {W : R ρ → Prop} {D : Ends} {ta tb tc te ti tk : TE} {tt : TT} {tr : TA} {d e : Dt} {ds : List Dt} {n j : Nat} {C : Addr} {fs : List Str} {f m' : Str} {xs : List Own} {A : Adr} {t : Own} {put : Own → List Ent} {i : Int}
theorem eq_lv (r : RdO t d) (h : Lv F te Γ A t put) : EvQ F te Γ d := fun T σ H s Q q => h.ev T σ H s _ fun u H1 a e1 s1 => by
  obtain ⟨B, u', O1, Or, a', _, ow, dj, P, ii, sl, k⟩ := h.loc.stt s1
  cases A.fn a a'
  exact q u H1 (r F.K B H1 O1 u ow P.bh (same_jnl.trans P.oh)) s1 e1
def Imm (enc : α → Dt) : Prop := ∀ (K : PySem.W.Frag) (B0 O0 H0 B O H B' : Hp) (a : α) (v : V), Post B0 O0 H0 B O H → Same B' H → Rp K B' (enc a) v → ∃ B2, Post B0 O0 H0 B2 O H ∧ Same B B2 ∧ Rp K B2 (enc a) v
theorem imm_sc {enc : α → Dt} (sc : ∀ (K : PySem.W.Frag) (B B' : Hp) a v, Rp K B (enc a) v → Rp K B' (enc a) v) : Imm enc := fun K B0 O0 H0 B O H B' a v P _ r => ⟨B, P, Same.refl _, sc _ _ _ _ _ r⟩
theorem imm_S : Imm eS := imm_sc sc_S
theorem Imm.push {enc : α → Dt} (im : Imm enc) {B' : Hp} {a : α} (s : Stt F Γ T σ H) (e : Same B' H) (r : Rp F.K B' (enc a) v) : Stt F Γ ((v, .dat (enc a)) :: T) σ H := by
  obtain ⟨B, O, sl, P, ii⟩ := s
  obtain ⟨B2, P2, e2, r2⟩ := im F.K _ _ _ _ _ _ _ a v P e r
  have z := slots_own (ow_dat r2) (sl.mono e2) emp_dj
  rw [emp_jn] at z
  exact ⟨B2, O, z, P2, ii⟩
end
end Sm
namespace Sm
open PySem PySem.Spec PyProof.Rows L2 PySem.W
inductive Ah where
  | d (x : Dt)
  | p (A : Adr)
  /-- handed over for good -/
  | g (A : Adr)
def RH (K : PySem.W.Frag) (B : Hp) (σ : L2.St) (H : Hp) : List Ah → List V → Prop
  | [], vs => vs = []
  | .d x :: as, vs => ∃ v r, vs = v :: r ∧ Rp K B x v ∧ RH K B σ H as r
  | .p A :: as, vs => ∃ v r, vs = v :: r ∧ A.at_ σ H v ∧ RH K B σ H as r
  | .g A :: as, vs => ∃ v r, vs = v :: r ∧ A.at_ σ H v ∧ RH K B σ H as r
theorem RH.mono {K : PySem.W.Frag} {B B' : Hp} {σ : L2.St} {H H' : Hp} (e : Same B B') (eh : Same H H') : ∀ {as : List Ah} {vs : List V}, RH K B σ H as vs → RH K B' σ H' as vs
  | [], _, h => h
  | .d x :: as, _, ⟨v, r, e1, h1, h2⟩ => ⟨v, r, e1, h1.mono e, RH.mono e eh h2⟩
  | .p A :: as, _, ⟨v, r, e1, h1, h2⟩ => ⟨v, r, e1, A.mono eh h1, RH.mono e eh h2⟩
  | .g A :: as, _, ⟨v, r, e1, h1, h2⟩ => ⟨v, r, e1, A.mono eh h1, RH.mono e eh h2⟩
theorem RH.length {K : PySem.W.Frag} {B : Hp} {σ : L2.St} {H : Hp} : ∀ {as : List Ah} {vs : List V}, RH K B σ H as vs → vs.length = as.length
  | [], _, h => by rw [show _ = [] from h]; rfl
  | .d x :: as, _, ⟨v, r, e1, h1, h2⟩ => by rw [e1, List.length_cons, h2.length, List.length_cons]
  | .p A :: as, _, ⟨v, r, e1, h1, h2⟩ => by rw [e1, List.length_cons, h2.length, List.length_cons]
  | .g A :: as, _, ⟨v, r, e1, h1, h2⟩ => by rw [e1, List.length_cons, h2.length, List.length_cons]
def agH : List Ah → List Adr
  | [] => []
  | .d _ :: as => agH as
  | .p A :: as => A :: agH as
  | .g _ :: as => agH as
def avH : List Ah → List V → List V
  | .d _ :: as, _ :: vs => avH as vs
  | .p _ :: as, v :: vs => v :: avH as vs
  | .g _ :: as, _ :: vs => avH as vs
  | _, _ => []
def RAt (σ : L2.St) (H : Hp) : List Adr → List V → Prop
  | [], vs => vs = []
  | A :: As, vs => ∃ v r, vs = v :: r ∧ A.at_ σ H v ∧ RAt σ H As r
theorem RAt.mono {σ : L2.St} {H H' : Hp} (e : Same H H') : ∀ {As : List Adr} {vs : List V}, RAt σ H As vs → RAt σ H' As vs
  | [], _, h => h
  | A :: As, _, ⟨v, r, e1, h1, h2⟩ => ⟨v, r, e1, A.mono e h1, RAt.mono e h2⟩
theorem RH.rat {K : PySem.W.Frag} {B : Hp} {σ : L2.St} {H : Hp} : ∀ {as : List Ah} {vs : List V}, RH K B σ H as vs → RAt σ H (agH as) (avH as vs)
  | [], _, h => by rw [show _ = [] from h]; rfl
  | .d x :: as, _, ⟨v, r, e1, h1, h2⟩ => by rw [e1]; exact h2.rat
  | .p A :: as, _, ⟨v, r, e1, h1, h2⟩ => by rw [e1]; exact ⟨v, _, rfl, h1, h2.rat⟩
  | .g A :: as, _, ⟨v, r, e1, h1, h2⟩ => by rw [e1]; exact h2.rat
inductive TkH (K : PySem.W.Frag) : List Ent → List Ah → List Own → List Ent → Prop
  | nil {Γ : List Ent} : TkH K Γ [] [] Γ
  | d {Γ Γ' : List Ent} {as : List Ah} {ts : List Own} {x : Dt} : TkH K Γ as ts Γ' → TkH K Γ (.d x :: as) (.dat x :: ts) Γ'
  | p {Γ Γ' : List Ent} {as : List Ah} {ts : List Own} {A : Adr} {t : Own} {put : Own → List Ent} : Loc K Γ A t put → TkH K (put .any) as ts Γ' → TkH K Γ (.p A :: as) (t :: ts) Γ'
  | g {Γ Γ' : List Ent} {as : List Ah} {ts : List Own} {A : Adr} {t : Own} {put : Own → List Ent} : Loc K Γ A t put → TkH K (put .any) as ts Γ' → TkH K Γ (.g A :: as) (t :: ts) Γ'
inductive GvH (K : PySem.W.Frag) : List Ent → List Adr → List Own → List Ent → Prop
  | nil {Γ : List Ent} : GvH K Γ [] [] Γ
  | cons {Γ Γ' : List Ent} {As : List Adr} {ts : List Own} {A : Adr} {t : Own} {put : Own → List Ent} : Loc K Γ A .any put → GvH K (put t) As ts Γ' → GvH K Γ (A :: As) (t :: ts) Γ'
def AnL (K : PySem.W.Frag) (Γ : List Ent) : List Adr → Prop
  | [] => True
  | A :: As => (∃ put, Loc K Γ A .any put) ∧ AnL K Γ As
theorem ow_any {K : PySem.W.Frag} {B : Hp} {v : V} : Ow K B .any emp v := by unfold Ow; rfl
theorem take_h {K : PySem.W.Frag} {B : Hp} {σ : L2.St} {H : Hp} {T : List (V × Own)} {Γ Γ' : List Ent} {as : List Ah} {ts : List Own} (tk : TkH K Γ as ts Γ') : ∀ {vs : List V} {O : Hp}, RH K B σ H as vs → Same O H → Slots K B (T.map (fun p => some p.2) ++ Γ) O (T.map (fun p => some p.1) ++ σ) →
    ∃ Oa Or, OwA K B ts Oa vs ∧ Slots K B (T.map (fun p => some p.2) ++ Γ') Or (T.map (fun p => some p.1) ++ σ) ∧ Dj Oa Or ∧ O = jn Oa Or := by
  induction tk with
  | nil =>
    intro vs O ra so sl
    rw [show vs = [] from ra]
    exact ⟨emp, O, owa_nil, sl, emp_dj, emp_jn.symm⟩
  | d _ ih =>
    intro vs O ra so sl
    obtain ⟨v, r, rfl, r1, r2⟩ := ra
    obtain ⟨Oa, Or, oa, sl', dj, rfl⟩ := ih r2 so sl
    refine ⟨Oa, Or, ?_, sl', dj, rfl⟩
    have z := owa_cons (ow_dat r1) oa emp_dj
    rw [emp_jn] at z
    exact z
  | @p Γ Γ' as ts A t put lc _ ih =>
    intro vs O ra so sl
    obtain ⟨v, r, rfl, r1, r2⟩ := ra
    obtain ⟨u, O1, O2, au, a, dj, rfl, k⟩ := lc T B O σ sl
    cases A.fn (A.mono ((same_jnr dj).trans so) au) r1
    have z := k B .any emp (Same.refl _) ow_any emp_dj
    rw [emp_jn] at z
    obtain ⟨Oa, Or, oa, sl', dj', rfl⟩ := ih r2 ((same_jnr dj).trans so) z
    exact ⟨jn O1 Oa, Or, owa_cons a oa (Dj.rl dj), sl', Dj.jnl (Dj.rr dj) dj', jn_assoc.symm⟩
  | @g Γ Γ' as ts A t put lc _ ih =>
    intro vs O ra so sl
    obtain ⟨v, r, rfl, r1, r2⟩ := ra
    obtain ⟨u, O1, O2, au, a, dj, rfl, k⟩ := lc T B O σ sl
    cases A.fn (A.mono ((same_jnr dj).trans so) au) r1
    have z := k B .any emp (Same.refl _) ow_any emp_dj
    rw [emp_jn] at z
    obtain ⟨Oa, Or, oa, sl', dj', rfl⟩ := ih r2 ((same_jnr dj).trans so) z
    exact ⟨jn O1 Oa, Or, owa_cons a oa (Dj.rl dj), sl', Dj.jnl (Dj.rr dj) dj', jn_assoc.symm⟩
theorem rat_rest {K : PySem.W.Frag} {B : Hp} {σ : L2.St} {H Or : Hp} {T : List (V × Own)} {Γ : List Ent} (sl : Slots K B (T.map (fun p => some p.2) ++ Γ) Or (T.map (fun p => some p.1) ++ σ)) (so : Same Or H) : ∀ {As : List Adr} {vs : List V}, AnL K Γ As → RAt σ H As vs → RAt σ Or As vs
  | [], _, _, h => h
  | A :: As, _, ⟨⟨put, lc⟩, an⟩, ⟨v, r, e1, h1, h2⟩ => by
    obtain ⟨u, O1, O2, au, a, dj, eO, k⟩ := lc T B Or σ sl
    have e : Same O2 Or := by rw [eO]; exact same_jnr dj
    cases A.fn (A.mono (e.trans so) au) h1
    exact ⟨_, r, e1, A.mono e au, rat_rest sl so an h2⟩
theorem give_h {K : PySem.W.Frag} {B : Hp} {σ : L2.St} {T : List (V × Own)} {Γ Γ' : List Ent} {As : List Adr} {ts : List Own} (gv : GvH K Γ As ts Γ') : ∀ {vs : List V} {Oa Or : Hp}, OwA K B ts Oa vs → RAt σ Or As vs → Slots K B (T.map (fun p => some p.2) ++ Γ) Or (T.map (fun p => some p.1) ++ σ) → Dj Oa Or →
    Slots K B (T.map (fun p => some p.2) ++ Γ') (jn Oa Or) (T.map (fun p => some p.1) ++ σ) := by
  induction gv with
  | nil =>
    intro vs Oa Or oa rs sl dj
    unfold OwA at oa
    obtain ⟨_, rfl⟩ := oa
    rw [emp_jn]
    exact sl
  | @cons Γ Γ' As ts A t put lc _ ih =>
    intro vs Oa Or oa rs sl dj
    unfold OwA at oa
    obtain ⟨v, r, P1, P2, rfl, a, oa, d12, rfl⟩ := oa
    obtain ⟨v', r', e, f, rs⟩ := rs
    cases e
    have d1 : Dj P1 Or := Dj.l dj
    have d2 : Dj P2 Or := fun b => by
      rcases dj b with x | x
      · exact .inl (jn_none_iff.mp x).2
      · exact .inr x
    obtain ⟨u, Q1, Q2, au, aq, dq, rfl, k⟩ := lc T B Or σ sl
    unfold Ow at aq
    subst aq
    rw [emp_jn] at f d1 d2 ⊢
    cases A.fn au f
    have z := k B t P1 (Same.refl _) a d1
    have z2 := ih oa (rs.mono (by rw [emp_jn]; exact same_jnr d1)) z (Dj.jnr d12.symm d2)
    rw [jn_assoc, jn_swap d12]
    exact z2
section
variable {F : Fx} {Γ Γ' Γ1 Γe Γx : List Ent} {T : List (V × Own)} {σ : L2.St} {H H' : Hp} {v : V} {Er : L2.St → Exn → Hp → Prop} {ρ α β γ S : Type} {W : R ρ → Prop} {D : Ends} {ta tb tc te ti tk : TE} {tt : TT} {tr : TA} {d e : Dt} {ds : List Dt} {n j : Nat} {C : Addr} {fs : List Str} {f m' : Str} {xs : List Own} {A : Adr} {t : Own} {put : Own → List Ent} {i : Int}
def SttH (F : Fx) (Γ : List Ent) (T : List (V × Own)) (vs : List V) (as : List Ah) (σ : L2.St) (H : Hp) : Prop :=
  ∃ B O, RH F.K B σ H as vs ∧ Slots F.K B (T.map (fun p => some p.2) ++ Γ) O (T.map (fun p => some p.1) ++ σ) ∧ Post F.B F.O F.H B O H ∧ ∀ p ∈ F.ins, σ[p.1]? = some (some p.2)
def MH (F : Fx) (Γe : List Ent) (Er : L2.St → Exn → Hp → Prop) (ta : TA) (Γ : List Ent) (m : R α) (as : α → List Ah) : Prop :=
  ∀ (ρ : Type) (W : R ρ → Prop) (k : α → R ρ) T σ H, WOk F Γe Er W → W (m.bind k) → Stt F Γ T σ H → ∀ Q : List V → Hp → Prop, (∀ a vs H', W (k a) → SttH F Γ T vs (as a) σ H' → Same H H' → Q vs H') → ta σ H Q
theorem mh_nil : MH F Γe Er tNil Γ (.ok ()) fun _ => [] := fun _ W k T σ H ok w s Q q => by
  obtain ⟨B, O, sl, p, ii⟩ := s
  exact q () [] H w ⟨B, O, rfl, sl, p, ii⟩ (Same.refl _)
theorem SttH.dcons {vs : List V} {as : List Ah} (h : SttH F Γ ((v, .dat d) :: T) vs as σ H) : SttH F Γ T (v :: vs) (.d d :: as) σ H := by
  obtain ⟨B, O, ra, sl, p, ii⟩ := h
  rw [List.map_cons, List.map_cons] at sl
  unfold Slots at sl
  obtain ⟨_, _, O1, O2, e, a, b, c, rfl⟩ := sl
  cases e
  obtain ⟨r, rfl⟩ := a.rp
  rw [emp_jn] at p
  exact ⟨B, O2, ⟨v, vs, rfl, r, ra⟩, b, p, ii⟩
theorem mh_P {as : α → List Ah} {m : R α} (h1 : Ev F te Γ (.dat d)) (h2 : MH F Γe Er tr Γ m as) : MH F Γe Er (tCons te tr) Γ m fun a => .d d :: as a := fun _ W k T σ H ok w s Q q =>
  h1 T σ H s _ fun v H1 s1 e1 => h2 _ W k _ σ H1 ok w s1 _ fun a vs H2 w2 s2 e2 => q a (v :: vs) H2 w2 s2.dcons (e1.trans e2)
theorem mh_M {as : β → List Ah} {e1 : α → Dt} {m1 : R α} {m2 : R β} (h1 : MV F Γe Er te Γ m1 fun a => .dat (e1 a)) (h2 : MH F Γe Er tr Γ m2 as) : MH F Γe Er (tCons te tr) Γ (m1.bind fun a => m2.bind fun b => .ok (a, b)) fun p => .d (e1 p.1) :: as p.2 := fun _ W k T σ H ok w s Q q => by
  rw [R.bind_assoc] at w
  refine h1 _ W _ T σ H ok w s _ fun a v H1 w1 s1 e1 => ?_
  rw [R.bind_assoc] at w1
  exact h2 _ W _ _ σ H1 ok w1 s1 _ fun b vs H2 w2 s2 e2 => q (a, b) (v :: vs) H2 w2 s2.dcons (e1.trans e2)
theorem mh_A {as : α → List Ah} {m : R α} (h : Lv F te Γ A t put) (h2 : MH F Γe Er tr Γ m as) : MH F Γe Er (tCons te tr) Γ m fun a => .p A :: as a := fun _ W k T σ H ok w s Q q =>
  h.ev T σ H s _ fun u H1 au e1 s1 => h2 _ W k T σ H1 ok w s1 _ fun a vs H2 w2 s2 e2 => q a (u :: vs) H2 w2 (by
    obtain ⟨B, O, ra, sl, p, ii⟩ := s2
    exact ⟨B, O, ⟨u, vs, rfl, A.mono e2 au, ra⟩, sl, p, ii⟩) (e1.trans e2)
def MX2 (F : Fx) (Γe : List Ent) (Er : L2.St → Exn → Hp → Prop) (te : TE) (Γ : List Ent) (Γ' : α → List Ent) (m : R α) (t : α → Own) : Prop :=
  ∀ (ρ : Type) (W : R ρ → Prop) (k : α → R ρ) T σ H, WOk F Γe Er W → W (m.bind k) → Stt F Γ T σ H → ∀ Q : VK, (∀ a v H', W (k a) → Stt F (Γ' a) ((v, t a) :: T) σ H' → Q v H') → te σ H Q
theorem mx_v {m : R α} {t : α → Own} (h : MV F Γe Er te Γ m t) : MX2 F Γe Er te Γ (fun _ => Γ) m t := fun _ W k T σ H ok w s Q q => h _ W k T σ H ok w s Q fun a v H' w' s' _ => q a v H' w' s'
theorem go_h {X : Type} {Ce : Exn → Addr} {nn : Nat} {insN : List Nat} {argT : X → List Own} {m : X → R α} {res : α → Own} {outs : α → List Own} {keep : X → List Own} {k : α → R ρ} {vs : List V} {as : List Ah} {ts : List Own} {Γk : List Ent} {Γ' : α → List Ent} {Q : VK} {Ex : XK} (x : X)
    (A : SttH F Γ T vs as σ H) (tk : TkH F.K Γ as ts Γ1) (hx : argT x = ts) (hn : ts.length = nn) (hsel : insN.filterMap (fun i => vs[i]?) = avH as vs) (an : AnL F.K Γ1 (agH as)) (gv : ∀ a, GvH F.K Γ1 (agH as) (outs a) (Γ' a))
    (ok : WOk F Γe Er W) (er : (GvH F.K Γ1 (agH as) (keep x) Γk ∧ Wk Γk Γe) ∨ Wk Γ1 Γe) (hE : ∀ e H', Er σ e H' → ErrAt Ce Ex e H') (hw : W ((m x).bind k))
    (q : ∀ a v H', W (k a) → Stt F (Γ' a) ((v, res a) :: T) σ H' → Q v H') : spF F.K Ce nn insN argT m res outs keep vs H Q Ex := by
  obtain ⟨B, O, ra, sl, p, ii⟩ := A
  obtain ⟨Oa, Or, oa, sl', dj, rfl⟩ := take_h tk ra p.oh sl
  subst hx
  have rat := rat_rest sl' ((same_jnr dj).trans p.oh) an ra.rat
  refine ⟨x, B, Oa, hn, oa, p.bh, same_jnl.trans p.oh, ⟨Dj.rl p.dj, p.nt.l⟩, ?_⟩
  cases e : m x with
  | ok a =>
    rw [e] at hw
    intro v B' O' H' P oa'
    unfold OwA at oa'
    obtain ⟨v', r', O1, O2, e3, a1, b1, d1, rfl⟩ := oa'
    cases e3
    obtain ⟨dj', P'⟩ := p.call dj P
    rw [hsel] at b1
    have d2 : Dj O2 Or := fun b => by
      rcases dj' b with x | x
      · exact .inl (jn_none_iff.mp x).2
      · exact .inr x
    have z := give_h (gv a) b1 rat (sl'.mono P.b0) d2
    have z2 := slots_own a1 z (Dj.jnr d1 (Dj.l dj'))
    rw [← jn_assoc] at z2
    exact q a v H' hw ⟨B', _, z2, P', ii⟩
  | err ex =>
    rw [e] at hw
    intro B' O' H' P oa'
    obtain ⟨dj', P'⟩ := p.call dj P
    rcases er with ⟨gk, wk⟩ | wk
    · rw [hsel] at oa'
      have z := give_h gk oa' rat (sl'.mono P.b0) dj'
      exact hE ex H' (ok.err ex hw σ H' ((Stt.pops (T := T) ⟨B', _, z, P', ii⟩).weak wk))
    · exact hE ex H' (ok.err ex hw σ H' ((Stt.pops (T := T) ⟨B', Or, sl'.mono P.b0, P'.dropL dj', ii⟩).weak wk))
  | bad =>
    rw [e] at hw
    exact absurd hw ok.bad
theorem mx_callL {X : Type} {Ce : Exn → Addr} {nn : Nat} {insN : List Nat} {argT : X → List Own} {m : X → R α} {res : α → Own} {outs : α → List Own} {keep : X → List Own} {as : γ → List Ah} {ts : γ → List Own} {Γ1 Γk : γ → List Ent} {Γ' : α → List Ent} {Ex : L2.St → XK} {mx : R γ} (x : γ → X)
    (ha : MH F Γe Er tr Γ mx as) (tk : ∀ b, TkH F.K Γ (as b) (ts b) (Γ1 b)) (hx : ∀ b, argT (x b) = ts b) (hn : ∀ b, (ts b).length = nn) (hsel : ∀ b (vs : List V), vs.length = (as b).length → insN.filterMap (fun i => vs[i]?) = avH (as b) vs)
    (an : ∀ b, AnL F.K (Γ1 b) (agH (as b))) (gv : ∀ b a, GvH F.K (Γ1 b) (agH (as b)) (outs a) (Γ' a)) (er : ∀ b, (GvH F.K (Γ1 b) (agH (as b)) (keep (x b)) (Γk b) ∧ Wk (Γk b) Γe) ∨ Wk (Γ1 b) Γe) (hE : ∀ σ e H', Er σ e H' → ErrAt Ce (Ex σ) e H') :
    MX2 F Γe Er (tCallS (spF F.K Ce nn insN argT m res outs keep) Ex tr) Γ Γ' (mx.bind fun b => m (x b)) res := fun _ W k T σ H ok w s Q q => by
  rw [R.bind_assoc] at w
  refine ha _ W _ T σ H ok w s _ fun b vs H1 w1 A e1 => ?_
  exact go_h (x b) A (tk b) (hx b) (hn b) (hsel b vs (by obtain ⟨B, O, ra, _⟩ := A; exact ra.length)) (an b) (gv b) ok (er b) (hE σ) w1 q
theorem s_asgX3 {jn_ : Nat} {Γ' : α → List Ent} {m : R α} {t : α → Own} {k : α → R ρ} (hst : Stt F Γ T σ H) (hw : W (m.bind k)) (ok : WOk F Γe Er W) (h : MX2 F Γe Er te Γ Γ' m t) (hj : ∀ a, jn_ < (Γ' a).length) (ni : NI F jn_)
    (q : ∀ a σ' H', W (k a) → Stt F ((Γ' a).set jn_ (some (t a))) T σ' H' → D.nx σ' H') : tAsg te (gName jn_) D σ H :=
  h _ W k T σ H ok hw hst _ fun a v H1 w s1 => q a _ H1 w (s1.assign (hj a) ni)
theorem s_retX3 {Γ' : α → List Ent} {m : R α} {t : α → Own} {k : α → R ρ} (hst : Stt F Γ T σ H) (hw : W (m.bind k)) (ok : WOk F Γe Er W) (h : MX2 F Γe Er te Γ Γ' m t)
    (q : ∀ a v H', W (k a) → Stt F (Γ' a) ((v, t a) :: T) σ H' → D.rt v H') : tRet te D σ H :=
  h _ W k T σ H ok hw hst _ fun a v H1 w s1 => q a v H1 w s1
def MTX (F : Fx) (Γe : List Ent) (Er : L2.St → Exn → Hp → Prop) (tt : TT) (Γ : List Ent) (Γ' : α → List Ent) (m : R α) (b : α → Bool) : Prop :=
  ∀ (ρ : Type) (W : R ρ → Prop) (k : α → R ρ) T σ H, WOk F Γe Er W → W (m.bind k) → Stt F Γ T σ H → ∀ Q : Bool → Hp → Prop, (∀ a H', W (k a) → Stt F (Γ' a) T σ H' → Q (b a) H') → tt σ H Q
theorem mtx_B {Γ' : α → List Ent} {m : R α} {b : α → Bool} (h : MX2 F Γe Er te Γ Γ' m fun a => .dat (.bl (b a))) : MTX F Γe Er (tB te) Γ Γ' m b := fun _ W k T σ H ok w s Q q => h _ W k T σ H ok w s _ fun a v H1 w1 s1 => by
  obtain ⟨B, _, r⟩ := s1.topd
  exact ⟨b a, rp_bl r, q a H1 w1 s1.pop⟩
theorem s_ifX3 {Γ' : α → List Ent} {m : R α} {b : α → Bool} {t1 t2 : TS} {KA KB : α → R ρ} (hst : Stt F Γ T σ H) (hw : W (m.bind fun a => if b a = true then KA a else KB a)) (ok : WOk F Γe Er W) (h : MTX F Γe Er tt Γ Γ' m b)
    (q1 : ∀ a H', W (KA a) → Stt F (Γ' a) T σ H' → t1 D σ H') (q2 : ∀ a H', W (KB a) → Stt F (Γ' a) T σ H' → t2 D σ H') : tIfS tt t1 t2 D σ H :=
  h _ W _ T σ H ok hw hst _ fun a H1 w s1 => by
    cases e : b a with
    | true => rw [e] at w; exact q1 a H1 w s1
    | false => rw [e] at w; exact q2 a H1 w s1
theorem dj_jn_r {A B C : Hp} (d : Dj (jn A B) C) : Dj B C := fun b => by
  rcases d b with x | x
  · exact .inl (jn_none_iff.mp x).2
  · exact .inr x
theorem s_fldSet {Γ' : α → List Ent} {xs : α → List Own} {put : α → Own → List Ent} {t : α → Own} {m : R α} {k : α → R ρ} {A : Adr} (hst : Stt F Γ T σ H) (hw : W (m.bind k)) (ok : WOk F Γe Er W) (h : MX2 F Γe Er te Γ Γ' m t) (hL : ∀ a, Lv F ta (Γ' a) A (.ins C fs (xs a)) (put a))
    (c : Cls F.K C) (na : NoAttr F.K C f) (hlen : fs.length < 900) (hj : ∀ a, j < (xs a).length) (hp : ∀ (vs : List V) (y : V), vs.length = fs.length → putF f y (fs.zip vs) = fs.zip (vs.set j y))
    (q : ∀ a σ' H', W (k a) → Stt F (put a (.ins C fs ((xs a).set j (t a)))) T σ' H' → D.nx σ' H') : sFld F.K ta te f D σ H := by
  refine h _ W _ T σ H ok hw hst _ fun a y H1 w s1 => ?_
  refine (hL a).ev _ σ H1 s1 _ fun u H2 au e2 s2 => ?_
  obtain ⟨B, O, sl0, P, ii⟩ := s2
  rw [List.map_cons, List.map_cons] at sl0
  unfold Slots at sl0
  obtain ⟨_, _, Ot, O2, ee, at_, sl, dt, rfl⟩ := sl0
  cases ee
  have at_ : Ow F.K B (t a) Ot y := at_
  have sl : Slots F.K B (T.map (fun p => some p.2) ++ Γ' a) O2 (T.map (fun p => some p.1) ++ σ) := sl
  obtain ⟨u', O1, Or, au', ow, dj, rfl, kk⟩ := (hL a).loc T B O2 σ sl
  cases A.fn (A.mono (((same_jnr dj).trans (same_jnr dt)).trans P.oh) au') au
  unfold Ow at ow
  obtain ⟨p, dx, vs, Oc, rfl, oa, np, nx, ne, hfl, rfl⟩ := ow
  obtain ⟨vj, P1, P2, ev, aj, dp, rfl, ks⟩ := oa.at (List.getElem?_eq_getElem (hj a))
  have hvl : vs.length = fs.length := by rw [oa.length, hfl]
  have p1 := (jn_none_iff.mp np).1
  have p2 := (jn_none_iff.mp np).2
  have x1 := (jn_none_iff.mp nx).1
  have x2 := (jn_none_iff.mp nx).2
  have dt1 : Dj Ot (upd (upd (jn P1 P2) dx (HO.own p)) p (.ins C dx (fs.zip vs))) := Dj.rl dt
  have dtr : Dj Ot Or := Dj.rr dt
  obtain ⟨tp, dt3⟩ := dj_upd dt1 (by rw [upd_ne (Ne.symm ne)]; exact np)
  obtain ⟨tx, dt4⟩ := dj_upd dt3 nx
  have t1 : Dj Ot P1 := Dj.rl dt4
  have t2 : Dj Ot P2 := Dj.rr dt4
  have orp : Or p = none := by
    rcases dj p with z | z
    · rw [upd_same] at z; cases z
    · exact z
  have orx : Or dx = none := by
    rcases dj dx with z | z
    · rw [upd_ne ne, upd_same] at z; cases z
    · exact z
  have dcr : Dj (jn P1 P2) Or := fun b => by
    by_cases z1 : b = p
    · subst z1; exact .inl np
    · by_cases z2 : b = dx
      · subst z2; exact .inl nx
      · rcases dj b with z | z
        · rw [upd_ne z1, upd_ne z2] at z; exact .inl z
        · exact .inr z
  have d1r : Dj P1 Or := Dj.l dcr
  have d2r : Dj P2 Or := dj_jn_r dcr
  have hold : jn Ot (jn (upd (upd (jn P1 P2) dx (HO.own p)) p (.ins C dx (fs.zip vs))) Or) p = some (.ins C dx (fs.zip vs)) := by
    rw [jn_none tp]
    exact jn_some upd_same
  refine ⟨p, C, dx, _, rfl, P.oh p _ hold, c, na, by rw [List.length_zip]; omega, ?_⟩
  have Pm := P.mut (a := p) (o := .ins C dx (fs.zip (vs.set j y))) hold
  have eO : upd (jn Ot (jn (upd (upd (jn P1 P2) dx (HO.own p)) p (.ins C dx (fs.zip vs))) Or)) p (.ins C dx (fs.zip (vs.set j y))) = jn P1 (jn (upd (upd (jn Ot P2) dx (HO.own p)) p (.ins C dx (fs.zip (vs.set j y)))) Or) := by
    rw [← jn_upd tp, upd_jn, upd_upd, ← jn_upd x1, ← jn_upd p1, jn_assoc, jn_swap t1, ← jn_assoc (A := Ot), jn_upd tp, jn_upd tx]
  rw [eO] at Pm
  rw [hp vs y hvl]
  have dnew : Dj (upd (upd (jn Ot P2) dx (HO.own p)) p (.ins C dx (fs.zip (vs.set j y)))) Or := Dj.upd (Dj.upd (Dj.jnl dtr d2r) orx) orp
  have d1n : Dj P1 (jn (upd (upd (jn Ot P2) dx (HO.own p)) p (.ins C dx (fs.zip (vs.set j y)))) Or) := Dj.jnr (Dj.symm (Dj.upd (Dj.upd (Dj.jnl t1 dp.symm) x1) p1)) d1r
  have b1 : Ow F.K B (.ins C fs ((xs a).set j (t a))) (upd (upd (jn Ot P2) dx (HO.own p)) p (.ins C dx (fs.zip (vs.set j y)))) (.ref p) := by
    unfold Ow
    exact ⟨p, dx, vs.set j y, jn Ot P2, rfl, ks B (t a) Ot y (Same.refl _) at_ t2, jn_none_iff.mpr ⟨tp, p2⟩, jn_none_iff.mpr ⟨tx, x2⟩, ne, by rw [List.length_set]; exact hfl, rfl⟩
  exact q a σ _ w ⟨B, _, kk B _ _ (Same.refl _) b1 dnew, Pm.dropL d1n, ii⟩
theorem s_fldNew3 {Γ' : α → List Ent} {xs : α → List Own} {put : α → Own → List Ent} {t : α → Own} {m : R α} {k : α → R ρ} {A : Adr} (hst : Stt F Γ T σ H) (hw : W (m.bind k)) (ok : WOk F Γe Er W) (h : MX2 F Γe Er te Γ Γ' m t) (hL : ∀ a, Lv F ta (Γ' a) A (.ins C fs (xs a)) (put a))
    (c : Cls F.K C) (na : NoAttr F.K C f) (hlen : fs.length < 900) (hp : ∀ (vs : List V) (y : V), vs.length = fs.length → putF f y (fs.zip vs) = (fs ++ [f]).zip (vs ++ [y]))
    (q : ∀ a σ' H', W (k a) → Stt F (put a (.ins C (fs ++ [f]) (xs a ++ [t a]))) T σ' H' → D.nx σ' H') : sFld F.K ta te f D σ H := by
  refine h _ W _ T σ H ok hw hst _ fun a y H1 w s1 => ?_
  refine (hL a).ev _ σ H1 s1 _ fun u H2 au e2 s2 => ?_
  obtain ⟨B, O, sl0, P, ii⟩ := s2
  rw [List.map_cons, List.map_cons] at sl0
  unfold Slots at sl0
  obtain ⟨_, _, Ot, O2, ee, at_, sl, dt, rfl⟩ := sl0
  cases ee
  have at_ : Ow F.K B (t a) Ot y := at_
  have sl : Slots F.K B (T.map (fun p => some p.2) ++ Γ' a) O2 (T.map (fun p => some p.1) ++ σ) := sl
  obtain ⟨u', O1, Or, au', ow, dj, rfl, kk⟩ := (hL a).loc T B O2 σ sl
  cases A.fn (A.mono (((same_jnr dj).trans (same_jnr dt)).trans P.oh) au') au
  unfold Ow at ow
  obtain ⟨p, dx, vs, Oc, rfl, oa, np, nx, ne, hfl, rfl⟩ := ow
  have hvl : vs.length = fs.length := by rw [oa.length, hfl]
  have dt1 : Dj Ot (upd (upd Oc dx (HO.own p)) p (.ins C dx (fs.zip vs))) := Dj.rl dt
  have dtr : Dj Ot Or := Dj.rr dt
  obtain ⟨tp, dt3⟩ := dj_upd dt1 (by rw [upd_ne (Ne.symm ne)]; exact np)
  obtain ⟨tx, dt4⟩ := dj_upd dt3 nx
  have orp : Or p = none := by
    rcases dj p with z | z
    · rw [upd_same] at z; cases z
    · exact z
  have orx : Or dx = none := by
    rcases dj dx with z | z
    · rw [upd_ne ne, upd_same] at z; cases z
    · exact z
  have dcr : Dj Oc Or := fun b => by
    by_cases z1 : b = p
    · subst z1; exact .inl np
    · by_cases z2 : b = dx
      · subst z2; exact .inl nx
      · rcases dj b with z | z
        · rw [upd_ne z1, upd_ne z2] at z; exact .inl z
        · exact .inr z
  have hold : jn Ot (jn (upd (upd Oc dx (HO.own p)) p (.ins C dx (fs.zip vs))) Or) p = some (.ins C dx (fs.zip vs)) := by
    rw [jn_none tp]
    exact jn_some upd_same
  refine ⟨p, C, dx, _, rfl, P.oh p _ hold, c, na, by rw [List.length_zip]; omega, ?_⟩
  have Pm := P.mut (a := p) (o := .ins C dx ((fs ++ [f]).zip (vs ++ [y]))) hold
  have eO : upd (jn Ot (jn (upd (upd Oc dx (HO.own p)) p (.ins C dx (fs.zip vs))) Or)) p (.ins C dx ((fs ++ [f]).zip (vs ++ [y]))) = jn (upd (upd (jn Oc Ot) dx (HO.own p)) p (.ins C dx ((fs ++ [f]).zip (vs ++ [y])))) Or := by
    rw [← jn_assoc, upd_jn, jn_upd tp, jn_upd tx, upd_upd, jn_comm dt4]
  rw [eO] at Pm
  rw [hp vs y hvl]
  have b1 : Ow F.K B (.ins C (fs ++ [f]) (xs a ++ [t a])) (upd (upd (jn Oc Ot) dx (HO.own p)) p (.ins C dx ((fs ++ [f]).zip (vs ++ [y])))) (.ref p) := by
    unfold Ow
    exact ⟨p, dx, vs ++ [y], jn Oc Ot, rfl, owa_snoc at_ oa dt4.symm, jn_none_iff.mpr ⟨np, tp⟩, jn_none_iff.mpr ⟨nx, tx⟩, ne, by rw [List.length_append, List.length_append, hfl]; rfl, rfl⟩
  exact q a σ _ w ⟨B, _, kk B _ _ (Same.refl _) b1 (Dj.upd (Dj.upd (Dj.jnl dcr dtr) orx) orp), Pm, ii⟩
end
end Sm
namespace Sm
open PySem PySem.Spec PyProof.Rows L2 PySem.W TL
def fIx : List Str → Str → Option Nat
  | [], _ => none
  | g :: gs, f => if g = f then some 0 else (fIx gs f).map (· + 1)
theorem lk_ix {f : Str} : ∀ {fs : List Str} {j : Nat}, fIx fs f = some j → ∀ vs : List V, vs.length = fs.length → (fs.zip vs).lookup f = vs[j]?
  | [], _, e, _, _ => by cases e
  | g :: gs, j, e, [], h => by simp at h
  | g :: gs, j, e, v :: vs, h => by
    unfold fIx at e
    rw [List.zip_cons_cons, List.lookup_cons]
    by_cases c : g = f
    · rw [if_pos c] at e
      cases e
      subst c
      simp
    · rw [if_neg c] at e
      obtain ⟨i, e1, rfl⟩ := Option.map_eq_some_iff.mp e
      have : (f == g) = false := by simp; exact fun z => c z.symm
      rw [this, lk_ix e1 vs (by simpa using h)]
      rfl
theorem lk_none {f : Str} : ∀ {fs : List Str}, fIx fs f = none → ∀ vs : List V, (fs.zip vs).lookup f = none
  | [], _, _ => rfl
  | g :: gs, e, [] => rfl
  | g :: gs, e, v :: vs => by
    unfold fIx at e
    rw [List.zip_cons_cons, List.lookup_cons]
    by_cases c : g = f
    · rw [if_pos c] at e; cases e
    · rw [if_neg c] at e
      have : (f == g) = false := by simp; exact fun z => c z.symm
      rw [this]
      exact lk_none (Option.map_eq_none_iff.mp e) vs
theorem put_ix {f : Str} : ∀ {fs : List Str} {j : Nat}, fIx fs f = some j → ∀ (vs : List V) (y : V), vs.length = fs.length → putF f y (fs.zip vs) = fs.zip (vs.set j y)
  | [], _, e, _, _, _ => by cases e
  | g :: gs, j, e, [], y, h => by simp at h
  | g :: gs, j, e, v :: vs, y, h => by
    unfold fIx at e
    rw [List.zip_cons_cons]
    unfold putF
    by_cases c : g = f
    · rw [if_pos c] at e ⊢
      cases e
      rfl
    · rw [if_neg c] at e ⊢
      obtain ⟨i, e1, rfl⟩ := Option.map_eq_some_iff.mp e
      rw [put_ix e1 vs y (by simpa using h)]
      rfl
theorem put_new {f : Str} : ∀ {fs : List Str}, fIx fs f = none → ∀ (vs : List V) (y : V), vs.length = fs.length → putF f y (fs.zip vs) = (fs ++ [f]).zip (vs ++ [y])
  | [], _, [], y, _ => rfl
  | [], _, _ :: _, y, h => by simp at h
  | g :: gs, e, [], y, h => by simp at h
  | g :: gs, e, v :: vs, y, h => by
    unfold fIx at e
    rw [List.zip_cons_cons]
    unfold putF
    by_cases c : g = f
    · rw [if_pos c] at e; cases e
    · rw [if_neg c] at e ⊢
      rw [put_new (Option.map_eq_none_iff.mp e) vs y (by simpa using h)]
      rfl
def clsBody (s : Stmt) : List Stmt := match s with
  | .ClassDef _ _ _ b _ _ _ _ _ _ _ => b
  | _ => []
section
variable {F : Fx} {Γ Γ' Γ1 Γe Γx : List Ent} {T : List (V × Own)} {σ : L2.St} {H H' : Hp} {v : V} {Er : L2.St → Exn → Hp → Prop} {ρ α β γ S : Type} {W : R ρ → Prop} {D : Ends} {ta tb tc te ti tk td : TE} {tt : TT} {tr : TA} {d e : Dt} {ds : List Dt} {n j : Nat} {C : Addr} {fs : List Str} {f m' : Str} {xs : List Own} {A : Adr} {t t0 : Own} {put : Own → List Ent} {i : Int}
theorem Loc.mut1 {y u : V} (lc : Loc F.K Γ A t0 put) (s : Stt F Γ ((y, t) :: T) σ H) (au : A.at_ σ H u) : ∃ B Ot O1 Or, Ow F.K B t Ot y ∧ Ow F.K B t0 O1 u ∧ Dj Ot (jn O1 Or) ∧ Dj O1 Or ∧ Post F.B F.O F.H B (jn Ot (jn O1 Or)) H ∧ (∀ p ∈ F.ins, σ[p.1]? = some (some p.2)) ∧
    ∀ B' t' O1', Same B B' → Ow F.K B' t' O1' u → Dj O1' Or → Slots F.K B' (T.map (fun p => some p.2) ++ put t') (jn O1' Or) (T.map (fun p => some p.1) ++ σ) := by
  obtain ⟨B, Ot, O2, at_, sl, dt, P, ii⟩ := s.top
  obtain ⟨u', O1, Or, au', ow, dj, rfl, kk⟩ := lc T B O2 σ sl
  cases A.fn (A.mono (((same_jnr dj).trans (same_jnr dt)).trans P.oh) au') au
  exact ⟨B, Ot, O1, Or, at_, ow, dt, dj, P, ii, kk⟩
theorem s_lvAppO {t : α → Own} {m : R α} {k : α → R ρ} (hst : Stt F Γ T σ H) (hw : W (m.bind fun a => R.guard (xs.length < 16777216) (k a))) (ok : WOk F Γe Er W) (hL : Lv F ta Γ A (.lst xs) put) (h : MV F Γe Er te Γ m t)
    (q : ∀ a σ' H', W (k a) → Stt F (put (.lst (xs ++ [t a]))) T σ' H' → D.nx σ' H') : tDrop (tBM F.K "list" rAppend ta (tCons te tNil)) D σ H := by
  refine hL.ev T σ H hst _ fun u H0 au e0 s0 => ?_
  obtain ⟨B0, u0, O10, Or0, a0, _, ow0, dj0, P0, _⟩ := hL.loc.stt s0
  cases A.fn au a0
  have ow0' := ow0
  unfold Ow at ow0'
  obtain ⟨l, vs0, Oc0, rfl, _, _, rfl⟩ := ow0'
  refine .inl ⟨rfl, _, SqL.of (P0.oh l _ (jn_some upd_same))⟩ |> fun z => ⟨z, ?_⟩
  refine h _ W _ T σ H0 ok hw s0 _ fun a y H1 w s1 e1 => ?_
  obtain ⟨hl, w⟩ := R.guard_ok ok w
  obtain ⟨B, Ot, O1, Or, at_, ow, dt, dj, P, ii, kk⟩ := hL.loc.mut1 s1 (A.mono e1 au)
  unfold Ow at ow
  obtain ⟨l', vs, Oc, el, oa, nl, rfl⟩ := ow
  cases el
  obtain ⟨tl, dt2⟩ := dj_upd (Dj.rl dt) nl
  have dtr : Dj Ot Or := Dj.rr dt
  have orl : Or l = none := by
    rcases dj l with z | z
    · rw [upd_same] at z; cases z
    · exact z
  have dcr : Dj Oc Or := fun b => by
    by_cases z1 : b = l
    · subst z1; exact .inl nl
    · rcases dj b with z | z
      · rw [upd_ne z1] at z; exact .inl z
      · exact .inr z
  have hold : jn Ot (jn (upd Oc l (.lst vs)) Or) l = some (.lst vs) := by
    rw [jn_none tl]
    exact jn_some upd_same
  refine ⟨l, vs, y, rfl, rfl, P.oh l _ hold, by rw [oa.length]; exact line_lt hl, ?_⟩
  have Pm := P.mut (a := l) (o := .lst (vs ++ [y])) hold
  have eO : upd (jn Ot (jn (upd Oc l (.lst vs)) Or)) l (.lst (vs ++ [y])) = jn (upd (jn Oc Ot) l (.lst (vs ++ [y]))) Or := by
    rw [← jn_assoc, upd_jn, jn_upd tl, upd_upd, jn_comm dt2]
  rw [eO] at Pm
  have b1 : Ow F.K B (.lst (xs ++ [t a])) (upd (jn Oc Ot) l (.lst (vs ++ [y]))) (.ref l) := by
    unfold Ow
    exact ⟨l, vs ++ [y], jn Oc Ot, rfl, owa_snoc at_ oa dt2.symm, jn_none_iff.mpr ⟨nl, tl⟩, rfl⟩
  exact q a σ _ w ⟨B, _, kk B _ _ (Same.refl _) b1 (Dj.upd (Dj.jnl dcr dtr) orl), Pm, ii⟩
theorem oL_snoc {enc : α → Dt} {ys : List α} {a : α} : Own.lst (((ys.map enc).map Own.dat) ++ [.dat (enc a)]) = oL enc (ys ++ [a]) := by simp [oL]
theorem s_lvApp {enc : α → Dt} {ys : List α} {m : R α} {k : List α → R ρ} (hst : Stt F Γ T σ H) (hw : W (m.bind fun a => R.guard (gL ys) ((R.ok (ys ++ [a])).bind k))) (ok : WOk F Γe Er W) (hL : Lv F ta Γ A (oL enc ys) put) (h : MV F Γe Er te Γ m (oD enc))
    (q : ∀ zs σ' H', W (k zs) → Stt F (put (oL enc zs)) T σ' H' → D.nx σ' H') : tDrop (tBM F.K "list" rAppend ta (tCons te tNil)) D σ H := by
  refine s_lvAppO (k := fun a => k (ys ++ [a])) hst (by
    have e : (fun a => R.guard (((ys.map enc).map Own.dat).length < 16777216) (k (ys ++ [a]))) = fun a => R.guard (gL ys) ((R.ok (ys ++ [a])).bind k) := by
      funext a
      unfold R.guard gL
      rw [List.length_map, List.length_map]
      rfl
    rw [e]
    exact hw) ok hL h fun a σ' H' w s => q _ σ' H' w (by rw [oL_snoc] at s; exact s)
theorem s_lvClr (hst : Stt F Γ T σ H) (hL : Lv F ta Γ A (.lst xs) put) (q : ∀ σ' H', Stt F (put (.lst [])) T σ' H' → D.nx σ' H') : tDrop (tBM0 F.K "list" rClear ta) D σ H := by
  refine hL.ev T σ H hst _ fun u H0 au e0 s0 => ?_
  obtain ⟨B, u0, O1, Or, a0, _, ow, dj, P, ii, sl, kk⟩ := hL.loc.stt s0
  cases A.fn au a0
  unfold Ow at ow
  obtain ⟨l, vs, Oc, rfl, oa, nl, rfl⟩ := ow
  have hH := P.oh l _ (jn_some upd_same)
  refine ⟨.inl ⟨rfl, _, SqL.of hH⟩, l, vs, rfl, rfl, hH, q σ _ ?_⟩
  have orl : Or l = none := by
    rcases dj l with z | z
    · rw [upd_same] at z; cases z
    · exact z
  have dcr : Dj Oc Or := fun b => by
    by_cases z1 : b = l
    · subst z1; exact .inl nl
    · rcases dj b with z | z
      · rw [upd_ne z1] at z; exact .inl z
      · exact .inr z
  have Pm := P.mut (a := l) (o := .lst []) (jn_some upd_same)
  have eO : upd (jn (upd Oc l (.lst vs)) Or) l (.lst []) = jn Oc (jn (upd emp l (.lst [])) Or) := by
    rw [upd_jn, upd_upd, ← jn_assoc, jn_upd nl, jn_emp]
  rw [eO] at Pm
  have b1 : Ow F.K B (.lst []) (upd emp l (.lst [])) (.ref l) := by
    unfold Ow
    exact ⟨l, [], emp, rfl, owa_nil, rfl, rfl⟩
  exact ⟨B, _, kk B _ _ (Same.refl _) b1 (Dj.upd emp_dj orl), Pm.dropL (Dj.jnr (Dj.upd dj_emp.symm nl).symm dcr), ii⟩
theorem Stt.rv2 {vs : List V} {y : V} (h : Stt F Γ ((y, .dat d) :: (v, .rv vs ds) :: T) σ H) : ∃ B, Same B H ∧ RpA F.K B ds vs ∧ Rp F.K B d y ∧ ∀ d u, Rp F.K B d u → Stt F Γ ((u, .dat d) :: T) σ H := by
  obtain ⟨B, O1, O2, a, sl, dj, P, ii⟩ := h.top
  obtain ⟨ry, rfl⟩ := a.rp
  rw [emp_jn] at P
  rw [List.map_cons, List.map_cons] at sl
  unfold Slots at sl
  obtain ⟨_, _, P1, P2, ee, a2, b2, c2, rfl⟩ := sl
  cases ee
  unfold Ow at a2
  obtain ⟨r, rfl⟩ := a2
  exact ⟨B, P.bh, r, ry, fun d u ru => ⟨B, _, slots_own (ow_dat ru) b2 emp_dj, P, ii⟩⟩
variable {ks : List Key} {kt : List (List Key)}
section
variable [DecidableEq α] {kk : α → Key} {kq : α → List Key} {enc : β → Dt} {kvs : List (α × β)} {kd : α → Dt} {ky : α}
end
theorem spF_start {X : Type} {K : PySem.W.Frag} {Ce : Exn → Addr} {n : Nat} {insN : List Nat} {argT : X → List Own} {m : X → R α} {res : α → Own} {outs : α → List Own} {keep : X → List Own} {vs : List V} {Q : VK} {E : XK} (N : List Str) (hi : ∀ i ∈ insN, i < n) (hN : n ≤ N.length) (h : spF K Ce n insN argT m res outs keep vs H Q E) :
    ∃ (x : X) (F : Fx) (W : R α → Prop), K = F.K ∧ (∀ j, j ∉ insN → NI F j) ∧ Stt F ((argT x).map some ++ List.replicate (N.length - n) none) [] (L2.start N vs) H ∧ W (m x) ∧ (∀ Γe Γ1, Tk Γe (insN.map Ag.s) (keep x) Γ1 → WOk F Γe (fun _ e H' => ErrAt Ce E e H') W) ∧
      ∀ a v T Γ Γ1 σ H', W (.ok a) → Tk Γ (insN.map Ag.s) (outs a) Γ1 → Stt F Γ ((v, res a) :: T) σ H' → Q v H' := by
  obtain ⟨x, B, O, hn, oa, s1, s2, ⟨dj, nt⟩, hw⟩ := h
  have el : vs.length = n := by rw [oa.length, hn]
  have hst : L2.start N vs = vs.map some ++ List.replicate (N.length - n) none := by
    unfold L2.start
    rw [el]
  refine ⟨x, ⟨K, B, O, H, insN.filterMap fun i => vs[i]?.map fun v => (i, v)⟩, fun m => Wsh K Ce B O H Q E res outs (keep x) (insN.filterMap fun i => vs[i]?) m, rfl, fun j hj p hp => ?_, ⟨B, O, ?_, Post.refl s1 s2 dj nt, fun p hp => ?_⟩, hw, fun Γe Γ1 tk => ⟨fun z => z, fun e he σ H' s => ?_⟩, fun a v T Γ Γ1 σ H' w tk s => ?_⟩
  · obtain ⟨i, hi', e⟩ := List.mem_filterMap.mp hp
    cases z : vs[i]? with
    | none => rw [z] at e; cases e
    | some u =>
      rw [z] at e
      cases e
      exact fun e => hj (e ▸ hi')
  · rw [hst]
    exact slots_of (N.length - n) oa
  · obtain ⟨i, hi', e⟩ := List.mem_filterMap.mp hp
    cases z : vs[i]? with
    | none => rw [z] at e; cases e
    | some u =>
      rw [z] at e
      cases e
      rw [hst, List.getElem?_append_left (by rw [List.length_map, el]; exact hi i hi'), List.getElem?_map, z]
      rfl
  · obtain ⟨B', O', sl, P, ii⟩ := s
    have ra : RA K B' σ (insN.map Ag.s) (insN.filterMap fun i => vs[i]?) := ra_of (fun i h => by rw [el]; exact hi i h) ii
    obtain ⟨Oa, Or, oa', sl', dj2, rfl⟩ := take_ (T := []) tk ra sl
    exact he B' _ H' P.dropR oa'
  · obtain ⟨B', O1, O2, a1, sl, dj', p, ii⟩ := s.top
    have ra : RA K B' σ (insN.map Ag.s) (insN.filterMap fun i => vs[i]?) := ra_of (fun i h => by rw [el]; exact hi i h) ii
    obtain ⟨Oa, Or, oa', sl', dj2, rfl⟩ := take_ tk ra sl
    rw [← jn_assoc] at p
    exact w v B' _ H' p.dropR (owa_cons a1 oa' (Dj.rl dj'))
theorem mv_calm {Γx : List Ent} {m : R α} {t : α → Own} (h : MV F Γx (fun _ _ _ => False) te Γ m t) (wk : Wk Γ Γx) : MV F Γe Er te Γ m.calm t := fun _ W k T σ H ok w s Q q => by
  cases e : m with
  | ok a =>
    rw [e] at w h
    have ok' : WOk F Γx (fun _ _ _ => False) (fun m' : R α => ∃ a', m' = .ok a' ∧ W (k a')) := ⟨(fun ⟨_, z, _⟩ => nomatch z), (fun _ ⟨_, z, _⟩ => nomatch z)⟩
    refine h _ (fun m' : R α => ∃ a', m' = .ok a' ∧ W (k a')) R.ok T σ H ok' ⟨a, rfl, w⟩ s Q fun a' v H' w' s' e' => ?_
    obtain ⟨a2, z, w2⟩ := w'
    cases z
    exact q a' v H' w2 s' e'
  | err ex => rw [e] at w; exact absurd w ok.bad
  | bad => rw [e] at w; exact absurd w ok.bad
theorem mx_calm {Γx : List Ent} {Γ' : α → List Ent} {m : R α} {t : α → Own} (h : MX2 F Γx (fun _ _ _ => False) te Γ Γ' m t) : MX2 F Γe Er te Γ Γ' m.calm t := fun _ W k T σ H ok w s Q q => by
  cases e : m with
  | ok a =>
    rw [e] at w h
    have ok' : WOk F Γx (fun _ _ _ => False) (fun m' : R α => ∃ a', m' = .ok a' ∧ W (k a')) := ⟨(fun ⟨_, z, _⟩ => nomatch z), (fun _ ⟨_, z, _⟩ => nomatch z)⟩
    refine h _ (fun m' : R α => ∃ a', m' = .ok a' ∧ W (k a')) R.ok T σ H ok' ⟨a, rfl, w⟩ s Q fun a' v H' w' s' => ?_
    obtain ⟨a2, z, w2⟩ := w'
    cases z
    exact q a' v H' w2 s'
  | err ex => rw [e] at w; exact absurd w ok.bad
  | bad => rw [e] at w; exact absurd w ok.bad
end
end Sm
namespace Sm
open PySem PySem.Spec PyProof.Rows L2 PySem.W TL
section
variable {F : Fx} {Γ Γ' Γ1 Γe Γx : List Ent} {T : List (V × Own)} {σ : L2.St} {H H' : Hp} {v : V} {Er : L2.St → Exn → Hp → Prop} {ρ α β γ S : Type} {W : R ρ → Prop} {D : Ends} {ta tb tc te ti tk td : TE} {tt : TT} {tr : TA} {d e : Dt} {ds : List Dt} {n j : Nat} {C : Addr} {fs : List Str} {f m' : Str} {xs : List Own} {A : Adr} {t t0 : Own} {put : Own → List Ent} {i : Int}
theorem mv_makeD {X : Type} {Ce : Exn → Addr} {nn : Nat} {argT : X → List Own} {m : X → R (Unit × α)} {ob : α → Own} {keep : X → List Own} {dA : γ → List Dt} {Ex : L2.St → XK} {mx : R γ} (x : γ → X)
    (ha : MA F Γe Er tr Γ mx dA) (hx : ∀ b, argT (x b) = .ins C [] [] :: (dA b).map Own.dat) (hn : ∀ b, (dA b).length + 1 = nn) (wk : Wk Γ Γe) (hE : ∀ σ e H', Er σ e H' → ErrAt Ce (Ex σ) e H') :
    MV F Γe Er (tMakeP C (spF F.K Ce nn [0] argT m (fun _ => .dat .non) (fun a => [ob a.2]) keep) Ex tr) Γ (mx.bind fun b => (m (x b)).bind fun a => R.ok a.2) ob := fun _ W k T σ H ok w s Q q => by
  rw [R.bind_assoc] at w
  refine ha _ W _ T σ H ok w s _ fun b vs H1 w1 A e2 => ?_
  rw [R.bind_assoc] at w1
  intro y dx hy hd ne
  obtain ⟨B, O, ra, sl, p, ii⟩ := A
  have p1 := p.newO hd (o := .own y) (by intro xs z; cases z)
  have hy1 : upd H1 dx (.own y) y = none := by rw [upd_ne (Ne.symm ne)]; exact hy
  have p2 := p1.newO hy1 (o := .ins C dx []) (by intro xs z; cases z)
  have nOy : O y = none := none_of_same p.oh hy
  have nOd : O dx = none := none_of_same p.oh hd
  have eO : upd (upd O dx (HO.own y)) y (.ins C dx []) = jn (upd (upd emp dx (HO.own y)) y (.ins C dx [])) O := by
    rw [← upd_jn, ← upd_jn, emp_jn]
  rw [eO] at p2
  have dj2 : Dj (upd (upd emp dx (HO.own y)) y (HO.ins C dx [])) O := Dj.upd (Dj.upd emp_dj nOd) nOy
  have ob0 : Ow F.K B (.ins C [] []) (upd (upd emp dx (HO.own y)) y (HO.ins C dx [])) (.ref y) := by
    unfold Ow
    exact ⟨y, dx, [], emp, rfl, owa_nil, rfl, rfl, ne, rfl, rfl⟩
  have oa0 : OwA F.K B (argT (x b)) (upd (upd emp dx (HO.own y)) y (HO.ins C dx [])) (.ref y :: vs) := by
    rw [hx b]
    have z := owa_cons ob0 (owa_dats ra) dj_emp
    rw [jn_emp] at z
    exact z
  have hs : Same H1 (upd (upd H1 dx (.own y)) y (.ins C dx [])) := (same_upd hd).trans (same_upd hy1)
  refine ⟨x b, B, _, by rw [hx b, List.length_cons, List.length_map]; exact hn b, oa0, p2.bh, same_jnl.trans p2.oh, ⟨Dj.rl p2.dj, p2.nt.l⟩, ?_⟩
  cases e : m (x b) with
  | ok a =>
    rw [e] at w1
    intro v B' O' H' P oa'
    have fr : Same H1 H' := fun a o e => P.fr a o (hs a o e) (by
      rw [upd_ne (fun z => by subst z; rw [hy] at e; cases e), upd_ne (fun z => by subst z; rw [hd] at e; cases e)]
      rfl)
    unfold OwA at oa'
    obtain ⟨v', r', O1, O2, e3, a1, b1, d1, rfl⟩ := oa'
    cases e3
    obtain ⟨rn, rfl⟩ := a1.rp
    have hv := rp_non rn
    subst hv
    unfold OwA at b1
    obtain ⟨v2, r2, P1, P2, e4, a2, b2, d2, rfl⟩ := b1
    cases e4
    unfold OwA at b2
    obtain ⟨_, rfl⟩ := b2
    rw [jn_emp] at P
    obtain ⟨dj', P'⟩ := p2.call dj2 P
    rw [emp_jn] at dj' P'
    exact ⟨rfl, q a.2 (.ref y) H' w1 ⟨B', _, slots_own a2 (sl.mono P.b0) dj', P', ii⟩ (e2.trans fr)⟩
  | err ex =>
    rw [e] at w1
    intro B' O' H' P oa'
    obtain ⟨dj', P'⟩ := p2.call dj2 P
    exact hE σ ex H' (ok.err ex w1 σ H' ((Stt.pops (T := T) ⟨B', O, sl.mono P.b0, P'.dropL dj', ii⟩).weak wk))
  | bad =>
    rw [e] at w1
    exact absurd w1 ok.bad
end
end Sm
namespace Sm
open PySem PySem.Spec PyProof.Rows L2 PySem.W TL
section
variable {F : Fx} {Γ Γ' Γ1 Γe Γx : List Ent} {T : List (V × Own)} {σ : L2.St} {H H' : Hp} {v : V} {Er : L2.St → Exn → Hp → Prop} {ρ α β γ S : Type} {W : R ρ → Prop} {D : Ends} {ta tb tc te ti tk td : TE} {tt : TT} {tr : TA} {d e : Dt} {ds : List Dt} {n j : Nat} {C : Addr} {fs : List Str} {f m' : Str} {xs : List Own} {A : Adr} {t t0 : Own} {put : Own → List Ent} {i : Int}
theorem mv_sum {m : R (List Int)} (h : ML F Γe Er te Γ eI m) : MV F Γe Er (tCB (rSum F.K) (tCons te tNil)) Γ (m.bind fun xs => R.ok xs.sum) (oD eI) := fun _ W k T σ H ok w s Q q => by
  rw [R.bind_assoc] at w
  exact h _ W _ T σ H ok w s _ fun xs l vs H1 w1 hl s1 e1 => by
    obtain ⟨B, _, r⟩ := s1.rvs
    rw [rpa_ints r] at hl
    exact ⟨l, xs, rfl, SqL.of hl, q _ _ _ w1 (s1.pop.push fun _ _ => by unfold Rp; rfl) e1⟩
section
variable [DecidableEq α]
end
theorem nm {W : R ρ → Prop} {e : α} {k : α → R ρ} {P : α → Prop} (hw : W ((R.ok e).bind k)) (hst : P e) : ∃ v, W (k v) ∧ P v := ⟨e, hw, hst⟩
end
end Sm
namespace Sm
open PySem PySem.Spec PyProof.Rows L2 PySem.W
section
variable {F : Fx} {Γ Γ' Γ1 Γe Γx Γw : List Ent} {T : List (V × Own)} {σ : L2.St} {H H' : Hp} {v w x : V} {Er : L2.St → Exn → Hp → Prop} {ρ α β γ S : Type} {W : R ρ → Prop} {D : Ends} {ta tb tc te ti tj tk td : TE} {tt : TT} {tr : TA} {d : Dt} {ds : List Dt} {n h j i : Nat} {t t1 t2 : Own} {ts : List Own} {A : Adr} {put : Own → List Ent} {l : Addr}
theorem Loc.take (lc : Loc F.K Γ A t put) (s : Stt F Γ T σ H) : ∃ w, A.at_ σ H w ∧ Stt F (put (.hole w)) ((w, t) :: T) σ H := by
  obtain ⟨B, u, O1, Or, a, _, ow, dj, P, ii, sl, k⟩ := lc.stt s
  have z := k B (.hole u) emp (Same.refl _) (by unfold Ow; exact ⟨rfl, rfl⟩) emp_dj
  rw [emp_jn] at z
  exact ⟨u, a, B, _, slots_own ow z dj, P, ii⟩
end
end Sm
namespace Sm
open PySem PySem.Spec PyProof.Rows L2 PySem.W
section
variable {F : Fx} {Γ Γ' Γ1 Γe Γx Γw : List Ent} {T : List (V × Own)} {σ : L2.St} {H H' : Hp} {v w x : V} {Er : L2.St → Exn → Hp → Prop} {ρ α β γ S : Type} {W : R ρ → Prop} {D : Ends} {ta tb tc te ti tj tk td : TE} {tt : TT} {tr : TA} {d : Dt} {ds : List Dt} {n h j i : Nat} {t0 t1 t2 : Own} {ts : List Own} {A : Adr} {put : Own → List Ent} {l : Addr} {ks : List Key}
end
end Sm
namespace Sm
open PySem PySem.Spec PyProof.Rows L2 PySem.W
def oM (f : α → Own) (xs : List α) : Own := .lst (xs.map f)
theorem map_set_ix {α : Type} {f : α → Own} {xs : List α} {i : Int} {w : α} : (xs.map f).set (ixI xs i) (f w) = (setI xs i w).map f := by
  unfold setI
  rw [List.map_set]
section
variable {F : Fx} {Γ Γ' Γ1 Γe : List Ent} {T : List (V × Own)} {σ : L2.St} {H H' : Hp} {v : V} {Er : L2.St → Exn → Hp → Prop} {ρ α β γ S : Type} {W : R ρ → Prop} {D : Ends} {ta tb te ti : TE} {d : Dt} {ds : List Dt} {n h j : Nat} {i : Int} {t t1 : Own} {ts : List Own} {A : Adr} {put : Own → List Ent} {l : Addr} {K : PySem.W.Frag}
theorem loc_ixM [Inhabited α] {f : α → Own} {xs : List α} (h : Loc K Γ A (oM f xs) put) (hb : inB xs i) : Loc K Γ (A.ix i) (f (getI xs i)) fun t' => put (.lst ((xs.map f).set (ixI xs i) t')) := by
  have hb' : inB (xs.map f) i := by unfold inB at hb ⊢; rw [List.length_map]; exact hb
  have ix : ixI (xs.map f) i = ixI xs i := by unfold ixI; rw [List.length_map]
  have hx : (xs.map f)[ixI (xs.map f) i]? = some (f (getI xs i)) := by rw [ix, List.getElem?_map, getI_get hb]; rfl
  have z := loc_ix h hb' hx
  rw [ix] at z
  exact z
theorem lv_ixM [Inhabited α] {f : α → Own} {xs : List α} (h : Lv F te Γ A (oM f xs) put) (h2 : Ev F ti Γ (.dat (.int i))) (hb : inB xs i) : Lv F (tOp (rIxL F.K) te ti) Γ (A.ix i) (f (getI xs i)) fun t' => put (.lst ((xs.map f).set (ixI xs i) t')) := by
  have hb' : inB (xs.map f) i := by unfold inB at hb ⊢; rw [List.length_map]; exact hb
  have ix : ixI (xs.map f) i = ixI xs i := by unfold ixI; rw [List.length_map]
  have hx : (xs.map f)[ixI (xs.map f) i]? = some (f (getI xs i)) := by rw [ix, List.getElem?_map, getI_get hb]; rfl
  have z := lv_ix h h2 hb' hx
  rw [ix] at z
  exact z
theorem rdo_oM {f : α → Own} {g : α → Dt} (h : ∀ a, RdO (f a) (g a)) {xs : List α} : RdO (oM f xs) (eL g xs) := rdo_lst (rdoa_map h xs)
end
end Sm
namespace Sm
open PySem PySem.Spec PyProof.Rows L2 PySem.W
section
variable {F : Fx} {Γ Γ' Γ1 Γe : List Ent} {T : List (V × Own)} {σ : L2.St} {H H' : Hp} {v : V} {Er : L2.St → Exn → Hp → Prop} {ρ α β γ S : Type} {W : R ρ → Prop} {D : Ends} {ta tb te ti : TE} {tr : TA} {d : Dt} {ds : List Dt} {n h j : Nat} {t : Own} {ts : List Own} {C : Addr}
end
end Sm
namespace Sm
open PySem PySem.Spec PyProof.Rows L2 PySem.W
section
variable {F : Fx} {Γ Γ' Γ1 Γe : List Ent} {T : List (V × Own)} {σ : L2.St} {H H' : Hp} {v u : V} {Er : L2.St → Exn → Hp → Prop} {ρ α β γ S : Type} {W : R ρ → Prop} {D : Ends} {ta tb te ti : TE} {tr : TA} {d : Dt} {ds : List Dt} {n h j k : Nat} {t : Own} {ts : List Own} {A : Adr} {put : Own → List Ent} {l : Addr}
theorem Stt.freezeG (h : Stt F Γ ((v, t) :: T) σ H) (r : RdO t d) : Stt F Γ ((v, .dat d) :: T) σ H := by
  obtain ⟨B, O1, O2, a, s, dj, p, q⟩ := h.top
  have d1 : Dj B O1 := p.dj.rl
  have k : Rp F.K (jn B O1) d v := r F.K B (jn B O1) O1 v a same_jnl (same_jnr d1)
  have z := slots_own (ow_dat k) (s.mono same_jnl) emp_dj
  rw [emp_jn] at z
  exact ⟨jn B O1, O2, z, p.freeze dj, q⟩
theorem Stt.freezeAtG (h : Stt F Γ T σ H) (e : Γ[n]? = some (some t)) (r : RdO t d) : Stt F (Γ.set n (some (.dat d))) T σ H := by
  obtain ⟨B, v, O1, O2, e1, a, dj, p, q, s, k, _⟩ := h.atn e
  have d1 : Dj B O1 := p.dj.rl
  have kk : Rp F.K (jn B O1) d v := r F.K B (jn B O1) O1 v a same_jnl (same_jnr d1)
  have z := k (jn B O1) (.dat d) emp same_jnl (ow_dat kk) emp_dj
  rw [emp_jn] at z
  exact ⟨jn B O1, O2, z, p.freeze dj, q⟩
theorem mv_frzG {m : R α} {t : α → Own} {d : α → Dt} (h : MV F Γe Er te Γ m t) (r : ∀ a, RdO (t a) (d a)) : MV F Γe Er te Γ m fun a => .dat (d a) := fun _ W k T σ H ok w s Q q =>
  h _ W k T σ H ok w s Q fun a v H' w' s' e => q a v H' w' (s'.freezeG (r a)) e
theorem ev_nilM {f : α → Own} : Ev F (tLst tNil) Γ (oM f ([] : List α)) := ev_lst (ds := []) ea_nil (by decide)
theorem ev_lenO (h : Lv F te Γ A (.lst ts) put) : Ev F (tCB (fun xs H Q => ∃ p ys, xs = [.ref p] ∧ (SqL F.K H p ys ∨ SqT F.K H p ys) ∧ Q (.int ys.length) H) (tCons te tNil)) Γ (.dat (.int ts.length)) := fun T σ H s Q q => h.ev T σ H s _ fun u H1 a e1 s1 => by
  obtain ⟨B, u', O1, Or, a', _, ow, dj, P, ii, sl, k⟩ := h.loc.stt s1
  cases A.fn a a'
  unfold Ow at ow
  obtain ⟨l, vs, O', rfl, oa, nl, rfl⟩ := ow
  exact ⟨l, vs, rfl, .inl (SqL.of (P.oh l _ (jn_some upd_same))), q _ H1 (s1.push fun _ _ => by rw [oa.length]; unfold Rp; rfl) e1⟩
theorem ev_lenM {f : α → Own} {xs : List α} (h : Lv F te Γ A (oM f xs) put) : Ev F (tCB (fun xs H Q => ∃ p ys, xs = [.ref p] ∧ (SqL F.K H p ys ∨ SqT F.K H p ys) ∧ Q (.int ys.length) H) (tCons te tNil)) Γ (.dat (.int xs.length)) := by
  have := ev_lenO h
  rw [List.length_map] at this
  exact this
theorem s_appMo {f : α → Own} {xs : List α} {m : R α} {k : List α → R ρ} (hst : Stt F Γ T σ H) (hw : W (m.bind fun a => R.guard (gL xs) ((R.ok (xs ++ [a])).bind k))) (ok : WOk F Γe Er W) (he : Γ[n]? = some (some (oM f xs))) (h : MV F Γe Er te Γ m f)
    (q : ∀ zs σ' H', W (k zs) → Stt F (Γ.set n (some (oM f zs))) T σ' H' → D.nx σ' H') : tDrop (tBM F.K "list" rAppend (tVar n) (tCons te tNil)) D σ H := by
  refine s_lvAppO (xs := xs.map f) (t := f) (k := fun a => k (xs ++ [a])) hst (by
    have e : (fun a => R.guard ((xs.map f).length < 16777216) (k (xs ++ [a]))) = fun a => R.guard (gL xs) ((R.ok (xs ++ [a])).bind k) := by
      funext a
      unfold R.guard gL
      rw [List.length_map]
      rfl
    rw [e]
    exact hw) ok (lv_var he) h fun a σ' H' w s => q _ σ' H' w (by unfold oM; rw [List.map_append]; exact s)
end
end Sm
namespace Sm
open PySem PySem.Spec PyProof.Rows L2 L2.DX PySem.W Sy
theorem fnok_bad {X : Type} {P : Program} {w : World} {K : PySem.W.Frag} {mg : Str → Option Value} {base : Heap} {CX : CXT} {k : Nat} {f : Addr} {fd : FuncData} {ps : List Str} {Ce : Exn → Addr} {n : Nat} {insN : List Nat} {argT : X → List Own} {m : X → R α} {res : α → Own} {outs : α → List Own} {keep : X → List Own}
    (hn : n = ps.length) (hm : ∀ x, m x = .bad) : FnOk P w K mg base CX k f fd ps (spF K Ce n insN argT m res outs keep) :=
  ⟨fun vs H Q E h => spF_len hn vs H Q E h, fun A outer s H args us vs Q E _ _ _ _ hs => by
    obtain ⟨x, B, O, _, _, _, _, _, w⟩ := hs
    rw [hm] at w
    exact w.elim⟩
section
variable {F : Fx} {Γ Γ' Γ1 Γe Γx : List Ent} {T : List (V × Own)} {σ : L2.St} {H H' : Hp} {v u : V} {Er : L2.St → Exn → Hp → Prop} {ρ α β γ S : Type} {W : R ρ → Prop} {D : Ends} {ta tb te ti : TE} {tr : TA} {d : Dt} {ds : List Dt} {n h j k : Nat} {t t1 t2 : Own} {ts : List Own} {A : Adr} {put : Own → List Ent} {l : Addr} {es : List Dt}
end
end Sm
namespace L2
open PySem PySem.Spec PyProof.Rows
section
variable {d : Addr} {o : Obj} {P : Program} {w : World} {K : PySem.W.Frag} {es : Array DictEntry} {ep : Nat}
end
section
variable {X : Cx} {tg e : Expr} {td : TE} {apos cpos : Pos}
end
end L2
namespace L2
open PySem PySem.Spec PyProof.Rows
section
variable {X : Cx} {tg : Expr}
def iSeq (K : PySem.W.Frag) (tl : TE) : TI := fun σ H R => tl σ H fun x H1 => ∃ a, x = .ref a ∧ (((∃ xs, SqL K H1 a xs) ∧ R (Itl K a) H1) ∨ ((∃ xs, SqT K H1 a xs) ∧ R (Itt K a) H1))
theorem pi_seq {l : Expr} {tl : TE} (hl : PE X l tl) : PI X tg l (iSeq X.K tl) := by
  refine ⟨fun pins s σ H R I h => ?_⟩
  refine thn (hl.run pins s σ H _ I h) fun v s1 ⟨x, H1, I1, r1, q1⟩ => ?_
  obtain ⟨a, e, ⟨⟨xs, hq⟩, q⟩ | ⟨⟨xs, hq⟩, q⟩⟩ := q1
  · subst e
    cases r1
    obtain ⟨its, rv, p, hz⟩ := I1.list hq
    refine wpAny_pyIter_list p.isList ?_
    refine ⟨s1.heap.objs.size, [s1.heap.objs.size], _, _, H1, rfl, I1.kept (t' := s1.toks) fun b o e => Heap.get?_push_of_some _ e, turn_list a _, ⟨_, Heap.get?_push_size _ rfl, rfl, rfl⟩, fun b hb => ?_, q⟩
    have e : b = s1.heap.objs.size := by simpa using hb
    subst e
    exact I1.fpOk (Nat.le_refl _) (I1.hok.fresh (Nat.le_refl _))
  · subst e
    cases r1
    obtain ⟨its, rv, p, hz⟩ := I1.tuple hq
    refine wpAny_pyIter_tuple (show s1.heap.IsTuple a its.toArray from p) ?_
    refine ⟨s1.heap.objs.size, [s1.heap.objs.size], _, _, H1, rfl, I1.kept (t' := s1.toks) fun b o e => Heap.get?_push_of_some _ e, turn_tuple a _, ⟨_, Heap.get?_push_size _ rfl, rfl, rfl⟩, fun b hb => ?_, q⟩
    have e : b = s1.heap.objs.size := by simpa using hb
    subst e
    exact I1.fpOk (Nat.le_refl _) (I1.hok.fresh (Nat.le_refl _))
end
end L2
namespace Sm
open PySem PySem.Spec PyProof.Rows L2 L2.DX PySem.W Sy
section
variable {F : Fx} {Γ Γ' Γe : List Ent} {T : List (V × Own)} {σ : L2.St} {H H' : Hp} {v : V} {Er : L2.St → Exn → Hp → Prop} {ρ α β γ δ S : Type} {W : R ρ → Prop} {D : Ends} {ta tb tc te td tk : TE} {i j : Int} {d e : Dt} {c : Bool} {ds es : List Dt} {n : Nat} {tl th : TO} {lo hi : Option Int}
def Dt.isQ : Dt → Bool
  | .lst _ => true
  | .tup _ => true
  | .kt _ => true
  | _ => false
def Dt.asQ : Dt → List Dt
  | .lst l => l
  | .tup l => l
  | .kt l => l.map kDt
  | _ => []
theorem sr_seq {m : R Dt} (h : MV F Γe Er te Γ m (oD eA)) : Sr F Γe Er (iSeq F.K te) Γ (m.bind fun d => R.guard (Dt.isQ d = true) (R.ok d)) Dt.asQ eA := fun _ W k T σ H ok w s Ri q => by
  rw [R.bind_assoc] at w
  refine h _ W _ T σ H ok w s _ fun b v H1 w1 s1 e1 => ?_
  have w2 : W (R.guard (Dt.isQ b = true) (k b)) := by
    unfold R.guard at w1 ⊢
    by_cases z : Dt.isQ b = true
    · rw [if_pos z] at w1 ⊢; exact w1
    · rw [if_neg z] at w1; exact absurd w1 ok.bad
  obtain ⟨g, w3⟩ := R.guard_ok ok w2
  obtain ⟨B, eb, r⟩ := s1.topd
  have em : (Dt.asQ b).map eA = Dt.asQ b := map_eA _
  cases b with
  | lst l =>
    unfold Rp at r
    obtain ⟨a, vs, rfl, hl, ra⟩ := r
    refine ⟨a, rfl, .inl ⟨⟨vs, SqL.of (eb _ _ hl)⟩, q _ [_] _ H1 w3 s1 e1 ?_⟩⟩
    rw [em]
    exact wks_list
  | tup l =>
    unfold Rp at r
    obtain ⟨a, vs, rfl, hl, ra⟩ := r
    refine ⟨a, rfl, .inr ⟨⟨vs, sqt_mono eb hl⟩, q _ [_] _ H1 w3 s1 e1 ?_⟩⟩
    rw [em]
    exact wks_tup
  | kt l =>
    have s2 := s1.re (e := .tup (l.map kDt)) fun _ r => Rp.kt r
    obtain ⟨B, eb, r⟩ := s2.topd
    unfold Rp at r
    obtain ⟨a, vs, rfl, hl, ra⟩ := r
    refine ⟨a, rfl, .inr ⟨⟨vs, sqt_mono eb hl⟩, q _ [_] _ H1 w3 s2 e1 ?_⟩⟩
    rw [em]
    exact wks_tup
  | _ => cases g
def gOt (d : Dt) : Prop := d.tyn ≠ "?" ∧ d.tyn ≠ "dict"
instance (d : Dt) : Decidable (gOt d) := by unfold gOt; exact inferInstance
def Dt.isTs (ns : List String) (d : Dt) : Bool := ns.any fun n => d.isT n
theorem kitAny_ty {K : PySem.W.Frag} {t : String} : ∀ {ns : List String}, (∀ n ∈ ns, (kitB t n).isSome = true) → PySem.W.kitAny K (.type t) (ns.map Value.type) = some (ns.any fun n => (kitB t n).getD false)
  | [], _ => rfl
  | n :: ns, h => by
    have h1 := h n (by simp)
    have ih := kitAny_ty (K := K) (ns := ns) fun m hm => h m (by simp [hm])
    show (match PySem.W.kitOne K (.type t) (.type n) with | some true => some true | some false => PySem.W.kitAny K (.type t) (ns.map Value.type) | none => none) = _
    cases e : kitB t n with
    | none => rw [e] at h1; cases h1
    | some r =>
      rw [kit_ty e]
      cases r with
      | true => show some true = _; rw [List.any_cons, e]; rfl
      | false => show PySem.W.kitAny K (.type t) (ns.map Value.type) = _; rw [ih, List.any_cons, e]; rfl
def tTys : List String → TA
  | [] => tNil
  | n :: ns => tCons (tC (.ty n)) (tTys ns)
theorem clsT_tys : ∀ ns : List String, ClsT (tTys ns) (ns.map V.ty) (ns.map Value.type)
  | [] => .nil
  | n :: ns => .cons (.ty n) (clsT_tys ns)
theorem ev_isAT {ns : List String} (hn : ∀ n ∈ ns, ∀ t ∈ ["NoneType", "bool", "int", "str", "list", "tuple", "dict"], (kitB t n).isSome = true) (g : gOt d) (h : Ev F ta Γ (.dat d)) (hl : ns.length ≤ 1000) :
    Ev F (tCB (rIsiT F.K) (tCons ta (tCons (tTup (tTys ns)) tNil))) Γ (.dat (.bl (d.isTs ns))) := fun T σ H s0 Q q => h T σ H s0 _ fun v H1 s e1 => by
  have hc := clsT_tys ns
  refine hc.run ?_
  refine ⟨by rw [hc.len, List.length_map]; exact line_le (Nat.le_trans hl (by decide)), fun p hp => ?_⟩
  obtain ⟨B0, eb, rr⟩ := s.topd
  have ty : TyX F.K H1 v (.type d.tyn) := tyx_of eb (fun ks xs fs => ⟨fun z => g.2 (by rw [z]; rfl), fun z => g.2 (by rw [z]; rfl), fun z => g.2 (by rw [z]; rfl)⟩) g.1 rr
  have ty2 : TyX F.K (upd H1 p (.tup (ns.map V.ty))) v (.type d.tyn) := tyx_of (fun b o e => same_upd hp _ _ (eb b o e)) (fun ks xs fs => ⟨fun z => g.2 (by rw [z]; rfl), fun z => g.2 (by rw [z]; rfl), fun z => g.2 (by rw [z]; rfl)⟩) g.1 rr
  refine ⟨v, p, _, _, _, d.isTs ns, rfl, upd_same, hc.pair, ty2, kitAny_ty fun n hm => hn n hm _ (tyn_mem g.1), ?_⟩
  refine q _ _ ?_ (e1.trans (same_upd hp))
  obtain ⟨B, O, sl, P, ii⟩ := s.pop
  have hB : B p = none := none_of_same P.bh hp
  have z := slots_own (ow_dat (K := F.K) (B := upd B p (.tup (ns.map V.ty))) (d := .bl (d.isTs ns)) (v := .bl (d.isTs ns)) (by unfold Rp; rfl)) (sl.mono (same_upd hB)) emp_dj
  rw [emp_jn] at z
  exact ⟨_, O, z, P.newB hp, ii⟩
end
end Sm
namespace Sy
open PySem PySem.Spec PyProof.Rows L2 L2.DX PySem.W PySem.Calls
section
variable {X : Cx} {pins : List (Addr × Obj)} {σ : L2.St} {H : Hp} {s : Shared}
end
end Sy
namespace Sm
open PySem PySem.Spec PyProof.Rows L2 L2.DX PySem.W Sy
section
variable {F : Fx} {Γ Γ' Γe : List Ent} {T : List (V × Own)} {σ : L2.St} {H H' : Hp} {v : V} {Er : L2.St → Exn → Hp → Prop} {ρ α β γ δ S : Type} {W : R ρ → Prop} {D : Ends} {ta tb tc te td tk : TE} {d e : Dt}
def isE {α : Type} (e : α → Dt) (d : Dt) : Prop := ∃ a, e a = d
noncomputable instance {α : Type} (e : α → Dt) (d : Dt) : Decidable (isE e d) := Classical.propDecidable _
end
end Sm
namespace L2
open PySem PySem.Spec PyProof.Rows L2.DX
section
variable {X : Cx} {pins : List (Addr × Obj)} {σ : St} {H : Hp} {s : Shared} {a b : Addr} {u r : Value} {d : V} {k : List Key} {A : Around} {E : Value → Shared → Prop}
end
section
variable {X : Cx} {o e f : Expr} {td ty tx : TE} {apos cpos : Pos}
end
end L2
namespace Sm
open PySem PySem.Spec PyProof.Rows L2 L2.DX PySem.W Sy
section
variable {F : Fx} {Γ Γ' Γe : List Ent} {T : List (V × Own)} {σ : L2.St} {H H' : Hp} {v : V} {Er : L2.St → Exn → Hp → Prop} {ρ α β γ δ S : Type} {W : R ρ → Prop} {D : Ends} {ta tb tc te td tk : TE} {d e : Dt} {A : Adr} {put : Own → List Ent}
end
end Sm
namespace Sm
open PySem PySem.Spec PyProof.Rows L2
section
variable {X : Cx} {CX : CXT} {k : Nat} {f C : Addr} {fd : FuncData} {ps : List Str} {sp : Sp} {E : L2.St → XK} {x m : Str} {p pos apos : Pos} {e o : Expr} {es : List Expr} {ta : TE} {t : TA}
end
end Sm
namespace L2
open PySem PySem.Spec PyProof.Rows
section
variable {X : Cx} {e o value : Expr} {f : Str} {ta tv : TE} {pos pos' : Pos} {K : PySem.W.Frag}
theorem pe_fldK (he : PE X e ta) (hb : attributeBase e f X.env (eval e X.env) = eval e X.env) (hK : X.K = K := by rfl) : PE X (.Attribute e f pos) (tFld K ta f) := by
  subst hK
  exact pe_fld he hb
theorem ps_fldK (ha : PE X o ta) (hv : PE X value tv) (hs : swapsWith value (some (.Attribute o f pos')) pos.line X.env = pure false) (hK : X.K = K := by rfl) : PS X (.Assign [.Attribute o f pos'] value pos) (sFld K ta tv f) := by
  subst hK
  exact ps_fld ha hv hs
end
end L2
namespace Sm
open PySem PySem.Spec PyProof.Rows L2 L2.DX PySem.W Sy
section
variable {F : Fx} {Γ Γ' Γe : List Ent} {T : List (V × Own)} {σ : L2.St} {H H' : Hp} {v : V} {Er : L2.St → Exn → Hp → Prop} {ρ α β γ δ S : Type} {W : R ρ → Prop} {D : Ends} {ta tb tc te td tk : TE} {tt : TT} {d e : Dt} {ds : List Dt} {n : Nat} {l : Addr} {od : Obj} {ks : List (List Key)} {us : List V} {t t0 : Own}
end
end Sm
namespace Sm
open PySem PySem.Spec PyProof.Rows L2 L2.DX PySem.W Sy
section
variable {F : Fx} {Γ Γ' Γe : List Ent} {T : List (V × Own)} {σ : L2.St} {H H' : Hp} {v : V} {Er : L2.St → Exn → Hp → Prop} {ρ α β γ δ S : Type} {W : R ρ → Prop} {te : TE} {d e : Dt} {ds : List Dt} {i : Int}
end
end Sm
namespace Sm
open PySem PySem.Spec PyProof.Rows L2 PySem.W TL
section
variable {F : Fx} {Γ Γ' Γ1 Γe : List Ent} {T : List (V × Own)} {σ : L2.St} {H H' : Hp} {v u : V} {Er : L2.St → Exn → Hp → Prop} {ρ α β γ S : Type} {W : R ρ → Prop} {D : Ends} {ta tb te ti : TE} {tr : TA} {d : Dt} {ds : List Dt} {n h j k : Nat} {i : Int} {t w : Own} {ts : List Own} {A : Adr} {put : Own → List Ent} {l : Addr} {K : PySem.W.Frag}
theorem loc_ixS {xs : List α} {f : α → Own} (h : Loc K Γ A (.lst ((xs.map f).set (ixI xs i) w)) put) (hb : inB xs i) : Loc K Γ (A.ix i) w fun t' => put (.lst ((xs.map f).set (ixI xs i) t')) := by
  have hl : ((xs.map f).set (ixI xs i) w).length = xs.length := by rw [List.length_set, List.length_map]
  have hb' : inB ((xs.map f).set (ixI xs i) w) i := by unfold inB at hb ⊢; rw [hl]; exact hb
  have ix : ixI ((xs.map f).set (ixI xs i) w) i = ixI xs i := by simp only [ixI, List.length_set, List.length_map]
  have z := loc_ix h hb' (by rw [ix]; exact List.getElem?_set_self (by rw [List.length_map]; exact ixI_lt hb))
  rw [ix] at z
  simp only [List.set_set] at z
  exact z
theorem lv_ixS {xs : List α} {f : α → Own} (h : Lv F te Γ A (.lst ((xs.map f).set (ixI xs i) w)) put) (h2 : Ev F ti Γ (.dat (.int i))) (hb : inB xs i) : Lv F (tOp (rIxL F.K) te ti) Γ (A.ix i) w fun t' => put (.lst ((xs.map f).set (ixI xs i) t')) := by
  have hl : ((xs.map f).set (ixI xs i) w).length = xs.length := by rw [List.length_set, List.length_map]
  have hb' : inB ((xs.map f).set (ixI xs i) w) i := by unfold inB at hb ⊢; rw [hl]; exact hb
  have ix : ixI ((xs.map f).set (ixI xs i) w) i = ixI xs i := by simp only [ixI, List.length_set, List.length_map]
  have z := lv_ix h h2 hb' (by rw [ix]; exact List.getElem?_set_self (by rw [List.length_map]; exact ixI_lt hb))
  rw [ix] at z
  simp only [List.set_set] at z
  exact z
theorem owa_lastO {K : PySem.W.Frag} {B : Hp} {t : Own} : ∀ {ts : List Own} {O : Hp} {vs : List V}, OwA K B (ts ++ [t]) O vs → ∃ us v O1 O2, vs = us ++ [v] ∧ OwA K B ts O1 us ∧ Ow K B t O2 v ∧ Dj O1 O2 ∧ O = jn O1 O2
  | [], O, vs, h => by
    rw [List.nil_append] at h
    unfold OwA at h
    obtain ⟨v, r, O1, O2, rfl, a, b, dj, rfl⟩ := h
    unfold OwA at b
    obtain ⟨rfl, rfl⟩ := b
    exact ⟨[], v, emp, O1, rfl, owa_nil, a, emp_dj, by rw [jn_emp, emp_jn]⟩
  | s :: ts, O, vs, h => by
    rw [List.cons_append] at h
    unfold OwA at h
    obtain ⟨v, r, O1, O2, rfl, a, b, dj, rfl⟩ := h
    obtain ⟨us, x, P1, P2, rfl, c, e, d2, rfl⟩ := owa_lastO b
    exact ⟨v :: us, x, jn O1 P1, P2, rfl, owa_cons a c (Dj.rl dj), e, Dj.jnl (Dj.rr dj) d2, jn_assoc.symm⟩
theorem mx_popM [Inhabited α] {f : α → Own} {xs : List α} (he : Γ[n]? = some (some (oM f xs))) : MX2 F Γe Er (tBM0 F.K "list" rPop (tVar n)) Γ (fun a : α × List α => Γ.set n (some (oM f a.2))) (popR xs) fun a => f a.1 := fun _ W k T σ H ok w s Q q => by
  have w2 : W (R.guard (0 < xs.length) (k ((xs.getLast?).getD default, xs.dropLast))) := by
    unfold popR R.guard at w
    unfold R.guard
    by_cases z : 0 < xs.length
    · rw [if_pos z] at w ⊢; exact w
    · rw [if_neg z] at w; exact absurd w ok.bad
  obtain ⟨hl, w3⟩ := R.guard_ok ok w2
  have ex : xs = xs.dropLast ++ [(xs.getLast?).getD default] := by
    have hne : xs ≠ [] := by intro z; rw [z] at hl; exact absurd hl (Nat.lt_irrefl 0)
    rw [List.getLast?_eq_some_getLast hne]
    exact (List.dropLast_concat_getLast hne).symm
  have em : xs.map f = (xs.dropLast).map f ++ [f ((xs.getLast?).getD default)] := by
    conv => lhs; rw [ex]
    rw [List.map_append]
    rfl
  obtain ⟨B, u, O1, O2, e1, a, dj, P, ii, sl, k1, _⟩ := s.atn he
  unfold oM Ow at a
  obtain ⟨l, vs, Oc, rfl, oa, nl, rfl⟩ := a
  rw [em] at oa
  obtain ⟨us, x, P1, P2, rfl, oa1, ax, d12, rfl⟩ := owa_lastO oa
  have hH : H l = some (.lst (us ++ [x])) := P.oh l _ (jn_some upd_same)
  refine ⟨.ref l, e1, .inl ⟨rfl, _, SqL.of hH⟩, l, us ++ [x], x, rfl, rfl, hH, by simp, ?_⟩
  have n1 := (jn_none_iff.mp nl).1
  have n2 := (jn_none_iff.mp nl).2
  have ol : O2 l = none := by
    rcases dj l with z | z
    · rw [upd_same] at z; cases z
    · exact z
  have dc : Dj (jn P1 P2) O2 := fun b => by
    by_cases z1 : b = l
    · subst z1; exact .inl nl
    · rcases dj b with z | z
      · rw [upd_ne z1] at z; exact .inl z
      · exact .inr z
  have Pm := P.mut (a := l) (o := .lst us) (u := .lst (us ++ [x])) (jn_some upd_same)
  have eO : upd (jn (upd (jn P1 P2) l (.lst (us ++ [x]))) O2) l (.lst us) = jn P2 (jn (upd P1 l (.lst us)) O2) := by
    rw [upd_jn, upd_upd, jn_comm d12, ← jn_upd n2, jn_assoc]
  rw [eO] at Pm
  have d2u : Dj P2 (upd P1 l (.lst us)) := (Dj.upd d12 n2).symm
  have du2 : Dj (upd P1 l (.lst us)) O2 := Dj.upd (Dj.l dc) ol
  have ow : Ow F.K B (oM f xs.dropLast) (upd P1 l (.lst us)) (.ref l) := by
    unfold oM Ow
    exact ⟨l, us, P1, rfl, oa1, n1, rfl⟩
  have z := k1 B _ _ (Same.refl _) ow du2
  rw [List.dropLast_concat]
  exact q ((xs.getLast?).getD default, xs.dropLast) x _ w3 ⟨B, _, slots_own ax z (Dj.jnr d2u (dj_jn_r dc)), Pm, ii⟩
end
end Sm
namespace Sm
open PySem PySem.Spec PyProof.Rows L2 PySem.W TL
section
variable {F : Fx} {Γ Γ' Γ1 Γe : List Ent} {T : List (V × Own)} {σ : L2.St} {H H' : Hp} {v u : V} {Er : L2.St → Exn → Hp → Prop} {ρ α β γ S : Type} {W : R ρ → Prop} {D : Ends} {ta tb te ti : TE} {tr : TA} {d : Dt} {ds : List Dt} {n h j k : Nat} {i : Int} {t w : Own} {ts : List Own} {A : Adr} {put : Own → List Ent} {l : Addr} {K : PySem.W.Frag}
end
end Sm
namespace Sm
open PySem PySem.Spec PyProof.Rows L2 PySem.W TL
section
variable {F : Fx} {Γ Γ' Γ1 Γe : List Ent} {T : List (V × Own)} {σ : L2.St} {H H' : Hp} {v u : V} {Er : L2.St → Exn → Hp → Prop} {ρ α β γ S : Type} {W : R ρ → Prop} {D : Ends} {ta tb te ti : TE} {tr : TA} {d : Dt} {ds : List Dt} {n h j k : Nat} {i : Int} {t w : Own} {ts : List Own} {A : Adr} {put : Own → List Ent} {l : Addr} {K : PySem.W.Frag} {enc : α → Dt}
def MAp (F : Fx) (Γe : List Ent) (Er : L2.St → Exn → Hp → Prop) (ta : TA) (Γ Γ' : List Ent) (m : R α) (ts : α → List Own) : Prop :=
  ∀ (ρ : Type) (W : R ρ → Prop) (k : α → R ρ) T σ H, WOk F Γe Er W → W (m.bind k) → Stt F Γ T σ H → ∀ Q : List V → Hp → Prop,
    (∀ a vs H', W (k a) → (∃ B Oa Or, OwA F.K B (ts a) Oa vs ∧ Slots F.K B (T.map (fun p => some p.2) ++ Γ') Or (T.map (fun p => some p.1) ++ σ) ∧ Dj Oa Or ∧ Post F.B F.O F.H B (jn Oa Or) H' ∧ ∀ p ∈ F.ins, σ[p.1]? = some (some p.2)) → Q vs H') → ta σ H Q
theorem map_cons {m : R α} {t : α → Own} {m2 : R β} {ts : β → List Own} (h1 : MV F Γe Er te Γ m t) (h2 : MAp F Γe Er tr Γ Γ' m2 ts) : MAp F Γe Er (tCons te tr) Γ Γ' (m.bind fun a => m2.bind fun b => R.ok (a, b)) fun p => t p.1 :: ts p.2 := fun _ W k T σ H ok w s Q q => by
  rw [R.bind_assoc] at w
  refine h1 _ W _ T σ H ok w s _ fun a v H1 w1 s1 e1 => ?_
  rw [R.bind_assoc] at w1
  refine h2 _ W _ ((v, t a) :: T) σ H1 ok w1 s1 _ fun b vs H2 w2 A => ?_
  obtain ⟨B, Oa, Or, oa, sl, dj, p, ii⟩ := A
  rw [List.map_cons, List.map_cons] at sl
  unfold Slots at sl
  obtain ⟨w', r', P1, P2, e, a1, sl, d1, rfl⟩ := sl
  cases e
  have d2 : Dj Oa P1 := (Dj.l dj.symm).symm
  have d3 : Dj Oa P2 := (dj_jn_r dj.symm).symm
  refine q (a, b) (v :: vs) H2 w2 ⟨B, jn P1 Oa, P2, owa_cons a1 oa d2.symm, sl, Dj.jnl d1 d3, ?_, ii⟩
  rw [jn_comm d2.symm, jn_assoc]
  exact p
theorem mx_tupP {m : R α} {ts : α → List Own} (h : MAp F Γe Er tr Γ Γ' m ts) (hl : ∀ a, (ts a).length ≤ 1000) : MX2 F Γe Er (tTup tr) Γ (fun _ => Γ') m fun a => .tup (ts a) := fun _ W k T σ H ok w s Q q =>
  h _ W k T σ H ok w s _ fun a vs H1 w1 A => by
    obtain ⟨B, Oa, Or, oa, sl, dj, P, ii⟩ := A
    refine ⟨line_le (by rw [oa.length]; exact Nat.le_trans (hl a) (by decide)), fun p hp => ?_⟩
    have nB := none_of_same P.bh hp
    have sm : Same B (upd B p (.tup vs)) := same_upd nB
    have ow : Ow F.K (upd B p (.tup vs)) (.tup (ts a)) Oa (.ref p) := by
      unfold Ow
      exact ⟨p, vs, rfl, SqT.of upd_same, oa.mono sm⟩
    exact q a _ _ w1 ⟨_, _, slots_own ow (sl.mono sm) dj, P.newB hp, ii⟩
end
end Sm
namespace Sm
open PySem PySem.Spec PyProof.Rows L2 PySem.W TL
section
variable {F : Fx} {Γ Γ' Γ1 Γe : List Ent} {T : List (V × Own)} {σ : L2.St} {H H' : Hp} {v u : V} {Er : L2.St → Exn → Hp → Prop} {ρ α β γ S : Type} {W : R ρ → Prop} {D : Ends} {ta tb te ti : TE} {tt uu : TT} {tr : TA} {d : Dt} {n h j k : Nat}
def MTN (F : Fx) (Γe : List Ent) (Er : L2.St → Exn → Hp → Prop) (tt : TT) (Γ : List Ent) (Γn : S → List Ent) (m : R (Bool × S)) : Prop := MTX F Γe Er tt Γ (fun x : Bool × S => Γn x.2) m fun x => x.1
theorem mtn_pure {Γn : S → List Ent} (s : S) {m : R Bool} (e : Γn s = Γ) (h : MT F Γe Er tt Γ m) : MTN F Γe Er tt Γ Γn (m.bind fun b => R.ok (b, s)) := fun _ W k T σ H ok w st Q q => by
  rw [R.bind_assoc] at w
  subst e
  exact h _ W _ T σ H ok w st _ fun b H1 w1 s1 _ => q (b, s) H1 w1 s1
theorem mtn_of {Γ' : α → List Ent} {m : R α} {b : α → Bool} {Γn : S → List Ent} (st : α → S) (e : ∀ a, Γ' a = Γn (st a)) (h : MTX F Γe Er tt Γ Γ' m b) : MTN F Γe Er tt Γ Γn (m.bind fun a => R.ok (b a, st a)) := fun _ W k T σ H ok w s Q q => by
  rw [R.bind_assoc] at w
  exact h _ W _ T σ H ok w s _ fun a H1 w1 s1 => q (b a, st a) H1 w1 (by rw [e] at s1; exact s1)
theorem mtn_not {Γn : S → List Ent} {m : R (Bool × S)} (h : MTN F Γe Er tt Γ Γn m) : MTN F Γe Er (tNot tt) Γ Γn (m.bind fun x => R.ok (!x.1, x.2)) := fun _ W k T σ H ok w s Q q => by
  rw [R.bind_assoc] at w
  exact h _ W _ T σ H ok w s _ fun x H1 w1 s1 => q (!x.1, x.2) H1 w1 s1
theorem mtn_or {Γn : S → List Ent} {m1 : R (Bool × S)} {m2 : S → R (Bool × S)} (h1 : MTN F Γe Er tt Γ Γn m1) (h2 : ∀ s, MTN F Γe Er uu (Γn s) Γn (m2 s)) : MTN F Γe Er (tOr tt uu) Γ Γn (m1.bind fun x => if x.1 = true then R.ok (true, x.2) else m2 x.2) := fun _ W k T σ H ok w s Q q => by
  rw [R.bind_assoc] at w
  refine h1 _ W _ T σ H ok w s _ fun x H1 w1 s1 => ?_
  obtain ⟨b, x⟩ := x
  cases b with
  | true =>
    show Q true H1
    exact q (true, x) H1 w1 s1
  | false =>
    show uu σ H1 Q
    exact h2 x _ W k T σ H1 ok w1 s1 Q fun a H2 w2 s2 => q a H2 w2 s2
end
end Sm
namespace Sm
open PySem PySem.Spec PyProof.Rows L2 PySem.W TL
def Adr.key (A : Adr) (k : Key) : Adr := ⟨fun σ H u => ∃ p kvs, A.at_ σ H (.ref p) ∧ H p = some (.dK kvs) ∧ valV kvs k = some u,
  fun ⟨p, kvs, a, b, c⟩ ⟨p', kvs', a', b', c'⟩ => by
    have e := A.fn a a'
    cases e
    rw [b] at b'
    cases b'
    rw [c] at c'
    cases c'
    rfl,
  fun s ⟨p, kvs, a, b, c⟩ => ⟨p, kvs, A.mono s a, s _ _ b, c⟩⟩
section
variable {K : PySem.W.Frag} {Γ Γ' : List Ent} {A : Adr} {t : Own} {put : Own → List Ent} {n j : Nat} {ks : List Key} {k : Key} {xs : List Own} {i : Int} {B B' : Hp}
end
section
variable {F : Fx} {Γ Γ' Γ1 Γe : List Ent} {T : List (V × Own)} {σ : L2.St} {H H' : Hp} {v u : V} {Er : L2.St → Exn → Hp → Prop} {ρ α β γ S : Type} {W : R ρ → Prop} {D : Ends} {ta tb te ti tk : TE} {tt uu : TT} {tr : TA} {d : Dt} {n h j : Nat} {A : Adr} {t : Own} {put : Own → List Ent} {ks : List Key} {k : Key} {xs : List Own} {x : List Nat}
end
section
variable {F : Fx} {Γ : List Ent} {td tk : TE} {α β : Type} [DecidableEq α] {kk : α → Key} {kq : α → List Key} {enc : β → Dt} {kvs : List (α × β)} {kd : α → Dt} {ky : α}
end
end Sm
namespace Sm
open PySem PySem.Spec PyProof.Rows L2 L2.DX PySem.W Sy
section
variable {F : Fx} {Γ Γ' Γe : List Ent} {T : List (V × Own)} {σ : L2.St} {H H' : Hp} {v : V} {Er : L2.St → Exn → Hp → Prop} {ρ α β γ δ S : Type} {W : R ρ → Prop} {D : Ends} {ta tb tc te td tk : TE} {tt : TT} {d e : Dt} {ds : List Dt} {n : Nat} {l : Addr} {od : Obj} {ks : List (List Key)} {us : List V} {t t0 : Own} {A : Adr} {put : Own → List Ent}
end
end Sm
namespace Sm
open PySem PySem.Spec PyProof.Rows L2 PySem.W
section
variable {K : PySem.W.Frag} {Γ Γ' Γ1 Γe : List Ent} {A : Adr} {t : Own} {put : Own → List Ent} {u : V} {n : Nat}
theorem ow_at {B O : Hp} {v : V} (h : Ow K B (.at_ u t) O v) : v = u ∧ Ow K B t O v := by unfold Ow at h; exact h
theorem ow_at' {B O : Hp} {v : V} (h : v = u ∧ Ow K B t O v) : Ow K B (.at_ u t) O v := by unfold Ow; exact h
end
section
variable {F : Fx} {Γ Γ' Γ1 Γe Γx : List Ent} {T : List (V × Own)} {σ : L2.St} {H H' : Hp} {v u : V} {Er : L2.St → Exn → Hp → Prop} {ρ α β γ S : Type} {W : R ρ → Prop} {D : Ends} {ta tb tc te ti tk : TE} {tt : TT} {tr : TA} {d e : Dt} {ds : List Dt} {n j : Nat} {C : Addr} {fs : List Str} {f m' : Str} {xs ts : List Own} {A : Adr} {t : Own} {put : Own → List Ent} {i : Int}
def MXN (F : Fx) (Γe : List Ent) (Er : L2.St → Exn → Hp → Prop) (te : TE) (Γ : List Ent) (Γn : S → List Ent) (m : R (Bool × S)) : Prop := MX2 F Γe Er te Γ (fun x : Bool × S => Γn x.2) m fun x => .dat (.bl x.1)
theorem mxn_pure {Γn : S → List Ent} (s : S) {m : R Bool} (e : Γn s = Γ) (h : MV F Γe Er te Γ m oB) : MXN F Γe Er te Γ Γn (m.bind fun b => R.ok (b, s)) := fun _ W k T σ H ok w st Q q => by
  rw [R.bind_assoc] at w
  subst e
  exact h _ W _ T σ H ok w st _ fun b v H1 w1 s1 _ => q (b, s) v H1 w1 s1
theorem mxn_of {Γ' : α → List Ent} {m : R α} {b : α → Bool} {Γn : S → List Ent} (st : α → S) (e : ∀ a, Γ' a = Γn (st a)) (h : MX2 F Γe Er te Γ Γ' m fun a => .dat (.bl (b a))) : MXN F Γe Er te Γ Γn (m.bind fun a => R.ok (b a, st a)) := fun _ W k T σ H ok w s Q q => by
  rw [R.bind_assoc] at w
  exact h _ W _ T σ H ok w s _ fun a v H1 w1 s1 => q (b a, st a) v H1 w1 (by rw [e] at s1; exact s1)
theorem mxn_and {Γn : S → List Ent} {m1 : R (Bool × S)} {m2 : S → R (Bool × S)} (h1 : MXN F Γe Er ta Γ Γn m1) (h2 : ∀ s, MXN F Γe Er tb (Γn s) Γn (m2 s)) : MXN F Γe Er (tAndV ta tb) Γ Γn (m1.bind fun x => if x.1 = true then m2 x.2 else R.ok (false, x.2)) := fun _ W k T σ H ok w s Q q => by
  rw [R.bind_assoc] at w
  refine h1 _ W _ T σ H ok w s _ fun x v H1 w1 s1 => ?_
  obtain ⟨b, x⟩ := x
  obtain ⟨B, eb, r⟩ := s1.topd
  unfold Rp at r
  subst r
  refine ⟨b, rfl, ?_⟩
  cases b with
  | true =>
    rw [if_pos rfl]
    exact h2 x _ W k T σ H1 ok w1 s1.pop Q fun a v H2 w2 s2 => q a v H2 w2 s2
  | false =>
    rw [if_neg Bool.false_ne_true]
    exact q (false, x) _ H1 w1 s1
end
end Sm
namespace Sm
open PySem PySem.Spec PyProof.Rows L2 PySem.W
section
variable {K : PySem.W.Frag} {B : Hp}
end
section
variable {F : Fx} {Γ Γ' Γ1 Γe Γx : List Ent} {T : List (V × Own)} {σ : L2.St} {H H' : Hp} {v u : V} {Er : L2.St → Exn → Hp → Prop} {ρ α β γ S : Type} {W : R ρ → Prop} {D : Ends} {ta tb tc te ti tk tp : TE} {to : TO} {tr : TA} {d e : Dt} {ds : List Dt} {n j : Nat} {l : Addr} {xs ts : List Own} {A : Adr} {t : Own} {put : Own → List Ent} {i : Int}
theorem map_nil : MAp F Γe Er tNil Γ Γ (R.ok ()) fun _ => [] := fun _ W k T σ H ok w s Q q => by
  obtain ⟨B, O, sl, p, ii⟩ := s
  exact q () [] H w ⟨B, emp, O, owa_nil, sl, emp_dj, by rw [emp_jn]; exact p, ii⟩
theorem mx_slot {a : α} {f : α → Own} (he : Γ[n]? = some (some (f a))) : MX2 F Γe Er (tVar n) Γ (fun _ => Γ.set n none) (R.ok a) f := fun _ W k T σ H ok w s Q q => by
  obtain ⟨B, v, O1, O2, e1, ow, dj, P, ii, _, _, k2⟩ := s.atn he
  exact ⟨v, e1, q a v H w ⟨B, _, slots_own ow (k2 B (Same.refl _)) dj, P, ii⟩⟩
theorem s_lvAppX {t : α → Own} {m : R α} {k : α → R ρ} {Γ' : α → List Ent} {put2 : α → Own → List Ent} (hst : Stt F Γ T σ H) (hw : W (m.bind fun a => R.guard (xs.length < 16777216) (k a))) (ok : WOk F Γe Er W) (hL : Lv F ta Γ A (.lst xs) put) (h : MX2 F Γe Er te Γ Γ' m t) (hL2 : ∀ a, Loc F.K (Γ' a) A (.lst xs) (put2 a))
    (hAv : ∀ a σ H H' u, Same H H' ∨ True → A.at_ σ H u → Stt F (Γ' a) T σ H' → A.at_ σ H' u)
    (q : ∀ a σ' H', W (k a) → Stt F (put2 a (.lst (xs ++ [t a]))) T σ' H' → D.nx σ' H') : tDrop (tBM F.K "list" rAppend ta (tCons te tNil)) D σ H := by
  refine hL.ev T σ H hst _ fun u H0 au e0 s0 => ?_
  obtain ⟨B0, u0, O10, Or0, a0, _, ow0, dj0, P0, _⟩ := hL.loc.stt s0
  cases A.fn au a0
  have ow0' := ow0
  unfold Ow at ow0'
  obtain ⟨l, vs0, Oc0, rfl, _, _, rfl⟩ := ow0'
  refine .inl ⟨rfl, _, SqL.of (P0.oh l _ (jn_some upd_same))⟩ |> fun z => ⟨z, ?_⟩
  refine h _ W _ T σ H0 ok hw s0 _ fun a y H1 w s1 => ?_
  obtain ⟨hl, w⟩ := R.guard_ok ok w
  obtain ⟨B, Ot, O1, Or, at_, ow, dt, dj, P, ii, kk⟩ := (hL2 a).mut1 s1 (hAv a σ H0 H1 _ (.inr trivial) au s1.pop)
  unfold Ow at ow
  obtain ⟨l', vs, Oc, el, oa, nl, rfl⟩ := ow
  cases el
  obtain ⟨tl, dt2⟩ := dj_upd (Dj.rl dt) nl
  have dtr : Dj Ot Or := Dj.rr dt
  have orl : Or l = none := by
    rcases dj l with z | z
    · rw [upd_same] at z; cases z
    · exact z
  have dcr : Dj Oc Or := fun b => by
    by_cases z1 : b = l
    · subst z1; exact .inl nl
    · rcases dj b with z | z
      · rw [upd_ne z1] at z; exact .inl z
      · exact .inr z
  have hold : jn Ot (jn (upd Oc l (.lst vs)) Or) l = some (.lst vs) := by
    rw [jn_none tl]
    exact jn_some upd_same
  refine ⟨l, vs, y, rfl, rfl, P.oh l _ hold, by rw [oa.length]; exact line_lt hl, ?_⟩
  have Pm := P.mut (a := l) (o := .lst (vs ++ [y])) hold
  have eO : upd (jn Ot (jn (upd Oc l (.lst vs)) Or)) l (.lst (vs ++ [y])) = jn (upd (jn Oc Ot) l (.lst (vs ++ [y]))) Or := by
    rw [← jn_assoc, upd_jn, jn_upd tl, upd_upd, jn_comm dt2]
  rw [eO] at Pm
  have b1 : Ow F.K B (.lst (xs ++ [t a])) (upd (jn Oc Ot) l (.lst (vs ++ [y]))) (.ref l) := by
    unfold Ow
    exact ⟨l, vs ++ [y], jn Oc Ot, rfl, owa_snoc at_ oa dt2.symm, jn_none_iff.mpr ⟨nl, tl⟩, rfl⟩
  exact q a σ _ w ⟨B, _, kk B _ _ (Same.refl _) b1 (Dj.upd (Dj.jnl dcr dtr) orl), Pm, ii⟩
end
section
variable {X : Cx} {CX : CXT} {k : Nat} {f C : Addr} {fd : FuncData} {ps : List Str} {sp : Sp} {E : L2.St → XK} {x m : Str} {p pos apos : Pos} {e o : Expr} {es : List Expr} {t : TA}
end
section
variable {F : Fx} {Γ Γ' Γe : List Ent} {Er : L2.St → Exn → Hp → Prop} {α : Type} {tr : TA}
end
section
variable {F : Fx} {Γ Γe : List Ent} {Er : L2.St → Exn → Hp → Prop} {α γ : Type} {te : TE}
end
section
variable {F : Fx} {Γ Γ' Γe : List Ent} {T : List (V × Own)} {σ : L2.St} {H H' : Hp} {v : V} {Er : L2.St → Exn → Hp → Prop} {ρ α β γ S : Type} {W : R ρ → Prop} {ta tb te : TE} {tr : TA} {d : Dt} {ds : List Dt} {i : Int}
end
section
variable {F : Fx} {Γe : List Ent} {T : List (V × Own)} {σ : L2.St} {H : Hp} {Er : L2.St → Exn → Hp → Prop} {ρ α β γ δ S : Type} {W : R ρ → Prop} {te : TE}
end
def Dt.isLs : Dt → Bool
  | .lst _ => true
  | _ => false
def Dt.isTp : Dt → Bool
  | .tup _ => true
  | .kt _ => true
  | _ => false
def gZq (d e : Dt) : Prop := (Dt.isLs d = true ∧ Dt.isLs e = true) ∨ (Dt.isTp d = true ∧ Dt.isTp e = true)
instance (d e : Dt) : Decidable (gZq d e) := by unfold gZq; infer_instance
def zipQ (p : Dt × Dt) : List (Dt × Dt) := (Dt.asQ p.1).zip (Dt.asQ p.2)
section
variable {F : Fx} {Γ Γe : List Ent} {T : List (V × Own)} {σ : L2.St} {H : Hp} {Er : L2.St → Exn → Hp → Prop} {ρ α β γ : Type} {W : R ρ → Prop} {ta tb te : TE} {d : Dt}
theorem SttA.re {vs : List V} {ds es : List Dt} (h : SttA F Γ T vs ds σ H) (k : ∀ B, RpA F.K B ds vs → RpA F.K B es vs) : SttA F Γ T vs es σ H := by
  obtain ⟨B, O, r, sl, p, ii⟩ := h
  exact ⟨B, O, k B r, sl, p, ii⟩
theorem isTp_eq (h : Dt.isTp d = true) {B : Hp} {K : PySem.W.Frag} {v : V} (r : Rp K B d v) : Rp K B (.tup (Dt.asQ d)) v := by
  cases d with
  | tup l => exact r
  | kt l => exact Rp.kt r
  | _ => cases h
theorem ev_lenQ (g : Dt.isQ d = true) (h : Ev F te Γ (.dat d)) : Ev F (tCB (fun xs H Q => ∃ p ys, xs = [.ref p] ∧ (SqL F.K H p ys ∨ SqT F.K H p ys) ∧ Q (.int ys.length) H) (tCons te tNil)) Γ (.dat (.int ((Dt.asQ d).length : Int))) := by
  cases d with
  | lst l => exact ev_lenL (el_dat h)
  | tup l => exact ev_lenT h
  | kt l => exact ev_lenT (ds := l.map kDt) fun T σ H s Q q => h T σ H s _ fun v H1 s1 e1 => q v H1 (s1.re fun _ r => Rp.kt r) e1
  | _ => cases g
theorem sr_zipQ {m : R γ} {d e : γ → Dt} (h : MA F Γe Er (tCons ta (tCons tb tNil)) Γ m fun b => [d b, e b]) :
    Sr F Γe Er (RZ.iZipA F.K (tCons ta (tCons tb tNil))) Γ (m.bind fun b => R.guard (gZq (d b) (e b)) (R.ok b)) (fun b => (Dt.asQ (d b)).zip (Dt.asQ (e b))) (e2 eA eA) := fun _ W k T σ H ok w s Ri q => by
  rw [R.bind_assoc] at w
  refine h _ W _ T σ H ok w s _ fun b vs H1 w1 s1 ee => ?_
  have w2 : W (R.guard (gZq (d b) (e b)) (k b)) := by
    unfold R.guard at w1 ⊢
    split at w1
    · rw [if_pos (by assumption)]; exact w1
    · exact absurd w1 ok.bad
  obtain ⟨g, w3⟩ := R.guard_ok ok w2
  have hl : vs.length = 2 := by obtain ⟨B, O, r, _⟩ := s1; exact r.length
  match vs, hl with
  | [v1, v2], _ =>
    have em : ∀ x y : List Dt, (x.zip y).map (e2 eA eA) = (x.zip y).map fun p => Dt.tup [p.1, p.2] := fun x y => rfl
    rcases g with ⟨g1, g2⟩ | ⟨g1, g2⟩
    · have s2 : SttA F Γ T [v1, v2] [.lst (Dt.asQ (d b)), .lst (Dt.asQ (e b))] σ H1 := s1.re fun B r => by
        have r : RpA F.K B [d b, e b] [v1, v2] := r
        cases hd : d b <;> rw [hd] at g1 r <;> first | (cases g1; done) | skip
        cases he : e b <;> rw [he] at g2 r <;> first | (cases g2; done) | skip
        exact r
      have s3 := s2.two
      obtain ⟨B, O, sl, P, ii, r1, r2⟩ := Stt.deep2 (T' := []) s3
      unfold Rp at r1 r2
      obtain ⟨l1, us, rfl, hl1, ra⟩ := r1
      obtain ⟨l2, ws, rfl, hl2, rb⟩ := r2
      refine ⟨l1, l2, us, ws, rfl, .inl ⟨SqL.of (P.bh _ _ hl1), SqL.of (P.bh _ _ hl2), ?_⟩⟩
      refine q b [_, _] _ H1 w3 s3 ee ?_
      rw [em]
      exact wks_zipL
    · have s2 : SttA F Γ T [v1, v2] [.tup (Dt.asQ (d b)), .tup (Dt.asQ (e b))] σ H1 := s1.re fun B r => by
        have r : RpA F.K B [d b, e b] [v1, v2] := r
        unfold RpA at r
        obtain ⟨x, r', ex, rx, ry⟩ := r
        unfold RpA at ry
        obtain ⟨y, r'', ey, ry, rz⟩ := ry
        subst ey
        cases ex
        exact rpa_cons (isTp_eq g1 rx) (rpa_cons (isTp_eq g2 ry) rz)
      have s3 := s2.two
      obtain ⟨B, O, sl, P, ii, r1, r2⟩ := Stt.deep2 (T' := []) s3
      unfold Rp at r1 r2
      obtain ⟨l1, us, rfl, hl1, ra⟩ := r1
      obtain ⟨l2, ws, rfl, hl2, rb⟩ := r2
      refine ⟨l1, l2, us, ws, rfl, .inr ⟨sqt_mono P.bh hl1, sqt_mono P.bh hl2, ?_⟩⟩
      refine q b [_, _] _ H1 w3 s3 ee ?_
      rw [em]
      exact wks_zipT
end
section
variable {F : Fx} {Γ Γe : List Ent} {Er : L2.St → Exn → Hp → Prop} {α β : Type} {ta tb tc te : TE} {t t' : Own} {A : Adr} {put : Own → List Ent}
end
end Sm
namespace L2
open PySem PySem.Spec PyProof.Rows
end L2
namespace Sm
open PySem PySem.Spec PyProof.Rows L2 PySem.W
section
variable {F : Fx} {Γ : List Ent} {td : TE} {β : Type}
end
section
variable {F : Fx} {Γ Γe : List Ent} {T : List (V × Own)} {σ : L2.St} {H H' : Hp} {v : V} {Er : L2.St → Exn → Hp → Prop} {ρ α β δ S : Type} {W : R ρ → Prop} {D : Ends} {ta tb tc te : TE} {n : Nat} [DecidableEq α] {kk : α → Key} {enc : β → Dt}
end
end Sm
namespace Sm
open PySem PySem.Spec PyProof.Rows L2 PySem.W
def rEqN : R2 := fun x y H Q => ∃ (a b : Addr) (xs : List V), x = .ref a ∧ y = .ref b ∧ H a = some (.lst xs) ∧ H b = some (.lst []) ∧ Q (.bl (decide (xs.length = 0))) H
def rNeN : R2 := fun x y H Q => ∃ (a b : Addr) (xs : List V), x = .ref a ∧ y = .ref b ∧ H a = some (.lst xs) ∧ H b = some (.lst []) ∧ Q (.bl (!decide (xs.length = 0))) H
theorem op_eqN {X : Cx} (hu : X.A.units < cLine) : OpR X (compareOp .Eq) rEqN := by
  intro pins s σ H x y v u Q I rx ry h
  obtain ⟨a, b, xs, rfl, rfl, ea, eb, q⟩ := h
  obtain rfl : v = Value.ref a := rx
  obtain rfl : u = Value.ref b := ry
  obtain ⟨its, rv, ⟨o, n, ho, hc, _, hd⟩, _⟩ := I.list (SqL.of ea)
  obtain ⟨its2, rv2, ⟨o2, n2, ho2, hc2, _, hd2⟩, _⟩ := I.list (SqL.of eb)
  cases rv2
  have hl : s.heap.IsList a its.toArray := ⟨o, ho, hc, n, hd⟩
  have hb : s.heap.IsList b (#[] : Array Value) := ⟨o2, ho2, hc2, n2, hd2⟩
  have e1 := rv.length
  cases xs with
  | nil =>
    cases rv
    exact PySem.SeqAt.eq_listAt (e := fun _ => true) hl hb rfl hu (fun j h1 => absurd h1 (Nat.not_lt_zero _)) ⟨.bl _, H, I, rfl, q⟩
  | cons z zs =>
    refine PySem.SeqAt.eq_list_lengthsAt hl hb ?_ hu ⟨.bl _, H, I, rfl, q⟩
    simp only [List.size_toArray, ← e1]
    simp
theorem op_neN {X : Cx} (hu : X.A.units < cLine) : OpR X (compareOp .NotEq) rNeN := by
  intro pins s σ H x y v u Q I rx ry h
  obtain ⟨a, b, xs, rfl, rfl, ea, eb, q⟩ := h
  obtain rfl : v = Value.ref a := rx
  obtain rfl : u = Value.ref b := ry
  obtain ⟨its, rv, ⟨o, n, ho, hc, _, hd⟩, _⟩ := I.list (SqL.of ea)
  obtain ⟨its2, rv2, ⟨o2, n2, ho2, hc2, _, hd2⟩, _⟩ := I.list (SqL.of eb)
  cases rv2
  have hl : s.heap.IsList a its.toArray := ⟨o, ho, hc, n, hd⟩
  have hb : s.heap.IsList b (#[] : Array Value) := ⟨o2, ho2, hc2, n2, hd2⟩
  have e1 := rv.length
  cases xs with
  | nil =>
    cases rv
    exact PySem.SeqAt.RcNeAt.lists (e := fun _ => true) hl hb rfl hu (fun j h1 => absurd h1 (Nat.not_lt_zero _)) _ _ _ _ ⟨.bl _, H, I, rfl, q⟩
  | cons z zs =>
    refine PySem.SeqAt.RcNeAt.lists_lengths hl hb ?_ hu _ _ _ _ ⟨.bl _, H, I, rfl, q⟩
    simp only [List.size_toArray, ← e1]
    simp
def oexB (x : Str) (K : PySem.W.Frag) : Bool := (match K.lookup (He.ga K x) with
  | some ⟨.type "type", _, .cls cd, sl⟩ => (match cd.mro, sl.toList with
    | .ref C' :: bm, [_, _, _, _, some (.builtin n), _] => C' == He.ga K x && n == "ValueError.__new__" && !cd.hasDel && PySem.HandSPX.refsVE bm && cd.hasDict
    | _, _ => false)
  | _ => false) && (decide (PySem.W.findIn K (.ref (He.ga K x)) "__setattr__" = some (some (.builtin "object.__setattr__"))) && (decide (PySem.W.subIn K (.ref (He.ga K x)) (.type "BaseException") = some true) && (decide (PySem.W.typeIn K (.ref (He.ga K x)) = some (.type "type")) && PySem.W.keepIn K (.ref (He.ga K x)))))
theorem oexB_ok {x : Str} {K : PySem.W.Frag} (h : oexB x K = true) : OexC K (He.ga K x) := by
  unfold oexB at h
  simp only [Bool.and_eq_true, decide_eq_true_eq] at h
  obtain ⟨q, h1, h2, h3, h4⟩ := h
  refine ⟨?_, h1, h2, h3, h4⟩
  split at q
  · rename_i dd cd sl ho
    split at q
    · rename_i C' bm k0 k1 k2 k3 n k5 hm hs
      simp only [Bool.and_eq_true, beq_iff_eq, Bool.not_eq_true'] at q
      obtain ⟨⟨⟨⟨e1, e2⟩, hdel⟩, hr⟩, hdct⟩ := q
      obtain ⟨nm, bs, mro, ns, qn, hd, sn, sub, ab, col, del⟩ := cd
      dsimp only at hm hdel hdct
      subst hm hdel hdct e2
      rw [e1] at ho
      have hsl : sl = #[k0, k1, k2, k3, some (.builtin "ValueError.__new__"), k5] := by
        obtain ⟨l⟩ := sl
        simp only at hs
        rw [hs]
      subst hsl
      exact ⟨nm, qn, ns, bs, bm, sn, sub, ab, col, dd, k0, k1, k2, k3, k5, ho, hr⟩
    · cases q
  · cases q
def spXi (C : Addr) (f : Str) : Sp := fun vs H Q _ => ∃ a v, vs = [.ref a, v] ∧ H a = some (exo a C none) ∧ ∀ dx, H dx = none → dx ≠ a → Q .non (upd (upd H dx (exd dx [(f, v)])) a (exo a C (some dx)))
theorem spXi_len {C : Addr} {f : Str} {vs : List V} {H : Hp} {Q : VK} {E : XK} (h : spXi C f vs H Q E) : vs.length = 2 := by
  obtain ⟨a, v, rfl, _⟩ := h
  rfl
theorem xi_body {K : PySem.W.Frag} {C : Addr} {f : Str} {N : List Str} {vs : List V} {H : Hp} {Q : VK} {E : XK} (T : OexC K C) (no : PySem.W.findIn K (.ref C) f = some none) (h : spXi C f vs H Q E) :
    tOst K f (tVar 0) (tVar 1) { nx := fun _ H' => Q .non H', rt := Q } (L2.start N vs) H := by
  obtain ⟨a, v, rfl, ea, q⟩ := h
  exact ⟨v, rfl, .ref a, rfl, a, C, rfl, T, no, .inl ⟨ea, fun dx n ne => q dx n ne⟩⟩
section
variable {F : Fx} {Γ Γ' Γ1 Γe : List Ent} {T : List (V × Own)} {σ : L2.St} {H H' : Hp} {v : V} {Er : L2.St → Exn → Hp → Prop} {ρ α β γ S : Type} {W : R ρ → Prop} {D : Ends} {ta tb tc te ti : TE} {tr : TA} {d : Dt} {ds : List Dt} {n j : Nat} {i : Int} {t t1 : Own} {ts : List Own} {A : Adr} {put : Own → List Ent} {C : Addr} {fs : List Str} {f m' : Str}
theorem ev_eqNilM {fo : α → Own} {xs : List α} (h : Lv F te Γ A (oM fo xs) put) : Ev F (tOp rEqN te (tLst tNil)) Γ (.dat (.bl (decide (xs.length = 0)))) := fun T σ H s Q q =>
  h.ev T σ H s _ fun u H1 a e1 s1 => by
    obtain ⟨B, u', O1, Or, a', _, ow, dj, P, ii, sl, k⟩ := h.loc.stt s1
    cases A.fn a a'
    unfold oM Ow at ow
    obtain ⟨l, vs, O', rfl, oa, nl, rfl⟩ := ow
    have hl := P.oh l _ (jn_some upd_same)
    have el : vs.length = xs.length := by rw [oa.length, List.length_map]
    refine ⟨Nat.zero_le _, fun y hy => ⟨l, y, vs, rfl, rfl, (same_upd hy) _ _ hl, upd_same, ?_⟩⟩
    rw [el]
    exact q _ _ ((s1.grow (same_upd hy)).push fun _ _ => by unfold Rp; rfl) (e1.trans (same_upd hy))
theorem ev_neNilM {fo : α → Own} {xs : List α} (h : Lv F te Γ A (oM fo xs) put) : Ev F (tOp rNeN te (tLst tNil)) Γ (.dat (.bl (!decide (xs.length = 0)))) := fun T σ H s Q q =>
  h.ev T σ H s _ fun u H1 a e1 s1 => by
    obtain ⟨B, u', O1, Or, a', _, ow, dj, P, ii, sl, k⟩ := h.loc.stt s1
    cases A.fn a a'
    unfold oM Ow at ow
    obtain ⟨l, vs, O', rfl, oa, nl, rfl⟩ := ow
    have hl := P.oh l _ (jn_some upd_same)
    have el : vs.length = xs.length := by rw [oa.length, List.length_map]
    refine ⟨Nat.zero_le _, fun y hy => ⟨l, y, vs, rfl, rfl, (same_upd hy) _ _ hl, upd_same, ?_⟩⟩
    rw [el]
    exact q _ _ ((s1.grow (same_upd hy)).push fun _ _ => by unfold Rp; rfl) (e1.trans (same_upd hy))
theorem s_raiseD {m : R Int} {C : Addr} {E : XK} (hst : Stt F Γ T σ H) (hw : W (m.bind fun r => .err (.noDealing r))) (ok : WOk F Γe Er W) (wk : Wk Γ Γe) (h : MV F Γe Er te Γ m (oD eI))
    (hE : ∀ r H d, Er σ (.noDealing r) H → H d = some (.xd [(("row" : Str), V.int r)]) → E (.ref C) (some d) H) :
    tMkO C (spXi C "row") [] (tCons te tNil) σ H fun cls d H' => E cls d H' := by
  refine h _ W _ T σ H ok hw hst _ fun r v H1 w s1 e1 => ?_
  obtain ⟨B, _, rr⟩ := s1.topd
  cases rp_int rr
  refine ⟨by show 1 ≤ 1000; decide, fun a ha => ⟨a, .int r, rfl, upd_same, fun dx hdx ne => ?_⟩⟩
  rw [upd_ne ne] at hdx
  refine ⟨rfl, dx, _, upd_same, by rw [upd_ne ne]; exact upd_same, hdx, ?_⟩
  have eH : upd (del (upd (upd (upd H1 a (exo a C none)) dx (exd dx [(("row" : Str), V.int r)])) a (exo a C (some dx))) a) dx (HO.xd [(("row" : Str), V.int r)]) = upd H1 dx (.xd [(("row" : Str), V.int r)]) := by
    funext b
    by_cases c : b = dx
    · rw [c, upd_same, upd_same]
    · rw [upd_ne c, upd_ne c]
      by_cases c2 : b = a
      · rw [c2, del_same, ha]
      · rw [del_ne c2, upd_ne c2, upd_ne c, upd_ne c2]
  rw [eH]
  refine hE r _ dx (ok.err _ w σ _ ?_) upd_same
  obtain ⟨B, O, sl, p, ii⟩ := Stt.pops (T := T) s1.pop
  have nB := none_of_same p.bh hdx
  exact Stt.weak ⟨_, O, sl.mono (same_upd nB), p.newB hdx, ii⟩ wk
def DictOf (e : Exn) (d : Option Addr) (H : Hp) : Prop := match e with
  | .noDealing r => ∃ a, d = some a ∧ H a = some (.xd [(("row" : Str), V.int r)])
  | _ => d = none
def spPm (C : Addr) (ft f1 f2 : Str) : Sp := fun vs H Q _ => ∃ p dx fs b u, vs = [.ref p] ∧ H p = some (.ins C dx fs) ∧ fs.lookup ft = some (.bl b) ∧ fs.lookup (if b = true then f2 else f1) = some u ∧ Q u H
theorem spPm_len {C : Addr} {ft f1 f2 : Str} {vs : List V} {H : Hp} {Q : VK} {E : XK} (h : spPm C ft f1 f2 vs H Q E) : vs.length = 1 := by
  obtain ⟨a, _, _, _, _, rfl, _⟩ := h
  rfl
theorem pm_body {K : PySem.W.Frag} {ft f1 f2 : Str} {N : List Str} {vs : List V} {H : Hp} {Q : VK} {E : XK} (c : Cls K C) (n0 : NoAttr K C ft) (n1 : NoAttr K C f1) (n2 : NoAttr K C f2) (h : spPm C ft f1 f2 vs H Q E) :
    tSeq (tIfS (tB (tFld K (tVar 0) ft)) (tRet (tFld K (tVar 0) f2)) tNext) (tRet (tFld K (tVar 0) f1)) { nx := fun _ H' => Q .non H', rt := Q } (L2.start N vs) H := by
  obtain ⟨p, dx, fs, b, u, rfl, hp, h1, h2, q⟩ := h
  refine ⟨.ref p, rfl, p, C, dx, fs, .bl b, rfl, hp, c, n0, h1, b, rfl, ?_⟩
  cases b with
  | true => exact ⟨.ref p, rfl, p, C, dx, fs, u, rfl, hp, c, n2, h2, q⟩
  | false => exact ⟨.ref p, rfl, p, C, dx, fs, u, rfl, hp, c, n1, h2, q⟩
theorem lv_pm2 {e : α → Dt} {b : Bool} {t0 : Own} {l1 l2 : List α} {f0 ft f1 f2 : Str} {Ex : L2.St → XK} (h : Lv F te Γ A (.ins C [f0, ft, f1, f2] [t0, .dat (.bl b), oL e l1, oL e l2]) put) (hm : ∀ vs : List V, ([f0, ft, f1, f2].zip vs).lookup m' = none)
    (k1 : ∀ vs : List V, vs.length = [f0, ft, f1, f2].length → ([f0, ft, f1, f2].zip vs).lookup ft = vs[1]?) (k2 : ∀ vs : List V, vs.length = [f0, ft, f1, f2].length → ([f0, ft, f1, f2].zip vs).lookup f1 = vs[2]?) (k3 : ∀ vs : List V, vs.length = [f0, ft, f1, f2].length → ([f0, ft, f1, f2].zip vs).lookup f2 = vs[3]?) :
    Lv F (tMethP C m' (spPm C ft f1 f2) Ex te tNil) Γ (if b = true then A.fld f2 else A.fld f1) (oL e (if b = true then l2 else l1)) (fun t => put (.ins C [f0, ft, f1, f2] (if b = true then [t0, .dat (.bl b), oL e l1, t] else [t0, .dat (.bl b), t, oL e l2]))) := by
  have lt := loc_fld (j := 1) (t := .dat (.bl b)) h.loc rfl k1
  have key : ∀ (f : Str) (lc : ∃ t put', Loc F.K Γ (A.fld f) t put') T σ H, Stt F Γ T σ H → (if b = true then f2 else f1) = f → ∀ Q : VK, (∀ u H', (A.fld f).at_ σ H' u → Same H H' → Stt F Γ T σ H' → Q u H') → tMethP C m' (spPm C ft f1 f2) Ex te tNil σ H Q := by
    intro f ⟨t, put', lc⟩ T σ H s ef Q q
    refine h.ev T σ H s _ fun u H1 au e1 s1 => ?_
    obtain ⟨B2, u2, P1, Pr, c1, c1', ow, dj, P, ii, sl, kk⟩ := h.loc.stt s1
    cases A.fn au c1
    unfold Ow at ow
    obtain ⟨p, dx, vs0, Oc, rfl, oa, np, nx, ne, hfl, rfl⟩ := ow
    have hp := P.oh p _ (jn_some upd_same)
    obtain ⟨_, w1, _, _, a1, _, ow1, _⟩ := lt.stt s1
    obtain ⟨_, w2, _, _, a2, _⟩ := lc.stt s1
    have a2' := a2
    obtain ⟨p1, C1, d1, fs1, x1, y1, z1⟩ := a1
    obtain ⟨p2, C2, d2, fs2, x2, y2, z2⟩ := a2
    cases A.fn au x1
    cases A.fn au x2
    rw [hp] at y1 y2
    cases y1
    cases y2
    obtain ⟨r1, _⟩ := ow1.rp
    have r1' : w1 = .bl b := by unfold Rp at r1; exact r1
    subst r1'
    exact ⟨p, _, _, rfl, hp, hm _, p, _, _, b, w2, rfl, hp, z1, by rw [ef]; exact z2, q w2 H1 a2' e1 s1⟩
  cases b with
  | true =>
    have lc := loc_fld (j := 3) (t := oL e l2) h.loc rfl k3
    exact ⟨lc, fun T σ H s Q q => key f2 ⟨_, _, lc⟩ T σ H s rfl Q q⟩
  | false =>
    have lc := loc_fld (j := 2) (t := oL e l1) h.loc rfl k2
    exact ⟨lc, fun T σ H s Q q => key f1 ⟨_, _, lc⟩ T σ H s rfl Q q⟩
end
section
variable {F : Fx} {Γ : List Ent} {α : Type} {te : TE}
end
end Sm
namespace PySem.W
open PySem PySem.Spec PySem.Calls PyProof.Rows
section
variable {prog : Program} {w : World} {A : Around} {E : Value → Shared → Prop} {s : Shared} {K : Frag} {x D : Addr} {ox : Obj} {od : Option Obj}
end
end PySem.W
namespace Sm
open PySem PySem.Spec PyProof.Rows L2 PySem.W
section
variable {F : Fx} {Γ Γ' Γe : List Ent} {T : List (V × Own)} {σ : L2.St} {H H' : Hp} {v : V} {Er : L2.St → Exn → Hp → Prop} {ρ α β γ δ S : Type} {W : R ρ → Prop} {D : Ends} {ta tb tc te : TE}
def DictAt (d : Option Addr) (H : Hp) : Prop := d = none ∨ ∃ dd fs, d = some dd ∧ H dd = some (.xd fs)
theorem DictOf.at_ {e : Exn} {d : Option Addr} (h : DictOf e d H) : DictAt d H := by
  cases e with
  | noDealing r => obtain ⟨a, e1, e2⟩ := h; exact .inr ⟨a, _, e1, e2⟩
  | _ => exact .inl h
theorem DictOf.same {e : Exn} {d : Option Addr} (h : DictOf e d H) (sm : Same H H') : DictOf e d H' := by
  cases e with
  | noDealing r => obtain ⟨a, e1, e2⟩ := h; exact ⟨a, e1, sm _ _ e2⟩
  | _ => exact h
def gML0 {α : Type} (xs : List α) (n : Int) : Prop := -1000000 ≤ n ∧ n ≤ 1000000 ∧ xs.length * n.toNat ≤ 16777216
instance {α : Type} (xs : List α) (n : Int) : Decidable (gML0 xs n) := by unfold gML0; infer_instance
instance instInhSum {α β : Type} [Inhabited α] : Inhabited (α ⊕ β) := ⟨.inl default⟩
def Adr.con (w : V) : Adr := ⟨fun _ _ v => v = w, fun h k => h.trans k.symm, fun _ h => h⟩
end
end Sm
namespace Sm
open PySem PySem.Spec PyProof.Rows L2 PySem.W
section
variable {F : Fx} {Γ Γ' Γ1 Γe : List Ent} {T : List (V × Own)} {σ : L2.St} {H H' : Hp} {v : V} {Er : L2.St → Exn → Hp → Prop} {ρ α β γ S : Type} {W : R ρ → Prop} {D : Ends} {ta tb te ti : TE} {d : Dt} {ds : List Dt} {n h j : Nat} {i : Int} {t t1 : Own} {ts : List Own} {A : Adr} {put : Own → List Ent} {l : Addr} {K : PySem.W.Frag}
end
end Sm
namespace Sm
open PySem PySem.Spec PyProof.Rows L2 PySem.W
section
variable {F : Fx} {Γ Γ' Γ1 Γ2 Γe Γx : List Ent} {T : List (V × Own)} {σ : L2.St} {H H' : Hp} {v u : V} {Er : L2.St → Exn → Hp → Prop} {ρ α β γ S : Type} {W : R ρ → Prop} {D : Ends} {ta tb tc te ti tk : TE} {tt : TT} {tr : TA} {d e : Dt} {ds : List Dt} {n j : Nat} {C : Addr} {A : Adr} {t : Own} {put : Own → List Ent} {i : Int}
end
end Sm
namespace Sm
open PySem PySem.Spec PyProof.Rows L2 PySem.W
def maxL (xs : List Int) : Int := xs.foldl (fun a b => if a < b then b else a) (xs.headD 0)
theorem maxL_go : ∀ {xs : List Int} {a : Int}, (xs.foldl (fun a b => if a < b then b else a) a = a ∨ xs.foldl (fun a b => if a < b then b else a) a ∈ xs) ∧ a ≤ xs.foldl (fun a b => if a < b then b else a) a ∧ ∀ y ∈ xs, y ≤ xs.foldl (fun a b => if a < b then b else a) a
  | [], a => ⟨.inl rfl, Int.le_refl _, fun y h => by cases h⟩
  | x :: xs, a => by
    rw [List.foldl_cons]
    obtain ⟨p, q, r⟩ := maxL_go (xs := xs) (a := if a < x then x else a)
    by_cases c : a < x
    · rw [if_pos c] at p q r ⊢
      refine ⟨.inr ?_, by omega, fun y h => ?_⟩
      · rcases p with p | p
        · rw [p]; exact List.mem_cons_self
        · exact List.mem_cons_of_mem _ p
      · rcases List.mem_cons.mp h with e | h
        · rw [e]; exact q
        · exact r y h
    · rw [if_neg c] at p q r ⊢
      refine ⟨?_, q, fun y h => ?_⟩
      · rcases p with p | p
        · exact .inl p
        · exact .inr (List.mem_cons_of_mem _ p)
      · rcases List.mem_cons.mp h with e | h
        · rw [e]; omega
        · exact r y h
theorem maxL_mem {xs : List Int} (h : 0 < xs.length) : maxL xs ∈ xs := by
  cases xs with
  | nil => cases h
  | cons x xs =>
    obtain ⟨p, _, _⟩ := maxL_go (xs := x :: xs) (a := x)
    rcases p with p | p
    · show List.foldl _ x (x :: xs) ∈ _
      rw [p]; exact List.mem_cons_self
    · exact p
theorem maxL_ge {xs : List Int} : ∀ y ∈ xs, y ≤ maxL xs := (maxL_go (xs := xs) (a := xs.headD 0)).2.2
section
variable {F : Fx} {Γ Γ' Γ1 Γ2 Γe Γx : List Ent} {T : List (V × Own)} {σ : L2.St} {H H' : Hp} {v u : V} {Er : L2.St → Exn → Hp → Prop} {ρ α β γ S : Type} {W : R ρ → Prop} {D : Ends} {ta tb tc te ti tk : TE} {tt : TT} {tr : TA} {d e : Dt} {ds : List Dt} {n j : Nat} {C : Addr} {fs : List Str} {A : Adr} {t : Own} {put : Own → List Ent} {i : Int}
theorem mv_maxL {m : R (List Int)} (h : ML F Γe Er te Γ eI m) : MV F Γe Er (tCB (rMax F.K) (tCons te tNil)) Γ (m.bind fun xs => R.guard (0 < xs.length) (R.ok (maxL xs))) (oD eI) := fun _ W k T σ H ok w s Q q => by
  rw [R.bind_assoc] at w
  exact h _ W _ T σ H ok w s _ fun xs l vs H1 w1 hl s1 e1 => by
    have e0 : ((R.guard (0 < xs.length) (R.ok (maxL xs))).bind k) = R.guard (0 < xs.length) (k (maxL xs)) := by
      unfold R.guard
      split <;> rfl
    rw [e0] at w1
    obtain ⟨g, w1⟩ := R.guard_ok ok w1
    obtain ⟨B, _, r⟩ := s1.rvs
    rw [rpa_ints r] at hl
    refine ⟨l, xs, rfl, SqL.of hl, g, fun m hm hy => ?_⟩
    have e : m = maxL xs := Int.le_antisymm (maxL_ge m hm) (hy _ (maxL_mem g))
    subst e
    exact q _ _ _ w1 (s1.pop.push fun _ _ => by unfold Rp; rfl) e1
def wIf : Str := Sx (lt "if")
def rowB : Dt → Option (Dt × List Dt × List Dt)
  | .tup [.str w, t, .lst xs, .lst ys] => if w = wIf then some (t, xs, ys) else none
  | _ => none
def oRow (d : Dt) : Own := match rowB d with
  | some (t, xs, ys) => .tup [.dat (.str wIf), .dat t, .lst (xs.map Own.dat), .lst (ys.map Own.dat)]
  | none => .dat d
theorem rowB_some {d t : Dt} {xs ys : List Dt} (h : rowB d = some (t, xs, ys)) : d = .tup [.str wIf, t, .lst xs, .lst ys] := by
  unfold rowB at h
  split at h
  · split at h
    · rename_i e
      cases h
      rw [e]
    · cases h
  · cases h
theorem oRow_leaf {d : Dt} (h : (rowB d).isNone = true) : oRow d = .dat d := by
  unfold oRow
  cases e : rowB d with
  | none => rfl
  | some x => rw [e] at h; cases h
theorem oRow_if {t : Dt} {xs ys : List Dt} : oRow (.tup [.str wIf, t, .lst xs, .lst ys]) = .tup [.dat (.str wIf), .dat t, .lst (xs.map Own.dat), .lst (ys.map Own.dat)] := by
  have e : rowB (.tup [.str wIf, t, .lst xs, .lst ys]) = some (t, xs, ys) := by
    show (if wIf = wIf then some (t, xs, ys) else none) = _
    rw [if_pos rfl]
  unfold oRow
  rw [e]
theorem rdo_oRow {d : Dt} : RdO (oRow d) d := by
  unfold oRow
  cases e : rowB d with
  | none => exact rdo_dat
  | some x =>
    obtain ⟨t, xs, ys⟩ := x
    rw [rowB_some e]
    exact rdo_tup (rdoa_cons rdo_dat (rdoa_cons rdo_dat (rdoa_cons (rdo_lst (rdoa_dats _)) (rdoa_cons (rdo_lst (rdoa_dats _)) rdoa_nil))))
theorem loc_conP {K : PySem.W.Frag} {ts : List Own} {w : V} {k : Nat} (h : Loc K Γ A (.tup ts) put) (hk : ts[k]? = some (.at_ w t)) : Loc K Γ (Adr.con w) t fun t' => put (.tup (ts.set k (.at_ w t'))) := fun T B O σ sl => by
  obtain ⟨x, O1, Or, ax, a, dj, rfl, kk⟩ := h T B O σ sl
  unfold Ow at a
  obtain ⟨l', vs, rfl, hs, oa⟩ := a
  obtain ⟨y, P1, P2, e1, a1, d1, rfl, q⟩ := oa.at hk
  obtain ⟨rfl, a2⟩ := ow_at a1
  have dr : Dj P1 Or := Dj.l dj
  have drr : Dj P2 Or := fun b => by
    rcases dj b with x | x
    · exact .inl (jn_none_iff.mp x).2
    · exact .inr x
  refine ⟨y, P1, jn P2 Or, rfl, a2, Dj.jnr d1 dr, jn_assoc, fun B' t' O1' s a' d' => ?_⟩
  have z := q B' (.at_ y t') O1' y s (ow_at' ⟨rfl, a'⟩) (Dj.rl d')
  rw [set_same e1] at z
  have z2 := kk B' (.tup (ts.set k (.at_ y t'))) (jn O1' P2) s (by unfold Ow; exact ⟨l', vs, rfl, sqt_mono s hs, z⟩) (Dj.jnl (Dj.rr d') drr)
  rw [jn_assoc] at z2
  exact z2
theorem lv_conP {ts : List Own} {w : V} {k : Nat} (h : Lv F te Γ A (.tup ts) put) (hk : ts[k]? = some (.at_ w t)) (h2 : Ev F tb Γ (.dat (.int (k : Int)))) : Lv F (tOp (rIxT F.K) te tb) Γ (Adr.con w) t fun t' => put (.tup (ts.set k (.at_ w t'))) := ⟨loc_conP h.loc hk, fun T σ H s Q q => h.ev T σ H s _ fun v0 H0 a0 e0 s0 => h2 T σ H0 s0 _ fun y H1 s1 e2 => by
  obtain ⟨B, _, ry⟩ := s1.topd
  obtain ⟨B1, v1, O1, Or, a1, _, ow, dj, P, ii, sl, _⟩ := h.loc.stt s1.pop
  cases A.fn (A.mono e2 a0) a1
  unfold Ow at ow
  obtain ⟨l', us, rfl, hs, oa⟩ := ow
  obtain ⟨u, P1, P2, eu, b1, d1, _, _⟩ := oa.at hk
  obtain ⟨rfl, b2⟩ := ow_at b1
  refine ⟨l', us, (k : Int), u, rfl, rp_int ry, sqt_mono P.bh hs, ?_, q u H1 rfl (e0.trans e2) s1.pop⟩
  have hlt : k < us.length := (List.getElem?_eq_some_iff.mp eu).1
  have hb : inB us (k : Int) := ⟨by omega, by omega⟩
  rw [atI_of hb]
  have : ixI us (k : Int) = k := by unfold ixI; rw [if_pos (by omega)]; omega
  rw [this, eu]⟩
theorem Stt.imp {t' : Own} (s : Stt F Γ T σ H) (hL : Loc F.K Γ A t put) (f : ∀ (B O : Hp) (v : V), Ow F.K B t O v → Ow F.K B t' O v) : Stt F (put t') T σ H := by
  obtain ⟨B, w, O1, Or, av, _, ow, dj, P, ii, sl, kk⟩ := hL.stt s
  exact ⟨B, _, kk B t' O1 (Same.refl _) (f B O1 w ow) dj, P, ii⟩
theorem Stt.openP {t0 t1 t2 t3 : Own} (s : Stt F Γ T σ H) (hL : Loc F.K Γ A (.tup [t0, t1, t2, t3]) put) : ∃ v0 v1 v2 v3, Stt F (put (.tup [.at_ v0 t0, .at_ v1 t1, .at_ v2 t2, .at_ v3 t3])) T σ H := by
  obtain ⟨B, v, O1, Or, av, _, a, dj, P, ii, sl, kk⟩ := hL.stt s
  unfold Ow at a
  obtain ⟨l, vs, rfl, hs, oa⟩ := a
  unfold OwA at oa
  obtain ⟨v0, r0, P0, Q0, rfl, a0, oa, d0, rfl⟩ := oa
  unfold OwA at oa
  obtain ⟨v1, r1, P1, Q1, rfl, a1, oa, d1, rfl⟩ := oa
  unfold OwA at oa
  obtain ⟨v2, r2, P2, Q2, rfl, a2, oa, d2, rfl⟩ := oa
  unfold OwA at oa
  obtain ⟨v3, r3, P3, Q3, rfl, a3, oa, d3, rfl⟩ := oa
  unfold OwA at oa
  obtain ⟨rfl, rfl⟩ := oa
  refine ⟨v0, v1, v2, v3, B, _, kk B _ _ (Same.refl _) ?_ dj, P, ii⟩
  unfold Ow
  exact ⟨l, _, rfl, hs, owa_cons (ow_at' ⟨rfl, a0⟩) (owa_cons (ow_at' ⟨rfl, a1⟩) (owa_cons (ow_at' ⟨rfl, a2⟩) (owa_cons (ow_at' ⟨rfl, a3⟩) owa_nil d3) d2) d1) d0⟩
theorem ow_closeP {K : PySem.W.Frag} {B O : Hp} {v v0 v1 v2 v3 : V} {t0 t1 t2 t3 : Own} (a : Ow K B (.tup [.at_ v0 t0, .at_ v1 t1, .at_ v2 t2, .at_ v3 t3]) O v) : Ow K B (.tup [t0, t1, t2, t3]) O v := by
  unfold Ow at a ⊢
  obtain ⟨l, vs, rfl, hs, oa⟩ := a
  unfold OwA at oa
  obtain ⟨w0, r0, P0, Q0, rfl, a0, oa, d0, rfl⟩ := oa
  unfold OwA at oa
  obtain ⟨w1, r1, P1, Q1, rfl, a1, oa, d1, rfl⟩ := oa
  unfold OwA at oa
  obtain ⟨w2, r2, P2, Q2, rfl, a2, oa, d2, rfl⟩ := oa
  unfold OwA at oa
  obtain ⟨w3, r3, P3, Q3, rfl, a3, oa, d3, rfl⟩ := oa
  unfold OwA at oa
  obtain ⟨rfl, rfl⟩ := oa
  exact ⟨l, _, rfl, hs, owa_cons (ow_at a0).2 (owa_cons (ow_at a1).2 (owa_cons (ow_at a2).2 (owa_cons (ow_at a3).2 owa_nil d3) d2) d1) d0⟩
abbrev rowT (d : Dt) : Dt × List Dt × List Dt := (rowB d).getD (.non, [], [])
abbrev rowM (p : Dt × List Dt × List Dt) : Dt := .tup [.str wIf, p.1, .lst p.2.1, .lst p.2.2]
theorem oRow_is {d : Dt} (h : (rowB d).isSome = true) : oRow d = .tup [.dat (.str wIf), .dat (rowT d).1, .lst ((rowT d).2.1.map Own.dat), .lst ((rowT d).2.2.map Own.dat)] := by
  unfold oRow rowT
  cases e : rowB d with
  | none => rw [e] at h; cases h
  | some x => rfl
theorem s_rowApp {rows : List Dt} {tj : TE} {m : R Dt} {k : List Dt → R ρ} (hst : Stt F Γ T σ H)
    (hw : W (R.guard (inB rows i) (R.guard ((rowB (getI rows i)).isSome = true) (m.bind fun a => R.guard (gL (rowT (getI rows i)).2.2) ((R.ok (setI rows i (rowM ((rowT (getI rows i)).1, (rowT (getI rows i)).2.1, (rowT (getI rows i)).2.2 ++ [a])))).bind k)))))
    (ok : WOk F Γe Er W) (hL0 : Loc F.K Γ A (oM oRow rows) put) (hL : ∀ t', Lv F ta (put t') A t' put) (hi : ∀ t', Ev F ti (put t') (.dat (.int i))) (hj : ∀ t', Ev F tj (put t') (.dat (.int 3))) (h : ∀ t', MV F Γe Er te (put t') m (oD fun a => a))
    (q : ∀ zs σ' H', W (k zs) → Stt F (put (oM oRow zs)) T σ' H' → D.nx σ' H') : tDrop (tBM F.K "list" rAppend (tOp (rIxT F.K) (tOp (rIxL F.K) ta ti) tj) (tCons te tNil)) D σ H := by
  obtain ⟨hb, hw⟩ := R.guard_ok ok hw
  obtain ⟨hs, hw⟩ := R.guard_ok ok hw
  have l1 := loc_ixM (f := oRow) hL0 hb
  rw [oRow_is hs] at l1
  obtain ⟨v0, v1, v2, v3, st⟩ := hst.openP l1
  have lv1 : Lv F (tOp (rIxL F.K) ta ti) (put (.lst ((rows.map oRow).set (ixI rows i) (.tup [.at_ v0 (.dat (.str wIf)), .at_ v1 (.dat (rowT (getI rows i)).1), .at_ v2 (.lst ((rowT (getI rows i)).2.1.map Own.dat)), .at_ v3 (.lst ((rowT (getI rows i)).2.2.map Own.dat))])))) (A.ix i) _ _ := lv_ixS (hL _) (hi _) hb
  have lv2 := lv_conP (k := 3) lv1 rfl (hj _)
  refine s_lvApp (enc := fun a : Dt => a) (ys := (rowT (getI rows i)).2.2) (k := fun ys => k (setI rows i (rowM ((rowT (getI rows i)).1, (rowT (getI rows i)).2.1, ys)))) st (by
    have e : (fun a => R.guard (gL (rowT (getI rows i)).2.2) ((R.ok ((rowT (getI rows i)).2.2 ++ [a])).bind fun ys => k (setI rows i (rowM ((rowT (getI rows i)).1, (rowT (getI rows i)).2.1, ys))))) = fun a => R.guard (gL (rowT (getI rows i)).2.2) ((R.ok (setI rows i (rowM ((rowT (getI rows i)).1, (rowT (getI rows i)).2.1, (rowT (getI rows i)).2.2 ++ [a])))).bind k) := rfl
    rw [e]
    exact hw) ok (by simpa [oL] using lv2) (h _) fun zs σ' H' w s => q _ σ' H' w ?_
  have l3 := loc_ixS (hL _).loc hb (w := .tup [.at_ v0 (.dat (.str wIf)), .at_ v1 (.dat (rowT (getI rows i)).1), .at_ v2 (.lst ((rowT (getI rows i)).2.1.map Own.dat)), .at_ v3 (oL (fun a => a) zs)]) (f := oRow) (xs := rows)
  have s2 := Stt.imp (t' := oRow (rowM ((rowT (getI rows i)).1, (rowT (getI rows i)).2.1, zs))) s l3 fun B O v a => by
    have z := ow_closeP a
    rw [oRow_if]
    simpa [oL] using z
  rw [map_set_ix] at s2
  exact s2
theorem s_rowClr {rows : List Dt} {tj : TE} {k : List Dt → R ρ} (hst : Stt F Γ T σ H)
    (hw : W (R.guard (inB rows i) (R.guard ((rowB (getI rows i)).isSome = true) ((R.ok (setI rows i (rowM ((rowT (getI rows i)).1, [], (rowT (getI rows i)).2.2)))).bind k))))
    (ok : WOk F Γe Er W) (hL0 : Loc F.K Γ A (oM oRow rows) put) (hL : ∀ t', Lv F ta (put t') A t' put) (hi : ∀ t', Ev F ti (put t') (.dat (.int i))) (hj : ∀ t', Ev F tj (put t') (.dat (.int 2)))
    (q : ∀ zs σ' H', W (k zs) → Stt F (put (oM oRow zs)) T σ' H' → D.nx σ' H') : tDrop (tBM0 F.K "list" rClear (tOp (rIxT F.K) (tOp (rIxL F.K) ta ti) tj)) D σ H := by
  obtain ⟨hb, hw⟩ := R.guard_ok ok hw
  obtain ⟨hs, hw⟩ := R.guard_ok ok hw
  have l1 := loc_ixM (f := oRow) hL0 hb
  rw [oRow_is hs] at l1
  obtain ⟨v0, v1, v2, v3, st⟩ := hst.openP l1
  have lv1 : Lv F (tOp (rIxL F.K) ta ti) (put (.lst ((rows.map oRow).set (ixI rows i) (.tup [.at_ v0 (.dat (.str wIf)), .at_ v1 (.dat (rowT (getI rows i)).1), .at_ v2 (.lst ((rowT (getI rows i)).2.1.map Own.dat)), .at_ v3 (.lst ((rowT (getI rows i)).2.2.map Own.dat))])))) (A.ix i) _ _ := lv_ixS (hL _) (hi _) hb
  have lv2 := lv_conP (k := 2) lv1 rfl (hj _)
  refine s_lvClr st lv2 fun σ' H' s => q _ σ' H' hw ?_
  have l3 := loc_ixS (hL _).loc hb (w := .tup [.at_ v0 (.dat (.str wIf)), .at_ v1 (.dat (rowT (getI rows i)).1), .at_ v2 (.lst []), .at_ v3 (.lst ((rowT (getI rows i)).2.2.map Own.dat))]) (f := oRow) (xs := rows)
  have s2 := Stt.imp (t' := oRow (rowM ((rowT (getI rows i)).1, [], (rowT (getI rows i)).2.2))) s l3 fun B O v a => by
    rw [oRow_if]
    exact ow_closeP a
  rw [map_set_ix] at s2
  exact s2
theorem map_place {m2 : R β} {ts : β → List Own} (h : Lv F te Γ A t put) (h2 : MAp F Γe Er tr (put .any) Γ' m2 ts) : MAp F Γe Er (tCons te tr) Γ Γ' m2 fun b => t :: ts b := fun _ W k T σ H ok w s Q q =>
  h.ev T σ H s _ fun u H1 au e1 s1 => by
  obtain ⟨w0, aw, s2⟩ := h.loc.take s1
  cases A.fn au aw
  have s3 : Stt F (put .any) ((u, t) :: T) σ H1 := by
    obtain ⟨B, v, O1, Or, av, _, ow, dj, P, ii, sl, kk⟩ := h.loc.stt s1
    cases A.fn au av
    have z := kk B .any emp (Same.refl _) ow_any emp_dj
    rw [emp_jn] at z
    exact ⟨B, _, slots_own ow z dj, P, ii⟩
  refine h2 _ W _ ((u, t) :: T) σ H1 ok w s3 _ fun b vs H2 w2 A2 => ?_
  obtain ⟨B, Oa, Or, oa, sl, dj, p, ii⟩ := A2
  rw [List.map_cons, List.map_cons] at sl
  unfold Slots at sl
  obtain ⟨w', r', P1, P2, e, a1, sl, d1, rfl⟩ := sl
  cases e
  have d2 : Dj Oa P1 := (Dj.l dj.symm).symm
  have d3 : Dj Oa P2 := (dj_jn_r dj.symm).symm
  refine q b (u :: vs) H2 w2 ⟨B, jn P1 Oa, P2, owa_cons a1 oa d2.symm, sl, Dj.jnl d1 d3, ?_, ii⟩
  rw [jn_comm d2.symm, jn_assoc]
  exact p
theorem map_ev {m2 : R β} {ts : β → List Own} (h : Ev F te Γ (.dat d)) (h2 : MAp F Γe Er tr Γ Γ' m2 ts) : MAp F Γe Er (tCons te tr) Γ Γ' m2 fun b => .dat d :: ts b := fun _ W k T σ H ok w s Q q =>
  h T σ H s _ fun u H1 s3 e1 => by
  refine h2 _ W _ ((u, .dat d) :: T) σ H1 ok w s3 _ fun b vs H2 w2 A2 => ?_
  obtain ⟨B, Oa, Or, oa, sl, dj, p, ii⟩ := A2
  rw [List.map_cons, List.map_cons] at sl
  unfold Slots at sl
  obtain ⟨w', r', P1, P2, e, a1, sl, d1, rfl⟩ := sl
  cases e
  have d2 : Dj Oa P1 := (Dj.l dj.symm).symm
  have d3 : Dj Oa P2 := (dj_jn_r dj.symm).symm
  refine q b (u :: vs) H2 w2 ⟨B, jn P1 Oa, P2, owa_cons a1 oa d2.symm, sl, Dj.jnl d1 d3, ?_, ii⟩
  rw [jn_comm d2.symm, jn_assoc]
  exact p
theorem oRow_ifA {t : Dt} {xs ys : List Dt} : Own.tup [.dat (eS (lt "if")), .dat t, oL eA xs, oL eA ys] = oRow (rowM (t, xs, ys)) := by
  unfold oL
  rw [map_eA, map_eA]
  exact oRow_if.symm
theorem mx_methTG {X : Type} {Ce : Exn → Addr} {C : Addr} {fs : List Str} {m' : Str} {argT : X → List Own} {m : X → R α} {res : α → Own} {xs : γ → List Own} {Γ2 : γ → List Ent} {Ex : L2.St → XK} {m0 : R γ} (x : γ → X)
    (h0 : MX2 F Γe Er te Γ Γ2 m0 fun a => .ins C fs (xs a)) (hlk : ∀ vs : List V, (fs.zip vs).lookup m' = none) (hx : ∀ a, argT (x a) = [.ins C fs (xs a)]) (hE : ∀ σ e H', Er σ e H' → ErrAt Ce (Ex σ) e H') (wk : ∀ a, Wk (Γ2 a) Γe) :
    MX2 F Γe Er (tMethP C m' (spF F.K Ce 1 [] argT m res (fun _ => []) (fun _ => [])) Ex te tNil) Γ (fun p => Γ2 p.1) (m0.bind fun a => (m (x a)).bind fun r => R.ok (a, r)) (fun p => res p.2) := fun _ W k T σ H ok w s Q q => by
  rw [R.bind_assoc] at w
  refine h0 _ W _ T σ H ok w s _ fun a u H0 w0 s0 => ?_
  have s0' := s0
  obtain ⟨B, O, sl, p, ii⟩ := s0'
  rw [List.map_cons, List.map_cons] at sl
  unfold Slots at sl
  obtain ⟨_, _, O1, O2, e, ow, sl, dj, rfl⟩ := sl
  cases e
  have ow' := ow
  unfold Ow at ow
  obtain ⟨l, dx, vs0, Oc, rfl, oa, np, nx, ne, hfl, rfl⟩ := ow
  refine ⟨l, dx, _, rfl, p.oh l _ (jn_some upd_same), hlk vs0, ?_⟩
  have oa2 : OwA F.K B (argT (x a)) (upd (upd Oc dx (.own l)) l (.ins C dx (fs.zip vs0))) [.ref l] := by
    rw [hx]
    have z := owa_cons ow' owa_nil dj_emp
    rw [jn_emp] at z
    exact z
  refine ⟨x a, B, _, by rw [hx]; rfl, oa2, p.bh, same_jnl.trans p.oh, ⟨Dj.rl p.dj, p.nt.l⟩, ?_⟩
  rw [R.bind_assoc] at w0
  cases e : m (x a) with
  | ok b =>
    rw [e] at w0
    intro v B' O' H' P oa'
    unfold OwA at oa'
    obtain ⟨v', r', P1, P2, e3, a1, b1, d1, rfl⟩ := oa'
    cases e3
    obtain ⟨dj', P'⟩ := p.call dj P
    have d2 : Dj P1 O2 := fun c => (dj' c).imp_left fun z => (jn_none_iff.mp z).1
    have d3 : Dj P2 O2 := fun c => (dj' c).imp_left fun z => (jn_none_iff.mp z).2
    rw [jn_assoc, jn_swap d1] at P'
    exact q (a, b) v H' w0 ⟨B', _, slots_own a1 (sl.mono P.b0) d2, P'.dropL (Dj.jnr d1.symm d3), ii⟩
  | err ex =>
    rw [e] at w0
    intro B' O' H' P oa'
    obtain ⟨dj', P'⟩ := p.call dj P
    exact hE σ ex H' (ok.err ex w0 σ H' ((Stt.pops (T := T) ⟨B', O2, sl.mono P.b0, P'.dropL dj', ii⟩).weak (wk a)))
  | bad =>
    rw [e] at w0
    exact absurd w0 ok.bad
theorem mv_leafR {m : R Dt} (h : MV F Γe Er te Γ m (oD fun a => a)) : MV F Γe Er te Γ (m.bind fun a => R.guard ((rowB a).isNone = true) (R.ok a)) oRow := fun _ W k T σ H ok w s Q q => by
  rw [R.bind_assoc] at w
  refine h _ W _ T σ H ok w s Q fun a v H' w' s' e => ?_
  have e0 : ((R.guard ((rowB a).isNone = true) (R.ok a)).bind k) = R.guard ((rowB a).isNone = true) (k a) := by
    unfold R.guard
    split <;> rfl
  rw [e0] at w'
  obtain ⟨g, w'⟩ := R.guard_ok ok w'
  exact q a v H' w' (by rw [oRow_leaf g]; exact s') e
theorem s_appN {fo : α → Own} {ys : List α} {a : α} {k : List α → R ρ} (hst : Stt F Γ T σ H) (hw : W (R.guard (gL ys) ((R.ok (ys ++ [a])).bind k))) (ok : WOk F Γe Er W) (he : Γ[n]? = some (some (oM fo ys))) (hx : Γ[j]? = some (some (fo a))) (he2 : (Γ.set j none)[n]? = some (some (oM fo ys)))
    (q : ∀ zs σ' H', W (k zs) → Stt F ((Γ.set j none).set n (some (oM fo zs))) T σ' H' → D.nx σ' H') : tDrop (tBM F.K "list" rAppend (tVar n) (tCons (tVar j) tNil)) D σ H := by
  refine s_lvAppX (xs := ys.map fo) (t := fo) (k := fun a => k (ys ++ [a])) (put2 := fun a t' => (Γ.set j none).set n (some t')) (m := R.ok a) (Γ' := fun _ => Γ.set j none) hst (by
    have e : (fun a => R.guard ((ys.map fo).length < 16777216) (k (ys ++ [a]))) = fun a => R.guard (gL ys) ((R.ok (ys ++ [a])).bind k) := by
      funext a
      unfold R.guard gL
      rw [List.length_map]
      rfl
    rw [e]
    exact hw) ok (lv_var he) (mx_slot hx) (fun a => loc_var he2) (fun a σ H H' u _ e _ => e) fun a σ' H' w s => q _ σ' H' w (by unfold oM; rw [List.map_append]; exact s)
theorem mx_cast4 {Γ' : α → List Ent} {m : R α} {t t2 : α → Own} (h : MX2 F Γe Er te Γ Γ' m t) (e : ∀ a, t a = t2 a) : MX2 F Γe Er te Γ Γ' m t2 := by
  rw [← (funext e : t = t2)]
  exact h
theorem ev_ofQ {enc : α → Dt} {a : α} (im : Imm enc) (h : EvQ F te Γ (enc a)) : Ev F te Γ (.dat (enc a)) := fun T σ H s Q q => h T σ H s _ fun v H1 r s1 e1 => q v H1 (im.push s1 (Same.refl _) r) e1
theorem eq_ixQ {ds : List Dt} (h : EvQ F te Γ (.tup ds)) (hi : Ev F ti Γ (.dat (.int i))) (hb : inB ds i) : EvQ F (tOp (rIxT F.K) te ti) Γ (getI ds i) := fun T σ H s Q q => h T σ H s _ fun u H1 r s1 e1 => hi T σ H1 s1 _ fun y H2 s2 e2 => by
  obtain ⟨B, _, ry⟩ := s2.topd
  unfold Rp at r
  obtain ⟨l, us, rfl, hs, ra⟩ := r
  have ra := ra.mono e2
  obtain ⟨v, ev, rv⟩ := ra.get (getI_get hb)
  have hl : us.length = ds.length := ra.length
  have hb' : inB us i := by unfold inB at hb ⊢; rw [hl]; exact hb
  have ix : ixI us i = ixI ds i := by unfold ixI; rw [hl]
  refine ⟨l, us, i, v, rfl, rp_int ry, sqt_mono e2 hs, ?_, q v H2 rv s2.pop (e1.trans e2)⟩
  rw [atI_of hb', ix, ev]
theorem eq_slQ {ds : List Dt} {tl th : TO} {lo hi : Option Int} (h : EvQ F te Γ (.lst ds)) (hl : EvO F tl Γ lo) (hh : EvO F th Γ hi) : EvQ F (tSl (rSlL F.K) te tl th) Γ (.lst (cutL ds lo hi)) := fun T σ H s Q q =>
  h T σ H s _ fun u H1 r s1 e1 => hl T σ H1 s1 _ fun H2 s2 e2 => hh T σ H2 s2 _ fun H3 s3 e3 => by
  unfold Rp at r
  obtain ⟨l, vs, rfl, hv, ra⟩ := r
  refine ⟨l, vs, rfl, SqL.of (e3 l _ (e2 l _ hv)), fun p hp => ?_⟩
  have e4 : Same H3 (upd H3 p (.lst (cutV vs lo hi))) := same_upd hp
  refine q (.ref p) _ ?_ (s3.grow e4) (((e1.trans e2).trans e3).trans e4)
  unfold Rp
  exact ⟨p, _, rfl, upd_same, ((ra.mono ((e2.trans e3).trans e4)).cut lo hi)⟩
theorem map_eA2 (l : List Dt) : l.map eA = l := by
  show l.map (fun d => d) = l
  exact List.map_id' l
theorem eq_row {d : Dt} (g : d.isU = true) (hb : inB d.asU i) (h : EvQ F te Γ d) (hi : Ev F ti Γ (.dat (.int i))) : EvQ F (tOp (rIxT F.K) te ti) Γ (getI d.asU i) := by
  have e : d = .tup d.asU := by
    have z := asU_eq g
    have y : eU eA d.asU = .tup d.asU := by
      show Dt.tup (d.asU.map eA) = _
      rw [map_eA2]
    exact z.trans y
  have h2 : EvQ F te Γ (.tup d.asU) := e ▸ h
  exact eq_ixQ h2 hi hb
theorem ev_rowS {d : Dt} (g : d.isU = true) (hb : inB d.asU i) (gx : Dt.isX (getI d.asU i) = true) (h : EvQ F te Γ d) (hi : Ev F ti Γ (.dat (.int i))) : Ev F (tOp (rIxT F.K) te ti) Γ (.dat (eS (Dt.asX (getI d.asU i)))) := by
  have z := eq_row g hb h hi
  rw [asX_eq gx] at z
  exact ev_ofQ imm_S z
theorem eq_olS {rows : List Dt} {tl th : TO} {lo hi : Option Int} (h : Lv F te Γ A (oM oRow rows) put) (hl : EvO F tl Γ lo) (hh : EvO F th Γ hi) : EvQ F (tSl (rSlL F.K) te tl th) Γ (.lst (cutL rows lo hi)) := by
  have z := eq_lv (rdo_oM (g := eA) (xs := rows) fun _ => rdo_oRow) h
  have y : eL eA rows = .lst rows := by
    show Dt.lst (rows.map eA) = _
    rw [map_eA2]
  rw [y] at z
  exact eq_slQ z hl hh
end
end Sm
namespace Mi
open PySem L2 Sm
def ks_HEADS : List Str := ["take", "give", "let", "say", "off", "if", "else", "end", "as"]
def k_HEADS : List (List Nat) := ks_HEADS.map lt
def ks_DOERS : List Str := ["plus", "minus", "times", "over", "rest", "under", "same"]
def k_DOERS : List (List Nat) := ks_DOERS.map lt
abbrev S_Block := ((List Dt) × Bool × (List Dt) × (List Dt))
def m_is_worth (v_thing : Int) : R Bool :=
  (R.ok ((!true) || false)).bind fun b => if b = true then (
  (R.ok false)) else (
  (R.ok (decide ((-(1000000000000000000000000000000 : Int)) ≤ v_thing) && decide (v_thing ≤ (1000000000000000000000000000000 : Int)))))
def m_numeral (v_worth : Dt) : R (List Nat) :=
  (R.guard (Dt.isI v_worth = true) (R.guard ((Dt.asI v_worth).natAbs.log2 < 1920) (R.ok (strI (Dt.asI v_worth)))))
def m_is_name_L1 (v_sign : Nat) : R (Ctl Unit Bool) :=
  (R.ok (!decide (v_sign ∈ (lt "abcdefghijklmnopqrstuvwxyz")))).bind fun b => if b = true then (
  (R.ok false).bind fun r => R.ok (Ctl.rt r)) else (
  R.ok (Ctl.nx ()))
def m_is_name_J1  : R Bool :=
  (R.ok true)
def m_is_name (v_text : (List Nat)) : R Bool :=
  (R.or (R.ok (decide (v_text = (lt "")))) (R.or (R.guard (gS v_text) (R.ok (decide ((6 : Int) < (v_text.length : Int))))) (R.or (R.ok (decide (v_text ∈ k_DOERS))) (R.ok (decide (v_text ∈ k_HEADS)))))).bind fun b => if b = true then (
  (R.ok false)) else (
  (((R.ok v_text).bind fun c12 => forR (fun y4 (s5 : Unit) => m_is_name_L1 y4) c12 ()) : R (Ctl Unit Bool)).bind fun c => c.fin fun s5 => m_is_name_J1 )
def m_Block_init (v_term : (List Dt)) : R (Unit × S_Block) :=
  (R.ok v_term).bind fun a13 =>
  (R.ok false).bind fun a14 =>
  (R.ok ([] : (List Dt))).bind fun a15 =>
  (R.ok ([] : (List Dt))).bind fun a16 =>
  (R.ok ((a13, a14, a15, a16))).bind fun v_self =>
  R.ok ((), v_self)
def m_Block_closed (v_self : S_Block) : R Dt :=
  R.ok (rowM ((eU eA) v_self.1, v_self.2.2.1, v_self.2.2.2))
def m_law_cell_at (v_script : (List Int)) (v_k : Int) : R Int :=
  (R.ok (decide (v_k < (v_script.length : Int)))).bind fun b => if b = true then (
  (R.guard (inB v_script v_k) (R.ok (getI v_script v_k)))) else (
  (R.ok (0 : Int)))
def m_law_spread_L1 (v_spread : (List Int)) (v_low : Int) (v_high : Int) (v_k : Int) : R ((List Int) × Int × Int) :=
  (R.guard (CMulW v_low (6007 : Int)) (R.guard (CMulW v_k v_k) (R.guard (0 < (1000000007 : Int)) (R.ok ((((v_low * (6007 : Int)) + v_high) + (v_k * v_k)) % (1000000007 : Int)))))).bind fun v_low =>
  (R.guard (CMulW v_high (7001 : Int)) (R.guard (CDivW v_low (3 : Int)) (R.guard (0 < (998244353 : Int)) (R.ok (((v_high * (7001 : Int)) + (v_low / (3 : Int))) % (998244353 : Int)))))).bind fun v_high =>
  (R.guard (0 < (268435399 : Int)) (R.ok ((v_low + v_high) % (268435399 : Int)))).bind fun a35 => R.guard (gL v_spread) ((R.ok (v_spread ++ [a35])).bind fun v_spread =>
  R.ok (v_spread, v_low, v_high))
def m_law_spread_J1 (v_spread : (List Int)) : R (List Int) :=
  (R.ok v_spread)
def m_law_spread (v_cell : Int) (v_many : Int) : R (List Int) :=
  (R.ok ([] : (List Int))).bind fun v_spread =>
  (R.guard (0 < (1000000007 : Int)) (R.ok ((v_cell % (1000000007 : Int)) + (17 : Int)))).bind fun v_low =>
  (R.guard (CDivW v_cell (1000000007 : Int)) (R.guard (0 < (998244353 : Int)) (R.ok (((v_cell / (1000000007 : Int)) % (998244353 : Int)) + (3 : Int))))).bind fun v_high =>
  (((R.ok v_many).bind fun j => R.guard (gR j) (R.ok j)).bind fun c36 => foldR (fun y21 (s22 : ((List Int) × Int × Int)) => m_law_spread_L1 s22.1 s22.2.1 s22.2.2 y21) (rng 0 c36) (v_spread, v_low, v_high)).bind fun s22 => m_law_spread_J1 s22.1
def m_law_letters_L1 (v_number : Int) (v_letters : (List Nat)) (v_found : (List Nat)) (v_k : Int) : R (Int × (List Nat)) :=
  (R.guard (0 < (26 : Int)) (R.guard (gS v_letters ∧ inB v_letters (v_number % (26 : Int))) (R.guard (gS (v_found ++ [(getI v_letters (v_number % (26 : Int)))])) (R.ok (v_found ++ [(getI v_letters (v_number % (26 : Int)))]))))).bind fun v_found =>
  (R.guard (CDivW v_number (26 : Int)) (R.guard (CMulW (991 : Int) v_k) (R.guard (CMulW ((991 : Int) * v_k) v_k) (R.ok ((v_number / (26 : Int)) + (((991 : Int) * v_k) * v_k)))))).bind fun v_number =>
  R.ok (v_number, v_found)
def m_law_letters_J1 (v_found : (List Nat)) : R (List Nat) :=
  (R.ok v_found)
def m_law_letters (v_number : Int) (v_many : Int) : R (List Nat) :=
  (R.ok (lt "abcdefghijklmnopqrstuvwxyz")).bind fun v_letters =>
  (R.ok (lt "")).bind fun v_found =>
  (((R.ok v_many).bind fun j => R.guard (gR j) (R.ok j)).bind fun c50 => foldR (fun y37 (s38 : (Int × (List Nat))) => m_law_letters_L1 s38.1 v_letters s38.2 y37) (rng 0 c50) (v_number, v_found)).bind fun s38 => m_law_letters_J1 s38.2
def m_law_free (v_name : (List Nat)) : R (List Nat) :=
  (R.ok (decide (v_name ∈ ([(lt "take"), (lt "give"), (lt "let"), (lt "say"), (lt "off"), (lt "if"), (lt "else"), (lt "end"), (lt "as")] : (List (List Nat)))))).bind fun b => if b = true then (
  (R.guard (gS (v_name ++ (lt "q"))) (R.ok (v_name ++ (lt "q"))))) else (
  (R.ok (decide (v_name ∈ ([(lt "plus"), (lt "minus"), (lt "times"), (lt "over"), (lt "rest"), (lt "under"), (lt "same")] : (List (List Nat)))))).bind fun b => if b = true then (
  (R.guard (gS (v_name ++ (lt "q"))) (R.ok (v_name ++ (lt "q"))))) else (
  (R.ok v_name)))
def m_law_leaf_J1 (v_worth : Int) : R ((List (List Nat)) × (List Dt)) :=
  (R.guard (v_worth.natAbs.log2 < 1920) (R.ok (([(strI v_worth)] : (List (List Nat))), ([(eI v_worth)] : (List Dt)))))
def m_law_leaf (v_number : Int) (v_names : (List (List Nat))) : R ((List (List Nat)) × (List Dt)) :=
  (R.guard (0 < (4 : Int)) (R.ok (decide ((v_number % (4 : Int)) < (2 : Int))))).bind fun b => if b = true then (
  (R.guard (CDivW v_number (4 : Int)) (R.guard (0 < (4 : Int)) (R.guard (inB v_names ((v_number / (4 : Int)) % (4 : Int))) (R.ok (getI v_names ((v_number / (4 : Int)) % (4 : Int))))))).bind fun v_name =>
  (R.ok (([v_name] : (List (List Nat))), ([(eS v_name)] : (List Dt))))) else (
  (R.guard (CDivW v_number (4 : Int)) (R.guard (0 < (25 : Int)) (R.ok (((v_number / (4 : Int)) % (25 : Int)) - (9 : Int))))).bind fun v_worth =>
  (((R.guard (0 < (4 : Int)) (R.ok (decide ((v_number % (4 : Int)) = (3 : Int))))).bind fun b => if b = true then (
  (R.guard (CPow v_number (4 : Int)) (R.guard (CPow (10 : Int) (30 : Int)) (R.guard (CMulW (2 : Int) ((10 : Int) ^ (30 : Int).toNat)) (R.guard (0 < (((2 : Int) * ((10 : Int) ^ (30 : Int).toNat)) + (1 : Int))) (R.guard (CPow (10 : Int) (30 : Int)) (R.ok (((v_number ^ (4 : Int).toNat) % (((2 : Int) * ((10 : Int) ^ (30 : Int).toNat)) + (1 : Int))) - ((10 : Int) ^ (30 : Int).toNat)))))))).bind fun v_worth =>
  R.ok v_worth) else (
  R.ok v_worth)) : R Int).bind fun s60 => m_law_leaf_J1 s60)
def m_law_joined (v_some : (List ((List (List Nat)) × (List Dt)))) (v_number : Int) : R (List ((List (List Nat)) × (List Dt))) :=
  (R.guard (0 < (7 : Int)) (R.guard (inB ([(lt "plus"), (lt "minus"), (lt "times"), (lt "over"), (lt "rest"), (lt "under"), (lt "same")] : (List (List Nat))) (v_number % (7 : Int))) (R.ok (getI ([(lt "plus"), (lt "minus"), (lt "times"), (lt "over"), (lt "rest"), (lt "under"), (lt "same")] : (List (List Nat))) (v_number % (7 : Int)))))).bind fun v_doer =>
  (R.guard (inB v_some (-(2 : Int))) (R.ok (getI v_some (-(2 : Int))))).bind fun v_first =>
  (R.guard (inB v_some (-(1 : Int))) (R.ok (getI v_some (-(1 : Int))))).bind fun v_second =>
  (R.guard ((([v_doer] : (List (List Nat))) ++ v_first.1).length ≤ 16777216) (R.guard (((([v_doer] : (List (List Nat))) ++ v_first.1) ++ v_second.1).length ≤ 16777216) (R.guard ((v_first.2 ++ v_second.2).length ≤ 16777216) (R.guard (((v_first.2 ++ v_second.2) ++ ([(eS v_doer)] : (List Dt))).length ≤ 16777216) (R.guard (((cutL v_some none (some (-(2 : Int)))) ++ ([(((([v_doer] : (List (List Nat))) ++ v_first.1) ++ v_second.1), ((v_first.2 ++ v_second.2) ++ ([(eS v_doer)] : (List Dt))))] : (List ((List (List Nat)) × (List Dt))))).length ≤ 16777216) (R.ok ((cutL v_some none (some (-(2 : Int)))) ++ ([(((([v_doer] : (List (List Nat))) ++ v_first.1) ++ v_second.1), ((v_first.2 ++ v_second.2) ++ ([(eS v_doer)] : (List Dt))))] : (List ((List (List Nat)) × (List Dt)))))))))))
def m_worth_in_L1 (v_sign : Nat) : R Unit :=
  (R.ok (!decide (v_sign ∈ (lt "0123456789")))).bind fun b => if b = true then (
  R.err .noNumber) else (
  R.ok ())
def m_worth_in_J2 (v_text : (List Nat)) (v_figures : (List Nat)) : R Int :=
  (R.guard (gS v_figures ∧ inB v_figures (0 : Int)) (R.ok ((decide ([(getI v_figures (0 : Int))] = (lt "0"))) && (!decide (v_text = (lt "0")))))).bind fun b => if b = true then (
  R.err .noNumber) else (
  (R.guard ((intX? v_text).isSome = true ∧ v_text.length ≤ 640) (R.ok ((intX? v_text).getD 0))).bind fun v_worth =>
  (R.not (m_is_worth v_worth)).bind fun b => if b = true then (
  R.err .noNumber) else (
  (R.ok v_worth)))
def m_worth_in_J1 (v_text : (List Nat)) (v_figures : (List Nat)) : R Int :=
  (R.or (R.ok (decide (v_figures = (lt "")))) (R.guard (gS v_figures) (R.ok (decide ((31 : Int) < (v_figures.length : Int)))))).bind fun b => if b = true then (
  R.err .noNumber) else (
  ((R.ok v_figures).bind fun c91 => foldR (fun y84 (s85 : Unit) => m_worth_in_L1 y84) c91 ()).bind fun s85 => m_worth_in_J2 v_text v_figures)
def m_worth_in (v_text : (List Nat)) : R Int :=
  (R.ok v_text).bind fun v_figures =>
  (((R.guard (gS v_text) (R.ok (decide ((cutL v_text none (some (1 : Int))) = (lt "-"))))).bind fun b => if b = true then (
  (R.guard (gS v_text) (R.ok (cutL v_text (some (1 : Int)) none))).bind fun v_figures =>
  R.ok v_figures) else (
  R.ok v_figures)) : R (List Nat)).bind fun s79 => m_worth_in_J1 v_text s79
def m_words_of_J1 (v_parts : (List (List (List Nat)))) : R (List (List (List Nat))) :=
  R.ok v_parts
def m_words_of_L1 (v_parts : (List (List (List Nat)))) (v_part : Dt) : R (List (List (List Nat))) :=
  (R.guard (flatD v_part = true) (R.ok (inA v_part k_DOERS))).bind fun b => if b = true then (
  (popR v_parts).bind (R.sp2 fun v_second v_parts =>
  (popR v_parts).bind (R.sp2 fun v_first v_parts =>
  (R.guard (Dt.isX v_part = true) (R.guard ((([(Dt.asX v_part)] : (List (List Nat))) ++ v_first).length ≤ 16777216) (R.guard (((([(Dt.asX v_part)] : (List (List Nat))) ++ v_first) ++ v_second).length ≤ 16777216) (R.ok ((([(Dt.asX v_part)] : (List (List Nat))) ++ v_first) ++ v_second))))).bind fun a105 => R.guard (gL v_parts) ((R.ok (v_parts ++ [a105])).bind fun v_parts =>
  R.ok v_parts)))) else (
  (((R.guard (gOb v_part) (R.ok (Dt.isT "int" v_part))).bind fun b => if b = true then (
  (((m_numeral v_part).bind fun a => (R.ok ()).bind fun b => R.ok (a, b)).bind fun x110 => R.ok ([x110.1] : (List (List Nat)))).bind fun a111 => R.guard (gL v_parts) ((R.ok (v_parts ++ [a111])).bind fun v_parts =>
  R.ok v_parts)) else (
  (R.guard (Dt.isX v_part = true) (R.ok ([(Dt.asX v_part)] : (List (List Nat))))).bind fun a113 => R.guard (gL v_parts) ((R.ok (v_parts ++ [a113])).bind fun v_parts =>
  R.ok v_parts))) : R (List (List (List Nat)))).bind fun s107 => m_words_of_J1 s107)
def m_words_of_J2 (v_parts : (List (List (List Nat)))) : R (List (List Nat)) :=
  (R.guard (inB v_parts (0 : Int)) (R.ok (getI v_parts (0 : Int))))
def m_words_of (v_term : Dt) : R (List (List Nat)) :=
  (R.ok ([] : (List (List (List Nat))))).bind fun v_parts =>
  (((R.ok v_term).bind fun d => R.guard (Dt.isQ d = true) (R.ok d)).bind fun c114 => foldR (fun y94 (s95 : (List (List (List Nat)))) => m_words_of_L1 s95 y94) (Dt.asQ c114) v_parts).bind fun s95 => m_words_of_J2 s95
def m_law_names_C1 (v_letters : (List Nat)) (v_first : Int) (v_k : Int) : R Nat := (R.guard (CMulW (7 : Int) v_k) (R.guard (0 < (26 : Int)) (R.guard (gS v_letters ∧ inB v_letters ((v_first + ((7 : Int) * v_k)) % (26 : Int))) (R.ok (getI v_letters ((v_first + ((7 : Int) * v_k)) % (26 : Int)))))))
def m_law_names_C2 (v_base : (List Nat)) (v_at : Int) (v_letter : Nat) : R (List Nat) := (R.guard (gS v_base) (R.guard (gS ((cutL v_base none (some v_at)) ++ [v_letter])) (R.guard (gS v_base) (R.guard (gS (((cutL v_base none (some v_at)) ++ [v_letter]) ++ (cutL v_base (some (v_at + (1 : Int))) none))) (R.ok (((cutL v_base none (some v_at)) ++ [v_letter]) ++ (cutL v_base (some (v_at + (1 : Int))) none)))))))
def m_law_names_C3 (v_xs : (List Int)) (v_k : Int) : R (List Nat) := (R.guard (inB v_xs (v_k + (1 : Int))) (R.guard (inB v_xs (v_k + (5 : Int))) (R.guard (0 < (6 : Int)) (m_law_letters (getI v_xs (v_k + (1 : Int))) ((1 : Int) + ((getI v_xs (v_k + (5 : Int))) % (6 : Int)))))))
def m_law_names_C4  (v_name : (List Nat)) : R (List Nat) := (m_law_free v_name)
def m_law_names_J1 (v_some : (List (List Nat))) : R (List (List Nat)) :=
  ((R.ok v_some).bind fun c => R.guard (c.length ≤ 16777216) (mapR (fun x => m_law_names_C4 x) c))
def m_law_names (v_cell : Int) : R (List (List Nat)) :=
  (R.ok (lt "abcdefghijklmnopqrstuvwxyz")).bind fun v_letters =>
  (m_law_spread v_cell (9 : Int)).bind fun v_xs =>
  (R.guard (inB v_xs (0 : Int)) (R.guard (CDivW v_cell (3 : Int)) (R.guard (0 < (6 : Int)) (m_law_letters (getI v_xs (0 : Int)) ((1 : Int) + ((v_cell / (3 : Int)) % (6 : Int))))))).bind fun v_base =>
  (R.guard (inB v_xs (1 : Int)) (R.guard (gS v_base) (R.guard (0 < (v_base.length : Int)) (R.ok ((getI v_xs (1 : Int)) % (v_base.length : Int)))))).bind fun v_at =>
  (((R.guard (0 < (3 : Int)) (R.ok (decide ((v_cell % (3 : Int)) = (0 : Int))))).bind fun b => if b = true then (
  (R.guard (gS v_base ∧ inB v_base v_at) (R.ok (findX v_letters [(getI v_base v_at)]))).bind fun v_first =>
  (((R.ok (4 : Int)).bind fun j => R.guard (gR j) (R.ok j)).bind fun c => R.guard ((rng 0 c).length ≤ 16777216) (mapR (fun x => m_law_names_C1 v_letters v_first x) (rng 0 c))).bind fun v_turned =>
  ((R.ok v_turned).bind fun c => R.guard (c.length ≤ 16777216) (mapR (fun x => m_law_names_C2 v_base v_at x) c)).bind fun v_some =>
  R.ok v_some) else (
  (R.guard (0 < (3 : Int)) (R.ok (decide ((v_cell % (3 : Int)) = (1 : Int))))).bind fun b => if b = true then (
  (R.guard (inB v_xs (0 : Int)) (m_law_letters (getI v_xs (0 : Int)) (6 : Int))).bind fun v_base =>
  (R.guard (gS v_base) (R.guard (gS v_base) (R.guard (gS v_base) (R.ok ([(cutL v_base none (some ((1 : Int) + v_at))), (cutL v_base none (some ((2 : Int) + v_at))), (cutL v_base none (some ((3 : Int) + v_at))), v_base] : (List (List Nat))))))).bind fun v_some =>
  R.ok v_some) else (
  (((R.ok (4 : Int)).bind fun j => R.guard (gR j) (R.ok j)).bind fun c => R.guard ((rng 0 c).length ≤ 16777216) (mapR (fun x => m_law_names_C3 v_xs x) (rng 0 c))).bind fun v_some =>
  R.ok v_some))) : R (List (List Nat))).bind fun s123 => m_law_names_J1 s123
def m_law_term_L1 (v_xs : (List Int)) (v_names : (List (List Nat))) (v_some : (List ((List (List Nat)) × (List Dt)))) (v_k : Int) : R (List ((List (List Nat)) × (List Dt))) :=
  ((R.ok v_some).bind fun x158 => (((R.guard (inB v_xs v_k) (m_law_leaf (getI v_xs v_k) v_names)).bind fun a => (R.ok ()).bind fun b => R.ok (a, b)).bind fun x157 => R.ok ([x157.1] : (List ((List (List Nat)) × (List Dt))))).bind fun x159 => R.guard ((x158 ++ x159).length ≤ 16777216) (R.ok (x158 ++ x159))).bind fun v_some =>
  (R.and (R.ok (decide ((1 : Int) < (v_some.length : Int)))) (R.guard (inB v_xs v_k) (R.guard (CDivW (getI v_xs v_k) (101 : Int)) (R.guard (0 < (2 : Int)) (R.ok (decide ((((getI v_xs v_k) / (101 : Int)) % (2 : Int)) = (0 : Int)))))))).bind fun b => if b = true then (
  (R.guard (inB v_xs v_k) (R.guard (CDivW (getI v_xs v_k) (400 : Int)) (m_law_joined v_some ((getI v_xs v_k) / (400 : Int))))).bind fun v_some =>
  R.ok v_some) else (
  R.ok v_some)
def m_law_term_Q1 (v_some : (List ((List (List Nat)) × (List Dt)))) : R Bool := (R.ok (decide ((1 : Int) < (v_some.length : Int))))
def m_law_term_L2 (v_xs : (List Int)) (v_some : (List ((List (List Nat)) × (List Dt)))) : R (Ctl (List ((List (List Nat)) × (List Dt))) ((List Nat) × (List Dt))) :=
  (R.guard (inB v_xs (1 : Int)) (R.guard (CDivW (getI v_xs (1 : Int)) (400 : Int)) (m_law_joined v_some (((getI v_xs (1 : Int)) / (400 : Int)) + (v_some.length : Int))))).bind fun v_some =>
  R.ok (Ctl.nx v_some)
def m_law_term_J2 (v_some : (List ((List (List Nat)) × (List Dt)))) : R ((List Nat) × (List Dt)) :=
  ((R.guard (inB v_some (0 : Int)) (((R.guard (inB v_some (0 : Int)) (R.ok (getI v_some (0 : Int)).1)).bind fun x176 => R.guard (gJ (lt " ") x176) (R.ok (joinX (lt " ") x176))).bind fun a => (R.ok ()).bind fun b => R.ok (a, b))).bind fun x178 => R.ok (x178.1, (getI v_some (0 : Int)).2))
def m_law_term_J1 (v_xs : (List Int)) (v_some : (List ((List (List Nat)) × (List Dt)))) : R ((List Nat) × (List Dt)) :=
  ((whileR (fun (s167 : (List ((List (List Nat)) × (List Dt)))) => m_law_term_Q1 s167) (fun (s167 : (List ((List (List Nat)) × (List Dt)))) => m_law_term_L2 v_xs s167) (v_some.length + 2) v_some) : R (Ctl (List ((List (List Nat)) × (List Dt))) ((List Nat) × (List Dt)))).bind fun c => c.fin fun s167 => m_law_term_J2 s167
def m_law_term (v_xs : (List Int)) (v_names : (List (List Nat))) : R ((List Nat) × (List Dt)) :=
  (R.ok ([] : (List ((List (List Nat)) × (List Dt))))).bind fun v_some =>
  (((R.guard (inB v_xs (0 : Int)) (R.guard (CDivW (getI v_xs (0 : Int)) (12 : Int)) (R.guard (0 < (5 : Int)) (R.ok ((1 : Int) + (((getI v_xs (0 : Int)) / (12 : Int)) % (5 : Int))))))).bind fun j => R.guard (gR j) (R.ok j)).bind fun c166 => foldR (fun y149 (s150 : (List ((List (List Nat)) × (List Dt)))) => m_law_term_L1 v_xs v_names s150 y149) (rng 0 c166) v_some).bind fun s150 => m_law_term_J1 v_xs s150
def m_part_in_H1 (e183 : Exn)  : R (Ctl Unit Dt) := R.err .noTerm
def m_part_in_J1  : R Dt :=
  R.bad
def m_part_in (v_word : (List Nat)) : R Dt :=
  (m_is_name v_word).bind fun b => if b = true then (
  (R.ok (eS v_word))) else (
  (R.tryX (((m_worth_in v_word).bind fun a => R.ok (eI a)).bind fun r => R.ok (Ctl.rt r)) (Exn.is "NoNumber") (fun e183 => m_part_in_H1 e183 ) : R (Ctl Unit Dt)).bind fun c => c.fin fun s179 => m_part_in_J1 )
def m_written (v_words : (List (List Nat))) (v_term : Dt) : R (List Nat) :=
  (((R.ok v_words).bind fun x191 => (m_words_of v_term).bind fun x192 => R.guard ((x191 ++ x192).length ≤ 16777216) (R.ok (x191 ++ x192))).bind fun x194 => R.guard (gJ (lt " ") x194) (R.ok (joinX (lt " ") x194)))
def m_put_in (v_row : Dt) (z_rows : (List Dt)) (z_blocks : (List S_Block)) : R (Bool × (List Dt) × (List S_Block)) :=
  (R.ok (Dt.isN v_row)).bind fun b => if b = true then (
  (R.ok false).bind fun r195 => R.ok (r195, z_rows, z_blocks)) else (
  (R.guard (Dt.isU v_row = true) (R.guard (inB (Dt.asU v_row) (0 : Int)) (R.guard (gQ2 (eA (getI (Dt.asU v_row) (0 : Int))) (eS (lt "if"))) (R.ok (eqD (eA (getI (Dt.asU v_row) (0 : Int))) (eS (lt "if"))))))).bind fun b => if b = true then (
  (R.ok (decide ((z_blocks.length : Int) = (5 : Int)))).bind fun b => if b = true then (
  (R.ok false).bind fun r199 => R.ok (r199, z_rows, z_blocks)) else (
  ((R.guard (Dt.isU v_row = true) (R.guard (inB (Dt.asU v_row) (1 : Int)) (R.guard (Dt.isU (getI (Dt.asU v_row) (1 : Int)) = true) (R.ok ())))).bind fun x203 => (m_Block_init (Dt.asU (getI (Dt.asU v_row) (1 : Int)))).bind fun a => R.ok a.2).bind fun a204 => R.guard (gL z_blocks) ((R.ok (z_blocks ++ [a204])).bind fun v_blocks =>
  (R.ok true).bind fun r205 => R.ok (r205, z_rows, v_blocks)))) else (
  (R.guard (Dt.isU v_row = true) (R.guard (inB (Dt.asU v_row) (0 : Int)) (R.guard (gQ2 (eA (getI (Dt.asU v_row) (0 : Int))) (eS (lt "else"))) (R.ok (eqD (eA (getI (Dt.asU v_row) (0 : Int))) (eS (lt "else"))))))).bind fun b => if b = true then (
  (R.or (R.ok (decide (z_blocks.length = 0))) (R.guard (inB z_blocks (-(1 : Int))) (R.ok (getI z_blocks (-(1 : Int))).2.1))).bind fun b => if b = true then (
  (R.ok false).bind fun r210 => R.ok (r210, z_rows, z_blocks)) else (
  R.guard (inB z_blocks (-(1 : Int))) ((R.ok true).bind fun a212 =>
  (R.ok ((setI z_blocks (-(1 : Int)) ((getI z_blocks (-(1 : Int))).1, a212, (getI z_blocks (-(1 : Int))).2.2.1, (getI z_blocks (-(1 : Int))).2.2.2)))).bind fun v_blocks =>
  (R.ok true).bind fun r214 => R.ok (r214, z_rows, v_blocks)))) else (
  (R.guard (Dt.isU v_row = true) (R.guard (inB (Dt.asU v_row) (0 : Int)) (R.guard (gQ2 (eA (getI (Dt.asU v_row) (0 : Int))) (eS (lt "end"))) (R.ok (eqD (eA (getI (Dt.asU v_row) (0 : Int))) (eS (lt "end"))))))).bind fun b => if b = true then (
  (R.ok (decide (z_blocks.length = 0))).bind fun b => if b = true then (
  (R.ok false).bind fun r218 => R.ok (r218, z_rows, z_blocks)) else (
  (((popR z_blocks).bind fun a219 => (m_Block_closed a219.1).bind fun b => R.ok (a219, b)).calm).bind fun a220 =>
  (R.ok (a220.2)).bind fun v_row =>
  (R.ok (a220.1.2)).bind fun v_blocks =>
  (R.ok (decide (v_blocks.length = 0))).bind fun b => if b = true then (
  R.guard (gL z_rows) ((R.ok (z_rows ++ [v_row])).bind fun v_rows =>
  (R.ok true).bind fun r222 => R.ok (r222, v_rows, v_blocks))) else (
  R.guard (inB v_blocks (-(1 : Int))) ((R.ok v_row).bind fun a225 => R.guard (gL (if (getI v_blocks (-(1 : Int))).2.1 = true then (getI v_blocks (-(1 : Int))).2.2.2 else (getI v_blocks (-(1 : Int))).2.2.1)) ((R.ok ((if (getI v_blocks (-(1 : Int))).2.1 = true then (getI v_blocks (-(1 : Int))).2.2.2 else (getI v_blocks (-(1 : Int))).2.2.1) ++ [a225])).bind fun v224 =>
  (R.ok ((setI v_blocks (-(1 : Int)) (if (getI v_blocks (-(1 : Int))).2.1 = true then ((getI v_blocks (-(1 : Int))).1, (getI v_blocks (-(1 : Int))).2.1, (getI v_blocks (-(1 : Int))).2.2.1, v224) else ((getI v_blocks (-(1 : Int))).1, (getI v_blocks (-(1 : Int))).2.1, v224, (getI v_blocks (-(1 : Int))).2.2.2))))).bind fun v_blocks =>
  (R.ok true).bind fun r226 => R.ok (r226, z_rows, v_blocks)))))) else (
  (R.ok (decide (z_blocks.length = 0))).bind fun b => if b = true then (
  ((R.ok v_row).bind fun a => R.guard ((rowB a).isNone = true) (R.ok a)).bind fun a227 => R.guard (gL z_rows) ((R.ok (z_rows ++ [a227])).bind fun v_rows =>
  (R.ok true).bind fun r228 => R.ok (r228, v_rows, z_blocks))) else (
  R.guard (inB z_blocks (-(1 : Int))) ((R.ok v_row).bind fun a231 => R.guard (gL (if (getI z_blocks (-(1 : Int))).2.1 = true then (getI z_blocks (-(1 : Int))).2.2.2 else (getI z_blocks (-(1 : Int))).2.2.1)) ((R.ok ((if (getI z_blocks (-(1 : Int))).2.1 = true then (getI z_blocks (-(1 : Int))).2.2.2 else (getI z_blocks (-(1 : Int))).2.2.1) ++ [a231])).bind fun v230 =>
  (R.ok ((setI z_blocks (-(1 : Int)) (if (getI z_blocks (-(1 : Int))).2.1 = true then ((getI z_blocks (-(1 : Int))).1, (getI z_blocks (-(1 : Int))).2.1, (getI z_blocks (-(1 : Int))).2.2.1, v230) else ((getI z_blocks (-(1 : Int))).1, (getI z_blocks (-(1 : Int))).2.1, v230, (getI z_blocks (-(1 : Int))).2.2.2))))).bind fun v_blocks =>
  (R.ok true).bind fun r232 => R.ok (r232, z_rows, v_blocks))))))))
def m_law_row (v_cell : Int) (v_names : (List (List Nat))) : R ((List Nat) × (List Dt)) :=
  (m_law_spread v_cell (13 : Int)).bind fun v_xs =>
  (m_law_term v_xs v_names).bind (R.sp2 fun v_line v_term =>
  (R.guard (inB v_xs (10 : Int)) (R.guard (0 < (4 : Int)) (R.guard (inB v_names ((getI v_xs (10 : Int)) % (4 : Int))) (R.ok (getI v_names ((getI v_xs (10 : Int)) % (4 : Int))))))).bind fun v_shelf =>
  (R.guard (inB v_xs (11 : Int)) (R.guard (0 < (5 : Int)) (R.ok ((getI v_xs (11 : Int)) % (5 : Int))))).bind fun v_kind =>
  (R.ok (decide (v_kind = (0 : Int)))).bind fun b => if b = true then (
  (R.guard (inB v_xs (12 : Int)) (R.guard (0 < (4 : Int)) (R.guard (inB v_names ((getI v_xs (12 : Int)) % (4 : Int))) (R.ok (getI v_names ((getI v_xs (12 : Int)) % (4 : Int))))))).bind fun v_slot =>
  (R.guard (gS ((lt "take ") ++ v_shelf)) (R.guard (gS (((lt "take ") ++ v_shelf) ++ (lt " "))) (R.guard (gS ((((lt "take ") ++ v_shelf) ++ (lt " ")) ++ v_line)) (R.guard (gS (((((lt "take ") ++ v_shelf) ++ (lt " ")) ++ v_line) ++ (lt " as "))) (R.guard (gS ((((((lt "take ") ++ v_shelf) ++ (lt " ")) ++ v_line) ++ (lt " as ")) ++ v_slot)) (R.ok (((((((lt "take ") ++ v_shelf) ++ (lt " ")) ++ v_line) ++ (lt " as ")) ++ v_slot), ([(eS (lt "take")), (eS v_shelf), ((eU eA) v_term), (eS v_slot)] : (List Dt)))))))))) else (
  (R.ok (decide (v_kind = (1 : Int)))).bind fun b => if b = true then (
  (m_law_term (cutL v_xs (some (5 : Int)) none) v_names).bind (R.sp2 fun v_other v_worth =>
  (R.guard (gS ((lt "give ") ++ v_shelf)) (R.guard (gS (((lt "give ") ++ v_shelf) ++ (lt " "))) (R.guard (gS ((((lt "give ") ++ v_shelf) ++ (lt " ")) ++ v_line)) (R.guard (gS (((((lt "give ") ++ v_shelf) ++ (lt " ")) ++ v_line) ++ (lt " "))) (R.guard (gS ((((((lt "give ") ++ v_shelf) ++ (lt " ")) ++ v_line) ++ (lt " ")) ++ v_other)) (R.ok (((((((lt "give ") ++ v_shelf) ++ (lt " ")) ++ v_line) ++ (lt " ")) ++ v_other), ([(eS (lt "give")), (eS v_shelf), ((eU eA) v_term), ((eU eA) v_worth)] : (List Dt))))))))))) else (
  (R.ok (decide (v_kind = (2 : Int)))).bind fun b => if b = true then (
  (R.guard (gS ((lt "let ") ++ v_shelf)) (R.guard (gS (((lt "let ") ++ v_shelf) ++ (lt " "))) (R.guard (gS ((((lt "let ") ++ v_shelf) ++ (lt " ")) ++ v_line)) (R.ok (((((lt "let ") ++ v_shelf) ++ (lt " ")) ++ v_line), ([(eS (lt "let")), (eS v_shelf), ((eU eA) v_term)] : (List Dt)))))))) else (
  (R.ok (decide (v_kind = (3 : Int)))).bind fun b => if b = true then (
  (R.guard (gS ((lt "say ") ++ v_line)) (R.ok (((lt "say ") ++ v_line), ([(eS (lt "say")), ((eU eA) v_term)] : (List Dt)))))) else (
  (R.guard (gS ((lt "off ") ++ v_line)) (R.ok (((lt "off ") ++ v_line), ([(eS (lt "off")), ((eU eA) v_term)] : (List Dt))))))))))
def m_law_folded_L1 (v_lines : (List (List Nat))) (v_lot : ((List (List Nat)) × Dt × Int)) : R (List (List Nat)) :=
  (R.guard ((v_lines ++ v_lot.1).length ≤ 16777216) (R.ok (v_lines ++ v_lot.1))).bind fun v_lines =>
  R.ok v_lines
def m_law_folded_L2 (v_lines : (List (List Nat))) (v_lot : ((List (List Nat)) × Dt × Int)) : R (List (List Nat)) :=
  (R.guard ((v_lines ++ v_lot.1).length ≤ 16777216) (R.ok (v_lines ++ v_lot.1))).bind fun v_lines =>
  R.ok v_lines
def m_law_folded_C1  (v_lot : ((List (List Nat)) × Dt × Int)) : R Dt := (R.ok v_lot.2.1)
def m_law_folded_C2  (v_lot : ((List (List Nat)) × Dt × Int)) : R Dt := (R.ok v_lot.2.1)
def m_law_folded_C3  (v_lot : ((List (List Nat)) × Dt × Int)) : R Int := (R.ok v_lot.2.2)
def m_law_folded_J3 (v_some : (List ((List (List Nat)) × Dt × Int))) (v_many : Int) (v_last : (List ((List (List Nat)) × Dt × Int))) (v_cut : Int) (v_term : (List Dt)) (v_lines : (List (List Nat))) : R (List ((List (List Nat)) × Dt × Int)) :=
  (((((R.ok (cutL v_last none (some v_cut))).bind fun c => R.guard (c.length ≤ 16777216) (mapR (fun x => m_law_folded_C1 x) c)).bind fun a => (((R.ok (cutL v_last (some v_cut) none)).bind fun c => R.guard (c.length ≤ 16777216) (mapR (fun x => m_law_folded_C2 x) c)).bind fun a => (R.ok ()).bind fun b => R.ok (a, b)).bind fun b => R.ok (a, b)).bind fun x289 => R.ok ((lt "if"), v_term, x289.1, x289.2.1)).bind fun a => R.ok ((e4 eS (eU eA) (eL eA) (eL eA)) a)).bind fun v_row =>
  ((R.ok (1 : Int)).bind fun x295 => (((R.ok ([(0 : Int)] : (List Int))).bind fun x291 => ((R.ok v_last).bind fun c => R.guard (c.length ≤ 16777216) (mapR (fun x => m_law_folded_C3 x) c)).bind fun x292 => R.guard ((x291 ++ x292).length ≤ 16777216) (R.ok (x291 ++ x292))).bind fun x294 => R.guard (0 < x294.length) (R.ok (maxL x294))).bind fun x296 => R.ok (x295 + x296)).bind fun v_deep =>
  (R.guard ((v_lines ++ ([(lt "end")] : (List (List Nat)))).length ≤ 16777216) (R.guard (((cutL v_some none (some ((v_some.length : Int) - v_many))) ++ ([((v_lines ++ ([(lt "end")] : (List (List Nat)))), v_row, v_deep)] : (List ((List (List Nat)) × Dt × Int)))).length ≤ 16777216) (R.ok ((cutL v_some none (some ((v_some.length : Int) - v_many))) ++ ([((v_lines ++ ([(lt "end")] : (List (List Nat)))), v_row, v_deep)] : (List ((List (List Nat)) × Dt × Int)))))))
def m_law_folded_J2 (v_some : (List ((List (List Nat)) × Dt × Int))) (v_many : Int) (v_last : (List ((List (List Nat)) × Dt × Int))) (v_cut : Int) (v_term : (List Dt)) (v_lines : (List (List Nat))) : R (List ((List (List Nat)) × Dt × Int)) :=
  ((R.ok (cutL v_last (some v_cut) none)).bind fun c286 => foldR (fun y278 (s279 : (List (List Nat))) => m_law_folded_L2 s279 y278) c286 v_lines).bind fun s279 => m_law_folded_J3 v_some v_many v_last v_cut v_term s279
def m_law_folded_J1 (v_some : (List ((List (List Nat)) × Dt × Int))) (v_many : Int) (v_last : (List ((List (List Nat)) × Dt × Int))) (v_cut : Int) (v_term : (List Dt)) (v_lines : (List (List Nat))) : R (List ((List (List Nat)) × Dt × Int)) :=
  (((R.ok (decide (v_cut < v_many))).bind fun b => if b = true then (
  (R.ok (lt "else")).bind fun a277 => R.guard (gL v_lines) ((R.ok (v_lines ++ [a277])).bind fun v_lines =>
  R.ok v_lines)) else (
  R.ok v_lines)) : R (List (List Nat))).bind fun s274 => m_law_folded_J2 v_some v_many v_last v_cut v_term s274
def m_law_folded (v_some : (List ((List (List Nat)) × Dt × Int))) (v_cell : Int) (v_names : (List (List Nat))) : R (List ((List (List Nat)) × Dt × Int)) :=
  (R.guard (CDivW v_cell (7 : Int)) (R.guard (0 < ((v_some.length : Int) + (1 : Int))) (R.ok ((v_cell / (7 : Int)) % ((v_some.length : Int) + (1 : Int)))))).bind fun v_many =>
  (R.ok (cutL v_some (some ((v_some.length : Int) - v_many)) none)).bind fun v_last =>
  (R.guard (CDivW v_cell (77 : Int)) (R.guard (0 < (v_many + (1 : Int))) (R.ok ((v_cell / (77 : Int)) % (v_many + (1 : Int)))))).bind fun v_cut =>
  (((m_law_spread v_cell (6 : Int)).bind fun a => (R.ok ()).bind fun b => R.ok (a, b)).bind fun x262 => m_law_term x262.1 v_names).bind (R.sp2 fun v_line v_term =>
  (R.guard (gS ((lt "if ") ++ v_line)) (R.ok ([((lt "if ") ++ v_line)] : (List (List Nat))))).bind fun v_lines =>
  ((R.ok (cutL v_last none (some v_cut))).bind fun c273 => foldR (fun y265 (s266 : (List (List Nat))) => m_law_folded_L1 s266 y265) c273 v_lines).bind fun s266 => m_law_folded_J1 v_some v_many v_last v_cut v_term s266)
def m_term_from_Q1 (v_words : (List (List Nat))) (v_at : Int) (v_place : Int) : R Bool := (R.ok ((decide (v_place < (v_words.length : Int))) && (decide ((v_place - v_at) < (60 : Int)))))
def m_term_from_Q2 (v_waiting : (List (List Nat))) (v_lacking : (List Int)) : R Bool := (R.and (R.guard (gQ (eL eS v_waiting)) (R.ok (!decide (v_waiting.length = 0)))) (R.guard (inB v_lacking (-(1 : Int))) (R.ok (decide ((getI v_lacking (-(1 : Int))) = (1 : Int))))))
def m_term_from_L2 (v_told : (List Dt)) (v_waiting : (List (List Nat))) (v_lacking : (List Int)) : R (Ctl ((List Dt) × (List (List Nat)) × (List Int)) ((List Dt) × Int)) :=
  ((popR v_waiting).bind fun p => R.ok ((fun (a : (List Nat)) => (eS a)) p.1, p.2)).bind (R.sp2 fun a317 v_waiting => R.guard (gL v_told) ((R.ok (v_told ++ [a317])).bind fun v_told =>
  (popR v_lacking).bind (R.sp2 fun _ v_lacking =>
  R.ok (Ctl.nx (v_told, v_waiting, v_lacking)))))
def m_term_from_J1 (v_told : (List Dt)) (v_waiting : (List (List Nat))) (v_lacking : (List Int)) (v_place : Int) : R (Ctl ((List Dt) × (List (List Nat)) × (List Int) × Int) ((List Dt) × Int)) :=
  (R.guard (gQ (eL eS v_waiting)) (R.ok (decide (v_waiting.length = 0)))).bind fun b => if b = true then (
  (R.ok (v_told, v_place)).bind fun r => R.ok (Ctl.rt r)) else (
  (R.ok (1 : Int)).bind fun a319 => R.guard (inB v_lacking (-(1 : Int))) ((R.ok (setI v_lacking (-(1 : Int)) a319)).bind fun v_lacking =>
  R.ok (Ctl.nx (v_told, v_waiting, v_lacking, v_place))))
def m_term_from_L1 (v_words : (List (List Nat))) (v_told : (List Dt)) (v_waiting : (List (List Nat))) (v_lacking : (List Int)) (v_place : Int) : R (Ctl ((List Dt) × (List (List Nat)) × (List Int) × Int) ((List Dt) × Int)) :=
  (R.guard (inB v_words v_place) (R.ok (getI v_words v_place))).bind fun v_word =>
  ((R.ok (1 : Int)).bind fun b320 => R.ok (v_place + b320)).bind fun v_place =>
  (R.ok (decide (v_word ∈ k_DOERS))).bind fun b => if b = true then (
  (R.ok v_word).bind fun a306 => R.guard (gL v_waiting) ((R.ok (v_waiting ++ [a306])).bind fun v_waiting =>
  (R.ok (2 : Int)).bind fun a307 => R.guard (gL v_lacking) ((R.ok (v_lacking ++ [a307])).bind fun v_lacking =>
  R.ok (Ctl.nx (v_told, v_waiting, v_lacking, v_place))))) else (
  (m_part_in v_word).bind fun a308 => R.guard (gL v_told) ((R.ok (v_told ++ [a308])).bind fun v_told =>
  ((whileR (fun (s309 : ((List Dt) × (List (List Nat)) × (List Int))) => m_term_from_Q2 s309.2.1 s309.2.2) (fun (s309 : ((List Dt) × (List (List Nat)) × (List Int))) => m_term_from_L2 s309.1 s309.2.1 s309.2.2) (64) (v_told, v_waiting, v_lacking)) : R (Ctl ((List Dt) × (List (List Nat)) × (List Int)) ((List Dt) × Int))).bind fun c => c.fin2 fun s309 => m_term_from_J1 s309.1 s309.2.1 s309.2.2 v_place))
def m_term_from_J2  : R ((List Dt) × Int) :=
  R.err .noTerm
def m_term_from (v_words : (List (List Nat))) (v_at : Int) : R ((List Dt) × Int) :=
  (R.ok ([] : (List Dt))).bind fun v_told =>
  (R.ok ([] : (List (List Nat)))).bind fun v_waiting =>
  (R.ok ([] : (List Int))).bind fun v_lacking =>
  (R.ok v_at).bind fun v_place =>
  ((whileR (fun (s299 : ((List Dt) × (List (List Nat)) × (List Int) × Int)) => m_term_from_Q1 v_words v_at s299.2.2.2) (fun (s299 : ((List Dt) × (List (List Nat)) × (List Int) × Int)) => m_term_from_L1 v_words s299.1 s299.2.1 s299.2.2.1 s299.2.2.2) (64) (v_told, v_waiting, v_lacking, v_place)) : R (Ctl ((List Dt) × (List (List Nat)) × (List Int) × Int) ((List Dt) × Int))).bind fun c => c.fin fun s299 => m_term_from_J2 
def m_line_of (v_row : Dt) : R (List Nat) :=
  (R.guard (Dt.isU v_row = true) (R.guard (inB (Dt.asU v_row) (0 : Int)) (R.guard (gQ2 (eA (getI (Dt.asU v_row) (0 : Int))) (eS (lt "take"))) (R.ok (eqD (eA (getI (Dt.asU v_row) (0 : Int))) (eS (lt "take"))))))).bind fun b => if b = true then (
  (((R.guard (Dt.isU v_row = true) (R.guard (inB (Dt.asU v_row) (1 : Int)) (R.guard (Dt.isX (getI (Dt.asU v_row) (1 : Int)) = true) (R.guard (Dt.isU v_row = true) (R.guard (inB (Dt.asU v_row) (2 : Int)) (m_written ([(lt "take"), (Dt.asX (getI (Dt.asU v_row) (1 : Int)))] : (List (List Nat))) (getI (Dt.asU v_row) (2 : Int)))))))).bind fun x329 => (R.ok (lt " as ")).bind fun x330 => R.guard (gS (x329 ++ x330)) (R.ok (x329 ++ x330))).bind fun x335 => (R.guard (Dt.isU v_row = true) (R.guard (inB (Dt.asU v_row) (3 : Int)) (R.guard (Dt.isX (getI (Dt.asU v_row) (3 : Int)) = true) (R.ok (Dt.asX (getI (Dt.asU v_row) (3 : Int))))))).bind fun x336 => R.guard (gS (x335 ++ x336)) (R.ok (x335 ++ x336)))) else (
  (R.guard (Dt.isU v_row = true) (R.guard (inB (Dt.asU v_row) (0 : Int)) (R.guard (gQ2 (eA (getI (Dt.asU v_row) (0 : Int))) (eS (lt "give"))) (R.ok (eqD (eA (getI (Dt.asU v_row) (0 : Int))) (eS (lt "give"))))))).bind fun b => if b = true then (
  ((R.guard (Dt.isU v_row = true) (R.guard (inB (Dt.asU v_row) (1 : Int)) (R.guard (Dt.isX (getI (Dt.asU v_row) (1 : Int)) = true) (R.guard (Dt.isU v_row = true) (R.guard (inB (Dt.asU v_row) (2 : Int)) (m_written ([(lt "give"), (Dt.asX (getI (Dt.asU v_row) (1 : Int)))] : (List (List Nat))) (getI (Dt.asU v_row) (2 : Int)))))))).bind fun x348 => (R.guard (Dt.isU v_row = true) (R.guard (inB (Dt.asU v_row) (3 : Int)) (m_written ([(lt "")] : (List (List Nat))) (getI (Dt.asU v_row) (3 : Int))))).bind fun x349 => R.guard (gS (x348 ++ x349)) (R.ok (x348 ++ x349)))) else (
  (R.guard (Dt.isU v_row = true) (R.guard (inB (Dt.asU v_row) (0 : Int)) (R.guard (gQ2 (eA (getI (Dt.asU v_row) (0 : Int))) (eS (lt "let"))) (R.ok (eqD (eA (getI (Dt.asU v_row) (0 : Int))) (eS (lt "let"))))))).bind fun b => if b = true then (
  (R.guard (Dt.isU v_row = true) (R.guard (inB (Dt.asU v_row) (1 : Int)) (R.guard (Dt.isX (getI (Dt.asU v_row) (1 : Int)) = true) (R.guard (Dt.isU v_row = true) (R.guard (inB (Dt.asU v_row) (2 : Int)) (m_written ([(lt "let"), (Dt.asX (getI (Dt.asU v_row) (1 : Int)))] : (List (List Nat))) (getI (Dt.asU v_row) (2 : Int))))))))) else (
  (R.guard (Dt.isU v_row = true) (R.guard (inB (Dt.asU v_row) (0 : Int)) (R.guard (Dt.isX (getI (Dt.asU v_row) (0 : Int)) = true) (R.guard (Dt.isU v_row = true) (R.guard (inB (Dt.asU v_row) (1 : Int)) (m_written ([(Dt.asX (getI (Dt.asU v_row) (0 : Int)))] : (List (List Nat))) (getI (Dt.asU v_row) (1 : Int)))))))))))
def m_law_rows_C1  (v_lot : ((List (List Nat)) × Dt × Int)) : R Int := (R.ok v_lot.2.2)
def m_law_rows_C2  (v_lot : ((List (List Nat)) × Dt × Int)) : R Int := (R.ok (v_lot.1.length : Int))
def m_law_rows_J1 (v_some : (List ((List (List Nat)) × Dt × Int))) (v_made : (List ((List (List Nat)) × Dt × Int))) : R (List ((List (List Nat)) × Dt × Int)) :=
  (R.and ((((R.ok v_made).bind fun c => R.guard (c.length ≤ 16777216) (mapR (fun x => m_law_rows_C1 x) c)).bind fun x379 => R.guard (0 < x379.length) (R.ok (maxL x379))).bind fun x380 => (R.ok (5 : Int)).bind fun x381 => R.ok (decide (x380 ≤ x381))) ((((R.ok v_made).bind fun c => R.guard (c.length ≤ 16777216) (mapR (fun x => m_law_rows_C2 x) c)).bind fun x383 => R.ok x383.sum).bind fun x384 => (R.ok (40 : Int)).bind fun x385 => R.ok (decide (x384 ≤ x385)))).bind fun b => if b = true then (
  (R.ok v_made).bind fun v_some =>
  R.ok v_some) else (
  R.ok v_some)
def m_law_rows_L1 (v_names : (List (List Nat))) (v_some : (List ((List (List Nat)) × Dt × Int))) (v_cell : Int) : R (List ((List (List Nat)) × Dt × Int)) :=
  (((R.guard (0 < (7 : Int)) (R.ok (decide ((v_cell % (7 : Int)) < (2 : Int))))).bind fun b => if b = true then (
  (m_law_folded v_some v_cell v_names).bind fun v_made =>
  R.ok v_made) else (
  (R.guard (CDivW v_cell (7 : Int)) (m_law_row (v_cell / (7 : Int)) v_names)).bind (R.sp2 fun v_line v_row =>
  (R.guard ((v_some ++ ([(([v_line] : (List (List Nat))), ((eU eA) v_row), (0 : Int))] : (List ((List (List Nat)) × Dt × Int)))).length ≤ 16777216) (R.ok (v_some ++ ([(([v_line] : (List (List Nat))), ((eU eA) v_row), (0 : Int))] : (List ((List (List Nat)) × Dt × Int)))))).bind fun v_made =>
  R.ok v_made))) : R (List ((List (List Nat)) × Dt × Int))).bind fun s372 => m_law_rows_J1 v_some s372
def m_law_rows_L2 (v_lot : ((List (List Nat)) × Dt × Int)) (v_lines : (List (List Nat))) : R (List (List Nat)) :=
  (R.guard ((v_lines ++ v_lot.1).length ≤ 16777216) (R.ok (v_lines ++ v_lot.1))).bind fun v_lines =>
  R.ok v_lines
def m_law_rows_C3  (v_lot : ((List (List Nat)) × Dt × Int)) : R Dt := (R.ok v_lot.2.1)
def m_law_rows_J3 (v_some : (List ((List (List Nat)) × Dt × Int))) (v_lines : (List (List Nat))) : R ((List Nat) × (List Dt)) :=
  ((((R.ok v_lines).bind fun x396 => R.guard (gJ (lt "\n") x396) (R.ok (joinX (lt "\n") x396))).bind fun a => (((R.ok v_some).bind fun c => R.guard (c.length ≤ 16777216) (mapR (fun x => m_law_rows_C3 x) c)).bind fun a => (R.ok ()).bind fun b => R.ok (a, b)).bind fun b => R.ok (a, b)).bind fun x398 => R.ok (x398.1, x398.2.1))
def m_law_rows_J2 (v_some : (List ((List (List Nat)) × Dt × Int))) : R ((List Nat) × (List Dt)) :=
  (R.ok ([] : (List (List Nat)))).bind fun v_lines =>
  ((R.ok v_some).bind fun c395 => foldR (fun y387 (s388 : (List (List Nat))) => m_law_rows_L2 y387 s388) c395 v_lines).bind fun s388 => m_law_rows_J3 v_some s388
def m_law_rows (v_cells : (List Int)) (v_names : (List (List Nat))) : R ((List Nat) × (List Dt)) :=
  (R.ok ([] : (List ((List (List Nat)) × Dt × Int)))).bind fun v_some =>
  ((R.ok v_cells).bind fun c386 => foldR (fun y364 (s365 : (List ((List (List Nat)) × Dt × Int))) => m_law_rows_L1 v_names s365 y364) c386 v_some).bind fun s365 => m_law_rows_J2 s365
def m_take_of (v_words : (List (List Nat))) : R (Option (List Dt)) :=
  (m_term_from v_words (2 : Int)).bind (R.sp2 fun v_term v_behind =>
  (R.or (R.ok (!decide ((v_words.length : Int) = (v_behind + (2 : Int))))) (R.or (R.guard (inB v_words v_behind) (R.ok (!decide ((getI v_words v_behind) = (lt "as"))))) (R.not (R.guard (inB v_words (v_behind + (1 : Int))) (m_is_name (getI v_words (v_behind + (1 : Int)))))))).bind fun b => if b = true then (
  (R.ok none)) else (
  (R.guard (inB v_words (1 : Int)) (R.guard (inB v_words (v_behind + (1 : Int))) (R.ok (some ([(eS (lt "take")), (eS (getI v_words (1 : Int))), ((eU eA) v_term), (eS (getI v_words (v_behind + (1 : Int))))] : (List Dt))))))))
def m_row_of_J1 (v_term : (List Dt)) (v_behind : Int) (v_row : (List Dt)) : R (Ctl ((List Dt) × Int × (List Dt)) (Option (List Dt))) :=
  R.ok (Ctl.nx (v_term, v_behind, v_row))
def m_row_of_J2 (v_words : (List (List Nat))) (v_behind : Int) (v_row : (List Dt)) : R (Option (List Dt)) :=
  (R.ok (!decide (v_behind = (v_words.length : Int)))).bind fun b => if b = true then (
  (R.ok none)) else (
  (R.ok (some v_row)))
def m_row_of (v_words : (List (List Nat))) : R (Option (List Dt)) :=
  (R.guard (inB v_words (0 : Int)) (R.ok (getI v_words (0 : Int)))).bind fun v_head =>
  (R.ok ((decide ((v_words.length : Int) = (1 : Int))) && (decide (v_head ∈ ([(lt "else"), (lt "end")] : (List (List Nat))))))).bind fun b => if b = true then (
  (R.ok (some ([(eS v_head)] : (List Dt))))) else (
  (((R.ok (decide (v_head ∈ ([(lt "say"), (lt "off"), (lt "if")] : (List (List Nat)))))).bind fun b => if b = true then (
  (m_term_from v_words (1 : Int)).bind (R.sp2 fun v_term v_behind =>
  (R.ok ([(eS v_head), ((eU eA) v_term)] : (List Dt))).bind fun v_row =>
  R.ok (Ctl.nx (v_term, v_behind, v_row)))) else (
  (R.or (R.ok (decide ((v_words.length : Int) < (2 : Int)))) (R.or (R.not (R.guard (inB v_words (1 : Int)) (m_is_name (getI v_words (1 : Int))))) (R.ok (!decide (v_head ∈ ([(lt "take"), (lt "give"), (lt "let")] : (List (List Nat)))))))).bind fun b => if b = true then (
  (R.ok none).bind fun r => R.ok (Ctl.rt r)) else (
  (R.ok (decide (v_head = (lt "take")))).bind fun b => if b = true then (
  (m_take_of v_words).bind fun r => R.ok (Ctl.rt r)) else (
  (m_term_from v_words (2 : Int)).bind (R.sp2 fun v_term v_behind =>
  (R.guard (inB v_words (1 : Int)) (R.ok ([(eS v_head), (eS (getI v_words (1 : Int))), ((eU eA) v_term)] : (List Dt)))).bind fun v_row =>
  (((R.ok (decide (v_head = (lt "give")))).bind fun b => if b = true then (
  (m_term_from v_words v_behind).bind (R.sp2 fun v_worth v_behind =>
  (R.guard (inB v_words (1 : Int)) (R.ok ([(eS v_head), (eS (getI v_words (1 : Int))), ((eU eA) v_term), ((eU eA) v_worth)] : (List Dt)))).bind fun v_row =>
  R.ok (v_behind, v_row))) else (
  R.ok (v_behind, v_row))) : R (Int × (List Dt))).bind fun s413 => m_row_of_J1 v_term s413.1 s413.2))))) : R (Ctl ((List Dt) × Int × (List Dt)) (Option (List Dt)))).bind fun c => c.fin fun s405 => m_row_of_J2 v_words s405.2.1 s405.2.2)
def m_row_in_H1 (e424 : Exn)  : R (Ctl Unit (Option (List Dt))) := (R.ok none).bind fun r => R.ok (Ctl.rt r)
def m_row_in_J1  : R (Option (List Dt)) :=
  R.ok none
def m_row_in (v_line : (List Nat)) : R (Option (List Dt)) :=
  (R.guard (gSp v_line (lt " ")) (R.ok (splX v_line (lt " ")))).bind fun v_words =>
  (R.ok (decide ((60 : Int) < (v_words.length : Int)))).bind fun b => if b = true then (
  (R.ok none)) else (
  (R.tryC ((m_row_of v_words).bind fun r => R.ok (Ctl.rt r)) (Exn.is "NoTerm") (fun e424 => m_row_in_H1 e424 ) : R (Ctl Unit (Option (List Dt)))).bind fun c => c.fin fun s420 => m_row_in_J1 )
def m_read_L1 (v_rows : (List Dt)) (v_blocks : (List S_Block)) (v_number : Int) (v_line : (List Nat)) : R ((List Dt) × (List S_Block)) :=
  (((R.ok (decide (v_number = (40 : Int)))).bind fun b => R.ok (b, (v_rows, v_blocks))).bind fun x448 => if x448.1 = true then R.ok (true, x448.2) else ((((((m_row_in v_line).bind fun a => R.ok ((eO (eU eA)) a)).bind fun a => (R.ok ()).bind fun b => R.ok (a, b)).bind fun x445 => m_put_in x445.1 x448.2.1 x448.2.2).bind fun a447 => R.ok (a447.1, (a447.2.1, a447.2.2))).bind fun x => R.ok (!x.1, x.2))).bind fun a449 => if a449.1 = true then (
  (R.ok (a449.2.1)).bind fun v_rows =>
  (R.ok (a449.2.2)).bind fun v_blocks =>
  (R.ok v_number).bind fun r450 => R.err (.noDealing r450)) else (
  (R.ok (a449.2.1)).bind fun v_rows =>
  (R.ok (a449.2.2)).bind fun v_blocks =>
  R.ok (v_rows, v_blocks))
def m_read_J2 (v_rows : (List Dt)) (v_blocks : (List S_Block)) (v_lines : (List (List Nat))) : R (List Dt) :=
  (R.ok (!decide (v_blocks.length = 0))).bind fun b => if b = true then (
  (R.ok (v_lines.length : Int)).bind fun r452 => R.err (.noDealing r452)) else (
  (R.ok v_rows))
def m_read_J1 (v_rows : (List Dt)) (v_blocks : (List S_Block)) (v_lines : (List (List Nat))) : R (List Dt) :=
  ((R.ok v_lines).bind fun c451 => foldR (fun y436 (s437 : ((List Dt) × (List S_Block))) => m_read_L1 s437.1 s437.2 y436.1 y436.2) (enumX c451) (v_rows, v_blocks)).bind fun s437 => m_read_J2 s437.1 s437.2 v_lines
def m_read (v_text : (List Nat)) : R (List Dt) :=
  (R.ok ([] : (List Dt))).bind fun v_rows =>
  (R.ok ([] : (List S_Block))).bind fun v_blocks =>
  (R.ok ([] : (List (List Nat)))).bind fun v_lines =>
  (((R.ok (!decide (v_text = (lt "")))).bind fun b => if b = true then (
  (R.guard (gSp v_text (lt "\n")) (R.ok (splX v_text (lt "\n")))).bind fun v_lines =>
  R.ok v_lines) else (
  R.ok v_lines)) : R (List (List Nat))).bind fun s432 => m_read_J1 v_rows v_blocks s432
class Rc_2 where
  r_law_copy : Dt → R (List Dt)
section
variable [Rc_2]
def m_law_copy_L1 (v_made : (List Dt)) (v_row : Dt) : R (List Dt) :=
  (R.guard (Dt.isU v_row = true) (R.guard (inB (Dt.asU v_row) (0 : Int)) (R.guard (gQ2 (eA (getI (Dt.asU v_row) (0 : Int))) (eS (lt "if"))) (R.ok (eqD (eA (getI (Dt.asU v_row) (0 : Int))) (eS (lt "if"))))))).bind fun b => if b = true then (
  (((R.guard (Dt.isU v_row = true) (R.guard (inB (Dt.asU v_row) (1 : Int)) ((R.guard (Dt.isU v_row = true) (R.guard (inB (Dt.asU v_row) (2 : Int)) (Rc_2.r_law_copy (getI (Dt.asU v_row) (2 : Int))))).bind fun a => ((R.guard (Dt.isU v_row = true) (R.guard (inB (Dt.asU v_row) (3 : Int)) (Rc_2.r_law_copy (getI (Dt.asU v_row) (3 : Int))))).bind fun a => (R.ok ()).bind fun b => R.ok (a, b)).bind fun b => R.ok (a, b)))).bind fun x469 => R.ok ((lt "if"), (getI (Dt.asU v_row) (1 : Int)), x469.1, x469.2.1)).bind fun a => R.ok ((e4 eS eA (eL eA) (eL eA)) a)).bind fun a470 => R.guard (gL v_made) ((R.ok (v_made ++ [a470])).bind fun v_made =>
  R.ok v_made)) else (
  (R.ok v_row).bind fun a471 => R.guard (gL v_made) ((R.ok (v_made ++ [a471])).bind fun v_made =>
  R.ok v_made))
def m_law_copy_J1 (v_made : (List Dt)) : R (List Dt) :=
  (R.ok v_made)
def m_law_copy_b (v_rows : Dt) : R (List Dt) :=
  (R.ok ([] : (List Dt))).bind fun v_made =>
  (((R.ok v_rows).bind fun d => R.guard (Dt.isQ d = true) (R.ok d)).bind fun c472 => foldR (fun y453 (s454 : (List Dt)) => m_law_copy_L1 s454 y453) (Dt.asQ c472) v_made).bind fun s454 => m_law_copy_J1 s454
end
def rc_2 : Nat → Rc_2
  | 0 => ⟨fun _ => R.bad⟩
  | n + 1 => ⟨@m_law_copy_b (rc_2 n)⟩
def m_law_copy : Dt → R (List Dt) := (rc_2 8).r_law_copy
class Rc_1 where
  r_lines_of : Dt → R (List (List Nat))
section
variable [Rc_1]
def m_lines_of_J1 (v_lines : (List (List Nat))) : R (List (List Nat)) :=
  (R.ok (lt "end")).bind fun a497 => R.guard (gL v_lines) ((R.ok (v_lines ++ [a497])).bind fun v_lines =>
  R.ok v_lines)
def m_lines_of_L1 (v_lines : (List (List Nat))) (v_row : Dt) : R (List (List Nat)) :=
  (m_line_of v_row).bind fun a480 => R.guard (gL v_lines) ((R.ok (v_lines ++ [a480])).bind fun v_lines =>
  (R.guard (Dt.isU v_row = true) (R.guard (inB (Dt.asU v_row) (0 : Int)) (R.guard (gQ2 (eA (getI (Dt.asU v_row) (0 : Int))) (eS (lt "if"))) (R.ok (eqD (eA (getI (Dt.asU v_row) (0 : Int))) (eS (lt "if"))))))).bind fun b => if b = true then (
  (R.guard (Dt.isU v_row = true) (R.guard (inB (Dt.asU v_row) (2 : Int)) (Rc_1.r_lines_of (getI (Dt.asU v_row) (2 : Int))))).bind fun a486 => R.guard (v_lines.length + a486.length ≤ 16777216) ((R.ok (v_lines ++ a486)).bind fun v_lines =>
  (((R.guard (Dt.isU v_row = true) (R.guard (inB (Dt.asU v_row) (3 : Int)) (R.guard (gQ2 (eA (getI (Dt.asU v_row) (3 : Int))) ((eL eA) ([] : (List Dt)))) (R.ok (!eqD (eA (getI (Dt.asU v_row) (3 : Int))) ((eL eA) ([] : (List Dt)))))))).bind fun b => if b = true then (
  (R.ok (lt "else")).bind fun a493 => R.guard (gL v_lines) ((R.ok (v_lines ++ [a493])).bind fun v_lines =>
  (R.guard (Dt.isU v_row = true) (R.guard (inB (Dt.asU v_row) (3 : Int)) (Rc_1.r_lines_of (getI (Dt.asU v_row) (3 : Int))))).bind fun a496 => R.guard (v_lines.length + a496.length ≤ 16777216) ((R.ok (v_lines ++ a496)).bind fun v_lines =>
  R.ok v_lines))) else (
  R.ok v_lines)) : R (List (List Nat))).bind fun s490 => m_lines_of_J1 s490)) else (
  R.ok v_lines))
def m_lines_of_J2 (v_lines : (List (List Nat))) : R (List (List Nat)) :=
  (R.ok v_lines)
def m_lines_of_b (v_rows : Dt) : R (List (List Nat)) :=
  (R.ok ([] : (List (List Nat)))).bind fun v_lines =>
  (((R.ok v_rows).bind fun d => R.guard (Dt.isQ d = true) (R.ok d)).bind fun c498 => foldR (fun y473 (s474 : (List (List Nat))) => m_lines_of_L1 s474 y473) (Dt.asQ c498) v_lines).bind fun s474 => m_lines_of_J2 s474
end
def rc_1 : Nat → Rc_1
  | 0 => ⟨fun _ => R.bad⟩
  | n + 1 => ⟨@m_lines_of_b (rc_1 n)⟩
def m_lines_of : Dt → R (List (List Nat)) := (rc_1 8).r_lines_of
def m_shown (v_rows : (List Dt)) : R (List Nat) :=
  ((m_lines_of ((eL eA) v_rows)).bind fun x499 => R.guard (gJ (lt "\n") x499) (R.ok (joinX (lt "\n") x499)))
class Rc_0 where
  r_law_alike : Dt → Dt → R Bool
section
variable [Rc_0]
def m_law_alike_L1 (v_one : Dt) (v_other : Dt) : R (Ctl Unit Bool) :=
  (R.not (Rc_0.r_law_alike v_one v_other)).bind fun b => if b = true then (
  (R.ok false).bind fun r => R.ok (Ctl.rt r)) else (
  R.ok (Ctl.nx ()))
def m_law_alike_J1  : R Bool :=
  (R.ok true)
def m_law_alike_b (v_found : Dt) (v_due : Dt) : R Bool :=
  (R.guard (gOt v_due) (R.ok (Dt.isTs ["list", "tuple"] v_due))).bind fun b => if b = true then (
  (R.or (R.guard (gOb v_due) (R.guard (gOb v_found) (R.ok (!decide ((Dt.isT "list" v_due) = (Dt.isT "list" v_found)))))) (R.guard (gOt v_found) (R.ok (!(Dt.isTs ["list", "tuple"] v_found))))).bind fun b => if b = true then (
  (R.ok false)) else (
  (R.guard (Dt.isQ v_found = true) (R.guard (Dt.isQ v_due = true) (R.ok (!decide (((Dt.asQ v_found).length : Int) = ((Dt.asQ v_due).length : Int)))))).bind fun b => if b = true then (
  (R.ok false)) else (
  (((((R.ok ()).bind fun x506 => R.ok ((v_found, v_due) : (Dt × Dt))).bind fun b => R.guard (gZq b.1 b.2) (R.ok b)).bind fun c515 => forR (fun y507 (s508 : Unit) => m_law_alike_L1 y507.1 y507.2) (zipQ c515) ()) : R (Ctl Unit Bool)).bind fun c => c.fin fun s508 => m_law_alike_J1 ))) else (
  (R.or (R.guard (gOb v_found) (R.ok (Dt.isT "bool" v_found))) (R.guard (gOb v_due) (R.guard (gOb v_found) (R.ok (!decide ((Dt.isT "str" v_due) = (Dt.isT "str" v_found))))))).bind fun b => if b = true then (
  (R.ok false)) else (
  (R.and (R.guard (gOt v_found) (R.ok (Dt.isTs ["int", "str"] v_found))) (R.guard (gQ2 (eA v_found) (eA v_due)) (R.ok (eqD (eA v_found) (eA v_due)))))))
end
def rc_0 : Nat → Rc_0
  | 0 => ⟨fun _ _ => R.bad⟩
  | n + 1 => ⟨@m_law_alike_b (rc_0 n)⟩
def m_law_alike : Dt → Dt → R Bool := (rc_0 16).r_law_alike
def m_law_apart_L1 (v_found : (List Dt)) (v_rows : (List Dt)) (v_k : Int) : R (Ctl (List Dt) (Bool × (List Dt))) :=
  (R.guard (inB v_found v_k) (R.guard (Dt.isU (getI v_found v_k) = true) (R.guard (inB (Dt.asU (getI v_found v_k)) (0 : Int)) (R.guard (Dt.isX (getI (Dt.asU (getI v_found v_k)) (0 : Int)) = true) (R.ok (decide ((Dt.asX (getI (Dt.asU (getI v_found v_k)) (0 : Int))) = (lt "if")))))))).bind fun b => if b = true then (
  R.guard (inB v_found v_k) (R.guard ((rowB (getI v_found v_k)).isSome = true) ((R.ok ((e2 eS (e1 eI)) ((lt "say"), (1 : Int)))).bind fun a535 => R.guard (gL (rowT (getI v_found v_k)).2.2) ((R.ok (setI v_found v_k (rowM ((rowT (getI v_found v_k)).1, (rowT (getI v_found v_k)).2.1, (rowT (getI v_found v_k)).2.2 ++ [a535])))).bind fun v534 =>
  (R.or (R.not ((R.guard (inB v534 v_k) (R.guard (Dt.isU (getI v534 v_k) = true) (R.guard (inB (Dt.asU (getI v534 v_k)) (2 : Int)) (R.guard (inB v_rows v_k) (R.guard (Dt.isU (getI v_rows v_k) = true) (R.guard (inB (Dt.asU (getI v_rows v_k)) (2 : Int)) (m_law_alike (getI (Dt.asU (getI v534 v_k)) (2 : Int)) (getI (Dt.asU (getI v_rows v_k)) (2 : Int))))))))).calm)) (R.not ((m_law_alike (Dt.lst (cutL v534 (some (v_k + (1 : Int))) none)) ((eL eA) (cutL v_rows (some (v_k + (1 : Int))) none))).calm))).bind fun b => if b = true then (
  (R.ok false).bind fun r => R.ok (Ctl.rt (r, v534))) else (
  R.guard (inB v534 v_k) (R.guard ((rowB (getI v534 v_k)).isSome = true) ((R.ok (setI v534 v_k (rowM ((rowT (getI v534 v_k)).1, [], (rowT (getI v534 v_k)).2.2)))).bind fun v544 =>
  R.ok (Ctl.nx v544)))))))) else (
  R.ok (Ctl.nx v_found))
def m_law_apart_J1 (v_found : (List Dt)) : R (Bool × (List Dt)) :=
  (R.ok (([] : List Dt))).bind fun v_found =>
  (R.ok true).bind fun r547 => R.ok (r547, v_found)
def m_law_apart (z_found : (List Dt)) (v_rows : (List Dt)) : R (Bool × (List Dt)) :=
  ((((R.ok (z_found.length : Int)).bind fun j => R.guard (gR j) (R.ok j)).bind fun c546 => forR (fun y521 (s522 : (List Dt)) => m_law_apart_L1 s522 v_rows y521) (rng 0 c546) z_found) : R (Ctl (List Dt) (Bool × (List Dt)))).bind fun c => c.fin fun s522 => m_law_apart_J1 s522
def m_law (v_script : (List Int)) : R Bool :=
  (((m_law_cell_at v_script (0 : Int)).bind fun a => (R.ok ()).bind fun b => R.ok (a, b)).bind fun x548 => m_law_names x548.1).bind fun v_names =>
  (m_law_rows (cutL v_script (some (1 : Int)) (some (121 : Int))) v_names).bind (R.sp2 fun v_line v_rows =>
  (m_law_copy ((eL eA) v_rows)).bind fun v_handed =>
  (m_shown v_handed).bind fun v_told =>
  (R.or (R.ok (!true)) (R.or (R.ok (!decide (v_told = v_line))) (R.not (m_law_alike ((eL eA) v_handed) ((eL eA) v_rows))))).bind fun b => if b = true then (
  (R.ok false)) else (
  (m_read v_line).bind fun v_found =>
  (R.not (m_law_alike ((eL eA) v_found) ((eL eA) v_rows))).bind fun b => if b = true then (
  (R.ok false)) else (
  ((((R.ok ()).bind fun x551 => m_law_apart v_found v_rows).bind fun a553 => R.ok (a553.1, a553.2)).bind fun x559 => if x559.1 = true then ((R.and ((((m_read v_line).bind fun a => R.ok ((eL eA) a)).bind fun a => (R.ok ()).bind fun b => R.ok (a, b)).bind fun x555 => m_law_alike x555.1 ((eL eA) v_rows)) ((((m_law_copy ((eL eA) v_rows)).bind fun a => (R.ok ()).bind fun b => R.ok (a, b)).bind fun x556 => m_shown x556.1).bind fun x557 => (R.ok v_line).bind fun x558 => R.ok (decide (x557 = x558)))).bind fun b => R.ok (b, x559.2)) else R.ok (false, x559.2)).bind fun a560 => R.ok a560.1)))
end Mi
namespace Mi
open PySem L2 Sm TL
theorem okb {α β : Type} {a : α} {f : α → R β} : (R.ok a).bind f = f a := rfl
theorem okc {α : Type} {a : α} : (R.ok a).calm = R.ok a := rfl
theorem gd {α : Type} {p : Prop} [Decidable p] {m : R α} (h : p) : R.guard p m = m := by unfold R.guard; rw [if_pos h]
theorem bd {α β : Type} {m : R α} {f : α → R β} {a : α} {r : R β} (h : m = .ok a) (k : f a = r) : m.bind f = r := by rw [h]; exact k
theorem b0 {α : Type} {m : R Bool} {f g r : R α} (h : m = .ok false) (k : g = r) : (m.bind fun b => if b = true then f else g) = r := by rw [h]; exact k
theorem b1 {α : Type} {m : R Bool} {f g r : R α} (h : m = .ok true) (k : f = r) : (m.bind fun b => if b = true then f else g) = r := by rw [h]; exact k
theorem orF {a b : R Bool} (h : a = .ok false) (k : b = .ok false) : R.or a b = .ok false := by rw [h]; exact k
theorem gdk {α : Type} {p : Prop} [Decidable p] {m r : R α} (h : p) (k : m = r) : R.guard p m = r := by rw [gd h]; exact k
theorem sIx_at {n d : Nat} {k : Int} (h0 : 0 ≤ k) : HT.sIx n d (some k) = min k.toNat n := by
  show (if k < 0 then _ else _) = _
  rw [if_neg (by omega)]
theorem cut_upto {α : Type} {xs : List α} {k : Int} (h0 : 0 ≤ k) (h1 : k ≤ (xs.length : Int)) : cutL xs none (some k) = xs.take k.toNat := by
  unfold cutL
  rw [sIx_at h0]
  show (xs.drop 0).take (min k.toNat xs.length - 0) = _
  rw [List.drop_zero, Nat.sub_zero, Nat.min_eq_left (by omega)]
theorem mapR_eq {α β : Type} {f : α → R β} {g : α → β} : ∀ {l : List α}, (∀ x ∈ l, f x = .ok (g x)) → mapR f l = .ok (l.map g)
  | [], _ => rfl
  | x :: l, h => by
    show ((f x).calm.bind _) = _
    rw [h x List.mem_cons_self, okc, okb, mapR_eq fun y hy => h y (List.mem_cons_of_mem _ hy), okb]
    rfl
def letters : List Nat := lt "abcdefghijklmnopqrstuvwxyz"
theorem letters_len : letters.length = 26 := by decide +kernel
theorem letters_low : ∀ c ∈ letters, c < 128 := by decide +kernel
def low (l : List Nat) : Prop := ∀ c ∈ l, c < 128
def resv : List (List Nat) := ([lt "take", lt "give", lt "let", lt "say", lt "off", lt "if", lt "else", lt "end"] : List (List Nat)) ++ [lt "as", lt "plus", lt "minus", lt "times", lt "over", lt "rest", lt "under", lt "same"]
theorem resv_split : resv = k_HEADS ++ k_DOERS := rfl
def nameB (t : List Nat) : Bool := (!(decide (t = []) || decide (6 < t.length) || decide (t ∈ resv))) && t.all fun c => decide (c ∈ letters)
theorem signs_any (t : List Nat) : (t.any fun c => !decide (c ∈ letters)) = !(t.all fun c => decide (c ∈ letters)) := by
  induction t with
  | nil => rfl
  | cons a t ih => rw [List.any_cons, List.all_cons, ih]; cases decide (a ∈ letters) <;> rfl
theorem is_name_ok (t : List Nat) (h : gS t) : m_is_name t = .ok (nameB t) := by
  apply sat_eq
  unfold m_is_name
  refine sat_bind (Q := (· = (decide (t = []) || (decide (6 < t.length) || decide (t ∈ resv))))) ?_ fun b hb => ?_
  · have e0 : lt "" = [] := by decide +kernel
    refine sat_or (sat_ok (by rw [e0])) fun _ => ?_
    refine sat_or (sat_guard h (sat_ok (by simp only [decide_eq_decide]; omega))) fun _ => ?_
    have e : decide (t ∈ resv) = (decide (t ∈ k_DOERS) || decide (t ∈ k_HEADS)) := by
      rw [resv_split]
      simp only [List.mem_append, Bool.decide_or]
      rw [Bool.or_comm]
    rw [e]
    exact sat_or (sat_ok rfl) fun _ => sat_ok rfl
  subst hb
  unfold nameB
  rw [Bool.or_assoc]
  refine sat_if (fun c => sat_ok (by rw [c]; rfl)) fun c => ?_
  rw [Bool.eq_false_iff.mpr c]
  refine sat_bind (sat_bind (sat_ok rfl) fun c e => by
    subst e
    exact sat_any (v := false) (fun c => !decide (c ∈ letters)) fun x hx => by
      unfold m_is_name_L1
      refine sat_bind (Q := (· = !decide (x ∈ letters))) (sat_ok rfl) fun b e => ?_
      subst e
      exact sat_if (fun c => by rw [if_pos c]; exact sat_ok rfl) fun c => by rw [if_neg c]; exact sat_ok rfl) fun c e => ?_
  subst e
  rw [signs_any]
  cases t.all fun c => decide (c ∈ letters) <;> exact sat_ok rfl
theorem worth_int (w : Int) : m_is_worth w = .ok (decide (-1000000000000000000000000000000 ≤ w) && decide (w ≤ 1000000000000000000000000000000)) := rfl
theorem worth_in_ok {w : Int} (h1 : -1000000000000000000000000000000 ≤ w) (h2 : w ≤ 1000000000000000000000000000000) : m_worth_in (numI w) = .ok w := by
  apply sat_eq
  unfold m_worth_in
  have hl : (numL w.natAbs).length ≤ 31 := numL_short (by decide) (by omega)
  have hne := numL_ne w.natAbs
  have hd := numL_digits w.natAbs
  have hg : gS (numI w) := by
    unfold numI
    apply gS_of
    split
    · rw [List.length_cons]; omega
    · omega
  have em : lt "-" = [45] := by decide +kernel
  have e0 : lt "0" = [48] := by decide +kernel
  have ee : lt "" = [] := by decide +kernel
  refine sat_bind (Q := (· = numI w)) (sat_ok rfl) fun f hf => ?_
  subst hf
  refine sat_bind (Q := (· = numL w.natAbs)) (sat_bind (Q := (· = decide (w < 0))) (sat_guard hg (sat_ok ?_)) fun b hb => ?_) fun f hf => ?_
  · rw [cut_head, em]
    unfold numI
    by_cases q : w < 0
    · rw [if_pos q, decide_eq_true q]; rfl
    · rw [if_neg q, decide_eq_false q]
      apply decide_eq_false
      intro z
      cases e : numL w.natAbs with
      | nil => exact hne e
      | cons c r =>
        rw [e] at z hd
        have := hd c (by simp)
        simp at z
        omega
  · subst hb
    refine sat_if (fun c => ?_) fun c => ?_
    · have q := of_decide_eq_true c
      refine sat_bind (Q := (· = numL w.natAbs)) (sat_guard hg (sat_ok ?_)) fun f hf => by subst hf; exact sat_ok rfl
      rw [cut_tail]
      unfold numI
      rw [if_pos q]
      rfl
    · have q : ¬ w < 0 := fun z => c (decide_eq_true z)
      refine sat_ok ?_
      unfold numI
      rw [if_neg q]
  · subst hf
    unfold m_worth_in_J1
    refine sat_bind (Q := (· = false)) (sat_mono (sat_or (x := false) (y := false) (sat_ok (by rw [ee]; exact decide_eq_false hne)) fun _ => sat_guard (gS_of (by omega)) (sat_ok (decide_eq_false (by omega)))) fun b hb => hb) fun b hb => ?_
    subst hb
    refine sat_if (fun c => by cases c) fun _ => ?_
    refine sat_bind (Q := fun _ => True) (sat_bind (Q := (· = numL w.natAbs)) (sat_ok rfl) fun c hc => by
      subst hc
      refine sat_of (sat_foldU fun x hx => ?_) trivial
      unfold m_worth_in_L1
      have : x ∈ lt "0123456789" := fig_mem.mpr (hd x hx)
      rw [decide_eq_true this]
      rfl) fun u _ => ?_
    unfold m_worth_in_J2
    obtain ⟨c0, r0, hc⟩ : ∃ c r, numL w.natAbs = c :: r := by
      cases e : numL w.natAbs with
      | nil => exact absurd e hne
      | cons c r => exact ⟨c, r, rfl⟩
    refine sat_bind (Q := (· = false)) (sat_guard ⟨gS_of (by omega), inB_of (by decide) (by rw [hc, List.length_cons]; omega)⟩ (sat_ok ?_)) fun b hb => ?_
    · rw [hc, getI0, e0]
      by_cases z : w = 0
      · subst z
        have : numI 0 = [48] := by decide +kernel
        rw [this]
        simp
      · obtain ⟨c, r, e, hc48⟩ := numL_head (n := w.natAbs) (by omega)
        rw [hc] at e
        cases e
        have : decide ([c0] = [48]) = false := decide_eq_false (by simpa using hc48)
        rw [this]
        rfl
    · subst hb
      refine sat_if (fun c => by cases c) fun _ => ?_
      have hx := intX_num (w := w) (by omega)
      refine sat_bind (Q := (· = w)) (sat_guard ⟨by rw [hx]; rfl, ?_⟩ (sat_ok (by rw [hx]; rfl))) fun v hv => ?_
      · unfold numI
        split
        · rw [List.length_cons]; omega
        · omega
      · subst hv
        rw [worth_int, decide_eq_true h1, decide_eq_true h2]
        exact sat_ok rfl
inductive Tr where
  | leaf (x : List Nat) (d : Dt)
  | node (w : List Nat) (a b : Tr)
def Tr.pre : Tr → List (List Nat)
  | .leaf x _ => [x]
  | .node w a b => w :: (a.pre ++ b.pre)
def Tr.post : Tr → List Dt
  | .leaf _ d => [d]
  | .node w a b => (a.post ++ b.post) ++ [eS w]
def Tr.parts : Tr → List Dt
  | .leaf _ d => [d]
  | .node w a b => eS w :: (a.parts ++ b.parts)
theorem Tr.len : ∀ t : Tr, t.post.length = t.pre.length ∧ t.parts.length = t.pre.length ∧ 1 ≤ t.pre.length
  | .leaf x d => ⟨rfl, rfl, Nat.le_refl 1⟩
  | .node w a b => by
    have ha := a.len
    have hb := b.len
    unfold Tr.post Tr.pre Tr.parts
    simp only [List.length_append, List.length_cons, List.length_nil]
    omega
abbrev Fr := List Nat × Option Tr
def toldOf : List Fr → List Dt
  | [] => []
  | (_, none) :: fs => toldOf fs
  | (_, some a) :: fs => toldOf fs ++ a.post
def waitOf : List Fr → List (List Nat)
  | [] => []
  | (w, _) :: fs => waitOf fs ++ [w]
def lackOf : List Fr → List Int
  | [] => []
  | (_, none) :: fs => lackOf fs ++ [2]
  | (_, some _) :: fs => lackOf fs ++ [1]
def preOf : List Fr → List (List Nat)
  | [] => []
  | (w, none) :: fs => preOf fs ++ [w]
  | (w, some a) :: fs => preOf fs ++ (w :: a.pre)
theorem wait_len : ∀ fs : List Fr, (waitOf fs).length = fs.length
  | [] => rfl
  | (w, _) :: fs => by unfold waitOf; rw [List.length_append, wait_len fs]; rfl
theorem lack_len : ∀ fs : List Fr, (lackOf fs).length = fs.length
  | [] => rfl
  | (_, none) :: fs => by unfold lackOf; rw [List.length_append, lack_len fs]; rfl
  | (_, some _) :: fs => by unfold lackOf; rw [List.length_append, lack_len fs]; rfl
theorem told_len : ∀ fs : List Fr, (toldOf fs).length + fs.length = (preOf fs).length
  | [] => rfl
  | (w, none) :: fs => by unfold toldOf preOf; have := told_len fs; rw [List.length_append, List.length_cons, List.length_singleton]; omega
  | (w, some a) :: fs => by unfold toldOf preOf; have := told_len fs; have := a.len; rw [List.length_append, List.length_append, List.length_cons, List.length_cons]; omega
def close (t : Tr) : List Fr → Sum Tr (List Fr)
  | [] => .inl t
  | (w, none) :: fs => .inr ((w, some t) :: fs)
  | (w, some a) :: fs => close (.node w a t) fs
def doerFs (fs : List Fr) : Prop := ∀ f ∈ fs, f.1 ∈ k_DOERS
theorem doer_low' : ∀ w ∈ k_DOERS, ∀ c ∈ w, c < 128 := by decide +kernel
theorem wait_gQ {fs : List Fr} (h : doerFs fs) : gQ (eL eS (waitOf fs)) := by
  refine gQn_gQ (n := 1) (gQn_lst fun d hd => ?_) (by decide)
  obtain ⟨w, hw, rfl⟩ := List.mem_map.mp hd
  have hm : ∀ fs : List Fr, doerFs fs → w ∈ waitOf fs → w ∈ k_DOERS := by
    intro fs
    induction fs with
    | nil => intro _ h; simp [waitOf] at h
    | cons f fs ih =>
      obtain ⟨v, o⟩ := f
      intro hd h
      unfold waitOf at h
      rcases List.mem_append.mp h with h | h
      · exact ih (fun f hf => hd f (List.mem_cons_of_mem _ hf)) h
      · rw [List.mem_singleton] at h; subst h; exact hd _ List.mem_cons_self
  exact gQn_str (strOk_ascii (doer_low' w (hm fs h hw)))
abbrev TSt := List Dt × List (List Nat) × List Int × Int
def stOf (fs : List Fr) (place : Int) : TSt := (toldOf fs, waitOf fs, lackOf fs, place)
abbrev TRs := List Dt × Int
def ctlOf (r : Sum Tr (List Fr)) (place : Int) : Ctl TSt TRs := match r with
  | .inl t => .rt (t.post, place)
  | .inr fs => .nx (stOf fs place)
theorem okb' {α β : Type} {a : α} {f : α → R β} : (R.ok a).bind f = f a := rfl
theorem setI_last {α : Type} {xs : List α} {a b : α} : setI (xs ++ [a]) (-1) b = xs ++ [b] := by
  unfold setI ixI
  rw [if_neg (by decide)]
  have : ((-1 : Int) + ((xs ++ [a]).length : Int)).toNat = xs.length := by rw [List.length_append, List.length_singleton]; omega
  rw [this]
  simp
theorem q2_ok {fs : List Fr} (h : doerFs fs) : m_term_from_Q2 (waitOf fs) (lackOf fs) = .ok (match fs with
    | (_, some _) :: _ => true
    | _ => false) := by
  apply sat_eq
  unfold m_term_from_Q2
  match fs, h with
  | [], h =>
    refine sat_mono (sat_and (x := false) (y := false) (sat_guard (wait_gQ h) (sat_ok rfl)) fun z => by cases z) fun b e => e
  | (w, none) :: fs, h =>
    have hl : (waitOf ((w, none) :: fs)).length = fs.length + 1 := wait_len _
    refine sat_mono (sat_and (x := true) (y := false) (sat_guard (wait_gQ h) (sat_ok (by rw [decide_eq_false (by omega)]; rfl))) fun _ => ?_) fun b e => e
    refine sat_guard ⟨by rw [lack_len, List.length_cons]; omega, by rw [lack_len, List.length_cons]; omega⟩ (sat_ok ?_)
    unfold lackOf
    rw [getI_last]
    rfl
  | (w, some a) :: fs, h =>
    have hl : (waitOf ((w, some a) :: fs)).length = fs.length + 1 := wait_len _
    refine sat_mono (sat_and (x := true) (y := true) (sat_guard (wait_gQ h) (sat_ok (by rw [decide_eq_false (by omega)]; rfl))) fun _ => ?_) fun b e => e
    refine sat_guard ⟨by rw [lack_len, List.length_cons]; omega, by rw [lack_len, List.length_cons]; omega⟩ (sat_ok ?_)
    unfold lackOf
    rw [getI_last]
    rfl
theorem up_ok : ∀ (fs : List Fr) (t : Tr) (n : Nat) (place : Int), doerFs fs → (toldOf fs).length + t.post.length + fs.length ≤ 1000 → fs.length < n →
    (whileR (fun (s : List Dt × List (List Nat) × List Int) => m_term_from_Q2 s.2.1 s.2.2) (fun (s : List Dt × List (List Nat) × List Int) => m_term_from_L2 s.1 s.2.1 s.2.2) n (toldOf fs ++ t.post, waitOf fs, lackOf fs)).bind (fun c => c.fin2 fun s => m_term_from_J1 s.1 s.2.1 s.2.2 place) = .ok (ctlOf (close t fs) place)
  | _, _, 0, _, _, _, h => absurd h (Nat.not_lt_zero _)
  | [], t, n + 1, place, hd, hl, _ => by
    unfold whileR
    have q := q2_ok hd
    show (((m_term_from_Q2 (waitOf []) (lackOf [])).bind _).bind _) = _
    rw [q]
    show m_term_from_J1 (toldOf [] ++ t.post) (waitOf []) (lackOf []) place = _
    apply sat_eq
    unfold m_term_from_J1
    refine sat_bind (Q := (· = true)) (sat_guard (wait_gQ hd) (sat_ok rfl)) fun b e => ?_
    subst e
    exact sat_ok rfl
  | (w, none) :: fs, t, n + 1, place, hd, hl, _ => by
    unfold whileR
    have q := q2_ok hd
    show (((m_term_from_Q2 (waitOf ((w, none) :: fs)) (lackOf ((w, none) :: fs))).bind _).bind _) = _
    rw [q]
    show m_term_from_J1 (toldOf ((w, none) :: fs) ++ t.post) (waitOf ((w, none) :: fs)) (lackOf ((w, none) :: fs)) place = _
    apply sat_eq
    unfold m_term_from_J1
    have hwl : (waitOf ((w, none) :: fs)).length = fs.length + 1 := wait_len _
    refine sat_bind (Q := (· = false)) (sat_guard (wait_gQ hd) (sat_ok (decide_eq_false (by omega)))) fun b e => ?_
    subst e
    rw [if_neg (by decide)]
    refine sat_bind (Q := (· = 1)) (sat_ok rfl) fun a e => ?_
    subst e
    refine sat_guard ⟨by rw [lack_len, List.length_cons]; omega, by rw [lack_len, List.length_cons]; omega⟩ (sat_bind (Q := (· = lackOf ((w, some t) :: fs))) (sat_ok ?_) fun l e => ?_)
    · unfold lackOf
      rw [setI_last]
    · subst e
      exact sat_ok rfl
  | (w, some a) :: fs, t, n + 1, place, hd, hl, hn => by
    have ih := up_ok fs (.node w a t) n place (fun f hf => hd f (List.mem_cons_of_mem _ hf)) (by
      unfold toldOf at hl
      unfold Tr.post
      rw [List.length_append] at hl
      rw [List.length_append, List.length_append, List.length_singleton]
      simp only [List.length_cons] at hl
      omega) (by simp only [List.length_cons] at hn; omega)
    unfold whileR
    have q := q2_ok hd
    show (((m_term_from_Q2 (waitOf ((w, some a) :: fs)) (lackOf ((w, some a) :: fs))).bind _).bind _) = _
    rw [q, okb']
    dsimp only
    have e : m_term_from_L2 (toldOf ((w, some a) :: fs) ++ t.post) (waitOf ((w, some a) :: fs)) (lackOf ((w, some a) :: fs)) = .ok (.nx (toldOf fs ++ (Tr.node w a t).post, waitOf fs, lackOf fs)) := by
      unfold m_term_from_L2
      rw [show toldOf ((w, some a) :: fs) = toldOf fs ++ a.post from rfl, show waitOf ((w, some a) :: fs) = waitOf fs ++ [w] from rfl, show lackOf ((w, some a) :: fs) = lackOf fs ++ [1] from rfl]
      rw [show toldOf ((w, some a) :: fs) = toldOf fs ++ a.post from rfl] at hl
      rw [popR_app]
      show R.guard (gL ((toldOf fs ++ a.post) ++ t.post)) _ = _
      unfold R.guard
      rw [if_pos (show gL _ by
        show List.length _ < _
        rw [List.length_append] at hl
        rw [List.length_append, List.length_append]
        omega)]
      rw [okb', popR_app]
      show R.ok (Ctl.nx _) = _
      rw [show (Tr.node w a t).post = (a.post ++ t.post) ++ [eS w] from rfl]
      simp only [List.append_assoc]
    rw [e]
    exact ih
theorem word_doer {words : List (List Nat)} {fs : List Fr} {place : Int} {w : List Nat} (hi : inB words place) (hw : getI words place = w) (hd : w ∈ k_DOERS) (hl : fs.length ≤ 1000) :
    m_term_from_L1 words (toldOf fs) (waitOf fs) (lackOf fs) place = .ok (.nx (stOf ((w, none) :: fs) (place + 1))) := by
  apply sat_eq
  unfold m_term_from_L1
  refine sat_bind (Q := (· = w)) (sat_guard hi (sat_ok hw)) fun x e => ?_
  subst e
  refine sat_bind (Q := (· = place + 1)) (sat_bind (Q := (· = 1)) (sat_ok rfl) fun b e => by subst e; exact sat_ok rfl) fun p e => ?_
  subst e
  refine sat_bind (Q := (· = true)) (sat_ok (decide_eq_true hd)) fun b e => ?_
  subst e
  rw [if_pos rfl]
  refine sat_bind (Q := (· = x)) (sat_ok rfl) fun a e => ?_
  subst e
  refine sat_guard (by show (waitOf fs).length < _; rw [wait_len]; omega) ?_
  refine sat_bind (Q := (· = waitOf fs ++ [a])) (sat_ok rfl) fun l e => ?_
  subst e
  refine sat_bind (Q := (· = 2)) (sat_ok rfl) fun b e => ?_
  subst e
  refine sat_guard (by show (lackOf fs).length < _; rw [lack_len]; omega) ?_
  exact sat_bind (Q := (· = lackOf fs ++ [2])) (sat_ok rfl) fun l e => by subst e; exact sat_ok rfl
theorem word_leaf {words : List (List Nat)} {fs : List Fr} {place : Int} {w : List Nat} {d : Dt} (hi : inB words place) (hw : getI words place = w) (hn : w ∉ k_DOERS) (hp : m_part_in w = .ok d) (hd : doerFs fs) (hl : (toldOf fs).length + fs.length ≤ 60) (hf : fs.length ≤ 60) :
    m_term_from_L1 words (toldOf fs) (waitOf fs) (lackOf fs) place = .ok (ctlOf (close (.leaf w d) fs) (place + 1)) := by
  apply sat_eq
  unfold m_term_from_L1
  refine sat_bind (Q := (· = w)) (sat_guard hi (sat_ok hw)) fun x e => ?_
  subst e
  refine sat_bind (Q := (· = place + 1)) (sat_bind (Q := (· = 1)) (sat_ok rfl) fun b e => by subst e; exact sat_ok rfl) fun p e => ?_
  subst e
  refine sat_bind (Q := (· = false)) (sat_ok (decide_eq_false hn)) fun b e => ?_
  subst e
  rw [if_neg (by decide), hp, okb']
  refine sat_guard (by show (toldOf fs).length < _; omega) ?_
  rw [okb']
  exact sat_of (up_ok fs (.leaf x d) _ (place + 1) hd (by show (toldOf fs).length + 1 + fs.length ≤ 1000; omega) (by omega)) rfl
def goodT : Tr → Prop
  | .leaf x d => x ∉ k_DOERS ∧ m_part_in x = .ok d
  | .node w a b => w ∈ k_DOERS ∧ goodT a ∧ goodT b
abbrev Wl (words : List (List Nat)) (at_ : Int) (n : Nat) (s : TSt) : R (Ctl TSt TRs) := whileR (fun (s : TSt) => m_term_from_Q1 words at_ s.2.2.2) (fun (s : TSt) => m_term_from_L1 words s.1 s.2.1 s.2.2.1 s.2.2.2) n s
theorem getI_mid {α : Type} [Inhabited α] {l r : List α} {x : α} : getI (l ++ x :: r) (l.length : Int) = x ∧ inB (l ++ x :: r) (l.length : Int) := by
  refine ⟨?_, ?_⟩
  · unfold getI ixI
    rw [if_pos (by omega)]
    have : (l.length : Int).toNat = l.length := by omega
    rw [this]
    simp
  · exact inB_of (by omega) (by rw [List.length_append, List.length_cons]; omega)
theorem wl_step {words : List (List Nat)} {at_ place : Int} {fs : List Fr} {n : Nat} {c : Ctl TSt TRs} (h1 : place < words.length) (h2 : place - at_ < 60) (h : m_term_from_L1 words (toldOf fs) (waitOf fs) (lackOf fs) place = .ok c) : Wl words at_ (n + 1) (stOf fs place) = c.step (Wl words at_ n) := by
  have q : m_term_from_Q1 words at_ place = .ok true := by
    unfold m_term_from_Q1
    rw [decide_eq_true h1, decide_eq_true h2]
    rfl
  have e : Wl words at_ (n + 1) (stOf fs place) = (m_term_from_Q1 words at_ place).bind (fun b => match b with
      | false => R.ok (Ctl.nx (stOf fs place))
      | true => (m_term_from_L1 words (toldOf fs) (waitOf fs) (lackOf fs) place).bind fun c' => c'.step (Wl words at_ n)) := rfl
  rw [e, q, okb']
  dsimp only
  rw [h, okb']
theorem run_ok (words : List (List Nat)) (at_ : Int) : ∀ (t : Tr) (fs : List Fr) (l r : List (List Nat)) (m : Nat), goodT t → doerFs fs → words = l ++ (t.pre ++ r) → (l.length : Int) + t.pre.length - at_ ≤ 60 → (preOf fs).length + t.pre.length ≤ 60 →
    Wl words at_ (m + t.pre.length) (stOf fs l.length) = (ctlOf (close t fs) ((l.length : Int) + t.pre.length)).step (Wl words at_ m)
  | .leaf x d, fs, l, r, m, g, hd, e, h1, h2 => by
    have e : words = l ++ x :: r := e
    have hg := getI_mid (l := l) (r := r) (x := x)
    rw [← e] at hg
    have tl := told_len fs
    have h2 : (preOf fs).length + 1 ≤ 60 := h2
    have h1 : (l.length : Int) + 1 - at_ ≤ 60 := h1
    exact wl_step (by rw [e, List.length_append, List.length_cons]; omega) (by omega) (word_leaf hg.2 hg.1 g.1 g.2 hd (by omega) (by omega))
  | .node w a b, fs, l, r, m, g, hd, e, h1, h2 => by
    have hp : (Tr.node w a b).pre.length = a.pre.length + b.pre.length + 1 := by
      show (w :: (a.pre ++ b.pre)).length = _
      rw [List.length_cons, List.length_append]
    have hpre : (Tr.node w a b).pre = w :: (a.pre ++ b.pre) := rfl
    have tl := told_len fs
    rw [hp] at h1 h2 ⊢
    have e1 : words = l ++ w :: (a.pre ++ (b.pre ++ r)) := by rw [e, hpre]; simp
    have e2 : words = (l ++ [w]) ++ (a.pre ++ (b.pre ++ r)) := by rw [e1]; simp
    have e3 : words = ((l ++ [w]) ++ a.pre) ++ (b.pre ++ r) := by rw [e1]; simp
    have hg := getI_mid (l := l) (r := a.pre ++ (b.pre ++ r)) (x := w)
    rw [← e1] at hg
    have la := a.len
    have lb := b.len
    have s1 : Wl words at_ (m + (a.pre.length + b.pre.length + 1)) (stOf fs l.length) = Wl words at_ ((m + b.pre.length) + a.pre.length) (stOf ((w, none) :: fs) ((l.length : Int) + 1)) := by
      have : m + (a.pre.length + b.pre.length + 1) = ((m + b.pre.length) + a.pre.length) + 1 := by omega
      rw [this]
      exact wl_step (by rw [e1, List.length_append, List.length_cons]; omega) (by omega) (word_doer hg.2 hg.1 g.1 (by omega))
    have d1 : doerFs ((w, none) :: fs) := fun f hf => by
      rcases List.mem_cons.mp hf with rfl | hf
      · exact g.1
      · exact hd f hf
    have d2 : doerFs ((w, some a) :: fs) := fun f hf => by
      rcases List.mem_cons.mp hf with rfl | hf
      · exact g.1
      · exact hd f hf
    have l1 : ((l ++ [w]).length : Int) = (l.length : Int) + 1 := by rw [List.length_append, List.length_singleton]; omega
    have l2 : (((l ++ [w]) ++ a.pre).length : Int) = (l.length : Int) + 1 + a.pre.length := by rw [List.length_append]; omega
    have p1 : (preOf ((w, none) :: fs)).length = (preOf fs).length + 1 := by show (preOf fs ++ [w]).length = _; rw [List.length_append]; rfl
    have p2 : (preOf ((w, some a) :: fs)).length = (preOf fs).length + 1 + a.pre.length := by show (preOf fs ++ (w :: a.pre)).length = _; rw [List.length_append, List.length_cons]; omega
    have ra := run_ok words at_ a ((w, none) :: fs) (l ++ [w]) (b.pre ++ r) (m + b.pre.length) g.2.1 d1 e2 (by omega) (by omega)
    have rb := run_ok words at_ b ((w, some a) :: fs) ((l ++ [w]) ++ a.pre) r m g.2.2 d2 e3 (by omega) (by omega)
    rw [l1] at ra
    rw [s1, ra]
    show Wl words at_ (m + b.pre.length) (stOf ((w, some a) :: fs) ((l.length : Int) + 1 + a.pre.length)) = _
    rw [l2] at rb
    rw [rb]
    have : (l.length : Int) + 1 + a.pre.length + b.pre.length = (l.length : Int) + ((a.pre.length + b.pre.length + 1 : Nat) : Int) := by omega
    rw [this]
    rfl
theorem term_from_ok {words l r : List (List Nat)} {t : Tr} (g : goodT t) (e : words = l ++ (t.pre ++ r)) (hl : t.pre.length ≤ 60) : m_term_from words (l.length : Int) = .ok (t.post, (l.length : Int) + t.pre.length) := by
  have h := run_ok words (l.length : Int) t [] l r (64 - t.pre.length) g (fun f hf => by simp at hf) e (by omega) (by show 0 + t.pre.length ≤ 60; omega)
  have n : 64 - t.pre.length + t.pre.length = 64 := by omega
  rw [n] at h
  have e : m_term_from words (l.length : Int) = (Wl words (l.length : Int) 64 (stOf [] (l.length : Int))).bind fun c => c.fin fun _ => m_term_from_J2 := rfl
  rw [e, h]
  rfl
def heads9 : List (List Nat) := [(lt "take"), (lt "give"), (lt "let"), (lt "say"), (lt "off"), (lt "if"), (lt "else"), (lt "end"), (lt "as")]
def doers7 : List (List Nat) := [(lt "plus"), (lt "minus"), (lt "times"), (lt "over"), (lt "rest"), (lt "under"), (lt "same")]
theorem doers_eq : k_DOERS = doers7 := rfl
theorem heads_eq : k_HEADS = heads9 := rfl
def lets (l : List Nat) : Prop := ∀ c ∈ l, c ∈ letters
def nameOk (l : List Nat) : Prop := l ≠ [] ∧ l.length ≤ 6 ∧ l ∉ resv ∧ lets l
theorem lets_low {l : List Nat} (h : lets l) : low l := fun c hc => letters_low c (h c hc)
theorem lets_app {a b : List Nat} (h : lets a) (k : lets b) : lets (a ++ b) := fun c hc => (List.mem_append.mp hc).elim (h c) (k c)
theorem lets_cut {l : List Nat} {lo hi : Option Int} (h : lets l) : lets (cutL l lo hi) := fun c hc => h c (cutL_mem hc)
theorem name_B {l : List Nat} (h : nameOk l) : nameB l = true := by
  unfold nameB
  rw [decide_eq_false h.1, decide_eq_false (by have := h.2.1; omega), decide_eq_false h.2.2.1]
  simp only [Bool.false_or, Bool.not_false, Bool.true_and]
  rw [List.all_eq_true]
  intro c hc
  exact decide_eq_true (h.2.2.2 c hc)
theorem part_name {l : List Nat} (h : nameOk l) : m_part_in l = .ok (eS l) := by
  unfold m_part_in
  rw [is_name_ok l (gS_of (by have := h.2.1; omega)), name_B h, okb', if_pos rfl]
theorem dig_no : ∀ c ∈ letters, 97 ≤ c := by decide +kernel
theorem num_B (w : Int) : nameB (numI w) = false := by
  unfold nameB
  have : (numI w).all (fun c => decide (c ∈ letters)) = false := by
    rw [List.all_eq_false]
    unfold numI
    by_cases q : w < 0
    · rw [if_pos q]
      exact ⟨45, List.mem_cons_self, by decide +kernel⟩
    · rw [if_neg q]
      cases e : numL w.natAbs with
      | nil => exact absurd e (numL_ne _)
      | cons c r =>
        have hd := numL_digits w.natAbs c (by rw [e]; exact List.mem_cons_self)
        refine ⟨c, List.mem_cons_self, ?_⟩
        intro z
        have := dig_no c (of_decide_eq_true z)
        omega
  rw [this, Bool.and_false]
abbrev B30 : Int := 1000000000000000000000000000000
def worthOk (v : Int) : Prop := -B30 ≤ v ∧ v ≤ B30
theorem num_len {w : Int} (h : worthOk w) : (numI w).length ≤ 32 := by
  unfold worthOk B30 at h
  have hl : (numL w.natAbs).length ≤ 31 := numL_short (by decide) (by omega)
  unfold numI
  split
  · rw [List.length_cons]; omega
  · omega
theorem part_num {w : Int} (h : worthOk w) : m_part_in (numI w) = .ok (eI w) := by
  unfold m_part_in
  rw [is_name_ok _ (gS_of (by have := num_len h; omega)), num_B, okb', if_neg (by decide), worth_in_ok h.1 h.2]
  rfl
theorem num_low (w : Int) : low (numI w) := by
  intro c hc
  unfold numI at hc
  split at hc
  · rcases List.mem_cons.mp hc with rfl | hc
    · decide
    · have := numL_digits _ c hc; omega
  · have := numL_digits _ c hc; omega
theorem doer_first : ∀ w ∈ doers7, ∀ c ∈ w, 97 ≤ c := by decide +kernel
theorem num_no (w : Int) : numI w ∉ k_DOERS := by
  rw [doers_eq]
  intro z
  have := doer_first _ z
  cases e : numI w with
  | nil =>
    unfold numI at e
    split at e
    · cases e
    · exact numL_ne _ e
  | cons c r =>
    have h1 := this c (by rw [e]; exact List.mem_cons_self)
    have h2 : c ≤ 57 := by
      unfold numI at e
      split at e
      · cases e; decide
      · have := numL_digits w.natAbs c (by rw [e]; exact List.mem_cons_self); omega
    omega
def leafOk (x : List Nat) (d : Dt) : Prop := (nameOk x ∧ d = eS x) ∨ ∃ w, worthOk w ∧ x = numI w ∧ d = eI w
def goodL : Tr → Prop
  | .leaf x d => leafOk x d
  | .node w a b => w ∈ doers7 ∧ goodL a ∧ goodL b
theorem goodL_T : ∀ t : Tr, goodL t → goodT t
  | .leaf x d, h => by
    rcases h with ⟨h, rfl⟩ | ⟨w, h, rfl, rfl⟩
    · exact ⟨fun z => h.2.2.1 (by rw [resv_split]; exact List.mem_append_right _ z), part_name h⟩
    · exact ⟨num_no w, part_num h⟩
  | .node w a b, h => ⟨h.1, goodL_T a h.2.1, goodL_T b h.2.2⟩
theorem good_low : ∀ t : Tr, goodL t → (∀ x ∈ t.pre, low x) ∧ (∀ d ∈ t.post, gQn 0 d ∧ Dt.isT "bool" d = false)
  | .leaf x d, h => by
    refine ⟨fun y hy => ?_, fun e he => ?_⟩
    · rw [show (Tr.leaf x d).pre = [x] from rfl, List.mem_singleton] at hy
      subst hy
      rcases h with ⟨h, rfl⟩ | ⟨w, h, rfl, rfl⟩
      · exact lets_low h.2.2.2
      · exact num_low w
    · rw [show (Tr.leaf x d).post = [d] from rfl, List.mem_singleton] at he
      subst he
      rcases h with ⟨h, rfl⟩ | ⟨w, h, rfl, rfl⟩
      · exact ⟨gQn_str (strOk_ascii (lets_low h.2.2.2)), by show (kitB "str" "bool").getD false = false; decide +kernel⟩
      · exact ⟨gQn_int w, by show (kitB "int" "bool").getD false = false; decide +kernel⟩
  | .node w a b, h => by
    have ha := good_low a h.2.1
    have hb := good_low b h.2.2
    have hw : low w := fun c hc => doer_low' w h.1 c hc
    refine ⟨fun y hy => ?_, fun e he => ?_⟩
    · rw [show (Tr.node w a b).pre = w :: (a.pre ++ b.pre) from rfl] at hy
      rcases List.mem_cons.mp hy with rfl | hy
      · exact hw
      · rcases List.mem_append.mp hy with hy | hy
        · exact ha.1 y hy
        · exact hb.1 y hy
    · rw [show (Tr.node w a b).post = (a.post ++ b.post) ++ [eS w] from rfl] at he
      rcases List.mem_append.mp he with he | he
      · rcases List.mem_append.mp he with he | he
        · exact ha.2 e he
        · exact hb.2 e he
      · rw [List.mem_singleton] at he
        subst he
        exact ⟨gQn_str (strOk_ascii hw), by show (kitB "str" "bool").getD false = false; decide +kernel⟩
theorem letters_lo : ∀ c ∈ letters, 97 ≤ c := by decide +kernel
theorem num_dig {w : Int} {c : Nat} (hc : c ∈ numI w) : c = 45 ∨ (48 ≤ c ∧ c ≤ 57) := by
  unfold numI at hc
  split at hc
  · rcases List.mem_cons.mp hc with rfl | hc
    · exact .inl rfl
    · exact .inr (numL_digits _ c hc)
  · exact .inr (numL_digits _ c hc)
theorem str_num (w : Int) : strI w = numI w := strI_eq w
def wOk (w : List Nat) : Prop := low w ∧ 32 ∉ w ∧ 10 ∉ w
theorem wok_num (w : Int) : wOk (numI w) := ⟨fun c hc => by rcases num_dig hc with h | h <;> omega, fun h => by rcases num_dig h with h | h <;> omega, fun h => by rcases num_dig h with h | h <;> omega⟩
theorem wok_name {l : List Nat} (h : lets l) : wOk l := ⟨lets_low h, fun z => by have := letters_lo _ (h _ z); omega, fun z => by have := letters_lo _ (h _ z); omega⟩
theorem join_mem {s : Nat} {c : Nat} : ∀ {ws : List (List Nat)}, c ∈ joinL [s] ws → c = s ∨ ∃ w ∈ ws, c ∈ w
  | [], h => by simp [joinL] at h
  | [w], h => .inr ⟨w, by simp, h⟩
  | w :: v :: r, h => by
    rcases List.mem_append.mp (show c ∈ w ++ ([s] ++ joinL [s] (v :: r)) from h) with h | h
    · exact .inr ⟨w, by simp, h⟩
    · rcases List.mem_append.mp h with h | h
      · exact .inl (by simpa using h)
      · rcases join_mem (ws := v :: r) h with h | ⟨w', hw, h⟩
        · exact .inl h
        · exact .inr ⟨w', List.mem_cons_of_mem _ hw, h⟩
theorem joinS_len {s : Nat} : ∀ {ws : List (List Nat)}, (joinL [s] ws).length ≤ (ws.map List.length).sum + ws.length
  | [] => by simp [joinL]
  | [w] => by simp [joinL]
  | w :: v :: r => by
    have := joinS_len (s := s) (ws := v :: r)
    show (w ++ ([s] ++ joinL [s] (v :: r))).length ≤ _
    simp only [List.length_append, List.map_cons, List.sum_cons, List.length_cons, List.length_nil] at this ⊢
    omega
theorem splitS_ok {s : Nat} (hs : s < 128) {ws : List (List Nat)} (ne : ws ≠ []) (h : ∀ w ∈ ws, s ∉ w) : splX (joinL [s] ws) [s] = ws := by
  unfold splX
  have e : Txt.split (Sx (joinL [s] ws)) (Sx [s]) = (TL.spl [s] 0 [] (joinL [s] ws)).map SX.S := SX.split_S (List.cons_ne_nil _ _) (by rw [List.all_cons, List.all_nil, Bool.and_true]; exact decide_eq_true (by omega))
  rw [e, TL.spl_join ne fun p hp => h p hp, List.map_map]
  have : (lt ∘ SX.S) = id := by
    funext l
    rfl
  rw [this, List.map_id]
def lineOk (l : List Nat) : Prop := low l ∧ 10 ∉ l
theorem line_ok {ws : List (List Nat)} (h : ∀ w ∈ ws, wOk w) : lineOk (joinL [32] ws) :=
  ⟨fun c hc => by
    rcases join_mem hc with rfl | ⟨w, hw, hc⟩
    · decide
    · exact (h w hw).1 c hc, fun hc => by
    rcases join_mem hc with hc | ⟨w, hw, hc⟩
    · cases hc
    · exact (h w hw).2.2 hc⟩
theorem e_blank : lt " " = [32] := by decide +kernel
theorem e_feed : lt "\n" = [10] := by decide +kernel
theorem eq_str (a b : List Nat) : eqD (eS a) (eS b) = decide (a = b) := by
  show PyData.eqv (.str (Sx a)) (.str (Sx b)) = _
  simp only [PyData.eqv]
  exact SX.S_beq_eq
inductive Rk where
  | ifR (t : List Dt)
  | elseR
  | endR
  | oth (h : List Nat) (d : List Dt)
abbrev w_if : List Nat := lt "if"
abbrev w_else : List Nat := lt "else"
abbrev w_end : List Nat := lt "end"
def Rk.row : Rk → List Dt
  | .ifR t => [eS w_if, eU eA t]
  | .elseR => [eS w_else]
  | .endR => [eS w_end]
  | .oth h d => eS h :: d
def Rk.ok : Rk → Prop
  | .oth h _ => low h ∧ h ≠ w_if ∧ h ≠ w_else ∧ h ≠ w_end
  | _ => True
def closeB (b : S_Block) : List Dt := [eS w_if, eU eA b.1, eL eA b.2.2.1, eL eA b.2.2.2]
def addB (r : Dt) (b : S_Block) : S_Block := if b.2.1 = true then (b.1, b.2.1, b.2.2.1, b.2.2.2 ++ [r]) else (b.1, b.2.1, b.2.2.1 ++ [r], b.2.2.2)
def addR (r : Dt) (rows : List Dt) : List S_Block → List Dt × List S_Block
  | [] => (rows ++ [r], [])
  | b :: st => (rows, addB r b :: st)
def stepR : Rk → List Dt × List S_Block → Option (List Dt × List S_Block)
  | .ifR t, s => if s.2.length = 5 then none else some (s.1, (t, false, [], []) :: s.2)
  | .elseR, (rows, []) => none
  | .elseR, (rows, b :: st) => if b.2.1 = true then none else some (rows, (b.1, true, b.2.2.1, b.2.2.2) :: st)
  | .endR, (rows, []) => none
  | .endR, (rows, b :: st) => some (addR (eU eA (closeB b)) rows st)
  | .oth h d, s => some (addR (eU eA (eS h :: d)) s.1 s.2)
theorem st_if (t : List Dt) (rows : List Dt) (st : List S_Block) : stepR (.ifR t) (rows, st) = if st.length = 5 then none else some (rows, (t, false, [], []) :: st) := rfl
theorem st_else (rows : List Dt) (b : S_Block) (st : List S_Block) : stepR .elseR (rows, b :: st) = if b.2.1 = true then none else some (rows, (b.1, true, b.2.2.1, b.2.2.2) :: st) := rfl
theorem st_end (rows : List Dt) (b : S_Block) (st : List S_Block) : stepR .endR (rows, b :: st) = some (addR (eU eA (closeB b)) rows st) := rfl
theorem st_oth (h : List Nat) (d : List Dt) (rows : List Dt) (st : List S_Block) : stepR (.oth h d) (rows, st) = some (addR (eU eA (eS h :: d)) rows st) := rfl
structure Szd (n : Nat) (s : List Dt × List S_Block) : Prop where
  rows : s.1.length ≤ n
  st : s.2.length ≤ 5
  bl : ∀ b ∈ s.2, b.2.2.1.length ≤ n ∧ b.2.2.2.length ≤ n
theorem szd_add {n : Nat} {rows : List Dt} {st : List S_Block} (r : Dt) (h : Szd n (rows, st)) : Szd (n + 1) (addR r rows st) := by
  cases st with
  | nil => exact ⟨by have := h.rows; show (rows ++ [r]).length ≤ _; rw [List.length_append]; exact Nat.succ_le_succ this, h.st, fun b hb => nomatch hb⟩
  | cons b st =>
    refine ⟨Nat.le_succ_of_le h.rows, h.st, fun c hc => ?_⟩
    have hb := h.bl b List.mem_cons_self
    rcases List.mem_cons.mp hc with rfl | hc
    · unfold addB
      split
      · exact ⟨Nat.le_succ_of_le hb.1, by rw [List.length_append]; exact Nat.succ_le_succ hb.2⟩
      · exact ⟨by rw [List.length_append]; exact Nat.succ_le_succ hb.1, Nat.le_succ_of_le hb.2⟩
    · have := h.bl c (List.mem_cons_of_mem _ hc)
      exact ⟨Nat.le_succ_of_le this.1, Nat.le_succ_of_le this.2⟩
theorem szd_step {n : Nat} {k : Rk} {s s' : List Dt × List S_Block} (h : Szd n s) (e : stepR k s = some s') : Szd (n + 1) s' := by
  obtain ⟨rows, st⟩ := s
  have st5 : st.length ≤ 5 := h.st
  cases k with
  | ifR t =>
    rw [st_if] at e
    split at e
    · cases e
    · rename_i hn
      cases e
      refine ⟨Nat.le_succ_of_le h.rows, by show (st.length + 1) ≤ 5; have : ¬ st.length = 5 := hn; omega, fun c hc => ?_⟩
      rcases List.mem_cons.mp hc with rfl | hc
      · exact ⟨Nat.zero_le _, Nat.zero_le _⟩
      · have := h.bl c hc
        exact ⟨Nat.le_succ_of_le this.1, Nat.le_succ_of_le this.2⟩
  | elseR =>
    cases st with
    | nil => cases e
    | cons b st =>
      rw [st_else] at e
      split at e
      · cases e
      · cases e
        refine ⟨Nat.le_succ_of_le h.rows, h.st, fun c hc => ?_⟩
        rcases List.mem_cons.mp hc with rfl | hc
        · have := h.bl b List.mem_cons_self
          exact ⟨Nat.le_succ_of_le this.1, Nat.le_succ_of_le this.2⟩
        · have := h.bl c (List.mem_cons_of_mem _ hc)
          exact ⟨Nat.le_succ_of_le this.1, Nat.le_succ_of_le this.2⟩
  | endR =>
    cases st with
    | nil => cases e
    | cons b st =>
      cases e
      exact szd_add _ ⟨h.rows, by have : st.length + 1 ≤ 5 := h.st; show st.length ≤ 5; omega, fun c hc => h.bl c (List.mem_cons_of_mem _ hc)⟩
  | oth hd d =>
    cases e
    exact szd_add _ h
theorem inB_last {α : Type} {xs : List α} {a : α} : inB (xs ++ [a]) (-1) := ⟨by rw [List.length_append, List.length_singleton]; omega, by rw [List.length_append, List.length_singleton]; omega⟩
theorem gq_str {l : List Nat} (h : low l) : gQ (eA (eS l)) := gQn_gQ (n := 0) (gQn_str (strOk_ascii h)) (by decide)
theorem hd_eq {a b : List Nat} {d : List Dt} (ha : low a) (hb : low b) : (R.guard (Dt.isU (eU eA (eS a :: d)) = true) (R.guard (inB (Dt.asU (eU eA (eS a :: d))) (0 : Int)) (R.guard (gQ2 (eA (getI (Dt.asU (eU eA (eS a :: d))) (0 : Int))) (eS b)) (R.ok (eqD (eA (getI (Dt.asU (eU eA (eS a :: d))) (0 : Int))) (eS b)))))) = .ok (decide (a = b)) := by
  have e : Dt.asU (eU eA (eS a :: d)) = eS a :: d := map_eA _
  rw [gd (show Dt.isU (eU eA (eS a :: d)) = true from rfl), e, gd (show inB (eS a :: d) 0 from inB_of (by decide) (by rw [List.length_cons]; omega)), getI0, gd (show gQ2 (eA (eS a)) (eS b) from ⟨gq_str ha, gq_str hb⟩)]
  rw [show eqD (eA (eS a)) (eS b) = decide (a = b) from eq_str a b]
theorem low_w : low w_if ∧ low w_else ∧ low w_end := by unfold low; decide +kernel
theorem ne_w : w_else ≠ w_if ∧ w_end ≠ w_if ∧ w_end ≠ w_else := by decide +kernel
theorem putT_ok {n : Nat} {r : Dt} {rows : List Dt} {st : List S_Block} {g : R Dt} (hg : g = .ok r ∨ (st ≠ [] ∧ True)) (hn : n ≤ 1000) (h : Szd n (rows, st)) :
    ((R.ok (decide (st.reverse.length = 0))).bind fun b => if b = true then (
      g.bind fun a227 => R.guard (gL rows) ((R.ok (rows ++ [a227])).bind fun v_rows =>
      (R.ok true).bind fun r228 => R.ok (r228, v_rows, st.reverse))) else (
      R.guard (inB st.reverse (-(1 : Int))) ((R.ok r).bind fun a231 => R.guard (gL (if (getI st.reverse (-(1 : Int))).2.1 = true then (getI st.reverse (-(1 : Int))).2.2.2 else (getI st.reverse (-(1 : Int))).2.2.1)) ((R.ok ((if (getI st.reverse (-(1 : Int))).2.1 = true then (getI st.reverse (-(1 : Int))).2.2.2 else (getI st.reverse (-(1 : Int))).2.2.1) ++ [a231])).bind fun v230 =>
      (R.ok ((setI st.reverse (-(1 : Int)) (if (getI st.reverse (-(1 : Int))).2.1 = true then ((getI st.reverse (-(1 : Int))).1, (getI st.reverse (-(1 : Int))).2.1, (getI st.reverse (-(1 : Int))).2.2.1, v230) else ((getI st.reverse (-(1 : Int))).1, (getI st.reverse (-(1 : Int))).2.1, v230, (getI st.reverse (-(1 : Int))).2.2.2))))).bind fun v_blocks =>
      (R.ok true).bind fun r232 => R.ok (r232, rows, v_blocks))))) = (R.ok (true, (addR r rows st).1, (addR r rows st).2.reverse) : R (Bool × List Dt × List S_Block)) := by
  have hr : rows.length ≤ n := h.rows
  cases st with
  | nil =>
    refine b1 (by rw [List.reverse_nil]; rfl) ?_
    rcases hg with hg | hg
    · rw [hg, okb, gd (show gL rows from by show rows.length < _; omega)]
      rfl
    · exact (hg.1 rfl).elim
  | cons b st =>
    have hb := h.bl b List.mem_cons_self
    have e : (b :: st).reverse = st.reverse ++ [b] := List.reverse_cons
    rw [e]
    refine b0 (by rw [decide_eq_false (by rw [List.length_append, List.length_singleton]; omega)]) ?_
    rw [gd inB_last, okb, getI_last]
    show _ = R.ok (true, rows, (addB r b :: st).reverse)
    rw [List.reverse_cons]
    unfold addB
    by_cases c : b.2.1 = true
    · simp only [if_pos c]
      rw [gd (show gL _ from by show b.2.2.2.length < _; omega), okb, okb, setI_last]
      rfl
    · simp only [if_neg c]
      rw [gd (show gL _ from by show b.2.2.1.length < _; omega), okb, okb, setI_last]
      rfl
theorem closed_is (b : S_Block) : rowM (eU eA b.1, b.2.2.1, b.2.2.2) = eU eA (closeB b) := by
  have e1 : ∀ l : List Dt, eL eA l = .lst l := fun l => by
    show Dt.lst (l.map eA) = _
    rw [map_eA]
  unfold closeB
  show _ = Dt.tup ([eS w_if, eU eA b.1, eL eA b.2.2.1, eL eA b.2.2.2].map eA)
  rw [map_eA, e1, e1]
  rfl
theorem leaf_row {hd : List Nat} {d : List Dt} (h : hd ≠ w_if) : (rowB (eU eA (eS hd :: d))).isNone = true := by
  have e : eU eA (eS hd :: d) = .tup (eS hd :: d) := by
    show Dt.tup ((eS hd :: d).map eA) = _
    rw [map_eA]
  rw [e]
  unfold rowB
  split
  · rename_i w t xs ys ez
    have ew : Sx hd = w := by
      injection ez with ez
      injection ez with e1 _
      injection e1
    rw [if_neg fun z : w = wIf => h (Sx_inj.mp (ew.trans z))]
    rfl
  · rfl
theorem put_in_ok {n : Nat} {k : Rk} {rows : List Dt} {st : List S_Block} (hn : n ≤ 1000) (hk : k.ok) (h : Szd n (rows, st)) :
    m_put_in (eU eA k.row) rows st.reverse = .ok (match stepR k (rows, st) with | none => (false, rows, st.reverse) | some s => (true, s.1, s.2.reverse)) := by
  have hr : rows.length ≤ n := h.rows
  have hs : st.length ≤ 5 := h.st
  unfold m_put_in
  refine b0 rfl ?_
  cases k with
  | ifR t =>
    have e : Dt.asU (eU eA (Rk.ifR t).row) = [eS w_if, eU eA t] := map_eA _
    have e2 : Dt.asU (eU eA t) = t := map_eA _
    rw [st_if]
    have l5 : ((st.reverse.length : Int) = 5) ↔ st.length = 5 := by rw [List.length_reverse]; omega
    by_cases c : st.length = 5
    · rw [if_pos c]
      refine b1 ((hd_eq low_w.1 low_w.1).trans (by rw [decide_eq_true rfl])) ?_
      exact b1 (by rw [decide_eq_true (l5.mpr c)]) rfl
    · rw [if_neg c]
      refine b1 ((hd_eq low_w.1 low_w.1).trans (by rw [decide_eq_true rfl])) ?_
      refine b0 (by rw [decide_eq_false fun z => c (l5.mp z)]) ?_
      rw [gd (show Dt.isU (eU eA (Rk.ifR t).row) = true from rfl), e, gd (show inB [eS w_if, eU eA t] 1 from inB_of (by decide) (by show (1 : Int) < 2; decide)), show getI [eS w_if, eU eA t] 1 = eU eA t from rfl, gd (show Dt.isU (eU eA t) = true from rfl), okb, e2]
      refine bd (a := (t, false, [], [])) rfl ?_
      rw [gd (show gL st.reverse from by show st.reverse.length < _; rw [List.length_reverse]; omega), okb]
      show R.ok (true, rows, st.reverse ++ [((t, false, [], []) : S_Block)]) = R.ok (true, rows, ((t, false, [], []) :: st : List S_Block).reverse)
      rw [List.reverse_cons]
  | elseR =>
    cases st with
    | nil =>
      refine b0 ((hd_eq low_w.2.1 low_w.1).trans (by rw [decide_eq_false ne_w.1])) ?_
      refine b1 ((hd_eq low_w.2.1 low_w.2.1).trans (by rw [decide_eq_true rfl])) ?_
      exact b1 rfl rfl
    | cons b st =>
      have e : (b :: st).reverse = st.reverse ++ [b] := List.reverse_cons
      rw [st_else, e]
      have l0 : (R.ok (decide ((st.reverse ++ [b]).length = 0)) : R Bool) = .ok false := by rw [decide_eq_false (by rw [List.length_append, List.length_singleton]; omega)]
      by_cases c : b.2.1 = true
      · rw [if_pos c]
        refine b0 ((hd_eq low_w.2.1 low_w.1).trans (by rw [decide_eq_false ne_w.1])) ?_
        refine b1 ((hd_eq low_w.2.1 low_w.2.1).trans (by rw [decide_eq_true rfl])) ?_
        refine b1 (by rw [l0]; show R.guard _ _ = _; rw [gd inB_last, getI_last, c]) rfl
      · rw [if_neg c]
        refine b0 ((hd_eq low_w.2.1 low_w.1).trans (by rw [decide_eq_false ne_w.1])) ?_
        refine b1 ((hd_eq low_w.2.1 low_w.2.1).trans (by rw [decide_eq_true rfl])) ?_
        refine b0 (by rw [l0]; show R.guard _ _ = _; rw [gd inB_last, getI_last, Bool.eq_false_iff.mpr c]) ?_
        rw [gd inB_last, okb, getI_last, setI_last, okb]
        show R.ok (true, rows, st.reverse ++ [((b.1, true, b.2.2.1, b.2.2.2) : S_Block)]) = R.ok (true, rows, ((b.1, true, b.2.2.1, b.2.2.2) :: st : List S_Block).reverse)
        rw [List.reverse_cons]
  | endR =>
    cases st with
    | nil =>
      refine b0 ((hd_eq low_w.2.2 low_w.1).trans (by rw [decide_eq_false ne_w.2.1])) ?_
      refine b0 ((hd_eq low_w.2.2 low_w.2.1).trans (by rw [decide_eq_false ne_w.2.2])) ?_
      refine b1 ((hd_eq low_w.2.2 low_w.2.2).trans (by rw [decide_eq_true rfl])) ?_
      exact b1 rfl rfl
    | cons b st =>
      have e : (b :: st).reverse = st.reverse ++ [b] := List.reverse_cons
      rw [st_end, e]
      have l0 : (R.ok (decide ((st.reverse ++ [b]).length = 0)) : R Bool) = .ok false := by rw [decide_eq_false (by rw [List.length_append, List.length_singleton]; omega)]
      refine b0 ((hd_eq low_w.2.2 low_w.1).trans (by rw [decide_eq_false ne_w.2.1])) ?_
      refine b0 ((hd_eq low_w.2.2 low_w.2.1).trans (by rw [decide_eq_false ne_w.2.2])) ?_
      refine b1 ((hd_eq low_w.2.2 low_w.2.2).trans (by rw [decide_eq_true rfl])) ?_
      refine b0 l0 ?_
      rw [popR_app, okb, show m_Block_closed b = R.ok (rowM (eU eA b.1, b.2.2.1, b.2.2.2)) from rfl, okb, show ∀ x : (S_Block × List S_Block) × Dt, (R.ok x).calm = R.ok x from fun _ => rfl, okb, okb, okb, closed_is]
      exact putT_ok (g := .ok (eU eA (closeB b))) (.inl rfl) hn ⟨h.rows, by have : st.length + 1 ≤ 5 := hs; show st.length ≤ 5; omega, fun c hc => h.bl c (List.mem_cons_of_mem _ hc)⟩
  | oth hd d =>
    rw [st_oth]
    refine b0 ((hd_eq hk.1 low_w.1).trans (by rw [decide_eq_false hk.2.1])) ?_
    refine b0 ((hd_eq hk.1 low_w.2.1).trans (by rw [decide_eq_false hk.2.2.1])) ?_
    refine b0 ((hd_eq hk.1 low_w.2.2).trans (by rw [decide_eq_false hk.2.2.2])) ?_
    exact putT_ok (.inl (by rw [okb]; exact gd (leaf_row hk.2.1))) hn h
theorem put_none {rows : List Dt} {bs : List S_Block} : m_put_in .non rows bs = .ok (false, rows, bs) := rfl
def oneR (o : Option Rk) (s : List Dt × List S_Block) : Option (List Dt × List S_Block) := match o with
  | none => none
  | some k => stepR k s
def goR : Nat → List (Option Rk) → List Dt × List S_Block → R (List Dt × List S_Block)
  | _, [], s => .ok s
  | k, o :: os, s => if k = 40 then .err (.noDealing (k : Int)) else match oneR o s with
    | none => .err (.noDealing (k : Int))
    | some s' => goR (k + 1) os s'
def readR (os : List (Option Rk)) : R (List Dt) := (goR 0 os ([], [])).bind fun s => if s.2 = [] then .ok s.1 else .err (.noDealing (os.length : Int))
def okO : Option Rk → Prop
  | none => True
  | some k => k.ok
def RowIs (l : List Nat) (o : Option Rk) : Prop := m_row_in l = .ok (o.map Rk.row) ∧ okO o
def enumN {α : Type} : Nat → List α → List (Int × α)
  | _, [] => []
  | a, x :: xs => ((a : Int), x) :: enumN (a + 1) xs
theorem enumN_zip {α : Type} : ∀ (l : List α) (a : Nat), ((List.range' a l.length).map fun (i : Nat) => (0 : Int) + (i : Int)).zip l = enumN a l
  | [], a => rfl
  | x :: l, a => by
    rw [List.length_cons, List.range'_succ, List.map_cons, List.zip_cons_cons, enumN_zip l (a + 1), Int.zero_add]
    rfl
theorem enumX_N {α : Type} (l : List α) : enumX l = enumN 0 l := by
  unfold enumX rng
  rw [← enumN_zip l 0, ← List.range_eq_range']
  congr 3
inductive RowsAre : List (List Nat) → List (Option Rk) → Prop where
  | nil : RowsAre [] []
  | cons {l : List Nat} {o : Option Rk} {ls : List (List Nat)} {os : List (Option Rk)} (h : RowIs l o) (hs : RowsAre ls os) : RowsAre (l :: ls) (o :: os)
theorem RowsAre.length_eq : ∀ {ls : List (List Nat)} {os : List (Option Rk)}, RowsAre ls os → ls.length = os.length
  | _, _, .nil => rfl
  | _, _, .cons _ hs => congrArg (· + 1) hs.length_eq
theorem RowsAre.of_map {α : Type} {f : α → List Nat} {g : α → Option Rk} : ∀ {xs : List α}, (∀ x ∈ xs, RowIs (f x) (g x)) → RowsAre (xs.map f) (xs.map g)
  | [], _ => .nil
  | x :: xs, h => .cons (h x List.mem_cons_self) (of_map fun y hy => h y (List.mem_cons_of_mem _ hy))
theorem readL_ok {n k : Nat} {l : List Nat} {o : Option Rk} {s : List Dt × List S_Block} (hn : n ≤ 1000) (h : Szd n s) (ho : RowIs l o) :
    m_read_L1 s.1 s.2.reverse (k : Int) l = if k = 40 then .err (.noDealing (k : Int)) else match oneR o s with
      | none => .err (.noDealing (k : Int))
      | some s' => .ok (s'.1, s'.2.reverse) := by
  unfold m_read_L1
  by_cases c : k = 40
  · rw [if_pos c]
    subst c
    rfl
  · rw [if_neg c]
    rw [show decide ((k : Int) = 40) = false from decide_eq_false (by omega)]
    rw [okb, okb]
    dsimp only
    rw [if_neg (by decide), ho.1, okb, okb, okb, okb]
    dsimp only
    cases o with
    | none =>
      show ((R.bind (R.bind (m_put_in .non s.1 s.2.reverse) _) _).bind _) = _
      rw [put_none]
      rfl
    | some k' =>
      show ((R.bind (R.bind (m_put_in (eU eA k'.row) s.1 s.2.reverse) _) _).bind _) = _
      rw [put_in_ok hn ho.2 h]
      show _ = match stepR k' (s.1, s.2) with
        | none => R.err (.noDealing (k : Int))
        | some s' => .ok (s'.1, s'.2.reverse)
      cases stepR k' (s.1, s.2) with
      | none => rfl
      | some s' => rfl
theorem go_ok : ∀ {ls : List (List Nat)} {os : List (Option Rk)} {k : Nat} {s : List Dt × List S_Block}, k ≤ 40 → Szd k s → RowsAre ls os →
    foldR (fun (y : Int × List Nat) (s : List Dt × List S_Block) => m_read_L1 s.1 s.2 y.1 y.2) (enumN k ls) (s.1, s.2.reverse) = (goR k os s).bind fun s' => .ok (s'.1, s'.2.reverse)
  | _, _, k, s, _, _, .nil => rfl
  | _, _, k, s, hk, h, .cons (l := l) (ls := ls) (o := o) (os := os) ho hf => by
    show (m_read_L1 s.1 s.2.reverse (k : Int) l).bind _ = _
    rw [readL_ok (by omega) h ho]
    unfold goR
    by_cases c : k = 40
    · rw [if_pos c, if_pos c]; rfl
    · rw [if_neg c, if_neg c]
      cases e : oneR o s with
      | none => rfl
      | some s' =>
        have h' : Szd (k + 1) s' := by
          cases o with
          | none => cases e
          | some k' => exact szd_step h e
        exact go_ok (by omega) h' hf
def linesT (t : List Nat) : List (List Nat) := if t = [] then [] else splX t [10]
theorem read_is {t : List Nat} {os : List (Option Rk)} (hl : t.length ≤ 1000000) (hf : RowsAre (linesT t) os) : m_read t = readR os := by
  unfold m_read
  rw [okb, okb, okb]
  refine bd (a := linesT t) ?_ ?_
  · unfold linesT
    have e0 : lt "" = [] := by decide +kernel
    rw [e0]
    by_cases c : t = []
    · subst c
      rfl
    · refine b1 (by rw [decide_eq_false c]; rfl) ?_
      rw [if_neg c, e_feed, gd ⟨List.cons_ne_nil _ _, hl⟩]
      rfl
  · unfold m_read_J1
    rw [okb, enumX_N, show (([] : List Dt), ([] : List S_Block)) = ((([], []) : List Dt × List S_Block).1, (([], []) : List Dt × List S_Block).2.reverse) from rfl, go_ok (k := 0) (s := ([], [])) (by decide) ⟨Nat.le_refl _, Nat.zero_le _, fun b hb => nomatch hb⟩ hf]
    unfold readR
    have hlen : (linesT t).length = os.length := hf.length_eq
    cases e : goR 0 os ([], []) with
    | ok s =>
      show m_read_J2 s.1 s.2.reverse (linesT t) = if s.2 = [] then R.ok s.1 else R.err (.noDealing (os.length : Int))
      unfold m_read_J2
      by_cases c : s.2 = []
      · rw [if_pos c, c]
        rfl
      · rw [if_neg c]
        refine b1 (by rw [decide_eq_false (by rw [List.length_reverse]; exact fun z => c (List.length_eq_zero_iff.mp z))]; rfl) ?_
        rw [hlen]
        rfl
    | err e => rfl
    | bad => rfl
theorem heads_q : ∀ x ∈ resv, x ++ lt "q" ∉ resv := by decide +kernel
theorem heads_lq : ∀ x ∈ resv, (x ++ lt "q").length ≤ 6 := by decide +kernel
theorem lets_q : lets (lt "q") := by unfold lets; decide +kernel
theorem free_ok (l : List Nat) (h1 : l ≠ []) (h : l.length ≤ 6) (hl : lets l) : Sat (m_law_free l) nameOk := by
  unfold m_law_free
  have mr : l ∈ resv ↔ (l ∈ heads9 ∨ l ∈ doers7) := by rw [resv_split, List.mem_append, heads_eq, doers_eq]
  refine sat_bind (Q := (· = decide (l ∈ heads9))) (sat_ok rfl) fun b e => ?_
  subst e
  have ne : l ++ lt "q" ≠ [] := fun z => by have := congrArg List.length z; rw [List.length_append, show (lt "q").length = 1 from by decide +kernel] at this; simp at this
  have add : l ∈ resv → Sat (R.guard (gS (l ++ lt "q")) (R.ok (l ++ lt "q"))) nameOk := fun hr => by
    have := heads_lq l hr
    exact sat_guard (gS_of (by omega)) (sat_ok ⟨ne, this, heads_q l hr, lets_app hl lets_q⟩)
  refine sat_if (fun c => add (mr.mpr (.inl (of_decide_eq_true c)))) fun c1 => ?_
  refine sat_bind (Q := (· = decide (l ∈ doers7))) (sat_ok rfl) fun b e => ?_
  subst e
  refine sat_if (fun c => add (mr.mpr (.inr (of_decide_eq_true c)))) fun c2 => sat_ok ⟨h1, h, ?_, hl⟩
  rw [mr]
  rintro (z | z)
  · exact c1 (decide_eq_true z)
  · exact c2 (decide_eq_true z)
def goodN (l : List Nat) : Prop := l ≠ [] ∧ l.length ≤ 6 ∧ lets l
theorem letters_okN (n m : Int) (h0 : 1 ≤ m) (h1 : m ≤ 6) : Sat (m_law_letters n m) fun l => l.length = m.toNat ∧ lets l := by
  unfold m_law_letters
  refine sat_bind (Q := (· = letters)) (sat_ok rfl) fun l hl => ?_
  subst hl
  refine sat_bind (Q := (· = [])) (sat_ok (by decide +kernel)) fun f hf => ?_
  subst hf
  refine sat_bind (Q := fun s : Int × List Nat => s.2.length = m.toNat ∧ lets s.2) ?_ fun s hs => sat_ok hs
  refine sat_bind (Q := (· = m)) (sat_bind (Q := (· = m)) (sat_ok rfl) fun j hj => by subst hj; exact sat_guard (gR_of (by omega) (by omega)) (sat_ok rfl)) fun j hj => ?_
  subst hj
  refine sat_mono (sat_fold (fun pre s => s.2.length = pre.length ∧ lets s.2) ⟨rfl, fun c hc => by simp at hc⟩ fun pre x suf s e hs => ?_) fun s hs => ⟨by rw [hs.1, rng_len]; omega, hs.2⟩
  have hx := rng_pre e
  have hlen : pre.length < (rng 0 j).length := by rw [e]; simp
  rw [rng_len] at hlen
  unfold m_law_letters_L1
  have hm := Int.emod_nonneg s.1 (b := 26) (by decide)
  have hl := Int.emod_lt_of_pos s.1 (b := 26) (by decide)
  have hi : inB letters (s.1 % 26) := inB_of hm (by rw [letters_len]; exact hl)
  refine sat_bind (Q := fun f => f.length = pre.length + 1 ∧ lets f) (sat_guard (by decide) (sat_guard ⟨gS_of (by rw [letters_len]; decide), hi⟩ (sat_guard (gS_of ?_) (sat_ok ⟨?_, ?_⟩)))) fun f hf => ?_
  · rw [List.length_append, hs.1]; simp; omega
  · rw [List.length_append, hs.1]; rfl
  · exact lets_app hs.2 fun c hc => by rw [List.mem_singleton] at hc; subst hc; exact getI_mem hi
  refine sat_bind (Q := fun _ => True) (sat_guard (divW (by decide) (by decide)) (sat_guard (mulW (a := 20) (b := 20) (by decide) (by omega) (by decide) (by decide) (by decide)) (sat_guard (mulW (a := 40) (b := 20) (by omega) (by omega) (by decide) (by decide) (by decide)) (sat_ok trivial)))) fun v _ => sat_ok ?_
  refine ⟨?_, hf.2⟩
  rw [hf.1]; simp
theorem arg1 {β : Type} {m : R Int} {Q : Int → Prop} {P : β → Prop} {f : Int → R β} (h : Sat m Q) (k : ∀ a, Q a → Sat (f a) P) : Sat ((m.bind fun a => (R.ok ()).bind fun b => R.ok (a, b)).bind fun x => f x.1) P :=
  sat_bind (Q := fun x : Int × Unit => Q x.1) (sat_bind h fun a ha => sat_bind (Q := fun _ => True) (sat_ok trivial) fun b _ => sat_ok ha) fun x hx => k x.1 hx
theorem range_ok {j : Int} (h0 : 0 ≤ j) (h1 : j ≤ 1000) : Sat ((R.ok j).bind fun j => R.guard (gR j) (R.ok j)) (· = j) :=
  sat_bind (Q := (· = j)) (sat_ok rfl) fun i e => by subst e; exact sat_guard (gR_of (by omega) (by omega)) (sat_ok rfl)
theorem ne_len {l : List Nat} (h : 1 ≤ l.length) : l ≠ [] := fun z => by rw [z] at h; simp at h
theorem sIx_some {n d : Nat} {k : Int} (h0 : 0 ≤ k) : HT.sIx n d (some k) = min k.toNat n := by
  show (if k < 0 then _ else _) = _
  rw [if_neg (by omega)]
theorem cut_to {l : List Nat} {k : Int} (h0 : 0 ≤ k) : (cutL l none (some k)).length = min k.toNat l.length := by
  unfold cutL
  rw [sIx_some h0, show HT.sIx l.length 0 none = 0 from rfl, List.length_take, List.length_drop]
  omega
theorem cut_from {l : List Nat} {k : Int} (h0 : 0 ≤ k) : (cutL l (some k) none).length = l.length - k.toNat := by
  unfold cutL
  rw [sIx_some h0, show HT.sIx l.length l.length none = l.length from rfl, List.length_take, List.length_drop]
  omega
def Spread (xs : List Int) (m : Nat) : Prop := xs.length = m ∧ ∀ x ∈ xs, 0 ≤ x ∧ x < 268435399
theorem spread_ok (cell m : Int) (h0 : 0 ≤ m) (h1 : m ≤ 100) : Sat (m_law_spread cell m) fun xs => Spread xs m.toNat := by
  unfold m_law_spread
  rw [okb]
  have a1 := Int.emod_nonneg cell (b := 1000000007) (by decide)
  have a2 := Int.emod_lt_of_pos cell (b := 1000000007) (by decide)
  refine sat_bind (Q := fun x => 0 ≤ x ∧ x < 2000000000) (sat_guard (by decide) (sat_ok (by omega))) fun low hlow => ?_
  have b1 := Int.emod_nonneg (cell / 1000000007) (b := 998244353) (by decide)
  have b2 := Int.emod_lt_of_pos (cell / 1000000007) (b := 998244353) (by decide)
  refine sat_bind (Q := fun x => 0 ≤ x ∧ x < 2000000000) (sat_guard (divW (by decide) (by decide)) (sat_guard (by decide) (sat_ok (by omega)))) fun high hhigh => ?_
  refine sat_bind (Q := fun s : List Int × Int × Int => Spread s.1 m.toNat) ?_ fun s hs => sat_ok hs
  refine sat_bind (range_ok h0 (by omega)) fun j e => ?_
  subst e
  refine sat_mono (sat_fold (fun pre (s : List Int × Int × Int) => Spread s.1 pre.length ∧ (0 ≤ s.2.1 ∧ s.2.1 < 2000000000) ∧ (0 ≤ s.2.2 ∧ s.2.2 < 2000000000)) ⟨⟨rfl, fun x hx => (nomatch hx)⟩, hlow, hhigh⟩ fun pre x suf s e hs => ?_) fun s hs => by have := hs.1; rw [rng_len] at this; rw [show (j - 0).toNat = j.toNat from by omega] at this; exact this
  have hx := rng_pre e
  have hlen : pre.length < (rng 0 j).length := by rw [e]; simp
  rw [rng_len] at hlen
  obtain ⟨⟨hl, hv⟩, h2, h3⟩ := hs
  unfold m_law_spread_L1
  have x0 : 0 ≤ x ∧ x < 100 := by rw [hx]; omega
  refine sat_bind (Q := fun v => 0 ≤ v ∧ v < 2000000000) (sat_guard (mulW (a := 40) (b := 20) (by omega) (by decide) (by decide) (by decide) (by decide)) (sat_guard (mulW (a := 20) (b := 20) (by omega) (by omega) (by decide) (by decide) (by decide)) (sat_guard (by decide) (sat_ok ?_)))) fun low hlow => ?_
  · have c1 := Int.emod_nonneg (s.2.1 * 6007 + s.2.2 + x * x) (b := 1000000007) (by decide)
    have c2 := Int.emod_lt_of_pos (s.2.1 * 6007 + s.2.2 + x * x) (b := 1000000007) (by decide)
    exact ⟨c1, by omega⟩
  refine sat_bind (Q := fun v => 0 ≤ v ∧ v < 2000000000) (sat_guard (mulW (a := 40) (b := 20) (by omega) (by decide) (by decide) (by decide) (by decide)) (sat_guard (divW (by decide) (by decide)) (sat_guard (by decide) (sat_ok ?_)))) fun high hhigh => ?_
  · have c1 := Int.emod_nonneg (s.2.2 * 7001 + low / 3) (b := 998244353) (by decide)
    have c2 := Int.emod_lt_of_pos (s.2.2 * 7001 + low / 3) (b := 998244353) (by decide)
    exact ⟨c1, by omega⟩
  refine sat_bind (Q := fun v => 0 ≤ v ∧ v < 268435399) (sat_guard (by decide) (sat_ok ⟨Int.emod_nonneg _ (by decide), Int.emod_lt_of_pos _ (by decide)⟩)) fun v hv' => ?_
  refine sat_guard (by show s.1.length < _; omega) ?_
  rw [okb]
  refine sat_ok ⟨⟨?_, ?_⟩, hlow, hhigh⟩
  · rw [List.length_append, List.length_append, hl]; rfl
  · intro y hy
    rcases List.mem_append.mp hy with hy | hy
    · exact hv y hy
    · rw [List.mem_singleton] at hy; subst hy; exact hv'
theorem spread_get {xs : List Int} {m : Nat} (h : Spread xs m) {k : Int} (h0 : 0 ≤ k) (h1 : k < m) : inB xs k ∧ 0 ≤ getI xs k ∧ getI xs k < 268435399 := by
  have hi : inB xs k := inB_of h0 (by rw [h.1]; exact h1)
  exact ⟨hi, h.2 _ (getI_mem hi)⟩
theorem names_ok (cell : Int) : Sat (m_law_names cell) fun ns => ns.length = 4 ∧ ∀ n ∈ ns, nameOk n := by
  unfold m_law_names
  refine sat_bind (Q := (· = letters)) (sat_ok rfl) fun L e => ?_
  subst e
  refine sat_bind (spread_ok cell 9 (by decide) (by decide)) fun xs hxs => ?_
  have hxs : Spread xs 9 := hxs
  have m6 := Int.emod_nonneg (cell / 3) (b := 6) (by decide)
  have l6 := Int.emod_lt_of_pos (cell / 3) (b := 6) (by decide)
  have x0 := spread_get hxs (k := 0) (by decide) (by decide)
  have x1 := spread_get hxs (k := 1) (by decide) (by decide)
  refine sat_bind (Q := fun l : List Nat => 1 ≤ l.length ∧ l.length ≤ 6 ∧ lets l) ?_ fun base hb => ?_
  · refine sat_guard x0.1 (sat_guard (divW (by decide) (by decide)) (sat_guard (by decide) ?_))
    exact sat_mono (letters_okN _ _ (by omega) (by omega)) fun l hl => ⟨by omega, by omega, hl.2⟩
  have gb : gS base := gS_of (by omega)
  refine sat_bind (Q := fun at_ : Int => 0 ≤ at_ ∧ at_ < base.length) ?_ fun at_ hat => ?_
  · exact sat_guard x1.1 (sat_guard gb (sat_guard (by omega) (sat_ok ⟨Int.emod_nonneg _ (by omega), Int.emod_lt_of_pos _ (by omega)⟩)))
  refine sat_bind (Q := fun ns : List (List Nat) => ns.length = 4 ∧ ∀ n ∈ ns, goodN n) ?_ fun ns hns => ?_
  · refine sat_bind (Q := fun _ => True) (sat_guard (by decide) (sat_ok trivial)) fun b _ => sat_if (fun _ => ?_) fun _ => ?_
    · refine sat_bind (Q := fun _ => True) (sat_guard ⟨gb, inB_of hat.1 hat.2⟩ (sat_ok trivial)) fun first _ => ?_
      refine sat_bind (Q := fun tr : List Nat => tr.length = 4 ∧ ∀ c ∈ tr, c ∈ letters) ?_ fun tr htr => ?_
      · refine sat_bind (range_ok (by decide) (by decide)) fun c e => ?_
        subst e
        refine sat_guard (by rw [rng_len]; decide) (sat_mono (sat_mapM (fun c => c ∈ letters) fun k hk => ?_) fun ys hy => ⟨by rw [hy.1, rng_len]; decide, hy.2⟩)
        have hk2 := rng_mem.mp hk
        unfold m_law_names_C1
        have hi : inB letters ((first + 7 * k) % 26) := inB_of (Int.emod_nonneg _ (by decide)) (by rw [letters_len]; exact Int.emod_lt_of_pos _ (by decide))
        exact sat_guard (mulW (a := 20) (b := 20) (by decide) (by omega) (by decide) (by decide) (by decide)) (sat_guard (by decide) (sat_guard ⟨gS_of (by rw [letters_len]; decide), hi⟩ (sat_ok (getI_mem hi))))
      refine sat_bind (Q := fun ns : List (List Nat) => ns.length = 4 ∧ ∀ n ∈ ns, goodN n) ?_ fun ns h => sat_ok h
      rw [okb]
      refine sat_guard (by omega) (sat_mono (sat_mapM goodN fun c hc => ?_) fun ys hy => ⟨by rw [hy.1]; exact htr.1, hy.2⟩)
      unfold m_law_names_C2
      have hcl := htr.2 c hc
      have h1 := cut_to (l := base) (k := at_) hat.1
      have h2 := cut_from (l := base) (k := at_ + 1) (by omega)
      have h3 : lets (cutL base none (some at_) ++ [c]) := lets_app (lets_cut hb.2.2) fun d hd => by rw [List.mem_singleton] at hd; subst hd; exact hcl
      have h4 : (cutL base none (some at_) ++ [c]).length = at_.toNat + 1 := by rw [List.length_append, List.length_singleton, h1]; omega
      have h5 : ((cutL base none (some at_) ++ [c]) ++ cutL base (some (at_ + 1)) none).length = base.length := by rw [List.length_append, h4, h2]; omega
      exact sat_guard gb (sat_guard (gS_of (by omega)) (sat_guard gb (sat_guard (gS_of (by omega)) (sat_ok ⟨ne_len (by omega), by omega, lets_app h3 (lets_cut hb.2.2)⟩))))
    · refine sat_bind (Q := fun _ => True) (sat_guard (by decide) (sat_ok trivial)) fun b _ => sat_if (fun _ => ?_) fun _ => ?_
      · refine sat_bind (Q := fun l : List Nat => l.length = 6 ∧ lets l) (sat_guard x0.1 (sat_mono (letters_okN _ 6 (by decide) (by decide)) fun l hl => ⟨by rw [hl.1]; rfl, hl.2⟩)) fun base2 hb2 => ?_
        have gb2 : gS base2 := gS_of (by omega)
        refine sat_bind (Q := fun ns : List (List Nat) => ns.length = 4 ∧ ∀ n ∈ ns, goodN n) (sat_guard gb2 (sat_guard gb2 (sat_guard gb2 (sat_ok ⟨rfl, ?_⟩)))) fun ns h => sat_ok h
        have hc : ∀ k : Int, 1 ≤ k → goodN (cutL base2 none (some (k + at_))) := fun k hk => by
          have := cut_to (l := base2) (k := k + at_) (by omega)
          exact ⟨ne_len (by omega), by omega, lets_cut hb2.2⟩
        intro n hn
        simp only [List.mem_cons, List.not_mem_nil, or_false] at hn
        rcases hn with rfl | rfl | rfl | rfl
        · exact hc 1 (by decide)
        · exact hc 2 (by decide)
        · exact hc 3 (by decide)
        · exact ⟨ne_len (by omega), by omega, hb2.2⟩
      · refine sat_bind (Q := fun ns : List (List Nat) => ns.length = 4 ∧ ∀ n ∈ ns, goodN n) ?_ fun ns h => sat_ok h
        refine sat_bind (range_ok (by decide) (by decide)) fun c e => ?_
        subst e
        refine sat_guard (by rw [rng_len]; decide) (sat_mono (sat_mapM goodN fun k hk => ?_) fun ys hy => ⟨by rw [hy.1, rng_len]; decide, hy.2⟩)
        have hk2 := rng_mem.mp hk
        unfold m_law_names_C3
        have y1 := spread_get hxs (k := k + 1) (by omega) (by omega)
        have y5 := spread_get hxs (k := k + 5) (by omega) (by omega)
        have z1 := Int.emod_nonneg (getI xs (k + 5)) (b := 6) (by decide)
        have z2 := Int.emod_lt_of_pos (getI xs (k + 5)) (b := 6) (by decide)
        exact sat_guard y1.1 (sat_guard y5.1 (sat_guard (by decide) (sat_mono (letters_okN _ _ (by omega) (by omega)) fun l hl => ⟨ne_len (by omega), by omega, hl.2⟩)))
  · unfold m_law_names_J1
    refine sat_bind (Q := (· = ns)) (sat_ok rfl) fun c e => ?_
    subst e
    refine sat_guard (by omega) (sat_mono (sat_mapM nameOk fun x hx => ?_) fun ys hy => ⟨by omega, hy.2⟩)
    unfold m_law_names_C4
    exact free_ok x (hns.2 x hx).1 (hns.2 x hx).2.1 (hns.2 x hx).2.2
theorem row_in_is {ws : List (List Nat)} {r : Option (List Dt)} (ne : ws ≠ []) (hw : ∀ w ∈ ws, wOk w) (hl : ws.length ≤ 60) (hs : (joinL [32] ws).length ≤ 1000000) (h : m_row_of ws = .ok r) : m_row_in (joinL [32] ws) = .ok r := by
  unfold m_row_in
  rw [e_blank, gd (show gSp (joinL [32] ws) [32] from ⟨List.cons_ne_nil _ _, hs⟩), splitS_ok (by decide) ne fun w h => (hw w h).2.1, okb]
  refine b0 (by rw [decide_eq_false (by omega)]) ?_
  rw [h]
  rfl
theorem words_len {ws : List (List Nat)} {n m : Nat} (h1 : ∀ w ∈ ws, w.length ≤ n) (h2 : ws.length ≤ m) : (joinL [32] ws).length ≤ m * (n + 1) := by
  refine Nat.le_trans joinS_len ?_
  have h := sum_le h1
  have : ws.length * n ≤ m * n := Nat.mul_le_mul_right _ h2
  rw [Nat.mul_succ]
  omega
theorem wok_doers : ∀ w ∈ doers7, (∀ c ∈ w, c < 128) ∧ 32 ∉ w ∧ 10 ∉ w := by decide +kernel
theorem doers_len : ∀ w ∈ doers7, w.length ≤ 6 := by decide +kernel
theorem heads_wok : ∀ w ∈ heads9, (∀ c ∈ w, c < 128) ∧ 32 ∉ w ∧ 10 ∉ w := by decide +kernel
theorem heads_len : ∀ w ∈ heads9, w.length ≤ 4 := by decide +kernel
theorem good_words : ∀ t : Tr, goodL t → ∀ x ∈ t.pre, wOk x ∧ x.length ≤ 40
  | .leaf x d, h, y, hy => by
    rw [show (Tr.leaf x d).pre = [x] from rfl, List.mem_singleton] at hy
    subst hy
    rcases h with ⟨h, rfl⟩ | ⟨w, h, rfl, rfl⟩
    · exact ⟨wok_name h.2.2.2, by have := h.2.1; omega⟩
    · exact ⟨wok_num w, by have := num_len h; omega⟩
  | .node w a b, h, y, hy => by
    rw [show (Tr.node w a b).pre = w :: (a.pre ++ b.pre) from rfl] at hy
    rcases List.mem_cons.mp hy with rfl | hy
    · exact ⟨wok_doers y h.1, by have := doers_len y h.1; omega⟩
    · rcases List.mem_append.mp hy with hy | hy
      · exact good_words a h.2.1 y hy
      · exact good_words b h.2.2 y hy
def heads3 : List (List Nat) := [(lt "say"), (lt "off"), (lt "if")]
theorem heads3_in : ∀ h ∈ heads3, h ∈ heads9 ∧ h ∉ ([(lt "else"), (lt "end")] : List (List Nat)) := by decide +kernel
theorem row_one {h : List Nat} {t : Tr} (hh : h ∈ heads3) (g : goodL t) (hl : t.pre.length ≤ 59) : m_row_of (h :: t.pre) = .ok (some [eS h, eU eA t.post]) := by
  unfold m_row_of
  rw [gd (show inB (h :: t.pre) 0 from inB_of (by decide) (by rw [List.length_cons]; omega)), getI0, okb]
  refine b0 (by rw [decide_eq_false (heads3_in h hh).2, Bool.and_false]) ?_
  have e : m_term_from (h :: t.pre) (1 : Int) = .ok (t.post, (1 : Int) + t.pre.length) := term_from_ok (l := [h]) (r := []) (goodL_T t g) (by rw [List.append_nil]; rfl) (by omega)
  refine bd (a := .nx (t.post, (1 : Int) + t.pre.length, [eS h, eU eA t.post])) (b1 (by rw [show ([(lt "say"), (lt "off"), (lt "if")] : List (List Nat)) = heads3 from rfl, decide_eq_true hh]) (by rw [e]; rfl)) ?_
  show m_row_of_J2 (h :: t.pre) ((1 : Int) + t.pre.length) [eS h, eU eA t.post] = _
  unfold m_row_of_J2
  exact b0 (by rw [decide_eq_true (show ((1 : Int) + t.pre.length) = ((h :: t.pre).length : Int) from by rw [List.length_cons]; omega)]; rfl) rfl
theorem row_word {h : List Nat} (hh : h ∈ ([(lt "else"), (lt "end")] : List (List Nat))) : m_row_of [h] = .ok (some [eS h]) := by
  unfold m_row_of
  rw [gd (show inB [h] 0 from inB_of (by decide) (by simp)), getI0, okb]
  exact b1 (by rw [decide_eq_true hh]; rfl) rfl
inductive RowT where
  | one (h : List Nat) (t : Tr)
  | le (n : List Nat) (t : Tr)
  | gv (n : List Nat) (t u : Tr)
  | tk (n : List Nat) (t : Tr) (m : List Nat)
abbrev w_take : List Nat := lt "take"
abbrev w_give : List Nat := lt "give"
abbrev w_let : List Nat := lt "let"
abbrev w_as : List Nat := lt "as"
def RowT.words : RowT → List (List Nat)
  | .one h t => h :: t.pre
  | .le n t => w_let :: n :: t.pre
  | .gv n t u => w_give :: n :: (t.pre ++ u.pre)
  | .tk n t m => w_take :: n :: (t.pre ++ [w_as, m])
def RowT.row : RowT → List Dt
  | .one h t => [eS h, eU eA t.post]
  | .le n t => [eS w_let, eS n, eU eA t.post]
  | .gv n t u => [eS w_give, eS n, eU eA t.post, eU eA u.post]
  | .tk n t m => [eS w_take, eS n, eU eA t.post, eS m]
def RowT.good : RowT → Prop
  | .one h t => h ∈ heads3 ∧ goodL t
  | .le n t => nameOk n ∧ goodL t
  | .gv n t u => nameOk n ∧ goodL t ∧ goodL u
  | .tk n t m => nameOk n ∧ goodL t ∧ nameOk m
def RowT.ok (r : RowT) : Prop := r.good ∧ r.words.length ≤ 60
def RowT.rk : RowT → Rk
  | .one h t => if h = w_if then .ifR t.post else .oth h [eU eA t.post]
  | .le n t => .oth w_let [eS n, eU eA t.post]
  | .gv n t u => .oth w_give [eS n, eU eA t.post, eU eA u.post]
  | .tk n t m => .oth w_take [eS n, eU eA t.post, eS m]
theorem rk_row (r : RowT) : r.rk.row = r.row := by
  cases r with
  | one h t =>
    show (if h = w_if then Rk.ifR t.post else .oth h [eU eA t.post]).row = _
    split
    · rename_i e; subst e; rfl
    · rfl
  | _ => rfl
theorem heads3_ne : ∀ h ∈ heads3, h ≠ w_else ∧ h ≠ w_end := by decide +kernel
theorem hd3_no : ∀ h ∈ [w_take, w_give, w_let], h ∈ heads9 ∧ h ∉ ([(lt "else"), (lt "end")] : List (List Nat)) ∧ h ∉ heads3 ∧ h ≠ w_if ∧ h ≠ w_else ∧ h ≠ w_end := by decide +kernel
theorem hd3_take : w_take ∈ [w_take, w_give, w_let] := by decide +kernel
theorem hd3_give : w_give ∈ [w_take, w_give, w_let] := by decide +kernel
theorem hd3_let : w_let ∈ [w_take, w_give, w_let] := by decide +kernel
theorem ne_tgl : w_give ≠ w_take ∧ w_let ≠ w_take ∧ w_let ≠ w_give := by decide +kernel
theorem heads9_low {h : List Nat} (hh : h ∈ heads9) : low h := (heads_wok h hh).1
theorem rk_ok {r : RowT} (h : r.good) : r.rk.ok := by
  cases r with
  | one hd t =>
    show (if hd = w_if then Rk.ifR t.post else .oth hd [eU eA t.post]).ok
    split
    · exact trivial
    · rename_i e
      exact ⟨heads9_low (heads3_in hd h.1).1, e, heads3_ne hd h.1⟩
  | le n t => exact ⟨heads9_low (hd3_no _ hd3_let).1, (hd3_no _ hd3_let).2.2.2⟩
  | gv n t u => exact ⟨heads9_low (hd3_no _ hd3_give).1, (hd3_no _ hd3_give).2.2.2⟩
  | tk n t m => exact ⟨heads9_low (hd3_no _ hd3_take).1, (hd3_no _ hd3_take).2.2.2⟩
theorem name_ok' {n : List Nat} (h : nameOk n) : m_is_name n = .ok true := by rw [is_name_ok n (gS_of (by have := h.2.1; omega)), name_B h]
theorem row_named {h n : List Nat} {ws : List (List Nat)} (hh : h ∈ [w_take, w_give, w_let]) (hn : nameOk n) :
    m_row_of (h :: n :: ws) = (if decide (h = w_take) = true then (m_take_of (h :: n :: ws)).bind fun r => (R.ok (Ctl.rt r) : R (Ctl ((List Dt) × Int × (List Dt)) (Option (List Dt)))) else
      (m_term_from (h :: n :: ws) (2 : Int)).bind (R.sp2 fun v_term v_behind =>
      (R.guard (inB (h :: n :: ws) (1 : Int)) (R.ok ([(eS h), (eS n), ((eU eA) v_term)] : (List Dt)))).bind fun v_row =>
      (((R.ok (decide (h = w_give))).bind fun b => if b = true then (
      (m_term_from (h :: n :: ws) v_behind).bind (R.sp2 fun v_worth v_behind =>
      (R.guard (inB (h :: n :: ws) (1 : Int)) (R.ok ([(eS h), (eS n), ((eU eA) v_term), ((eU eA) v_worth)] : (List Dt)))).bind fun v_row =>
      R.ok (v_behind, v_row))) else (
      R.ok (v_behind, v_row))) : R (Int × (List Dt))).bind fun s176 => m_row_of_J1 v_term s176.1 s176.2)).bind fun c => c.fin fun s168 => m_row_of_J2 (h :: n :: ws) s168.2.1 s168.2.2 := by
  unfold m_row_of
  have hi0 : inB (h :: n :: ws) 0 := inB_of (by decide) (by rw [List.length_cons]; omega)
  have hi1 : inB (h :: n :: ws) 1 := inB_of (by decide) (by rw [List.length_cons, List.length_cons]; omega)
  have g1 : getI (h :: n :: ws) 1 = n := by unfold getI ixI; simp
  have no := hd3_no h hh
  rw [gd hi0, getI0, okb]
  refine b0 (by rw [decide_eq_false no.2.1, Bool.and_false]) ?_
  refine congrArg (fun m : R (Ctl ((List Dt) × Int × (List Dt)) (Option (List Dt))) => m.bind fun c => c.fin fun s168 => m_row_of_J2 (h :: n :: ws) s168.2.1 s168.2.2) ?_
  refine b0 (by rw [show ([(lt "say"), (lt "off"), (lt "if")] : List (List Nat)) = heads3 from rfl, decide_eq_false no.2.2.1]) ?_
  rw [gd hi1, g1, name_ok' hn]
  refine b0 (orF (by rw [decide_eq_false (by rw [List.length_cons, List.length_cons]; omega)]) (orF rfl (by rw [show ([(lt "take"), (lt "give"), (lt "let")] : List (List Nat)) = [w_take, w_give, w_let] from rfl, decide_eq_true hh]; rfl))) ?_
  rw [okb]
theorem row_of_ok {r : RowT} (h : r.ok) : m_row_of r.words = .ok (some r.row) := by
  obtain ⟨g, hl⟩ := h
  cases r with
  | one hd t =>
    have hl : t.pre.length + 1 ≤ 60 := hl
    exact row_one g.1 g.2 (by omega)
  | le n t =>
    have hl : t.pre.length + 2 ≤ 60 := hl
    have hw : (RowT.le n t).words = w_let :: n :: t.pre := rfl
    rw [hw, row_named hd3_let g.1, if_neg (by rw [decide_eq_false ne_tgl.2.1]; decide)]
    have e : m_term_from (w_let :: n :: t.pre) (2 : Int) = .ok (t.post, (2 : Int) + t.pre.length) := term_from_ok (l := [w_let, n]) (r := []) (goodL_T t g.2) (by rw [List.append_nil]; rfl) (by omega)
    rw [e, okb]
    dsimp only [R.sp2]
    rw [gd (show inB (w_let :: n :: t.pre) 1 from inB_of (by decide) (by rw [List.length_cons, List.length_cons]; omega)), okb, decide_eq_false ne_tgl.2.2, okb, if_neg (by decide), okb]
    show m_row_of_J2 _ ((2 : Int) + t.pre.length) _ = _
    unfold m_row_of_J2
    exact b0 (by rw [decide_eq_true (show ((2 : Int) + t.pre.length) = ((w_let :: n :: t.pre).length : Int) from by rw [List.length_cons, List.length_cons]; omega)]; rfl) rfl
  | gv n t u =>
    have hl : (t.pre ++ u.pre).length + 2 ≤ 60 := hl
    rw [List.length_append] at hl
    have hw : (RowT.gv n t u).words = w_give :: n :: (t.pre ++ u.pre) := rfl
    rw [hw, row_named hd3_give g.1, if_neg (by rw [decide_eq_false ne_tgl.1]; decide)]
    have e : m_term_from (w_give :: n :: (t.pre ++ u.pre)) (2 : Int) = .ok (t.post, (2 : Int) + t.pre.length) := term_from_ok (l := [w_give, n]) (r := u.pre) (goodL_T t g.2.1) rfl (by omega)
    have e2 : m_term_from (w_give :: n :: (t.pre ++ u.pre)) ((2 : Int) + t.pre.length) = .ok (u.post, (2 : Int) + t.pre.length + u.pre.length) := by
      have z := term_from_ok (words := w_give :: n :: (t.pre ++ u.pre)) (l := w_give :: n :: t.pre) (r := []) (goodL_T u g.2.2) (by rw [List.append_nil]; rfl) (by omega)
      have el : ((w_give :: n :: t.pre).length : Int) = (2 : Int) + t.pre.length := by rw [List.length_cons, List.length_cons]; omega
      rw [el] at z
      exact z
    rw [e, okb]
    dsimp only [R.sp2]
    have hi1 : inB (w_give :: n :: (t.pre ++ u.pre)) 1 := inB_of (by decide) (by rw [List.length_cons, List.length_cons]; omega)
    rw [gd hi1, okb, decide_eq_true rfl, okb, if_pos rfl, e2, okb]
    dsimp only [R.sp2]
    rw [gd hi1, okb, okb]
    show m_row_of_J2 _ ((2 : Int) + t.pre.length + u.pre.length) _ = _
    unfold m_row_of_J2
    exact b0 (by rw [decide_eq_true (show ((2 : Int) + t.pre.length + u.pre.length) = ((w_give :: n :: (t.pre ++ u.pre)).length : Int) from by rw [List.length_cons, List.length_cons, List.length_append]; omega)]; rfl) rfl
  | tk n t m =>
    have hl : (t.pre ++ [w_as, m]).length + 2 ≤ 60 := hl
    rw [List.length_append] at hl
    have hl : t.pre.length + 2 + 2 ≤ 60 := hl
    have hw : (RowT.tk n t m).words = w_take :: n :: (t.pre ++ [w_as, m]) := rfl
    rw [hw, row_named hd3_take g.1, if_pos (by rw [decide_eq_true rfl])]
    have e : m_term_from (w_take :: n :: (t.pre ++ [w_as, m])) (2 : Int) = .ok (t.post, (2 : Int) + t.pre.length) := term_from_ok (l := [w_take, n]) (r := [w_as, m]) (goodL_T t g.2.1) rfl (by omega)
    have ea : inB (w_take :: n :: (t.pre ++ [w_as, m])) ((2 : Int) + t.pre.length) ∧ getI (w_take :: n :: (t.pre ++ [w_as, m])) ((2 : Int) + t.pre.length) = w_as := by
      have z := getI_mid (l := w_take :: n :: t.pre) (x := w_as) (r := [m])
      have el : ((w_take :: n :: t.pre).length : Int) = (2 : Int) + t.pre.length := by rw [List.length_cons, List.length_cons]; omega
      rw [el] at z
      exact ⟨z.2, z.1⟩
    have eb : inB (w_take :: n :: (t.pre ++ [w_as, m])) ((2 : Int) + t.pre.length + 1) ∧ getI (w_take :: n :: (t.pre ++ [w_as, m])) ((2 : Int) + t.pre.length + 1) = m := by
      have z := getI_mid (l := w_take :: n :: (t.pre ++ [w_as])) (x := m) (r := [])
      have el : ((w_take :: n :: (t.pre ++ [w_as])).length : Int) = (2 : Int) + t.pre.length + 1 := by rw [List.length_cons, List.length_cons, List.length_append, List.length_singleton]; omega
      rw [el] at z
      have ew : w_take :: n :: (t.pre ++ [w_as]) ++ m :: [] = w_take :: n :: (t.pre ++ [w_as, m]) := by simp
      rw [ew] at z
      exact ⟨z.2, z.1⟩
    have hi1 : inB (w_take :: n :: (t.pre ++ [w_as, m])) 1 := inB_of (by decide) (by rw [List.length_cons, List.length_cons]; omega)
    have g1 : getI (w_take :: n :: (t.pre ++ [w_as, m])) 1 = n := by unfold getI ixI; simp
    have et : m_take_of (w_take :: n :: (t.pre ++ [w_as, m])) = .ok (some [eS w_take, eS n, eU eA t.post, eS m]) := by
      unfold m_take_of
      rw [e, okb]
      dsimp only [R.sp2]
      rw [gd ea.1, ea.2, gd eb.1, eb.2, name_ok' g.2.2]
      refine b0 (orF ?_ (orF (by rw [decide_eq_true rfl]; rfl) rfl)) ?_
      · rw [decide_eq_true (show ((w_take :: n :: (t.pre ++ [w_as, m])).length : Int) = (2 : Int) + t.pre.length + 2 from by rw [List.length_cons, List.length_cons, List.length_append]; simp only [List.length_cons, List.length_nil]; omega)]; rfl
      · rw [gd hi1, gd eb.1, g1]
    rw [et]
    rfl
theorem words_good {r : RowT} (h : r.good) : ∀ w ∈ r.words, wOk w ∧ w.length ≤ 40 := by
  have hd9 : ∀ k ∈ heads9, wOk k ∧ k.length ≤ 40 := fun k hk => ⟨heads_wok k hk, by have := heads_len k hk; omega⟩
  have hnm : ∀ {n : List Nat}, nameOk n → wOk n ∧ n.length ≤ 40 := fun hn => ⟨wok_name hn.2.2.2, by have := hn.2.1; omega⟩
  have has : w_as ∈ heads9 := by decide +kernel
  intro w hw
  cases r with
  | one hd t =>
    rcases List.mem_cons.mp hw with rfl | hw
    · exact hd9 _ (heads3_in _ h.1).1
    · exact good_words t h.2 w hw
  | le n t =>
    rcases List.mem_cons.mp hw with rfl | hw
    · exact hd9 _ (hd3_no _ hd3_let).1
    · rcases List.mem_cons.mp hw with rfl | hw
      · exact hnm h.1
      · exact good_words t h.2 w hw
  | gv n t u =>
    rcases List.mem_cons.mp hw with rfl | hw
    · exact hd9 _ (hd3_no _ hd3_give).1
    · rcases List.mem_cons.mp hw with rfl | hw
      · exact hnm h.1
      · rcases List.mem_append.mp hw with hw | hw
        · exact good_words t h.2.1 w hw
        · exact good_words u h.2.2 w hw
  | tk n t m =>
    rcases List.mem_cons.mp hw with rfl | hw
    · exact hd9 _ (hd3_no _ hd3_take).1
    · rcases List.mem_cons.mp hw with rfl | hw
      · exact hnm h.1
      · rcases List.mem_append.mp hw with hw | hw
        · exact good_words t h.2.1 w hw
        · simp only [List.mem_cons, List.not_mem_nil, or_false] at hw
          rcases hw with rfl | rfl
          · exact hd9 _ has
          · exact hnm h.2.2
def RowT.line (r : RowT) : List Nat := joinL [32] r.words
theorem words_ne (r : RowT) : r.words ≠ [] := by cases r <;> exact List.cons_ne_nil _ _
theorem line_len {r : RowT} (h : r.ok) : r.line.length ≤ 2460 := words_len (n := 40) (m := 60) (fun w hw => (words_good h.1 w hw).2) h.2
theorem rowt_is {r : RowT} (h : r.ok) : RowIs r.line (some r.rk) := by
  refine ⟨?_, rk_ok h.1⟩
  rw [Option.map_some, rk_row]
  exact row_in_is (words_ne r) (fun w hw => (words_good h.1 w hw).1) h.2 (Nat.le_trans (line_len h) (by decide)) (row_of_ok h)
theorem word_is {h : List Nat} (hh : h = w_else ∨ h = w_end) : RowIs h (some (if h = w_else then .elseR else .endR)) := by
  have hm : h ∈ ([w_else, w_end] : List (List Nat)) := by rcases hh with rfl | rfl <;> simp
  have hk9 : h ∈ heads9 := (by decide +kernel : ∀ k ∈ ([w_else, w_end] : List (List Nat)), k ∈ heads9) h hm
  have e : m_row_in h = .ok (some [eS h]) := row_in_is (ws := [h]) (List.cons_ne_nil _ _) (fun w hw => by rw [List.mem_singleton] at hw; subst hw; exact heads_wok _ hk9) (show 1 ≤ 60 by decide) (show h.length ≤ _ by have := heads_len h hk9; omega) (row_word hm)
  rcases hh with rfl | rfl
  · rw [if_pos rfl]; exact ⟨e, trivial⟩
  · rw [if_neg ne_w.2.2]; exact ⟨e, trivial⟩
theorem line_feed {r : RowT} (h : r.good) : 10 ∉ r.line := (line_ok fun w hw => (words_good h w hw).1).2
theorem line_ne {r : RowT} (h : r.good) : r.line ≠ [] := by
  have h0 : ∃ w ws, r.words = w :: ws ∧ w ≠ [] := by
    cases r with
    | one hd t => exact ⟨_, _, rfl, (by decide +kernel : ∀ k ∈ heads3, k ≠ []) _ h.1⟩
    | le n t => exact ⟨_, _, rfl, by decide +kernel⟩
    | gv n t u => exact ⟨_, _, rfl, by decide +kernel⟩
    | tk n t m => exact ⟨_, _, rfl, by decide +kernel⟩
  obtain ⟨w, ws, e, hw⟩ := h0
  unfold RowT.line
  rw [e]
  cases ws with
  | nil => exact hw
  | cons v ws =>
    show w ++ _ ≠ []
    exact fun z => hw (List.append_eq_nil_iff.mp z).1
theorem u_il : (kitB "int" "list").getD false = false ∧ (kitB "int" "tuple").getD false = false ∧ (kitB "int" "bool").getD false = false ∧ (kitB "int" "str").getD false = false ∧ (kitB "int" "int").getD false = true := by decide +kernel
theorem u_sl : (kitB "str" "list").getD false = false ∧ (kitB "str" "tuple").getD false = false ∧ (kitB "str" "bool").getD false = false ∧ (kitB "str" "str").getD false = true := by decide +kernel
def Al (n : Nat) (d : Dt) : Prop := (rc_0 n).r_law_alike d d = .ok true
theorem forR_unit {α : Type} {f : α → Unit → R (Ctl Unit Bool)} : ∀ {xs : List α}, (∀ x ∈ xs, f x () = .ok (.nx ())) → forR f xs () = .ok (.nx ())
  | [], _ => rfl
  | x :: xs, h => by
    show (f x ()).bind _ = _
    rw [h x List.mem_cons_self]
    exact forR_unit fun y hy => h y (List.mem_cons_of_mem _ hy)
theorem zip_same {α : Type} : ∀ l : List α, l.zip l = l.map fun x => (x, x)
  | [] => rfl
  | a :: l => by rw [List.zip_cons_cons, zip_same l]; rfl
theorem al_seq {n : Nat} {d : Dt} {ds : List Dt} (ht : gOt d) (h1 : Dt.isTs ["list", "tuple"] d = true) (hq : Dt.isQ d = true) (ha : Dt.asQ d = ds) (hz : gZq d d) (h : ∀ x ∈ ds, Al n x) : Al (n + 1) d := by
  show @m_law_alike_b (rc_0 n) d d = _
  unfold m_law_alike_b
  have ho : gOb d := ht.1
  refine b1 (by rw [gd ht, h1]) (b0 (orF (by rw [gd ho, gd ho, decide_eq_true rfl]; rfl) (by rw [gd ht, h1]; rfl)) (b0 (by rw [gd hq, gd hq, decide_eq_true rfl]; rfl) ?_))
  refine bd (a := .nx ()) ?_ rfl
  rw [okb, okb, gd (show gZq (d, d).1 (d, d).2 from hz), okb]
  have ez : zipQ (d, d) = ds.map fun x => (x, x) := by
    show (Dt.asQ d).zip (Dt.asQ d) = _
    rw [ha, zip_same]
  rw [ez]
  refine forR_unit fun x hx => ?_
  obtain ⟨y, hy, rfl⟩ := List.mem_map.mp hx
  show @m_law_alike_L1 (rc_0 n) y y = _
  unfold m_law_alike_L1
  have hy : (rc_0 n).r_law_alike y y = .ok true := h y hy
  rw [hy]
  rfl
theorem al_tup {n : Nat} {ds : List Dt} (h : ∀ x ∈ ds, Al n x) : Al (n + 1) (.tup ds) :=
  al_seq (d := .tup ds) (by unfold gOt; exact ⟨(by decide : "tuple" ≠ "?"), (by decide : "tuple" ≠ "dict")⟩) (by show (["list", "tuple"].any fun m => (kitB "tuple" m).getD false) = true; decide +kernel) rfl rfl (.inr ⟨rfl, rfl⟩) h
theorem al_lst {n : Nat} {ds : List Dt} (h : ∀ x ∈ ds, Al n x) : Al (n + 1) (.lst ds) :=
  al_seq (d := .lst ds) (by unfold gOt; exact ⟨(by decide : "list" ≠ "?"), (by decide : "list" ≠ "dict")⟩) (by show (["list", "tuple"].any fun m => (kitB "list" m).getD false) = true; decide +kernel) rfl rfl (.inl ⟨rfl, rfl⟩) h
theorem al_leaf {n : Nat} {d : Dt} (ht : gOt d) (h1 : Dt.isTs ["list", "tuple"] d = false) (hb : Dt.isT "bool" d = false) (h2 : Dt.isTs ["int", "str"] d = true) (hq : gQ d) : Al (n + 1) d := by
  show @m_law_alike_b (rc_0 n) d d = _
  unfold m_law_alike_b
  have ho : gOb d := ht.1
  refine b0 (by rw [gd ht, h1]) (b0 (orF (by rw [gd ho, hb]) (by rw [gd ho, gd ho, decide_eq_true rfl]; rfl)) ?_)
  rw [gd ht, h2, gd (show gQ2 (eA d) (eA d) from ⟨hq, hq⟩), show eqD (eA d) (eA d) = true from eqD_same hq.1]
  rfl
theorem al_int {n : Nat} (i : Int) : Al (n + 1) (eI i) := al_leaf (d := eI i) (by unfold gOt; exact ⟨(by decide : "int" ≠ "?"), (by decide : "int" ≠ "dict")⟩) (by show (["list", "tuple"].any fun m => (kitB "int" m).getD false) = false; decide +kernel) u_il.2.2.1 (by show (["int", "str"].any fun m => (kitB "int" m).getD false) = true; decide +kernel) (gQ_int i)
theorem al_str {n : Nat} {l : List Nat} (h : low l) : Al (n + 1) (eS l) := al_leaf (d := eS l) (by unfold gOt; exact ⟨(by decide : "str" ≠ "?"), (by decide : "str" ≠ "dict")⟩) (by show (["list", "tuple"].any fun m => (kitB "str" m).getD false) = false; decide +kernel) u_sl.2.2.1 (by show (["int", "str"].any fun m => (kitB "str" m).getD false) = true; decide +kernel) (gQn_gQ (n := 0) (gQn_str (strOk_ascii h)) (by decide))
theorem al_term {n : Nat} : ∀ {t : Tr}, goodL t → ∀ d ∈ t.post, Al (n + 1) d
  | .leaf x d, h, e, he => by
    rw [show (Tr.leaf x d).post = [d] from rfl, List.mem_singleton] at he
    subst he
    rcases h with ⟨h, rfl⟩ | ⟨w, h, rfl, rfl⟩
    · exact al_str (lets_low h.2.2.2)
    · exact al_int w
  | .node w a b, h, e, he => by
    rw [show (Tr.node w a b).post = (a.post ++ b.post) ++ [eS w] from rfl] at he
    rcases List.mem_append.mp he with he | he
    · rcases List.mem_append.mp he with he | he
      · exact al_term h.2.1 e he
      · exact al_term h.2.2 e he
    · rw [List.mem_singleton] at he
      subst he
      exact al_str fun c hc => doer_low' w h.1 c hc
theorem al_U {n : Nat} {t : Tr} (h : goodL t) : Al (n + 2) (eU eA t.post) := al_tup fun d hd => by rw [map_eA] at hd; exact al_term h d hd
theorem al_row {n : Nat} {r : RowT} (h : r.good) : Al (n + 3) (eU eA r.row) := al_tup fun d hd => by
  rw [map_eA] at hd
  have hw : ∀ k ∈ heads9, low k := fun k hk => heads9_low hk
  cases r with
  | one hd t =>
    simp only [RowT.row, List.mem_cons, List.not_mem_nil, or_false] at hd
    rcases hd with rfl | rfl
    · exact al_str (hw _ (heads3_in _ h.1).1)
    · exact al_U h.2
  | le n t =>
    simp only [RowT.row, List.mem_cons, List.not_mem_nil, or_false] at hd
    rcases hd with rfl | rfl | rfl
    · exact al_str (hw _ (hd3_no _ hd3_let).1)
    · exact al_str (lets_low h.1.2.2.2)
    · exact al_U h.2
  | gv n t u =>
    simp only [RowT.row, List.mem_cons, List.not_mem_nil, or_false] at hd
    rcases hd with rfl | rfl | rfl | rfl
    · exact al_str (hw _ (hd3_no _ hd3_give).1)
    · exact al_str (lets_low h.1.2.2.2)
    · exact al_U h.2.1
    · exact al_U h.2.2
  | tk n t m =>
    simp only [RowT.row, List.mem_cons, List.not_mem_nil, or_false] at hd
    rcases hd with rfl | rfl | rfl | rfl
    · exact al_str (hw _ (hd3_no _ hd3_take).1)
    · exact al_str (lets_low h.1.2.2.2)
    · exact al_U h.2.1
    · exact al_str (lets_low h.2.2.2.2.2)
theorem isX_S (x : List Nat) : Dt.isX (eS x) = true := rfl
theorem asX_S (x : List Nat) : Dt.asX (eS x) = x := rfl
abbrev wof (t : List Dt) (parts : List (List (List Nat))) : R (List (List (List Nat))) := foldR (fun d s => m_words_of_L1 s d) t parts
theorem log_w' {w : Int} (h : worthOk w) : w.natAbs.log2 < 1920 := by
  unfold worthOk B30 at h
  have h2 : w.natAbs < 2 ^ 1920 := Nat.lt_of_le_of_lt (show w.natAbs ≤ 10 ^ 30 by omega) (by decide +kernel)
  by_cases z : w.natAbs = 0
  · rw [z]; decide
  · exact (Nat.log2_lt z).mpr h2
theorem s_int : (kitB "str" "int").getD false = false ∧ (kitB "int" "int").getD false = true := by decide +kernel
theorem go_str (x : List Nat) : gOb (eS x) := by unfold gOb; exact (by decide : "str" ≠ "?")
theorem go_int (x : Int) : gOb (eI x) := by unfold gOb; exact (by decide : "int" ≠ "?")
theorem wof_ok : ∀ (t : Tr) (parts : List (List (List Nat))), goodL t → parts.length + t.pre.length ≤ 1000 → wof t.post parts = .ok (parts ++ [t.pre])
  | .leaf x d, parts, h, hl => by
    have hl : parts.length + 1 ≤ 1000 := hl
    have gp : gL parts := by show parts.length < 16777216; omega
    show (m_words_of_L1 parts d).bind _ = _
    have e : m_words_of_L1 parts d = .ok (parts ++ [[x]]) := by
      unfold m_words_of_L1
      rcases h with ⟨h, rfl⟩ | ⟨w, h, rfl, rfl⟩
      · refine b0 (by rw [gd (show flatD (eS x) = true from rfl)]; show R.ok (decide (x ∈ k_DOERS)) = _; rw [decide_eq_false fun z => h.2.2.1 (by rw [resv_split]; exact List.mem_append_right _ z)]) ?_
        refine bd (a := parts ++ [[x]]) ?_ rfl
        refine b0 (by rw [gd (go_str x)]; show R.ok ((kitB "str" "int").getD false) = _; rw [s_int.1]) ?_
        rw [gd (isX_S x), okb, gd gp, okb]
        rfl
      · refine b0 (by rw [gd (show flatD (eI w) = true from rfl)]; rfl) ?_
        refine bd (a := parts ++ [[numI w]]) ?_ rfl
        refine b1 (by rw [gd (go_int w)]; show R.ok ((kitB "int" "int").getD false) = _; rw [s_int.2]) ?_
        have en : m_numeral (eI w) = .ok (numI w) := by
          unfold m_numeral
          rw [gd (show Dt.isI (eI w) = true from rfl), gd (show (Dt.asI (eI w)).natAbs.log2 < 1920 from log_w' h)]
          exact congrArg R.ok (str_num w)
        rw [en, okb, okb, okb, okb, gd gp, okb]
    rw [e]
    rfl
  | .node w a b, parts, h, hl => by
    have hp : (Tr.node w a b).pre.length = a.pre.length + b.pre.length + 1 := by
      show (w :: (a.pre ++ b.pre)).length = _
      rw [List.length_cons, List.length_append]
    rw [hp] at hl
    have la := a.len
    have lb := b.len
    have ea := wof_ok a parts h.2.1 (by omega)
    have eb := wof_ok b (parts ++ [a.pre]) h.2.2 (by rw [List.length_append, List.length_singleton]; omega)
    have ep : (Tr.node w a b).post = (a.post ++ b.post) ++ [eS w] := rfl
    unfold wof at ea eb ⊢
    rw [ep, foldR_app, foldR_app, ea]
    show ((foldR _ b.post (parts ++ [a.pre])).bind _) = _
    rw [eb]
    show (m_words_of_L1 ((parts ++ [a.pre]) ++ [b.pre]) (eS w)).bind _ = _
    have e : m_words_of_L1 ((parts ++ [a.pre]) ++ [b.pre]) (eS w) = .ok (parts ++ [(Tr.node w a b).pre]) := by
      unfold m_words_of_L1
      refine b1 (by rw [gd (show flatD (eS w) = true from rfl)]; show R.ok (decide (w ∈ k_DOERS)) = _; rw [decide_eq_true (show w ∈ k_DOERS from h.1)]) ?_
      rw [popR_app, okb]
      dsimp only [R.sp2]
      rw [popR_app, okb]
      dsimp only [R.sp2]
      rw [gd (isX_S w), gd (by rw [List.length_append, List.length_singleton]; omega), gd (by rw [List.length_append, List.length_append, List.length_singleton]; omega), okb, gd (show gL parts from by show parts.length < _; omega), okb]
      rfl
    rw [e]
    rfl
theorem words_of_ok {t : Tr} (h : goodL t) (hl : t.pre.length ≤ 60) : m_words_of (eU eA t.post) = .ok t.pre := by
  have e := wof_ok t [] h (by simp; omega)
  unfold m_words_of
  rw [okb, okb, gd (iq' t.post), okb, show Dt.asQ (eU eA t.post) = t.post from map_eA _]
  refine bd (a := [t.pre]) e ?_
  unfold m_words_of_J2
  exact gdk (inB_of (by decide) (by simp)) rfl
  where iq' (xs : List Dt) : Dt.isQ (eU eA xs) = true := rfl
theorem join_app {s : Nat} : ∀ {a b : List (List Nat)}, a ≠ [] → b ≠ [] → joinL [s] (a ++ b) = joinL [s] a ++ ([s] ++ joinL [s] b)
  | [], _, h, _ => absurd rfl h
  | [x], y :: b, _, _ => rfl
  | x :: z :: a, b, _, hb => by
    show x ++ ([s] ++ joinL [s] (z :: a ++ b)) = (x ++ ([s] ++ joinL [s] (z :: a))) ++ _
    rw [join_app (a := z :: a) (by simp) hb]
    simp only [List.append_assoc]
theorem pre_ne (t : Tr) : t.pre ≠ [] := fun z => by have := t.len.2.2; rw [z] at this; simp at this
theorem written_ok {ws : List (List Nat)} {t : Tr} (h : goodL t) (hl : ws.length + t.pre.length ≤ 60) (hw : ∀ w ∈ ws, w.length ≤ 40) : m_written ws (eU eA t.post) = .ok (joinL [32] (ws ++ t.pre)) := by
  unfold m_written
  have hs := sum_le (ys := ws ++ t.pre) (n := 40) fun w hw' => by
    rcases List.mem_append.mp hw' with z | z
    · exact hw w z
    · exact (good_words t h w z).2
  rw [List.length_append] at hs
  rw [okb, words_of_ok h (by omega), okb, gd (by rw [List.length_append]; omega), okb, e_blank, gd (show gJ [32] (ws ++ t.pre) from by unfold gJ; show ((ws ++ t.pre).map List.length).sum + _ ≤ _; rw [List.length_append, List.length_singleton]; omega), joinX_eq]
theorem w9_len {h : List Nat} (hh : h ∈ heads9) : h.length ≤ 40 := by have := heads_len h hh; omega
theorem gt4 (a b c d : Dt) : inB [a, b, c, d] 0 ∧ inB [a, b, c, d] 1 ∧ inB [a, b, c, d] 2 ∧ inB [a, b, c, d] 3 := ⟨inB_of (by decide) (show (0:Int) < 4 by decide), inB_of (by decide) (show (1:Int) < 4 by decide), inB_of (by decide) (show (2:Int) < 4 by decide), inB_of (by decide) (show (3:Int) < 4 by decide)⟩
theorem gt3 (a b c : Dt) : inB [a, b, c] 0 ∧ inB [a, b, c] 1 ∧ inB [a, b, c] 2 := ⟨inB_of (by decide) (show (0:Int) < 3 by decide), inB_of (by decide) (show (1:Int) < 3 by decide), inB_of (by decide) (show (2:Int) < 3 by decide)⟩
theorem ne_word : ∀ h ∈ heads3, h ≠ w_take ∧ h ≠ w_give ∧ h ≠ w_let := by decide +kernel
theorem e_as : lt " as " = [32] ++ (w_as ++ [32]) := by decide +kernel
theorem e_emp : lt "" = [] := by decide +kernel
theorem low9 {k : List Nat} (h : k ∈ heads9) : low k := heads9_low h
theorem in9_tgl : w_take ∈ heads9 ∧ w_give ∈ heads9 ∧ w_let ∈ heads9 ∧ w_as ∈ heads9 := by decide +kernel
theorem iuU (xs : List Dt) : Dt.isU (eU eA xs) = true := rfl
theorem auU (xs : List Dt) : Dt.asU (eU eA xs) = xs := map_eA xs
theorem line_one {h : List Nat} {t : Tr} {ds : List Dt} (hh : h ∈ heads3) (g : goodL t) (hl : t.pre.length ≤ 59) : m_line_of (eU eA (eS h :: eU eA t.post :: ds)) = .ok (RowT.one h t).line := by
  have ne := ne_word h hh
  have lh := low9 (heads3_in h hh).1
  have i0 : inB (eS h :: eU eA t.post :: ds) 0 := inB_of (by decide) (by rw [List.length_cons]; omega)
  have i1 : inB (eS h :: eU eA t.post :: ds) 1 := inB_of (by decide) (by rw [List.length_cons, List.length_cons]; omega)
  have g1 : getI (eS h :: eU eA t.post :: ds) 1 = eU eA t.post := by unfold getI ixI; simp
  unfold m_line_of
  refine b0 ((hd_eq lh (low9 in9_tgl.1)).trans (by rw [decide_eq_false ne.1])) (b0 ((hd_eq lh (low9 in9_tgl.2.1)).trans (by rw [decide_eq_false ne.2.1])) (b0 ((hd_eq lh (low9 in9_tgl.2.2.1)).trans (by rw [decide_eq_false ne.2.2])) ?_))
  rw [gd (iuU _), auU, gd i0, getI0, gd (isX_S h), gd (iuU _), gd i1, g1, asX_S, written_ok g (by rw [List.length_singleton]; omega) fun w hw => by rw [List.mem_singleton] at hw; subst hw; exact w9_len (heads3_in w hh).1]
  rfl
theorem line_of_ok {r : RowT} (h : r.ok) : m_line_of (eU eA r.row) = .ok r.line := by
  obtain ⟨g, hl⟩ := h
  cases r with
  | one hd t =>
    have hl : t.pre.length + 1 ≤ 60 := hl
    exact line_one g.1 g.2 (by omega)
  | le n t =>
    have hl : t.pre.length + 2 ≤ 60 := hl
    have er : (RowT.le n t).row = [eS w_let, eS n, eU eA t.post] := rfl
    rw [er]
    unfold m_line_of
    have gg := gt3 (eS w_let) (eS n) (eU eA t.post)
    refine b0 ((hd_eq (low9 in9_tgl.2.2.1) (low9 in9_tgl.1)).trans (by rw [decide_eq_false ne_tgl.2.1])) (b0 ((hd_eq (low9 in9_tgl.2.2.1) (low9 in9_tgl.2.1)).trans (by rw [decide_eq_false ne_tgl.2.2])) (b1 ((hd_eq (low9 in9_tgl.2.2.1) (low9 in9_tgl.2.2.1)).trans (by rw [decide_eq_true rfl])) ?_))
    rw [gd (iuU _), auU, gd gg.2.1, show getI [eS w_let, eS n, eU eA t.post] 1 = eS n from rfl, gd (isX_S n), gd (iuU _), gd gg.2.2, show getI [eS w_let, eS n, eU eA t.post] 2 = eU eA t.post from rfl, asX_S, written_ok g.2 (by show 2 + _ ≤ 60; omega) fun w hw => by
      simp only [List.mem_cons, List.not_mem_nil, or_false] at hw
      rcases hw with rfl | rfl
      · exact w9_len in9_tgl.2.2.1
      · have := g.1.2.1; omega]
    rfl
  | gv n t u =>
    have hl : (t.pre ++ u.pre).length + 2 ≤ 60 := hl
    rw [List.length_append] at hl
    have er : (RowT.gv n t u).row = [eS w_give, eS n, eU eA t.post, eU eA u.post] := rfl
    have hln := line_len (r := RowT.gv n t u) ⟨g, by show (t.pre ++ u.pre).length + 2 ≤ 60; rw [List.length_append]; omega⟩
    have el : joinL [32] ([w_give, n] ++ t.pre) ++ joinL [32] ([lt ""] ++ u.pre) = (RowT.gv n t u).line := by
      have e2 : joinL [32] ([lt ""] ++ u.pre) = [32] ++ joinL [32] u.pre := by
        rw [join_app (by simp) (pre_ne u), e_emp]
        rfl
      rw [e2, ← join_app (by simp) (pre_ne u), List.append_assoc]
      rfl
    rw [er]
    unfold m_line_of
    have gg := gt4 (eS w_give) (eS n) (eU eA t.post) (eU eA u.post)
    refine b0 ((hd_eq (low9 in9_tgl.2.1) (low9 in9_tgl.1)).trans (by rw [decide_eq_false ne_tgl.1])) (b1 ((hd_eq (low9 in9_tgl.2.1) (low9 in9_tgl.2.1)).trans (by rw [decide_eq_true rfl])) ?_)
    rw [gd (iuU _), auU, gd gg.2.1, show getI [eS w_give, eS n, eU eA t.post, eU eA u.post] 1 = eS n from rfl, gd (isX_S n), gd (iuU _), gd gg.2.2.1, show getI [eS w_give, eS n, eU eA t.post, eU eA u.post] 2 = eU eA t.post from rfl, asX_S, written_ok g.2.1 (by show 2 + _ ≤ 60; omega) fun w hw => by
      simp only [List.mem_cons, List.not_mem_nil, or_false] at hw
      rcases hw with rfl | rfl
      · exact w9_len in9_tgl.2.1
      · have := g.1.2.1; omega]
    rw [okb, gd (iuU _), gd gg.2.2.2, show getI [eS w_give, eS n, eU eA t.post, eU eA u.post] 3 = eU eA u.post from rfl, written_ok (ws := [lt ""]) g.2.2 (by show 1 + _ ≤ 60; omega) fun w hw => by
      rw [List.mem_singleton, e_emp] at hw
      subst hw
      exact Nat.zero_le _]
    rw [okb, el, gd (gS_of (by omega))]
  | tk n t m =>
    have hl : (t.pre ++ [w_as, m]).length + 2 ≤ 60 := hl
    rw [List.length_append] at hl
    have hl : t.pre.length + 2 + 2 ≤ 60 := hl
    have er : (RowT.tk n t m).row = [eS w_take, eS n, eU eA t.post, eS m] := rfl
    have hln := line_len (r := RowT.tk n t m) ⟨g, by show (t.pre ++ [w_as, m]).length + 2 ≤ 60; rw [List.length_append]; show t.pre.length + 2 + 2 ≤ 60; omega⟩
    have el : joinL [32] ([w_take, n] ++ t.pre) ++ lt " as " ++ m = (RowT.tk n t m).line := by
      have e2 : (RowT.tk n t m).line = joinL [32] (([w_take, n] ++ t.pre) ++ [w_as, m]) := by
        show joinL [32] (w_take :: n :: (t.pre ++ [w_as, m])) = _
        rfl
      rw [e2, join_app (a := [w_take, n] ++ t.pre) (b := [w_as, m]) (by simp) (by simp), e_as]
      show _ = _ ++ ([32] ++ (w_as ++ ([32] ++ m)))
      simp only [List.append_assoc]
    have el1 : (joinL [32] ([w_take, n] ++ t.pre) ++ lt " as ").length ≤ 2460 := by
      have := congrArg List.length el
      rw [List.length_append] at this
      omega
    rw [er]
    unfold m_line_of
    have gg := gt4 (eS w_take) (eS n) (eU eA t.post) (eS m)
    refine b1 ((hd_eq (low9 in9_tgl.1) (low9 in9_tgl.1)).trans (by rw [decide_eq_true rfl])) ?_
    rw [gd (iuU _), auU, gd gg.2.1, show getI [eS w_take, eS n, eU eA t.post, eS m] 1 = eS n from rfl, gd (isX_S n), gd (iuU _), gd gg.2.2.1, show getI [eS w_take, eS n, eU eA t.post, eS m] 2 = eU eA t.post from rfl, asX_S, written_ok g.2.1 (by show 2 + _ ≤ 60; omega) fun w hw => by
      simp only [List.mem_cons, List.not_mem_nil, or_false] at hw
      rcases hw with rfl | rfl
      · exact w9_len in9_tgl.1
      · have := g.1.2.1; omega]
    rw [okb, okb, gd (show gS (joinL [32] ([lt "take", n] ++ t.pre) ++ lt " as ") from gS_of (Nat.le_trans el1 (by decide))), okb, gd (iuU _), gd gg.2.2.2, show getI [eS w_take, eS n, eU eA t.post, eS m] 3 = eS m from rfl, gd (isX_S m), asX_S, okb, el, gd (gS_of (by omega))]
abbrev shL (m : Nat) : Dt → List (List Nat) → R (List (List Nat)) := fun y s => @m_lines_of_L1 (rc_1 m) s y
def Sh (m : Nat) (rows : List Dt) (ls : List (List Nat)) : Prop := ∀ ys, foldR (shL m) (rows ++ ys) [] = foldR (shL m) ys ls
def ShW (m : Nat) (r : Dt) (rl : List (List Nat)) : Prop := ∀ s : List (List Nat), s.length ≤ 1000 → shL m r s = .ok (s ++ rl)
theorem sh_nil {m : Nat} : Sh m [] [] := fun _ => rfl
theorem sh_app {m : Nat} {rows : List Dt} {r : Dt} {ls rl : List (List Nat)} (h : Sh m rows ls) (hl : ls.length ≤ 1000) (hr : ShW m r rl) : Sh m (rows ++ [r]) (ls ++ rl) := fun ys => by
  rw [List.append_assoc, h]
  show (shL m r ls).bind _ = _
  rw [hr ls hl]
  rfl
theorem sh_fuel {m : Nat} {rows : List Dt} {ls : List (List Nat)} (h : Sh m rows ls) : (rc_1 (m + 1)).r_lines_of (eL eA rows) = .ok ls := by
  show @m_lines_of_b (rc_1 m) (eL eA rows) = _
  unfold m_lines_of_b
  have e : eL eA rows = .lst rows := congrArg Dt.lst (map_eA rows)
  have h := h []
  rw [List.append_nil] at h
  rw [e, okb, okb, gd (show Dt.isQ (.lst rows) = true from rfl), okb]
  refine bd (a := ls) h rfl
theorem sh_row {m : Nat} {r : RowT} (h : r.ok) (hne : r.rk.row.head? ≠ some (eS w_if)) : ShW m (eU eA r.row) [r.line] := fun s hs => by
  show @m_lines_of_L1 (rc_1 m) s _ = _
  unfold m_lines_of_L1
  rw [line_of_ok h, okb, gd (show gL s from by show s.length < _; omega), okb]
  have hd0 : ∃ hd ds, r.row = eS hd :: ds ∧ low hd ∧ hd ≠ w_if := by
    rw [rk_row] at hne
    cases r with
    | one hd t => exact ⟨hd, _, rfl, low9 (heads3_in _ h.1.1).1, fun z => hne (by subst z; rfl)⟩
    | le n t => exact ⟨w_let, _, rfl, low9 in9_tgl.2.2.1, (hd3_no _ hd3_let).2.2.2.1⟩
    | gv n t u => exact ⟨w_give, _, rfl, low9 in9_tgl.2.1, (hd3_no _ hd3_give).2.2.2.1⟩
    | tk n t m => exact ⟨w_take, _, rfl, low9 in9_tgl.1, (hd3_no _ hd3_take).2.2.2.1⟩
  obtain ⟨hd, ds, e, hl, hn⟩ := hd0
  rw [e]
  exact b0 ((hd_eq hl low_w.1).trans (by rw [decide_eq_false hn])) rfl
theorem lst_nil' (b : List Dt) (h : gQ (.lst b)) : eqD (.lst b) (.lst []) = decide (b = []) := by
  cases b with
  | nil => rw [decide_eq_true rfl]; exact eqD_same h.1
  | cons x b =>
    rw [decide_eq_false (by simp)]
    show PyData.eqv (.list _) (.list _) = false
    simp [Dt.pys, PyData.eqv, PyData.eqvAll]
theorem sh_block {m : Nat} {t : Tr} {b : S_Block} {lf lo : List (List Nat)} (g : goodL t) (hl : t.pre.length ≤ 59) (hb : b.1 = t.post) (h1 : Sh m b.2.2.1 lf) (h2 : Sh m b.2.2.2 lo) (hlen : lf.length + lo.length ≤ 10000) (hq : gQ (.lst b.2.2.2)) :
    ShW (m + 1) (eU eA (closeB b)) ((RowT.one w_if t).line :: (lf ++ ((if b.2.2.2 = [] then [] else w_else :: lo) ++ [w_end]))) := fun s hs => by
  show @m_lines_of_L1 (rc_1 (m + 1)) s _ = _
  unfold m_lines_of_L1 closeB
  rw [hb, line_one (by decide +kernel) g hl, okb, gd (show gL s from by show s.length < _; omega), okb]
  have gg := gt4 (eS w_if) (eU eA t.post) (eL eA b.2.2.1) (eL eA b.2.2.2)
  refine b1 ((hd_eq low_w.1 low_w.1).trans (by rw [decide_eq_true rfl])) ?_
  rw [gd (iuU _), auU, gd gg.2.2.1, show getI [eS w_if, eU eA t.post, eL eA b.2.2.1, eL eA b.2.2.2] 2 = eL eA b.2.2.1 from rfl, sh_fuel h1, okb]
  have len : ∀ l : List (List Nat), (s ++ l).length = s.length + l.length := fun l => List.length_append
  rw [gd (by rw [len]; simp only [List.length_singleton]; omega), okb]
  have e4 : eA (getI [eS w_if, eU eA t.post, eL eA b.2.2.1, eL eA b.2.2.2] 3) = .lst b.2.2.2 := congrArg Dt.lst (map_eA _)
  have fin : ∀ xs : List (List Nat), xs.length ≤ 20000 → m_lines_of_J1 xs = .ok (xs ++ [w_end]) := fun xs hx => by
    unfold m_lines_of_J1
    rw [okb, gd (show gL xs from by show xs.length < _; omega), okb]
  have l3 : ((s ++ [(RowT.one w_if t).line]) ++ lf).length = s.length + 1 + lf.length := by simp only [List.length_append, List.length_singleton]
  by_cases c : b.2.2.2 = []
  · rw [if_pos c]
    refine bd (a := (s ++ [(RowT.one w_if t).line]) ++ lf) (b0 ?_ rfl) ?_
    · rw [gd (iuU _), gd gg.2.2.2, e4, gd (show gQ2 (.lst b.2.2.2) ((eL eA) ([] : List Dt)) from ⟨hq, gQn_gQ (n := 1) (gQn_lst fun d hd => (nomatch hd)) (by decide)⟩), show eqD (.lst b.2.2.2) ((eL eA) ([] : List Dt)) = decide (b.2.2.2 = []) from lst_nil' _ hq, decide_eq_true c]; rfl
    · rw [fin _ (by omega)]
      simp only [List.append_assoc, List.singleton_append, List.nil_append, List.cons_append]
  · rw [if_neg c]
    refine bd (a := (((s ++ [(RowT.one w_if t).line]) ++ lf) ++ [w_else]) ++ lo) (b1 ?_ ?_) ?_
    · rw [gd (iuU _), gd gg.2.2.2, e4, gd (show gQ2 (.lst b.2.2.2) ((eL eA) ([] : List Dt)) from ⟨hq, gQn_gQ (n := 1) (gQn_lst fun d hd => (nomatch hd)) (by decide)⟩), show eqD (.lst b.2.2.2) ((eL eA) ([] : List Dt)) = decide (b.2.2.2 = []) from lst_nil' _ hq, decide_eq_false c]; rfl
    · rw [okb, gd (show gL ((s ++ [(RowT.one w_if t).line]) ++ lf) from by show List.length _ < _; omega), okb, gd (iuU _), gd gg.2.2.2, show getI [eS w_if, eU eA t.post, eL eA b.2.2.1, eL eA b.2.2.2] 3 = eL eA b.2.2.2 from rfl, sh_fuel h2, okb, gd (by rw [List.length_append, List.length_singleton]; omega), okb]
    · rw [fin _ (by rw [List.length_append, List.length_append, List.length_singleton]; omega)]
      simp only [List.append_assoc, List.singleton_append, List.nil_append, List.cons_append]
theorem p30v : ((10 : Int) ^ (30 : Int).toNat) = 1000000000000000000000000000000 := by decide +kernel
theorem log_w {w : Int} (h : worthOk w) : w.natAbs.log2 < 1920 := by
  unfold worthOk B30 at h
  have h2 : w.natAbs < 2 ^ 1920 := Nat.lt_of_le_of_lt (show w.natAbs ≤ 10 ^ 30 by omega) (by decide +kernel)
  by_cases z : w.natAbs = 0
  · rw [z]; decide
  · exact (Nat.log2_lt z).mpr h2
abbrev En := List (List Nat) × List Dt
def ent (e : En) : Prop := ∃ t : Tr, goodL t ∧ e = (t.pre, t.post)
theorem leaf_ok (n : Int) (ns : List (List Nat)) (h0 : 0 ≤ n) (h1 : n < 268435399) (hn : ns.length = 4) (hns : ∀ n ∈ ns, nameOk n) : Sat (m_law_leaf n ns) fun e => ent e ∧ e.1.length = 1 := by
  unfold m_law_leaf
  refine sat_bind (Q := fun _ => True) (sat_guard (by decide) (sat_ok trivial)) fun c _ => sat_if (fun _ => ?_) fun _ => ?_
  · have hi : inB ns (n / 4 % 4) := inB_of (Int.emod_nonneg _ (by decide)) (by rw [hn]; exact Int.emod_lt_of_pos _ (by decide))
    refine sat_bind (Q := nameOk) (sat_guard (divW (by decide) (by decide)) (sat_guard (by decide) (sat_guard hi (sat_ok (hns _ (getI_mem hi)))))) fun n hn => ?_
    exact sat_ok ⟨⟨.leaf n (eS n), .inl ⟨hn, rfl⟩, rfl⟩, rfl⟩
  · refine sat_bind (Q := worthOk) (sat_guard (divW (by decide) (by decide)) (sat_guard (by decide) (sat_ok ?_))) fun v hv => ?_
    · unfold worthOk B30
      have h1 := Int.emod_nonneg (n / 4) (b := 25) (by decide)
      have h2 := Int.emod_lt_of_pos (n / 4) (b := 25) (by decide)
      omega
    refine sat_bind (Q := worthOk) ?_ fun v hv => ?_
    · refine sat_bind (Q := fun _ => True) (sat_guard (by decide) (sat_ok trivial)) fun c _ => sat_if (fun _ => ?_) fun _ => sat_ok hv
      rw [p30v]
      refine sat_bind (Q := worthOk) (sat_guard (show CPow n 4 from ⟨by decide, by decide, by omega⟩) (sat_guard (by decide) (sat_guard (by decide) (sat_guard (by decide) (sat_guard (by decide) (sat_ok ?_)))))) fun v hv => sat_ok hv
      unfold worthOk B30
      have h1 := Int.emod_nonneg (n ^ (4 : Int).toNat) (b := 2 * 1000000000000000000000000000000 + 1) (by decide)
      have h2 := Int.emod_lt_of_pos (n ^ (4 : Int).toNat) (b := 2 * 1000000000000000000000000000000 + 1) (by decide)
      omega
    unfold m_law_leaf_J1
    refine sat_guard (log_w hv) ?_
    rw [str_num]
    exact sat_ok ⟨⟨.leaf (numI v) (eI v), .inr ⟨v, hv, rfl, rfl⟩, rfl⟩, rfl⟩
def tot (es : List En) : Nat := (es.map fun e => e.1.length).sum
theorem tot_app (a b : List En) : tot (a ++ b) = tot a + tot b := by unfold tot; rw [List.map_append, List.sum_append]
theorem joined_ok (es : List En) (n : Int) (h : ∀ e ∈ es, ent e) (hl : 1 < es.length) (ht : tot es + es.length ≤ 60) : Sat (m_law_joined es n) fun fs => (∀ e ∈ fs, ent e) ∧ fs.length + 1 = es.length ∧ tot fs + fs.length = tot es + es.length := by
  obtain ⟨r, x, y, e⟩ := two_last hl
  subst e
  have hA := h x (by simp)
  have hB := h y (by simp)
  have hR : ∀ e ∈ r, ent e := fun e he => h e (by simp [he])
  have ht2 : tot (r ++ [x, y]) = tot r + (x.1.length + y.1.length) := by rw [tot_app]; unfold tot; simp
  rw [ht2, List.length_append] at ht
  have ht : tot r + (x.1.length + y.1.length) + (r.length + 2) ≤ 60 := ht
  obtain ⟨a, ga, ea⟩ := hA
  obtain ⟨b, gb, eb⟩ := hB
  have hg := getI_last2 (xs := r) (a := x) (b := y)
  unfold m_law_joined
  have hlen : ((r ++ [x, y]).length : Int) = r.length + 2 := by rw [List.length_append]; simp
  have hi : inB doers7 (n % 7) := inB_of (Int.emod_nonneg _ (by decide)) (Int.emod_lt_of_pos _ (by decide))
  refine sat_bind (Q := (· ∈ doers7)) (sat_guard (by decide) (sat_guard hi (sat_ok (getI_mem hi)))) fun w hw => ?_
  refine sat_bind (Q := (· = x)) (sat_guard ⟨by rw [hlen]; omega, by rw [hlen]; omega⟩ (sat_ok hg.1)) fun x' e => ?_
  subst e
  refine sat_bind (Q := (· = y)) (sat_guard ⟨by rw [hlen]; omega, by rw [hlen]; omega⟩ (sat_ok hg.2)) fun y' e => ?_
  subst e
  have la := a.len
  have lb := b.len
  have ea1 : x'.1.length = a.pre.length := by rw [ea]
  have eb1 : y'.1.length = b.pre.length := by rw [eb]
  have hc : cutL (r ++ [x', y']) none (some (-2)) = r := cutL_last2
  have ex1 : x'.1 = a.pre := by rw [ea]
  have ex2 : x'.2 = a.post := by rw [ea]
  have ey1 : y'.1 = b.pre := by rw [eb]
  have ey2 : y'.2 = b.post := by rw [eb]
  rw [hc, ex1, ex2, ey1, ey2]
  have e1 : (([w] : List (List Nat)) ++ a.pre) ++ b.pre = (Tr.node w a b).pre := by show w :: (a.pre ++ b.pre) = _; rfl
  have e2 : (a.post ++ b.post) ++ ([eS w] : List Dt) = (Tr.node w a b).post := rfl
  have hp : (Tr.node w a b).pre.length = a.pre.length + b.pre.length + 1 := by
    show (w :: (a.pre ++ b.pre)).length = _
    rw [List.length_cons, List.length_append]
  have lc := (Tr.node w a b).len
  rw [e1, e2]
  refine sat_guard (by rw [List.length_append, List.length_singleton]; omega) (sat_guard (by omega) (sat_guard (by rw [List.length_append]; omega) (sat_guard (by omega) (sat_guard (by rw [List.length_append, List.length_singleton]; omega) (sat_ok ⟨?_, ?_, ?_⟩)))))
  · intro e he
    rcases List.mem_append.mp he with he | he
    · exact hR e he
    · rw [List.mem_singleton] at he
      subst he
      exact ⟨.node w a b, ⟨hw, ga, gb⟩, rfl⟩
  · rw [List.length_append, List.length_append]; rfl
  · rw [tot_app, ht2]
    have : tot [((Tr.node w a b).pre, (Tr.node w a b).post)] = a.pre.length + b.pre.length + 1 := by unfold tot; simp [hp]
    rw [this, List.length_append, List.length_append, List.length_singleton]
    show _ = _ + (r.length + 2)
    omega
theorem joinW_ok {ws : List (List Nat)} (h : (ws.map List.length).sum + ws.length ≤ 100000) : (R.guard (gJ (lt " ") ws) (R.ok (joinX (lt " ") ws)) : R (List Nat)) = .ok (joinL [32] ws) := by
  have e1 : (ws.map (·.length)) = ws.map List.length := rfl
  rw [e_blank, gd (by unfold gJ; rw [e1, List.length_singleton]; omega), joinX_eq]
theorem term_ok {xs : List Int} {m : Nat} {ns : List (List Nat)} (hx : Spread xs m) (hm : 6 ≤ m) (hn : ns.length = 4) (hns : ∀ n ∈ ns, nameOk n) : Sat (m_law_term xs ns) fun e => ∃ t : Tr, goodL t ∧ e = (joinL [32] t.pre, t.post) ∧ t.pre.length ≤ 9 := by
  unfold m_law_term
  have x0 := spread_get hx (k := 0) (by decide) (by omega)
  have x1 := spread_get hx (k := 1) (by decide) (by omega)
  have z1 := Int.emod_nonneg (getI xs 0 / 12) (b := 5) (by decide)
  have z2 := Int.emod_lt_of_pos (getI xs 0 / 12) (b := 5) (by decide)
  rw [okb, gd x0.1, gd (divW (by decide) (by decide)), gd (by decide), okb, gd (gR_of (by omega) (by omega)), okb]
  refine sat_bind (Q := fun es : List En => (∀ e ∈ es, ent e) ∧ tot es + es.length ≤ 10 ∧ 1 ≤ es.length) (sat_mono (sat_fold (fun pre (es : List En) => (∀ e ∈ es, ent e) ∧ tot es + es.length = 2 * pre.length ∧ (pre ≠ [] → 1 ≤ es.length)) ⟨fun e he => (nomatch he), rfl, fun h => absurd rfl h⟩ fun pre k suf es ek hs => ?_) fun es hs => ?_) fun es hs => ?_
  · have hk := rng_pre ek
    have hlen : pre.length < (rng 0 (1 + getI xs 0 / 12 % 5)).length := by rw [ek]; simp
    rw [rng_len] at hlen
    have gk := spread_get hx (k := k) (by omega) (by omega)
    have hel : es.length ≤ 60 := by have := hs.2.1; omega
    unfold m_law_term_L1
    refine sat_bind (Q := fun fs : List En => (∀ e ∈ fs, ent e) ∧ tot fs + fs.length = 2 * (pre.length + 1) ∧ 1 ≤ fs.length) ?_ fun fs hf => ?_
    · rw [okb]
      refine sat_bind (Q := fun g : List En => ∃ e, ent e ∧ e.1.length = 1 ∧ g = [e]) (sat_bind (Q := fun p : En × Unit => ent p.1 ∧ p.1.1.length = 1) (sat_bind (sat_guard gk.1 (leaf_ok _ ns gk.2.1 gk.2.2 hn hns)) fun e he => sat_bind (Q := fun _ => True) (sat_ok trivial) fun _ _ => sat_ok he) fun p hp => sat_ok ⟨p.1, hp.1, hp.2, rfl⟩) fun g hg => ?_
      obtain ⟨e, he, h1e, rfl⟩ := hg
      refine sat_guard (by rw [List.length_append, List.length_singleton]; omega) (sat_ok ⟨fun d hd => ?_, ?_, by rw [List.length_append, List.length_singleton]; omega⟩)
      · rcases List.mem_append.mp hd with hd | hd
        · exact hs.1 d hd
        · rw [List.mem_singleton] at hd; subst hd; exact he
      · have : tot [e] = 1 := by unfold tot; simp [h1e]
        have := hs.2.1
        rw [tot_app, List.length_append, List.length_singleton]
        omega
    · have qx : ∃ q, (R.and (R.ok (decide ((1 : Int) < (fs.length : Int)))) (R.guard (inB xs k) (R.guard (CDivW (getI xs k) (101 : Int)) (R.guard (0 < (2 : Int)) (R.ok (decide ((((getI xs k) / (101 : Int)) % (2 : Int)) = (0 : Int)))))))) = .ok q ∧ (q = true → 1 < fs.length) := by
        rw [gd gk.1, gd (divW (by decide) (by decide)), gd (by decide)]
        by_cases c : (1 : Int) < (fs.length : Int)
        · rw [decide_eq_true c]
          exact ⟨_, rfl, fun _ => by omega⟩
        · rw [decide_eq_false c]
          exact ⟨false, rfl, fun z => by cases z⟩
      obtain ⟨q, eq, hq⟩ := qx
      rw [eq, okb]
      have pl : (pre ++ [k]).length = pre.length + 1 := by rw [List.length_append, List.length_singleton]
      cases q with
      | false => exact sat_ok ⟨hf.1, by rw [pl]; exact hf.2.1, fun _ => hf.2.2⟩
      | true =>
        rw [if_pos rfl, gd gk.1, gd (divW (by decide) (by decide))]
        refine sat_bind (joined_ok fs _ hf.1 (hq rfl) (by omega)) fun gs hg => sat_ok ⟨hg.1, by rw [pl]; omega, fun _ => by have := hq rfl; omega⟩
  · have e2 : (rng 0 (1 + getI xs 0 / 12 % 5)).length = (1 + getI xs 0 / 12 % 5).toNat := by rw [rng_len]; omega
    rw [e2] at hs
    exact ⟨hs.1, by omega, hs.2.2 (fun z => by rw [z] at e2; simp at e2; omega)⟩
  · unfold m_law_term_J1
    refine sat_bind (Q := fun c : Ctl (List En) (List Nat × List Dt) => match c with
      | .nx es => (∀ e ∈ es, ent e) ∧ es.length = 1 ∧ tot es + es.length ≤ 10
      | _ => False) (sat_while (fun es : List En => (∀ e ∈ es, ent e) ∧ tot es + es.length ≤ 10 ∧ 1 ≤ es.length) (fun es => es.length) hs (by omega) fun es he => ?_) fun c hc => ?_
    · unfold m_law_term_Q1
      refine sat_ok ?_
      by_cases q : 1 < es.length
      · rw [decide_eq_true (by omega)]
        show Sat (m_law_term_L2 xs es) _
        unfold m_law_term_L2
        rw [gd x1.1, gd (divW (by decide) (by decide))]
        refine sat_bind (joined_ok es _ he.1 q (by omega)) fun fs hf => sat_ok ⟨⟨hf.1, by omega, by omega⟩, by omega⟩
      · rw [decide_eq_false (by omega)]
        exact ⟨he.1, by omega, he.2.1⟩
    · cases c with
      | nx es =>
        obtain ⟨h1, h2, h3⟩ := hc
        match es, h2 with
        | [e], _ =>
          show Sat (m_law_term_J2 [e]) _
          unfold m_law_term_J2
          obtain ⟨t, gt, et⟩ := h1 e (by simp)
          have e1 : tot [e] = e.1.length := by unfold tot; simp
          have e2 : e.1.length = t.pre.length := by rw [et]
          have h3 : tot [e] + 1 ≤ 10 := h3
          have sm := sum_le fun w hw => (good_words t gt w hw).2
          have gi : inB [e] 0 := inB_of (by decide) (show (0 : Int) < 1 by decide)
          rw [gd gi, gd gi, getI0, okb, et, joinW_ok (ws := t.pre) (by omega), okb, okb, okb]
          exact sat_ok ⟨t, gt, rfl, by omega⟩
      | rt r => exact hc.elim
      | bk s => exact hc.elim
theorem spread_cut {xs : List Int} {m : Nat} (h : Spread xs m) {a : Int} (h0 : 0 ≤ a) (h1 : a ≤ m) : Spread (cutL xs (some a) none) (m - a.toNat) := by
  refine ⟨?_, fun x hx => h.2 x (cutL_mem hx)⟩
  unfold cutL
  rw [sIx_some h0, show HT.sIx xs.length xs.length none = xs.length from rfl, List.length_take, List.length_drop, h.1]
  omega
theorem headsB_eq : lt "take " = w_take ++ [32] ∧ lt "give " = w_give ++ [32] ∧ lt "let " = w_let ++ [32] ∧ lt "say " = lt "say" ++ [32] ∧ lt "off " = lt "off" ++ [32] ∧ lt "if " = w_if ++ [32] := by decide +kernel
theorem say_off : lt "say" ∈ heads3 ∧ lt "off" ∈ heads3 ∧ w_if ∈ heads3 := by decide +kernel
theorem say_ne : lt "say" ≠ w_if ∧ lt "off" ≠ w_if := by decide +kernel
theorem one_str {h : List Nat} {t : Tr} : (h ++ [32]) ++ joinL [32] t.pre = (RowT.one h t).line := by
  show _ = joinL [32] ([h] ++ t.pre)
  rw [join_app (by simp) (pre_ne t)]
  show _ = h ++ _
  simp only [List.append_assoc]
def RowD (e : List Nat × List Dt) : Prop := ∃ r : RowT, r.ok ∧ e = (r.line, r.row) ∧ ∃ h d, r.rk = .oth h d
theorem tree_len {t : Tr} (g : goodL t) (hl : t.pre.length ≤ 9) : (joinL [32] t.pre).length ≤ 369 := words_len (n := 40) (m := 9) (fun w hw => (good_words t g w hw).2) hl
theorem lens5 : (lt "take ").length = 5 ∧ (lt "give ").length = 5 ∧ (lt "let ").length = 4 ∧ (lt "say ").length = 4 ∧ (lt "off ").length = 4 ∧ (lt " as ").length = 4 ∧ (lt "if ").length = 3 := by decide +kernel
theorem row_ok (cell : Int) {ns : List (List Nat)} (hn : ns.length = 4) (hns : ∀ n ∈ ns, nameOk n) : Sat (m_law_row cell ns) RowD := by
  unfold m_law_row
  refine sat_bind (spread_ok cell 13 (by decide) (by decide)) fun xs hxs => ?_
  have hxs : Spread xs 13 := hxs
  refine sat_bind (term_ok hxs (by decide) hn hns) fun e he => ?_
  obtain ⟨t, gt, rfl, tl⟩ := he
  dsimp only [R.sp2]
  have sl := tree_len gt tl
  have x10 := spread_get hxs (k := 10) (by decide) (by decide)
  have x11 := spread_get hxs (k := 11) (by decide) (by decide)
  have x12 := spread_get hxs (k := 12) (by decide) (by decide)
  have hi : ∀ z : Int, inB ns (z % 4) := fun z => inB_of (Int.emod_nonneg _ (by decide)) (by rw [hn]; exact Int.emod_lt_of_pos _ (by decide))
  have L := lens5
  rw [gd x10.1, gd (by decide), gd (hi _), okb, gd x11.1, gd (by decide), okb]
  have hs1 : nameOk (getI ns (getI xs 10 % 4)) := hns _ (getI_mem (hi _))
  have hs2 : nameOk (getI ns (getI xs 12 % 4)) := hns _ (getI_mem (hi _))
  generalize hq1 : getI ns (getI xs 10 % 4) = n1 at hs1
  generalize hq2 : getI ns (getI xs 12 % 4) = n2 at hs2
  generalize getI xs 11 % 5 = k
  have l1 := hs1.2.1
  have l2 := hs2.2.1
  by_cases c1 : k = 0
  · refine sat_bind (Q := (· = true)) (sat_ok (decide_eq_true c1)) fun q e => ?_
    subst e
    rw [if_pos rfl, gd x12.1, gd (by decide), gd (hi _), okb, gd (gS_of (by simp only [List.length_append]; omega)), e_blank, gd (gS_of (by simp only [List.length_append, List.length_singleton]; omega)), gd (gS_of (by simp only [List.length_append, List.length_singleton]; omega)), gd (gS_of (by simp only [List.length_append, List.length_singleton]; omega)), gd (gS_of (by simp only [List.length_append, List.length_singleton]; omega))]
    refine sat_ok ⟨.tk n1 t n2, ⟨⟨hs1, gt, hs2⟩, ?_⟩, Prod.ext ?_ rfl, _, _, rfl⟩
    · show (w_take :: n1 :: (t.pre ++ [w_as, n2])).length ≤ 60
      simp only [List.length_cons, List.length_append, List.length_nil]; omega
    · show _ = joinL [32] (([w_take, n1] ++ t.pre) ++ [w_as, n2])
      rw [headsB_eq.1, join_app (a := [w_take, n1] ++ t.pre) (b := [w_as, n2]) (by simp) (by simp), join_app (a := [w_take, n1]) (by simp) (pre_ne t), e_as]
      show _ = ((w_take ++ ([32] ++ n1)) ++ _) ++ ([32] ++ (w_as ++ ([32] ++ n2)))
      simp only [List.append_assoc]
  refine sat_bind (Q := (· = false)) (sat_ok (decide_eq_false c1)) fun q e => ?_
  subst e
  rw [if_neg (by decide)]
  by_cases c2 : k = 1
  · refine sat_bind (Q := (· = true)) (sat_ok (decide_eq_true c2)) fun q e => ?_
    subst e
    rw [if_pos rfl]
    refine sat_bind (term_ok (spread_cut hxs (a := 5) (by decide) (by decide)) (by decide) hn hns) fun s hs => ?_
    obtain ⟨u, gu, rfl, ul⟩ := hs
    dsimp only [R.sp2]
    have sl2 := tree_len gu ul
    rw [gd (gS_of (by simp only [List.length_append]; omega)), e_blank, gd (gS_of (by simp only [List.length_append, List.length_singleton]; omega)), gd (gS_of (by simp only [List.length_append, List.length_singleton]; omega)), gd (gS_of (by simp only [List.length_append, List.length_singleton]; omega)), gd (gS_of (by simp only [List.length_append, List.length_singleton]; omega))]
    refine sat_ok ⟨.gv n1 t u, ⟨⟨hs1, gt, gu⟩, ?_⟩, Prod.ext ?_ rfl, _, _, rfl⟩
    · show (w_give :: n1 :: (t.pre ++ u.pre)).length ≤ 60
      simp only [List.length_cons, List.length_append]; omega
    · show _ = joinL [32] (([w_give, n1] ++ t.pre) ++ u.pre)
      rw [headsB_eq.2.1, join_app (a := [w_give, n1] ++ t.pre) (by simp) (pre_ne u), join_app (a := [w_give, n1]) (by simp) (pre_ne t)]
      show _ = ((w_give ++ ([32] ++ n1)) ++ _) ++ _
      simp only [List.append_assoc]
  refine sat_bind (Q := (· = false)) (sat_ok (decide_eq_false c2)) fun q e => ?_
  subst e
  rw [if_neg (by decide)]
  by_cases c3 : k = 2
  · refine sat_bind (Q := (· = true)) (sat_ok (decide_eq_true c3)) fun q e => ?_
    subst e
    rw [if_pos rfl, gd (gS_of (by simp only [List.length_append]; omega)), e_blank, gd (gS_of (by simp only [List.length_append, List.length_singleton]; omega)), gd (gS_of (by simp only [List.length_append, List.length_singleton]; omega))]
    refine sat_ok ⟨.le n1 t, ⟨⟨hs1, gt⟩, ?_⟩, Prod.ext ?_ rfl, _, _, rfl⟩
    · show (w_let :: n1 :: t.pre).length ≤ 60
      simp only [List.length_cons]; omega
    · show _ = joinL [32] ([w_let, n1] ++ t.pre)
      rw [headsB_eq.2.2.1, join_app (a := [w_let, n1]) (by simp) (pre_ne t)]
      show _ = (w_let ++ ([32] ++ n1)) ++ _
      simp only [List.append_assoc]
  refine sat_bind (Q := (· = false)) (sat_ok (decide_eq_false c3)) fun q e => ?_
  subst e
  rw [if_neg (by decide)]
  have hw : ∀ w : List Nat, (RowT.one w t).words.length ≤ 60 := fun w => by show (_ :: t.pre).length ≤ 60; rw [List.length_cons]; omega
  by_cases c4 : k = 3
  · refine sat_bind (Q := (· = true)) (sat_ok (decide_eq_true c4)) fun q e => ?_
    subst e
    rw [if_pos rfl, gd (gS_of (by simp only [List.length_append]; omega))]
    exact sat_ok ⟨.one (lt "say") t, ⟨⟨say_off.1, gt⟩, hw _⟩, Prod.ext (by show lt "say " ++ _ = _; rw [headsB_eq.2.2.2.1, one_str]) rfl, _, _, (if_neg say_ne.1 : (if lt "say" = w_if then Rk.ifR t.post else Rk.oth (lt "say") [eU eA t.post]) = _)⟩
  · refine sat_bind (Q := (· = false)) (sat_ok (decide_eq_false c4)) fun q e => ?_
    subst e
    rw [if_neg (by decide), gd (gS_of (by simp only [List.length_append]; omega))]
    exact sat_ok ⟨.one (lt "off") t, ⟨⟨say_off.2.1, gt⟩, hw _⟩, Prod.ext (by show lt "off " ++ _ = _; rw [headsB_eq.2.2.2.2.1, one_str]) rfl, _, _, (if_neg say_ne.2 : (if lt "off" = w_if then Rk.ifR t.post else Rk.oth (lt "off") [eU eA t.post]) = _)⟩
inductive Tok where
  | row (r : RowT)
  | els
  | fin
def Tok.rk : Tok → Rk
  | .row r => r.rk
  | .els => .elseR
  | .fin => .endR
def Tok.line : Tok → List Nat
  | .row r => r.line
  | .els => w_else
  | .fin => w_end
def Tok.ok : Tok → Prop
  | .row r => r.ok
  | _ => True
abbrev State := List Dt × List S_Block
theorem tok_is {t : Tok} (h : t.ok) : RowIs t.line (some t.rk) := by
  cases t with
  | row r => exact rowt_is h
  | els => have z := word_is (h := w_else) (.inl rfl); rw [if_pos rfl] at z; exact z
  | fin => have z := word_is (h := w_end) (.inr rfl); rw [if_neg ne_w.2.2] at z; exact z
theorem w_ee : (10 ∉ w_else ∧ w_else ≠ [] ∧ w_else.length = 4 ∧ 32 ∉ w_else) ∧ (10 ∉ w_end ∧ w_end ≠ [] ∧ w_end.length = 3 ∧ 32 ∉ w_end) := by decide +kernel
theorem tok_line {t : Tok} (h : t.ok) : 10 ∉ t.line ∧ t.line ≠ [] ∧ t.line.length ≤ 2460 := by
  cases t with
  | row r => exact ⟨line_feed h.1, line_ne h.1, line_len h⟩
  | els => exact ⟨w_ee.1.1, w_ee.1.2.1, by show w_else.length ≤ _; rw [w_ee.1.2.2.1]; decide⟩
  | fin => exact ⟨w_ee.2.1, w_ee.2.2.1, by show w_end.length ≤ _; rw [w_ee.2.2.2.1]; decide⟩
theorem tok_lines {ts : List Tok} (h : ∀ t ∈ ts, t.ok) : linesT (joinL [10] (ts.map Tok.line)) = ts.map Tok.line := by
  unfold linesT
  cases ts with
  | nil => exact if_pos rfl
  | cons t ts =>
    have ne : joinL [10] ((t :: ts).map Tok.line) ≠ [] := by
      have := (tok_line (h t List.mem_cons_self)).2.1
      cases ts with
      | nil => exact this
      | cons q ts =>
        show t.line ++ _ ≠ []
        exact fun z => this (List.append_eq_nil_iff.mp z).1
    rw [if_neg ne, splitS_ok (by decide) (by simp)]
    intro w hw
    obtain ⟨q, hq, rfl⟩ := List.mem_map.mp hw
    exact (tok_line (h q hq)).1
theorem toks_len {ts : List Tok} (h : ∀ t ∈ ts, t.ok) (hl : ts.length ≤ 100) : ((ts.map Tok.line).map List.length).sum ≤ 246000 := by
  have := sum_le (ys := ts.map Tok.line) (n := 2460) fun y hy => by
    obtain ⟨t, ht, rfl⟩ := List.mem_map.mp hy
    exact (tok_line (h t ht)).2.2
  rw [List.length_map] at this
  omega
def runT : List Tok → State → Option State
  | [], s => some s
  | t :: ts, s => (stepR t.rk s).bind (runT ts)
theorem goR_run : ∀ (ts : List Tok) (k : Nat) (s s' : State), runT ts s = some s' → k + ts.length ≤ 40 → goR k (ts.map fun (t : Tok) => some t.rk) s = .ok s'
  | [], k, s, s', h, _ => by cases h; rfl
  | t :: ts, k, s, s', h, hk => by
    rw [List.length_cons] at hk
    rw [List.map_cons]
    unfold goR
    rw [if_neg (by omega)]
    unfold runT at h
    show (match stepR t.rk s with | none => R.err (.noDealing (k : Int)) | some s' => goR (k + 1) (ts.map fun (t : Tok) => some t.rk) s') = _
    cases e : stepR t.rk s with
    | none => rw [e] at h; cases h
    | some s1 =>
      rw [e] at h
      exact goR_run ts (k + 1) s1 s' h (by omega)
theorem read_run {ts : List Tok} {rows : List Dt} (h : ∀ t ∈ ts, t.ok) (hl : ts.length ≤ 40) (hr : runT ts ([], []) = some (rows, [])) : m_read (joinL [10] (ts.map Tok.line)) = .ok rows := by
  have hs := toks_len h (by omega)
  rw [read_is (os := ts.map fun (t : Tok) => some t.rk) (Nat.le_trans joinS_len (by rw [List.length_map]; omega)) (by rw [tok_lines h]; exact RowsAre.of_map fun t ht => tok_is (h t ht))]
  unfold readR
  rw [goR_run ts 0 _ _ hr (by omega), okb, if_pos rfl]
structure Pd (k : Nat) (d : Dt) : Prop where
  al : Al k d
  gq : gQn k d
def PdL (k : Nat) (ds : List Dt) : Prop := ∀ d ∈ ds, Pd k d
theorem gq_term {n : Nat} {t : Tr} (h : goodL t) : gQn (n + 1) (eU eA t.post) := gQn_tup (n := n) fun d hd => by
  rw [map_eA] at hd
  have := (good_low t h).2 d hd
  exact ⟨this.1.1, this.1.2.1, Nat.le_trans this.1.2.2 (Nat.zero_le _)⟩
theorem gq_row {n : Nat} {r : RowT} (h : r.good) : gQn (n + 3) (eU eA r.row) := gQn_tup (n := n + 2) fun d hd => by
  rw [map_eA] at hd
  have hs : ∀ {l : List Nat}, low l → gQn (n + 2) (eS l) := fun h => gQn_str (strOk_ascii h)
  cases r with
  | one hd t =>
    simp only [RowT.row, List.mem_cons, List.not_mem_nil, or_false] at hd
    rcases hd with rfl | rfl
    · exact hs (low9 (heads3_in _ h.1).1)
    · exact gq_term h.2
  | le n t =>
    simp only [RowT.row, List.mem_cons, List.not_mem_nil, or_false] at hd
    rcases hd with rfl | rfl | rfl
    · exact hs (low9 in9_tgl.2.2.1)
    · exact hs (lets_low h.1.2.2.2)
    · exact gq_term h.2
  | gv n t u =>
    simp only [RowT.row, List.mem_cons, List.not_mem_nil, or_false] at hd
    rcases hd with rfl | rfl | rfl | rfl
    · exact hs (low9 in9_tgl.2.1)
    · exact hs (lets_low h.1.2.2.2)
    · exact gq_term h.2.1
    · exact gq_term h.2.2
  | tk n t m =>
    simp only [RowT.row, List.mem_cons, List.not_mem_nil, or_false] at hd
    rcases hd with rfl | rfl | rfl | rfl
    · exact hs (low9 in9_tgl.1)
    · exact hs (lets_low h.1.2.2.2)
    · exact gq_term h.2.1
    · exact hs (lets_low h.2.2.2.2.2)
theorem pd_row {n : Nat} {r : RowT} (h : r.good) : Pd (n + 3) (eU eA r.row) := ⟨al_row h, gq_row h⟩
theorem pd_block {n : Nat} {b : S_Block} {t : Tr} (g : goodL t) (hb : b.1 = t.post) (h1 : PdL (n + 1) b.2.2.1) (h2 : PdL (n + 1) b.2.2.2) : Pd (n + 3) (eU eA (closeB b)) := by
  have e : ∀ xs : List Dt, eL eA xs = .lst xs := fun xs => congrArg Dt.lst (map_eA xs)
  unfold closeB
  rw [hb]
  refine ⟨al_tup fun d hd => ?_, gQn_tup (n := n + 2) fun d hd => ?_⟩ <;> rw [map_eA] at hd <;> simp only [List.mem_cons, List.not_mem_nil, or_false] at hd <;> rcases hd with rfl | rfl | rfl | rfl
  · exact al_str low_w.1
  · exact al_U g
  · rw [e]; exact al_lst fun d hd => (h1 d hd).al
  · rw [e]; exact al_lst fun d hd => (h2 d hd).al
  · exact gQn_str (strOk_ascii low_w.1)
  · exact gq_term g
  · rw [e]; exact gQn_lst fun d hd => (h1 d hd).gq
  · rw [e]; exact gQn_lst fun d hd => (h2 d hd).gq
theorem row_rk_cases {r : RowT} : (∃ t, r = .one w_if t) ∨ (r.rk.row.head? ≠ some (eS w_if) ∧ ∃ h d, r.rk = .oth h d ∧ eS h :: d = r.row) := by
  have hi : ∀ {h : List Nat}, h ≠ w_if → eS h ≠ eS w_if := fun hn z => hn (by have := congrArg Dt.asX z; exact this)
  cases r with
  | one h t =>
    by_cases c : h = w_if
    · subst c; exact .inl ⟨t, rfl⟩
    · refine .inr ⟨?_, h, [eU eA t.post], if_neg c, rfl⟩
      rw [rk_row]
      exact fun z => hi c (Option.some.inj z)
  | le n t => exact .inr ⟨fun z => hi (hd3_no _ hd3_let).2.2.2.1 (Option.some.inj z), _, _, rfl, rfl⟩
  | gv n t u => exact .inr ⟨fun z => hi (hd3_no _ hd3_give).2.2.2.1 (Option.some.inj z), _, _, rfl, rfl⟩
  | tk n t m => exact .inr ⟨fun z => hi (hd3_no _ hd3_take).2.2.2.1 (Option.some.inj z), _, _, rfl, rfl⟩
theorem rk_one_if (t : Tr) : (RowT.one w_if t).rk = .ifR t.post := (if_pos rfl : (if w_if = w_if then Rk.ifR t.post else Rk.oth w_if [eU eA t.post]) = _)
inductive AllN (P : Dt → List Tok → Prop) : List Dt → List Tok → Prop where
  | nil : AllN P [] []
  | cons {d : Dt} {a : List Tok} {ds : List Dt} {as : List Tok} (h : P d a) (hs : AllN P ds as) : AllN P (d :: ds) (a ++ as)
theorem AllN.mono {P Q : Dt → List Tok → Prop} (k : ∀ d a, P d a → Q d a) : ∀ {ds : List Dt} {as : List Tok}, AllN P ds as → AllN Q ds as
  | _, _, .nil => .nil
  | _, _, .cons h hs => .cons (k _ _ h) (hs.mono k)
theorem AllN.app {P : Dt → List Tok → Prop} {es : List Dt} {bs : List Tok} (h2 : AllN P es bs) : ∀ {ds : List Dt} {as : List Tok}, AllN P ds as → AllN P (ds ++ es) (as ++ bs)
  | _, _, .nil => h2
  | _, _, .cons h hs => by
    rw [List.append_assoc]
    exact .cons h (AllN.app h2 hs)
theorem AllN.all {P : Dt → List Tok → Prop} {Q : Dt → Prop} (k : ∀ d a, P d a → Q d) : ∀ {ds : List Dt} {as : List Tok}, AllN P ds as → ∀ d ∈ ds, Q d
  | _, _, .nil, d, hd => nomatch hd
  | _, _, .cons h hs, d, hd => by
    rcases List.mem_cons.mp hd with rfl | hd
    · exact k _ _ h
    · exact hs.all k d hd
theorem AllN.toks {P : Dt → List Tok → Prop} (k : ∀ d a, P d a → ∀ t ∈ a, t.ok) : ∀ {ds : List Dt} {as : List Tok}, AllN P ds as → ∀ t ∈ as, t.ok
  | _, _, .nil, t, ht => nomatch ht
  | _, _, .cons h hs, t, ht => by
    rcases List.mem_append.mp ht with ht | ht
    · exact k _ _ h t ht
    · exact hs.toks k t ht
def LeafN (d : Dt) (ts : List Tok) : Prop := ∃ r : RowT, r.ok ∧ (∃ h x, r.rk = .oth h x) ∧ d = eU eA r.row ∧ ts = [.row r]
def Nd : Nat → Dt → List Tok → Prop
  | 0, d, ts => LeafN d ts
  | m + 1, d, ts => LeafN d ts ∨ ∃ (t : Tr) (xs ys : List Dt) (a b : List Tok), goodL t ∧ t.pre.length ≤ 59 ∧ AllN (Nd m) xs a ∧ AllN (Nd m) ys b ∧
      d = eU eA (closeB (t.post, false, xs, ys)) ∧ ts = .row (.one w_if t) :: (a ++ ((if ys = [] then [] else .els :: b) ++ [.fin]))
theorem nd_up {m : Nat} : ∀ {d : Dt} {ts : List Tok}, Nd m d ts → Nd (m + 1) d ts := by
  induction m with
  | zero => exact fun h => .inl h
  | succ m ih =>
    intro d ts h
    rcases h with h | ⟨t, xs, ys, a, b, g, hl, hx, hy, e1, e2⟩
    · exact .inl h
    · exact .inr ⟨t, xs, ys, a, b, g, hl, hx.mono fun _ _ => ih, hy.mono fun _ _ => ih, e1, e2⟩
theorem nd_le {m k : Nat} (h : m ≤ k) {d : Dt} {ts : List Tok} (hd : Nd m d ts) : Nd k d ts := by
  induction h with
  | refl => exact hd
  | step _ ih => exact nd_up ih
theorem nd_toks {m : Nat} : ∀ {d : Dt} {ts : List Tok}, Nd m d ts → ∀ t ∈ ts, t.ok := by
  have leaf : ∀ {d : Dt} {ts : List Tok}, LeafN d ts → ∀ t ∈ ts, t.ok := by
    rintro d ts ⟨r, hr, _, _, rfl⟩ t ht
    rw [List.mem_singleton] at ht
    subst ht
    exact hr
  induction m with
  | zero => exact leaf
  | succ m ih =>
    intro d ts h
    rcases h with h | ⟨t, xs, ys, a, b, g, hl, hx, hy, e1, rfl⟩
    · exact leaf h
    · intro q hq
      rcases List.mem_cons.mp hq with rfl | hq
      · exact ⟨⟨say_off.2.2, g⟩, by show (_ :: t.pre).length ≤ 60; rw [List.length_cons]; omega⟩
      · rcases List.mem_append.mp hq with hq | hq
        · exact hx.toks (fun _ _ => ih) q hq
        · rcases List.mem_append.mp hq with hq | hq
          · by_cases c : ys = []
            · rw [if_pos c] at hq; cases hq
            · rw [if_neg c] at hq
              rcases List.mem_cons.mp hq with rfl | hq
              · exact trivial
              · exact hy.toks (fun _ _ => ih) q hq
          · rw [List.mem_singleton] at hq; subst hq; exact trivial
theorem nd_pd {m : Nat} : ∀ {n : Nat} {d : Dt} {ts : List Tok}, Nd m d ts → Pd (n + 2 * m + 3) d := by
  have leaf : ∀ {n : Nat} {d : Dt} {ts : List Tok}, LeafN d ts → Pd (n + 3) d := by
    rintro n d ts ⟨r, hr, _, rfl, _⟩
    exact pd_row hr.1
  induction m with
  | zero => exact leaf
  | succ m ih =>
    intro n d ts h
    rcases h with h | ⟨t, xs, ys, a, b, g, hl, hx, hy, rfl, _⟩
    · exact leaf h
    · exact pd_block (n := n + 2 * m + 2) g rfl (hx.all fun _ _ h => ih h) (hy.all fun _ _ h => ih h)
theorem run_app : ∀ (a b : List Tok) (s : State), runT (a ++ b) s = (runT a s).bind (runT b)
  | [], b, s => rfl
  | t :: a, b, s => by
    show (stepR t.rk s).bind (runT (a ++ b)) = ((stepR t.rk s).bind (runT a)).bind (runT b)
    cases stepR t.rk s with
    | none => rfl
    | some s1 => exact run_app a b s1
theorem runs_in {P : Dt → List Tok → Prop} {t : List Dt} {rows : List Dt} {st : List S_Block} (k : ∀ (d : Dt) (a : List Tok), P d a → ∀ b : S_Block, runT a (rows, b :: st) = some (rows, addB d b :: st)) :
    ∀ {ds : List Dt} {as : List Tok}, AllN P ds as → ∀ (p q : List Dt), runT as (rows, (t, false, p, q) :: st) = some (rows, (t, false, p ++ ds, q) :: st) ∧ runT as (rows, (t, true, p, q) :: st) = some (rows, (t, true, p, q ++ ds) :: st)
  | _, _, .nil, p, q => by rw [List.append_nil, List.append_nil]; exact ⟨rfl, rfl⟩
  | _, _, .cons (d := d) (ds := ds) h hs, p, q => by
    rw [run_app, run_app, k _ _ h, k _ _ h, show p ++ d :: ds = (p ++ [d]) ++ ds by simp, show q ++ d :: ds = (q ++ [d]) ++ ds by simp]
    exact ⟨(runs_in k hs (p ++ [d]) q).1, (runs_in k hs p (q ++ [d])).2⟩
theorem nd_run {m : Nat} : ∀ {d : Dt} {ts : List Tok}, Nd m d ts → ∀ (rows : List Dt) (st : List S_Block), st.length + m ≤ 5 → runT ts (rows, st) = some (addR d rows st) := by
  have leaf : ∀ {d : Dt} {ts : List Tok}, LeafN d ts → ∀ (rows : List Dt) (st : List S_Block), runT ts (rows, st) = some (addR d rows st) := by
    rintro d ts ⟨r, hr, ⟨h, x, e⟩, rfl, rfl⟩ rows st
    show (stepR r.rk (rows, st)).bind (runT []) = _
    rw [← rk_row r, e]
    rfl
  induction m with
  | zero => exact fun h rows st _ => leaf h rows st
  | succ m ih =>
    intro d ts h rows st hl5
    rcases h with h | ⟨t, xs, ys, a, b, g, hl, hx, hy, rfl, rfl⟩
    · exact leaf h rows st
    · have go : ∀ (d : Dt) (a : List Tok), Nd m d a → ∀ b : S_Block, runT a (rows, b :: st) = some (rows, addB d b :: st) := fun d a h b => ih h rows (b :: st) (by rw [List.length_cons]; omega)
      show (stepR (RowT.one w_if t).rk (rows, st)).bind (runT _) = _
      rw [rk_one_if, st_if, if_neg (by omega)]
      show runT (a ++ _) (rows, (t.post, false, [], []) :: st) = _
      rw [run_app, (runs_in go hx [] []).1, List.nil_append]
      show runT (_ ++ [Tok.fin]) (rows, (t.post, false, xs, []) :: st) = _
      rw [run_app]
      by_cases c : ys = []
      · subst c
        rfl
      · rw [if_neg c]
        have e1 : runT (.els :: b) (rows, (t.post, false, xs, []) :: st) = some (rows, (t.post, true, xs, ys) :: st) := by
          show runT b (rows, (t.post, true, xs, []) :: st) = _
          rw [(runs_in go hy xs []).2, List.nil_append]
        rw [e1]
        rfl
theorem leaf_head {r : RowT} (hr : r.ok) (hk : ∃ h x, r.rk = .oth h x) : r.rk.row.head? ≠ some (eS w_if) := by
  rcases row_rk_cases (r := r) with ⟨t, rfl⟩ | h
  · obtain ⟨h, x, e⟩ := hk
    rw [rk_one_if] at e
    cases e
  · exact h.1
theorem shs_in {P : Dt → List Tok → Prop} {m : Nat} (k : ∀ (d : Dt) (a : List Tok), P d a → ShW m d (a.map Tok.line)) :
    ∀ {ds : List Dt} {as : List Tok}, AllN P ds as → ∀ {ps : List Dt} {ls : List (List Nat)}, Sh m ps ls → ls.length + as.length ≤ 1000 → Sh m (ps ++ ds) (ls ++ as.map Tok.line)
  | _, _, .nil, ps, ls, hp, _ => by rw [List.append_nil, List.map_nil, List.append_nil]; exact hp
  | _, _, .cons (d := d) (a := a) (ds := ds) (as := as) h hs, ps, ls, hp, hl => by
    rw [List.length_append] at hl
    rw [show ps ++ d :: ds = (ps ++ [d]) ++ ds by simp, List.map_append, ← List.append_assoc]
    exact shs_in k hs (sh_app hp (by omega) (k _ _ h)) (by rw [List.length_append, List.length_map]; omega)
theorem AllN.len {P : Dt → List Tok → Prop} {n : Nat} : ∀ {ds : List Dt} {as : List Tok}, AllN P ds as → as.length ≤ n → AllN (fun d a => P d a ∧ a.length ≤ n) ds as
  | _, _, .nil, _ => .nil
  | _, _, .cons h hs, hl => by
    rw [List.length_append] at hl
    exact .cons ⟨h, by omega⟩ (hs.len (by omega))
theorem nd_sh {m : Nat} : ∀ {n : Nat} {d : Dt} {ts : List Tok}, Nd m d ts → m ≤ 5 → ts.length ≤ 900 → ShW (n + m) d (ts.map Tok.line) := by
  have leaf : ∀ {n : Nat} {d : Dt} {ts : List Tok}, LeafN d ts → ShW n d (ts.map Tok.line) := by
    rintro n d ts ⟨r, hr, hk, rfl, rfl⟩
    exact sh_row hr (leaf_head hr hk)
  induction m with
  | zero => exact fun h _ _ => leaf h
  | succ m ih =>
    intro n d ts h hm hl
    rcases h with h | ⟨t, xs, ys, a, b, g, hl9, hx, hy, rfl, rfl⟩
    · exact leaf h
    · have la : a.length ≤ 900 := by rw [List.length_cons, List.length_append] at hl; omega
      have hs1 := shs_in (m := n + m) (fun d c h => ih h.1 (by omega) h.2) (hx.len la) (sh_nil (m := n + m)) (by show 0 + a.length ≤ 1000; omega)
      rw [List.nil_append, List.nil_append] at hs1
      have hq : gQ (.lst ys) := gQn_gQ (n := 0 + 2 * m + 3 + 1) (gQn_lst (hy.all (Q := gQn (0 + 2 * m + 3)) fun _ _ h => (nd_pd (n := 0) h).gq)) (by omega)
      by_cases c : ys = []
      · subst c
        have e := sh_block (m := n + m) (t := t) (b := (t.post, false, xs, [])) g hl9 rfl hs1 (sh_nil (m := n + m)) (by rw [List.length_map]; show a.length + 0 ≤ 10000; omega) hq
        rw [if_pos rfl] at e
        rw [if_pos rfl, List.map_cons, List.map_append]
        exact e
      · have lb : b.length ≤ 900 := by
          rw [if_neg c] at hl
          simp only [List.length_cons, List.length_append, List.length_nil] at hl
          omega
        have hs2 := shs_in (m := n + m) (fun d c h => ih h.1 (by omega) h.2) (hy.len lb) (sh_nil (m := n + m)) (by show 0 + b.length ≤ 1000; omega)
        rw [List.nil_append, List.nil_append] at hs2
        have e := sh_block (m := n + m) (t := t) (b := (t.post, false, xs, ys)) g hl9 rfl hs1 hs2 (by rw [List.length_map, List.length_map]; omega) hq
        rw [if_neg c] at e
        rw [if_neg c, List.map_cons, List.map_append, List.map_append, List.map_cons]
        exact e
theorem shown_nd {ds : List Dt} {as : List Tok} (h : AllN (Nd 5) ds as) (hl : as.length ≤ 100) : m_shown ds = .ok (joinL [10] (as.map Tok.line)) := by
  have hs := shs_in (m := 2 + 5) (fun d c h => nd_sh (n := 2) h.1 (by decide) h.2) (h.len (n := 900) (by omega)) (sh_nil (m := 2 + 5)) (by show 0 + as.length ≤ 1000; omega)
  rw [List.nil_append, List.nil_append] at hs
  unfold m_shown
  rw [show m_lines_of (eL eA ds) = .ok (as.map Tok.line) from sh_fuel (m := 7) hs, okb]
  have ht := toks_len (h.toks fun _ _ => nd_toks) hl
  have e1 : ((as.map Tok.line).map (·.length)) = (as.map Tok.line).map List.length := rfl
  have e2 : (as.map Tok.line).length = as.length := List.length_map ..
  rw [e_feed, gd (by unfold gJ; rw [e1, List.length_singleton]; omega), joinX_eq]
theorem read_nd {ds : List Dt} {as : List Tok} (h : AllN (Nd 5) ds as) (hl : as.length ≤ 40) : m_read (joinL [10] (as.map Tok.line)) = .ok ds := by
  refine read_run (h.toks fun _ _ => nd_toks) hl ?_
  have go : ∀ {ds : List Dt} {as : List Tok}, AllN (Nd 5) ds as → ∀ ps : List Dt, runT as (ps, []) = some (ps ++ ds, []) := by
    intro ds as h
    induction h with
    | nil => intro ps; rw [List.append_nil]; rfl
    | cons h hs ih =>
      intro ps
      rw [run_app, nd_run h ps [] (by decide)]
      show runT _ (ps ++ [_], []) = _
      rw [ih]
      simp
  exact go h []
abbrev cpL (m : Nat) : Dt → List Dt → R (List Dt) := fun y s => @m_law_copy_L1 (rc_2 m) s y
theorem cps_in {P : Dt → List Tok → Prop} {m : Nat} (k : ∀ (d : Dt) (a : List Tok), P d a → ∀ s : List Dt, s.length ≤ 1000 → cpL m d s = .ok (s ++ [d])) :
    ∀ {ds : List Dt} {as : List Tok}, AllN P ds as → ∀ {ps : List Dt}, ps.length + ds.length ≤ 1000 → foldR (cpL m) ds ps = .ok (ps ++ ds)
  | _, _, .nil, ps, _ => by rw [List.append_nil]; rfl
  | _, _, .cons (d := d) (ds := ds) h hs, ps, hl => by
    rw [List.length_cons] at hl
    show (cpL m d ps).bind _ = _
    rw [k _ _ h ps (by omega), okb, cps_in k hs (by rw [List.length_append, List.length_singleton]; omega)]
    simp
theorem cp_fuel {m : Nat} {ds : List Dt} (h : foldR (cpL m) ds [] = .ok ds) : (rc_2 (m + 1)).r_law_copy (.lst ds) = .ok ds := by
  show @m_law_copy_b (rc_2 m) (.lst ds) = _
  unfold m_law_copy_b
  rw [okb, okb, gd (show Dt.isQ (.lst ds) = true from rfl), okb]
  refine bd (a := ds) h rfl
theorem nd_pos {m : Nat} {d : Dt} {ts : List Tok} (h : Nd m d ts) : 1 ≤ ts.length := by
  cases m with
  | zero => obtain ⟨r, _, _, _, rfl⟩ := h; exact Nat.le_refl 1
  | succ m =>
    rcases h with ⟨r, _, _, _, rfl⟩ | ⟨t, xs, ys, a, b, _, _, _, _, _, rfl⟩
    · exact Nat.le_refl 1
    · rw [List.length_cons]; omega
theorem AllN.cnt {P : Dt → List Tok → Prop} (k : ∀ d a, P d a → 1 ≤ a.length) : ∀ {ds : List Dt} {as : List Tok}, AllN P ds as → ds.length ≤ as.length
  | _, _, .nil => Nat.le_refl _
  | _, _, .cons h hs => by
    have := k _ _ h
    have := hs.cnt k
    rw [List.length_cons, List.length_append]; omega
theorem nd_cp {m : Nat} : ∀ {n : Nat} {d : Dt} {ts : List Tok}, Nd m d ts → ts.length ≤ 900 → ∀ s : List Dt, s.length ≤ 1000 → cpL (n + m) d s = .ok (s ++ [d]) := by
  have leaf : ∀ {n : Nat} {d : Dt} {ts : List Tok}, LeafN d ts → ∀ s : List Dt, s.length ≤ 1000 → cpL n d s = .ok (s ++ [d]) := by
    rintro n d ts ⟨r, hr, ⟨h, x, e⟩, rfl, rfl⟩ s hs
    have hk := rk_ok hr.1
    rw [← rk_row r, e]
    rw [e] at hk
    show @m_law_copy_L1 (rc_2 n) s (eU eA (eS h :: x)) = _
    unfold m_law_copy_L1
    refine b0 ((hd_eq hk.1 low_w.1).trans (by rw [decide_eq_false hk.2.1])) ?_
    rw [okb, gd (show gL s from by show s.length < _; omega), okb]
    rfl
  induction m with
  | zero => exact fun h _ => leaf h
  | succ m ih =>
    intro n d ts h hl s hs
    rcases h with h | ⟨t, xs, ys, a, b, g, hl9, hx, hy, rfl, rfl⟩
    · exact leaf h s hs
    · have la : a.length ≤ 900 := by rw [List.length_cons, List.length_append] at hl; omega
      have cx := hx.cnt fun _ _ => nd_pos
      have cy := hy.cnt fun _ _ => nd_pos
      have lb : b.length ≤ 900 := by
        by_cases c : ys = []
        · subst c; cases hy; exact Nat.zero_le _
        · rw [if_neg c] at hl
          simp only [List.length_cons, List.length_append, List.length_nil] at hl
          omega
      have ex : eL eA xs = .lst xs := congrArg Dt.lst (map_eA xs)
      have ey : eL eA ys = .lst ys := congrArg Dt.lst (map_eA ys)
      have h1 : (rc_2 (n + m + 1)).r_law_copy (eL eA xs) = .ok xs := by rw [ex]; exact cp_fuel (cps_in (m := n + m) (fun d c h => ih h.1 h.2) (hx.len la) (ps := []) (by show 0 + xs.length ≤ 1000; omega))
      have h2 : (rc_2 (n + m + 1)).r_law_copy (eL eA ys) = .ok ys := by rw [ey]; exact cp_fuel (cps_in (m := n + m) (fun d c h => ih h.1 h.2) (hy.len lb) (ps := []) (by show 0 + ys.length ≤ 1000; omega))
      show @m_law_copy_L1 (rc_2 (n + m + 1)) s (eU eA [eS w_if, eU eA t.post, eL eA xs, eL eA ys]) = _
      unfold m_law_copy_L1
      have gg := gt4 (eS w_if) (eU eA t.post) (eL eA xs) (eL eA ys)
      refine b1 ((hd_eq low_w.1 low_w.1).trans (by rw [decide_eq_true rfl])) ?_
      rw [gd (iuU _), auU, gd gg.2.1, gd (iuU _), gd gg.2.2.1, show getI [eS w_if, eU eA t.post, eL eA xs, eL eA ys] 2 = eL eA xs from rfl, h1, okb, gd (iuU _), gd gg.2.2.2, show getI [eS w_if, eU eA t.post, eL eA xs, eL eA ys] 3 = eL eA ys from rfl, h2, okb, okb, okb, okb, okb, okb, gd (show gL s from by show s.length < _; omega), okb]
      show R.ok (s ++ [e4 eS eA (eL eA) (eL eA) (w_if, eU eA t.post, xs, ys)]) = _
      show _ = R.ok (s ++ [eU eA [eS w_if, eU eA t.post, eL eA xs, eL eA ys]])
      rw [show eU eA [eS w_if, eU eA t.post, eL eA xs, eL eA ys] = .tup [eS w_if, eU eA t.post, eL eA xs, eL eA ys] from congrArg Dt.tup (map_eA _)]
theorem copy_nd {ds : List Dt} {as : List Tok} (h : AllN (Nd 5) ds as) (hl : as.length ≤ 100) : m_law_copy (eL eA ds) = .ok ds := by
  have := h.cnt fun _ _ => nd_pos
  rw [show eL eA ds = .lst ds from congrArg Dt.lst (map_eA ds)]
  exact cp_fuel (m := 7) (cps_in (m := 2 + 5) (fun d c h => nd_cp (n := 2) h.1 h.2) (h.len (n := 900) (by omega)) (ps := []) (by show 0 + ds.length ≤ 1000; omega))
theorem al_fuel {k n m : Nat} {ds : List Dt} {as : List Tok} (hk : k = n + 2 * m + 4) (h : AllN (Nd m) ds as) : Al k (.lst ds) := by
  subst hk
  exact al_lst (n := n + 2 * m + 3) (h.all (Q := Al (n + 2 * m + 3)) fun _ _ h => (nd_pd (n := n) h).al)
theorem alike_lst {d : Dt} (h : Al 16 d) : m_law_alike d d = .ok true := h
theorem alike_nd {ds : List Dt} {as : List Tok} (h : AllN (Nd 5) ds as) : m_law_alike (eL eA ds) (eL eA ds) = .ok true := by
  rw [show eL eA ds = .lst ds from congrArg Dt.lst (map_eA ds)]
  exact alike_lst (al_fuel (k := 16) (n := 2) (m := 5) rfl h)
abbrev Lot := (List (List Nat)) × Dt × Int
def LotOk (l : Lot) : Prop := ∃ (k : Nat) (ts : List Tok), l.2.2 = (k : Int) ∧ l.1 = ts.map Tok.line ∧ Nd k l.2.1 ts
def LotsG (S : List Lot) : Prop := (∀ l ∈ S, LotOk l ∧ l.2.2 ≤ 5) ∧ (S.map fun l => l.1.length).sum ≤ 40
theorem lots_all {m : Nat} : ∀ {S : List Lot}, (∀ l ∈ S, LotOk l ∧ l.2.2 ≤ m) → ∃ as, AllN (Nd m) (S.map (·.2.1)) as ∧ as.map Tok.line = (S.map (·.1)).flatten
  | [], _ => ⟨[], .nil, rfl⟩
  | l :: S, h => by
    obtain ⟨⟨⟨k, ts, e1, e2, e3⟩, hm⟩, hS⟩ := List.forall_mem_cons.mp h
    obtain ⟨as, ha, el⟩ := lots_all hS
    have hm : l.2.2 ≤ (m : Int) := hm
    refine ⟨ts ++ as, .cons (nd_le (by omega) e3) ha, ?_⟩
    rw [List.map_append, List.map_cons, List.flatten_cons, e2, el]
theorem flat_len : ∀ S : List Lot, (S.map (·.1)).flatten.length = (S.map fun l => l.1.length).sum
  | [] => rfl
  | l :: S => by rw [List.map_cons, List.flatten_cons, List.length_append, flat_len S, List.map_cons, List.sum_cons]
theorem lots_len : ∀ {S : List Lot}, (∀ l ∈ S, LotOk l) → S.length ≤ (S.map fun l => l.1.length).sum
  | [], _ => Nat.le_refl _
  | l :: S, h => by
    obtain ⟨⟨k, ts, e1, e2, e3⟩, hS⟩ := List.forall_mem_cons.mp h
    have := lots_len hS
    have := nd_pos e3
    rw [List.length_cons, List.map_cons, List.sum_cons, e2, List.length_map]; omega
theorem fold_lines {f : Lot → List (List Nat) → R (List (List Nat))} (hf : ∀ y s, (s ++ y.1).length ≤ 1000 → f y s = .ok (s ++ y.1)) :
    ∀ (c : List Lot) (s : List (List Nat)), s.length + (c.map fun l => l.1.length).sum ≤ 1000 → foldR f c s = .ok (s ++ (c.map (·.1)).flatten)
  | [], s, _ => by rw [List.map_nil, List.flatten_nil, List.append_nil]; rfl
  | y :: c, s, h => by
    rw [List.map_cons, List.sum_cons] at h
    show (f y s).bind _ = _
    rw [hf y s (by rw [List.length_append]; omega), okb, fold_lines hf c _ (by rw [List.length_append]; omega), List.map_cons, List.flatten_cons, List.append_assoc]
theorem cut_dr12 {α : Type} {xs : List α} {k : Int} (h0 : 0 ≤ k) (h1 : k ≤ (xs.length : Int)) : cutL xs (some k) none = xs.drop k.toNat := by
  unfold cutL
  rw [sIx_at h0, show HT.sIx xs.length xs.length none = xs.length from rfl, Nat.min_eq_left (by omega)]
  exact List.take_of_length_le (by rw [List.length_drop]; omega)
theorem sum_take_drop : ∀ (S : List Lot) (k : Nat), ((S.take k).map fun l => l.1.length).sum + ((S.drop k).map fun l => l.1.length).sum = (S.map fun l => l.1.length).sum
  | S, 0 => by rw [List.take_zero, List.drop_zero]; exact Nat.zero_add _
  | [], k + 1 => by rfl
  | l :: S, k + 1 => by
    have := sum_take_drop S k
    rw [List.take_succ_cons, List.drop_succ_cons, List.map_cons, List.map_cons, List.sum_cons, List.sum_cons]; omega
theorem fold_end {S last : List Lot} {m c : Nat} {t : Tr} {many cut : Int} (g : goodL t) (tl : t.pre.length ≤ 9) (hS : LotsG S) (hm : m ≤ S.length) (em : many = (m : Int)) (ec : cut = (c : Int)) (hc : c ≤ m) (el : last = S.drop (S.length - m)) :
    Sat (m_law_folded_J3 S many last cut t.post (([(RowT.one w_if t).line] ++ ((last.take c).map (·.1)).flatten ++ (if c < m then [w_else] else [])) ++ ((last.drop c).map (·.1)).flatten)) fun M => (∀ l ∈ M, LotOk l) ∧ M.length ≤ 41 ∧ 0 < M.length := by
  have hl : last.length = m := by rw [el, List.length_drop]; omega
  have hS40 := lots_len fun l hl => (hS.1 l hl).1
  have hS2 := hS.2
  have hlast : ∀ l ∈ last, LotOk l ∧ l.2.2 ≤ 5 := fun l h => hS.1 l (List.mem_of_mem_drop (el ▸ h))
  unfold m_law_folded_J3
  rw [ec, cut_upto (by omega) (by omega), cut_dr12 (by omega) (by omega), Int.toNat_natCast]
  have lt1 : (last.take c).length ≤ 40 := by rw [List.length_take]; omega
  have lt2 : (last.drop c).length ≤ 40 := by rw [List.length_drop]; omega
  rw [okb, gd (by omega), mapR_eq (f := fun x => m_law_folded_C1 x) (g := fun l : Lot => l.2.1) fun x _ => rfl, okb, okb, gd (by omega), mapR_eq (f := fun x => m_law_folded_C2 x) (g := fun l : Lot => l.2.1) fun x _ => rfl, okb, okb, okb, okb, okb, okb, okb, okb, okb]
  rw [gd (by omega), mapR_eq (f := fun x => m_law_folded_C3 x) (g := fun l : Lot => l.2.2) fun x _ => rfl, okb]
  have lg : ([(0 : Int)] ++ last.map fun l : Lot => l.2.2).length = m + 1 := by rw [List.length_append, List.length_map, List.length_singleton]; omega
  rw [gd (by rw [lg]; omega), okb, gd (by rw [lg]; omega), okb, okb]
  have mx := maxL_mem (xs := [(0 : Int)] ++ last.map fun l : Lot => l.2.2) (by rw [lg]; omega)
  have mg := maxL_ge (xs := [(0 : Int)] ++ last.map fun l : Lot => l.2.2)
  generalize maxL ([(0 : Int)] ++ last.map fun l : Lot => l.2.2) = D at mx mg
  have hD : ∃ d : Nat, D = (d : Int) := by
    rcases List.mem_append.mp mx with h | h
    · exact ⟨0, by rw [List.mem_singleton] at h; exact h⟩
    · obtain ⟨l, hl, rfl⟩ := List.mem_map.mp h
      obtain ⟨k, ts, e1, _⟩ := (hlast l hl).1
      exact ⟨k, e1⟩
  obtain ⟨d, rfl⟩ := hD
  have hg : ∀ l ∈ last, LotOk l ∧ l.2.2 ≤ (d : Int) := fun l h => ⟨(hlast l h).1, mg _ (List.mem_append.mpr (.inr (List.mem_map.mpr ⟨l, h, rfl⟩)))⟩
  obtain ⟨as, ha, ea⟩ := lots_all (m := d) fun l h => hg l (List.mem_of_mem_take h)
  obtain ⟨bs, hb, eb⟩ := lots_all (m := d) fun l h => hg l (List.mem_of_mem_drop h)
  have hf1 := flat_len (last.take c)
  have hf2 := flat_len (last.drop c)
  have h12 := sum_take_drop last c
  have h34 := sum_take_drop S (S.length - m)
  rw [← el] at h34
  have lc : (cutL S none (some ((S.length : Int) - many))).length ≤ S.length := cutL_length_le
  refine sat_guard (by
    rw [List.length_append, List.length_append, List.length_append, List.length_append, List.length_singleton, List.length_singleton]
    have : (if c < m then [w_else] else []).length ≤ 1 := by split <;> simp
    omega) (sat_guard (by rw [List.length_append, List.length_singleton]; omega) (sat_ok ⟨fun l h => ?_, by rw [List.length_append, List.length_singleton]; omega, by rw [List.length_append, List.length_singleton]; omega⟩))
  rcases List.mem_append.mp h with h | h
  · exact (hS.1 l (cutL_mem h)).1
  · rw [List.mem_singleton] at h
    subst h
    refine ⟨d + 1, .row (.one w_if t) :: (as ++ ((if (last.drop c).map (fun l : Lot => l.2.1) = [] then [] else .els :: bs) ++ [.fin])), ?_, ?_, .inr ⟨t, _, _, as, bs, g, by omega, ha, hb, ?_, rfl⟩⟩
    · show (1 : Int) + d = ((d + 1 : Nat) : Int); omega
    · rw [← ea, ← eb]
      by_cases q : c < m
      · have ne : (last.drop c).map (fun l : Lot => l.2.1) ≠ [] := fun z => by
          have := congrArg List.length z
          rw [List.length_map, List.length_drop, List.length_nil] at this; omega
        rw [if_pos q, if_neg ne]
        simp only [List.map_cons, List.map_append, List.append_assoc, List.cons_append, List.nil_append, List.map_nil]
        rfl
      · have z : last.drop c = [] := List.drop_eq_nil_of_le (by omega)
        rw [z] at eb ⊢
        have : bs = [] := by cases bs with | nil => rfl | cons => cases eb
        subst this
        rw [if_neg q, if_pos (show List.map (fun l : Lot => l.2.1) [] = [] from rfl)]
        simp only [List.map_cons, List.map_append, List.append_assoc, List.cons_append, List.nil_append, List.map_nil]
        rfl
    · show e4 eS (eU eA) (eL eA) (eL eA) (w_if, t.post, _, _) = eU eA [eS w_if, eU eA t.post, eL eA _, eL eA _]
      rw [show eU eA [eS w_if, eU eA t.post, eL eA ((last.take c).map fun l : Lot => l.2.1), eL eA ((last.drop c).map fun l : Lot => l.2.1)] = .tup [eS w_if, eU eA t.post, eL eA ((last.take c).map fun l : Lot => l.2.1), eL eA ((last.drop c).map fun l : Lot => l.2.1)] from congrArg Dt.tup (map_eA _)]
theorem folded_ok (cell : Int) {ns : List (List Nat)} {S : List Lot} (hn : ns.length = 4) (hns : ∀ n ∈ ns, nameOk n) (hS : LotsG S) : Sat (m_law_folded S cell ns) fun M => (∀ l ∈ M, LotOk l) ∧ M.length ≤ 41 ∧ 0 < M.length := by
  unfold m_law_folded
  have hS40 := lots_len fun l hl => (hS.1 l hl).1
  have hS2 := hS.2
  rw [gd (divW (by decide) (by decide)), gd (by omega), okb]
  have m0 := Int.emod_nonneg (cell / 7) (b := (S.length : Int) + 1) (by omega)
  have m1 := Int.emod_lt_of_pos (cell / 7) (b := (S.length : Int) + 1) (by omega)
  generalize cell / 7 % ((S.length : Int) + 1) = many at m0 m1
  obtain ⟨m, rfl⟩ := Int.eq_ofNat_of_zero_le m0
  rw [okb, gd (divW (by decide) (by decide)), gd (by omega), okb]
  have c0 := Int.emod_nonneg (cell / 77) (b := (m : Int) + 1) (by omega)
  have c1 := Int.emod_lt_of_pos (cell / 77) (b := (m : Int) + 1) (by omega)
  generalize cell / 77 % ((m : Int) + 1) = cut at c0 c1
  obtain ⟨c, rfl⟩ := Int.eq_ofNat_of_zero_le c0
  have ed : cutL S (some ((S.length : Int) - (m : Int))) none = S.drop (S.length - m) := by
    rw [cut_dr12 (by omega) (by omega)]
    congr 1
    omega
  rw [ed]
  generalize hl : S.drop (S.length - m) = last
  have ll : last.length = m := by rw [← hl, List.length_drop]; omega
  have h34 := sum_take_drop S (S.length - m)
  rw [hl] at h34
  have h12 := sum_take_drop last c
  refine sat_bind (Q := fun e => ∃ t : Tr, goodL t ∧ e = (joinL [32] t.pre, t.post) ∧ t.pre.length ≤ 9) (sat_bind (Q := fun x => Spread x.1 6) (sat_bind (spread_ok cell 6 (by decide) (by decide)) fun xs hx => by rw [okb]; exact sat_ok hx) fun x hx => term_ok hx (by decide) hn hns) fun e he => ?_
  obtain ⟨t, g, rfl, tl⟩ := he
  dsimp only [R.sp2]
  have sl := tree_len g tl
  rw [gd (gS_of (by rw [List.length_append, lens5.2.2.2.2.2.2]; omega)), okb, okb]
  rw [headsB_eq.2.2.2.2.2, one_str, cut_upto (by omega) (by omega), Int.toNat_natCast]
  rw [fold_lines (f := fun y s => m_law_folded_L1 s y) (fun y s h => by unfold m_law_folded_L1; rw [gd (by omega)]; rfl) _ _ (by rw [List.length_singleton]; omega), okb]
  unfold m_law_folded_J1
  have hfl := flat_len (last.take c)
  refine sat_bind (Q := (· = [(RowT.one w_if t).line] ++ ((last.take c).map (·.1)).flatten ++ (if c < m then [w_else] else []))) ?_ fun s e => ?_
  · by_cases q : c < m
    · refine sat_bind (Q := (· = true)) (sat_ok (decide_eq_true (by omega))) fun b e => ?_
      subst e
      rw [if_pos rfl, if_pos q, okb, gd (show gL _ from by show List.length _ < _; rw [List.length_append, List.length_singleton]; omega), okb]
      exact sat_ok rfl
    · refine sat_bind (Q := (· = false)) (sat_ok (decide_eq_false (by omega))) fun b e => ?_
      subst e
      rw [if_neg (by decide), if_neg q, List.append_nil]
      exact sat_ok rfl
  · subst e
    unfold m_law_folded_J2
    have : (if c < m then [w_else] else []).length ≤ 1 := by split <;> simp
    rw [okb, cut_dr12 (by omega) (by omega), Int.toNat_natCast, fold_lines (f := fun y s => m_law_folded_L2 s y) (fun y s h => by unfold m_law_folded_L2; rw [gd (by omega)]; rfl) _ _ (by rw [List.length_append, List.length_append, List.length_singleton]; omega), okb]
    exact fold_end g tl hS (by omega) rfl rfl (by omega) hl.symm
theorem sum_c12 : ∀ l : List Lot, (l.map fun n => (n.1.length : Int)).sum = (((l.map fun n => n.1.length).sum : Nat) : Int)
  | [] => rfl
  | a :: l => by rw [List.map_cons, List.map_cons, List.sum_cons, List.sum_cons, sum_c12 l]; omega
theorem rows_step (cell : Int) {ns : List (List Nat)} {S : List Lot} (hn : ns.length = 4) (hns : ∀ n ∈ ns, nameOk n) (hS : LotsG S) : Sat (m_law_rows_L1 ns S cell) LotsG := by
  unfold m_law_rows_L1
  have hS40 := lots_len fun l hl => (hS.1 l hl).1
  have hS2 := hS.2
  refine sat_bind (Q := fun M => (∀ l ∈ M, LotOk l) ∧ M.length ≤ 41 ∧ 0 < M.length) ?_ fun M hM => ?_
  · refine sat_bind (Q := fun _ => True) (sat_guard (by decide) (sat_ok trivial)) fun b _ => sat_if (fun _ => ?_) fun _ => ?_
    · refine sat_bind (folded_ok cell hn hns hS) fun M h => sat_ok h
    · refine sat_bind (sat_guard (divW (by decide) (by decide)) (row_ok _ hn hns)) fun e he => ?_
      obtain ⟨r, hr, rfl, hk⟩ := he
      dsimp only [R.sp2]
      rw [gd (by rw [List.length_append, List.length_singleton]; omega), okb]
      refine sat_ok ⟨fun l h => ?_, by rw [List.length_append, List.length_singleton]; omega, by rw [List.length_append, List.length_singleton]; omega⟩
      rcases List.mem_append.mp h with h | h
      · exact (hS.1 l h).1
      · rw [List.mem_singleton] at h
        subst h
        exact ⟨0, [.row r], rfl, rfl, r, hr, hk, rfl, rfl⟩
  · obtain ⟨ho, hl, hp⟩ := hM
    unfold m_law_rows_J1
    rw [okb, okb, gd (by omega), gd (by omega), mapR_eq (f := fun x => m_law_rows_C1 x) (g := fun l : Lot => l.2.2) fun x _ => rfl, mapR_eq (f := fun x => m_law_rows_C2 x) (g := fun l : Lot => (l.1.length : Int)) fun x _ => rfl, okb, okb, okb, okb, okb, gd (by rw [List.length_map]; exact hp), okb, okb]
    have mg := maxL_ge (xs := M.map fun l : Lot => l.2.2)
    generalize maxL (M.map fun l : Lot => l.2.2) = D at mg
    have es : (M.map fun l : Lot => (l.1.length : Int)).sum = (((M.map fun l : Lot => l.1.length).sum : Nat) : Int) := sum_c12 M
    rw [es]
    refine sat_bind (Q := (· = (decide (D ≤ 5) && decide ((((M.map fun l : Lot => l.1.length).sum : Nat) : Int) ≤ 40)))) (sat_and (sat_ok rfl) fun _ => sat_ok rfl) fun b e => ?_
    refine sat_if (fun q => ?_) fun _ => sat_ok hS
    subst e
    rw [Bool.and_eq_true, decide_eq_true_eq, decide_eq_true_eq] at q
    refine sat_ok ⟨fun l h => ⟨ho l h, Int.le_trans (mg _ (List.mem_map.mpr ⟨l, h, rfl⟩)) q.1⟩, by have := q.2; omega⟩
theorem rows_ok {cells : List Int} {ns : List (List Nat)} (hn : ns.length = 4) (hns : ∀ n ∈ ns, nameOk n) : Sat (m_law_rows cells ns) fun e => ∃ ts, AllN (Nd 5) e.2 ts ∧ ts.length ≤ 40 ∧ e.1 = joinL [10] (ts.map Tok.line) := by
  unfold m_law_rows
  rw [okb, okb]
  refine sat_bind (sat_foldI LotsG ⟨fun l h => (nomatch h), Nat.zero_le _⟩ fun x s _ hs => rows_step x hn hns hs) fun S hS => ?_
  unfold m_law_rows_J2
  have hS40 := lots_len fun l hl => (hS.1 l hl).1
  have hS2 := hS.2
  rw [okb, okb, fold_lines (f := fun y s => m_law_rows_L2 y s) (fun y s h => by unfold m_law_rows_L2; rw [gd (by omega)]; rfl) _ _ (by show 0 + _ ≤ _; omega), okb]
  unfold m_law_rows_J3
  obtain ⟨ts, ha, el⟩ := lots_all (m := 5) hS.1
  rw [List.nil_append, ← el]
  have tl : ts.length ≤ 40 := by
    have := congrArg List.length el
    rw [List.length_map, flat_len] at this; omega
  have ht := toks_len (ha.toks fun _ _ => nd_toks) (by omega)
  have e1 : ((ts.map Tok.line).map (·.length)) = (ts.map Tok.line).map List.length := rfl
  have e2 : (ts.map Tok.line).length = ts.length := List.length_map ..
  rw [okb, e_feed, gd (by unfold gJ; rw [e1, List.length_singleton]; omega), okb, okb, gd (by omega), mapR_eq (f := fun x => m_law_rows_C3 x) (g := fun l : Lot => l.2.1) fun x _ => rfl, okb, okb, okb, okb]
  exact sat_ok ⟨ts, ha, tl, joinX_eq ..⟩
def ApOk (d : Dt) : Prop := (∃ h x, d = eU eA (eS h :: x) ∧ h ≠ w_if) ∨ (∃ t xs ys, d = rowM (t, xs, ys) ∧ Al 16 (.lst xs) ∧ ys.length ≤ 1000)
theorem nd_ap {d : Dt} {ts : List Tok} (h : Nd 5 d ts) (hl : ts.length ≤ 100) : ApOk d := by
  rcases h with ⟨r, hr, ⟨h, x, e⟩, rfl, rfl⟩ | ⟨t, xs, ys, a, b, g, hl9, hx, hy, rfl, rfl⟩
  · have hk := rk_ok hr.1
    rw [e] at hk
    exact .inl ⟨h, x, by rw [← rk_row r, e]; rfl, hk.2.1⟩
  · refine .inr ⟨eU eA t.post, xs, ys, (closed_is (t.post, false, xs, ys)).symm, al_fuel (k := 16) (n := 4) (m := 4) rfl hx, ?_⟩
    have cy := hy.cnt fun _ _ => nd_pos
    by_cases c : ys = []
    · rw [c]; decide
    · rw [if_neg c] at hl
      simp only [List.length_cons, List.length_append, List.length_nil] at hl
      omega
theorem getI_at {α : Type} [Inhabited α] {P r : List α} {d : α} : inB (P ++ d :: r) (P.length : Int) ∧ getI (P ++ d :: r) (P.length : Int) = d := by
  have hb : inB (P ++ d :: r) (P.length : Int) := inB_of (by omega) (by rw [List.length_append, List.length_cons]; omega)
  refine ⟨hb, ?_⟩
  have := getI_get hb
  rw [show ixI (P ++ d :: r) (P.length : Int) = P.length from by unfold ixI; rw [if_pos (by omega)]; omega, List.getElem?_append_right (Nat.le_refl _), Nat.sub_self] at this
  exact (Option.some.inj this).symm
theorem setI_at {α : Type} {P r : List α} {d e : α} : setI (P ++ d :: r) (P.length : Int) e = P ++ e :: r := by
  unfold setI
  rw [show ixI (P ++ d :: r) (P.length : Int) = P.length from by unfold ixI; rw [if_pos (by omega)]; omega, List.set_append_right _ _ (Nat.le_refl _), Nat.sub_self]
  rfl
theorem cut_at {α : Type} {P r : List α} {d : α} : cutL (P ++ d :: r) (some ((P.length : Int) + 1)) none = r := by
  rw [cut_dr12 (by omega) (by rw [List.length_append, List.length_cons]; omega), show ((P.length : Int) + 1).toNat = P.length + 1 from by omega, List.drop_append, show P.length + 1 - P.length = 1 from by omega, List.drop_of_length_le (by omega)]
  rfl
theorem eS_in12 {a b : List Nat} (h : eS a = eS b) : a = b := Sx_inj.mp (by injection h)
theorem iu12 (p : Dt × List Dt × List Dt) : Dt.isU (rowM p) = true := rfl
theorem asX_str (h : List Nat) : Dt.isX (eS h) = true ∧ Dt.asX (eS h) = h := by
  have g : Dt.isX (eS h) = true := rfl
  exact ⟨g, (eS_in12 (asX_eq g)).symm⟩
theorem ap_step {P Q r : List Dt} {d : Dt} (hp : P.length = Q.length) (hd : ApOk d) (hr : Al 16 (.lst r)) : ∃ d', m_law_apart_L1 (P ++ d :: r) (Q ++ d :: r) (Q.length : Int) = .ok (.nx (P ++ d' :: r)) := by
  have gp := getI_at (P := P) (r := r) (d := d)
  have gq := getI_at (P := Q) (r := r) (d := d)
  rw [hp] at gp
  unfold m_law_apart_L1
  rcases hd with ⟨h, x, rfl, ne⟩ | ⟨t, xs, ys, rfl, hx, hy⟩
  · refine ⟨_, b0 ?_ rfl⟩
    rw [gd gp.1, gp.2, gd (iuU _), auU, gd (inB_of (by decide) (by rw [List.length_cons]; omega)), show getI (eS h :: x) 0 = eS h from rfl, gd (asX_str h).1, (asX_str h).2, decide_eq_false ne]
  · have eb : ∀ t xs ys, rowB (rowM (t, xs, ys)) = some (t, xs, ys) := fun t xs ys => by
      show (if wIf = wIf then some (t, xs, ys) else none) = _
      rw [if_pos rfl]
    have et : ∀ t xs ys, rowT (rowM (t, xs, ys)) = (t, xs, ys) := fun t xs ys => by
      show (rowB (rowM (t, xs, ys))).getD _ = _
      rw [eb]; rfl
    have i0 : ∀ t xs ys, inB (Dt.asU (rowM (t, xs, ys))) 0 ∧ inB (Dt.asU (rowM (t, xs, ys))) 2 := fun t xs ys => ⟨(gt4 (eS w_if) t (.lst xs) (.lst ys)).1, (gt4 (eS w_if) t (.lst xs) (.lst ys)).2.2.1⟩
    refine ⟨rowM (t, [], ys ++ [(e2 eS (e1 eI)) ((lt "say"), (1 : Int))]), b1 ?_ ?_⟩
    · rw [gd gp.1, gp.2, gd (iu12 _), gd (i0 _ _ _).1, show getI (Dt.asU (rowM (t, xs, ys))) 0 = eS w_if from rfl, gd (asX_str _).1, (asX_str _).2, decide_eq_true rfl]
    · rw [gd gp.1, gp.2, gd (by rw [eb]; rfl), okb, et, gd (show gL ys from by show ys.length < _; omega), okb]
      dsimp only
      rw [← hp, setI_at]
      have gp2 := getI_at (P := P) (r := r) (d := rowM (t, xs, ys ++ [(e2 eS (e1 eI)) ((lt "say"), (1 : Int))]))
      refine b0 (orF ?_ ?_) ?_
      · rw [gd gp2.1, gp2.2, gd (iu12 _), gd (i0 _ _ _).2, hp, gd gq.1, gq.2, gd (iu12 _), gd (i0 _ _ _).2, show getI (Dt.asU (rowM (t, xs, ys))) 2 = .lst xs from rfl]
        show R.not (m_law_alike (.lst xs) (.lst xs)).calm = _
        rw [alike_lst hx]
        rfl
      · rw [cut_at, hp, cut_at, show eL eA r = .lst r from congrArg Dt.lst (map_eA r), alike_lst hr]
        rfl
      · rw [gd gp2.1, gp2.2, gd (by rw [eb]; rfl), et, okb, setI_at]
theorem ap_go : ∀ (r P Q : List Dt), P.length = Q.length → (∀ d ∈ r, ApOk d ∧ Al 15 d) → ∃ F, forR (fun y s => m_law_apart_L1 s (Q ++ r) y) ((List.range' Q.length r.length).map fun (i : Nat) => (0 : Int) + (i : Int)) (P ++ r) = .ok (.nx F)
  | [], P, Q, _, _ => ⟨_, rfl⟩
  | d :: r, P, Q, hp, h => by
    obtain ⟨⟨hd, _⟩, hr⟩ := List.forall_mem_cons.mp h
    obtain ⟨d', e⟩ := ap_step hp hd (al_lst (n := 15) fun x hx => (hr x hx).2)
    obtain ⟨F, hF⟩ := ap_go r (P ++ [d']) (Q ++ [d]) (by rw [List.length_append, List.length_append, hp]; rfl) hr
    refine ⟨F, ?_⟩
    rw [List.length_cons, List.range'_succ, List.map_cons]
    show (m_law_apart_L1 (P ++ d :: r) (Q ++ d :: r) ((0 : Int) + (Q.length : Int))).bind _ = _
    rw [Int.zero_add, e]
    rw [List.length_append, List.length_singleton, List.append_assoc, List.append_assoc] at hF
    exact hF
theorem apart_ok {ds : List Dt} {as : List Tok} (h : AllN (Nd 5) ds as) (hl : as.length ≤ 40) : m_law_apart ds ds = .ok (true, []) := by
  have := h.cnt fun _ _ => nd_pos
  have hA : ∀ d ∈ ds, ApOk d ∧ Al 15 d := (h.len (n := 100) (by omega)).all fun d a h => ⟨nd_ap h.1 h.2, (nd_pd (n := 2) h.1).al⟩
  obtain ⟨F, hF⟩ := ap_go ds [] [] rfl hA
  rw [List.nil_append, List.length_nil] at hF
  unfold m_law_apart
  have er : rng 0 (ds.length : Int) = (List.range' 0 ds.length).map fun (i : Nat) => (0 : Int) + (i : Int) := by
    unfold rng
    rw [← List.range_eq_range']
    congr 2
  rw [okb, gd (gR_of (by omega) (by omega)), okb, er]
  refine bd (a := .nx F) hF rfl
theorem law_ok (ns : List Int) (h : ns.length ≤ 63) (hb : ∀ z ∈ ns, Sm.bits z) : m_law ns = .ok true := by
  apply sat_eq
  unfold m_law
  refine sat_bind (Q := fun ns : List (List Nat) => ns.length = 4 ∧ ∀ n ∈ ns, nameOk n) (arg1 (Q := fun _ => True) (by
    unfold m_law_cell_at
    refine sat_bind (Q := (· = decide ((0 : Int) < (ns.length : Int)))) (sat_ok rfl) fun b hb => ?_
    subst hb
    exact sat_if (fun c => sat_guard (inB_of (by decide) (of_decide_eq_true c)) (sat_ok trivial)) fun _ => sat_ok trivial) fun a _ => names_ok a) fun names hn => ?_
  refine sat_bind (rows_ok hn.1 hn.2) fun e he => ?_
  obtain ⟨line, rows⟩ := e
  obtain ⟨ts, ha, hl, rfl⟩ := he
  dsimp only at ha
  dsimp only [R.sp2]
  have hc := copy_nd ha (by omega)
  have hs := shown_nd ha (by omega)
  have hr := read_nd ha hl
  have hal := alike_nd ha
  rw [hc, okb, hs, okb]
  refine sat_bind (Q := (· = false)) (sat_of (orF rfl (orF (by rw [decide_eq_true rfl]; rfl) (by rw [hal]; rfl))) rfl) fun b e => ?_
  subst e
  rw [if_neg (by decide), hr, okb, hal]
  refine sat_bind (Q := (· = false)) (sat_ok rfl) fun b e => ?_
  subst e
  rw [if_neg (by decide)]
  rw [okb, apart_ok ha hl, okb, okb]
  dsimp only
  rw [if_pos rfl]
  refine sat_bind (Q := fun p : Bool × List Dt => p.1 = true) (sat_bind (Q := (· = true)) (sat_and (x := true) (y := true) (by rw [okb, okb, okb]; exact sat_of hal rfl) fun _ => by rw [okb, okb, okb]; dsimp only; rw [hs, okb, okb]; exact sat_ok (decide_eq_true rfl)) fun b e => sat_ok e) fun p e => sat_ok e
end Mi
namespace Wa
open PySem PySem.Spec PyProof.Rows L2 Sm Mi
def top (i : Nat) : Stmt := PySem.Challenge.pw_forerun_k12_shown_and_read_again.main.body.getD i (.Pass ⟨0, 0, 0, 0⟩)
abbrev FnP (K : PySem.W.Frag) (x : Str) (st : Stmt) (f : Addr) (fd : FuncData) : Prop := FunD K x x (defArgs st) (defBody st) (defScope st) [] [] f fd
abbrev FnQ (K : PySem.W.Frag) (x q : Str) (st : Stmt) (f : Addr) (fd : FuncData) : Prop := FunD K x q (defArgs st) (defBody st) (defScope st) [] [] f fd
abbrev fs_Block : List Str := ["term", "turned", "firsts", "others"]
abbrev oOb_Block (K : PySem.W.Frag) (x : S_Block) : Own := .ins (He.ga K "Block") fs_Block [oD (eU eA) x.1, oD eB x.2.1, oL eA x.2.2.1, oL eA x.2.2.2]
abbrev s_NoDealing_init : Stmt := (clsBody (top 4)).getD 0 (.Pass ⟨0, 0, 0, 0⟩)
abbrev N_NoDealing_init : List Str := (["self", "row"] : List Str)
theorem sc_NoDealing_init : FnScope N_NoDealing_init ["self", "row"] (defScope s_NoDealing_init) := ⟨rfl, rfl, rfl, by decide +kernel, rfl, by decide +kernel, by decide +kernel⟩
abbrev s_is_worth : Stmt := top 8
abbrev N_is_worth : List Str := (["thing"] : List Str)
theorem sc_is_worth : FnScope N_is_worth ["thing"] (defScope s_is_worth) := ⟨rfl, rfl, rfl, by decide +kernel, rfl, by decide +kernel, by decide +kernel⟩
abbrev sp_is_worth (K : PySem.W.Frag) (Ce : Exn → Addr) : Sp := spD (α := Bool) K Ce 1 (fun x : Int => [eI x]) (fun x => m_is_worth x) (oD eB)
abbrev s_numeral : Stmt := top 9
abbrev N_numeral : List Str := (["worth"] : List Str)
theorem sc_numeral : FnScope N_numeral ["worth"] (defScope s_numeral) := ⟨rfl, rfl, rfl, by decide +kernel, rfl, by decide +kernel, by decide +kernel⟩
abbrev sp_numeral (K : PySem.W.Frag) (Ce : Exn → Addr) : Sp := spD (α := (List Nat)) K Ce 1 (fun x : Dt => [eA x]) (fun x => m_numeral x) (oD eS)
abbrev s_is_name : Stmt := top 16
abbrev N_is_name : List Str := (["text", "sign"] : List Str)
theorem sc_is_name : FnScope N_is_name ["text"] (defScope s_is_name) := ⟨rfl, rfl, rfl, by decide +kernel, rfl, by decide +kernel, by decide +kernel⟩
abbrev sp_is_name (K : PySem.W.Frag) (Ce : Exn → Addr) : Sp := spD (α := Bool) K Ce 1 (fun x : (List Nat) => [eS x]) (fun x => m_is_name x) (oD eB)
abbrev s_Block_init : Stmt := (clsBody (top 28)).getD 0 (.Pass ⟨0, 0, 0, 0⟩)
abbrev N_Block_init : List Str := (["self", "term"] : List Str)
theorem sc_Block_init : FnScope N_Block_init ["self", "term"] (defScope s_Block_init) := ⟨rfl, rfl, rfl, by decide +kernel, rfl, by decide +kernel, by decide +kernel⟩
abbrev sp_Block_init (K : PySem.W.Frag) (Ce : Exn → Addr) : Sp := spF (α := (Unit × S_Block)) K Ce 2 [0] (fun x : (List Dt) => [Own.ins (He.ga K "Block") [] [], .dat ((eU eA) x)]) (fun x => m_Block_init x) (fun a => oD eN a.1) (fun a => [oOb_Block K a.2]) (fun x => [Own.ins (He.ga K "Block") [] []])
abbrev s_Block_closed : Stmt := (clsBody (top 28)).getD 1 (.Pass ⟨0, 0, 0, 0⟩)
abbrev N_Block_closed : List Str := (["self"] : List Str)
theorem sc_Block_closed : FnScope N_Block_closed ["self"] (defScope s_Block_closed) := ⟨rfl, rfl, rfl, by decide +kernel, rfl, by decide +kernel, by decide +kernel⟩
abbrev sp_Block_closed (K : PySem.W.Frag) (Ce : Exn → Addr) : Sp := spF (α := Dt) K Ce 1 [] (fun x : S_Block => [oOb_Block K x]) (fun x => m_Block_closed x) oRow (fun _ => []) (fun _ => [])
abbrev s_Block_rows_now : Stmt := (clsBody (top 28)).getD 2 (.Pass ⟨0, 0, 0, 0⟩)
abbrev N_Block_rows_now : List Str := (["self"] : List Str)
theorem sc_Block_rows_now : FnScope N_Block_rows_now ["self"] (defScope s_Block_rows_now) := ⟨rfl, rfl, rfl, by decide +kernel, rfl, by decide +kernel, by decide +kernel⟩
abbrev s_law_cell_at : Stmt := top 35
abbrev N_law_cell_at : List Str := (["script", "k"] : List Str)
theorem sc_law_cell_at : FnScope N_law_cell_at ["script", "k"] (defScope s_law_cell_at) := ⟨rfl, rfl, rfl, by decide +kernel, rfl, by decide +kernel, by decide +kernel⟩
abbrev sp_law_cell_at (K : PySem.W.Frag) (Ce : Exn → Addr) : Sp := spD (α := Int) K Ce 2 (fun x : ((List Int) × Int) => [eX x.1, eI x.2]) (fun x => m_law_cell_at x.1 x.2) (oD eI)
abbrev s_law_spread : Stmt := top 36
abbrev N_law_spread : List Str := (["cell", "many", "spread", "low", "high", "k"] : List Str)
theorem sc_law_spread : FnScope N_law_spread ["cell", "many"] (defScope s_law_spread) := ⟨rfl, rfl, rfl, by decide +kernel, rfl, by decide +kernel, by decide +kernel⟩
abbrev sp_law_spread (K : PySem.W.Frag) (Ce : Exn → Addr) : Sp := spD (α := (List Int)) K Ce 2 (fun x : (Int × Int) => [eI x.1, eI x.2]) (fun x => m_law_spread x.1 x.2) (oD (eL eI))
abbrev s_law_letters : Stmt := top 37
abbrev N_law_letters : List Str := (["number", "many", "letters", "found", "k"] : List Str)
theorem sc_law_letters : FnScope N_law_letters ["number", "many"] (defScope s_law_letters) := ⟨rfl, rfl, rfl, by decide +kernel, rfl, by decide +kernel, by decide +kernel⟩
abbrev sp_law_letters (K : PySem.W.Frag) (Ce : Exn → Addr) : Sp := spD (α := (List Nat)) K Ce 2 (fun x : (Int × Int) => [eI x.1, eI x.2]) (fun x => m_law_letters x.1 x.2) (oD eS)
abbrev s_law_free : Stmt := top 38
abbrev N_law_free : List Str := (["name"] : List Str)
theorem sc_law_free : FnScope N_law_free ["name"] (defScope s_law_free) := ⟨rfl, rfl, rfl, by decide +kernel, rfl, by decide +kernel, by decide +kernel⟩
abbrev sp_law_free (K : PySem.W.Frag) (Ce : Exn → Addr) : Sp := spD (α := (List Nat)) K Ce 1 (fun x : (List Nat) => [eS x]) (fun x => m_law_free x) (oD eS)
abbrev s_law_leaf : Stmt := top 40
abbrev N_law_leaf : List Str := (["number", "names", "name", "worth"] : List Str)
theorem sc_law_leaf : FnScope N_law_leaf ["number", "names"] (defScope s_law_leaf) := ⟨rfl, rfl, rfl, by decide +kernel, rfl, by decide +kernel, by decide +kernel⟩
abbrev sp_law_leaf (K : PySem.W.Frag) (Ce : Exn → Addr) : Sp := spD (α := ((List (List Nat)) × (List Dt))) K Ce 2 (fun x : (Int × (List (List Nat))) => [eI x.1, (eL eS) x.2]) (fun x => m_law_leaf x.1 x.2) (oD (e2 (eL eS) (eU eA)))
abbrev s_law_joined : Stmt := top 41
abbrev N_law_joined : List Str := (["some", "number", "doer", "first", "second"] : List Str)
theorem sc_law_joined : FnScope N_law_joined ["some", "number"] (defScope s_law_joined) := ⟨rfl, rfl, rfl, by decide +kernel, rfl, by decide +kernel, by decide +kernel⟩
abbrev sp_law_joined (K : PySem.W.Frag) (Ce : Exn → Addr) : Sp := spD (α := (List ((List (List Nat)) × (List Dt)))) K Ce 2 (fun x : ((List ((List (List Nat)) × (List Dt))) × Int) => [(eL (e2 (eL eS) (eU eA))) x.1, eI x.2]) (fun x => m_law_joined x.1 x.2) (oD (eL (e2 (eL eS) (eU eA))))
abbrev s_worth_in : Stmt := top 10
abbrev N_worth_in : List Str := (["text", "figures", "sign", "worth"] : List Str)
theorem sc_worth_in : FnScope N_worth_in ["text"] (defScope s_worth_in) := ⟨rfl, rfl, rfl, by decide +kernel, rfl, by decide +kernel, by decide +kernel⟩
abbrev sp_worth_in (K : PySem.W.Frag) (Ce : Exn → Addr) : Sp := spD (α := Int) K Ce 1 (fun x : (List Nat) => [eS x]) (fun x => m_worth_in x) (oD eI)
abbrev s_words_of : Stmt := top 19
abbrev N_words_of : List Str := (["term", "parts", "part", "second", "first"] : List Str)
theorem sc_words_of : FnScope N_words_of ["term"] (defScope s_words_of) := ⟨rfl, rfl, rfl, by decide +kernel, rfl, by decide +kernel, by decide +kernel⟩
abbrev sp_words_of (K : PySem.W.Frag) (Ce : Exn → Addr) : Sp := spD (α := (List (List Nat))) K Ce 1 (fun x : Dt => [eA x]) (fun x => m_words_of x) (oD (eL eS))
abbrev s_law_names : Stmt := top 39
abbrev N_law_names : List Str := (["cell", "letters", "xs", "base", "at", "first", "turned", "k", "some", "letter", "name"] : List Str)
theorem sc_law_names : FnScope N_law_names ["cell"] (defScope s_law_names) := ⟨rfl, rfl, rfl, by decide +kernel, rfl, by decide +kernel, by decide +kernel⟩
abbrev sp_law_names (K : PySem.W.Frag) (Ce : Exn → Addr) : Sp := spD (α := (List (List Nat))) K Ce 1 (fun x : Int => [eI x]) (fun x => m_law_names x) (oD (eL eS))
abbrev s_law_term : Stmt := top 42
abbrev N_law_term : List Str := (["xs", "names", "some", "k"] : List Str)
theorem sc_law_term : FnScope N_law_term ["xs", "names"] (defScope s_law_term) := ⟨rfl, rfl, rfl, by decide +kernel, rfl, by decide +kernel, by decide +kernel⟩
abbrev sp_law_term (K : PySem.W.Frag) (Ce : Exn → Addr) : Sp := spD (α := ((List Nat) × (List Dt))) K Ce 2 (fun x : ((List Int) × (List (List Nat))) => [(eL eI) x.1, (eL eS) x.2]) (fun x => m_law_term x.1 x.2) (oD (e2 eS (eU eA)))
abbrev s_part_in : Stmt := top 17
abbrev N_part_in : List Str := (["word"] : List Str)
theorem sc_part_in : FnScope N_part_in ["word"] (defScope s_part_in) := ⟨rfl, rfl, rfl, by decide +kernel, rfl, by decide +kernel, by decide +kernel⟩
abbrev sp_part_in (K : PySem.W.Frag) (Ce : Exn → Addr) : Sp := spD (α := Dt) K Ce 1 (fun x : (List Nat) => [eS x]) (fun x => m_part_in x) (oD eA)
abbrev s_written : Stmt := top 21
abbrev N_written : List Str := (["words", "term"] : List Str)
theorem sc_written : FnScope N_written ["words", "term"] (defScope s_written) := ⟨rfl, rfl, rfl, by decide +kernel, rfl, by decide +kernel, by decide +kernel⟩
abbrev sp_written (K : PySem.W.Frag) (Ce : Exn → Addr) : Sp := spD (α := (List Nat)) K Ce 2 (fun x : ((List (List Nat)) × Dt) => [(eL eS) x.1, eA x.2]) (fun x => m_written x.1 x.2) (oD eS)
abbrev s_put_in : Stmt := top 32
abbrev N_put_in : List Str := (["row", "rows", "blocks"] : List Str)
theorem sc_put_in : FnScope N_put_in ["row", "rows", "blocks"] (defScope s_put_in) := ⟨rfl, rfl, rfl, by decide +kernel, rfl, by decide +kernel, by decide +kernel⟩
abbrev sp_put_in (K : PySem.W.Frag) (Ce : Exn → Addr) : Sp := spF (α := (Bool × (List Dt) × (List S_Block))) K Ce 3 [1, 2] (fun x : (Dt × (List Dt) × (List S_Block)) => [.dat (eA x.1), oM (oRow) x.2.1, oM (oOb_Block K) x.2.2]) (fun x => m_put_in x.1 x.2.1 x.2.2) (fun a => oD eB a.1) (fun a => [oM (oRow) a.2.1, oM (oOb_Block K) a.2.2]) (fun x => [oM (oRow) x.2.1, oM (oOb_Block K) x.2.2])
abbrev s_law_row : Stmt := top 43
abbrev N_law_row : List Str := (["cell", "names", "xs", "line", "term", "shelf", "kind", "slot", "other", "worth"] : List Str)
theorem sc_law_row : FnScope N_law_row ["cell", "names"] (defScope s_law_row) := ⟨rfl, rfl, rfl, by decide +kernel, rfl, by decide +kernel, by decide +kernel⟩
abbrev sp_law_row (K : PySem.W.Frag) (Ce : Exn → Addr) : Sp := spD (α := ((List Nat) × (List Dt))) K Ce 2 (fun x : (Int × (List (List Nat))) => [eI x.1, (eL eS) x.2]) (fun x => m_law_row x.1 x.2) (oD (e2 eS (eU eA)))
abbrev s_law_folded : Stmt := top 44
abbrev N_law_folded : List Str := (["some", "cell", "names", "many", "last", "cut", "line", "term", "lines", "lot", "row", "deep"] : List Str)
theorem sc_law_folded : FnScope N_law_folded ["some", "cell", "names"] (defScope s_law_folded) := ⟨rfl, rfl, rfl, by decide +kernel, rfl, by decide +kernel, by decide +kernel⟩
abbrev sp_law_folded (K : PySem.W.Frag) (Ce : Exn → Addr) : Sp := spD (α := (List ((List (List Nat)) × Dt × Int))) K Ce 3 (fun x : ((List ((List (List Nat)) × Dt × Int)) × Int × (List (List Nat))) => [(eL (e3 (eL eS) eA eI)) x.1, eI x.2.1, (eL eS) x.2.2]) (fun x => m_law_folded x.1 x.2.1 x.2.2) (oD (eL (e3 (eL eS) eA eI)))
abbrev s_term_from : Stmt := top 18
abbrev N_term_from : List Str := (["words", "at", "told", "waiting", "lacking", "place", "word"] : List Str)
theorem sc_term_from : FnScope N_term_from ["words", "at"] (defScope s_term_from) := ⟨rfl, rfl, rfl, by decide +kernel, rfl, by decide +kernel, by decide +kernel⟩
abbrev sp_term_from (K : PySem.W.Frag) (Ce : Exn → Addr) : Sp := spD (α := ((List Dt) × Int)) K Ce 2 (fun x : ((List (List Nat)) × Int) => [(eL eS) x.1, eI x.2]) (fun x => m_term_from x.1 x.2) (oD (e2 (eU eA) eI))
abbrev s_line_of : Stmt := top 22
abbrev N_line_of : List Str := (["row"] : List Str)
theorem sc_line_of : FnScope N_line_of ["row"] (defScope s_line_of) := ⟨rfl, rfl, rfl, by decide +kernel, rfl, by decide +kernel, by decide +kernel⟩
abbrev sp_line_of (K : PySem.W.Frag) (Ce : Exn → Addr) : Sp := spD (α := (List Nat)) K Ce 1 (fun x : Dt => [eA x]) (fun x => m_line_of x) (oD eS)
abbrev s_law_rows : Stmt := top 45
abbrev N_law_rows : List Str := (["cells", "names", "some", "cell", "made", "line", "row", "lot", "lines"] : List Str)
theorem sc_law_rows : FnScope N_law_rows ["cells", "names"] (defScope s_law_rows) := ⟨rfl, rfl, rfl, by decide +kernel, rfl, by decide +kernel, by decide +kernel⟩
abbrev sp_law_rows (K : PySem.W.Frag) (Ce : Exn → Addr) : Sp := spD (α := ((List Nat) × (List Dt))) K Ce 2 (fun x : ((List Int) × (List (List Nat))) => [(eL eI) x.1, (eL eS) x.2]) (fun x => m_law_rows x.1 x.2) (oD (e2 eS (eL eA)))
abbrev s_take_of : Stmt := top 29
abbrev N_take_of : List Str := (["words", "term", "behind"] : List Str)
theorem sc_take_of : FnScope N_take_of ["words"] (defScope s_take_of) := ⟨rfl, rfl, rfl, by decide +kernel, rfl, by decide +kernel, by decide +kernel⟩
abbrev sp_take_of (K : PySem.W.Frag) (Ce : Exn → Addr) : Sp := spD (α := (Option (List Dt))) K Ce 1 (fun x : (List (List Nat)) => [(eL eS) x]) (fun x => m_take_of x) (oD (eO (eU eA)))
abbrev s_row_of : Stmt := top 30
abbrev N_row_of : List Str := (["words", "head", "term", "behind", "row", "worth"] : List Str)
theorem sc_row_of : FnScope N_row_of ["words"] (defScope s_row_of) := ⟨rfl, rfl, rfl, by decide +kernel, rfl, by decide +kernel, by decide +kernel⟩
abbrev sp_row_of (K : PySem.W.Frag) (Ce : Exn → Addr) : Sp := spD (α := (Option (List Dt))) K Ce 1 (fun x : (List (List Nat)) => [(eL eS) x]) (fun x => m_row_of x) (oD (eO (eU eA)))
abbrev s_row_in : Stmt := top 31
abbrev N_row_in : List Str := (["line", "words"] : List Str)
theorem sc_row_in : FnScope N_row_in ["line"] (defScope s_row_in) := ⟨rfl, rfl, rfl, by decide +kernel, rfl, by decide +kernel, by decide +kernel⟩
abbrev sp_row_in (K : PySem.W.Frag) (Ce : Exn → Addr) : Sp := spD (α := (Option (List Dt))) K Ce 1 (fun x : (List Nat) => [eS x]) (fun x => m_row_in x) (oD (eO (eU eA)))
abbrev s_read : Stmt := top 33
abbrev N_read : List Str := (["text", "rows", "blocks", "lines", "number", "line"] : List Str)
theorem sc_read : FnScope N_read ["text"] (defScope s_read) := ⟨rfl, rfl, rfl, by decide +kernel, rfl, by decide +kernel, by decide +kernel⟩
abbrev sp_read (K : PySem.W.Frag) (Ce : Exn → Addr) : Sp := spD (α := (List Dt)) K Ce 1 (fun x : (List Nat) => [eS x]) (fun x => m_read x) (oM (oRow))
abbrev s_law_copy : Stmt := top 46
abbrev N_law_copy : List Str := (["rows", "made", "row"] : List Str)
theorem sc_law_copy : FnScope N_law_copy ["rows"] (defScope s_law_copy) := ⟨rfl, rfl, rfl, by decide +kernel, rfl, by decide +kernel, by decide +kernel⟩
abbrev sp_law_copy_ (K : PySem.W.Frag) (Ce : Exn → Addr) (rm : Dt → R (List Dt)) : Sp := spD (α := (List Dt)) K Ce 1 (fun x : Dt => [eA x]) (fun x => rm x) (oL eA)
abbrev sp_law_copy (K : PySem.W.Frag) (Ce : Exn → Addr) : Sp := sp_law_copy_ K Ce m_law_copy
abbrev s_lines_of : Stmt := top 23
abbrev N_lines_of : List Str := (["rows", "lines", "row"] : List Str)
theorem sc_lines_of : FnScope N_lines_of ["rows"] (defScope s_lines_of) := ⟨rfl, rfl, rfl, by decide +kernel, rfl, by decide +kernel, by decide +kernel⟩
abbrev sp_lines_of_ (K : PySem.W.Frag) (Ce : Exn → Addr) (rm : Dt → R (List (List Nat))) : Sp := spD (α := (List (List Nat))) K Ce 1 (fun x : Dt => [eA x]) (fun x => rm x) (oL eS)
abbrev sp_lines_of (K : PySem.W.Frag) (Ce : Exn → Addr) : Sp := sp_lines_of_ K Ce m_lines_of
abbrev s_shown : Stmt := top 24
abbrev N_shown : List Str := (["rows"] : List Str)
theorem sc_shown : FnScope N_shown ["rows"] (defScope s_shown) := ⟨rfl, rfl, rfl, by decide +kernel, rfl, by decide +kernel, by decide +kernel⟩
abbrev sp_shown (K : PySem.W.Frag) (Ce : Exn → Addr) : Sp := spD (α := (List Nat)) K Ce 1 (fun x : (List Dt) => [(eL eA) x]) (fun x => m_shown x) (oD eS)
abbrev s_law_alike : Stmt := top 47
abbrev N_law_alike : List Str := (["found", "due", "one", "other"] : List Str)
theorem sc_law_alike : FnScope N_law_alike ["found", "due"] (defScope s_law_alike) := ⟨rfl, rfl, rfl, by decide +kernel, rfl, by decide +kernel, by decide +kernel⟩
abbrev sp_law_alike_ (K : PySem.W.Frag) (Ce : Exn → Addr) (rm : Dt → Dt → R Bool) : Sp := spD (α := Bool) K Ce 2 (fun x : (Dt × Dt) => [eA x.1, eA x.2]) (fun x => rm x.1 x.2) (oD eB)
abbrev sp_law_alike (K : PySem.W.Frag) (Ce : Exn → Addr) : Sp := sp_law_alike_ K Ce m_law_alike
abbrev s_law_apart : Stmt := top 48
abbrev N_law_apart : List Str := (["found", "rows", "k"] : List Str)
theorem sc_law_apart : FnScope N_law_apart ["found", "rows"] (defScope s_law_apart) := ⟨rfl, rfl, rfl, by decide +kernel, rfl, by decide +kernel, by decide +kernel⟩
abbrev sp_law_apart (K : PySem.W.Frag) (Ce : Exn → Addr) : Sp := spF (α := (Bool × (List Dt))) K Ce 2 [0] (fun x : ((List Dt) × (List Dt)) => [oM (oRow) x.1, .dat ((eL eA) x.2)]) (fun x => m_law_apart x.1 x.2) (fun a => oD eB a.1) (fun a => [oM (oRow) a.2]) (fun x => [oM (oRow) x.1])
abbrev s_law : Stmt := top 49
abbrev N_law : List Str := (["script", "names", "line", "rows", "handed", "told", "found"] : List Str)
theorem sc_law : FnScope N_law ["script"] (defScope s_law) := ⟨rfl, rfl, rfl, by decide +kernel, rfl, by decide +kernel, by decide +kernel⟩
abbrev sp_law (K : PySem.W.Frag) (Ce : Exn → Addr) : Sp := spD (α := Bool) K Ce 1 (fun x : (List Int) => [eX x]) (fun x => (m_law x).calm) (oD eB)
def CeF (K : PySem.W.Frag) : Exn → Addr
  | .noNumber => He.ga K "NoNumber"
  | .noTerm => He.ga K "NoTerm"
  | .noDealing _ => He.ga K "NoDealing"
  | _ => He.ga K "ForerunError"
def tab_DOERS : List He.Dv := [He.Dv.str "plus", He.Dv.str "minus", He.Dv.str "times", He.Dv.str "over", He.Dv.str "rest", He.Dv.str "under", He.Dv.str "same"]
def tab_HEADS : List He.Dv := [He.Dv.str "take", He.Dv.str "give", He.Dv.str "let", He.Dv.str "say", He.Dv.str "off", He.Dv.str "if", He.Dv.str "else", He.Dv.str "end", He.Dv.str "as"]
structure Tx (K : PySem.W.Frag) (mg : Str → Option Value) where
  f_NoDealing_init : Addr
  d_NoDealing_init : FuncData
  F_NoDealing_init : FnQ K "__init__" "NoDealing.__init__" s_NoDealing_init f_NoDealing_init d_NoDealing_init
  g_NoDealing_init : L2.Meth K (He.ga K "NoDealing") "__init__" f_NoDealing_init
  f_is_worth : Addr
  d_is_worth : FuncData
  F_is_worth : FnP K "is_worth" s_is_worth f_is_worth d_is_worth
  g_is_worth : mg "is_worth" = some (.ref f_is_worth)
  f_numeral : Addr
  d_numeral : FuncData
  F_numeral : FnP K "numeral" s_numeral f_numeral d_numeral
  g_numeral : mg "numeral" = some (.ref f_numeral)
  f_is_name : Addr
  d_is_name : FuncData
  F_is_name : FnP K "is_name" s_is_name f_is_name d_is_name
  g_is_name : mg "is_name" = some (.ref f_is_name)
  f_Block_init : Addr
  d_Block_init : FuncData
  F_Block_init : FnQ K "__init__" "Block.__init__" s_Block_init f_Block_init d_Block_init
  g_Block_init : L2.Mk K (He.ga K "Block") f_Block_init
  f_Block_closed : Addr
  d_Block_closed : FuncData
  F_Block_closed : FnQ K "closed" "Block.closed" s_Block_closed f_Block_closed d_Block_closed
  g_Block_closed : L2.Meth K (He.ga K "Block") "closed" f_Block_closed
  f_Block_rows_now : Addr
  d_Block_rows_now : FuncData
  F_Block_rows_now : FnQ K "rows_now" "Block.rows_now" s_Block_rows_now f_Block_rows_now d_Block_rows_now
  g_Block_rows_now : L2.Meth K (He.ga K "Block") "rows_now" f_Block_rows_now
  f_law_cell_at : Addr
  d_law_cell_at : FuncData
  F_law_cell_at : FnP K "_law_cell_at" s_law_cell_at f_law_cell_at d_law_cell_at
  g_law_cell_at : mg "_law_cell_at" = some (.ref f_law_cell_at)
  f_law_spread : Addr
  d_law_spread : FuncData
  F_law_spread : FnP K "_law_spread" s_law_spread f_law_spread d_law_spread
  g_law_spread : mg "_law_spread" = some (.ref f_law_spread)
  f_law_letters : Addr
  d_law_letters : FuncData
  F_law_letters : FnP K "_law_letters" s_law_letters f_law_letters d_law_letters
  g_law_letters : mg "_law_letters" = some (.ref f_law_letters)
  f_law_free : Addr
  d_law_free : FuncData
  F_law_free : FnP K "_law_free" s_law_free f_law_free d_law_free
  g_law_free : mg "_law_free" = some (.ref f_law_free)
  f_law_leaf : Addr
  d_law_leaf : FuncData
  F_law_leaf : FnP K "_law_leaf" s_law_leaf f_law_leaf d_law_leaf
  g_law_leaf : mg "_law_leaf" = some (.ref f_law_leaf)
  f_law_joined : Addr
  d_law_joined : FuncData
  F_law_joined : FnP K "_law_joined" s_law_joined f_law_joined d_law_joined
  g_law_joined : mg "_law_joined" = some (.ref f_law_joined)
  f_worth_in : Addr
  d_worth_in : FuncData
  F_worth_in : FnP K "worth_in" s_worth_in f_worth_in d_worth_in
  g_worth_in : mg "worth_in" = some (.ref f_worth_in)
  f_words_of : Addr
  d_words_of : FuncData
  F_words_of : FnP K "words_of" s_words_of f_words_of d_words_of
  g_words_of : mg "words_of" = some (.ref f_words_of)
  f_law_names : Addr
  d_law_names : FuncData
  F_law_names : FnP K "_law_names" s_law_names f_law_names d_law_names
  g_law_names : mg "_law_names" = some (.ref f_law_names)
  f_law_term : Addr
  d_law_term : FuncData
  F_law_term : FnP K "_law_term" s_law_term f_law_term d_law_term
  g_law_term : mg "_law_term" = some (.ref f_law_term)
  f_part_in : Addr
  d_part_in : FuncData
  F_part_in : FnP K "part_in" s_part_in f_part_in d_part_in
  g_part_in : mg "part_in" = some (.ref f_part_in)
  f_written : Addr
  d_written : FuncData
  F_written : FnP K "written" s_written f_written d_written
  g_written : mg "written" = some (.ref f_written)
  f_put_in : Addr
  d_put_in : FuncData
  F_put_in : FnP K "put_in" s_put_in f_put_in d_put_in
  g_put_in : mg "put_in" = some (.ref f_put_in)
  f_law_row : Addr
  d_law_row : FuncData
  F_law_row : FnP K "_law_row" s_law_row f_law_row d_law_row
  g_law_row : mg "_law_row" = some (.ref f_law_row)
  f_law_folded : Addr
  d_law_folded : FuncData
  F_law_folded : FnP K "_law_folded" s_law_folded f_law_folded d_law_folded
  g_law_folded : mg "_law_folded" = some (.ref f_law_folded)
  f_term_from : Addr
  d_term_from : FuncData
  F_term_from : FnP K "term_from" s_term_from f_term_from d_term_from
  g_term_from : mg "term_from" = some (.ref f_term_from)
  f_line_of : Addr
  d_line_of : FuncData
  F_line_of : FnP K "line_of" s_line_of f_line_of d_line_of
  g_line_of : mg "line_of" = some (.ref f_line_of)
  f_law_rows : Addr
  d_law_rows : FuncData
  F_law_rows : FnP K "_law_rows" s_law_rows f_law_rows d_law_rows
  g_law_rows : mg "_law_rows" = some (.ref f_law_rows)
  f_take_of : Addr
  d_take_of : FuncData
  F_take_of : FnP K "take_of" s_take_of f_take_of d_take_of
  g_take_of : mg "take_of" = some (.ref f_take_of)
  f_row_of : Addr
  d_row_of : FuncData
  F_row_of : FnP K "row_of" s_row_of f_row_of d_row_of
  g_row_of : mg "row_of" = some (.ref f_row_of)
  f_row_in : Addr
  d_row_in : FuncData
  F_row_in : FnP K "row_in" s_row_in f_row_in d_row_in
  g_row_in : mg "row_in" = some (.ref f_row_in)
  f_read : Addr
  d_read : FuncData
  F_read : FnP K "read" s_read f_read d_read
  g_read : mg "read" = some (.ref f_read)
  f_law_copy : Addr
  d_law_copy : FuncData
  F_law_copy : FnP K "_law_copy" s_law_copy f_law_copy d_law_copy
  g_law_copy : mg "_law_copy" = some (.ref f_law_copy)
  f_lines_of : Addr
  d_lines_of : FuncData
  F_lines_of : FnP K "lines_of" s_lines_of f_lines_of d_lines_of
  g_lines_of : mg "lines_of" = some (.ref f_lines_of)
  f_shown : Addr
  d_shown : FuncData
  F_shown : FnP K "shown" s_shown f_shown d_shown
  g_shown : mg "shown" = some (.ref f_shown)
  f_law_alike : Addr
  d_law_alike : FuncData
  F_law_alike : FnP K "_law_alike" s_law_alike f_law_alike d_law_alike
  g_law_alike : mg "_law_alike" = some (.ref f_law_alike)
  f_law_apart : Addr
  d_law_apart : FuncData
  F_law_apart : FnP K "_law_apart" s_law_apart f_law_apart d_law_apart
  g_law_apart : mg "_law_apart" = some (.ref f_law_apart)
  f_law : Addr
  d_law : FuncData
  F_law : FnP K "law" s_law f_law d_law
  g_law : mg "law" = some (.ref f_law)
  x_NoNumber : mg "NoNumber" = some (.ref (He.ga K "NoNumber"))
  x_NoTerm : mg "NoTerm" = some (.ref (He.ga K "NoTerm"))
  x_Block : mg "Block" = some (.ref (He.ga K "Block"))
  x_NoDealing : mg "NoDealing" = some (.ref (He.ga K "NoDealing"))
  cl_Block : L2.Cls K (He.ga K "Block")
  na_NoDealing_row : L2.NoAttr K (He.ga K "NoDealing") "row"
  na_Block_term : L2.NoAttr K (He.ga K "Block") "term"
  na_Block_turned : L2.NoAttr K (He.ga K "Block") "turned"
  na_Block_firsts : L2.NoAttr K (He.ga K "Block") "firsts"
  na_Block_others : L2.NoAttr K (He.ga K "Block") "others"
  q_NoNumber : PySem.W.excIn K (He.ga K "NoNumber") He.veBase "ValueError.__new__" = true
  k_NoNumber : PySem.W.keepIn K (.ref (He.ga K "NoNumber")) = true
  b_NoNumber : PySem.W.subIn K (.ref (He.ga K "NoNumber")) (.type "BaseException") = some true
  t_NoNumber : PySem.W.typeIn K (.ref (He.ga K "NoNumber")) = some (.type "type")
  q_NoTerm : PySem.W.excIn K (He.ga K "NoTerm") He.veBase "ValueError.__new__" = true
  k_NoTerm : PySem.W.keepIn K (.ref (He.ga K "NoTerm")) = true
  b_NoTerm : PySem.W.subIn K (.ref (He.ga K "NoTerm")) (.type "BaseException") = some true
  t_NoTerm : PySem.W.typeIn K (.ref (He.ga K "NoTerm")) = some (.type "type")
  ck0 : L2.OexC K (He.ga K "NoDealing")
  ck1 : ∀ e : Exn, e.plain = true → PySem.W.exmOne K (.ref (CeF K e)) (.ref (He.ga K "NoNumber")) = some (e.is "NoNumber")
  ck2 : ∀ e : Exn, e.plain = true → PySem.W.exmOne K (.ref (CeF K e)) (.ref (He.ga K "NoTerm")) = some (e.is "NoTerm")
  n_isinstance : mg "isinstance" = none
  n_int : mg "int" = none
  n_bool : mg "bool" = none
  n_str : mg "str" = none
  n_len : mg "len" = none
  n_range : mg "range" = none
  n_max : mg "max" = none
  n_tuple : mg "tuple" = none
  n_sum : mg "sum" = none
  n_enumerate : mg "enumerate" = none
  n_list : mg "list" = none
  n_zip : mg "zip" = none
  c_MOST : ∃ u, mg "MOST" = some u ∧ RelV (.int 1000000000000000000000000000000) u
  a_DOERS : Addr
  c_DOERS : ∃ u, mg "DOERS" = some u ∧ RelV (.ref a_DOERS) u
  s_DOERS : ∀ H, SqT K H a_DOERS [V.str "plus", V.str "minus", V.str "times", V.str "over", V.str "rest", V.str "under", V.str "same"]
  r_DOERS : ∀ B, RpA K B (k_DOERS.map eS) [V.str "plus", V.str "minus", V.str "times", V.str "over", V.str "rest", V.str "under", V.str "same"]
  a_HEADS : Addr
  c_HEADS : ∃ u, mg "HEADS" = some u ∧ RelV (.ref a_HEADS) u
  s_HEADS : ∀ H, SqT K H a_HEADS [V.str "take", V.str "give", V.str "let", V.str "say", V.str "off", V.str "if", V.str "else", V.str "end", V.str "as"]
  r_HEADS : ∀ B, RpA K B (k_HEADS.map eS) [V.str "take", V.str "give", V.str "let", V.str "say", V.str "off", V.str "if", V.str "else", V.str "end", V.str "as"]
  c_LETTERS : ∃ u, mg "LETTERS" = some u ∧ RelV (.str "abcdefghijklmnopqrstuvwxyz") u
  c_FIGURES : ∃ u, mg "FIGURES" = some u ∧ RelV (.str "0123456789") u
  c_MOST_BLOCKS : ∃ u, mg "MOST_BLOCKS" = some u ∧ RelV (.int 5) u
  c_MOST_WORDS : ∃ u, mg "MOST_WORDS" = some u ∧ RelV (.int 60) u
  c_MOST_ROWS : ∃ u, mg "MOST_ROWS" = some u ∧ RelV (.int 40) u
abbrev Tx.Ce {K : PySem.W.Frag} {mg : Str → Option Value} (_ : Tx K mg) : Exn → Addr := CeF K
section
variable {P : Program} {w : World} {K : PySem.W.Frag} {mg : Str → Option Value} {base : Heap}
theorem bn_law_copy (tx : Tx K mg) : Binds K tx.d_law_copy ["rows"] [] := tx.F_law_copy.bindsN fun _ _ _ _ _ _ us hl => match us, hl with | [_], _ => rfl
theorem bn_lines_of (tx : Tx K mg) : Binds K tx.d_lines_of ["rows"] [] := tx.F_lines_of.bindsN fun _ _ _ _ _ _ us hl => match us, hl with | [_], _ => rfl
theorem bn_law_alike (tx : Tx K mg) : Binds K tx.d_law_alike ["found", "due"] [] := tx.F_law_alike.bindsN fun _ _ _ _ _ _ us hl => match us, hl with | [_, _], _ => rfl
theorem bn_NoDealing_init (tx : Tx K mg) : Binds K tx.d_NoDealing_init ["self", "row"] [] := tx.F_NoDealing_init.bindsN fun _ _ _ _ _ _ us hl => match us, hl with | [_, _], _ => rfl
theorem ok_NoDealing_init (tx : Tx K mg) : FnOk P w K mg base (L2.CX P w) 1 tx.f_NoDealing_init tx.d_NoDealing_init ["self", "row"] (spXi (He.ga K "NoDealing") "row") :=
  tx.F_NoDealing_init.ok sc_NoDealing_init (fun _ _ _ _ h => spXi_len h) (fun cdv A outer s H vs Q E hr h => ⟨_, (pss_one (ps_ost (pv 0) (pv 1))), xi_body tx.ck0 tx.na_NoDealing_row h⟩)
theorem bn_is_worth (tx : Tx K mg) : Binds K tx.d_is_worth ["thing"] [] := tx.F_is_worth.bindsN fun _ _ _ _ _ _ us hl => match us, hl with | [_], _ => rfl
theorem okN_is_worth (tx : Tx K mg) : FnOk P w K mg base (L2N.CX P w) 1 tx.f_is_worth tx.d_is_worth ["thing"] (sp_is_worth K tx.Ce) := by
  refine tx.F_is_worth.ok sc_is_worth (fun vs H Q E h => spF_len (n := 1) rfl vs H Q E h) (fun cdv A outer s H vs Q E hr h => ⟨_, (pss_cons (ps_if (pw_or (pt_not (pt_val (pe_callB (r := rIsiY K) call_isiY (by rfl) tx.n_isinstance (by rfl) (pa_cons (pv 0) (pa_cons (pe_bltn (v := .ty "int") (by rfl) tx.n_int (by rfl) rfl) pa_nil))))) (pw_or1 (pt_val (pe_callB (r := rIsiY K) call_isiY (by rfl) tx.n_isinstance (by rfl) (pa_cons (pv 0) (pa_cons (pe_bltn (v := .ty "bool") (by rfl) tx.n_bool (by rfl) rfl) pa_nil)))))).pt (pss_one (ps_ret pe_bl)) pss_nil) (pss_one (ps_ret (pe_chain op_le op_le (pe_un un_neg (C8.pe_gc (by rfl) tx.c_MOST)) (pv 0) (C8.pe_gc (by rfl) tx.c_MOST))))), ?_⟩)
  obtain ⟨v_thing, F, W, rfl, ni, hst, hw, ok, rt⟩ := spD_start N_is_worth h
  generalize L2.start N_is_worth vs = σ at hst ⊢
  have hw : W (m_is_worth v_thing) := hw
  replace ok := ok (List.replicate 1 none)
  have hst : Stt F [some (oD eI v_thing)] [] σ H := hst
  unfold m_is_worth at hw
  refine q_seq ?_
  refine s_ifM hst hw ok (mt_ok (et_or (et_not (et_B (ev_isi (d := eI v_thing) (show kitB "int" "int" = some true by decide +kernel) (ev_var (i := 0) (by rfl))))) (et_B (ev_isi (d := eI v_thing) (show kitB "int" "bool" = some false by decide +kernel) (ev_var (i := 0) (by rfl)))))) ?_ ?_
  · clear hst hw
    intro H hw hst
    exact s_retF (t := oD eB) hst hw ok (mv_ok (t := oD eB) (ev_bl)) fun a v H w s => rt _ _ _ _ _ _ w s
  · clear hst hw
    intro H hw hst
    refine s_next ?_
    refine q_nx ?_
    exact s_retF (t := oD eB) hst hw ok (mv_ok (t := oD eB) ((ev_chain (g1 := fun i j => decide (i ≤ j)) (g2 := fun i j => decide (i ≤ j)) (ev_neg ev_int) (ev_var (i := 0) (by rfl)) ev_int))) fun a v H w s => rt _ _ _ _ _ _ w s
theorem bn_numeral (tx : Tx K mg) : Binds K tx.d_numeral ["worth"] [] := tx.F_numeral.bindsN fun _ _ _ _ _ _ us hl => match us, hl with | [_], _ => rfl
theorem ok_numeral (tx : Tx K mg) : FnOk P w K mg base (L2.CX P w) 1 tx.f_numeral tx.d_numeral ["worth"] (sp_numeral K tx.Ce) := by
  refine tx.F_numeral.ok sc_numeral (fun vs H Q E h => spF_len (n := 1) rfl vs H Q E h) (fun cdv A outer s H vs Q E hr h => ⟨_, (pss_one (ps_ret (pe_callTy call_str_int (by rfl) tx.n_str (by rfl) (pa_cons (pv 0) pa_nil)))), ?_⟩)
  obtain ⟨v_worth, F, W, rfl, ni, hst, hw, ok, rt⟩ := spD_start N_numeral h
  generalize L2.start N_numeral vs = σ at hst ⊢
  have hw : W (m_numeral v_worth) := hw
  replace ok := ok (List.replicate 1 none)
  have hst : Stt F [some (oD eA v_worth)] [] σ H := hst
  unfold m_numeral at hw
  exact s_retF (t := oD eS) hst hw ok (mv_guard fun g1 => mv_guard fun g2 => mv_ok (t := oD eS) ((ev_strI g2 (ev_asI g1 (ev_var (i := 0) (by rfl)))))) fun a v H w s => rt _ _ _ _ _ _ w s
theorem bn_is_name (tx : Tx K mg) : Binds K tx.d_is_name ["text"] [] := tx.F_is_name.bindsN fun _ _ _ _ _ _ us hl => match us, hl with | [_], _ => rfl
theorem ok_is_name (tx : Tx K mg) : FnOk P w K mg base (L2.CX P w) 1 tx.f_is_name tx.d_is_name ["text"] (sp_is_name K tx.Ce) := by
  refine tx.F_is_name.ok sc_is_name (fun vs H Q E h => spF_len (n := 1) rfl vs H Q E h) (fun cdv A outer s H vs Q E hr h => ⟨_, (pss_cons (ps_if (pw_or (pt_cmpR op_eq (pv 0) pe_str (by first | exact nomark _ | rfl)) (pw_or (pt_cmpR op_gt (pe_callB call_len_str (by rfl) tx.n_len (by rfl) (pa_cons (pv 0) pa_nil)) pe_int (by first | exact nomark _ | rfl)) (pw_or (pt_cmpR (r := rIn K false) op_in_seq (pv 0) (C8.pe_gc (by rfl) tx.c_DOERS) (by first | exact nomark _ | rfl)) (pw_or1 (pt_cmpR (r := rIn K false) op_in_seq (pv 0) (C8.pe_gc (by rfl) tx.c_HEADS) (by first | exact nomark _ | rfl)))))).pt (pss_one (ps_ret pe_bl)) pss_nil) (pss_cons (ps_for (passes_of rfl) rfl (pi_str (pv 0)) (pg_name (i := 1) sc_is_name.nd rfl (by first | exact Or.inl rfl | exact Or.inr rfl)) (pss_one (ps_if (pt_cmpR op_notIn_sign (pv 1) (C8.pe_gc (by rfl) tx.c_LETTERS) (by first | exact nomark _ | rfl)) (pss_one (ps_ret pe_bl)) pss_nil))) (pss_one (ps_ret pe_bl)))), ?_⟩)
  obtain ⟨v_text, F, W, rfl, ni, hst, hw, ok, rt⟩ := spD_start N_is_name h
  generalize L2.start N_is_name vs = σ at hst ⊢
  have hw : W (m_is_name v_text) := hw
  replace ok := ok (List.replicate 2 none)
  have hst : Stt F [some (oD eS v_text), none] [] σ H := hst
  unfold m_is_name at hw
  refine q_seq ?_
  refine s_ifM hst hw ok (mt_or (mt_ok (et_test (ev_eqX (ev_var (i := 0) (by rfl)) ev_lit))) (mt_or (mt_guard fun g3 => mt_ok (et_test (ev_gt (ev_lenSx g3 (ev_var (i := 0) (by rfl))) ev_int))) (mt_or (mt_ok (et_test (ev_inTX (ev_var (i := 0) (by rfl)) (ev_globT tx.s_DOERS (tx.r_DOERS))))) (mt_ok (et_test (ev_inTX (ev_var (i := 0) (by rfl)) (ev_globT tx.s_HEADS (tx.r_HEADS)))))))) ?_ ?_
  · clear hst hw
    intro H hw hst
    exact s_retF (t := oD eB) hst hw ok (mv_ok (t := oD eB) (ev_bl)) fun a v H w s => rt _ _ _ _ _ _ w s
  · clear hst hw
    intro H hw hst
    refine s_next ?_
    refine q_nx ?_
    refine q_seq ?_
    refine s_forM (S := Unit) (β := Bool) (xs := fun c12 => c12) (enc := eC) (f := fun c12 y4 s5 => m_is_name_L1 y4) (Γs := fun s5 => [some (oD eS v_text), none]) (Γb := fun _ y4 s5 => [some (oD eS v_text), some (oD eC y4)]) (s0 := ()) hst hw ok (sr_strX (mv_ok (t := oD eS) ((ev_var (i := 0) (by rfl))))) (.same (.same .nil)) (fun _ _ _ => (tg_name (j := 1) (show 1 < 2 by decide) (ni _))) ?_ ?_
    · clear hst hw ok
      intro _ v_sign s5 W6 hN7p hB8p T9 σ H ok r10 hw hst hN7 hB8
      have rt11 := fun a v T Γ σ H' w s => rt a v T Γ σ H' (r10 a w) s
      have hw : W6 (m_is_name_L1 v_sign) := hw
      have hst : Stt F [some (oD eS v_text), some (oD eC v_sign)] T9 σ H := hst
      unfold m_is_name_L1 at hw
      refine s_ifM hst hw ok (mt_ok (et_test (ev_ninX (ev_var (i := 1) (by rfl)) ev_lit))) ?_ ?_
      · clear hst hw
        intro H hw hst
        exact s_retM (t := oD eB) hst hw ok (mv_ok (t := oD eB) (ev_bl)) fun a v H w s => rt11 _ _ _ _ _ _ w s
      · clear hst hw
        intro H hw hst
        refine s_next ?_
        exact hN7 () _ _ hw (hst.weak (.same (.drop .nil)))
    · clear hst hw
      intro s5 σ H hw hst
      have hw : W (m_is_name_J1 ) := hw
      have hst : Stt F [some (oD eS v_text), none] [] σ H := hst
      replace hst := hst.weak (Γ' := [none, none]) (.drop (.same .nil))
      unfold m_is_name_J1 at hw
      refine q_nx ?_
      exact s_retF (t := oD eB) hst hw ok (mv_ok (t := oD eB) (ev_bl)) fun a v H w s => rt _ _ _ _ _ _ w s
theorem bn_Block_init (tx : Tx K mg) : Binds K tx.d_Block_init ["self", "term"] [] := tx.F_Block_init.bindsN fun _ _ _ _ _ _ us hl => match us, hl with | [_, _], _ => rfl
theorem ok_Block_init (tx : Tx K mg) : FnOk P w K mg base (L2.CX P w) 1 tx.f_Block_init tx.d_Block_init ["self", "term"] (sp_Block_init K tx.Ce) := by
  refine tx.F_Block_init.ok sc_Block_init (fun vs H Q E h => spF_len (n := 2) rfl vs H Q E h) (fun cdv A outer s H vs Q E hr h => ⟨_, (pss_cons (ps_fldK (K := K) (pv 0) (pv 1) rfl) (pss_cons (ps_fldK (K := K) (pv 0) pe_bl rfl) (pss_cons (ps_fldK (K := K) (pv 0) (pe_lst pa_nil) rfl) (pss_one (ps_fldK (K := K) (pv 0) (pe_lst pa_nil) rfl))))), ?_⟩)
  obtain ⟨v_term, F, W, rfl, ni, hst, hw, ok, rt0⟩ := spF_start N_Block_init (by decide) (by decide) h
  generalize L2.start N_Block_init vs = σ at hst ⊢
  have rt : ∀ a v T Γ σ H', W (.ok a) → (∃ Γ1, Tk Γ (List.map Ag.s [0]) [oOb_Block F.K a.2] Γ1) → Stt F Γ ((v, oD eN a.1) :: T) σ H' → Q v H' := fun a v T Γ σ H' w z s => rt0 a v T Γ _ σ H' w z.choose_spec s
  clear rt0
  have hw : W (m_Block_init v_term) := hw
  replace ok := ok [some (Own.ins (He.ga F.K "Block") [] []), none] _ (.s (by rfl) .nil)
  have hst : Stt F [some (Own.ins (He.ga F.K "Block") [] []), some (oD (eU eA) v_term)] [] σ H := hst
  unfold m_Block_init at hw
  refine q_seq ?_
  refine s_fldNew3 (f := "term") (t := fun (a13 : (List Dt)) => oD (eU eA) a13) hst hw ok (mx_v (mv_ok (t := oD (eU eA)) ((ev_var (i := 1) (by rfl))))) (fun a13 => (lv_var (n := 0) (by rfl))) tx.cl_Block tx.na_Block_term (by decide) (put_new (by decide +kernel)) ?_
  clear hst hw
  intro a13 σ H hw hst
  have hst : Stt F [some (Own.ins (He.ga F.K "Block") ["term"] [oD (eU eA) a13]), some (oD (eU eA) v_term)] [] σ H := hst
  refine q_nx ?_
  refine q_seq ?_
  refine s_fldNew3 (f := "turned") (t := fun (a14 : Bool) => oD eB a14) hst hw ok (mx_v (mv_ok (t := oD eB) (ev_bl))) (fun a14 => (lv_var (n := 0) (by rfl))) tx.cl_Block tx.na_Block_turned (by decide) (put_new (by decide +kernel)) ?_
  clear hst hw
  intro a14 σ H hw hst
  have hst : Stt F [some (Own.ins (He.ga F.K "Block") ["term", "turned"] [oD (eU eA) a13, oD eB a14]), some (oD (eU eA) v_term)] [] σ H := hst
  refine q_nx ?_
  refine q_seq ?_
  refine s_fldNew3 (f := "firsts") (t := fun (a15 : (List Dt)) => oL eA a15) hst hw ok (mx_v (mv_ok (t := oL eA) ((ev_lst ea_nil (show 0 ≤ 1000 by decide))))) (fun a15 => (lv_var (n := 0) (by rfl))) tx.cl_Block tx.na_Block_firsts (by decide) (put_new (by decide +kernel)) ?_
  clear hst hw
  intro a15 σ H hw hst
  have hst : Stt F [some (Own.ins (He.ga F.K "Block") ["term", "turned", "firsts"] [oD (eU eA) a13, oD eB a14, oL eA a15]), some (oD (eU eA) v_term)] [] σ H := hst
  refine q_nx ?_
  refine s_fldNew3 (f := "others") (t := fun (a16 : (List Dt)) => oL eA a16) hst hw ok (mx_v (mv_ok (t := oL eA) ((ev_lst ea_nil (show 0 ≤ 1000 by decide))))) (fun a16 => (lv_var (n := 0) (by rfl))) tx.cl_Block tx.na_Block_others (by decide) (put_new (by decide +kernel)) ?_
  clear hst hw
  intro a16 σ H hw hst
  have hst : Stt F [some (oOb_Block F.K (a13, a14, a15, a16)), some (oD (eU eA) v_term)] [] σ H := hst
  obtain ⟨v_self, hw, hst⟩ := nm (P := fun v_self => Stt F [some (oOb_Block F.K v_self), some (oD (eU eA) v_term)] [] σ H) hw hst
  exact rt _ _ _ _ _ _ hw ⟨_, (.s (by rfl) .nil)⟩ (hst.push fun _ _ => by unfold Rp; rfl)
theorem bn_Block_closed (tx : Tx K mg) : Binds K tx.d_Block_closed ["self"] [] := tx.F_Block_closed.bindsN fun _ _ _ _ _ _ us hl => match us, hl with | [_], _ => rfl
theorem ok_Block_closed (tx : Tx K mg) : FnOk P w K mg base (L2.CX P w) 1 tx.f_Block_closed tx.d_Block_closed ["self"] (sp_Block_closed K tx.Ce) := by
  refine tx.F_Block_closed.ok sc_Block_closed (fun vs H Q E h => spF_len (n := 1) rfl vs H Q E h) (fun cdv A outer s H vs Q E hr h => ⟨_, (pss_one (ps_ret (pe_tup (pa_cons pe_str (pa_cons (pe_fldK (K := K) (pv 0) (by rfl)) (pa_cons (pe_fldK (K := K) (pv 0) (by rfl)) (pa_cons (pe_fldK (K := K) (pv 0) (by rfl)) pa_nil))))))), ?_⟩)
  obtain ⟨v_self, F, W, rfl, ni, hst, hw, ok, rt0⟩ := spF_start N_Block_closed (by decide) (by decide) h
  generalize L2.start N_Block_closed vs = σ at hst ⊢
  have rt : ∀ a v T Γ σ H', W (.ok a) → (∃ Γ1, Tk Γ (List.map Ag.s []) [] Γ1) → Stt F Γ ((v, oRow a) :: T) σ H' → Q v H' := fun a v T Γ σ H' w z s => rt0 a v T Γ _ σ H' w z.choose_spec s
  clear rt0
  have hw : W (m_Block_closed v_self) := hw
  replace ok := ok [some (oOb_Block F.K v_self)] _ .nil
  have hst : Stt F [some (oOb_Block F.K v_self)] [] σ H := hst
  unfold m_Block_closed at hw
  exact s_retX3 (k := fun (_ : Unit) => R.ok (rowM ((eU eA) v_self.1, v_self.2.2.1, v_self.2.2.2))) (t := fun (_ : Unit) => oRow (rowM ((eU eA) v_self.1, v_self.2.2.1, v_self.2.2.2))) hst hw ok (mx_cast4 (mx_tupP (map_ev (d := eS (lt "if")) ev_lit (map_ev (d := (eU eA) v_self.1) (ev_lv (lv_fld (f := "term") (j := 0) (lv_var (n := 0) (by rfl)) (by rfl) tx.cl_Block tx.na_Block_term (lk_ix (by decide +kernel)))) (map_place (lv_fld (f := "firsts") (j := 2) (lv_var (n := 0) (by rfl)) (by rfl) tx.cl_Block tx.na_Block_firsts (lk_ix (by decide +kernel))) (map_place (lv_fld (f := "others") (j := 3) (lv_var (n := 0) (by rfl)) (by rfl) tx.cl_Block tx.na_Block_others (lk_ix (by decide +kernel))) map_nil)))) (fun _ => by show 4 ≤ 1000; decide)) (fun _ => oRow_ifA)) fun a v H w s => rt _ v _ _ _ H w ⟨_, .nil⟩ s
theorem bn_Block_rows_now (tx : Tx K mg) : Binds K tx.d_Block_rows_now ["self"] [] := tx.F_Block_rows_now.bindsN fun _ _ _ _ _ _ us hl => match us, hl with | [_], _ => rfl
theorem ok_Block_rows_now (tx : Tx K mg) : FnOk P w K mg base (L2.CX P w) 1 tx.f_Block_rows_now tx.d_Block_rows_now ["self"] (spPm (He.ga K "Block") "turned" "firsts" "others") :=
  tx.F_Block_rows_now.ok sc_Block_rows_now (fun _ _ _ _ h => spPm_len h) (fun cdv A outer s H vs Q E hr h => ⟨_, (pss_cons (ps_if (pt_val (pe_fldK (K := K) (pv 0) (by rfl))) (pss_one (ps_ret (pe_fldK (K := K) (pv 0) (by rfl)))) pss_nil) (pss_one (ps_ret (pe_fldK (K := K) (pv 0) (by rfl))))), pm_body tx.cl_Block tx.na_Block_turned tx.na_Block_firsts tx.na_Block_others h⟩)
theorem bn_law_cell_at (tx : Tx K mg) : Binds K tx.d_law_cell_at ["script", "k"] [] := tx.F_law_cell_at.bindsN fun _ _ _ _ _ _ us hl => match us, hl with | [_, _], _ => rfl
theorem ok_law_cell_at (tx : Tx K mg) : FnOk P w K mg base (L2.CX P w) 1 tx.f_law_cell_at tx.d_law_cell_at ["script", "k"] (sp_law_cell_at K tx.Ce) := by
  refine tx.F_law_cell_at.ok sc_law_cell_at (fun vs H Q E h => spF_len (n := 2) rfl vs H Q E h) (fun cdv A outer s H vs Q E hr h => ⟨_, (pss_cons (ps_if (pt_cmpR op_lt (pv 1) (pe_callB (r := rLenK K) call_len_seq (by rfl) tx.n_len (by rfl) (pa_cons (pv 0) pa_nil)) (by first | exact nomark _ | rfl)) (pss_one (ps_ret (pe_ix (r := rIxL K) ix_list (pv 0) (pv 1) (fun _ _ => rfl)))) pss_nil) (pss_one (ps_ret pe_int))), ?_⟩)
  obtain ⟨x, F, W, rfl, ni, hst, hw, ok, rt⟩ := spD_start N_law_cell_at h
  obtain ⟨v_script, v_k⟩ := x
  generalize L2.start N_law_cell_at vs = σ at hst ⊢
  have hw : W (m_law_cell_at v_script v_k) := hw
  replace ok := ok (List.replicate 2 none)
  have hst : Stt F [some (oD eX v_script), some (oD eI v_k)] [] σ H := hst
  unfold m_law_cell_at at hw
  refine q_seq ?_
  refine s_ifM hst hw ok (mt_ok (et_test (ev_lt (ev_var (i := 1) (by rfl)) (ev_lenX (ev_var (i := 0) (by rfl)))))) ?_ ?_
  · clear hst hw
    intro H hw hst
    exact s_retF (t := oD eI) hst hw ok (mv_guard fun g17 => mv_ok (t := oD eI) ((ev_ixX g17 (ev_var (i := 0) (by rfl)) (ev_var (i := 1) (by rfl))))) fun a v H w s => rt _ _ _ _ _ _ w s
  · clear hst hw
    intro H hw hst
    refine s_next ?_
    refine q_nx ?_
    exact s_retF (t := oD eI) hst hw ok (mv_ok (t := oD eI) (ev_int)) fun a v H w s => rt _ _ _ _ _ _ w s
theorem bn_law_spread (tx : Tx K mg) : Binds K tx.d_law_spread ["cell", "many"] [] := tx.F_law_spread.bindsN fun _ _ _ _ _ _ us hl => match us, hl with | [_, _], _ => rfl
theorem ok_law_spread (tx : Tx K mg) : FnOk P w K mg base (L2.CX P w) 1 tx.f_law_spread tx.d_law_spread ["cell", "many"] (sp_law_spread K tx.Ce) := by
  refine tx.F_law_spread.ok sc_law_spread (fun vs H Q E h => spF_len (n := 2) rfl vs H Q E h) (fun cdv A outer s H vs Q E hr h => ⟨_, (pss_cons (ps_set (i := 2) sc_law_spread.nd rfl (by first | exact Or.inl rfl | exact Or.inr rfl) (pe_lst pa_nil)) (pss_cons (ps_set (i := 3) sc_law_spread.nd rfl (by first | exact Or.inl rfl | exact Or.inr rfl) (pe_op op_add (pe_op op_mod (pv 0) pe_int) pe_int)) (pss_cons (ps_set (i := 4) sc_law_spread.nd rfl (by first | exact Or.inl rfl | exact Or.inr rfl) (pe_op op_add (pe_op op_mod (pe_op op_fdivW (pv 0) pe_int) pe_int) pe_int)) (pss_cons (ps_for (passes_of rfl) rfl (pi_range1 (by rfl) tx.n_range (pa_cons (pv 1) pa_nil)) (pg_name (i := 5) sc_law_spread.nd rfl (by first | exact Or.inl rfl | exact Or.inr rfl)) (pss_cons (ps_set (i := 3) sc_law_spread.nd rfl (by first | exact Or.inl rfl | exact Or.inr rfl) (pe_op op_mod (pe_op op_add (pe_op op_add (pe_op op_mulW (pv 3) pe_int) (pv 4)) (pe_op op_mulW (pv 5) (pv 5))) pe_int)) (pss_cons (ps_set (i := 4) sc_law_spread.nd rfl (by first | exact Or.inl rfl | exact Or.inr rfl) (pe_op op_mod (pe_op op_add (pe_op op_mulW (pv 4) pe_int) (pe_op op_fdivW (pv 3) pe_int)) pe_int)) (pss_one (ps_expr (pe_bm PySem.F.plainAttrs_list PySem.F.slot_list_append PySem.F.type_list_append mt_append (pv 2) (pa_cons (pe_op op_mod (pe_op op_add (pv 3) (pv 4)) pe_int) pa_nil))))))) (pss_one (ps_ret (pv 2))))))), ?_⟩)
  obtain ⟨x, F, W, rfl, ni, hst, hw, ok, rt⟩ := spD_start N_law_spread h
  obtain ⟨v_cell, v_many⟩ := x
  generalize L2.start N_law_spread vs = σ at hst ⊢
  have hw : W (m_law_spread v_cell v_many) := hw
  replace ok := ok (List.replicate 6 none)
  have hst : Stt F [some (oD eI v_cell), some (oD eI v_many), none, none, none, none] [] σ H := hst
  unfold m_law_spread at hw
  refine q_seq ?_
  refine s_asgM (t := oL eI) hst hw ok (mv_ok (t := oL eI) ((ev_lst ea_nil (show 0 ≤ 1000 by decide)))) (show 2 < 6 by decide) (ni _) ?_
  clear hst hw
  intro v_spread σ H hw hst
  refine q_nx ?_
  refine q_seq ?_
  refine s_asgM (t := oD eI) hst hw ok (mv_guard fun g18 => mv_ok (t := oD eI) ((ev_add (ev_mod g18 (ev_var (i := 0) (by rfl)) ev_int) ev_int))) (show 3 < 6 by decide) (ni _) ?_
  clear hst hw
  intro v_low σ H hw hst
  refine q_nx ?_
  refine q_seq ?_
  refine s_asgM (t := oD eI) hst hw ok (mv_guard fun g19 => mv_guard fun g20 => mv_ok (t := oD eI) ((ev_add (ev_mod g20 (ev_divW g19 (ev_var (i := 0) (by rfl)) ev_int) ev_int) ev_int))) (show 4 < 6 by decide) (ni _) ?_
  clear hst hw
  intro v_high σ H hw hst
  refine q_nx ?_
  refine q_seq ?_
  refine s_foldM (S := ((List Int) × Int × Int)) (xs := fun c36 => (rng 0 c36)) (enc := eI) (f := fun c36 y21 s22 => m_law_spread_L1 s22.1 s22.2.1 s22.2.2 y21) (Γs := fun s22 => [none, none, some (oL eI s22.1), some (oD eI s22.2.1), some (oD eI s22.2.2), none]) (Γb := fun _ y21 s22 => [none, none, some (oL eI s22.1), some (oD eI s22.2.1), some (oD eI s22.2.2), some (oD eI y21)]) (s0 := (v_spread, v_low, v_high)) hst hw ok (sr_rng1 (mv_ok (t := oD eI) ((ev_var (i := 1) (by rfl))))) (.drop (.drop (.same (.same (.same (.same .nil)))))) (fun _ _ _ => (tg_name (j := 5) (show 5 < 6 by decide) (ni _))) ?_ ?_
  · clear hst hw ok
    intro _ v_k s22 W23 hN24p T26 σ H ok hw hst hN24
    obtain ⟨v_spread, v_low, v_high⟩ := s22
    have hw : W23 (m_law_spread_L1 v_spread v_low v_high v_k) := hw
    have hst : Stt F [none, none, some (oL eI v_spread), some (oD eI v_low), some (oD eI v_high), some (oD eI v_k)] T26 σ H := hst
    unfold m_law_spread_L1 at hw
    refine q_seq ?_
    refine s_asgM (t := oD eI) hst hw ok (mv_guard fun g28 => mv_guard fun g29 => mv_guard fun g30 => mv_ok (t := oD eI) ((ev_mod g30 (ev_add (ev_add (ev_mulW g28 (ev_var (i := 3) (by rfl)) ev_int) (ev_var (i := 4) (by rfl))) (ev_mulW g29 (ev_var (i := 5) (by rfl)) (ev_var (i := 5) (by rfl)))) ev_int))) (show 3 < 6 by decide) (ni _) ?_
    clear hst hw
    intro v_low σ H hw hst
    refine q_nx ?_
    refine q_seq ?_
    refine s_asgM (t := oD eI) hst hw ok (mv_guard fun g31 => mv_guard fun g32 => mv_guard fun g33 => mv_ok (t := oD eI) ((ev_mod g33 (ev_add (ev_mulW g31 (ev_var (i := 4) (by rfl)) ev_int) (ev_divW g32 (ev_var (i := 3) (by rfl)) ev_int)) ev_int))) (show 4 < 6 by decide) (ni _) ?_
    clear hst hw
    intro v_high σ H hw hst
    refine q_nx ?_
    refine s_appE (enc := eI) (xs := v_spread) hst hw ok (by rfl) (mv_guard fun g34 => mv_ok (t := oD eI) ((ev_mod g34 (ev_add (ev_var (i := 3) (by rfl)) (ev_var (i := 4) (by rfl))) ev_int))) ?_
    clear hst hw
    intro v_spread σ H hw hst
    exact hN24 (v_spread, v_low, v_high) _ _ hw (hst.weak (.same (.same (.same (.same (.same (.drop .nil)))))))
  · clear hst hw
    intro s22 σ H hw hst
    obtain ⟨v_spread, v_low, v_high⟩ := s22
    have hw : W (m_law_spread_J1 v_spread) := hw
    have hst : Stt F [none, none, some (oL eI v_spread), some (oD eI v_low), some (oD eI v_high), none] [] σ H := hst
    replace hst := hst.weak (Γ' := [none, none, some (oL eI v_spread), none, none, none]) (.same (.same (.same (.drop (.drop (.same .nil))))))
    unfold m_law_spread_J1 at hw
    refine q_nx ?_
    have hst := hst.freezeAt (i := 2) (by rfl)
    exact s_retF (t := oD (eL eI)) hst hw ok (mv_ok (t := oD (eL eI)) ((ev_var (i := 2) (by rfl)))) fun a v H w s => rt _ _ _ _ _ _ w s
theorem bn_law_letters (tx : Tx K mg) : Binds K tx.d_law_letters ["number", "many"] [] := tx.F_law_letters.bindsN fun _ _ _ _ _ _ us hl => match us, hl with | [_, _], _ => rfl
theorem ok_law_letters (tx : Tx K mg) : FnOk P w K mg base (L2.CX P w) 1 tx.f_law_letters tx.d_law_letters ["number", "many"] (sp_law_letters K tx.Ce) := by
  refine tx.F_law_letters.ok sc_law_letters (fun vs H Q E h => spF_len (n := 2) rfl vs H Q E h) (fun cdv A outer s H vs Q E hr h => ⟨_, (pss_cons (ps_set (i := 2) sc_law_letters.nd rfl (by first | exact Or.inl rfl | exact Or.inr rfl) pe_str) (pss_cons (ps_set (i := 3) sc_law_letters.nd rfl (by first | exact Or.inl rfl | exact Or.inr rfl) pe_str) (pss_cons (ps_for (passes_of rfl) rfl (pi_range1 (by rfl) tx.n_range (pa_cons (pv 1) pa_nil)) (pg_name (i := 4) sc_law_letters.nd rfl (by first | exact Or.inl rfl | exact Or.inr rfl)) (pss_cons (ps_set (i := 3) sc_law_letters.nd rfl (by first | exact Or.inl rfl | exact Or.inr rfl) (pe_op op_add_str (pv 3) (pe_ix ix_str (pv 2) (pe_op op_mod (pv 0) pe_int) (fun _ _ => rfl)))) (pss_one (ps_set (i := 0) sc_law_letters.nd rfl (by first | exact Or.inl rfl | exact Or.inr rfl) (pe_op op_add (pe_op op_fdivW (pv 0) pe_int) (pe_op op_mulW (pe_op op_mulW pe_int (pv 4)) (pv 4))))))) (pss_one (ps_ret (pv 3)))))), ?_⟩)
  obtain ⟨x, F, W, rfl, ni, hst, hw, ok, rt⟩ := spD_start N_law_letters h
  obtain ⟨v_number, v_many⟩ := x
  generalize L2.start N_law_letters vs = σ at hst ⊢
  have hw : W (m_law_letters v_number v_many) := hw
  replace ok := ok (List.replicate 5 none)
  have hst : Stt F [some (oD eI v_number), some (oD eI v_many), none, none, none] [] σ H := hst
  unfold m_law_letters at hw
  refine q_seq ?_
  refine s_asgM (t := oD eS) hst hw ok (mv_ok (t := oD eS) (ev_lit)) (show 2 < 5 by decide) (ni _) ?_
  clear hst hw
  intro v_letters σ H hw hst
  refine q_nx ?_
  refine q_seq ?_
  refine s_asgM (t := oD eS) hst hw ok (mv_ok (t := oD eS) (ev_lit)) (show 3 < 5 by decide) (ni _) ?_
  clear hst hw
  intro v_found σ H hw hst
  refine q_nx ?_
  refine q_seq ?_
  refine s_foldM (S := (Int × (List Nat))) (xs := fun c50 => (rng 0 c50)) (enc := eI) (f := fun c50 y37 s38 => m_law_letters_L1 s38.1 v_letters s38.2 y37) (Γs := fun s38 => [some (oD eI s38.1), none, some (oD eS v_letters), some (oD eS s38.2), none]) (Γb := fun _ y37 s38 => [some (oD eI s38.1), none, some (oD eS v_letters), some (oD eS s38.2), some (oD eI y37)]) (s0 := (v_number, v_found)) hst hw ok (sr_rng1 (mv_ok (t := oD eI) ((ev_var (i := 1) (by rfl))))) (.same (.drop (.same (.same (.same .nil))))) (fun _ _ _ => (tg_name (j := 4) (show 4 < 5 by decide) (ni _))) ?_ ?_
  · clear hst hw ok
    intro _ v_k s38 W39 hN40p T42 σ H ok hw hst hN40
    obtain ⟨v_number, v_found⟩ := s38
    have hw : W39 (m_law_letters_L1 v_number v_letters v_found v_k) := hw
    have hst : Stt F [some (oD eI v_number), none, some (oD eS v_letters), some (oD eS v_found), some (oD eI v_k)] T42 σ H := hst
    unfold m_law_letters_L1 at hw
    refine q_seq ?_
    refine s_asgM (t := oD eS) hst hw ok (mv_guard fun g44 => mv_guard fun g45 => mv_guard fun g46 => mv_ok (t := oD eS) ((ev_catX g46 (ev_var (i := 3) (by rfl)) (ev_ixSx g45 (ev_var (i := 2) (by rfl)) (ev_mod g44 (ev_var (i := 0) (by rfl)) ev_int))))) (show 3 < 5 by decide) (ni _) ?_
    clear hst hw
    intro v_found σ H hw hst
    refine q_nx ?_
    refine s_asgM (t := oD eI) hst hw ok (mv_guard fun g47 => mv_guard fun g48 => mv_guard fun g49 => mv_ok (t := oD eI) ((ev_add (ev_divW g47 (ev_var (i := 0) (by rfl)) ev_int) (ev_mulW g49 (ev_mulW g48 ev_int (ev_var (i := 4) (by rfl))) (ev_var (i := 4) (by rfl)))))) (show 0 < 5 by decide) (ni _) ?_
    clear hst hw
    intro v_number σ H hw hst
    exact hN40 (v_number, v_found) _ _ hw (hst.weak (.same (.same (.same (.same (.drop .nil))))))
  · clear hst hw
    intro s38 σ H hw hst
    obtain ⟨v_number, v_found⟩ := s38
    have hw : W (m_law_letters_J1 v_found) := hw
    have hst : Stt F [some (oD eI v_number), none, some (oD eS v_letters), some (oD eS v_found), none] [] σ H := hst
    replace hst := hst.weak (Γ' := [none, none, none, some (oD eS v_found), none]) (.drop (.same (.drop (.same (.same .nil)))))
    unfold m_law_letters_J1 at hw
    refine q_nx ?_
    exact s_retF (t := oD eS) hst hw ok (mv_ok (t := oD eS) ((ev_var (i := 3) (by rfl)))) fun a v H w s => rt _ _ _ _ _ _ w s
theorem bn_law_free (tx : Tx K mg) : Binds K tx.d_law_free ["name"] [] := tx.F_law_free.bindsN fun _ _ _ _ _ _ us hl => match us, hl with | [_], _ => rfl
theorem ok_law_free (tx : Tx K mg) : FnOk P w K mg base (L2.CX P w) 1 tx.f_law_free tx.d_law_free ["name"] (sp_law_free K tx.Ce) := by
  refine tx.F_law_free.ok sc_law_free (fun vs H Q E h => spF_len (n := 1) rfl vs H Q E h) (fun cdv A outer s H vs Q E hr h => ⟨_, (pss_cons (ps_if (pt_cmpR (r := rIn K false) op_in_seq (pv 0) (pe_tup (pa_cons pe_str (pa_cons pe_str (pa_cons pe_str (pa_cons pe_str (pa_cons pe_str (pa_cons pe_str (pa_cons pe_str (pa_cons pe_str (pa_cons pe_str pa_nil)))))))))) (by first | exact nomark _ | rfl)) (pss_one (ps_ret (pe_op op_add_str (pv 0) pe_str))) pss_nil) (pss_cons (ps_if (pt_cmpR (r := rIn K false) op_in_seq (pv 0) (pe_tup (pa_cons pe_str (pa_cons pe_str (pa_cons pe_str (pa_cons pe_str (pa_cons pe_str (pa_cons pe_str (pa_cons pe_str pa_nil)))))))) (by first | exact nomark _ | rfl)) (pss_one (ps_ret (pe_op op_add_str (pv 0) pe_str))) pss_nil) (pss_one (ps_ret (pv 0))))), ?_⟩)
  obtain ⟨v_name, F, W, rfl, ni, hst, hw, ok, rt⟩ := spD_start N_law_free h
  generalize L2.start N_law_free vs = σ at hst ⊢
  have hw : W (m_law_free v_name) := hw
  replace ok := ok (List.replicate 1 none)
  have hst : Stt F [some (oD eS v_name)] [] σ H := hst
  unfold m_law_free at hw
  refine q_seq ?_
  refine s_ifM hst hw ok (mt_ok (et_test (ev_inTX (ev_var (i := 0) (by rfl)) (ev_tup (ea_cons ev_lit (ea_cons ev_lit (ea_cons ev_lit (ea_cons ev_lit (ea_cons ev_lit (ea_cons ev_lit (ea_cons ev_lit (ea_cons ev_lit (ea_cons ev_lit ea_nil))))))))) (show 9 ≤ 1000 by decide))))) ?_ ?_
  · clear hst hw
    intro H hw hst
    exact s_retF (t := oD eS) hst hw ok (mv_guard fun g51 => mv_ok (t := oD eS) ((ev_catX g51 (ev_var (i := 0) (by rfl)) ev_lit))) fun a v H w s => rt _ _ _ _ _ _ w s
  · clear hst hw
    intro H hw hst
    refine s_next ?_
    refine q_nx ?_
    refine q_seq ?_
    refine s_ifM hst hw ok (mt_ok (et_test (ev_inTX (ev_var (i := 0) (by rfl)) (ev_tup (ea_cons ev_lit (ea_cons ev_lit (ea_cons ev_lit (ea_cons ev_lit (ea_cons ev_lit (ea_cons ev_lit (ea_cons ev_lit ea_nil))))))) (show 7 ≤ 1000 by decide))))) ?_ ?_
    · clear hst hw
      intro H hw hst
      exact s_retF (t := oD eS) hst hw ok (mv_guard fun g52 => mv_ok (t := oD eS) ((ev_catX g52 (ev_var (i := 0) (by rfl)) ev_lit))) fun a v H w s => rt _ _ _ _ _ _ w s
    · clear hst hw
      intro H hw hst
      refine s_next ?_
      refine q_nx ?_
      exact s_retF (t := oD eS) hst hw ok (mv_ok (t := oD eS) ((ev_var (i := 0) (by rfl)))) fun a v H w s => rt _ _ _ _ _ _ w s
theorem bn_law_leaf (tx : Tx K mg) : Binds K tx.d_law_leaf ["number", "names"] [] := tx.F_law_leaf.bindsN fun _ _ _ _ _ _ us hl => match us, hl with | [_, _], _ => rfl
theorem ok_law_leaf (tx : Tx K mg) : FnOk P w K mg base (L2.CX P w) 1 tx.f_law_leaf tx.d_law_leaf ["number", "names"] (sp_law_leaf K tx.Ce) := by
  refine tx.F_law_leaf.ok sc_law_leaf (fun vs H Q E h => spF_len (n := 2) rfl vs H Q E h) (fun cdv A outer s H vs Q E hr h => ⟨_, (pss_cons (ps_if (pt_cmpR op_lt (pe_op op_mod (pv 0) pe_int) pe_int (by first | exact nomark _ | rfl)) (pss_cons (ps_set (i := 2) sc_law_leaf.nd rfl (by first | exact Or.inl rfl | exact Or.inr rfl) (pe_ix (r := rIxL K) ix_list (pv 1) (pe_op op_mod (pe_op op_fdivW (pv 0) pe_int) pe_int) (fun _ _ => rfl))) (pss_one (ps_ret (pe_tup (pa_cons (pe_lst (pa_cons (pv 2) pa_nil)) (pa_cons (pe_tup (pa_cons (pv 2) pa_nil)) pa_nil)))))) pss_nil) (pss_cons (ps_set (i := 3) sc_law_leaf.nd rfl (by first | exact Or.inl rfl | exact Or.inr rfl) (pe_op op_sub (pe_op op_mod (pe_op op_fdivW (pv 0) pe_int) pe_int) pe_int)) (pss_cons (ps_if (pt_cmpR op_eq (pe_op op_mod (pv 0) pe_int) pe_int (by first | exact nomark _ | rfl)) (pss_one (ps_set (i := 3) sc_law_leaf.nd rfl (by first | exact Or.inl rfl | exact Or.inr rfl) (pe_op op_sub (pe_op op_mod (pe_op op_pow (pv 0) pe_int) (pe_op op_add (pe_op op_mulW pe_int (pe_op op_pow pe_int pe_int)) pe_int)) (pe_op op_pow pe_int pe_int)))) pss_nil) (pss_one (ps_ret (pe_tup (pa_cons (pe_lst (pa_cons (pe_callTy call_str_int (by rfl) tx.n_str (by rfl) (pa_cons (pv 3) pa_nil)) pa_nil)) (pa_cons (pe_tup (pa_cons (pv 3) pa_nil)) pa_nil)))))))), ?_⟩)
  obtain ⟨x, F, W, rfl, ni, hst, hw, ok, rt⟩ := spD_start N_law_leaf h
  obtain ⟨v_number, v_names⟩ := x
  generalize L2.start N_law_leaf vs = σ at hst ⊢
  have hw : W (m_law_leaf v_number v_names) := hw
  replace ok := ok (List.replicate 4 none)
  have hst : Stt F [some (oD eI v_number), some (oD (eL eS) v_names), none, none] [] σ H := hst
  unfold m_law_leaf at hw
  refine q_seq ?_
  refine s_ifM hst hw ok (mt_guard fun g53 => mt_ok (et_test (ev_lt (ev_mod g53 (ev_var (i := 0) (by rfl)) ev_int) ev_int))) ?_ ?_
  · clear hst hw
    intro H hw hst
    refine q_seq ?_
    refine s_asgM (t := oD eS) hst hw ok (mv_guard fun g54 => mv_guard fun g55 => mv_guard fun g56 => mv_ok (t := oD eS) ((ev_ixL (enc := eS) g56 (el_dat (ev_var (i := 1) (by rfl))) (ev_mod g55 (ev_divW g54 (ev_var (i := 0) (by rfl)) ev_int) ev_int)))) (show 2 < 4 by decide) (ni _) ?_
    clear hst hw
    intro v_name σ H hw hst
    refine q_nx ?_
    exact s_retF (t := oD (e2 (eL eS) (eU eA))) hst hw ok (mv_ok (t := oD (e2 (eL eS) (eU eA))) ((ev_tup (ea_cons (ev_frz (ev_lst (ea_cons (ev_var (i := 2) (by rfl)) ea_nil) (show 1 ≤ 1000 by decide))) (ea_cons (ev_tup (ea_cons (ev_var (i := 2) (by rfl)) ea_nil) (show 1 ≤ 1000 by decide)) ea_nil)) (show 2 ≤ 1000 by decide)))) fun a v H w s => rt _ _ _ _ _ _ w s
  · clear hst hw
    intro H hw hst
    refine s_next ?_
    refine q_nx ?_
    refine q_seq ?_
    refine s_asgM (t := oD eI) hst hw ok (mv_guard fun g57 => mv_guard fun g58 => mv_ok (t := oD eI) ((ev_sub (ev_mod g58 (ev_divW g57 (ev_var (i := 0) (by rfl)) ev_int) ev_int) ev_int))) (show 3 < 4 by decide) (ni _) ?_
    clear hst hw
    intro v_worth σ H hw hst
    refine q_nx ?_
    refine q_seq ?_
    refine s_ifJ (S := Int) (Γj := fun s60 => [some (oD eI v_number), none, none, some (oD eI s60)]) hst hw ok (mt_guard fun g59 => mt_ok (et_test (ev_eqI (ev_mod g59 (ev_var (i := 0) (by rfl)) ev_int) ev_int))) ?_ ?_ ?_
    · clear hst hw ok
      intro W61 hN62p H ok hw hst hN62
      refine s_asgM (t := oD eI) hst hw ok (mv_guard fun g63 => mv_guard fun g64 => mv_guard fun g65 => mv_guard fun g66 => mv_guard fun g67 => mv_ok (t := oD eI) ((ev_sub (ev_mod g66 (ev_pow g63 (ev_var (i := 0) (by rfl)) ev_int) (ev_add (ev_mulW g65 ev_int (ev_pow g64 ev_int ev_int)) ev_int)) (ev_pow g67 ev_int ev_int)))) (show 3 < 4 by decide) (ni _) ?_
      clear hst hw
      intro v_worth σ H hw hst
      exact hN62 v_worth _ _ hw (hst.weak (.same (.drop (.same (.same .nil)))))
    · clear hst hw ok
      intro W61 hN62p H ok hw hst hN62
      refine s_next ?_
      exact hN62 v_worth _ _ hw (hst.weak (.same (.drop (.same (.same .nil)))))
    · clear hst hw
      intro v_worth σ H hw hst
      have hw : W (m_law_leaf_J1 v_worth) := hw
      have hst : Stt F [some (oD eI v_number), none, none, some (oD eI v_worth)] [] σ H := hst
      replace hst := hst.weak (Γ' := [none, none, none, some (oD eI v_worth)]) (.drop (.same (.same (.same .nil))))
      unfold m_law_leaf_J1 at hw
      refine q_nx ?_
      exact s_retF (t := oD (e2 (eL eS) (eU eA))) hst hw ok (mv_guard fun g68 => mv_ok (t := oD (e2 (eL eS) (eU eA))) ((ev_tup (ea_cons (ev_frz (ev_lst (ea_cons (ev_strI g68 (ev_var (i := 3) (by rfl))) ea_nil) (show 1 ≤ 1000 by decide))) (ea_cons (ev_tup (ea_cons (ev_var (i := 3) (by rfl)) ea_nil) (show 1 ≤ 1000 by decide)) ea_nil)) (show 2 ≤ 1000 by decide)))) fun a v H w s => rt _ _ _ _ _ _ w s
theorem bn_law_joined (tx : Tx K mg) : Binds K tx.d_law_joined ["some", "number"] [] := tx.F_law_joined.bindsN fun _ _ _ _ _ _ us hl => match us, hl with | [_, _], _ => rfl
theorem ok_law_joined (tx : Tx K mg) : FnOk P w K mg base (L2.CX P w) 1 tx.f_law_joined tx.d_law_joined ["some", "number"] (sp_law_joined K tx.Ce) := by
  refine tx.F_law_joined.ok sc_law_joined (fun vs H Q E h => spF_len (n := 2) rfl vs H Q E h) (fun cdv A outer s H vs Q E hr h => ⟨_, (pss_cons (ps_set (i := 2) sc_law_joined.nd rfl (by first | exact Or.inl rfl | exact Or.inr rfl) (pe_ix (r := rIxL K) ix_list (pe_lst (pa_cons pe_str (pa_cons pe_str (pa_cons pe_str (pa_cons pe_str (pa_cons pe_str (pa_cons pe_str (pa_cons pe_str pa_nil)))))))) (pe_op op_mod (pv 1) pe_int) (fun _ _ => rfl))) (pss_cons (ps_set (i := 3) sc_law_joined.nd rfl (by first | exact Or.inl rfl | exact Or.inr rfl) (pe_ix (r := rIxL K) ix_list (pv 0) (pe_un un_neg pe_int) (fun _ _ => rfl))) (pss_cons (ps_set (i := 4) sc_law_joined.nd rfl (by first | exact Or.inl rfl | exact Or.inr rfl) (pe_ix (r := rIxL K) ix_list (pv 0) (pe_un un_neg pe_int) (fun _ _ => rfl))) (pss_one (ps_ret (pe_op op_cat (pe_slice (r := rSlL K) sl_list (pv 0) po_none (po_some (pe_un un_neg pe_int))) (pe_lst (pa_cons (pe_tup (pa_cons (pe_op op_cat (pe_op op_cat (pe_lst (pa_cons (pv 2) pa_nil)) (pe_ix (r := rIxT K) ix_tup (pv 3) pe_int (fun _ _ => rfl))) (pe_ix (r := rIxT K) ix_tup (pv 4) pe_int (fun _ _ => rfl))) (pa_cons (pe_op (r := rCatA K) op_catA (pe_op (r := rCatA K) op_catA (pe_ix (r := rIxT K) ix_tup (pv 3) pe_int (fun _ _ => rfl)) (pe_ix (r := rIxT K) ix_tup (pv 4) pe_int (fun _ _ => rfl))) (pe_tup (pa_cons (pv 2) pa_nil))) pa_nil))) pa_nil)))))))), ?_⟩)
  obtain ⟨x, F, W, rfl, ni, hst, hw, ok, rt⟩ := spD_start N_law_joined h
  obtain ⟨v_some, v_number⟩ := x
  generalize L2.start N_law_joined vs = σ at hst ⊢
  have hw : W (m_law_joined v_some v_number) := hw
  replace ok := ok (List.replicate 5 none)
  have hst : Stt F [some (oD (eL (e2 (eL eS) (eU eA))) v_some), some (oD eI v_number), none, none, none] [] σ H := hst
  unfold m_law_joined at hw
  refine q_seq ?_
  refine s_asgM (t := oD eS) hst hw ok (mv_guard fun g69 => mv_guard fun g70 => mv_ok (t := oD eS) ((ev_ixL (enc := eS) g70 (el_own (ev_lst (ea_cons ev_lit (ea_cons ev_lit (ea_cons ev_lit (ea_cons ev_lit (ea_cons ev_lit (ea_cons ev_lit (ea_cons ev_lit ea_nil))))))) (show 7 ≤ 1000 by decide))) (ev_mod g69 (ev_var (i := 1) (by rfl)) ev_int)))) (show 2 < 5 by decide) (ni _) ?_
  clear hst hw
  intro v_doer σ H hw hst
  refine q_nx ?_
  refine q_seq ?_
  refine s_asgM (t := oD (e2 (eL eS) (eU eA))) hst hw ok (mv_guard fun g71 => mv_ok (t := oD (e2 (eL eS) (eU eA))) ((ev_ixL (enc := (e2 (eL eS) (eU eA))) g71 (el_dat (ev_var (i := 0) (by rfl))) (ev_neg ev_int)))) (show 3 < 5 by decide) (ni _) ?_
  clear hst hw
  intro v_first σ H hw hst
  refine q_nx ?_
  refine q_seq ?_
  refine s_asgM (t := oD (e2 (eL eS) (eU eA))) hst hw ok (mv_guard fun g72 => mv_ok (t := oD (e2 (eL eS) (eU eA))) ((ev_ixL (enc := (e2 (eL eS) (eU eA))) g72 (el_dat (ev_var (i := 0) (by rfl))) (ev_neg ev_int)))) (show 4 < 5 by decide) (ni _) ?_
  clear hst hw
  intro v_second σ H hw hst
  refine q_nx ?_
  exact s_retF (t := oD (eL (e2 (eL eS) (eU eA)))) hst hw ok (mv_guard fun g73 => mv_guard fun g74 => mv_guard fun g75 => mv_guard fun g76 => mv_guard fun g77 => mv_ok (t := oD (eL (e2 (eL eS) (eU eA)))) ((ev_frz (ev_catL (enc := (e2 (eL eS) (eU eA))) g77 (el_own (ev_slLE (enc := (e2 (eL eS) (eU eA))) (el_dat (ev_var (i := 0) (by rfl))) eo_no (eo_some (ev_neg ev_int)))) (el_own (ev_lst (ea_cons (ev_tup (ea_cons (ev_frz (ev_catL (enc := eS) g74 (el_own (ev_catL (enc := eS) g73 (el_own (ev_lst (ea_cons (ev_var (i := 2) (by rfl)) ea_nil) (show 1 ≤ 1000 by decide))) (el_dat (ev_ixC (ds := [(eL eS) v_first.1, (eU eA) v_first.2]) (n := 0) (by rfl) (ev_var (i := 3) (by rfl)) ev_int)))) (el_dat (ev_ixC (ds := [(eL eS) v_second.1, (eU eA) v_second.2]) (n := 0) (by rfl) (ev_var (i := 4) (by rfl)) ev_int)))) (ea_cons (ev_catU (enc := eA) g76 (ev_catU (enc := eA) g75 (ev_ixC (ds := [(eL eS) v_first.1, (eU eA) v_first.2]) (n := 1) (by rfl) (ev_var (i := 3) (by rfl)) ev_int) (ev_ixC (ds := [(eL eS) v_second.1, (eU eA) v_second.2]) (n := 1) (by rfl) (ev_var (i := 4) (by rfl)) ev_int)) (ev_tup (ea_cons (ev_var (i := 2) (by rfl)) ea_nil) (show 1 ≤ 1000 by decide))) ea_nil)) (show 2 ≤ 1000 by decide)) ea_nil) (show 1 ≤ 1000 by decide))))))) fun a v H w s => rt _ _ _ _ _ _ w s
theorem bn_worth_in (tx : Tx K mg) : Binds K tx.d_worth_in ["text"] [] := tx.F_worth_in.bindsN fun _ _ _ _ _ _ us hl => match us, hl with | [_], _ => rfl
theorem okN_worth_in (tx : Tx K mg) : FnOk P w K mg base (L2N.CX P w) 2 tx.f_worth_in tx.d_worth_in ["text"] (sp_worth_in K tx.Ce) := by
  refine tx.F_worth_in.ok sc_worth_in (fun vs H Q E h => spF_len (n := 1) rfl vs H Q E h) (fun cdv A outer s H vs Q E hr h => ⟨_, (pss_cons (ps_set (i := 1) sc_worth_in.nd rfl (by first | exact Or.inl rfl | exact Or.inr rfl) (pv 0)) (pss_cons (ps_if (pt_cmpR op_eq (pe_slice sl_str (pv 0) po_none (po_some pe_int)) pe_str (by first | exact nomark _ | rfl)) (pss_one (ps_set (i := 1) sc_worth_in.nd rfl (by first | exact Or.inl rfl | exact Or.inr rfl) (pe_slice sl_str (pv 0) (po_some pe_int) po_none))) pss_nil) (pss_cons (ps_if (pw_or (pt_cmpR op_eq (pv 1) pe_str (by first | exact nomark _ | rfl)) (pw_or1 (pt_cmpR op_gt (pe_callB call_len_str (by rfl) tx.n_len (by rfl) (pa_cons (pv 1) pa_nil)) pe_int (by first | exact nomark _ | rfl)))).pt (pss_one (L2N.ps_raise rfl (L2N.takes_of rfl rfl rfl rfl) (L2N.pmk_own PySem.F.excBase_ValueError tx.q_NoNumber tx.x_NoNumber tx.k_NoNumber (raises_own tx.b_NoNumber tx.t_NoNumber) (by rfl)))) pss_nil) (pss_cons (ps_for (passes_of rfl) rfl (pi_str (pv 1)) (pg_name (i := 2) sc_worth_in.nd rfl (by first | exact Or.inl rfl | exact Or.inr rfl)) (pss_one (ps_if (pt_cmpR op_notIn_sign (pv 2) (C8.pe_gc (by rfl) tx.c_FIGURES) (by first | exact nomark _ | rfl)) (pss_one (L2N.ps_raise rfl (L2N.takes_of rfl rfl rfl rfl) (L2N.pmk_own PySem.F.excBase_ValueError tx.q_NoNumber tx.x_NoNumber tx.k_NoNumber (raises_own tx.b_NoNumber tx.t_NoNumber) (by rfl)))) pss_nil))) (pss_cons (ps_if (pw_and (pt_cmpR op_eq (pe_ix ix_str (pv 1) pe_int (fun _ _ => rfl)) pe_str (by first | exact nomark _ | rfl)) (pw_and1 (pt_cmpR op_ne (pv 0) pe_str (by first | exact nomark _ | rfl)))).pt (pss_one (L2N.ps_raise rfl (L2N.takes_of rfl rfl rfl rfl) (L2N.pmk_own PySem.F.excBase_ValueError tx.q_NoNumber tx.x_NoNumber tx.k_NoNumber (raises_own tx.b_NoNumber tx.t_NoNumber) (by rfl)))) pss_nil) (pss_cons (ps_set (i := 3) sc_worth_in.nd rfl (by first | exact Or.inl rfl | exact Or.inr rfl) (pe_callTy call_int_str (by rfl) tx.n_int (by rfl) (pa_cons (pv 0) pa_nil))) (pss_cons (ps_if (pt_not (pt_val (pe_callS (E := WE (fun cls d _ H => E cls d H)) (okN_is_worth tx) (hr.mono (by decide)) (by rfl) tx.g_is_worth tx.F_is_worth.kp (bn_is_worth tx) (fun σ => L2N.passAt (L2N.takes_of rfl rfl rfl rfl) σ) (pa_cons (pv 3) pa_nil)))) (pss_one (L2N.ps_raise rfl (L2N.takes_of rfl rfl rfl rfl) (L2N.pmk_own PySem.F.excBase_ValueError tx.q_NoNumber tx.x_NoNumber tx.k_NoNumber (raises_own tx.b_NoNumber tx.t_NoNumber) (by rfl)))) pss_nil) (pss_one (ps_ret (pv 3)))))))))), ?_⟩)
  obtain ⟨v_text, F, W, rfl, ni, hst, hw, ok, rt⟩ := spD_start N_worth_in h
  generalize L2.start N_worth_in vs = σ at hst ⊢
  have hw : W (m_worth_in v_text) := hw
  replace ok := ok (List.replicate 4 none)
  have hst : Stt F [some (oD eS v_text), none, none, none] [] σ H := hst
  unfold m_worth_in at hw
  refine q_seq ?_
  refine s_asgM (t := oD eS) hst hw ok (mv_ok (t := oD eS) ((ev_var (i := 0) (by rfl)))) (show 1 < 4 by decide) (ni _) ?_
  clear hst hw
  intro v_figures σ H hw hst
  refine q_nx ?_
  refine q_seq ?_
  refine s_ifJ (S := (List Nat)) (Γj := fun s79 => [some (oD eS v_text), some (oD eS s79), none, none]) hst hw ok (mt_guard fun g78 => mt_ok (et_test (ev_eqX (ev_slSx g78 (ev_var (i := 0) (by rfl)) eo_no (eo_some ev_int)) ev_lit))) ?_ ?_ ?_
  · clear hst hw ok
    intro W80 hN81p H ok hw hst hN81
    refine s_asgM (t := oD eS) hst hw ok (mv_guard fun g82 => mv_ok (t := oD eS) ((ev_slSx g82 (ev_var (i := 0) (by rfl)) (eo_some ev_int) eo_no))) (show 1 < 4 by decide) (ni _) ?_
    clear hst hw
    intro v_figures σ H hw hst
    exact hN81 v_figures _ _ hw (hst.weak (.same (.same (.same (.same .nil)))))
  · clear hst hw ok
    intro W80 hN81p H ok hw hst hN81
    refine s_next ?_
    exact hN81 v_figures _ _ hw (hst.weak (.same (.same (.same (.same .nil)))))
  · clear hst hw
    intro v_figures σ H hw hst
    have hw : W (m_worth_in_J1 v_text v_figures) := hw
    have hst : Stt F [some (oD eS v_text), some (oD eS v_figures), none, none] [] σ H := hst
    replace hst := hst.weak (Γ' := [some (oD eS v_text), some (oD eS v_figures), none, none]) (.same (.same (.same (.same .nil))))
    unfold m_worth_in_J1 at hw
    refine q_nx ?_
    refine q_seq ?_
    refine s_ifM hst hw ok (mt_or (mt_ok (et_test (ev_eqX (ev_var (i := 1) (by rfl)) ev_lit))) (mt_guard fun g83 => mt_ok (et_test (ev_gt (ev_lenSx g83 (ev_var (i := 1) (by rfl))) ev_int)))) ?_ ?_
    · clear hst hw
      intro H hw hst
      exact s_raise (C := tx.Ce .noNumber) hst hw ok (wkN (by rfl)) (fun _ _ _ h => h) fun h => h
    · clear hst hw
      intro H hw hst
      refine s_next ?_
      refine q_nx ?_
      refine q_seq ?_
      refine s_foldM (S := Unit) (xs := fun c91 => c91) (enc := eC) (f := fun c91 y84 s85 => m_worth_in_L1 y84) (Γs := fun s85 => [some (oD eS v_text), some (oD eS v_figures), none, none]) (Γb := fun _ y84 s85 => [some (oD eS v_text), some (oD eS v_figures), some (oD eC y84), none]) (s0 := ()) hst hw ok (sr_strX (mv_ok (t := oD eS) ((ev_var (i := 1) (by rfl))))) (.same (.same (.same (.same .nil)))) (fun _ _ _ => (tg_name (j := 2) (show 2 < 4 by decide) (ni _))) ?_ ?_
      · clear hst hw ok
        intro _ v_sign s85 W86 hN87p T89 σ H ok hw hst hN87
        have hw : W86 (m_worth_in_L1 v_sign) := hw
        have hst : Stt F [some (oD eS v_text), some (oD eS v_figures), some (oD eC v_sign), none] T89 σ H := hst
        unfold m_worth_in_L1 at hw
        refine s_ifM hst hw ok (mt_ok (et_test (ev_ninX (ev_var (i := 2) (by rfl)) ev_lit))) ?_ ?_
        · clear hst hw
          intro H hw hst
          exact s_raise (C := tx.Ce .noNumber) hst hw ok (wkN (by rfl)) (fun _ _ _ h => h) fun h => h
        · clear hst hw
          intro H hw hst
          refine s_next ?_
          exact hN87 () _ _ hw (hst.weak (.same (.same (.drop (.same .nil)))))
      · clear hst hw
        intro s85 σ H hw hst
        have hw : W (m_worth_in_J2 v_text v_figures) := hw
        have hst : Stt F [some (oD eS v_text), some (oD eS v_figures), none, none] [] σ H := hst
        replace hst := hst.weak (Γ' := [some (oD eS v_text), some (oD eS v_figures), none, none]) (.same (.same (.same (.same .nil))))
        unfold m_worth_in_J2 at hw
        refine q_nx ?_
        refine q_seq ?_
        refine s_ifM hst hw ok (mt_guard fun g92 => mt_ok (et_and (et_test (ev_eqX (ev_ixSx g92 (ev_var (i := 1) (by rfl)) ev_int) ev_lit)) (et_test (ev_neX (ev_var (i := 0) (by rfl)) ev_lit)))) ?_ ?_
        · clear hst hw
          intro H hw hst
          exact s_raise (C := tx.Ce .noNumber) hst hw ok (wkN (by rfl)) (fun _ _ _ h => h) fun h => h
        · clear hst hw
          intro H hw hst
          refine s_next ?_
          refine q_nx ?_
          refine q_seq ?_
          refine s_asgM (t := oD eI) hst hw ok (mv_guard fun g93 => mv_ok (t := oD eI) ((ev_intX g93 (ev_var (i := 0) (by rfl))))) (show 3 < 4 by decide) (ni _) ?_
          clear hst hw
          intro v_worth σ H hw hst
          refine q_nx ?_
          refine q_seq ?_
          refine s_ifM hst hw ok (mt_not (mt_B (mv_callP (x := v_worth) (ea_cons (ev_var (i := 3) (by rfl)) ea_nil) rfl rfl (fun _ _ _ h => h) (wkN (by rfl))))) ?_ ?_
          · clear hst hw
            intro H hw hst
            exact s_raise (C := tx.Ce .noNumber) hst hw ok (wkN (by rfl)) (fun _ _ _ h => h) fun h => h
          · clear hst hw
            intro H hw hst
            refine s_next ?_
            refine q_nx ?_
            exact s_retF (t := oD eI) hst hw ok (mv_ok (t := oD eI) ((ev_var (i := 3) (by rfl)))) fun a v H w s => rt _ _ _ _ _ _ w s
theorem bn_words_of (tx : Tx K mg) : Binds K tx.d_words_of ["term"] [] := tx.F_words_of.bindsN fun _ _ _ _ _ _ us hl => match us, hl with | [_], _ => rfl
theorem ok_words_of (tx : Tx K mg) : FnOk P w K mg base (L2.CX P w) 2 tx.f_words_of tx.d_words_of ["term"] (sp_words_of K tx.Ce) := by
  refine tx.F_words_of.ok sc_words_of (fun vs H Q E h => spF_len (n := 1) rfl vs H Q E h) (fun cdv A outer s H vs Q E hr h => ⟨_, (pss_cons (ps_set (i := 1) sc_words_of.nd rfl (by first | exact Or.inl rfl | exact Or.inr rfl) (pe_lst pa_nil)) (pss_cons (ps_for (passes_of rfl) rfl (pi_seq (pv 0)) (pg_name (i := 2) sc_words_of.nd rfl (by first | exact Or.inl rfl | exact Or.inr rfl)) (pss_one (ps_if (pt_cmpR (r := rIn K false) op_in_seq (pv 2) (C8.pe_gc (by rfl) tx.c_DOERS) (by first | exact nomark _ | rfl)) (pss_cons (ps_set (i := 3) sc_words_of.nd rfl (by first | exact Or.inl rfl | exact Or.inr rfl) (pe_bm0 PySem.F.plainAttrs_list PySem.F.slot_list_pop PySem.F.type_list_pop mt_pop (pv 1))) (pss_cons (ps_set (i := 4) sc_words_of.nd rfl (by first | exact Or.inl rfl | exact Or.inr rfl) (pe_bm0 PySem.F.plainAttrs_list PySem.F.slot_list_pop PySem.F.type_list_pop mt_pop (pv 1))) (pss_one (ps_expr (pe_bm PySem.F.plainAttrs_list PySem.F.slot_list_append PySem.F.type_list_append mt_append (pv 1) (pa_cons (pe_op op_cat (pe_op op_cat (pe_lst (pa_cons (pv 2) pa_nil)) (pv 4)) (pv 3)) pa_nil)))))) (pss_one (ps_if (pt_val (pe_callB (r := rIsiY K) call_isiY (by rfl) tx.n_isinstance (by rfl) (pa_cons (pv 2) (pa_cons (pe_bltn (v := .ty "int") (by rfl) tx.n_int (by rfl) rfl) pa_nil)))) (pss_one (ps_expr (pe_bm PySem.F.plainAttrs_list PySem.F.slot_list_append PySem.F.type_list_append mt_append (pv 1) (pa_cons (pe_lst (pa_cons (pe_callS (E := WE (fun cls d _ H => E cls d H)) (ok_numeral tx) (hr.mono (by decide)) (by rfl) tx.g_numeral tx.F_numeral.kp (bn_numeral tx) (fun σ => passAt (takes_of rfl rfl rfl rfl) σ) (pa_cons (pv 2) pa_nil)) pa_nil)) pa_nil)))) (pss_one (ps_expr (pe_bm PySem.F.plainAttrs_list PySem.F.slot_list_append PySem.F.type_list_append mt_append (pv 1) (pa_cons (pe_lst (pa_cons (pv 2) pa_nil)) pa_nil))))))))) (pss_one (ps_ret (pe_ix (r := rIxL K) ix_list (pv 1) pe_int (fun _ _ => rfl)))))), ?_⟩)
  obtain ⟨v_term, F, W, rfl, ni, hst, hw, ok, rt⟩ := spD_start N_words_of h
  generalize L2.start N_words_of vs = σ at hst ⊢
  have hw : W (m_words_of v_term) := hw
  replace ok := ok (List.replicate 5 none)
  have hst : Stt F [some (oD eA v_term), none, none, none, none] [] σ H := hst
  unfold m_words_of at hw
  refine q_seq ?_
  refine s_asgM (t := oL (eL eS)) hst hw ok (mv_ok (t := oL (eL eS)) ((ev_lst ea_nil (show 0 ≤ 1000 by decide)))) (show 1 < 5 by decide) (ni _) ?_
  clear hst hw
  intro v_parts σ H hw hst
  refine q_nx ?_
  refine q_seq ?_
  refine s_foldM (S := (List (List (List Nat)))) (xs := fun c114 => (Dt.asQ c114)) (enc := eA) (f := fun c114 y94 s95 => m_words_of_L1 s95 y94) (Γs := fun s95 => [none, some (oL (eL eS) s95), none, none, none]) (Γb := fun _ y94 s95 => [none, some (oL (eL eS) s95), some (oD eA y94), none, none]) (s0 := v_parts) hst hw ok (sr_seq (mv_ok (t := oD eA) ((ev_var (i := 0) (by rfl))))) (.drop (.same (.same (.same (.same .nil))))) (fun _ _ _ => (tg_name (j := 2) (show 2 < 5 by decide) (ni _))) ?_ ?_
  · clear hst hw ok
    intro _ v_part v_parts W96 hN97p T99 σ H ok hw hst hN97
    have hw : W96 (m_words_of_L1 v_parts v_part) := hw
    have hst : Stt F [none, some (oL (eL eS) v_parts), some (oD eA v_part), none, none] T99 σ H := hst
    unfold m_words_of_L1 at hw
    refine s_ifM hst hw ok (mt_guard fun g101 => mt_ok (et_test (ev_inTA g101 (ev_var (i := 2) (by rfl)) (ev_globT tx.s_DOERS (tx.r_DOERS))))) ?_ ?_
    · clear hst hw
      intro H hw hst
      refine q_seq ?_
      refine s_asgP (n := 1) (enc := (eL eS)) (t := oD (eL eS)) hst hw ok (mp_pop (enc := (eL eS)) (by rfl)) (show 3 < 5 by decide) (ni _) ?_
      clear hst hw
      intro v_second v_parts σ H hw hst
      refine q_nx ?_
      refine q_seq ?_
      refine s_asgP (n := 1) (enc := (eL eS)) (t := oD (eL eS)) hst hw ok (mp_pop (enc := (eL eS)) (by rfl)) (show 4 < 5 by decide) (ni _) ?_
      clear hst hw
      intro v_first v_parts σ H hw hst
      refine q_nx ?_
      refine s_appE (enc := (eL eS)) (xs := v_parts) hst hw ok (by rfl) (mv_guard fun g102 => mv_guard fun g103 => mv_guard fun g104 => mv_ok (t := oD (eL eS)) ((ev_frz (ev_catL (enc := eS) g104 (el_own (ev_catL (enc := eS) g103 (el_own (ev_lst (ea_cons (ev_asX g102 (ev_var (i := 2) (by rfl))) ea_nil) (show 1 ≤ 1000 by decide))) (el_dat (ev_var (i := 4) (by rfl))))) (el_dat (ev_var (i := 3) (by rfl))))))) ?_
      clear hst hw
      intro v_parts σ H hw hst
      exact hN97 v_parts _ _ hw (hst.weak (.same (.same (.drop (.drop (.drop .nil))))))
    · clear hst hw
      intro H hw hst
      refine s_ifJ (S := (List (List (List Nat)))) (Γj := fun s107 => [none, some (oL (eL eS) s107), some (oD eA v_part), none, none]) hst hw ok (mt_guard fun g106 => mt_ok (et_B (ev_isA (by decide +kernel) g106 (ev_var (i := 2) (by rfl))))) ?_ ?_ ?_
      · clear hst hw ok
        intro W108 hN109p H ok hw hst hN109
        refine s_appE (enc := (eL eS)) (xs := v_parts) hst hw ok (by rfl) (mv_frz (mv_map (f := fun (x110 : ((List Nat) × Unit)) => ([x110.1] : (List (List Nat)))) (mv_lst (ma_consM (mv_callP (x := v_part) (ea_cons (ev_var (i := 2) (by rfl)) ea_nil) rfl rfl (fun _ _ _ h => h) (wkN (by rfl))) fun _ => (ma_ok (ds := fun _ => []) ea_nil)) fun _ => (show 1 ≤ 1000 by decide)) fun _ => rfl)) ?_
        clear hst hw
        intro v_parts σ H hw hst
        exact hN109 v_parts _ _ hw (hst.weak (.same (.same (.same (.same (.same .nil))))))
      · clear hst hw ok
        intro W108 hN109p H ok hw hst hN109
        refine s_appE (enc := (eL eS)) (xs := v_parts) hst hw ok (by rfl) (mv_guard fun g112 => mv_ok (t := oD (eL eS)) ((ev_frz (ev_lst (ea_cons (ev_asX g112 (ev_var (i := 2) (by rfl))) ea_nil) (show 1 ≤ 1000 by decide))))) ?_
        clear hst hw
        intro v_parts σ H hw hst
        exact hN109 v_parts _ _ hw (hst.weak (.same (.same (.same (.same (.same .nil))))))
      · clear hst hw
        intro v_parts σ H hw hst
        have hw : W96 (m_words_of_J1 v_parts) := hw
        have hst : Stt F [none, some (oL (eL eS) v_parts), some (oD eA v_part), none, none] T99 σ H := hst
        replace hst := hst.weak (Γ' := [none, some (oL (eL eS) v_parts), none, none, none]) (.same (.same (.drop (.same (.same .nil)))))
        unfold m_words_of_J1 at hw
        exact hN97 v_parts _ _ hw (hst.weak (.same (.same (.same (.same (.same .nil))))))
  · clear hst hw
    intro v_parts σ H hw hst
    have hw : W (m_words_of_J2 v_parts) := hw
    have hst : Stt F [none, some (oL (eL eS) v_parts), none, none, none] [] σ H := hst
    replace hst := hst.weak (Γ' := [none, some (oL (eL eS) v_parts), none, none, none]) (.same (.same (.same (.same (.same .nil)))))
    unfold m_words_of_J2 at hw
    refine q_nx ?_
    exact s_retF (t := oD (eL eS)) hst hw ok (mv_guard fun g115 => mv_ok (t := oD (eL eS)) ((ev_ixL (enc := (eL eS)) g115 (el_var (n := 1) (by rfl)) ev_int))) fun a v H w s => rt _ _ _ _ _ _ w s
theorem bn_law_names (tx : Tx K mg) : Binds K tx.d_law_names ["cell"] [] := tx.F_law_names.bindsN fun _ _ _ _ _ _ us hl => match us, hl with | [_], _ => rfl
theorem ok_law_names (tx : Tx K mg) : FnOk P w K mg base (L2.CX P w) 2 tx.f_law_names tx.d_law_names ["cell"] (sp_law_names K tx.Ce) := by
  refine tx.F_law_names.ok sc_law_names (fun vs H Q E h => spF_len (n := 1) rfl vs H Q E h) (fun cdv A outer s H vs Q E hr h => ⟨_, (pss_cons (ps_set (i := 1) sc_law_names.nd rfl (by first | exact Or.inl rfl | exact Or.inr rfl) pe_str) (pss_cons (ps_set (i := 2) sc_law_names.nd rfl (by first | exact Or.inl rfl | exact Or.inr rfl) (pe_callS (E := WE (fun cls d _ H => E cls d H)) (ok_law_spread tx) (hr.mono (by decide)) (by rfl) tx.g_law_spread tx.F_law_spread.kp (bn_law_spread tx) (fun σ => passAt (takes_of rfl rfl rfl rfl) σ) (pa_cons (pv 0) (pa_cons pe_int pa_nil)))) (pss_cons (ps_set (i := 3) sc_law_names.nd rfl (by first | exact Or.inl rfl | exact Or.inr rfl) (pe_callS (E := WE (fun cls d _ H => E cls d H)) (ok_law_letters tx) (hr.mono (by decide)) (by rfl) tx.g_law_letters tx.F_law_letters.kp (bn_law_letters tx) (fun σ => passAt (takes_of rfl rfl rfl rfl) σ) (pa_cons (pe_ix (r := rIxL K) ix_list (pv 2) pe_int (fun _ _ => rfl)) (pa_cons (pe_op op_add pe_int (pe_op op_mod (pe_op op_fdivW (pv 0) pe_int) pe_int)) pa_nil)))) (pss_cons (ps_set (i := 4) sc_law_names.nd rfl (by first | exact Or.inl rfl | exact Or.inr rfl) (pe_op op_mod (pe_ix (r := rIxL K) ix_list (pv 2) pe_int (fun _ _ => rfl)) (pe_callB call_len_str (by rfl) tx.n_len (by rfl) (pa_cons (pv 3) pa_nil)))) (pss_cons (ps_if (pt_cmpR op_eq (pe_op op_mod (pv 0) pe_int) pe_int (by first | exact nomark _ | rfl)) (pss_cons (ps_set (i := 5) sc_law_names.nd rfl (by first | exact Or.inl rfl | exact Or.inr rfl) (pe_m1 PySem.F.slot_str_find PySem.F.type_str_find mt_find (pv 1) (pe_ix ix_str (pv 3) (pv 4) (fun _ _ => rfl)))) (pss_cons (ps_setLc (i := 6) (own := [("k", 7)]) (g := gName 7) (tt := tYes) rfl sc_law_names.nd rfl rfl (sw_true rfl rfl rfl (by decide +kernel)) (pi_range1 (by rfl) tx.n_range (pa_cons pe_int pa_nil)) (blkOk_by (N := N_law_names) (sc := defScope s_law_names) (by decide +kernel)) (fun _ _ _ _ _ => (pg_name (i := 7) sc_law_names.nd rfl (by first | exact Or.inl rfl | exact Or.inr rfl))) (fun _ _ _ _ _ => pts_nil) (fun _ _ _ _ _ => (pe_ix ix_str (pv 1) (pe_op op_mod (pe_op op_add (pv 5) (pe_op op_mulW pe_int (pv 7))) pe_int) (fun _ _ => rfl)))) (pss_one (ps_setLc (i := 8) (own := [("letter", 9)]) (g := gName 9) (tt := tYes) rfl sc_law_names.nd rfl rfl (sw_true rfl rfl rfl (by decide +kernel)) (pi_list (pv 6)) (blkOk_by (N := N_law_names) (sc := defScope s_law_names) (by decide +kernel)) (fun _ _ _ _ _ => (pg_name (i := 9) sc_law_names.nd rfl (by first | exact Or.inl rfl | exact Or.inr rfl))) (fun _ _ _ _ _ => pts_nil) (fun _ _ _ _ _ => (pe_op op_add_str (pe_op op_add_str (pe_slice sl_str (pv 3) po_none (po_some (pv 4))) (pv 9)) (pe_slice sl_str (pv 3) (po_some (pe_op op_add (pv 4) pe_int)) po_none))))))) (pss_one (ps_if (pt_cmpR op_eq (pe_op op_mod (pv 0) pe_int) pe_int (by first | exact nomark _ | rfl)) (pss_cons (ps_set (i := 3) sc_law_names.nd rfl (by first | exact Or.inl rfl | exact Or.inr rfl) (pe_callS (E := WE (fun cls d _ H => E cls d H)) (ok_law_letters tx) (hr.mono (by decide)) (by rfl) tx.g_law_letters tx.F_law_letters.kp (bn_law_letters tx) (fun σ => passAt (takes_of rfl rfl rfl rfl) σ) (pa_cons (pe_ix (r := rIxL K) ix_list (pv 2) pe_int (fun _ _ => rfl)) (pa_cons pe_int pa_nil)))) (pss_one (ps_set (i := 8) sc_law_names.nd rfl (by first | exact Or.inl rfl | exact Or.inr rfl) (pe_lst (pa_cons (pe_slice sl_str (pv 3) po_none (po_some (pe_op op_add pe_int (pv 4)))) (pa_cons (pe_slice sl_str (pv 3) po_none (po_some (pe_op op_add pe_int (pv 4)))) (pa_cons (pe_slice sl_str (pv 3) po_none (po_some (pe_op op_add pe_int (pv 4)))) (pa_cons (pv 3) pa_nil)))))))) (pss_one (ps_setLc (i := 8) (own := [("k", 7)]) (g := gName 7) (tt := tYes) rfl sc_law_names.nd rfl rfl (sw_true rfl rfl rfl (by decide +kernel)) (pi_range1 (by rfl) tx.n_range (pa_cons pe_int pa_nil)) (blkOk_by (N := N_law_names) (sc := defScope s_law_names) (by decide +kernel)) (fun _ _ _ _ _ => (pg_name (i := 7) sc_law_names.nd rfl (by first | exact Or.inl rfl | exact Or.inr rfl))) (fun _ _ _ _ _ => pts_nil) (fun _ _ _ _ _ => (pe_callS (E := fun _ => E0) (ok_law_letters tx) (hr.mono (by decide)) (by rfl) tx.g_law_letters tx.F_law_letters.kp (bn_law_letters tx) (fun _ => passAtL) (pa_cons (pe_ix (r := rIxL K) ix_list (pv 2) (pe_op op_add (pv 7) pe_int) (fun _ _ => rfl)) (pa_cons (pe_op op_add pe_int (pe_op op_mod (pe_ix (r := rIxL K) ix_list (pv 2) (pe_op op_add (pv 7) pe_int) (fun _ _ => rfl)) pe_int)) pa_nil))))))))) (pss_one (ps_ret (pe_lc (own := [("name", 10)]) (g := gName 10) (tt := tYes) rfl sc_law_names.nd (pi_list (pv 8)) (blkOk_by (N := N_law_names) (sc := defScope s_law_names) (by decide +kernel)) (fun _ _ _ _ _ => (pg_name (i := 10) sc_law_names.nd rfl (by first | exact Or.inl rfl | exact Or.inr rfl))) (fun _ _ _ _ _ => pts_nil) (fun _ _ _ _ _ => (pe_callS (E := fun _ => E0) (ok_law_free tx) (hr.mono (by decide)) (by rfl) tx.g_law_free tx.F_law_free.kp (bn_law_free tx) (fun _ => passAtL) (pa_cons (pv 10) pa_nil))))))))))), ?_⟩)
  obtain ⟨v_cell, F, W, rfl, ni, hst, hw, ok, rt⟩ := spD_start N_law_names h
  generalize L2.start N_law_names vs = σ at hst ⊢
  have hw : W (m_law_names v_cell) := hw
  replace ok := ok (List.replicate 11 none)
  have hst : Stt F [some (oD eI v_cell), none, none, none, none, none, none, none, none, none, none] [] σ H := hst
  unfold m_law_names at hw
  refine q_seq ?_
  refine s_asgM (t := oD eS) hst hw ok (mv_ok (t := oD eS) (ev_lit)) (show 1 < 11 by decide) (ni _) ?_
  clear hst hw
  intro v_letters σ H hw hst
  refine q_nx ?_
  refine q_seq ?_
  refine s_asgM (t := oD (eL eI)) hst hw ok (mv_callP (x := (v_cell, (9 : Int))) (ea_cons (ev_var (i := 0) (by rfl)) (ea_cons ev_int ea_nil)) rfl rfl (fun _ _ _ h => h) (wkN (by rfl))) (show 2 < 11 by decide) (ni _) ?_
  clear hst hw
  intro v_xs σ H hw hst
  refine q_nx ?_
  refine q_seq ?_
  refine s_asgM (t := oD eS) hst hw ok (mv_guard fun g116 => (mv_guard fun g117 => (mv_guard fun g118 => (mv_callP (x := ((getI v_xs (0 : Int)), ((1 : Int) + ((v_cell / (3 : Int)) % (6 : Int))))) (ea_cons (ev_ixL (enc := eI) g116 (el_dat (ev_var (i := 2) (by rfl))) ev_int) (ea_cons (ev_add ev_int (ev_mod g118 (ev_divW g117 (ev_var (i := 0) (by rfl)) ev_int) ev_int)) ea_nil)) rfl rfl (fun _ _ _ h => h) (wkN (by rfl)))))) (show 3 < 11 by decide) (ni _) ?_
  clear hst hw
  intro v_base σ H hw hst
  refine q_nx ?_
  refine q_seq ?_
  refine s_asgM (t := oD eI) hst hw ok (mv_guard fun g119 => mv_guard fun g120 => mv_guard fun g121 => mv_ok (t := oD eI) ((ev_mod g121 (ev_ixL (enc := eI) g119 (el_dat (ev_var (i := 2) (by rfl))) ev_int) (ev_lenSx g120 (ev_var (i := 3) (by rfl)))))) (show 4 < 11 by decide) (ni _) ?_
  clear hst hw
  intro v_at σ H hw hst
  refine q_nx ?_
  refine q_seq ?_
  refine s_ifJ (S := (List (List Nat))) (Γj := fun s123 => [none, none, none, none, none, none, none, none, some (oD (eL eS) s123), none, none]) hst hw ok (mt_guard fun g122 => mt_ok (et_test (ev_eqI (ev_mod g122 (ev_var (i := 0) (by rfl)) ev_int) ev_int))) ?_ ?_ ?_
  · clear hst hw ok
    intro W124 hN125p H ok hw hst hN125
    refine q_seq ?_
    refine s_asgM (t := oD eI) hst hw ok (mv_guard fun g126 => mv_ok (t := oD eI) ((ev_find (ev_var (i := 1) (by rfl)) (ev_ixSx g126 (ev_var (i := 3) (by rfl)) (ev_var (i := 4) (by rfl)))))) (show 5 < 11 by decide) (ni _) ?_
    clear hst hw
    intro v_first σ H hw hst
    refine q_nx ?_
    refine q_seq ?_
    refine s_asgM (t := oD (eL eC)) hst hw ok (mv_frz (mv_lc (Γx := List.replicate 11 none) (Γb := fun _ x => [some (oD eI v_cell), some (oD eS v_letters), some (oD (eL eI) v_xs), some (oD eS v_base), some (oD eI v_at), some (oD eI v_first), none, some (oD eI x), none, none, none]) (xs := fun c => (rng 0 c)) (enc := eI) (encB := eC) (vs := [7]) (sr_rng1 (mv_ok (t := oD eI) (ev_int))) ⟨⟨by rfl, ni _⟩, True.intro⟩ (fun _ _ => (tgw_name (j := 7) (show 7 < 11 by decide) (ni _) (by decide))) (fun _ _ => (.same (.same (.same (.same (.same (.same (.same (.drop (.same (.same (.same .nil)))))))))))) (fun _ v_k => by
          show MV F _ _ _ _ (m_law_names_C1 v_letters v_first v_k) _
          unfold m_law_names_C1
          exact (mv_guard fun g128 => mv_guard fun g129 => mv_guard fun g130 => mv_ok (t := oD eC) ((ev_ixSx g130 (ev_var (i := 1) (by rfl)) (ev_mod g129 (ev_add (ev_var (i := 5) (by rfl)) (ev_mulW g128 ev_int (ev_var (i := 7) (by rfl)))) ev_int))))))) (show 6 < 11 by decide) (ni _) ?_
    clear hst hw
    intro v_turned σ H hw hst
    refine q_nx ?_
    refine s_asgM (t := oD (eL eS)) hst hw ok (mv_frz (mv_lc (Γx := List.replicate 11 none) (Γb := fun _ x => [some (oD eI v_cell), some (oD eS v_letters), some (oD (eL eI) v_xs), some (oD eS v_base), some (oD eI v_at), some (oD eI v_first), some (oD (eL eC) v_turned), none, none, some (oD eC x), none]) (xs := fun c => c) (enc := eC) (encB := eS) (vs := [9]) (sr_list (mv_ok (t := oD (eL eC)) ((ev_var (i := 6) (by rfl))))) ⟨⟨by rfl, ni _⟩, True.intro⟩ (fun _ _ => (tgw_name (j := 9) (show 9 < 11 by decide) (ni _) (by decide))) (fun _ _ => (.same (.same (.same (.same (.same (.same (.same (.same (.same (.drop (.same .nil)))))))))))) (fun _ v_letter => by
          show MV F _ _ _ _ (m_law_names_C2 v_base v_at v_letter) _
          unfold m_law_names_C2
          exact (mv_guard fun g132 => mv_guard fun g133 => mv_guard fun g134 => mv_guard fun g135 => mv_ok (t := oD eS) ((ev_catX g135 (ev_catX g133 (ev_slSx g132 (ev_var (i := 3) (by rfl)) eo_no (eo_some (ev_var (i := 4) (by rfl)))) (ev_var (i := 9) (by rfl))) (ev_slSx g134 (ev_var (i := 3) (by rfl)) (eo_some (ev_add (ev_var (i := 4) (by rfl)) ev_int)) eo_no))))))) (show 8 < 11 by decide) (ni _) ?_
    clear hst hw
    intro v_some σ H hw hst
    exact hN125 v_some _ _ hw (hst.weak (.drop (.drop (.drop (.drop (.drop (.drop (.drop (.same (.same (.same (.same .nil))))))))))))
  · clear hst hw ok
    intro W124 hN125p H ok hw hst hN125
    refine s_ifM hst hw ok (mt_guard fun g136 => mt_ok (et_test (ev_eqI (ev_mod g136 (ev_var (i := 0) (by rfl)) ev_int) ev_int))) ?_ ?_
    · clear hst hw
      intro H hw hst
      refine q_seq ?_
      refine s_asgM (t := oD eS) hst hw ok (mv_guard fun g137 => (mv_callP (x := ((getI v_xs (0 : Int)), (6 : Int))) (ea_cons (ev_ixL (enc := eI) g137 (el_dat (ev_var (i := 2) (by rfl))) ev_int) (ea_cons ev_int ea_nil)) rfl rfl (fun _ _ _ h => h) (wkN (by rfl)))) (show 3 < 11 by decide) (ni _) ?_
      clear hst hw
      intro v_base σ H hw hst
      refine q_nx ?_
      refine s_asgM (t := oD (eL eS)) hst hw ok (mv_guard fun g138 => mv_guard fun g139 => mv_guard fun g140 => mv_ok (t := oD (eL eS)) ((ev_frz (ev_lst (ea_cons (ev_slSx g138 (ev_var (i := 3) (by rfl)) eo_no (eo_some (ev_add ev_int (ev_var (i := 4) (by rfl))))) (ea_cons (ev_slSx g139 (ev_var (i := 3) (by rfl)) eo_no (eo_some (ev_add ev_int (ev_var (i := 4) (by rfl))))) (ea_cons (ev_slSx g140 (ev_var (i := 3) (by rfl)) eo_no (eo_some (ev_add ev_int (ev_var (i := 4) (by rfl))))) (ea_cons (ev_var (i := 3) (by rfl)) ea_nil)))) (show 4 ≤ 1000 by decide))))) (show 8 < 11 by decide) (ni _) ?_
      clear hst hw
      intro v_some σ H hw hst
      exact hN125 v_some _ _ hw (hst.weak (.drop (.drop (.drop (.drop (.drop (.same (.same (.same (.same (.same (.same .nil))))))))))))
    · clear hst hw
      intro H hw hst
      refine s_asgM (t := oD (eL eS)) hst hw ok (mv_frz (mv_lc (Γx := List.replicate 11 none) (Γb := fun _ x => [some (oD eI v_cell), some (oD eS v_letters), some (oD (eL eI) v_xs), some (oD eS v_base), some (oD eI v_at), none, none, some (oD eI x), none, none, none]) (xs := fun c => (rng 0 c)) (enc := eI) (encB := eS) (vs := [7]) (sr_rng1 (mv_ok (t := oD eI) (ev_int))) ⟨⟨by rfl, ni _⟩, True.intro⟩ (fun _ _ => (tgw_name (j := 7) (show 7 < 11 by decide) (ni _) (by decide))) (fun _ _ => (.same (.same (.same (.same (.same (.same (.same (.drop (.same (.same (.same .nil)))))))))))) (fun _ v_k => by
          show MV F _ _ _ _ (m_law_names_C3 v_xs v_k) _
          unfold m_law_names_C3
          exact (mv_guard fun g142 => (mv_guard fun g143 => (mv_guard fun g144 => (mv_callP (x := ((getI v_xs (v_k + (1 : Int))), ((1 : Int) + ((getI v_xs (v_k + (5 : Int))) % (6 : Int))))) (ea_cons (ev_ixL (enc := eI) g142 (el_dat (ev_var (i := 2) (by rfl))) (ev_add (ev_var (i := 7) (by rfl)) ev_int)) (ea_cons (ev_add ev_int (ev_mod g144 (ev_ixL (enc := eI) g143 (el_dat (ev_var (i := 2) (by rfl))) (ev_add (ev_var (i := 7) (by rfl)) ev_int)) ev_int)) ea_nil)) rfl rfl (fun _ _ _ h => h.elim) (wkN (by rfl))))))))) (show 8 < 11 by decide) (ni _) ?_
      clear hst hw
      intro v_some σ H hw hst
      exact hN125 v_some _ _ hw (hst.weak (.drop (.drop (.drop (.drop (.drop (.same (.same (.same (.same (.same (.same .nil))))))))))))
  · clear hst hw
    intro v_some σ H hw hst
    have hw : W (m_law_names_J1 v_some) := hw
    have hst : Stt F [none, none, none, none, none, none, none, none, some (oD (eL eS) v_some), none, none] [] σ H := hst
    replace hst := hst.weak (Γ' := [none, none, none, none, none, none, none, none, some (oD (eL eS) v_some), none, none]) (.same (.same (.same (.same (.same (.same (.same (.same (.same (.same (.same .nil)))))))))))
    unfold m_law_names_J1 at hw
    refine q_nx ?_
    exact s_retF (t := oD (eL eS)) hst hw ok (mv_frz (mv_lc (Γx := List.replicate 11 none) (Γb := fun _ x => [none, none, none, none, none, none, none, none, some (oD (eL eS) v_some), none, some (oD eS x)]) (xs := fun c => c) (enc := eS) (encB := eS) (vs := [10]) (sr_list (mv_ok (t := oD (eL eS)) ((ev_var (i := 8) (by rfl))))) ⟨⟨by rfl, ni _⟩, True.intro⟩ (fun _ _ => (tgw_name (j := 10) (show 10 < 11 by decide) (ni _) (by decide))) (fun _ _ => (.same (.same (.same (.same (.same (.same (.same (.same (.same (.same (.drop .nil)))))))))))) (fun _ v_name => by
          show MV F _ _ _ _ (m_law_names_C4 v_name) _
          unfold m_law_names_C4
          exact (mv_callP (x := v_name) (ea_cons (ev_var (i := 10) (by rfl)) ea_nil) rfl rfl (fun _ _ _ h => h.elim) (wkN (by rfl)))))) fun a v H w s => rt _ _ _ _ _ _ w s
theorem bn_law_term (tx : Tx K mg) : Binds K tx.d_law_term ["xs", "names"] [] := tx.F_law_term.bindsN fun _ _ _ _ _ _ us hl => match us, hl with | [_, _], _ => rfl
theorem ok_law_term (tx : Tx K mg) : FnOk P w K mg base (L2.CX P w) 2 tx.f_law_term tx.d_law_term ["xs", "names"] (sp_law_term K tx.Ce) := by
  refine tx.F_law_term.ok sc_law_term (fun vs H Q E h => spF_len (n := 2) rfl vs H Q E h) (fun cdv A outer s H vs Q E hr h => ⟨_, (pss_cons (ps_set (i := 2) sc_law_term.nd rfl (by first | exact Or.inl rfl | exact Or.inr rfl) (pe_lst pa_nil)) (pss_cons (ps_for (passes_of rfl) rfl (pi_range1 (by rfl) tx.n_range (pa_cons (pe_op op_add pe_int (pe_op op_mod (pe_op op_fdivW (pe_ix (r := rIxL K) ix_list (pv 0) pe_int (fun _ _ => rfl)) pe_int) pe_int)) pa_nil)) (pg_name (i := 3) sc_law_term.nd rfl (by first | exact Or.inl rfl | exact Or.inr rfl)) (pss_cons (ps_set (i := 2) sc_law_term.nd rfl (by first | exact Or.inl rfl | exact Or.inr rfl) (pe_op op_cat (pv 2) (pe_lst (pa_cons (pe_callS (E := WE (fun cls d _ H => E cls d H)) (ok_law_leaf tx) (hr.mono (by decide)) (by rfl) tx.g_law_leaf tx.F_law_leaf.kp (bn_law_leaf tx) (fun σ => passAt (takes_of rfl rfl rfl rfl) σ) (pa_cons (pe_ix (r := rIxL K) ix_list (pv 0) (pv 3) (fun _ _ => rfl)) (pa_cons (pv 1) pa_nil))) pa_nil)))) (pss_one (ps_if (pw_and (pt_cmpR op_gt (pe_callB (r := rLenK K) call_len_seq (by rfl) tx.n_len (by rfl) (pa_cons (pv 2) pa_nil)) pe_int (by first | exact nomark _ | rfl)) (pw_and1 (pt_cmpR op_eq (pe_op op_mod (pe_op op_fdivW (pe_ix (r := rIxL K) ix_list (pv 0) (pv 3) (fun _ _ => rfl)) pe_int) pe_int) pe_int (by first | exact nomark _ | rfl)))).pt (pss_one (ps_set (i := 2) sc_law_term.nd rfl (by first | exact Or.inl rfl | exact Or.inr rfl) (pe_callS (E := WE (fun cls d _ H => E cls d H)) (ok_law_joined tx) (hr.mono (by decide)) (by rfl) tx.g_law_joined tx.F_law_joined.kp (bn_law_joined tx) (fun σ => passAt (takes_of rfl rfl rfl rfl) σ) (pa_cons (pv 2) (pa_cons (pe_op op_fdivW (pe_ix (r := rIxL K) ix_list (pv 0) (pv 3) (fun _ _ => rfl)) pe_int) pa_nil))))) pss_nil)))) (pss_cons (ps_while (passes_of rfl) (pt_cmpR op_gt (pe_callB (r := rLenK K) call_len_seq (by rfl) tx.n_len (by rfl) (pa_cons (pv 2) pa_nil)) pe_int (by first | exact nomark _ | rfl)) (pss_one (ps_set (i := 2) sc_law_term.nd rfl (by first | exact Or.inl rfl | exact Or.inr rfl) (pe_callS (E := WE (fun cls d _ H => E cls d H)) (ok_law_joined tx) (hr.mono (by decide)) (by rfl) tx.g_law_joined tx.F_law_joined.kp (bn_law_joined tx) (fun σ => passAt (takes_of rfl rfl rfl rfl) σ) (pa_cons (pv 2) (pa_cons (pe_op op_add (pe_op op_fdivW (pe_ix (r := rIxL K) ix_list (pv 0) pe_int (fun _ _ => rfl)) pe_int) (pe_callB (r := rLenK K) call_len_seq (by rfl) tx.n_len (by rfl) (pa_cons (pv 2) pa_nil))) pa_nil)))))) (pss_one (ps_ret (pe_tup (pa_cons (pe_m1 (r := rJoinK K) PySem.F.slot_str_join PySem.F.type_str_join mt_join pe_str (pe_ix (r := rIxT K) ix_tup (pe_ix (r := rIxL K) ix_list (pv 2) pe_int (fun _ _ => rfl)) pe_int (fun _ _ => rfl))) (pa_cons (pe_ix (r := rIxT K) ix_tup (pe_ix (r := rIxL K) ix_list (pv 2) pe_int (fun _ _ => rfl)) pe_int (fun _ _ => rfl)) pa_nil)))))))), ?_⟩)
  obtain ⟨x, F, W, rfl, ni, hst, hw, ok, rt⟩ := spD_start N_law_term h
  obtain ⟨v_xs, v_names⟩ := x
  generalize L2.start N_law_term vs = σ at hst ⊢
  have hw : W (m_law_term v_xs v_names) := hw
  replace ok := ok (List.replicate 4 none)
  have hst : Stt F [some (oD (eL eI) v_xs), some (oD (eL eS) v_names), none, none] [] σ H := hst
  unfold m_law_term at hw
  refine q_seq ?_
  refine s_asgM (t := oD (eL (e2 (eL eS) (eU eA)))) hst hw ok (mv_ok (t := oD (eL (e2 (eL eS) (eU eA)))) ((ev_frz (ev_lst ea_nil (show 0 ≤ 1000 by decide))))) (show 2 < 4 by decide) (ni _) ?_
  clear hst hw
  intro v_some σ H hw hst
  refine q_nx ?_
  refine q_seq ?_
  refine s_foldM (S := (List ((List (List Nat)) × (List Dt)))) (xs := fun c166 => (rng 0 c166)) (enc := eI) (f := fun c166 y149 s150 => m_law_term_L1 v_xs v_names s150 y149) (Γs := fun s150 => [some (oD (eL eI) v_xs), some (oD (eL eS) v_names), some (oD (eL (e2 (eL eS) (eU eA))) s150), none]) (Γb := fun _ y149 s150 => [some (oD (eL eI) v_xs), some (oD (eL eS) v_names), some (oD (eL (e2 (eL eS) (eU eA))) s150), some (oD eI y149)]) (s0 := v_some) hst hw ok (sr_rng1 (mv_guard fun g146 => mv_guard fun g147 => mv_guard fun g148 => mv_ok (t := oD eI) ((ev_add ev_int (ev_mod g148 (ev_divW g147 (ev_ixL (enc := eI) g146 (el_dat (ev_var (i := 0) (by rfl))) ev_int) ev_int) ev_int))))) (.same (.same (.same (.same .nil)))) (fun _ _ _ => (tg_name (j := 3) (show 3 < 4 by decide) (ni _))) ?_ ?_
  · clear hst hw ok
    intro _ v_k v_some W151 hN152p T154 σ H ok hw hst hN152
    have hw : W151 (m_law_term_L1 v_xs v_names v_some v_k) := hw
    have hst : Stt F [some (oD (eL eI) v_xs), some (oD (eL eS) v_names), some (oD (eL (e2 (eL eS) (eU eA))) v_some), some (oD eI v_k)] T154 σ H := hst
    unfold m_law_term_L1 at hw
    refine q_seq ?_
    refine s_asgM (t := oD (eL (e2 (eL eS) (eU eA)))) hst hw ok (mv_frz (ml_cat (enc := (e2 (eL eS) (eU eA))) (ml_ok (enc := (e2 (eL eS) (eU eA))) ((el_dat (ev_var (i := 2) (by rfl))))) (ml_own (mv_map (f := fun (x157 : (((List (List Nat)) × (List Dt)) × Unit)) => ([x157.1] : (List ((List (List Nat)) × (List Dt))))) (mv_lst (ma_consM (mv_guard fun g156 => (mv_callP (x := ((getI v_xs v_k), v_names)) (ea_cons (ev_ixL (enc := eI) g156 (el_dat (ev_var (i := 0) (by rfl))) (ev_var (i := 3) (by rfl))) (ea_cons (ev_var (i := 1) (by rfl)) ea_nil)) rfl rfl (fun _ _ _ h => h) (wkN (by rfl)))) fun _ => (ma_ok (ds := fun _ => []) ea_nil)) fun _ => (show 1 ≤ 1000 by decide)) fun _ => rfl)))) (show 2 < 4 by decide) (ni _) ?_
    clear hst hw
    intro v_some σ H hw hst
    refine q_nx ?_
    refine s_ifM hst hw ok (mt_and (mt_ok (et_test (ev_gt (ev_lenLE (enc := (e2 (eL eS) (eU eA))) (el_dat (ev_var (i := 2) (by rfl)))) ev_int))) (mt_guard fun g161 => mt_guard fun g162 => mt_guard fun g163 => mt_ok (et_test (ev_eqI (ev_mod g163 (ev_divW g162 (ev_ixL (enc := eI) g161 (el_dat (ev_var (i := 0) (by rfl))) (ev_var (i := 3) (by rfl))) ev_int) ev_int) ev_int)))) ?_ ?_
    · clear hst hw
      intro H hw hst
      refine s_asgM (t := oD (eL (e2 (eL eS) (eU eA)))) hst hw ok (mv_guard fun g164 => (mv_guard fun g165 => (mv_callP (x := (v_some, ((getI v_xs v_k) / (400 : Int)))) (ea_cons (ev_var (i := 2) (by rfl)) (ea_cons (ev_divW g165 (ev_ixL (enc := eI) g164 (el_dat (ev_var (i := 0) (by rfl))) (ev_var (i := 3) (by rfl))) ev_int) ea_nil)) rfl rfl (fun _ _ _ h => h) (wkN (by rfl))))) (show 2 < 4 by decide) (ni _) ?_
      clear hst hw
      intro v_some σ H hw hst
      exact hN152 v_some _ _ hw (hst.weak (.same (.same (.same (.drop .nil)))))
    · clear hst hw
      intro H hw hst
      refine s_next ?_
      exact hN152 v_some _ _ hw (hst.weak (.same (.same (.same (.drop .nil)))))
  · clear hst hw
    intro v_some σ H hw hst
    have hw : W (m_law_term_J1 v_xs v_some) := hw
    have hst : Stt F [some (oD (eL eI) v_xs), some (oD (eL eS) v_names), some (oD (eL (e2 (eL eS) (eU eA))) v_some), none] [] σ H := hst
    replace hst := hst.weak (Γ' := [some (oD (eL eI) v_xs), none, some (oD (eL (e2 (eL eS) (eU eA))) v_some), none]) (.same (.drop (.same (.same .nil))))
    unfold m_law_term_J1 at hw
    refine q_nx ?_
    refine q_seq ?_
    refine s_whileM (S := (List ((List (List Nat)) × (List Dt)))) (β := ((List Nat) × (List Dt))) (Γs := fun s167 => [some (oD (eL eI) v_xs), none, some (oD (eL (e2 (eL eS) (eU eA))) s167), none]) (s0 := v_some) hst hw ok (.same (.same (.same (.same .nil)))) ?_ ?_ ?_
    · clear hst hw
      intro v_some
      show MT F _ _ _ [some (oD (eL eI) v_xs), none, some (oD (eL (e2 (eL eS) (eU eA))) v_some), none] (m_law_term_Q1 v_some)
      unfold m_law_term_Q1
      exact (mt_ok (et_test (ev_gt (ev_lenLE (enc := (e2 (eL eS) (eU eA))) (el_dat (ev_var (i := 2) (by rfl)))) ev_int)))
    · clear hst hw ok
      intro v_some W168 hN169p hB170p σ H ok r171 hw hst hN169 hB170
      have rt172 := fun a v T Γ σ H' w s => rt a v T Γ σ H' (r171 a w) s
      have hw : W168 (m_law_term_L2 v_xs v_some) := hw
      have hst : Stt F [some (oD (eL eI) v_xs), none, some (oD (eL (e2 (eL eS) (eU eA))) v_some), none] [] σ H := hst
      unfold m_law_term_L2 at hw
      refine s_asgM (t := oD (eL (e2 (eL eS) (eU eA)))) hst hw ok (mv_guard fun g173 => (mv_guard fun g174 => (mv_callP (x := (v_some, (((getI v_xs (1 : Int)) / (400 : Int)) + (v_some.length : Int)))) (ea_cons (ev_var (i := 2) (by rfl)) (ea_cons (ev_add (ev_divW g174 (ev_ixL (enc := eI) g173 (el_dat (ev_var (i := 0) (by rfl))) ev_int) ev_int) (ev_lenLE (enc := (e2 (eL eS) (eU eA))) (el_dat (ev_var (i := 2) (by rfl))))) ea_nil)) rfl rfl (fun _ _ _ h => h) (wkN (by rfl))))) (show 2 < 4 by decide) (ni _) ?_
      clear hst hw
      intro v_some σ H hw hst
      exact hN169 v_some _ _ hw (hst.weak (.same (.same (.same (.same .nil)))))
    · clear hst hw
      intro v_some σ H hw hst
      have hw : W (m_law_term_J2 v_some) := hw
      have hst : Stt F [some (oD (eL eI) v_xs), none, some (oD (eL (e2 (eL eS) (eU eA))) v_some), none] [] σ H := hst
      replace hst := hst.weak (Γ' := [none, none, some (oD (eL (e2 (eL eS) (eU eA))) v_some), none]) (.drop (.same (.same (.same .nil))))
      unfold m_law_term_J2 at hw
      refine q_nx ?_
      exact s_retF (t := oD (e2 eS (eU eA))) hst hw ok (mv_map (f := fun (x178 : ((List Nat) × Unit)) => (x178.1, (getI v_some (0 : Int)).2)) (mv_tup (ma_guard fun g177 => (ma_consM (mv_joinX ev_lit (ml_guard fun g175 => ml_ok (enc := eS) ((el_dat (ev_ixC (ds := [(eL eS) (getI v_some (0 : Int)).1, (eU eA) (getI v_some (0 : Int)).2]) (n := 0) (by rfl) (ev_ixL (enc := (e2 (eL eS) (eU eA))) g175 (el_dat (ev_var (i := 2) (by rfl))) ev_int) ev_int))))) fun _ => (ma_consP (ev_ixC (ds := [(eL eS) (getI v_some (0 : Int)).1, (eU eA) (getI v_some (0 : Int)).2]) (n := 1) (by rfl) (ev_ixL (enc := (e2 (eL eS) (eU eA))) g177 (el_dat (ev_var (i := 2) (by rfl))) ev_int) ev_int) (ma_ok (ds := fun _ => []) ea_nil)))) fun _ => (show 2 ≤ 1000 by decide)) fun _ => rfl) fun a v H w s => rt _ _ _ _ _ _ w s
theorem bn_part_in (tx : Tx K mg) : Binds K tx.d_part_in ["word"] [] := tx.F_part_in.bindsN fun _ _ _ _ _ _ us hl => match us, hl with | [_], _ => rfl
theorem ok_part_in (tx : Tx K mg) : FnOk P w K mg base (L2.CX P w) 3 tx.f_part_in tx.d_part_in ["word"] (sp_part_in K tx.Ce) := by
  refine tx.F_part_in.ok sc_part_in (fun vs H Q E h => spF_len (n := 1) rfl vs H Q E h) (fun cdv A outer s H vs Q E hr h => ⟨_, (pss_cons (ps_if (pt_val (pe_callS (E := WE (fun cls d _ H => E cls d H)) (ok_is_name tx) (hr.mono (by decide)) (by rfl) tx.g_is_name tx.F_is_name.kp (bn_is_name tx) (fun σ => passAt (takes_of rfl rfl rfl rfl) σ) (pa_cons (pv 0) pa_nil))) (pss_one (ps_ret (pv 0))) pss_nil) (pss_one (ps_tryOnlyXW rfl rfl ⟨by rfl, by decide, Or.inl tx.x_NoNumber⟩ (fun hd => L2H.passesAt_of rfl hd) (takes_of rfl rfl rfl rfl) (fun Wt pn xe tkN tk pw => (pss_one (ps_ret (pe_callS (E := WE Wt) (okN_worth_in tx) (hr.mono (by decide)) (by rfl) tx.g_worth_in tx.F_worth_in.kp (bn_worth_in tx) (fun σ => L2N.passAt tkN σ) (pa_cons (pv 0) pa_nil))))) (fun a oe cls d pn hz hf tkS hot => (pss_one (L2H.ps_raiseH hot tkS (L2N.pmk_own PySem.F.excBase_ValueError tx.q_NoTerm tx.x_NoTerm tx.k_NoTerm (raises_own tx.b_NoTerm tx.t_NoTerm) (by rfl)))))))), ?_⟩)
  obtain ⟨v_word, F, W, rfl, ni, hst, hw, ok, rt⟩ := spD_start N_part_in h
  generalize L2.start N_part_in vs = σ at hst ⊢
  have hw : W (m_part_in v_word) := hw
  replace ok := ok (List.replicate 1 none)
  have hst : Stt F [some (oD eS v_word)] [] σ H := hst
  unfold m_part_in at hw
  refine q_seq ?_
  refine s_ifM hst hw ok (mt_B (mv_callP (x := v_word) (ea_cons (ev_var (i := 0) (by rfl)) ea_nil) rfl rfl (fun _ _ _ h => h) (wkN (by rfl)))) ?_ ?_
  · clear hst hw
    intro H hw hst
    exact s_retF (t := oD eA) hst hw ok (mv_ok (t := oD eA) ((ev_var (i := 0) (by rfl)))) fun a v H w s => rt _ _ _ _ _ _ w s
  · clear hst hw
    intro H hw hst
    refine s_next ?_
    refine q_nx ?_
    refine s_tryOnlyXC (S := Unit) (β := Dt) (Γt := [some (oD eS v_word)]) (Γj := fun s179 => [some (oD eS v_word)]) hst hw ok (wkN (by rfl)) tx.ck1 (fun _ _ _ h hp => by rw [errAt_plain hp] at h; exact h) ?_ ?_ ?_
    · clear hw ok
      intro W180 Wx190 ok r188 hw hN182
      have rt186 := fun a v T Γ σ H' w s => rt a v T Γ σ H' (r188 a w) s
      exact s_retM (t := oD eA) hst hw ok (mv_map (f := fun a => eI a) (mv_callP (x := v_word) (ea_cons (ev_var (i := 0) (by rfl)) ea_nil) rfl rfl (fun _ _ _ h => h) (.same .nil)) fun _ => rfl) fun a v H w s => rt186 _ _ _ _ _ _ w s
    · clear hst hw ok
      intro e183 W181 a185 σ H hp184 ok r189 hw hst hN182
      have rt187 := fun a v T Γ σ H' w s => rt a v T Γ σ H' (r189 a w) s
      have hw : W181 (m_part_in_H1 e183 ) := hw
      unfold m_part_in_H1 at hw
      exact s_raise (C := tx.Ce .noTerm) hst hw ok (wkN (by rfl)) (fun _ _ _ h => h) fun h => h
    · clear hst hw
      intro s179 σ H hw hst
      have hw : W (m_part_in_J1 ) := hw
      have hst : Stt F [some (oD eS v_word)] [] σ H := hst
      replace hst := hst.weak (Γ' := [none]) (.drop .nil)
      unfold m_part_in_J1 at hw
      exact absurd hw ok.bad
theorem bn_written (tx : Tx K mg) : Binds K tx.d_written ["words", "term"] [] := tx.F_written.bindsN fun _ _ _ _ _ _ us hl => match us, hl with | [_, _], _ => rfl
theorem ok_written (tx : Tx K mg) : FnOk P w K mg base (L2.CX P w) 3 tx.f_written tx.d_written ["words", "term"] (sp_written K tx.Ce) := by
  refine tx.F_written.ok sc_written (fun vs H Q E h => spF_len (n := 2) rfl vs H Q E h) (fun cdv A outer s H vs Q E hr h => ⟨_, (pss_one (ps_ret (pe_m1 (r := rJoinK K) PySem.F.slot_str_join PySem.F.type_str_join mt_join pe_str (pe_op op_cat (pv 0) (pe_callS (E := WE (fun cls d _ H => E cls d H)) (ok_words_of tx) (hr.mono (by decide)) (by rfl) tx.g_words_of tx.F_words_of.kp (bn_words_of tx) (fun σ => passAt (takes_of rfl rfl rfl rfl) σ) (pa_cons (pv 1) pa_nil)))))), ?_⟩)
  obtain ⟨x, F, W, rfl, ni, hst, hw, ok, rt⟩ := spD_start N_written h
  obtain ⟨v_words, v_term⟩ := x
  generalize L2.start N_written vs = σ at hst ⊢
  have hw : W (m_written v_words v_term) := hw
  replace ok := ok (List.replicate 2 none)
  have hst : Stt F [some (oD (eL eS) v_words), some (oD eA v_term)] [] σ H := hst
  unfold m_written at hw
  exact s_retF (t := oD eS) hst hw ok (mv_joinX ev_lit (ml_own (ml_cat (enc := eS) (ml_ok (enc := eS) ((el_dat (ev_var (i := 0) (by rfl))))) (ml_dat (mv_callP (x := v_term) (ea_cons (ev_var (i := 1) (by rfl)) ea_nil) rfl rfl (fun _ _ _ h => h) (wkN (by rfl))))))) fun a v H w s => rt _ _ _ _ _ _ w s
theorem bn_put_in (tx : Tx K mg) : Binds K tx.d_put_in ["row", "rows", "blocks"] [] := tx.F_put_in.bindsN fun _ _ _ _ _ _ us hl => match us, hl with | [_, _, _], _ => rfl
theorem ok_put_in (tx : Tx K mg) : FnOk P w K mg base (L2.CX P w) 3 tx.f_put_in tx.d_put_in ["row", "rows", "blocks"] (sp_put_in K tx.Ce) := by
  refine tx.F_put_in.ok sc_put_in (fun vs H Q E h => spF_len (n := 3) rfl vs H Q E h) (fun cdv A outer s H vs Q E hr h => ⟨_, (pss_cons (ps_if (pt_cmpR op_isN (pv 0) pe_non (by first | exact nomark _ | rfl)) (pss_one (ps_ret pe_bl)) pss_nil) (pss_cons (ps_if (pt_cmpR (r := rEqD K) (op_eqD hr.units) (pe_ix (r := rIxT K) ix_tup (pv 0) pe_int (fun _ _ => rfl)) pe_str (by first | exact nomark _ | rfl)) (pss_cons (ps_if (pt_cmpR op_eq (pe_callB (r := rLenK K) call_len_seq (by rfl) tx.n_len (by rfl) (pa_cons (pv 2) pa_nil)) (C8.pe_gc (by rfl) tx.c_MOST_BLOCKS) (by first | exact nomark _ | rfl)) (pss_one (ps_ret pe_bl)) pss_nil) (pss_one (ps_expr (pe_bm PySem.F.plainAttrs_list PySem.F.slot_list_append PySem.F.type_list_append mt_append (pv 2) (pa_cons (pe_makeP (E := WE (fun cls d _ H => E cls d H)) tx.g_Block_init (ok_Block_init tx) (hr.mono (by decide)) (by rfl) tx.x_Block (bn_Block_init tx) (fun σ => passAt (takes_of rfl rfl rfl rfl) σ) (pa_cons (pe_ix (r := rIxT K) ix_tup (pv 0) pe_int (fun _ _ => rfl)) pa_nil)) pa_nil))))) (pss_one (ps_if (pt_cmpR (r := rEqD K) (op_eqD hr.units) (pe_ix (r := rIxT K) ix_tup (pv 0) pe_int (fun _ _ => rfl)) pe_str (by first | exact nomark _ | rfl)) (pss_cons (ps_if (pw_or (pt_cmpR (r := rEqN) (op_eqN hr.units0) (pv 2) (pe_lst pa_nil) (by first | exact nomark _ | rfl)) (pw_or1 (pt_val (pe_fldK (K := K) (pe_ix (r := rIxL K) ix_list (pv 2) (pe_un un_neg pe_int) (fun _ _ => rfl)) (by rfl))))).pt (pss_one (ps_ret pe_bl)) pss_nil) (pss_one (ps_fldK (K := K) (pe_ix (r := rIxL K) ix_list (pv 2) (pe_un un_neg pe_int) (fun _ _ => rfl)) pe_bl rfl))) (pss_cons (ps_if (pt_cmpR (r := rEqD K) (op_eqD hr.units) (pe_ix (r := rIxT K) ix_tup (pv 0) pe_int (fun _ _ => rfl)) pe_str (by first | exact nomark _ | rfl)) (pss_cons (ps_if (pt_cmpR (r := rEqN) (op_eqN hr.units0) (pv 2) (pe_lst pa_nil) (by first | exact nomark _ | rfl)) (pss_one (ps_ret pe_bl)) pss_nil) (pss_one (ps_set (i := 0) sc_put_in.nd rfl (by first | exact Or.inl rfl | exact Or.inr rfl) (pe_methP0 (E := fun _ => E0) (pe_bm0 PySem.F.plainAttrs_list PySem.F.slot_list_pop PySem.F.type_list_pop mt_pop (pv 2)) tx.cl_Block tx.g_Block_closed (ok_Block_closed tx) (hr.mono (by decide)) (bn_Block_closed tx) (fun _ => passAtL))))) pss_nil) (pss_one (ps_if (pt_cmpR (r := rEqN) (op_eqN hr.units0) (pv 2) (pe_lst pa_nil) (by first | exact nomark _ | rfl)) (pss_one (ps_expr (pe_bm PySem.F.plainAttrs_list PySem.F.slot_list_append PySem.F.type_list_append mt_append (pv 1) (pa_cons (pv 0) pa_nil)))) (pss_one (ps_expr (pe_bm PySem.F.plainAttrs_list PySem.F.slot_list_append PySem.F.type_list_append mt_append (pe_methP0 (E := WE (fun cls d _ H => E cls d H)) (pe_ix (r := rIxL K) ix_list (pv 2) (pe_un un_neg pe_int) (fun _ _ => rfl)) tx.cl_Block tx.g_Block_rows_now (ok_Block_rows_now tx) (hr.mono (by decide)) (bn_Block_rows_now tx) (fun σ => passAt (takes_of rfl rfl rfl rfl) σ)) (pa_cons (pv 0) pa_nil)))))))))) (pss_one (ps_ret pe_bl)))), ?_⟩)
  obtain ⟨x, F, W, rfl, ni, hst, hw, ok, rt0⟩ := spF_start N_put_in (by decide) (by decide) h
  obtain ⟨v_row, z_rows, z_blocks⟩ := x
  generalize L2.start N_put_in vs = σ at hst ⊢
  have rt : ∀ a v T Γ σ H', W (.ok a) → (∃ Γ1, Tk Γ (List.map Ag.s [1, 2]) [oM (oRow) a.2.1, oM (oOb_Block F.K) a.2.2] Γ1) → Stt F Γ ((v, oD eB a.1) :: T) σ H' → Q v H' := fun a v T Γ σ H' w z s => rt0 a v T Γ _ σ H' w z.choose_spec s
  clear rt0
  have hw : W (m_put_in v_row z_rows z_blocks) := hw
  replace ok := ok [none, some (oM (oRow) z_rows), some (oM (oOb_Block F.K) z_blocks)] _ (.s (by rfl) (.s (by rfl) .nil))
  have hst : Stt F [some (oD eA v_row), some (oM (oRow) z_rows), some (oM (oOb_Block F.K) z_blocks)] [] σ H := hst
  unfold m_put_in at hw
  refine q_seq ?_
  refine s_ifM hst hw ok (mt_ok (et_test (ev_isNA (ev_var (i := 0) (by rfl)) ev_non))) ?_ ?_
  · clear hst hw
    intro H hw hst
    exact s_retM (t := oD eB) hst hw ok (mv_ok (t := oD eB) (ev_bl)) fun a v H w s => rt _ _ _ _ _ _ w ⟨_, (.s (by rfl) (.s (by rfl) .nil))⟩ s
  · clear hst hw
    intro H hw hst
    refine s_next ?_
    refine q_nx ?_
    refine q_seq ?_
    refine s_ifM hst hw ok (mt_guard fun g196 => mt_guard fun g197 => mt_guard fun g198 => mt_ok (et_test (ev_eqDD g198 (eq_d (ev_ixT (enc := eA) g197 (ev_asU g196 (ev_var (i := 0) (by rfl))) ev_int)) (eq_d ev_lit)))) ?_ ?_
    · clear hst hw
      intro H hw hst
      refine q_seq ?_
      refine s_ifM hst hw ok (mt_ok (et_test (ev_eqI (ev_lenM (f := oOb_Block F.K) (lv_var (n := 2) (by rfl))) ev_int))) ?_ ?_
      · clear hst hw
        intro H hw hst
        exact s_retM (t := oD eB) hst hw ok (mv_ok (t := oD eB) (ev_bl)) fun a v H w s => rt _ _ _ _ _ _ w ⟨_, (.s (by rfl) (.s (by rfl) .nil))⟩ s
      · clear hst hw
        intro H hw hst
        refine s_next ?_
        refine q_nx ?_
        refine s_appMo (f := oOb_Block F.K) (xs := z_blocks) hst hw ok (by rfl) (mv_makeD (fun (x203 : Unit) => (Dt.asU (getI (Dt.asU v_row) (1 : Int)))) (ma_guard fun g200 => (ma_guard fun g201 => (ma_guard fun g202 => (ma_consP (ev_asU g202 (ev_ixT (enc := eA) g201 (ev_asU g200 (ev_var (i := 0) (by rfl))) ev_int)) (ma_ok (ds := fun _ => []) ea_nil))))) (fun _ => rfl) (fun _ => rfl) (.drop (.same (.same .nil))) (fun _ _ _ h => h)) ?_
        clear hst hw
        intro v_blocks σ H hw hst
        refine q_nx ?_
        exact s_retM (t := oD eB) hst hw ok (mv_ok (t := oD eB) (ev_bl)) fun a v H w s => rt _ _ _ _ _ _ w ⟨_, (.s (by rfl) (.s (by rfl) .nil))⟩ s
    · clear hst hw
      intro H hw hst
      refine s_ifM hst hw ok (mt_guard fun g206 => mt_guard fun g207 => mt_guard fun g208 => mt_ok (et_test (ev_eqDD g208 (eq_d (ev_ixT (enc := eA) g207 (ev_asU g206 (ev_var (i := 0) (by rfl))) ev_int)) (eq_d ev_lit)))) ?_ ?_
      · clear hst hw
        intro H hw hst
        refine q_seq ?_
        refine s_ifM hst hw ok (mt_or (mt_ok (et_test (ev_eqNilM (fo := oOb_Block F.K) (lv_var (n := 2) (by rfl))))) (mt_guard fun g209 => mt_ok (et_B (ev_lv (lv_fld (f := "turned") (j := 1) (lv_ixM (f := oOb_Block F.K) (xs := z_blocks) (lv_var (n := 2) (by rfl)) (ev_neg ev_int) g209) (by rfl) tx.cl_Block tx.na_Block_turned (lk_ix (by decide +kernel))))))) ?_ ?_
        · clear hst hw
          intro H hw hst
          exact s_retM (t := oD eB) hst hw ok (mv_ok (t := oD eB) (ev_bl)) fun a v H w s => rt _ _ _ _ _ _ w ⟨_, (.s (by rfl) (.s (by rfl) .nil))⟩ s
        · clear hst hw
          intro H hw hst
          refine s_next ?_
          refine q_nx ?_
          obtain ⟨g213, hw⟩ := R.guard_ok ok hw
          refine s_fldSet (f := "turned") (j := 1) (t := fun (a212 : Bool) => oD eB a212) hst hw ok (mx_v (mv_ok (t := oD eB) (ev_bl))) (fun a212 => (lv_ixM (f := oOb_Block F.K) (xs := z_blocks) (lv_var (n := 2) (by rfl)) (ev_neg ev_int) g213)) tx.cl_Block tx.na_Block_turned (by decide) (fun _ => by show 1 < 4; decide) (put_ix (by decide +kernel)) ?_
          clear hst hw
          intro a212 σ H hw hst
          have hst : Stt F [some (oD eA v_row), some (oM (oRow) z_rows), some (oM (oOb_Block F.K) (setI z_blocks (-(1 : Int)) ((getI z_blocks (-(1 : Int))).1, a212, (getI z_blocks (-(1 : Int))).2.2.1, (getI z_blocks (-(1 : Int))).2.2.2)))] [] σ H := by
            unfold oM
            rw [← map_set_ix]
            exact hst
          obtain ⟨v_blocks, hw, hst⟩ := nm (P := fun v_blocks => Stt F [some (oD eA v_row), some (oM (oRow) z_rows), some (oM (oOb_Block F.K) v_blocks)] [] σ H) hw hst
          refine q_nx ?_
          exact s_retM (t := oD eB) hst hw ok (mv_ok (t := oD eB) (ev_bl)) fun a v H w s => rt _ _ _ _ _ _ w ⟨_, (.s (by rfl) (.s (by rfl) .nil))⟩ s
      · clear hst hw
        intro H hw hst
        refine q_seq ?_
        refine s_ifM hst hw ok (mt_guard fun g215 => mt_guard fun g216 => mt_guard fun g217 => mt_ok (et_test (ev_eqDD g217 (eq_d (ev_ixT (enc := eA) g216 (ev_asU g215 (ev_var (i := 0) (by rfl))) ev_int)) (eq_d ev_lit)))) ?_ ?_
        · clear hst hw
          intro H hw hst
          refine q_seq ?_
          refine s_ifM hst hw ok (mt_ok (et_test (ev_eqNilM (fo := oOb_Block F.K) (lv_var (n := 2) (by rfl))))) ?_ ?_
          · clear hst hw
            intro H hw hst
            exact s_retM (t := oD eB) hst hw ok (mv_ok (t := oD eB) (ev_bl)) fun a v H w s => rt _ _ _ _ _ _ w ⟨_, (.s (by rfl) (.s (by rfl) .nil))⟩ s
          · clear hst hw
            intro H hw hst
            refine s_next ?_
            refine q_nx ?_
            refine s_asgX3 (t := fun (a220 : ((S_Block × (List S_Block)) × Dt)) => oRow a220.2) hst hw ok (mx_calm (Γx := List.replicate 3 none) (mx_methTG (Γ2 := fun (a219 : (S_Block × (List S_Block))) => [some (oD eA v_row), some (oM (oRow) z_rows), some (oM (oOb_Block F.K) a219.2)]) (fun (a219 : (S_Block × (List S_Block))) => a219.1) (mx_popM (n := 2) (f := oOb_Block F.K) (by rfl)) (lk_none (by decide +kernel)) (fun _ => rfl) (fun _ _ _ h => h.elim) (fun _ => (wkN (by rfl))))) (fun _ => by show 0 < 3; decide) (ni _ (by decide)) ?_
            clear hst hw
            intro a220 σ H hw hst
            have hst : Stt F [some (oRow a220.2), some (oM (oRow) z_rows), some (oM (oOb_Block F.K) a220.1.2)] [] σ H := hst
            obtain ⟨v_row, hw, hst⟩ := nm (P := fun v_row => Stt F [some (oRow v_row), some (oM (oRow) z_rows), some (oM (oOb_Block F.K) a220.1.2)] [] σ H) hw hst
            obtain ⟨v_blocks, hw, hst⟩ := nm (P := fun v_blocks => Stt F [some (oRow v_row), some (oM (oRow) z_rows), some (oM (oOb_Block F.K) v_blocks)] [] σ H) hw hst
            refine q_nx ?_
            refine s_ifM hst hw ok (mt_ok (et_test (ev_eqNilM (fo := oOb_Block F.K) (lv_var (n := 2) (by rfl))))) ?_ ?_
            · clear hst hw
              intro H hw hst
              refine s_appN (fo := oRow) (ys := z_rows) (a := v_row) hst hw ok (by rfl) (by rfl) (by rfl) ?_
              clear hst hw
              intro v_rows σ H hw hst
              have hst : Stt F [none, some (oM (oRow) v_rows), some (oM (oOb_Block F.K) v_blocks)] [] σ H := hst
              refine q_nx ?_
              exact s_retM (t := oD eB) hst hw ok (mv_ok (t := oD eB) (ev_bl)) fun a v H w s => rt _ _ _ _ _ _ w ⟨_, (.s (by rfl) (.s (by rfl) .nil))⟩ s
            · clear hst hw
              intro H hw hst
              have hst := hst.freezeAtG (n := 0) (by rfl) rdo_oRow
              have hst : Stt F [some (oD eA v_row), some (oM (oRow) z_rows), some (oM (oOb_Block F.K) v_blocks)] [] σ H := hst
              obtain ⟨g223, hw⟩ := R.guard_ok ok hw
              refine s_lvApp (enc := eA) (ys := (if (getI v_blocks (-(1 : Int))).2.1 = true then (getI v_blocks (-(1 : Int))).2.2.2 else (getI v_blocks (-(1 : Int))).2.2.1)) hst hw ok (lv_pm2 (e := eA) (l1 := (getI v_blocks (-(1 : Int))).2.2.1) (l2 := (getI v_blocks (-(1 : Int))).2.2.2) (lv_ixM (f := oOb_Block F.K) (xs := v_blocks) (lv_var (n := 2) (by rfl)) (ev_neg ev_int) g223) (lk_none (by decide +kernel)) (lk_ix (by decide +kernel)) (lk_ix (by decide +kernel)) (lk_ix (by decide +kernel))) (mv_ok (t := oD eA) ((ev_var (i := 0) (by rfl)))) ?_
              clear hst hw
              intro v224 σ H hw hst
              have hst : Stt F [some (oD eA v_row), some (oM (oRow) z_rows), some (oM (oOb_Block F.K) (setI v_blocks (-(1 : Int)) (if (getI v_blocks (-(1 : Int))).2.1 = true then ((getI v_blocks (-(1 : Int))).1, (getI v_blocks (-(1 : Int))).2.1, (getI v_blocks (-(1 : Int))).2.2.1, v224) else ((getI v_blocks (-(1 : Int))).1, (getI v_blocks (-(1 : Int))).2.1, v224, (getI v_blocks (-(1 : Int))).2.2.2))))] [] σ H := by
                unfold oM
                rw [← map_set_ix]
                by_cases hb : (getI v_blocks (-(1 : Int))).2.1 = true
                · simp only [if_pos hb] at hst ⊢; exact hst
                · simp only [if_neg hb] at hst ⊢; exact hst
              obtain ⟨v_blocks, hw, hst⟩ := nm (P := fun v_blocks => Stt F [some (oD eA v_row), some (oM (oRow) z_rows), some (oM (oOb_Block F.K) v_blocks)] [] σ H) hw hst
              refine q_nx ?_
              exact s_retM (t := oD eB) hst hw ok (mv_ok (t := oD eB) (ev_bl)) fun a v H w s => rt _ _ _ _ _ _ w ⟨_, (.s (by rfl) (.s (by rfl) .nil))⟩ s
        · clear hst hw
          intro H hw hst
          refine s_next ?_
          refine q_nx ?_
          refine s_ifM hst hw ok (mt_ok (et_test (ev_eqNilM (fo := oOb_Block F.K) (lv_var (n := 2) (by rfl))))) ?_ ?_
          · clear hst hw
            intro H hw hst
            refine s_appMo (f := oRow) (xs := z_rows) hst hw ok (by rfl) (mv_leafR (mv_ok (t := oD eA) ((ev_var (i := 0) (by rfl))))) ?_
            clear hst hw
            intro v_rows σ H hw hst
            refine q_nx ?_
            exact s_retM (t := oD eB) hst hw ok (mv_ok (t := oD eB) (ev_bl)) fun a v H w s => rt _ _ _ _ _ _ w ⟨_, (.s (by rfl) (.s (by rfl) .nil))⟩ s
          · clear hst hw
            intro H hw hst
            obtain ⟨g229, hw⟩ := R.guard_ok ok hw
            refine s_lvApp (enc := eA) (ys := (if (getI z_blocks (-(1 : Int))).2.1 = true then (getI z_blocks (-(1 : Int))).2.2.2 else (getI z_blocks (-(1 : Int))).2.2.1)) hst hw ok (lv_pm2 (e := eA) (l1 := (getI z_blocks (-(1 : Int))).2.2.1) (l2 := (getI z_blocks (-(1 : Int))).2.2.2) (lv_ixM (f := oOb_Block F.K) (xs := z_blocks) (lv_var (n := 2) (by rfl)) (ev_neg ev_int) g229) (lk_none (by decide +kernel)) (lk_ix (by decide +kernel)) (lk_ix (by decide +kernel)) (lk_ix (by decide +kernel))) (mv_ok (t := oD eA) ((ev_var (i := 0) (by rfl)))) ?_
            clear hst hw
            intro v230 σ H hw hst
            have hst : Stt F [some (oD eA v_row), some (oM (oRow) z_rows), some (oM (oOb_Block F.K) (setI z_blocks (-(1 : Int)) (if (getI z_blocks (-(1 : Int))).2.1 = true then ((getI z_blocks (-(1 : Int))).1, (getI z_blocks (-(1 : Int))).2.1, (getI z_blocks (-(1 : Int))).2.2.1, v230) else ((getI z_blocks (-(1 : Int))).1, (getI z_blocks (-(1 : Int))).2.1, v230, (getI z_blocks (-(1 : Int))).2.2.2))))] [] σ H := by
              unfold oM
              rw [← map_set_ix]
              by_cases hb : (getI z_blocks (-(1 : Int))).2.1 = true
              · simp only [if_pos hb] at hst ⊢; exact hst
              · simp only [if_neg hb] at hst ⊢; exact hst
            obtain ⟨v_blocks, hw, hst⟩ := nm (P := fun v_blocks => Stt F [some (oD eA v_row), some (oM (oRow) z_rows), some (oM (oOb_Block F.K) v_blocks)] [] σ H) hw hst
            refine q_nx ?_
            exact s_retM (t := oD eB) hst hw ok (mv_ok (t := oD eB) (ev_bl)) fun a v H w s => rt _ _ _ _ _ _ w ⟨_, (.s (by rfl) (.s (by rfl) .nil))⟩ s
theorem bn_law_row (tx : Tx K mg) : Binds K tx.d_law_row ["cell", "names"] [] := tx.F_law_row.bindsN fun _ _ _ _ _ _ us hl => match us, hl with | [_, _], _ => rfl
theorem ok_law_row (tx : Tx K mg) : FnOk P w K mg base (L2.CX P w) 3 tx.f_law_row tx.d_law_row ["cell", "names"] (sp_law_row K tx.Ce) := by
  refine tx.F_law_row.ok sc_law_row (fun vs H Q E h => spF_len (n := 2) rfl vs H Q E h) (fun cdv A outer s H vs Q E hr h => ⟨_, (pss_cons (ps_set (i := 2) sc_law_row.nd rfl (by first | exact Or.inl rfl | exact Or.inr rfl) (pe_callS (E := WE (fun cls d _ H => E cls d H)) (ok_law_spread tx) (hr.mono (by decide)) (by rfl) tx.g_law_spread tx.F_law_spread.kp (bn_law_spread tx) (fun σ => passAt (takes_of rfl rfl rfl rfl) σ) (pa_cons (pv 0) (pa_cons pe_int pa_nil)))) (pss_cons (ps_asg (pe_callS (E := WE (fun cls d _ H => E cls d H)) (ok_law_term tx) (hr.mono (by decide)) (by rfl) tx.g_law_term tx.F_law_term.kp (bn_law_term tx) (fun σ => passAt (takes_of rfl rfl rfl rfl) σ) (pa_cons (pv 2) (pa_cons (pv 1) pa_nil))) (pg_tup rfl (pgs_cons (pg_name (i := 3) sc_law_row.nd rfl (by first | exact Or.inl rfl | exact Or.inr rfl)) (pgs_cons (pg_name (i := 4) sc_law_row.nd rfl (by first | exact Or.inl rfl | exact Or.inr rfl)) pgs_nil)))) (pss_cons (ps_set (i := 5) sc_law_row.nd rfl (by first | exact Or.inl rfl | exact Or.inr rfl) (pe_ix (r := rIxL K) ix_list (pv 1) (pe_op op_mod (pe_ix (r := rIxL K) ix_list (pv 2) pe_int (fun _ _ => rfl)) pe_int) (fun _ _ => rfl))) (pss_cons (ps_set (i := 6) sc_law_row.nd rfl (by first | exact Or.inl rfl | exact Or.inr rfl) (pe_op op_mod (pe_ix (r := rIxL K) ix_list (pv 2) pe_int (fun _ _ => rfl)) pe_int)) (pss_cons (ps_if (pt_cmpR op_eq (pv 6) pe_int (by first | exact nomark _ | rfl)) (pss_cons (ps_set (i := 7) sc_law_row.nd rfl (by first | exact Or.inl rfl | exact Or.inr rfl) (pe_ix (r := rIxL K) ix_list (pv 1) (pe_op op_mod (pe_ix (r := rIxL K) ix_list (pv 2) pe_int (fun _ _ => rfl)) pe_int) (fun _ _ => rfl))) (pss_one (ps_ret (pe_tup (pa_cons (pe_op op_add_str (pe_op op_add_str (pe_op op_add_str (pe_op op_add_str (pe_op op_add_str pe_str (pv 5)) pe_str) (pv 3)) pe_str) (pv 7)) (pa_cons (pe_tup (pa_cons pe_str (pa_cons (pv 5) (pa_cons (pv 4) (pa_cons (pv 7) pa_nil))))) pa_nil)))))) pss_nil) (pss_cons (ps_if (pt_cmpR op_eq (pv 6) pe_int (by first | exact nomark _ | rfl)) (pss_cons (ps_asg (pe_callS (E := WE (fun cls d _ H => E cls d H)) (ok_law_term tx) (hr.mono (by decide)) (by rfl) tx.g_law_term tx.F_law_term.kp (bn_law_term tx) (fun σ => passAt (takes_of rfl rfl rfl rfl) σ) (pa_cons (pe_slice (r := rSlL K) sl_list (pv 2) (po_some pe_int) po_none) (pa_cons (pv 1) pa_nil))) (pg_tup rfl (pgs_cons (pg_name (i := 8) sc_law_row.nd rfl (by first | exact Or.inl rfl | exact Or.inr rfl)) (pgs_cons (pg_name (i := 9) sc_law_row.nd rfl (by first | exact Or.inl rfl | exact Or.inr rfl)) pgs_nil)))) (pss_one (ps_ret (pe_tup (pa_cons (pe_op op_add_str (pe_op op_add_str (pe_op op_add_str (pe_op op_add_str (pe_op op_add_str pe_str (pv 5)) pe_str) (pv 3)) pe_str) (pv 8)) (pa_cons (pe_tup (pa_cons pe_str (pa_cons (pv 5) (pa_cons (pv 4) (pa_cons (pv 9) pa_nil))))) pa_nil)))))) pss_nil) (pss_cons (ps_if (pt_cmpR op_eq (pv 6) pe_int (by first | exact nomark _ | rfl)) (pss_one (ps_ret (pe_tup (pa_cons (pe_op op_add_str (pe_op op_add_str (pe_op op_add_str pe_str (pv 5)) pe_str) (pv 3)) (pa_cons (pe_tup (pa_cons pe_str (pa_cons (pv 5) (pa_cons (pv 4) pa_nil)))) pa_nil))))) pss_nil) (pss_cons (ps_if (pt_cmpR op_eq (pv 6) pe_int (by first | exact nomark _ | rfl)) (pss_one (ps_ret (pe_tup (pa_cons (pe_op op_add_str pe_str (pv 3)) (pa_cons (pe_tup (pa_cons pe_str (pa_cons (pv 4) pa_nil))) pa_nil))))) pss_nil) (pss_one (ps_ret (pe_tup (pa_cons (pe_op op_add_str pe_str (pv 3)) (pa_cons (pe_tup (pa_cons pe_str (pa_cons (pv 4) pa_nil))) pa_nil))))))))))))), ?_⟩)
  obtain ⟨x, F, W, rfl, ni, hst, hw, ok, rt⟩ := spD_start N_law_row h
  obtain ⟨v_cell, v_names⟩ := x
  generalize L2.start N_law_row vs = σ at hst ⊢
  have hw : W (m_law_row v_cell v_names) := hw
  replace ok := ok (List.replicate 10 none)
  have hst : Stt F [some (oD eI v_cell), some (oD (eL eS) v_names), none, none, none, none, none, none, none, none] [] σ H := hst
  unfold m_law_row at hw
  refine q_seq ?_
  refine s_asgM (t := oD (eL eI)) hst hw ok (mv_callP (x := (v_cell, (13 : Int))) (ea_cons (ev_var (i := 0) (by rfl)) (ea_cons ev_int ea_nil)) rfl rfl (fun _ _ _ h => h) (wkN (by rfl))) (show 2 < 10 by decide) (ni _) ?_
  clear hst hw
  intro v_xs σ H hw hst
  refine q_nx ?_
  refine q_seq ?_
  refine s_asgT2 (Γ' := fun y233 => [some (oD eI v_cell), some (oD (eL eS) v_names), some (oD (eL eI) v_xs), some (oD eS y233.1), some (oD (eU eA) y233.2), none, none, none, none, none]) hst hw ok (mv_callP (x := (v_xs, v_names)) (ea_cons (ev_var (i := 2) (by rfl)) (ea_cons (ev_var (i := 1) (by rfl)) ea_nil)) rfl rfl (fun _ _ _ h => h) (wkN (by rfl))) (fun _ => rfl) (fun _ => (tgs_cons (show 3 < 10 by decide) (ni _) (tgs_cons (show 4 < 10 by decide) (ni _) tgs_nil))) ?_
  clear hst hw
  intro v_line v_term σ H hw hst
  refine q_nx ?_
  refine q_seq ?_
  refine s_asgM (t := oD eS) hst hw ok (mv_guard fun g234 => mv_guard fun g235 => mv_guard fun g236 => mv_ok (t := oD eS) ((ev_ixL (enc := eS) g236 (el_dat (ev_var (i := 1) (by rfl))) (ev_mod g235 (ev_ixL (enc := eI) g234 (el_dat (ev_var (i := 2) (by rfl))) ev_int) ev_int)))) (show 5 < 10 by decide) (ni _) ?_
  clear hst hw
  intro v_shelf σ H hw hst
  refine q_nx ?_
  refine q_seq ?_
  refine s_asgM (t := oD eI) hst hw ok (mv_guard fun g237 => mv_guard fun g238 => mv_ok (t := oD eI) ((ev_mod g238 (ev_ixL (enc := eI) g237 (el_dat (ev_var (i := 2) (by rfl))) ev_int) ev_int))) (show 6 < 10 by decide) (ni _) ?_
  clear hst hw
  intro v_kind σ H hw hst
  refine q_nx ?_
  refine q_seq ?_
  refine s_ifM hst hw ok (mt_ok (et_test (ev_eqI (ev_var (i := 6) (by rfl)) ev_int))) ?_ ?_
  · clear hst hw
    intro H hw hst
    refine q_seq ?_
    refine s_asgM (t := oD eS) hst hw ok (mv_guard fun g239 => mv_guard fun g240 => mv_guard fun g241 => mv_ok (t := oD eS) ((ev_ixL (enc := eS) g241 (el_dat (ev_var (i := 1) (by rfl))) (ev_mod g240 (ev_ixL (enc := eI) g239 (el_dat (ev_var (i := 2) (by rfl))) ev_int) ev_int)))) (show 7 < 10 by decide) (ni _) ?_
    clear hst hw
    intro v_slot σ H hw hst
    refine q_nx ?_
    exact s_retF (t := oD (e2 eS (eU eA))) hst hw ok (mv_guard fun g242 => mv_guard fun g243 => mv_guard fun g244 => mv_guard fun g245 => mv_guard fun g246 => mv_ok (t := oD (e2 eS (eU eA))) ((ev_tup (ea_cons (ev_catX g246 (ev_catX g245 (ev_catX g244 (ev_catX g243 (ev_catX g242 ev_lit (ev_var (i := 5) (by rfl))) ev_lit) (ev_var (i := 3) (by rfl))) ev_lit) (ev_var (i := 7) (by rfl))) (ea_cons (ev_tup (ea_cons ev_lit (ea_cons (ev_var (i := 5) (by rfl)) (ea_cons (ev_var (i := 4) (by rfl)) (ea_cons (ev_var (i := 7) (by rfl)) ea_nil)))) (show 4 ≤ 1000 by decide)) ea_nil)) (show 2 ≤ 1000 by decide)))) fun a v H w s => rt _ _ _ _ _ _ w s
  · clear hst hw
    intro H hw hst
    refine s_next ?_
    refine q_nx ?_
    refine q_seq ?_
    refine s_ifM hst hw ok (mt_ok (et_test (ev_eqI (ev_var (i := 6) (by rfl)) ev_int))) ?_ ?_
    · clear hst hw
      intro H hw hst
      refine q_seq ?_
      refine s_asgT2 (Γ' := fun y247 => [some (oD eI v_cell), some (oD (eL eS) v_names), some (oD (eL eI) v_xs), some (oD eS v_line), some (oD (eU eA) v_term), some (oD eS v_shelf), some (oD eI v_kind), none, some (oD eS y247.1), some (oD (eU eA) y247.2)]) hst hw ok (mv_callP (x := ((cutL v_xs (some (5 : Int)) none), v_names)) (ea_cons (ev_frz (ev_slLE (enc := eI) (el_dat (ev_var (i := 2) (by rfl))) (eo_some ev_int) eo_no)) (ea_cons (ev_var (i := 1) (by rfl)) ea_nil)) rfl rfl (fun _ _ _ h => h) (wkN (by rfl))) (fun _ => rfl) (fun _ => (tgs_cons (show 8 < 10 by decide) (ni _) (tgs_cons (show 9 < 10 by decide) (ni _) tgs_nil))) ?_
      clear hst hw
      intro v_other v_worth σ H hw hst
      refine q_nx ?_
      exact s_retF (t := oD (e2 eS (eU eA))) hst hw ok (mv_guard fun g248 => mv_guard fun g249 => mv_guard fun g250 => mv_guard fun g251 => mv_guard fun g252 => mv_ok (t := oD (e2 eS (eU eA))) ((ev_tup (ea_cons (ev_catX g252 (ev_catX g251 (ev_catX g250 (ev_catX g249 (ev_catX g248 ev_lit (ev_var (i := 5) (by rfl))) ev_lit) (ev_var (i := 3) (by rfl))) ev_lit) (ev_var (i := 8) (by rfl))) (ea_cons (ev_tup (ea_cons ev_lit (ea_cons (ev_var (i := 5) (by rfl)) (ea_cons (ev_var (i := 4) (by rfl)) (ea_cons (ev_var (i := 9) (by rfl)) ea_nil)))) (show 4 ≤ 1000 by decide)) ea_nil)) (show 2 ≤ 1000 by decide)))) fun a v H w s => rt _ _ _ _ _ _ w s
    · clear hst hw
      intro H hw hst
      refine s_next ?_
      refine q_nx ?_
      refine q_seq ?_
      refine s_ifM hst hw ok (mt_ok (et_test (ev_eqI (ev_var (i := 6) (by rfl)) ev_int))) ?_ ?_
      · clear hst hw
        intro H hw hst
        exact s_retF (t := oD (e2 eS (eU eA))) hst hw ok (mv_guard fun g253 => mv_guard fun g254 => mv_guard fun g255 => mv_ok (t := oD (e2 eS (eU eA))) ((ev_tup (ea_cons (ev_catX g255 (ev_catX g254 (ev_catX g253 ev_lit (ev_var (i := 5) (by rfl))) ev_lit) (ev_var (i := 3) (by rfl))) (ea_cons (ev_tup (ea_cons ev_lit (ea_cons (ev_var (i := 5) (by rfl)) (ea_cons (ev_var (i := 4) (by rfl)) ea_nil))) (show 3 ≤ 1000 by decide)) ea_nil)) (show 2 ≤ 1000 by decide)))) fun a v H w s => rt _ _ _ _ _ _ w s
      · clear hst hw
        intro H hw hst
        refine s_next ?_
        refine q_nx ?_
        refine q_seq ?_
        refine s_ifM hst hw ok (mt_ok (et_test (ev_eqI (ev_var (i := 6) (by rfl)) ev_int))) ?_ ?_
        · clear hst hw
          intro H hw hst
          exact s_retF (t := oD (e2 eS (eU eA))) hst hw ok (mv_guard fun g256 => mv_ok (t := oD (e2 eS (eU eA))) ((ev_tup (ea_cons (ev_catX g256 ev_lit (ev_var (i := 3) (by rfl))) (ea_cons (ev_tup (ea_cons ev_lit (ea_cons (ev_var (i := 4) (by rfl)) ea_nil)) (show 2 ≤ 1000 by decide)) ea_nil)) (show 2 ≤ 1000 by decide)))) fun a v H w s => rt _ _ _ _ _ _ w s
        · clear hst hw
          intro H hw hst
          refine s_next ?_
          refine q_nx ?_
          exact s_retF (t := oD (e2 eS (eU eA))) hst hw ok (mv_guard fun g257 => mv_ok (t := oD (e2 eS (eU eA))) ((ev_tup (ea_cons (ev_catX g257 ev_lit (ev_var (i := 3) (by rfl))) (ea_cons (ev_tup (ea_cons ev_lit (ea_cons (ev_var (i := 4) (by rfl)) ea_nil)) (show 2 ≤ 1000 by decide)) ea_nil)) (show 2 ≤ 1000 by decide)))) fun a v H w s => rt _ _ _ _ _ _ w s
theorem bn_law_folded (tx : Tx K mg) : Binds K tx.d_law_folded ["some", "cell", "names"] [] := tx.F_law_folded.bindsN fun _ _ _ _ _ _ us hl => match us, hl with | [_, _, _], _ => rfl
theorem ok_law_folded (tx : Tx K mg) : FnOk P w K mg base (L2.CX P w) 3 tx.f_law_folded tx.d_law_folded ["some", "cell", "names"] (sp_law_folded K tx.Ce) := by
  refine tx.F_law_folded.ok sc_law_folded (fun vs H Q E h => spF_len (n := 3) rfl vs H Q E h) (fun cdv A outer s H vs Q E hr h => ⟨_, (pss_cons (ps_set (i := 3) sc_law_folded.nd rfl (by first | exact Or.inl rfl | exact Or.inr rfl) (pe_op op_mod (pe_op op_fdivW (pv 1) pe_int) (pe_op op_add (pe_callB (r := rLenK K) call_len_seq (by rfl) tx.n_len (by rfl) (pa_cons (pv 0) pa_nil)) pe_int))) (pss_cons (ps_set (i := 4) sc_law_folded.nd rfl (by first | exact Or.inl rfl | exact Or.inr rfl) (pe_slice (r := rSlL K) sl_list (pv 0) (po_some (pe_op op_sub (pe_callB (r := rLenK K) call_len_seq (by rfl) tx.n_len (by rfl) (pa_cons (pv 0) pa_nil)) (pv 3))) po_none)) (pss_cons (ps_set (i := 5) sc_law_folded.nd rfl (by first | exact Or.inl rfl | exact Or.inr rfl) (pe_op op_mod (pe_op op_fdivW (pv 1) pe_int) (pe_op op_add (pv 3) pe_int))) (pss_cons (ps_asg (pe_callS (E := WE (fun cls d _ H => E cls d H)) (ok_law_term tx) (hr.mono (by decide)) (by rfl) tx.g_law_term tx.F_law_term.kp (bn_law_term tx) (fun σ => passAt (takes_of rfl rfl rfl rfl) σ) (pa_cons (pe_callS (E := WE (fun cls d _ H => E cls d H)) (ok_law_spread tx) (hr.mono (by decide)) (by rfl) tx.g_law_spread tx.F_law_spread.kp (bn_law_spread tx) (fun σ => passAt (takes_of rfl rfl rfl rfl) σ) (pa_cons (pv 1) (pa_cons pe_int pa_nil))) (pa_cons (pv 2) pa_nil))) (pg_tup rfl (pgs_cons (pg_name (i := 6) sc_law_folded.nd rfl (by first | exact Or.inl rfl | exact Or.inr rfl)) (pgs_cons (pg_name (i := 7) sc_law_folded.nd rfl (by first | exact Or.inl rfl | exact Or.inr rfl)) pgs_nil)))) (pss_cons (ps_set (i := 8) sc_law_folded.nd rfl (by first | exact Or.inl rfl | exact Or.inr rfl) (pe_lst (pa_cons (pe_op op_add_str pe_str (pv 6)) pa_nil))) (pss_cons (ps_for (passes_of rfl) rfl (pi_list (pe_slice (r := rSlL K) sl_list (pv 4) po_none (po_some (pv 5)))) (pg_name (i := 9) sc_law_folded.nd rfl (by first | exact Or.inl rfl | exact Or.inr rfl)) (pss_one (ps_set (i := 8) sc_law_folded.nd rfl (by first | exact Or.inl rfl | exact Or.inr rfl) (pe_op op_cat (pv 8) (pe_ix (r := rIxT K) ix_tup (pv 9) pe_int (fun _ _ => rfl)))))) (pss_cons (ps_if (pt_cmpR op_lt (pv 5) (pv 3) (by first | exact nomark _ | rfl)) (pss_one (ps_expr (pe_bm PySem.F.plainAttrs_list PySem.F.slot_list_append PySem.F.type_list_append mt_append (pv 8) (pa_cons pe_str pa_nil)))) pss_nil) (pss_cons (ps_for (passes_of rfl) rfl (pi_list (pe_slice (r := rSlL K) sl_list (pv 4) (po_some (pv 5)) po_none)) (pg_name (i := 9) sc_law_folded.nd rfl (by first | exact Or.inl rfl | exact Or.inr rfl)) (pss_one (ps_set (i := 8) sc_law_folded.nd rfl (by first | exact Or.inl rfl | exact Or.inr rfl) (pe_op op_cat (pv 8) (pe_ix (r := rIxT K) ix_tup (pv 9) pe_int (fun _ _ => rfl)))))) (pss_cons (ps_set (i := 10) sc_law_folded.nd rfl (by first | exact Or.inl rfl | exact Or.inr rfl) (pe_tup (pa_cons pe_str (pa_cons (pv 7) (pa_cons (pe_lc (own := [("lot", 9)]) (g := gName 9) (tt := tYes) rfl sc_law_folded.nd (pi_list (pe_slice (r := rSlL K) sl_list (pv 4) po_none (po_some (pv 5)))) (blkOk_by (N := N_law_folded) (sc := defScope s_law_folded) (by decide +kernel)) (fun _ _ _ _ _ => (pg_name (i := 9) sc_law_folded.nd rfl (by first | exact Or.inl rfl | exact Or.inr rfl))) (fun _ _ _ _ _ => pts_nil) (fun _ _ _ _ _ => (pe_ix (r := rIxT K) ix_tup (pv 9) pe_int (fun _ _ => rfl)))) (pa_cons (pe_lc (own := [("lot", 9)]) (g := gName 9) (tt := tYes) rfl sc_law_folded.nd (pi_list (pe_slice (r := rSlL K) sl_list (pv 4) (po_some (pv 5)) po_none)) (blkOk_by (N := N_law_folded) (sc := defScope s_law_folded) (by decide +kernel)) (fun _ _ _ _ _ => (pg_name (i := 9) sc_law_folded.nd rfl (by first | exact Or.inl rfl | exact Or.inr rfl))) (fun _ _ _ _ _ => pts_nil) (fun _ _ _ _ _ => (pe_ix (r := rIxT K) ix_tup (pv 9) pe_int (fun _ _ => rfl)))) pa_nil)))))) (pss_cons (ps_set (i := 11) sc_law_folded.nd rfl (by first | exact Or.inl rfl | exact Or.inr rfl) (pe_op op_add pe_int (pe_callB (r := rMax K) (cr_max (by rfl)) (by rfl) tx.n_max (by rfl) (pa_cons (pe_op op_cat (pe_lst (pa_cons pe_int pa_nil)) (pe_lc (own := [("lot", 9)]) (g := gName 9) (tt := tYes) rfl sc_law_folded.nd (pi_list (pv 4)) (blkOk_by (N := N_law_folded) (sc := defScope s_law_folded) (by decide +kernel)) (fun _ _ _ _ _ => (pg_name (i := 9) sc_law_folded.nd rfl (by first | exact Or.inl rfl | exact Or.inr rfl))) (fun _ _ _ _ _ => pts_nil) (fun _ _ _ _ _ => (pe_ix (r := rIxT K) ix_tup (pv 9) pe_int (fun _ _ => rfl))))) pa_nil)))) (pss_one (ps_ret (pe_op op_cat (pe_slice (r := rSlL K) sl_list (pv 0) po_none (po_some (pe_op op_sub (pe_callB (r := rLenK K) call_len_seq (by rfl) tx.n_len (by rfl) (pa_cons (pv 0) pa_nil)) (pv 3)))) (pe_lst (pa_cons (pe_tup (pa_cons (pe_op op_cat (pv 8) (pe_lst (pa_cons pe_str pa_nil))) (pa_cons (pv 10) (pa_cons (pv 11) pa_nil)))) pa_nil))))))))))))))), ?_⟩)
  obtain ⟨x, F, W, rfl, ni, hst, hw, ok, rt⟩ := spD_start N_law_folded h
  obtain ⟨v_some, v_cell, v_names⟩ := x
  generalize L2.start N_law_folded vs = σ at hst ⊢
  have hw : W (m_law_folded v_some v_cell v_names) := hw
  replace ok := ok (List.replicate 12 none)
  have hst : Stt F [some (oD (eL (e3 (eL eS) eA eI)) v_some), some (oD eI v_cell), some (oD (eL eS) v_names), none, none, none, none, none, none, none, none, none] [] σ H := hst
  unfold m_law_folded at hw
  refine q_seq ?_
  refine s_asgM (t := oD eI) hst hw ok (mv_guard fun g258 => mv_guard fun g259 => mv_ok (t := oD eI) ((ev_mod g259 (ev_divW g258 (ev_var (i := 1) (by rfl)) ev_int) (ev_add (ev_lenLE (enc := (e3 (eL eS) eA eI)) (el_dat (ev_var (i := 0) (by rfl)))) ev_int)))) (show 3 < 12 by decide) (ni _) ?_
  clear hst hw
  intro v_many σ H hw hst
  refine q_nx ?_
  refine q_seq ?_
  refine s_asgM (t := oD (eL (e3 (eL eS) eA eI))) hst hw ok (mv_ok (t := oD (eL (e3 (eL eS) eA eI))) ((ev_frz (ev_slLE (enc := (e3 (eL eS) eA eI)) (el_dat (ev_var (i := 0) (by rfl))) (eo_some (ev_sub (ev_lenLE (enc := (e3 (eL eS) eA eI)) (el_dat (ev_var (i := 0) (by rfl)))) (ev_var (i := 3) (by rfl)))) eo_no)))) (show 4 < 12 by decide) (ni _) ?_
  clear hst hw
  intro v_last σ H hw hst
  refine q_nx ?_
  refine q_seq ?_
  refine s_asgM (t := oD eI) hst hw ok (mv_guard fun g260 => mv_guard fun g261 => mv_ok (t := oD eI) ((ev_mod g261 (ev_divW g260 (ev_var (i := 1) (by rfl)) ev_int) (ev_add (ev_var (i := 3) (by rfl)) ev_int)))) (show 5 < 12 by decide) (ni _) ?_
  clear hst hw
  intro v_cut σ H hw hst
  refine q_nx ?_
  refine q_seq ?_
  refine s_asgT2 (Γ' := fun y263 => [some (oD (eL (e3 (eL eS) eA eI)) v_some), some (oD eI v_cell), some (oD (eL eS) v_names), some (oD eI v_many), some (oD (eL (e3 (eL eS) eA eI)) v_last), some (oD eI v_cut), some (oD eS y263.1), some (oD (eU eA) y263.2), none, none, none, none]) hst hw ok (mv_call (fun (x262 : ((List Int) × Unit)) => (x262.1, v_names)) (ma_consM (mv_callP (x := (v_cell, (6 : Int))) (ea_cons (ev_var (i := 1) (by rfl)) (ea_cons ev_int ea_nil)) rfl rfl (fun _ _ _ h => h) (wkN (by rfl))) fun _ => (ma_consP (ev_var (i := 2) (by rfl)) (ma_ok (ds := fun _ => []) ea_nil))) (fun _ => rfl) (fun _ => rfl) (fun _ _ _ h => h) (wkN (by rfl))) (fun _ => rfl) (fun _ => (tgs_cons (show 6 < 12 by decide) (ni _) (tgs_cons (show 7 < 12 by decide) (ni _) tgs_nil))) ?_
  clear hst hw
  intro v_line v_term σ H hw hst
  refine q_nx ?_
  refine q_seq ?_
  refine s_asgM (t := oL eS) hst hw ok (mv_guard fun g264 => mv_ok (t := oL eS) ((ev_lst (ea_cons (ev_catX g264 ev_lit (ev_var (i := 6) (by rfl))) ea_nil) (show 1 ≤ 1000 by decide)))) (show 8 < 12 by decide) (ni _) ?_
  clear hst hw
  intro v_lines σ H hw hst
  refine q_nx ?_
  refine q_seq ?_
  refine s_foldM (S := (List (List Nat))) (xs := fun c273 => c273) (enc := (e3 (eL eS) eA eI)) (f := fun c273 y265 s266 => m_law_folded_L1 s266 y265) (Γs := fun s266 => [some (oD (eL (e3 (eL eS) eA eI)) v_some), none, none, some (oD eI v_many), some (oD (eL (e3 (eL eS) eA eI)) v_last), some (oD eI v_cut), none, some (oD (eU eA) v_term), some (oL eS s266), none, none, none]) (Γb := fun _ y265 s266 => [some (oD (eL (e3 (eL eS) eA eI)) v_some), none, none, some (oD eI v_many), some (oD (eL (e3 (eL eS) eA eI)) v_last), some (oD eI v_cut), none, some (oD (eU eA) v_term), some (oL eS s266), some (oD (e3 (eL eS) eA eI) y265), none, none]) (s0 := v_lines) hst hw ok (sr_list (mv_ok (t := oD (eL (e3 (eL eS) eA eI))) ((ev_frz (ev_slLE (enc := (e3 (eL eS) eA eI)) (el_dat (ev_var (i := 4) (by rfl))) eo_no (eo_some (ev_var (i := 5) (by rfl)))))))) (.same (.drop (.drop (.same (.same (.same (.drop (.same (.same (.same (.same (.same .nil)))))))))))) (fun _ _ _ => (tg_name (j := 9) (show 9 < 12 by decide) (ni _))) ?_ ?_
  · clear hst hw ok
    intro _ v_lot v_lines W267 hN268p T270 σ H ok hw hst hN268
    have hw : W267 (m_law_folded_L1 v_lines v_lot) := hw
    have hst : Stt F [some (oD (eL (e3 (eL eS) eA eI)) v_some), none, none, some (oD eI v_many), some (oD (eL (e3 (eL eS) eA eI)) v_last), some (oD eI v_cut), none, some (oD (eU eA) v_term), some (oL eS v_lines), some (oD (e3 (eL eS) eA eI) v_lot), none, none] T270 σ H := hst
    unfold m_law_folded_L1 at hw
    refine s_asgM (t := oL eS) hst hw ok (mv_guard fun g272 => mv_ok (t := oL eS) ((ev_catL (enc := eS) g272 (el_var (n := 8) (by rfl)) (el_dat (ev_ixC (ds := [(eL eS) v_lot.1, eA v_lot.2.1, eI v_lot.2.2]) (n := 0) (by rfl) (ev_var (i := 9) (by rfl)) ev_int))))) (show 8 < 12 by decide) (ni _) ?_
    clear hst hw
    intro v_lines σ H hw hst
    exact hN268 v_lines _ _ hw (hst.weak (.same (.same (.same (.same (.same (.same (.same (.same (.same (.drop (.same (.same .nil)))))))))))))
  · clear hst hw
    intro v_lines σ H hw hst
    have hw : W (m_law_folded_J1 v_some v_many v_last v_cut v_term v_lines) := hw
    have hst : Stt F [some (oD (eL (e3 (eL eS) eA eI)) v_some), none, none, some (oD eI v_many), some (oD (eL (e3 (eL eS) eA eI)) v_last), some (oD eI v_cut), none, some (oD (eU eA) v_term), some (oL eS v_lines), none, none, none] [] σ H := hst
    replace hst := hst.weak (Γ' := [some (oD (eL (e3 (eL eS) eA eI)) v_some), none, none, some (oD eI v_many), some (oD (eL (e3 (eL eS) eA eI)) v_last), some (oD eI v_cut), none, some (oD (eU eA) v_term), some (oL eS v_lines), none, none, none]) (.same (.same (.same (.same (.same (.same (.same (.same (.same (.same (.same (.same .nil))))))))))))
    unfold m_law_folded_J1 at hw
    refine q_nx ?_
    refine q_seq ?_
    refine s_ifJ (S := (List (List Nat))) (Γj := fun s274 => [some (oD (eL (e3 (eL eS) eA eI)) v_some), none, none, some (oD eI v_many), some (oD (eL (e3 (eL eS) eA eI)) v_last), some (oD eI v_cut), none, some (oD (eU eA) v_term), some (oL eS s274), none, none, none]) hst hw ok (mt_ok (et_test (ev_lt (ev_var (i := 5) (by rfl)) (ev_var (i := 3) (by rfl))))) ?_ ?_ ?_
    · clear hst hw ok
      intro W275 hN276p H ok hw hst hN276
      refine s_appE (enc := eS) (xs := v_lines) hst hw ok (by rfl) (mv_ok (t := oD eS) (ev_lit)) ?_
      clear hst hw
      intro v_lines σ H hw hst
      exact hN276 v_lines _ _ hw (hst.weak (.same (.same (.same (.same (.same (.same (.same (.same (.same (.same (.same (.same .nil)))))))))))))
    · clear hst hw ok
      intro W275 hN276p H ok hw hst hN276
      refine s_next ?_
      exact hN276 v_lines _ _ hw (hst.weak (.same (.same (.same (.same (.same (.same (.same (.same (.same (.same (.same (.same .nil)))))))))))))
    · clear hst hw
      intro v_lines σ H hw hst
      have hw : W (m_law_folded_J2 v_some v_many v_last v_cut v_term v_lines) := hw
      have hst : Stt F [some (oD (eL (e3 (eL eS) eA eI)) v_some), none, none, some (oD eI v_many), some (oD (eL (e3 (eL eS) eA eI)) v_last), some (oD eI v_cut), none, some (oD (eU eA) v_term), some (oL eS v_lines), none, none, none] [] σ H := hst
      replace hst := hst.weak (Γ' := [some (oD (eL (e3 (eL eS) eA eI)) v_some), none, none, some (oD eI v_many), some (oD (eL (e3 (eL eS) eA eI)) v_last), some (oD eI v_cut), none, some (oD (eU eA) v_term), some (oL eS v_lines), none, none, none]) (.same (.same (.same (.same (.same (.same (.same (.same (.same (.same (.same (.same .nil))))))))))))
      unfold m_law_folded_J2 at hw
      refine q_nx ?_
      refine q_seq ?_
      refine s_foldM (S := (List (List Nat))) (xs := fun c286 => c286) (enc := (e3 (eL eS) eA eI)) (f := fun c286 y278 s279 => m_law_folded_L2 s279 y278) (Γs := fun s279 => [some (oD (eL (e3 (eL eS) eA eI)) v_some), none, none, some (oD eI v_many), some (oD (eL (e3 (eL eS) eA eI)) v_last), some (oD eI v_cut), none, some (oD (eU eA) v_term), some (oL eS s279), none, none, none]) (Γb := fun _ y278 s279 => [some (oD (eL (e3 (eL eS) eA eI)) v_some), none, none, some (oD eI v_many), some (oD (eL (e3 (eL eS) eA eI)) v_last), some (oD eI v_cut), none, some (oD (eU eA) v_term), some (oL eS s279), some (oD (e3 (eL eS) eA eI) y278), none, none]) (s0 := v_lines) hst hw ok (sr_list (mv_ok (t := oD (eL (e3 (eL eS) eA eI))) ((ev_frz (ev_slLE (enc := (e3 (eL eS) eA eI)) (el_dat (ev_var (i := 4) (by rfl))) (eo_some (ev_var (i := 5) (by rfl))) eo_no))))) (.same (.same (.same (.same (.same (.same (.same (.same (.same (.same (.same (.same .nil)))))))))))) (fun _ _ _ => (tg_name (j := 9) (show 9 < 12 by decide) (ni _))) ?_ ?_
      · clear hst hw ok
        intro _ v_lot v_lines W280 hN281p T283 σ H ok hw hst hN281
        have hw : W280 (m_law_folded_L2 v_lines v_lot) := hw
        have hst : Stt F [some (oD (eL (e3 (eL eS) eA eI)) v_some), none, none, some (oD eI v_many), some (oD (eL (e3 (eL eS) eA eI)) v_last), some (oD eI v_cut), none, some (oD (eU eA) v_term), some (oL eS v_lines), some (oD (e3 (eL eS) eA eI) v_lot), none, none] T283 σ H := hst
        unfold m_law_folded_L2 at hw
        refine s_asgM (t := oL eS) hst hw ok (mv_guard fun g285 => mv_ok (t := oL eS) ((ev_catL (enc := eS) g285 (el_var (n := 8) (by rfl)) (el_dat (ev_ixC (ds := [(eL eS) v_lot.1, eA v_lot.2.1, eI v_lot.2.2]) (n := 0) (by rfl) (ev_var (i := 9) (by rfl)) ev_int))))) (show 8 < 12 by decide) (ni _) ?_
        clear hst hw
        intro v_lines σ H hw hst
        exact hN281 v_lines _ _ hw (hst.weak (.same (.same (.same (.same (.same (.same (.same (.same (.same (.drop (.same (.same .nil)))))))))))))
      · clear hst hw
        intro v_lines σ H hw hst
        have hw : W (m_law_folded_J3 v_some v_many v_last v_cut v_term v_lines) := hw
        have hst : Stt F [some (oD (eL (e3 (eL eS) eA eI)) v_some), none, none, some (oD eI v_many), some (oD (eL (e3 (eL eS) eA eI)) v_last), some (oD eI v_cut), none, some (oD (eU eA) v_term), some (oL eS v_lines), none, none, none] [] σ H := hst
        replace hst := hst.weak (Γ' := [some (oD (eL (e3 (eL eS) eA eI)) v_some), none, none, some (oD eI v_many), some (oD (eL (e3 (eL eS) eA eI)) v_last), some (oD eI v_cut), none, some (oD (eU eA) v_term), some (oL eS v_lines), none, none, none]) (.same (.same (.same (.same (.same (.same (.same (.same (.same (.same (.same (.same .nil))))))))))))
        unfold m_law_folded_J3 at hw
        refine q_nx ?_
        refine q_seq ?_
        refine s_asgM (t := oD eA) hst hw ok (mv_map (f := fun a => (e4 eS (eU eA) (eL eA) (eL eA)) a) (mv_map (f := fun (x289 : ((List Dt) × ((List Dt) × Unit))) => ((lt "if"), v_term, x289.1, x289.2.1)) (mv_tup (ma_consP ev_lit (ma_consP (ev_var (i := 7) (by rfl)) (ma_consM (mv_frz (mv_lc (Γx := List.replicate 12 none) (Γb := fun _ x => [some (oD (eL (e3 (eL eS) eA eI)) v_some), none, none, some (oD eI v_many), some (oD (eL (e3 (eL eS) eA eI)) v_last), some (oD eI v_cut), none, some (oD (eU eA) v_term), some (oL eS v_lines), some (oD (e3 (eL eS) eA eI) x), none, none]) (xs := fun c => c) (enc := (e3 (eL eS) eA eI)) (encB := eA) (vs := [9]) (sr_list (mv_ok (t := oD (eL (e3 (eL eS) eA eI))) ((ev_frz (ev_slLE (enc := (e3 (eL eS) eA eI)) (el_dat (ev_var (i := 4) (by rfl))) eo_no (eo_some (ev_var (i := 5) (by rfl)))))))) ⟨⟨by rfl, ni _⟩, True.intro⟩ (fun _ _ => (tgw_name (j := 9) (show 9 < 12 by decide) (ni _) (by decide))) (fun _ _ => (.same (.same (.same (.same (.same (.same (.same (.same (.same (.drop (.same (.same .nil))))))))))))) (fun _ v_lot => by
          show MV F _ _ _ _ (m_law_folded_C1 v_lot) _
          unfold m_law_folded_C1
          exact (mv_ok (t := oD eA) ((ev_ixC (ds := [(eL eS) v_lot.1, eA v_lot.2.1, eI v_lot.2.2]) (n := 1) (by rfl) (ev_var (i := 9) (by rfl)) ev_int)))))) fun _ => (ma_consM (mv_frz (mv_lc (Γx := List.replicate 12 none) (Γb := fun _ x => [some (oD (eL (e3 (eL eS) eA eI)) v_some), none, none, some (oD eI v_many), some (oD (eL (e3 (eL eS) eA eI)) v_last), some (oD eI v_cut), none, some (oD (eU eA) v_term), some (oL eS v_lines), some (oD (e3 (eL eS) eA eI) x), none, none]) (xs := fun c => c) (enc := (e3 (eL eS) eA eI)) (encB := eA) (vs := [9]) (sr_list (mv_ok (t := oD (eL (e3 (eL eS) eA eI))) ((ev_frz (ev_slLE (enc := (e3 (eL eS) eA eI)) (el_dat (ev_var (i := 4) (by rfl))) (eo_some (ev_var (i := 5) (by rfl))) eo_no))))) ⟨⟨by rfl, ni _⟩, True.intro⟩ (fun _ _ => (tgw_name (j := 9) (show 9 < 12 by decide) (ni _) (by decide))) (fun _ _ => (.same (.same (.same (.same (.same (.same (.same (.same (.same (.drop (.same (.same .nil))))))))))))) (fun _ v_lot => by
          show MV F _ _ _ _ (m_law_folded_C2 v_lot) _
          unfold m_law_folded_C2
          exact (mv_ok (t := oD eA) ((ev_ixC (ds := [(eL eS) v_lot.1, eA v_lot.2.1, eI v_lot.2.2]) (n := 1) (by rfl) (ev_var (i := 9) (by rfl)) ev_int)))))) fun _ => (ma_ok (ds := fun _ => []) ea_nil))))) fun _ => (show 4 ≤ 1000 by decide)) fun _ => rfl) fun _ => rfl) (show 10 < 12 by decide) (ni _) ?_
        clear hst hw
        intro v_row σ H hw hst
        refine q_nx ?_
        refine q_seq ?_
        refine s_asgM (t := oD eI) hst hw ok (mv_op (mv_ok (t := oD eI) (ev_int)) (fun _ => (mv_maxL (ml_own (ml_cat (enc := eI) (ml_ok (enc := eI) ((el_own (ev_lst (ea_cons ev_int ea_nil) (show 1 ≤ 1000 by decide))))) (ml_own (mv_lc (Γx := List.replicate 12 none) (Γb := fun _ x => [some (oD (eL (e3 (eL eS) eA eI)) v_some), none, none, some (oD eI v_many), some (oD (eL (e3 (eL eS) eA eI)) v_last), some (oD eI v_cut), none, some (oD (eU eA) v_term), some (oL eS v_lines), some (oD (e3 (eL eS) eA eI) x), some (oD eA v_row), none]) (xs := fun c => c) (enc := (e3 (eL eS) eA eI)) (encB := eI) (vs := [9]) (sr_list (mv_ok (t := oD (eL (e3 (eL eS) eA eI))) ((ev_var (i := 4) (by rfl))))) ⟨⟨by rfl, ni _⟩, True.intro⟩ (fun _ _ => (tgw_name (j := 9) (show 9 < 12 by decide) (ni _) (by decide))) (fun _ _ => (.same (.same (.same (.same (.same (.same (.same (.same (.same (.drop (.same (.same .nil))))))))))))) (fun _ v_lot => by
          show MV F _ _ _ _ (m_law_folded_C3 v_lot) _
          unfold m_law_folded_C3
          exact (mv_ok (t := oD eI) ((ev_ixC (ds := [(eL eS) v_lot.1, eA v_lot.2.1, eI v_lot.2.2]) (n := 2) (by rfl) (ev_var (i := 9) (by rfl)) ev_int)))))))))) fun _ _ => om_ok (op2_I0 (g := fun i j => i + j) )) (show 11 < 12 by decide) (ni _) ?_
        clear hst hw
        intro v_deep σ H hw hst
        refine q_nx ?_
        exact s_retF (t := oD (eL (e3 (eL eS) eA eI))) hst hw ok (mv_guard fun g297 => mv_guard fun g298 => mv_ok (t := oD (eL (e3 (eL eS) eA eI))) ((ev_frz (ev_catL (enc := (e3 (eL eS) eA eI)) g298 (el_own (ev_slLE (enc := (e3 (eL eS) eA eI)) (el_dat (ev_var (i := 0) (by rfl))) eo_no (eo_some (ev_sub (ev_lenLE (enc := (e3 (eL eS) eA eI)) (el_dat (ev_var (i := 0) (by rfl)))) (ev_var (i := 3) (by rfl)))))) (el_own (ev_lst (ea_cons (ev_tup (ea_cons (ev_frz (ev_catL (enc := eS) g297 (el_var (n := 8) (by rfl)) (el_own (ev_lst (ea_cons ev_lit ea_nil) (show 1 ≤ 1000 by decide))))) (ea_cons (ev_var (i := 10) (by rfl)) (ea_cons (ev_var (i := 11) (by rfl)) ea_nil))) (show 3 ≤ 1000 by decide)) ea_nil) (show 1 ≤ 1000 by decide))))))) fun a v H w s => rt _ _ _ _ _ _ w s
theorem bn_term_from (tx : Tx K mg) : Binds K tx.d_term_from ["words", "at"] [] := tx.F_term_from.bindsN fun _ _ _ _ _ _ us hl => match us, hl with | [_, _], _ => rfl
theorem ok_term_from (tx : Tx K mg) : FnOk P w K mg base (L2.CX P w) 4 tx.f_term_from tx.d_term_from ["words", "at"] (sp_term_from K tx.Ce) := by
  refine tx.F_term_from.ok sc_term_from (fun vs H Q E h => spF_len (n := 2) rfl vs H Q E h) (fun cdv A outer s H vs Q E hr h => ⟨_, (pss_cons (ps_set (i := 2) sc_term_from.nd rfl (by first | exact Or.inl rfl | exact Or.inr rfl) (pe_lst pa_nil)) (pss_cons (ps_set (i := 3) sc_term_from.nd rfl (by first | exact Or.inl rfl | exact Or.inr rfl) (pe_lst pa_nil)) (pss_cons (ps_set (i := 4) sc_term_from.nd rfl (by first | exact Or.inl rfl | exact Or.inr rfl) (pe_lst pa_nil)) (pss_cons (ps_set (i := 5) sc_term_from.nd rfl (by first | exact Or.inl rfl | exact Or.inr rfl) (pv 1)) (pss_cons (ps_while (passes_of rfl) (pw_and (pt_cmpR op_lt (pv 5) (pe_callB (r := rLenK K) call_len_seq (by rfl) tx.n_len (by rfl) (pa_cons (pv 0) pa_nil)) (by first | exact nomark _ | rfl)) (pw_and1 (pt_cmpR op_lt (pe_op op_sub (pv 5) (pv 1)) (C8.pe_gc (by rfl) tx.c_MOST_WORDS) (by first | exact nomark _ | rfl)))).pt (pss_cons (ps_set (i := 6) sc_term_from.nd rfl (by first | exact Or.inl rfl | exact Or.inr rfl) (pe_ix (r := rIxL K) ix_list (pv 0) (pv 5) (fun _ _ => rfl))) (pss_cons (ps_aug (i := 5) sc_term_from.nd rfl (by first | exact Or.inl rfl | exact Or.inr rfl) pe_int ip_add) (pss_cons (ps_if (pt_cmpR (r := rIn K false) op_in_seq (pv 6) (C8.pe_gc (by rfl) tx.c_DOERS) (by first | exact nomark _ | rfl)) (pss_cons (ps_expr (pe_bm PySem.F.plainAttrs_list PySem.F.slot_list_append PySem.F.type_list_append mt_append (pv 3) (pa_cons (pv 6) pa_nil))) (pss_cons (ps_expr (pe_bm PySem.F.plainAttrs_list PySem.F.slot_list_append PySem.F.type_list_append mt_append (pv 4) (pa_cons pe_int pa_nil))) (pss_one ps_continue))) pss_nil) (pss_cons (ps_expr (pe_bm PySem.F.plainAttrs_list PySem.F.slot_list_append PySem.F.type_list_append mt_append (pv 2) (pa_cons (pe_callS (E := WE (fun cls d _ H => E cls d H)) (ok_part_in tx) (hr.mono (by decide)) (by rfl) tx.g_part_in tx.F_part_in.kp (bn_part_in tx) (fun σ => passAt (takes_of rfl rfl rfl rfl) σ) (pa_cons (pv 6) pa_nil)) pa_nil))) (pss_cons (ps_while (passes_of rfl) (pw_and (pt_cmpR (r := rNeD K) (op_neD hr.units) (pv 3) (pe_lst pa_nil) (by first | exact nomark _ | rfl)) (pw_and1 (pt_cmpR op_eq (pe_ix (r := rIxL K) ix_list (pv 4) (pe_un un_neg pe_int) (fun _ _ => rfl)) pe_int (by first | exact nomark _ | rfl)))).pt (pss_cons (ps_expr (pe_bm PySem.F.plainAttrs_list PySem.F.slot_list_append PySem.F.type_list_append mt_append (pv 2) (pa_cons (pe_bm0 PySem.F.plainAttrs_list PySem.F.slot_list_pop PySem.F.type_list_pop mt_pop (pv 3)) pa_nil))) (pss_one (ps_expr (pe_bm0 PySem.F.plainAttrs_list PySem.F.slot_list_pop PySem.F.type_list_pop mt_pop (pv 4)))))) (pss_cons (ps_if (pt_cmpR (r := rEqD K) (op_eqD hr.units) (pv 3) (pe_lst pa_nil) (by first | exact nomark _ | rfl)) (pss_one (ps_ret (pe_tup (pa_cons (pe_callTy (r := rTupK K) call_tuple_of (by rfl) tx.n_tuple (by rfl) (pa_cons (pv 2) pa_nil)) (pa_cons (pv 5) pa_nil))))) pss_nil) (pss_one (ps_asg pe_int (pg_sub (pv 4) (pe_un un_neg pe_int) set_list)))))))))) (pss_one (ps_raise rfl (takes_of rfl rfl rfl rfl) (pmk_own PySem.F.excBase_ValueError tx.q_NoTerm tx.x_NoTerm tx.k_NoTerm (raises_own tx.b_NoTerm tx.t_NoTerm) (by rfl))))))))), ?_⟩)
  obtain ⟨x, F, W, rfl, ni, hst, hw, ok, rt⟩ := spD_start N_term_from h
  obtain ⟨v_words, v_at⟩ := x
  generalize L2.start N_term_from vs = σ at hst ⊢
  have hw : W (m_term_from v_words v_at) := hw
  replace ok := ok (List.replicate 7 none)
  have hst : Stt F [some (oD (eL eS) v_words), some (oD eI v_at), none, none, none, none, none] [] σ H := hst
  unfold m_term_from at hw
  refine q_seq ?_
  refine s_asgM (t := oL eA) hst hw ok (mv_ok (t := oL eA) ((ev_lst ea_nil (show 0 ≤ 1000 by decide)))) (show 2 < 7 by decide) (ni _) ?_
  clear hst hw
  intro v_told σ H hw hst
  refine q_nx ?_
  refine q_seq ?_
  refine s_asgM (t := oL eS) hst hw ok (mv_ok (t := oL eS) ((ev_lst ea_nil (show 0 ≤ 1000 by decide)))) (show 3 < 7 by decide) (ni _) ?_
  clear hst hw
  intro v_waiting σ H hw hst
  refine q_nx ?_
  refine q_seq ?_
  refine s_asgM (t := oL eI) hst hw ok (mv_ok (t := oL eI) ((ev_lst ea_nil (show 0 ≤ 1000 by decide)))) (show 4 < 7 by decide) (ni _) ?_
  clear hst hw
  intro v_lacking σ H hw hst
  refine q_nx ?_
  refine q_seq ?_
  refine s_asgM (t := oD eI) hst hw ok (mv_ok (t := oD eI) ((ev_var (i := 1) (by rfl)))) (show 5 < 7 by decide) (ni _) ?_
  clear hst hw
  intro v_place σ H hw hst
  refine q_nx ?_
  refine q_seq ?_
  refine s_whileM (S := ((List Dt) × (List (List Nat)) × (List Int) × Int)) (β := ((List Dt) × Int)) (Γs := fun s299 => [some (oD (eL eS) v_words), some (oD eI v_at), some (oL eA s299.1), some (oL eS s299.2.1), some (oL eI s299.2.2.1), some (oD eI s299.2.2.2), none]) (s0 := (v_told, v_waiting, v_lacking, v_place)) hst hw ok (.same (.same (.same (.same (.same (.same (.same .nil))))))) ?_ ?_ ?_
  · clear hst hw
    intro s299
    obtain ⟨v_told, v_waiting, v_lacking, v_place⟩ := s299
    show MT F _ _ _ [some (oD (eL eS) v_words), some (oD eI v_at), some (oL eA v_told), some (oL eS v_waiting), some (oL eI v_lacking), some (oD eI v_place), none] (m_term_from_Q1 v_words v_at v_place)
    unfold m_term_from_Q1
    exact (mt_ok (et_and (et_test (ev_lt (ev_var (i := 5) (by rfl)) (ev_lenLE (enc := eS) (el_dat (ev_var (i := 0) (by rfl)))))) (et_test (ev_lt (ev_sub (ev_var (i := 5) (by rfl)) (ev_var (i := 1) (by rfl))) ev_int))))
  · clear hst hw ok
    intro s299 W300 hN301p hB302p σ H ok r303 hw hst hN301 hB302
    obtain ⟨v_told, v_waiting, v_lacking, v_place⟩ := s299
    have rt304 := fun a v T Γ σ H' w s => rt a v T Γ σ H' (r303 a w) s
    have hw : W300 (m_term_from_L1 v_words v_told v_waiting v_lacking v_place) := hw
    have hst : Stt F [some (oD (eL eS) v_words), some (oD eI v_at), some (oL eA v_told), some (oL eS v_waiting), some (oL eI v_lacking), some (oD eI v_place), none] [] σ H := hst
    unfold m_term_from_L1 at hw
    refine q_seq ?_
    refine s_asgM (t := oD eS) hst hw ok (mv_guard fun g305 => mv_ok (t := oD eS) ((ev_ixL (enc := eS) g305 (el_dat (ev_var (i := 0) (by rfl))) (ev_var (i := 5) (by rfl))))) (show 6 < 7 by decide) (ni _) ?_
    clear hst hw
    intro v_word σ H hw hst
    refine q_nx ?_
    refine q_seq ?_
    refine s_augI (g := fun i j => i + j) hst hw ok (by rfl) (mv_ok (t := oD eI) (ev_int)) (show 5 < 7 by decide) (ni _) ?_
    clear hst hw
    intro v_place σ H hw hst
    refine q_nx ?_
    refine q_seq ?_
    refine s_ifM hst hw ok (mt_ok (et_test (ev_inTX (ev_var (i := 6) (by rfl)) (ev_globT tx.s_DOERS (tx.r_DOERS))))) ?_ ?_
    · clear hst hw
      intro H hw hst
      refine q_seq ?_
      refine s_appE (enc := eS) (xs := v_waiting) hst hw ok (by rfl) (mv_ok (t := oD eS) ((ev_var (i := 6) (by rfl)))) ?_
      clear hst hw
      intro v_waiting σ H hw hst
      refine q_nx ?_
      refine q_seq ?_
      refine s_appE (enc := eI) (xs := v_lacking) hst hw ok (by rfl) (mv_ok (t := oD eI) (ev_int)) ?_
      clear hst hw
      intro v_lacking σ H hw hst
      refine q_nx ?_
      exact hN301 (v_told, v_waiting, v_lacking, v_place) _ _ hw (hst.weak (.same (.same (.same (.same (.same (.same (.drop .nil))))))))
    · clear hst hw
      intro H hw hst
      refine s_next ?_
      refine q_nx ?_
      refine q_seq ?_
      refine s_appE (enc := eA) (xs := v_told) hst hw ok (by rfl) (mv_callP (x := v_word) (ea_cons (ev_var (i := 6) (by rfl)) ea_nil) rfl rfl (fun _ _ _ h => h) (wkN (by rfl))) ?_
      clear hst hw
      intro v_told σ H hw hst
      refine q_nx ?_
      refine q_seq ?_
      refine s_whileM (S := ((List Dt) × (List (List Nat)) × (List Int))) (β := ((List Dt) × Int)) (Γs := fun s309 => [some (oD (eL eS) v_words), some (oD eI v_at), some (oL eA s309.1), some (oL eS s309.2.1), some (oL eI s309.2.2), some (oD eI v_place), some (oD eS v_word)]) (s0 := (v_told, v_waiting, v_lacking)) hst hw ok (.same (.same (.same (.same (.same (.same (.same .nil))))))) ?_ ?_ ?_
      · clear hst hw
        intro s309
        obtain ⟨v_told, v_waiting, v_lacking⟩ := s309
        show MT F _ _ _ [some (oD (eL eS) v_words), some (oD eI v_at), some (oL eA v_told), some (oL eS v_waiting), some (oL eI v_lacking), some (oD eI v_place), some (oD eS v_word)] (m_term_from_Q2 v_waiting v_lacking)
        unfold m_term_from_Q2
        exact (mt_and (mt_guard fun g314 => mt_ok (et_test (ev_neNil (enc := eS) g314 (eq_l (el_var (n := 3) (by rfl))) (eq_l (el_own (ev_lst ea_nil (show 0 ≤ 1000 by decide))))))) (mt_guard fun g315 => mt_ok (et_test (ev_eqI (ev_ixL (enc := eI) g315 (el_var (n := 4) (by rfl)) (ev_neg ev_int)) ev_int))))
      · clear hst hw ok
        intro s309 W310 hN311p hB312p σ H ok r313 hw hst hN311 hB312
        obtain ⟨v_told, v_waiting, v_lacking⟩ := s309
        have rt316 := fun a v T Γ σ H' w s => rt304 a v T Γ σ H' (r313 a w) s
        have hw : W310 (m_term_from_L2 v_told v_waiting v_lacking) := hw
        have hst : Stt F [some (oD (eL eS) v_words), some (oD eI v_at), some (oL eA v_told), some (oL eS v_waiting), some (oL eI v_lacking), some (oD eI v_place), some (oD eS v_word)] [] σ H := hst
        unfold m_term_from_L2 at hw
        refine q_seq ?_
        refine s_appP (n := 3) (n1 := 2) (enc1 := eA) (enc := eS) (xs := v_told) hst hw ok (by rfl) (show 3 ≠ 2 by decide) (mp_map (t' := oD eA) (fun (a : (List Nat)) => (eS a)) (mp_pop (enc := eS) (by rfl)) fun _ => rfl) ?_
        clear hst hw
        intro v_waiting v_told σ H hw hst
        refine q_nx ?_
        refine s_dropP (n := 4) (enc := eI) hst hw ok (mp_pop (enc := eI) (by rfl)) ?_
        clear hst hw
        intro v_lacking σ H hw hst
        exact hN311 (v_told, v_waiting, v_lacking) _ _ hw (hst.weak (.same (.same (.same (.same (.same (.same (.same .nil))))))))
      · clear hst hw
        intro s309 σ H hw hst
        obtain ⟨v_told, v_waiting, v_lacking⟩ := s309
        have hw : W300 (m_term_from_J1 v_told v_waiting v_lacking v_place) := hw
        have hst : Stt F [some (oD (eL eS) v_words), some (oD eI v_at), some (oL eA v_told), some (oL eS v_waiting), some (oL eI v_lacking), some (oD eI v_place), some (oD eS v_word)] [] σ H := hst
        replace hst := hst.weak (Γ' := [some (oD (eL eS) v_words), some (oD eI v_at), some (oL eA v_told), some (oL eS v_waiting), some (oL eI v_lacking), some (oD eI v_place), none]) (.same (.same (.same (.same (.same (.same (.drop .nil)))))))
        unfold m_term_from_J1 at hw
        refine q_nx ?_
        refine q_seq ?_
        refine s_ifM hst hw ok (mt_guard fun g318 => mt_ok (et_test (ev_eqNil (enc := eS) g318 (eq_l (el_var (n := 3) (by rfl))) (eq_l (el_own (ev_lst ea_nil (show 0 ≤ 1000 by decide))))))) ?_ ?_
        · clear hst hw
          intro H hw hst
          have hst := hst.freezeAt (i := 2) (by rfl)
          exact s_retM (t := oD (e2 (eU eA) eI)) hst hw ok (mv_ok (t := oD (e2 (eU eA) eI)) ((ev_tup (ea_cons (ev_tupLE (enc := eA) (el_dat (ev_var (i := 2) (by rfl)))) (ea_cons (ev_var (i := 5) (by rfl)) ea_nil)) (show 2 ≤ 1000 by decide)))) fun a v H w s => rt304 _ _ _ _ _ _ w s
        · clear hst hw
          intro H hw hst
          refine s_next ?_
          refine q_nx ?_
          refine s_setL (n := 4) (enc := eI) (xs := v_lacking) hst hw ok (by rfl) (mv_ok (t := oD eI) (ev_int)) (ev_neg ev_int) ?_
          clear hst hw
          intro v_lacking σ H hw hst
          exact hN301 (v_told, v_waiting, v_lacking, v_place) _ _ hw (hst.weak (.same (.same (.same (.same (.same (.same (.same .nil))))))))
  · clear hst hw
    intro s299 σ H hw hst
    obtain ⟨v_told, v_waiting, v_lacking, v_place⟩ := s299
    have hw : W (m_term_from_J2 ) := hw
    have hst : Stt F [some (oD (eL eS) v_words), some (oD eI v_at), some (oL eA v_told), some (oL eS v_waiting), some (oL eI v_lacking), some (oD eI v_place), none] [] σ H := hst
    replace hst := hst.weak (Γ' := [none, none, none, none, none, none, none]) (.drop (.drop (.drop (.drop (.drop (.drop (.same .nil)))))))
    unfold m_term_from_J2 at hw
    refine q_nx ?_
    exact s_raise (C := tx.Ce .noTerm) hst hw ok (wkN (by rfl)) (fun _ _ _ h => h) fun h => h
theorem bn_line_of (tx : Tx K mg) : Binds K tx.d_line_of ["row"] [] := tx.F_line_of.bindsN fun _ _ _ _ _ _ us hl => match us, hl with | [_], _ => rfl
theorem ok_line_of (tx : Tx K mg) : FnOk P w K mg base (L2.CX P w) 4 tx.f_line_of tx.d_line_of ["row"] (sp_line_of K tx.Ce) := by
  refine tx.F_line_of.ok sc_line_of (fun vs H Q E h => spF_len (n := 1) rfl vs H Q E h) (fun cdv A outer s H vs Q E hr h => ⟨_, (pss_cons (ps_if (pt_cmpR (r := rEqD K) (op_eqD hr.units) (pe_ix (r := rIxT K) ix_tup (pv 0) pe_int (fun _ _ => rfl)) pe_str (by first | exact nomark _ | rfl)) (pss_one (ps_ret (pe_op op_add_str (pe_op op_add_str (pe_callS (E := WE (fun cls d _ H => E cls d H)) (ok_written tx) (hr.mono (by decide)) (by rfl) tx.g_written tx.F_written.kp (bn_written tx) (fun σ => passAt (takes_of rfl rfl rfl rfl) σ) (pa_cons (pe_lst (pa_cons pe_str (pa_cons (pe_ix (r := rIxT K) ix_tup (pv 0) pe_int (fun _ _ => rfl)) pa_nil))) (pa_cons (pe_ix (r := rIxT K) ix_tup (pv 0) pe_int (fun _ _ => rfl)) pa_nil))) pe_str) (pe_ix (r := rIxT K) ix_tup (pv 0) pe_int (fun _ _ => rfl))))) pss_nil) (pss_cons (ps_if (pt_cmpR (r := rEqD K) (op_eqD hr.units) (pe_ix (r := rIxT K) ix_tup (pv 0) pe_int (fun _ _ => rfl)) pe_str (by first | exact nomark _ | rfl)) (pss_one (ps_ret (pe_op op_add_str (pe_callS (E := WE (fun cls d _ H => E cls d H)) (ok_written tx) (hr.mono (by decide)) (by rfl) tx.g_written tx.F_written.kp (bn_written tx) (fun σ => passAt (takes_of rfl rfl rfl rfl) σ) (pa_cons (pe_lst (pa_cons pe_str (pa_cons (pe_ix (r := rIxT K) ix_tup (pv 0) pe_int (fun _ _ => rfl)) pa_nil))) (pa_cons (pe_ix (r := rIxT K) ix_tup (pv 0) pe_int (fun _ _ => rfl)) pa_nil))) (pe_callS (E := WE (fun cls d _ H => E cls d H)) (ok_written tx) (hr.mono (by decide)) (by rfl) tx.g_written tx.F_written.kp (bn_written tx) (fun σ => passAt (takes_of rfl rfl rfl rfl) σ) (pa_cons (pe_lst (pa_cons pe_str pa_nil)) (pa_cons (pe_ix (r := rIxT K) ix_tup (pv 0) pe_int (fun _ _ => rfl)) pa_nil)))))) pss_nil) (pss_cons (ps_if (pt_cmpR (r := rEqD K) (op_eqD hr.units) (pe_ix (r := rIxT K) ix_tup (pv 0) pe_int (fun _ _ => rfl)) pe_str (by first | exact nomark _ | rfl)) (pss_one (ps_ret (pe_callS (E := WE (fun cls d _ H => E cls d H)) (ok_written tx) (hr.mono (by decide)) (by rfl) tx.g_written tx.F_written.kp (bn_written tx) (fun σ => passAt (takes_of rfl rfl rfl rfl) σ) (pa_cons (pe_lst (pa_cons pe_str (pa_cons (pe_ix (r := rIxT K) ix_tup (pv 0) pe_int (fun _ _ => rfl)) pa_nil))) (pa_cons (pe_ix (r := rIxT K) ix_tup (pv 0) pe_int (fun _ _ => rfl)) pa_nil))))) pss_nil) (pss_one (ps_ret (pe_callS (E := WE (fun cls d _ H => E cls d H)) (ok_written tx) (hr.mono (by decide)) (by rfl) tx.g_written tx.F_written.kp (bn_written tx) (fun σ => passAt (takes_of rfl rfl rfl rfl) σ) (pa_cons (pe_lst (pa_cons (pe_ix (r := rIxT K) ix_tup (pv 0) pe_int (fun _ _ => rfl)) pa_nil)) (pa_cons (pe_ix (r := rIxT K) ix_tup (pv 0) pe_int (fun _ _ => rfl)) pa_nil)))))))), ?_⟩)
  obtain ⟨v_row, F, W, rfl, ni, hst, hw, ok, rt⟩ := spD_start N_line_of h
  generalize L2.start N_line_of vs = σ at hst ⊢
  have hw : W (m_line_of v_row) := hw
  replace ok := ok (List.replicate 1 none)
  have hst : Stt F [some (oD eA v_row)] [] σ H := hst
  unfold m_line_of at hw
  refine q_seq ?_
  refine s_ifM hst hw ok (mt_guard fun g321 => mt_guard fun g322 => mt_guard fun g323 => mt_ok (et_test (ev_eqDD g323 (eq_d (ev_ixT (enc := eA) g322 (ev_asU g321 (ev_var (i := 0) (by rfl))) ev_int)) (eq_d ev_lit)))) ?_ ?_
  · clear hst hw
    intro H hw hst
    exact s_retF (t := oD eS) hst hw ok (mv_op (mv_op (mv_guard fun g324 => (mv_guard fun g325 => (mv_guard fun g326 => (mv_guard fun g327 => (mv_guard fun g328 => (mv_callP (x := (([(lt "take"), (Dt.asX (getI (Dt.asU v_row) (1 : Int)))] : (List (List Nat))), (getI (Dt.asU v_row) (2 : Int)))) (ea_cons (ev_frz (ev_lst (ea_cons ev_lit (ea_cons (ev_asX g326 (ev_ixT (enc := eA) g325 (ev_asU g324 (ev_var (i := 0) (by rfl))) ev_int)) ea_nil)) (show 2 ≤ 1000 by decide))) (ea_cons (ev_ixT (enc := eA) g328 (ev_asU g327 (ev_var (i := 0) (by rfl))) ev_int) ea_nil)) rfl rfl (fun _ _ _ h => h) (wkN (by rfl)))))))) (fun _ => (mv_ok (t := oD eS) (ev_lit))) fun _ _ => om_guard fun g331 => om_ok (op2_catX g331)) (fun _ => (mv_guard fun g332 => mv_guard fun g333 => mv_guard fun g334 => mv_ok (t := oD eS) ((ev_asX g334 (ev_ixT (enc := eA) g333 (ev_asU g332 (ev_var (i := 0) (by rfl))) ev_int))))) fun _ _ => om_guard fun g337 => om_ok (op2_catX g337)) fun a v H w s => rt _ _ _ _ _ _ w s
  · clear hst hw
    intro H hw hst
    refine s_next ?_
    refine q_nx ?_
    refine q_seq ?_
    refine s_ifM hst hw ok (mt_guard fun g338 => mt_guard fun g339 => mt_guard fun g340 => mt_ok (et_test (ev_eqDD g340 (eq_d (ev_ixT (enc := eA) g339 (ev_asU g338 (ev_var (i := 0) (by rfl))) ev_int)) (eq_d ev_lit)))) ?_ ?_
    · clear hst hw
      intro H hw hst
      exact s_retF (t := oD eS) hst hw ok (mv_op (mv_guard fun g341 => (mv_guard fun g342 => (mv_guard fun g343 => (mv_guard fun g344 => (mv_guard fun g345 => (mv_callP (x := (([(lt "give"), (Dt.asX (getI (Dt.asU v_row) (1 : Int)))] : (List (List Nat))), (getI (Dt.asU v_row) (2 : Int)))) (ea_cons (ev_frz (ev_lst (ea_cons ev_lit (ea_cons (ev_asX g343 (ev_ixT (enc := eA) g342 (ev_asU g341 (ev_var (i := 0) (by rfl))) ev_int)) ea_nil)) (show 2 ≤ 1000 by decide))) (ea_cons (ev_ixT (enc := eA) g345 (ev_asU g344 (ev_var (i := 0) (by rfl))) ev_int) ea_nil)) rfl rfl (fun _ _ _ h => h) (wkN (by rfl)))))))) (fun _ => (mv_guard fun g346 => (mv_guard fun g347 => (mv_callP (x := (([(lt "")] : (List (List Nat))), (getI (Dt.asU v_row) (3 : Int)))) (ea_cons (ev_frz (ev_lst (ea_cons ev_lit ea_nil) (show 1 ≤ 1000 by decide))) (ea_cons (ev_ixT (enc := eA) g347 (ev_asU g346 (ev_var (i := 0) (by rfl))) ev_int) ea_nil)) rfl rfl (fun _ _ _ h => h) (wkN (by rfl)))))) fun _ _ => om_guard fun g350 => om_ok (op2_catX g350)) fun a v H w s => rt _ _ _ _ _ _ w s
    · clear hst hw
      intro H hw hst
      refine s_next ?_
      refine q_nx ?_
      refine q_seq ?_
      refine s_ifM hst hw ok (mt_guard fun g351 => mt_guard fun g352 => mt_guard fun g353 => mt_ok (et_test (ev_eqDD g353 (eq_d (ev_ixT (enc := eA) g352 (ev_asU g351 (ev_var (i := 0) (by rfl))) ev_int)) (eq_d ev_lit)))) ?_ ?_
      · clear hst hw
        intro H hw hst
        exact s_retF (t := oD eS) hst hw ok (mv_guard fun g354 => (mv_guard fun g355 => (mv_guard fun g356 => (mv_guard fun g357 => (mv_guard fun g358 => (mv_callP (x := (([(lt "let"), (Dt.asX (getI (Dt.asU v_row) (1 : Int)))] : (List (List Nat))), (getI (Dt.asU v_row) (2 : Int)))) (ea_cons (ev_frz (ev_lst (ea_cons ev_lit (ea_cons (ev_asX g356 (ev_ixT (enc := eA) g355 (ev_asU g354 (ev_var (i := 0) (by rfl))) ev_int)) ea_nil)) (show 2 ≤ 1000 by decide))) (ea_cons (ev_ixT (enc := eA) g358 (ev_asU g357 (ev_var (i := 0) (by rfl))) ev_int) ea_nil)) rfl rfl (fun _ _ _ h => h) (wkN (by rfl)))))))) fun a v H w s => rt _ _ _ _ _ _ w s
      · clear hst hw
        intro H hw hst
        refine s_next ?_
        refine q_nx ?_
        exact s_retF (t := oD eS) hst hw ok (mv_guard fun g359 => (mv_guard fun g360 => (mv_guard fun g361 => (mv_guard fun g362 => (mv_guard fun g363 => (mv_callP (x := (([(Dt.asX (getI (Dt.asU v_row) (0 : Int)))] : (List (List Nat))), (getI (Dt.asU v_row) (1 : Int)))) (ea_cons (ev_frz (ev_lst (ea_cons (ev_asX g361 (ev_ixT (enc := eA) g360 (ev_asU g359 (ev_var (i := 0) (by rfl))) ev_int)) ea_nil) (show 1 ≤ 1000 by decide))) (ea_cons (ev_ixT (enc := eA) g363 (ev_asU g362 (ev_var (i := 0) (by rfl))) ev_int) ea_nil)) rfl rfl (fun _ _ _ h => h) (wkN (by rfl)))))))) fun a v H w s => rt _ _ _ _ _ _ w s
theorem bn_law_rows (tx : Tx K mg) : Binds K tx.d_law_rows ["cells", "names"] [] := tx.F_law_rows.bindsN fun _ _ _ _ _ _ us hl => match us, hl with | [_, _], _ => rfl
theorem ok_law_rows (tx : Tx K mg) : FnOk P w K mg base (L2.CX P w) 4 tx.f_law_rows tx.d_law_rows ["cells", "names"] (sp_law_rows K tx.Ce) := by
  refine tx.F_law_rows.ok sc_law_rows (fun vs H Q E h => spF_len (n := 2) rfl vs H Q E h) (fun cdv A outer s H vs Q E hr h => ⟨_, (pss_cons (ps_set (i := 2) sc_law_rows.nd rfl (by first | exact Or.inl rfl | exact Or.inr rfl) (pe_lst pa_nil)) (pss_cons (ps_for (passes_of rfl) rfl (pi_list (pv 0)) (pg_name (i := 3) sc_law_rows.nd rfl (by first | exact Or.inl rfl | exact Or.inr rfl)) (pss_cons (ps_if (pt_cmpR op_lt (pe_op op_mod (pv 3) pe_int) pe_int (by first | exact nomark _ | rfl)) (pss_one (ps_set (i := 4) sc_law_rows.nd rfl (by first | exact Or.inl rfl | exact Or.inr rfl) (pe_callS (E := WE (fun cls d _ H => E cls d H)) (ok_law_folded tx) (hr.mono (by decide)) (by rfl) tx.g_law_folded tx.F_law_folded.kp (bn_law_folded tx) (fun σ => passAt (takes_of rfl rfl rfl rfl) σ) (pa_cons (pv 2) (pa_cons (pv 3) (pa_cons (pv 1) pa_nil)))))) (pss_cons (ps_asg (pe_callS (E := WE (fun cls d _ H => E cls d H)) (ok_law_row tx) (hr.mono (by decide)) (by rfl) tx.g_law_row tx.F_law_row.kp (bn_law_row tx) (fun σ => passAt (takes_of rfl rfl rfl rfl) σ) (pa_cons (pe_op op_fdivW (pv 3) pe_int) (pa_cons (pv 1) pa_nil))) (pg_tup rfl (pgs_cons (pg_name (i := 5) sc_law_rows.nd rfl (by first | exact Or.inl rfl | exact Or.inr rfl)) (pgs_cons (pg_name (i := 6) sc_law_rows.nd rfl (by first | exact Or.inl rfl | exact Or.inr rfl)) pgs_nil)))) (pss_one (ps_set (i := 4) sc_law_rows.nd rfl (by first | exact Or.inl rfl | exact Or.inr rfl) (pe_op op_cat (pv 2) (pe_lst (pa_cons (pe_tup (pa_cons (pe_lst (pa_cons (pv 5) pa_nil)) (pa_cons (pv 6) (pa_cons pe_int pa_nil)))) pa_nil))))))) (pss_one (ps_if (pw_and (pt_cmpR op_le (pe_callB (r := rMax K) (cr_max (by rfl)) (by rfl) tx.n_max (by rfl) (pa_cons (pe_lc (own := [("lot", 7)]) (g := gName 7) (tt := tYes) rfl sc_law_rows.nd (pi_list (pv 4)) (blkOk_by (N := N_law_rows) (sc := defScope s_law_rows) (by decide +kernel)) (fun _ _ _ _ _ => (pg_name (i := 7) sc_law_rows.nd rfl (by first | exact Or.inl rfl | exact Or.inr rfl))) (fun _ _ _ _ _ => pts_nil) (fun _ _ _ _ _ => (pe_ix (r := rIxT K) ix_tup (pv 7) pe_int (fun _ _ => rfl)))) pa_nil)) pe_int (by first | exact nomark _ | rfl)) (pw_and1 (pt_cmpR op_le (pe_callB (r := rSum K) (cr_sum (by rfl)) (by rfl) tx.n_sum (by rfl) (pa_cons (pe_lc (own := [("lot", 7)]) (g := gName 7) (tt := tYes) rfl sc_law_rows.nd (pi_list (pv 4)) (blkOk_by (N := N_law_rows) (sc := defScope s_law_rows) (by decide +kernel)) (fun _ _ _ _ _ => (pg_name (i := 7) sc_law_rows.nd rfl (by first | exact Or.inl rfl | exact Or.inr rfl))) (fun _ _ _ _ _ => pts_nil) (fun _ _ _ _ _ => (pe_callB (r := rLenK K) call_len_seq (by rfl) tx.n_len (by rfl) (pa_cons (pe_ix (r := rIxT K) ix_tup (pv 7) pe_int (fun _ _ => rfl)) pa_nil)))) pa_nil)) pe_int (by first | exact nomark _ | rfl)))).pt (pss_one (ps_set (i := 2) sc_law_rows.nd rfl (by first | exact Or.inl rfl | exact Or.inr rfl) (pv 4))) pss_nil)))) (pss_cons (ps_set (i := 8) sc_law_rows.nd rfl (by first | exact Or.inl rfl | exact Or.inr rfl) (pe_lst pa_nil)) (pss_cons (ps_for (passes_of rfl) rfl (pi_list (pv 2)) (pg_name (i := 7) sc_law_rows.nd rfl (by first | exact Or.inl rfl | exact Or.inr rfl)) (pss_one (ps_set (i := 8) sc_law_rows.nd rfl (by first | exact Or.inl rfl | exact Or.inr rfl) (pe_op op_cat (pv 8) (pe_ix (r := rIxT K) ix_tup (pv 7) pe_int (fun _ _ => rfl)))))) (pss_one (ps_ret (pe_tup (pa_cons (pe_m1 (r := rJoinK K) PySem.F.slot_str_join PySem.F.type_str_join mt_join pe_str (pv 8)) (pa_cons (pe_lc (own := [("lot", 7)]) (g := gName 7) (tt := tYes) rfl sc_law_rows.nd (pi_list (pv 2)) (blkOk_by (N := N_law_rows) (sc := defScope s_law_rows) (by decide +kernel)) (fun _ _ _ _ _ => (pg_name (i := 7) sc_law_rows.nd rfl (by first | exact Or.inl rfl | exact Or.inr rfl))) (fun _ _ _ _ _ => pts_nil) (fun _ _ _ _ _ => (pe_ix (r := rIxT K) ix_tup (pv 7) pe_int (fun _ _ => rfl)))) pa_nil))))))))), ?_⟩)
  obtain ⟨x, F, W, rfl, ni, hst, hw, ok, rt⟩ := spD_start N_law_rows h
  obtain ⟨v_cells, v_names⟩ := x
  generalize L2.start N_law_rows vs = σ at hst ⊢
  have hw : W (m_law_rows v_cells v_names) := hw
  replace ok := ok (List.replicate 9 none)
  have hst : Stt F [some (oD (eL eI) v_cells), some (oD (eL eS) v_names), none, none, none, none, none, none, none] [] σ H := hst
  unfold m_law_rows at hw
  refine q_seq ?_
  refine s_asgM (t := oD (eL (e3 (eL eS) eA eI))) hst hw ok (mv_ok (t := oD (eL (e3 (eL eS) eA eI))) ((ev_frz (ev_lst ea_nil (show 0 ≤ 1000 by decide))))) (show 2 < 9 by decide) (ni _) ?_
  clear hst hw
  intro v_some σ H hw hst
  refine q_nx ?_
  refine q_seq ?_
  refine s_foldM (S := (List ((List (List Nat)) × Dt × Int))) (xs := fun c386 => c386) (enc := eI) (f := fun c386 y364 s365 => m_law_rows_L1 v_names s365 y364) (Γs := fun s365 => [none, some (oD (eL eS) v_names), some (oD (eL (e3 (eL eS) eA eI)) s365), none, none, none, none, none, none]) (Γb := fun _ y364 s365 => [none, some (oD (eL eS) v_names), some (oD (eL (e3 (eL eS) eA eI)) s365), some (oD eI y364), none, none, none, none, none]) (s0 := v_some) hst hw ok (sr_list (mv_ok (t := oD (eL eI)) ((ev_var (i := 0) (by rfl))))) (.drop (.same (.same (.same (.same (.same (.same (.same (.same .nil))))))))) (fun _ _ _ => (tg_name (j := 3) (show 3 < 9 by decide) (ni _))) ?_ ?_
  · clear hst hw ok
    intro _ v_cell v_some W366 hN367p T369 σ H ok hw hst hN367
    have hw : W366 (m_law_rows_L1 v_names v_some v_cell) := hw
    have hst : Stt F [none, some (oD (eL eS) v_names), some (oD (eL (e3 (eL eS) eA eI)) v_some), some (oD eI v_cell), none, none, none, none, none] T369 σ H := hst
    unfold m_law_rows_L1 at hw
    refine q_seq ?_
    refine s_ifJ (S := (List ((List (List Nat)) × Dt × Int))) (Γj := fun s372 => [none, some (oD (eL eS) v_names), some (oD (eL (e3 (eL eS) eA eI)) v_some), some (oD eI v_cell), some (oD (eL (e3 (eL eS) eA eI)) s372), none, none, none, none]) hst hw ok (mt_guard fun g371 => mt_ok (et_test (ev_lt (ev_mod g371 (ev_var (i := 3) (by rfl)) ev_int) ev_int))) ?_ ?_ ?_
    · clear hst hw ok
      intro W373 hN374p H ok hw hst hN374
      refine s_asgM (t := oD (eL (e3 (eL eS) eA eI))) hst hw ok (mv_callP (x := (v_some, v_cell, v_names)) (ea_cons (ev_var (i := 2) (by rfl)) (ea_cons (ev_var (i := 3) (by rfl)) (ea_cons (ev_var (i := 1) (by rfl)) ea_nil))) rfl rfl (fun _ _ _ h => h) (wkN (by rfl))) (show 4 < 9 by decide) (ni _) ?_
      clear hst hw
      intro v_made σ H hw hst
      exact hN374 v_made _ _ hw (hst.weak (.same (.same (.same (.same (.same (.same (.same (.same (.same .nil))))))))))
    · clear hst hw ok
      intro W373 hN374p H ok hw hst hN374
      refine q_seq ?_
      refine s_asgT2 (Γ' := fun y376 => [none, some (oD (eL eS) v_names), some (oD (eL (e3 (eL eS) eA eI)) v_some), some (oD eI v_cell), none, some (oD eS y376.1), some (oD (eU eA) y376.2), none, none]) hst hw ok (mv_guard fun g375 => (mv_callP (x := ((v_cell / (7 : Int)), v_names)) (ea_cons (ev_divW g375 (ev_var (i := 3) (by rfl)) ev_int) (ea_cons (ev_var (i := 1) (by rfl)) ea_nil)) rfl rfl (fun _ _ _ h => h) (wkN (by rfl)))) (fun _ => rfl) (fun _ => (tgs_cons (show 5 < 9 by decide) (ni _) (tgs_cons (show 6 < 9 by decide) (ni _) tgs_nil))) ?_
      clear hst hw
      intro v_line v_row σ H hw hst
      refine q_nx ?_
      refine s_asgM (t := oD (eL (e3 (eL eS) eA eI))) hst hw ok (mv_guard fun g377 => mv_ok (t := oD (eL (e3 (eL eS) eA eI))) ((ev_frz (ev_catL (enc := (e3 (eL eS) eA eI)) g377 (el_dat (ev_var (i := 2) (by rfl))) (el_own (ev_lst (ea_cons (ev_tup (ea_cons (ev_frz (ev_lst (ea_cons (ev_var (i := 5) (by rfl)) ea_nil) (show 1 ≤ 1000 by decide))) (ea_cons (ev_var (i := 6) (by rfl)) (ea_cons ev_int ea_nil))) (show 3 ≤ 1000 by decide)) ea_nil) (show 1 ≤ 1000 by decide))))))) (show 4 < 9 by decide) (ni _) ?_
      clear hst hw
      intro v_made σ H hw hst
      exact hN374 v_made _ _ hw (hst.weak (.same (.same (.same (.same (.same (.drop (.drop (.same (.same .nil))))))))))
    · clear hst hw
      intro v_made σ H hw hst
      have hw : W366 (m_law_rows_J1 v_some v_made) := hw
      have hst : Stt F [none, some (oD (eL eS) v_names), some (oD (eL (e3 (eL eS) eA eI)) v_some), some (oD eI v_cell), some (oD (eL (e3 (eL eS) eA eI)) v_made), none, none, none, none] T369 σ H := hst
      replace hst := hst.weak (Γ' := [none, some (oD (eL eS) v_names), some (oD (eL (e3 (eL eS) eA eI)) v_some), none, some (oD (eL (e3 (eL eS) eA eI)) v_made), none, none, none, none]) (.same (.same (.same (.drop (.same (.same (.same (.same (.same .nil)))))))))
      unfold m_law_rows_J1 at hw
      refine q_nx ?_
      refine s_ifM hst hw ok (mt_and (mt_test (mv_op (mv_maxL (ml_own (mv_lc (Γx := List.replicate 9 none) (Γb := fun _ x => [none, some (oD (eL eS) v_names), some (oD (eL (e3 (eL eS) eA eI)) v_some), none, some (oD (eL (e3 (eL eS) eA eI)) v_made), none, none, some (oD (e3 (eL eS) eA eI) x), none]) (xs := fun c => c) (enc := (e3 (eL eS) eA eI)) (encB := eI) (vs := [7]) (sr_list (mv_ok (t := oD (eL (e3 (eL eS) eA eI))) ((ev_var (i := 4) (by rfl))))) ⟨⟨by rfl, ni _⟩, True.intro⟩ (fun _ _ => (tgw_name (j := 7) (show 7 < 9 by decide) (ni _) (by decide))) (fun _ _ => (.same (.same (.same (.same (.same (.same (.same (.drop (.same .nil)))))))))) (fun _ v_lot => by
          show MV F _ _ _ _ (m_law_rows_C1 v_lot) _
          unfold m_law_rows_C1
          exact (mv_ok (t := oD eI) ((ev_ixC (ds := [(eL eS) v_lot.1, eA v_lot.2.1, eI v_lot.2.2]) (n := 2) (by rfl) (ev_var (i := 7) (by rfl)) ev_int))))))) (fun _ => (mv_ok (t := oD eI) (ev_int))) fun _ _ => om_ok (op2_B0 (g := fun i j => decide (i ≤ j))))) (mt_test (mv_op (mv_sum (ml_own (mv_lc (Γx := List.replicate 9 none) (Γb := fun _ x => [none, some (oD (eL eS) v_names), some (oD (eL (e3 (eL eS) eA eI)) v_some), none, some (oD (eL (e3 (eL eS) eA eI)) v_made), none, none, some (oD (e3 (eL eS) eA eI) x), none]) (xs := fun c => c) (enc := (e3 (eL eS) eA eI)) (encB := eI) (vs := [7]) (sr_list (mv_ok (t := oD (eL (e3 (eL eS) eA eI))) ((ev_var (i := 4) (by rfl))))) ⟨⟨by rfl, ni _⟩, True.intro⟩ (fun _ _ => (tgw_name (j := 7) (show 7 < 9 by decide) (ni _) (by decide))) (fun _ _ => (.same (.same (.same (.same (.same (.same (.same (.drop (.same .nil)))))))))) (fun _ v_lot => by
          show MV F _ _ _ _ (m_law_rows_C2 v_lot) _
          unfold m_law_rows_C2
          exact (mv_ok (t := oD eI) ((ev_lenLE (enc := eS) (el_dat (ev_ixC (ds := [(eL eS) v_lot.1, eA v_lot.2.1, eI v_lot.2.2]) (n := 0) (by rfl) (ev_var (i := 7) (by rfl)) ev_int))))))))) (fun _ => (mv_ok (t := oD eI) (ev_int))) fun _ _ => om_ok (op2_B0 (g := fun i j => decide (i ≤ j)))))) ?_ ?_
      · clear hst hw
        intro H hw hst
        refine s_asgM (t := oD (eL (e3 (eL eS) eA eI))) hst hw ok (mv_ok (t := oD (eL (e3 (eL eS) eA eI))) ((ev_var (i := 4) (by rfl)))) (show 2 < 9 by decide) (ni _) ?_
        clear hst hw
        intro v_some σ H hw hst
        exact hN367 v_some _ _ hw (hst.weak (.same (.same (.same (.same (.drop (.same (.same (.same (.same .nil))))))))))
      · clear hst hw
        intro H hw hst
        refine s_next ?_
        exact hN367 v_some _ _ hw (hst.weak (.same (.same (.same (.same (.drop (.same (.same (.same (.same .nil))))))))))
  · clear hst hw
    intro v_some σ H hw hst
    have hw : W (m_law_rows_J2 v_some) := hw
    have hst : Stt F [none, some (oD (eL eS) v_names), some (oD (eL (e3 (eL eS) eA eI)) v_some), none, none, none, none, none, none] [] σ H := hst
    replace hst := hst.weak (Γ' := [none, none, some (oD (eL (e3 (eL eS) eA eI)) v_some), none, none, none, none, none, none]) (.same (.drop (.same (.same (.same (.same (.same (.same (.same .nil)))))))))
    unfold m_law_rows_J2 at hw
    refine q_nx ?_
    refine q_seq ?_
    refine s_asgM (t := oD (eL eS)) hst hw ok (mv_ok (t := oD (eL eS)) ((ev_frz (ev_lst ea_nil (show 0 ≤ 1000 by decide))))) (show 8 < 9 by decide) (ni _) ?_
    clear hst hw
    intro v_lines σ H hw hst
    refine q_nx ?_
    refine q_seq ?_
    refine s_foldM (S := (List (List Nat))) (xs := fun c395 => c395) (enc := (e3 (eL eS) eA eI)) (f := fun c395 y387 s388 => m_law_rows_L2 y387 s388) (Γs := fun s388 => [none, none, some (oD (eL (e3 (eL eS) eA eI)) v_some), none, none, none, none, none, some (oD (eL eS) s388)]) (Γb := fun _ y387 s388 => [none, none, some (oD (eL (e3 (eL eS) eA eI)) v_some), none, none, none, none, some (oD (e3 (eL eS) eA eI) y387), some (oD (eL eS) s388)]) (s0 := v_lines) hst hw ok (sr_list (mv_ok (t := oD (eL (e3 (eL eS) eA eI))) ((ev_var (i := 2) (by rfl))))) (.same (.same (.same (.same (.same (.same (.same (.same (.same .nil))))))))) (fun _ _ _ => (tg_name (j := 7) (show 7 < 9 by decide) (ni _))) ?_ ?_
    · clear hst hw ok
      intro _ v_lot v_lines W389 hN390p T392 σ H ok hw hst hN390
      have hw : W389 (m_law_rows_L2 v_lot v_lines) := hw
      have hst : Stt F [none, none, some (oD (eL (e3 (eL eS) eA eI)) v_some), none, none, none, none, some (oD (e3 (eL eS) eA eI) v_lot), some (oD (eL eS) v_lines)] T392 σ H := hst
      unfold m_law_rows_L2 at hw
      refine s_asgM (t := oD (eL eS)) hst hw ok (mv_guard fun g394 => mv_ok (t := oD (eL eS)) ((ev_frz (ev_catL (enc := eS) g394 (el_dat (ev_var (i := 8) (by rfl))) (el_dat (ev_ixC (ds := [(eL eS) v_lot.1, eA v_lot.2.1, eI v_lot.2.2]) (n := 0) (by rfl) (ev_var (i := 7) (by rfl)) ev_int)))))) (show 8 < 9 by decide) (ni _) ?_
      clear hst hw
      intro v_lines σ H hw hst
      exact hN390 v_lines _ _ hw (hst.weak (.same (.same (.same (.same (.same (.same (.same (.drop (.same .nil))))))))))
    · clear hst hw
      intro v_lines σ H hw hst
      have hw : W (m_law_rows_J3 v_some v_lines) := hw
      have hst : Stt F [none, none, some (oD (eL (e3 (eL eS) eA eI)) v_some), none, none, none, none, none, some (oD (eL eS) v_lines)] [] σ H := hst
      replace hst := hst.weak (Γ' := [none, none, some (oD (eL (e3 (eL eS) eA eI)) v_some), none, none, none, none, none, some (oD (eL eS) v_lines)]) (.same (.same (.same (.same (.same (.same (.same (.same (.same .nil)))))))))
      unfold m_law_rows_J3 at hw
      refine q_nx ?_
      exact s_retF (t := oD (e2 eS (eL eA))) hst hw ok (mv_map (f := fun (x398 : ((List Nat) × ((List Dt) × Unit))) => (x398.1, x398.2.1)) (mv_tup (ma_consM (mv_joinX ev_lit (ml_ok (enc := eS) ((el_dat (ev_var (i := 8) (by rfl)))))) fun _ => (ma_consM (mv_frz (mv_lc (Γx := List.replicate 9 none) (Γb := fun _ x => [none, none, some (oD (eL (e3 (eL eS) eA eI)) v_some), none, none, none, none, some (oD (e3 (eL eS) eA eI) x), some (oD (eL eS) v_lines)]) (xs := fun c => c) (enc := (e3 (eL eS) eA eI)) (encB := eA) (vs := [7]) (sr_list (mv_ok (t := oD (eL (e3 (eL eS) eA eI))) ((ev_var (i := 2) (by rfl))))) ⟨⟨by rfl, ni _⟩, True.intro⟩ (fun _ _ => (tgw_name (j := 7) (show 7 < 9 by decide) (ni _) (by decide))) (fun _ _ => (.same (.same (.same (.same (.same (.same (.same (.drop (.same .nil)))))))))) (fun _ v_lot => by
          show MV F _ _ _ _ (m_law_rows_C3 v_lot) _
          unfold m_law_rows_C3
          exact (mv_ok (t := oD eA) ((ev_ixC (ds := [(eL eS) v_lot.1, eA v_lot.2.1, eI v_lot.2.2]) (n := 1) (by rfl) (ev_var (i := 7) (by rfl)) ev_int)))))) fun _ => (ma_ok (ds := fun _ => []) ea_nil))) fun _ => (show 2 ≤ 1000 by decide)) fun _ => rfl) fun a v H w s => rt _ _ _ _ _ _ w s
theorem bn_take_of (tx : Tx K mg) : Binds K tx.d_take_of ["words"] [] := tx.F_take_of.bindsN fun _ _ _ _ _ _ us hl => match us, hl with | [_], _ => rfl
theorem ok_take_of (tx : Tx K mg) : FnOk P w K mg base (L2.CX P w) 5 tx.f_take_of tx.d_take_of ["words"] (sp_take_of K tx.Ce) := by
  refine tx.F_take_of.ok sc_take_of (fun vs H Q E h => spF_len (n := 1) rfl vs H Q E h) (fun cdv A outer s H vs Q E hr h => ⟨_, (pss_cons (ps_asg (pe_callS (E := WE (fun cls d _ H => E cls d H)) (ok_term_from tx) (hr.mono (by decide)) (by rfl) tx.g_term_from tx.F_term_from.kp (bn_term_from tx) (fun σ => passAt (takes_of rfl rfl rfl rfl) σ) (pa_cons (pv 0) (pa_cons pe_int pa_nil))) (pg_tup rfl (pgs_cons (pg_name (i := 1) sc_take_of.nd rfl (by first | exact Or.inl rfl | exact Or.inr rfl)) (pgs_cons (pg_name (i := 2) sc_take_of.nd rfl (by first | exact Or.inl rfl | exact Or.inr rfl)) pgs_nil)))) (pss_cons (ps_if (pw_or (pt_cmpR op_ne (pe_callB (r := rLenK K) call_len_seq (by rfl) tx.n_len (by rfl) (pa_cons (pv 0) pa_nil)) (pe_op op_add (pv 2) pe_int) (by first | exact nomark _ | rfl)) (pw_or (pt_cmpR op_ne (pe_ix (r := rIxL K) ix_list (pv 0) (pv 2) (fun _ _ => rfl)) pe_str (by first | exact nomark _ | rfl)) (pw_or1 (pt_not (pt_val (pe_callS (E := WE (fun cls d _ H => E cls d H)) (ok_is_name tx) (hr.mono (by decide)) (by rfl) tx.g_is_name tx.F_is_name.kp (bn_is_name tx) (fun σ => passAt (takes_of rfl rfl rfl rfl) σ) (pa_cons (pe_ix (r := rIxL K) ix_list (pv 0) (pe_op op_add (pv 2) pe_int) (fun _ _ => rfl)) pa_nil))))))).pt (pss_one (ps_ret pe_non)) pss_nil) (pss_one (ps_ret (pe_tup (pa_cons pe_str (pa_cons (pe_ix (r := rIxL K) ix_list (pv 0) pe_int (fun _ _ => rfl)) (pa_cons (pv 1) (pa_cons (pe_ix (r := rIxL K) ix_list (pv 0) (pe_op op_add (pv 2) pe_int) (fun _ _ => rfl)) pa_nil))))))))), ?_⟩)
  obtain ⟨v_words, F, W, rfl, ni, hst, hw, ok, rt⟩ := spD_start N_take_of h
  generalize L2.start N_take_of vs = σ at hst ⊢
  have hw : W (m_take_of v_words) := hw
  replace ok := ok (List.replicate 3 none)
  have hst : Stt F [some (oD (eL eS) v_words), none, none] [] σ H := hst
  unfold m_take_of at hw
  refine q_seq ?_
  refine s_asgT2 (Γ' := fun y399 => [some (oD (eL eS) v_words), some (oD (eU eA) y399.1), some (oD eI y399.2)]) hst hw ok (mv_callP (x := (v_words, (2 : Int))) (ea_cons (ev_var (i := 0) (by rfl)) (ea_cons ev_int ea_nil)) rfl rfl (fun _ _ _ h => h) (wkN (by rfl))) (fun _ => rfl) (fun _ => (tgs_cons (show 1 < 3 by decide) (ni _) (tgs_cons (show 2 < 3 by decide) (ni _) tgs_nil))) ?_
  clear hst hw
  intro v_term v_behind σ H hw hst
  refine q_nx ?_
  refine q_seq ?_
  refine s_ifM hst hw ok (mt_or (mt_ok (et_test (ev_neI (ev_lenLE (enc := eS) (el_dat (ev_var (i := 0) (by rfl)))) (ev_add (ev_var (i := 2) (by rfl)) ev_int)))) (mt_or (mt_guard fun g400 => mt_ok (et_test (ev_neX (ev_ixL (enc := eS) g400 (el_dat (ev_var (i := 0) (by rfl))) (ev_var (i := 2) (by rfl))) ev_lit))) (mt_not (mt_B (mv_guard fun g401 => (mv_callP (x := (getI v_words (v_behind + (1 : Int)))) (ea_cons (ev_ixL (enc := eS) g401 (el_dat (ev_var (i := 0) (by rfl))) (ev_add (ev_var (i := 2) (by rfl)) ev_int)) ea_nil) rfl rfl (fun _ _ _ h => h) (wkN (by rfl)))))))) ?_ ?_
  · clear hst hw
    intro H hw hst
    exact s_retF (t := oD (eO (eU eA))) hst hw ok (mv_ok (t := oD (eO (eU eA))) (ev_non)) fun a v H w s => rt _ _ _ _ _ _ w s
  · clear hst hw
    intro H hw hst
    refine s_next ?_
    refine q_nx ?_
    exact s_retF (t := oD (eO (eU eA))) hst hw ok (mv_guard fun g402 => mv_guard fun g403 => mv_ok (t := oD (eO (eU eA))) ((ev_tup (ea_cons ev_lit (ea_cons (ev_ixL (enc := eS) g402 (el_dat (ev_var (i := 0) (by rfl))) ev_int) (ea_cons (ev_var (i := 1) (by rfl)) (ea_cons (ev_ixL (enc := eS) g403 (el_dat (ev_var (i := 0) (by rfl))) (ev_add (ev_var (i := 2) (by rfl)) ev_int)) ea_nil)))) (show 4 ≤ 1000 by decide)))) fun a v H w s => rt _ _ _ _ _ _ w s
theorem bn_row_of (tx : Tx K mg) : Binds K tx.d_row_of ["words"] [] := tx.F_row_of.bindsN fun _ _ _ _ _ _ us hl => match us, hl with | [_], _ => rfl
theorem ok_row_of (tx : Tx K mg) : FnOk P w K mg base (L2.CX P w) 6 tx.f_row_of tx.d_row_of ["words"] (sp_row_of K tx.Ce) := by
  refine tx.F_row_of.ok sc_row_of (fun vs H Q E h => spF_len (n := 1) rfl vs H Q E h) (fun cdv A outer s H vs Q E hr h => ⟨_, (pss_cons (ps_set (i := 1) sc_row_of.nd rfl (by first | exact Or.inl rfl | exact Or.inr rfl) (pe_ix (r := rIxL K) ix_list (pv 0) pe_int (fun _ _ => rfl))) (pss_cons (ps_if (pw_and (pt_cmpR op_eq (pe_callB (r := rLenK K) call_len_seq (by rfl) tx.n_len (by rfl) (pa_cons (pv 0) pa_nil)) pe_int (by first | exact nomark _ | rfl)) (pw_and1 (pt_cmpR (r := rIn K false) op_in_seq (pv 1) (pe_tup (pa_cons pe_str (pa_cons pe_str pa_nil))) (by first | exact nomark _ | rfl)))).pt (pss_one (ps_ret (pe_tup (pa_cons (pv 1) pa_nil)))) pss_nil) (pss_cons (ps_if (pt_cmpR (r := rIn K false) op_in_seq (pv 1) (pe_tup (pa_cons pe_str (pa_cons pe_str (pa_cons pe_str pa_nil)))) (by first | exact nomark _ | rfl)) (pss_cons (ps_asg (pe_callS (E := WE (fun cls d _ H => E cls d H)) (ok_term_from tx) (hr.mono (by decide)) (by rfl) tx.g_term_from tx.F_term_from.kp (bn_term_from tx) (fun σ => passAt (takes_of rfl rfl rfl rfl) σ) (pa_cons (pv 0) (pa_cons pe_int pa_nil))) (pg_tup rfl (pgs_cons (pg_name (i := 2) sc_row_of.nd rfl (by first | exact Or.inl rfl | exact Or.inr rfl)) (pgs_cons (pg_name (i := 3) sc_row_of.nd rfl (by first | exact Or.inl rfl | exact Or.inr rfl)) pgs_nil)))) (pss_one (ps_set (i := 4) sc_row_of.nd rfl (by first | exact Or.inl rfl | exact Or.inr rfl) (pe_tup (pa_cons (pv 1) (pa_cons (pv 2) pa_nil)))))) (pss_one (ps_if (pw_or (pt_cmpR op_lt (pe_callB (r := rLenK K) call_len_seq (by rfl) tx.n_len (by rfl) (pa_cons (pv 0) pa_nil)) pe_int (by first | exact nomark _ | rfl)) (pw_or (pt_not (pt_val (pe_callS (E := WE (fun cls d _ H => E cls d H)) (ok_is_name tx) (hr.mono (by decide)) (by rfl) tx.g_is_name tx.F_is_name.kp (bn_is_name tx) (fun σ => passAt (takes_of rfl rfl rfl rfl) σ) (pa_cons (pe_ix (r := rIxL K) ix_list (pv 0) pe_int (fun _ _ => rfl)) pa_nil)))) (pw_or1 (pt_cmpR (r := rIn K true) op_notIn_seq (pv 1) (pe_tup (pa_cons pe_str (pa_cons pe_str (pa_cons pe_str pa_nil)))) (by first | exact nomark _ | rfl))))).pt (pss_one (ps_ret pe_non)) (pss_one (ps_if (pt_cmpR op_eq (pv 1) pe_str (by first | exact nomark _ | rfl)) (pss_one (ps_ret (pe_callS (E := WE (fun cls d _ H => E cls d H)) (ok_take_of tx) (hr.mono (by decide)) (by rfl) tx.g_take_of tx.F_take_of.kp (bn_take_of tx) (fun σ => passAt (takes_of rfl rfl rfl rfl) σ) (pa_cons (pv 0) pa_nil)))) (pss_cons (ps_asg (pe_callS (E := WE (fun cls d _ H => E cls d H)) (ok_term_from tx) (hr.mono (by decide)) (by rfl) tx.g_term_from tx.F_term_from.kp (bn_term_from tx) (fun σ => passAt (takes_of rfl rfl rfl rfl) σ) (pa_cons (pv 0) (pa_cons pe_int pa_nil))) (pg_tup rfl (pgs_cons (pg_name (i := 2) sc_row_of.nd rfl (by first | exact Or.inl rfl | exact Or.inr rfl)) (pgs_cons (pg_name (i := 3) sc_row_of.nd rfl (by first | exact Or.inl rfl | exact Or.inr rfl)) pgs_nil)))) (pss_cons (ps_set (i := 4) sc_row_of.nd rfl (by first | exact Or.inl rfl | exact Or.inr rfl) (pe_tup (pa_cons (pv 1) (pa_cons (pe_ix (r := rIxL K) ix_list (pv 0) pe_int (fun _ _ => rfl)) (pa_cons (pv 2) pa_nil))))) (pss_one (ps_if (pt_cmpR op_eq (pv 1) pe_str (by first | exact nomark _ | rfl)) (pss_cons (ps_asg (pe_callS (E := WE (fun cls d _ H => E cls d H)) (ok_term_from tx) (hr.mono (by decide)) (by rfl) tx.g_term_from tx.F_term_from.kp (bn_term_from tx) (fun σ => passAt (takes_of rfl rfl rfl rfl) σ) (pa_cons (pv 0) (pa_cons (pv 3) pa_nil))) (pg_tup rfl (pgs_cons (pg_name (i := 5) sc_row_of.nd rfl (by first | exact Or.inl rfl | exact Or.inr rfl)) (pgs_cons (pg_name (i := 3) sc_row_of.nd rfl (by first | exact Or.inl rfl | exact Or.inr rfl)) pgs_nil)))) (pss_one (ps_set (i := 4) sc_row_of.nd rfl (by first | exact Or.inl rfl | exact Or.inr rfl) (pe_tup (pa_cons (pv 1) (pa_cons (pe_ix (r := rIxL K) ix_list (pv 0) pe_int (fun _ _ => rfl)) (pa_cons (pv 2) (pa_cons (pv 5) pa_nil)))))))) pss_nil))))))))) (pss_cons (ps_if (pt_cmpR op_ne (pv 3) (pe_callB (r := rLenK K) call_len_seq (by rfl) tx.n_len (by rfl) (pa_cons (pv 0) pa_nil)) (by first | exact nomark _ | rfl)) (pss_one (ps_ret pe_non)) pss_nil) (pss_one (ps_ret (pv 4))))))), ?_⟩)
  obtain ⟨v_words, F, W, rfl, ni, hst, hw, ok, rt⟩ := spD_start N_row_of h
  generalize L2.start N_row_of vs = σ at hst ⊢
  have hw : W (m_row_of v_words) := hw
  replace ok := ok (List.replicate 6 none)
  have hst : Stt F [some (oD (eL eS) v_words), none, none, none, none, none] [] σ H := hst
  unfold m_row_of at hw
  refine q_seq ?_
  refine s_asgM (t := oD eS) hst hw ok (mv_guard fun g404 => mv_ok (t := oD eS) ((ev_ixL (enc := eS) g404 (el_dat (ev_var (i := 0) (by rfl))) ev_int))) (show 1 < 6 by decide) (ni _) ?_
  clear hst hw
  intro v_head σ H hw hst
  refine q_nx ?_
  refine q_seq ?_
  refine s_ifM hst hw ok (mt_ok (et_and (et_test (ev_eqI (ev_lenLE (enc := eS) (el_dat (ev_var (i := 0) (by rfl)))) ev_int)) (et_test (ev_inTX (ev_var (i := 1) (by rfl)) (ev_tup (ea_cons ev_lit (ea_cons ev_lit ea_nil)) (show 2 ≤ 1000 by decide)))))) ?_ ?_
  · clear hst hw
    intro H hw hst
    exact s_retF (t := oD (eO (eU eA))) hst hw ok (mv_ok (t := oD (eO (eU eA))) ((ev_tup (ea_cons (ev_var (i := 1) (by rfl)) ea_nil) (show 1 ≤ 1000 by decide)))) fun a v H w s => rt _ _ _ _ _ _ w s
  · clear hst hw
    intro H hw hst
    refine s_next ?_
    refine q_nx ?_
    refine q_seq ?_
    refine s_ifC (S := ((List Dt) × Int × (List Dt))) (β := (Option (List Dt))) (Γj := fun s405 => [some (oD (eL eS) v_words), some (oD eS v_head), some (oD (eU eA) s405.1), some (oD eI s405.2.1), some (oD (eU eA) s405.2.2), none]) hst hw ok (mt_ok (et_test (ev_inTX (ev_var (i := 1) (by rfl)) (ev_tup (ea_cons ev_lit (ea_cons ev_lit (ea_cons ev_lit ea_nil))) (show 3 ≤ 1000 by decide))))) ?_ ?_ ?_
    · clear hst hw ok
      intro W406 hN407p H ok r418 hw hst hN407
      have rt408 := fun a v T Γ σ H' w s => rt a v T Γ σ H' (r418 a w) s
      refine q_seq ?_
      refine s_asgT2 (Γ' := fun y409 => [some (oD (eL eS) v_words), some (oD eS v_head), some (oD (eU eA) y409.1), some (oD eI y409.2), none, none]) hst hw ok (mv_callP (x := (v_words, (1 : Int))) (ea_cons (ev_var (i := 0) (by rfl)) (ea_cons ev_int ea_nil)) rfl rfl (fun _ _ _ h => h) (wkN (by rfl))) (fun _ => rfl) (fun _ => (tgs_cons (show 2 < 6 by decide) (ni _) (tgs_cons (show 3 < 6 by decide) (ni _) tgs_nil))) ?_
      clear hst hw
      intro v_term v_behind σ H hw hst
      refine q_nx ?_
      refine s_asgM (t := oD (eU eA)) hst hw ok (mv_ok (t := oD (eU eA)) ((ev_tup (ea_cons (ev_var (i := 1) (by rfl)) (ea_cons (ev_var (i := 2) (by rfl)) ea_nil)) (show 2 ≤ 1000 by decide)))) (show 4 < 6 by decide) (ni _) ?_
      clear hst hw
      intro v_row σ H hw hst
      exact hN407 (v_term, v_behind, v_row) _ _ hw (hst.weak (.same (.same (.same (.same (.same (.same .nil)))))))
    · clear hst hw ok
      intro W406 hN407p H ok r418 hw hst hN407
      have rt408 := fun a v T Γ σ H' w s => rt a v T Γ σ H' (r418 a w) s
      refine s_ifM hst hw ok (mt_or (mt_ok (et_test (ev_lt (ev_lenLE (enc := eS) (el_dat (ev_var (i := 0) (by rfl)))) ev_int))) (mt_or (mt_not (mt_B (mv_guard fun g410 => (mv_callP (x := (getI v_words (1 : Int))) (ea_cons (ev_ixL (enc := eS) g410 (el_dat (ev_var (i := 0) (by rfl))) ev_int) ea_nil) rfl rfl (fun _ _ _ h => h) (wkN (by rfl)))))) (mt_ok (et_test (ev_ninTX (ev_var (i := 1) (by rfl)) (ev_tup (ea_cons ev_lit (ea_cons ev_lit (ea_cons ev_lit ea_nil))) (show 3 ≤ 1000 by decide))))))) ?_ ?_
      · clear hst hw
        intro H hw hst
        exact s_retM (t := oD (eO (eU eA))) hst hw ok (mv_ok (t := oD (eO (eU eA))) (ev_non)) fun a v H w s => rt408 _ _ _ _ _ _ w s
      · clear hst hw
        intro H hw hst
        refine s_ifM hst hw ok (mt_ok (et_test (ev_eqX (ev_var (i := 1) (by rfl)) ev_lit))) ?_ ?_
        · clear hst hw
          intro H hw hst
          exact s_retM (t := oD (eO (eU eA))) hst hw ok (mv_callP (x := v_words) (ea_cons (ev_var (i := 0) (by rfl)) ea_nil) rfl rfl (fun _ _ _ h => h) (wkN (by rfl))) fun a v H w s => rt408 _ _ _ _ _ _ w s
        · clear hst hw
          intro H hw hst
          refine q_seq ?_
          refine s_asgT2 (Γ' := fun y411 => [some (oD (eL eS) v_words), some (oD eS v_head), some (oD (eU eA) y411.1), some (oD eI y411.2), none, none]) hst hw ok (mv_callP (x := (v_words, (2 : Int))) (ea_cons (ev_var (i := 0) (by rfl)) (ea_cons ev_int ea_nil)) rfl rfl (fun _ _ _ h => h) (wkN (by rfl))) (fun _ => rfl) (fun _ => (tgs_cons (show 2 < 6 by decide) (ni _) (tgs_cons (show 3 < 6 by decide) (ni _) tgs_nil))) ?_
          clear hst hw
          intro v_term v_behind σ H hw hst
          refine q_nx ?_
          refine q_seq ?_
          refine s_asgM (t := oD (eU eA)) hst hw ok (mv_guard fun g412 => mv_ok (t := oD (eU eA)) ((ev_tup (ea_cons (ev_var (i := 1) (by rfl)) (ea_cons (ev_ixL (enc := eS) g412 (el_dat (ev_var (i := 0) (by rfl))) ev_int) (ea_cons (ev_var (i := 2) (by rfl)) ea_nil))) (show 3 ≤ 1000 by decide)))) (show 4 < 6 by decide) (ni _) ?_
          clear hst hw
          intro v_row σ H hw hst
          refine q_nx ?_
          refine s_ifJ (S := (Int × (List Dt))) (Γj := fun s413 => [some (oD (eL eS) v_words), some (oD eS v_head), some (oD (eU eA) v_term), some (oD eI s413.1), some (oD (eU eA) s413.2), none]) hst hw ok (mt_ok (et_test (ev_eqX (ev_var (i := 1) (by rfl)) ev_lit))) ?_ ?_ ?_
          · clear hst hw ok
            intro W414 hN415p H ok hw hst hN415
            refine q_seq ?_
            refine s_asgT2 (Γ' := fun y416 => [some (oD (eL eS) v_words), some (oD eS v_head), some (oD (eU eA) v_term), some (oD eI y416.2), some (oD (eU eA) v_row), some (oD (eU eA) y416.1)]) hst hw ok (mv_callP (x := (v_words, v_behind)) (ea_cons (ev_var (i := 0) (by rfl)) (ea_cons (ev_var (i := 3) (by rfl)) ea_nil)) rfl rfl (fun _ _ _ h => h) (wkN (by rfl))) (fun _ => rfl) (fun _ => (tgs_cons (show 5 < 6 by decide) (ni _) (tgs_cons (show 3 < 6 by decide) (ni _) tgs_nil))) ?_
            clear hst hw
            intro v_worth v_behind σ H hw hst
            refine q_nx ?_
            refine s_asgM (t := oD (eU eA)) hst hw ok (mv_guard fun g417 => mv_ok (t := oD (eU eA)) ((ev_tup (ea_cons (ev_var (i := 1) (by rfl)) (ea_cons (ev_ixL (enc := eS) g417 (el_dat (ev_var (i := 0) (by rfl))) ev_int) (ea_cons (ev_var (i := 2) (by rfl)) (ea_cons (ev_var (i := 5) (by rfl)) ea_nil)))) (show 4 ≤ 1000 by decide)))) (show 4 < 6 by decide) (ni _) ?_
            clear hst hw
            intro v_row σ H hw hst
            exact hN415 (v_behind, v_row) _ _ hw (hst.weak (.same (.same (.same (.same (.same (.drop .nil)))))))
          · clear hst hw ok
            intro W414 hN415p H ok hw hst hN415
            refine s_next ?_
            exact hN415 (v_behind, v_row) _ _ hw (hst.weak (.same (.same (.same (.same (.same (.same .nil)))))))
          · clear hst hw
            intro s413 σ H hw hst
            obtain ⟨v_behind, v_row⟩ := s413
            have hw : W406 (m_row_of_J1 v_term v_behind v_row) := hw
            have hst : Stt F [some (oD (eL eS) v_words), some (oD eS v_head), some (oD (eU eA) v_term), some (oD eI v_behind), some (oD (eU eA) v_row), none] [] σ H := hst
            replace hst := hst.weak (Γ' := [some (oD (eL eS) v_words), some (oD eS v_head), some (oD (eU eA) v_term), some (oD eI v_behind), some (oD (eU eA) v_row), none]) (.same (.same (.same (.same (.same (.same .nil))))))
            unfold m_row_of_J1 at hw
            exact hN407 (v_term, v_behind, v_row) _ _ hw (hst.weak (.same (.same (.same (.same (.same (.same .nil)))))))
    · clear hst hw
      intro s405 σ H hw hst
      obtain ⟨v_term, v_behind, v_row⟩ := s405
      have hw : W (m_row_of_J2 v_words v_behind v_row) := hw
      have hst : Stt F [some (oD (eL eS) v_words), some (oD eS v_head), some (oD (eU eA) v_term), some (oD eI v_behind), some (oD (eU eA) v_row), none] [] σ H := hst
      replace hst := hst.weak (Γ' := [some (oD (eL eS) v_words), none, none, some (oD eI v_behind), some (oD (eU eA) v_row), none]) (.same (.drop (.drop (.same (.same (.same .nil))))))
      unfold m_row_of_J2 at hw
      refine q_nx ?_
      refine q_seq ?_
      refine s_ifM hst hw ok (mt_ok (et_test (ev_neI (ev_var (i := 3) (by rfl)) (ev_lenLE (enc := eS) (el_dat (ev_var (i := 0) (by rfl))))))) ?_ ?_
      · clear hst hw
        intro H hw hst
        exact s_retF (t := oD (eO (eU eA))) hst hw ok (mv_ok (t := oD (eO (eU eA))) (ev_non)) fun a v H w s => rt _ _ _ _ _ _ w s
      · clear hst hw
        intro H hw hst
        refine s_next ?_
        refine q_nx ?_
        exact s_retF (t := oD (eO (eU eA))) hst hw ok (mv_ok (t := oD (eO (eU eA))) ((ev_var (i := 4) (by rfl)))) fun a v H w s => rt _ _ _ _ _ _ w s
theorem bn_row_in (tx : Tx K mg) : Binds K tx.d_row_in ["line"] [] := tx.F_row_in.bindsN fun _ _ _ _ _ _ us hl => match us, hl with | [_], _ => rfl
theorem ok_row_in (tx : Tx K mg) : FnOk P w K mg base (L2.CX P w) 7 tx.f_row_in tx.d_row_in ["line"] (sp_row_in K tx.Ce) := by
  refine tx.F_row_in.ok sc_row_in (fun vs H Q E h => spF_len (n := 1) rfl vs H Q E h) (fun cdv A outer s H vs Q E hr h => ⟨_, (pss_cons (ps_set (i := 1) sc_row_in.nd rfl (by first | exact Or.inl rfl | exact Or.inr rfl) (pe_m1 (r := rSplit) PySem.F.slot_str_split PySem.F.type_str_split mt_split (pv 0) pe_str)) (pss_cons (ps_if (pt_cmpR op_gt (pe_callB (r := rLenK K) call_len_seq (by rfl) tx.n_len (by rfl) (pa_cons (pv 1) pa_nil)) (C8.pe_gc (by rfl) tx.c_MOST_WORDS) (by first | exact nomark _ | rfl)) (pss_one (ps_ret pe_non)) pss_nil) (pss_one (ps_tryOnlyW rfl rfl ⟨by rfl, by decide, Or.inl tx.x_NoTerm⟩ (takes_of rfl rfl rfl rfl) (fun Wt pn xe tk pw => (pss_one (ps_ret (pe_callS (E := WE Wt) (ok_row_of tx) (hr.mono (by decide)) (by rfl) tx.g_row_of tx.F_row_of.kp (bn_row_of tx) (fun σ => passAt tk σ) (pa_cons (pv 1) pa_nil))))) (fun a oe cls d pn hz hf => (pss_one (ps_ret pe_non))))))), ?_⟩)
  obtain ⟨v_line, F, W, rfl, ni, hst, hw, ok, rt⟩ := spD_start N_row_in h
  generalize L2.start N_row_in vs = σ at hst ⊢
  have hw : W (m_row_in v_line) := hw
  replace ok := ok (List.replicate 2 none)
  have hst : Stt F [some (oD eS v_line), none] [] σ H := hst
  unfold m_row_in at hw
  refine q_seq ?_
  refine s_asgM (t := oD (eL eS)) hst hw ok (mv_guard fun g419 => mv_ok (t := oD (eL eS)) ((ev_frz (ev_split g419 (ev_var (i := 0) (by rfl)) ev_lit)))) (show 1 < 2 by decide) (ni _) ?_
  clear hst hw
  intro v_words σ H hw hst
  refine q_nx ?_
  refine q_seq ?_
  refine s_ifM hst hw ok (mt_ok (et_test (ev_gt (ev_lenLE (enc := eS) (el_dat (ev_var (i := 1) (by rfl)))) ev_int))) ?_ ?_
  · clear hst hw
    intro H hw hst
    exact s_retF (t := oD (eO (eU eA))) hst hw ok (mv_ok (t := oD (eO (eU eA))) (ev_non)) fun a v H w s => rt _ _ _ _ _ _ w s
  · clear hst hw
    intro H hw hst
    refine s_next ?_
    refine q_nx ?_
    refine s_tryOnlyC (S := Unit) (β := (Option (List Dt))) (Γt := [none, some (oD (eL eS) v_words)]) (Γj := fun s420 => [none, some (oD (eL eS) v_words)]) hst hw ok (wkN (by rfl)) tx.ck2 (fun _ _ _ h hp => by rw [errAt_plain hp] at h; exact h) ?_ ?_ ?_
    · clear hw ok
      intro W421 Wx431 ok r429 hw hN423
      have rt427 := fun a v T Γ σ H' w s => rt a v T Γ σ H' (r429 a w) s
      exact s_retM (t := oD (eO (eU eA))) hst hw ok (mv_callP (x := v_words) (ea_cons (ev_var (i := 1) (by rfl)) ea_nil) rfl rfl (fun _ _ _ h => h) (.drop (.same .nil))) fun a v H w s => rt427 _ _ _ _ _ _ w s
    · clear hst hw ok
      intro e424 W422 a426 σ H hp425 ok r430 hw hst hN423
      replace ok := ok (List.replicate 2 none)
      have rt428 := fun a v T Γ σ H' w s => rt a v T Γ σ H' (r430 a w) s
      have hw : W422 (m_row_in_H1 e424 ) := hw
      unfold m_row_in_H1 at hw
      exact s_retM (t := oD (eO (eU eA))) hst hw ok (mv_ok (t := oD (eO (eU eA))) (ev_non)) fun a v H w s => rt428 _ _ _ _ _ _ w s
    · clear hst hw
      intro s420 σ H hw hst
      have hw : W (m_row_in_J1 ) := hw
      have hst : Stt F [none, some (oD (eL eS) v_words)] [] σ H := hst
      replace hst := hst.weak (Γ' := [none, none]) (.same (.drop .nil))
      unfold m_row_in_J1 at hw
      exact rt _ _ _ _ _ _ hw (hst.push fun _ _ => by unfold Rp; rfl)
theorem bn_read (tx : Tx K mg) : Binds K tx.d_read ["text"] [] := tx.F_read.bindsN fun _ _ _ _ _ _ us hl => match us, hl with | [_], _ => rfl
theorem ok_read (tx : Tx K mg) : FnOk P w K mg base (L2.CX P w) 8 tx.f_read tx.d_read ["text"] (sp_read K tx.Ce) := by
  refine tx.F_read.ok sc_read (fun vs H Q E h => spF_len (n := 1) rfl vs H Q E h) (fun cdv A outer s H vs Q E hr h => ⟨_, (pss_cons (ps_set (i := 1) sc_read.nd rfl (by first | exact Or.inl rfl | exact Or.inr rfl) (pe_lst pa_nil)) (pss_cons (ps_set (i := 2) sc_read.nd rfl (by first | exact Or.inl rfl | exact Or.inr rfl) (pe_lst pa_nil)) (pss_cons (ps_set (i := 3) sc_read.nd rfl (by first | exact Or.inl rfl | exact Or.inr rfl) (pe_lst pa_nil)) (pss_cons (ps_if (pt_cmpR op_ne (pv 0) pe_str (by first | exact nomark _ | rfl)) (pss_one (ps_set (i := 3) sc_read.nd rfl (by first | exact Or.inl rfl | exact Or.inr rfl) (pe_m1 (r := rSplit) PySem.F.slot_str_split PySem.F.type_str_split mt_split (pv 0) pe_str))) pss_nil) (pss_cons (ps_for (passes_of rfl) rfl (pi_enum (by rfl) tx.n_enumerate (pa_cons (pv 3) pa_nil)) (pg_tup rfl (pgs_cons (pg_name (i := 4) sc_read.nd rfl (by first | exact Or.inl rfl | exact Or.inr rfl)) (pgs_cons (pg_name (i := 5) sc_read.nd rfl (by first | exact Or.inl rfl | exact Or.inr rfl)) pgs_nil))) (pss_one (ps_if (pw_or (pt_cmpR op_eq (pv 4) (C8.pe_gc (by rfl) tx.c_MOST_ROWS) (by first | exact nomark _ | rfl)) (pw_or1 (pt_not (pt_val (pe_callS (E := WE (fun cls d _ H => E cls d H)) (ok_put_in tx) (hr.mono (by decide)) (by rfl) tx.g_put_in tx.F_put_in.kp (bn_put_in tx) (fun σ => passAt (takes_of rfl rfl rfl rfl) σ) (pa_cons (pe_callS (E := WE (fun cls d _ H => E cls d H)) (ok_row_in tx) (hr.mono (by decide)) (by rfl) tx.g_row_in tx.F_row_in.kp (bn_row_in tx) (fun σ => passAt (takes_of rfl rfl rfl rfl) σ) (pa_cons (pv 5) pa_nil)) (pa_cons (pv 1) (pa_cons (pv 2) pa_nil)))))))).pt (pss_one (ps_raise rfl (takes_of rfl rfl rfl rfl) (pmk_oex tx.ck0 tx.g_NoDealing_init.at_ (beq_iff_eq.mp tx.g_NoDealing_init.fn) (ok_NoDealing_init tx) (hr.mono (by decide)) (bn_NoDealing_init tx) .nil passL (by rfl) tx.x_NoDealing (pa_cons (pv 4) pa_nil)))) pss_nil))) (pss_cons (ps_if (pt_cmpR (r := rNeN) (op_neN hr.units0) (pv 2) (pe_lst pa_nil) (by first | exact nomark _ | rfl)) (pss_one (ps_raise rfl (takes_of rfl rfl rfl rfl) (pmk_oex tx.ck0 tx.g_NoDealing_init.at_ (beq_iff_eq.mp tx.g_NoDealing_init.fn) (ok_NoDealing_init tx) (hr.mono (by decide)) (bn_NoDealing_init tx) .nil passL (by rfl) tx.x_NoDealing (pa_cons (pe_callB (r := rLenK K) call_len_seq (by rfl) tx.n_len (by rfl) (pa_cons (pv 3) pa_nil)) pa_nil)))) pss_nil) (pss_one (ps_ret (pv 1))))))))), ?_⟩)
  obtain ⟨v_text, F, W, rfl, ni, hst, hw, ok, rt⟩ := spD_start N_read h
  generalize L2.start N_read vs = σ at hst ⊢
  have hw : W (m_read v_text) := hw
  replace ok := ok (List.replicate 6 none)
  have hst : Stt F [some (oD eS v_text), none, none, none, none, none] [] σ H := hst
  unfold m_read at hw
  refine q_seq ?_
  refine s_asgM (t := oM (oRow)) hst hw ok (mv_ok (t := oM (oRow)) (ev_nilM)) (show 1 < 6 by decide) (ni _) ?_
  clear hst hw
  intro v_rows σ H hw hst
  refine q_nx ?_
  refine q_seq ?_
  refine s_asgM (t := oM (oOb_Block F.K)) hst hw ok (mv_ok (t := oM (oOb_Block F.K)) (ev_nilM)) (show 2 < 6 by decide) (ni _) ?_
  clear hst hw
  intro v_blocks σ H hw hst
  refine q_nx ?_
  refine q_seq ?_
  refine s_asgM (t := oD (eL eS)) hst hw ok (mv_ok (t := oD (eL eS)) ((ev_frz (ev_lst ea_nil (show 0 ≤ 1000 by decide))))) (show 3 < 6 by decide) (ni _) ?_
  clear hst hw
  intro v_lines σ H hw hst
  refine q_nx ?_
  refine q_seq ?_
  refine s_ifJ (S := (List (List Nat))) (Γj := fun s432 => [none, some (oM (oRow) v_rows), some (oM (oOb_Block F.K) v_blocks), some (oD (eL eS) s432), none, none]) hst hw ok (mt_ok (et_test (ev_neX (ev_var (i := 0) (by rfl)) ev_lit))) ?_ ?_ ?_
  · clear hst hw ok
    intro W433 hN434p H ok hw hst hN434
    refine s_asgM (t := oD (eL eS)) hst hw ok (mv_guard fun g435 => mv_ok (t := oD (eL eS)) ((ev_frz (ev_split g435 (ev_var (i := 0) (by rfl)) ev_lit)))) (show 3 < 6 by decide) (ni _) ?_
    clear hst hw
    intro v_lines σ H hw hst
    exact hN434 v_lines _ _ hw (hst.weak (.drop (.same (.same (.same (.same (.same .nil)))))))
  · clear hst hw ok
    intro W433 hN434p H ok hw hst hN434
    refine s_next ?_
    exact hN434 v_lines _ _ hw (hst.weak (.drop (.same (.same (.same (.same (.same .nil)))))))
  · clear hst hw
    intro v_lines σ H hw hst
    have hw : W (m_read_J1 v_rows v_blocks v_lines) := hw
    have hst : Stt F [none, some (oM (oRow) v_rows), some (oM (oOb_Block F.K) v_blocks), some (oD (eL eS) v_lines), none, none] [] σ H := hst
    replace hst := hst.weak (Γ' := [none, some (oM (oRow) v_rows), some (oM (oOb_Block F.K) v_blocks), some (oD (eL eS) v_lines), none, none]) (.same (.same (.same (.same (.same (.same .nil))))))
    unfold m_read_J1 at hw
    refine q_nx ?_
    refine q_seq ?_
    refine s_foldM (S := ((List Dt) × (List S_Block))) (xs := fun c451 => (enumX c451)) (enc := (e2 eI eS)) (f := fun c451 y436 s437 => m_read_L1 s437.1 s437.2 y436.1 y436.2) (Γs := fun s437 => [none, some (oM (oRow) s437.1), some (oM (oOb_Block F.K) s437.2), some (oD (eL eS) v_lines), none, none]) (Γb := fun _ y436 s437 => [none, some (oM (oRow) s437.1), some (oM (oOb_Block F.K) s437.2), some (oD (eL eS) v_lines), some (oD eI y436.1), some (oD eS y436.2)]) (s0 := (v_rows, v_blocks)) hst hw ok (sr_enum (xs := fun (p : (List (List Nat))) => p) (e1 := eS) (mv_ok (t := oD (eL eS)) ((ev_var (i := 3) (by rfl))))) (.same (.same (.same (.same (.same (.same .nil)))))) (fun _ _ _ => (tg_tup rfl (tgs_cons (show 4 < 6 by decide) (ni _) (tgs_cons (show 5 < 6 by decide) (ni _) tgs_nil)))) ?_ ?_
    · clear hst hw ok
      intro _ y436 s437 W438 hN439p T441 σ H ok hw hst hN439
      obtain ⟨v_rows, v_blocks⟩ := s437
      obtain ⟨v_number, v_line⟩ := y436
      have hw : W438 (m_read_L1 v_rows v_blocks v_number v_line) := hw
      have hst : Stt F [none, some (oM (oRow) v_rows), some (oM (oOb_Block F.K) v_blocks), some (oD (eL eS) v_lines), some (oD eI v_number), some (oD eS v_line)] T441 σ H := hst
      unfold m_read_L1 at hw
      refine s_ifX3 (b := fun (a449 : (Bool × ((List Dt) × (List S_Block)))) => a449.1) hst hw ok (mtn_or (m2 := fun (sw444 : ((List Dt) × (List S_Block))) => ((((((m_row_in v_line).bind fun a => R.ok ((eO (eU eA)) a)).bind fun a => (R.ok ()).bind fun b => R.ok (a, b)).bind fun x445 => m_put_in x445.1 sw444.1 sw444.2).bind fun a447 => R.ok (a447.1, (a447.2.1, a447.2.2))).bind fun x => R.ok (!x.1, x.2))) (mtn_pure (Γn := fun (sv443 : ((List Dt) × (List S_Block))) => [none, some (oM (oRow) sv443.1), some (oM (oOb_Block F.K) sv443.2), some (oD (eL eS) v_lines), some (oD eI v_number), some (oD eS v_line)]) (v_rows, v_blocks) (by rfl) (mt_ok (et_test (ev_eqI (ev_var (i := 4) (by rfl)) ev_int)))) (fun sw444 => (mtn_not (mtn_of (b := fun (a447 : (Bool × (List Dt) × (List S_Block))) => a447.1) (Γn := fun (sv443 : ((List Dt) × (List S_Block))) => [none, some (oM (oRow) sv443.1), some (oM (oOb_Block F.K) sv443.2), some (oD (eL eS) v_lines), some (oD eI v_number), some (oD eS v_line)]) (fun (a447 : (Bool × (List Dt) × (List S_Block))) => (a447.2.1, a447.2.2)) (fun _ => by rfl) (mtx_B (mx_callL (Γ' := fun (a446 : (Bool × (List Dt) × (List S_Block))) => [none, some (oM (oRow) a446.2.1), some (oM (oOb_Block F.K) a446.2.2), some (oD (eL eS) v_lines), some (oD eI v_number), some (oD eS v_line)]) (Γk := fun _ => [none, some (oM (oRow) sw444.1), some (oM (oOb_Block F.K) sw444.2), some (oD (eL eS) v_lines), some (oD eI v_number), some (oD eS v_line)]) (fun (x445 : (Dt × Unit)) => (x445.1, sw444.1, sw444.2)) (mh_M (mv_map (f := fun a => (eO (eU eA)) a) (mv_callP (x := v_line) (ea_cons (ev_var (i := 5) (by rfl)) ea_nil) rfl rfl (fun _ _ _ h => h) (wkN (by rfl))) fun _ => rfl) (mh_A (lv_var (n := 1) (by rfl)) (mh_A (lv_var (n := 2) (by rfl)) mh_nil))) (fun _ => (.d (.p (loc_var (n := 1) (by rfl)) (.p (loc_var (n := 2) (by rfl)) .nil)))) (fun _ => rfl) (fun _ => rfl) (by exact fun _ vs hl => match vs, hl with | [_, _, _], _ => by rfl) (fun _ => ⟨⟨_, (loc_var (n := 1) (by rfl))⟩, ⟨⟨_, (loc_var (n := 2) (by rfl))⟩, trivial⟩⟩) (fun _ _ => (.cons (loc_var (n := 1) (by rfl)) (.cons (loc_var (n := 2) (by rfl)) .nil))) (fun _ => .inr (wkN (by rfl))) (fun _ _ _ h => h))))))) ?_ ?_
      · clear hst hw
        intro a449 H hw hst
        have hst : Stt F [none, some (oM (oRow) a449.2.1), some (oM (oOb_Block F.K) a449.2.2), some (oD (eL eS) v_lines), some (oD eI v_number), some (oD eS v_line)] T441 σ H := hst
        obtain ⟨v_rows, hw, hst⟩ := nm (P := fun v_rows => Stt F [none, some (oM (oRow) v_rows), some (oM (oOb_Block F.K) a449.2.2), some (oD (eL eS) v_lines), some (oD eI v_number), some (oD eS v_line)] T441 σ H) hw hst
        obtain ⟨v_blocks, hw, hst⟩ := nm (P := fun v_blocks => Stt F [none, some (oM (oRow) v_rows), some (oM (oOb_Block F.K) v_blocks), some (oD (eL eS) v_lines), some (oD eI v_number), some (oD eS v_line)] T441 σ H) hw hst
        exact s_raiseD (C := He.ga F.K "NoDealing") hst hw ok (wkN (by rfl)) (mv_ok (t := oD eI) ((ev_var (i := 4) (by rfl)))) (fun _ _ _ h hd => h _ hd)
      · clear hst hw
        intro a449 H hw hst
        have hst : Stt F [none, some (oM (oRow) a449.2.1), some (oM (oOb_Block F.K) a449.2.2), some (oD (eL eS) v_lines), some (oD eI v_number), some (oD eS v_line)] T441 σ H := hst
        obtain ⟨v_rows, hw, hst⟩ := nm (P := fun v_rows => Stt F [none, some (oM (oRow) v_rows), some (oM (oOb_Block F.K) a449.2.2), some (oD (eL eS) v_lines), some (oD eI v_number), some (oD eS v_line)] T441 σ H) hw hst
        obtain ⟨v_blocks, hw, hst⟩ := nm (P := fun v_blocks => Stt F [none, some (oM (oRow) v_rows), some (oM (oOb_Block F.K) v_blocks), some (oD (eL eS) v_lines), some (oD eI v_number), some (oD eS v_line)] T441 σ H) hw hst
        refine s_next ?_
        exact hN439 (v_rows, v_blocks) _ _ hw (hst.weak (.same (.same (.same (.same (.drop (.drop .nil)))))))
    · clear hst hw
      intro s437 σ H hw hst
      obtain ⟨v_rows, v_blocks⟩ := s437
      have hw : W (m_read_J2 v_rows v_blocks v_lines) := hw
      have hst : Stt F [none, some (oM (oRow) v_rows), some (oM (oOb_Block F.K) v_blocks), some (oD (eL eS) v_lines), none, none] [] σ H := hst
      replace hst := hst.weak (Γ' := [none, some (oM (oRow) v_rows), some (oM (oOb_Block F.K) v_blocks), some (oD (eL eS) v_lines), none, none]) (.same (.same (.same (.same (.same (.same .nil))))))
      unfold m_read_J2 at hw
      refine q_nx ?_
      refine q_seq ?_
      refine s_ifM hst hw ok (mt_ok (et_test (ev_neNilM (fo := oOb_Block F.K) (lv_var (n := 2) (by rfl))))) ?_ ?_
      · clear hst hw
        intro H hw hst
        exact s_raiseD (C := He.ga F.K "NoDealing") hst hw ok (wkN (by rfl)) (mv_ok (t := oD eI) ((ev_lenLE (enc := eS) (el_dat (ev_var (i := 3) (by rfl)))))) (fun _ _ _ h hd => h _ hd)
      · clear hst hw
        intro H hw hst
        refine s_next ?_
        refine q_nx ?_
        exact s_retVar (t := oM (oRow) v_rows) (n := 1) hst hw (by rfl) fun v H w s => rt _ v _ _ _ H w s
theorem okb_law_copy [Rc_2] (tx : Tx K mg) (n : Nat) (h_law_copy : FnOk P w K mg base (L2.CX P w) (1 + n) tx.f_law_copy tx.d_law_copy ["rows"] (sp_law_copy_ K tx.Ce Rc_2.r_law_copy)) : FnOk P w K mg base (L2.CX P w) (1 + (n + 1)) tx.f_law_copy tx.d_law_copy ["rows"] (sp_law_copy_ K tx.Ce m_law_copy_b) := by
  refine tx.F_law_copy.ok sc_law_copy (fun vs H Q E h => spF_len (n := 1) rfl vs H Q E h) (fun cdv A outer s H vs Q E hr h => ⟨_, (pss_cons (ps_set (i := 1) sc_law_copy.nd rfl (by first | exact Or.inl rfl | exact Or.inr rfl) (pe_lst pa_nil)) (pss_cons (ps_for (passes_of rfl) rfl (pi_seq (pv 0)) (pg_name (i := 2) sc_law_copy.nd rfl (by first | exact Or.inl rfl | exact Or.inr rfl)) (pss_one (ps_if (pt_cmpR (r := rEqD K) (op_eqD hr.units) (pe_ix (r := rIxT K) ix_tup (pv 2) pe_int (fun _ _ => rfl)) pe_str (by first | exact nomark _ | rfl)) (pss_one (ps_expr (pe_bm PySem.F.plainAttrs_list PySem.F.slot_list_append PySem.F.type_list_append mt_append (pv 1) (pa_cons (pe_tup (pa_cons pe_str (pa_cons (pe_ix (r := rIxT K) ix_tup (pv 2) pe_int (fun _ _ => rfl)) (pa_cons (pe_callS (E := WE (fun cls d _ H => E cls d H)) h_law_copy (hr.mono (by simp only [Nat.add_eq]; omega)) (by rfl) tx.g_law_copy tx.F_law_copy.kp (bn_law_copy tx) (fun σ => passAt (takes_of rfl rfl rfl rfl) σ) (pa_cons (pe_ix (r := rIxT K) ix_tup (pv 2) pe_int (fun _ _ => rfl)) pa_nil)) (pa_cons (pe_callS (E := WE (fun cls d _ H => E cls d H)) h_law_copy (hr.mono (by simp only [Nat.add_eq]; omega)) (by rfl) tx.g_law_copy tx.F_law_copy.kp (bn_law_copy tx) (fun σ => passAt (takes_of rfl rfl rfl rfl) σ) (pa_cons (pe_ix (r := rIxT K) ix_tup (pv 2) pe_int (fun _ _ => rfl)) pa_nil)) pa_nil))))) pa_nil)))) (pss_one (ps_expr (pe_bm PySem.F.plainAttrs_list PySem.F.slot_list_append PySem.F.type_list_append mt_append (pv 1) (pa_cons (pv 2) pa_nil))))))) (pss_one (ps_ret (pv 1))))), ?_⟩)
  obtain ⟨v_rows, F, W, rfl, ni, hst, hw, ok, rt⟩ := spD_start N_law_copy h
  generalize L2.start N_law_copy vs = σ at hst ⊢
  have hw : W (m_law_copy_b v_rows) := hw
  replace ok := ok (List.replicate 3 none)
  have hst : Stt F [some (oD eA v_rows), none, none] [] σ H := hst
  unfold m_law_copy_b at hw
  refine q_seq ?_
  refine s_asgM (t := oL eA) hst hw ok (mv_ok (t := oL eA) ((ev_lst ea_nil (show 0 ≤ 1000 by decide)))) (show 1 < 3 by decide) (ni _) ?_
  clear hst hw
  intro v_made σ H hw hst
  refine q_nx ?_
  refine q_seq ?_
  refine s_foldM (S := (List Dt)) (xs := fun c472 => (Dt.asQ c472)) (enc := eA) (f := fun c472 y453 s454 => m_law_copy_L1 s454 y453) (Γs := fun s454 => [none, some (oL eA s454), none]) (Γb := fun _ y453 s454 => [none, some (oL eA s454), some (oD eA y453)]) (s0 := v_made) hst hw ok (sr_seq (mv_ok (t := oD eA) ((ev_var (i := 0) (by rfl))))) (.drop (.same (.same .nil))) (fun _ _ _ => (tg_name (j := 2) (show 2 < 3 by decide) (ni _))) ?_ ?_
  · clear hst hw ok
    intro _ v_row v_made W455 hN456p T458 σ H ok hw hst hN456
    have hw : W455 (m_law_copy_L1 v_made v_row) := hw
    have hst : Stt F [none, some (oL eA v_made), some (oD eA v_row)] T458 σ H := hst
    unfold m_law_copy_L1 at hw
    refine s_ifM hst hw ok (mt_guard fun g460 => mt_guard fun g461 => mt_guard fun g462 => mt_ok (et_test (ev_eqDD g462 (eq_d (ev_ixT (enc := eA) g461 (ev_asU g460 (ev_var (i := 2) (by rfl))) ev_int)) (eq_d ev_lit)))) ?_ ?_
    · clear hst hw
      intro H hw hst
      refine s_appE (enc := eA) (xs := v_made) hst hw ok (by rfl) (mv_map (f := fun a => (e4 eS eA (eL eA) (eL eA)) a) (mv_map (f := fun (x469 : ((List Dt) × ((List Dt) × Unit))) => ((lt "if"), (getI (Dt.asU v_row) (1 : Int)), x469.1, x469.2.1)) (mv_tup (ma_guard fun g463 => (ma_guard fun g464 => (ma_consP ev_lit (ma_consP (ev_ixT (enc := eA) g464 (ev_asU g463 (ev_var (i := 2) (by rfl))) ev_int) (ma_consM (mv_frz (mv_guard fun g465 => (mv_guard fun g466 => (mv_callP (x := (getI (Dt.asU v_row) (2 : Int))) (ea_cons (ev_ixT (enc := eA) g466 (ev_asU g465 (ev_var (i := 2) (by rfl))) ev_int) ea_nil) rfl rfl (fun _ _ _ h => h) (wkN (by rfl)))))) fun _ => (ma_consM (mv_frz (mv_guard fun g467 => (mv_guard fun g468 => (mv_callP (x := (getI (Dt.asU v_row) (3 : Int))) (ea_cons (ev_ixT (enc := eA) g468 (ev_asU g467 (ev_var (i := 2) (by rfl))) ev_int) ea_nil) rfl rfl (fun _ _ _ h => h) (wkN (by rfl)))))) fun _ => (ma_ok (ds := fun _ => []) ea_nil))))))) fun _ => (show 4 ≤ 1000 by decide)) fun _ => rfl) fun _ => rfl) ?_
      clear hst hw
      intro v_made σ H hw hst
      exact hN456 v_made _ _ hw (hst.weak (.same (.same (.drop .nil))))
    · clear hst hw
      intro H hw hst
      refine s_appE (enc := eA) (xs := v_made) hst hw ok (by rfl) (mv_ok (t := oD eA) ((ev_var (i := 2) (by rfl)))) ?_
      clear hst hw
      intro v_made σ H hw hst
      exact hN456 v_made _ _ hw (hst.weak (.same (.same (.drop .nil))))
  · clear hst hw
    intro v_made σ H hw hst
    have hw : W (m_law_copy_J1 v_made) := hw
    have hst : Stt F [none, some (oL eA v_made), none] [] σ H := hst
    replace hst := hst.weak (Γ' := [none, some (oL eA v_made), none]) (.same (.same (.same .nil)))
    unfold m_law_copy_J1 at hw
    refine q_nx ?_
    exact s_retVar (t := oL eA v_made) (n := 1) hst hw (by rfl) fun v H w s => rt _ v _ _ _ H w s
theorem okr_2 (tx : Tx K mg) : ∀ n : Nat, (FnOk P w K mg base (L2.CX P w) (1 + n) tx.f_law_copy tx.d_law_copy ["rows"] (sp_law_copy_ K tx.Ce (rc_2 n).r_law_copy))
  | 0 => fnok_bad rfl fun _ => rfl
  | n + 1 => @okb_law_copy _ _ _ _ _ (rc_2 n) tx n (okr_2 tx n)
theorem ok_law_copy (tx : Tx K mg) : FnOk P w K mg base (L2.CX P w) 9 tx.f_law_copy tx.d_law_copy ["rows"] (sp_law_copy K tx.Ce) := (okr_2 tx 8)
theorem okb_lines_of [Rc_1] (tx : Tx K mg) (n : Nat) (h_lines_of : FnOk P w K mg base (L2.CX P w) (5 + n) tx.f_lines_of tx.d_lines_of ["rows"] (sp_lines_of_ K tx.Ce Rc_1.r_lines_of)) : FnOk P w K mg base (L2.CX P w) (5 + (n + 1)) tx.f_lines_of tx.d_lines_of ["rows"] (sp_lines_of_ K tx.Ce m_lines_of_b) := by
  refine tx.F_lines_of.ok sc_lines_of (fun vs H Q E h => spF_len (n := 1) rfl vs H Q E h) (fun cdv A outer s H vs Q E hr h => ⟨_, (pss_cons (ps_set (i := 1) sc_lines_of.nd rfl (by first | exact Or.inl rfl | exact Or.inr rfl) (pe_lst pa_nil)) (pss_cons (ps_for (passes_of rfl) rfl (pi_seq (pv 0)) (pg_name (i := 2) sc_lines_of.nd rfl (by first | exact Or.inl rfl | exact Or.inr rfl)) (pss_cons (ps_expr (pe_bm PySem.F.plainAttrs_list PySem.F.slot_list_append PySem.F.type_list_append mt_append (pv 1) (pa_cons (pe_callS (E := WE (fun cls d _ H => E cls d H)) (ok_line_of tx) (hr.mono (by simp only [Nat.add_eq]; omega)) (by rfl) tx.g_line_of tx.F_line_of.kp (bn_line_of tx) (fun σ => passAt (takes_of rfl rfl rfl rfl) σ) (pa_cons (pv 2) pa_nil)) pa_nil))) (pss_one (ps_if (pt_cmpR (r := rEqD K) (op_eqD hr.units) (pe_ix (r := rIxT K) ix_tup (pv 2) pe_int (fun _ _ => rfl)) pe_str (by first | exact nomark _ | rfl)) (pss_cons (ps_expr (pe_bm PySem.F.plainAttrs_list PySem.F.slot_list_extend PySem.F.type_list_extend mt_extend (pv 1) (pa_cons (pe_callS (E := WE (fun cls d _ H => E cls d H)) h_lines_of (hr.mono (by simp only [Nat.add_eq]; omega)) (by rfl) tx.g_lines_of tx.F_lines_of.kp (bn_lines_of tx) (fun σ => passAt (takes_of rfl rfl rfl rfl) σ) (pa_cons (pe_ix (r := rIxT K) ix_tup (pv 2) pe_int (fun _ _ => rfl)) pa_nil)) pa_nil))) (pss_cons (ps_if (pt_cmpR (r := rNeD K) (op_neD hr.units) (pe_ix (r := rIxT K) ix_tup (pv 2) pe_int (fun _ _ => rfl)) (pe_lst pa_nil) (by first | exact nomark _ | rfl)) (pss_cons (ps_expr (pe_bm PySem.F.plainAttrs_list PySem.F.slot_list_append PySem.F.type_list_append mt_append (pv 1) (pa_cons pe_str pa_nil))) (pss_one (ps_expr (pe_bm PySem.F.plainAttrs_list PySem.F.slot_list_extend PySem.F.type_list_extend mt_extend (pv 1) (pa_cons (pe_callS (E := WE (fun cls d _ H => E cls d H)) h_lines_of (hr.mono (by simp only [Nat.add_eq]; omega)) (by rfl) tx.g_lines_of tx.F_lines_of.kp (bn_lines_of tx) (fun σ => passAt (takes_of rfl rfl rfl rfl) σ) (pa_cons (pe_ix (r := rIxT K) ix_tup (pv 2) pe_int (fun _ _ => rfl)) pa_nil)) pa_nil))))) pss_nil) (pss_one (ps_expr (pe_bm PySem.F.plainAttrs_list PySem.F.slot_list_append PySem.F.type_list_append mt_append (pv 1) (pa_cons pe_str pa_nil)))))) pss_nil)))) (pss_one (ps_ret (pv 1))))), ?_⟩)
  obtain ⟨v_rows, F, W, rfl, ni, hst, hw, ok, rt⟩ := spD_start N_lines_of h
  generalize L2.start N_lines_of vs = σ at hst ⊢
  have hw : W (m_lines_of_b v_rows) := hw
  replace ok := ok (List.replicate 3 none)
  have hst : Stt F [some (oD eA v_rows), none, none] [] σ H := hst
  unfold m_lines_of_b at hw
  refine q_seq ?_
  refine s_asgM (t := oL eS) hst hw ok (mv_ok (t := oL eS) ((ev_lst ea_nil (show 0 ≤ 1000 by decide)))) (show 1 < 3 by decide) (ni _) ?_
  clear hst hw
  intro v_lines σ H hw hst
  refine q_nx ?_
  refine q_seq ?_
  refine s_foldM (S := (List (List Nat))) (xs := fun c498 => (Dt.asQ c498)) (enc := eA) (f := fun c498 y473 s474 => m_lines_of_L1 s474 y473) (Γs := fun s474 => [none, some (oL eS s474), none]) (Γb := fun _ y473 s474 => [none, some (oL eS s474), some (oD eA y473)]) (s0 := v_lines) hst hw ok (sr_seq (mv_ok (t := oD eA) ((ev_var (i := 0) (by rfl))))) (.drop (.same (.same .nil))) (fun _ _ _ => (tg_name (j := 2) (show 2 < 3 by decide) (ni _))) ?_ ?_
  · clear hst hw ok
    intro _ v_row v_lines W475 hN476p T478 σ H ok hw hst hN476
    have hw : W475 (m_lines_of_L1 v_lines v_row) := hw
    have hst : Stt F [none, some (oL eS v_lines), some (oD eA v_row)] T478 σ H := hst
    unfold m_lines_of_L1 at hw
    refine q_seq ?_
    refine s_appE (enc := eS) (xs := v_lines) hst hw ok (by rfl) (mv_callP (x := v_row) (ea_cons (ev_var (i := 2) (by rfl)) ea_nil) rfl rfl (fun _ _ _ h => h) (wkN (by rfl))) ?_
    clear hst hw
    intro v_lines σ H hw hst
    refine q_nx ?_
    refine s_ifM hst hw ok (mt_guard fun g481 => mt_guard fun g482 => mt_guard fun g483 => mt_ok (et_test (ev_eqDD g483 (eq_d (ev_ixT (enc := eA) g482 (ev_asU g481 (ev_var (i := 2) (by rfl))) ev_int)) (eq_d ev_lit)))) ?_ ?_
    · clear hst hw
      intro H hw hst
      refine q_seq ?_
      refine s_extE (enc := eS) (xs := v_lines) hst hw ok (by rfl) (mv_guard fun g484 => (mv_guard fun g485 => (mv_callP (x := (getI (Dt.asU v_row) (2 : Int))) (ea_cons (ev_ixT (enc := eA) g485 (ev_asU g484 (ev_var (i := 2) (by rfl))) ev_int) ea_nil) rfl rfl (fun _ _ _ h => h) (wkN (by rfl))))) ?_
      clear hst hw
      intro v_lines σ H hw hst
      refine q_nx ?_
      refine q_seq ?_
      refine s_ifJ (S := (List (List Nat))) (Γj := fun s490 => [none, some (oL eS s490), some (oD eA v_row)]) hst hw ok (mt_guard fun g487 => mt_guard fun g488 => mt_guard fun g489 => mt_ok (et_test (ev_neDD g489 (eq_d (ev_ixT (enc := eA) g488 (ev_asU g487 (ev_var (i := 2) (by rfl))) ev_int)) (eq_l (el_own (ev_lst ea_nil (show 0 ≤ 1000 by decide))))))) ?_ ?_ ?_
      · clear hst hw ok
        intro W491 hN492p H ok hw hst hN492
        refine q_seq ?_
        refine s_appE (enc := eS) (xs := v_lines) hst hw ok (by rfl) (mv_ok (t := oD eS) (ev_lit)) ?_
        clear hst hw
        intro v_lines σ H hw hst
        refine q_nx ?_
        refine s_extE (enc := eS) (xs := v_lines) hst hw ok (by rfl) (mv_guard fun g494 => (mv_guard fun g495 => (mv_callP (x := (getI (Dt.asU v_row) (3 : Int))) (ea_cons (ev_ixT (enc := eA) g495 (ev_asU g494 (ev_var (i := 2) (by rfl))) ev_int) ea_nil) rfl rfl (fun _ _ _ h => h) (wkN (by rfl))))) ?_
        clear hst hw
        intro v_lines σ H hw hst
        exact hN492 v_lines _ _ hw (hst.weak (.same (.same (.same .nil))))
      · clear hst hw ok
        intro W491 hN492p H ok hw hst hN492
        refine s_next ?_
        exact hN492 v_lines _ _ hw (hst.weak (.same (.same (.same .nil))))
      · clear hst hw
        intro v_lines σ H hw hst
        have hw : W475 (m_lines_of_J1 v_lines) := hw
        have hst : Stt F [none, some (oL eS v_lines), some (oD eA v_row)] T478 σ H := hst
        replace hst := hst.weak (Γ' := [none, some (oL eS v_lines), none]) (.same (.same (.drop .nil)))
        unfold m_lines_of_J1 at hw
        refine q_nx ?_
        refine s_appE (enc := eS) (xs := v_lines) hst hw ok (by rfl) (mv_ok (t := oD eS) (ev_lit)) ?_
        clear hst hw
        intro v_lines σ H hw hst
        exact hN476 v_lines _ _ hw (hst.weak (.same (.same (.same .nil))))
    · clear hst hw
      intro H hw hst
      refine s_next ?_
      exact hN476 v_lines _ _ hw (hst.weak (.same (.same (.drop .nil))))
  · clear hst hw
    intro v_lines σ H hw hst
    have hw : W (m_lines_of_J2 v_lines) := hw
    have hst : Stt F [none, some (oL eS v_lines), none] [] σ H := hst
    replace hst := hst.weak (Γ' := [none, some (oL eS v_lines), none]) (.same (.same (.same .nil)))
    unfold m_lines_of_J2 at hw
    refine q_nx ?_
    exact s_retVar (t := oL eS v_lines) (n := 1) hst hw (by rfl) fun v H w s => rt _ v _ _ _ H w s
theorem okr_1 (tx : Tx K mg) : ∀ n : Nat, (FnOk P w K mg base (L2.CX P w) (5 + n) tx.f_lines_of tx.d_lines_of ["rows"] (sp_lines_of_ K tx.Ce (rc_1 n).r_lines_of))
  | 0 => fnok_bad rfl fun _ => rfl
  | n + 1 => @okb_lines_of _ _ _ _ _ (rc_1 n) tx n (okr_1 tx n)
theorem ok_lines_of (tx : Tx K mg) : FnOk P w K mg base (L2.CX P w) 13 tx.f_lines_of tx.d_lines_of ["rows"] (sp_lines_of K tx.Ce) := (okr_1 tx 8)
theorem bn_shown (tx : Tx K mg) : Binds K tx.d_shown ["rows"] [] := tx.F_shown.bindsN fun _ _ _ _ _ _ us hl => match us, hl with | [_], _ => rfl
theorem ok_shown (tx : Tx K mg) : FnOk P w K mg base (L2.CX P w) 14 tx.f_shown tx.d_shown ["rows"] (sp_shown K tx.Ce) := by
  refine tx.F_shown.ok sc_shown (fun vs H Q E h => spF_len (n := 1) rfl vs H Q E h) (fun cdv A outer s H vs Q E hr h => ⟨_, (pss_one (ps_ret (pe_m1 (r := rJoinK K) PySem.F.slot_str_join PySem.F.type_str_join mt_join pe_str (pe_callS (E := WE (fun cls d _ H => E cls d H)) (ok_lines_of tx) (hr.mono (by decide)) (by rfl) tx.g_lines_of tx.F_lines_of.kp (bn_lines_of tx) (fun σ => passAt (takes_of rfl rfl rfl rfl) σ) (pa_cons (pv 0) pa_nil))))), ?_⟩)
  obtain ⟨v_rows, F, W, rfl, ni, hst, hw, ok, rt⟩ := spD_start N_shown h
  generalize L2.start N_shown vs = σ at hst ⊢
  have hw : W (m_shown v_rows) := hw
  replace ok := ok (List.replicate 1 none)
  have hst : Stt F [some (oD (eL eA) v_rows)] [] σ H := hst
  unfold m_shown at hw
  exact s_retF (t := oD eS) hst hw ok (mv_joinX ev_lit (ml_own (mv_callP (x := ((eL eA) v_rows)) (ea_cons (ev_var (i := 0) (by rfl)) ea_nil) rfl rfl (fun _ _ _ h => h) (wkN (by rfl))))) fun a v H w s => rt _ _ _ _ _ _ w s
theorem okb_law_alike [Rc_0] (tx : Tx K mg) (n : Nat) (h_law_alike : FnOk P w K mg base (L2.CX P w) (1 + n) tx.f_law_alike tx.d_law_alike ["found", "due"] (sp_law_alike_ K tx.Ce Rc_0.r_law_alike)) : FnOk P w K mg base (L2.CX P w) (1 + (n + 1)) tx.f_law_alike tx.d_law_alike ["found", "due"] (sp_law_alike_ K tx.Ce m_law_alike_b) := by
  refine tx.F_law_alike.ok sc_law_alike (fun vs H Q E h => spF_len (n := 2) rfl vs H Q E h) (fun cdv A outer s H vs Q E hr h => ⟨_, (pss_cons (ps_if (pt_val (pe_callB (r := rIsiT K) call_isiT (by rfl) tx.n_isinstance (by rfl) (pa_cons (pv 1) (pa_cons (pe_tup (pa_cons (pe_bltn (v := .ty "list") (by rfl) tx.n_list (by rfl) rfl) (pa_cons (pe_bltn (v := .ty "tuple") (by rfl) tx.n_tuple (by rfl) rfl) pa_nil))) pa_nil)))) (pss_cons (ps_if (pw_or (pt_cmpR op_ne (pe_callB (r := rIsiY K) call_isiY (by rfl) tx.n_isinstance (by rfl) (pa_cons (pv 1) (pa_cons (pe_bltn (v := .ty "list") (by rfl) tx.n_list (by rfl) rfl) pa_nil))) (pe_callB (r := rIsiY K) call_isiY (by rfl) tx.n_isinstance (by rfl) (pa_cons (pv 0) (pa_cons (pe_bltn (v := .ty "list") (by rfl) tx.n_list (by rfl) rfl) pa_nil))) (by first | exact nomark _ | rfl)) (pw_or1 (pt_not (pt_val (pe_callB (r := rIsiT K) call_isiT (by rfl) tx.n_isinstance (by rfl) (pa_cons (pv 0) (pa_cons (pe_tup (pa_cons (pe_bltn (v := .ty "list") (by rfl) tx.n_list (by rfl) rfl) (pa_cons (pe_bltn (v := .ty "tuple") (by rfl) tx.n_tuple (by rfl) rfl) pa_nil))) pa_nil))))))).pt (pss_one (ps_ret pe_bl)) pss_nil) (pss_cons (ps_if (pt_cmpR op_ne (pe_callB (r := rLenK K) call_len_seq (by rfl) tx.n_len (by rfl) (pa_cons (pv 0) pa_nil)) (pe_callB (r := rLenK K) call_len_seq (by rfl) tx.n_len (by rfl) (pa_cons (pv 1) pa_nil)) (by first | exact nomark _ | rfl)) (pss_one (ps_ret pe_bl)) pss_nil) (pss_cons (ps_for (passes_of rfl) rfl (RZ.pi_zipA (by rfl) tx.n_zip (pa_cons (pv 0) (pa_cons (pv 1) pa_nil))) (pg_tup rfl (pgs_cons (pg_name (i := 2) sc_law_alike.nd rfl (by first | exact Or.inl rfl | exact Or.inr rfl)) (pgs_cons (pg_name (i := 3) sc_law_alike.nd rfl (by first | exact Or.inl rfl | exact Or.inr rfl)) pgs_nil))) (pss_one (ps_if (pt_not (pt_val (pe_callS (E := WE (fun cls d _ H => E cls d H)) h_law_alike (hr.mono (by simp only [Nat.add_eq]; omega)) (by rfl) tx.g_law_alike tx.F_law_alike.kp (bn_law_alike tx) (fun σ => passAt (takes_of rfl rfl rfl rfl) σ) (pa_cons (pv 2) (pa_cons (pv 3) pa_nil))))) (pss_one (ps_ret pe_bl)) pss_nil))) (pss_one (ps_ret pe_bl))))) pss_nil) (pss_cons (ps_if (pw_or (pt_val (pe_callB (r := rIsiY K) call_isiY (by rfl) tx.n_isinstance (by rfl) (pa_cons (pv 0) (pa_cons (pe_bltn (v := .ty "bool") (by rfl) tx.n_bool (by rfl) rfl) pa_nil)))) (pw_or1 (pt_cmpR op_ne (pe_callB (r := rIsiY K) call_isiY (by rfl) tx.n_isinstance (by rfl) (pa_cons (pv 1) (pa_cons (pe_bltn (v := .ty "str") (by rfl) tx.n_str (by rfl) rfl) pa_nil))) (pe_callB (r := rIsiY K) call_isiY (by rfl) tx.n_isinstance (by rfl) (pa_cons (pv 0) (pa_cons (pe_bltn (v := .ty "str") (by rfl) tx.n_str (by rfl) rfl) pa_nil))) (by first | exact nomark _ | rfl)))).pt (pss_one (ps_ret pe_bl)) pss_nil) (pss_one (ps_ret (pe_and (pe_callB (r := rIsiT K) call_isiT (by rfl) tx.n_isinstance (by rfl) (pa_cons (pv 0) (pa_cons (pe_tup (pa_cons (pe_bltn (v := .ty "int") (by rfl) tx.n_int (by rfl) rfl) (pa_cons (pe_bltn (v := .ty "str") (by rfl) tx.n_str (by rfl) rfl) pa_nil))) pa_nil))) (pe_one (pe_cmpR (r := rEqD K) (op_eqD hr.units) (pv 0) (pv 1) (by first | exact nomark _ | rfl)))))))), ?_⟩)
  obtain ⟨x, F, W, rfl, ni, hst, hw, ok, rt⟩ := spD_start N_law_alike h
  obtain ⟨v_found, v_due⟩ := x
  generalize L2.start N_law_alike vs = σ at hst ⊢
  have hw : W (m_law_alike_b v_found v_due) := hw
  replace ok := ok (List.replicate 4 none)
  have hst : Stt F [some (oD eA v_found), some (oD eA v_due), none, none] [] σ H := hst
  unfold m_law_alike_b at hw
  refine q_seq ?_
  refine s_ifM hst hw ok (mt_guard fun g500 => mt_ok (et_B (ev_isAT (ns := ["list", "tuple"]) (by decide +kernel) g500 (ev_var (i := 1) (by rfl)) (by decide)))) ?_ ?_
  · clear hst hw
    intro H hw hst
    refine q_seq ?_
    refine s_ifM hst hw ok (mt_or (mt_guard fun g501 => mt_guard fun g502 => mt_ok (et_test (ev_neB (ev_isA (by decide +kernel) g501 (ev_var (i := 1) (by rfl))) (ev_isA (by decide +kernel) g502 (ev_var (i := 0) (by rfl)))))) (mt_guard fun g503 => mt_ok (et_not (et_B (ev_isAT (ns := ["list", "tuple"]) (by decide +kernel) g503 (ev_var (i := 0) (by rfl)) (by decide)))))) ?_ ?_
    · clear hst hw
      intro H hw hst
      exact s_retF (t := oD eB) hst hw ok (mv_ok (t := oD eB) (ev_bl)) fun a v H w s => rt _ _ _ _ _ _ w s
    · clear hst hw
      intro H hw hst
      refine s_next ?_
      refine q_nx ?_
      refine q_seq ?_
      refine s_ifM hst hw ok (mt_guard fun g504 => mt_guard fun g505 => mt_ok (et_test (ev_neI (ev_lenQ g504 (ev_var (i := 0) (by rfl))) (ev_lenQ g505 (ev_var (i := 1) (by rfl)))))) ?_ ?_
      · clear hst hw
        intro H hw hst
        exact s_retF (t := oD eB) hst hw ok (mv_ok (t := oD eB) (ev_bl)) fun a v H w s => rt _ _ _ _ _ _ w s
      · clear hst hw
        intro H hw hst
        refine s_next ?_
        refine q_nx ?_
        refine q_seq ?_
        refine s_forM (S := Unit) (β := Bool) (xs := fun c515 => (zipQ c515)) (enc := (e2 eA eA)) (f := fun c515 y507 s508 => m_law_alike_L1 y507.1 y507.2) (Γs := fun s508 => [some (oD eA v_found), some (oD eA v_due), none, none]) (Γb := fun _ y507 s508 => [some (oD eA v_found), some (oD eA v_due), some (oD eA y507.1), some (oD eA y507.2)]) (s0 := ()) hst hw ok (sr_zipQ (d := fun (p : (Dt × Dt)) => p.1) (e := fun (p : (Dt × Dt)) => p.2) (ma_map (f := fun (x506 : Unit) => ((v_found, v_due) : (Dt × Dt))) (ma_consP (ev_var (i := 0) (by rfl)) (ma_consP (ev_var (i := 1) (by rfl)) (ma_ok (ds := fun _ => []) ea_nil))) fun _ => rfl)) (.same (.same (.same (.same .nil)))) (fun _ _ _ => (tg_tup rfl (tgs_cons (show 2 < 4 by decide) (ni _) (tgs_cons (show 3 < 4 by decide) (ni _) tgs_nil)))) ?_ ?_
        · clear hst hw ok
          intro _ y507 s508 W509 hN510p hB511p T512 σ H ok r513 hw hst hN510 hB511
          obtain ⟨v_one, v_other⟩ := y507
          have rt514 := fun a v T Γ σ H' w s => rt a v T Γ σ H' (r513 a w) s
          have hw : W509 (m_law_alike_L1 v_one v_other) := hw
          have hst : Stt F [some (oD eA v_found), some (oD eA v_due), some (oD eA v_one), some (oD eA v_other)] T512 σ H := hst
          unfold m_law_alike_L1 at hw
          refine s_ifM hst hw ok (mt_not (mt_B (mv_callP (x := (v_one, v_other)) (ea_cons (ev_var (i := 2) (by rfl)) (ea_cons (ev_var (i := 3) (by rfl)) ea_nil)) rfl rfl (fun _ _ _ h => h) (wkN (by rfl))))) ?_ ?_
          · clear hst hw
            intro H hw hst
            exact s_retM (t := oD eB) hst hw ok (mv_ok (t := oD eB) (ev_bl)) fun a v H w s => rt514 _ _ _ _ _ _ w s
          · clear hst hw
            intro H hw hst
            refine s_next ?_
            exact hN510 () _ _ hw (hst.weak (.same (.same (.drop (.drop .nil)))))
        · clear hst hw
          intro s508 σ H hw hst
          have hw : W (m_law_alike_J1 ) := hw
          have hst : Stt F [some (oD eA v_found), some (oD eA v_due), none, none] [] σ H := hst
          replace hst := hst.weak (Γ' := [none, none, none, none]) (.drop (.drop (.same (.same .nil))))
          unfold m_law_alike_J1 at hw
          refine q_nx ?_
          exact s_retF (t := oD eB) hst hw ok (mv_ok (t := oD eB) (ev_bl)) fun a v H w s => rt _ _ _ _ _ _ w s
  · clear hst hw
    intro H hw hst
    refine s_next ?_
    refine q_nx ?_
    refine q_seq ?_
    refine s_ifM hst hw ok (mt_or (mt_guard fun g516 => mt_ok (et_B (ev_isA (by decide +kernel) g516 (ev_var (i := 0) (by rfl))))) (mt_guard fun g517 => mt_guard fun g518 => mt_ok (et_test (ev_neB (ev_isA (by decide +kernel) g517 (ev_var (i := 1) (by rfl))) (ev_isA (by decide +kernel) g518 (ev_var (i := 0) (by rfl))))))) ?_ ?_
    · clear hst hw
      intro H hw hst
      exact s_retF (t := oD eB) hst hw ok (mv_ok (t := oD eB) (ev_bl)) fun a v H w s => rt _ _ _ _ _ _ w s
    · clear hst hw
      intro H hw hst
      refine s_next ?_
      refine q_nx ?_
      exact s_retF (t := oD eB) hst hw ok (mv_andV (mv_guard fun g519 => mv_ok (t := oD eB) ((ev_isAT (ns := ["int", "str"]) (by decide +kernel) g519 (ev_var (i := 0) (by rfl)) (by decide)))) (mv_guard fun g520 => mv_ok (t := oD eB) ((ev_eqDD g520 (eq_d (ev_var (i := 0) (by rfl))) (eq_d (ev_var (i := 1) (by rfl))))))) fun a v H w s => rt _ _ _ _ _ _ w s
theorem okr_0 (tx : Tx K mg) : ∀ n : Nat, (FnOk P w K mg base (L2.CX P w) (1 + n) tx.f_law_alike tx.d_law_alike ["found", "due"] (sp_law_alike_ K tx.Ce (rc_0 n).r_law_alike))
  | 0 => fnok_bad rfl fun _ => rfl
  | n + 1 => @okb_law_alike _ _ _ _ _ (rc_0 n) tx n (okr_0 tx n)
theorem ok_law_alike (tx : Tx K mg) : FnOk P w K mg base (L2.CX P w) 17 tx.f_law_alike tx.d_law_alike ["found", "due"] (sp_law_alike K tx.Ce) := (okr_0 tx 16)
theorem bn_law_apart (tx : Tx K mg) : Binds K tx.d_law_apart ["found", "rows"] [] := tx.F_law_apart.bindsN fun _ _ _ _ _ _ us hl => match us, hl with | [_, _], _ => rfl
theorem ok_law_apart (tx : Tx K mg) : FnOk P w K mg base (L2.CX P w) 18 tx.f_law_apart tx.d_law_apart ["found", "rows"] (sp_law_apart K tx.Ce) := by
  refine tx.F_law_apart.ok sc_law_apart (fun vs H Q E h => spF_len (n := 2) rfl vs H Q E h) (fun cdv A outer s H vs Q E hr h => ⟨_, (pss_cons (ps_for (passes_of rfl) rfl (pi_range1 (by rfl) tx.n_range (pa_cons (pe_callB (r := rLenK K) call_len_seq (by rfl) tx.n_len (by rfl) (pa_cons (pv 0) pa_nil)) pa_nil)) (pg_name (i := 2) sc_law_apart.nd rfl (by first | exact Or.inl rfl | exact Or.inr rfl)) (pss_one (ps_if (pt_cmpR op_eq (pe_ix (r := rIxT K) ix_tup (pe_ix (r := rIxL K) ix_list (pv 0) (pv 2) (fun _ _ => rfl)) pe_int (fun _ _ => rfl)) pe_str (by first | exact nomark _ | rfl)) (pss_cons (ps_expr (pe_bm PySem.F.plainAttrs_list PySem.F.slot_list_append PySem.F.type_list_append mt_append (pe_ix (r := rIxT K) ix_tup (pe_ix (r := rIxL K) ix_list (pv 0) (pv 2) (fun _ _ => rfl)) pe_int (fun _ _ => rfl)) (pa_cons (pe_tup (pa_cons pe_str (pa_cons (pe_tup (pa_cons pe_int pa_nil)) pa_nil))) pa_nil))) (pss_cons (ps_if (pw_or (pt_not (pt_val (pe_callS (E := fun _ => E0) (ok_law_alike tx) (hr.mono (by decide)) (by rfl) tx.g_law_alike tx.F_law_alike.kp (bn_law_alike tx) (fun _ => passAtL) (pa_cons (pe_ix (r := rIxT K) ix_tup (pe_ix (r := rIxL K) ix_list (pv 0) (pv 2) (fun _ _ => rfl)) pe_int (fun _ _ => rfl)) (pa_cons (pe_ix (r := rIxT K) ix_tup (pe_ix (r := rIxL K) ix_list (pv 1) (pv 2) (fun _ _ => rfl)) pe_int (fun _ _ => rfl)) pa_nil))))) (pw_or1 (pt_not (pt_val (pe_callS (E := fun _ => E0) (ok_law_alike tx) (hr.mono (by decide)) (by rfl) tx.g_law_alike tx.F_law_alike.kp (bn_law_alike tx) (fun _ => passAtL) (pa_cons (pe_slice (r := rSlL K) sl_list (pv 0) (po_some (pe_op op_add (pv 2) pe_int)) po_none) (pa_cons (pe_slice (r := rSlL K) sl_list (pv 1) (po_some (pe_op op_add (pv 2) pe_int)) po_none) pa_nil))))))).pt (pss_one (ps_ret pe_bl)) pss_nil) (pss_one (ps_expr (pe_bm0 PySem.F.plainAttrs_list PySem.F.slot_list_clear PySem.F.type_list_clear mt_clear (pe_ix (r := rIxT K) ix_tup (pe_ix (r := rIxL K) ix_list (pv 0) (pv 2) (fun _ _ => rfl)) pe_int (fun _ _ => rfl))))))) pss_nil))) (pss_cons (ps_expr (pe_bm0 PySem.F.plainAttrs_list PySem.F.slot_list_clear PySem.F.type_list_clear mt_clear (pv 0))) (pss_one (ps_ret pe_bl)))), ?_⟩)
  obtain ⟨x, F, W, rfl, ni, hst, hw, ok, rt0⟩ := spF_start N_law_apart (by decide) (by decide) h
  obtain ⟨z_found, v_rows⟩ := x
  generalize L2.start N_law_apart vs = σ at hst ⊢
  have rt : ∀ a v T Γ σ H', W (.ok a) → (∃ Γ1, Tk Γ (List.map Ag.s [0]) [oM (oRow) a.2] Γ1) → Stt F Γ ((v, oD eB a.1) :: T) σ H' → Q v H' := fun a v T Γ σ H' w z s => rt0 a v T Γ _ σ H' w z.choose_spec s
  clear rt0
  have hw : W (m_law_apart z_found v_rows) := hw
  replace ok := ok [some (oM (oRow) z_found), none, none] _ (.s (by rfl) .nil)
  have hst : Stt F [some (oM (oRow) z_found), some (oD (eL eA) v_rows), none] [] σ H := hst
  unfold m_law_apart at hw
  refine q_seq ?_
  refine s_forM (S := (List Dt)) (β := (Bool × (List Dt))) (xs := fun c546 => (rng 0 c546)) (enc := eI) (f := fun c546 y521 s522 => m_law_apart_L1 s522 v_rows y521) (Γs := fun s522 => [some (oM (oRow) s522), some (oD (eL eA) v_rows), none]) (Γb := fun _ y521 s522 => [some (oM (oRow) s522), some (oD (eL eA) v_rows), some (oD eI y521)]) (s0 := z_found) hst hw ok (sr_rng1 (mv_ok (t := oD eI) ((ev_lenM (f := oRow) (lv_var (n := 0) (by rfl)))))) (.same (.same (.same .nil))) (fun _ _ _ => (tg_name (j := 2) (show 2 < 3 by decide) (ni _ (by decide)))) ?_ ?_
  · clear hst hw ok
    intro _ v_k v_found W523 hN524p hB525p T526 σ H ok r527 hw hst hN524 hB525
    have rt528 := fun a v T Γ σ H' w z s => rt a v T Γ σ H' (r527 a w) z s
    have hw : W523 (m_law_apart_L1 v_found v_rows v_k) := hw
    have hst : Stt F [some (oM (oRow) v_found), some (oD (eL eA) v_rows), some (oD eI v_k)] T526 σ H := hst
    unfold m_law_apart_L1 at hw
    refine s_ifM hst hw ok (mt_guard fun g529 => mt_guard fun g530 => mt_guard fun g531 => mt_guard fun g532 => mt_ok (et_test (ev_eqX (ev_rowS g530 g531 g532 (eq_lv rdo_oRow (lv_ixM (f := oRow) (xs := v_found) (lv_var (n := 0) (by rfl)) (ev_var (i := 2) (by rfl)) g529)) ev_int) ev_lit))) ?_ ?_
    · clear hst hw
      intro H hw hst
      refine q_seq ?_
      refine s_rowApp (rows := v_found) (i := v_k) hst hw ok (loc_var (n := 0) (by rfl)) (fun _ => (lv_var (n := 0) (by rfl))) (fun _ => (ev_var (i := 2) (by rfl))) (fun _ => ev_int) (fun _ => (mv_ok (t := oD eA) ((ev_tup (ea_cons ev_lit (ea_cons (ev_tup (ea_cons ev_int ea_nil) (show 1 ≤ 1000 by decide)) ea_nil)) (show 2 ≤ 1000 by decide))))) ?_
      clear hst hw
      intro v534 σ H hw hst
      have hst : Stt F [some (oM (oRow) v534), some (oD (eL eA) v_rows), some (oD eI v_k)] T526 σ H := hst
      refine q_nx ?_
      refine q_seq ?_
      refine s_ifM hst hw ok (mt_or (mt_not (mt_B (mv_calm (Γx := List.replicate 3 none) (mv_guard fun g536 => (mv_guard fun g537 => (mv_guard fun g538 => (mv_guard fun g540 => (mv_guard fun g541 => (mv_guard fun g542 => (mv_callQ (enc := eB) (x := ((getI (Dt.asU (getI v534 v_k)) (2 : Int)), (getI (Dt.asU (getI v_rows v_k)) (2 : Int)))) (eaq_cons (eq_row g537 g538 (eq_lv rdo_oRow (lv_ixM (f := oRow) (xs := v534) (lv_var (n := 0) (by rfl)) (ev_var (i := 2) (by rfl)) g536)) ev_int) (eaq_cons (eq_d (ev_ixT (enc := eA) g542 (ev_asU g541 (ev_ixL (enc := eA) g540 (el_dat (ev_var (i := 1) (by rfl))) (ev_var (i := 2) (by rfl)))) ev_int)) eaq_nil)) rfl rfl (fun _ _ _ h => h.elim) (wkN (by rfl)) sc_B))))))) (wkN (by rfl))))) (mt_not (mt_B (mv_calm (Γx := List.replicate 3 none) (mv_callQ (enc := eB) (x := ((Dt.lst (cutL v534 (some (v_k + (1 : Int))) none)), ((eL eA) (cutL v_rows (some (v_k + (1 : Int))) none)))) (eaq_cons (eq_olS (lv_var (n := 0) (by rfl)) (eo_some (ev_add (ev_var (i := 2) (by rfl)) ev_int)) eo_no) (eaq_cons (eq_d (ev_frz (ev_slLE (enc := eA) (el_dat (ev_var (i := 1) (by rfl))) (eo_some (ev_add (ev_var (i := 2) (by rfl)) ev_int)) eo_no))) eaq_nil)) rfl rfl (fun _ _ _ h => h.elim) (wkN (by rfl)) sc_B) (wkN (by rfl)))))) ?_ ?_
      · clear hst hw
        intro H hw hst
        exact s_retM (t := oD eB) hst hw ok (mv_ok (t := oD eB) (ev_bl)) fun a v H w s => rt528 _ _ _ _ _ _ w ⟨_, (.s (by rfl) .nil)⟩ s
      · clear hst hw
        intro H hw hst
        refine s_next ?_
        refine q_nx ?_
        refine s_rowClr (rows := v534) (i := v_k) hst hw ok (loc_var (n := 0) (by rfl)) (fun _ => (lv_var (n := 0) (by rfl))) (fun _ => (ev_var (i := 2) (by rfl))) (fun _ => ev_int) ?_
        clear hst hw
        intro v544 σ H hw hst
        have hst : Stt F [some (oM (oRow) v544), some (oD (eL eA) v_rows), some (oD eI v_k)] T526 σ H := hst
        exact hN524 v544 _ _ hw (hst.weak (.same (.same (.drop .nil))))
    · clear hst hw
      intro H hw hst
      refine s_next ?_
      exact hN524 v_found _ _ hw (hst.weak (.same (.same (.drop .nil))))
  · clear hst hw
    intro v_found σ H hw hst
    have hw : W (m_law_apart_J1 v_found) := hw
    have hst : Stt F [some (oM (oRow) v_found), some (oD (eL eA) v_rows), none] [] σ H := hst
    replace hst := hst.weak (Γ' := [some (oM (oRow) v_found), none, none]) (.same (.drop (.same .nil)))
    unfold m_law_apart_J1 at hw
    refine q_nx ?_
    refine q_seq ?_
    refine s_lvClr (xs := List.map oRow v_found) hst (lv_var (n := 0) (by rfl)) ?_
    clear hst
    intro σ H hst
    have hst : Stt F [some (oM (oRow) ([] : List Dt)), none, none] [] σ H := hst
    obtain ⟨v_found, hw, hst⟩ := nm (P := fun v_found => Stt F [some (oM (oRow) v_found), none, none] [] σ H) hw hst
    refine q_nx ?_
    exact s_retM (t := oD eB) hst hw ok (mv_ok (t := oD eB) (ev_bl)) fun a v H w s => rt _ _ _ _ _ _ w ⟨_, (.s (by rfl) .nil)⟩ s
theorem ok_law (tx : Tx K mg) : FnOk P w K mg base L2.CX0 19 tx.f_law tx.d_law ["script"] (sp_law K tx.Ce) := by
  refine tx.F_law.ok sc_law (fun vs H Q E h => spF_len (n := 1) rfl vs H Q E h) (fun cdv A outer s H vs Q E hr h => ⟨_, (pss_cons (ps_set (i := 1) sc_law.nd rfl (by first | exact Or.inl rfl | exact Or.inr rfl) (pe_callS (E := fun _ => E0) (ok_law_names tx) (hr.mono (by decide)) (by rfl) tx.g_law_names tx.F_law_names.kp (bn_law_names tx) (fun _ => passAtL) (pa_cons (pe_callS (E := fun _ => E0) (ok_law_cell_at tx) (hr.mono (by decide)) (by rfl) tx.g_law_cell_at tx.F_law_cell_at.kp (bn_law_cell_at tx) (fun _ => passAtL) (pa_cons (pv 0) (pa_cons pe_int pa_nil))) pa_nil))) (pss_cons (ps_asg (pe_callS (E := fun _ => E0) (ok_law_rows tx) (hr.mono (by decide)) (by rfl) tx.g_law_rows tx.F_law_rows.kp (bn_law_rows tx) (fun _ => passAtL) (pa_cons (pe_slice (r := rSlL K) sl_list (pv 0) (po_some pe_int) (po_some pe_int)) (pa_cons (pv 1) pa_nil))) (pg_tup rfl (pgs_cons (pg_name (i := 2) sc_law.nd rfl (by first | exact Or.inl rfl | exact Or.inr rfl)) (pgs_cons (pg_name (i := 3) sc_law.nd rfl (by first | exact Or.inl rfl | exact Or.inr rfl)) pgs_nil)))) (pss_cons (ps_set (i := 4) sc_law.nd rfl (by first | exact Or.inl rfl | exact Or.inr rfl) (pe_callS (E := fun _ => E0) (ok_law_copy tx) (hr.mono (by decide)) (by rfl) tx.g_law_copy tx.F_law_copy.kp (bn_law_copy tx) (fun _ => passAtL) (pa_cons (pv 3) pa_nil))) (pss_cons (ps_set (i := 5) sc_law.nd rfl (by first | exact Or.inl rfl | exact Or.inr rfl) (pe_callS (E := fun _ => E0) (ok_shown tx) (hr.mono (by decide)) (by rfl) tx.g_shown tx.F_shown.kp (bn_shown tx) (fun _ => passAtL) (pa_cons (pv 4) pa_nil))) (pss_cons (ps_if (pw_or (pt_not (pt_val (pe_callB (r := rIsiY K) call_isiY (by rfl) tx.n_isinstance (by rfl) (pa_cons (pv 5) (pa_cons (pe_bltn (v := .ty "str") (by rfl) tx.n_str (by rfl) rfl) pa_nil))))) (pw_or (pt_cmpR op_ne (pv 5) (pv 2) (by first | exact nomark _ | rfl)) (pw_or1 (pt_not (pt_val (pe_callS (E := fun _ => E0) (ok_law_alike tx) (hr.mono (by decide)) (by rfl) tx.g_law_alike tx.F_law_alike.kp (bn_law_alike tx) (fun _ => passAtL) (pa_cons (pv 4) (pa_cons (pv 3) pa_nil)))))))).pt (pss_one (ps_ret pe_bl)) pss_nil) (pss_cons (ps_set (i := 6) sc_law.nd rfl (by first | exact Or.inl rfl | exact Or.inr rfl) (pe_callS (E := fun _ => E0) (ok_read tx) (hr.mono (by decide)) (by rfl) tx.g_read tx.F_read.kp (bn_read tx) (fun _ => passAtL) (pa_cons (pv 2) pa_nil))) (pss_cons (ps_if (pt_not (pt_val (pe_callS (E := fun _ => E0) (ok_law_alike tx) (hr.mono (by decide)) (by rfl) tx.g_law_alike tx.F_law_alike.kp (bn_law_alike tx) (fun _ => passAtL) (pa_cons (pv 6) (pa_cons (pv 3) pa_nil))))) (pss_one (ps_ret pe_bl)) pss_nil) (pss_one (ps_ret (pe_and (pe_callS (E := fun _ => E0) (ok_law_apart tx) (hr.mono (by decide)) (by rfl) tx.g_law_apart tx.F_law_apart.kp (bn_law_apart tx) (fun _ => passAtL) (pa_cons (pv 6) (pa_cons (pv 3) pa_nil))) (pe_and (pe_callS (E := fun _ => E0) (ok_law_alike tx) (hr.mono (by decide)) (by rfl) tx.g_law_alike tx.F_law_alike.kp (bn_law_alike tx) (fun _ => passAtL) (pa_cons (pe_callS (E := fun _ => E0) (ok_read tx) (hr.mono (by decide)) (by rfl) tx.g_read tx.F_read.kp (bn_read tx) (fun _ => passAtL) (pa_cons (pv 2) pa_nil)) (pa_cons (pv 3) pa_nil))) (pe_one (pe_cmpR op_eq (pe_callS (E := fun _ => E0) (ok_shown tx) (hr.mono (by decide)) (by rfl) tx.g_shown tx.F_shown.kp (bn_shown tx) (fun _ => passAtL) (pa_cons (pe_callS (E := fun _ => E0) (ok_law_copy tx) (hr.mono (by decide)) (by rfl) tx.g_law_copy tx.F_law_copy.kp (bn_law_copy tx) (fun _ => passAtL) (pa_cons (pv 3) pa_nil)) pa_nil)) (pv 2) (by first | exact nomark _ | rfl)))))))))))))), ?_⟩)
  obtain ⟨v_script, F, W, rfl, ni, hst, hw, ok, rt⟩ := spD_start N_law h
  generalize L2.start N_law vs = σ at hst ⊢
  obtain ⟨W, hw, ok, rt⟩ := calm_of (m := m_law v_script) hw ok rt
  replace ok := ok (List.replicate 7 none)
  have hst : Stt F [some (oD eX v_script), none, none, none, none, none, none] [] σ H := hst
  unfold m_law at hw
  refine q_seq ?_
  refine s_asgM (t := oD (eL eS)) hst hw ok (mv_call (fun (x548 : (Int × Unit)) => x548.1) (ma_consM (mv_callP (x := (v_script, (0 : Int))) (ea_cons (ev_var (i := 0) (by rfl)) (ea_cons ev_int ea_nil)) rfl rfl (fun _ _ _ h => h.elim) (wkN (by rfl))) fun _ => (ma_ok (ds := fun _ => []) ea_nil)) (fun _ => rfl) (fun _ => rfl) (fun _ _ _ h => h.elim) (wkN (by rfl))) (show 1 < 7 by decide) (ni _) ?_
  clear hst hw
  intro v_names σ H hw hst
  refine q_nx ?_
  refine q_seq ?_
  refine s_asgT2 (Γ' := fun y549 => [some (oD eX v_script), some (oD (eL eS) v_names), some (oD eS y549.1), some (oD (eL eA) y549.2), none, none, none]) hst hw ok (mv_callP (x := ((cutL v_script (some (1 : Int)) (some (121 : Int))), v_names)) (ea_cons (ev_frz (ev_slX (ev_var (i := 0) (by rfl)) (eo_some ev_int) (eo_some ev_int))) (ea_cons (ev_var (i := 1) (by rfl)) ea_nil)) rfl rfl (fun _ _ _ h => h.elim) (wkN (by rfl))) (fun _ => rfl) (fun _ => (tgs_cons (show 2 < 7 by decide) (ni _) (tgs_cons (show 3 < 7 by decide) (ni _) tgs_nil))) ?_
  clear hst hw
  intro v_line v_rows σ H hw hst
  refine q_nx ?_
  refine q_seq ?_
  refine s_asgM (t := oD (eL eA)) hst hw ok (mv_frz (mv_callP (x := ((eL eA) v_rows)) (ea_cons (ev_var (i := 3) (by rfl)) ea_nil) rfl rfl (fun _ _ _ h => h.elim) (wkN (by rfl)))) (show 4 < 7 by decide) (ni _) ?_
  clear hst hw
  intro v_handed σ H hw hst
  refine q_nx ?_
  refine q_seq ?_
  refine s_asgM (t := oD eS) hst hw ok (mv_callP (x := v_handed) (ea_cons (ev_var (i := 4) (by rfl)) ea_nil) rfl rfl (fun _ _ _ h => h.elim) (wkN (by rfl))) (show 5 < 7 by decide) (ni _) ?_
  clear hst hw
  intro v_told σ H hw hst
  refine q_nx ?_
  refine q_seq ?_
  refine s_ifM hst hw ok (mt_or (mt_ok (et_not (et_B (ev_isi (d := eS v_told) (show kitB "str" "str" = some true by decide +kernel) (ev_var (i := 5) (by rfl)))))) (mt_or (mt_ok (et_test (ev_neX (ev_var (i := 5) (by rfl)) (ev_var (i := 2) (by rfl))))) (mt_not (mt_B (mv_callP (x := (((eL eA) v_handed), ((eL eA) v_rows))) (ea_cons (ev_var (i := 4) (by rfl)) (ea_cons (ev_var (i := 3) (by rfl)) ea_nil)) rfl rfl (fun _ _ _ h => h.elim) (wkN (by rfl))))))) ?_ ?_
  · clear hst hw
    intro H hw hst
    exact s_retF (t := oD eB) hst hw ok (mv_ok (t := oD eB) (ev_bl)) fun a v H w s => rt _ _ _ _ _ _ w s
  · clear hst hw
    intro H hw hst
    refine s_next ?_
    refine q_nx ?_
    refine q_seq ?_
    refine s_asgM (t := oM (oRow)) hst hw ok (mv_callP (x := v_line) (ea_cons (ev_var (i := 2) (by rfl)) ea_nil) rfl rfl (fun _ _ _ h => h.elim) (wkN (by rfl))) (show 6 < 7 by decide) (ni _) ?_
    clear hst hw
    intro v_found σ H hw hst
    refine q_nx ?_
    refine q_seq ?_
    refine s_ifM hst hw ok (mt_not (mt_B (mv_callQ (enc := eB) (x := (((eL eA) v_found), ((eL eA) v_rows))) (eaq_cons (eq_lv (rdo_oM (fun _ => rdo_oRow)) (lv_var (n := 6) (by rfl))) (eaq_cons (eq_d (ev_var (i := 3) (by rfl))) eaq_nil)) rfl rfl (fun _ _ _ h => h.elim) (wkN (by rfl)) sc_B))) ?_ ?_
    · clear hst hw
      intro H hw hst
      exact s_retF (t := oD eB) hst hw ok (mv_ok (t := oD eB) (ev_bl)) fun a v H w s => rt _ _ _ _ _ _ w s
    · clear hst hw
      intro H hw hst
      refine s_next ?_
      refine q_nx ?_
      exact s_retX3 (t := fun (a560 : (Bool × (List Dt))) => oD eB a560.1) hst hw ok (mxn_and (m2 := fun (sw554 : (List Dt)) => ((R.and ((((m_read v_line).bind fun a => R.ok ((eL eA) a)).bind fun a => (R.ok ()).bind fun b => R.ok (a, b)).bind fun x555 => m_law_alike x555.1 ((eL eA) v_rows)) ((((m_law_copy ((eL eA) v_rows)).bind fun a => (R.ok ()).bind fun b => R.ok (a, b)).bind fun x556 => m_shown x556.1).bind fun x557 => (R.ok v_line).bind fun x558 => R.ok (decide (x557 = x558)))).bind fun b => R.ok (b, sw554))) (mxn_of (b := fun (a553 : (Bool × (List Dt))) => a553.1) (Γn := fun (sv550 : (List Dt)) => [some (oD eX v_script), some (oD (eL eS) v_names), some (oD eS v_line), some (oD (eL eA) v_rows), some (oD (eL eA) v_handed), some (oD eS v_told), some (oM (oRow) sv550)]) (fun (a553 : (Bool × (List Dt))) => a553.2) (fun _ => by rfl) (mx_callL (Γ' := fun (a552 : (Bool × (List Dt))) => [some (oD eX v_script), some (oD (eL eS) v_names), some (oD eS v_line), some (oD (eL eA) v_rows), some (oD (eL eA) v_handed), some (oD eS v_told), some (oM (oRow) a552.2)]) (Γk := fun _ => [some (oD eX v_script), some (oD (eL eS) v_names), some (oD eS v_line), some (oD (eL eA) v_rows), some (oD (eL eA) v_handed), some (oD eS v_told), some (oM (oRow) v_found)]) (fun (x551 : Unit) => (v_found, v_rows)) (mh_A (lv_var (n := 6) (by rfl)) (mh_P (ev_var (i := 3) (by rfl)) mh_nil)) (fun _ => (.p (loc_var (n := 6) (by rfl)) (.d .nil))) (fun _ => rfl) (fun _ => rfl) (by exact fun _ vs hl => match vs, hl with | [_, _], _ => by rfl) (fun _ => ⟨⟨_, (loc_var (n := 6) (by rfl))⟩, trivial⟩) (fun _ _ => (.cons (loc_var (n := 6) (by rfl)) .nil)) (fun _ => .inr (wkN (by rfl))) (fun _ _ _ h => h.elim))) (fun sw554 => (mxn_pure (Γn := fun (sv550 : (List Dt)) => [some (oD eX v_script), some (oD (eL eS) v_names), some (oD eS v_line), some (oD (eL eA) v_rows), some (oD (eL eA) v_handed), some (oD eS v_told), some (oM (oRow) sv550)]) sw554 (by rfl) (mv_andV (mv_call (fun (x555 : (Dt × Unit)) => (x555.1, ((eL eA) v_rows))) (ma_consM (mv_map (f := fun a => (eL eA) a) (mv_frzG (mv_callP (x := v_line) (ea_cons (ev_var (i := 2) (by rfl)) ea_nil) rfl rfl (fun _ _ _ h => h.elim) (wkN (by rfl))) (fun _ => (rdo_oM (fun _ => rdo_oRow)))) fun _ => rfl) fun _ => (ma_consP (ev_var (i := 3) (by rfl)) (ma_ok (ds := fun _ => []) ea_nil))) (fun _ => rfl) (fun _ => rfl) (fun _ _ _ h => h.elim) (wkN (by rfl))) (mv_op (mv_call (fun (x556 : ((List Dt) × Unit)) => x556.1) (ma_consM (mv_frz (mv_callP (x := ((eL eA) v_rows)) (ea_cons (ev_var (i := 3) (by rfl)) ea_nil) rfl rfl (fun _ _ _ h => h.elim) (wkN (by rfl)))) fun _ => (ma_ok (ds := fun _ => []) ea_nil)) (fun _ => rfl) (fun _ => rfl) (fun _ _ _ h => h.elim) (wkN (by rfl))) (fun _ => (mv_ok (t := oD eS) ((ev_var (i := 2) (by rfl))))) fun _ _ => om_ok (op2_eqX)))))) fun a v H w s => rt _ _ _ _ _ _ w s
end
def D_NoDealing_init : He.DefD := ⟨("NoDealing", some "__init__"), "__init__", "NoDealing.__init__", defArgs s_NoDealing_init, defBody s_NoDealing_init, defScope s_NoDealing_init, [], []⟩
def D_is_worth : He.DefD := ⟨("is_worth", none), "is_worth", "is_worth", defArgs s_is_worth, defBody s_is_worth, defScope s_is_worth, [], []⟩
def D_numeral : He.DefD := ⟨("numeral", none), "numeral", "numeral", defArgs s_numeral, defBody s_numeral, defScope s_numeral, [], []⟩
def D_is_name : He.DefD := ⟨("is_name", none), "is_name", "is_name", defArgs s_is_name, defBody s_is_name, defScope s_is_name, [], []⟩
def D_Block_init : He.DefD := ⟨("Block", some "__init__"), "__init__", "Block.__init__", defArgs s_Block_init, defBody s_Block_init, defScope s_Block_init, [], []⟩
def D_Block_closed : He.DefD := ⟨("Block", some "closed"), "closed", "Block.closed", defArgs s_Block_closed, defBody s_Block_closed, defScope s_Block_closed, [], []⟩
def D_Block_rows_now : He.DefD := ⟨("Block", some "rows_now"), "rows_now", "Block.rows_now", defArgs s_Block_rows_now, defBody s_Block_rows_now, defScope s_Block_rows_now, [], []⟩
def D_law_cell_at : He.DefD := ⟨("_law_cell_at", none), "_law_cell_at", "_law_cell_at", defArgs s_law_cell_at, defBody s_law_cell_at, defScope s_law_cell_at, [], []⟩
def D_law_spread : He.DefD := ⟨("_law_spread", none), "_law_spread", "_law_spread", defArgs s_law_spread, defBody s_law_spread, defScope s_law_spread, [], []⟩
def D_law_letters : He.DefD := ⟨("_law_letters", none), "_law_letters", "_law_letters", defArgs s_law_letters, defBody s_law_letters, defScope s_law_letters, [], []⟩
def D_law_free : He.DefD := ⟨("_law_free", none), "_law_free", "_law_free", defArgs s_law_free, defBody s_law_free, defScope s_law_free, [], []⟩
def D_law_leaf : He.DefD := ⟨("_law_leaf", none), "_law_leaf", "_law_leaf", defArgs s_law_leaf, defBody s_law_leaf, defScope s_law_leaf, [], []⟩
def D_law_joined : He.DefD := ⟨("_law_joined", none), "_law_joined", "_law_joined", defArgs s_law_joined, defBody s_law_joined, defScope s_law_joined, [], []⟩
def D_worth_in : He.DefD := ⟨("worth_in", none), "worth_in", "worth_in", defArgs s_worth_in, defBody s_worth_in, defScope s_worth_in, [], []⟩
def D_words_of : He.DefD := ⟨("words_of", none), "words_of", "words_of", defArgs s_words_of, defBody s_words_of, defScope s_words_of, [], []⟩
def D_law_names : He.DefD := ⟨("_law_names", none), "_law_names", "_law_names", defArgs s_law_names, defBody s_law_names, defScope s_law_names, [], []⟩
def D_law_term : He.DefD := ⟨("_law_term", none), "_law_term", "_law_term", defArgs s_law_term, defBody s_law_term, defScope s_law_term, [], []⟩
def D_part_in : He.DefD := ⟨("part_in", none), "part_in", "part_in", defArgs s_part_in, defBody s_part_in, defScope s_part_in, [], []⟩
def D_written : He.DefD := ⟨("written", none), "written", "written", defArgs s_written, defBody s_written, defScope s_written, [], []⟩
def D_put_in : He.DefD := ⟨("put_in", none), "put_in", "put_in", defArgs s_put_in, defBody s_put_in, defScope s_put_in, [], []⟩
def D_law_row : He.DefD := ⟨("_law_row", none), "_law_row", "_law_row", defArgs s_law_row, defBody s_law_row, defScope s_law_row, [], []⟩
def D_law_folded : He.DefD := ⟨("_law_folded", none), "_law_folded", "_law_folded", defArgs s_law_folded, defBody s_law_folded, defScope s_law_folded, [], []⟩
def D_term_from : He.DefD := ⟨("term_from", none), "term_from", "term_from", defArgs s_term_from, defBody s_term_from, defScope s_term_from, [], []⟩
def D_line_of : He.DefD := ⟨("line_of", none), "line_of", "line_of", defArgs s_line_of, defBody s_line_of, defScope s_line_of, [], []⟩
def D_law_rows : He.DefD := ⟨("_law_rows", none), "_law_rows", "_law_rows", defArgs s_law_rows, defBody s_law_rows, defScope s_law_rows, [], []⟩
def D_take_of : He.DefD := ⟨("take_of", none), "take_of", "take_of", defArgs s_take_of, defBody s_take_of, defScope s_take_of, [], []⟩
def D_row_of : He.DefD := ⟨("row_of", none), "row_of", "row_of", defArgs s_row_of, defBody s_row_of, defScope s_row_of, [], []⟩
def D_row_in : He.DefD := ⟨("row_in", none), "row_in", "row_in", defArgs s_row_in, defBody s_row_in, defScope s_row_in, [], []⟩
def D_read : He.DefD := ⟨("read", none), "read", "read", defArgs s_read, defBody s_read, defScope s_read, [], []⟩
def D_law_copy : He.DefD := ⟨("_law_copy", none), "_law_copy", "_law_copy", defArgs s_law_copy, defBody s_law_copy, defScope s_law_copy, [], []⟩
def D_lines_of : He.DefD := ⟨("lines_of", none), "lines_of", "lines_of", defArgs s_lines_of, defBody s_lines_of, defScope s_lines_of, [], []⟩
def D_shown : He.DefD := ⟨("shown", none), "shown", "shown", defArgs s_shown, defBody s_shown, defScope s_shown, [], []⟩
def D_law_alike : He.DefD := ⟨("_law_alike", none), "_law_alike", "_law_alike", defArgs s_law_alike, defBody s_law_alike, defScope s_law_alike, [], []⟩
def D_law_apart : He.DefD := ⟨("_law_apart", none), "_law_apart", "_law_apart", defArgs s_law_apart, defBody s_law_apart, defScope s_law_apart, [], []⟩
def D_law : He.DefD := ⟨("law", none), "law", "law", defArgs s_law, defBody s_law, defScope s_law, [], []⟩
def ls0 : List Str := ["__name__", "ForerunError", "NoNumber", "NoTerm", "NoDealing", "MOST", "FIGURES", "is_worth", "numeral", "worth_in", "LETTERS", "DOERS"]
def ls1 : List Str := ["HEADS", "MOST_WORDS", "is_name", "part_in", "term_from", "words_of", "written", "line_of", "lines_of", "shown", "MOST_ROWS", "MOST_BLOCKS"]
def ls2 : List Str := ["Block", "take_of", "row_of", "row_in", "put_in", "read", "_law_cell_at", "_law_spread", "_law_letters", "_law_free", "_law_names", "_law_leaf"]
def ls3 : List Str := ["_law_joined", "_law_term", "_law_row", "_law_folded", "_law_rows", "_law_copy", "_law_alike", "_law_apart"]
abbrev loose : List Str := ls0 ++ ls1 ++ ls2 ++ ls3
def fn : List He.DefD := [D_NoDealing_init, D_is_worth, D_numeral, D_is_name, D_Block_init, D_Block_closed, D_Block_rows_now, D_law_cell_at, D_law_spread, D_law_letters, D_law_free, D_law_leaf, D_law_joined, D_worth_in, D_words_of, D_law_names, D_law_term, D_part_in, D_written, D_put_in, D_law_row, D_law_folded, D_term_from, D_line_of, D_law_rows, D_take_of, D_row_of, D_row_in, D_read, D_law_copy, D_lines_of, D_shown, D_law_alike, D_law_apart, D_law]
def fa0 : List He.Fa := [.meth "NoDealing" "__init__", .glo "is_worth", .glo "numeral", .glo "is_name", .mkr "Block", .meth "Block" "closed", .meth "Block" "rows_now", .glo "_law_cell_at", .glo "_law_spread", .glo "_law_letters", .glo "_law_free", .glo "_law_leaf", .glo "_law_joined", .glo "worth_in", .glo "words_of", .glo "_law_names", .glo "_law_term", .glo "part_in", .glo "written", .glo "put_in", .glo "_law_row", .glo "_law_folded", .glo "term_from", .glo "line_of", .glo "_law_rows"]
def fa1 : List He.Fa := [.glo "take_of", .glo "row_of", .glo "row_in", .glo "read", .glo "_law_copy", .glo "lines_of", .glo "shown", .glo "_law_alike", .glo "_law_apart", .glo "law", .glo "NoNumber", .glo "NoTerm", .glo "Block", .glo "NoDealing", .cls "Block", .noat "NoDealing" "row", .noat "Block" "term", .noat "Block" "turned", .noat "Block" "firsts", .noat "Block" "others", .exc "NoNumber", .exc "NoTerm", .free "isinstance", .free "int", .free "bool"]
def fa2 : List He.Fa := [.free "str", .free "len", .free "range", .free "max", .free "tuple", .free "sum", .free "enumerate", .free "list", .free "zip", .int "MOST" (1000000000000000000000000000000), .glo "DOERS", .glo "HEADS", .str "LETTERS" "abcdefghijklmnopqrstuvwxyz", .str "FIGURES" "0123456789", .int "MOST_BLOCKS" (5), .int "MOST_WORDS" (60), .int "MOST_ROWS" (40)]
def fa : List He.Fa := fa0 ++ fa1 ++ fa2
def tb : List (PySem.W.Frag → Bool) := [oexB "NoDealing", exmB CeF "NoNumber" "NoNumber", exmB CeF "NoTerm" "NoTerm", fun K => He.tupB K "DOERS" tab_DOERS, fun K => He.tupB K "HEADS" tab_HEADS]
abbrev R' : PySem.W.OpenRow := PySem.W.OpenLaw.row PySem.Challenge.rw_forerun_k12_shown_and_read_again
abbrev hk : PySem.W.Hook := hookT 5 fa fn tb
def ob (s : PySem.W.SharedT) : AlT := obsTG 5 fa fn tb (HandSHeadRun.getT s)
theorem ob_eq (s : PySem.W.SharedT) : ob s = hk.obs s.abs := obsTG_eq (HandSHeadRun.getT_eq s)
theorem run (w : World) : HandSHeadRun.RunEq R' (PySem.W.view R'.prog [49]) hk ob 20000 loose w := by
  intro os
  kernel_rfl
theorem facts {K : PySem.W.Frag} {h : Heap} {mg : Str → Option Value} (X : K.In h) (G : h.Ns mainGlobals mg) (c : obsT fa fn tb K = valT fn) : Nonempty (Tx K mg) := by
  obtain ⟨fd_NoDealing_init, F_NoDealing_init⟩ := (saysT c).def_ 0 (d := D_NoDealing_init) rfl
  obtain ⟨fd_is_worth, F_is_worth⟩ := (saysT c).def_ 1 (d := D_is_worth) rfl
  obtain ⟨fd_numeral, F_numeral⟩ := (saysT c).def_ 2 (d := D_numeral) rfl
  obtain ⟨fd_is_name, F_is_name⟩ := (saysT c).def_ 3 (d := D_is_name) rfl
  obtain ⟨fd_Block_init, F_Block_init⟩ := (saysT c).def_ 4 (d := D_Block_init) rfl
  obtain ⟨fd_Block_closed, F_Block_closed⟩ := (saysT c).def_ 5 (d := D_Block_closed) rfl
  obtain ⟨fd_Block_rows_now, F_Block_rows_now⟩ := (saysT c).def_ 6 (d := D_Block_rows_now) rfl
  obtain ⟨fd_law_cell_at, F_law_cell_at⟩ := (saysT c).def_ 7 (d := D_law_cell_at) rfl
  obtain ⟨fd_law_spread, F_law_spread⟩ := (saysT c).def_ 8 (d := D_law_spread) rfl
  obtain ⟨fd_law_letters, F_law_letters⟩ := (saysT c).def_ 9 (d := D_law_letters) rfl
  obtain ⟨fd_law_free, F_law_free⟩ := (saysT c).def_ 10 (d := D_law_free) rfl
  obtain ⟨fd_law_leaf, F_law_leaf⟩ := (saysT c).def_ 11 (d := D_law_leaf) rfl
  obtain ⟨fd_law_joined, F_law_joined⟩ := (saysT c).def_ 12 (d := D_law_joined) rfl
  obtain ⟨fd_worth_in, F_worth_in⟩ := (saysT c).def_ 13 (d := D_worth_in) rfl
  obtain ⟨fd_words_of, F_words_of⟩ := (saysT c).def_ 14 (d := D_words_of) rfl
  obtain ⟨fd_law_names, F_law_names⟩ := (saysT c).def_ 15 (d := D_law_names) rfl
  obtain ⟨fd_law_term, F_law_term⟩ := (saysT c).def_ 16 (d := D_law_term) rfl
  obtain ⟨fd_part_in, F_part_in⟩ := (saysT c).def_ 17 (d := D_part_in) rfl
  obtain ⟨fd_written, F_written⟩ := (saysT c).def_ 18 (d := D_written) rfl
  obtain ⟨fd_put_in, F_put_in⟩ := (saysT c).def_ 19 (d := D_put_in) rfl
  obtain ⟨fd_law_row, F_law_row⟩ := (saysT c).def_ 20 (d := D_law_row) rfl
  obtain ⟨fd_law_folded, F_law_folded⟩ := (saysT c).def_ 21 (d := D_law_folded) rfl
  obtain ⟨fd_term_from, F_term_from⟩ := (saysT c).def_ 22 (d := D_term_from) rfl
  obtain ⟨fd_line_of, F_line_of⟩ := (saysT c).def_ 23 (d := D_line_of) rfl
  obtain ⟨fd_law_rows, F_law_rows⟩ := (saysT c).def_ 24 (d := D_law_rows) rfl
  obtain ⟨fd_take_of, F_take_of⟩ := (saysT c).def_ 25 (d := D_take_of) rfl
  obtain ⟨fd_row_of, F_row_of⟩ := (saysT c).def_ 26 (d := D_row_of) rfl
  obtain ⟨fd_row_in, F_row_in⟩ := (saysT c).def_ 27 (d := D_row_in) rfl
  obtain ⟨fd_read, F_read⟩ := (saysT c).def_ 28 (d := D_read) rfl
  obtain ⟨fd_law_copy, F_law_copy⟩ := (saysT c).def_ 29 (d := D_law_copy) rfl
  obtain ⟨fd_lines_of, F_lines_of⟩ := (saysT c).def_ 30 (d := D_lines_of) rfl
  obtain ⟨fd_shown, F_shown⟩ := (saysT c).def_ 31 (d := D_shown) rfl
  obtain ⟨fd_law_alike, F_law_alike⟩ := (saysT c).def_ 32 (d := D_law_alike) rfl
  obtain ⟨fd_law_apart, F_law_apart⟩ := (saysT c).def_ 33 (d := D_law_apart) rfl
  obtain ⟨fd_law, F_law⟩ := (saysT c).def_ 34 (d := D_law) rfl
  exact ⟨⟨_, fd_NoDealing_init, F_NoDealing_init, He.meth_ok ((saysT c).fact 0 (f := .meth "NoDealing" "__init__") rfl),
    _, fd_is_worth, F_is_worth, He.glo_ok X G ((saysT c).fact 1 (f := .glo "is_worth") rfl),
    _, fd_numeral, F_numeral, He.glo_ok X G ((saysT c).fact 2 (f := .glo "numeral") rfl),
    _, fd_is_name, F_is_name, He.glo_ok X G ((saysT c).fact 3 (f := .glo "is_name") rfl),
    _, fd_Block_init, F_Block_init, He.mkr_ok ((saysT c).fact 4 (f := .mkr "Block") rfl),
    _, fd_Block_closed, F_Block_closed, He.meth_ok ((saysT c).fact 5 (f := .meth "Block" "closed") rfl),
    _, fd_Block_rows_now, F_Block_rows_now, He.meth_ok ((saysT c).fact 6 (f := .meth "Block" "rows_now") rfl),
    _, fd_law_cell_at, F_law_cell_at, He.glo_ok X G ((saysT c).fact 7 (f := .glo "_law_cell_at") rfl),
    _, fd_law_spread, F_law_spread, He.glo_ok X G ((saysT c).fact 8 (f := .glo "_law_spread") rfl),
    _, fd_law_letters, F_law_letters, He.glo_ok X G ((saysT c).fact 9 (f := .glo "_law_letters") rfl),
    _, fd_law_free, F_law_free, He.glo_ok X G ((saysT c).fact 10 (f := .glo "_law_free") rfl),
    _, fd_law_leaf, F_law_leaf, He.glo_ok X G ((saysT c).fact 11 (f := .glo "_law_leaf") rfl),
    _, fd_law_joined, F_law_joined, He.glo_ok X G ((saysT c).fact 12 (f := .glo "_law_joined") rfl),
    _, fd_worth_in, F_worth_in, He.glo_ok X G ((saysT c).fact 13 (f := .glo "worth_in") rfl),
    _, fd_words_of, F_words_of, He.glo_ok X G ((saysT c).fact 14 (f := .glo "words_of") rfl),
    _, fd_law_names, F_law_names, He.glo_ok X G ((saysT c).fact 15 (f := .glo "_law_names") rfl),
    _, fd_law_term, F_law_term, He.glo_ok X G ((saysT c).fact 16 (f := .glo "_law_term") rfl),
    _, fd_part_in, F_part_in, He.glo_ok X G ((saysT c).fact 17 (f := .glo "part_in") rfl),
    _, fd_written, F_written, He.glo_ok X G ((saysT c).fact 18 (f := .glo "written") rfl),
    _, fd_put_in, F_put_in, He.glo_ok X G ((saysT c).fact 19 (f := .glo "put_in") rfl),
    _, fd_law_row, F_law_row, He.glo_ok X G ((saysT c).fact 20 (f := .glo "_law_row") rfl),
    _, fd_law_folded, F_law_folded, He.glo_ok X G ((saysT c).fact 21 (f := .glo "_law_folded") rfl),
    _, fd_term_from, F_term_from, He.glo_ok X G ((saysT c).fact 22 (f := .glo "term_from") rfl),
    _, fd_line_of, F_line_of, He.glo_ok X G ((saysT c).fact 23 (f := .glo "line_of") rfl),
    _, fd_law_rows, F_law_rows, He.glo_ok X G ((saysT c).fact 24 (f := .glo "_law_rows") rfl),
    _, fd_take_of, F_take_of, He.glo_ok X G ((saysT c).fact 25 (f := .glo "take_of") rfl),
    _, fd_row_of, F_row_of, He.glo_ok X G ((saysT c).fact 26 (f := .glo "row_of") rfl),
    _, fd_row_in, F_row_in, He.glo_ok X G ((saysT c).fact 27 (f := .glo "row_in") rfl),
    _, fd_read, F_read, He.glo_ok X G ((saysT c).fact 28 (f := .glo "read") rfl),
    _, fd_law_copy, F_law_copy, He.glo_ok X G ((saysT c).fact 29 (f := .glo "_law_copy") rfl),
    _, fd_lines_of, F_lines_of, He.glo_ok X G ((saysT c).fact 30 (f := .glo "lines_of") rfl),
    _, fd_shown, F_shown, He.glo_ok X G ((saysT c).fact 31 (f := .glo "shown") rfl),
    _, fd_law_alike, F_law_alike, He.glo_ok X G ((saysT c).fact 32 (f := .glo "_law_alike") rfl),
    _, fd_law_apart, F_law_apart, He.glo_ok X G ((saysT c).fact 33 (f := .glo "_law_apart") rfl),
    _, fd_law, F_law, He.glo_ok X G ((saysT c).fact 34 (f := .glo "law") rfl),
    He.glo_ok X G ((saysT c).fact 35 (f := .glo "NoNumber") rfl),
    He.glo_ok X G ((saysT c).fact 36 (f := .glo "NoTerm") rfl),
    He.glo_ok X G ((saysT c).fact 37 (f := .glo "Block") rfl),
    He.glo_ok X G ((saysT c).fact 38 (f := .glo "NoDealing") rfl),
    He.cls_ok ((saysT c).fact 39 (f := .cls "Block") rfl),
    He.noat_ok ((saysT c).fact 40 (f := .noat "NoDealing" "row") rfl),
    He.noat_ok ((saysT c).fact 41 (f := .noat "Block" "term") rfl),
    He.noat_ok ((saysT c).fact 42 (f := .noat "Block" "turned") rfl),
    He.noat_ok ((saysT c).fact 43 (f := .noat "Block" "firsts") rfl),
    He.noat_ok ((saysT c).fact 44 (f := .noat "Block" "others") rfl),
    (He.exc_ok ((saysT c).fact 45 (f := .exc "NoNumber") rfl)).1, (He.exc_ok ((saysT c).fact 45 (f := .exc "NoNumber") rfl)).2.1, (He.exc_ok ((saysT c).fact 45 (f := .exc "NoNumber") rfl)).2.2.1, (He.exc_ok ((saysT c).fact 45 (f := .exc "NoNumber") rfl)).2.2.2,
    (He.exc_ok ((saysT c).fact 46 (f := .exc "NoTerm") rfl)).1, (He.exc_ok ((saysT c).fact 46 (f := .exc "NoTerm") rfl)).2.1, (He.exc_ok ((saysT c).fact 46 (f := .exc "NoTerm") rfl)).2.2.1, (He.exc_ok ((saysT c).fact 46 (f := .exc "NoTerm") rfl)).2.2.2,
    oexB_ok (tabT c 0 (q := oexB "NoDealing") rfl),
    exmB_ok (tabT c 1 (q := exmB CeF "NoNumber" "NoNumber") rfl),
    exmB_ok (tabT c 2 (q := exmB CeF "NoTerm" "NoTerm") rfl),
    He.free_ok X G ((saysT c).fact 47 (f := .free "isinstance") rfl),
    He.free_ok X G ((saysT c).fact 48 (f := .free "int") rfl),
    He.free_ok X G ((saysT c).fact 49 (f := .free "bool") rfl),
    He.free_ok X G ((saysT c).fact 50 (f := .free "str") rfl),
    He.free_ok X G ((saysT c).fact 51 (f := .free "len") rfl),
    He.free_ok X G ((saysT c).fact 52 (f := .free "range") rfl),
    He.free_ok X G ((saysT c).fact 53 (f := .free "max") rfl),
    He.free_ok X G ((saysT c).fact 54 (f := .free "tuple") rfl),
    He.free_ok X G ((saysT c).fact 55 (f := .free "sum") rfl),
    He.free_ok X G ((saysT c).fact 56 (f := .free "enumerate") rfl),
    He.free_ok X G ((saysT c).fact 57 (f := .free "list") rfl),
    He.free_ok X G ((saysT c).fact 58 (f := .free "zip") rfl),
    (He.int_ok X G ((saysT c).fact 59 (f := .int "MOST" (1000000000000000000000000000000)) rfl)).elim fun t h => ⟨_, h, t, rfl⟩,
    _, ⟨_, He.glo_ok X G ((saysT c).fact 60 (f := .glo "DOERS") rfl), rfl⟩, fun H => He.tupB_ok (vs := tab_DOERS) (tabT c 3 (q := fun K => He.tupB K "DOERS" tab_DOERS) rfl) H, fun B => rpa_lits ks_DOERS rfl rfl,
    _, ⟨_, He.glo_ok X G ((saysT c).fact 61 (f := .glo "HEADS") rfl), rfl⟩, fun H => He.tupB_ok (vs := tab_HEADS) (tabT c 4 (q := fun K => He.tupB K "HEADS" tab_HEADS) rfl) H, fun B => rpa_lits ks_HEADS rfl rfl,
    (He.str_ok X G ((saysT c).fact 62 (f := .str "LETTERS" "abcdefghijklmnopqrstuvwxyz") rfl)).elim fun t h => ⟨_, h, t, rfl⟩,
    (He.str_ok X G ((saysT c).fact 63 (f := .str "FIGURES" "0123456789") rfl)).elim fun t h => ⟨_, h, t, rfl⟩,
    (He.int_ok X G ((saysT c).fact 64 (f := .int "MOST_BLOCKS" (5)) rfl)).elim fun t h => ⟨_, h, t, rfl⟩,
    (He.int_ok X G ((saysT c).fact 65 (f := .int "MOST_WORDS" (60)) rfl)).elim fun t h => ⟨_, h, t, rfl⟩,
    (He.int_ok X G ((saysT c).fact 66 (f := .int "MOST_ROWS" (40)) rfl)).elim fun t h => ⟨_, h, t, rfl⟩⟩⟩
end Wa
open PySem PySem.W PySem.Calls PyProof.Rows
theorem PySem.Challenge.cw_forerun_k12_shown_and_read_again_holds : PySem.Challenge.rw_forerun_k12_shown_and_read_again.Holds := by
  w_on; o_law
  refine HandSHeadRun.head_any (r := OpenLaw.row PySem.Challenge.rw_forerun_k12_shown_and_read_again) (q := view (OpenLaw.row PySem.Challenge.rw_forerun_k12_shown_and_read_again).prog [49]) (H := Wa.hk) (ob := Wa.ob) (M := 20000) (loose := Wa.loose) (d := HandSHeadRun.topDef (OpenLaw.row PySem.Challenge.rw_forerun_k12_shown_and_read_again).prog 49) (kwd := []) Wa.ob_eq
    (by kernel_rfl) (fun s => by kernel_rfl) Wa.run (by kernel_rfl) (by kernel_rfl) (by kernel_rfl) (by rfl) (by first | assumption | decide +kernel) (by decide +kernel) ⟨rfl, rfl, rfl, rfl, rfl, by decide +kernel⟩ ?hw ?hc
  case hw => w_witness2
  case hc =>
    refine L2.walk_ofEB (l := PySem.Challenge.rw_forerun_k12_shown_and_read_again) (n := 63) (k := 19) (x := "script") (CX := L2.CX0) rfl (by decide) (by kernel_rfl) ⟨rfl, by decide, by decide⟩ ?F (fun _ _ _ _ z => z)
    intro w mg fa h Y G hmg0
    obtain ⟨K, KX, c⟩ := Y
    have hmg : mg ("law" : PySem.Str) = some (.ref fa) := by
      have e : (HandSHeadRun.topDef (OpenLaw.row PySem.Challenge.rw_forerun_k12_shown_and_read_again).prog 49).name = ("law" : PySem.Str) := by kernel_rfl
      rw [← e]
      exact hmg0
    obtain ⟨tx⟩ := Wa.facts KX G c
    have ef : tx.f_law = fa := by
      have := tx.g_law.symm.trans hmg
      cases this
      rfl
    subst ef
    exact ⟨K, tx.d_law, Wa.sp_law K tx.Ce, KX, fun s v => tx.F_law.bindsA (ps := ["script"]) (fun _ _ _ _ _ _ us hl => match us, hl with | [_], _ => rfl) s [v] rfl, fun H a ns hl hb _ hS => Sm.law_end (Mi.law_ok ns hl hb) hS, fun base _ _ => Wa.ok_law tx⟩
