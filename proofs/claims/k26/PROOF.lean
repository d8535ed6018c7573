import PyProof.Rows.All
import Wide.All
import OpenK.AllK
import Wide.FinOn
import KE.KStateDown
import HandS.ForMost
import HandS.ForExc
import HandS.IsInst
import HandS.Wide
import HandS.StrMore
import HandS.Codes
import HandS.TupLe
import HandS.TryOnly
import HandS.TryMany
import HandS.ExcIs
import HandS.ExcInit
import HandS.Defaults
import HandS.WordsExc
import HandS.Head0
import HandS.Head1
import HandS.Head2
import HandS.HeadEnd
import HandS.HeadHook1
import HandS.HeadHook2
import PyProof.StrOps2
import HandS.TupAny
import HandS.DictComp
import HandS.SuiteRaise
import HandS.Zip
import HandS.Rev
import HandS.Conv
import HandS.Walk
import KE.SortData
import HandS.EndBits
import KE.DataCmp
import HandS.Comp
import HandS.Exc
import HandS.ExcOwn
import HandS.TupLen
import HandS.Dict
import HandS.DictTup
import KE.KItemsList
import HandS.Deep
import HandS.Style
import HandS.DictEq
import KE.KRevSl
import KE.KDictWalk
import HandS.SetKeys
import HandS.CallSlots
import HandS.SortKw
import HandS.ExcField
import PyProof.NeKinds
import PySem.Challenge.RW_forerun_k26_asked_once
set_option Elab.async false
set_option linter.all false
set_option maxRecDepth 100000
set_option maxHeartbeats 4000000
namespace Sm
open PySem L2
inductive Exn where
  | noNumber | noTerm | noDealing (row : Int) | nought | great | folded | noHand | noOrder | noLine | noLog
inductive R (α : Type) where
  | ok (a : α) | err (e : Exn) | bad
def R.bind {α β : Type} : R α → (α → R β) → R β
  | .ok a, f => f a
  | .err e, _ => .err e
  | .bad, _ => .bad
def emp : Hp := fun _ => none
def jn (A B : Hp) : Hp := fun a => match A a with
  | some o => some o
  | none => B a
def Dj (A B : Hp) : Prop := ∀ a, A a = none ∨ B a = none
section
variable {A B C : Hp} {a : Addr} {o : HO}
theorem jn_some (h : A a = some o) : jn A B a = some o := by unfold jn; rw [h]
theorem jn_none (h : A a = none) : jn A B a = B a := by unfold jn; rw [h]
theorem jn_none_iff : jn A B a = none ↔ A a = none ∧ B a = none := by
  unfold jn
  cases e : A a with
  | some x => simp
  | none => simp
theorem jn_emp : jn A emp = A := by
  funext a
  unfold jn
  cases e : A a <;> rfl
theorem emp_jn : jn emp A = A := by funext a; rfl
theorem Dj.symm (h : Dj A B) : Dj B A := fun a => (h a).symm
theorem dj_emp : Dj A emp := fun _ => .inr rfl
theorem emp_dj : Dj emp A := fun _ => .inl rfl
theorem jn_comm (d : Dj A B) : jn A B = jn B A := by
  funext a
  cases e : A a with
  | some x =>
    have hb : B a = none := by
      rcases d a with h | h
      · rw [h] at e; cases e
      · exact h
    rw [jn_some e, jn_none hb, e]
  | none =>
    rw [jn_none e]
    cases f : B a with
    | some y => rw [jn_some f]
    | none => rw [jn_none f, e]
theorem jn_assoc : jn (jn A B) C = jn A (jn B C) := by
  funext a
  cases e : A a with
  | some x => rw [jn_some e, jn_some (jn_some e)]
  | none =>
    rw [jn_none e]
    cases f : B a with
    | some y => rw [jn_some f, jn_some ((jn_none e).trans f)]
    | none => rw [jn_none f, jn_none ((jn_none e).trans f)]
theorem Dj.jnl (h1 : Dj A C) (h2 : Dj B C) : Dj (jn A B) C := fun a => by
  rcases h1 a with x | x
  · rcases h2 a with y | y
    · exact .inl (jn_none_iff.mpr ⟨x, y⟩)
    · exact .inr y
  · exact .inr x
theorem Dj.jnr (h1 : Dj A B) (h2 : Dj A C) : Dj A (jn B C) := (Dj.jnl h1.symm h2.symm).symm
theorem Dj.l (h : Dj (jn A B) C) : Dj A C := fun a => (h a).imp_left fun x => (jn_none_iff.mp x).1
theorem Dj.r (h : Dj (jn A B) C) : Dj B C := fun a => (h a).imp_left fun x => (jn_none_iff.mp x).2
theorem Dj.rl (h : Dj A (jn B C)) : Dj A B := (Dj.l h.symm).symm
theorem Dj.rr (h : Dj A (jn B C)) : Dj A C := (Dj.r h.symm).symm
theorem same_jnl : Same A (jn A B) := fun _ _ h => jn_some h
theorem same_jnr (d : Dj A B) : Same B (jn A B) := fun a o h => by
  rcases d a with x | x
  · rw [jn_none x]; exact h
  · rw [x] at h; cases h
theorem same_jn {H : Hp} (h1 : Same A H) (h2 : Same B H) : Same (jn A B) H := fun a o h => by
  cases e : A a with
  | some x => rw [jn_some e] at h; rw [← h]; exact h1 a x e
  | none => rw [jn_none e] at h; exact h2 a o h
theorem jn_swap (d : Dj A B) : jn A (jn B C) = jn B (jn A C) := by rw [← jn_assoc, jn_comm d, jn_assoc]
theorem same_upd (h : A a = none) : Same A (upd A a o) := fun b u e => by rw [upd_ne (ne_of_none e h)]; exact e
theorem upd_jn : upd (jn A B) a o = jn (upd A a o) B := by
  funext b
  by_cases h : b = a
  · subst h; rw [upd_same, jn_some upd_same]
  · rw [upd_ne h]
    unfold jn
    rw [upd_ne h]
theorem Dj.upd (h : Dj A B) (n : B a = none) : Dj (upd A a o) B := fun b => by
  by_cases e : b = a
  · subst e; exact .inr n
  · rw [upd_ne e]; exact h b
theorem none_of_same {H : Hp} (s : Same A H) (h : H a = none) : A a = none := Same.free s h
end
theorem rd_mono {B B' : Hp} {a : Addr} {u : HO} (e : Same B B') (h : Rd B a u) : Rd B' a u := by
  rcases h with h | ⟨o, h⟩
  · exact .inl (e _ _ h)
  · exact .inr ⟨o, e _ _ h⟩
theorem sqt_mono {K : PySem.W.Frag} {B B' : Hp} {a : Addr} {xs : List V} (e : Same B B') (h : SqT K B a xs) : SqT K B' a xs := h.imp_left (rd_mono e)
theorem sql_mono {K : PySem.W.Frag} {B B' : Hp} {a : Addr} {xs : List V} (e : Same B B') (h : SqL K B a xs) : SqL K B' a xs := h.imp_left (rd_mono e)
inductive Dt where
  | non | bl (b : Bool) | int (i : Int) | str (x : Str) | lst (xs : List Dt) | tup (xs : List Dt)
  /-- the script: a list that is read only -/
  | scr (ns : List Int)
  /-- dicts that are read only: keys, what stands there -/
  | dk (ks : List Key) (xs : List Dt) | dt (ks : List (List Key)) (xs : List Dt)
  /-- a dict with tuple keys that is only looked at -/
  | du (ks : List (List Key)) (xs : List Dt)
  /-- a dict with one-part keys that is held fast -/
  | df (ks : List Key) (xs : List Dt)
  /-- an instance that is only looked at -/
  | ob (C : Addr) (fs : List Str) (xs : List Dt)
  /-- a tuple of numbers and texts that was made by the program (a key of dicts) -/
  | kt (ks : List Key)
  /-- no datum: what stands at an address -/
  | pin (a : Addr) (u : HO)
  /-- a reference, whatever stands there -/
  | wild
def kPy : Key → PyData
  | .inl i => .int i
  | .inr x => .str x
def kDt : Key → Dt
  | .inl i => .int i
  | .inr x => .str x
mutual
def Dt.py : Dt → PyData
  | .non => .none
  | .bl b => .bool b
  | .int i => .int i
  | .str x => .str x
  | .lst xs => .list (Dt.pys xs)
  | .tup xs => .tuple (Dt.pys xs)
  | .scr ns => .list (ns.map .int)
  | .dk _ _ => .none
  | .dt _ _ => .none
  | .du _ _ => .none
  | .df _ _ => .none
  | .ob _ _ _ => .none
  | .kt ks => .tuple (ks.map kPy)
  | .pin _ _ => .bool true
  | .wild => .none
def Dt.pys : List Dt → List PyData
  | [] => []
  | d :: ds => d.py :: Dt.pys ds
end
mutual
def Dt.pl : Dt → Bool
  | .lst xs => Dt.pls xs
  | .tup xs => Dt.pls xs
  | .dk _ _ => false
  | .dt _ _ => false
  | .du _ _ => false
  | .df _ _ => false
  | .ob _ _ _ => false
  | .kt _ => true
  | .pin _ _ => true
  | .wild => false
  | .non => true
  | .bl _ => true
  | .int _ => true
  | .str _ => true
  | .scr _ => true
def Dt.pls : List Dt → Bool
  | [] => true
  | d :: ds => d.pl && Dt.pls ds
end
theorem pys_map : ∀ ds : List Dt, Dt.pys ds = ds.map Dt.py
  | [] => rfl
  | d :: ds => by unfold Dt.pys; rw [pys_map ds]; rfl
mutual
def Rp (K : PySem.W.Frag) (B : Hp) : Dt → V → Prop
  | .non, v => v = .non
  | .bl b, v => v = .bl b
  | .int i, v => v = .int i
  | .str x, v => v = .str x
  | .lst ds, v => ∃ a xs, v = .ref a ∧ B a = some (.lst xs) ∧ RpA K B ds xs
  | .tup ds, v => ∃ a xs, v = .ref a ∧ SqT K B a xs ∧ RpA K B ds xs
  | .scr ns, v => ∃ a, v = .ref a ∧ SqL K B a (ns.map V.int)
  | .dk ks ds, v => ∃ a vs, v = .ref a ∧ B a = some (.dK (ks.zip vs)) ∧ ks.length = ds.length ∧ RpA K B ds vs
  | .dt ks ds, v => ∃ a o vs, v = .ref a ∧ B a = some (.frz o (.dT (ks.zip vs))) ∧ ks.length = ds.length ∧ RpA K B ds vs
  | .du ks ds, v => ∃ a vs, v = .ref a ∧ B a = some (.dT (ks.zip vs)) ∧ ks.length = ds.length ∧ RpA K B ds vs
  | .df ks ds, v => ∃ a o vs, v = .ref a ∧ B a = some (.frz o (.dK (ks.zip vs))) ∧ ks.length = ds.length ∧ RpA K B ds vs
  | .ob C fs ds, v => ∃ a dx vs, v = .ref a ∧ B a = some (.ins C dx (fs.zip vs)) ∧ fs.length = ds.length ∧ RpA K B ds vs
  | .kt ks, v => ∃ a, v = .ref a ∧ B a = some (.tup (ks.map kV))
  | .pin a u, v => v = .bl true ∧ B a = some u
  | .wild, v => ∃ a, v = .ref a
def RpA (K : PySem.W.Frag) (B : Hp) : List Dt → List V → Prop
  | [], vs => vs = []
  | d :: ds, vs => ∃ v r, vs = v :: r ∧ Rp K B d v ∧ RpA K B ds r
end
section
variable {K : PySem.W.Frag} {B B' : Hp}
mutual
theorem Rp.mono (e : Same B B') : ∀ {d : Dt} {v : V}, Rp K B d v → Rp K B' d v
  | .non, _, h => h
  | .bl _, _, h => h
  | .int _, _, h => h
  | .str _, _, h => h
  | .lst ds, v, h => by
    unfold Rp at h ⊢
    obtain ⟨a, xs, e1, e2, r⟩ := h
    exact ⟨a, xs, e1, e _ _ e2, RpA.mono e r⟩
  | .tup ds, v, h => by
    unfold Rp at h ⊢
    obtain ⟨a, xs, e1, e2, r⟩ := h
    exact ⟨a, xs, e1, sqt_mono e e2, RpA.mono e r⟩
  | .scr ns, v, h => by
    unfold Rp at h ⊢
    obtain ⟨a, e1, e2⟩ := h
    exact ⟨a, e1, sql_mono e e2⟩
  | .dk ks ds, v, h => by
    unfold Rp at h ⊢
    obtain ⟨a, xs, e1, e2, n, r⟩ := h
    exact ⟨a, xs, e1, e _ _ e2, n, RpA.mono e r⟩
  | .dt ks ds, v, h => by
    unfold Rp at h ⊢
    obtain ⟨a, o, xs, e1, e2, n, r⟩ := h
    exact ⟨a, o, xs, e1, e _ _ e2, n, RpA.mono e r⟩
  | .du ks ds, v, h => by
    unfold Rp at h ⊢
    obtain ⟨a, xs, e1, e2, n, r⟩ := h
    exact ⟨a, xs, e1, e _ _ e2, n, RpA.mono e r⟩
  | .df ks ds, v, h => by
    unfold Rp at h ⊢
    obtain ⟨a, o, xs, e1, e2, n, r⟩ := h
    exact ⟨a, o, xs, e1, e _ _ e2, n, RpA.mono e r⟩
  | .ob C fs ds, v, h => by
    unfold Rp at h ⊢
    obtain ⟨a, o, xs, e1, e2, n, r⟩ := h
    exact ⟨a, o, xs, e1, e _ _ e2, n, RpA.mono e r⟩
  | .kt ks, v, h => by
    unfold Rp at h ⊢
    obtain ⟨a, e1, e2⟩ := h
    exact ⟨a, e1, e _ _ e2⟩
  | .pin a u, v, h => by
    unfold Rp at h ⊢
    exact ⟨h.1, e _ _ h.2⟩
  | .wild, v, h => by
    unfold Rp at h ⊢
    exact h
theorem RpA.mono (e : Same B B') : ∀ {ds : List Dt} {vs : List V}, RpA K B ds vs → RpA K B' ds vs
  | [], _, h => h
  | d :: ds, vs, h => by
    unfold RpA at h ⊢
    obtain ⟨v, r, e1, h1, h2⟩ := h
    exact ⟨v, r, e1, Rp.mono e h1, RpA.mono e h2⟩
end
theorem RpA.length : ∀ {ds : List Dt} {vs : List V}, RpA K B ds vs → vs.length = ds.length
  | [], _, h => by unfold RpA at h; subst h; rfl
  | d :: ds, vs, h => by
    unfold RpA at h
    obtain ⟨v, r, rfl, _, h2⟩ := h
    simp [RpA.length h2]
theorem RpA.get : ∀ {ds : List Dt} {vs : List V} {i : Nat} {d : Dt}, RpA K B ds vs → ds[i]? = some d → ∃ v, vs[i]? = some v ∧ Rp K B d v
  | [], _, _, _, _, e => by simp at e
  | d0 :: ds, vs, i, d, h, e => by
    unfold RpA at h
    obtain ⟨v, r, rfl, h1, h2⟩ := h
    cases i with
    | zero => simp at e; subst e; exact ⟨v, rfl, h1⟩
    | succ i => simp at e; simpa using RpA.get h2 e
theorem rpa_nil : RpA K B [] [] := by unfold RpA; rfl
theorem rpa_cons {d : Dt} {v : V} {ds : List Dt} {vs : List V} (h : Rp K B d v) (k : RpA K B ds vs) : RpA K B (d :: ds) (v :: vs) := by
  unfold RpA
  exact ⟨v, vs, rfl, h, k⟩
theorem RpA.append : ∀ {ds es : List Dt} {vs us : List V}, RpA K B ds vs → RpA K B es us → RpA K B (ds ++ es) (vs ++ us)
  | [], es, vs, us, h, k => by unfold RpA at h; subst h; exact k
  | d :: ds, es, vs, us, h, k => by
    unfold RpA at h
    obtain ⟨v, r, rfl, h1, h2⟩ := h
    exact rpa_cons h1 (RpA.append h2 k)
theorem RpA.one {d : Dt} {v : V} (h : Rp K B d v) : RpA K B [d] [v] := rpa_cons h rpa_nil
theorem RpA.drop : ∀ {ds : List Dt} {vs : List V} (n : Nat), RpA K B ds vs → RpA K B (ds.drop n) (vs.drop n)
  | _, _, 0, h => h
  | [], vs, n + 1, h => by unfold RpA at h; subst h; exact rpa_nil
  | d :: ds, vs, n + 1, h => by
    unfold RpA at h
    obtain ⟨v, r, rfl, _, h2⟩ := h
    exact RpA.drop n h2
theorem RpA.take : ∀ {ds : List Dt} {vs : List V} (n : Nat), RpA K B ds vs → RpA K B (ds.take n) (vs.take n)
  | _, _, 0, h => by simpa using rpa_nil
  | [], vs, n + 1, h => by unfold RpA at h; subst h; exact rpa_nil
  | d :: ds, vs, n + 1, h => by
    unfold RpA at h
    obtain ⟨v, r, rfl, h1, h2⟩ := h
    exact rpa_cons h1 (RpA.take n h2)
theorem RpA.reverse : ∀ {ds : List Dt} {vs : List V}, RpA K B ds vs → RpA K B ds.reverse vs.reverse
  | [], vs, h => by unfold RpA at h; subst h; exact rpa_nil
  | d :: ds, vs, h => by
    unfold RpA at h
    obtain ⟨v, r, rfl, h1, h2⟩ := h
    rw [List.reverse_cons, List.reverse_cons]
    exact RpA.append (RpA.reverse h2) (RpA.one h1)
theorem RpA.set : ∀ {ds : List Dt} {vs : List V} {d : Dt} {v : V} (n : Nat), RpA K B ds vs → Rp K B d v → RpA K B (ds.set n d) (vs.set n v)
  | [], vs, _, _, n, h, _ => by unfold RpA at h; subst h; exact rpa_nil
  | d :: ds, vs, _, _, 0, h, k => by
    unfold RpA at h
    obtain ⟨v, r, rfl, h1, h2⟩ := h
    exact rpa_cons k h2
  | d :: ds, vs, _, _, n + 1, h, k => by
    unfold RpA at h
    obtain ⟨v, r, rfl, h1, h2⟩ := h
    exact rpa_cons h1 (RpA.set n h2 k)
theorem RpA.dropLast : ∀ {ds : List Dt} {vs : List V}, RpA K B ds vs → RpA K B ds.dropLast vs.dropLast := fun {ds vs} h => by
  rw [List.dropLast_eq_take, List.dropLast_eq_take, RpA.length h]
  exact RpA.take _ h
theorem rpa_ints : ∀ {ns : List Int} {vs : List V}, RpA K B (ns.map Dt.int) vs → vs = ns.map V.int
  | [], vs, h => by unfold RpA at h; exact h
  | n :: ns, vs, h => by
    rw [List.map_cons] at h
    unfold RpA at h
    obtain ⟨v, r, rfl, h1, h2⟩ := h
    unfold Rp at h1
    subst h1
    rw [rpa_ints h2]
    rfl
theorem rpa_of_ints : ∀ {ns : List Int}, RpA K B (ns.map Dt.int) (ns.map V.int)
  | [] => rpa_nil
  | n :: ns => rpa_cons (by unfold Rp; rfl) rpa_of_ints
theorem rpa_strs : ∀ {ns : List Str} {vs : List V}, RpA K B (ns.map Dt.str) vs → vs = ns.map V.str
  | [], vs, h => by unfold RpA at h; exact h
  | n :: ns, vs, h => by
    rw [List.map_cons] at h
    unfold RpA at h
    obtain ⟨v, r, rfl, h1, h2⟩ := h
    unfold Rp at h1
    subst h1
    rw [rpa_strs h2]
    rfl
theorem rpa_of_strs : ∀ {ns : List Str}, RpA K B (ns.map Dt.str) (ns.map V.str)
  | [] => rpa_nil
  | n :: ns => rpa_cons (by unfold Rp; rfl) rpa_of_strs
theorem dpa_ints : ∀ ns : List Int, DpAll K B (ns.map V.int) (ns.map PyData.int)
  | [] => .nil
  | n :: ns => .cons (.int n) (dpa_ints ns)
theorem dpa_keys : ∀ ks : List Key, DpAll K B (ks.map kV) (ks.map kPy)
  | [] => .nil
  | .inl i :: ks => .cons (.int i) (dpa_keys ks)
  | .inr x :: ks => .cons (.str x) (dpa_keys ks)
mutual
theorem Rp.dp : ∀ {d : Dt} {v : V}, Rp K B d v → d.pl = true → Dp K B v d.py
  | .non, _, h, _ => by unfold Rp at h; subst h; exact .non
  | .bl _, _, h, _ => by unfold Rp at h; subst h; exact .bl _
  | .int _, _, h, _ => by unfold Rp at h; subst h; exact .int _
  | .str _, _, h, _ => by unfold Rp at h; subst h; exact .str _
  | .lst ds, v, h, p => by
    unfold Rp at h
    obtain ⟨a, xs, rfl, e2, r⟩ := h
    unfold Dt.py
    unfold Dt.pl at p
    exact .lst (SqL.of e2) (RpA.dp r p)
  | .tup ds, v, h, p => by
    unfold Rp at h
    obtain ⟨a, xs, rfl, e2, r⟩ := h
    unfold Dt.py
    unfold Dt.pl at p
    exact .tup e2 (RpA.dp r p)
  | .scr ns, v, h, _ => by
    unfold Rp at h
    obtain ⟨a, rfl, e2⟩ := h
    unfold Dt.py
    exact .lst e2 (dpa_ints ns)
  | .dk _ _, _, _, p => by unfold Dt.pl at p; cases p
  | .dt _ _, _, _, p => by unfold Dt.pl at p; cases p
  | .du _ _, _, _, p => by unfold Dt.pl at p; cases p
  | .df _ _, _, _, p => by unfold Dt.pl at p; cases p
  | .ob _ _ _, _, _, p => by unfold Dt.pl at p; cases p
  | .wild, _, _, p => by unfold Dt.pl at p; cases p
  | .kt ks, v, h, _ => by
    unfold Rp at h
    obtain ⟨a, rfl, e2⟩ := h
    unfold Dt.py
    exact .tup (SqT.of e2) (dpa_keys ks)
  | .pin a u, v, h, _ => by
    unfold Rp at h
    rw [h.1]
    exact .bl true
theorem RpA.dp : ∀ {ds : List Dt} {vs : List V}, RpA K B ds vs → Dt.pls ds = true → DpAll K B vs (Dt.pys ds)
  | [], _, h, _ => by unfold RpA at h; subst h; exact .nil
  | d :: ds, vs, h, p => by
    unfold RpA at h
    obtain ⟨v, r, rfl, h1, h2⟩ := h
    unfold Dt.pls at p
    obtain ⟨p1, p2⟩ := Bool.and_eq_true_iff.mp p
    unfold Dt.pys
    exact .cons (Rp.dp h1 p1) (RpA.dp h2 p2)
end
theorem rpa_keys : ∀ ks : List Key, RpA K B (ks.map kDt) (ks.map kV)
  | [] => rpa_nil
  | .inl i :: ks => rpa_cons (by unfold kDt; unfold Rp; rfl) (rpa_keys ks)
  | .inr x :: ks => rpa_cons (by unfold kDt; unfold Rp; rfl) (rpa_keys ks)
theorem Rp.kt {ks : List Key} {v : V} (h : Rp K B (.kt ks) v) : Rp K B (.tup (ks.map kDt)) v := by
  unfold Rp at h ⊢
  obtain ⟨a, e, h⟩ := h
  exact ⟨a, _, e, SqT.of h, rpa_keys ks⟩
end
inductive Own where
  | dat (d : Dt)
  | hole (v : V)
  /-- any value; nothing owned -/
  | any
  /-- any value; beside it: the values vs stand for ds -/
  | rv (vs : List V) (ds : List Dt)
  | lst (xs : List Own)
  | tup (xs : List Own)
  | dK (ks : List Key) (xs : List Own)
  | dT (ks : List (List Key)) (xs : List Own)
  | ins (C : Addr) (fs : List Str) (xs : List Own)
  /-- an instance that is only looked at: its attributes are data -/
  | bo (C : Addr) (fs : List Str) (ds : List Dt)
  /-- a dict of one's own that is held fast just now -/
  | lk (od : Obj) (ks : List Key) (us : List V) (ds : List Dt)
  /-- the same, tuple keys -/
  | lkT (od : Obj) (ks : List (List Key)) (us : List V) (ds : List Dt)
  /-- t, the value being u -/
  | at_ (u : V) (t : Own)
mutual
def Ow (K : PySem.W.Frag) (B : Hp) : Own → Hp → V → Prop
  | .dat d, O, v => Rp K B d v ∧ O = emp
  | .hole w, O, v => v = w ∧ O = emp
  | .any, O, _ => O = emp
  | .rv vs ds, O, v => RpA K B ds vs ∧ O = emp
  | .lst xs, O, v => ∃ l vs O1, v = .ref l ∧ OwA K B xs O1 vs ∧ O1 l = none ∧ O = upd O1 l (.lst vs)
  | .tup xs, O, v => ∃ l vs, v = .ref l ∧ SqT K B l vs ∧ OwA K B xs O vs
  | .dK ks xs, O, v => ∃ l vs O1, v = .ref l ∧ OwA K B xs O1 vs ∧ O1 l = none ∧ ks.length = xs.length ∧ O = upd O1 l (.dK (ks.zip vs))
  | .dT ks xs, O, v => ∃ l vs O1, v = .ref l ∧ OwA K B xs O1 vs ∧ O1 l = none ∧ ks.length = xs.length ∧ O = upd O1 l (.dT (ks.zip vs))
  | .ins C fs xs, O, v => ∃ p dx vs O1, v = .ref p ∧ OwA K B xs O1 vs ∧ O1 p = none ∧ O1 dx = none ∧ dx ≠ p ∧ fs.length = xs.length ∧ O = upd (upd O1 dx (.own p)) p (.ins C dx (fs.zip vs))
  | .bo C fs ds, O, v => ∃ p dx vs, v = .ref p ∧ B p = some (.ins C dx (fs.zip vs)) ∧ fs.length = ds.length ∧ RpA K B ds vs ∧ O = emp
  | .lk od ks us ds, O, v => ∃ l, v = .ref l ∧ RpA K B ds us ∧ ks.length = ds.length ∧ O = upd emp l (.frz od (.dK (ks.zip us)))
  | .lkT od ks us ds, O, v => ∃ l, v = .ref l ∧ RpA K B ds us ∧ ks.length = ds.length ∧ O = upd emp l (.frz od (.dT (ks.zip us)))
  | .at_ u t, O, v => v = u ∧ Ow K B t O v
def OwA (K : PySem.W.Frag) (B : Hp) : List Own → Hp → List V → Prop
  | [], O, vs => vs = [] ∧ O = emp
  | t :: ts, O, vs => ∃ v r O1 O2, vs = v :: r ∧ Ow K B t O1 v ∧ OwA K B ts O2 r ∧ Dj O1 O2 ∧ O = jn O1 O2
end
section
variable {K : PySem.W.Frag} {B B' : Hp}
mutual
theorem Ow.mono (e : Same B B') : ∀ {t : Own} {O : Hp} {v : V}, Ow K B t O v → Ow K B' t O v
  | .dat d, O, v, h => by unfold Ow at h ⊢; exact ⟨Rp.mono e h.1, h.2⟩
  | .hole w, O, v, h => by unfold Ow at h ⊢; exact h
  | .any, O, v, h => by unfold Ow at h ⊢; exact h
  | .rv vs ds, O, v, h => by unfold Ow at h ⊢; exact ⟨RpA.mono e h.1, h.2⟩
  | .lst xs, O, v, h => by
    unfold Ow at h ⊢
    obtain ⟨l, vs, O1, a, b, c⟩ := h
    exact ⟨l, vs, O1, a, OwA.mono e b, c⟩
  | .tup xs, O, v, h => by
    unfold Ow at h ⊢
    obtain ⟨l, vs, a, b, c⟩ := h
    exact ⟨l, vs, a, sqt_mono e b, OwA.mono e c⟩
  | .dK ks xs, O, v, h => by
    unfold Ow at h ⊢
    obtain ⟨l, vs, O1, a, b, c⟩ := h
    exact ⟨l, vs, O1, a, OwA.mono e b, c⟩
  | .dT ks xs, O, v, h => by
    unfold Ow at h ⊢
    obtain ⟨l, vs, O1, a, b, c⟩ := h
    exact ⟨l, vs, O1, a, OwA.mono e b, c⟩
  | .ins C fs xs, O, v, h => by
    unfold Ow at h ⊢
    obtain ⟨p, dx, vs, O1, a, b, c⟩ := h
    exact ⟨p, dx, vs, O1, a, OwA.mono e b, c⟩
  | .bo C fs ds, O, v, h => by
    unfold Ow at h ⊢
    obtain ⟨p, dx, vs, a, b, c, d, f⟩ := h
    exact ⟨p, dx, vs, a, e _ _ b, c, RpA.mono e d, f⟩
  | .lk od ks us ds, O, v, h => by
    unfold Ow at h ⊢
    obtain ⟨l, a, b, c⟩ := h
    exact ⟨l, a, RpA.mono e b, c⟩
  | .lkT od ks us ds, O, v, h => by
    unfold Ow at h ⊢
    obtain ⟨l, a, b, c⟩ := h
    exact ⟨l, a, RpA.mono e b, c⟩
  | .at_ u t, O, v, h => by
    unfold Ow at h ⊢
    exact ⟨h.1, Ow.mono e h.2⟩
theorem OwA.mono (e : Same B B') : ∀ {ts : List Own} {O : Hp} {vs : List V}, OwA K B ts O vs → OwA K B' ts O vs
  | [], _, _, h => by unfold OwA at h ⊢; exact h
  | t :: ts, O, vs, h => by
    unfold OwA at h ⊢
    obtain ⟨v, r, O1, O2, a, b, c, d⟩ := h
    exact ⟨v, r, O1, O2, a, Ow.mono e b, OwA.mono e c, d⟩
end
theorem ow_dat {d : Dt} {v : V} (h : Rp K B d v) : Ow K B (.dat d) emp v := by unfold Ow; exact ⟨h, rfl⟩
theorem Ow.rp {d : Dt} {O : Hp} {v : V} (h : Ow K B (.dat d) O v) : Rp K B d v ∧ O = emp := by unfold Ow at h; exact h
theorem owa_nil : OwA K B [] emp [] := by unfold OwA; exact ⟨rfl, rfl⟩
theorem owa_cons {t : Own} {ts : List Own} {O1 O2 : Hp} {v : V} {vs : List V} (h : Ow K B t O1 v) (k : OwA K B ts O2 vs) (d : Dj O1 O2) : OwA K B (t :: ts) (jn O1 O2) (v :: vs) := by
  unfold OwA
  exact ⟨v, vs, O1, O2, rfl, h, k, d, rfl⟩
theorem OwA.length : ∀ {ts : List Own} {O : Hp} {vs : List V}, OwA K B ts O vs → vs.length = ts.length
  | [], O, vs, h => by unfold OwA at h; rw [h.1]; rfl
  | t :: ts, O, vs, h => by
    unfold OwA at h
    obtain ⟨v, r, O1, O2, rfl, a, b, c, d⟩ := h
    simp [OwA.length b]
theorem owa_dats : ∀ {ds : List Dt} {vs : List V}, RpA K B ds vs → OwA K B (ds.map Own.dat) emp vs
  | [], vs, h => by unfold RpA at h; subst h; exact owa_nil
  | d :: ds, vs, h => by
    unfold RpA at h
    obtain ⟨v, r, rfl, h1, h2⟩ := h
    have q := owa_cons (ow_dat h1) (owa_dats h2) emp_dj
    rw [emp_jn] at q
    exact q
theorem OwA.dats : ∀ {ds : List Dt} {O : Hp} {vs : List V}, OwA K B (ds.map Own.dat) O vs → RpA K B ds vs ∧ O = emp
  | [], O, vs, h => by rw [List.map_nil] at h; unfold OwA at h; obtain ⟨rfl, rfl⟩ := h; exact ⟨rpa_nil, rfl⟩
  | d :: ds, O, vs, h => by
    rw [List.map_cons] at h
    unfold OwA at h
    obtain ⟨v, r, O1, O2, rfl, a, b, c, rfl⟩ := h
    obtain ⟨h1, rfl⟩ := a.rp
    obtain ⟨h2, rfl⟩ := OwA.dats b
    exact ⟨rpa_cons h1 h2, emp_jn⟩
theorem OwA.at : ∀ {ts : List Own} {O : Hp} {vs : List V} {i : Nat} {t : Own}, OwA K B ts O vs → ts[i]? = some t →
    ∃ v O1 O2, vs[i]? = some v ∧ Ow K B t O1 v ∧ Dj O1 O2 ∧ O = jn O1 O2 ∧
      ∀ B' t' O1' v', Same B B' → Ow K B' t' O1' v' → Dj O1' O2 → OwA K B' (ts.set i t') (jn O1' O2) (vs.set i v')
  | [], _, _, _, _, _, e => by simp at e
  | t0 :: ts, O, vs, i, t, h, e => by
    unfold OwA at h
    obtain ⟨v, r, O1, O2, rfl, a, b, c, rfl⟩ := h
    cases i with
    | zero =>
      simp at e
      subst e
      exact ⟨v, O1, O2, rfl, a, c, rfl, fun B' t' O1' v' s k d => owa_cons k (OwA.mono s b) d⟩
    | succ i =>
      simp at e
      obtain ⟨v1, P1, P2, e1, a1, d1, rfl, q⟩ := OwA.at b e
      refine ⟨v1, P1, jn O1 P2, by simpa using e1, a1, Dj.jnr (Dj.rl c).symm d1, jn_swap (Dj.rl c), fun B' t' O1' v' s k d => ?_⟩
      have d' : Dj O1' P2 := Dj.rr d
      have d0 : Dj O1 O1' := (Dj.rl d).symm
      have z := owa_cons (Ow.mono s a) (q B' t' O1' v' s k d') (Dj.jnr d0 (Dj.rr c))
      rw [jn_swap d0] at z
      exact z
end
end Sm
namespace Sm
open PySem L2
abbrev Ent := Option Own
def Slots (K : PySem.W.Frag) (B : Hp) : List Ent → Hp → L2.St → Prop
  | [], O, σ => σ = [] ∧ O = emp
  | none :: Γ, O, σ => ∃ x r, σ = x :: r ∧ Slots K B Γ O r
  | some t :: Γ, O, σ => ∃ v r O1 O2, σ = some v :: r ∧ Ow K B t O1 v ∧ Slots K B Γ O2 r ∧ Dj O1 O2 ∧ O = jn O1 O2
section
variable {K : PySem.W.Frag} {B B' : Hp}
theorem Slots.mono (e : Same B B') : ∀ {Γ : List Ent} {O : Hp} {σ : L2.St}, Slots K B Γ O σ → Slots K B' Γ O σ
  | [], _, _, h => h
  | none :: Γ, O, σ, h => by
    unfold Slots at h ⊢
    obtain ⟨x, r, a, b⟩ := h
    exact ⟨x, r, a, Slots.mono e b⟩
  | some t :: Γ, O, σ, h => by
    unfold Slots at h ⊢
    obtain ⟨v, r, O1, O2, a, b, c, d⟩ := h
    exact ⟨v, r, O1, O2, a, b.mono e, Slots.mono e c, d⟩
theorem slots_own {t : Own} {v : V} {O1 O2 : Hp} {Γ : List Ent} {σ : L2.St} (h : Ow K B t O1 v) (k : Slots K B Γ O2 σ) (d : Dj O1 O2) : Slots K B (some t :: Γ) (jn O1 O2) (some v :: σ) := by
  unfold Slots
  exact ⟨v, σ, O1, O2, rfl, h, k, d, rfl⟩
theorem slots_un {x : Option V} {O : Hp} {Γ : List Ent} {σ : L2.St} (k : Slots K B Γ O σ) : Slots K B (none :: Γ) O (x :: σ) := by
  unfold Slots
  exact ⟨x, σ, rfl, k⟩
theorem Slots.len : ∀ {Γ : List Ent} {O : Hp} {σ : L2.St}, Slots K B Γ O σ → σ.length = Γ.length
  | [], _, _, h => by unfold Slots at h; rw [h.1]; rfl
  | none :: Γ, O, σ, h => by
    unfold Slots at h
    obtain ⟨x, r, rfl, b⟩ := h
    simp [Slots.len b]
  | some t :: Γ, O, σ, h => by
    unfold Slots at h
    obtain ⟨v, r, O1, O2, rfl, b, c, d⟩ := h
    simp [Slots.len c]
theorem Slots.at : ∀ {Γ : List Ent} {O : Hp} {σ : L2.St} {i : Nat} {t : Own}, Slots K B Γ O σ → Γ[i]? = some (some t) →
    ∃ v O1 O2, σ[i]? = some (some v) ∧ Ow K B t O1 v ∧ Dj O1 O2 ∧ O = jn O1 O2 ∧
      (∀ B' t' O1' v', Same B B' → Ow K B' t' O1' v' → Dj O1' O2 → Slots K B' (Γ.set i (some t')) (jn O1' O2) (σ.set i (some v'))) ∧
      ∀ B' x, Same B B' → Slots K B' (Γ.set i none) O2 (σ.set i x)
  | [], _, _, _, _, _, e => by simp at e
  | none :: Γ, O, σ, i, t, h, e => by
    unfold Slots at h
    obtain ⟨x, r, rfl, b⟩ := h
    cases i with
    | zero => simp at e
    | succ i =>
      simp at e
      obtain ⟨v1, P1, P2, e1, a1, d1, e2, q, q2⟩ := Slots.at b e
      exact ⟨v1, P1, P2, by simpa using e1, a1, d1, e2, fun B' t' O1' v' s k d => slots_un (q B' t' O1' v' s k d), fun B' x s => slots_un (q2 B' x s)⟩
  | some t0 :: Γ, O, σ, i, t, h, e => by
    unfold Slots at h
    obtain ⟨v, r, O1, O2, rfl, a, b, c, rfl⟩ := h
    cases i with
    | zero =>
      simp at e
      subst e
      exact ⟨v, O1, O2, rfl, a, c, rfl, fun B' t' O1' v' s k d => slots_own k (b.mono s) d, fun B' x s => slots_un (b.mono s)⟩
    | succ i =>
      simp at e
      obtain ⟨v1, P1, P2, e1, a1, d1, rfl, q, q2⟩ := Slots.at b e
      refine ⟨v1, P1, jn O1 P2, by simpa using e1, a1, Dj.jnr (Dj.rl c).symm d1, jn_swap (Dj.rl c), fun B' t' O1' v' s k d => ?_, fun B' x s => slots_own (a.mono s) (q2 B' x s) (Dj.rr c)⟩
      have d' : Dj O1' P2 := Dj.rr d
      have d0 : Dj O1 O1' := (Dj.rl d).symm
      have z := slots_own (Ow.mono s a) (q B' t' O1' v' s k d') (Dj.jnr d0 (Dj.rr c))
      rw [jn_swap d0] at z
      exact z
theorem Slots.un : ∀ {Γ : List Ent} {O : Hp} {σ : L2.St} {i : Nat}, Slots K B Γ O σ → Γ[i]? = some none → ∀ B' t' O1' v', Same B B' → Ow K B' t' O1' v' → Dj O1' O → Slots K B' (Γ.set i (some t')) (jn O1' O) (σ.set i (some v'))
  | [], _, _, _, _, e => by simp at e
  | none :: Γ, O, σ, i, h, e => by
    unfold Slots at h
    obtain ⟨x, r, rfl, b⟩ := h
    cases i with
    | zero => exact fun B' t' O1' v' s k d => slots_own k (b.mono s) d
    | succ i => simp at e; exact fun B' t' O1' v' s k d => slots_un (Slots.un b e B' t' O1' v' s k d)
  | some t0 :: Γ, O, σ, i, h, e => by
    unfold Slots at h
    obtain ⟨v, r, O1, O2, rfl, a, b, c, rfl⟩ := h
    cases i with
    | zero => simp at e
    | succ i =>
      simp at e
      intro B' t' O1' v' s k d
      have z := slots_own (Ow.mono s a) (Slots.un b e B' t' O1' v' s k (Dj.rr d)) (Dj.jnr (Dj.rl d).symm c)
      rw [jn_swap (Dj.rl d).symm] at z
      exact z
theorem Slots.put {Γ : List Ent} {O : Hp} {σ : L2.St} {i : Nat} (h : Slots K B Γ O σ) (hi : i < Γ.length) : ∃ Od O3, Dj Od O3 ∧ O = jn Od O3 ∧
    (∀ B' t' O1' v', Same B B' → Ow K B' t' O1' v' → Dj O1' O3 → Slots K B' (Γ.set i (some t')) (jn O1' O3) (σ.set i (some v'))) ∧ ∀ x, Slots K B (Γ.set i none) O3 (σ.set i x) := by
  cases e : Γ[i]? with
  | none => rw [List.getElem?_eq_none_iff] at e; omega
  | some x =>
    cases x with
    | none => exact ⟨emp, O, emp_dj, emp_jn.symm, h.un e, by
        have : ∀ {Γ : List Ent} {O : Hp} {σ : L2.St} {i : Nat}, Slots K B Γ O σ → Γ[i]? = some none → ∀ x, Slots K B (Γ.set i none) O (σ.set i x) := by
          intro Γ
          induction Γ with
          | nil => intro O σ i h e; simp at e
          | cons a Γ ih =>
            intro O σ i h e x
            cases a with
            | none =>
              unfold Slots at h
              obtain ⟨y, r, rfl, b⟩ := h
              cases i with
              | zero => exact slots_un b
              | succ i => simp at e; exact slots_un (ih b e x)
            | some t =>
              unfold Slots at h
              obtain ⟨v, r, O1, O2, rfl, a, b, c, rfl⟩ := h
              cases i with
              | zero => simp at e
              | succ i => simp at e; exact slots_own a (ih b e x) c
        exact this h e⟩
    | some t =>
      obtain ⟨v, O1, O2, _, a, d, e2, q, q2⟩ := h.at e
      exact ⟨O1, O2, d, e2, q, fun x => q2 B x (Same.refl _)⟩
inductive Wk : List Ent → List Ent → Prop
  | nil : Wk [] []
  | same {x : Ent} {Γ Γ' : List Ent} : Wk Γ Γ' → Wk (x :: Γ) (x :: Γ')
  | drop {x : Ent} {Γ Γ' : List Ent} : Wk Γ Γ' → Wk (x :: Γ) (none :: Γ')
theorem Wk.refl : ∀ Γ : List Ent, Wk Γ Γ
  | [] => .nil
  | _ :: Γ => .same (Wk.refl Γ)
theorem Wk.app : ∀ (Δ : List Ent) {Γ Γ' : List Ent}, Wk Γ Γ' → Wk (Δ ++ Γ) (Δ ++ Γ')
  | [], _, _, h => h
  | _ :: Δ, _, _, h => .same (Wk.app Δ h)
theorem Slots.weak : ∀ {Γ Γ' : List Ent} {O : Hp} {σ : L2.St}, Wk Γ Γ' → Slots K B Γ O σ → ∃ Od O', Dj Od O' ∧ O = jn Od O' ∧ Slots K B Γ' O' σ
  | _, _, O, σ, .nil, h => ⟨emp, O, emp_dj, emp_jn.symm, h⟩
  | none :: Γ, _, O, σ, .same w, h => by
    unfold Slots at h
    obtain ⟨x, r, rfl, b⟩ := h
    obtain ⟨Od, O', d, e, q⟩ := Slots.weak w b
    exact ⟨Od, O', d, e, slots_un q⟩
  | some t :: Γ, _, O, σ, .same w, h => by
    unfold Slots at h
    obtain ⟨v, r, O1, O2, rfl, a, b, c, rfl⟩ := h
    obtain ⟨Od, O', d, rfl, q⟩ := Slots.weak w b
    exact ⟨Od, jn O1 O', Dj.jnr (Dj.rl c).symm d, jn_swap (Dj.rl c), slots_own a q (Dj.rr c)⟩
  | none :: Γ, _, O, σ, .drop w, h => by
    unfold Slots at h
    obtain ⟨x, r, rfl, b⟩ := h
    obtain ⟨Od, O', d, e, q⟩ := Slots.weak w b
    exact ⟨Od, O', d, e, slots_un q⟩
  | some t :: Γ, _, O, σ, .drop w, h => by
    unfold Slots at h
    obtain ⟨v, r, O1, O2, rfl, a, b, c, rfl⟩ := h
    obtain ⟨Od, O', d, rfl, q⟩ := Slots.weak w b
    exact ⟨jn O1 Od, O', Dj.jnl (Dj.rr c) d, jn_assoc.symm, slots_un q⟩
end
def NT (O : Hp) : Prop := ∀ a xs, O a ≠ some (.tup xs)
theorem nt_emp : NT emp := fun _ _ z => nomatch z
theorem NT.jn {A C : Hp} (h : NT A) (k : NT C) : NT (jn A C) := fun a xs e => by
  by_cases q : A a = none
  · rw [jn_none q] at e; exact k a xs e
  · cases z : A a with
    | none => exact q z
    | some u => rw [jn_some z] at e; exact h a xs (z.trans e)
theorem NT.l {A C : Hp} (h : NT (Sm.jn A C)) : NT A := fun a xs e => h a xs (jn_some e)
theorem NT.r {A C : Hp} (h : NT (Sm.jn A C)) (d : Dj A C) : NT C := fun a xs e => h a xs (by
  rcases d a with z | z
  · rw [jn_none z]; exact e
  · rw [z] at e; cases e)
theorem NT.upd {A : Hp} {a : Addr} {o : HO} (h : NT A) (n : ∀ xs, o ≠ .tup xs) : NT (L2.upd A a o) := fun b xs e => by
  by_cases q : b = a
  · subst q; rw [upd_same] at e; exact n xs (Option.some.inj e)
  · rw [upd_ne q] at e; exact h b xs e
structure Post (B0 O0 H0 B O H : Hp) : Prop where
  b0 : Same B0 B
  bh : Same B H
  oh : Same O H
  dj : Dj B O
  fr : ∀ a o, H0 a = some o → O0 a = none → H a = some o
  yb : ∀ a, B a ≠ none → B0 a ≠ none ∨ O0 a ≠ none ∨ H0 a = none ∨ ∃ xs, H0 a = some (.tup xs)
  yo : ∀ a, O a ≠ none → O0 a ≠ none ∨ H0 a = none
  nt : NT O
section
variable {B0 O0 H0 B O H : Hp}
theorem Post.refl (h1 : Same B H) (h2 : Same O H) (h3 : Dj B O) (h4 : NT O) : Post B O H B O H :=
  ⟨Same.refl _, h1, h2, h3, fun _ _ h _ => h, fun _ h => .inl h, fun _ h => .inl h, h4⟩
theorem Post.fresh (p : Post B0 O0 H0 B O H) {a : Addr} (h : H a = none) : O0 a ≠ none ∨ H0 a = none := by
  by_cases q : O0 a = none
  · refine .inr ?_
    cases e : H0 a with
    | none => rfl
    | some o => rw [p.fr a o e q] at h; cases h
  · exact .inl q
theorem Post.newB (p : Post B0 O0 H0 B O H) {a : Addr} {o : HO} (h : H a = none) : Post B0 O0 H0 (upd B a o) O (upd H a o) where
  b0 := p.b0.trans (same_upd (none_of_same p.bh h))
  bh := fun b u e => by
    by_cases q : b = a
    · subst q; rw [upd_same] at e ⊢; exact e
    · rw [upd_ne q] at e ⊢; exact p.bh b u e
  oh := fun b u e => by rw [upd_ne (ne_of_none (p.oh b u e) h)]; exact p.oh b u e
  dj := p.dj.upd (none_of_same p.oh h)
  fr := fun b u e n => by rw [upd_ne (ne_of_none (p.fr b u e n) h)]; exact p.fr b u e n
  yb := fun b e => by
    by_cases q : b = a
    · subst q
      rcases p.fresh h with z | z
      · exact .inr (.inl z)
      · exact .inr (.inr (.inl z))
    · rw [upd_ne q] at e; exact p.yb b e
  yo := p.yo
  nt := p.nt
theorem Post.newO (p : Post B0 O0 H0 B O H) {a : Addr} {o : HO} (h : H a = none) (ho : ∀ xs, o ≠ .tup xs) : Post B0 O0 H0 B (upd O a o) (upd H a o) where
  b0 := p.b0
  bh := fun b u e => by rw [upd_ne (ne_of_none (p.bh b u e) h)]; exact p.bh b u e
  oh := fun b u e => by
    by_cases q : b = a
    · subst q; rw [upd_same] at e ⊢; exact e
    · rw [upd_ne q] at e ⊢; exact p.oh b u e
  dj := (p.dj.symm.upd (none_of_same p.bh h)).symm
  fr := fun b u e n => by rw [upd_ne (ne_of_none (p.fr b u e n) h)]; exact p.fr b u e n
  yb := p.yb
  yo := fun b e => by
    by_cases q : b = a
    · subst q; exact p.fresh h
    · rw [upd_ne q] at e; exact p.yo b e
  nt := p.nt.upd ho
theorem Post.mut (p : Post B0 O0 H0 B O H) {a : Addr} {o u : HO} (h : O a = some u) (ho : ∀ xs, o ≠ .tup xs := by intro xs z; cases z) : Post B0 O0 H0 B (upd O a o) (upd H a o) where
  b0 := p.b0
  bh := fun b w e => by
    have ne : b ≠ a := fun q => by
      subst q
      rcases p.dj b with z | z
      · rw [z] at e; cases e
      · rw [z] at h; cases h
    rw [upd_ne ne]; exact p.bh b w e
  oh := fun b w e => by
    by_cases q : b = a
    · subst q; rw [upd_same] at e ⊢; exact e
    · rw [upd_ne q] at e ⊢; exact p.oh b w e
  dj := (Dj.upd p.dj.symm (by
    rcases p.dj a with z | z
    · exact z
    · rw [z] at h; cases h)).symm
  fr := fun b w e n => by
    have ne : b ≠ a := fun q => by
      subst q
      rcases p.yo b (by rw [h]; simp) with z | z
      · exact z n
      · rw [z] at e; cases e
    rw [upd_ne ne]; exact p.fr b w e n
  yb := p.yb
  yo := fun b e => by
    by_cases q : b = a
    · subst q; exact p.yo b (by rw [h]; simp)
    · rw [upd_ne q] at e; exact p.yo b e
  nt := p.nt.upd ho
theorem Post.dropL {O1 O2 : Hp} (p : Post B0 O0 H0 B (jn O1 O2) H) (d : Dj O1 O2) : Post B0 O0 H0 B O2 H :=
  ⟨p.b0, p.bh, (same_jnr d).trans p.oh, p.dj.rr, p.fr, p.yb, fun a e => p.yo a fun z => e (jn_none_iff.mp z).2, p.nt.r d⟩
theorem Post.dropR {O1 O2 : Hp} (p : Post B0 O0 H0 B (jn O1 O2) H) : Post B0 O0 H0 B O1 H :=
  ⟨p.b0, p.bh, same_jnl.trans p.oh, p.dj.rl, p.fr, p.yb, fun a e => p.yo a fun z => e (jn_none_iff.mp z).1, p.nt.l⟩
theorem Post.freeze {O1 O2 : Hp} (p : Post B0 O0 H0 B (jn O1 O2) H) (d : Dj O1 O2) : Post B0 O0 H0 (jn B O1) O2 H where
  b0 := p.b0.trans same_jnl
  bh := same_jn p.bh (same_jnl.trans p.oh)
  oh := (same_jnr d).trans p.oh
  dj := Dj.jnl p.dj.rr d
  fr := p.fr
  yb := fun a e => by
    by_cases q : B a = none
    · rcases p.yo a fun z => e (jn_none_iff.mpr ⟨q, (jn_none_iff.mp z).1⟩) with z | z
      · exact .inr (.inl z)
      · exact .inr (.inr (.inl z))
    · exact p.yb a q
  yo := fun a e => p.yo a fun z => e (jn_none_iff.mp z).2
  nt := p.nt.r d
theorem Post.addB (p : Post B0 O0 H0 B O H) {a : Addr} {xs : List V} (h : H a = some (.tup xs)) : ∃ B', Post B0 O0 H0 B' O H ∧ Same B B' ∧ B' a = some (.tup xs) := by
  by_cases q : B a = none
  · refine ⟨upd B a (.tup xs), ⟨p.b0.trans (same_upd q), fun b u e => ?_, p.oh, p.dj.upd ?_, p.fr, fun b e => ?_, p.yo, p.nt⟩, same_upd q, upd_same⟩
    · by_cases z : b = a
      · subst z; rw [upd_same] at e; rw [← e]; exact h
      · rw [upd_ne z] at e; exact p.bh b u e
    · cases z : O a with
      | none => rfl
      | some u =>
        have e := p.oh a u z
        rw [h] at e
        cases e
        exact absurd z (p.nt a xs)
    · by_cases z : b = a
      · subst z
        by_cases z2 : O0 b = none
        · refine .inr (.inr ?_)
          cases z3 : H0 b with
          | none => exact .inl rfl
          | some u =>
            have e := p.fr b u z3 z2
            rw [h] at e
            cases e
            exact .inr ⟨xs, rfl⟩
        · exact .inr (.inl z2)
      · rw [upd_ne z] at e; exact p.yb b e
  · cases z : B a with
    | none => exact absurd z q
    | some u =>
      have e := p.bh a u z
      rw [h] at e
      cases e
      exact ⟨B, p, Same.refl _, z⟩
theorem Post.call {Oa Or B' Oa' H' : Hp} (p : Post B0 O0 H0 B (jn Oa Or) H) (d : Dj Oa Or) (q : Post B Oa H B' Oa' H') : Dj Oa' Or ∧ Post B0 O0 H0 B' (jn Oa' Or) H' := by
  have hr : Same Or H := (same_jnr d).trans p.oh
  have hr' : Same Or H' := fun a o e => q.fr a o (hr a o e) (by
    rcases d a with z | z
    · exact z
    · rw [z] at e; cases e)
  have notfresh : ∀ a, Or a ≠ none → H a ≠ none := fun a e z => e (none_of_same hr z)
  have d' : Dj Oa' Or := fun a => by
    by_cases z : Oa' a = none
    · exact .inl z
    · refine .inr ?_
      rcases q.yo a z with w | w
      · rcases d a with x | x
        · exact absurd x w
        · exact x
      · exact none_of_same hr w
  have ntr : NT Or := p.nt.r d
  refine ⟨d', ⟨p.b0.trans q.b0, q.bh, same_jn q.oh hr', ?_, ?_, ?_, ?_, q.nt.jn ntr⟩⟩
  · refine Dj.jnr q.dj fun a => ?_
    by_cases z : B' a = none
    · exact .inl z
    · refine .inr ?_
      rcases q.yb a z with w | w | w | ⟨xs, w⟩
      · rcases p.dj.rr a with x | x
        · exact absurd x w
        · exact x
      · rcases d a with x | x
        · exact absurd x w
        · exact x
      · exact none_of_same hr w
      · cases x : Or a with
        | none => rfl
        | some u =>
          have y := hr a u x
          rw [w] at y
          cases y
          exact absurd x (ntr a xs)
  · intro a o e n
    have h := p.fr a o e n
    refine q.fr a o h ?_
    cases z : Oa a with
    | none => rfl
    | some u =>
      rcases p.yo a (by rw [jn_some z]; simp) with w | w
      · exact absurd n w
      · rw [w] at e; cases e
  · intro a e
    rcases q.yb a e with w | w | w | ⟨xs, w⟩
    · exact p.yb a w
    · rcases p.yo a fun z => w (jn_none_iff.mp z).1 with x | x
      · exact .inr (.inl x)
      · exact .inr (.inr (.inl x))
    · rcases p.fresh w with x | x
      · exact .inr (.inl x)
      · exact .inr (.inr (.inl x))
    · by_cases x : O0 a = none
      · cases y : H0 a with
        | none => exact .inr (.inr (.inl rfl))
        | some u =>
          have z := p.fr a u y x
          rw [w] at z
          cases z
          exact .inr (.inr (.inr ⟨xs, rfl⟩))
      · exact .inr (.inl x)
  · intro a e
    by_cases z : Oa' a = none
    · refine p.yo a fun w => e (jn_none_iff.mpr ⟨z, (jn_none_iff.mp w).2⟩)
    · rcases q.yo a z with w | w
      · exact p.yo a fun x => w (jn_none_iff.mp x).1
      · exact p.fresh w
end
structure Fx where
  K : PySem.W.Frag
  B : Hp
  O : Hp
  H : Hp
  /-- the parameters that stay: slot, value -/
  ins : List (Nat × V)
def Stt (F : Fx) (Γ : List Ent) (T : List (V × Own)) (σ : L2.St) (H : Hp) : Prop :=
  ∃ B O, Slots F.K B (T.map (fun p => some p.2) ++ Γ) O (T.map (fun p => some p.1) ++ σ) ∧ Post F.B F.O F.H B O H ∧ ∀ p ∈ F.ins, σ[p.1]? = some (some p.2)
section
variable {F : Fx} {Γ Γ' : List Ent} {T : List (V × Own)} {σ : L2.St} {H H' : Hp} {v : V} {t : Own}
theorem Stt.push (h : Stt F Γ T σ H) {d : Dt} (k : ∀ B, Same B H → Rp F.K B d v) : Stt F Γ ((v, .dat d) :: T) σ H := by
  obtain ⟨B, O, s, p, i⟩ := h
  refine ⟨B, O, ?_, p, i⟩
  have q := slots_own (ow_dat (k B p.bh)) s emp_dj
  rw [emp_jn] at q
  exact q
theorem Stt.dup {i : Nat} {d : Dt} (h : Stt F Γ T σ H) (e : Γ[i]? = some (some (.dat d))) : ∃ v, σ[i]? = some (some v) ∧ Stt F Γ ((v, .dat d) :: T) σ H := by
  obtain ⟨B, O, s, p, q⟩ := h
  have e' : (T.map (fun p => some p.2) ++ Γ)[T.length + i]? = some (some (.dat d)) := by
    rw [List.getElem?_append_right (by simp)]
    simpa using e
  obtain ⟨v, O1, O2, e1, a, _⟩ := s.at e'
  refine ⟨v, ?_, B, O, ?_, p, q⟩
  · rw [List.getElem?_append_right (by simp)] at e1
    simpa using e1
  · have z := slots_own (ow_dat a.rp.1) s emp_dj
    rw [emp_jn] at z
    exact z
theorem Stt.pop (h : Stt F Γ ((v, t) :: T) σ H) : Stt F Γ T σ H := by
  obtain ⟨B, O, s, p, q⟩ := h
  unfold Slots at s
  obtain ⟨w, r, O1, O2, e, a, b, d, rfl⟩ := s
  cases e
  exact ⟨B, O2, b, p.dropL d, q⟩
theorem Stt.weak (h : Stt F Γ T σ H) (w : Wk Γ Γ') : Stt F Γ' T σ H := by
  obtain ⟨B, O, s, p, q⟩ := h
  obtain ⟨Od, O', d, rfl, s'⟩ := s.weak (Wk.app _ w)
  exact ⟨B, O', s', p.dropL d, q⟩
theorem Stt.top (h : Stt F Γ ((v, t) :: T) σ H) : ∃ B O1 O2, Ow F.K B t O1 v ∧ Slots F.K B (T.map (fun p => some p.2) ++ Γ) O2 (T.map (fun p => some p.1) ++ σ) ∧ Dj O1 O2 ∧ Post F.B F.O F.H B (jn O1 O2) H ∧ ∀ p ∈ F.ins, σ[p.1]? = some (some p.2) := by
  obtain ⟨B, O, s, p, q⟩ := h
  unfold Slots at s
  obtain ⟨w, r, O1, O2, e, a, b, d, rfl⟩ := s
  cases e
  exact ⟨B, O1, O2, a, b, d, p, q⟩
theorem Stt.topd {d : Dt} (h : Stt F Γ ((v, .dat d) :: T) σ H) : ∃ B, Same B H ∧ Rp F.K B d v := by
  obtain ⟨B, O1, O2, a, _, _, p, _⟩ := h.top
  exact ⟨B, p.bh, a.rp.1⟩
theorem Stt.topd2 {d e : Dt} {u : V} (h : Stt F Γ ((u, .dat e) :: (v, .dat d) :: T) σ H) : ∃ B, Same B H ∧ Rp F.K B d v ∧ Rp F.K B e u := by
  obtain ⟨B, O1, O2, a, b, _, p, _⟩ := h.top
  rw [List.map_cons, List.map_cons] at b
  unfold Slots at b
  obtain ⟨w, r, P1, P2, e1, a2, _⟩ := b
  cases e1
  exact ⟨B, p.bh, a2.rp.1, a.rp.1⟩
theorem Stt.assign {j : Nat} (h : Stt F Γ ((v, t) :: T) σ H) (hj : j < Γ.length) (ni : ∀ p ∈ F.ins, p.1 ≠ j) : Stt F (Γ.set j (some t)) T (σ.set j (some v)) H := by
  obtain ⟨B, O1, O2, a, s, d, p, q⟩ := h.top
  have hl : T.length + j < (T.map (fun p => some p.2) ++ Γ).length := by simp; omega
  obtain ⟨Od, O3, d3, rfl, q1, _⟩ := s.put hl
  refine ⟨B, jn O1 O3, ?_, ?_, fun p hp => by rw [List.getElem?_set_ne (Ne.symm (ni p hp))]; exact q p hp⟩
  · have z := q1 B t O1 v (Same.refl _) a (Dj.rr d)
    rw [List.set_append_right _ _ (by simp), List.set_append_right _ _ (by simp)] at z
    simpa using z
  · rw [jn_swap (Dj.rl d)] at p
    exact p.dropL (Dj.jnr (Dj.rl d).symm d3)
theorem Stt.new {p : Addr} {o : HO} (h : Stt F Γ T σ H) (hp : H p = none) (k : ∀ B, Same B H → ∀ O, Same O H → Ow F.K B t (upd emp p o) v) (ho : ∀ xs, o ≠ .tup xs := by intro xs z; cases z) : Stt F Γ ((v, t) :: T) σ (upd H p o) := by
  obtain ⟨B, O, s, P, q⟩ := h
  have n : O p = none := none_of_same P.oh hp
  have d : Dj (upd emp p o) O := Dj.upd emp_dj n
  have e : jn (upd emp p o) O = upd O p o := by rw [← upd_jn, emp_jn]
  refine ⟨B, jn (upd emp p o) O, slots_own (k B P.bh O P.oh) s d, ?_, q⟩
  rw [e]
  exact P.newO hp ho
end
end Sm
namespace Sm
open PySem L2
section
variable {F : Fx} {Γ Γ' : List Ent} {T : List (V × Own)} {σ : L2.St} {H H' : Hp} {v : V} {t : Own}
theorem Stt.freeze {ds : List Dt} (h : Stt F Γ ((v, .lst (ds.map Own.dat)) :: T) σ H) : Stt F Γ ((v, .dat (.lst ds)) :: T) σ H := by
  obtain ⟨B, O1, O2, a, s, d, p, q⟩ := h.top
  unfold Ow at a
  obtain ⟨l, vs, O', rfl, oa, n, rfl⟩ := a
  obtain ⟨r, rfl⟩ := oa.dats
  have nB : B l = none := by
    rcases p.dj.rl l with z | z
    · exact z
    · rw [upd_same] at z; cases z
  refine ⟨jn B (upd emp l (.lst vs)), O2, ?_, p.freeze d, q⟩
  have k : Rp F.K (jn B (upd emp l (.lst vs))) (.lst ds) (.ref l) := by
    unfold Rp
    exact ⟨l, vs, rfl, by rw [jn_none nB, upd_same], r.mono same_jnl⟩
  have z := slots_own (ow_dat k) (s.mono same_jnl) emp_dj
  rw [emp_jn] at z
  exact z
theorem Stt.freezeAt {i : Nat} {ds : List Dt} (h : Stt F Γ T σ H) (e : Γ[i]? = some (some (.lst (ds.map Own.dat)))) : Stt F (Γ.set i (some (.dat (.lst ds)))) T σ H := by
  obtain ⟨B, O, s, p, q⟩ := h
  have e' : (T.map (fun p => some p.2) ++ Γ)[T.length + i]? = some (some (.lst (ds.map Own.dat))) := by
    rw [List.getElem?_append_right (by simp)]
    simpa using e
  obtain ⟨v, O1, O2, e1, a, d, rfl, k, _⟩ := s.at e'
  unfold Ow at a
  obtain ⟨l, vs, O', rfl, oa, n, rfl⟩ := a
  obtain ⟨r, rfl⟩ := oa.dats
  have nB : B l = none := by
    rcases p.dj.rl l with z | z
    · exact z
    · rw [upd_same] at z; cases z
  refine ⟨jn B (upd emp l (.lst vs)), O2, ?_, p.freeze d, q⟩
  have kk : Rp F.K (jn B (upd emp l (.lst vs))) (.lst ds) (.ref l) := by
    unfold Rp
    exact ⟨l, vs, rfl, by rw [jn_none nB, upd_same], r.mono same_jnl⟩
  have z := k _ _ emp (.ref l) same_jnl (ow_dat kk) emp_dj
  rw [emp_jn, List.set_append_right _ _ (by simp), List.set_append_right _ _ (by simp)] at z
  have hs : σ.set (T.length + i - (T.map fun p => some p.1).length) (some (V.ref l)) = σ := by
    rw [List.getElem?_append_right (by simp)] at e1
    apply List.ext_getElem?
    intro j
    by_cases hj : T.length + i - (T.map fun p => some p.1).length = j
    · subst hj
      rw [e1]
      have hl := (List.getElem?_eq_some_iff.mp e1).1
      rw [List.getElem?_set_self hl]
    · rw [List.getElem?_set_ne hj]
  rw [hs] at z
  simpa using z
end
def Ev (F : Fx) (te : TE) (Γ : List Ent) (t : Own) : Prop :=
  ∀ T σ H, Stt F Γ T σ H → ∀ Q : VK, (∀ v H', Stt F Γ ((v, t) :: T) σ H' → Same H H' → Q v H') → te σ H Q
def EvT (F : Fx) (tt : TT) (Γ : List Ent) (b : Bool) : Prop :=
  ∀ T σ H, Stt F Γ T σ H → ∀ Q : Bool → Hp → Prop, (∀ H', Stt F Γ T σ H' → Same H H' → Q b H') → tt σ H Q
def Op2 (F : Fx) (r : R2) (tx ty tz : Own) : Prop :=
  ∀ Γ T σ H x y, Stt F Γ ((y, ty) :: (x, tx) :: T) σ H → ∀ Q : VK, (∀ z H', Stt F Γ ((z, tz) :: T) σ H' → Same H H' → Q z H') → r x y H Q
def Op1 (F : Fx) (r : V → Hp → VK → Prop) (tx tz : Own) : Prop :=
  ∀ Γ T σ H x, Stt F Γ ((x, tx) :: T) σ H → ∀ Q : VK, (∀ z H', Stt F Γ ((z, tz) :: T) σ H' → Same H H' → Q z H') → r x H Q
section
variable {F : Fx} {Γ : List Ent} {T : List (V × Own)} {σ : L2.St} {H : Hp} {ta tb tc te : TE} {tx ty tz t : Own} {r : R2} {tt uu : TT} {a b c : Bool} {i j k : Int} {x y : Str} {d e : Dt}
theorem rp_int {K : PySem.W.Frag} {B : Hp} {i : Int} {v : V} (h : Rp K B (.int i) v) : v = .int i := by unfold Rp at h; exact h
theorem rp_str {K : PySem.W.Frag} {B : Hp} {i : Str} {v : V} (h : Rp K B (.str i) v) : v = .str i := by unfold Rp at h; exact h
theorem rp_bl {K : PySem.W.Frag} {B : Hp} {i : Bool} {v : V} (h : Rp K B (.bl i) v) : v = .bl i := by unfold Rp at h; exact h
theorem rp_non {K : PySem.W.Frag} {B : Hp} {v : V} (h : Rp K B .non v) : v = .non := by unfold Rp at h; exact h
theorem ev_int : Ev F (tC (.int i)) Γ (.dat (.int i)) := fun T σ H h Q q => q _ H (h.push fun _ _ => by unfold Rp; rfl) (Same.refl _)
theorem ev_str : Ev F (tC (.str x)) Γ (.dat (.str x)) := fun T σ H h Q q => q _ H (h.push fun _ _ => by unfold Rp; rfl) (Same.refl _)
theorem ev_bl : Ev F (tC (.bl a)) Γ (.dat (.bl a)) := fun T σ H h Q q => q _ H (h.push fun _ _ => by unfold Rp; rfl) (Same.refl _)
theorem ev_non : Ev F (tC .non) Γ (.dat .non) := fun T σ H h Q q => q _ H (h.push fun _ _ => by unfold Rp; rfl) (Same.refl _)
theorem ev_var {i : Nat} (h : Γ[i]? = some (some (.dat d))) : Ev F (tVar i) Γ (.dat d) := fun T σ H s Q q => by
  obtain ⟨v, e, s'⟩ := s.dup h
  exact ⟨v, e, q v H s' (Same.refl _)⟩
theorem ev_op (h1 : Ev F ta Γ tx) (h2 : Ev F tb Γ ty) (ho : Op2 F r tx ty tz) : Ev F (tOp r ta tb) Γ tz := fun T σ H s Q q =>
  h1 T σ H s _ fun x H1 s1 e1 => h2 _ σ H1 s1 _ fun y H2 s2 e2 => ho _ _ σ H2 x y s2 Q fun z H3 s3 e3 => q z H3 s3 ((e1.trans e2).trans e3)
theorem ev_un {r : V → Hp → VK → Prop} (h1 : Ev F ta Γ tx) (ho : Op1 F r tx tz) : Ev F (tUn r ta) Γ tz := fun T σ H s Q q =>
  h1 T σ H s _ fun x H1 s1 e1 => ho _ _ σ H1 x s1 Q fun z H3 s3 e3 => q z H3 s3 (e1.trans e3)
theorem ev_is (h : Ev F te Γ t) (e : t = tx) : Ev F te Γ tx := e ▸ h
theorem op2_val {dx dy dz : Dt} (z : V) (hz : ∀ B, Rp F.K B dz z) (h : ∀ B H x y (Q : VK), Same B H → Rp F.K B dx x → Rp F.K B dy y → Q z H → r x y H Q) : Op2 F r (.dat dx) (.dat dy) (.dat dz) := fun Γ T σ H x y s Q q => by
  obtain ⟨B, e, h1, h2⟩ := s.topd2
  exact h B H x y Q e h1 h2 (q z H (s.pop.pop.push fun B _ => hz B) (Same.refl _))
theorem op1_val {r : V → Hp → VK → Prop} {dx dz : Dt} (z : V) (hz : ∀ B, Rp F.K B dz z) (h : ∀ B H x (Q : VK), Same B H → Rp F.K B dx x → Q z H → r x H Q) : Op1 F r (.dat dx) (.dat dz) := fun Γ T σ H x s Q q => by
  obtain ⟨B, e, h1⟩ := s.topd
  exact h B H x Q e h1 (q z H (s.pop.push fun B _ => hz B) (Same.refl _))
theorem op2_I0 {g : Int → Int → Int} : Op2 F (rI0 fun i j => .int (g i j)) (.dat (.int i)) (.dat (.int j)) (.dat (.int (g i j))) :=
  op2_val _ (fun B => by unfold Rp; rfl) fun B H x y Q _ h1 h2 q => ⟨i, j, rp_int h1, rp_int h2, q⟩
theorem op2_B0 {g : Int → Int → Bool} : Op2 F (rI0 fun i j => .bl (g i j)) (.dat (.int i)) (.dat (.int j)) (.dat (.bl (g i j))) :=
  op2_val _ (fun B => by unfold Rp; rfl) fun B H x y Q _ h1 h2 q => ⟨i, j, rp_int h1, rp_int h2, q⟩
theorem op2_I {C : Int → Int → Prop} {g : Int → Int → Int} (hc : C i j) : Op2 F (rI C fun i j => .int (g i j)) (.dat (.int i)) (.dat (.int j)) (.dat (.int (g i j))) :=
  op2_val _ (fun B => by unfold Rp; rfl) fun B H x y Q _ h1 h2 q => ⟨i, j, rp_int h1, rp_int h2, hc, q⟩
theorem ev_add (h1 : Ev F ta Γ (.dat (.int i))) (h2 : Ev F tb Γ (.dat (.int j))) : Ev F (tOp (rI0 fun i j => .int (i + j)) ta tb) Γ (.dat (.int (i + j))) := ev_op h1 h2 (op2_I0 (g := fun i j => i + j))
theorem ev_sub (h1 : Ev F ta Γ (.dat (.int i))) (h2 : Ev F tb Γ (.dat (.int j))) : Ev F (tOp (rI0 fun i j => .int (i - j)) ta tb) Γ (.dat (.int (i - j))) := ev_op h1 h2 (op2_I0 (g := fun i j => i - j))
theorem ev_mod (hc : 0 < j) (h1 : Ev F ta Γ (.dat (.int i))) (h2 : Ev F tb Γ (.dat (.int j))) : Ev F (tOp (rI (fun _ j => 0 < j) fun i j => .int (i % j)) ta tb) Γ (.dat (.int (i % j))) := ev_op h1 h2 (op2_I (C := fun _ j => 0 < j) (g := fun i j => i % j) hc)
theorem ev_pow (hc : CPow i j) (h1 : Ev F ta Γ (.dat (.int i))) (h2 : Ev F tb Γ (.dat (.int j))) : Ev F (tOp (rI CPow fun i j => .int (i ^ j.toNat)) ta tb) Γ (.dat (.int (i ^ j.toNat))) := ev_op h1 h2 (op2_I (g := fun i j => i ^ j.toNat) hc)
theorem ev_lt (h1 : Ev F ta Γ (.dat (.int i))) (h2 : Ev F tb Γ (.dat (.int j))) : Ev F (tOp (rI0 fun i j => .bl (decide (i < j))) ta tb) Γ (.dat (.bl (decide (i < j)))) := ev_op h1 h2 (op2_B0 (g := fun i j => decide (i < j)))
theorem ev_gt (h1 : Ev F ta Γ (.dat (.int i))) (h2 : Ev F tb Γ (.dat (.int j))) : Ev F (tOp (rI0 fun i j => .bl (decide (j < i))) ta tb) Γ (.dat (.bl (decide (j < i)))) := ev_op h1 h2 (op2_B0 (g := fun i j => decide (j < i)))
theorem ev_ge (h1 : Ev F ta Γ (.dat (.int i))) (h2 : Ev F tb Γ (.dat (.int j))) : Ev F (tOp (rI0 fun i j => .bl (decide (j ≤ i))) ta tb) Γ (.dat (.bl (decide (j ≤ i)))) := ev_op h1 h2 (op2_B0 (g := fun i j => decide (j ≤ i)))
theorem ev_neg (h1 : Ev F ta Γ (.dat (.int i))) : Ev F (tUn (rU fun i => .int (-i)) ta) Γ (.dat (.int (-i))) := ev_un h1 (op1_val _ (fun B => by unfold Rp; rfl) fun B H x Q _ h q => ⟨i, rp_int h, q⟩)
theorem ev_eqI (h1 : Ev F ta Γ (.dat (.int i))) (h2 : Ev F tb Γ (.dat (.int j))) : Ev F (tOp rEq ta tb) Γ (.dat (.bl (decide (i = j)))) := ev_op h1 h2 (op2_val _ (fun B => by unfold Rp; rfl) fun B H x y Q _ h1 h2 q => by
  rw [rp_int h1, rp_int h2]
  exact ⟨rfl, by rw [dec_int, Bool.beq_eq_decide_eq]; exact q⟩)
theorem ev_neI (h1 : Ev F ta Γ (.dat (.int i))) (h2 : Ev F tb Γ (.dat (.int j))) : Ev F (tOp rNe ta tb) Γ (.dat (.bl (!decide (i = j)))) := ev_op h1 h2 (op2_val _ (fun B => by unfold Rp; rfl) fun B H x y Q _ h1 h2 q => by
  rw [rp_int h1, rp_int h2]
  exact ⟨rfl, by rw [dec_int, Bool.beq_eq_decide_eq]; exact q⟩)
theorem ev_eqS (h1 : Ev F ta Γ (.dat (.str x))) (h2 : Ev F tb Γ (.dat (.str y))) : Ev F (tOp rEq ta tb) Γ (.dat (.bl (decide (x = y)))) := ev_op h1 h2 (op2_val _ (fun B => by unfold Rp; rfl) fun B H x y Q _ h1 h2 q => by
  rw [rp_str h1, rp_str h2]
  exact ⟨rfl, by rw [dec_str, Bool.beq_eq_decide_eq]; exact q⟩)
theorem ev_neS (h1 : Ev F ta Γ (.dat (.str x))) (h2 : Ev F tb Γ (.dat (.str y))) : Ev F (tOp rNe ta tb) Γ (.dat (.bl (!decide (x = y)))) := ev_op h1 h2 (op2_val _ (fun B => by unfold Rp; rfl) fun B H x y Q _ h1 h2 q => by
  rw [rp_str h1, rp_str h2]
  exact ⟨rfl, by rw [dec_str, Bool.beq_eq_decide_eq]; exact q⟩)
theorem et_test (h : Ev F te Γ (.dat (.bl b))) : EvT F (tTest te) Γ b := fun T σ H s Q q => h T σ H s _ fun v H' s' e => by
  obtain ⟨B, _, r⟩ := s'.topd
  exact ⟨b, rp_bl r, q H' s'.pop e⟩
theorem et_B (h : Ev F te Γ (.dat (.bl b))) : EvT F (tB te) Γ b := fun T σ H s Q q => h T σ H s _ fun v H' s' e => by
  obtain ⟨B, _, r⟩ := s'.topd
  exact ⟨b, rp_bl r, q H' s'.pop e⟩
theorem et_and (h1 : EvT F tt Γ a) (h2 : EvT F uu Γ b) : EvT F (tAnd tt uu) Γ (a && b) := fun T σ H s Q q => h1 T σ H s _ fun H1 s1 e1 => by
  cases a with
  | true =>
    show uu σ H1 Q
    exact h2 T σ H1 s1 Q fun H2 s2 e2 => q H2 s2 (e1.trans e2)
  | false =>
    show Q false H1
    exact q H1 s1 e1
theorem et_or (h1 : EvT F tt Γ a) (h2 : EvT F uu Γ b) : EvT F (tOr tt uu) Γ (a || b) := fun T σ H s Q q => h1 T σ H s _ fun H1 s1 e1 => by
  cases a with
  | true =>
    show Q true H1
    exact q H1 s1 e1
  | false =>
    show uu σ H1 Q
    exact h2 T σ H1 s1 Q fun H2 s2 e2 => q H2 s2 (e1.trans e2)
theorem et_not (h1 : EvT F tt Γ a) : EvT F (tNot tt) Γ (!a) := fun T σ H s Q q => h1 T σ H s _ fun H1 s1 e1 => q H1 s1 e1
theorem ev_andV (h1 : Ev F ta Γ (.dat (.bl a))) (h2 : Ev F tb Γ (.dat (.bl b))) : Ev F (tAndV ta tb) Γ (.dat (.bl (a && b))) := fun T σ H s Q q => h1 T σ H s _ fun v H1 s1 e1 => by
  obtain ⟨B, _, r⟩ := s1.topd
  refine ⟨a, rp_bl r, ?_⟩
  cases a with
  | true =>
    show tb σ H1 Q
    exact h2 T σ H1 s1.pop Q fun v H2 s2 e2 => q v H2 s2 (e1.trans e2)
  | false =>
    show Q (.bl false) H1
    exact q _ H1 (s1.pop.push fun _ _ => by unfold Rp; rfl) e1
theorem ev_orV (h1 : Ev F ta Γ (.dat (.bl a))) (h2 : Ev F tb Γ (.dat (.bl b))) : Ev F (tOrV ta tb) Γ (.dat (.bl (a || b))) := fun T σ H s Q q => h1 T σ H s _ fun v H1 s1 e1 => by
  obtain ⟨B, _, r⟩ := s1.topd
  refine ⟨a, rp_bl r, ?_⟩
  cases a with
  | true =>
    show Q (.bl true) H1
    exact q _ H1 (s1.pop.push fun _ _ => by unfold Rp; rfl) e1
  | false =>
    show tb σ H1 Q
    exact h2 T σ H1 s1.pop Q fun v H2 s2 e2 => q v H2 s2 (e1.trans e2)
theorem ev_notV (h1 : Ev F ta Γ (.dat (.bl a))) : Ev F (tNotV ta) Γ (.dat (.bl (!a))) := fun T σ H s Q q => h1 T σ H s _ fun v H1 s1 e1 => by
  obtain ⟨B, _, r⟩ := s1.topd
  exact ⟨a, rp_bl r, q _ H1 (s1.pop.push fun _ _ => by unfold Rp; rfl) e1⟩
end
end Sm
namespace Sm
open PySem L2
def inB {α : Type} (xs : List α) (i : Int) : Prop := -(xs.length : Int) ≤ i ∧ i < xs.length
instance {α : Type} (xs : List α) (i : Int) : Decidable (inB xs i) := by unfold inB; infer_instance
def ixI {α : Type} (xs : List α) (i : Int) : Nat := if 0 ≤ i then i.toNat else (i + xs.length).toNat
def getI {α : Type} [Inhabited α] (xs : List α) (i : Int) : α := xs.getD (ixI xs i) default
def cutL {α : Type} (xs : List α) (lo hi : Option Int) : List α := (xs.drop (HT.sIx xs.length 0 lo)).take (HT.sIx xs.length xs.length hi - HT.sIx xs.length 0 lo)
def setI {α : Type} (xs : List α) (i : Int) (x : α) : List α := xs.set (ixI xs i) x
theorem ixN_of {n : Nat} {i : Int} (h : -(n : Int) ≤ i ∧ i < n) : ixN n i = some (if 0 ≤ i then i.toNat else (i + n).toNat) := by
  unfold ixN
  by_cases p : 0 ≤ i
  · rw [if_pos p, if_pos h.2, if_pos p]
  · rw [if_neg p, if_pos h.1, if_neg p]
theorem ixI_lt {α : Type} {xs : List α} {i : Int} (h : inB xs i) : ixI xs i < xs.length := by
  unfold inB at h; unfold ixI
  split <;> omega
theorem atI_of {α : Type} {xs : List α} {i : Int} (h : inB xs i) : atI xs i = xs[ixI xs i]? := by
  unfold atI
  rw [ixN_of h]
  rfl
theorem getI_get {α : Type} [Inhabited α] {xs : List α} {i : Int} (h : inB xs i) : xs[ixI xs i]? = some (getI xs i) := by
  have q := ixI_lt h
  unfold getI
  rw [List.getD_eq_getElem?_getD, List.getElem?_eq_getElem q]
  rfl
def sgn (c : Nat) : Str := ⟨#[c]⟩
def getS (z : Str) (i : Int) : Nat := z.cps.toList.getD (ixI z.cps.toList i) 0
def inS (z : Str) (i : Int) : Prop := z.length ≤ 16777216 ∧ inB z.cps.toList i
instance (z : Str) (i : Int) : Decidable (inS z i) := by unfold inS; infer_instance
theorem line_le {n : Nat} (h : n ≤ 16777216) : n ≤ sizeLine := by rw [sizeLine_eq]; exact h
theorem line_lt {n : Nat} (h : n < 16777216) : n < sizeLine := by rw [sizeLine_eq]; exact h
section
variable {F : Fx} {Γ Γ' : List Ent} {T : List (V × Own)} {σ : L2.St} {H H' : Hp} {v : V} {t : Own}
def EvL (F : Fx) (te : TE) (Γ : List Ent) (ds : List Dt) : Prop :=
  ∀ T σ H, Stt F Γ T σ H → ∀ Q : VK, (∀ l vs H', H' l = some (.lst vs) → Stt F Γ ((.ref l, .rv vs ds) :: T) σ H' → Same H H' → Q (.ref l) H') → te σ H Q
def EvQ (F : Fx) (te : TE) (Γ : List Ent) (d : Dt) : Prop :=
  ∀ T σ H, Stt F Γ T σ H → ∀ Q : VK, (∀ v H', Rp F.K H' d v → Stt F Γ T σ H' → Same H H' → Q v H') → te σ H Q
theorem Stt.rvs {vs : List V} {ds : List Dt} (h : Stt F Γ ((v, .rv vs ds) :: T) σ H) : ∃ B, Same B H ∧ RpA F.K B ds vs := by
  obtain ⟨B, O1, O2, a, _, _, p, _⟩ := h.top
  unfold Ow at a
  exact ⟨B, p.bh, a.1⟩
theorem Stt.derive {vs : List V} {ds : List Dt} {d : Dt} (h : Stt F Γ ((v, .rv vs ds) :: T) σ H) {u : V} (k : ∀ B, Same B H → RpA F.K B ds vs → Rp F.K B d u) : Stt F Γ ((u, .dat d) :: T) σ H := by
  obtain ⟨B, O1, O2, a, s, d', p, q⟩ := h.top
  unfold Ow at a
  obtain ⟨r, rfl⟩ := a
  exact ⟨B, _, slots_own (ow_dat (k B p.bh r)) s emp_dj, p, q⟩
variable {ta tb te : TE} {ds es : List Dt} {d e : Dt} {i j : Int}
theorem el_dat (h : Ev F te Γ (.dat (.lst ds))) : EvL F te Γ ds := fun T σ H s Q q => h T σ H s Q fun v H' s' e => by
  obtain ⟨B, O1, O2, a, b, c, p, i⟩ := s'.top
  obtain ⟨r, rfl⟩ := a.rp
  unfold Rp at r
  obtain ⟨l, vs, rfl, hl, ra⟩ := r
  exact q l vs H' (p.bh l _ hl) ⟨B, _, slots_own (show Ow F.K B (.rv vs ds) emp (.ref l) by unfold Ow; exact ⟨ra, rfl⟩) b emp_dj, p, i⟩ e
theorem el_own (h : Ev F te Γ (.lst (ds.map Own.dat))) : EvL F te Γ ds := fun T σ H s Q q => h T σ H s Q fun v H' s' e => by
  obtain ⟨B, O1, O2, a, b, c, p, i⟩ := s'.top
  unfold Ow at a
  obtain ⟨l, vs, O', rfl, oa, n, rfl⟩ := a
  obtain ⟨r, rfl⟩ := oa.dats
  refine q l vs H' (p.oh l _ (jn_some upd_same)) ⟨B, jn emp O2, slots_own (show Ow F.K B (.rv vs ds) emp (.ref l) by unfold Ow; exact ⟨r, rfl⟩) b emp_dj, ?_, i⟩ e
  rw [emp_jn]
  exact p.dropL c
theorem el_var {n : Nat} (h : Γ[n]? = some (some (.lst (ds.map Own.dat)))) : EvL F (tVar n) Γ ds := fun T σ H s Q q => by
  obtain ⟨B, O, s1, p, i⟩ := s
  have e' : (T.map (fun p => some p.2) ++ Γ)[T.length + n]? = some (some (.lst (ds.map Own.dat))) := by
    rw [List.getElem?_append_right (by simp)]
    simpa using h
  obtain ⟨v, O1, O2, e1, a, dj, rfl, _⟩ := s1.at e'
  unfold Ow at a
  obtain ⟨l, vs, O', rfl, oa, n', rfl⟩ := a
  obtain ⟨r, rfl⟩ := oa.dats
  refine ⟨.ref l, ?_, q l vs H (p.oh l _ (jn_some upd_same)) ⟨B, _, ?_, p, i⟩ (Same.refl _)⟩
  · rw [List.getElem?_append_right (by simp)] at e1
    simpa using e1
  · have z := slots_own (show Ow F.K B (.rv vs ds) emp (.ref l) by unfold Ow; exact ⟨r, rfl⟩) s1 emp_dj
    rw [emp_jn] at z
    exact z
theorem eq_dat (h : Ev F te Γ (.dat d)) : EvQ F te Γ d := fun T σ H s Q q => h T σ H s Q fun v H' s' e => by
  obtain ⟨B, eb, r⟩ := s'.topd
  exact q v H' (r.mono eb) s'.pop e
theorem eq_l (h : EvL F te Γ ds) : EvQ F te Γ (.lst ds) := fun T σ H s Q q => h T σ H s Q fun l vs H' hl s' e => by
  obtain ⟨B, eb, r⟩ := s'.rvs
  refine q _ H' ?_ s'.pop e
  unfold Rp
  exact ⟨l, vs, rfl, hl, r.mono eb⟩
theorem ev_eqD (h1 : EvQ F ta Γ d) (h2 : EvQ F tb Γ e) (p1 : d.pl = true) (p2 : e.pl = true) (s1 : SeqAt.shaped d.py = true) (s2 : SeqAt.shaped e.py = true) : Ev F (tOp (rEqD F.K) ta tb) Γ (.dat (.bl (PyData.eqv d.py e.py))) := fun T σ H s Q q =>
  h1 T σ H s _ fun v H1 r1 st1 e1 => h2 T σ H1 st1 _ fun u H2 r2 st2 e2 =>
    ⟨d.py, e.py, (r1.mono e2).dp p1, r2.dp p2, s1, s2, q _ H2 (st2.push fun _ _ => by unfold Rp; rfl) (e1.trans e2)⟩
def SttA (F : Fx) (Γ : List Ent) (T : List (V × Own)) (vs : List V) (ds : List Dt) (σ : L2.St) (H : Hp) : Prop :=
  ∃ B O, RpA F.K B ds vs ∧ Slots F.K B (T.map (fun p => some p.2) ++ Γ) O (T.map (fun p => some p.1) ++ σ) ∧ Post F.B F.O F.H B O H ∧ ∀ p ∈ F.ins, σ[p.1]? = some (some p.2)
def EvA (F : Fx) (ta : TA) (Γ : List Ent) (ds : List Dt) : Prop :=
  ∀ T σ H, Stt F Γ T σ H → ∀ Q : List V → Hp → Prop, (∀ vs H', SttA F Γ T vs ds σ H' → Same H H' → Q vs H') → ta σ H Q
theorem SttA.nil (h : Stt F Γ T σ H) : SttA F Γ T [] [] σ H := by
  obtain ⟨B, O, s, p, q⟩ := h
  exact ⟨B, O, rpa_nil, s, p, q⟩
theorem SttA.cons {vs : List V} (h : SttA F Γ ((v, .dat d) :: T) vs ds σ H) : SttA F Γ T (v :: vs) (d :: ds) σ H := by
  obtain ⟨B, O, r, s, p, q⟩ := h
  rw [List.map_cons, List.map_cons] at s
  unfold Slots at s
  obtain ⟨w, r', O1, O2, e, a, b, c, rfl⟩ := s
  cases e
  obtain ⟨ra, rfl⟩ := a.rp
  exact ⟨B, O2, rpa_cons ra r, b, by rw [emp_jn] at p; exact p, q⟩
theorem ea_nil : EvA F tNil Γ [] := fun T σ H s Q q => q [] H (SttA.nil s) (Same.refl _)
theorem ea_cons {tr : TA} (h1 : Ev F te Γ (.dat d)) (h2 : EvA F tr Γ ds) : EvA F (tCons te tr) Γ (d :: ds) := fun T σ H s Q q =>
  h1 T σ H s _ fun v H1 s1 e1 => h2 _ σ H1 s1 _ fun vs H2 s2 e2 => q (v :: vs) H2 s2.cons (e1.trans e2)
theorem SttA.tup {vs : List V} (h : SttA F Γ T vs ds σ H) {p : Addr} (hp : H p = none) : Stt F Γ ((.ref p, .dat (.tup ds)) :: T) σ (upd H p (.tup vs)) := by
  obtain ⟨B, O, r, s, P, q⟩ := h
  have nB := none_of_same P.bh hp
  refine ⟨upd B p (.tup vs), O, ?_, P.newB hp, q⟩
  have k : Rp F.K (upd B p (.tup vs)) (.tup ds) (.ref p) := by
    unfold Rp
    exact ⟨p, vs, rfl, SqT.of upd_same, r.mono (same_upd nB)⟩
  have z := slots_own (ow_dat k) (s.mono (same_upd nB)) emp_dj
  rw [emp_jn] at z
  exact z
theorem SttA.lst {vs : List V} (h : SttA F Γ T vs ds σ H) {p : Addr} (hp : H p = none) : Stt F Γ ((.ref p, .lst (ds.map Own.dat)) :: T) σ (upd H p (.lst vs)) := by
  obtain ⟨B, O, r, s, P, q⟩ := h
  have hs : Stt F Γ T σ H := ⟨B, O, s, P, q⟩
  have n : O p = none := none_of_same P.oh hp
  have dd : Dj (upd emp p (.lst vs)) O := Dj.upd emp_dj n
  have ee : jn (upd emp p (.lst vs)) O = upd O p (.lst vs) := by rw [← upd_jn, emp_jn]
  refine ⟨B, jn (upd emp p (.lst vs)) O, slots_own ?_ s dd, ?_, q⟩
  · unfold Ow
    exact ⟨p, vs, emp, rfl, owa_dats r, rfl, rfl⟩
  · rw [ee]
    exact P.newO hp fun xs z => nomatch z
theorem ev_tup {ta : TA} (h : EvA F ta Γ ds) (hl : ds.length ≤ 1000) : Ev F (tTup ta) Γ (.dat (.tup ds)) := fun T σ H s Q q =>
  h T σ H s _ fun vs H1 s1 e1 => by
    have el : vs.length = ds.length := by obtain ⟨B, O, r, _⟩ := s1; exact r.length
    refine ⟨by rw [el]; exact line_le (by omega), fun p hp => ?_⟩
    exact q _ _ (s1.tup hp) (e1.trans (same_upd hp))
theorem ev_lst {ta : TA} (h : EvA F ta Γ ds) (hl : ds.length ≤ 1000) : Ev F (tLst ta) Γ (.lst (ds.map Own.dat)) := fun T σ H s Q q =>
  h T σ H s _ fun vs H1 s1 e1 => by
    have el : vs.length = ds.length := by obtain ⟨B, O, r, _⟩ := s1; exact r.length
    refine ⟨by rw [el]; exact line_le (by omega), fun p hp => ?_⟩
    exact q _ _ (s1.lst hp) (e1.trans (same_upd hp))
theorem ev_frz (h : Ev F te Γ (.lst (ds.map Own.dat))) : Ev F te Γ (.dat (.lst ds)) := fun T σ H s Q q => h T σ H s Q fun v H' s' e => q v H' s'.freeze e
theorem Stt.newL {vs us : List V} (h : Stt F Γ ((v, .rv vs ds) :: T) σ H) {p : Addr} (hp : H p = none) (k : ∀ B, RpA F.K B ds vs → RpA F.K B es us) : Stt F Γ ((.ref p, .lst (es.map Own.dat)) :: T) σ (upd H p (.lst us)) := by
  obtain ⟨B, O1, O2, a, s, d', P, q⟩ := h.top
  unfold Ow at a
  obtain ⟨r, rfl⟩ := a
  rw [emp_jn] at P
  exact SttA.lst ⟨B, O2, k B r, s, P, q⟩ hp
theorem Stt.newL2 {vs us ws : List V} {gs : List Dt} {u : V} (h : Stt F Γ ((u, .rv us es) :: (v, .rv vs ds) :: T) σ H) {p : Addr} (hp : H p = none) (k : ∀ B, RpA F.K B ds vs → RpA F.K B es us → RpA F.K B gs ws) :
    Stt F Γ ((.ref p, .lst (gs.map Own.dat)) :: T) σ (upd H p (.lst ws)) := by
  obtain ⟨B, O1, O2, a, s, d', P, q⟩ := h.top
  unfold Ow at a
  obtain ⟨r, rfl⟩ := a
  rw [emp_jn] at P
  rw [List.map_cons, List.map_cons] at s
  unfold Slots at s
  obtain ⟨w, r', P1, P2, e, a2, b, c, rfl⟩ := s
  cases e
  unfold Ow at a2
  obtain ⟨r2, rfl⟩ := a2
  rw [emp_jn] at P
  exact SttA.lst ⟨B, P2, k B r2 r, b, P, q⟩ hp
theorem ev_lenL (h : EvL F te Γ ds) : Ev F (tCB (fun xs H Q => ∃ p ys, xs = [.ref p] ∧ (SqL F.K H p ys ∨ SqT F.K H p ys) ∧ Q (.int ys.length) H) (tCons te tNil)) Γ (.dat (.int ds.length)) := fun T σ H s Q q =>
  h T σ H s _ fun l vs H1 hl s1 e1 => ⟨l, vs, rfl, .inl (SqL.of hl), by
    obtain ⟨B, eb, r⟩ := s1.rvs
    rw [r.length]
    exact q _ H1 (s1.pop.push fun _ _ => by unfold Rp; rfl) e1⟩
theorem ev_lenT (h : Ev F te Γ (.dat (.tup ds))) : Ev F (tCB (fun xs H Q => ∃ p ys, xs = [.ref p] ∧ (SqL F.K H p ys ∨ SqT F.K H p ys) ∧ Q (.int ys.length) H) (tCons te tNil)) Γ (.dat (.int ds.length)) := fun T σ H s Q q =>
  h T σ H s _ fun v H1 s1 e1 => by
    obtain ⟨B, eb, r⟩ := s1.topd
    unfold Rp at r
    obtain ⟨a, xs, rfl, hs, ra⟩ := r
    refine ⟨a, xs, rfl, .inr (sqt_mono eb hs), ?_⟩
    rw [ra.length]
    exact q _ H1 (s1.pop.push fun _ _ => by unfold Rp; rfl) e1
theorem ev_lenX {ns : List Int} (h : Ev F te Γ (.dat (.scr ns))) : Ev F (tCB (fun xs H Q => ∃ p ys, xs = [.ref p] ∧ (SqL F.K H p ys ∨ SqT F.K H p ys) ∧ Q (.int ys.length) H) (tCons te tNil)) Γ (.dat (.int ns.length)) := fun T σ H s Q q =>
  h T σ H s _ fun v H1 s1 e1 => by
    obtain ⟨B, eb, r⟩ := s1.topd
    unfold Rp at r
    obtain ⟨a, rfl, hs⟩ := r
    refine ⟨a, _, rfl, .inl (sql_mono eb hs), ?_⟩
    rw [List.length_map]
    exact q _ H1 (s1.pop.push fun _ _ => by unfold Rp; rfl) e1
theorem ev_lenS {x : Str} (hx : x.length ≤ 16777216) (h : Ev F te Γ (.dat (.str x))) : Ev F (tCB (fun xs H Q => ∃ z, xs = [.str z] ∧ z.length ≤ sizeLine ∧ Q (.int z.length) H) (tCons te tNil)) Γ (.dat (.int x.length)) := fun T σ H s Q q =>
  h T σ H s _ fun v H1 s1 e1 => by
    obtain ⟨B, eb, r⟩ := s1.topd
    exact ⟨x, by rw [rp_str r], line_le hx, q _ H1 (s1.pop.push fun _ _ => by unfold Rp; rfl) e1⟩
theorem ev_ixL {α : Type} [Inhabited α] {enc : α → Dt} {xs : List α} (hb : inB xs i) (h1 : EvL F ta Γ (xs.map enc)) (h2 : Ev F tb Γ (.dat (.int i))) : Ev F (tOp (rIxL F.K) ta tb) Γ (.dat (enc (getI xs i))) := fun T σ H s Q q =>
  h1 T σ H s _ fun l vs H1 hl s1 e1 => h2 _ σ H1 s1 _ fun u H2 s2 e2 => by
    obtain ⟨B, eb, r⟩ := s2.topd
    have s3 := s2.pop
    obtain ⟨B', eb', ra⟩ := s3.rvs
    have hl' : vs.length = xs.length := by rw [ra.length, List.length_map]
    have hb' : inB vs i := by unfold inB at hb ⊢; rw [hl']; exact hb
    have ix : ixI vs i = ixI xs i := by unfold ixI; rw [hl']
    obtain ⟨w, hw⟩ : ∃ w, vs[ixI vs i]? = some w := ⟨_, List.getElem?_eq_getElem (ixI_lt hb')⟩
    refine ⟨l, vs, i, w, rfl, rp_int r, SqL.of (e2 l _ hl), by rw [atI_of hb', hw], ?_⟩
    refine q w H2 (s3.derive fun B2 _ rb => ?_) (e1.trans e2)
    have hg : (xs.map enc)[ixI xs i]? = some (enc (getI xs i)) := by rw [List.getElem?_map, getI_get hb]; rfl
    obtain ⟨w', e', rw'⟩ := rb.get hg
    rw [← ix, hw] at e'
    cases e'
    exact rw'
theorem ev_ixT {α : Type} [Inhabited α] {enc : α → Dt} {xs : List α} (hb : inB xs i) (h1 : Ev F ta Γ (.dat (.tup (xs.map enc)))) (h2 : Ev F tb Γ (.dat (.int i))) : Ev F (tOp (rIxT F.K) ta tb) Γ (.dat (enc (getI xs i))) :=
  ev_op h1 h2 fun Γ T σ H x y s Q q => by
    obtain ⟨B, O1, O2, a, b, c, p, ii⟩ := s.top
    rw [List.map_cons, List.map_cons] at b
    unfold Slots at b
    obtain ⟨w, r', P1, P2, e, a2, b2, c2, rfl⟩ := b
    cases e
    obtain ⟨r1, rfl⟩ := a.rp
    obtain ⟨r2, rfl⟩ := a2.rp
    unfold Rp at r2
    obtain ⟨a', vs, rfl, hs, ra⟩ := r2
    have hl' : vs.length = xs.length := by rw [ra.length, List.length_map]
    have hb' : inB vs i := by unfold inB at hb ⊢; rw [hl']; exact hb
    have ix : ixI vs i = ixI xs i := by unfold ixI; rw [hl']
    have hg : (xs.map enc)[ixI xs i]? = some (enc (getI xs i)) := by rw [List.getElem?_map, getI_get hb]; rfl
    obtain ⟨u, e', ru⟩ := ra.get hg
    rw [← ix] at e'
    refine ⟨a', vs, i, u, rfl, rp_int r1, sqt_mono p.bh hs, by rw [atI_of hb', e'], q u H ⟨B, _, slots_own (ow_dat ru) b2 emp_dj, ?_, ii⟩ (Same.refl _)⟩
    rw [emp_jn, emp_jn] at p
    rw [emp_jn]
    exact p
theorem ev_ixC {n : Nat} (hn : ds[n]? = some d) (h1 : Ev F ta Γ (.dat (.tup ds))) (h2 : Ev F tb Γ (.dat (.int i))) (hi : ixN ds.length i = some n := by rfl) : Ev F (tOp (rIxT F.K) ta tb) Γ (.dat d) :=
  ev_op h1 h2 fun Γ T σ H x y s Q q => by
    obtain ⟨B, O1, O2, a, b, c, p, ii⟩ := s.top
    rw [List.map_cons, List.map_cons] at b
    unfold Slots at b
    obtain ⟨w, r', P1, P2, e, a2, b2, c2, rfl⟩ := b
    cases e
    obtain ⟨r1, rfl⟩ := a.rp
    obtain ⟨r2, rfl⟩ := a2.rp
    unfold Rp at r2
    obtain ⟨a', vs, rfl, hs, ra⟩ := r2
    obtain ⟨u, e', ru⟩ := ra.get hn
    refine ⟨a', vs, i, u, rfl, rp_int r1, sqt_mono p.bh hs, ?_, q u H ⟨B, _, slots_own (ow_dat ru) b2 emp_dj, ?_, ii⟩ (Same.refl _)⟩
    · unfold atI
      rw [ra.length, hi]
      exact e'
    · rw [emp_jn, emp_jn] at p
      rw [emp_jn]
      exact p
theorem ev_ixX {ns : List Int} (hb : inB ns i) (h1 : Ev F ta Γ (.dat (.scr ns))) (h2 : Ev F tb Γ (.dat (.int i))) : Ev F (tOp (rIxL F.K) ta tb) Γ (.dat (.int (getI ns i))) :=
  ev_op h1 h2 (op2_val _ (fun B => by unfold Rp; rfl) fun B H x y Q eb h1 h2 q => by
    unfold Rp at h1
    obtain ⟨a, rfl, hs⟩ := h1
    refine ⟨a, _, i, .int (getI ns i), rfl, rp_int h2, sql_mono eb hs, ?_, q⟩
    have hb' : inB (ns.map V.int) i := by unfold inB at hb ⊢; rw [List.length_map]; exact hb
    rw [atI_of hb']
    have ix : ixI (ns.map V.int) i = ixI ns i := by unfold ixI; rw [List.length_map]
    rw [ix, List.getElem?_map, getI_get hb]
    rfl)
theorem ev_ixS {z : Str} (hb : inS z i) (h1 : Ev F ta Γ (.dat (.str z))) (h2 : Ev F tb Γ (.dat (.int i))) : Ev F (tOp rIxS ta tb) Γ (.dat (.str (sgn (getS z i)))) :=
  ev_op h1 h2 (op2_val _ (fun B => by unfold Rp; rfl) fun B H x y Q eb h1 h2 q => by
    refine ⟨z, i, getS z i, rp_str h1, rp_int h2, line_le hb.1, ?_, q⟩
    rw [atI_of hb.2, getI_get hb.2]
    rfl)
def EvO (F : Fx) (to : TO) (Γ : List Ent) (o : Option Int) : Prop :=
  ∀ T σ H, Stt F Γ T σ H → ∀ Q : Option Int → Hp → Prop, (∀ H', Stt F Γ T σ H' → Same H H' → Q o H') → to σ H Q
theorem eo_no : EvO F tNoPart Γ none := fun T σ H s Q q => q H s (Same.refl _)
theorem eo_some (h : Ev F te Γ (.dat (.int i))) : EvO F (tPart te) Γ (some i) := fun T σ H s Q q => h T σ H s _ fun v H1 s1 e1 => by
  obtain ⟨B, eb, r⟩ := s1.topd
  exact ⟨i, rp_int r, q H1 s1.pop e1⟩
variable {tl th : TO} {lo hi : Option Int}
theorem cutL_map {α β : Type} (f : α → β) (xs : List α) (lo hi : Option Int) : cutL (xs.map f) lo hi = (cutL xs lo hi).map f := by
  unfold cutL
  rw [List.length_map, List.map_take, List.map_drop]
theorem RpA.cut {K : PySem.W.Frag} {B : Hp} {vs : List V} (h : RpA K B ds vs) (lo hi : Option Int) : RpA K B (cutL ds lo hi) (cutV vs lo hi) := by
  unfold cutL cutV
  rw [h.length]
  exact (h.drop _).take _
theorem ev_slL (h : EvL F te Γ ds) (hl : EvO F tl Γ lo) (hh : EvO F th Γ hi) : Ev F (tSl (rSlL F.K) te tl th) Γ (.lst ((cutL ds lo hi).map Own.dat)) := fun T σ H s Q q =>
  h T σ H s _ fun l vs H1 hv s1 e1 => hl _ σ H1 s1 _ fun H2 s2 e2 => hh _ σ H2 s2 _ fun H3 s3 e3 =>
    ⟨l, vs, rfl, SqL.of (e3 l _ (e2 l _ hv)), fun p hp => q _ _ (s3.newL hp fun B r => r.cut lo hi) (((e1.trans e2).trans e3).trans (same_upd hp))⟩
theorem ev_slX {ns : List Int} (h : Ev F te Γ (.dat (.scr ns))) (hl : EvO F tl Γ lo) (hh : EvO F th Γ hi) : Ev F (tSl (rSlL F.K) te tl th) Γ (.lst (((cutL ns lo hi).map Dt.int).map Own.dat)) := fun T σ H s Q q =>
  h T σ H s _ fun v H1 s1 e1 => hl _ σ H1 s1 _ fun H2 s2 e2 => hh _ σ H2 s2 _ fun H3 s3 e3 => by
    obtain ⟨B, eb, r⟩ := s3.topd
    unfold Rp at r
    obtain ⟨a, rfl, hs⟩ := r
    refine ⟨a, _, rfl, sql_mono eb hs, fun p hp => q _ _ ?_ (((e1.trans e2).trans e3).trans (same_upd hp))⟩
    have k : cutV (ns.map V.int) lo hi = (cutL ns lo hi).map V.int := cutL_map V.int ns lo hi
    rw [k]
    obtain ⟨B, O, s4, P, ii⟩ := s3.pop
    exact SttA.lst ⟨B, O, rpa_of_ints, s4, P, ii⟩ hp
theorem ev_slS {z : Str} (hz : z.length ≤ 16777216) (h : Ev F te Γ (.dat (.str z))) (hl : EvO F tl Γ lo) (hh : EvO F th Γ hi) : Ev F (tSl rSlS te tl th) Γ (.dat (.str (cutS z lo hi))) := fun T σ H s Q q =>
  h T σ H s _ fun v H1 s1 e1 => hl _ σ H1 s1 _ fun H2 s2 e2 => hh _ σ H2 s2 _ fun H3 s3 e3 => by
    obtain ⟨B, eb, r⟩ := s3.topd
    exact ⟨z, rp_str r, line_le hz, q _ H3 (s3.pop.push fun _ _ => by unfold Rp; rfl) ((e1.trans e2).trans e3)⟩
theorem ev_cat (hb : ds.length + es.length ≤ 16777216) (h1 : EvL F ta Γ ds) (h2 : EvL F tb Γ es) : Ev F (tOp rCat ta tb) Γ (.lst ((ds ++ es).map Own.dat)) := fun T σ H s Q q =>
  h1 T σ H s _ fun l vs H1 hv s1 e1 => h2 _ σ H1 s1 _ fun m us H2 hu s2 e2 => by
    obtain ⟨B, eb, r⟩ := s2.rvs
    obtain ⟨B', eb', r'⟩ := s2.pop.rvs
    refine ⟨l, m, vs, us, rfl, rfl, e2 l _ hv, hu, by rw [r.length, r'.length]; exact line_le hb, fun p hp => ?_⟩
    exact q _ _ (s2.newL2 hp fun B a b => a.append b) ((e1.trans e2).trans (same_upd hp))
theorem ev_listL (h : EvL F te Γ ds) : Ev F (tCB (fun xs H Q => ∃ p ys, xs = [.ref p] ∧ (SqL F.K H p ys ∨ SqT F.K H p ys) ∧ ∀ l, H l = none → Q (.ref l) (upd H l (.lst ys))) (tCons te tNil)) Γ (.lst (ds.map Own.dat)) := fun T σ H s Q q =>
  h T σ H s _ fun l vs H1 hl s1 e1 => ⟨l, vs, rfl, .inl (SqL.of hl), fun p hp => q _ _ (s1.newL hp fun B r => r) (e1.trans (same_upd hp))⟩
theorem ev_tupleL (h : EvL F te Γ ds) : Ev F (tCB (fun xs H Q => ∃ p ys, xs = [.ref p] ∧ ((SqL F.K H p ys ∧ ∀ l, H l = none → Q (.ref l) (upd H l (.tup ys))) ∨ (SqT F.K H p ys ∧ Q (.ref p) H))) (tCons te tNil)) Γ (.dat (.tup ds)) := fun T σ H s Q q =>
  h T σ H s _ fun l vs H1 hl s1 e1 => ⟨l, vs, rfl, .inl ⟨SqL.of hl, fun p hp => by
    obtain ⟨B, O1, O2, a, b, c, P, ii⟩ := s1.top
    unfold Ow at a
    obtain ⟨r, rfl⟩ := a
    rw [emp_jn] at P
    exact q _ _ (SttA.tup ⟨B, O2, r, b, P, ii⟩ hp) (e1.trans (same_upd hp))⟩⟩
theorem ev_catS {x y : Str} (hb : x.length + y.length ≤ 16777216) (h1 : Ev F ta Γ (.dat (.str x))) (h2 : Ev F tb Γ (.dat (.str y))) :
    Ev F (tOp (fun x y H Q => ∃ i j, x = .str i ∧ y = .str j ∧ i.length + j.length ≤ sizeLine ∧ Q (.str (i ++ j)) H) ta tb) Γ (.dat (.str (x ++ y))) :=
  ev_op h1 h2 (op2_val _ (fun B => by unfold Rp; rfl) fun B H a b Q eb h1 h2 q => ⟨x, y, rp_str h1, rp_str h2, line_le hb, q⟩)
end
end Sm
namespace Sm
open PySem L2
def R.guard {α : Type} (p : Prop) [Decidable p] (k : R α) : R α := if p then k else .bad
def R.calm {α : Type} : R α → R α
  | .ok a => .ok a
  | _ => .bad
def foldR {α S : Type} (f : α → S → R S) : List α → S → R S
  | [], s => .ok s
  | x :: xs, s => (f x s).bind (foldR f xs)
inductive Ctl (S ρ : Type) where
  | nx (s : S) | rt (r : ρ) | bk (s : S)
def Ctl.step {S ρ : Type} (c : Ctl S ρ) (k : S → R (Ctl S ρ)) : R (Ctl S ρ) := match c with
  | .nx s => k s
  | .bk s => .ok (.nx s)
  | .rt r => .ok (.rt r)
def forR {α S ρ : Type} (f : α → S → R (Ctl S ρ)) : List α → S → R (Ctl S ρ)
  | [], s => .ok (.nx s)
  | x :: xs, s => (f x s).bind fun c => c.step (forR f xs)
def Ctl.fin {S ρ : Type} (c : Ctl S ρ) (k : S → R ρ) : R ρ := match c with
  | .nx s => k s
  | .bk s => k s
  | .rt r => .ok r
def whileR {S ρ : Type} (c : S → R Bool) (f : S → R (Ctl S ρ)) : Nat → S → R (Ctl S ρ)
  | 0, _ => .bad
  | n + 1, s => (c s).bind fun b => match b with
    | false => .ok (.nx s)
    | true => (f s).bind fun c' => c'.step (whileR c f n)
def mapR {α β : Type} (f : α → R β) : List α → R (List β)
  | [] => .ok []
  | x :: xs => (f x).calm.bind fun y => (mapR f xs).bind fun ys => .ok (y :: ys)
def rng (lo hi : Int) : List Int := (List.range (hi - lo).toNat).map fun (i : Nat) => lo + (i : Int)
def ErrAt (Ce : Exn → Addr) (E : XK) (e : Exn) (H : Hp) : Prop := match e with
  | .noDealing r => ∀ d, H d = some (.xd [(("row" : Str), V.int r)]) → E (.ref (Ce e)) (some d) H
  | _ => E (.ref (Ce e)) none H
structure WOk (F : Fx) (Γe : List Ent) (Er : L2.St → Exn → Hp → Prop) {ρ : Type} (W : R ρ → Prop) : Prop where
  bad : ¬ W .bad
  err : ∀ e, W (.err e) → ∀ σ H, Stt F Γe [] σ H → Er σ e H
section
variable {F : Fx} {Γ Γ' Γe : List Ent} {T : List (V × Own)} {σ : L2.St} {H H' : Hp} {v : V} {t : Own} {Er : L2.St → Exn → Hp → Prop} {ρ α β S : Type} {W : R ρ → Prop}
theorem R.guard_ok {p : Prop} [Decidable p] {k : R ρ} (ok : WOk F Γe Er W) (h : W (R.guard p k)) : p ∧ W k := by
  unfold R.guard at h
  by_cases c : p
  · rw [if_pos c] at h; exact ⟨c, h⟩
  · rw [if_neg c] at h; exact absurd h ok.bad
theorem WOk.bind (ok : WOk F Γe Er W) (k : α → R ρ) : WOk F Γe Er (fun m : R α => W (m.bind k)) := ⟨ok.bad, ok.err⟩
theorem WOk.drop (ok : WOk F Γe Er W) {Γ2 : List Ent} (w : Wk Γ2 Γe) : WOk F Γ2 Er W := ⟨ok.bad, fun e h σ H s => ok.err e h σ H (s.weak w)⟩
theorem Stt.pops : ∀ {T : List (V × Own)} {H : Hp}, Stt F Γ T σ H → Stt F Γ [] σ H
  | [], _, h => h
  | _ :: T, _, h => Stt.pops (T := T) h.pop
def Wsh (K : PySem.W.Frag) (Ce : Exn → Addr) (B O H : Hp) (Q : VK) (E : XK) (res : α → Own) (outs : α → List Own) (keep : List Own) (iv : List V) : R α → Prop
  | .ok a => ∀ v B' O' H', Post B O H B' O' H' → OwA K B' (res a :: outs a) O' (v :: iv) → Q v H'
  | .err e => ∀ B' O' H', Post B O H B' O' H' → OwA K B' keep O' iv → ErrAt Ce E e H'
  | .bad => False
def spF {X : Type} (K : PySem.W.Frag) (Ce : Exn → Addr) (n : Nat) (insN : List Nat) (argT : X → List Own) (m : X → R α) (res : α → Own) (outs : α → List Own) (keep : X → List Own) : Sp := fun vs H Q E =>
  ∃ (x : X) (B O : Hp), (argT x).length = n ∧ OwA K B (argT x) O vs ∧ Same B H ∧ Same O H ∧ (Dj B O ∧ NT O) ∧ Wsh K Ce B O H Q E res outs (keep x) (insN.filterMap fun i => vs[i]?) (m x)
abbrev spD {X : Type} (K : PySem.W.Frag) (Ce : Exn → Addr) (n : Nat) (argT : X → List Dt) (m : X → R α) (res : α → Own) : Sp :=
  spF K Ce n [] (fun x => (argT x).map Own.dat) m res (fun _ => []) (fun _ => [])
theorem spF_len {X : Type} {K : PySem.W.Frag} {Ce : Exn → Addr} {n : Nat} {insN : List Nat} {argT : X → List Own} {m : X → R α} {res : α → Own} {outs : α → List Own} {keep : X → List Own} {ps : List Str} (hn : n = ps.length) (vs : List V) (H : Hp) (Q : VK) (E : XK)
    (h : spF K Ce n insN argT m res outs keep vs H Q E) : vs.length = ps.length := by
  obtain ⟨x, B, O, e, oa, _⟩ := h
  rw [oa.length, e, hn]
theorem call_go {X : Type} {Ce : Exn → Addr} {n : Nat} {argT : X → List Dt} {m : X → R α} {res : α → Own} {k : α → R ρ} {vs : List V} {ds : List Dt} {Q : VK} {Ex : XK} (x : X)
    (hx : argT x = ds) (hn : ds.length = n) (A : SttA F Γ T vs ds σ H) (ok : WOk F Γe Er W) (hE : ∀ e H', Er σ e H' → ErrAt Ce Ex e H') (wk : Wk Γ Γe) (hw : W ((m x).bind k))
    (q : ∀ a v H', W (k a) → Stt F Γ ((v, res a) :: T) σ H' → Q v H') : spD F.K Ce n argT m res vs H Q Ex := by
  obtain ⟨B, O, r, s, p, i⟩ := A
  subst hx
  refine ⟨x, B, emp, by rw [List.length_map, hn], owa_dats r, p.bh, fun a o e => (nomatch e), ⟨dj_emp, nt_emp⟩, ?_⟩
  have pe : Post F.B F.O F.H B (jn emp O) H := by rw [emp_jn]; exact p
  cases e : m x with
  | ok a =>
    rw [e] at hw
    intro v B' O' H' P oa
    unfold OwA at oa
    obtain ⟨v', r', O1, O2, e1, a1, b1, d1, rfl⟩ := oa
    cases e1
    unfold OwA at b1
    obtain ⟨_, rfl⟩ := b1
    rw [jn_emp] at P
    obtain ⟨dj', P'⟩ := pe.call emp_dj P
    exact q a v H' hw ⟨B', jn O1 O, slots_own a1 (s.mono P.b0) dj', P', i⟩
  | err ex =>
    rw [e] at hw
    intro B' O' H' P oa
    unfold OwA at oa
    obtain ⟨_, rfl⟩ := oa
    obtain ⟨dj', P'⟩ := pe.call emp_dj P
    rw [emp_jn] at P'
    refine hE ex H' (ok.err ex hw σ H' ?_)
    exact (Stt.pops (T := T) ⟨B', O, s.mono P.b0, P', i⟩).weak wk
  | bad =>
    rw [e] at hw
    exact absurd hw ok.bad
variable {D : Ends} {te : TE} {tt : TT} {t1 t2 : TS} {g : TG}
abbrev NI (F : Fx) (j : Nat) : Prop := ∀ p ∈ F.ins, p.1 ≠ j
theorem q_seq (h : t1 { D with nx := t2 D } σ H) : tSeq t1 t2 D σ H := h
theorem s_next (h : D.nx σ H) : tNext D σ H := h
theorem it_core {J : It} {n : Nat} {g : TG} {tb : TS} (Pv : Nat → L2.St → Hp → Prop) (h0 : Pv 0 σ H)
    (hs : ∀ i σ H, i < n → Pv i σ H → J.go i H ∧ ∀ x H', J.yld i H x H' → g x σ H' fun σ2 H2 => tb { D with nx := Pv (i + 1), ct := Pv (i + 1), bk := D.nx } σ2 H2) (hd : ∀ σ H, Pv n σ H → J.stop n H ∧ D.nx σ H) :
    ∃ W : Nat → Nat → L2.St → Hp → Prop, (∃ m, W 0 m σ H) ∧ ∀ i m σ H, W i m σ H →
      (J.stop i H ∧ D.nx σ H) ∨ (J.go i H ∧ ∃ N : L2.St → Hp → Prop, (∀ σ' H', N σ' H' → ∃ m', m' < m ∧ W (i + 1) m' σ' H') ∧ ∀ x H', J.yld i H x H' → g x σ H' fun σ2 H2 => tb { D with nx := N, ct := N, bk := D.nx } σ2 H2) := by
  refine ⟨fun i m σ H => m = n - i ∧ i ≤ n ∧ Pv i σ H, ⟨n, by simp, Nat.zero_le _, h0⟩, ?_⟩
  rintro i m σ H ⟨rfl, hi, p⟩
  by_cases hlt : i < n
  · obtain ⟨a, b⟩ := hs i σ H hlt p
    exact .inr ⟨a, Pv (i + 1), fun σ' H' p' => ⟨n - (i + 1), by omega, rfl, hlt, p'⟩, b⟩
  · have e : i = n := by omega
    subst e
    exact .inl (hd σ H p)
structure Wks (F : Fx) (J : It) (T : List (V × Own)) (ds : List Dt) : Prop where
  go : ∀ Γ T' σ H i d, Stt F Γ (T' ++ T) σ H → ds[i]? = some d → J.go i H ∧ ∀ x H', J.yld i H x H' → Stt F Γ ((x, .dat d) :: (T' ++ T)) σ H' ∧ Same H H'
  stop : ∀ Γ T' σ H, Stt F Γ (T' ++ T) σ H → J.stop ds.length H
theorem Stt.deep {T' : List (V × Own)} {d : Dt} (h : Stt F Γ (T' ++ (v, .dat d) :: T) σ H) : ∃ B O, Slots F.K B ((T' ++ (v, .dat d) :: T).map (fun p => some p.2) ++ Γ) O ((T' ++ (v, .dat d) :: T).map (fun p => some p.1) ++ σ) ∧ Post F.B F.O F.H B O H ∧ (∀ p ∈ F.ins, σ[p.1]? = some (some p.2)) ∧ Rp F.K B d v := by
  obtain ⟨B, O, s, p, i⟩ := h
  have e : ((T' ++ (v, .dat d) :: T).map (fun p => some p.2) ++ Γ)[T'.length]? = some (some (.dat d)) := by
    rw [List.getElem?_append_left (by simp), List.getElem?_map, List.getElem?_append_right (Nat.le_refl _)]
    simp
  obtain ⟨u, O1, O2, e1, a, _⟩ := s.at e
  rw [List.getElem?_append_left (by simp), List.getElem?_map, List.getElem?_append_right (Nat.le_refl _)] at e1
  simp at e1
  subst e1
  exact ⟨B, O, s, p, i, a.rp.1⟩
def Tg (F : Fx) (g : TG) (d : Dt) (Γ Γ' : List Ent) : Prop := ∀ T σ H x (Q : L2.St → Hp → Prop), Stt F Γ ((x, .dat d) :: T) σ H → (∀ σ' H', Stt F Γ' T σ' H' → Q σ' H') → g x σ H Q
theorem tg_name {j : Nat} {d : Dt} (hj : j < Γ.length) (ni : NI F j) : Tg F (gName j) d Γ (Γ.set j (some (.dat d))) := fun T σ H x Q s q => q _ H (s.assign hj ni)
theorem drop_some {l : List α} {i : Nat} (h : i < l.length) : ∃ x, l[i]? = some x ∧ l.drop i = x :: l.drop (i + 1) := ⟨l[i], List.getElem?_eq_getElem h, List.drop_eq_getElem_cons h⟩
theorem s_fold {J : It} {g : TG} {tb : TS} {xs : List α} {enc : α → Dt} {f : α → S → R S} {k : S → R ρ} {Γs : S → List Ent} {Γb : α → S → List Ent} {s0 : S}
    (wk : Wks F J T (xs.map enc)) (tg : ∀ x s, Tg F g (enc x) (Γs s) (Γb x s)) (h0 : Stt F (Γs s0) T σ H) (ok : WOk F Γe Er W) (hw : W ((foldR f xs s0).bind k))
    (body : ∀ x s (W' : R S → Prop) (N : L2.St → Hp → Prop) σ H, WOk F Γe Er W' → W' (f x s) → Stt F (Γb x s) T σ H → (∀ s' σ' H', W' (.ok s') → Stt F (Γs s') T σ' H' → N σ' H') → tb { D with nx := N, ct := N, bk := D.nx } σ H)
    (hd : ∀ s σ H, W (k s) → Stt F (Γs s) T σ H → D.nx σ H) :
    ∃ W : Nat → Nat → L2.St → Hp → Prop, (∃ m, W 0 m σ H) ∧ ∀ i m σ H, W i m σ H →
      (J.stop i H ∧ D.nx σ H) ∨ (J.go i H ∧ ∃ N : L2.St → Hp → Prop, (∀ σ' H', N σ' H' → ∃ m', m' < m ∧ W (i + 1) m' σ' H') ∧ ∀ x H', J.yld i H x H' → g x σ H' fun σ2 H2 => tb { D with nx := N, ct := N, bk := D.nx } σ2 H2) := by
  refine it_core (n := xs.length) (fun i σ H => ∃ s, Stt F (Γs s) T σ H ∧ W ((foldR f (xs.drop i) s).bind k)) ⟨s0, h0, hw⟩ (fun i σ H hi p => ?_) (fun σ H p => ?_)
  · obtain ⟨s, st, w⟩ := p
    obtain ⟨x, e1, e2⟩ := drop_some hi
    rw [e2] at w
    have w' : W (((f x s).bind (foldR f (xs.drop (i + 1)))).bind k) := w
    obtain ⟨a, b⟩ := wk.go _ [] σ H i (enc x) st (by rw [List.getElem?_map, e1]; rfl)
    refine ⟨a, fun y H' yl => tg x s T σ H' y _ (b y H' yl).1 fun σ' H2 st2 => ?_⟩
    exact body x s (fun m => W ((m.bind (foldR f (xs.drop (i + 1)))).bind k)) _ σ' H2 ⟨ok.bad, ok.err⟩ w' st2 fun s' σ'' H'' w2 st3 => ⟨s', st3, w2⟩
  · obtain ⟨s, st, w⟩ := p
    rw [List.drop_length] at w
    have e := wk.stop _ [] σ H st
    rw [List.length_map] at e
    exact ⟨e, hd s σ H w st⟩
theorem s_for {J : It} {g : TG} {tb : TS} {xs : List α} {enc : α → Dt} {f : α → S → R (Ctl S β)} {k : Ctl S β → R ρ} {Γs : S → List Ent} {Γb : α → S → List Ent} {s0 : S}
    (wk : Wks F J T (xs.map enc)) (tg : ∀ x s, Tg F g (enc x) (Γs s) (Γb x s)) (h0 : Stt F (Γs s0) T σ H) (ok : WOk F Γe Er W) (hw : W ((forR f xs s0).bind k))
    (body : ∀ x s (W' : R (Ctl S β) → Prop) (N Bk : L2.St → Hp → Prop) σ H, WOk F Γe Er W' → (∀ r, W' (.ok (.rt r)) → W (k (.rt r))) → W' (f x s) → Stt F (Γb x s) T σ H → (∀ s' σ' H', W' (.ok (.nx s')) → Stt F (Γs s') T σ' H' → N σ' H') →
      (∀ s' σ' H', W' (.ok (.bk s')) → Stt F (Γs s') T σ' H' → Bk σ' H') → tb { D with nx := N, ct := N, bk := Bk } σ H)
    (hd : ∀ s σ H, W (k (.nx s)) → Stt F (Γs s) T σ H → D.nx σ H) :
    ∃ W : Nat → Nat → L2.St → Hp → Prop, (∃ m, W 0 m σ H) ∧ ∀ i m σ H, W i m σ H →
      (J.stop i H ∧ D.nx σ H) ∨ (J.go i H ∧ ∃ N : L2.St → Hp → Prop, (∀ σ' H', N σ' H' → ∃ m', m' < m ∧ W (i + 1) m' σ' H') ∧ ∀ x H', J.yld i H x H' → g x σ H' fun σ2 H2 => tb { D with nx := N, ct := N, bk := D.nx } σ2 H2) := by
  refine it_core (n := xs.length) (fun i σ H => ∃ s, Stt F (Γs s) T σ H ∧ W ((forR f (xs.drop i) s).bind k)) ⟨s0, h0, hw⟩ (fun i σ H hi p => ?_) (fun σ H p => ?_)
  · obtain ⟨s, st, w⟩ := p
    obtain ⟨x, e1, e2⟩ := drop_some hi
    rw [e2] at w
    have w' : W (((f x s).bind fun c => c.step (forR f (xs.drop (i + 1)))).bind k) := w
    obtain ⟨a, b⟩ := wk.go _ [] σ H i (enc x) st (by rw [List.getElem?_map, e1]; rfl)
    refine ⟨a, fun y H' yl => tg x s T σ H' y _ (b y H' yl).1 fun σ' H2 st2 => ?_⟩
    exact body x s (fun m => W ((m.bind fun c => c.step (forR f (xs.drop (i + 1)))).bind k)) _ _ σ' H2 ⟨ok.bad, ok.err⟩ (fun r w => w) w' st2 (fun s' σ'' H'' w2 st3 => ⟨s', st3, w2⟩) fun s' σ'' H'' w2 st3 => hd s' σ'' H'' w2 st3
  · obtain ⟨s, st, w⟩ := p
    rw [List.drop_length] at w
    have e := wk.stop _ [] σ H st
    rw [List.length_map] at e
    exact ⟨e, hd s σ H w st⟩
theorem wks_list {a : Addr} {ds : List Dt} : Wks F (Itl F.K a) ((.ref a, .dat (.lst ds)) :: T) ds where
  go := fun Γ T' σ H i d s e => by
    obtain ⟨B, O, s1, p, ii, r⟩ := s.deep
    unfold Rp at r
    obtain ⟨l, vs, el, hl, ra⟩ := r
    cases el
    obtain ⟨u, e1, ru⟩ := ra.get e
    refine ⟨⟨vs, u, SqL.of (p.bh _ _ hl), e1⟩, fun x H' y => ?_⟩
    obtain ⟨rfl, y⟩ := y
    have := y vs (SqL.of (p.bh _ _ hl))
    rw [e1] at this
    cases this
    refine ⟨⟨B, _, slots_own (ow_dat ru) s1 emp_dj, ?_, ii⟩, Same.refl _⟩
    rw [emp_jn]
    exact p
  stop := fun Γ T' σ H s => by
    obtain ⟨B, O, s1, p, ii, r⟩ := s.deep
    unfold Rp at r
    obtain ⟨l, vs, el, hl, ra⟩ := r
    cases el
    exact ⟨vs, SqL.of (p.bh _ _ hl), by rw [ra.length]; exact Nat.le_refl _⟩
theorem wks_tup {a : Addr} {ds : List Dt} : Wks F (Itt F.K a) ((.ref a, .dat (.tup ds)) :: T) ds where
  go := fun Γ T' σ H i d s e => by
    obtain ⟨B, O, s1, p, ii, r⟩ := s.deep
    unfold Rp at r
    obtain ⟨l, vs, el, hl, ra⟩ := r
    cases el
    obtain ⟨u, e1, ru⟩ := ra.get e
    refine ⟨⟨vs, u, sqt_mono p.bh hl, e1⟩, fun x H' y => ?_⟩
    obtain ⟨rfl, y⟩ := y
    have := y vs (sqt_mono p.bh hl)
    rw [e1] at this
    cases this
    refine ⟨⟨B, _, slots_own (ow_dat ru) s1 emp_dj, ?_, ii⟩, Same.refl _⟩
    rw [emp_jn]
    exact p
  stop := fun Γ T' σ H s => by
    obtain ⟨B, O, s1, p, ii, r⟩ := s.deep
    unfold Rp at r
    obtain ⟨l, vs, el, hl, ra⟩ := r
    cases el
    exact ⟨vs, sqt_mono p.bh hl, by rw [ra.length]; exact Nat.le_refl _⟩
theorem wks_rng {lo : Int} {n : Nat} : Wks F (Itr lo n) T (((List.range n).map fun (i : Nat) => lo + (i : Int)).map Dt.int) where
  go := fun Γ T' σ H i d s e => by
    rw [List.getElem?_map, List.getElem?_map] at e
    cases en : (List.range n)[i]? with
    | none => rw [en] at e; cases e
    | some j =>
      rw [en] at e
      cases e
      obtain ⟨h1, h2⟩ := List.getElem?_eq_some_iff.mp en
      rw [List.getElem_range] at h2
      subst h2
      rw [List.length_range] at h1
      refine ⟨h1, fun x H' y => ?_⟩
      obtain ⟨rfl, rfl⟩ := y
      exact ⟨s.push fun _ _ => by unfold Rp; rfl, Same.refl _⟩
  stop := fun Γ T' σ H s => by show n ≤ _; simp
variable {tl : TE} {ds : List Dt} {Ri : It → Hp → Prop}
end
end Sm
namespace Sm
open PySem L2
theorem R.bind_assoc {α β γ : Type} (m : R α) (f : α → R β) (g : β → R γ) : (m.bind f).bind g = m.bind fun a => (f a).bind g := by cases m <;> rfl
theorem R.ok_bind {α β : Type} (a : α) (f : α → R β) : (R.ok a).bind f = f a := rfl
section
variable {F : Fx} {Γ Γ' Γe : List Ent} {T : List (V × Own)} {σ : L2.St} {H H' : Hp} {v : V} {t : Own} {Er : L2.St → Exn → Hp → Prop} {ρ α β S : Type} {W : R ρ → Prop} {D : Ends}
theorem slots_of {K : PySem.W.Frag} {B : Hp} (n : Nat) : ∀ {ts : List Own} {O : Hp} {vs : List V}, OwA K B ts O vs → Slots K B (ts.map some ++ List.replicate n none) O (vs.map some ++ List.replicate n none)
  | [], O, vs, h => by
    unfold OwA at h
    obtain ⟨rfl, rfl⟩ := h
    show Slots K B (List.replicate n none) emp (List.replicate n none)
    induction n with
    | zero => exact ⟨rfl, rfl⟩
    | succ n ih => exact slots_un ih
  | t :: ts, O, vs, h => by
    unfold OwA at h
    obtain ⟨v, r, O1, O2, rfl, a, b, c, rfl⟩ := h
    exact slots_own a (slots_of n b) c
theorem spD_start {X : Type} {K : PySem.W.Frag} {Ce : Exn → Addr} {n : Nat} {argT : X → List Dt} {m : X → R α} {res : α → Own} {vs : List V} {Q : VK} {E : XK} (N : List Str) (h : spD K Ce n argT m res vs H Q E) :
    ∃ (x : X) (F : Fx) (W : R α → Prop), K = F.K ∧ (∀ j, NI F j) ∧ Stt F (((argT x).map Own.dat).map some ++ List.replicate (N.length - n) none) [] (L2.start N vs) H ∧ W (m x) ∧ (∀ Γe, WOk F Γe (fun _ => ErrAt Ce E) W) ∧
      ∀ a v T Γ σ H', W (.ok a) → Stt F Γ ((v, res a) :: T) σ H' → Q v H' := by
  obtain ⟨x, B, O, hn, oa, s1, s2, ⟨dj, nt⟩, hw⟩ := h
  have el : vs.length = n := by rw [oa.length, hn]
  refine ⟨x, ⟨K, B, O, H, []⟩, Wsh K Ce B O H Q E res (fun _ => []) [] [], rfl, fun j p hp => (nomatch hp), ⟨B, O, ?_, Post.refl s1 s2 dj nt, fun p hp => (nomatch hp)⟩, hw, fun Γe => ⟨fun z => z, fun e he σ H' s => ?_⟩, fun a v T Γ σ H' w s => ?_⟩
  · have z := slots_of (N.length - n) oa
    unfold L2.start
    rw [el]
    exact z
  · obtain ⟨B', O', sl, p, _⟩ := s
    have p' : Post B O H B' (jn emp O') H' := by rw [emp_jn]; exact p
    exact he B' emp H' p'.dropR owa_nil
  · obtain ⟨B', O1, O2, a1, _, _, p, _⟩ := s.top
    have z := w v B' (jn O1 emp) H' (by rw [jn_emp]; exact p.dropR)
    exact z (owa_cons a1 owa_nil dj_emp)
theorem wipe_get {σ : L2.St} {i : Nat} : ∀ {vs : List Nat}, (wipe σ vs)[i]? = if i ∈ vs ∧ i < σ.length then some none else σ[i]?
  | [] => by simp [wipe]
  | v :: vs => by
    unfold wipe
    by_cases e : v = i
    · subst e
      by_cases l : v < σ.length
      · rw [List.getElem?_set_self (by rw [wipe_length]; exact l)]
        simp [l]
      · rw [List.getElem?_eq_none (by rw [List.length_set, wipe_length]; omega)]
        simp [l]
        try omega
    · rw [List.getElem?_set_ne e, wipe_get]
      have e' : ¬ i = v := fun z => e z.symm
      simp [e']
theorem wipe_wipe (σ : L2.St) (vs : List Nat) : wipe (wipe σ vs) vs = wipe σ vs := by
  apply List.ext_getElem?
  intro i
  rw [wipe_get, wipe_get, wipe_length]
  by_cases h : i ∈ vs ∧ i < σ.length
  · rw [if_pos h, if_pos h]
  · rw [if_neg h]
theorem wipe_set (σ : L2.St) {vs : List Nat} {j : Nat} (x : Option V) (h : j ∈ vs) : wipe (σ.set j x) vs = wipe σ vs := by
  apply List.ext_getElem?
  intro i
  rw [wipe_get, wipe_get, List.length_set]
  by_cases c : i ∈ vs ∧ i < σ.length
  · rw [if_pos c, if_pos c]
  · rw [if_neg c, if_neg c]
    by_cases e : j = i
    · subst e
      have : ¬ j < σ.length := fun z => c ⟨h, z⟩
      rw [List.getElem?_eq_none (by rw [List.length_set]; omega), List.getElem?_eq_none (by omega)]
    · rw [List.getElem?_set_ne e]
def NoneAt (F : Fx) (Γ : List Ent) : List Nat → Prop
  | [] => True
  | v :: vs => (Γ[v]? = some none ∧ NI F v) ∧ NoneAt F Γ vs
theorem set_none {l : List Ent} {i : Nat} (h : l[i]? = some none) : l.set i none = l := by
  apply List.ext_getElem?
  intro j
  by_cases e : i = j
  · subst e; rw [List.getElem?_set_self (List.getElem?_eq_some_iff.mp h).1, h]
  · rw [List.getElem?_set_ne e]
theorem Slots.irr {K : PySem.W.Frag} {B : Hp} : ∀ {Γ : List Ent} {O : Hp} {σ : L2.St} {i : Nat} {x : Option V}, Slots K B Γ O (σ.set i x) → Γ[i]? = some none → Slots K B Γ O σ
  | [], _, _, _, _, _, e => by simp at e
  | none :: Γ, O, [], i, x, h, e => h
  | none :: Γ, O, y :: σ, 0, x, h, e => by
    unfold Slots at h
    obtain ⟨z, r, e1, b⟩ := h
    rw [List.set_cons_zero] at e1
    cases e1
    exact slots_un b
  | none :: Γ, O, y :: σ, i + 1, x, h, e => by
    unfold Slots at h
    obtain ⟨z, r, e1, b⟩ := h
    rw [List.set_cons_succ] at e1
    cases e1
    exact slots_un (Slots.irr b (by simpa using e))
  | some t :: Γ, O, [], i, x, h, e => h
  | some t :: Γ, O, y :: σ, 0, x, h, e => by simp at e
  | some t :: Γ, O, y :: σ, i + 1, x, h, e => by
    unfold Slots at h
    obtain ⟨v, r, O1, O2, e1, a, b, c, rfl⟩ := h
    rw [List.set_cons_succ] at e1
    cases e1
    exact slots_own a (Slots.irr b (by simpa using e)) c
theorem Stt.irr {i : Nat} {x : Option V} (h : Stt F Γ T (σ.set i x) H) (e : Γ[i]? = some none) (ni : NI F i) : Stt F Γ T σ H := by
  obtain ⟨B, O, s, p, q⟩ := h
  refine ⟨B, O, ?_, p, fun z hz => ?_⟩
  · have k : (T.map (fun p => some p.1) ++ σ).set (T.length + i) x = T.map (fun p => some p.1) ++ σ.set i x := by
      rw [List.set_append_right _ _ (by simp)]
      simp
    rw [← k] at s
    exact s.irr (by rw [List.getElem?_append_right (by simp)]; simpa using e)
  · have := q z hz
    rw [List.getElem?_set_ne (Ne.symm (ni z hz))] at this
    exact this
theorem Stt.setN {i : Nat} {x : Option V} (h : Stt F Γ T σ H) (e : Γ[i]? = some none) (ni : NI F i) : Stt F Γ T (σ.set i x) H := by
  obtain ⟨B, O, s, p, q⟩ := h
  have e' : (T.map (fun p => some p.2) ++ Γ)[T.length + i]? = some none := by
    rw [List.getElem?_append_right (by simp)]
    simpa using e
  obtain ⟨Od, O3, d, rfl, _, k⟩ := s.put (List.getElem?_eq_some_iff.mp e').1
  have z := k x
  rw [set_none e', List.set_append_right _ _ (by simp)] at z
  simp only [List.length_map, Nat.add_sub_cancel_left] at z
  exact ⟨B, O3, z, p.dropL d, fun z hz => by rw [List.getElem?_set_ne (Ne.symm (ni z hz))]; exact q z hz⟩
theorem Stt.wiped : ∀ {vs : List Nat} {σ : L2.St}, Stt F Γ T σ H → NoneAt F Γ vs → Stt F Γ T (wipe σ vs) H
  | [], σ, h, _ => h
  | v :: vs, σ, h, ⟨⟨e, ni⟩, n⟩ => (Stt.wiped h n).setN e ni
theorem Stt.unwiped : ∀ {vs : List Nat} {σ : L2.St}, Stt F Γ T (wipe σ vs) H → NoneAt F Γ vs → Stt F Γ T σ H
  | [], σ, h, _ => h
  | v :: vs, σ, h, ⟨⟨e, ni⟩, n⟩ => Stt.unwiped (h.irr e ni) n
def TgW (F : Fx) (g : TG) (d : Dt) (Γ Γ' : List Ent) (vs : List Nat) : Prop := ∀ T σ σ0 H x (Q : L2.St → Hp → Prop), wipe σ vs = wipe σ0 vs → Stt F Γ ((x, .dat d) :: T) σ H →
  (∀ σ' H', wipe σ' vs = wipe σ0 vs → Stt F Γ' T σ' H' → Same H H' → Q σ' H') → g x σ H Q
theorem tgw_name {j : Nat} {d : Dt} {vs : List Nat} (hj : j < Γ.length) (ni : NI F j) (hv : j ∈ vs) : TgW F (gName j) d Γ (Γ.set j (some (.dat d))) vs := fun T σ σ0 H x Q e s q =>
  q _ H ((wipe_set σ _ hv).trans e) (s.assign hj ni) (Same.refl _)
theorem Stt.appTop {d : Dt} {ds : List Dt} {l : Addr} (h : Stt F Γ ((v, .dat d) :: (.ref l, .lst (ds.map Own.dat)) :: T) σ H) :
    ∃ us, H l = some (.lst us) ∧ us.length = ds.length ∧ Stt F Γ ((.ref l, .lst ((ds ++ [d]).map Own.dat)) :: T) σ (upd H l (.lst (us ++ [v]))) := by
  obtain ⟨B, O1, O2, a, s, c, p, i⟩ := h.top
  obtain ⟨r, rfl⟩ := a.rp
  rw [emp_jn] at p
  rw [List.map_cons, List.map_cons] at s
  unfold Slots at s
  obtain ⟨w, r', P1, P2, e1, a2, b, d2, rfl⟩ := s
  cases e1
  unfold Ow at a2
  obtain ⟨l', us, O', el, oa, n, rfl⟩ := a2
  cases el
  obtain ⟨ra, rfl⟩ := oa.dats
  have p4 := p.mut (a := l) (o := .lst (us ++ [v])) (jn_some upd_same)
  rw [upd_jn, upd_upd] at p4
  refine ⟨us, p.oh l _ (jn_some upd_same), ra.length, B, _, slots_own (O1 := upd emp l (.lst (us ++ [v]))) ?_ b ?_, p4, i⟩
  · unfold Ow
    exact ⟨l, _, emp, rfl, owa_dats (ra.append (RpA.one r)), rfl, rfl⟩
  · refine Dj.upd emp_dj ?_
    rcases d2 l with x | x
    · rw [upd_same] at x; cases x
    · exact x
theorem Stt.nilTop {l : Addr} (h : Stt F Γ T σ H) (hl : H l = none) : Stt F Γ ((.ref l, .lst (([] : List Dt).map Own.dat)) :: T) σ (upd H l (.lst [])) := SttA.lst (SttA.nil h) hl
def Nb (L : Addr) (H0 H : Hp) : Prop := ∀ a o, a ≠ L → H0 a = some o → H a = some o
theorem nb_new {L : Addr} {o : HO} (h : H L = none) : Nb L H (upd H L o) := fun a u n e => by rw [upd_ne n]; exact e
theorem Nb.same {L : Addr} {H0 H1 H2 : Hp} (h : Nb L H0 H1) (s : Same H1 H2) : Nb L H0 H2 := fun a o n e => s a o (h a o n e)
theorem Nb.upd {L : Addr} {H0 H1 : Hp} {o : HO} (h : Nb L H0 H1) : Nb L H0 (upd H1 L o) := fun a u n e => by rw [upd_ne n]; exact h a u n e
theorem Nb.out {L : Addr} {H0 H1 : Hp} (h : Nb L H0 H1) (n : H0 L = none) : Same H0 H1 := fun a o e => h a o (ne_of_none e n) e
theorem lc_go {Γx : List Ent} {J : It} {g : TG} {te : TE} {vs : List Nat} {xs : List α} {enc : α → Dt} {encB : β → Dt} {f : α → R β} {k : List β → R ρ} {Γb : α → List Ent} {Q : VK}
    (wk : Wks F J T (xs.map enc)) (hn : NoneAt F Γ vs) (tg : ∀ x, TgW F g (enc x) Γ (Γb x) vs) (wkb : ∀ x, Wk (Γb x) Γ) (hl : xs.length ≤ 16777216) (hst : Stt F Γ T σ H) (ok : WOk F Γe Er W) (hw : W ((mapR f xs).bind k))
    (body : ∀ x T' (W' : R β → Prop) σ' H' (Qe : VK), WOk F Γx (fun _ _ _ => False) W' → W' (f x) → Stt F (Γb x) T' σ' H' → (∀ y v H'', W' (.ok y) → Stt F (Γb x) ((v, .dat (encB y)) :: T') σ' H'' → Same H' H'' → Qe v H'') → te σ' H' Qe)
    (q : ∀ ys v H', W (k ys) → Stt F Γ ((v, .lst ((ys.map encB).map Own.dat)) :: T) σ H' → Same H H' → Q v H') :
    ∀ L, H L = none → ∃ W : Nat → Nat → Hp → Prop, (∃ m, W 0 m (upd H L (.lst []))) ∧ ∀ i m H, W i m H →
      (J.stop i H ∧ Q (.ref L) H) ∨ (J.go i H ∧ ∃ Nx : Hp → Prop, (∀ H', Nx H' → ∃ m', m' < m ∧ W (i + 1) m' H') ∧ ∀ x H', J.yld i H x H' → g x (wipe σ vs) H' fun σ2 H2 => wipe σ2 vs = wipe σ vs ∧ tYes σ2 H2 fun b H3 =>
        if b = true then te σ2 H3 fun y H4 => ∃ acc, H4 L = some (.lst acc) ∧ acc.length < sizeLine ∧ Nx (upd H4 L (.lst (acc ++ [y]))) else Nx H3) := by
  intro L hL
  let H0 := H
  refine ⟨fun i m H => m = xs.length - i ∧ i ≤ xs.length ∧ ∃ acc : List β, acc.length = i ∧ Stt F Γ ((.ref L, .lst ((acc.map encB).map Own.dat)) :: T) (wipe σ vs) H ∧ W ((mapR f (xs.drop i)).bind fun ys => k (acc ++ ys)) ∧ Nb L H0 H,
    ⟨xs.length, by simp, Nat.zero_le _, [], rfl, (hst.wiped hn).nilTop hL, hw, nb_new hL⟩, ?_⟩
  rintro i m H1 ⟨rfl, hi, acc, ha, st, w, nb⟩
  by_cases hlt : i < xs.length
  · obtain ⟨x, e1, e2⟩ := drop_some hlt
    rw [e2] at w
    obtain ⟨a, b⟩ := wk.go Γ [_] _ H1 i (enc x) st (by rw [List.getElem?_map, e1]; rfl)
    refine .inr ⟨a, fun H' => ∃ acc : List β, acc.length = i + 1 ∧ Stt F Γ ((.ref L, .lst ((acc.map encB).map Own.dat)) :: T) (wipe σ vs) H' ∧ W ((mapR f (xs.drop (i + 1))).bind fun ys => k (acc ++ ys)) ∧ Nb L H0 H',
      fun H' ⟨acc', h1, h2, h3, h4⟩ => ⟨xs.length - (i + 1), by omega, rfl, hlt, acc', h1, h2, h3, h4⟩, fun y H' yl => ?_⟩
    have sy := (b y H' yl).2
    refine tg x _ _ σ H' y _ (wipe_wipe σ vs) (b y H' yl).1 fun σ2 H2 ew st2 sa2 => ⟨ew, ?_⟩
    show te σ2 H2 _
    have w' : W ((((f x).calm.bind fun y => (mapR f (xs.drop (i + 1))).bind fun ys => .ok (y :: ys))).bind fun ys => k (acc ++ ys)) := w
    refine body x _ (fun m => W (((m.calm.bind fun y => (mapR f (xs.drop (i + 1))).bind fun ys => .ok (y :: ys))).bind fun ys => k (acc ++ ys))) σ2 H2 _ ⟨ok.bad, fun e he _ _ _ => ok.bad he⟩ w' st2 fun y u H3 wy st3 sa3 => ?_
    obtain ⟨us, h1, h2, h3⟩ := st3.appTop
    have nb3 := ((nb.same sy).same sa2).same sa3
    refine ⟨us, h1, ?_, acc ++ [y], by simp [ha], ?_, ?_, nb3.upd⟩
    · rw [h2, List.length_map, ha]
      exact line_lt (by omega)
    · have z : Stt F Γ ((.ref L, .lst ((((acc ++ [y]).map encB)).map Own.dat)) :: T) σ2 (upd H3 L (.lst (us ++ [u]))) := by
        rw [List.map_append]
        exact h3.weak (wkb x)
      have z2 := z.wiped hn
      rw [ew] at z2
      exact z2
    · have w2 : W (((mapR f (xs.drop (i + 1))).bind fun ys => .ok (y :: ys)).bind fun ys => k (acc ++ ys)) := wy
      rw [R.bind_assoc] at w2
      have e3 : (fun ys => (R.ok (y :: ys)).bind fun ys => k (acc ++ ys)) = fun ys => k (acc ++ [y] ++ ys) := by
        funext ys
        rw [R.ok_bind, List.append_assoc]
        rfl
      rw [e3] at w2
      exact w2
  · have e : i = xs.length := by omega
    subst e
    rw [List.drop_length] at w
    have w2 : W (k (acc ++ [])) := w
    rw [List.append_nil] at w2
    have z := wk.stop Γ [_] _ H1 st
    rw [List.length_map] at z
    exact .inl ⟨z, q acc _ H1 w2 (st.unwiped hn) (nb.out hL)⟩
theorem s_while {tc : TT} {tb : TS} {c : S → R Bool} {f : S → R (Ctl S β)} {n : Nat} {k : Ctl S β → R ρ} {Γs : S → List Ent} {s0 : S}
    (h0 : Stt F (Γs s0) T σ H) (ok : WOk F Γe Er W) (hw : W ((whileR c f n s0).bind k))
    (cond : ∀ s (W' : R Bool → Prop) σ H (Q : Bool → Hp → Prop), WOk F Γe Er W' → W' (c s) → Stt F (Γs s) T σ H → (∀ b H', W' (.ok b) → Stt F (Γs s) T σ H' → Q b H') → tc σ H Q)
    (body : ∀ s (W' : R (Ctl S β) → Prop) (N Bk : L2.St → Hp → Prop) σ H, WOk F Γe Er W' → (∀ r, W' (.ok (.rt r)) → W (k (.rt r))) → W' (f s) → Stt F (Γs s) T σ H → (∀ s' σ' H', W' (.ok (.nx s')) → Stt F (Γs s') T σ' H' → N σ' H') →
      (∀ s' σ' H', W' (.ok (.bk s')) → Stt F (Γs s') T σ' H' → Bk σ' H') → tb { D with nx := N, ct := N, bk := Bk } σ H)
    (hd : ∀ s σ H, W (k (.nx s)) → Stt F (Γs s) T σ H → D.nx σ H) : tWhile tc tb D σ H := by
  refine ⟨fun n σ H => ∃ s, Stt F (Γs s) T σ H ∧ W ((whileR c f n s).bind k), ⟨n, s0, h0, hw⟩, ?_⟩
  rintro m σ H ⟨s, st, w⟩
  cases m with
  | zero => exact absurd w ok.bad
  | succ m =>
    have w' : W (((c s).bind fun b => match b with
      | false => .ok (.nx s)
      | true => (f s).bind fun c' => c'.step (whileR c f m)).bind k) := w
    refine cond s (fun mb => W ((mb.bind fun b => match b with
      | false => .ok (.nx s)
      | true => (f s).bind fun c' => c'.step (whileR c f m)).bind k)) σ H _ ⟨ok.bad, ok.err⟩ w' st fun b H1 wb st1 => ?_
    cases b with
    | false => exact hd s σ H1 wb st1
    | true =>
      refine ⟨fun σ' H' => ∃ s, Stt F (Γs s) T σ' H' ∧ W ((whileR c f m s).bind k), fun σ' H' p => ⟨m, Nat.lt_succ_self m, p⟩, ?_⟩
      exact body s (fun mb => W ((mb.bind fun c' => c'.step (whileR c f m)).bind k)) _ _ σ H1 ⟨ok.bad, ok.err⟩ (fun r z => z) wb st1 (fun s' σ' H' w2 s2 => ⟨s', s2, w2⟩) fun s' σ' H' w2 s2 => hd s' σ' H' w2 s2
end
end Sm
namespace Sm
open PySem L2
section
variable {F : Fx} {Γ Γ' Γe : List Ent} {T : List (V × Own)} {σ : L2.St} {H H' : Hp} {v : V} {t : Own} {Er : L2.St → Exn → Hp → Prop} {ρ α β S : Type} {W : R ρ → Prop} {D : Ends} {ta tb tc te : TE} {i j k : Int} {ds es : List Dt} {d e : Dt}
theorem inV_int {i : Int} : ∀ {ns : List Int}, inV (.int i) (ns.map V.int) = decide (i ∈ ns)
  | [] => by simp [inV]
  | n :: ns => by
    have ih := inV_int (i := i) (ns := ns)
    unfold inV at ih ⊢
    rw [List.map_cons, List.any_cons, ih]
    show ((n == i) || decide (i ∈ ns)) = decide (i ∈ n :: ns)
    by_cases h : n = i
    · subst h; simp
    · have h' : ¬ i = n := fun z => h z.symm
      simp [h, h']
theorem inV_str {i : Str} : ∀ {ns : List Str}, inV (.str i) (ns.map V.str) = decide (i ∈ ns)
  | [] => by simp [inV]
  | n :: ns => by
    have ih := inV_str (i := i) (ns := ns)
    unfold inV at ih ⊢
    rw [List.map_cons, List.any_cons, ih]
    show ((n == i) || decide (i ∈ ns)) = decide (i ∈ n :: ns)
    by_cases h : n = i
    · subst h; simp
    · have h' : ¬ i = n := fun z => h z.symm
      simp [h, h']
theorem flat_ints : ∀ ns : List Int, (ns.map V.int).all flatV = true
  | [] => rfl
  | _ :: ns => by rw [List.map_cons, List.all_cons, flat_ints ns]; rfl
theorem flat_strs : ∀ ns : List Str, (ns.map V.str).all flatV = true
  | [] => rfl
  | _ :: ns => by rw [List.map_cons, List.all_cons, flat_strs ns]; rfl
theorem ev_inTI {neg : Bool} {ns : List Int} (h1 : Ev F ta Γ (.dat (.int i))) (h2 : Ev F tb Γ (.dat (.tup (ns.map Dt.int)))) : Ev F (tOp (rIn F.K neg) ta tb) Γ (.dat (.bl (if neg then !decide (i ∈ ns) else decide (i ∈ ns)))) :=
  ev_op h1 h2 (op2_val _ (fun B => by unfold Rp; rfl) fun B H x y Q eb h1 h2 q => by
    rw [rp_int h1]
    unfold Rp at h2
    obtain ⟨a, xs, rfl, hs, ra⟩ := h2
    rw [rpa_ints ra] at hs
    exact ⟨a, _, rfl, .inr (sqt_mono eb hs), rfl, flat_ints ns, by rw [inV_int]; exact q⟩)
theorem ev_inTS {neg : Bool} {s : Str} {ns : List Str} (h1 : Ev F ta Γ (.dat (.str s))) (h2 : Ev F tb Γ (.dat (.tup (ns.map Dt.str)))) : Ev F (tOp (rIn F.K neg) ta tb) Γ (.dat (.bl (if neg then !decide (s ∈ ns) else decide (s ∈ ns)))) :=
  ev_op h1 h2 (op2_val _ (fun B => by unfold Rp; rfl) fun B H x y Q eb h1 h2 q => by
    rw [rp_str h1]
    unfold Rp at h2
    obtain ⟨a, xs, rfl, hs, ra⟩ := h2
    rw [rpa_strs ra] at hs
    exact ⟨a, _, rfl, .inr (sqt_mono eb hs), rfl, flat_strs ns, by rw [inV_str]; exact q⟩)
theorem ev_chain {g1 g2 : Int → Int → Bool} (h1 : Ev F ta Γ (.dat (.int i))) (h2 : Ev F tb Γ (.dat (.int j))) (h3 : Ev F tc Γ (.dat (.int k))) :
    Ev F (tChain (rI0 fun i j => .bl (g1 i j)) (rI0 fun i j => .bl (g2 i j)) ta tb tc) Γ (.dat (.bl (g1 i j && g2 j k))) := fun T σ H s Q q =>
  h1 T σ H s _ fun x H1 s1 e1 => h2 _ σ H1 s1 _ fun y H2 s2 e2 => by
    obtain ⟨B, _, r1, r2⟩ := s2.topd2
    refine ⟨i, j, rp_int r1, rp_int r2, g1 i j, rfl, ?_⟩
    cases c : g1 i j with
    | true =>
      rw [if_pos rfl]
      refine h3 _ σ H2 s2.pop.pop _ fun z H3 s3 e3 => ?_
      obtain ⟨B, _, r3⟩ := s3.topd
      refine ⟨j, k, rp_int r2, rp_int r3, ?_⟩
      rw [c] at q
      exact q _ H3 (s3.pop.push fun _ _ => by unfold Rp; rfl) ((e1.trans e2).trans e3)
    | false =>
      rw [if_neg Bool.false_ne_true]
      rw [c] at q
      exact q _ H2 (s2.pop.pop.push fun _ _ => by unfold Rp; rfl) (e1.trans e2)
theorem SttA.split {xs : List V} (h : SttA F Γ T xs (d :: ds) σ H) : ∃ v r, xs = v :: r ∧ ∃ B O, RpA F.K B ds r ∧ Slots F.K B (((v, Own.dat d) :: T).map (fun p => some p.2) ++ Γ) O (((v, Own.dat d) :: T).map (fun p => some p.1) ++ σ) ∧ Post F.B F.O F.H B O H ∧ ∀ p ∈ F.ins, σ[p.1]? = some (some p.2) := by
  obtain ⟨B, O, r, sl, p, i⟩ := h
  unfold RpA at r
  obtain ⟨v, r', rfl, h1, h2⟩ := r
  refine ⟨v, r', rfl, B, jn emp O, h2, slots_own (ow_dat h1) sl emp_dj, ?_, i⟩
  rw [emp_jn]
  exact p
theorem SttA.assign {xs : List V} {v : V} {jn_ : Nat} (h : ∃ B O, RpA F.K B ds xs ∧ Slots F.K B (((v, Own.dat d) :: T).map (fun p => some p.2) ++ Γ) O (((v, Own.dat d) :: T).map (fun p => some p.1) ++ σ) ∧ Post F.B F.O F.H B O H ∧ ∀ p ∈ F.ins, σ[p.1]? = some (some p.2))
    (hj : jn_ < Γ.length) (ni : NI F jn_) : SttA F (Γ.set jn_ (some (.dat d))) T xs ds (σ.set jn_ (some v)) H := by
  obtain ⟨B, O, r, sl, p, q⟩ := h
  rw [List.map_cons, List.map_cons] at sl
  unfold Slots at sl
  obtain ⟨w, r', O1, O2, e1, a, s, c, rfl⟩ := sl
  cases e1
  have s : Slots F.K B (T.map (fun p => some p.2) ++ Γ) O2 (T.map (fun p => some p.1) ++ σ) := s
  have hl : T.length + jn_ < (T.map (fun p => some p.2) ++ Γ).length := by simp; omega
  obtain ⟨Od, O3, d3, rfl, q1, _⟩ := s.put hl
  refine ⟨B, jn O1 O3, r, ?_, ?_, fun p hp => by rw [List.getElem?_set_ne (Ne.symm (ni p hp))]; exact q p hp⟩
  · have z := q1 B _ O1 v (Same.refl _) a (Dj.rr c)
    rw [List.set_append_right _ _ (by simp), List.set_append_right _ _ (by simp)] at z
    simpa using z
  · rw [jn_swap (Dj.rl c)] at p
    exact p.dropL (Dj.jnr (Dj.rl c).symm d3)
theorem ev_globT {a : Addr} {xs : List V} (h : ∀ H, SqT F.K H a xs) (r : ∀ B, RpA F.K B ds xs) : Ev F (tC (.ref a)) Γ (.dat (.tup ds)) := fun T σ H s Q q => q _ H (s.push fun B _ => by
  unfold Rp
  exact ⟨a, xs, rfl, h B, r B⟩) (Same.refl _)
end
end Sm
namespace Sm
open PySem L2
theorem R.bind_ok {α : Type} (m : R α) : m.bind R.ok = m := by cases m <;> rfl
def R.and (a b : R Bool) : R Bool := a.bind fun x => match x with
  | true => b
  | false => .ok false
def R.or (a b : R Bool) : R Bool := a.bind fun x => match x with
  | true => .ok true
  | false => b
def gR (j : Int) : Prop := -(2 ^ 62) ≤ j ∧ j < 2 ^ 62
instance (j : Int) : Decidable (gR j) := by unfold gR; infer_instance
def R.not (a : R Bool) : R Bool := a.bind fun x => .ok (!x)
section
variable {F : Fx} {Γ Γ' Γe : List Ent} {T : List (V × Own)} {σ : L2.St} {H H' : Hp} {v : V} {Er : L2.St → Exn → Hp → Prop} {ρ α β γ S : Type} {W : R ρ → Prop} {D : Ends} {ta tb tc te : TE} {tt uu : TT} {i j : Int} {d e : Dt}
def MV (F : Fx) (Γe : List Ent) (Er : L2.St → Exn → Hp → Prop) (te : TE) (Γ : List Ent) (m : R α) (t : α → Own) : Prop :=
  ∀ (ρ : Type) (W : R ρ → Prop) (k : α → R ρ) T σ H, WOk F Γe Er W → W (m.bind k) → Stt F Γ T σ H → ∀ Q : VK, (∀ a v H', W (k a) → Stt F Γ ((v, t a) :: T) σ H' → Same H H' → Q v H') → te σ H Q
def MT (F : Fx) (Γe : List Ent) (Er : L2.St → Exn → Hp → Prop) (tt : TT) (Γ : List Ent) (m : R Bool) : Prop :=
  ∀ (ρ : Type) (W : R ρ → Prop) (k : Bool → R ρ) T σ H, WOk F Γe Er W → W (m.bind k) → Stt F Γ T σ H → ∀ Q : Bool → Hp → Prop, (∀ a H', W (k a) → Stt F Γ T σ H' → Same H H' → Q a H') → tt σ H Q
def MA (F : Fx) (Γe : List Ent) (Er : L2.St → Exn → Hp → Prop) (ta : TA) (Γ : List Ent) (m : R α) (ds : α → List Dt) : Prop :=
  ∀ (ρ : Type) (W : R ρ → Prop) (k : α → R ρ) T σ H, WOk F Γe Er W → W (m.bind k) → Stt F Γ T σ H → ∀ Q : List V → Hp → Prop, (∀ a vs H', W (k a) → SttA F Γ T vs (ds a) σ H' → Same H H' → Q vs H') → ta σ H Q
def OpM (F : Fx) (r : R2) (tx ty : Own) (m : R γ) (tz : γ → Own) : Prop :=
  ∀ (ρ : Type) (W : R ρ → Prop) (k : γ → R ρ) Γ T σ H x y, ¬ W .bad → W (m.bind k) → Stt F Γ ((y, ty) :: (x, tx) :: T) σ H → ∀ Q : VK, (∀ c z H', W (k c) → Stt F Γ ((z, tz c) :: T) σ H' → Same H H' → Q z H') → r x y H Q
theorem om_ok {r : R2} {tx ty : Own} {tz : γ → Own} {c : γ} (h : Op2 F r tx ty (tz c)) : OpM F r tx ty (.ok c) tz := fun _ W k Γ T σ H x y nb w s Q q => h Γ T σ H x y s Q fun z H' s' e => q c z H' w s' e
theorem om_guard {r : R2} {tx ty : Own} {tz : γ → Own} {p : Prop} [Decidable p] {m : R γ} (h : p → OpM F r tx ty m tz) : OpM F r tx ty (R.guard p m) tz := fun _ W k Γ T σ H x y nb w s Q q => by
  unfold R.guard at w
  by_cases c : p
  · rw [if_pos c] at w; exact h c _ W k Γ T σ H x y nb w s Q q
  · rw [if_neg c] at w; exact absurd w nb
theorem mv_ok {t : α → Own} {a : α} (h : Ev F te Γ (t a)) : MV F Γe Er te Γ (.ok a) t := fun _ W k T σ H ok w s Q q => h T σ H s Q fun v H' s' e => q a v H' w s' e
theorem mv_guard {t : α → Own} {p : Prop} [Decidable p] {m : R α} (h : p → MV F Γe Er te Γ m t) : MV F Γe Er te Γ (R.guard p m) t := fun _ W k T σ H ok w s Q q => by
  unfold R.guard at w
  by_cases c : p
  · rw [if_pos c] at w; exact h c _ W k T σ H ok w s Q q
  · rw [if_neg c] at w; exact absurd w ok.bad
theorem mv_op {r : R2} {tx : α → Own} {ty : α → β → Own} {tz : γ → Own} {m1 : R α} {m2 : α → R β} {m3 : α → β → R γ} (h1 : MV F Γe Er ta Γ m1 tx) (h2 : ∀ a, MV F Γe Er tb Γ (m2 a) (ty a)) (ho : ∀ a b, OpM F r (tx a) (ty a b) (m3 a b) tz) :
    MV F Γe Er (tOp r ta tb) Γ (m1.bind fun a => (m2 a).bind fun b => m3 a b) tz := fun _ W k T σ H ok w s Q q => by
  have w1 : W (m1.bind fun a => ((m2 a).bind fun b => m3 a b).bind k) := by rw [← R.bind_assoc]; exact w
  refine h1 _ W _ T σ H ok w1 s _ fun a x H1 w2 s1 e1 => ?_
  have w3 : W ((m2 a).bind fun b => (m3 a b).bind k) := by rw [← R.bind_assoc]; exact w2
  refine h2 a _ W _ _ σ H1 ok w3 s1 _ fun b y H2 w4 s2 e2 => ?_
  exact ho a b _ W k _ _ σ H2 x y ok.bad w4 s2 Q fun c z H3 w5 s3 e3 => q c z H3 w5 s3 ((e1.trans e2).trans e3)
theorem mv_map {t : α → Own} {u : β → Own} {m : R α} {f : α → β} (h : MV F Γe Er te Γ m t) (e : ∀ a, u (f a) = t a) : MV F Γe Er te Γ (m.bind fun a => .ok (f a)) u := fun _ W k T σ H ok w s Q q => by
  rw [R.bind_assoc] at w
  exact h _ W _ T σ H ok w s _ fun a x H1 w2 s1 e1 => q (f a) x H1 w2 (by rw [e a]; exact s1) e1
theorem mv_frz {ds : α → List Dt} {m : R α} (h : MV F Γe Er te Γ m fun a => .lst ((ds a).map Own.dat)) : MV F Γe Er te Γ m fun a => .dat (.lst (ds a)) := fun _ W k T σ H ok w s Q q =>
  h _ W k T σ H ok w s Q fun a v H' w' s' e => q a v H' w' s'.freeze e
theorem ma_ok {tr : TA} {ds : α → List Dt} {a : α} (h : EvA F tr Γ (ds a)) : MA F Γe Er tr Γ (.ok a) ds := fun _ W k T σ H ok w s Q q => h T σ H s Q fun vs H' s' e => q a vs H' w s' e
theorem ma_guard {tr : TA} {ds : α → List Dt} {p : Prop} [Decidable p] {m : R α} (h : p → MA F Γe Er tr Γ m ds) : MA F Γe Er tr Γ (R.guard p m) ds := fun _ W k T σ H ok w s Q q => by
  unfold R.guard at w
  by_cases c : p
  · rw [if_pos c] at w; exact h c _ W k T σ H ok w s Q q
  · rw [if_neg c] at w; exact absurd w ok.bad
theorem ma_consP {tr : TA} {ds : α → List Dt} {m : R α} (h1 : Ev F te Γ (.dat d)) (h2 : MA F Γe Er tr Γ m ds) : MA F Γe Er (tCons te tr) Γ m (fun a => d :: ds a) := fun _ W k T σ H ok w s Q q =>
  h1 T σ H s _ fun v H1 s1 e1 => h2 _ W k _ σ H1 ok w s1 _ fun a vs H2 w2 s2 e2 => q a (v :: vs) H2 w2 s2.cons (e1.trans e2)
theorem ma_consM {tr : TA} {e1 : α → Dt} {ds : β → List Dt} {m1 : R α} {m2 : α → R β} (h1 : MV F Γe Er te Γ m1 fun a => .dat (e1 a)) (h2 : ∀ a, MA F Γe Er tr Γ (m2 a) ds) : MA F Γe Er (tCons te tr) Γ (m1.bind fun a => (m2 a).bind fun b => .ok (a, b)) (fun p => e1 p.1 :: ds p.2) := fun _ W k T σ H ok w s Q q => by
  rw [R.bind_assoc] at w
  refine h1 _ W _ T σ H ok w s _ fun a v H1 w1 s1 e1 => ?_
  rw [R.bind_assoc] at w1
  exact h2 a _ W _ _ σ H1 ok w1 s1 _ fun b vs H2 w2 s2 e2 => q (a, b) (v :: vs) H2 w2 s2.cons (e1.trans e2)
theorem mv_tup {tr : TA} {ds : α → List Dt} {m : R α} (h : MA F Γe Er tr Γ m ds) (hl : ∀ a, (ds a).length ≤ 1000) : MV F Γe Er (tTup tr) Γ m fun a => .dat (.tup (ds a)) := fun _ W k T σ H ok w s Q q =>
  h _ W k T σ H ok w s _ fun a vs H1 w1 s1 e1 => by
    refine ⟨?_, fun p hp => q a _ _ w1 (SttA.tup s1 hp) (e1.trans (same_upd hp))⟩
    obtain ⟨B, O, r, _⟩ := s1
    rw [r.length]
    exact line_le (Nat.le_trans (hl a) (by decide))
theorem call_goS {X : Type} {Ce : Exn → Addr} {n : Nat} {argT : X → List Dt} {m : X → R α} {res : α → Own} {k : α → R ρ} {vs : List V} {ds : List Dt} {Q : VK} {Ex : XK} (x : X)
    (hx : argT x = ds) (hn : ds.length = n) (A : SttA F Γ T vs ds σ H) (ok : WOk F Γe Er W) (hE : ∀ e H', Er σ e H' → ErrAt Ce Ex e H') (wk : Wk Γ Γe) (hw : W ((m x).bind k))
    (q : ∀ a v H', W (k a) → Stt F Γ ((v, res a) :: T) σ H' → Same H H' → Q v H') : spD F.K Ce n argT m res vs H Q Ex := by
  obtain ⟨B, O, r, s, p, i⟩ := A
  subst hx
  refine ⟨x, B, emp, by rw [List.length_map, hn], owa_dats r, p.bh, fun a o e => (nomatch e), ⟨dj_emp, nt_emp⟩, ?_⟩
  have pe : Post F.B F.O F.H B (jn emp O) H := by rw [emp_jn]; exact p
  cases e : m x with
  | ok a =>
    rw [e] at hw
    intro v B' O' H' P oa
    unfold OwA at oa
    obtain ⟨v', r', O1, O2, e1, a1, b1, d1, rfl⟩ := oa
    cases e1
    unfold OwA at b1
    obtain ⟨_, rfl⟩ := b1
    rw [jn_emp] at P
    obtain ⟨dj', P'⟩ := pe.call emp_dj P
    exact q a v H' hw ⟨B', jn O1 O, slots_own a1 (s.mono P.b0) dj', P', i⟩ fun a o h => P.fr a o h rfl
  | err ex =>
    rw [e] at hw
    intro B' O' H' P oa
    unfold OwA at oa
    obtain ⟨_, rfl⟩ := oa
    obtain ⟨dj', P'⟩ := pe.call emp_dj P
    rw [emp_jn] at P'
    refine hE ex H' (ok.err ex hw σ H' ?_)
    exact (Stt.pops (T := T) ⟨B', O, s.mono P.b0, P', i⟩).weak wk
  | bad =>
    rw [e] at hw
    exact absurd hw ok.bad
theorem mv_call {X : Type} {Ce : Exn → Addr} {n : Nat} {argT : X → List Dt} {m : X → R α} {res : α → Own} {tr : TA} {ds : β → List Dt} {Ex : L2.St → XK} {mx : R β} (x : β → X)
    (ha : MA F Γe Er tr Γ mx ds) (hx : ∀ b, argT (x b) = ds b) (hn : ∀ b, (ds b).length = n) (hE : ∀ σ e H', Er σ e H' → ErrAt Ce (Ex σ) e H') (wk : Wk Γ Γe) :
    MV F Γe Er (tCallS (spD F.K Ce n argT m res) Ex tr) Γ (mx.bind fun b => m (x b)) res := fun _ W k T σ H ok w s Q q => by
  rw [R.bind_assoc] at w
  exact ha _ W _ T σ H ok w s _ fun b vs H1 w1 A e1 => call_goS (x b) (hx b) (hn b) A ok (hE σ) wk w1 fun a v H2 w2 s2 e2 => q a v H2 w2 s2 (e1.trans e2)
theorem mv_callP {X : Type} {Ce : Exn → Addr} {n : Nat} {argT : X → List Dt} {m : X → R α} {res : α → Own} {tr : TA} {ds : List Dt} {Ex : L2.St → XK} (x : X)
    (ha : EvA F tr Γ ds) (hx : argT x = ds) (hn : ds.length = n) (hE : ∀ σ e H', Er σ e H' → ErrAt Ce (Ex σ) e H') (wk : Wk Γ Γe) :
    MV F Γe Er (tCallS (spD F.K Ce n argT m res) Ex tr) Γ (m x) res := fun _ W k T σ H ok w s Q q =>
  ha T σ H s _ fun vs H1 A e1 => call_goS x hx hn A ok (hE σ) wk w fun a v H2 w2 s2 e2 => q a v H2 w2 s2 (e1.trans e2)
theorem mt_ok {b : Bool} (h : EvT F tt Γ b) : MT F Γe Er tt Γ (.ok b) := fun _ W k T σ H ok w s Q q => h T σ H s Q fun H' s' e => q b H' w s' e
theorem mt_guard {p : Prop} [Decidable p] {m : R Bool} (h : p → MT F Γe Er tt Γ m) : MT F Γe Er tt Γ (R.guard p m) := fun _ W k T σ H ok w s Q q => by
  unfold R.guard at w
  by_cases c : p
  · rw [if_pos c] at w; exact h c _ W k T σ H ok w s Q q
  · rw [if_neg c] at w; exact absurd w ok.bad
theorem mt_test {m : R Bool} (h : MV F Γe Er te Γ m fun b => .dat (.bl b)) : MT F Γe Er (tTest te) Γ m := fun _ W k T σ H ok w s Q q => h _ W k T σ H ok w s _ fun b v H' w' s' e => by
  obtain ⟨B, _, r⟩ := s'.topd
  exact ⟨b, rp_bl r, q b H' w' s'.pop e⟩
theorem mt_B {m : R Bool} (h : MV F Γe Er te Γ m fun b => .dat (.bl b)) : MT F Γe Er (tB te) Γ m := fun _ W k T σ H ok w s Q q => h _ W k T σ H ok w s _ fun b v H' w' s' e => by
  obtain ⟨B, _, r⟩ := s'.topd
  exact ⟨b, rp_bl r, q b H' w' s'.pop e⟩
theorem mt_not {m : R Bool} (h : MT F Γe Er tt Γ m) : MT F Γe Er (tNot tt) Γ (R.not m) := fun _ W k T σ H ok w s Q q => by
  unfold R.not at w
  rw [R.bind_assoc] at w
  exact h _ W _ T σ H ok w s _ fun b H' w' s' e => q (!b) H' w' s' e
theorem mt_and {m n : R Bool} (h1 : MT F Γe Er tt Γ m) (h2 : MT F Γe Er uu Γ n) : MT F Γe Er (tAnd tt uu) Γ (R.and m n) := fun _ W k T σ H ok w s Q q => by
  unfold R.and at w
  rw [R.bind_assoc] at w
  refine h1 _ W _ T σ H ok w s _ fun b H1 w1 s1 e1 => ?_
  cases b with
  | true =>
    show uu σ H1 Q
    exact h2 _ W k T σ H1 ok w1 s1 Q fun a H2 w2 s2 e2 => q a H2 w2 s2 (e1.trans e2)
  | false =>
    show Q false H1
    exact q false H1 w1 s1 e1
theorem mt_or {m n : R Bool} (h1 : MT F Γe Er tt Γ m) (h2 : MT F Γe Er uu Γ n) : MT F Γe Er (tOr tt uu) Γ (R.or m n) := fun _ W k T σ H ok w s Q q => by
  unfold R.or at w
  rw [R.bind_assoc] at w
  refine h1 _ W _ T σ H ok w s _ fun b H1 w1 s1 e1 => ?_
  cases b with
  | true =>
    show Q true H1
    exact q true H1 w1 s1 e1
  | false =>
    show uu σ H1 Q
    exact h2 _ W k T σ H1 ok w1 s1 Q fun a H2 w2 s2 e2 => q a H2 w2 s2 (e1.trans e2)
abbrev oB : Bool → Own := fun b => .dat (.bl b)
theorem s_asgM {t : α → Own} {m : R α} {k : α → R ρ} {j : Nat} (hst : Stt F Γ T σ H) (hw : W (m.bind k)) (ok : WOk F Γe Er W) (h : MV F Γe Er te Γ m t) (hj : j < Γ.length) (ni : NI F j)
    (q : ∀ a σ' H', W (k a) → Stt F (Γ.set j (some (t a))) T σ' H' → D.nx σ' H') : tAsg te (gName j) D σ H :=
  h _ W k T σ H ok hw hst _ fun a v H1 w s1 _ => q a _ H1 w (s1.assign hj ni)
theorem s_retM {t : α → Own} {m : R α} {k : α → R ρ} (hst : Stt F Γ T σ H) (hw : W (m.bind k)) (ok : WOk F Γe Er W) (h : MV F Γe Er te Γ m t)
    (q : ∀ a v H', W (k a) → Stt F Γ ((v, t a) :: T) σ H' → D.rt v H') : tRet te D σ H :=
  h _ W k T σ H ok hw hst _ fun a v H1 w s1 _ => q a v H1 w s1
theorem s_ifM {t1 t2 : TS} {m : R Bool} {A B : R ρ} (hst : Stt F Γ T σ H) (hw : W (m.bind fun b => if b = true then A else B)) (ok : WOk F Γe Er W) (h : MT F Γe Er tt Γ m)
    (q1 : ∀ H', W A → Stt F Γ T σ H' → t1 D σ H') (q2 : ∀ H', W B → Stt F Γ T σ H' → t2 D σ H') : tIfS tt t1 t2 D σ H :=
  h _ W _ T σ H ok hw hst _ fun b H1 w s1 _ => by
    cases b with
    | true => exact q1 H1 w s1
    | false => exact q2 H1 w s1
theorem s_ifJ {t1 t2 : TS} {m : R Bool} {A B : R S} {k : S → R ρ} {Γj : S → List Ent} (hst : Stt F Γ T σ H) (hw : W ((m.bind fun b => if b = true then A else B).bind k)) (ok : WOk F Γe Er W) (h : MT F Γe Er tt Γ m)
    (q1 : ∀ (W' : R S → Prop) (N : L2.St → Hp → Prop) H, WOk F Γe Er W' → W' A → Stt F Γ T σ H → (∀ s σ' H', W' (.ok s) → Stt F (Γj s) T σ' H' → N σ' H') → t1 { D with nx := N } σ H)
    (q2 : ∀ (W' : R S → Prop) (N : L2.St → Hp → Prop) H, WOk F Γe Er W' → W' B → Stt F Γ T σ H → (∀ s σ' H', W' (.ok s) → Stt F (Γj s) T σ' H' → N σ' H') → t2 { D with nx := N } σ H)
    (q : ∀ s σ' H', W (k s) → Stt F (Γj s) T σ' H' → D.nx σ' H') : tIfS tt t1 t2 D σ H := by
  rw [R.bind_assoc] at hw
  refine h _ W _ T σ H ok hw hst _ fun b H1 w s1 _ => ?_
  cases b with
  | true => exact q1 (fun m => W (m.bind k)) D.nx H1 (ok.bind k) w s1 q
  | false => exact q2 (fun m => W (m.bind k)) D.nx H1 (ok.bind k) w s1 q
theorem s_ifC {t1 t2 : TS} {m : R Bool} {A B : R (Ctl S β)} {k : Ctl S β → R ρ} {Γj : S → List Ent} (hst : Stt F Γ T σ H) (hw : W ((m.bind fun b => if b = true then A else B).bind k)) (ok : WOk F Γe Er W) (h : MT F Γe Er tt Γ m)
    (q1 : ∀ (W' : R (Ctl S β) → Prop) (N : L2.St → Hp → Prop) H, WOk F Γe Er W' → (∀ r, W' (.ok (.rt r)) → W (k (.rt r))) → W' A → Stt F Γ T σ H → (∀ s σ' H', W' (.ok (.nx s)) → Stt F (Γj s) T σ' H' → N σ' H') → t1 { D with nx := N } σ H)
    (q2 : ∀ (W' : R (Ctl S β) → Prop) (N : L2.St → Hp → Prop) H, WOk F Γe Er W' → (∀ r, W' (.ok (.rt r)) → W (k (.rt r))) → W' B → Stt F Γ T σ H → (∀ s σ' H', W' (.ok (.nx s)) → Stt F (Γj s) T σ' H' → N σ' H') → t2 { D with nx := N } σ H)
    (q : ∀ s σ' H', W (k (.nx s)) → Stt F (Γj s) T σ' H' → D.nx σ' H') : tIfS tt t1 t2 D σ H := by
  rw [R.bind_assoc] at hw
  refine h _ W _ T σ H ok hw hst _ fun b H1 w s1 _ => ?_
  cases b with
  | true => exact q1 (fun m => W (m.bind k)) D.nx H1 (ok.bind k) (fun r z => z) w s1 q
  | false => exact q2 (fun m => W (m.bind k)) D.nx H1 (ok.bind k) (fun r z => z) w s1 q
theorem s_appM {n : Nat} {ds : List Dt} {e : α → Dt} {m : R α} {k : α → R ρ} (hst : Stt F Γ T σ H) (hw : W (m.bind fun a => R.guard (ds.length < 16777216) (k a))) (ok : WOk F Γe Er W) (he : Γ[n]? = some (some (.lst (ds.map Own.dat)))) (h : MV F Γe Er te Γ m fun a => .dat (e a))
    (q : ∀ a σ' H', W (k a) → Stt F (Γ.set n (some (.lst ((ds ++ [e a]).map Own.dat)))) T σ' H' → D.nx σ' H') : tDrop (tBM F.K "list" rAppend (tVar n) (tCons te tNil)) D σ H := by
  have e' : (T.map (fun p => some p.2) ++ Γ)[T.length + n]? = some (some (.lst (ds.map Own.dat))) := by
    rw [List.getElem?_append_right (by simp)]
    simpa using he
  obtain ⟨B, O, s1, p, i⟩ := id hst
  obtain ⟨v, O1, O2, e1, a, dj, rfl, _⟩ := s1.at e'
  unfold Ow at a
  obtain ⟨l, vs, O', rfl, oa, n', rfl⟩ := a
  rw [List.getElem?_append_right (by simp)] at e1
  have e2 : σ[n]? = some (some (V.ref l)) := by simpa using e1
  refine ⟨.ref l, e2, .inl ⟨rfl, _, SqL.of (p.oh l _ (jn_some upd_same))⟩, ?_⟩
  refine h _ W _ T σ H ok hw hst _ fun a u H1 w s2 e3 => ?_
  obtain ⟨hl, w⟩ := R.guard_ok ok w
  obtain ⟨B2, Ou, Or, au, s3, dj3, p3, i3⟩ := s2.top
  obtain ⟨ru, rfl⟩ := au.rp
  rw [emp_jn] at p3
  obtain ⟨v', P1, P2, e1', a', dj', rfl, k', _⟩ := s3.at e'
  rw [List.getElem?_append_right (by simp)] at e1'
  have e2' : σ[n]? = some (some v') := by simpa using e1'
  rw [e2] at e2'
  cases e2'
  unfold Ow at a'
  obtain ⟨l', ws, Q', el, oa', n2, rfl⟩ := a'
  cases el
  obtain ⟨rw_, rfl⟩ := oa'.dats
  have hH : H1 l = some (.lst ws) := p3.oh l _ (jn_some upd_same)
  refine ⟨l, ws, u, rfl, rfl, hH, by rw [rw_.length]; exact line_lt hl, ?_⟩
  have z := k' B2 (.lst ((ds ++ [_]).map Own.dat)) (upd emp l (.lst (ws ++ [u]))) (.ref l) (Same.refl _) (by
    unfold Ow
    exact ⟨l, ws ++ [u], emp, rfl, owa_dats (rw_.append (RpA.one ru)), rfl, rfl⟩) (by
    have nl : P2 l = none := by
      rcases dj' l with x | x
      · rw [upd_same] at x; cases x
      · exact x
    exact Dj.upd emp_dj nl)
  rw [List.set_append_right _ _ (by simp), List.set_append_right _ _ (by simp)] at z
  have hs : σ.set (T.length + n - (T.map fun p => some p.1).length) (some (V.ref l)) = σ := by
    have en : T.length + n - (T.map fun (p : V × Own) => some p.1).length = n := by simp
    rw [en]
    apply List.ext_getElem?
    intro j
    by_cases hj : n = j
    · subst hj
      rw [e2, List.getElem?_set_self (List.getElem?_eq_some_iff.mp e2).1]
    · rw [List.getElem?_set_ne hj]
  rw [hs] at z
  have en : T.length + n - (T.map fun (p : V × Own) => some p.2).length = n := by simp
  rw [en] at z
  refine q a σ _ w ⟨B2, _, z, ?_, i3⟩
  have p4 := p3.mut (a := l) (o := .lst (ws ++ [u])) (jn_some upd_same)
  rw [upd_jn, upd_upd] at p4
  exact p4
def Sr (F : Fx) (Γe : List Ent) (Er : L2.St → Exn → Hp → Prop) (wi : L2.St → Hp → (It → Hp → Prop) → Prop) (Γ : List Ent) (m : R β) (xs : β → List α) (enc : α → Dt) : Prop :=
  ∀ (ρ : Type) (W : R ρ → Prop) (k : β → R ρ) T σ H, WOk F Γe Er W → W (m.bind k) → Stt F Γ T σ H → ∀ Ri : It → Hp → Prop,
    (∀ b T' J H', W (k b) → Stt F Γ (T' ++ T) σ H' → Same H H' → Wks F J (T' ++ T) ((xs b).map enc) → Ri J H') → wi σ H Ri
theorem sr_list {m : R β} {xs : β → List α} {enc : α → Dt} (h : MV F Γe Er te Γ m fun b => .dat (.lst ((xs b).map enc))) : Sr F Γe Er (iList F.K te) Γ m xs enc := fun _ W k T σ H ok w s Ri q =>
  h _ W k T σ H ok w s _ fun b v H1 w1 s1 e1 => by
    obtain ⟨B, eb, r⟩ := s1.topd
    unfold Rp at r
    obtain ⟨l, vs, rfl, hl, ra⟩ := r
    exact ⟨l, rfl, ⟨vs, SqL.of (eb _ _ hl)⟩, q b [_] _ H1 w1 s1 e1 wks_list⟩
theorem sr_tup {m : R β} {xs : β → List α} {enc : α → Dt} (h : MV F Γe Er te Γ m fun b => .dat (.tup ((xs b).map enc))) : Sr F Γe Er (iTup F.K te) Γ m xs enc := fun _ W k T σ H ok w s Ri q =>
  h _ W k T σ H ok w s _ fun b v H1 w1 s1 e1 => by
    obtain ⟨B, eb, r⟩ := s1.topd
    unfold Rp at r
    obtain ⟨l, vs, rfl, hl, ra⟩ := r
    exact ⟨l, rfl, ⟨vs, sqt_mono eb hl⟩, q b [_] _ H1 w1 s1 e1 wks_tup⟩
theorem sr_rng1 {m : R Int} (h : MV F Γe Er te Γ m fun j => .dat (.int j)) : Sr F Γe Er (iRng1 (tCons te tNil)) Γ (m.bind fun j => R.guard (gR j) (.ok j)) (fun j => rng 0 j) Dt.int := fun _ W k T σ H ok w s Ri q => by
  rw [R.bind_assoc] at w
  refine h _ W _ T σ H ok w s _ fun j v H1 w1 s1 e1 => ?_
  obtain ⟨B, eb, r⟩ := s1.topd
  have w2 : W (R.guard (gR j) (k j)) := by
    unfold R.guard at w1 ⊢
    by_cases c : gR j
    · rw [if_pos c] at w1 ⊢; exact w1
    · rw [if_neg c] at w1; exact absurd w1 ok.bad
  obtain ⟨hb, w2⟩ := R.guard_ok ok w2
  refine ⟨j, by rw [rp_int r], hb.1, hb.2, q j [] _ H1 w2 s1.pop e1 ?_⟩
  have e : rng 0 j = (List.range j.toNat).map fun (i : Nat) => (0 : Int) + (i : Int) := by unfold rng; rw [Int.sub_zero]
  show Wks F (Itr 0 j.toNat) _ ((rng 0 j).map Dt.int)
  rw [e]
  exact wks_rng
theorem Stt.popn : ∀ {T' : List (V × Own)}, Stt F Γ (T' ++ T) σ H → Stt F Γ T σ H
  | [], h => h
  | _ :: T', h => Stt.popn (T' := T') (Stt.pop h)
theorem Slots.mid {K : PySem.W.Frag} {B : Hp} : ∀ {T' : List (V × Own)} {Γ : List Ent} {O : Hp} {σ : L2.St}, Slots K B (T'.map (fun p => some p.2) ++ Γ) O (T'.map (fun p => some p.1) ++ σ) → ∃ Od O', Dj Od O' ∧ O = jn Od O' ∧ Slots K B Γ O' σ
  | [], Γ, O, σ, h => ⟨emp, O, emp_dj, emp_jn.symm, h⟩
  | p :: T', Γ, O, σ, h => by
    rw [List.map_cons, List.map_cons, List.cons_append, List.cons_append] at h
    unfold Slots at h
    obtain ⟨v, r, O1, O2, e, a, b, c, rfl⟩ := h
    obtain ⟨_, rfl⟩ := List.cons.inj e
    obtain ⟨Od, O', d, rfl, s⟩ := Slots.mid b
    exact ⟨jn O1 Od, O', Dj.jnl (Dj.rr c) d, jn_assoc.symm, s⟩
theorem Stt.popm {T' : List (V × Own)} {t : Own} (h : Stt F Γ ((v, t) :: (T' ++ T)) σ H) : Stt F Γ ((v, t) :: T) σ H := by
  obtain ⟨B, O1, O2, a, s, d, p, i⟩ := h.top
  rw [List.map_append, List.map_append, List.append_assoc, List.append_assoc] at s
  obtain ⟨Od, O', d2, rfl, s'⟩ := s.mid
  refine ⟨B, jn O1 O', slots_own a s' d.rr, ?_, i⟩
  rw [jn_swap d.rl] at p
  exact p.dropL (Dj.jnr d.rl.symm d2)
theorem mv_lc {Γx : List Ent} {wi : L2.St → Hp → (It → Hp → Prop) → Prop} {g : TG} {vs : List Nat} {m : R γ} {xs : γ → List α} {enc : α → Dt} {encB : β → Dt} {f : γ → α → R β} {Γb : γ → α → List Ent}
    (hs : Sr F Γe Er wi Γ m xs enc) (hn : NoneAt F Γ vs) (tg : ∀ c x, TgW F g (enc x) Γ (Γb c x) vs) (wkb : ∀ c x, Wk (Γb c x) Γ)
    (body : ∀ c x, MV F Γx (fun _ _ _ => False) te (Γb c x) (f c x) fun y => .dat (encB y)) :
    MV F Γe Er (tLc wi g tYes te vs) Γ (m.bind fun c => R.guard ((xs c).length ≤ 16777216) (mapR (f c) (xs c))) (fun ys => .lst ((ys.map encB).map Own.dat)) := fun _ W k T σ H ok w s Q q => by
  rw [R.bind_assoc] at w
  refine hs _ W _ T σ H ok w s _ fun c T' J H1 w1 s1 e1 wk => ?_
  have w2 : W (R.guard ((xs c).length ≤ 16777216) ((mapR (f c) (xs c)).bind k)) := by
    unfold R.guard at w1 ⊢
    by_cases z : (xs c).length ≤ 16777216
    · rw [if_pos z] at w1 ⊢; exact w1
    · rw [if_neg z] at w1; exact absurd w1 ok.bad
  obtain ⟨hl, w2⟩ := R.guard_ok ok w2
  exact lc_go wk hn (tg c) (wkb c) hl s1 ok w2 (fun x T2 W' σ' H' Qe ok' w' st' q' => body c x _ W' R.ok T2 σ' H' ok' (by rw [R.bind_ok]; exact w') st' Qe q') fun ys v H' w3 s3 e3 => q ys v H' w3 s3.popm (e1.trans e3)
theorem wkN : ∀ {n : Nat} {Γ : List Ent}, Γ.length = n → Wk Γ (List.replicate n none)
  | 0, [], _ => .nil
  | n + 1, _ :: Γ, h => .drop (wkN (Nat.succ.inj h))
theorem s_retF {t : α → Own} {m : R α} {W : R α → Prop} (hst : Stt F Γ T σ H) (hw : W m) (ok : WOk F Γe Er W) (h : MV F Γe Er te Γ m t)
    (q : ∀ a v H', W (.ok a) → Stt F Γ ((v, t a) :: T) σ H' → D.rt v H') : tRet te D σ H :=
  h _ W R.ok T σ H ok (by rw [R.bind_ok]; exact hw) hst _ fun a v H1 w s1 _ => q a v H1 w s1
theorem s_foldM {wi : L2.St → Hp → (It → Hp → Prop) → Prop} {g : TG} {tb : TS} {m : R γ} {xs : γ → List α} {enc : α → Dt} {f : γ → α → S → R S} {k : S → R ρ} {Γs : S → List Ent} {Γb : γ → α → S → List Ent} {s0 : S}
    (hst : Stt F Γ T σ H) (hw : W ((m.bind fun c => foldR (f c) (xs c) s0).bind k)) (ok : WOk F Γe Er W) (hs : Sr F Γe Er wi Γ m xs enc) (wk0 : Wk Γ (Γs s0)) (tg : ∀ c x s, Tg F g (enc x) (Γs s) (Γb c x s))
    (body : ∀ c x s (W' : R S → Prop) (N : L2.St → Hp → Prop) T σ H, WOk F Γe Er W' → W' (f c x s) → Stt F (Γb c x s) T σ H → (∀ s' σ' H', W' (.ok s') → Stt F (Γs s') T σ' H' → N σ' H') → tb { D with nx := N, ct := N, bk := D.nx } σ H)
    (q : ∀ s σ H, W (k s) → Stt F (Γs s) T σ H → D.nx σ H) : tFor wi g tb D σ H := by
  rw [R.bind_assoc] at hw
  refine hs _ W _ T σ H ok hw hst _ fun c T' J H1 w1 s1 e1 wk => ?_
  exact s_fold wk (tg c) (s1.weak wk0) ok w1 (fun x s W' N σ H ok' w' st' q' => body c x s W' N _ σ H ok' w' st' q') fun s σ H w2 st => q s σ H w2 st.popn
theorem s_forM {wi : L2.St → Hp → (It → Hp → Prop) → Prop} {g : TG} {tb : TS} {m : R γ} {xs : γ → List α} {enc : α → Dt} {f : γ → α → S → R (Ctl S β)} {k : Ctl S β → R ρ} {Γs : S → List Ent} {Γb : γ → α → S → List Ent} {s0 : S}
    (hst : Stt F Γ T σ H) (hw : W ((m.bind fun c => forR (f c) (xs c) s0).bind k)) (ok : WOk F Γe Er W) (hs : Sr F Γe Er wi Γ m xs enc) (wk0 : Wk Γ (Γs s0)) (tg : ∀ c x s, Tg F g (enc x) (Γs s) (Γb c x s))
    (body : ∀ c x s (W' : R (Ctl S β) → Prop) (N Bk : L2.St → Hp → Prop) T σ H, WOk F Γe Er W' → (∀ r, W' (.ok (.rt r)) → W (k (.rt r))) → W' (f c x s) → Stt F (Γb c x s) T σ H → (∀ s' σ' H', W' (.ok (.nx s')) → Stt F (Γs s') T σ' H' → N σ' H') →
      (∀ s' σ' H', W' (.ok (.bk s')) → Stt F (Γs s') T σ' H' → Bk σ' H') → tb { D with nx := N, ct := N, bk := Bk } σ H)
    (q : ∀ s σ H, W (k (.nx s)) → Stt F (Γs s) T σ H → D.nx σ H) : tFor wi g tb D σ H := by
  rw [R.bind_assoc] at hw
  refine hs _ W _ T σ H ok hw hst _ fun c T' J H1 w1 s1 e1 wk => ?_
  exact s_for wk (tg c) (s1.weak wk0) ok w1 (fun x s W' N Bk σ H ok' r' w' st' q1 q2 => body c x s W' N Bk _ σ H ok' r' w' st' q1 q2) fun s σ H w2 st => q s σ H w2 st.popn
theorem s_whileM {tc : TT} {tb : TS} {c : S → R Bool} {f : S → R (Ctl S β)} {n : Nat} {k : Ctl S β → R ρ} {Γs : S → List Ent} {s0 : S}
    (hst : Stt F Γ T σ H) (hw : W ((whileR c f n s0).bind k)) (ok : WOk F Γe Er W) (wk0 : Wk Γ (Γs s0))
    (cond : ∀ s, MT F Γe Er tc (Γs s) (c s))
    (body : ∀ s (W' : R (Ctl S β) → Prop) (N Bk : L2.St → Hp → Prop) σ H, WOk F Γe Er W' → (∀ r, W' (.ok (.rt r)) → W (k (.rt r))) → W' (f s) → Stt F (Γs s) T σ H → (∀ s' σ' H', W' (.ok (.nx s')) → Stt F (Γs s') T σ' H' → N σ' H') →
      (∀ s' σ' H', W' (.ok (.bk s')) → Stt F (Γs s') T σ' H' → Bk σ' H') → tb { D with nx := N, ct := N, bk := Bk } σ H)
    (q : ∀ s σ H, W (k (.nx s)) → Stt F (Γs s) T σ H → D.nx σ H) : tWhile tc tb D σ H :=
  s_while (hst.weak wk0) ok hw (fun s W' σ H Q ok' w' st' q' => cond s _ W' R.ok T σ H ok' (by rw [R.bind_ok]; exact w') st' Q fun b H' w2 s2 _ => q' b H' w2 s2) body q
end
end Sm
namespace Sm
open PySem L2
def Sx (l : List Nat) : Str := ⟨l.toArray⟩
abbrev lt (x : Str) : List Nat := x.cps.toList
theorem Sx_lt (x : Str) : Sx (lt x) = x := by cases x; simp [Sx, lt]
theorem Sx_len (l : List Nat) : (Sx l).length = l.length := by simp [Sx, Str.length]
theorem Sx_cat (a b : List Nat) : Sx a ++ Sx b = Sx (a ++ b) := by
  show Str.append _ _ = _
  unfold Str.append Sx
  simp
theorem Sx_inj {a b : List Nat} : Sx a = Sx b ↔ a = b := ⟨fun h => by have := congrArg (fun x : Str => x.cps.toList) h; simpa [Sx] using this, fun h => h ▸ rfl⟩
theorem Sx_cut (l : List Nat) (lo hi : Option Int) : cutS (Sx l) lo hi = Sx (cutL l lo hi) := by
  unfold cutS cutL
  rw [Sx_len]
  rfl
abbrev eI : Int → Dt := Dt.int
abbrev eB : Bool → Dt := Dt.bl
abbrev eS (l : List Nat) : Dt := Dt.str (Sx l)
abbrev eC (c : Nat) : Dt := Dt.str (Sx [c])
abbrev eN (_ : Unit) : Dt := Dt.non
abbrev eX (ns : List Int) : Dt := Dt.scr ns
abbrev eL {α : Type} (e : α → Dt) (xs : List α) : Dt := Dt.lst (xs.map e)
abbrev eU {α : Type} (e : α → Dt) (xs : List α) : Dt := Dt.tup (xs.map e)
abbrev e1 {α : Type} (a : α → Dt) (p : α) : Dt := Dt.tup [a p]
abbrev e2 {α β : Type} (a : α → Dt) (b : β → Dt) (p : α × β) : Dt := Dt.tup [a p.1, b p.2]
abbrev e3 {α β γ : Type} (a : α → Dt) (b : β → Dt) (c : γ → Dt) (p : α × β × γ) : Dt := Dt.tup [a p.1, b p.2.1, c p.2.2]
abbrev e4 {α β γ δ : Type} (a : α → Dt) (b : β → Dt) (c : γ → Dt) (d : δ → Dt) (p : α × β × γ × δ) : Dt := Dt.tup [a p.1, b p.2.1, c p.2.2.1, d p.2.2.2]
abbrev eO {α : Type} (e : α → Dt) : Option α → Dt
  | none => Dt.non
  | some a => e a
abbrev oD {α : Type} (e : α → Dt) (a : α) : Own := .dat (e a)
abbrev oL {α : Type} (e : α → Dt) (xs : List α) : Own := .lst ((xs.map e).map Own.dat)
def gS (l : List Nat) : Prop := l.length ≤ 16777216
instance (l : List Nat) : Decidable (gS l) := by unfold gS; infer_instance
def gL {α : Type} (l : List α) : Prop := l.length < 16777216
instance {α : Type} (l : List α) : Decidable (gL l) := by unfold gL; infer_instance
instance (i j : Int) : Decidable (CMulW i j) := by unfold CMulW; infer_instance
instance (i j : Int) : Decidable (CDivW i j) := by unfold CDivW; infer_instance
instance (i j : Int) : Decidable (CPow i j) := by unfold CPow; infer_instance
section
variable {F : Fx} {Γ Γ' Γe : List Ent} {T : List (V × Own)} {σ : L2.St} {H H' : Hp} {v : V} {Er : L2.St → Exn → Hp → Prop} {ρ α β γ S : Type} {W : R ρ → Prop} {D : Ends} {ta tb tc te : TE} {tt uu : TT} {i j : Int} {d e : Dt} {a b : List Nat} {c : Nat} {ds : List Dt}
theorem ev_lit {x : Str} : Ev F (tC (.str x)) Γ (.dat (eS (lt x))) := ev_is ev_str (by rw [eS, Sx_lt])
theorem ev_mulW (hc : CMulW i j) (h1 : Ev F ta Γ (.dat (.int i))) (h2 : Ev F tb Γ (.dat (.int j))) : Ev F (tOp (rI CMulW fun i j => .int (i * j)) ta tb) Γ (.dat (.int (i * j))) := ev_op h1 h2 (op2_I (g := fun i j => i * j) hc)
theorem ev_divW (hc : CDivW i j) (h1 : Ev F ta Γ (.dat (.int i))) (h2 : Ev F tb Γ (.dat (.int j))) : Ev F (tOp (rI CDivW fun i j => .int (i / j)) ta tb) Γ (.dat (.int (i / j))) := ev_op h1 h2 (op2_I (g := fun i j => i / j) hc)
theorem ev_catX (hb : gS (a ++ b)) (h1 : Ev F ta Γ (.dat (eS a))) (h2 : Ev F tb Γ (.dat (eS b))) :
    Ev F (tOp (fun x y H Q => ∃ i j, x = .str i ∧ y = .str j ∧ i.length + j.length ≤ sizeLine ∧ Q (.str (i ++ j)) H) ta tb) Γ (.dat (eS (a ++ b))) := by
  have := ev_catS (x := Sx a) (y := Sx b) (by rw [Sx_len, Sx_len]; unfold gS at hb; rw [List.length_append] at hb; exact hb) h1 h2
  rw [Sx_cat] at this
  exact this
theorem ev_eqX (h1 : Ev F ta Γ (.dat (eS a))) (h2 : Ev F tb Γ (.dat (eS b))) : Ev F (tOp rEq ta tb) Γ (.dat (.bl (decide (a = b)))) := by
  have := ev_eqS h1 h2
  simp only [Sx_inj] at this
  exact this
theorem ev_neX (h1 : Ev F ta Γ (.dat (eS a))) (h2 : Ev F tb Γ (.dat (eS b))) : Ev F (tOp rNe ta tb) Γ (.dat (.bl (!decide (a = b)))) := by
  have := ev_neS h1 h2
  simp only [Sx_inj] at this
  exact this
theorem ev_lenSx (hx : gS a) (h : Ev F te Γ (.dat (eS a))) : Ev F (tCB (fun xs H Q => ∃ z, xs = [.str z] ∧ z.length ≤ sizeLine ∧ Q (.int z.length) H) (tCons te tNil)) Γ (.dat (.int a.length)) := by
  have := ev_lenS (x := Sx a) (by rw [Sx_len]; exact hx) h
  rw [Sx_len] at this
  exact this
theorem ev_ixSx (hb : gS a ∧ inB a i) (h1 : Ev F ta Γ (.dat (eS a))) (h2 : Ev F tb Γ (.dat (.int i))) : Ev F (tOp rIxS ta tb) Γ (.dat (eC (getI a i))) :=
  ev_ixS (z := Sx a) ⟨by rw [Sx_len]; exact hb.1, hb.2⟩ h1 h2
variable {tl th : TO} {lo hi : Option Int}
theorem ev_slSx (hz : gS a) (h : Ev F te Γ (.dat (eS a))) (hl : EvO F tl Γ lo) (hh : EvO F th Γ hi) : Ev F (tSl rSlS te tl th) Γ (.dat (eS (cutL a lo hi))) := by
  have := ev_slS (z := Sx a) (by rw [Sx_len]; exact hz) h hl hh
  rw [Sx_cut] at this
  exact this
theorem map_eS (ns : List (List Nat)) : ns.map eS = (ns.map Sx).map Dt.str := by rw [List.map_map]; rfl
theorem mem_Sx {s : List Nat} {ns : List (List Nat)} : Sx s ∈ ns.map Sx ↔ s ∈ ns := by
  rw [List.mem_map]
  constructor
  · rintro ⟨x, h, e⟩
    rw [Sx_inj] at e
    exact e ▸ h
  · intro h
    exact ⟨s, h, rfl⟩
theorem ev_inT {ns : List Int} (h1 : Ev F ta Γ (.dat (.int i))) (h2 : Ev F tb Γ (.dat (eU eI ns))) : Ev F (tOp (rIn F.K false) ta tb) Γ (.dat (.bl (decide (i ∈ ns)))) := ev_inTI (neg := false) h1 h2
def Dt.tyn : Dt → String
  | .non => "NoneType"
  | .bl _ => "bool"
  | .int _ => "int"
  | .str _ => "str"
  | .lst _ => "list"
  | .tup _ => "tuple"
  | .scr _ => "list"
  | .dk _ _ => "dict"
  | .dt _ _ => "dict"
  | .du _ _ => "dict"
  | .df _ _ => "dict"
  | .ob _ _ _ => "?"
  | .kt _ => "tuple"
  | .pin _ _ => "bool"
  | .wild => "?"
theorem tyx_lst {K : PySem.W.Frag} {H : Hp} {a : Addr} {xs : List V} (h : SqL K H a xs) : TyX K H (.ref a) (.type "list") := by
  rcases h with (h | ⟨o, h⟩) | ⟨o, its, n, h, c, _⟩
  · exact .base (.lst h)
  · exact .base (.frz h)
  · exact .kList h c
theorem tyx_tup {K : PySem.W.Frag} {H : Hp} {a : Addr} {xs : List V} (h : SqT K H a xs) : TyX K H (.ref a) (.type "tuple") := by
  rcases h with (h | ⟨o, h⟩) | ⟨o, its, n, h, c, _⟩
  · exact .base (.tup h)
  · exact .fTuple h
  · exact .kTuple h c
def TyY (K : PySem.W.Frag) (H : Hp) (x : V) (t : Value) : Prop := TyX K H x t ∨ (t = .type "dict" ∧ ∃ a, x = .ref a ∧ ((∃ kvs, Rd H a (.dT kvs)) ∨ ∃ kvs, Rd H a (.dK kvs)))
def rIsiY (K : PySem.W.Frag) : List V → Hp → VK → Prop := fun xs H Q => ∃ (x c : V) (t u : Value) (b : Bool), xs = [x, c] ∧ ClsV c u ∧ TyY K H x t ∧ PySem.W.kitOne K t u = some b ∧ Q (.bl b) H
theorem call_isiY {X : Cx} : CallR X (.builtin "isinstance") (rIsiY X.K) := by
  intro pins s σ H xs us Q I r h
  obtain ⟨x, c, t, u, b, rfl, k, ty, e, q⟩ := h
  rcases ty with ty | ⟨rfl, a, rfl, ⟨kvs, ha⟩ | ⟨kvs, ha⟩⟩
  · exact call_isi pins s σ H _ us Q I r ⟨x, c, t, u, b, rfl, k, ty, e, q⟩
  · obtain ⟨u1, u2, rfl, r1, r2⟩ := vals2 r
    have e2 := k.eq r2
    subst e2
    cases (show u1 = Value.ref a from r1)
    obtain ⟨_, _, xs, _, dd⟩ := dt_rd I.hok ha
    exact PySem.W.kia_one PySem.W.kitx_dict I.kIn dd.typeIs e (fun z => nomatch z) fun tk => ⟨.bl b, H, I.tok tk, rfl, q⟩
  · obtain ⟨u1, u2, rfl, r1, r2⟩ := vals2 r
    have e2 := k.eq r2
    subst e2
    cases (show u1 = Value.ref a from r1)
    obtain ⟨_, _, xs, _, dd⟩ := dk_rd I.hok ha
    exact PySem.W.kia_one PySem.W.kitx_dict I.kIn dd.typeIs e (fun z => nomatch z) fun tk => ⟨.bl b, H, I.tok tk, rfl, q⟩
theorem tyx_of {K : PySem.W.Frag} {B H : Hp} (s : Same B H) : ∀ {d : Dt} {v : V}, (∀ ks xs fs, d ≠ .dt ks xs ∧ d ≠ .du ks xs ∧ d ≠ .df fs xs) → d.tyn ≠ "?" → Rp K B d v → TyX K H v (.type d.tyn)
  | .non, v, nd, no, h => by unfold Rp at h; subst h; exact .base .non
  | .bl b, v, nd, no, h => by unfold Rp at h; subst h; exact .base (.bl b)
  | .int i, v, nd, no, h => by unfold Rp at h; subst h; exact .base (.int i)
  | .str x, v, nd, no, h => by unfold Rp at h; subst h; exact .base (.str x)
  | .lst xs, v, nd, no, h => by
    unfold Rp at h
    obtain ⟨a, vs, rfl, h, _⟩ := h
    exact .base (.lst (s _ _ h))
  | .tup xs, v, nd, no, h => by
    unfold Rp at h
    obtain ⟨a, vs, rfl, h, _⟩ := h
    exact tyx_tup (sqt_mono s h)
  | .scr ns, v, nd, no, h => by
    unfold Rp at h
    obtain ⟨a, rfl, h⟩ := h
    exact tyx_lst (sql_mono s h)
  | .dk ks xs, v, nd, no, h => by
    unfold Rp at h
    obtain ⟨a, vs, rfl, h, _⟩ := h
    exact .base (.dK (s _ _ h))
  | .dt ks xs, v, nd, no, h => absurd rfl (nd ks xs []).1
  | .du ks xs, v, nd, no, h => absurd rfl (nd ks xs []).2.1
  | .df fs xs, v, nd, no, h => absurd rfl (nd [] xs fs).2.2
  | .ob _ _ _, v, nd, no, h => absurd rfl no
  | .wild, v, nd, no, h => absurd rfl no
  | .kt ks, v, nd, no, h => by
    unfold Rp at h
    obtain ⟨a, rfl, h⟩ := h
    exact tyx_tup (SqT.of (s _ _ h))
  | .pin a u, v, nd, no, h => by
    unfold Rp at h
    rw [h.1]
    exact .base (.bl true)
theorem tyy_of {K : PySem.W.Frag} {B H : Hp} (s : Same B H) {d : Dt} {v : V} (no : d.tyn ≠ "?") (h : Rp K B d v) : TyY K H v (.type d.tyn) := by
  have base : ∀ {t}, TyX K H v t → TyY K H v t := fun h => .inl h
  cases d with
  | dt ks xs =>
    unfold Rp at h
    obtain ⟨a, o, vs, rfl, h, _⟩ := h
    exact .inr ⟨rfl, a, rfl, .inl ⟨_, .inr ⟨o, s _ _ h⟩⟩⟩
  | du ks xs =>
    unfold Rp at h
    obtain ⟨a, vs, rfl, h, _⟩ := h
    exact .inr ⟨rfl, a, rfl, .inl ⟨_, .inl (s _ _ h)⟩⟩
  | df ks xs =>
    unfold Rp at h
    obtain ⟨a, o, vs, rfl, h, _⟩ := h
    exact .inr ⟨rfl, a, rfl, .inr ⟨_, .inr ⟨o, s _ _ h⟩⟩⟩
  | ob x y z => exact absurd rfl no
  | wild => exact absurd rfl no
  | non => exact base (tyx_of s (fun _ _ _ => ⟨(fun z => nomatch z), (fun z => nomatch z), (fun z => nomatch z)⟩) no h)
  | bl b => exact base (tyx_of s (fun _ _ _ => ⟨(fun z => nomatch z), (fun z => nomatch z), (fun z => nomatch z)⟩) no h)
  | int i => exact base (tyx_of s (fun _ _ _ => ⟨(fun z => nomatch z), (fun z => nomatch z), (fun z => nomatch z)⟩) no h)
  | str x => exact base (tyx_of s (fun _ _ _ => ⟨(fun z => nomatch z), (fun z => nomatch z), (fun z => nomatch z)⟩) no h)
  | lst x => exact base (tyx_of s (fun _ _ _ => ⟨(fun z => nomatch z), (fun z => nomatch z), (fun z => nomatch z)⟩) no h)
  | tup x => exact base (tyx_of s (fun _ _ _ => ⟨(fun z => nomatch z), (fun z => nomatch z), (fun z => nomatch z)⟩) no h)
  | scr x => exact base (tyx_of s (fun _ _ _ => ⟨(fun z => nomatch z), (fun z => nomatch z), (fun z => nomatch z)⟩) no h)
  | dk x y => exact base (tyx_of s (fun _ _ _ => ⟨(fun z => nomatch z), (fun z => nomatch z), (fun z => nomatch z)⟩) no h)
  | kt x => exact base (tyx_of s (fun _ _ _ => ⟨(fun z => nomatch z), (fun z => nomatch z), (fun z => nomatch z)⟩) no h)
  | pin x y => exact base (tyx_of s (fun _ _ _ => ⟨(fun z => nomatch z), (fun z => nomatch z), (fun z => nomatch z)⟩) no h)
theorem kitB_no {n : String} {r : Bool} (h : kitB "?" n = some r) : n = "?" := by
  unfold kitB at h
  split at h
  · rename_i e
    have := eq_of_beq e
    injection this with e
    exact e.symm
  · split at h
    · rw [show PySem.fastBuiltinMro "?" = none by decide +kernel] at h
      cases h
    · cases h
theorem ev_isi {n : String} {r : Bool} (hk : kitB d.tyn n = some r) (h : Ev F ta Γ (.dat d)) (hn : n ≠ "?" := by decide) : Ev F (tCB (rIsiY F.K) (tCons ta (tCons (tC (.ty n)) tNil))) Γ (.dat (.bl r)) := fun T σ H s Q q =>
  h T σ H s _ fun v H1 s1 e1 => by
    obtain ⟨B, eb, rr⟩ := s1.topd
    exact ⟨v, .ty n, _, _, r, rfl, .ty n, tyy_of eb (fun z => hn (kitB_no (by rw [z] at hk; exact hk))) rr, kit_ty hk, q _ H1 (s1.pop.push fun _ _ => by unfold Rp; rfl) e1⟩
end
end Sm
namespace Sm
open PySem L2
theorem passAtL {X : Cx} {σ : L2.St} : PassesAt (L2.CX X.prog X.w) X σ E0 := fun pins H s e s' I c => passL pins σ H s e s' I c
section
variable {F : Fx} {Γ Γ' Γe : List Ent} {T : List (V × Own)} {σ : L2.St} {H H' : Hp} {v : V} {Er : L2.St → Exn → Hp → Prop} {ρ α β γ S : Type} {W : R ρ → Prop} {D : Ends} {ta tb tc te : TE} {tt uu : TT} {i j : Int} {d e : Dt} {c : Bool}
theorem ev_catL {enc : α → Dt} {xs ys : List α} (hb : (xs ++ ys).length ≤ 16777216) (h1 : EvL F ta Γ (xs.map enc)) (h2 : EvL F tb Γ (ys.map enc)) : Ev F (tOp rCat ta tb) Γ (oL enc (xs ++ ys)) := by
  have := ev_cat (by rw [List.length_map, List.length_map]; rw [List.length_append] at hb; exact hb) h1 h2
  rw [← List.map_append] at this
  exact this
theorem ev_slLE {enc : α → Dt} {xs : List α} {tl th : TO} {lo hi : Option Int} (h : EvL F te Γ (xs.map enc)) (hl : EvO F tl Γ lo) (hh : EvO F th Γ hi) : Ev F (tSl (rSlL F.K) te tl th) Γ (oL enc (cutL xs lo hi)) := by
  have := ev_slL h hl hh
  rw [cutL_map] at this
  exact this
theorem ev_lenLE {enc : α → Dt} {xs : List α} (h : EvL F te Γ (xs.map enc)) : Ev F (tCB (fun xs H Q => ∃ p ys, xs = [.ref p] ∧ (SqL F.K H p ys ∨ SqT F.K H p ys) ∧ Q (.int ys.length) H) (tCons te tNil)) Γ (.dat (.int xs.length)) := by
  have := ev_lenL h
  rw [List.length_map] at this
  exact this
theorem ev_listLE {enc : α → Dt} {xs : List α} (h : EvL F te Γ (xs.map enc)) : Ev F (tCB (fun xs H Q => ∃ p ys, xs = [.ref p] ∧ (SqL F.K H p ys ∨ SqT F.K H p ys) ∧ ∀ l, H l = none → Q (.ref l) (upd H l (.lst ys))) (tCons te tNil)) Γ (oL enc xs) := ev_listL h
theorem op2_eqI {i j : Int} : Op2 F rEq (.dat (.int i)) (.dat (.int j)) (.dat (.bl (decide (i = j)))) := op2_val _ (fun B => by unfold Rp; rfl) fun B H x y Q _ h1 h2 q => by
  rw [rp_int h1, rp_int h2]
  exact ⟨rfl, by rw [dec_int, Bool.beq_eq_decide_eq]; exact q⟩
theorem op2_neI {i j : Int} : Op2 F rNe (.dat (.int i)) (.dat (.int j)) (.dat (.bl (!decide (i = j)))) := op2_val _ (fun B => by unfold Rp; rfl) fun B H x y Q _ h1 h2 q => by
  rw [rp_int h1, rp_int h2]
  exact ⟨rfl, by rw [dec_int, Bool.beq_eq_decide_eq]; exact q⟩
theorem op2_neB {i j : Bool} : Op2 F rNe (.dat (.bl i)) (.dat (.bl j)) (.dat (.bl (!decide (i = j)))) := op2_val _ (fun B => by unfold Rp; rfl) fun B H x y Q _ h1 h2 q => by
  rw [rp_bl h1, rp_bl h2]
  exact ⟨rfl, by rw [dec_bl, Bool.beq_eq_decide_eq]; exact q⟩
theorem op2_catX {a b : List Nat} (hb : gS (a ++ b)) : Op2 F (fun x y H Q => ∃ i j, x = .str i ∧ y = .str j ∧ i.length + j.length ≤ sizeLine ∧ Q (.str (i ++ j)) H) (.dat (eS a)) (.dat (eS b)) (.dat (eS (a ++ b))) :=
  op2_val _ (fun B => by unfold Rp; rfl) fun B H x y Q _ h1 h2 q => ⟨Sx a, Sx b, rp_str h1, rp_str h2, by rw [Sx_len, Sx_len]; unfold gS at hb; rw [List.length_append] at hb; exact line_le hb, by rw [Sx_cat]; exact q⟩
theorem op2_ixSx {a : List Nat} (hb : gS a ∧ inB a i) : Op2 F rIxS (.dat (eS a)) (.dat (.int i)) (.dat (eC (getI a i))) :=
  op2_val _ (fun B => by unfold Rp; rfl) fun B H x y Q eb h1 h2 q => by
    refine ⟨Sx a, i, getI a i, rp_str h1, rp_int h2, by rw [Sx_len]; exact line_le hb.1, ?_, q⟩
    have hb' : inB (Sx a).cps.toList i := hb.2
    rw [atI_of hb', getI_get hb']
    rfl
end
def tbs (K : PySem.W.Frag) (tb : List (PySem.W.Frag → Bool)) : Bool := tb.all fun q => q K
abbrev AlT : Type := He.AlD × Bool
def obsT (fa : List He.Fa) (fn : List He.DefD) (tb : List (PySem.W.Frag → Bool)) (K : PySem.W.Frag) : AlT := (He.obsD fa fn K, tbs K tb)
def valT (fn : List He.DefD) : AlT := (He.valD fn, true)
def obsTG (n : Nat) (fa : List He.Fa) (fn : List He.DefD) (tb : List (PySem.W.Frag → Bool)) (g : Addr → Option Obj) : AlT := obsT fa fn tb (He.frG g (He.asD g n))
def hookT (n : Nat) (fa : List He.Fa) (fn : List He.DefD) (tb : List (PySem.W.Frag → Bool)) : PySem.W.Hook where
  α := AlT
  obs := fun s => obsTG n fa fn tb s.heap.get?
  val := fun _ => valT fn
  says := fun _ h => ∃ K : PySem.W.Frag, K.In h ∧ obsT fa fn tb K = valT fn
  of := fun _ _ e => ⟨_, He.frG_in, e⟩
  keeps := fun _ _ _ ⟨K, hK, c⟩ k => ⟨K, PySem.W.Frag.In.keeps hK k, c⟩
theorem obsTG_eq {n : Nat} {fa : List He.Fa} {fn : List He.DefD} {tb : List (PySem.W.Frag → Bool)} {g : Addr → Option Obj} {s : Shared} (h : ∀ a, g a = s.heap.get? a) : obsTG n fa fn tb g = (hookT n fa fn tb).obs s := by
  have e : g = s.heap.get? := funext h
  rw [e] <;> rfl
section
variable {fa : List He.Fa} {fn : List He.DefD} {tb : List (PySem.W.Frag → Bool)} {K : PySem.W.Frag}
theorem saysT (c : obsT fa fn tb K = valT fn) : He.SaysD fa fn K := congrArg (fun z : AlT => z.1) c
theorem tabT (c : obsT fa fn tb K = valT fn) (i : Nat) {q : PySem.W.Frag → Bool} (h : tb[i]? = some q := by rfl) : q K = true := by
  have c1 : tbs K tb = true := congrArg (fun z : AlT => z.2) c
  unfold tbs at c1
  exact List.all_eq_true.mp c1 q (List.mem_of_getElem? h)
end
end Sm
namespace Sm
open PySem L2
def R.sp2 {α β ρ : Type} (k : α → β → R ρ) (y : α × β) : R ρ := k y.1 y.2
section
variable {F : Fx} {Γ Γ' Γe : List Ent} {T : List (V × Own)} {σ : L2.St} {H H' : Hp} {v : V} {Er : L2.St → Exn → Hp → Prop} {ρ α β γ δ S : Type} {W : R ρ → Prop} {D : Ends} {ta tb tc te : TE} {tt uu : TT} {i j : Int} {d e : Dt} {c : Bool}
theorem s_appE {n : Nat} {enc : α → Dt} {xs : List α} {m : R α} {k : List α → R ρ} (hst : Stt F Γ T σ H) (hw : W (m.bind fun a => R.guard (gL xs) ((R.ok (xs ++ [a])).bind k))) (ok : WOk F Γe Er W) (he : Γ[n]? = some (some (oL enc xs))) (h : MV F Γe Er te Γ m (oD enc))
    (q : ∀ ys σ' H', W (k ys) → Stt F (Γ.set n (some (oL enc ys))) T σ' H' → D.nx σ' H') : tDrop (tBM F.K "list" rAppend (tVar n) (tCons te tNil)) D σ H := by
  refine s_appM (ds := xs.map enc) (e := enc) (k := fun a => k (xs ++ [a])) hst (by
    have e : (fun a => R.guard ((xs.map enc).length < 16777216) (k (xs ++ [a]))) = fun a => R.guard (gL xs) ((R.ok (xs ++ [a])).bind k) := by
      funext a
      unfold R.guard gL
      rw [List.length_map]
      rfl
    rw [e]
    exact hw) ok he h fun a σ' H' w s => q (xs ++ [a]) σ' H' w ?_
  have e : (xs ++ [a]).map enc = xs.map enc ++ [enc a] := by rw [List.map_append]; rfl
  unfold oL
  rw [e]
  exact s
theorem ma_map {tr : TA} {ds : α → List Dt} {ds2 : β → List Dt} {m : R α} {f : α → β} (h : MA F Γe Er tr Γ m ds) (e : ∀ a, ds2 (f a) = ds a) : MA F Γe Er tr Γ (m.bind fun a => .ok (f a)) ds2 := fun _ W k T σ H ok w s Q q => by
  rw [R.bind_assoc] at w
  exact h _ W _ T σ H ok w s _ fun a vs H1 w2 s1 e1 => q (f a) vs H1 w2 (by rw [e a]; exact s1) e1
def ML (F : Fx) (Γe : List Ent) (Er : L2.St → Exn → Hp → Prop) (te : TE) (Γ : List Ent) (enc : α → Dt) (m : R (List α)) : Prop :=
  ∀ (ρ : Type) (W : R ρ → Prop) (k : List α → R ρ) T σ H, WOk F Γe Er W → W (m.bind k) → Stt F Γ T σ H → ∀ Q : VK, (∀ xs l vs H', W (k xs) → H' l = some (.lst vs) → Stt F Γ ((.ref l, .rv vs (xs.map enc)) :: T) σ H' → Same H H' → Q (.ref l) H') → te σ H Q
theorem ml_ok {enc : α → Dt} {xs : List α} (h : EvL F te Γ (xs.map enc)) : ML F Γe Er te Γ enc (.ok xs) := fun _ W k T σ H ok w s Q q => h T σ H s Q fun l vs H' hl s' e => q xs l vs H' w hl s' e
theorem Stt.rvD {ds : List Dt} (h : Stt F Γ ((v, .dat (.lst ds)) :: T) σ H) : ∃ l vs, v = .ref l ∧ H l = some (.lst vs) ∧ Stt F Γ ((.ref l, .rv vs ds) :: T) σ H := by
  obtain ⟨B, O1, O2, a, b, c, p, ii⟩ := h.top
  obtain ⟨r, rfl⟩ := a.rp
  unfold Rp at r
  obtain ⟨l, vs, rfl, hl, ra⟩ := r
  refine ⟨l, vs, rfl, p.bh _ _ hl, B, jn emp O2, slots_own (O1 := emp) ?_ b emp_dj, p, ii⟩
  unfold Ow
  exact ⟨ra, rfl⟩
theorem ml_own {enc : α → Dt} {m : R (List α)} (h : MV F Γe Er te Γ m (oL enc)) : ML F Γe Er te Γ enc m := fun _ W k T σ H ok w s Q q => h _ W k T σ H ok w s Q fun xs v H' w' s' e => by
  obtain ⟨l, vs, rfl, hl, s2⟩ := s'.freeze.rvD
  exact q xs l vs H' w' hl s2 e
theorem ml_ix [Inhabited α] {enc : α → Dt} {m1 : R (List α)} {m2 : R Int} (h1 : ML F Γe Er ta Γ enc m1) (h2 : MV F Γe Er tb Γ m2 (oD eI)) : MV F Γe Er (tOp (rIxL F.K) ta tb) Γ (m1.bind fun x => m2.bind fun y => R.guard (inB x y) (R.ok (getI x y))) (oD enc) := fun _ W k T σ H ok w s Q q => by
  rw [R.bind_assoc] at w
  refine h1 _ W _ T σ H ok w s _ fun xs l vs H1 w1 hl s1 e1 => ?_
  rw [R.bind_assoc] at w1
  refine h2 _ W _ _ σ H1 ok w1 s1 _ fun i u H2 w2 s2 e2 => ?_
  have w3 : W (R.guard (inB xs i) (k (getI xs i))) := by
    unfold R.guard at w2 ⊢
    by_cases z : inB xs i
    · rw [if_pos z] at w2 ⊢; exact w2
    · rw [if_neg z] at w2; exact absurd w2 ok.bad
  obtain ⟨hb, w3⟩ := R.guard_ok ok w3
  obtain ⟨B, eb, r⟩ := s2.topd
  have s3 := s2.pop
  obtain ⟨B', eb', ra⟩ := s3.rvs
  have hl' : vs.length = xs.length := by rw [ra.length, List.length_map]
  have hb' : inB vs i := by unfold inB at hb ⊢; rw [hl']; exact hb
  have ix : ixI vs i = ixI xs i := by unfold ixI; rw [hl']
  obtain ⟨w', hw'⟩ : ∃ w, vs[ixI vs i]? = some w := ⟨_, List.getElem?_eq_getElem (ixI_lt hb')⟩
  refine ⟨l, vs, i, w', rfl, rp_int r, SqL.of (e2 l _ hl), by rw [atI_of hb', hw'], ?_⟩
  refine q _ w' H2 w3 (s3.derive fun B2 _ rb => ?_) (e1.trans e2)
  have hg : (xs.map enc)[ixI xs i]? = some (enc (getI xs i)) := by rw [List.getElem?_map, getI_get hb]; rfl
  obtain ⟨w2', e', rw'⟩ := rb.get hg
  rw [← ix, hw'] at e'
  cases e'
  exact rw'
theorem op2_isBl {x y : Bool} : Op2 F (fun x y H Q => ∃ a b, x = .bl a ∧ y = .bl b ∧ Q (.bl (decide (a = b))) H) (.dat (.bl x)) (.dat (.bl y)) (.dat (.bl (decide (x = y)))) := op2_val _ (fun B => by unfold Rp; rfl) fun B H a b Q _ h1 h2 q => ⟨x, y, rp_bl h1, rp_bl h2, q⟩
theorem op2_isnotBl {x y : Bool} : Op2 F (fun x y H Q => ∃ a b, x = .bl a ∧ y = .bl b ∧ Q (.bl (!decide (a = b))) H) (.dat (.bl x)) (.dat (.bl y)) (.dat (.bl (!decide (x = y)))) := op2_val _ (fun B => by unfold Rp; rfl) fun B H a b Q _ h1 h2 q => ⟨x, y, rp_bl h1, rp_bl h2, q⟩
end
theorem rpa_lits {K : PySem.W.Frag} {B : Hp} {ds : List Dt} {vs : List V} (xs : List Str) (h : ds = (xs.map lt).map eS) (h2 : vs = xs.map V.str := by rfl) : RpA K B ds vs := by
  subst h h2
  have e : (xs.map lt).map eS = xs.map Dt.str := by
    rw [List.map_map]
    apply List.map_congr_left
    intro x _
    show Dt.str (Sx (lt x)) = _
    rw [Sx_lt]
  rw [e]
  exact rpa_of_strs
theorem calm_of {α : Type} {m : R α} {F : Fx} {W : R α → Prop} {Q : VK} {res : α → Own} {Er : L2.St → Exn → Hp → Prop} (hw : W m.calm) (ok : ∀ Γe, WOk F Γe Er W) (rt : ∀ a v T Γ σ H', W (.ok a) → Stt F Γ ((v, res a) :: T) σ H' → Q v H') :
    ∃ W' : R α → Prop, W' m ∧ (∀ Γe, WOk F Γe (fun _ _ _ => False) W') ∧ ∀ a v T Γ σ H', W' (.ok a) → Stt F Γ ((v, res a) :: T) σ H' → Q v H' :=
  ⟨fun m => W m.calm, hw, fun Γe => ⟨(ok []).bad, fun e he _ _ _ => (ok []).bad he⟩, rt⟩
theorem q_nx {f : L2.St → Hp → Prop} {r : VK} {a b : L2.St → Hp → Prop} {σ : L2.St} {H : Hp} (h : f σ H) : (Ends.mk f r a b).nx σ H := h
theorem law_end {K : PySem.W.Frag} {Ce : Exn → Addr} {m : List Int → R Bool} {H : Hp} {a : Addr} {ns : List Int} (h : m ns = .ok true) (hS : SqL K H a (ns.map V.int)) :
    spD K Ce 1 (fun x => [eX x]) (fun x => (m x).calm) (oD eB) [.ref a] H (fun v _ => v = .bl true) fun _ _ _ => False := by
  refine ⟨ns, H, emp, rfl, ?_, Same.refl _, fun _ _ e => (nomatch e), ⟨dj_emp, nt_emp⟩, ?_⟩
  · refine owa_dats (ds := [eX ns]) (rpa_cons ?_ rpa_nil)
    unfold Rp
    exact ⟨a, rfl, hS⟩
  · show Wsh K Ce H emp H _ _ _ _ _ _ (m ns).calm
    rw [h]
    intro v B' O' H' _ oa
    unfold OwA at oa
    obtain ⟨v', r, O1, O2, e, a1, _⟩ := oa
    cases e
    exact rp_bl a1.rp.1
end Sm
namespace Sm
open PySem L2
abbrev eA (d : Dt) : Dt := d
def Dt.isT (n : String) (d : Dt) : Bool := (kitB d.tyn n).getD false
def gOb (d : Dt) : Prop := d.tyn ≠ "?"
instance (d : Dt) : Decidable (gOb d) := by unfold gOb; infer_instance
theorem tyn_mem {d : Dt} (g : gOb d) : d.tyn ∈ ["NoneType", "bool", "int", "str", "list", "tuple", "dict"] := by
  cases d with
  | ob C fs xs => exact absurd rfl g
  | wild => exact absurd rfl g
  | _ => simp [Dt.tyn]
def Dt.isI : Dt → Bool
  | .int _ => true
  | _ => false
def Dt.isX : Dt → Bool
  | .str _ => true
  | _ => false
def Dt.isU : Dt → Bool
  | .tup _ => true
  | _ => false
def Dt.isL : Dt → Bool
  | .lst _ => true
  | _ => false
def Dt.asI : Dt → Int
  | .int i => i
  | _ => 0
def Dt.asX : Dt → List Nat
  | .str x => lt x
  | _ => []
def Dt.asU : Dt → List Dt
  | .tup ds => ds
  | _ => []
def Dt.asL : Dt → List Dt
  | .lst ds => ds
  | _ => []
instance : Inhabited Dt := ⟨.non⟩
theorem map_eA (ds : List Dt) : ds.map eA = ds := by
  induction ds with
  | nil => rfl
  | cons d ds ih => rw [List.map_cons, ih]
section
variable {F : Fx} {Γ Γ' Γe : List Ent} {T : List (V × Own)} {σ : L2.St} {H H' : Hp} {v : V} {Er : L2.St → Exn → Hp → Prop} {ρ α β γ δ S : Type} {W : R ρ → Prop} {D : Ends} {ta tb tc te : TE} {tt uu : TT} {i j : Int} {d e : Dt} {c : Bool}
theorem asI_eq (g : d.isI = true) : d = eI d.asI := by cases d <;> first | rfl | cases g
theorem asX_eq (g : d.isX = true) : d = eS d.asX := by
  cases d with
  | str x => show Dt.str x = Dt.str (Sx (lt x)); rw [Sx_lt]
  | _ => cases g
theorem asU_eq (g : d.isU = true) : d = eU eA d.asU := by
  cases d with
  | tup ds => show Dt.tup ds = Dt.tup (ds.map eA); rw [map_eA]
  | _ => cases g
theorem asL_eq (g : d.isL = true) : d = eL eA d.asL := by
  cases d with
  | lst ds => show Dt.lst ds = Dt.lst (ds.map eA); rw [map_eA]
  | _ => cases g
theorem ev_asI (g : d.isI = true) (h : Ev F te Γ (.dat d)) : Ev F te Γ (.dat (eI d.asI)) := ev_is h (congrArg Own.dat (asI_eq g))
theorem ev_asX (g : d.isX = true) (h : Ev F te Γ (.dat d)) : Ev F te Γ (.dat (eS d.asX)) := ev_is h (congrArg Own.dat (asX_eq g))
theorem ev_asU (g : d.isU = true) (h : Ev F te Γ (.dat d)) : Ev F te Γ (.dat (eU eA d.asU)) := ev_is h (congrArg Own.dat (asU_eq g))
theorem ev_asL (g : d.isL = true) (h : Ev F te Γ (.dat d)) : Ev F te Γ (.dat (eL eA d.asL)) := ev_is h (congrArg Own.dat (asL_eq g))
theorem ev_isA {n : String} (hn : ∀ t ∈ ["NoneType", "bool", "int", "str", "list", "tuple", "dict"], (kitB t n).isSome = true) (g : gOb d) (h : Ev F ta Γ (.dat d)) (nq : n ≠ "?" := by decide) : Ev F (tCB (rIsiY F.K) (tCons ta (tCons (tC (.ty n)) tNil))) Γ (.dat (.bl (d.isT n))) := by
  have k : kitB d.tyn n = some (d.isT n) := by
    have := hn _ (tyn_mem g)
    unfold Dt.isT
    cases e : kitB d.tyn n with
    | none => rw [e] at this; cases this
    | some b => rfl
  exact ev_isi k h nq
theorem s_raise {x : Exn} {C : Addr} {E : XK} {tmk : L2.St → Hp → XK → Prop} (hst : Stt F Γ T σ H) (hw : W (.err x)) (ok : WOk F Γe Er W) (wk : Wk Γ Γe) (ht : ∀ σ H (Q : XK), Q (.ref C) none H → tmk σ H Q) (hE : Er σ x H → E (.ref C) none H) :
    tmk σ H fun cls d H' => E cls d H' :=
  ht σ H _ (hE (ok.err x hw σ H ((Stt.pops hst).weak wk)))
end
end Sm
namespace Sm
open PySem L2
def Exn.plain : Exn → Bool
  | .noDealing _ => false
  | _ => true
def R.tryC {α : Type} (m : R α) (c : Exn → Bool) (h : Exn → R α) : R α := match m with
  | .ok a => .ok a
  | .err e => if e.plain = true then (if c e = true then (h e).calm else .err e) else .bad
  | .bad => .bad
section
variable {F : Fx} {Γ Γ' Γe : List Ent} {T : List (V × Own)} {σ : L2.St} {H H' : Hp} {v : V} {Er : L2.St → Exn → Hp → Prop} {ρ α β γ δ S : Type} {W : R ρ → Prop} {D : Ends} {ta tb tc te : TE} {tt uu : TT} {i j : Int} {d e : Dt} {c : Bool}
theorem Stt.hole {i : Nat} {w : V} (h : Stt F Γ T σ H) (e : Γ[i]? = some none) (ni : NI F i) : Stt F (Γ.set i (some (.hole w))) T (σ.set i (some w)) H := by
  obtain ⟨B, O, s, p, q⟩ := h
  have e' : (T.map (fun p => some p.2) ++ Γ)[T.length + i]? = some none := by
    rw [List.getElem?_append_right (by simp)]
    simpa using e
  have z := s.un e' B (.hole w) emp w (Same.refl _) (by unfold Ow; exact ⟨rfl, rfl⟩) emp_dj
  rw [emp_jn, List.set_append_right _ _ (by simp), List.set_append_right _ _ (by simp)] at z
  simp only [List.length_map, Nat.add_sub_cancel_left] at z
  exact ⟨B, O, z, p, fun z hz => by rw [List.getElem?_set_ne (Ne.symm (ni z hz))]; exact q z hz⟩
theorem errAt_plain {Ce : Exn → Addr} {E : XK} {e : Exn} {H : Hp} (h : e.plain = true) : ErrAt Ce E e H = E (.ref (Ce e)) none H := by cases e <;> first | rfl | cases h
def Exn.is (n : String) (e : Exn) : Bool := n == "ForerunError" || n == "ValueError" || (match e with
  | .noNumber => n == "NoNumber"
  | .noTerm => n == "NoTerm"
  | .noDealing _ => n == "NoDealing"
  | .nought => n == "Nought"
  | .great => n == "Great"
  | .folded => n == "Folded"
  | .noHand => n == "NoHand"
  | .noOrder => n == "NoOrder"
  | .noLine => n == "NoLine"
  | .noLog => n == "NoLog")
inductive ClsT : TA → List V → List Value → Prop where
  | nil : ClsT tNil [] []
  | cons {cv : V} {u : Value} {tr : TA} {cs : List V} {us : List Value} (h : ClsV cv u) (k : ClsT tr cs us) : ClsT (tCons (tC cv) tr) (cv :: cs) (u :: us)
theorem ClsT.run {tr : TA} {cs : List V} {us : List Value} (h : ClsT tr cs us) : ∀ {σ : L2.St} {H : Hp} {Q : List V → Hp → Prop}, Q cs H → tr σ H Q := by
  induction h with
  | nil => exact fun q => q
  | cons h k ih => exact fun q => ih q
theorem ClsT.len {tr : TA} {cs : List V} {us : List Value} (h : ClsT tr cs us) : cs.length = us.length := by
  induction h with
  | nil => rfl
  | cons h k ih => simp [ih]
theorem rp_ne_non {K : PySem.W.Frag} {B : Hp} {d : Dt} {v : V} (h : Rp K B d v) (n : d ≠ .non) : v ≠ .non := by
  intro z
  subst z
  cases d with
  | non => exact n rfl
  | bl b => exact nomatch rp_bl h
  | int i => exact nomatch rp_int h
  | str x => exact nomatch rp_str h
  | lst xs => unfold Rp at h; obtain ⟨_, _, e, _⟩ := h; cases e
  | tup xs => unfold Rp at h; obtain ⟨_, _, e, _⟩ := h; cases e
  | scr ns => unfold Rp at h; obtain ⟨_, e, _⟩ := h; cases e
  | dk ks xs => unfold Rp at h; obtain ⟨_, _, e, _⟩ := h; cases e
  | dt ks xs => unfold Rp at h; obtain ⟨_, _, _, e, _⟩ := h; cases e
  | du ks xs => unfold Rp at h; obtain ⟨_, _, e, _⟩ := h; cases e
  | df ks xs => unfold Rp at h; obtain ⟨_, _, _, e, _⟩ := h; cases e
  | ob C fs xs => unfold Rp at h; obtain ⟨_, _, _, e, _⟩ := h; cases e
  | kt ks => unfold Rp at h; obtain ⟨_, e, _⟩ := h; cases e
  | pin a u => unfold Rp at h; exact nomatch h.1
  | wild => unfold Rp at h; obtain ⟨_, e⟩ := h; cases e
theorem op2_isNO {enc : α → Dt} (hne : ∀ a, enc a ≠ .non) {o : Option α} : Op2 F (fun x y H Q => y = .non ∧ Q (.bl (decide (x = .non))) H) (.dat (eO enc o)) (.dat .non) (.dat (.bl o.isNone)) := op2_val _ (fun B => by unfold Rp; rfl) fun B H a b Q _ h1 h2 q => by
  refine ⟨rp_non h2, ?_⟩
  cases o with
  | none =>
    rw [decide_eq_true (rp_non h1)]
    exact q
  | some x =>
    rw [decide_eq_false (rp_ne_non h1 (hne x))]
    exact q
theorem op2_notNO {enc : α → Dt} (hne : ∀ a, enc a ≠ .non) {o : Option α} : Op2 F (fun x y H Q => y = .non ∧ Q (.bl (!decide (x = .non))) H) (.dat (eO enc o)) (.dat .non) (.dat (.bl o.isSome)) := op2_val _ (fun B => by unfold Rp; rfl) fun B H a b Q _ h1 h2 q => by
  refine ⟨rp_non h2, ?_⟩
  cases o with
  | none =>
    rw [decide_eq_true (rp_non h1)]
    exact q
  | some x =>
    rw [decide_eq_false (rp_ne_non h1 (hne x))]
    exact q
theorem ev_isNO {enc : α → Dt} (hne : ∀ a, enc a ≠ .non) {o : Option α} (h1 : Ev F ta Γ (.dat (eO enc o))) (h2 : Ev F tb Γ (.dat .non)) : Ev F (tOp (fun x y H Q => y = .non ∧ Q (.bl (decide (x = .non))) H) ta tb) Γ (.dat (.bl o.isNone)) := ev_op h1 h2 (op2_isNO hne)
end
section
variable {X : Cx}
end
abbrev rLenK (K : PySem.W.Frag) : List V → Hp → VK → Prop := fun xs H Q => ∃ p ys, xs = [.ref p] ∧ (SqL K H p ys ∨ SqT K H p ys) ∧ Q (.int ys.length) H
abbrev rLstK (K : PySem.W.Frag) : List V → Hp → VK → Prop := fun xs H Q => ∃ p ys, xs = [.ref p] ∧ (SqL K H p ys ∨ SqT K H p ys) ∧ ∀ l, H l = none → Q (.ref l) (upd H l (.lst ys))
abbrev rTupK (K : PySem.W.Frag) : List V → Hp → VK → Prop := fun xs H Q => ∃ p ys, xs = [.ref p] ∧ ((SqL K H p ys ∧ ∀ l, H l = none → Q (.ref l) (upd H l (.tup ys))) ∨ (SqT K H p ys ∧ Q (.ref p) H))
def gMS (a : List Nat) (n : Int) : Prop := 1 ≤ n ∧ n ≤ 100000 ∧ a.length ≤ 160
instance (a : List Nat) (n : Int) : Decidable (gMS a n) := by unfold gMS; infer_instance
def gJ (a : List Nat) (ys : List (List Nat)) : Prop := (ys.map (·.length)).sum + ys.length * a.length ≤ 16777216
instance (a : List Nat) (ys : List (List Nat)) : Decidable (gJ a ys) := by unfold gJ; infer_instance
section
variable {F : Fx} {Γ Γ' Γe : List Ent} {T : List (V × Own)} {σ : L2.St} {H H' : Hp} {v : V} {Er : L2.St → Exn → Hp → Prop} {ρ α β γ δ S : Type} {W : R ρ → Prop} {D : Ends} {ta tb tc te : TE} {tt uu : TT} {i j : Int} {d e : Dt} {c : Bool}
end
def exnAll : List Exn := [.noNumber, .noTerm, .nought, .great, .folded, .noHand, .noOrder, .noLine, .noLog]
theorem exn_mem {e : Exn} (h : e.plain = true) : e ∈ exnAll := by cases e <;> first | (unfold exnAll; simp; done) | cases h
def exmB (Ce : PySem.W.Frag → Exn → Addr) (x : Str) (n : String) (K : PySem.W.Frag) : Bool := exnAll.all fun e => decide (PySem.W.exmOne K (.ref (Ce K e)) (.ref (He.ga K x)) = some (e.is n))
theorem exmB_ok {Ce : PySem.W.Frag → Exn → Addr} {x : Str} {n : String} {K : PySem.W.Frag} (h : exmB Ce x n K = true) (e : Exn) (hp : e.plain = true) : PySem.W.exmOne K (.ref (Ce K e)) (.ref (He.ga K x)) = some (e.is n) :=
  of_decide_eq_true (List.all_eq_true.mp h e (exn_mem hp))
end Sm
namespace Sm
open PySem L2
theorem set_same {α : Type} {l : List α} {i : Nat} {x : α} (h : l[i]? = some x) : l.set i x = l := by
  apply List.ext_getElem?
  intro j
  by_cases e : i = j
  · subst e; rw [List.getElem?_set_self (List.getElem?_eq_some_iff.mp h).1, h]
  · rw [List.getElem?_set_ne e]
theorem slots_mut {K : PySem.W.Frag} {B : Hp} {Γ : List Ent} {O : Hp} {σ : L2.St} {i : Nat} {ds : List Dt} (s : Slots K B Γ O σ) (e : Γ[i]? = some (some (.lst (ds.map Own.dat)))) :
    ∃ l vs, σ[i]? = some (some (.ref l)) ∧ O l = some (.lst vs) ∧ RpA K B ds vs ∧ ∀ ds' vs', RpA K B ds' vs' → Slots K B (Γ.set i (some (.lst (ds'.map Own.dat)))) (upd O l (.lst vs')) σ := by
  obtain ⟨v, O1, O2, e1, a, dj, rfl, k, _⟩ := s.at e
  unfold Ow at a
  obtain ⟨l, vs, O', rfl, oa, n', rfl⟩ := a
  obtain ⟨ra, rfl⟩ := oa.dats
  refine ⟨l, vs, e1, jn_some upd_same, ra, fun ds' vs' r => ?_⟩
  have nl : O2 l = none := by
    rcases dj l with x | x
    · rw [upd_same] at x; cases x
    · exact x
  have z := k B (.lst (ds'.map Own.dat)) (upd emp l (.lst vs')) (.ref l) (Same.refl _) (by
    unfold Ow
    exact ⟨l, vs', emp, rfl, owa_dats r, rfl, rfl⟩) (Dj.upd emp_dj nl)
  rw [set_same e1] at z
  rw [upd_jn, upd_upd]
  exact z
section
variable {F : Fx} {Γ Γ' Γe : List Ent} {T : List (V × Own)} {σ : L2.St} {H H' : Hp} {v : V} {Er : L2.St → Exn → Hp → Prop} {ρ α β γ δ S : Type} {W : R ρ → Prop} {D : Ends} {ta tb tc te : TE} {tt uu : TT} {i j : Int} {d e : Dt} {c : Bool} {ds : List Dt} {n : Nat}
theorem Stt.mutL (h : Stt F Γ T σ H) (e : Γ[n]? = some (some (.lst (ds.map Own.dat)))) : ∃ l vs, σ[n]? = some (some (.ref l)) ∧ H l = some (.lst vs) ∧ vs.length = ds.length ∧
    (∀ d u ds' vs', (∀ B, RpA F.K B ds vs → RpA F.K B ds' vs' ∧ Rp F.K B d u) → Stt F (Γ.set n (some (.lst (ds'.map Own.dat)))) ((u, .dat d) :: T) σ (upd H l (.lst vs'))) := by
  obtain ⟨B, O, s, p, q⟩ := h
  have e' : (T.map (fun p => some p.2) ++ Γ)[T.length + n]? = some (some (.lst (ds.map Own.dat))) := by
    rw [List.getElem?_append_right (by simp)]
    simpa using e
  obtain ⟨l, vs, e1, eo, ra, k⟩ := slots_mut s e'
  rw [List.getElem?_append_right (by simp)] at e1
  refine ⟨l, vs, by simpa using e1, p.oh _ _ eo, ra.length, fun d u ds' vs' hr => ?_⟩
  obtain ⟨r1, r2⟩ := hr B ra
  have z := k ds' vs' r1
  rw [List.set_append_right _ _ (by simp)] at z
  simp only [List.length_map, Nat.add_sub_cancel_left] at z
  have z2 := slots_own (ow_dat r2) z emp_dj
  rw [emp_jn] at z2
  exact ⟨B, _, z2, p.mut eo, q⟩
def MP (F : Fx) (Γe : List Ent) (Er : L2.St → Exn → Hp → Prop) (te : TE) (Γ : List Ent) (n : Nat) (enc : β → Dt) (m : R (α × List β)) (t : α → Own) : Prop :=
  ∀ (ρ : Type) (W : R ρ → Prop) (k : α × List β → R ρ) T σ H, WOk F Γe Er W → W (m.bind k) → Stt F Γ T σ H → ∀ Q : VK, (∀ a xs v H', W (k (a, xs)) → Stt F (Γ.set n (some (oL enc xs))) ((v, t a) :: T) σ H' → Q v H') → te σ H Q
def popR [Inhabited α] (xs : List α) : R (α × List α) := R.guard (0 < xs.length) (R.ok ((xs.getLast?).getD default, xs.dropLast))
theorem map_dropLast' (f : α → β) (xs : List α) : (xs.dropLast).map f = (xs.map f).dropLast := by simp [List.map_dropLast]
theorem getLastD_get [Inhabited α] {xs : List α} (h : 0 < xs.length) : xs[xs.length - 1]? = some ((xs.getLast?).getD default) := by
  cases xs with
  | nil => simp at h
  | cons x xs => rw [← List.getLast?_eq_getElem?, List.getLast?_cons]; rfl
theorem mp_pop [Inhabited α] {enc : α → Dt} {xs : List α} (he : Γ[n]? = some (some (oL enc xs))) : MP F Γe Er (tBM0 F.K "list" rPop (tVar n)) Γ n enc (popR xs) (oD enc) := fun _ W k T σ H ok w s Q q => by
  have w2 : W (R.guard (0 < xs.length) (k ((xs.getLast?).getD default, xs.dropLast))) := by
    unfold popR R.guard at w
    unfold R.guard
    by_cases z : 0 < xs.length
    · rw [if_pos z] at w ⊢; exact w
    · rw [if_neg z] at w; exact absurd w ok.bad
  obtain ⟨hl, w3⟩ := R.guard_ok ok w2
  obtain ⟨l, vs, e1, e2, e3, k2⟩ := s.mutL (ds := xs.map enc) he
  rw [List.length_map] at e3
  obtain ⟨u, hu⟩ : ∃ u, vs[vs.length - 1]? = some u := ⟨_, List.getElem?_eq_getElem (by omega)⟩
  refine ⟨.ref l, e1, .inl ⟨rfl, _, SqL.of e2⟩, l, vs, u, rfl, rfl, e2, hu, ?_⟩
  refine q _ _ u _ w3 ?_
  have z := k2 (enc ((xs.getLast?).getD default)) u ((xs.map enc).dropLast) vs.dropLast fun B r => ⟨r.dropLast, by
    have hg : (xs.map enc)[vs.length - 1]? = some (enc ((xs.getLast?).getD default)) := by rw [e3, List.getElem?_map, getLastD_get hl]; rfl
    obtain ⟨u', e', ru⟩ := r.get hg
    rw [hu] at e'
    cases e'
    exact ru⟩
  rw [← map_dropLast'] at z
  exact z
theorem mp_guard {enc : β → Dt} {p : Prop} [Decidable p] {m : R (α × List β)} {t : α → Own} (h : p → MP F Γe Er te Γ n enc m t) : MP F Γe Er te Γ n enc (R.guard p m) t := fun _ W k T σ H ok w s Q q => by
  unfold R.guard at w
  by_cases c : p
  · rw [if_pos c] at w; exact h c _ W k T σ H ok w s Q q
  · rw [if_neg c] at w; exact absurd w ok.bad
def MPA (F : Fx) (Γe : List Ent) (Er : L2.St → Exn → Hp → Prop) (tr : TA) (Γ : List Ent) (n : Nat) (enc : β → Dt) (m : R (α × List β)) (ds : α → List Dt) : Prop :=
  ∀ (ρ : Type) (W : R ρ → Prop) (k : α × List β → R ρ) T σ H, WOk F Γe Er W → W (m.bind k) → Stt F Γ T σ H → ∀ Q : List V → Hp → Prop, (∀ a xs vs H', W (k (a, xs)) → SttA F (Γ.set n (some (oL enc xs))) T vs (ds a) σ H' → Q vs H') → tr σ H Q
theorem mpa_cons {tr : TA} {enc : β → Dt} {m : R (α × List β)} {e1 : α → Dt} {ds : α → List Dt} (h : MP F Γe Er te Γ n enc m fun a => .dat (e1 a)) (h2 : ∀ a xs, EvA F tr (Γ.set n (some (oL enc xs))) (ds a)) : MPA F Γe Er (tCons te tr) Γ n enc m fun a => e1 a :: ds a := fun _ W k T σ H ok w s Q q =>
  h _ W k T σ H ok w s _ fun a xs v H1 w1 s1 => h2 a xs _ σ H1 s1 _ fun vs H2 s2 _ => q a xs (v :: vs) H2 w1 s2.cons
theorem mpa_consP {tr : TA} {enc : β → Dt} {m : R (α × List β)} {ds : α → List Dt} (h1 : Ev F te Γ (.dat d)) (h2 : MPA F Γe Er tr Γ n enc m ds) : MPA F Γe Er (tCons te tr) Γ n enc m fun a => d :: ds a := fun _ W k T σ H ok w s Q q =>
  h1 T σ H s _ fun v H1 s1 _ => h2 _ W k _ σ H1 ok w s1 _ fun a xs vs H2 w2 s2 => q a xs (v :: vs) H2 w2 s2.cons
theorem mp_call {X : Type} {Ce : Exn → Addr} {nn : Nat} {argT : X → List Dt} {m : X → R γ} {res : γ → Own} {tr : TA} {enc : β → Dt} {ds : α → List Dt} {Ex : L2.St → XK} {mx : R (α × List β)} (x : α → X)
    (ha : MPA F Γe Er tr Γ n enc mx ds) (hx : ∀ b, argT (x b) = ds b) (hn : ∀ b, (ds b).length = nn) (hE : ∀ σ e H', Er σ e H' → ErrAt Ce (Ex σ) e H') (wk : ∀ xs, Wk (Γ.set n (some (oL enc xs))) Γe) :
    MP F Γe Er (tCallS (spD F.K Ce nn argT m res) Ex tr) Γ n enc (mx.bind fun b => (m (x b.1)).bind fun r => R.ok (r, b.2)) res := fun _ W k T σ H ok w s Q q => by
  rw [R.bind_assoc] at w
  refine ha _ W _ T σ H ok w s _ fun b xs vs H1 w1 A => ?_
  rw [R.bind_assoc] at w1
  exact call_goS (x b) (hx b) (hn b) A ok (hE σ) (wk xs) w1 fun a v H2 w2 s2 _ => q a xs v H2 w2 s2
theorem s_asgP {jn_ : Nat} {enc : β → Dt} {m : R (α × List β)} {t : α → Own} {k : α → List β → R ρ} (hst : Stt F Γ T σ H) (hw : W (m.bind (R.sp2 k))) (ok : WOk F Γe Er W) (h : MP F Γe Er te Γ n enc m t) (hj : jn_ < Γ.length) (ni : NI F jn_)
    (q : ∀ a xs σ' H', W (k a xs) → Stt F ((Γ.set n (some (oL enc xs))).set jn_ (some (t a))) T σ' H' → D.nx σ' H') : tAsg te (gName jn_) D σ H :=
  h _ W _ T σ H ok hw hst _ fun a xs v H1 w s1 => q a xs _ H1 w (s1.assign (by rw [List.length_set]; exact hj) ni)
theorem ev_tupLE {enc : α → Dt} {xs : List α} (h : EvL F te Γ (xs.map enc)) : Ev F (tCB (rTupK F.K) (tCons te tNil)) Γ (.dat (eU enc xs)) := ev_tupleL h
def inA (d : Dt) (ns : List (List Nat)) : Bool := match d with
  | .str x => decide (lt x ∈ ns)
  | _ => false
def flatD (d : Dt) : Bool := d.isI || d.isX
theorem inV_intS (i : Int) : ∀ ns : List Str, inV (.int i) (ns.map V.str) = false
  | [] => by simp [inV]
  | n :: ns => by
    have ih := inV_intS i ns
    unfold inV at ih ⊢
    rw [List.map_cons, List.any_cons, ih]
    rfl
theorem ev_inTA {ns : List (List Nat)} (g : flatD d = true) (h1 : Ev F ta Γ (.dat d)) (h2 : Ev F tb Γ (.dat (eU eS ns))) : Ev F (tOp (rIn F.K false) ta tb) Γ (.dat (.bl (inA d ns))) := by
  unfold eU at h2
  rw [map_eS] at h2
  cases d with
  | str x =>
    have h1' : Ev F ta Γ (.dat (eS (lt x))) := ev_is h1 (by rw [eS, Sx_lt])
    have := ev_inTS (neg := false) h1' h2
    simp only [mem_Sx] at this
    exact this
  | int i =>
    exact ev_op h1 h2 (op2_val _ (fun B => by unfold Rp; rfl) fun B H x y Q eb h1 h2 q => by
      rw [rp_int h1]
      unfold Rp at h2
      obtain ⟨a, xs, rfl, hs, ra⟩ := h2
      rw [rpa_strs ra] at hs
      exact ⟨a, _, rfl, .inr (sqt_mono eb hs), rfl, flat_strs _, by rw [inV_intS]; exact q⟩)
  | _ => cases g
def b2I (b : Bool) : Int := if b then 1 else 0
abbrev rInt1 : List V → Hp → VK → Prop := fun xs H Q => (∃ i, xs = [.int i] ∧ Q (.int i) H) ∨ ∃ k, xs = [.bl k] ∧ Q (.int (if k then 1 else 0)) H
theorem ev_intB {b : Bool} (h : Ev F te Γ (.dat (.bl b))) : Ev F (tCB rInt1 (tCons te tNil)) Γ (.dat (.int (b2I b))) := fun T σ H s Q q =>
  h T σ H s _ fun v H1 s1 e1 => by
    obtain ⟨B, _, r⟩ := s1.topd
    exact .inr ⟨b, by rw [rp_bl r], q _ H1 (s1.pop.push fun _ _ => by unfold Rp; rfl) e1⟩
end
def CDivWN (_ j : Int) : Prop := j ≠ 0 ∧ j.natAbs.log2 < 9000
instance (i j : Int) : Decidable (CDivWN i j) := by unfold CDivWN; infer_instance
theorem op_fdivWN {X : Cx} : OpR X (binaryOp .FloorDiv) (rI CDivWN fun i j => .int (i.fdiv j)) := opI fun _ _ _ _ _ _ _ hc q => PyProof.Rows.floordiv_int hc.1 q (.inl (PyProof.noPylong_of_log2 hc.2))
theorem ev_divWN {F : Fx} {Γ : List Ent} {ta tb : TE} {i j : Int} (hc : CDivWN i j) (h1 : Ev F ta Γ (.dat (.int i))) (h2 : Ev F tb Γ (.dat (.int j))) : Ev F (tOp (rI CDivWN fun i j => .int (i.fdiv j)) ta tb) Γ (.dat (.int (i.fdiv j))) := ev_op h1 h2 (op2_I (g := fun i j => i.fdiv j) hc)
def kS (l : List Nat) : Key := .inr (Sx l)
def kI (i : Int) : Key := .inl i
theorem kS_inj {a b : List Nat} : kS a = kS b ↔ a = b := by unfold kS; rw [Sum.inr.injEq, Sx_inj]
theorem kI_inj {a b : Int} : kI a = kI b ↔ a = b := by unfold kI; rw [Sum.inl.injEq]
section
variable {α β : Type} [DecidableEq α]
abbrev eK (kk : α → Key) (e : β → Dt) (kvs : List (α × β)) : Dt := .dk (kvs.map fun p => kk p.1) (kvs.map fun p => e p.2)
abbrev oK (kk : α → Key) (e : β → Dt) (kvs : List (α × β)) : Own := .dK (kvs.map fun p => kk p.1) ((kvs.map fun p => e p.2).map Own.dat)
def getD? (kvs : List (α × β)) (k : α) : Option β := (kvs.find? fun p => decide (p.1 = k)).map (·.2)
def putD (kvs : List (α × β)) (k : α) (v : β) : List (α × β) := if (kvs.any fun p => decide (p.1 = k)) = true then kvs.map (fun p => if p.1 = k then (p.1, v) else p) else kvs ++ [(k, v)]
theorem zip_get {K : PySem.W.Frag} {B : Hp} {κ : Type} [DecidableEq κ] {kk : α → κ} {e : β → Dt} (inj : ∀ a b, kk a = kk b → a = b) {k : α} : ∀ {kvs : List (α × β)} {vs : List V}, RpA K B (kvs.map fun p => e p.2) vs →
    (valV ((kvs.map fun p => kk p.1).zip vs) (kk k) = none ∧ getD? kvs k = none) ∨ ∃ v b, valV ((kvs.map fun p => kk p.1).zip vs) (kk k) = some v ∧ getD? kvs k = some b ∧ Rp K B (e b) v
  | [], vs, h => .inl ⟨rfl, rfl⟩
  | p :: kvs, vs, h => by
    rw [List.map_cons] at h
    unfold RpA at h
    obtain ⟨v, r, rfl, h1, h2⟩ := h
    rw [List.map_cons, List.zip_cons_cons]
    by_cases c : p.1 = k
    · refine .inr ⟨v, p.2, valV_pos (by rw [c]), ?_, h1⟩
      unfold getD?
      rw [List.find?_cons, decide_eq_true c]
      rfl
    · have c' : ¬ kk p.1 = kk k := fun z => c (inj _ _ z)
      have e1 : getD? (p :: kvs) k = getD? kvs k := by
        unfold getD?
        rw [List.find?_cons, decide_eq_false c]
      have e2 : valV ((kk p.1, v) :: (kvs.map fun p => kk p.1).zip r) (kk k) = valV ((kvs.map fun p => kk p.1).zip r) (kk k) := valV_neg c'
      rw [e1, e2]
      exact zip_get inj h2
theorem zip_any {κ : Type} [DecidableEq κ] {kk : α → κ} (inj : ∀ a b, kk a = kk b → a = b) {k : α} : ∀ {kvs : List (α × β)} {vs : List V}, vs.length = kvs.length → (((kvs.map fun p => kk p.1).zip vs).any fun kv => decide (kv.1 = kk k)) = kvs.any fun p => decide (p.1 = k)
  | [], vs, _ => rfl
  | p :: kvs, [], h => by simp at h
  | p :: kvs, v :: vs, h => by
    rw [List.map_cons, List.zip_cons_cons, List.any_cons, List.any_cons, zip_any inj (by simpa using h)]
    congr 1
    by_cases c : p.1 = k
    · rw [decide_eq_true c, decide_eq_true (by rw [c])]
    · rw [decide_eq_false c, decide_eq_false fun z => c (inj _ _ z)]
theorem zip_map {K : PySem.W.Frag} {B : Hp} {κ : Type} [DecidableEq κ] {kk : α → κ} {e : β → Dt} (inj : ∀ a b, kk a = kk b → a = b) {k : α} {b : β} {u : V} (hu : Rp K B (e b) u) : ∀ {kvs : List (α × β)} {vs : List V}, RpA K B (kvs.map fun p => e p.2) vs →
    ∃ ws, ((kvs.map fun p => kk p.1).zip vs).map (fun kv => if kv.1 = kk k then (kv.1, u) else kv) = ((kvs.map fun p => if p.1 = k then (p.1, b) else p).map fun p => kk p.1).zip ws ∧ RpA K B ((kvs.map fun p => if p.1 = k then (p.1, b) else p).map fun p => e p.2) ws
  | [], vs, h => ⟨[], rfl, rpa_nil⟩
  | p :: kvs, vs, h => by
    rw [List.map_cons] at h
    unfold RpA at h
    obtain ⟨v, r, rfl, h1, h2⟩ := h
    obtain ⟨ws, q1, q2⟩ := zip_map inj (k := k) hu h2
    by_cases c : p.1 = k
    · refine ⟨u :: ws, ?_, ?_⟩
      · simp only [List.map_cons, List.zip_cons_cons, q1]
        rw [if_pos (by rw [c]), if_pos c]
      · rw [List.map_cons, List.map_cons, if_pos c]
        exact rpa_cons hu q2
    · refine ⟨v :: ws, ?_, ?_⟩
      · simp only [List.map_cons, List.zip_cons_cons, q1]
        rw [if_neg fun z => c (inj _ _ z), if_neg c]
      · rw [List.map_cons, List.map_cons, if_neg c]
        exact rpa_cons h1 q2
theorem zip_put {K : PySem.W.Frag} {B : Hp} {κ : Type} [DecidableEq κ] {kk : α → κ} {e : β → Dt} (inj : ∀ a b, kk a = kk b → a = b) {k : α} {b : β} {u : V} (hu : Rp K B (e b) u) {kvs : List (α × β)} {vs : List V} (h : RpA K B (kvs.map fun p => e p.2) vs) :
    ∃ ws, putK ((kvs.map fun p => kk p.1).zip vs) (kk k) u = ((putD kvs k b).map fun p => kk p.1).zip ws ∧ RpA K B ((putD kvs k b).map fun p => e p.2) ws := by
  have hl : vs.length = kvs.length := by rw [h.length, List.length_map]
  unfold putK putD
  rw [zip_any inj hl]
  by_cases c : (kvs.any fun p => decide (p.1 = k)) = true
  · rw [if_pos c, if_pos c]
    exact zip_map inj hu h
  · rw [if_neg c, if_neg c]
    refine ⟨vs ++ [u], ?_, ?_⟩
    · rw [List.map_append, List.zip_append (by simp [hl])]
      rfl
    · rw [List.map_append]
      exact h.append (RpA.one hu)
end
section
variable {F : Fx} {Γ Γ' Γe : List Ent} {T : List (V × Own)} {σ : L2.St} {H H' : Hp} {v : V} {Er : L2.St → Exn → Hp → Prop} {ρ α β γ δ S : Type} {W : R ρ → Prop} {D : Ends} {ta tb tc te : TE} {tt uu : TT} {i j : Int} {d e : Dt} {c : Bool} {ds : List Dt} {n : Nat} [DecidableEq α] {kk : α → Key} {enc : β → Dt}
theorem ev_dnewO : Ev F tDNewK Γ (oK kk enc ([] : List (α × β))) := fun T σ H s Q q p hp => by
  refine q _ _ (s.new hp fun B _ O _ => ?_) (same_upd hp)
  unfold Ow
  exact ⟨p, [], emp, rfl, owa_nil, rfl, rfl, rfl⟩
theorem ev_dget2 {kvs : List (α × β)} {kd : α → Dt} {ky : α} {b : β} (inj : ∀ a b, kk a = kk b → a = b) (hkd : ∀ B v, Rp F.K B (kd ky) v → v = kV (kk ky)) (h1 : Ev F ta Γ (.dat (eK kk enc kvs))) (h2 : Ev F tb Γ (.dat (kd ky))) (h3 : Ev F tc Γ (.dat (enc b))) :
    Ev F (tDGet2 ta tb tc) Γ (.dat (enc ((getD? kvs ky).getD b))) := fun T σ H s Q q =>
  h1 T σ H s _ fun v H1 s1 e1 => by
    obtain ⟨B, eb, r⟩ := s1.topd
    unfold Rp at r
    obtain ⟨a, vs, rfl, ha, _, ra⟩ := r
    refine ⟨a, rfl, .inl ⟨_, .inl (eb _ _ ha)⟩, h2 _ σ H1 s1 _ fun kv H2 s2 e2 => h3 _ σ H2 s2 _ fun x H3 s3 e3 => ?_⟩
    obtain ⟨B2, _, rk⟩ := s2.topd
    have ekv := hkd _ _ rk
    refine ⟨_, .inl ⟨_, kk ky, .inl (e3 _ _ (e2 _ _ (eb _ _ ha))), ekv, rfl⟩, ?_⟩
    have ha3 : H3 a = some (.dK ((kvs.map fun p => kk p.1).zip vs)) := e3 _ _ (e2 _ _ (eb _ _ ha))
    have fin : ∀ w, (∀ B', Same B' H3 → Rp F.K B' (eK kk enc kvs) (.ref a) → Rp F.K B' (enc b) x → Rp F.K B' (enc ((getD? kvs ky).getD b)) w) → Q w H3 := fun w hw => by
      obtain ⟨B3, O1, O2, ax, sl, dj, p, ii⟩ := s3.top
      obtain ⟨rx, rfl⟩ := ax.rp
      rw [emp_jn] at p
      rw [List.map_cons, List.map_cons] at sl
      unfold Slots at sl
      obtain ⟨_, _, P1, P2, ee, a2, b2, c2, rfl⟩ := sl
      cases ee
      obtain ⟨_, rfl⟩ := a2.rp
      have b2 : Slots F.K B3 (some (Own.dat (eK kk enc kvs)) :: (T.map (fun p => some p.2) ++ Γ)) P2 (some (V.ref a) :: (T.map (fun p => some p.1) ++ σ)) := b2
      unfold Slots at b2
      obtain ⟨_, _, P3, P4, ee, a3, b3, c3, rfl⟩ := b2
      cases ee
      obtain ⟨rd, rfl⟩ := a3.rp
      rw [emp_jn, emp_jn] at p
      have z := slots_own (ow_dat (hw B3 p.bh rd rx)) b3 emp_dj
      rw [emp_jn] at z
      exact q w H3 ⟨B3, P4, z, p, ii⟩ ((e1.trans e2).trans e3)
    rcases zip_get (kk := kk) (k := ky) inj ra with ⟨z1, z2⟩ | ⟨w, b', z1, z2, z3⟩
    · rw [z1]
      exact fin x fun B' _ _ hx => by rw [z2]; exact hx
    · rw [z1]
      refine fin w fun B' hs hd _ => ?_
      rw [z2]
      unfold Rp at hd
      obtain ⟨a', vs', ea, ha', _, ra'⟩ := hd
      cases ea
      rcases zip_get (kk := kk) (k := ky) inj ra' with ⟨y1, y2⟩ | ⟨w2, b2, y1, y2, y3⟩
      · rw [z2] at y2; cases y2
      · rw [z2] at y2
        cases y2
        have h4 := hs _ _ ha'
        rw [ha3] at h4
        have h5 := Option.some.inj h4
        injection h5 with h6
        rw [← h6, z1] at y1
        cases y1
        exact y3
def gDE [DecidableEq β] (a b : List (α × β)) : Prop := a = b ∧ (a.map (·.1)).Nodup
instance [DecidableEq β] (a b : List (α × β)) : Decidable (gDE a b) := by unfold gDE; infer_instance
end
section
variable {F : Fx} {Γ Γ' Γe : List Ent} {T : List (V × Own)} {σ : L2.St} {H H' : Hp} {v : V} {Er : L2.St → Exn → Hp → Prop} {ρ α β γ δ S : Type} {W : R ρ → Prop} {D : Ends} {ta tb tc te : TE} {tt uu : TT} {i j : Int} {d e : Dt} {c : Bool} {ds es : List Dt} {n : Nat}
def gQ (d : Dt) : Prop := d.pl = true ∧ SeqAt.shaped d.py = true
instance (d : Dt) : Decidable (gQ d) := by unfold gQ; infer_instance
end
end Sm
namespace Sm
open PySem L2
def Sat {α : Type} (m : R α) (P : α → Prop) : Prop := ∃ a, m = .ok a ∧ P a
section
variable {α β γ S ρ : Type}
theorem sat_ok {a : α} {P : α → Prop} (h : P a) : Sat (.ok a) P := ⟨a, rfl, h⟩
theorem sat_bind {m : R α} {f : α → R β} {Q : α → Prop} {P : β → Prop} (h : Sat m Q) (k : ∀ a, Q a → Sat (f a) P) : Sat (m.bind f) P := by
  obtain ⟨a, rfl, q⟩ := h
  exact k a q
theorem sat_guard {p : Prop} [Decidable p] {m : R α} {P : α → Prop} (h : p) (k : Sat m P) : Sat (R.guard p m) P := by
  unfold R.guard
  rw [if_pos h]
  exact k
theorem sat_if {c : Prop} [Decidable c] {a b : R α} {P : α → Prop} (h1 : c → Sat a P) (h2 : ¬ c → Sat b P) : Sat (if c then a else b) P := by
  by_cases h : c
  · rw [if_pos h]; exact h1 h
  · rw [if_neg h]; exact h2 h
theorem sat_mono {m : R α} {P Q : α → Prop} (h : Sat m P) (k : ∀ a, P a → Q a) : Sat m Q := by
  obtain ⟨a, e, p⟩ := h
  exact ⟨a, e, k a p⟩
theorem sat_eq {m : R α} {a : α} (h : Sat m (· = a)) : m = .ok a := by
  obtain ⟨b, e, rfl⟩ := h
  exact e
theorem sat_of {m : R α} {a : α} {P : α → Prop} (h : m = .ok a) (p : P a) : Sat m P := ⟨a, h, p⟩
theorem sat_or {a b : R Bool} {x y : Bool} (h : Sat a (· = x)) (k : x = false → Sat b (· = y)) : Sat (R.or a b) (· = (x || y)) := by
  obtain ⟨x', rfl, rfl⟩ := h
  cases x' with
  | true => exact ⟨true, rfl, by simp⟩
  | false =>
    obtain ⟨_, rfl, rfl⟩ := k rfl
    exact ⟨_, rfl, by simp⟩
theorem sat_not {a : R Bool} {x : Bool} (h : Sat a (· = x)) : Sat (R.not a) (· = !x) := by
  obtain ⟨_, rfl, rfl⟩ := h
  exact ⟨_, rfl, rfl⟩
theorem sat_fold {f : α → S → R S} {xs : List α} {s0 : S} (I : List α → S → Prop) (h0 : I [] s0) (step : ∀ pre x suf s, xs = pre ++ x :: suf → I pre s → Sat (f x s) (I (pre ++ [x]))) : Sat (foldR f xs s0) (I xs) := by
  suffices h : ∀ suf pre s, xs = pre ++ suf → I pre s → Sat (foldR f suf s) (I xs) from h xs [] s0 rfl h0
  intro suf
  induction suf with
  | nil => intro pre s e i; rw [List.append_nil] at e; subst e; exact sat_ok i
  | cons x suf ih => intro pre s e i; exact sat_bind (step pre x suf s e i) fun s' i' => ih (pre ++ [x]) s' (by rw [e]; simp) i'
theorem sat_for {f : α → S → R (Ctl S ρ)} {xs : List α} {s0 : S} {P : Ctl S ρ → Prop} (I : List α → S → Prop) (h0 : I [] s0)
    (step : ∀ pre x suf s, xs = pre ++ x :: suf → I pre s → Sat (f x s) fun c => match c with
      | .nx s' => I (pre ++ [x]) s'
      | .rt r => P (.rt r)
      | .bk s' => P (.nx s')) (hd : ∀ s, I xs s → P (.nx s)) : Sat (forR f xs s0) P := by
  suffices h : ∀ suf pre s, xs = pre ++ suf → I pre s → Sat (forR f suf s) P from h xs [] s0 rfl h0
  intro suf
  induction suf with
  | nil => intro pre s e i; rw [List.append_nil] at e; subst e; exact sat_ok (hd s i)
  | cons x suf ih =>
    intro pre s e i
    refine sat_bind (step pre x suf s e i) fun c h => ?_
    cases c with
    | nx s' => exact ih (pre ++ [x]) s' (by rw [e]; simp) h
    | rt r => exact sat_ok h
    | bk s' => exact sat_ok h
theorem sat_mapE {f : α → R β} {xs : List α} (g : α → β) (h : ∀ x, x ∈ xs → f x = .ok (g x)) : mapR f xs = .ok (xs.map g) := by
  induction xs with
  | nil => rfl
  | cons x xs ih =>
    show (f x).calm.bind _ = _
    rw [h x (by simp)]
    show (mapR f xs).bind _ = _
    rw [ih fun y hy => h y (by simp [hy])]
    rfl
theorem sat_while {c : S → R Bool} {f : S → R (Ctl S ρ)} {P : Ctl S ρ → Prop} (I : S → Prop) (μ : S → Nat) : ∀ {n : Nat} {s : S}, I s → μ s < n →
    (∀ s, I s → Sat (c s) fun b => match b with
      | false => P (.nx s)
      | true => Sat (f s) fun k => match k with
        | .nx s' => I s' ∧ μ s' < μ s
        | .rt r => P (.rt r)
        | .bk s' => P (.nx s')) → Sat (whileR c f n s) P
  | 0, _, _, h, _ => absurd h (Nat.not_lt_zero _)
  | n + 1, s, i, hm, step => by
    refine sat_bind (step s i) fun b h => ?_
    cases b with
    | false => exact sat_ok h
    | true =>
      refine sat_bind h fun k hk => ?_
      cases k with
      | nx s' => exact sat_while I μ hk.1 (by omega) step
      | rt r => exact sat_ok hk
      | bk s' => exact sat_ok hk
theorem rng_mem {i a b : Int} : i ∈ rng a b ↔ a ≤ i ∧ i < b := by
  unfold rng
  rw [List.mem_map]
  constructor
  · rintro ⟨n, h, rfl⟩
    rw [List.mem_range] at h
    omega
  · intro h
    exact ⟨(i - a).toNat, by rw [List.mem_range]; omega, by omega⟩
theorem rng_len {a b : Int} : (rng a b).length = (b - a).toNat := by unfold rng; simp
theorem rng_pre {a b : Int} {pre suf : List Int} {x : Int} (h : rng a b = pre ++ x :: suf) : x = a + pre.length := by
  have e : (rng a b)[pre.length]? = some x := by rw [h]; simp
  unfold rng at e
  rw [List.getElem?_map] at e
  cases q : (List.range (b - a).toNat)[pre.length]? with
  | none => rw [q] at e; cases e
  | some n =>
    rw [q] at e
    have := List.getElem?_eq_some_iff.mp q
    obtain ⟨h1, h2⟩ := this
    rw [List.getElem_range] at h2
    subst h2
    exact (Option.some.inj e).symm
theorem divW {i : Int} {n : Int} (h : 0 < n) (b : n < 1267650600228229401496703205376) : CDivW i n := ⟨h, Nat.lt_of_le_of_lt (Nat.log2_lt (n := n.natAbs) (k := 101) (by omega) |>.mpr (by omega) |> Nat.le_of_lt) (by decide)⟩
theorem mulW {i j : Int} {a b : Nat} (h1 : i.natAbs < 2 ^ a) (h2 : j.natAbs < 2 ^ b) (h3 : 0 < a) (h4 : 0 < b) (h : a + b ≤ 1000000) : CMulW i j := wide_mul h1 h2 h3 h4 h
theorem gS_of {l : List Nat} (h : l.length ≤ 16777216) : gS l := h
theorem gR_of {j : Int} (h : -1000000000 ≤ j) (k : j ≤ 1000000000) : gR j := ⟨by omega, by omega⟩
theorem getI_mem [Inhabited α] {xs : List α} {i : Int} (h : inB xs i) : getI xs i ∈ xs := List.mem_of_getElem? (getI_get h)
theorem inB_of {xs : List α} {i : Int} (h : 0 ≤ i) (k : i < xs.length) : inB xs i := ⟨by omega, k⟩
theorem cutL_length_le {xs : List α} {lo hi : Option Int} : (cutL xs lo hi).length ≤ xs.length := by
  unfold cutL
  rw [List.length_take, List.length_drop]
  omega
theorem cutL_mem {xs : List α} {lo hi : Option Int} {x : α} (h : x ∈ cutL xs lo hi) : x ∈ xs := by
  unfold cutL at h
  exact List.mem_of_mem_drop (List.mem_of_mem_take h)
end
end Sm
namespace Sm
open PySem L2 TL
end Sm
namespace Sm
open PySem L2 TL
section
variable {α β S : Type}
theorem popR_app [Inhabited α] (xs : List α) (x : α) : popR (xs ++ [x]) = .ok (x, xs) := by
  unfold popR R.guard
  rw [if_pos (by simp)]
  simp
end
section
variable {α β : Type} [DecidableEq α]
theorem getD?_mem {kvs : List (α × β)} {k : α} {b : β} (h : getD? kvs k = some b) : (k, b) ∈ kvs := by
  unfold getD? at h
  cases q : kvs.find? fun p => decide (p.1 = k) with
  | none => rw [q] at h; cases h
  | some p =>
    rw [q] at h
    have h1 := List.mem_of_find?_eq_some q
    have h2 := List.find?_some q
    simp at h h2
    subst h h2
    exact h1
theorem putD_mem {kvs : List (α × β)} {k : α} {v : β} {p : α × β} (h : p ∈ putD kvs k v) : p ∈ kvs ∨ p = (k, v) := by
  unfold putD at h
  split at h
  · obtain ⟨q, hq, e⟩ := List.mem_map.mp h
    split at e
    · next c => exact .inr (by rw [← e, c])
    · exact .inl (e ▸ hq)
  · rcases List.mem_append.mp h with h | h
    · exact .inl h
    · exact .inr (List.mem_singleton.mp h)
theorem putD_keys {kvs : List (α × β)} {k : α} {v : β} : (putD kvs k v).map (·.1) = if k ∈ kvs.map (·.1) then kvs.map (·.1) else kvs.map (·.1) ++ [k] := by
  unfold putD
  by_cases c : k ∈ kvs.map (·.1)
  · have : (kvs.any fun p => decide (p.1 = k)) = true := by
      rw [List.any_eq_true]
      obtain ⟨p, hp, e⟩ := List.mem_map.mp c
      exact ⟨p, hp, by simpa using e⟩
    rw [if_pos this, if_pos c, List.map_map]
    apply List.map_congr_left
    intro p hp
    simp only [Function.comp]
    split
    · rfl
    · rfl
  · have : ¬ (kvs.any fun p => decide (p.1 = k)) = true := by
      rw [List.any_eq_true]
      rintro ⟨p, hp, e⟩
      exact c (List.mem_map.mpr ⟨p, hp, by simpa using e⟩)
    rw [if_neg this, if_neg c, List.map_append]
    rfl
theorem putD_nodup {kvs : List (α × β)} {k : α} {v : β} (h : (kvs.map (·.1)).Nodup) : ((putD kvs k v).map (·.1)).Nodup := by
  rw [putD_keys]
  split
  · exact h
  · next c => exact List.nodup_append.mpr ⟨h, by simp, fun a ha b hb e => by
      rw [List.mem_singleton] at hb; subst hb e; exact c ha⟩
theorem putD_length {kvs : List (α × β)} {k : α} {v : β} : (putD kvs k v).length ≤ kvs.length + 1 := by
  have := congrArg List.length (putD_keys (kvs := kvs) (k := k) (v := v))
  rw [List.length_map] at this
  rw [this]
  split <;> simp
end
def gQn (n : Nat) (d : Dt) : Prop := d.pl = true ∧ d.py.canLay0 = true ∧ d.py.depth ≤ n
theorem gQn_gQ {n : Nat} {d : Dt} (h : gQn n d) (hn : n ≤ 64) : gQ d := by
  refine ⟨h.1, ?_⟩
  unfold SeqAt.shaped
  rw [h.2.1, Bool.true_and, decide_eq_true_iff]
  exact Nat.le_trans h.2.2 hn
theorem gQn_int {n : Nat} (i : Int) : gQn n (eI i) := ⟨rfl, by simp [Dt.py, PyData.canLay0], by simp [Dt.py, PyData.depth]⟩
theorem gQn_str {n : Nat} {l : List Nat} (h : PyData.strOk (Sx l) = true) : gQn n (eS l) := ⟨rfl, by simpa [Dt.py, PyData.canLay0] using h, by simp [Dt.py, PyData.depth]⟩
theorem gQn_all {n : Nat} : ∀ {ds : List Dt}, (∀ d ∈ ds, gQn n d) → Dt.pls ds = true ∧ PyData.canLayAll0 (Dt.pys ds) = true ∧ PyData.depthAll (Dt.pys ds) ≤ n
  | [], _ => by simp [Dt.pls, Dt.pys, PyData.canLayAll0, PyData.depthAll]
  | d :: ds, h => by
    have h1 := h d (by simp)
    have ih := gQn_all fun e he => h e (List.mem_cons_of_mem _ he)
    refine ⟨?_, ?_, ?_⟩
    · unfold Dt.pls; rw [h1.1, ih.1]; rfl
    · unfold Dt.pys PyData.canLayAll0; rw [h1.2.1, ih.2.1]; rfl
    · unfold Dt.pys PyData.depthAll; exact Nat.max_le.mpr ⟨h1.2.2, ih.2.2⟩
theorem gQn_lst {n : Nat} {ds : List Dt} (h : ∀ d ∈ ds, gQn n d) : gQn (n + 1) (.lst ds) := by
  have := gQn_all h
  refine ⟨?_, ?_, ?_⟩
  · unfold Dt.pl; exact this.1
  · unfold Dt.py PyData.canLay0; exact this.2.1
  · unfold Dt.py PyData.depth; exact Nat.succ_le_succ this.2.2
theorem gQn_tup {n : Nat} {ds : List Dt} (h : ∀ d ∈ ds, gQn n d) : gQn (n + 1) (.tup ds) := by
  have := gQn_all h
  refine ⟨?_, ?_, ?_⟩
  · unfold Dt.pl; exact this.1
  · unfold Dt.py PyData.canLay0; exact this.2.1
  · unfold Dt.py PyData.depth; exact Nat.succ_le_succ this.2.2
theorem strOk_ascii {l : List Nat} (h : ∀ c ∈ l, c < 128) : PyData.strOk (Sx l) = true := by
  unfold PyData.strOk Sx
  rw [List.all_toArray, List.all_eq_true]
  intro c hc
  have := h c hc
  simp; omega
end Sm
namespace Sm
open PySem L2 TL
section
variable {F : Fx} {Γ Γ' Γe : List Ent} {T : List (V × Own)} {σ : L2.St} {H H' : Hp} {v : V} {Er : L2.St → Exn → Hp → Prop} {ρ α β γ δ S : Type} {W : R ρ → Prop} {D : Ends} {ta tb tc te : TE} {tt uu : TT} {i j : Int} {d e : Dt} {c : Bool} {ds es : List Dt} {n : Nat}
def eqD (d e : Dt) : Bool := PyData.eqv d.py e.py
def gQ2 (d e : Dt) : Prop := gQ d ∧ gQ e
instance (d e : Dt) : Decidable (gQ2 d e) := by unfold gQ2; infer_instance
theorem op2_eqDD (g : gQ2 d e) : Op2 F (rEqD F.K) (.dat d) (.dat e) (.dat (.bl (eqD d e))) :=
  op2_val _ (fun B => by unfold Rp; rfl) fun B H x y Q eb h1 h2 q => ⟨d.py, e.py, (h1.mono eb).dp g.1.1, (h2.mono eb).dp g.2.1, g.1.2, g.2.2, q⟩
theorem op2_neDD (g : gQ2 d e) : Op2 F (rNeD F.K) (.dat d) (.dat e) (.dat (.bl (!eqD d e))) :=
  op2_val _ (fun B => by unfold Rp; rfl) fun B H x y Q eb h1 h2 q => ⟨d.py, e.py, (h1.mono eb).dp g.1.1, (h2.mono eb).dp g.2.1, g.1.2, g.2.2, q⟩
theorem ev_eqDD (g : gQ2 d e) (h1 : EvQ F ta Γ d) (h2 : EvQ F tb Γ e) : Ev F (tOp (rEqD F.K) ta tb) Γ (.dat (.bl (eqD d e))) := ev_eqD h1 h2 g.1.1 g.2.1 g.1.2 g.2.2
theorem eq_d (h : Ev F te Γ (.dat d)) : EvQ F te Γ d := fun T σ H s Q q => h T σ H s Q fun v H' s' e => by
  obtain ⟨B, eb, r⟩ := s'.topd
  exact q _ H' (r.mono eb) s'.pop e
theorem scr_eqv : ∀ ns : List Int, PyData.eqvAll (ns.map .int) (ns.map .int) = true
  | [] => by simp [PyData.eqvAll]
  | n :: ns => by simp [PyData.eqvAll, PyData.eqv, scr_eqv ns]
theorem keys_eqv : ∀ ks : List Key, PyData.eqvAll (ks.map kPy) (ks.map kPy) = true
  | [] => by simp [PyData.eqvAll]
  | .inl i :: ks => by simp [PyData.eqvAll, PyData.eqv, kPy, keys_eqv ks]
  | .inr x :: ks => by simp [PyData.eqvAll, PyData.eqv, kPy, keys_eqv ks]
mutual
theorem eqD_refl : ∀ {d : Dt}, d.pl = true → PyData.eqv d.py d.py = true
  | .non, _ => by simp [Dt.py, PyData.eqv]
  | .bl b, _ => by simp [Dt.py, PyData.eqv]
  | .int i, _ => by simp [Dt.py, PyData.eqv]
  | .str x, _ => by simp [Dt.py, PyData.eqv]
  | .lst xs, h => by unfold Dt.pl at h; simp only [Dt.py, PyData.eqv]; exact eqDs_refl h
  | .tup xs, h => by unfold Dt.pl at h; simp only [Dt.py, PyData.eqv]; exact eqDs_refl h
  | .scr ns, _ => by simp only [Dt.py, PyData.eqv]; exact scr_eqv ns
  | .dk _ _, h => by unfold Dt.pl at h; cases h
  | .dt _ _, h => by unfold Dt.pl at h; cases h
  | .du _ _, h => by unfold Dt.pl at h; cases h
  | .df _ _, h => by unfold Dt.pl at h; cases h
  | .ob _ _ _, h => by unfold Dt.pl at h; cases h
  | .wild, h => by unfold Dt.pl at h; cases h
  | .kt ks, _ => by simp only [Dt.py, PyData.eqv]; exact keys_eqv ks
  | .pin _ _, _ => by simp [Dt.py, PyData.eqv]
theorem eqDs_refl : ∀ {ds : List Dt}, Dt.pls ds = true → PyData.eqvAll (Dt.pys ds) (Dt.pys ds) = true
  | [], _ => by simp [Dt.pys, PyData.eqvAll]
  | d :: ds, h => by
    unfold Dt.pls at h
    rw [Bool.and_eq_true] at h
    unfold Dt.pys
    simp only [PyData.eqvAll, eqD_refl h.1, eqDs_refl h.2, Bool.and_self]
end
theorem eqD_same (h : d.pl = true) : eqD d d = true := eqD_refl h
end
end Sm
namespace Sm
open PySem L2 TL
section
variable {F : Fx} {Γ Γ' Γe : List Ent} {T : List (V × Own)} {σ : L2.St} {H H' : Hp} {v : V} {Er : L2.St → Exn → Hp → Prop} {ρ α β γ δ S : Type} {W : R ρ → Prop} {D : Ends} {ta tb tc te : TE} {tt uu : TT} {i j : Int} {d e : Dt} {c : Bool} {ds es : List Dt} {n : Nat}
end
section
variable {F : Fx} {Γ Γ' Γe : List Ent} {T : List (V × Own)} {σ : L2.St} {H H' : Hp} {v : V} {Er : L2.St → Exn → Hp → Prop} {ρ α β γ δ S : Type} {W : R ρ → Prop} {D : Ends} {ta tb tc te : TE} {tt uu : TT} {i j : Int} {d e : Dt} {c : Bool} {ds es : List Dt} {n : Nat}
def gML (xs : List α) (n : Int) : Prop := 0 ≤ n ∧ n ≤ 1000000 ∧ xs.length * n.toNat ≤ 16777216
instance (xs : List α) (n : Int) : Decidable (gML xs n) := by unfold gML; infer_instance
def Dt.isN : Dt → Bool
  | .non => true
  | _ => false
theorem isN_ne {d : Dt} (h : d.isN = false) : d ≠ .non := by intro e; subst e; cases h
theorem isN_eq {d : Dt} (h : d.isN = true) : d = .non := by cases d <;> first | rfl | cases h
theorem op2_isNA : Op2 F (fun x y H Q => y = .non ∧ Q (.bl (decide (x = .non))) H) (.dat d) (.dat .non) (.dat (.bl d.isN)) := op2_val _ (fun B => by unfold Rp; rfl) fun B H a b Q _ h1 h2 q => by
  refine ⟨rp_non h2, ?_⟩
  cases z : d.isN with
  | true =>
    rw [isN_eq z] at h1
    rw [decide_eq_true (rp_non h1)]
    rw [z] at q
    exact q
  | false =>
    rw [decide_eq_false (rp_ne_non h1 (isN_ne z))]
    rw [z] at q
    exact q
theorem ev_isNA (h1 : Ev F ta Γ (.dat d)) (h2 : Ev F tb Γ (.dat .non)) : Ev F (tOp (fun x y H Q => y = .non ∧ Q (.bl (decide (x = .non))) H) ta tb) Γ (.dat (.bl d.isN)) := ev_op h1 h2 op2_isNA
end
end Sm
namespace Sm
open PySem L2 TL
theorem each_vals {β : Type} {P : V → β → Prop} : ∀ {vs : List Value} {bs : List β}, PySem.W.EachIs (fun v b => ∃ x, RelV x v ∧ P x b) vs bs → ∃ ys, Vals ys vs ∧ PySem.W.EachIs P ys bs
  | _, _, .nil => ⟨[], .nil, .nil⟩
  | _, _, .cons ⟨x, h1, h2⟩ t => by
    obtain ⟨ys, r, e⟩ := each_vals t
    exact ⟨x :: ys, .cons h1 r, .cons h2 e⟩
end Sm
namespace Sm
open PySem L2 TL
section
variable {F : Fx} {Γ Γ' Γe : List Ent} {T : List (V × Own)} {σ : L2.St} {H H' : Hp} {v : V} {Er : L2.St → Exn → Hp → Prop} {ρ α β γ δ S : Type} {W : R ρ → Prop} {D : Ends} {ta tb tc te : TE} {tt uu : TT} {i j : Int} {d e : Dt} {c : Bool} {ds es : List Dt} {n : Nat}
def sortX (enc : α → Dt) (xs : List α) : List α := xs.mergeSort (PySem.W.dataLe false fun a => (enc a).py)
structure SortOk (enc : α → Dt) : Prop where
  pl : ∀ a, (enc a).pl = true
  al : ∀ a b, PySem.W.alike (enc a).py (enc b).py = true
  kd : (∀ a, ∃ x r, (enc a).py = .tuple (x :: r)) ∨ ∀ a, (enc a).py ≠ .none ∧ ∀ xs, (enc a).py ≠ .tuple xs
  dp : ∀ a, (enc a).py.depth ≤ 40
def kP (p : List Nat × Int) : List Key := [kS p.1, kI p.2]
theorem kP_inj (a b : List Nat × Int) (h : kP a = kP b) : a = b := by
  unfold kP at h
  injection h with h1 h2
  injection h2 with h2 _
  exact Prod.ext (kS_inj.mp h1) (kI_inj.mp h2)
abbrev eP : List Nat × Int → Dt := fun p => .kt (kP p)
theorem rp_P {K : PySem.W.Frag} {B : Hp} {p : List Nat × Int} {v : V} (h : Rp K B (eP p) v) : Rp K B (e2 eS eI p) v := h.kt
theorem Stt.re (h : Stt F Γ ((v, .dat d) :: T) σ H) (k : ∀ B, Rp F.K B d v → Rp F.K B e v) : Stt F Γ ((v, .dat e) :: T) σ H := by
  obtain ⟨B, O1, O2, a, s, dj, p, i⟩ := h.top
  obtain ⟨r, rfl⟩ := a.rp
  exact ⟨B, _, slots_own (ow_dat (k B r)) s dj, p, i⟩
theorem ev_P {p : List Nat × Int} (h : Ev F te Γ (.dat (eP p))) : Ev F te Γ (.dat (e2 eS eI p)) := fun T σ H s Q q => h T σ H s Q fun v H' s' e => q v H' (s'.re fun _ r => rp_P r) e
theorem SttA.plc {x : List Nat} {i : Int} {vs : List V} (h : SttA F Γ T vs [eS x, eI i] σ H) {p : Addr} (hp : H p = none) : Stt F Γ ((.ref p, .dat (eP (x, i))) :: T) σ (upd H p (.tup vs)) := by
  obtain ⟨B, O, r, s, P, q⟩ := h
  have nB : B p = none := none_of_same P.bh hp
  unfold RpA at r
  obtain ⟨v1, r1, rfl, h1, r⟩ := r
  unfold RpA at r
  obtain ⟨v2, r2, rfl, h2, r⟩ := r
  unfold RpA at r
  subst r
  rw [rp_str h1, rp_int h2]
  refine ⟨upd B p (.tup ((kP (x, i)).map kV)), O, ?_, P.newB hp, q⟩
  have k : Rp F.K (upd B p (.tup ((kP (x, i)).map kV))) (eP (x, i)) (.ref p) := by
    unfold Rp
    exact ⟨p, rfl, upd_same⟩
  have z := slots_own (ow_dat k) (s.mono (same_upd nB)) emp_dj
  rw [emp_jn] at z
  exact z
theorem ev_tupP {tr : TA} {x : List Nat} {i : Int} (h : EvA F tr Γ [eS x, eI i]) : Ev F (tTup tr) Γ (.dat (eP (x, i))) := fun T σ H s Q q =>
  h T σ H s _ fun vs H1 s1 e1 => by
    refine ⟨?_, fun p hp => q _ _ (s1.plc hp) (e1.trans (same_upd hp))⟩
    obtain ⟨B, O, r, _⟩ := s1
    rw [r.length]
    exact line_le (show 2 ≤ 16777216 by decide)
theorem mv_tupP {tr : TA} {f : α → List Nat} {g : α → Int} {m : R α} (h : MA F Γe Er tr Γ m fun a => [eS (f a), eI (g a)]) : MV F Γe Er (tTup tr) Γ (m.bind fun a => R.ok (f a, g a)) (oD eP) := fun _ W k T σ H ok w s Q q => by
  rw [R.bind_assoc] at w
  exact h _ W _ T σ H ok w s _ fun a vs H1 w1 s1 e1 => by
    refine ⟨?_, fun p hp => q (f a, g a) _ _ w1 (s1.plc hp) (e1.trans (same_upd hp))⟩
    obtain ⟨B, O, r, _⟩ := s1
    rw [r.length]
    exact line_le (show 2 ≤ 16777216 by decide)
theorem mv_tupPd {tr : TA} {ds : α → List Dt} {f : α → List Nat} {g : α → Int} {m : R α} (h : MA F Γe Er tr Γ m ds) (e : ∀ a, ds a = [eS (f a), eI (g a)]) : MV F Γe Er (tTup tr) Γ (m.bind fun a => R.ok (f a, g a)) (oD eP) := by
  have e' : ds = fun a => [eS (f a), eI (g a)] := funext e
  subst e'
  exact mv_tupP h
variable [DecidableEq α] {kk : α → List Key} {enc : β → Dt}
abbrev oKT (kk : α → List Key) (e : β → Dt) (kvs : List (α × β)) : Own := .dT (kvs.map fun p => kk p.1) ((kvs.map fun p => e p.2).map Own.dat)
omit [DecidableEq α] in
theorem ev_dnewT : Ev F tDNewT Γ (oKT kk enc ([] : List (α × β))) := fun T σ H s Q q p hp => by
  refine q _ _ (s.new hp fun B _ O _ => ?_) (same_upd hp)
  unfold Ow
  exact ⟨p, [], emp, rfl, owa_nil, rfl, rfl, rfl⟩
theorem Stt.pin {ks : List (List Key)} {ds : List Dt} (s : Stt F Γ ((v, .dat (.dt ks ds)) :: T) σ H) : ∃ a od vs, v = .ref a ∧ H a = some (.frz od (.dT (ks.zip vs))) ∧ vs.length = ds.length ∧ ks.length = ds.length ∧ RpA F.K H ds vs ∧
    Stt F Γ ((.bl true, .dat (.pin a (.frz od (.dT (ks.zip vs))))) :: (v, .dat (.dt ks ds)) :: T) σ H := by
  obtain ⟨B, O1, O2, a, sl, dj, p, ii⟩ := s.top
  obtain ⟨r, rfl⟩ := a.rp
  rw [emp_jn] at p
  have r0 := r
  unfold Rp at r
  obtain ⟨b, od, vs, rfl, hB, hl, ra⟩ := r
  refine ⟨b, od, vs, rfl, p.bh _ _ hB, ra.length, hl, ra.mono p.bh, B, O2, ?_, p, ii⟩
  have k : Rp F.K B (.pin b (.frz od (.dT (ks.zip vs)))) (.bl true) := by unfold Rp; exact ⟨rfl, hB⟩
  have z := slots_own (ow_dat k) (slots_own (ow_dat r0) sl emp_dj) emp_dj
  rw [emp_jn, emp_jn] at z
  exact z
omit [DecidableEq α] in
end
theorem sortOk_PI : SortOk (e2 eP eI) := ⟨fun _ => rfl, fun a b => by simp [eP, kP, kS, kI, kPy, Dt.py, Dt.pys, PySem.W.alike, PySem.W.alikeAll], .inl fun a => ⟨_, _, rfl⟩, fun a => by simp [eP, kP, kS, kI, kPy, Dt.py, Dt.pys, PyData.depth, PyData.depthAll]⟩
end Sm
namespace Sy
open PySem PySem.Spec PyProof.Rows L2
section
variable {prog : Program} {w : World} {A : Around} {E : Value → Shared → Prop}
abbrev KH := List Key × Addr × Value
structure Mk (P : Program) (w : World) (h : Heap) (S I : Addr) (xs : List KH) : Prop where
  dict : h.DictOfH (tupleKind (mixKind P w)) S xs
  keys : ∀ x ∈ xs, x.2.1 ≠ S ∧ x.2.1 ≠ I
theorem Mk.at {P : Program} {w : World} {h h' : Heap} {S I : Addr} {xs : List KH} (m : Mk P w h S I xs) (hS : ∀ o, h.get? S = some o → h'.get? S = some o) (k : ∀ b o, b ≠ S → b ≠ I → h.get? b = some o → h'.get? b = some o) : Mk P w h' S I xs := by
  obtain ⟨⟨o, es, ep, ho, hx, hd, he, hk, hn⟩, ks⟩ := m
  refine ⟨⟨o, es, ep, hS _ ho, hx, hd, he, fun x hx => ?_, hn⟩, ks⟩
  obtain ⟨ob, its, n, h1, h2⟩ := hk x hx
  exact ⟨ob, its, n, k _ _ (ks x hx).1 (ks x hx).2 h1, h2⟩
end
end Sy
namespace Sy
open PySem PySem.Spec PyProof.Rows L2
section
variable {X : Cx} {pins : List (Addr × Obj)} {σ : L2.St} {H : Hp} {s : Shared}
theorem reads_keys {h : Heap} : ∀ {ks : List Key} {vs : List Value}, Vals (ks.map kV) vs → ReadsAll h vs (ks.map Sm.kPy) []
  | [], _, r => by cases r; exact .nil
  | .inl i :: ks, _, r => by
    cases r with
    | cons h t =>
      obtain ⟨t', rfl⟩ := h
      exact readsAll_cons_val (Reads.int i t') (reads_keys t)
  | .inr x :: ks, _, r => by
    cases r with
    | cons h t =>
      obtain ⟨t', rfl⟩ := h
      exact readsAll_cons_val (Reads.str x t') (reads_keys t)
theorem depth_keys : ∀ ks : List Key, PyData.depthAll (ks.map Sm.kPy) = 0
  | [] => by simp [PyData.depthAll]
  | .inl i :: ks => by simp [PyData.depthAll, PyData.depth, Sm.kPy, depth_keys ks]
  | .inr x :: ks => by simp [PyData.depthAll, PyData.depth, Sm.kPy, depth_keys ks]
theorem each_at {α β : Type} {P : α → β → Prop} : ∀ {as : List α} {bs : List β}, as.length = bs.length → (∀ (j : Nat) (a : α) (b : β), as[j]? = some a → bs[j]? = some b → P a b) → PySem.W.EachIs P as bs
  | [], [], _, _ => .nil
  | a :: as, b :: bs, h, k => .cons (k 0 a b rfl rfl) (each_at (by simpa using h) fun j x y e1 e2 => k (j + 1) x y (by simpa using e1) (by simpa using e2))
  | [], b :: bs, h, _ => by simp at h
  | a :: as, [], h, _ => by simp at h
end
end Sy
namespace Sm
open PySem L2 TL
section
variable {F : Fx} {Γ Γ' Γe : List Ent} {T : List (V × Own)} {σ : L2.St} {H H' : Hp} {v : V} {Er : L2.St → Exn → Hp → Prop} {ρ α β γ δ S : Type} {W : R ρ → Prop} {D : Ends} {ta tb tc te : TE} {tt uu : TT} {i j : Int} {d e : Dt} {c : Bool} {ds es : List Dt} {n : Nat}
theorem Stt.grow (s : Stt F Γ T σ H) (e : Same H H') : Stt F Γ T σ H' := by
  obtain ⟨B, O, sl, p, ii⟩ := s
  exact ⟨B, O, sl, ⟨p.b0, p.bh.trans e, p.oh.trans e, p.dj, fun a o h n => e _ _ (p.fr a o h n), p.yb, p.yo, p.nt⟩, ii⟩
def EvAQ (F : Fx) (ta : TA) (Γ : List Ent) (ds : List Dt) : Prop :=
  ∀ T σ H, Stt F Γ T σ H → ∀ Q : List V → Hp → Prop, (∀ vs H', RpA F.K H' ds vs → Stt F Γ T σ H' → Same H H' → Q vs H') → ta σ H Q
theorem eaq_nil : EvAQ F tNil Γ [] := fun T σ H s Q q => q [] H rpa_nil s (Same.refl _)
theorem eaq_cons {tr : TA} (h1 : EvQ F te Γ d) (h2 : EvAQ F tr Γ ds) : EvAQ F (tCons te tr) Γ (d :: ds) := fun T σ H s Q q =>
  h1 T σ H s _ fun v H1 r s1 e1 => h2 T σ H1 s1 _ fun vs H2 rs s2 e2 => q (v :: vs) H2 (rpa_cons (r.mono e2) rs) s2 (e1.trans e2)
theorem mv_callQ {X : Type} {Ce : Exn → Addr} {n : Nat} {argT : X → List Dt} {m : X → R α} {enc : α → Dt} {tr : TA} {ds : List Dt} {Ex : L2.St → XK} (x : X)
    (ha : EvAQ F tr Γ ds) (hx : argT x = ds) (hn : ds.length = n) (hE : ∀ σ e H', Er σ e H' → ErrAt Ce (Ex σ) e H') (wk : Wk Γ Γe) (sc : ∀ (K : PySem.W.Frag) (B B' : Hp) a v, Rp K B (enc a) v → Rp K B' (enc a) v) :
    MV F Γe Er (tCallS (spD F.K Ce n argT m (oD enc)) Ex tr) Γ (m x) (oD enc) := fun _ W k T σ H ok w s Q q =>
  ha T σ H s _ fun vs H1 r s1 e1 => by
    subst hx
    refine ⟨x, H1, emp, by rw [List.length_map, hn], owa_dats r, Same.refl _, fun a o e => (nomatch e), ⟨dj_emp, nt_emp⟩, ?_⟩
    cases e : m x with
    | ok a =>
      rw [e] at w
      intro v B' O' H' P oa
      unfold OwA at oa
      obtain ⟨v', r', O1, O2, e2, a1, b1, d1, rfl⟩ := oa
      cases e2
      have hr := a1.rp.1
      have eH : Same H1 H' := P.b0.trans P.bh
      exact q a v H' w ((s1.grow eH).push fun B _ => sc _ _ _ _ _ hr) (e1.trans eH)
    | err ex =>
      rw [e] at w
      intro B' O' H' P oa
      exact hE σ ex H' (ok.err ex w σ H' ((s1.grow (P.b0.trans P.bh)).pops.weak wk))
    | bad =>
      rw [e] at w
      exact absurd w ok.bad
theorem sc_B (K : PySem.W.Frag) (B B' : Hp) (a : Bool) (v : V) (h : Rp K B (eB a) v) : Rp K B' (eB a) v := by unfold Rp at h ⊢; exact h
theorem sc_I (K : PySem.W.Frag) (B B' : Hp) (a : Int) (v : V) (h : Rp K B (eI a) v) : Rp K B' (eI a) v := by unfold Rp at h ⊢; exact h
end
end Sm
namespace L2
open PySem PySem.Spec PyProof.Rows
def CMulB (i j : Int) : Prop := i.natAbs.log2 + j.natAbs.log2 < 100000000
instance (i j : Int) : Decidable (CMulB i j) := by unfold CMulB; infer_instance
theorem CMulB.ok {i j : Int} (h : CMulB i j) : IntMulOk i j := by
  have b : ∀ x : Int, Builtin.Int.intBits x ≤ x.natAbs.log2 + 1 := fun x => by
    unfold Builtin.Int.intBits
    split <;> omega
  have h1 := b i
  have h2 := b j
  have h3 : i.natAbs.log2 + j.natAbs.log2 < 100000000 := h
  have e : bitsLine = 134217728 := by decide
  unfold IntMulOk
  intro z
  rw [Bool.and_eq_true] at z
  have z2 := z.2
  unfold Builtin.Int.intTooBig at z2
  have z3 := of_decide_eq_true z2
  rw [e] at z3
  omega
theorem walk_ofEB {l : PySem.W.OpenLaw} {n k : Nat} {q : Program} {loose : List Str} {XP : (Str → Option Value) → Heap → Prop} {YP : World → Heap → Prop} {d : DefRec} {CX : CXT} {x : Str}
    (hn : l.most = some n) (hn2 : n ≤ sizeLine) (hdf : d.params.defaults = []) (hr : Room k callerA)
    (F : ∀ (w : World) (mg : Str → Option Value) (fa : Addr) (h : Heap), YP w h → h.Ns mainGlobals mg → mg d.name = some (.ref fa) →
      ∃ (K : PySem.W.Frag) (fd : FuncData) (sp : Sp), K.In h ∧ (∀ (s : Shared) (u : Value), BindsTo s fd ⟨[u], []⟩ [(x, u)]) ∧
        (∀ (H : Hp) (a : Addr) (ns : List Int), ns.length ≤ n → (∀ z ∈ ns, Builtin.Int.intBits z ≤ 1048576) → Only H → SqL K H a (ns.map V.int) → sp [.ref a] H (fun v _ => v = .bl true) fun _ _ _ => False) ∧
        ∀ base : Heap, K.In base → base.Ns mainGlobals mg → FnOk l.prog w K mg base CX k fa fd [x] sp)
    (hCX : ∀ (H : Hp) (s : Shared) (e : Value) (s' : Shared), CX [] H s (fun _ _ _ => False) e s' → False) :
    PySem.W.WalkO q loose XP YP l.row.toRowW d [] (fun f vs => PySem.call f vs) := by
  refine Att.attach_callB hn hdf fun w s₀ s₁ mg mb fa o pm cd doc a vs ns G Y ho hd hcd hmg hobj hints hlen hbits hg => ?_
  obtain ⟨K, fd, sp, KX, hb, hsp, hF⟩ := F w mg fa _ Y G.T.g hmg
  exact law_call KX G.T.g G.T.b G.T.builtins G.T.nolimit hg hobj hints (Nat.le_trans hlen hn2) hr hF hb (fun H hO hS => hsp H a ns hlen hbits hO hS) fun H e s' => hCX H s₁ e s'
end L2
namespace Sm
open PySem L2 TL
def bits (z : Int) : Prop := Builtin.Int.intBits z ≤ 1048576
end Sm
namespace L2
open PySem PySem.Spec PyProof.Rows Builtin Builtin.Str
section
variable {X : Cx}
end
end L2
namespace Sm
open PySem L2 TL
section
variable {F : Fx} {Γ Γ' Γe : List Ent} {T : List (V × Own)} {σ : L2.St} {H H' : Hp} {v : V} {Er : L2.St → Exn → Hp → Prop} {ρ α β γ δ S : Type} {W : R ρ → Prop} {D : Ends} {ta tb tc te : TE} {tt uu : TT} {i j : Int} {d e : Dt} {c : Bool} {ds es : List Dt} {n : Nat}
def gRp (a b : List Nat) : Prop := b ≠ [] ∧ a.length ≤ 16777216
instance (a b : List Nat) : Decidable (gRp a b) := by unfold gRp; infer_instance
def gZ (i : Int) : Prop := PadOk i = true
instance (i : Int) : Decidable (gZ i) := by unfold gZ; infer_instance
def gSp (a b : List Nat) : Prop := b ≠ [] ∧ a.length ≤ 1000000
instance (a b : List Nat) : Decidable (gSp a b) := by unfold gSp; infer_instance
def gMS0 (a : List Nat) (n : Int) : Prop := 0 ≤ n ∧ n ≤ 100000 ∧ a.length ≤ 160
instance (a : List Nat) (n : Int) : Decidable (gMS0 a n) := by unfold gMS0; infer_instance
def szR (i j c : Int) : Nat := (Builtin.Range.rangeSize i j c).toNat
def rng3 (p : Int × Int × Int) : List Int := (List.range (szR p.1 p.2.1 p.2.2)).map fun (k : Nat) => p.1 + (k : Int) * p.2.2
def gR3 (p : Int × Int × Int) : Prop := p.2.2 ≠ 0 ∧ p.2.2.natAbs < 1073741824 ∧ Builtin.Range.small p.1 p.2.1 p.2.2 = true ∧ 0 ≤ Builtin.Range.rangeSize p.1 p.2.1 p.2.2
instance (p : Int × Int × Int) : Decidable (gR3 p) := by unfold gR3; infer_instance
theorem wks_rngC {lo c : Int} {n : Nat} : Wks F (Itc lo c n) T (((List.range n).map fun (k : Nat) => lo + (k : Int) * c).map Dt.int) where
  go := fun Γ T' σ H i d s e => by
    rw [List.getElem?_map, List.getElem?_map] at e
    cases en : (List.range n)[i]? with
    | none => rw [en] at e; cases e
    | some j =>
      rw [en] at e
      cases e
      obtain ⟨h1, h2⟩ := List.getElem?_eq_some_iff.mp en
      rw [List.getElem_range] at h2
      subst h2
      rw [List.length_range] at h1
      refine ⟨h1, fun x H' y => ?_⟩
      obtain ⟨rfl, rfl⟩ := y
      exact ⟨s.push fun _ _ => by unfold Rp; rfl, Same.refl _⟩
  stop := fun Γ T' σ H s => by show n ≤ _; simp
theorem sr_rng3 {m : R (Int × Int × Int)} (h : MA F Γe Er (tCons ta (tCons tb (tCons tc tNil))) Γ m fun p => [.int p.1, .int p.2.1, .int p.2.2]) : Sr F Γe Er (iRng3 (tCons ta (tCons tb (tCons tc tNil)))) Γ (m.bind fun p => R.guard (gR3 p) (.ok p)) (fun p => rng3 p) Dt.int := fun _ W k T σ H ok w s Ri q => by
  rw [R.bind_assoc] at w
  refine h _ W _ T σ H ok w s _ fun j vs H1 w1 s1 e1 => ?_
  have w2 : W (R.guard (gR3 j) (k j)) := by
    unfold R.guard at w1 ⊢
    by_cases c : gR3 j
    · rw [if_pos c] at w1 ⊢; exact w1
    · rw [if_neg c] at w1; exact absurd w1 ok.bad
  obtain ⟨hb, w2⟩ := R.guard_ok ok w2
  obtain ⟨B, O, r, s2, p, ii⟩ := s1
  unfold RpA at r
  obtain ⟨v1, r1, rfl, h1, r⟩ := r
  unfold RpA at r
  obtain ⟨v2, r2, rfl, h2, r⟩ := r
  unfold RpA at r
  obtain ⟨v3, r3, rfl, h3, r⟩ := r
  unfold RpA at r
  subst r
  refine ⟨j.1, j.2.1, j.2.2, szR j.1 j.2.1 j.2.2, by rw [rp_int h1, rp_int h2, rp_int h3], ⟨hb.1, hb.2.1, hb.2.2.1, ?_⟩, q j [] _ H1 w2 ⟨B, O, s2, p, ii⟩ e1 wks_rngC⟩
  unfold szR
  rw [Int.toNat_of_nonneg hb.2.2.2]
end
end Sm
namespace Sm
open PySem L2
section
variable {X : Cx} {pins : List (Addr × Obj)} {σ : L2.St} {H3 : Hp} {s3 : Shared}
end
section
variable {X : Cx}
end
section
variable {F : Fx} {Γ Γe : List Ent} {T : List (V × Own)} {σ : L2.St} {H : Hp} {Er : L2.St → Exn → Hp → Prop} {ρ α β γ : Type} {W : R ρ → Prop} {te : TE}
end
end Sm
namespace Sm
open PySem L2 TL
section
variable {F : Fx} {Γ Γ' Γe : List Ent} {T : List (V × Own)} {σ : L2.St} {H H' : Hp} {v : V} {t : Own} {Er : L2.St → Exn → Hp → Prop} {ρ α β γ δ S : Type} {W : R ρ → Prop} {D : Ends} {ta tb tc te : TE} {tt uu : TT} {i j : Int} {d e : Dt} {ds es : List Dt} {n : Nat}
theorem Stt.atn (h : Stt F Γ T σ H) (e : Γ[n]? = some (some t)) : ∃ B v O1 O2, σ[n]? = some (some v) ∧ Ow F.K B t O1 v ∧ Dj O1 O2 ∧ Post F.B F.O F.H B (jn O1 O2) H ∧ (∀ p ∈ F.ins, σ[p.1]? = some (some p.2)) ∧
    Slots F.K B (T.map (fun p => some p.2) ++ Γ) (jn O1 O2) (T.map (fun p => some p.1) ++ σ) ∧
    (∀ B' t' O1', Same B B' → Ow F.K B' t' O1' v → Dj O1' O2 → Slots F.K B' (T.map (fun p => some p.2) ++ Γ.set n (some t')) (jn O1' O2) (T.map (fun p => some p.1) ++ σ)) ∧
    ∀ B', Same B B' → Slots F.K B' (T.map (fun p => some p.2) ++ Γ.set n none) O2 (T.map (fun p => some p.1) ++ σ) := by
  obtain ⟨B, O, s, p, q⟩ := h
  have e' : (T.map (fun p => some p.2) ++ Γ)[T.length + n]? = some (some t) := by
    rw [List.getElem?_append_right (by simp)]
    simpa using e
  obtain ⟨v, O1, O2, e1, a, dj, rfl, k1, k2⟩ := s.at e'
  have e2 : σ[n]? = some (some v) := by
    rw [List.getElem?_append_right (by simp)] at e1
    simpa using e1
  have hs : (T.map (fun p => some p.1) ++ σ).set (T.length + n) (some v) = T.map (fun p => some p.1) ++ σ := set_same e1
  have hg : ∀ x, (T.map (fun p => some p.2) ++ Γ).set (T.length + n) x = T.map (fun p => some p.2) ++ Γ.set n x := fun x => by
    rw [List.set_append_right _ _ (by simp)]
    simp
  refine ⟨B, v, O1, O2, e2, a, dj, p, q, s, fun B' t' O1' sm h' d' => ?_, fun B' sm => ?_⟩
  · have := k1 B' t' O1' v sm h' d'
    rw [hs, hg] at this
    exact this
  · have := k2 B' (some v) sm
    rw [hs, hg] at this
    exact this
theorem Stt.lend (h : Stt F Γ T σ H) (e : Γ[n]? = some (some (.lst (ds.map Own.dat)))) : ∃ l vs, σ[n]? = some (some (.ref l)) ∧ H l = some (.lst vs) ∧ Stt F (Γ.set n (some (.hole (.ref l)))) ((.ref l, .lst (ds.map Own.dat)) :: T) σ H := by
  obtain ⟨B, v, O1, O2, e1, a, dj, p, q, s, k, _⟩ := h.atn e
  have a0 := a
  unfold Ow at a0
  obtain ⟨l, vs, O', rfl, oa, nl, eO⟩ := a0
  refine ⟨l, vs, e1, p.oh l _ (by rw [eO]; exact jn_some upd_same), B, jn O1 O2, ?_, p, q⟩
  have z := k B (.hole (.ref l)) emp (Same.refl _) (by unfold Ow; exact ⟨rfl, rfl⟩) emp_dj
  rw [emp_jn] at z
  exact slots_own a z dj
theorem Stt.unlend {l : Addr} (h : Stt F Γ ((.ref l, t) :: T) σ H) (e : Γ[n]? = some (some (.hole (.ref l)))) : Stt F (Γ.set n (some t)) T σ H := by
  obtain ⟨B, O1, O2, a, s, dj, p, q⟩ := h.top
  have h2 : Stt F Γ T σ H := ⟨B, O2, s, p.dropL dj, q⟩
  have e' : (T.map (fun p => some p.2) ++ Γ)[T.length + n]? = some (some (.hole (.ref l))) := by
    rw [List.getElem?_append_right (by simp)]
    simpa using e
  obtain ⟨v, P1, P2, e1, a1, d1, rfl, k1, _⟩ := s.at e'
  unfold Ow at a1
  obtain ⟨rfl, rfl⟩ := a1
  have hs : (T.map (fun p => some p.1) ++ σ).set (T.length + n) (some (.ref l)) = T.map (fun p => some p.1) ++ σ := set_same e1
  have z := k1 B t O1 (.ref l) (Same.refl _) a (by rw [emp_jn] at dj; exact dj)
  rw [hs, List.set_append_right _ _ (by simp)] at z
  refine ⟨B, jn O1 P2, by simpa using z, ?_, q⟩
  rw [emp_jn] at p
  exact p
theorem Stt.deepO {T' : List (V × Own)} {l : Addr} (h : Stt F Γ (T' ++ (.ref l, .lst (ds.map Own.dat)) :: T) σ H) : ∃ B O vs, Slots F.K B ((T' ++ (.ref l, .lst (ds.map Own.dat)) :: T).map (fun p => some p.2) ++ Γ) O ((T' ++ (.ref l, .lst (ds.map Own.dat)) :: T).map (fun p => some p.1) ++ σ) ∧ Post F.B F.O F.H B O H ∧ (∀ p ∈ F.ins, σ[p.1]? = some (some p.2)) ∧ RpA F.K B ds vs ∧ H l = some (.lst vs) := by
  obtain ⟨B, O, s, p, i⟩ := h
  have e : ((T' ++ (.ref l, .lst (ds.map Own.dat)) :: T).map (fun p => some p.2) ++ Γ)[T'.length]? = some (some (.lst (ds.map Own.dat))) := by
    rw [List.getElem?_append_left (by simp), List.getElem?_map, List.getElem?_append_right (Nat.le_refl _)]
    simp
  obtain ⟨v, O1, O2, e1, a, dj, rfl, _⟩ := s.at e
  have ev : v = .ref l := by
    rw [List.getElem?_append_left (by simp), List.getElem?_map, List.getElem?_append_right (Nat.le_refl _)] at e1
    simpa using e1.symm
  subst ev
  unfold Ow at a
  obtain ⟨l', vs, O', el, oa, n', rfl⟩ := a
  cases el
  obtain ⟨r, rfl⟩ := oa.dats
  exact ⟨B, _, vs, s, p, i, r, p.oh l _ (jn_some upd_same)⟩
theorem wks_listO {a : Addr} : Wks F (Itl F.K a) ((.ref a, .lst (ds.map Own.dat)) :: T) ds where
  go := fun Γ T' σ H i d s e => by
    obtain ⟨B, O, vs, s1, p, ii, ra, hl⟩ := s.deepO
    obtain ⟨u, e1, ru⟩ := ra.get e
    refine ⟨⟨vs, u, SqL.of hl, e1⟩, fun x H' y => ?_⟩
    obtain ⟨rfl, y⟩ := y
    have := y vs (SqL.of hl)
    rw [e1] at this
    cases this
    refine ⟨⟨B, _, slots_own (ow_dat ru) s1 emp_dj, ?_, ii⟩, Same.refl _⟩
    rw [emp_jn]
    exact p
  stop := fun Γ T' σ H s => by
    obtain ⟨B, O, vs, s1, p, ii, ra, hl⟩ := s.deepO
    exact ⟨vs, SqL.of hl, by rw [ra.length]; exact Nat.le_refl _⟩
theorem s_retVar {a : α} {t : Own} {W : R α → Prop} (hst : Stt F Γ T σ H) (hw : W (.ok a)) (he : Γ[n]? = some (some t))
    (q : ∀ v H', W (.ok a) → Stt F (Γ.set n none) ((v, t) :: T) σ H' → D.rt v H') : tRet (tVar n) D σ H := by
  obtain ⟨B, v, O1, O2, e1, a1, dj, p, qi, s, _, kn⟩ := hst.atn he
  exact ⟨v, e1, q v H hw ⟨B, jn O1 O2, slots_own a1 (kn B (Same.refl _)) dj, p, qi⟩⟩
theorem s_extM {n : Nat} {m : R α} {e : α → List Dt} {k : α → R ρ} (hst : Stt F Γ T σ H) (hw : W (m.bind fun a => R.guard (ds.length + (e a).length ≤ 16777216) (k a))) (ok : WOk F Γe Er W) (he : Γ[n]? = some (some (.lst (ds.map Own.dat)))) (h : MV F Γe Er te Γ m fun a => .lst ((e a).map Own.dat))
    (q : ∀ a σ' H', W (k a) → Stt F (Γ.set n (some (.lst ((ds ++ e a).map Own.dat)))) T σ' H' → D.nx σ' H') : tDrop (tBM F.K "list" rExtend (tVar n) (tCons te tNil)) D σ H := by
  obtain ⟨l, vs0, e1, hl0, _⟩ := hst.lend he
  refine ⟨.ref l, e1, .inl ⟨rfl, _, SqL.of hl0⟩, ?_⟩
  refine h _ W _ T σ H ok hw hst _ fun a u H1 w s2 e3 => ?_
  obtain ⟨hl, w⟩ := R.guard_ok ok w
  obtain ⟨B2, Ou, Or, au, s3, dj3, p3, i3⟩ := s2.top
  unfold Ow at au
  obtain ⟨b, zs, O', rfl, oa, nb, rfl⟩ := au
  obtain ⟨rz, rfl⟩ := oa.dats
  have hb : H1 b = some (.lst zs) := p3.oh b _ (jn_some upd_same)
  have s4 : Stt F Γ T σ H1 := s2.pop
  have e' : (T.map (fun p => some p.2) ++ Γ)[T.length + n]? = some (some (.lst (ds.map Own.dat))) := by
    rw [List.getElem?_append_right (by simp)]
    simpa using he
  obtain ⟨v', P1, P2, e1', a', dj', rfl, kk, _⟩ := s3.at e'
  have e2 : σ[n]? = some (some v') := by
    rw [List.getElem?_append_right (by simp)] at e1'
    simpa using e1'
  rw [e1] at e2
  cases e2
  unfold Ow at a'
  obtain ⟨l', ws, Q', el, oa', n2, rfl⟩ := a'
  cases el
  obtain ⟨rw_, rfl⟩ := oa'.dats
  have hH : H1 l = some (.lst ws) := p3.oh l _ (by rw [jn_comm dj3]; exact jn_some (jn_some upd_same))
  refine ⟨l, b, ws, zs, rfl, rfl, hH, hb, by rw [rw_.length, rz.length]; exact line_le hl, ?_⟩
  have z := kk B2 (.lst ((ds ++ e a).map Own.dat)) (upd emp l (.lst (ws ++ zs))) (.ref l) (Same.refl _) (by
    unfold Ow
    exact ⟨l, ws ++ zs, emp, rfl, owa_dats (rw_.append rz), rfl, rfl⟩) (by
    have nl : P2 l = none := by
      rcases dj' l with x | x
      · rw [upd_same] at x; cases x
      · exact x
    exact Dj.upd emp_dj nl)
  rw [set_same e1', List.set_append_right _ _ (by simp)] at z
  refine q a _ _ w ⟨B2, jn (upd emp l (.lst (ws ++ zs))) P2, by simpa using z, ?_, i3⟩
  have p5 : Post F.B F.O F.H B2 (jn (upd emp l (.lst ws)) P2) H1 := p3.dropL dj3
  have p4 := p5.mut (a := l) (o := .lst (ws ++ zs)) (jn_some upd_same)
  rw [upd_jn, upd_upd] at p4
  exact p4
theorem s_extE {n : Nat} {enc : α → Dt} {xs : List α} {m : R (List α)} {k : List α → R ρ} (hst : Stt F Γ T σ H) (hw : W (m.bind fun a => R.guard (xs.length + a.length ≤ 16777216) ((R.ok (xs ++ a)).bind k))) (ok : WOk F Γe Er W) (he : Γ[n]? = some (some (oL enc xs))) (h : MV F Γe Er te Γ m (oL enc))
    (q : ∀ ys σ' H', W (k ys) → Stt F (Γ.set n (some (oL enc ys))) T σ' H' → D.nx σ' H') : tDrop (tBM F.K "list" rExtend (tVar n) (tCons te tNil)) D σ H := by
  refine s_extM (ds := xs.map enc) (e := fun a => a.map enc) (k := fun a => k (xs ++ a)) hst (by
    have e : (fun (a : List α) => R.guard ((xs.map enc).length + (a.map enc).length ≤ 16777216) (k (xs ++ a))) = fun a => R.guard (xs.length + a.length ≤ 16777216) ((R.ok (xs ++ a)).bind k) := by
      funext a
      unfold R.guard
      rw [List.length_map, List.length_map]
      rfl
    rw [e]
    exact hw) ok he h fun a σ' H' w s => q (xs ++ a) σ' H' w ?_
  have e : (xs ++ a).map enc = xs.map enc ++ a.map enc := List.map_append
  unfold oL
  rw [e]
  exact s
end
end Sm
namespace Sy
open PySem PySem.Spec PyProof.Rows L2 L2.DX PySem.W PySem.Calls
section
variable {prog : Program} {w : World} {A : Around} {E : Value → Shared → Prop} {s : Shared} {d r : Addr} {es : Array DictEntry} {ep : Nat}
theorem initI {R : Result → Shared → Prop} (hh : A.handled = none) (hv : s.heap.IsItemsView r d) (hm : DT.Raw s.heap d es ep) (S : Addr) (hSr : S ≠ r) (hSd : d ≠ S) (hS : s.heap.get? S = some { cls := .type "list", data := .seq #[] })
    (hR : ∀ h' tk acc c as, (∀ b o, b ≠ S → s.heap.get? b = some o → h'.get? b = some o) → h'.get? S = some { cls := .type "list", dict := none, data := .seq acc c, slots := #[] } → as.length = es.size → DT.Made es S h' as →
      acc.toList = as.map Value.ref → R (.ok (.ret .none)) { s with heap := h', toks := tk }) (hn : es.size ≤ sizeLine) :
    wpAny (model prog w) A.in1 (Builtin.«list.__init__» ⟨[.ref S, .ref r], []⟩)
      (fun fin s' => match fin with | .done f => R (.ok f) s' | .again c' => c'.quiet = true ∧ codeAny (model prog w) A c' R s') (fun e s' => R (.error e) s') s := by
  show wpAny _ _ (do let old ← Builtin.List.listItems (.ref S); Builtin.List.listUpdate (.ref S) (fun _ => #[]); letGo old.toList.reverse; Builtin.List.listExtendWith (.ref S) (.ref r) .none) _ _ s
  refine wpAny_bind ?_
  unfold Builtin.List.listItems
  refine wpAny_bind (wpAny_seqItems hS rfl (wpAny_pure ?_))
  show wpAny _ _ (updateSeq S (fun _ => #[]) >>= fun _ => letGo (#[] : Array Value).toList.reverse >>= fun _ => Builtin.List.listExtendWith (.ref S) (.ref r) .none) _ _ s
  refine wpAny_bind (wpAny_updateSeq hS rfl ?_)
  have hS₂ := Heap.get?_update_self (Obj.mapSeq (fun _ => (#[] : Array Value))) hS rfl
  have oth : ∀ b o, b ≠ S → s.heap.get? b = some o → (s.heap.update S (Obj.mapSeq (fun _ => (#[] : Array Value)))).get? b = some o :=
    fun b o hb e => (Heap.get?_update_other _ _ (Ne.symm hb)).trans e
  refine wpAny_bind (wpAny_letGo ?_)
  refine DT.extI (es := es) (ep := ep) hh (let ⟨o, ho, x⟩ := hv; ⟨o, oth r o hSr.symm ho, x⟩) (hm.at' fun o e => oth d o hSd e) S hSr hSd .none _ hS₂ (fun h' tk acc c as hk hS' hl hG hacc => ?_) hn
  exact hR h' tk acc c as (fun b o hb e => hk b o hb (oth b o hb e)) hS' hl (hG.low (Nat.le_of_lt (Heap.lt_size hS₂))) hacc
theorem callI {Q : Value → Shared → Prop} (hh : A.handled = none) (hv : s.heap.IsItemsView r d) (hm : DT.Raw s.heap d es ep) (hn : es.size ≤ sizeLine)
    (hQ : ∀ h' tk acc c as, (∀ b o, s.heap.get? b = some o → h'.get? b = some o) → h'.get? s.heap.objs.size = some { cls := .type "list", dict := none, data := .seq acc c, slots := #[] } → as.length = es.size → DT.Made es s.heap.objs.size h' as →
      acc.toList = as.map Value.ref → Q (.ref s.heap.objs.size) { s with heap := h', toks := tk }) :
    wpAny (model prog w) A (call (.type "list") [.ref r]) Q E s := by
  refine callType_codes (Q₁ := fun obj s₁ => obj = .ref s.heap.objs.size ∧ s₁ = { s with heap := s.heap.push { cls := .type "list", data := .seq #[] } }) PySem.F.called_list (PySem.F.typeCall_list_1 _) PySem.F.entry_list_init
    (code_list_new _ ⟨rfl, rfl⟩) fun obj s₁ h₁ => ?_
  obtain ⟨rfl, rfl⟩ := h₁
  have hS : (s.heap.push { cls := .type "list", data := .seq #[] }).get? s.heap.objs.size = some { cls := .type "list", data := .seq #[] } := Heap.get?_push_size _ rfl
  have hr : r < s.heap.objs.size := let ⟨_, ho, _⟩ := hv; Heap.lt_size ho
  have hd : d < s.heap.objs.size := hm.lt
  refine ⟨⟨_, hS, rfl⟩, PySem.F.args_list_init_2 _ _, initI (es := es) (ep := ep) (A := A.in1) hh (let ⟨o, ho, x⟩ := hv; ⟨o, Heap.get?_push_of_some _ ho, x⟩) (hm.push _) _ (Nat.ne_of_gt hr) (Nat.ne_of_lt hd) hS (fun h' tk acc c as hk hS' hl hG hacc => ?_) hn⟩
  exact ⟨rfl, hQ h' tk acc c as (fun b o e => hk b o (Nat.ne_of_lt (Heap.lt_size e)) (Heap.get?_push_of_some _ e)) hS' hl hG hacc⟩
end
section
variable {X : Cx}
def PairsAt (H : Hp) (ts : List Addr) (kvs : List (List Key × V)) : Prop := ∀ (j : Nat) (t : Addr) (e : List Key × V), ts[j]? = some t → kvs[j]? = some e → ∃ kq, H t = some (.tup [.ref kq, e.2]) ∧ H kq = some (.tup (e.1.map kV))
theorem pairs_raw {H : Hp} {kvs : List (List Key × V)} {xs' : List KH} {es : Array DictEntry} (rel : KT H kvs xs') (hes : es.toList = xs'.map (entryOfKey (tupleKind (mixKind X.prog X.w)))) {lo : Addr} {h' : Heap} {as : List Addr} (hG : DT.Made es lo h' as) :
    ∀ (j : Nat) (b : Addr), as[j]? = some b → ∃ (e : List Key × V) (kq : Addr) (u : Value), kvs[j]? = some e ∧ H kq = some (.tup (e.1.map kV)) ∧ RelV e.2 u ∧ h'.get? b = some { cls := .type "tuple", data := .seq #[Value.ref kq, u] } := by
  intro j b hj
  obtain ⟨en, he, hg⟩ := hG.pairs j b hj
  rw [entry_at hes j] at he
  cases hxj : xs'[j]? with
  | none => rw [hxj] at he; exact nomatch (show (none : Option DictEntry) = some en from he)
  | some x =>
    rw [hxj] at he
    have een : entryOfKey (tupleKind (mixKind X.prog X.w)) x = en := Option.some.inj he
    obtain ⟨e0, he0, r1, r2, r3⟩ := pget rel hxj
    refine ⟨e0, x.2.1, x.2.2, he0, r2, r3, ?_⟩
    rw [hg, ← een]
    all_goals rfl
def rListIt : List V → Hp → VK → Prop := fun vs H Q => ∃ (p a : Addr) (kvs : List (List Key × V)), vs = [.ref p] ∧ H p = some (itemsO p a) ∧ H a = some (.dT kvs) ∧
  ∀ (H2 : Hp) (l : Addr) (ts : List Addr), (∀ b o, H b = some o → H2 b = some o) → H2 l = none → ts.length = kvs.length → PairsAt H2 ts kvs → Q (.ref l) (upd H2 l (.lst (ts.map V.ref)))
theorem without {H3 H : Hp} {l : Addr} {o : HO} (e : H3 l = some o) (n : H l = none) (g : ∀ b o, H b = some o → H3 b = some o) : ∃ H2 : Hp, H3 = upd H2 l o ∧ H2 l = none ∧ (∀ b o, H b = some o → H2 b = some o) ∧ ∀ b, b ≠ l → H2 b = H3 b := by
  refine ⟨fun b => if b = l then none else H3 b, ?_, by simp, fun b o' e' => ?_, fun b hb => by simp [hb]⟩
  · funext b
    by_cases z : b = l
    · subst z; rw [upd_same, e]
    · rw [upd_ne z]; simp [z]
  · have : b ≠ l := fun z => by rw [z, n] at e'; cases e'
    simp [this]
    exact g b o' e'
theorem cr_listIt (hc : X.calm = true) : CallR X (.type "list") rListIt := by
  intro pins s σ H xs us Q I r h
  obtain ⟨p, a, kvs, rfl, hp, ha, q⟩ := h
  obtain rfl := Vals.ref1 r
  have view : s.heap.IsItemsView p a := (show ObjOk X.prog X.w H s.heap p (itemsO p a) from I.hok p _ hp).1
  obtain ⟨z, hd, xs', rel, o, es, ep, ho, hx, hdat, hes, his, hn⟩ := dt_of I.hok ha
  have l1 : kvs.length = xs'.length := Paired.length rel
  have l2 : es.size = xs'.length := size_of_entries hes
  have hh : X.A.handled = none := I.ok.hd hc
  refine callI (es := es) (ep := ep) hh view ⟨o, ho, hx, hdat⟩ (by omega) fun h' tk acc c as hk hS hl hG hacc => ?_
  have nd : as.Nodup := List.Pairwise.imp (fun h => Nat.ne_of_lt h) hG.rise
  have pr := pairs_raw (X := X) rel hes hG
  have hn0 : H s.heap.objs.size = none := I.hok.fresh (Nat.le_refl _)
  have hsz : as.length ≤ sizeLine := by omega
  have I1 : Inv X pins σ H { s with heap := h', toks := tk } := I.kept (t' := tk) hk
  have I2 : Inv X pins σ (upd H s.heap.objs.size (.lst (as.map V.ref))) { s with heap := h', toks := tk } :=
    I1.take (h' := h') (t' := tk) (fun b ob _ e => e) (I.fpOk (Nat.le_refl _) hn0) ⟨by rw [List.length_map]; exact hsz, acc.toList, c, by rw [hacc]; exact vals_maps V.ref Value.ref as fun _ _ => rfl, by rw [Array.toArray_toList]; exact hS⟩
  obtain ⟨H3, I3, g, qt⟩ := takeT (P := fun b vs => ∃ (j : Nat) (e : List Key × V) (kq : Addr), as[j]? = some b ∧ kvs[j]? = some e ∧ vs = [.ref kq, e.2] ∧ H kq = some (.tup (e.1.map kV))) I as _ I2 nd fun b hb => by
    obtain ⟨j, hj⟩ := List.mem_iff_getElem?.mp hb
    obtain ⟨e, kq, u, he, hkq, ru, hg⟩ := pr j b hj
    have hbl : s.heap.objs.size < b := hG.above b hb
    refine ⟨Nat.le_of_lt hbl, ?_, [.ref kq, e.2], ⟨j, e, kq, hj, he, rfl, hkq⟩, fun H3 => ⟨(by rw [sizeLine_eq]; show 2 ≤ 16777216; omega), [Value.ref kq, u], .cons rfl (.cons ru .nil), ⟨_, hg, rfl, 0, rfl⟩⟩⟩
    rw [upd_ne (Nat.ne_of_gt hbl)]
    exact I.hok.fresh (Nat.le_of_lt hbl)
  obtain ⟨H2, e3, n2, g2, k2⟩ := without (g _ _ upd_same) hn0 (fun b o e => g b o (by rw [upd_ne (ne_of_none e hn0)]; exact e))
  refine ⟨.ref s.heap.objs.size, H3, I3, rfl, ?_⟩
  rw [e3]
  refine q H2 _ as g2 n2 (by omega) fun j t e ht he => ?_
  obtain ⟨vs, ⟨j', e', kq, j1, j2, rfl, hkq⟩, hH⟩ := qt t (List.mem_of_getElem? ht)
  have eij : j = j' := (List.getElem?_inj (List.getElem?_eq_some_iff.mp ht).1 nd).mp (ht.trans j1.symm)
  subst eij
  rw [he] at j2
  cases j2
  have tne : t ≠ s.heap.objs.size := fun z => by rw [z, g _ _ upd_same] at hH; cases hH
  exact ⟨kq, by rw [k2 t tne]; exact hH, g2 _ _ hkq⟩
def rowPy (r : List Key × Int) : PyData := .tuple [.tuple (r.1.map Sm.kPy), .int r.2]
def rSortItI : List V → Hp → VK → Prop := fun vs H Q => ∃ (p a : Addr) (kvs : List (List Key × Int)), vs = [.ref p] ∧ H p = some (itemsO p a) ∧ H a = some (.dT (kvs.map fun r => (r.1, V.int r.2))) ∧ AllAlike (kvs.map rowPy) ∧
  ∀ (H2 : Hp) (l : Addr) (ys : List V), (∀ b o, H b = some o → H2 b = some o) → H2 l = none → EachIs (fun x (r : List Key × Int) => ∃ t kq, x = V.ref t ∧ H2 t = some (.tup [.ref kq, .int r.2]) ∧ H2 kq = some (.tup (r.1.map kV))) ys (kvs.mergeSort (dataLe false rowPy)) → Q (.ref l) (upd H2 l (.lst ys))
theorem cr_sortedItI (hc : X.calm = true) (hu : X.A.units + 64 < cLine) : CallR X (.builtin "sorted") rSortItI := by
  intro pins s σ H xs us Q I r h
  obtain ⟨p, a, kvs, rfl, hp, ha, hal, q⟩ := h
  obtain rfl := Vals.ref1 r
  have view : s.heap.IsItemsView p a := (show ObjOk X.prog X.w H s.heap p (itemsO p a) from I.hok p _ hp).1
  obtain ⟨z, hd, xs', rel, o, es, ep, ho, hx, hdat, hes, his, hn⟩ := dt_of I.hok ha
  have l1 : (kvs.map fun r => (r.1, V.int r.2)).length = xs'.length := Paired.length rel
  rw [List.length_map] at l1 z
  have l2 : es.size = xs'.length := size_of_entries hes
  have hh : X.A.handled = none := I.ok.hd hc
  refine DT.sortedI (es := es) (ep := ep) hh view ⟨o, ho, hx, hdat⟩ (by omega) fun h' tk as hk hlt hl hG => ?_
  have lak : as.length = kvs.length := by omega
  have nd : as.Nodup := List.Pairwise.imp (fun h => Nat.ne_of_lt h) hG.rise
  have pr := pairs_raw (X := X) rel hes hG
  have pr : ∀ (j : Nat) (b : Addr), as[j]? = some b → ∃ (e : List Key × Int) (kq : Addr) (t : Tok), kvs[j]? = some e ∧ H kq = some (.tup (e.1.map kV)) ∧ h'.get? b = some { cls := .type "tuple", data := .seq #[Value.ref kq, Value.int e.2 t] } := fun j b hj => by
    obtain ⟨e, kq, u, he, hkq, ru, hg⟩ := pr j b hj
    rw [List.getElem?_map] at he
    cases hkj : kvs[j]? with
    | none => rw [hkj] at he; cases he
    | some e0 =>
      rw [hkj] at he
      cases he
      obtain ⟨t, rfl⟩ := (show ∃ t, u = Value.int e0.2 t from ru)
      exact ⟨e0, kq, t, rfl, hkq, hg⟩
  have hob : (h'.push { cls := .type "list", data := .seq (as.map Value.ref).toArray }).get? h'.objs.size = some (seqObj "list" (as.map Value.ref).toArray 0) := Heap.get?_push_size _ rfl
  have kb : ∀ b o, h'.get? b = some o → (h'.push { cls := .type "list", data := .seq (as.map Value.ref).toArray }).get? b = some o := fun b o e => Heap.get?_push_of_some _ e
  have ne0 : ∀ b o, h'.get? b = some o → b ≠ h'.objs.size := fun b o e => Nat.ne_of_lt (Heap.lt_size e)
  generalize hh2 : h'.push { cls := .type "list", data := .seq (as.map Value.ref).toArray } = h2 at hob kb ⊢
  have I0 : Inv X pins σ H { s with heap := h2, toks := tk } := I.kept (t' := tk) fun b o e => kb b o (hk b o e)
  have rd : ∀ (j : Nat) (v : Value) (e : List Key × Int), (as.map Value.ref)[j]? = some v → kvs[j]? = some e → ∃ b kq t, v = Value.ref b ∧ as[j]? = some b ∧ H kq = some (.tup (e.1.map kV)) ∧ h'.get? b = some { cls := .type "tuple", data := .seq #[Value.ref kq, Value.int e.2 t] } := fun j v e hj he => by
    rw [List.getElem?_map] at hj
    cases hb : as[j]? with
    | none => rw [hb] at hj; cases hj
    | some b =>
      rw [hb] at hj
      cases hj
      obtain ⟨e', kq, t, he', hkq, hg⟩ := pr j b hb
      rw [he] at he'
      cases he'
      exact ⟨b, kq, t, rfl, rfl, hkq, hg⟩
  have hlen : (as.map Value.ref).length = kvs.length := by rw [List.length_map]; exact lak
  refine thn (PySem.W.list_sort_data (s := { s with heap := h2, toks := tk }) (R := fun v (r : List Key × Int) => ∃ x, RelV x v ∧ ∃ (j : Nat) (b : Addr), x = V.ref b ∧ as[j]? = some b ∧ kvs[j]? = some r) (bs := kvs) (enc := rowPy) (vs := as.map Value.ref)
    (Q := fun v s' => v = .none ∧ ∃ out : List Value, out.length = (as.map Value.ref).length ∧ EachIs (fun v (r : List Key × Int) => ∃ x, RelV x v ∧ ∃ (j : Nat) (b : Addr), x = V.ref b ∧ as[j]? = some b ∧ kvs[j]? = some r) out (kvs.mergeSort (dataLe false rowPy)) ∧ s' = { s with heap := PyProof.Rows.sortedHeap h2 h'.objs.size (as.map Value.ref) out.toArray, toks := tk })
    (E := X.xe) hob (each_at hlen fun j v e e1 e2 => ?_) (each_at hlen fun j v e e1 e2 => ?_) hal ?_ (by omega) (fun e he => ?_) fun out h1 h2 => ?_) fun v s2 h2 => ?_
  · obtain ⟨b, kq, t, rfl, hb, _, _⟩ := rd j v e e1 e2
    exact ⟨V.ref b, rfl, j, b, rfl, hb, e2⟩
  · obtain ⟨b, kq, t, rfl, hb, hkq, hg⟩ := rd j v e e1 e2
    obtain ⟨_, its, rv, ob, h1, h2', n, h3⟩ := (show ObjOk X.prog X.w H h2 kq (.tup (e.1.map kV)) from I0.hok kq _ hkq)
    have r1 : Reads h2 (.ref kq) (.tuple (e.1.map Sm.kPy)) [] := reads_tuple_at h1 h2' h3 (reads_keys rv)
    exact ⟨[], reads_tuple_at (kb _ _ hg) rfl rfl (readsAll_cons_val r1 (readsAll_cons_val (Reads.int e.2 t) .nil)), by simp⟩
  · exact .inl fun dd hdd => by
      obtain ⟨r, _, rfl⟩ := List.mem_map.mp hdd
      exact ⟨_, _, rfl⟩
  · have : (rowPy e).depth ≤ 2 := by
      show PyData.depth (.tuple [.tuple (e.1.map Sm.kPy), .int e.2]) ≤ 2
      simp [PyData.depth, PyData.depthAll, depth_keys]
    have e1 : X.A.in1.units = X.A.units + 1 := rfl
    omega
  · exact ⟨rfl, out, by rw [h1, hlen], h2, rfl⟩
  · obtain ⟨rfl, out, ho1, ho2, rfl⟩ := h2
    obtain ⟨e', he'⟩ := PyProof.Rows.sortedHeap_at (vs := as.map Value.ref) (out := out.toArray) hob
    obtain ⟨ys, ry, ey⟩ := Sm.each_vals ho2
    have kF : ∀ b o, b ≠ h'.objs.size → h2.get? b = some o → (sortedHeap h2 h'.objs.size (as.map Value.ref) out.toArray).get? b = some o := fun b o hb e => (PyProof.Rows.sortedHeap_old hb (Heap.lt_size e)).trans e
    have kS : ∀ b o, s.heap.get? b = some o → (sortedHeap h2 h'.objs.size (as.map Value.ref) out.toArray).get? b = some o := fun b o e => kF b o (ne0 _ _ (hk b o e)) (kb b o (hk b o e))
    have I1 : Inv X pins σ H { s with heap := sortedHeap h2 h'.objs.size (as.map Value.ref) out.toArray, toks := tk } := I.kept (t' := tk) kS
    have hn0 : H h'.objs.size = none := I.hok.fresh (Nat.le_of_lt hlt)
    have I2 : Inv X pins σ (upd H h'.objs.size (.lst ys)) { s with heap := sortedHeap h2 h'.objs.size (as.map Value.ref) out.toArray, toks := tk } :=
      I1.take (h' := sortedHeap h2 h'.objs.size (as.map Value.ref) out.toArray) (t' := tk) (fun b ob _ e => e) (I.fpOk (Nat.le_of_lt hlt) hn0) ⟨by rw [ry.length, ho1, hlen]; exact z, out, e', ry, he'⟩
    obtain ⟨H3, I3, g, qt⟩ := takeT (P := fun b vs => ∃ (j : Nat) (e : List Key × Int) (kq : Addr), as[j]? = some b ∧ kvs[j]? = some e ∧ vs = [.ref kq, .int e.2] ∧ H kq = some (.tup (e.1.map kV))) I as _ I2 nd fun b hb => by
      obtain ⟨j, hj⟩ := List.mem_iff_getElem?.mp hb
      obtain ⟨e, kq, t, he, hkq, hg⟩ := pr j b hj
      have hbl : s.heap.objs.size ≤ b := Nat.le_of_lt (hG.above b hb)
      refine ⟨hbl, ?_, [.ref kq, .int e.2], ⟨j, e, kq, hj, he, rfl, hkq⟩, fun H3 => ⟨(by rw [sizeLine_eq]; show 2 ≤ 16777216; omega), [Value.ref kq, Value.int e.2 t], .cons rfl (.cons ⟨t, rfl⟩ .nil), ⟨_, kF _ _ (ne0 _ _ hg) (kb _ _ hg), rfl, 0, rfl⟩⟩⟩
      rw [upd_ne (ne0 _ _ hg)]
      exact I.hok.fresh hbl
    obtain ⟨H2, e3, n2, g2, k2⟩ := without (g _ _ upd_same) hn0 (fun b o e => g b o (by rw [upd_ne (ne_of_none e hn0)]; exact e))
    refine ⟨.ref h'.objs.size, H3, I3, rfl, ?_⟩
    rw [e3]
    refine q H2 _ ys g2 n2 (ey.mono fun x r ⟨j, b, ex, hb, hr⟩ => ?_)
    obtain ⟨vs, ⟨j', e', kq, j1, j2, rfl, hkq⟩, hH⟩ := qt b (List.mem_of_getElem? hb)
    have eij : j = j' := (List.getElem?_inj (List.getElem?_eq_some_iff.mp hb).1 nd).mp (hb.trans j1.symm)
    subst eij
    rw [hr] at j2
    cases j2
    have tne : b ≠ h'.objs.size := fun z => by rw [z, g _ _ upd_same] at hH; cases hH
    exact ⟨b, kq, ex, by rw [k2 b tne]; exact hH, g2 _ _ hkq⟩
end
end Sy
namespace Sm
open PySem L2 TL L2.DX Sy
section
variable {F : Fx} {Γ Γ' Γe : List Ent} {T : List (V × Own)} {σ : L2.St} {H H' : Hp} {v : V} {t : Own} {Er : L2.St → Exn → Hp → Prop} {ρ α β γ δ S : Type} {W : R ρ → Prop} {D : Ends} {ta tb tc te : TE} {tt uu : TT} {i j : Int} {d e : Dt} {ds es : List Dt} {n : Nat}
theorem Post.grow {B0 O0 H0 B O H H' : Hp} (p : Post B0 O0 H0 B O H) (e : Same H H') : Post B0 O0 H0 B O H' := ⟨p.b0, p.bh.trans e, p.oh.trans e, p.dj, fun a o h n => e _ _ (p.fr a o h n), p.yb, p.yo, p.nt⟩
theorem Post.addRows {B0 O0 H0 B O H : Hp} {K : PySem.W.Frag} {kk : α → List Key} {ek : α → Dt} {enc : β → Dt} (hek : ∀ a, ek a = .kt (kk a)) (p : Post B0 O0 H0 B O H) : ∀ {ts : List Addr} {kvs : List (α × β)} {vs : List V}, ts.length = kvs.length → RpA K B (kvs.map fun r => enc r.2) vs →
    (∀ (j : Nat) (t : Addr) (e : α × β) (v : V), ts[j]? = some t → kvs[j]? = some e → vs[j]? = some v → ∃ kq, H t = some (.tup [.ref kq, v]) ∧ H kq = some (.tup ((kk e.1).map kV))) →
    ∃ B', Post B0 O0 H0 B' O H ∧ Same B B' ∧ RpA K B' (kvs.map (e2 ek enc)) (ts.map V.ref)
  | [], [], _, _, _, _ => ⟨B, p, Same.refl _, rpa_nil⟩
  | [], _ :: _, _, h, _, _ => by simp at h
  | _ :: _, [], _, h, _, _ => by simp at h
  | t :: ts, e :: kvs, vs, hl, r, hf => by
    rw [List.map_cons] at r
    unfold RpA at r
    obtain ⟨v, vr, rfl, r1, r2⟩ := r
    obtain ⟨B1, p1, e1, ra⟩ := Post.addRows hek p (ts := ts) (kvs := kvs) (by simpa using hl) r2 fun j t' e' v' h1 h2 h3 => hf (j + 1) t' e' v' (by simpa using h1) (by simpa using h2) (by simpa using h3)
    obtain ⟨kq, ht, hk⟩ := hf 0 t e v rfl rfl rfl
    obtain ⟨B2, p2, e2', hB⟩ := p1.addB hk
    obtain ⟨B3, p3, e3, hT⟩ := p2.addB ht
    refine ⟨B3, p3, (e1.trans e2').trans e3, ?_⟩
    rw [List.map_cons, List.map_cons]
    refine rpa_cons ?_ (ra.mono (e2'.trans e3))
    show Rp K B3 (.tup [ek e.1, enc e.2]) (.ref t)
    unfold Rp
    refine ⟨t, [.ref kq, v], rfl, SqT.of hT, rpa_cons ?_ (rpa_cons (r1.mono ((e1.trans e2').trans e3)) rpa_nil)⟩
    rw [hek]
    unfold Rp
    exact ⟨kq, rfl, e3 _ _ hB⟩
theorem Stt.rows {kk : α → List Key} {ek : α → Dt} {enc : β → Dt} (hek : ∀ a, ek a = .kt (kk a)) {ts : List Addr} {kvs : List (α × β)} {vs : List V} {B : Hp} {O : Hp} (s : Slots F.K B (T.map (fun p => some p.2) ++ Γ) O (T.map (fun p => some p.1) ++ σ)) (p : Post F.B F.O F.H B O H) (q : ∀ p ∈ F.ins, σ[p.1]? = some (some p.2))
    (hl : ts.length = kvs.length) (r : RpA F.K B (kvs.map fun r => enc r.2) vs) (hf : ∀ (j : Nat) (t : Addr) (e : α × β) (v : V), ts[j]? = some t → kvs[j]? = some e → vs[j]? = some v → ∃ kq, H t = some (.tup [.ref kq, v]) ∧ H kq = some (.tup ((kk e.1).map kV))) (v : V) :
    Stt F Γ ((v, .rv (ts.map V.ref) (kvs.map (e2 ek enc))) :: T) σ H := by
  obtain ⟨B', p', e', ra⟩ := Post.addRows hek p hl r hf
  refine ⟨B', O, ?_, p', q⟩
  have z := slots_own (show Ow F.K B' (.rv (ts.map V.ref) (kvs.map (e2 ek enc))) emp v by unfold Ow; exact ⟨ra, rfl⟩) (s.mono e') emp_dj
  rw [emp_jn] at z
  exact z
theorem rpa_intsV : ∀ {B : Hp} {K : PySem.W.Frag} {is : List Int} {vs : List V}, RpA K B (is.map eI) vs → vs = is.map V.int
  | _, _, [], vs, h => by unfold RpA at h; rw [h]; rfl
  | _, _, i :: is, vs, h => by
    rw [List.map_cons] at h
    unfold RpA at h
    obtain ⟨v, r, rfl, h1, h2⟩ := h
    rw [rp_int h1, rpa_intsV h2]
    rfl
theorem zip_maps {α β γ : Type} (f : α → β) (g : α → γ) : ∀ xs : List α, (xs.map f).zip (xs.map g) = xs.map fun x => (f x, g x)
  | [] => rfl
  | x :: xs => by rw [List.map_cons, List.map_cons, List.zip_cons_cons, zip_maps f g xs]; rfl
theorem eachIs_get {α β : Type} {P : α → β → Prop} : ∀ {as : List α} {bs : List β}, PySem.W.EachIs P as bs → as.length = bs.length ∧ ∀ (j : Nat) (a : α) (b : β), as[j]? = some a → bs[j]? = some b → P a b
  | _, _, .nil => ⟨rfl, fun j a b e => by simp at e⟩
  | _, _, .cons h t => by
    obtain ⟨h1, h2⟩ := eachIs_get t
    refine ⟨by simp [h1], fun j a b e1 e2 => ?_⟩
    cases j with
    | zero => cases e1; cases e2; exact h
    | succ j => exact h2 j a b (by simpa using e1) (by simpa using e2)
end
end Sm
namespace PySem.W
open Lean Elab Tactic Meta PySem PySem.Calls PyProof.Rows PyProof.V PySem.Spec
section
variable {prog : Program} {w : World} {A : Around} {E : Value → Shared → Prop} {s : Shared}
end
end PySem.W
theorem L2.Room.units65 {k : Nat} {A : PySem.Around} (r : L2.Room k A) : A.units + 65 < PySem.cLine := by have := r.un; omega
namespace Sm
open PySem PySem.Spec PyProof.Rows L2 L2.DX PySem.W
section
variable {F : Fx} {Γ Γ' Γe : List Ent} {T : List (V × Own)} {σ : L2.St} {H H' : Hp} {v : V} {Er : L2.St → Exn → Hp → Prop} {ρ α β γ δ S : Type} {W : R ρ → Prop} {D : Ends} {ta tb tc te ti : TE} {tt uu : TT} {i j : Int} {d e : Dt} {c : Bool} {ds : List Dt} {n : Nat} [DecidableEq α] {enc : β → Dt}
end
section
variable {F : Fx} {Γ Γ' Γe : List Ent} {T : List (V × Own)} {σ : L2.St} {H H' : Hp} {v : V} {Er : L2.St → Exn → Hp → Prop} {ρ α β γ δ S : Type} {W : R ρ → Prop} {D : Ends} {ta tb tc te ti : TE} {tt uu : TT} {i j : Int} {d e : Dt} {c : Bool} {ds : List Dt} {n : Nat} {enc : α → Dt}
theorem plc_eqvP (a b : List Nat × Int) : PyData.eqv (eP a).py (eP b).py = decide (a = b) := by
  show PyData.eqv (.tuple [.str (Sx a.1), .int a.2]) (.tuple [.str (Sx b.1), .int b.2]) = _
  simp only [PyData.eqv, PyData.eqvAll, Bool.and_true]
  by_cases h : a = b
  · subst h; simp
  · rw [decide_eq_false h]
    by_cases h1 : a.1 = b.1
    · have h2 : a.2 ≠ b.2 := fun h2 => h (Prod.ext h1 h2)
      rw [show (a.2 == b.2) = false from beq_eq_false_iff_ne.mpr h2, Bool.and_false]
    · have h2 : Sx a.1 ≠ Sx b.1 := fun h2 => h1 (Sx_inj.mp h2)
      rw [show (Sx a.1 == Sx b.1) = false from beq_eq_false_iff_ne.mpr h2, Bool.false_and]
def gIns (xs : List α) (i : Int) : Prop := xs.length < 16777216 ∧ 0 ≤ i ∧ i < 2 ^ 63
instance {xs : List α} {i : Int} : Decidable (gIns xs i) := by unfold gIns; exact inferInstance
end
end Sm
namespace Sm
open PySem PySem.Spec PyProof.Rows L2 L2.DX PySem.W Sy
section
variable {K : PySem.W.Frag} {B B' : Hp}
theorem jn_upd {A C : Hp} {a : Addr} {o : HO} (n : A a = none) : jn A (upd C a o) = upd (jn A C) a o := by
  funext b
  by_cases e : b = a
  · subst e
    rw [jn_none n, upd_same, upd_same]
  · rw [upd_ne e]
    cases z : A b with
    | some x => rw [jn_some z, jn_some z]
    | none => rw [jn_none z, jn_none z, upd_ne e]
theorem dj_upd {A C : Hp} {a : Addr} {o : HO} (d : Dj A (upd C a o)) (n : C a = none) : A a = none ∧ Dj A C := by
  have na : A a = none := by
    rcases d a with x | x
    · exact x
    · rw [upd_same] at x; cases x
  refine ⟨na, fun b => ?_⟩
  by_cases e : b = a
  · subst e; exact .inl na
  · rcases d b with x | x
    · exact .inl x
    · rw [upd_ne e] at x; exact .inr x
section
variable {α β : Type} {kk : α → List Key} {enc : β → Dt}
abbrev eKU (kk : α → List Key) (e : β → Dt) (kvs : List (α × β)) : Dt := .du (kvs.map fun p => kk p.1) (kvs.map fun p => e p.2)
end
end
section
variable {F : Fx} {Γ Γ' Γe : List Ent} {T : List (V × Own)} {σ : L2.St} {H H' : Hp} {v : V} {Er : L2.St → Exn → Hp → Prop} {ρ α β γ δ S : Type} {W : R ρ → Prop} {D : Ends} {ta tb tc te ti tj tk : TE} {tt uu : TT} {d e : Dt} {c : Bool} {ds : List Dt} {n : Nat} {kk : α → List Key} {enc : β → Dt}
abbrev e0 (_ : Unit) : Dt := Dt.tup []
end
end Sm
namespace Sm
open PySem PySem.Spec PyProof.Rows L2 PySem.W
inductive Ag where
  | d (x : Dt)
  | s (n : Nat)
def RA (K : PySem.W.Frag) (B : Hp) (σ : L2.St) : List Ag → List V → Prop
  | [], vs => vs = []
  | .d x :: as, vs => ∃ v r, vs = v :: r ∧ Rp K B x v ∧ RA K B σ as r
  | .s n :: as, vs => ∃ v r, vs = v :: r ∧ σ[n]? = some (some v) ∧ RA K B σ as r
theorem RA.mono {K : PySem.W.Frag} {B B' : Hp} {σ : L2.St} (e : Same B B') : ∀ {as : List Ag} {vs : List V}, RA K B σ as vs → RA K B' σ as vs
  | [], _, h => h
  | .d x :: as, _, ⟨v, r, e1, h1, h2⟩ => ⟨v, r, e1, h1.mono e, RA.mono e h2⟩
  | .s n :: as, _, ⟨v, r, e1, h1, h2⟩ => ⟨v, r, e1, h1, RA.mono e h2⟩
theorem RA.length {K : PySem.W.Frag} {B : Hp} {σ : L2.St} : ∀ {as : List Ag} {vs : List V}, RA K B σ as vs → vs.length = as.length
  | [], _, h => by rw [show _ = [] from h]; rfl
  | .d x :: as, _, ⟨v, r, e1, h1, h2⟩ => by rw [e1, List.length_cons, h2.length, List.length_cons]
  | .s n :: as, _, ⟨v, r, e1, h1, h2⟩ => by rw [e1, List.length_cons, h2.length, List.length_cons]
def agS : List Ag → List Nat
  | [] => []
  | .d _ :: as => agS as
  | .s n :: as => n :: agS as
def agV : List Ag → List V → List V
  | .d _ :: as, _ :: vs => agV as vs
  | .s _ :: as, v :: vs => v :: agV as vs
  | _, _ => []
def RS (σ : L2.St) : List Nat → List V → Prop
  | [], vs => vs = []
  | n :: ns, vs => ∃ v r, vs = v :: r ∧ σ[n]? = some (some v) ∧ RS σ ns r
theorem RA.rs {K : PySem.W.Frag} {B : Hp} {σ : L2.St} : ∀ {as : List Ag} {vs : List V}, RA K B σ as vs → RS σ (agS as) (agV as vs)
  | [], _, h => by rw [show _ = [] from h]; rfl
  | .d x :: as, _, ⟨v, r, e1, h1, h2⟩ => by rw [e1]; exact h2.rs
  | .s n :: as, _, ⟨v, r, e1, h1, h2⟩ => by rw [e1]; exact ⟨v, _, rfl, h1, h2.rs⟩
inductive Tk : List Ent → List Ag → List Own → List Ent → Prop
  | nil {Γ : List Ent} : Tk Γ [] [] Γ
  | d {Γ Γ' : List Ent} {as : List Ag} {ts : List Own} {x : Dt} : Tk Γ as ts Γ' → Tk Γ (.d x :: as) (.dat x :: ts) Γ'
  | s {Γ Γ' : List Ent} {as : List Ag} {ts : List Own} {n : Nat} {t : Own} : Γ[n]? = some (some t) → Tk (Γ.set n none) as ts Γ' → Tk Γ (.s n :: as) (t :: ts) Γ'
inductive Gv : List Ent → List Nat → List Own → List Ent → Prop
  | nil {Γ : List Ent} : Gv Γ [] [] Γ
  | cons {Γ Γ' : List Ent} {ns : List Nat} {ts : List Own} {n : Nat} {t : Own} : Γ[n]? = some none → Gv (Γ.set n (some t)) ns ts Γ' → Gv Γ (n :: ns) (t :: ts) Γ'
theorem slots_put {K : PySem.W.Frag} {B : Hp} {t : Own} {O1 : Hp} {v : V} (a : Ow K B t O1 v) : ∀ {Γ : List Ent} {O : Hp} {σ : L2.St} {i : Nat}, Slots K B Γ O σ → Γ[i]? = some none → σ[i]? = some (some v) → Dj O1 O → Slots K B (Γ.set i (some t)) (jn O1 O) σ
  | [], _, _, _, _, e, _, _ => by simp at e
  | none :: Γ, O, σ, i, h, e, f, d => by
    unfold Slots at h
    obtain ⟨x, r, rfl, b⟩ := h
    cases i with
    | zero =>
      simp at f
      subst f
      exact slots_own a b d
    | succ i => exact slots_un (slots_put a b (by simpa using e) (by simpa using f) d)
  | some t0 :: Γ, O, σ, i, h, e, f, d => by
    unfold Slots at h
    obtain ⟨w, r, P1, P2, rfl, a1, b, c, rfl⟩ := h
    cases i with
    | zero => simp at e
    | succ i =>
      have d1 : Dj O1 P1 := Dj.rl d
      have d2 : Dj O1 P2 := Dj.rr d
      have z := slots_put a b (by simpa using e) (by simpa using f) d2
      have z2 := slots_own a1 z (Dj.jnr d1.symm c)
      rw [jn_swap d1.symm] at z2
      exact z2
theorem take_ {K : PySem.W.Frag} {B : Hp} {σ : L2.St} {T : List (V × Own)} {Γ Γ' : List Ent} {as : List Ag} {ts : List Own} (tk : Tk Γ as ts Γ') : ∀ {vs : List V} {O : Hp}, RA K B σ as vs → Slots K B (T.map (fun p => some p.2) ++ Γ) O (T.map (fun p => some p.1) ++ σ) →
    ∃ Oa Or, OwA K B ts Oa vs ∧ Slots K B (T.map (fun p => some p.2) ++ Γ') Or (T.map (fun p => some p.1) ++ σ) ∧ Dj Oa Or ∧ O = jn Oa Or := by
  induction tk with
  | nil =>
    intro vs O ra sl
    rw [show vs = [] from ra]
    exact ⟨emp, O, owa_nil, sl, emp_dj, emp_jn.symm⟩
  | d _ ih =>
    intro vs O ra sl
    obtain ⟨v, r, rfl, r1, r2⟩ := ra
    obtain ⟨Oa, Or, oa, sl', dj, rfl⟩ := ih r2 sl
    refine ⟨Oa, Or, ?_, sl', dj, rfl⟩
    have z := owa_cons (ow_dat r1) oa emp_dj
    rw [emp_jn] at z
    exact z
  | @s Γ Γ' as ts n t he _ ih =>
    intro vs O ra sl
    obtain ⟨v, r, rfl, r1, r2⟩ := ra
    have e' : (T.map (fun p => some p.2) ++ Γ)[T.length + n]? = some (some t) := by
      rw [List.getElem?_append_right (by simp)]
      simpa using he
    obtain ⟨v', O1, O2, e1, a, dj, rfl, _, k2⟩ := sl.at e'
    have e2 : σ[n]? = some (some v') := by
      rw [List.getElem?_append_right (by simp)] at e1
      simpa using e1
    rw [r1] at e2
    cases e2
    have z := k2 B (some v) (Same.refl _)
    rw [set_same e1, List.set_append_right _ _ (by simp)] at z
    simp only [List.length_map, Nat.add_sub_cancel_left] at z
    obtain ⟨Oa, Or, oa, sl', dj', rfl⟩ := ih r2 z
    exact ⟨jn O1 Oa, Or, owa_cons a oa (Dj.rl dj), sl', Dj.jnl (Dj.rr dj) dj', jn_assoc.symm⟩
section
variable {F : Fx} {Γ Γ' Γ1 Γe Γx : List Ent} {T : List (V × Own)} {σ : L2.St} {H H' : Hp} {v : V} {Er : L2.St → Exn → Hp → Prop} {ρ α β γ S : Type} {W : R ρ → Prop} {D : Ends} {ta tb tc te : TE} {tr : TA} {d e : Dt} {ds : List Dt} {n : Nat}
def SttG (F : Fx) (Γ : List Ent) (T : List (V × Own)) (vs : List V) (as : List Ag) (σ : L2.St) (H : Hp) : Prop :=
  ∃ B O, RA F.K B σ as vs ∧ Slots F.K B (T.map (fun p => some p.2) ++ Γ) O (T.map (fun p => some p.1) ++ σ) ∧ Post F.B F.O F.H B O H ∧ ∀ p ∈ F.ins, σ[p.1]? = some (some p.2)
theorem SttG.dcons {vs : List V} {as : List Ag} (h : SttG F Γ ((v, .dat d) :: T) vs as σ H) : SttG F Γ T (v :: vs) (.d d :: as) σ H := by
  obtain ⟨B, O, ra, sl, p, ii⟩ := h
  rw [List.map_cons, List.map_cons] at sl
  unfold Slots at sl
  obtain ⟨_, _, O1, O2, e, a, b, c, rfl⟩ := sl
  cases e
  obtain ⟨r, rfl⟩ := a.rp
  rw [emp_jn] at p
  exact ⟨B, O2, ⟨v, vs, rfl, r, ra⟩, b, p, ii⟩
end
section
variable {F : Fx} {Γ Γ' Γ1 Γe Γx : List Ent} {T : List (V × Own)} {σ : L2.St} {H H' : Hp} {α : Type}
theorem ra_of {K : PySem.W.Frag} {B : Hp} {σ : L2.St} {vs : List V} : ∀ {ns : List Nat}, (∀ i ∈ ns, i < vs.length) → (∀ p ∈ ns.filterMap (fun i => vs[i]?.map fun v => (i, v)), σ[p.1]? = some (some p.2)) → RA K B σ (ns.map Ag.s) (ns.filterMap fun i => vs[i]?)
  | [], _, _ => rfl
  | n :: ns, hl, h => by
    have hn := hl n (by simp)
    have e : vs[n]? = some vs[n] := List.getElem?_eq_getElem hn
    have ih := ra_of (K := K) (B := B) (ns := ns) (fun i hi => hl i (by simp [hi])) fun p hp => h p (by
      rw [List.filterMap_cons, e]
      exact List.mem_cons_of_mem _ hp)
    rw [List.map_cons, List.filterMap_cons, e]
    exact ⟨vs[n], _, rfl, h (n, vs[n]) (by rw [List.filterMap_cons, e]; exact List.mem_cons_self), ih⟩
end
section
variable {X : Cx} {CX : CXT} {k : Nat} {f C : Addr} {fd : FuncData} {ps : List Str} {sp : Sp} {E : L2.St → XK} {x m : Str} {p pos apos : Pos} {e o : Expr} {es : List Expr} {ta : TE} {t : TA}
def tMethP (C : Addr) (m : Str) (sp : Sp) (E : L2.St → XK) (ta : TE) (t : TA) : TE := fun σ H Q => ta σ H fun x H1 => ∃ a dx fs, x = .ref a ∧ H1 a = some (.ins C dx fs) ∧ fs.lookup m = none ∧
  t σ H1 fun vs H2 => sp (x :: vs) H2 Q (E σ)
theorem pe_methP {pl : Sem Bool} (he : PE X o ta) (c : Cls X.K C) (hm : Meth X.K C m f) (F : FnOk X.prog X.w X.K X.mg X.base CX k f fd ps sp) (hr : Room k X.A) (hb : Binds X.K fd ps []) (hx : ∀ σ, PassesAt CX X σ (E σ)) (ha : PA X (e :: es) t)
    (hst : starEach (e :: es) X.env = (false, eval e X.env) :: starEach es X.env := by rfl) (hpl : (backTo pos (starEach es X.env)).any (·.1) = false := by rfl)
    (ht : eval (.Call (.Attribute o m apos) (e :: es) [] pos) X.env = (do
      let ov ← eval o X.env
      standAt apos.atName
      let (f, first) ← holding [ov] (getMethod ov m pl)
      callWith pos f first (backTo pos (starEach (e :: es) X.env)) (backToKw pos (keywordEach [] X.env))) := by rfl) :
    PE X (.Call (.Attribute o m apos) (e :: es) [] pos) (tMethP C m sp E ta t) := by
  refine ⟨fun pins s σ H Q I h => ?_⟩
  refine PySem.W.methodCall_KW (pl := pl) (thn (he.run pins s σ H _ I h) fun u s1 ⟨x, H1, I1, rx, a, dx, fs, ex, ea, l, q⟩ => ?_) ht
  subst ex
  obtain rfl : u = Value.ref a := rx
  refine getmeth_ok I1 ea c hm l ?_
  refine PySem.W.callWith_K (first := [.ref a]) (h₀ := X.base) I.ok.mod.kin hm.kp (thn (ha.run pos pins s1 σ H1 _ I1 q) fun us s2 ⟨vs, H2, I2, r, q2⟩ => ⟨I2.kIn, ?_⟩) hst hpl
  exact run_fnS (us := .ref a :: us) (vs := .ref a :: vs) F hr hb (hx σ) I2 (.cons rfl r) q2
theorem pe_methP0 {pl : Sem Bool} (he : PE X o ta) (c : Cls X.K C) (hm : Meth X.K C m f) (F : FnOk X.prog X.w X.K X.mg X.base CX k f fd ps sp) (hr : Room k X.A) (hb : Binds X.K fd ps []) (hx : ∀ σ, PassesAt CX X σ (E σ))
    (ht : eval (.Call (.Attribute o m apos) [] [] pos) X.env = (do
      let ov ← eval o X.env
      standAt apos.atName
      let (f, first) ← holding [ov] (getMethod ov m pl)
      callWith pos f first (backTo pos (starEach [] X.env)) (backToKw pos (keywordEach [] X.env))) := by rfl) :
    PE X (.Call (.Attribute o m apos) [] [] pos) (tMethP C m sp E ta tNil) := by
  refine ⟨fun pins s σ H Q I h => ?_⟩
  refine PySem.W.methodCall_KW (pl := pl) (thn (he.run pins s σ H _ I h) fun u s1 ⟨x, H1, I1, rx, a, dx, fs, ex, ea, l, q⟩ => ?_) ht
  subst ex
  obtain rfl : u = Value.ref a := rx
  refine getmeth_ok I1 ea c hm l ?_
  exact PySem.W.callWith_K0 (first := [.ref a]) I1.kIn hm.kp (run_fnS (us := [.ref a]) (vs := [.ref a]) F hr hb (hx σ) I1 (.cons rfl .nil) q)
def tMakeP (C : Addr) (sp : Sp) (E : L2.St → XK) (t : TA) : TE := fun σ H Q => t σ H fun vs H1 => ∀ x dx, H1 x = none → H1 dx = none → dx ≠ x →
  sp (.ref x :: vs) (upd (upd H1 dx (.own x)) x (.ins C dx [])) (fun v H2 => v = .non ∧ Q (.ref x) H2) (E σ)
theorem run_makeP {pins : List (Addr × Obj)} {σ : L2.St} {H : Hp} {s : Shared} {Q : VK} {us : List Value} {vs : List V} (M : Mk X.K C f) (F : FnOk X.prog X.w X.K X.mg X.base CX k f fd ps sp) (hr : Room (k + 1) X.A) (hb : Binds X.K fd ps [])
    (hx : ∀ σ, PassesAt CX X σ (E σ)) (I : Inv X pins σ H s) (r : Vals vs us)
    (h : ∀ x dx, H x = none → H dx = none → dx ≠ x → sp (.ref x :: vs) (upd (upd H dx (.own x)) x (.ins C dx [])) (fun v H2 => v = .non ∧ Q (.ref x) H2) (E σ)) :
    wpAny (model X.prog X.w) X.A (call (.ref C) us) (EP X pins σ Q) X.xe s := by
  have hq := h (s.heap.objs.size + 1) s.heap.objs.size (I.hok.fresh (Nat.le_succ _)) (I.hok.fresh (Nat.le_refl _)) (Nat.ne_of_lt (Nat.lt_succ_self _))
  have I2 := Inv.made (C := C) I
  have r2 : Vals (V.ref (s.heap.objs.size + 1) :: vs) (Value.ref (s.heap.objs.size + 1) :: us) := .cons rfl r
  have hl : (Value.ref (s.heap.objs.size + 1) :: us).length = ps.length := by
    have e := r2.length
    rw [F.len _ _ _ _ hq] at e
    exact e.symm
  have b := hb _ (Value.ref (s.heap.objs.size + 1) :: us) I2.kIn (by rw [List.append_nil]; exact hl)
  rw [List.append_nil] at b
  refine wpAny_call (make_map (f := f) I.kIn M.makes M.init (beq_iff_eq.mp M.fn) (codeAny_mono (F.run _ X.stack _ _ ⟨Value.ref (s.heap.objs.size + 1) :: us, []⟩ (Value.ref (s.heap.objs.size + 1) :: us) _ _ (E σ) (hr.make C us [])
    (I2.env0.make C us []) b r2 hq) fun r s' hq' => ?_))
  cases r with
  | error e => exact hx σ pins _ _ e s' I2 hq'
  | ok fl =>
    cases fl with
    | ret u =>
      obtain ⟨v, H', I3, rv, ev, q3⟩ := I2.after hq'
      subst ev
      exact ⟨rv, ⟨V.ref (s.heap.objs.size + 1), H', I3, rfl, q3⟩⟩
    | next => exact False.elim hq'
    | brk => exact False.elim hq'
    | cont => exact False.elim hq'
theorem pe_makeP (M : Mk X.K C f) (F : FnOk X.prog X.w X.K X.mg X.base CX k f fd ps sp) (hr : Room (k + 1) X.A) (hg : Gl X x) (hm : X.mg x = some (.ref C)) (hb : Binds X.K fd ps []) (hx : ∀ σ, PassesAt CX X σ (E σ))
    (ha : PA X (e :: es) t) (hdb : (x == ("__debug__" : Str)) = false := by decide) (he : starEach (e :: es) X.env = (false, eval e X.env) :: starEach es X.env := by rfl) (hpl : (backTo pos (starEach es X.env)).any (·.1) = false := by rfl) :
    PE X (.Call (.Name x p) (e :: es) [] pos) (tMakeP C sp E t) := by
  refine ⟨fun pins s σ H Q I h => ?_⟩
  refine wpAny_Call_Name_kw (ld_glob I hg hm ?_ hdb)
  refine PySem.W.callWith_K (h₀ := X.base) I.ok.mod.kin M.kp (thn (ha.run pos pins s σ H _ I h) fun us s1 ⟨vs, H1, I1, r, q⟩ => ⟨I1.kIn, ?_⟩) he hpl
  exact run_makeP M F hr hb hx I1 r q
end
end Sm
namespace Sm
open PySem PySem.Spec PyProof.Rows L2 PySem.W
section
variable {K : PySem.W.Frag} {B B' : Hp}
theorem Ow.insAt {C : Addr} {fs : List Str} {xs : List Own} {i : Nat} {c : Own} {O : Hp} {v : V} (h : Ow K B (.ins C fs xs) O v) (e : xs[i]? = some c) : ∃ p dx vs vc O1 Or, v = .ref p ∧ Or p = some (.ins C dx (fs.zip vs)) ∧ vs.length = xs.length ∧ fs.length = xs.length ∧ vs[i]? = some vc ∧ Ow K B c O1 vc ∧ Dj O1 Or ∧ O = jn O1 Or ∧
    ∀ B' c' O1', Same B B' → Ow K B' c' O1' vc → Dj O1' Or → Ow K B' (.ins C fs (xs.set i c')) (jn O1' Or) (.ref p) := by
  unfold Ow at h
  obtain ⟨p, dx, vs, Oc, rfl, oa, np, nx, ne, hl, rfl⟩ := h
  obtain ⟨vc, O1, O2, e1, a, dj, rfl, k⟩ := oa.at e
  have p1 := (jn_none_iff.mp np).1
  have p2 := (jn_none_iff.mp np).2
  have x1 := (jn_none_iff.mp nx).1
  have x2 := (jn_none_iff.mp nx).2
  refine ⟨p, dx, vs, vc, O1, upd (upd O2 dx (.own p)) p (.ins C dx (fs.zip vs)), rfl, upd_same, oa.length, hl, e1, a, (Dj.upd (Dj.upd dj.symm x1) p1).symm, by rw [jn_upd p1, jn_upd x1], fun B' c' O1' s a' d' => ?_⟩
  obtain ⟨m1, d2⟩ := dj_upd d' (by rw [upd_ne (Ne.symm ne)]; exact p2)
  obtain ⟨m2, d3⟩ := dj_upd d2 x2
  have z := k B' c' O1' vc s a' d3
  rw [set_same e1] at z
  unfold Ow
  exact ⟨p, dx, vs, jn O1' O2, rfl, z, jn_none_iff.mpr ⟨m1, p2⟩, jn_none_iff.mpr ⟨m2, x2⟩, ne, by rw [List.length_set]; exact hl, by rw [jn_upd m1, jn_upd m2]⟩
end
inductive Rd1 : Own → Dt → Prop
  | dat {d : Dt} : Rd1 (.dat d) d
  | lk {od : Obj} {ks : List Key} {us : List V} {ds : List Dt} : Rd1 (.lk od ks us ds) (.df ks ds)
  | lst {ds : List Dt} : Rd1 (.lst (ds.map Own.dat)) (.lst ds)
inductive RdA : List Own → List Dt → Prop
  | nil : RdA [] []
  | cons {t : Own} {d : Dt} {ts : List Own} {ds : List Dt} : Rd1 t d → RdA ts ds → RdA (t :: ts) (d :: ds)
theorem Rd1.rp {K : PySem.W.Frag} {B H O : Hp} {t : Own} {d : Dt} {v : V} (r : Rd1 t d) (a : Ow K B t O v) (sb : Same B H) (so : Same O H) : Rp K H d v := by
  cases r with
  | dat => exact a.rp.1.mono sb
  | lk =>
    unfold Ow at a
    obtain ⟨l, rfl, r, hl, rfl⟩ := a
    unfold Rp
    exact ⟨l, _, _, rfl, so _ _ upd_same, hl, r.mono sb⟩
  | lst =>
    unfold Ow at a
    obtain ⟨l, vs, O1, rfl, oa, nl, rfl⟩ := a
    obtain ⟨r, rfl⟩ := oa.dats
    unfold Rp
    exact ⟨l, vs, rfl, so _ _ upd_same, r.mono sb⟩
theorem RdA.rp {K : PySem.W.Frag} {B H : Hp} {ts : List Own} {ds : List Dt} (r : RdA ts ds) : ∀ {O : Hp} {vs : List V}, OwA K B ts O vs → Same B H → Same O H → RpA K H ds vs := by
  induction r with
  | nil =>
    intro O vs oa _ _
    unfold OwA at oa
    obtain ⟨rfl, _⟩ := oa
    exact rpa_nil
  | cons h _ ih =>
    intro O vs oa sb so
    unfold OwA at oa
    obtain ⟨v, r, O1, O2, rfl, a, oa, dj, rfl⟩ := oa
    exact rpa_cons (h.rp a sb (same_jnl.trans so)) (ih oa sb ((same_jnr dj).trans so))
section
variable {F : Fx} {Γ Γ' Γ1 Γe Γx : List Ent} {T : List (V × Own)} {σ : L2.St} {H H' : Hp} {v : V} {Er : L2.St → Exn → Hp → Prop} {ρ α β γ S : Type} {W : R ρ → Prop} {D : Ends} {ta tb tc te ti : TE} {tr : TA} {d e : Dt} {ds : List Dt} {n j : Nat} {C : Addr} {fs : List Str} {f m' : Str} {xs : List Own}
end
end Sm
namespace Sm
open PySem PySem.Spec PyProof.Rows L2 PySem.W
theorem owa_snoc {K : PySem.W.Frag} {B : Hp} {t : Own} {Ot : Hp} {y : V} (a : Ow K B t Ot y) : ∀ {xs : List Own} {O : Hp} {vs : List V}, OwA K B xs O vs → Dj O Ot → OwA K B (xs ++ [t]) (jn O Ot) (vs ++ [y])
  | [], O, vs, oa, d => by
    unfold OwA at oa
    obtain ⟨rfl, rfl⟩ := oa
    rw [emp_jn]
    have z := owa_cons a owa_nil dj_emp
    rw [jn_emp] at z
    exact z
  | x :: xs, O, vs, oa, d => by
    unfold OwA at oa
    obtain ⟨v, r, O1, O2, rfl, b, oa, dj, rfl⟩ := oa
    have d1 : Dj O1 Ot := Dj.l d
    have d2 : Dj O2 Ot := fun b => by
      rcases d b with z | z
      · exact .inl (jn_none_iff.mp z).2
      · exact .inr z
    have z := owa_cons b (owa_snoc a oa d2) (Dj.jnr dj d1)
    rw [← jn_assoc] at z
    exact z
section
variable {F : Fx} {Γ Γ' Γ1 Γe Γx : List Ent} {T : List (V × Own)} {σ : L2.St} {H H' : Hp} {v : V} {Er : L2.St → Exn → Hp → Prop} {ρ α β γ S : Type} {W : R ρ → Prop} {D : Ends} {ta tb tc te ti tk : TE} {tt : TT} {tr : TA} {d e : Dt} {ds : List Dt} {n j : Nat} {C : Addr} {fs : List Str} {f m' : Str} {xs : List Own}
section
variable [DecidableEq α]
end
theorem Stt.swap {u : V} {t1 t2 : Own} (h : Stt F Γ ((v, t1) :: (u, t2) :: T) σ H) : Stt F Γ ((u, t2) :: (v, t1) :: T) σ H := by
  obtain ⟨B, O, sl, p, ii⟩ := h
  rw [List.map_cons, List.map_cons] at sl
  unfold Slots at sl
  obtain ⟨_, _, O1, O2, e, a, b, d1, rfl⟩ := sl
  cases e
  have b : Slots F.K B (some t2 :: (T.map (fun p => some p.2) ++ Γ)) O2 (some u :: (T.map (fun p => some p.1) ++ σ)) := b
  unfold Slots at b
  obtain ⟨_, _, O3, O4, e, a2, b2, d2, rfl⟩ := b
  cases e
  have d13 : Dj O1 O3 := Dj.rl d1
  have d14 : Dj O1 O4 := Dj.rr d1
  refine ⟨B, jn O3 (jn O1 O4), slots_own a2 (slots_own a b2 d14) (Dj.jnr d13.symm d2), ?_, ii⟩
  rw [jn_swap d13.symm]
  exact p
theorem mv_lcO {Γx : List Ent} {g : TG} {vs : List Nat} {xs : List α} {enc : α → Dt} {encB : β → Dt} {f : α → R β} {Γb : Addr → α → List Ent}
    (he : Γ[n]? = some (some (oL enc xs))) (hn : ∀ l, NoneAt F (Γ.set n (some (.hole (.ref l)))) vs) (tg : ∀ l x, TgW F g (enc x) (Γ.set n (some (.hole (.ref l)))) (Γb l x) vs) (wkb : ∀ l x, Wk (Γb l x) (Γ.set n (some (.hole (.ref l)))))
    (body : ∀ l x, MV F Γx (fun _ _ _ => False) te (Γb l x) (f x) fun y => .dat (encB y)) :
    MV F Γe Er (tLc (iList F.K (tVar n)) g tYes te vs) Γ (R.guard (xs.length ≤ 16777216) (mapR f xs)) (fun ys => .lst ((ys.map encB).map Own.dat)) := fun _ W k T σ H ok w s Q q => by
  have w2 : W (R.guard (xs.length ≤ 16777216) ((mapR f xs).bind k)) := by
    unfold R.guard at w ⊢
    by_cases z : xs.length ≤ 16777216
    · rw [if_pos z] at w ⊢; exact w
    · rw [if_neg z] at w; exact absurd w ok.bad
  obtain ⟨hl, w2⟩ := R.guard_ok ok w2
  obtain ⟨l, us, e1, hlst, h2⟩ := s.lend (ds := xs.map enc) he
  have nlt : n < Γ.length := (List.getElem?_eq_some_iff.mp he).1
  exact ⟨.ref l, e1, l, rfl, ⟨us, SqL.of hlst⟩, lc_go (Γe := List.replicate (Γ.set n (some (Own.hole (.ref l)))).length none) (Er := fun σ e H => W (.err e)) wks_listO (hn l) (tg l) (wkb l) hl h2 ⟨ok.bad, fun e h _ _ _ => h⟩ w2 (fun x T2 W' σ' H' Qe ok' w' st' q' => body l x _ W' R.ok T2 σ' H' ok' (by rw [R.bind_ok]; exact w') st' Qe q') fun ys v H' w3 s3 e3 => q ys v H' w3 (by
    have z := s3.swap.unlend (n := n) (l := l) (by rw [List.getElem?_set_self nlt])
    rw [List.set_set, set_same he] at z
    exact z) e3⟩
end
end Sm
namespace Sm
open PySem PySem.Spec PyProof.Rows L2 PySem.W
structure Adr where
  at_ : L2.St → Hp → V → Prop
  fn : ∀ {σ : L2.St} {H : Hp} {u u' : V}, at_ σ H u → at_ σ H u' → u = u'
  mono : ∀ {σ : L2.St} {H H' : Hp} {u : V}, Same H H' → at_ σ H u → at_ σ H' u
def Adr.var (n : Nat) : Adr := ⟨fun σ _ u => σ[n]? = some (some u), fun h k => by rw [h] at k; cases k; rfl, fun _ h => h⟩
def Adr.fld (A : Adr) (f : Str) : Adr := ⟨fun σ H u => ∃ p C dx fs, A.at_ σ H (.ref p) ∧ H p = some (.ins C dx fs) ∧ fs.lookup f = some u,
  fun ⟨p, C, dx, fs, a, b, c⟩ ⟨p', C', dx', fs', a', b', c'⟩ => by
    have e := A.fn a a'
    cases e
    rw [b] at b'
    cases b'
    rw [c] at c'
    cases c'
    rfl,
  fun s ⟨p, C, dx, fs, a, b, c⟩ => ⟨p, C, dx, fs, A.mono s a, s _ _ b, c⟩⟩
def Adr.ix (A : Adr) (i : Int) : Adr := ⟨fun σ H u => ∃ p vs, A.at_ σ H (.ref p) ∧ H p = some (.lst vs) ∧ atI vs i = some u,
  fun ⟨p, vs, a, b, c⟩ ⟨p', vs', a', b', c'⟩ => by
    have e := A.fn a a'
    cases e
    rw [b] at b'
    cases b'
    rw [c] at c'
    cases c'
    rfl,
  fun s ⟨p, vs, a, b, c⟩ => ⟨p, vs, A.mono s a, s _ _ b, c⟩⟩
def Loc (K : PySem.W.Frag) (Γ : List Ent) (A : Adr) (t : Own) (put : Own → List Ent) : Prop :=
  ∀ (T : List (V × Own)) (B O : Hp) (σ : L2.St), Slots K B (T.map (fun p => some p.2) ++ Γ) O (T.map (fun p => some p.1) ++ σ) →
    ∃ u O1 Or, A.at_ σ Or u ∧ Ow K B t O1 u ∧ Dj O1 Or ∧ O = jn O1 Or ∧
      ∀ B' t' O1', Same B B' → Ow K B' t' O1' u → Dj O1' Or → Slots K B' (T.map (fun p => some p.2) ++ put t') (jn O1' Or) (T.map (fun p => some p.1) ++ σ)
section
variable {K : PySem.W.Frag} {Γ Γ' : List Ent} {A : Adr} {t : Own} {put : Own → List Ent} {n j : Nat} {C : Addr} {fs : List Str} {f : Str} {xs : List Own} {i : Int} {B B' : Hp}
theorem loc_var (he : Γ[n]? = some (some t)) : Loc K Γ (.var n) t fun t' => Γ.set n (some t') := fun T B O σ sl => by
  have e' : (T.map (fun p => some p.2) ++ Γ)[T.length + n]? = some (some t) := by
    rw [List.getElem?_append_right (by simp)]
    simpa using he
  obtain ⟨v, O1, O2, e1, a, dj, rfl, k1, _⟩ := sl.at e'
  refine ⟨v, O1, O2, ?_, a, dj, rfl, fun B' t' O1' sm a' d' => ?_⟩
  · rw [List.getElem?_append_right (by simp)] at e1
    show σ[n]? = some (some v)
    simpa using e1
  · have z := k1 B' t' O1' v sm a' d'
    rw [set_same e1, List.set_append_right _ _ (by simp)] at z
    simpa using z
theorem loc_fld (h : Loc K Γ A (.ins C fs xs) put) (hj : xs[j]? = some t) (hl : ∀ vs : List V, vs.length = fs.length → (fs.zip vs).lookup f = vs[j]?) : Loc K Γ (A.fld f) t fun t' => put (.ins C fs (xs.set j t')) := fun T B O σ sl => by
  obtain ⟨v, O1, Or, av, a, dj, rfl, k⟩ := h T B O σ sl
  obtain ⟨p, dx, vs, u, P1, Pr, rfl, hp, hvl, hfl, hu, a1, d1, rfl, k1⟩ := a.insAt hj
  have dr : Dj P1 Or := Dj.l dj
  have drr : Dj Pr Or := fun b => by
    rcases dj b with x | x
    · exact .inl (jn_none_iff.mp x).2
    · exact .inr x
  refine ⟨u, P1, jn Pr Or, ⟨p, C, dx, fs.zip vs, A.mono (same_jnr drr) av, jn_some hp, by rw [hl vs (by rw [hvl, hfl]), hu]⟩, a1, Dj.jnr d1 dr, jn_assoc, fun B' t' O1' s a' d' => ?_⟩
  have z := k B' _ _ s (k1 B' t' O1' s a' (Dj.rl d')) (Dj.jnl (Dj.rr d') drr)
  rw [jn_assoc] at z
  exact z
theorem Ow.lstAt2 {m : Nat} {c : Own} {O : Hp} {v : V} (h : Ow K B (.lst xs) O v) (e : xs[m]? = some c) : ∃ p vs vc O1 Or, v = .ref p ∧ Or p = some (.lst vs) ∧ vs.length = xs.length ∧ vs[m]? = some vc ∧ Ow K B c O1 vc ∧ Dj O1 Or ∧ O = jn O1 Or ∧
    ∀ B' c' O1', Same B B' → Ow K B' c' O1' vc → Dj O1' Or → Ow K B' (.lst (xs.set m c')) (jn O1' Or) (.ref p) := by
  unfold Ow at h
  obtain ⟨p, vs, Oc, rfl, oa, np, rfl⟩ := h
  obtain ⟨vc, O1, O2, e1, a, dj, rfl, k⟩ := oa.at e
  have p1 := (jn_none_iff.mp np).1
  have p2 := (jn_none_iff.mp np).2
  refine ⟨p, vs, vc, O1, upd O2 p (.lst vs), rfl, upd_same, oa.length, e1, a, (Dj.upd dj.symm p1).symm, by rw [jn_upd p1], fun B' c' O1' s a' d' => ?_⟩
  obtain ⟨m1, d2⟩ := dj_upd d' p2
  have z := k B' c' O1' vc s a' d2
  rw [set_same e1] at z
  unfold Ow
  exact ⟨p, vs, jn O1' O2, rfl, z, jn_none_iff.mpr ⟨m1, p2⟩, by rw [jn_upd m1]⟩
theorem loc_ix (h : Loc K Γ A (.lst xs) put) (hb : inB xs i) (hx : xs[ixI xs i]? = some t) : Loc K Γ (A.ix i) t fun t' => put (.lst (xs.set (ixI xs i) t')) := fun T B O σ sl => by
  obtain ⟨v, O1, Or, av, a, dj, rfl, k⟩ := h T B O σ sl
  obtain ⟨p, vs, u, P1, Pr, rfl, hp, hvl, hu, a1, d1, rfl, k1⟩ := a.lstAt2 hx
  have dr : Dj P1 Or := Dj.l dj
  have drr : Dj Pr Or := fun b => by
    rcases dj b with x | x
    · exact .inl (jn_none_iff.mp x).2
    · exact .inr x
  have hb' : inB vs i := by unfold inB at hb ⊢; rw [hvl]; exact hb
  have ix : ixI vs i = ixI xs i := by unfold ixI; rw [hvl]
  refine ⟨u, P1, jn Pr Or, ⟨p, vs, A.mono (same_jnr drr) av, jn_some hp, by rw [atI_of hb', ix, hu]⟩, a1, Dj.jnr d1 dr, jn_assoc, fun B' t' O1' s a' d' => ?_⟩
  have z := k B' _ _ s (k1 B' t' O1' s a' (Dj.rl d')) (Dj.jnl (Dj.rr d') drr)
  rw [jn_assoc] at z
  exact z
end
structure Lv (F : Fx) (te : TE) (Γ : List Ent) (A : Adr) (t : Own) (put : Own → List Ent) : Prop where
  loc : Loc F.K Γ A t put
  ev : ∀ T σ H, Stt F Γ T σ H → ∀ Q : VK, (∀ u H', A.at_ σ H' u → Same H H' → Stt F Γ T σ H' → Q u H') → te σ H Q
section
variable {F : Fx} {Γ Γ' Γ1 Γe Γx : List Ent} {T : List (V × Own)} {σ : L2.St} {H H' : Hp} {v : V} {Er : L2.St → Exn → Hp → Prop} {ρ α β γ S : Type} {W : R ρ → Prop} {D : Ends} {ta tb tc te ti tk : TE} {tt : TT} {tr : TA} {d e : Dt} {ds : List Dt} {n j : Nat} {C : Addr} {fs : List Str} {f m' : Str} {xs : List Own} {A : Adr} {t : Own} {put : Own → List Ent} {i : Int}
theorem Loc.stt (h : Loc F.K Γ A t put) (s : Stt F Γ T σ H) : ∃ B u O1 Or, A.at_ σ H u ∧ A.at_ σ Or u ∧ Ow F.K B t O1 u ∧ Dj O1 Or ∧ Post F.B F.O F.H B (jn O1 Or) H ∧ (∀ p ∈ F.ins, σ[p.1]? = some (some p.2)) ∧
    Slots F.K B (T.map (fun p => some p.2) ++ Γ) (jn O1 Or) (T.map (fun p => some p.1) ++ σ) ∧
    ∀ B' t' O1', Same B B' → Ow F.K B' t' O1' u → Dj O1' Or → Slots F.K B' (T.map (fun p => some p.2) ++ put t') (jn O1' Or) (T.map (fun p => some p.1) ++ σ) := by
  obtain ⟨B, O, sl, P, ii⟩ := s
  obtain ⟨u, O1, Or, a, ow, dj, rfl, k⟩ := h T B O σ sl
  exact ⟨B, u, O1, Or, A.mono ((same_jnr dj).trans P.oh) a, a, ow, dj, P, ii, sl, k⟩
theorem lv_var (he : Γ[n]? = some (some t)) : Lv F (tVar n) Γ (.var n) t fun t' => Γ.set n (some t') := ⟨loc_var he, fun T σ H s Q q => by
  obtain ⟨B, u, O1, Or, a, _⟩ := (loc_var (K := F.K) he).stt s
  exact ⟨u, a, q u H a (Same.refl _) s⟩⟩
theorem lv_fld (h : Lv F te Γ A (.ins C fs xs) put) (hj : xs[j]? = some t) (c : Cls F.K C) (na : NoAttr F.K C f) (hl : ∀ vs : List V, vs.length = fs.length → (fs.zip vs).lookup f = vs[j]?) : Lv F (tFld F.K te f) Γ (A.fld f) t fun t' => put (.ins C fs (xs.set j t')) := by
  have lc := loc_fld h.loc hj hl
  refine ⟨lc, fun T σ H s Q q => h.ev T σ H s _ fun u H1 a e1 s1 => ?_⟩
  obtain ⟨B, w, O1, Or, a2, _⟩ := lc.stt s1
  have a2' := a2
  obtain ⟨p, C', dx, fs', b1, b2, b3⟩ := a2
  have eu := A.fn a b1
  subst eu
  -- the class
  obtain ⟨B2, u2, P1, Pr, c1, c1', ow, dj, P, ii, sl, k⟩ := h.loc.stt s1
  have eu := A.fn a c1
  subst eu
  unfold Ow at ow
  obtain ⟨p2, dx2, vs, Oc, ep, oa, np, nx, ne, hfl, rfl⟩ := ow
  cases ep
  have hH : H1 p = some (.ins C dx2 (fs.zip vs)) := P.oh p _ (jn_some upd_same)
  rw [b2] at hH
  injection hH with hH
  injection hH with h1 h2 h3
  subst h1 h2 h3
  exact ⟨p, _, _, _, w, rfl, b2, c, na, b3, q w H1 a2' e1 s1⟩
theorem lv_ix (h : Lv F te Γ A (.lst xs) put) (h2 : Ev F ti Γ (.dat (.int i))) (hb : inB xs i) (hx : xs[ixI xs i]? = some t) : Lv F (tOp (rIxL F.K) te ti) Γ (A.ix i) t fun t' => put (.lst (xs.set (ixI xs i) t')) := by
  have lc := loc_ix h.loc hb hx
  refine ⟨lc, fun T σ H s Q q => h.ev T σ H s _ fun u H1 a e1 s1 => h2 T σ H1 s1 _ fun y H2 s2 e2 => ?_⟩
  obtain ⟨B0, _, ry⟩ := s2.topd
  obtain ⟨B, w, O1, Or, a2, _⟩ := lc.stt s2.pop
  have a2' := a2
  obtain ⟨p, vs, b1, b2, b3⟩ := a2
  have eu := A.fn (A.mono e2 a) b1
  subst eu
  exact ⟨p, vs, i, w, rfl, rp_int ry, SqL.of b2, b3, q w H2 a2' (e1.trans e2) s2.pop⟩
theorem ev_lv (h : Lv F te Γ A (.dat d) put) : Ev F te Γ (.dat d) := fun T σ H s Q q => h.ev T σ H s _ fun u H1 a e1 s1 => q u H1 (by
  obtain ⟨B, u', O1, Or, a', _, ow, dj, P, ii, sl, k⟩ := h.loc.stt s1
  cases A.fn a a'
  obtain ⟨r, rfl⟩ := ow.rp
  have z := slots_own (ow_dat r) sl emp_dj
  rw [emp_jn] at z
  exact ⟨B, _, z, P, ii⟩) e1
theorem el_lv (h : Lv F te Γ A (.lst (ds.map Own.dat)) put) : EvL F te Γ ds := fun T σ H s Q q => h.ev T σ H s _ fun u H1 a e1 s1 => by
  obtain ⟨B, u', O1, Or, a', _, ow, dj, P, ii, sl, k⟩ := h.loc.stt s1
  cases A.fn a a'
  unfold Ow at ow
  obtain ⟨l, vs, O', rfl, oa, nl, rfl⟩ := ow
  obtain ⟨r, rfl⟩ := oa.dats
  refine q l vs H1 (P.oh l _ (jn_some upd_same)) ⟨B, _, ?_, P, ii⟩ e1
  have z := slots_own (show Ow F.K B (.rv vs ds) emp (.ref l) by unfold Ow; exact ⟨r, rfl⟩) sl emp_dj
  rw [emp_jn] at z
  exact z
end
def RdO (t : Own) (d : Dt) : Prop := ∀ (K : PySem.W.Frag) (B H O : Hp) (v : V), Ow K B t O v → Same B H → Same O H → Rp K H d v
def RdOA (ts : List Own) (ds : List Dt) : Prop := ∀ (K : PySem.W.Frag) (B H O : Hp) (vs : List V), OwA K B ts O vs → Same B H → Same O H → RpA K H ds vs
theorem rdo_dat {d : Dt} : RdO (.dat d) d := fun K B H O v a sb so => a.rp.1.mono sb
theorem rdoa_nil : RdOA [] [] := fun K B H O vs oa sb so => by
  unfold OwA at oa
  obtain ⟨rfl, _⟩ := oa
  exact rpa_nil
theorem rdoa_cons {t : Own} {d : Dt} {ts : List Own} {ds : List Dt} (h : RdO t d) (k : RdOA ts ds) : RdOA (t :: ts) (d :: ds) := fun K B H O vs oa sb so => by
  unfold OwA at oa
  obtain ⟨v, r, O1, O2, rfl, a, oa, dj, rfl⟩ := oa
  exact rpa_cons (h K B H O1 v a sb (same_jnl.trans so)) (k K B H O2 r oa sb ((same_jnr dj).trans so))
theorem rdoa_map {α : Type} {f : α → Own} {g : α → Dt} (h : ∀ a, RdO (f a) (g a)) : ∀ xs : List α, RdOA (xs.map f) (xs.map g)
  | [] => rdoa_nil
  | x :: xs => rdoa_cons (h x) (rdoa_map h xs)
theorem rdoa_dats (ds : List Dt) : RdOA (ds.map Own.dat) ds := by
  have := rdoa_map (f := Own.dat) (g := fun d => d) (fun _ => rdo_dat) ds
  rw [List.map_id'] at this
  exact this
theorem same_of_upd {O H : Hp} {p : Addr} {o : HO} (h : Same (upd O p o) H) (n : O p = none) : Same O H := fun a u e => h a u (by rw [upd_ne (fun z => by rw [z, n] at e; cases e)]; exact e)
theorem rdo_lst {ts : List Own} {ds : List Dt} (h : RdOA ts ds) : RdO (.lst ts) (.lst ds) := fun K B H O v a sb so => by
  unfold Ow at a
  obtain ⟨l, vs, O1, rfl, oa, nl, rfl⟩ := a
  unfold Rp
  exact ⟨l, vs, rfl, so _ _ upd_same, h K B H O1 vs oa sb (same_of_upd so nl)⟩
theorem rdo_dK {ks : List Key} {ts : List Own} {ds : List Dt} (h : RdOA ts ds) : RdO (.dK ks ts) (.dk ks ds) := fun K B H O v a sb so => by
  unfold Ow at a
  obtain ⟨l, vs, O1, rfl, oa, nl, hl, rfl⟩ := a
  have r := h K B H O1 vs oa sb (same_of_upd so nl)
  unfold Rp
  exact ⟨l, vs, rfl, so _ _ upd_same, by rw [hl, ← r.length, oa.length], r⟩
theorem rdo_dT {ks : List (List Key)} {ts : List Own} {ds : List Dt} (h : RdOA ts ds) : RdO (.dT ks ts) (.du ks ds) := fun K B H O v a sb so => by
  unfold Ow at a
  obtain ⟨l, vs, O1, rfl, oa, nl, hl, rfl⟩ := a
  have r := h K B H O1 vs oa sb (same_of_upd so nl)
  unfold Rp
  exact ⟨l, vs, rfl, so _ _ upd_same, by rw [hl, ← r.length, oa.length], r⟩
theorem rdo_ins {C : Addr} {fs : List Str} {ts : List Own} {ds : List Dt} (h : RdOA ts ds) : RdO (.ins C fs ts) (.ob C fs ds) := fun K B H O v a sb so => by
  unfold Ow at a
  obtain ⟨p, dx, vs, O1, rfl, oa, np, nx, ne, hl, rfl⟩ := a
  have s1 : Same (upd O1 dx (.own p)) H := same_of_upd so (by rw [upd_ne (Ne.symm ne)]; exact np)
  have r := h K B H O1 vs oa sb (same_of_upd s1 nx)
  unfold Rp
  exact ⟨p, dx, vs, rfl, so _ _ upd_same, by rw [hl, ← r.length, oa.length], r⟩
theorem rdo_tup {ts : List Own} {ds : List Dt} (h : RdOA ts ds) : RdO (.tup ts) (.tup ds) := fun K B H O v a sb so => by
  unfold Ow at a
  obtain ⟨l, vs, rfl, hs, oa⟩ := a
  unfold Rp
  exact ⟨l, vs, rfl, sqt_mono sb hs, h K B H O vs oa sb so⟩
theorem rdo_oL {α : Type} {enc : α → Dt} {xs : List α} : RdO (oL enc xs) (eL enc xs) := rdo_lst (rdoa_dats _)
theorem rdo_oK {α β : Type} {kk : α → Key} {enc : β → Dt} {kvs : List (α × β)} : RdO (oK kk enc kvs) (eK kk enc kvs) := rdo_dK (rdoa_dats _)
theorem rdo_oKT {α β : Type} {kk : α → List Key} {enc : β → Dt} {kvs : List (α × β)} : RdO (oKT kk enc kvs) (eKU kk enc kvs) := rdo_dT (rdoa_dats _)
section
variable {F : Fx} {Γ Γ' Γ1 Γe Γx : List Ent} {T : List (V × Own)} {σ : L2.St} {H H' : Hp} {v : V} {Er : L2.St → Exn → Hp → Prop} {ρ α β γ S : Type} {W : R ρ → Prop} {D : Ends} {ta tb tc te ti tk : TE} {tt : TT} {tr : TA} {d e : Dt} {ds : List Dt} {n j : Nat} {C : Addr} {fs : List Str} {f m' : Str} {xs : List Own} {A : Adr} {t : Own} {put : Own → List Ent} {i : Int}
theorem eq_lv (r : RdO t d) (h : Lv F te Γ A t put) : EvQ F te Γ d := fun T σ H s Q q => h.ev T σ H s _ fun u H1 a e1 s1 => by
  obtain ⟨B, u', O1, Or, a', _, ow, dj, P, ii, sl, k⟩ := h.loc.stt s1
  cases A.fn a a'
  exact q u H1 (r F.K B H1 O1 u ow P.bh (same_jnl.trans P.oh)) s1 e1
theorem ev_obF {fd : List Dt} (h : Ev F te Γ (.dat (.ob C fs fd))) (hj : fd[j]? = some d) (c : Cls F.K C) (na : NoAttr F.K C f) (hl : ∀ vs : List V, vs.length = fs.length → (fs.zip vs).lookup f = vs[j]?) : Ev F (tFld F.K te f) Γ (.dat d) := fun T σ H s Q q => h T σ H s _ fun v H1 s1 e1 => by
  obtain ⟨B, O1, O2, a, sl, dj, P, ii⟩ := s1.top
  obtain ⟨r, rfl⟩ := a.rp
  unfold Rp at r
  obtain ⟨p, dx, vs, rfl, hp, hfl, ra⟩ := r
  obtain ⟨u, hu, ru⟩ := ra.get hj
  refine ⟨p, C, dx, _, u, rfl, P.bh _ _ hp, c, na, by rw [hl vs (by rw [ra.length, hfl]), hu], q u H1 ⟨B, _, slots_own (ow_dat ru) sl emp_dj, P, ii⟩ e1⟩
def Imm (enc : α → Dt) : Prop := ∀ (K : PySem.W.Frag) (B0 O0 H0 B O H B' : Hp) (a : α) (v : V), Post B0 O0 H0 B O H → Same B' H → Rp K B' (enc a) v → ∃ B2, Post B0 O0 H0 B2 O H ∧ Same B B2 ∧ Rp K B2 (enc a) v
theorem imm_sc {enc : α → Dt} (sc : ∀ (K : PySem.W.Frag) (B B' : Hp) a v, Rp K B (enc a) v → Rp K B' (enc a) v) : Imm enc := fun K B0 O0 H0 B O H B' a v P _ r => ⟨B, P, Same.refl _, sc _ _ _ _ _ r⟩
theorem imm_B : Imm eB := imm_sc sc_B
theorem imm_P : Imm eP := fun K B0 O0 H0 B O H B' a v P s r => by
  unfold Rp at r
  obtain ⟨l, rfl, h⟩ := r
  obtain ⟨B2, P2, e2, hB⟩ := P.addB (s _ _ h)
  refine ⟨B2, P2, e2, ?_⟩
  unfold Rp
  exact ⟨l, rfl, hB⟩
theorem imm_O {enc : α → Dt} (h : Imm enc) : Imm (eO enc) := fun K B0 O0 H0 B O H B' a v P s r => by
  cases a with
  | none => exact ⟨B, P, Same.refl _, by unfold eO Rp at r ⊢; exact r⟩
  | some a => exact h K B0 O0 H0 B O H B' a v P s r
theorem Imm.push {enc : α → Dt} (im : Imm enc) {B' : Hp} {a : α} (s : Stt F Γ T σ H) (e : Same B' H) (r : Rp F.K B' (enc a) v) : Stt F Γ ((v, .dat (enc a)) :: T) σ H := by
  obtain ⟨B, O, sl, P, ii⟩ := s
  obtain ⟨B2, P2, e2, r2⟩ := im F.K _ _ _ _ _ _ _ a v P e r
  have z := slots_own (ow_dat r2) (sl.mono e2) emp_dj
  rw [emp_jn] at z
  exact ⟨B2, O, z, P2, ii⟩
theorem mv_methQ {X : Type} {Ce : Exn → Addr} {nn : Nat} {argT : X → List Dt} {m : X → R α} {enc : α → Dt} {d0 : List Dt} {Ex : L2.St → XK} (x : X)
    (h0 : EvQ F te Γ (.ob C fs d0)) (hlk : ∀ vs : List V, (fs.zip vs).lookup m' = none)
    (ha : EvAQ F tr Γ ds) (hx : argT x = .ob C fs d0 :: ds) (hn : ds.length + 1 = nn) (hE : ∀ σ e H', Er σ e H' → ErrAt Ce (Ex σ) e H') (wk : Wk Γ Γe) (im : Imm enc) :
    MV F Γe Er (tMethP C m' (spD F.K Ce nn argT m (oD enc)) Ex te tr) Γ (m x) (oD enc) := fun _ W k T σ H ok w s Q q =>
  h0 T σ H s _ fun u H0 r0 s0 e0 => by
    have r0' := r0
    unfold Rp at r0'
    obtain ⟨p, dx, vs0, rfl, hp, hfl, ra0⟩ := r0'
    refine ⟨p, dx, _, rfl, hp, hlk vs0, ?_⟩
    refine ha T σ H0 s0 _ fun vs H1 r s1 e1 => ?_
    refine ⟨x, H1, emp, by show ((argT x).map Own.dat).length = nn; rw [hx, List.length_map, List.length_cons, hn], by show OwA F.K H1 ((argT x).map Own.dat) emp _; rw [hx]; exact owa_dats (rpa_cons (r0.mono e1) r), Same.refl _, fun a o e => (nomatch e), ⟨dj_emp, nt_emp⟩, ?_⟩
    cases e : m x with
    | ok a =>
      rw [e] at w
      intro v B' O' H' P oa
      unfold OwA at oa
      obtain ⟨v', r', O1, O2, e2, a1, b1, d1, rfl⟩ := oa
      cases e2
      have hr := a1.rp.1
      have eH : Same H1 H' := P.b0.trans P.bh
      exact q a v H' w (im.push (s1.grow eH) P.bh hr) ((e0.trans e1).trans eH)
    | err ex =>
      rw [e] at w
      intro B' O' H' P oa
      exact hE σ ex H' (ok.err ex w σ H' ((s1.grow (P.b0.trans P.bh)).pops.weak wk))
    | bad =>
      rw [e] at w
      exact absurd w ok.bad
end
end Sm
namespace Sm
open PySem PySem.Spec PyProof.Rows L2 PySem.W
inductive Ah where
  | d (x : Dt)
  | p (A : Adr)
  /-- handed over for good -/
  | g (A : Adr)
def RH (K : PySem.W.Frag) (B : Hp) (σ : L2.St) (H : Hp) : List Ah → List V → Prop
  | [], vs => vs = []
  | .d x :: as, vs => ∃ v r, vs = v :: r ∧ Rp K B x v ∧ RH K B σ H as r
  | .p A :: as, vs => ∃ v r, vs = v :: r ∧ A.at_ σ H v ∧ RH K B σ H as r
  | .g A :: as, vs => ∃ v r, vs = v :: r ∧ A.at_ σ H v ∧ RH K B σ H as r
theorem RH.mono {K : PySem.W.Frag} {B B' : Hp} {σ : L2.St} {H H' : Hp} (e : Same B B') (eh : Same H H') : ∀ {as : List Ah} {vs : List V}, RH K B σ H as vs → RH K B' σ H' as vs
  | [], _, h => h
  | .d x :: as, _, ⟨v, r, e1, h1, h2⟩ => ⟨v, r, e1, h1.mono e, RH.mono e eh h2⟩
  | .p A :: as, _, ⟨v, r, e1, h1, h2⟩ => ⟨v, r, e1, A.mono eh h1, RH.mono e eh h2⟩
  | .g A :: as, _, ⟨v, r, e1, h1, h2⟩ => ⟨v, r, e1, A.mono eh h1, RH.mono e eh h2⟩
theorem RH.length {K : PySem.W.Frag} {B : Hp} {σ : L2.St} {H : Hp} : ∀ {as : List Ah} {vs : List V}, RH K B σ H as vs → vs.length = as.length
  | [], _, h => by rw [show _ = [] from h]; rfl
  | .d x :: as, _, ⟨v, r, e1, h1, h2⟩ => by rw [e1, List.length_cons, h2.length, List.length_cons]
  | .p A :: as, _, ⟨v, r, e1, h1, h2⟩ => by rw [e1, List.length_cons, h2.length, List.length_cons]
  | .g A :: as, _, ⟨v, r, e1, h1, h2⟩ => by rw [e1, List.length_cons, h2.length, List.length_cons]
def agH : List Ah → List Adr
  | [] => []
  | .d _ :: as => agH as
  | .p A :: as => A :: agH as
  | .g _ :: as => agH as
def avH : List Ah → List V → List V
  | .d _ :: as, _ :: vs => avH as vs
  | .p _ :: as, v :: vs => v :: avH as vs
  | .g _ :: as, _ :: vs => avH as vs
  | _, _ => []
def RAt (σ : L2.St) (H : Hp) : List Adr → List V → Prop
  | [], vs => vs = []
  | A :: As, vs => ∃ v r, vs = v :: r ∧ A.at_ σ H v ∧ RAt σ H As r
theorem RAt.mono {σ : L2.St} {H H' : Hp} (e : Same H H') : ∀ {As : List Adr} {vs : List V}, RAt σ H As vs → RAt σ H' As vs
  | [], _, h => h
  | A :: As, _, ⟨v, r, e1, h1, h2⟩ => ⟨v, r, e1, A.mono e h1, RAt.mono e h2⟩
theorem RH.rat {K : PySem.W.Frag} {B : Hp} {σ : L2.St} {H : Hp} : ∀ {as : List Ah} {vs : List V}, RH K B σ H as vs → RAt σ H (agH as) (avH as vs)
  | [], _, h => by rw [show _ = [] from h]; rfl
  | .d x :: as, _, ⟨v, r, e1, h1, h2⟩ => by rw [e1]; exact h2.rat
  | .p A :: as, _, ⟨v, r, e1, h1, h2⟩ => by rw [e1]; exact ⟨v, _, rfl, h1, h2.rat⟩
  | .g A :: as, _, ⟨v, r, e1, h1, h2⟩ => by rw [e1]; exact h2.rat
inductive TkH (K : PySem.W.Frag) : List Ent → List Ah → List Own → List Ent → Prop
  | nil {Γ : List Ent} : TkH K Γ [] [] Γ
  | d {Γ Γ' : List Ent} {as : List Ah} {ts : List Own} {x : Dt} : TkH K Γ as ts Γ' → TkH K Γ (.d x :: as) (.dat x :: ts) Γ'
  | p {Γ Γ' : List Ent} {as : List Ah} {ts : List Own} {A : Adr} {t : Own} {put : Own → List Ent} : Loc K Γ A t put → TkH K (put .any) as ts Γ' → TkH K Γ (.p A :: as) (t :: ts) Γ'
  | g {Γ Γ' : List Ent} {as : List Ah} {ts : List Own} {A : Adr} {t : Own} {put : Own → List Ent} : Loc K Γ A t put → TkH K (put .any) as ts Γ' → TkH K Γ (.g A :: as) (t :: ts) Γ'
inductive GvH (K : PySem.W.Frag) : List Ent → List Adr → List Own → List Ent → Prop
  | nil {Γ : List Ent} : GvH K Γ [] [] Γ
  | cons {Γ Γ' : List Ent} {As : List Adr} {ts : List Own} {A : Adr} {t : Own} {put : Own → List Ent} : Loc K Γ A .any put → GvH K (put t) As ts Γ' → GvH K Γ (A :: As) (t :: ts) Γ'
def AnL (K : PySem.W.Frag) (Γ : List Ent) : List Adr → Prop
  | [] => True
  | A :: As => (∃ put, Loc K Γ A .any put) ∧ AnL K Γ As
theorem ow_any {K : PySem.W.Frag} {B : Hp} {v : V} : Ow K B .any emp v := by unfold Ow; rfl
theorem take_h {K : PySem.W.Frag} {B : Hp} {σ : L2.St} {H : Hp} {T : List (V × Own)} {Γ Γ' : List Ent} {as : List Ah} {ts : List Own} (tk : TkH K Γ as ts Γ') : ∀ {vs : List V} {O : Hp}, RH K B σ H as vs → Same O H → Slots K B (T.map (fun p => some p.2) ++ Γ) O (T.map (fun p => some p.1) ++ σ) →
    ∃ Oa Or, OwA K B ts Oa vs ∧ Slots K B (T.map (fun p => some p.2) ++ Γ') Or (T.map (fun p => some p.1) ++ σ) ∧ Dj Oa Or ∧ O = jn Oa Or := by
  induction tk with
  | nil =>
    intro vs O ra so sl
    rw [show vs = [] from ra]
    exact ⟨emp, O, owa_nil, sl, emp_dj, emp_jn.symm⟩
  | d _ ih =>
    intro vs O ra so sl
    obtain ⟨v, r, rfl, r1, r2⟩ := ra
    obtain ⟨Oa, Or, oa, sl', dj, rfl⟩ := ih r2 so sl
    refine ⟨Oa, Or, ?_, sl', dj, rfl⟩
    have z := owa_cons (ow_dat r1) oa emp_dj
    rw [emp_jn] at z
    exact z
  | @p Γ Γ' as ts A t put lc _ ih =>
    intro vs O ra so sl
    obtain ⟨v, r, rfl, r1, r2⟩ := ra
    obtain ⟨u, O1, O2, au, a, dj, rfl, k⟩ := lc T B O σ sl
    cases A.fn (A.mono ((same_jnr dj).trans so) au) r1
    have z := k B .any emp (Same.refl _) ow_any emp_dj
    rw [emp_jn] at z
    obtain ⟨Oa, Or, oa, sl', dj', rfl⟩ := ih r2 ((same_jnr dj).trans so) z
    exact ⟨jn O1 Oa, Or, owa_cons a oa (Dj.rl dj), sl', Dj.jnl (Dj.rr dj) dj', jn_assoc.symm⟩
  | @g Γ Γ' as ts A t put lc _ ih =>
    intro vs O ra so sl
    obtain ⟨v, r, rfl, r1, r2⟩ := ra
    obtain ⟨u, O1, O2, au, a, dj, rfl, k⟩ := lc T B O σ sl
    cases A.fn (A.mono ((same_jnr dj).trans so) au) r1
    have z := k B .any emp (Same.refl _) ow_any emp_dj
    rw [emp_jn] at z
    obtain ⟨Oa, Or, oa, sl', dj', rfl⟩ := ih r2 ((same_jnr dj).trans so) z
    exact ⟨jn O1 Oa, Or, owa_cons a oa (Dj.rl dj), sl', Dj.jnl (Dj.rr dj) dj', jn_assoc.symm⟩
theorem rat_rest {K : PySem.W.Frag} {B : Hp} {σ : L2.St} {H Or : Hp} {T : List (V × Own)} {Γ : List Ent} (sl : Slots K B (T.map (fun p => some p.2) ++ Γ) Or (T.map (fun p => some p.1) ++ σ)) (so : Same Or H) : ∀ {As : List Adr} {vs : List V}, AnL K Γ As → RAt σ H As vs → RAt σ Or As vs
  | [], _, _, h => h
  | A :: As, _, ⟨⟨put, lc⟩, an⟩, ⟨v, r, e1, h1, h2⟩ => by
    obtain ⟨u, O1, O2, au, a, dj, eO, k⟩ := lc T B Or σ sl
    have e : Same O2 Or := by rw [eO]; exact same_jnr dj
    cases A.fn (A.mono (e.trans so) au) h1
    exact ⟨_, r, e1, A.mono e au, rat_rest sl so an h2⟩
theorem give_h {K : PySem.W.Frag} {B : Hp} {σ : L2.St} {T : List (V × Own)} {Γ Γ' : List Ent} {As : List Adr} {ts : List Own} (gv : GvH K Γ As ts Γ') : ∀ {vs : List V} {Oa Or : Hp}, OwA K B ts Oa vs → RAt σ Or As vs → Slots K B (T.map (fun p => some p.2) ++ Γ) Or (T.map (fun p => some p.1) ++ σ) → Dj Oa Or →
    Slots K B (T.map (fun p => some p.2) ++ Γ') (jn Oa Or) (T.map (fun p => some p.1) ++ σ) := by
  induction gv with
  | nil =>
    intro vs Oa Or oa rs sl dj
    unfold OwA at oa
    obtain ⟨_, rfl⟩ := oa
    rw [emp_jn]
    exact sl
  | @cons Γ Γ' As ts A t put lc _ ih =>
    intro vs Oa Or oa rs sl dj
    unfold OwA at oa
    obtain ⟨v, r, P1, P2, rfl, a, oa, d12, rfl⟩ := oa
    obtain ⟨v', r', e, f, rs⟩ := rs
    cases e
    have d1 : Dj P1 Or := Dj.l dj
    have d2 : Dj P2 Or := fun b => by
      rcases dj b with x | x
      · exact .inl (jn_none_iff.mp x).2
      · exact .inr x
    obtain ⟨u, Q1, Q2, au, aq, dq, rfl, k⟩ := lc T B Or σ sl
    unfold Ow at aq
    subst aq
    rw [emp_jn] at f d1 d2 ⊢
    cases A.fn au f
    have z := k B t P1 (Same.refl _) a d1
    have z2 := ih oa (rs.mono (by rw [emp_jn]; exact same_jnr d1)) z (Dj.jnr d12.symm d2)
    rw [jn_assoc, jn_swap d12]
    exact z2
section
variable {F : Fx} {Γ Γ' Γ1 Γe Γx : List Ent} {T : List (V × Own)} {σ : L2.St} {H H' : Hp} {v : V} {Er : L2.St → Exn → Hp → Prop} {ρ α β γ S : Type} {W : R ρ → Prop} {D : Ends} {ta tb tc te ti tk : TE} {tt : TT} {tr : TA} {d e : Dt} {ds : List Dt} {n j : Nat} {C : Addr} {fs : List Str} {f m' : Str} {xs : List Own} {A : Adr} {t : Own} {put : Own → List Ent} {i : Int}
def SttH (F : Fx) (Γ : List Ent) (T : List (V × Own)) (vs : List V) (as : List Ah) (σ : L2.St) (H : Hp) : Prop :=
  ∃ B O, RH F.K B σ H as vs ∧ Slots F.K B (T.map (fun p => some p.2) ++ Γ) O (T.map (fun p => some p.1) ++ σ) ∧ Post F.B F.O F.H B O H ∧ ∀ p ∈ F.ins, σ[p.1]? = some (some p.2)
def MH (F : Fx) (Γe : List Ent) (Er : L2.St → Exn → Hp → Prop) (ta : TA) (Γ : List Ent) (m : R α) (as : α → List Ah) : Prop :=
  ∀ (ρ : Type) (W : R ρ → Prop) (k : α → R ρ) T σ H, WOk F Γe Er W → W (m.bind k) → Stt F Γ T σ H → ∀ Q : List V → Hp → Prop, (∀ a vs H', W (k a) → SttH F Γ T vs (as a) σ H' → Same H H' → Q vs H') → ta σ H Q
theorem mh_nil : MH F Γe Er tNil Γ (.ok ()) fun _ => [] := fun _ W k T σ H ok w s Q q => by
  obtain ⟨B, O, sl, p, ii⟩ := s
  exact q () [] H w ⟨B, O, rfl, sl, p, ii⟩ (Same.refl _)
theorem SttH.dcons {vs : List V} {as : List Ah} (h : SttH F Γ ((v, .dat d) :: T) vs as σ H) : SttH F Γ T (v :: vs) (.d d :: as) σ H := by
  obtain ⟨B, O, ra, sl, p, ii⟩ := h
  rw [List.map_cons, List.map_cons] at sl
  unfold Slots at sl
  obtain ⟨_, _, O1, O2, e, a, b, c, rfl⟩ := sl
  cases e
  obtain ⟨r, rfl⟩ := a.rp
  rw [emp_jn] at p
  exact ⟨B, O2, ⟨v, vs, rfl, r, ra⟩, b, p, ii⟩
theorem mh_P {as : α → List Ah} {m : R α} (h1 : Ev F te Γ (.dat d)) (h2 : MH F Γe Er tr Γ m as) : MH F Γe Er (tCons te tr) Γ m fun a => .d d :: as a := fun _ W k T σ H ok w s Q q =>
  h1 T σ H s _ fun v H1 s1 e1 => h2 _ W k _ σ H1 ok w s1 _ fun a vs H2 w2 s2 e2 => q a (v :: vs) H2 w2 s2.dcons (e1.trans e2)
theorem mh_A {as : α → List Ah} {m : R α} (h : Lv F te Γ A t put) (h2 : MH F Γe Er tr Γ m as) : MH F Γe Er (tCons te tr) Γ m fun a => .p A :: as a := fun _ W k T σ H ok w s Q q =>
  h.ev T σ H s _ fun u H1 au e1 s1 => h2 _ W k T σ H1 ok w s1 _ fun a vs H2 w2 s2 e2 => q a (u :: vs) H2 w2 (by
    obtain ⟨B, O, ra, sl, p, ii⟩ := s2
    exact ⟨B, O, ⟨u, vs, rfl, A.mono e2 au, ra⟩, sl, p, ii⟩) (e1.trans e2)
theorem mh_guard {as : α → List Ah} {m : R α} {p : Prop} [Decidable p] (h : p → MH F Γe Er tr Γ m as) : MH F Γe Er tr Γ (R.guard p m) as := fun _ W k T σ H ok w s Q q => by
  unfold R.guard at w
  by_cases c : p
  · rw [if_pos c] at w; exact h c _ W k T σ H ok w s Q q
  · rw [if_neg c] at w; exact absurd w ok.bad
def MX2 (F : Fx) (Γe : List Ent) (Er : L2.St → Exn → Hp → Prop) (te : TE) (Γ : List Ent) (Γ' : α → List Ent) (m : R α) (t : α → Own) : Prop :=
  ∀ (ρ : Type) (W : R ρ → Prop) (k : α → R ρ) T σ H, WOk F Γe Er W → W (m.bind k) → Stt F Γ T σ H → ∀ Q : VK, (∀ a v H', W (k a) → Stt F (Γ' a) ((v, t a) :: T) σ H' → Q v H') → te σ H Q
theorem mx_v {m : R α} {t : α → Own} (h : MV F Γe Er te Γ m t) : MX2 F Γe Er te Γ (fun _ => Γ) m t := fun _ W k T σ H ok w s Q q => h _ W k T σ H ok w s Q fun a v H' w' s' _ => q a v H' w' s'
theorem go_h {X : Type} {Ce : Exn → Addr} {nn : Nat} {insN : List Nat} {argT : X → List Own} {m : X → R α} {res : α → Own} {outs : α → List Own} {keep : X → List Own} {k : α → R ρ} {vs : List V} {as : List Ah} {ts : List Own} {Γk : List Ent} {Γ' : α → List Ent} {Q : VK} {Ex : XK} (x : X)
    (A : SttH F Γ T vs as σ H) (tk : TkH F.K Γ as ts Γ1) (hx : argT x = ts) (hn : ts.length = nn) (hsel : insN.filterMap (fun i => vs[i]?) = avH as vs) (an : AnL F.K Γ1 (agH as)) (gv : ∀ a, GvH F.K Γ1 (agH as) (outs a) (Γ' a))
    (ok : WOk F Γe Er W) (er : (GvH F.K Γ1 (agH as) (keep x) Γk ∧ Wk Γk Γe) ∨ Wk Γ1 Γe) (hE : ∀ e H', Er σ e H' → ErrAt Ce Ex e H') (hw : W ((m x).bind k))
    (q : ∀ a v H', W (k a) → Stt F (Γ' a) ((v, res a) :: T) σ H' → Q v H') : spF F.K Ce nn insN argT m res outs keep vs H Q Ex := by
  obtain ⟨B, O, ra, sl, p, ii⟩ := A
  obtain ⟨Oa, Or, oa, sl', dj, rfl⟩ := take_h tk ra p.oh sl
  subst hx
  have rat := rat_rest sl' ((same_jnr dj).trans p.oh) an ra.rat
  refine ⟨x, B, Oa, hn, oa, p.bh, same_jnl.trans p.oh, ⟨Dj.rl p.dj, p.nt.l⟩, ?_⟩
  cases e : m x with
  | ok a =>
    rw [e] at hw
    intro v B' O' H' P oa'
    unfold OwA at oa'
    obtain ⟨v', r', O1, O2, e3, a1, b1, d1, rfl⟩ := oa'
    cases e3
    obtain ⟨dj', P'⟩ := p.call dj P
    rw [hsel] at b1
    have d2 : Dj O2 Or := fun b => by
      rcases dj' b with x | x
      · exact .inl (jn_none_iff.mp x).2
      · exact .inr x
    have z := give_h (gv a) b1 rat (sl'.mono P.b0) d2
    have z2 := slots_own a1 z (Dj.jnr d1 (Dj.l dj'))
    rw [← jn_assoc] at z2
    exact q a v H' hw ⟨B', _, z2, P', ii⟩
  | err ex =>
    rw [e] at hw
    intro B' O' H' P oa'
    obtain ⟨dj', P'⟩ := p.call dj P
    rcases er with ⟨gk, wk⟩ | wk
    · rw [hsel] at oa'
      have z := give_h gk oa' rat (sl'.mono P.b0) dj'
      exact hE ex H' (ok.err ex hw σ H' ((Stt.pops (T := T) ⟨B', _, z, P', ii⟩).weak wk))
    · exact hE ex H' (ok.err ex hw σ H' ((Stt.pops (T := T) ⟨B', Or, sl'.mono P.b0, P'.dropL dj', ii⟩).weak wk))
  | bad =>
    rw [e] at hw
    exact absurd hw ok.bad
theorem mx_callL {X : Type} {Ce : Exn → Addr} {nn : Nat} {insN : List Nat} {argT : X → List Own} {m : X → R α} {res : α → Own} {outs : α → List Own} {keep : X → List Own} {as : γ → List Ah} {ts : γ → List Own} {Γ1 Γk : γ → List Ent} {Γ' : α → List Ent} {Ex : L2.St → XK} {mx : R γ} (x : γ → X)
    (ha : MH F Γe Er tr Γ mx as) (tk : ∀ b, TkH F.K Γ (as b) (ts b) (Γ1 b)) (hx : ∀ b, argT (x b) = ts b) (hn : ∀ b, (ts b).length = nn) (hsel : ∀ b (vs : List V), vs.length = (as b).length → insN.filterMap (fun i => vs[i]?) = avH (as b) vs)
    (an : ∀ b, AnL F.K (Γ1 b) (agH (as b))) (gv : ∀ b a, GvH F.K (Γ1 b) (agH (as b)) (outs a) (Γ' a)) (er : ∀ b, (GvH F.K (Γ1 b) (agH (as b)) (keep (x b)) (Γk b) ∧ Wk (Γk b) Γe) ∨ Wk (Γ1 b) Γe) (hE : ∀ σ e H', Er σ e H' → ErrAt Ce (Ex σ) e H') :
    MX2 F Γe Er (tCallS (spF F.K Ce nn insN argT m res outs keep) Ex tr) Γ Γ' (mx.bind fun b => m (x b)) res := fun _ W k T σ H ok w s Q q => by
  rw [R.bind_assoc] at w
  refine ha _ W _ T σ H ok w s _ fun b vs H1 w1 A e1 => ?_
  exact go_h (x b) A (tk b) (hx b) (hn b) (hsel b vs (by obtain ⟨B, O, ra, _⟩ := A; exact ra.length)) (an b) (gv b) ok (er b) (hE σ) w1 q
theorem mx_methL {X : Type} {Ce : Exn → Addr} {nn : Nat} {insN : List Nat} {argT : X → List Own} {m : X → R α} {res : α → Own} {outs : α → List Own} {keep : X → List Own} {as : γ → List Ah} {ts : γ → List Own} {Γ1 Γk : γ → List Ent} {Γ' : α → List Ent} {Ex : L2.St → XK} {mx : R γ} (x : γ → X)
    (h0 : Lv F te Γ A (.ins C fs xs) put) (hlk : ∀ vs : List V, (fs.zip vs).lookup m' = none)
    (ha : MH F Γe Er tr Γ mx as) (tk : ∀ b, TkH F.K Γ (.p A :: as b) (ts b) (Γ1 b)) (hx : ∀ b, argT (x b) = ts b) (hn : ∀ b, (ts b).length = nn) (hsel : ∀ b (vs : List V), vs.length = (as b).length + 1 → insN.filterMap (fun i => vs[i]?) = avH (.p A :: as b) vs)
    (an : ∀ b, AnL F.K (Γ1 b) (A :: agH (as b))) (gv : ∀ b a, GvH F.K (Γ1 b) (A :: agH (as b)) (outs a) (Γ' a)) (er : ∀ b, (GvH F.K (Γ1 b) (A :: agH (as b)) (keep (x b)) (Γk b) ∧ Wk (Γk b) Γe) ∨ Wk (Γ1 b) Γe) (hE : ∀ σ e H', Er σ e H' → ErrAt Ce (Ex σ) e H') :
    MX2 F Γe Er (tMethP C m' (spF F.K Ce nn insN argT m res outs keep) Ex te tr) Γ Γ' (mx.bind fun b => m (x b)) res := fun _ W k T σ H ok w s Q q => by
  rw [R.bind_assoc] at w
  refine h0.ev T σ H s _ fun u H0 au e0 s0 => ?_
  obtain ⟨B2, u2, P1, Pr, c1, c1', ow, dj, P, ii, sl, kk⟩ := h0.loc.stt s0
  cases A.fn au c1
  unfold Ow at ow
  obtain ⟨p, dx, vs0, Oc, rfl, oa, np, nx, ne, hfl, rfl⟩ := ow
  refine ⟨p, dx, _, rfl, P.oh p _ (jn_some upd_same), hlk vs0, ?_⟩
  refine ha _ W _ T σ H0 ok w s0 _ fun b vs H1 w1 A1 e1 => ?_
  have A' : SttH F Γ T (.ref p :: vs) (.p A :: as b) σ H1 := by
    obtain ⟨B, O, ra, sl, p', ii⟩ := A1
    exact ⟨B, O, ⟨_, vs, rfl, A.mono e1 au, ra⟩, sl, p', ii⟩
  exact go_h (x b) A' (tk b) (hx b) (hn b) (hsel b (.ref p :: vs) (by obtain ⟨B, O, ra, _⟩ := A1; rw [List.length_cons, ra.length])) (an b) (gv b) ok (er b) (hE σ) w1 q
theorem mx_makeL {X : Type} {Ce : Exn → Addr} {nn : Nat} {insN : List Nat} {argT : X → List Own} {m : X → R α} {ob : α → Own} {outs : α → List Own} {keep : X → List Own} {as : γ → List Ah} {ts : γ → List Own} {Γ1 : γ → List Ent} {Γ' : α → List Ent} {Ex : L2.St → XK} {mx : R γ} (x : γ → X)
    (ha : MH F Γe Er tr Γ mx as) (tk : ∀ b, TkH F.K Γ (as b) (ts b) (Γ1 b)) (hx : ∀ b, argT (x b) = .ins C [] [] :: ts b) (hn : ∀ b, (ts b).length + 1 = nn) (hsel : ∀ b u (vs : List V), vs.length = (as b).length → insN.filterMap (fun i => (u :: vs)[i]?) = u :: avH (as b) vs)
    (an : ∀ b, AnL F.K (Γ1 b) (agH (as b))) (gv : ∀ b a, GvH F.K (Γ1 b) (agH (as b)) (outs a) (Γ' a)) (wk : ∀ b, Wk (Γ1 b) Γe) (hE : ∀ σ e H', Er σ e H' → ErrAt Ce (Ex σ) e H') :
    MX2 F Γe Er (tMakeP C (spF F.K Ce nn insN argT m (fun _ => .dat .non) (fun a => ob a :: outs a) keep) Ex tr) Γ Γ' (mx.bind fun b => m (x b)) ob := fun _ W k T σ H ok w s Q q => by
  rw [R.bind_assoc] at w
  refine ha _ W _ T σ H ok w s _ fun b vs H1 w1 A e2 => ?_
  intro y dx hy hd ne
  obtain ⟨B, O, ra, sl, p, ii⟩ := A
  obtain ⟨Oa, Or, oa, sl', dj, rfl⟩ := take_h (tk b) ra p.oh sl
  have rat := rat_rest sl' ((same_jnr dj).trans p.oh) (an b) ra.rat
  have p1 := p.newO hd (o := .own y) (by intro xs z; cases z)
  have hy1 : upd H1 dx (.own y) y = none := by rw [upd_ne (Ne.symm ne)]; exact hy
  have p2 := p1.newO hy1 (o := .ins C dx []) (by intro xs z; cases z)
  have nJy : jn Oa Or y = none := none_of_same p.oh hy
  have nJd : jn Oa Or dx = none := none_of_same p.oh hd
  have eO : upd (upd (jn Oa Or) dx (HO.own y)) y (.ins C dx []) = jn (jn (upd (upd emp dx (HO.own y)) y (.ins C dx [])) Oa) Or := by
    rw [jn_assoc, ← upd_jn, ← upd_jn, emp_jn]
  rw [eO] at p2
  have nOa := jn_none_iff.mp nJy
  have nOd := jn_none_iff.mp nJd
  have dn : Dj (upd (upd emp dx (HO.own y)) y (HO.ins C dx [])) Oa := Dj.upd (Dj.upd emp_dj nOd.1) nOa.1
  have dn2 : Dj (upd (upd emp dx (HO.own y)) y (HO.ins C dx [])) Or := Dj.upd (Dj.upd emp_dj nOd.2) nOa.2
  have dj2 : Dj (jn (upd (upd emp dx (HO.own y)) y (HO.ins C dx [])) Oa) Or := Dj.jnl dn2 dj
  have ob0 : Ow F.K B (.ins C [] []) (upd (upd emp dx (HO.own y)) y (HO.ins C dx [])) (.ref y) := by
    unfold Ow
    exact ⟨y, dx, [], emp, rfl, owa_nil, rfl, rfl, ne, rfl, rfl⟩
  refine ⟨x b, B, _, by rw [hx b, List.length_cons]; exact hn b, by rw [hx b]; exact owa_cons ob0 oa dn, p2.bh, same_jnl.trans p2.oh, ⟨Dj.rl p2.dj, p2.nt.l⟩, ?_⟩
  cases e : m (x b) with
  | ok a =>
    rw [e] at w1
    intro v B' O' H' P oa'
    rw [hsel b (.ref y) vs ra.length] at oa'
    unfold OwA at oa'
    obtain ⟨v', r', O1, O2, e3, a1, b1, d1, rfl⟩ := oa'
    cases e3
    obtain ⟨rn, rfl⟩ := a1.rp
    have hv := rp_non rn
    subst hv
    unfold OwA at b1
    obtain ⟨v2, r2, P1, P2, e4, a2, b2, d2, rfl⟩ := b1
    cases e4
    obtain ⟨dj', P'⟩ := p2.call dj2 P
    rw [emp_jn] at dj' P'
    have dP2 : Dj P2 Or := fun b => by
      rcases dj' b with x | x
      · exact .inl (jn_none_iff.mp x).2
      · exact .inr x
    have z := give_h (gv b a) b2 rat (sl'.mono P.b0) dP2
    have z2 := slots_own a2 z (Dj.jnr d2 (Dj.l dj'))
    rw [← jn_assoc] at z2
    exact ⟨rfl, q a (.ref y) H' w1 ⟨B', _, z2, P', ii⟩⟩
  | err ex =>
    rw [e] at w1
    intro B' O' H' P oa'
    obtain ⟨dj', P'⟩ := p2.call dj2 P
    exact hE σ ex H' (ok.err ex w1 σ H' ((Stt.pops (T := T) ⟨B', Or, sl'.mono P.b0, P'.dropL dj', ii⟩).weak (wk b)))
  | bad =>
    rw [e] at w1
    exact absurd w1 ok.bad
theorem s_asgX3 {jn_ : Nat} {Γ' : α → List Ent} {m : R α} {t : α → Own} {k : α → R ρ} (hst : Stt F Γ T σ H) (hw : W (m.bind k)) (ok : WOk F Γe Er W) (h : MX2 F Γe Er te Γ Γ' m t) (hj : ∀ a, jn_ < (Γ' a).length) (ni : NI F jn_)
    (q : ∀ a σ' H', W (k a) → Stt F ((Γ' a).set jn_ (some (t a))) T σ' H' → D.nx σ' H') : tAsg te (gName jn_) D σ H :=
  h _ W k T σ H ok hw hst _ fun a v H1 w s1 => q a _ H1 w (s1.assign (hj a) ni)
theorem s_dropX3 {Γ' : α → List Ent} {m : R α} {t : α → Own} {k : α → R ρ} (hst : Stt F Γ T σ H) (hw : W (m.bind k)) (ok : WOk F Γe Er W) (h : MX2 F Γe Er te Γ Γ' m t)
    (q : ∀ a σ' H', W (k a) → Stt F (Γ' a) T σ' H' → D.nx σ' H') : tDrop te D σ H :=
  h _ W k T σ H ok hw hst _ fun a v H1 w s1 => q a σ H1 w s1.pop
theorem s_retX3 {Γ' : α → List Ent} {m : R α} {t : α → Own} {k : α → R ρ} (hst : Stt F Γ T σ H) (hw : W (m.bind k)) (ok : WOk F Γe Er W) (h : MX2 F Γe Er te Γ Γ' m t)
    (q : ∀ a v H', W (k a) → Stt F (Γ' a) ((v, t a) :: T) σ H' → D.rt v H') : tRet te D σ H :=
  h _ W k T σ H ok hw hst _ fun a v H1 w s1 => q a v H1 w s1
def MTX (F : Fx) (Γe : List Ent) (Er : L2.St → Exn → Hp → Prop) (tt : TT) (Γ : List Ent) (Γ' : α → List Ent) (m : R α) (b : α → Bool) : Prop :=
  ∀ (ρ : Type) (W : R ρ → Prop) (k : α → R ρ) T σ H, WOk F Γe Er W → W (m.bind k) → Stt F Γ T σ H → ∀ Q : Bool → Hp → Prop, (∀ a H', W (k a) → Stt F (Γ' a) T σ H' → Q (b a) H') → tt σ H Q
theorem mtx_B {Γ' : α → List Ent} {m : R α} {b : α → Bool} (h : MX2 F Γe Er te Γ Γ' m fun a => .dat (.bl (b a))) : MTX F Γe Er (tB te) Γ Γ' m b := fun _ W k T σ H ok w s Q q => h _ W k T σ H ok w s _ fun a v H1 w1 s1 => by
  obtain ⟨B, _, r⟩ := s1.topd
  exact ⟨b a, rp_bl r, q a H1 w1 s1.pop⟩
theorem s_ifX3 {Γ' : α → List Ent} {m : R α} {b : α → Bool} {t1 t2 : TS} {KA KB : α → R ρ} (hst : Stt F Γ T σ H) (hw : W (m.bind fun a => if b a = true then KA a else KB a)) (ok : WOk F Γe Er W) (h : MTX F Γe Er tt Γ Γ' m b)
    (q1 : ∀ a H', W (KA a) → Stt F (Γ' a) T σ H' → t1 D σ H') (q2 : ∀ a H', W (KB a) → Stt F (Γ' a) T σ H' → t2 D σ H') : tIfS tt t1 t2 D σ H :=
  h _ W _ T σ H ok hw hst _ fun a H1 w s1 => by
    cases e : b a with
    | true => rw [e] at w; exact q1 a H1 w s1
    | false => rw [e] at w; exact q2 a H1 w s1
theorem dj_jn_r {A B C : Hp} (d : Dj (jn A B) C) : Dj B C := fun b => by
  rcases d b with x | x
  · exact .inl (jn_none_iff.mp x).2
  · exact .inr x
theorem s_fldSet {Γ' : α → List Ent} {xs : α → List Own} {put : α → Own → List Ent} {t : α → Own} {m : R α} {k : α → R ρ} {A : Adr} (hst : Stt F Γ T σ H) (hw : W (m.bind k)) (ok : WOk F Γe Er W) (h : MX2 F Γe Er te Γ Γ' m t) (hL : ∀ a, Lv F ta (Γ' a) A (.ins C fs (xs a)) (put a))
    (c : Cls F.K C) (na : NoAttr F.K C f) (hlen : fs.length < 900) (hj : ∀ a, j < (xs a).length) (hp : ∀ (vs : List V) (y : V), vs.length = fs.length → putF f y (fs.zip vs) = fs.zip (vs.set j y))
    (q : ∀ a σ' H', W (k a) → Stt F (put a (.ins C fs ((xs a).set j (t a)))) T σ' H' → D.nx σ' H') : sFld F.K ta te f D σ H := by
  refine h _ W _ T σ H ok hw hst _ fun a y H1 w s1 => ?_
  refine (hL a).ev _ σ H1 s1 _ fun u H2 au e2 s2 => ?_
  obtain ⟨B, O, sl0, P, ii⟩ := s2
  rw [List.map_cons, List.map_cons] at sl0
  unfold Slots at sl0
  obtain ⟨_, _, Ot, O2, ee, at_, sl, dt, rfl⟩ := sl0
  cases ee
  have at_ : Ow F.K B (t a) Ot y := at_
  have sl : Slots F.K B (T.map (fun p => some p.2) ++ Γ' a) O2 (T.map (fun p => some p.1) ++ σ) := sl
  obtain ⟨u', O1, Or, au', ow, dj, rfl, kk⟩ := (hL a).loc T B O2 σ sl
  cases A.fn (A.mono (((same_jnr dj).trans (same_jnr dt)).trans P.oh) au') au
  unfold Ow at ow
  obtain ⟨p, dx, vs, Oc, rfl, oa, np, nx, ne, hfl, rfl⟩ := ow
  obtain ⟨vj, P1, P2, ev, aj, dp, rfl, ks⟩ := oa.at (List.getElem?_eq_getElem (hj a))
  have hvl : vs.length = fs.length := by rw [oa.length, hfl]
  have p1 := (jn_none_iff.mp np).1
  have p2 := (jn_none_iff.mp np).2
  have x1 := (jn_none_iff.mp nx).1
  have x2 := (jn_none_iff.mp nx).2
  have dt1 : Dj Ot (upd (upd (jn P1 P2) dx (HO.own p)) p (.ins C dx (fs.zip vs))) := Dj.rl dt
  have dtr : Dj Ot Or := Dj.rr dt
  obtain ⟨tp, dt3⟩ := dj_upd dt1 (by rw [upd_ne (Ne.symm ne)]; exact np)
  obtain ⟨tx, dt4⟩ := dj_upd dt3 nx
  have t1 : Dj Ot P1 := Dj.rl dt4
  have t2 : Dj Ot P2 := Dj.rr dt4
  have orp : Or p = none := by
    rcases dj p with z | z
    · rw [upd_same] at z; cases z
    · exact z
  have orx : Or dx = none := by
    rcases dj dx with z | z
    · rw [upd_ne ne, upd_same] at z; cases z
    · exact z
  have dcr : Dj (jn P1 P2) Or := fun b => by
    by_cases z1 : b = p
    · subst z1; exact .inl np
    · by_cases z2 : b = dx
      · subst z2; exact .inl nx
      · rcases dj b with z | z
        · rw [upd_ne z1, upd_ne z2] at z; exact .inl z
        · exact .inr z
  have d1r : Dj P1 Or := Dj.l dcr
  have d2r : Dj P2 Or := dj_jn_r dcr
  have hold : jn Ot (jn (upd (upd (jn P1 P2) dx (HO.own p)) p (.ins C dx (fs.zip vs))) Or) p = some (.ins C dx (fs.zip vs)) := by
    rw [jn_none tp]
    exact jn_some upd_same
  refine ⟨p, C, dx, _, rfl, P.oh p _ hold, c, na, by rw [List.length_zip]; omega, ?_⟩
  have Pm := P.mut (a := p) (o := .ins C dx (fs.zip (vs.set j y))) hold
  have eO : upd (jn Ot (jn (upd (upd (jn P1 P2) dx (HO.own p)) p (.ins C dx (fs.zip vs))) Or)) p (.ins C dx (fs.zip (vs.set j y))) = jn P1 (jn (upd (upd (jn Ot P2) dx (HO.own p)) p (.ins C dx (fs.zip (vs.set j y)))) Or) := by
    rw [← jn_upd tp, upd_jn, upd_upd, ← jn_upd x1, ← jn_upd p1, jn_assoc, jn_swap t1, ← jn_assoc (A := Ot), jn_upd tp, jn_upd tx]
  rw [eO] at Pm
  rw [hp vs y hvl]
  have dnew : Dj (upd (upd (jn Ot P2) dx (HO.own p)) p (.ins C dx (fs.zip (vs.set j y)))) Or := Dj.upd (Dj.upd (Dj.jnl dtr d2r) orx) orp
  have d1n : Dj P1 (jn (upd (upd (jn Ot P2) dx (HO.own p)) p (.ins C dx (fs.zip (vs.set j y)))) Or) := Dj.jnr (Dj.symm (Dj.upd (Dj.upd (Dj.jnl t1 dp.symm) x1) p1)) d1r
  have b1 : Ow F.K B (.ins C fs ((xs a).set j (t a))) (upd (upd (jn Ot P2) dx (HO.own p)) p (.ins C dx (fs.zip (vs.set j y)))) (.ref p) := by
    unfold Ow
    exact ⟨p, dx, vs.set j y, jn Ot P2, rfl, ks B (t a) Ot y (Same.refl _) at_ t2, jn_none_iff.mpr ⟨tp, p2⟩, jn_none_iff.mpr ⟨tx, x2⟩, ne, by rw [List.length_set]; exact hfl, rfl⟩
  exact q a σ _ w ⟨B, _, kk B _ _ (Same.refl _) b1 dnew, Pm.dropL d1n, ii⟩
theorem s_fldNew3 {Γ' : α → List Ent} {xs : α → List Own} {put : α → Own → List Ent} {t : α → Own} {m : R α} {k : α → R ρ} {A : Adr} (hst : Stt F Γ T σ H) (hw : W (m.bind k)) (ok : WOk F Γe Er W) (h : MX2 F Γe Er te Γ Γ' m t) (hL : ∀ a, Lv F ta (Γ' a) A (.ins C fs (xs a)) (put a))
    (c : Cls F.K C) (na : NoAttr F.K C f) (hlen : fs.length < 900) (hp : ∀ (vs : List V) (y : V), vs.length = fs.length → putF f y (fs.zip vs) = (fs ++ [f]).zip (vs ++ [y]))
    (q : ∀ a σ' H', W (k a) → Stt F (put a (.ins C (fs ++ [f]) (xs a ++ [t a]))) T σ' H' → D.nx σ' H') : sFld F.K ta te f D σ H := by
  refine h _ W _ T σ H ok hw hst _ fun a y H1 w s1 => ?_
  refine (hL a).ev _ σ H1 s1 _ fun u H2 au e2 s2 => ?_
  obtain ⟨B, O, sl0, P, ii⟩ := s2
  rw [List.map_cons, List.map_cons] at sl0
  unfold Slots at sl0
  obtain ⟨_, _, Ot, O2, ee, at_, sl, dt, rfl⟩ := sl0
  cases ee
  have at_ : Ow F.K B (t a) Ot y := at_
  have sl : Slots F.K B (T.map (fun p => some p.2) ++ Γ' a) O2 (T.map (fun p => some p.1) ++ σ) := sl
  obtain ⟨u', O1, Or, au', ow, dj, rfl, kk⟩ := (hL a).loc T B O2 σ sl
  cases A.fn (A.mono (((same_jnr dj).trans (same_jnr dt)).trans P.oh) au') au
  unfold Ow at ow
  obtain ⟨p, dx, vs, Oc, rfl, oa, np, nx, ne, hfl, rfl⟩ := ow
  have hvl : vs.length = fs.length := by rw [oa.length, hfl]
  have dt1 : Dj Ot (upd (upd Oc dx (HO.own p)) p (.ins C dx (fs.zip vs))) := Dj.rl dt
  have dtr : Dj Ot Or := Dj.rr dt
  obtain ⟨tp, dt3⟩ := dj_upd dt1 (by rw [upd_ne (Ne.symm ne)]; exact np)
  obtain ⟨tx, dt4⟩ := dj_upd dt3 nx
  have orp : Or p = none := by
    rcases dj p with z | z
    · rw [upd_same] at z; cases z
    · exact z
  have orx : Or dx = none := by
    rcases dj dx with z | z
    · rw [upd_ne ne, upd_same] at z; cases z
    · exact z
  have dcr : Dj Oc Or := fun b => by
    by_cases z1 : b = p
    · subst z1; exact .inl np
    · by_cases z2 : b = dx
      · subst z2; exact .inl nx
      · rcases dj b with z | z
        · rw [upd_ne z1, upd_ne z2] at z; exact .inl z
        · exact .inr z
  have hold : jn Ot (jn (upd (upd Oc dx (HO.own p)) p (.ins C dx (fs.zip vs))) Or) p = some (.ins C dx (fs.zip vs)) := by
    rw [jn_none tp]
    exact jn_some upd_same
  refine ⟨p, C, dx, _, rfl, P.oh p _ hold, c, na, by rw [List.length_zip]; omega, ?_⟩
  have Pm := P.mut (a := p) (o := .ins C dx ((fs ++ [f]).zip (vs ++ [y]))) hold
  have eO : upd (jn Ot (jn (upd (upd Oc dx (HO.own p)) p (.ins C dx (fs.zip vs))) Or)) p (.ins C dx ((fs ++ [f]).zip (vs ++ [y]))) = jn (upd (upd (jn Oc Ot) dx (HO.own p)) p (.ins C dx ((fs ++ [f]).zip (vs ++ [y])))) Or := by
    rw [← jn_assoc, upd_jn, jn_upd tp, jn_upd tx, upd_upd, jn_comm dt4]
  rw [eO] at Pm
  rw [hp vs y hvl]
  have b1 : Ow F.K B (.ins C (fs ++ [f]) (xs a ++ [t a])) (upd (upd (jn Oc Ot) dx (HO.own p)) p (.ins C dx ((fs ++ [f]).zip (vs ++ [y])))) (.ref p) := by
    unfold Ow
    exact ⟨p, dx, vs ++ [y], jn Oc Ot, rfl, owa_snoc at_ oa dt4.symm, jn_none_iff.mpr ⟨np, tp⟩, jn_none_iff.mpr ⟨nx, tx⟩, ne, by rw [List.length_append, List.length_append, hfl]; rfl, rfl⟩
  exact q a σ _ w ⟨B, _, kk B _ _ (Same.refl _) b1 (Dj.upd (Dj.upd (Dj.jnl dcr dtr) orx) orp), Pm, ii⟩
end
end Sm
namespace Sm
open PySem PySem.Spec PyProof.Rows L2 PySem.W TL
def fIx : List Str → Str → Option Nat
  | [], _ => none
  | g :: gs, f => if g = f then some 0 else (fIx gs f).map (· + 1)
theorem lk_ix {f : Str} : ∀ {fs : List Str} {j : Nat}, fIx fs f = some j → ∀ vs : List V, vs.length = fs.length → (fs.zip vs).lookup f = vs[j]?
  | [], _, e, _, _ => by cases e
  | g :: gs, j, e, [], h => by simp at h
  | g :: gs, j, e, v :: vs, h => by
    unfold fIx at e
    rw [List.zip_cons_cons, List.lookup_cons]
    by_cases c : g = f
    · rw [if_pos c] at e
      cases e
      subst c
      simp
    · rw [if_neg c] at e
      obtain ⟨i, e1, rfl⟩ := Option.map_eq_some_iff.mp e
      have : (f == g) = false := by simp; exact fun z => c z.symm
      rw [this, lk_ix e1 vs (by simpa using h)]
      rfl
theorem lk_none {f : Str} : ∀ {fs : List Str}, fIx fs f = none → ∀ vs : List V, (fs.zip vs).lookup f = none
  | [], _, _ => rfl
  | g :: gs, e, [] => rfl
  | g :: gs, e, v :: vs => by
    unfold fIx at e
    rw [List.zip_cons_cons, List.lookup_cons]
    by_cases c : g = f
    · rw [if_pos c] at e; cases e
    · rw [if_neg c] at e
      have : (f == g) = false := by simp; exact fun z => c z.symm
      rw [this]
      exact lk_none (Option.map_eq_none_iff.mp e) vs
theorem put_ix {f : Str} : ∀ {fs : List Str} {j : Nat}, fIx fs f = some j → ∀ (vs : List V) (y : V), vs.length = fs.length → putF f y (fs.zip vs) = fs.zip (vs.set j y)
  | [], _, e, _, _, _ => by cases e
  | g :: gs, j, e, [], y, h => by simp at h
  | g :: gs, j, e, v :: vs, y, h => by
    unfold fIx at e
    rw [List.zip_cons_cons]
    unfold putF
    by_cases c : g = f
    · rw [if_pos c] at e ⊢
      cases e
      rfl
    · rw [if_neg c] at e ⊢
      obtain ⟨i, e1, rfl⟩ := Option.map_eq_some_iff.mp e
      rw [put_ix e1 vs y (by simpa using h)]
      rfl
theorem put_new {f : Str} : ∀ {fs : List Str}, fIx fs f = none → ∀ (vs : List V) (y : V), vs.length = fs.length → putF f y (fs.zip vs) = (fs ++ [f]).zip (vs ++ [y])
  | [], _, [], y, _ => rfl
  | [], _, _ :: _, y, h => by simp at h
  | g :: gs, e, [], y, h => by simp at h
  | g :: gs, e, v :: vs, y, h => by
    unfold fIx at e
    rw [List.zip_cons_cons]
    unfold putF
    by_cases c : g = f
    · rw [if_pos c] at e; cases e
    · rw [if_neg c] at e ⊢
      rw [put_new (Option.map_eq_none_iff.mp e) vs y (by simpa using h)]
      rfl
def clsBody (s : Stmt) : List Stmt := match s with
  | .ClassDef _ _ _ b _ _ _ _ _ _ _ => b
  | _ => []
section
variable {F : Fx} {Γ Γ' Γ1 Γe Γx : List Ent} {T : List (V × Own)} {σ : L2.St} {H H' : Hp} {v : V} {Er : L2.St → Exn → Hp → Prop} {ρ α β γ S : Type} {W : R ρ → Prop} {D : Ends} {ta tb tc te ti tk td : TE} {tt : TT} {tr : TA} {d e : Dt} {ds : List Dt} {n j : Nat} {C : Addr} {fs : List Str} {f m' : Str} {xs : List Own} {A : Adr} {t t0 : Own} {put : Own → List Ent} {i : Int}
theorem Loc.mut1 {y u : V} (lc : Loc F.K Γ A t0 put) (s : Stt F Γ ((y, t) :: T) σ H) (au : A.at_ σ H u) : ∃ B Ot O1 Or, Ow F.K B t Ot y ∧ Ow F.K B t0 O1 u ∧ Dj Ot (jn O1 Or) ∧ Dj O1 Or ∧ Post F.B F.O F.H B (jn Ot (jn O1 Or)) H ∧ (∀ p ∈ F.ins, σ[p.1]? = some (some p.2)) ∧
    ∀ B' t' O1', Same B B' → Ow F.K B' t' O1' u → Dj O1' Or → Slots F.K B' (T.map (fun p => some p.2) ++ put t') (jn O1' Or) (T.map (fun p => some p.1) ++ σ) := by
  obtain ⟨B, Ot, O2, at_, sl, dt, P, ii⟩ := s.top
  obtain ⟨u', O1, Or, au', ow, dj, rfl, kk⟩ := lc T B O2 σ sl
  cases A.fn (A.mono (((same_jnr dj).trans (same_jnr dt)).trans P.oh) au') au
  exact ⟨B, Ot, O1, Or, at_, ow, dt, dj, P, ii, kk⟩
theorem s_lvAppO {t : α → Own} {m : R α} {k : α → R ρ} (hst : Stt F Γ T σ H) (hw : W (m.bind fun a => R.guard (xs.length < 16777216) (k a))) (ok : WOk F Γe Er W) (hL : Lv F ta Γ A (.lst xs) put) (h : MV F Γe Er te Γ m t)
    (q : ∀ a σ' H', W (k a) → Stt F (put (.lst (xs ++ [t a]))) T σ' H' → D.nx σ' H') : tDrop (tBM F.K "list" rAppend ta (tCons te tNil)) D σ H := by
  refine hL.ev T σ H hst _ fun u H0 au e0 s0 => ?_
  obtain ⟨B0, u0, O10, Or0, a0, _, ow0, dj0, P0, _⟩ := hL.loc.stt s0
  cases A.fn au a0
  have ow0' := ow0
  unfold Ow at ow0'
  obtain ⟨l, vs0, Oc0, rfl, _, _, rfl⟩ := ow0'
  refine .inl ⟨rfl, _, SqL.of (P0.oh l _ (jn_some upd_same))⟩ |> fun z => ⟨z, ?_⟩
  refine h _ W _ T σ H0 ok hw s0 _ fun a y H1 w s1 e1 => ?_
  obtain ⟨hl, w⟩ := R.guard_ok ok w
  obtain ⟨B, Ot, O1, Or, at_, ow, dt, dj, P, ii, kk⟩ := hL.loc.mut1 s1 (A.mono e1 au)
  unfold Ow at ow
  obtain ⟨l', vs, Oc, el, oa, nl, rfl⟩ := ow
  cases el
  obtain ⟨tl, dt2⟩ := dj_upd (Dj.rl dt) nl
  have dtr : Dj Ot Or := Dj.rr dt
  have orl : Or l = none := by
    rcases dj l with z | z
    · rw [upd_same] at z; cases z
    · exact z
  have dcr : Dj Oc Or := fun b => by
    by_cases z1 : b = l
    · subst z1; exact .inl nl
    · rcases dj b with z | z
      · rw [upd_ne z1] at z; exact .inl z
      · exact .inr z
  have hold : jn Ot (jn (upd Oc l (.lst vs)) Or) l = some (.lst vs) := by
    rw [jn_none tl]
    exact jn_some upd_same
  refine ⟨l, vs, y, rfl, rfl, P.oh l _ hold, by rw [oa.length]; exact line_lt hl, ?_⟩
  have Pm := P.mut (a := l) (o := .lst (vs ++ [y])) hold
  have eO : upd (jn Ot (jn (upd Oc l (.lst vs)) Or)) l (.lst (vs ++ [y])) = jn (upd (jn Oc Ot) l (.lst (vs ++ [y]))) Or := by
    rw [← jn_assoc, upd_jn, jn_upd tl, upd_upd, jn_comm dt2]
  rw [eO] at Pm
  have b1 : Ow F.K B (.lst (xs ++ [t a])) (upd (jn Oc Ot) l (.lst (vs ++ [y]))) (.ref l) := by
    unfold Ow
    exact ⟨l, vs ++ [y], jn Oc Ot, rfl, owa_snoc at_ oa dt2.symm, jn_none_iff.mpr ⟨nl, tl⟩, rfl⟩
  exact q a σ _ w ⟨B, _, kk B _ _ (Same.refl _) b1 (Dj.upd (Dj.jnl dcr dtr) orl), Pm, ii⟩
theorem oL_snoc {enc : α → Dt} {ys : List α} {a : α} : Own.lst (((ys.map enc).map Own.dat) ++ [.dat (enc a)]) = oL enc (ys ++ [a]) := by simp [oL]
theorem s_lvApp {enc : α → Dt} {ys : List α} {m : R α} {k : List α → R ρ} (hst : Stt F Γ T σ H) (hw : W (m.bind fun a => R.guard (gL ys) ((R.ok (ys ++ [a])).bind k))) (ok : WOk F Γe Er W) (hL : Lv F ta Γ A (oL enc ys) put) (h : MV F Γe Er te Γ m (oD enc))
    (q : ∀ zs σ' H', W (k zs) → Stt F (put (oL enc zs)) T σ' H' → D.nx σ' H') : tDrop (tBM F.K "list" rAppend ta (tCons te tNil)) D σ H := by
  refine s_lvAppO (k := fun a => k (ys ++ [a])) hst (by
    have e : (fun a => R.guard (((ys.map enc).map Own.dat).length < 16777216) (k (ys ++ [a]))) = fun a => R.guard (gL ys) ((R.ok (ys ++ [a])).bind k) := by
      funext a
      unfold R.guard gL
      rw [List.length_map, List.length_map]
      rfl
    rw [e]
    exact hw) ok hL h fun a σ' H' w s => q _ σ' H' w (by rw [oL_snoc] at s; exact s)
theorem s_lvClr (hst : Stt F Γ T σ H) (hL : Lv F ta Γ A (.lst xs) put) (q : ∀ σ' H', Stt F (put (.lst [])) T σ' H' → D.nx σ' H') : tDrop (tBM0 F.K "list" rClear ta) D σ H := by
  refine hL.ev T σ H hst _ fun u H0 au e0 s0 => ?_
  obtain ⟨B, u0, O1, Or, a0, _, ow, dj, P, ii, sl, kk⟩ := hL.loc.stt s0
  cases A.fn au a0
  unfold Ow at ow
  obtain ⟨l, vs, Oc, rfl, oa, nl, rfl⟩ := ow
  have hH := P.oh l _ (jn_some upd_same)
  refine ⟨.inl ⟨rfl, _, SqL.of hH⟩, l, vs, rfl, rfl, hH, q σ _ ?_⟩
  have orl : Or l = none := by
    rcases dj l with z | z
    · rw [upd_same] at z; cases z
    · exact z
  have dcr : Dj Oc Or := fun b => by
    by_cases z1 : b = l
    · subst z1; exact .inl nl
    · rcases dj b with z | z
      · rw [upd_ne z1] at z; exact .inl z
      · exact .inr z
  have Pm := P.mut (a := l) (o := .lst []) (jn_some upd_same)
  have eO : upd (jn (upd Oc l (.lst vs)) Or) l (.lst []) = jn Oc (jn (upd emp l (.lst [])) Or) := by
    rw [upd_jn, upd_upd, ← jn_assoc, jn_upd nl, jn_emp]
  rw [eO] at Pm
  have b1 : Ow F.K B (.lst []) (upd emp l (.lst [])) (.ref l) := by
    unfold Ow
    exact ⟨l, [], emp, rfl, owa_nil, rfl, rfl⟩
  exact ⟨B, _, kk B _ _ (Same.refl _) b1 (Dj.upd emp_dj orl), Pm.dropL (Dj.jnr (Dj.upd dj_emp.symm nl).symm dcr), ii⟩
theorem s_lvClrD {enc : α → Dt} {ys : List α} (hst : Stt F Γ T σ H) (hL : Lv F ta Γ A (oL enc ys) put) (q : ∀ σ' H', Stt F (put (oL enc [])) T σ' H' → D.nx σ' H') : tDrop (tBM0 F.K "list" rClear ta) D σ H := s_lvClr hst hL q
theorem s_lvSetO {t : α → Own} {m : R α} {k : α → R ρ} (hst : Stt F Γ T σ H) (hw : W (m.bind fun a => R.guard (inB xs i) (k a))) (ok : WOk F Γe Er W) (hL : Lv F ta Γ A (.lst xs) put) (h : MV F Γe Er te Γ m t) (hi : Ev F ti Γ (.dat (.int i)))
    (q : ∀ a σ' H', W (k a) → Stt F (put (.lst (xs.set (ixI xs i) (t a)))) T σ' H' → D.nx σ' H') : tAsg te (gSub ta ti rSetL) D σ H := by
  refine h _ W _ T σ H ok hw hst _ fun a y H1 w s1 e1 => ?_
  obtain ⟨hb, w⟩ := R.guard_ok ok w
  refine hL.ev _ σ H1 s1 _ fun u H2 au e2 s2 => hi _ σ H2 s2 _ fun iv H3 s3 e3 => ?_
  obtain ⟨Bi, _, ri⟩ := s3.topd
  obtain ⟨B, Ot, O1, Or, at_, ow, dt, dj, P, ii, kk⟩ := hL.loc.mut1 s3.pop (A.mono e3 au)
  unfold Ow at ow
  obtain ⟨l, vs, Oc, rfl, oa, nl, rfl⟩ := ow
  obtain ⟨vj, P1, P2, ev, aj, dp, rfl, ks⟩ := oa.at (List.getElem?_eq_getElem (ixI_lt hb))
  have n1 := (jn_none_iff.mp nl).1
  have n2 := (jn_none_iff.mp nl).2
  obtain ⟨tl, dt4⟩ := dj_upd (Dj.rl dt) nl
  have dtr : Dj Ot Or := Dj.rr dt
  have t1 : Dj Ot P1 := Dj.rl dt4
  have t2 : Dj Ot P2 := Dj.rr dt4
  have orl : Or l = none := by
    rcases dj l with z | z
    · rw [upd_same] at z; cases z
    · exact z
  have dcr : Dj (jn P1 P2) Or := fun b => by
    by_cases z1 : b = l
    · subst z1; exact .inl nl
    · rcases dj b with z | z
      · rw [upd_ne z1] at z; exact .inl z
      · exact .inr z
  have d1r : Dj P1 Or := Dj.l dcr
  have d2r : Dj P2 Or := dj_jn_r dcr
  have hold : jn Ot (jn (upd (jn P1 P2) l (.lst vs)) Or) l = some (.lst vs) := by
    rw [jn_none tl]
    exact jn_some upd_same
  have hvl : vs.length = xs.length := oa.length
  have ix : ixI vs i = ixI xs i := by unfold ixI; rw [hvl]
  refine ⟨l, vs, i, ixI xs i, rfl, rp_int ri, P.oh l _ hold, ?_, ?_⟩
  · have := ixN_of (n := vs.length) (i := i) (by rw [hvl]; exact hb)
    rw [this, ← ix]
    rfl
  have Pm := P.mut (a := l) (o := .lst (vs.set (ixI xs i) y)) hold
  have eO : upd (jn Ot (jn (upd (jn P1 P2) l (.lst vs)) Or)) l (.lst (vs.set (ixI xs i) y)) = jn P1 (jn (upd (jn Ot P2) l (.lst (vs.set (ixI xs i) y))) Or) := by
    rw [← jn_upd tl, upd_jn, upd_upd, ← jn_upd n1, jn_assoc, jn_swap t1, ← jn_assoc (A := Ot), jn_upd tl]
  rw [eO] at Pm
  have dnew : Dj (upd (jn Ot P2) l (.lst (vs.set (ixI xs i) y))) Or := Dj.upd (Dj.jnl dtr d2r) orl
  have d1n : Dj P1 (jn (upd (jn Ot P2) l (.lst (vs.set (ixI xs i) y))) Or) := Dj.jnr (Dj.symm (Dj.upd (Dj.jnl t1 dp.symm) n1)) d1r
  have b1 : Ow F.K B (.lst (xs.set (ixI xs i) (t a))) (upd (jn Ot P2) l (.lst (vs.set (ixI xs i) y))) (.ref l) := by
    unfold Ow
    exact ⟨l, vs.set (ixI xs i) y, jn Ot P2, rfl, ks B (t a) Ot y (Same.refl _) at_ t2, jn_none_iff.mpr ⟨tl, n2⟩, rfl⟩
  exact q a σ _ w ⟨B, _, kk B _ _ (Same.refl _) b1 dnew, Pm.dropL d1n, ii⟩
theorem Stt.rv1 {vs : List V} (h : Stt F Γ ((v, .rv vs ds) :: T) σ H) : ∃ B, Same B H ∧ RpA F.K B ds vs ∧ ∀ d u, Rp F.K B d u → Stt F Γ ((u, .dat d) :: T) σ H := by
  obtain ⟨B, O1, O2, a, sl, dj, P, ii⟩ := h.top
  unfold Ow at a
  obtain ⟨r, rfl⟩ := a
  exact ⟨B, P.bh, r, fun d u ru => ⟨B, _, slots_own (ow_dat ru) sl emp_dj, P, ii⟩⟩
theorem Stt.rv2 {vs : List V} {y : V} (h : Stt F Γ ((y, .dat d) :: (v, .rv vs ds) :: T) σ H) : ∃ B, Same B H ∧ RpA F.K B ds vs ∧ Rp F.K B d y ∧ ∀ d u, Rp F.K B d u → Stt F Γ ((u, .dat d) :: T) σ H := by
  obtain ⟨B, O1, O2, a, sl, dj, P, ii⟩ := h.top
  obtain ⟨ry, rfl⟩ := a.rp
  rw [emp_jn] at P
  rw [List.map_cons, List.map_cons] at sl
  unfold Slots at sl
  obtain ⟨_, _, P1, P2, ee, a2, b2, c2, rfl⟩ := sl
  cases ee
  unfold Ow at a2
  obtain ⟨r, rfl⟩ := a2
  exact ⟨B, P.bh, r, ry, fun d u ru => ⟨B, _, slots_own (ow_dat ru) b2 emp_dj, P, ii⟩⟩
def EvT' (F : Fx) (te : TE) (Γ : List Ent) (ks : List (List Key)) (ds : List Dt) : Prop := ∀ T σ H, Stt F Γ T σ H → ∀ Q : VK, (∀ l vs H', Rd H' l (.dT (ks.zip vs)) → Stt F Γ ((.ref l, .rv vs ds) :: T) σ H' → Same H H' → Q (.ref l) H') → te σ H Q
theorem Stt.rvp {vs : List V} {B : Hp} {O : Hp} {l : Addr} (sl : Slots F.K B (T.map (fun p => some p.2) ++ Γ) O (T.map (fun p => some p.1) ++ σ)) (P : Post F.B F.O F.H B O H) (ii : ∀ p ∈ F.ins, σ[p.1]? = some (some p.2)) (r : RpA F.K B ds vs) : Stt F Γ ((.ref l, .rv vs ds) :: T) σ H := by
  have z := slots_own (show Ow F.K B (.rv vs ds) emp (.ref l) by unfold Ow; exact ⟨r, rfl⟩) sl emp_dj
  rw [emp_jn] at z
  exact ⟨B, O, z, P, ii⟩
variable {ks : List Key} {kt : List (List Key)}
theorem et_lv (h : Lv F te Γ A (.dT kt (ds.map Own.dat)) put) : EvT' F te Γ kt ds := fun T σ H s Q q => h.ev T σ H s _ fun u H1 au e1 s1 => by
  obtain ⟨B, u0, O1, Or, a0, _, ow, dj, P, ii, sl, kk⟩ := h.loc.stt s1
  cases A.fn au a0
  unfold Ow at ow
  obtain ⟨l, vs, Oc, rfl, oa, nl, hl, rfl⟩ := ow
  exact q l vs H1 (.inl (P.oh l _ (jn_some upd_same))) (Stt.rvp sl P ii oa.dats.1) e1
theorem et_du (h : Ev F te Γ (.dat (.du kt ds))) : EvT' F te Γ kt ds := fun T σ H s Q q => h T σ H s _ fun v H1 s1 e1 => by
  obtain ⟨B, O1, O2, a, sl, dj, P, ii⟩ := s1.top
  obtain ⟨r, rfl⟩ := a.rp
  unfold Rp at r
  obtain ⟨l, vs, rfl, hl, _, ra⟩ := r
  rw [emp_jn] at P
  exact q l vs H1 (.inl (P.bh _ _ hl)) (Stt.rvp sl P ii ra) e1
section
variable [DecidableEq α] {kk : α → Key} {kq : α → List Key} {enc : β → Dt} {kvs : List (α × β)} {kd : α → Dt} {ky : α}
theorem ev_tget [Inhabited β] (inj : ∀ a b, kq a = kq b → a = b) (g : (getD? kvs ky).isSome = true) (h1 : EvT' F td Γ (kvs.map fun p => kq p.1) (kvs.map fun p => enc p.2)) (h2 : Ev F tk Γ (.dat (.kt (kq ky)))) : Ev F (tDGet td tk) Γ (.dat (enc ((getD? kvs ky).getD default))) := fun T σ H s Q q =>
  h1 T σ H s _ fun l vs H1 hl s1 e1 => h2 _ σ H1 s1 _ fun y H2 s2 e2 => by
    obtain ⟨B, eb, ra, ry, pu⟩ := s2.rv2
    unfold Rp at ry
    obtain ⟨a, rfl, ha⟩ := ry
    rcases zip_get (kk := kq) (k := ky) inj ra with ⟨z1, z2⟩ | ⟨w, b, z1, z2, z3⟩
    · rw [z2] at g; cases g
    · refine ⟨l, w, rfl, .inr ⟨_, kq ky, a, rd_mono e2 hl, rfl, eb _ _ ha, z1.symm⟩, q _ _ ?_ (e1.trans e2)⟩
      rw [z2]
      exact pu _ _ z3
theorem ev_tin (inj : ∀ a b, kq a = kq b → a = b) (h1 : EvT' F td Γ (kvs.map fun p => kq p.1) (kvs.map fun p => enc p.2)) (h2 : Ev F tk Γ (.dat (.kt (kq ky)))) : Ev F (tDIn tk td) Γ (.dat (.bl (getD? kvs ky).isSome)) := fun T σ H s Q q =>
  h2 T σ H s _ fun y H1 s1 e1 => h1 _ σ H1 s1 _ fun l vs H2 hl s2 e2 => by
    obtain ⟨Bk, ek, rk⟩ := s2.pop.topd
    unfold Rp at rk
    obtain ⟨a, rfl, ha⟩ := rk
    obtain ⟨B, eb, ra, pu⟩ := s2.rv1
    refine ⟨l, _, rfl, .inr ⟨_, kq ky, a, hl, rfl, ek _ _ ha, rfl⟩, ?_⟩
    rcases zip_get (kk := kq) (k := ky) inj ra with ⟨z1, z2⟩ | ⟨w, b, z1, z2, z3⟩
    · rw [z1]
      rw [z2] at q
      exact q _ _ (s2.pop.pop.push fun _ _ => by unfold Rp; rfl) (e1.trans e2)
    · rw [z1]
      rw [z2] at q
      exact q _ _ (s2.pop.pop.push fun _ _ => by unfold Rp; rfl) (e1.trans e2)
theorem s_lvPutK {m : R β} {k : List (α × β) → R ρ} (inj : ∀ a b, kk a = kk b → a = b) (hkd : ∀ B v, Rp F.K B (kd ky) v → v = kV (kk ky)) (hst : Stt F Γ T σ H) (hw : W (m.bind fun b => R.guard (gL kvs) ((R.ok (putD kvs ky b)).bind k))) (ok : WOk F Γe Er W)
    (hL : Lv F ta Γ A (oK kk enc kvs) put) (h : MV F Γe Er te Γ m (oD enc)) (hk : Ev F tk Γ (.dat (kd ky))) (q : ∀ kvs' σ' H', W (k kvs') → Stt F (put (oK kk enc kvs')) T σ' H' → D.nx σ' H') : sDPut ta tk te D σ H := by
  refine h _ W _ T σ H ok hw hst _ fun b y H1 w s1 e1 => ?_
  obtain ⟨gl, w⟩ := R.guard_ok ok w
  refine hL.ev _ σ H1 s1 _ fun u H2 au e2 s2 => hk _ σ H2 s2 _ fun kv H3 s3 e3 => ?_
  obtain ⟨Bi, _, ri⟩ := s3.topd
  have ekv := hkd _ _ ri
  obtain ⟨B, Ot, O1, Or, at_, ow, dt, dj, P, ii, kc⟩ := hL.loc.mut1 s3.pop (A.mono e3 au)
  obtain ⟨ru, rfl⟩ := at_.rp
  rw [emp_jn] at P
  unfold oK Ow at ow
  obtain ⟨l, us, Oc, rfl, oa, nl, hkl, rfl⟩ := ow
  obtain ⟨ra, rfl⟩ := oa.dats
  have hl : H3 l = some (.dK ((kvs.map fun p => kk p.1).zip us)) := P.oh l _ (jn_some upd_same)
  obtain ⟨ws, z1, z2⟩ := zip_put (kk := kk) (k := ky) inj ru ra
  have hvl : us.length = kvs.length := by rw [ra.length, List.length_map]
  have orl : Or l = none := by
    rcases dj l with z | z
    · rw [upd_same] at z; cases z
    · exact z
  refine ⟨l, upd H3 l (.dK (((putD kvs ky b).map fun p => kk p.1).zip ws)), rfl, .inl ⟨_, kk ky, hl, ekv, by rw [List.length_zip, List.length_map, hvl, Nat.min_self]; exact line_lt gl, by rw [z1]⟩, ?_⟩
  have Pm := P.mut (a := l) (o := .dK (((putD kvs ky b).map fun p => kk p.1).zip ws)) (jn_some upd_same)
  rw [upd_jn, upd_upd] at Pm
  have b1 : Ow F.K B (oK kk enc (putD kvs ky b)) (upd emp l (.dK (((putD kvs ky b).map fun p => kk p.1).zip ws))) (.ref l) := by
    unfold oK Ow
    exact ⟨l, ws, emp, rfl, owa_dats z2, rfl, by simp, rfl⟩
  exact q _ σ _ w ⟨B, _, kc B _ _ (Same.refl _) b1 (Dj.upd emp_dj orl), Pm, ii⟩
theorem s_lvPutT {m : R β} {k : List (α × β) → R ρ} (inj : ∀ a b, kq a = kq b → a = b) (hst : Stt F Γ T σ H) (hw : W (m.bind fun b => R.guard (gL kvs) ((R.ok (putD kvs ky b)).bind k))) (ok : WOk F Γe Er W)
    (hL : Lv F ta Γ A (oKT kq enc kvs) put) (h : MV F Γe Er te Γ m (oD enc)) (hk : Ev F tk Γ (.dat (.kt (kq ky)))) (q : ∀ kvs' σ' H', W (k kvs') → Stt F (put (oKT kq enc kvs')) T σ' H' → D.nx σ' H') : sDPut ta tk te D σ H := by
  refine h _ W _ T σ H ok hw hst _ fun b y H1 w s1 e1 => ?_
  obtain ⟨gl, w⟩ := R.guard_ok ok w
  refine hL.ev _ σ H1 s1 _ fun u H2 au e2 s2 => hk _ σ H2 s2 _ fun kv H3 s3 e3 => ?_
  obtain ⟨Bi, ei, ri⟩ := s3.topd
  unfold Rp at ri
  obtain ⟨ak, rfl, hak⟩ := ri
  obtain ⟨B, Ot, O1, Or, at_, ow, dt, dj, P, ii, kc⟩ := hL.loc.mut1 s3.pop (A.mono e3 au)
  obtain ⟨ru, rfl⟩ := at_.rp
  rw [emp_jn] at P
  unfold oKT Ow at ow
  obtain ⟨l, us, Oc, rfl, oa, nl, hkl, rfl⟩ := ow
  obtain ⟨ra, rfl⟩ := oa.dats
  have hl : H3 l = some (.dT ((kvs.map fun p => kq p.1).zip us)) := P.oh l _ (jn_some upd_same)
  obtain ⟨ws, z1, z2⟩ := zip_put (kk := kq) (k := ky) inj ru ra
  have hvl : us.length = kvs.length := by rw [ra.length, List.length_map]
  have orl : Or l = none := by
    rcases dj l with z | z
    · rw [upd_same] at z; cases z
    · exact z
  refine ⟨l, upd H3 l (.dT (((putD kvs ky b).map fun p => kq p.1).zip ws)), rfl, .inr ⟨_, kq ky, ak, hl, rfl, ei _ _ hak, by rw [List.length_zip, List.length_map, hvl, Nat.min_self]; exact line_lt gl, by rw [z1]⟩, ?_⟩
  have Pm := P.mut (a := l) (o := .dT (((putD kvs ky b).map fun p => kq p.1).zip ws)) (jn_some upd_same)
  rw [upd_jn, upd_upd] at Pm
  have b1 : Ow F.K B (oKT kq enc (putD kvs ky b)) (upd emp l (.dT (((putD kvs ky b).map fun p => kq p.1).zip ws))) (.ref l) := by
    unfold oKT Ow
    exact ⟨l, ws, emp, rfl, owa_dats z2, rfl, by simp, rfl⟩
  exact q _ σ _ w ⟨B, _, kc B _ _ (Same.refl _) b1 (Dj.upd emp_dj orl), Pm, ii⟩
end
theorem spF_start {X : Type} {K : PySem.W.Frag} {Ce : Exn → Addr} {n : Nat} {insN : List Nat} {argT : X → List Own} {m : X → R α} {res : α → Own} {outs : α → List Own} {keep : X → List Own} {vs : List V} {Q : VK} {E : XK} (N : List Str) (hi : ∀ i ∈ insN, i < n) (hN : n ≤ N.length) (h : spF K Ce n insN argT m res outs keep vs H Q E) :
    ∃ (x : X) (F : Fx) (W : R α → Prop), K = F.K ∧ (∀ j, j ∉ insN → NI F j) ∧ Stt F ((argT x).map some ++ List.replicate (N.length - n) none) [] (L2.start N vs) H ∧ W (m x) ∧ (∀ Γe Γ1, Tk Γe (insN.map Ag.s) (keep x) Γ1 → WOk F Γe (fun _ e H' => ErrAt Ce E e H') W) ∧
      ∀ a v T Γ Γ1 σ H', W (.ok a) → Tk Γ (insN.map Ag.s) (outs a) Γ1 → Stt F Γ ((v, res a) :: T) σ H' → Q v H' := by
  obtain ⟨x, B, O, hn, oa, s1, s2, ⟨dj, nt⟩, hw⟩ := h
  have el : vs.length = n := by rw [oa.length, hn]
  have hst : L2.start N vs = vs.map some ++ List.replicate (N.length - n) none := by
    unfold L2.start
    rw [el]
  refine ⟨x, ⟨K, B, O, H, insN.filterMap fun i => vs[i]?.map fun v => (i, v)⟩, fun m => Wsh K Ce B O H Q E res outs (keep x) (insN.filterMap fun i => vs[i]?) m, rfl, fun j hj p hp => ?_, ⟨B, O, ?_, Post.refl s1 s2 dj nt, fun p hp => ?_⟩, hw, fun Γe Γ1 tk => ⟨fun z => z, fun e he σ H' s => ?_⟩, fun a v T Γ Γ1 σ H' w tk s => ?_⟩
  · obtain ⟨i, hi', e⟩ := List.mem_filterMap.mp hp
    cases z : vs[i]? with
    | none => rw [z] at e; cases e
    | some u =>
      rw [z] at e
      cases e
      exact fun e => hj (e ▸ hi')
  · rw [hst]
    exact slots_of (N.length - n) oa
  · obtain ⟨i, hi', e⟩ := List.mem_filterMap.mp hp
    cases z : vs[i]? with
    | none => rw [z] at e; cases e
    | some u =>
      rw [z] at e
      cases e
      rw [hst, List.getElem?_append_left (by rw [List.length_map, el]; exact hi i hi'), List.getElem?_map, z]
      rfl
  · obtain ⟨B', O', sl, P, ii⟩ := s
    have ra : RA K B' σ (insN.map Ag.s) (insN.filterMap fun i => vs[i]?) := ra_of (fun i h => by rw [el]; exact hi i h) ii
    obtain ⟨Oa, Or, oa', sl', dj2, rfl⟩ := take_ (T := []) tk ra sl
    exact he B' _ H' P.dropR oa'
  · obtain ⟨B', O1, O2, a1, sl, dj', p, ii⟩ := s.top
    have ra : RA K B' σ (insN.map Ag.s) (insN.filterMap fun i => vs[i]?) := ra_of (fun i h => by rw [el]; exact hi i h) ii
    obtain ⟨Oa, Or, oa', sl', dj2, rfl⟩ := take_ tk ra sl
    rw [← jn_assoc] at p
    exact w v B' _ H' p.dropR (owa_cons a1 oa' (Dj.rl dj'))
theorem mv_calm {Γx : List Ent} {m : R α} {t : α → Own} (h : MV F Γx (fun _ _ _ => False) te Γ m t) (wk : Wk Γ Γx) : MV F Γe Er te Γ m.calm t := fun _ W k T σ H ok w s Q q => by
  cases e : m with
  | ok a =>
    rw [e] at w h
    have ok' : WOk F Γx (fun _ _ _ => False) (fun m' : R α => ∃ a', m' = .ok a' ∧ W (k a')) := ⟨(fun ⟨_, z, _⟩ => nomatch z), (fun _ ⟨_, z, _⟩ => nomatch z)⟩
    refine h _ (fun m' : R α => ∃ a', m' = .ok a' ∧ W (k a')) R.ok T σ H ok' ⟨a, rfl, w⟩ s Q fun a' v H' w' s' e' => ?_
    obtain ⟨a2, z, w2⟩ := w'
    cases z
    exact q a' v H' w2 s' e'
  | err ex => rw [e] at w; exact absurd w ok.bad
  | bad => rw [e] at w; exact absurd w ok.bad
theorem mx_calm {Γx : List Ent} {Γ' : α → List Ent} {m : R α} {t : α → Own} (h : MX2 F Γx (fun _ _ _ => False) te Γ Γ' m t) : MX2 F Γe Er te Γ Γ' m.calm t := fun _ W k T σ H ok w s Q q => by
  cases e : m with
  | ok a =>
    rw [e] at w h
    have ok' : WOk F Γx (fun _ _ _ => False) (fun m' : R α => ∃ a', m' = .ok a' ∧ W (k a')) := ⟨(fun ⟨_, z, _⟩ => nomatch z), (fun _ ⟨_, z, _⟩ => nomatch z)⟩
    refine h _ (fun m' : R α => ∃ a', m' = .ok a' ∧ W (k a')) R.ok T σ H ok' ⟨a, rfl, w⟩ s Q fun a' v H' w' s' => ?_
    obtain ⟨a2, z, w2⟩ := w'
    cases z
    exact q a' v H' w2 s'
  | err ex => rw [e] at w; exact absurd w ok.bad
  | bad => rw [e] at w; exact absurd w ok.bad
end
end Sm
namespace Sm
open PySem PySem.Spec PyProof.Rows L2 PySem.W TL
section
variable {F : Fx} {Γ Γ' Γ1 Γe Γx : List Ent} {T : List (V × Own)} {σ : L2.St} {H H' : Hp} {v : V} {Er : L2.St → Exn → Hp → Prop} {ρ α β γ S : Type} {W : R ρ → Prop} {D : Ends} {ta tb tc te ti tk td : TE} {tt : TT} {tr : TA} {d e : Dt} {ds : List Dt} {n j : Nat} {C : Addr} {fs : List Str} {f m' : Str} {xs : List Own} {A : Adr} {t t0 : Own} {put : Own → List Ent} {i : Int}
theorem mv_makeD {X : Type} {Ce : Exn → Addr} {nn : Nat} {argT : X → List Own} {m : X → R (Unit × α)} {ob : α → Own} {keep : X → List Own} {dA : γ → List Dt} {Ex : L2.St → XK} {mx : R γ} (x : γ → X)
    (ha : MA F Γe Er tr Γ mx dA) (hx : ∀ b, argT (x b) = .ins C [] [] :: (dA b).map Own.dat) (hn : ∀ b, (dA b).length + 1 = nn) (wk : Wk Γ Γe) (hE : ∀ σ e H', Er σ e H' → ErrAt Ce (Ex σ) e H') :
    MV F Γe Er (tMakeP C (spF F.K Ce nn [0] argT m (fun _ => .dat .non) (fun a => [ob a.2]) keep) Ex tr) Γ (mx.bind fun b => (m (x b)).bind fun a => R.ok a.2) ob := fun _ W k T σ H ok w s Q q => by
  rw [R.bind_assoc] at w
  refine ha _ W _ T σ H ok w s _ fun b vs H1 w1 A e2 => ?_
  rw [R.bind_assoc] at w1
  intro y dx hy hd ne
  obtain ⟨B, O, ra, sl, p, ii⟩ := A
  have p1 := p.newO hd (o := .own y) (by intro xs z; cases z)
  have hy1 : upd H1 dx (.own y) y = none := by rw [upd_ne (Ne.symm ne)]; exact hy
  have p2 := p1.newO hy1 (o := .ins C dx []) (by intro xs z; cases z)
  have nOy : O y = none := none_of_same p.oh hy
  have nOd : O dx = none := none_of_same p.oh hd
  have eO : upd (upd O dx (HO.own y)) y (.ins C dx []) = jn (upd (upd emp dx (HO.own y)) y (.ins C dx [])) O := by
    rw [← upd_jn, ← upd_jn, emp_jn]
  rw [eO] at p2
  have dj2 : Dj (upd (upd emp dx (HO.own y)) y (HO.ins C dx [])) O := Dj.upd (Dj.upd emp_dj nOd) nOy
  have ob0 : Ow F.K B (.ins C [] []) (upd (upd emp dx (HO.own y)) y (HO.ins C dx [])) (.ref y) := by
    unfold Ow
    exact ⟨y, dx, [], emp, rfl, owa_nil, rfl, rfl, ne, rfl, rfl⟩
  have oa0 : OwA F.K B (argT (x b)) (upd (upd emp dx (HO.own y)) y (HO.ins C dx [])) (.ref y :: vs) := by
    rw [hx b]
    have z := owa_cons ob0 (owa_dats ra) dj_emp
    rw [jn_emp] at z
    exact z
  have hs : Same H1 (upd (upd H1 dx (.own y)) y (.ins C dx [])) := (same_upd hd).trans (same_upd hy1)
  refine ⟨x b, B, _, by rw [hx b, List.length_cons, List.length_map]; exact hn b, oa0, p2.bh, same_jnl.trans p2.oh, ⟨Dj.rl p2.dj, p2.nt.l⟩, ?_⟩
  cases e : m (x b) with
  | ok a =>
    rw [e] at w1
    intro v B' O' H' P oa'
    have fr : Same H1 H' := fun a o e => P.fr a o (hs a o e) (by
      rw [upd_ne (fun z => by subst z; rw [hy] at e; cases e), upd_ne (fun z => by subst z; rw [hd] at e; cases e)]
      rfl)
    unfold OwA at oa'
    obtain ⟨v', r', O1, O2, e3, a1, b1, d1, rfl⟩ := oa'
    cases e3
    obtain ⟨rn, rfl⟩ := a1.rp
    have hv := rp_non rn
    subst hv
    unfold OwA at b1
    obtain ⟨v2, r2, P1, P2, e4, a2, b2, d2, rfl⟩ := b1
    cases e4
    unfold OwA at b2
    obtain ⟨_, rfl⟩ := b2
    rw [jn_emp] at P
    obtain ⟨dj', P'⟩ := p2.call dj2 P
    rw [emp_jn] at dj' P'
    exact ⟨rfl, q a.2 (.ref y) H' w1 ⟨B', _, slots_own a2 (sl.mono P.b0) dj', P', ii⟩ (e2.trans fr)⟩
  | err ex =>
    rw [e] at w1
    intro B' O' H' P oa'
    obtain ⟨dj', P'⟩ := p2.call dj2 P
    exact hE σ ex H' (ok.err ex w1 σ H' ((Stt.pops (T := T) ⟨B', O, sl.mono P.b0, P'.dropL dj', ii⟩).weak wk))
  | bad =>
    rw [e] at w1
    exact absurd w1 ok.bad
end
end Sm
namespace Sm
open PySem PySem.Spec PyProof.Rows L2 PySem.W TL
section
variable {F : Fx} {Γ Γ' Γ1 Γe Γx : List Ent} {T : List (V × Own)} {σ : L2.St} {H H' : Hp} {v : V} {Er : L2.St → Exn → Hp → Prop} {ρ α β γ S : Type} {W : R ρ → Prop} {D : Ends} {ta tb tc te ti tk td : TE} {tt : TT} {tr : TA} {d e : Dt} {ds : List Dt} {n j : Nat} {C : Addr} {fs : List Str} {f m' : Str} {xs : List Own} {A : Adr} {t t0 : Own} {put : Own → List Ent} {i : Int}
section
variable [DecidableEq α]
end
theorem nm {W : R ρ → Prop} {e : α} {k : α → R ρ} {P : α → Prop} (hw : W ((R.ok e).bind k)) (hst : P e) : ∃ v, W (k v) ∧ P v := ⟨e, hw, hst⟩
end
end Sm
namespace Sm
open PySem PySem.Spec PyProof.Rows L2 PySem.W
section
variable {F : Fx} {Γ Γ' Γ1 Γe Γx Γw : List Ent} {T : List (V × Own)} {σ : L2.St} {H H' : Hp} {v w x : V} {Er : L2.St → Exn → Hp → Prop} {ρ α β γ S : Type} {W : R ρ → Prop} {D : Ends} {ta tb tc te ti tj tk td : TE} {tt : TT} {tr : TA} {d : Dt} {ds : List Dt} {n h j i : Nat} {t t1 t2 : Own} {ts : List Own} {A : Adr} {put : Own → List Ent} {l : Addr}
theorem Loc.take (lc : Loc F.K Γ A t put) (s : Stt F Γ T σ H) : ∃ w, A.at_ σ H w ∧ Stt F (put (.hole w)) ((w, t) :: T) σ H := by
  obtain ⟨B, u, O1, Or, a, _, ow, dj, P, ii, sl, k⟩ := lc.stt s
  have z := k B (.hole u) emp (Same.refl _) (by unfold Ow; exact ⟨rfl, rfl⟩) emp_dj
  rw [emp_jn] at z
  exact ⟨u, a, B, _, slots_own ow z dj, P, ii⟩
end
end Sm
namespace Sm
open PySem PySem.Spec PyProof.Rows L2 PySem.W
section
variable {F : Fx} {Γ Γ' Γ1 Γe Γx Γw : List Ent} {T : List (V × Own)} {σ : L2.St} {H H' : Hp} {v w x : V} {Er : L2.St → Exn → Hp → Prop} {ρ α β γ S : Type} {W : R ρ → Prop} {D : Ends} {ta tb tc te ti tj tk td : TE} {tt : TT} {tr : TA} {d : Dt} {ds : List Dt} {n h j i : Nat} {t0 t1 t2 : Own} {ts : List Own} {A : Adr} {put : Own → List Ent} {l : Addr} {ks : List Key}
end
end Sm
namespace Sm
open PySem PySem.Spec PyProof.Rows L2 PySem.W
def oM (f : α → Own) (xs : List α) : Own := .lst (xs.map f)
theorem map_set_ix {α : Type} {f : α → Own} {xs : List α} {i : Int} {w : α} : (xs.map f).set (ixI xs i) (f w) = (setI xs i w).map f := by
  unfold setI
  rw [List.map_set]
section
variable {F : Fx} {Γ Γ' Γ1 Γe : List Ent} {T : List (V × Own)} {σ : L2.St} {H H' : Hp} {v : V} {Er : L2.St → Exn → Hp → Prop} {ρ α β γ S : Type} {W : R ρ → Prop} {D : Ends} {ta tb te ti : TE} {d : Dt} {ds : List Dt} {n h j : Nat} {i : Int} {t t1 : Own} {ts : List Own} {A : Adr} {put : Own → List Ent} {l : Addr} {K : PySem.W.Frag}
theorem loc_ixM [Inhabited α] {f : α → Own} {xs : List α} (h : Loc K Γ A (oM f xs) put) (hb : inB xs i) : Loc K Γ (A.ix i) (f (getI xs i)) fun t' => put (.lst ((xs.map f).set (ixI xs i) t')) := by
  have hb' : inB (xs.map f) i := by unfold inB at hb ⊢; rw [List.length_map]; exact hb
  have ix : ixI (xs.map f) i = ixI xs i := by unfold ixI; rw [List.length_map]
  have hx : (xs.map f)[ixI (xs.map f) i]? = some (f (getI xs i)) := by rw [ix, List.getElem?_map, getI_get hb]; rfl
  have z := loc_ix h hb' hx
  rw [ix] at z
  exact z
theorem lv_ixM [Inhabited α] {f : α → Own} {xs : List α} (h : Lv F te Γ A (oM f xs) put) (h2 : Ev F ti Γ (.dat (.int i))) (hb : inB xs i) : Lv F (tOp (rIxL F.K) te ti) Γ (A.ix i) (f (getI xs i)) fun t' => put (.lst ((xs.map f).set (ixI xs i) t')) := by
  have hb' : inB (xs.map f) i := by unfold inB at hb ⊢; rw [List.length_map]; exact hb
  have ix : ixI (xs.map f) i = ixI xs i := by unfold ixI; rw [List.length_map]
  have hx : (xs.map f)[ixI (xs.map f) i]? = some (f (getI xs i)) := by rw [ix, List.getElem?_map, getI_get hb]; rfl
  have z := lv_ix h h2 hb' hx
  rw [ix] at z
  exact z
theorem ev_some [Inhabited α] {enc : α → Dt} {o : Option α} (h : Ev F te Γ (.dat (eO enc o))) (g : o.isSome = true) : Ev F te Γ (.dat (enc (o.getD default))) := by
  cases o with
  | none => cases g
  | some a => exact h
end
end Sm
namespace Sm
open PySem PySem.Spec PyProof.Rows L2 PySem.W
theorem pe_or {X : L2.Cx} {e : Expr} {t u : TE} (h : PE X e t) (k : PE X e u) : PE X e (fun σ H Q => t σ H Q ∨ u σ H Q) := by
  refine ⟨fun pins s σ H Q I hw => ?_⟩
  rcases hw with hw | hw
  · exact h.run pins s σ H Q I hw
  · exact k.run pins s σ H Q I hw
section
variable {F : Fx} {Γ Γ' Γ1 Γe : List Ent} {T : List (V × Own)} {σ : L2.St} {H H' : Hp} {v : V} {Er : L2.St → Exn → Hp → Prop} {ρ α β γ S : Type} {W : R ρ → Prop} {D : Ends} {ta tb te ti : TE} {tr : TA} {d : Dt} {ds : List Dt} {n h j : Nat} {t : Own} {ts : List Own} {C : Addr}
def MAo (F : Fx) (Γe : List Ent) (Er : L2.St → Exn → Hp → Prop) (ta : TA) (Γ : List Ent) (m : R α) (ts : α → List Own) : Prop :=
  ∀ (ρ : Type) (W : R ρ → Prop) (k : α → R ρ) T σ H, WOk F Γe Er W → W (m.bind k) → Stt F Γ T σ H → ∀ Q : List V → Hp → Prop,
    (∀ a vs H', W (k a) → (∃ B Oa Or, OwA F.K B (ts a) Oa vs ∧ Slots F.K B (T.map (fun p => some p.2) ++ Γ) Or (T.map (fun p => some p.1) ++ σ) ∧ Dj Oa Or ∧ Post F.B F.O F.H B (jn Oa Or) H' ∧ ∀ p ∈ F.ins, σ[p.1]? = some (some p.2)) → Same H H' → Q vs H') → ta σ H Q
theorem mao_nil : MAo F Γe Er tNil Γ (R.ok ()) fun _ => [] := fun _ W k T σ H ok w s Q q => by
  obtain ⟨B, O, sl, p, ii⟩ := s
  exact q () [] H w ⟨B, emp, O, owa_nil, sl, emp_dj, by rw [emp_jn]; exact p, ii⟩ (Same.refl _)
theorem mao_cons {m : R α} {t : α → Own} {m2 : R β} {ts : β → List Own} (h1 : MV F Γe Er te Γ m t) (h2 : MAo F Γe Er tr Γ m2 ts) : MAo F Γe Er (tCons te tr) Γ (m.bind fun a => m2.bind fun b => R.ok (a, b)) fun p => t p.1 :: ts p.2 := fun _ W k T σ H ok w s Q q => by
  rw [R.bind_assoc] at w
  refine h1 _ W _ T σ H ok w s _ fun a v H1 w1 s1 e1 => ?_
  rw [R.bind_assoc] at w1
  refine h2 _ W _ ((v, t a) :: T) σ H1 ok w1 s1 _ fun b vs H2 w2 A e2 => ?_
  obtain ⟨B, Oa, Or, oa, sl, dj, p, ii⟩ := A
  rw [List.map_cons, List.map_cons] at sl
  unfold Slots at sl
  obtain ⟨w', r', P1, P2, e, a1, sl, d1, rfl⟩ := sl
  cases e
  have d2 : Dj Oa P1 := (Dj.l dj.symm).symm
  have d3 : Dj Oa P2 := (dj_jn_r dj.symm).symm
  refine q (a, b) (v :: vs) H2 w2 ⟨B, jn P1 Oa, P2, owa_cons a1 oa d2.symm, sl, Dj.jnl d1 d3, ?_, ii⟩ (e1.trans e2)
  rw [jn_comm d2.symm, jn_assoc]
  exact p
theorem mv_lstO {m : R α} {ts : α → List Own} (h : MAo F Γe Er tr Γ m ts) (hl : ∀ a, (ts a).length ≤ 1000) : MV F Γe Er (tLst tr) Γ m fun a => .lst (ts a) := fun _ W k T σ H ok w s Q q =>
  h _ W k T σ H ok w s _ fun a vs H1 w1 A e1 => by
    obtain ⟨B, Oa, Or, oa, sl, dj, P, ii⟩ := A
    refine ⟨line_le (by rw [oa.length]; exact Nat.le_trans (hl a) (by decide)), fun p hp => ?_⟩
    have nO : jn Oa Or p = none := none_of_same P.oh hp
    have n1 := (jn_none_iff.mp nO).1
    have n2 := (jn_none_iff.mp nO).2
    have P2 := P.newO hp (o := .lst vs) fun xs z => nomatch z
    rw [upd_jn] at P2
    have ow : Ow F.K B (.lst (ts a)) (upd Oa p (.lst vs)) (.ref p) := by
      unfold Ow
      exact ⟨p, vs, Oa, rfl, oa, n1, rfl⟩
    exact q a _ _ w1 ⟨B, _, slots_own ow sl (Dj.upd dj n2), P2, ii⟩ (e1.trans (same_upd hp))
end
end Sm
namespace Sm
open PySem PySem.Spec PyProof.Rows L2 PySem.W
section
variable {F : Fx} {Γ Γ' Γ1 Γe : List Ent} {T : List (V × Own)} {σ : L2.St} {H H' : Hp} {v u : V} {Er : L2.St → Exn → Hp → Prop} {ρ α β γ S : Type} {W : R ρ → Prop} {D : Ends} {ta tb te ti : TE} {tr : TA} {d : Dt} {ds : List Dt} {n h j k : Nat} {t : Own} {ts : List Own} {A : Adr} {put : Own → List Ent} {l : Addr}
theorem Stt.freezeG (h : Stt F Γ ((v, t) :: T) σ H) (r : RdO t d) : Stt F Γ ((v, .dat d) :: T) σ H := by
  obtain ⟨B, O1, O2, a, s, dj, p, q⟩ := h.top
  have d1 : Dj B O1 := p.dj.rl
  have k : Rp F.K (jn B O1) d v := r F.K B (jn B O1) O1 v a same_jnl (same_jnr d1)
  have z := slots_own (ow_dat k) (s.mono same_jnl) emp_dj
  rw [emp_jn] at z
  exact ⟨jn B O1, O2, z, p.freeze dj, q⟩
theorem mx_frzG {Γ' : α → List Ent} {m : R α} {t : α → Own} {d : α → Dt} (h : MX2 F Γe Er te Γ Γ' m t) (r : ∀ a, RdO (t a) (d a)) : MX2 F Γe Er te Γ Γ' m fun a => .dat (d a) := fun _ W k T σ H ok w s Q q =>
  h _ W k T σ H ok w s Q fun a v H' w' s' => q a v H' w' (s'.freezeG (r a))
theorem fin_nx {W : R ρ → Prop} {s : S} {k : S → R ρ} (h : W (Ctl.fin (.nx s) k)) : W (k s) := h
theorem ev_lenO (h : Lv F te Γ A (.lst ts) put) : Ev F (tCB (fun xs H Q => ∃ p ys, xs = [.ref p] ∧ (SqL F.K H p ys ∨ SqT F.K H p ys) ∧ Q (.int ys.length) H) (tCons te tNil)) Γ (.dat (.int ts.length)) := fun T σ H s Q q => h.ev T σ H s _ fun u H1 a e1 s1 => by
  obtain ⟨B, u', O1, Or, a', _, ow, dj, P, ii, sl, k⟩ := h.loc.stt s1
  cases A.fn a a'
  unfold Ow at ow
  obtain ⟨l, vs, O', rfl, oa, nl, rfl⟩ := ow
  exact ⟨l, vs, rfl, .inl (SqL.of (P.oh l _ (jn_some upd_same))), q _ H1 (s1.push fun _ _ => by rw [oa.length]; unfold Rp; rfl) e1⟩
theorem ev_lenM {f : α → Own} {xs : List α} (h : Lv F te Γ A (oM f xs) put) : Ev F (tCB (fun xs H Q => ∃ p ys, xs = [.ref p] ∧ (SqL F.K H p ys ∨ SqT F.K H p ys) ∧ Q (.int ys.length) H) (tCons te tNil)) Γ (.dat (.int xs.length)) := by
  have := ev_lenO h
  rw [List.length_map] at this
  exact this
theorem s_appMo {f : α → Own} {xs : List α} {m : R α} {k : List α → R ρ} (hst : Stt F Γ T σ H) (hw : W (m.bind fun a => R.guard (gL xs) ((R.ok (xs ++ [a])).bind k))) (ok : WOk F Γe Er W) (he : Γ[n]? = some (some (oM f xs))) (h : MV F Γe Er te Γ m f)
    (q : ∀ zs σ' H', W (k zs) → Stt F (Γ.set n (some (oM f zs))) T σ' H' → D.nx σ' H') : tDrop (tBM F.K "list" rAppend (tVar n) (tCons te tNil)) D σ H := by
  refine s_lvAppO (xs := xs.map f) (t := f) (k := fun a => k (xs ++ [a])) hst (by
    have e : (fun a => R.guard ((xs.map f).length < 16777216) (k (xs ++ [a]))) = fun a => R.guard (gL xs) ((R.ok (xs ++ [a])).bind k) := by
      funext a
      unfold R.guard gL
      rw [List.length_map]
      rfl
    rw [e]
    exact hw) ok (lv_var he) h fun a σ' H' w s => q _ σ' H' w (by unfold oM; rw [List.map_append]; exact s)
end
end Sm
namespace Sm
open PySem PySem.Spec PyProof.Rows L2 L2.DX PySem.W Sy
theorem fnok_bad {X : Type} {P : Program} {w : World} {K : PySem.W.Frag} {mg : Str → Option Value} {base : Heap} {CX : CXT} {k : Nat} {f : Addr} {fd : FuncData} {ps : List Str} {Ce : Exn → Addr} {n : Nat} {insN : List Nat} {argT : X → List Own} {m : X → R α} {res : α → Own} {outs : α → List Own} {keep : X → List Own}
    (hn : n = ps.length) (hm : ∀ x, m x = .bad) : FnOk P w K mg base CX k f fd ps (spF K Ce n insN argT m res outs keep) :=
  ⟨fun vs H Q E h => spF_len hn vs H Q E h, fun A outer s H args us vs Q E _ _ _ _ hs => by
    obtain ⟨x, B, O, _, _, _, _, _, w⟩ := hs
    rw [hm] at w
    exact w.elim⟩
def tTryTwo (K : PySem.W.Frag) (c1 : Value) (ts1 : Addr → Value → Option Addr → TS) (c2 : Value) (ts2 : Addr → Value → Option Addr → TS) (Wout : WX) (tb : WX → TS) : TS := fun D σ H => tb (wMany K Wout D [(c1, ts1), (c2, ts2)]) D σ H
theorem ps_tryTwoW {X : Cx} {x1 x2 : Str} {c1 c2 : Value} {body su1 su2 : List Stmt} {b1 b2 : Stmt} {np1 np2 pos pos1 pos2 : Pos} {tb : WX → TS} {ts1 ts2 : Addr → Value → Option Addr → TS} {Wout : WX} (hs : X.stack = X.env :: X.outer) (hf : X.env.frame = some X.env.locals) (hc1 : Names X x1 c1) (hc2 : Names X x2 c2) (tk : Takes X Wout)
    (hb : ∀ (W : WX) (pn : List (Addr × Obj)) (xe : Value → Shared → Prop), Takes (X.tr pn xe) W → PassesOwn (model X.prog X.w) X.A X.env xe → PSs (X.tr pn xe) body (tb W))
    (h1 : ∀ (a : Addr) (oe : Obj) (cls : Value) (d : Option Addr) (pn : List (Addr × Obj)), Zc cls d oe → (∃ vs, oe.data = .fields vs) → PSs (X.suite a ((a, oe) :: pn)) (b1 :: su1) (ts1 a cls d))
    (h2 : ∀ (a : Addr) (oe : Obj) (cls : Value) (d : Option Addr) (pn : List (Addr × Obj)), Zc cls d oe → (∃ vs, oe.data = .fields vs) → PSs (X.suite a ((a, oe) :: pn)) (b2 :: su2) (ts2 a cls d)) :
    PS X (.Try body [.ExceptHandler (some (.Name x1 np1)) none (b1 :: su1) pos1, .ExceptHandler (some (.Name x2 np2)) none (b2 :: su2) pos2] [] [] pos) (tTryTwo X.K c1 ts1 c2 ts2 Wout tb) := ps_try_many hs hf tk hb (.cons hc1 h1 (.cons hc2 h2 .nil))
section
variable {F : Fx} {Γ Γ' Γ1 Γe Γx : List Ent} {T : List (V × Own)} {σ : L2.St} {H H' : Hp} {v u : V} {Er : L2.St → Exn → Hp → Prop} {ρ α β γ S : Type} {W : R ρ → Prop} {D : Ends} {ta tb te ti : TE} {tr : TA} {d : Dt} {ds : List Dt} {n h j k : Nat} {t t1 t2 : Own} {ts : List Own} {A : Adr} {put : Own → List Ent} {l : Addr} {es : List Dt}
theorem s_tryTwo {v1 v2 : Value} {tbd : WX → TS} {s1 s2 : Addr → Value → Option Addr → TS} {Wout : WX} {Ce : Exn → Addr} {m : R α} {c1 c2 : Exn → Bool} {h1 h2 : Exn → R α} {k : α → R ρ} {Γt : List Ent}
    (hst : Stt F Γ [] σ H) (hw : W ((R.tryC m (fun e => c1 e || c2 e) (fun e => if c1 e = true then h1 e else h2 e)).bind k)) (ok : WOk F Γe Er W) (wke : Wk Γt Γe)
    (x1 : ∀ e, e.plain = true → PySem.W.exmOne F.K (.ref (Ce e)) v1 = some (c1 e)) (x2 : ∀ e, e.plain = true → PySem.W.exmOne F.K (.ref (Ce e)) v2 = some (c2 e)) (hEo : ∀ σ e H, Er σ e H → e.plain = true → Wout (.ref (Ce e)) none σ H)
    (qb : ∀ (W' : R α → Prop) (Wx : WX), WOk F Γt (fun σ e H => ErrAt Ce (WE Wx σ) e H) W' → (∀ a, W' (.ok a) → W (k a)) → W' m → tbd Wx D σ H)
    (q1 : ∀ (e : Exn) (W' : R α → Prop) (a : Addr) σ H, e.plain = true → (∀ Γx, WOk F Γx (fun _ _ _ => False) W') → (∀ a, W' (.ok a) → W (k a)) → W' (h1 e) → Stt F Γt [] σ H → s1 a (.ref (Ce e)) none D σ H)
    (q2 : ∀ (e : Exn) (W' : R α → Prop) (a : Addr) σ H, e.plain = true → (∀ Γx, WOk F Γx (fun _ _ _ => False) W') → (∀ a, W' (.ok a) → W (k a)) → W' (h2 e) → Stt F Γt [] σ H → s2 a (.ref (Ce e)) none D σ H) :
    tbd (wMany F.K Wout D [(v1, s1), (v2, s2)]) D σ H := by
  refine qb (fun m => W ((R.tryC m (fun e => c1 e || c2 e) (fun e => if c1 e = true then h1 e else h2 e)).bind k)) _ ⟨ok.bad, fun e he σ' H' s => ?_⟩ (fun a w => w) hw
  have he : W ((if e.plain = true then (if (c1 e || c2 e) = true then (if c1 e = true then h1 e else h2 e).calm else .err e) else .bad : R α).bind k) := he
  by_cases hp : e.plain = true
  · rw [if_pos hp] at he
    rw [errAt_plain hp]
    refine ⟨c1 e, x1 e hp, fun hc a ha => ?_, fun hc => ?_⟩
    · rw [hc, Bool.true_or, if_pos rfl, if_pos rfl] at he
      exact q1 e (fun m => W (m.calm.bind k)) a _ H' hp (fun Γx => ⟨ok.bad, fun e he _ _ _ => ok.bad he⟩) (fun a w => w) he s
    · rw [hc, Bool.false_or] at he
      refine ⟨c2 e, x2 e hp, fun hc2 a ha => ?_, fun hc2 => ?_⟩
      · rw [if_pos hc2, if_neg Bool.false_ne_true] at he
        exact q2 e (fun m => W (m.calm.bind k)) a _ H' hp (fun Γx => ⟨ok.bad, fun e he _ _ _ => ok.bad he⟩) (fun a w => w) he s
      · rw [hc2, if_neg Bool.false_ne_true] at he
        exact hEo σ' e H' (ok.err e he σ' H' (s.weak wke)) hp
  · rw [if_neg hp] at he
    exact absurd he ok.bad
theorem s_tryTwoJ {v1 v2 : Value} {tbd : WX → TS} {s1 s2 : Addr → Value → Option Addr → TS} {Wout : WX} {Ce : Exn → Addr} {m : R S} {c1 c2 : Exn → Bool} {h1 h2 : Exn → R S} {k : S → R ρ} {Γt : List Ent} {Γj : S → List Ent}
    (hst : Stt F Γ [] σ H) (hw : W ((R.tryC m (fun e => c1 e || c2 e) (fun e => if c1 e = true then h1 e else h2 e)).bind k)) (ok : WOk F Γe Er W) (wke : Wk Γt Γe)
    (x1 : ∀ e, e.plain = true → PySem.W.exmOne F.K (.ref (Ce e)) v1 = some (c1 e)) (x2 : ∀ e, e.plain = true → PySem.W.exmOne F.K (.ref (Ce e)) v2 = some (c2 e)) (hEo : ∀ σ e H, Er σ e H → e.plain = true → Wout (.ref (Ce e)) none σ H)
    (qb : ∀ (W' : R S → Prop) (Wx : WX), WOk F Γt (fun σ e H => ErrAt Ce (WE Wx σ) e H) W' → W' m → (∀ s σ' H', W' (.ok s) → Stt F (Γj s) [] σ' H' → D.nx σ' H') → tbd Wx D σ H)
    (q1 : ∀ (e : Exn) (W' : R S → Prop) (a : Addr) σ H, e.plain = true → (∀ Γx, WOk F Γx (fun _ _ _ => False) W') → W' (h1 e) → Stt F Γt [] σ H → (∀ s σ' H', W' (.ok s) → Stt F (Γj s) [] σ' H' → D.nx σ' H') → s1 a (.ref (Ce e)) none D σ H)
    (q2 : ∀ (e : Exn) (W' : R S → Prop) (a : Addr) σ H, e.plain = true → (∀ Γx, WOk F Γx (fun _ _ _ => False) W') → W' (h2 e) → Stt F Γt [] σ H → (∀ s σ' H', W' (.ok s) → Stt F (Γj s) [] σ' H' → D.nx σ' H') → s2 a (.ref (Ce e)) none D σ H)
    (q : ∀ s σ' H', W (k s) → Stt F (Γj s) [] σ' H' → D.nx σ' H') : tTryTwo F.K v1 s1 v2 s2 Wout tbd D σ H :=
  s_tryTwo hst hw ok wke x1 x2 hEo (fun W' Wx ok' hk w => qb W' Wx ok' w fun s σ' H' w' st => q s σ' H' (hk s w') st) (fun e W' a σ' H' hp ok' hk w st => q1 e W' a σ' H' hp ok' w st fun s σ2 H2 w' st2 => q s _ H2 (hk s w') st2) fun e W' a σ' H' hp ok' hk w st => q2 e W' a σ' H' hp ok' w st fun s σ2 H2 w' st2 => q s _ H2 (hk s w') st2
theorem s_tryTwoC {v1 v2 : Value} {tbd : WX → TS} {s1 s2 : Addr → Value → Option Addr → TS} {Wout : WX} {Ce : Exn → Addr} {m : R (Ctl S β)} {c1 c2 : Exn → Bool} {h1 h2 : Exn → R (Ctl S β)} {k : Ctl S β → R ρ} {Γt : List Ent} {Γj : S → List Ent}
    (hst : Stt F Γ [] σ H) (hw : W ((R.tryC m (fun e => c1 e || c2 e) (fun e => if c1 e = true then h1 e else h2 e)).bind k)) (ok : WOk F Γe Er W) (wke : Wk Γt Γe)
    (x1 : ∀ e, e.plain = true → PySem.W.exmOne F.K (.ref (Ce e)) v1 = some (c1 e)) (x2 : ∀ e, e.plain = true → PySem.W.exmOne F.K (.ref (Ce e)) v2 = some (c2 e)) (hEo : ∀ σ e H, Er σ e H → e.plain = true → Wout (.ref (Ce e)) none σ H)
    (qb : ∀ (W' : R (Ctl S β) → Prop) (Wx : WX), WOk F Γt (fun σ e H => ErrAt Ce (WE Wx σ) e H) W' → (∀ r, W' (.ok (.rt r)) → W (k (.rt r))) → W' m → (∀ s σ' H', W' (.ok (.nx s)) → Stt F (Γj s) [] σ' H' → D.nx σ' H') → tbd Wx D σ H)
    (q1 : ∀ (e : Exn) (W' : R (Ctl S β) → Prop) (a : Addr) σ H, e.plain = true → (∀ Γx, WOk F Γx (fun _ _ _ => False) W') → (∀ r, W' (.ok (.rt r)) → W (k (.rt r))) → W' (h1 e) → Stt F Γt [] σ H → (∀ s σ' H', W' (.ok (.nx s)) → Stt F (Γj s) [] σ' H' → D.nx σ' H') → s1 a (.ref (Ce e)) none D σ H)
    (q2 : ∀ (e : Exn) (W' : R (Ctl S β) → Prop) (a : Addr) σ H, e.plain = true → (∀ Γx, WOk F Γx (fun _ _ _ => False) W') → (∀ r, W' (.ok (.rt r)) → W (k (.rt r))) → W' (h2 e) → Stt F Γt [] σ H → (∀ s σ' H', W' (.ok (.nx s)) → Stt F (Γj s) [] σ' H' → D.nx σ' H') → s2 a (.ref (Ce e)) none D σ H)
    (q : ∀ s σ' H', W (k (.nx s)) → Stt F (Γj s) [] σ' H' → D.nx σ' H') : tTryTwo F.K v1 s1 v2 s2 Wout tbd D σ H :=
  s_tryTwo hst hw ok wke x1 x2 hEo (fun W' Wx ok' hk w => qb W' Wx ok' (fun r => hk _) w fun s σ' H' w' st => q s σ' H' (hk _ w') st) (fun e W' a σ' H' hp ok' hk w st => q1 e W' a σ' H' hp ok' (fun r => hk _) w st fun s σ2 H2 w' st2 => q s _ H2 (hk _ w') st2) fun e W' a σ' H' hp ok' hk w st => q2 e W' a σ' H' hp ok' (fun r => hk _) w st fun s σ2 H2 w' st2 => q s _ H2 (hk _ w') st2
theorem mv_mapO {β : Type} {m : R α} {t : α → Own} {f : α → β} {t' : β → Own} (h : MV F Γe Er te Γ m t) (e : ∀ a, t a = t' (f a)) : MV F Γe Er te Γ (m.bind fun a => R.ok (f a)) t' := fun _ W k T σ H ok w s Q q => by
  rw [R.bind_assoc] at w
  exact h _ W _ T σ H ok w s Q fun a v H' w' s' => q (f a) v H' w' (by rw [← e]; exact s')
theorem ev_listItL {kk : α → List Key} {ek : α → Dt} {enc : β → Dt} {kvs : List (α × β)} (hek : ∀ a, ek a = .kt (kk a)) (h : Lv F te Γ A (oKT kk enc kvs) put) :
    Ev F (tCB rListIt (tCons (tBM0 F.K "dict" rItemsT te) tNil)) Γ (oL (e2 ek enc) kvs) := fun T σ H0 s0 Q q => h.ev T σ H0 s0 _ fun v H e1 e0 s => by
  obtain ⟨B, v', O1, O2, e1', _, a, dj, p, qi, sl, _⟩ := h.loc.stt s
  cases A.fn e1 e1'
  unfold oKT at a
  unfold Ow at a
  obtain ⟨l, vs, O', rfl, oa, nl, hlen, rfl⟩ := a
  obtain ⟨ra, rfl⟩ := oa.dats
  have hl : H l = some (.dT ((kvs.map fun p => kk p.1).zip vs)) := p.oh l _ (jn_some upd_same)
  have lv : vs.length = kvs.length := by rw [ra.length, List.length_map]
  refine ⟨.inr (.inr (.inl ⟨rfl, .inr ⟨_, hl⟩⟩)), l, _, rfl, rfl, hl, fun pp hp => ?_⟩
  have gH : Same H (upd H pp (itemsO pp l)) := same_upd hp
  refine ⟨pp, l, _, rfl, upd_same, gH _ _ hl, fun H2 l2 ts g n2 hts hpair => ?_⟩
  have g2 : Same H H2 := fun b o e => g b o (gH b o e)
  have hts : ts.length = kvs.length := by rw [hts, List.length_zip, List.length_map, lv]; omega
  have s2 := Stt.rows (v := .ref l2) hek sl (p.grow g2) qi hts (enc := enc) (vs := vs) ra fun j t e v h1 h2 h3 => hpair j t (kk e.1, v) h1 (List.getElem?_zip_eq_some.mpr ⟨by rw [List.getElem?_map, h2]; rfl, h3⟩)
  exact q _ _ (s2.newL n2 fun B r => r) ((e0.trans g2).trans (same_upd n2))
theorem ev_sortItL {kvs : List ((List Nat × Int) × Int)} (h : Lv F te Γ A (oKT kP eI kvs) put) :
    Ev F (tCB rSortItI (tCons (tBM0 F.K "dict" rItemsT te) tNil)) Γ (oL (e2 eP eI) (sortX (e2 eP eI) kvs)) := fun T σ H0 s0 Q q => h.ev T σ H0 s0 _ fun v H e1 e0 s => by
  obtain ⟨B, v', O1, O2, e1', _, a, dj, p, qi, sl, _⟩ := h.loc.stt s
  cases A.fn e1 e1'
  unfold oKT at a
  unfold Ow at a
  obtain ⟨l, vs, O', rfl, oa, nl, hlen, rfl⟩ := a
  obtain ⟨ra, rfl⟩ := oa.dats
  have ra' : RpA F.K B ((kvs.map (·.2)).map eI) vs := by rw [List.map_map]; exact ra
  have hvs := rpa_intsV ra'
  have hl : H l = some (.dT ((kvs.map fun p => kP p.1).zip vs)) := p.oh l _ (jn_some upd_same)
  rw [hvs, List.map_map, zip_maps] at hl
  have hl : H l = some (.dT ((kvs.map fun r => (kP r.1, r.2)).map fun r => (r.1, V.int r.2))) := by rw [List.map_map]; exact hl
  refine ⟨.inr (.inr (.inl ⟨rfl, .inr ⟨_, hl⟩⟩)), l, _, rfl, rfl, hl, fun pp hp => ?_⟩
  have gH : Same H (upd H pp (itemsO pp l)) := same_upd hp
  refine ⟨pp, l, _, rfl, upd_same, gH _ _ hl, ?_, fun H2 l2 ys g n2 hys => ?_⟩
  · rw [List.map_map]
    exact .of (enc := fun r : (List Nat × Int) × Int => (e2 eP eI r).py) sortOk_PI.al
  have g2 : Same H H2 := fun b o e => g b o (gH b o e)
  rw [← PySem.W.sort_maps (r := PySem.W.dataLe false fun a => (e2 eP eI a).py) (f := fun r : (List Nat × Int) × Int => (kP r.1, r.2)) (fun a _ b _ => rfl)] at hys
  have hys : PySem.W.EachIs _ ys ((sortX (e2 eP eI) kvs).map fun r => (kP r.1, r.2)) := hys
  obtain ⟨hyl, hyg⟩ := eachIs_get hys
  rw [List.length_map] at hyl
  -- the addresses
  obtain ⟨ts, hts⟩ : ∃ ts : List Addr, ys = ts.map V.ref := by
    have : ∀ (ys : List V), (∀ y ∈ ys, ∃ t, y = V.ref t) → ∃ ts : List Addr, ys = ts.map V.ref := by
      intro ys
      induction ys with
      | nil => intro _; exact ⟨[], rfl⟩
      | cons y ys ih =>
        intro h
        obtain ⟨t, rfl⟩ := h y (by simp)
        obtain ⟨ts, rfl⟩ := ih fun z hz => h z (by simp [hz])
        exact ⟨t :: ts, rfl⟩
    refine this ys fun y hy => ?_
    obtain ⟨j, hj⟩ := List.mem_iff_getElem?.mp hy
    have hlt : j < (sortX (e2 eP eI) kvs).length := by rw [← hyl]; exact (List.getElem?_eq_some_iff.mp hj).1
    obtain ⟨t, kq, e, _⟩ := hyg j y _ hj (by rw [List.getElem?_map, List.getElem?_eq_getElem hlt]; rfl)
    exact ⟨t, e⟩
  subst hts
  rw [List.length_map] at hyl
  have rs : RpA F.K B ((sortX (e2 eP eI) kvs).map fun r => eI r.2) ((sortX (e2 eP eI) kvs).map fun r => V.int r.2) := by
    generalize sortX (e2 eP eI) kvs = xs
    induction xs with
    | nil => exact rpa_nil
    | cons x xs ih => exact rpa_cons (by unfold Rp; rfl) ih
  have s2 := Stt.rows (v := .ref l2) (kk := kP) (ek := eP) (fun _ => rfl) sl (p.grow g2) qi hyl (enc := eI) rs fun j t e v h1 h2 h3 => by
    obtain ⟨t', kq, e', h4, h5⟩ := hyg j (.ref t) (kP e.1, e.2) (by rw [List.getElem?_map, h1]; rfl) (by rw [List.getElem?_map, h2]; rfl)
    cases e'
    rw [List.getElem?_map, h2] at h3
    cases h3
    exact ⟨kq, h4, h5⟩
  exact q _ _ (s2.newL n2 fun B r => r) ((e0.trans g2).trans (same_upd n2))
end
end Sm
namespace L2
open PySem PySem.Spec PyProof.Rows
section
variable {d : Addr} {o : Obj} {P : Program} {w : World} {K : PySem.W.Frag} {es : Array DictEntry} {ep : Nat}
end
section
variable {X : Cx} {tg e : Expr} {td : TE} {apos cpos : Pos}
end
end L2
namespace L2
open PySem PySem.Spec PyProof.Rows
section
variable {X : Cx} {tg : Expr}
def iSeq (K : PySem.W.Frag) (tl : TE) : TI := fun σ H R => tl σ H fun x H1 => ∃ a, x = .ref a ∧ (((∃ xs, SqL K H1 a xs) ∧ R (Itl K a) H1) ∨ ((∃ xs, SqT K H1 a xs) ∧ R (Itt K a) H1))
theorem pi_seq {l : Expr} {tl : TE} (hl : PE X l tl) : PI X tg l (iSeq X.K tl) := by
  refine ⟨fun pins s σ H R I h => ?_⟩
  refine thn (hl.run pins s σ H _ I h) fun v s1 ⟨x, H1, I1, r1, q1⟩ => ?_
  obtain ⟨a, e, ⟨⟨xs, hq⟩, q⟩ | ⟨⟨xs, hq⟩, q⟩⟩ := q1
  · subst e
    cases r1
    obtain ⟨its, rv, p, hz⟩ := I1.list hq
    refine wpAny_pyIter_list p.isList ?_
    refine ⟨s1.heap.objs.size, [s1.heap.objs.size], _, _, H1, rfl, I1.kept (t' := s1.toks) fun b o e => Heap.get?_push_of_some _ e, turn_list a _, ⟨_, Heap.get?_push_size _ rfl, rfl, rfl⟩, fun b hb => ?_, q⟩
    have e : b = s1.heap.objs.size := by simpa using hb
    subst e
    exact I1.fpOk (Nat.le_refl _) (I1.hok.fresh (Nat.le_refl _))
  · subst e
    cases r1
    obtain ⟨its, rv, p, hz⟩ := I1.tuple hq
    refine wpAny_pyIter_tuple (show s1.heap.IsTuple a its.toArray from p) ?_
    refine ⟨s1.heap.objs.size, [s1.heap.objs.size], _, _, H1, rfl, I1.kept (t' := s1.toks) fun b o e => Heap.get?_push_of_some _ e, turn_tuple a _, ⟨_, Heap.get?_push_size _ rfl, rfl, rfl⟩, fun b hb => ?_, q⟩
    have e : b = s1.heap.objs.size := by simpa using hb
    subst e
    exact I1.fpOk (Nat.le_refl _) (I1.hok.fresh (Nat.le_refl _))
end
end L2
namespace Sm
open PySem PySem.Spec PyProof.Rows L2 L2.DX PySem.W Sy
section
variable {F : Fx} {Γ Γ' Γe : List Ent} {T : List (V × Own)} {σ : L2.St} {H H' : Hp} {v : V} {Er : L2.St → Exn → Hp → Prop} {ρ α β γ δ S : Type} {W : R ρ → Prop} {D : Ends} {ta tb tc te td tk : TE} {i j : Int} {d e : Dt} {c : Bool} {ds es : List Dt} {n : Nat} {tl th : TO} {lo hi : Option Int}
def Dt.isQ : Dt → Bool
  | .lst _ => true
  | .tup _ => true
  | .kt _ => true
  | _ => false
def Dt.asQ : Dt → List Dt
  | .lst l => l
  | .tup l => l
  | .kt l => l.map kDt
  | _ => []
theorem sr_seq {m : R Dt} (h : MV F Γe Er te Γ m (oD eA)) : Sr F Γe Er (iSeq F.K te) Γ (m.bind fun d => R.guard (Dt.isQ d = true) (R.ok d)) Dt.asQ eA := fun _ W k T σ H ok w s Ri q => by
  rw [R.bind_assoc] at w
  refine h _ W _ T σ H ok w s _ fun b v H1 w1 s1 e1 => ?_
  have w2 : W (R.guard (Dt.isQ b = true) (k b)) := by
    unfold R.guard at w1 ⊢
    by_cases z : Dt.isQ b = true
    · rw [if_pos z] at w1 ⊢; exact w1
    · rw [if_neg z] at w1; exact absurd w1 ok.bad
  obtain ⟨g, w3⟩ := R.guard_ok ok w2
  obtain ⟨B, eb, r⟩ := s1.topd
  have em : (Dt.asQ b).map eA = Dt.asQ b := map_eA _
  cases b with
  | lst l =>
    unfold Rp at r
    obtain ⟨a, vs, rfl, hl, ra⟩ := r
    refine ⟨a, rfl, .inl ⟨⟨vs, SqL.of (eb _ _ hl)⟩, q _ [_] _ H1 w3 s1 e1 ?_⟩⟩
    rw [em]
    exact wks_list
  | tup l =>
    unfold Rp at r
    obtain ⟨a, vs, rfl, hl, ra⟩ := r
    refine ⟨a, rfl, .inr ⟨⟨vs, sqt_mono eb hl⟩, q _ [_] _ H1 w3 s1 e1 ?_⟩⟩
    rw [em]
    exact wks_tup
  | kt l =>
    have s2 := s1.re (e := .tup (l.map kDt)) fun _ r => Rp.kt r
    obtain ⟨B, eb, r⟩ := s2.topd
    unfold Rp at r
    obtain ⟨a, vs, rfl, hl, ra⟩ := r
    refine ⟨a, rfl, .inr ⟨⟨vs, sqt_mono eb hl⟩, q _ [_] _ H1 w3 s2 e1 ?_⟩⟩
    rw [em]
    exact wks_tup
  | _ => cases g
def gOt (d : Dt) : Prop := d.tyn ≠ "?" ∧ d.tyn ≠ "dict"
instance (d : Dt) : Decidable (gOt d) := by unfold gOt; exact inferInstance
end
end Sm
namespace Sy
open PySem PySem.Spec PyProof.Rows L2 L2.DX PySem.W PySem.Calls
section
variable {X : Cx} {pins : List (Addr × Obj)} {σ : L2.St} {H : Hp} {s : Shared}
end
end Sy
namespace Sm
open PySem PySem.Spec PyProof.Rows L2 L2.DX PySem.W Sy
section
variable {F : Fx} {Γ Γ' Γe : List Ent} {T : List (V × Own)} {σ : L2.St} {H H' : Hp} {v : V} {Er : L2.St → Exn → Hp → Prop} {ρ α β γ δ S : Type} {W : R ρ → Prop} {D : Ends} {ta tb tc te td tk : TE} {d e : Dt}
def isE {α : Type} (e : α → Dt) (d : Dt) : Prop := ∃ a, e a = d
noncomputable instance {α : Type} (e : α → Dt) (d : Dt) : Decidable (isE e d) := Classical.propDecidable _
end
end Sm
namespace L2
open PySem PySem.Spec PyProof.Rows L2.DX
section
variable {X : Cx} {pins : List (Addr × Obj)} {σ : St} {H : Hp} {s : Shared} {a b : Addr} {u r : Value} {d : V} {k : List Key} {A : Around} {E : Value → Shared → Prop}
theorem d_setdT {kvs : List (List Key × V)} {Q : Value → Shared → Prop} (hu : A.units + 1 < cLine) (I : Inv X pins σ H s) (e : H a = some (.dT kvs)) (hb : H b = some (.tup (k.map kV))) (rd : RelV d r) (hl : kvs.length < sizeLine)
    (h1 : ∀ v, valV kvs k = some v → ∀ (w' : Value) (s' : Shared), Inv X pins σ H s' → RelV v w' → Q w' s') (h2 : valV kvs k = none → ∀ (w' : Value) (s' : Shared), Inv X pins σ (upd H a (.dT (putK kvs k d))) s' → RelV d w' → Q w' s') :
    wpAny (model X.prog X.w) A (call (.builtin "dict.setdefault") [.ref a, .ref b, r]) Q E s := by
  obtain ⟨z, hd, xs, rel, dd⟩ := dt_of I.hok e
  have hz : xs.length ≤ sizeLine := by rw [← Paired.length rel]; exact z
  refine call_setdefault_heap (hsz := hz) (tupleKind_room_in1 hu) (key_of I.hok hb) hd dd (fun p hp => ?_) fun hn h' dd' hs => ?_
  · have q := rel.val k
    rw [hp] at q
    cases q0 : valV kvs k with
    | none =>
      rw [q0] at q
      exact (show False from q).elim
    | some v0 =>
      rw [q0] at q
      exact h1 v0 q0 _ _ (I.tok _) q
  · have q := rel.val k
    rw [hn] at q
    have q0 : valV kvs k = none := by
      cases q0 : valV kvs k with
      | some v0 =>
        rw [q0] at q
        exact (show False from q).elim
      | none => rfl
    have hl2 : (putK kvs k d).length ≤ sizeLine := by
      have := length_putK kvs k d
      omega
    obtain ⟨q, es, ep, hq, g2, g3, g4, _, g5⟩ := dd'
    refine h2 q0 _ _ (d_write I (by rw [e]; exact True.intro) hs ⟨q, hq⟩ ⟨hl2, hd, _, (rel.put k hb rd).keeps fun c ys ec => ?_, q, es, ep, hq, g2, g3, g4, g5⟩) rd
    rw [upd_ne (ne_of ec e (fun z => nomatch z))]
    exact ec
end
def tDSetdT (td ty tx : TE) : TE := fun σ H Q => td σ H fun x H1 => ∃ a, x = .ref a ∧ IsD H1 a ∧ ty σ H1 fun y H2 => tx σ H2 fun z H3 => ∃ (kvs : List (List Key × V)) (k : List Key) (b : Addr), H3 a = some (.dT kvs) ∧ y = .ref b ∧ H3 b = some (.tup (k.map kV)) ∧ kvs.length < sizeLine ∧
  (∀ v, valV kvs k = some v → Q v H3) ∧ (valV kvs k = none → Q z (upd H3 a (.dT (putK kvs k z))))
section
variable {X : Cx} {o e f : Expr} {td ty tx : TE} {apos cpos : Pos}
theorem pe_dsetdT (hu : X.A.units + 1 < cLine) (ho : PE X o td) (he : PE X e ty) (hf : PE X f tx) (m : M2 X o "setdefault" apos e f cpos) : PE X (.Call (.Attribute o "setdefault" apos) [e, f] [] cpos) (tDSetdT td ty tx) := by
  refine ⟨fun pins s σ H Q I h => ?_⟩
  refine wpAny_Call_method m.base m.few m.line PySem.F.plainAttrs_dict PySem.F.slot_dict_setdefault PySem.F.type_dict_setdefault (thn (ho.run pins s σ H _ I h) fun u s1 ⟨x, H1, I1, rx, a, ex, d, q1⟩ => ?_)
  subst ex
  obtain rfl : u = Value.ref a := rx
  obtain ⟨t1, t2, _⟩ := isD_at I1 d
  refine ⟨t1, t2, ?_⟩
  rw [m.trees]
  refine Calls.callWith_builtin rfl (Calls.evalArgs_plain (Calls.spliced_cons (thn (he.run pins s1 σ H1 _ I1 q1) fun iv s2 ⟨y, H2, I2, ry, q2⟩ =>
    Calls.spliced_cons (thn (hf.run pins s2 σ H2 _ I2 q2) fun fv s3 ⟨z, H3, I3, rz, kvs, k, b, ea, ey, hb, hl, q3, q4⟩ => Calls.spliced_nil ?_))))
  subst ey
  cases (show iv = Value.ref b from ry)
  exact d_setdT hu I3 ea hb rz hl (fun v hv w' s4 I4 rw' => ⟨v, _, I4, rw', q3 v hv⟩) fun hn w' s4 I4 rw' => ⟨z, _, I4, rw', q4 hn⟩
end
end L2
namespace Sm
open PySem PySem.Spec PyProof.Rows L2 L2.DX PySem.W Sy
section
variable {F : Fx} {Γ Γ' Γe : List Ent} {T : List (V × Own)} {σ : L2.St} {H H' : Hp} {v : V} {Er : L2.St → Exn → Hp → Prop} {ρ α β γ δ S : Type} {W : R ρ → Prop} {D : Ends} {ta tb tc te td tk : TE} {d e : Dt} {A : Adr} {put : Own → List Ent}
def setdD [DecidableEq α] (kvs : List (α × β)) (k : α) (b : β) : List (α × β) := if (getD? kvs k).isSome then kvs else putD kvs k b
theorem mx_setdT [DecidableEq α] {kq : α → List Key} {enc : β → Dt} {kvs : List (α × β)} {ky : α} {b : β} (inj : ∀ a b, kq a = kq b → a = b) (hL : Lv F ta Γ A (oKT kq enc kvs) put) (hk : Ev F tk Γ (.dat (.kt (kq ky)))) (hb : Ev F tc Γ (.dat (enc b))) :
    MX2 F Γe Er (tDSetdT ta tk tc) Γ (fun r : β × List (α × β) => put (oKT kq enc r.2)) (R.guard (gL kvs) (R.ok ((getD? kvs ky).getD b, setdD kvs ky b))) (fun r => .dat (enc r.1)) := fun ρ W k T σ H ok hw hst Q q => by
  have hw : W (R.guard (gL kvs) (k ((getD? kvs ky).getD b, setdD kvs ky b))) := by
    unfold R.guard at hw ⊢
    by_cases z : gL kvs
    · rw [if_pos z] at hw ⊢; exact hw
    · rw [if_neg z] at hw; exact absurd hw ok.bad
  obtain ⟨gl, w⟩ := R.guard_ok ok hw
  refine hL.ev _ σ H hst _ fun u H2 au e2 s2 => ?_
  obtain ⟨B0, u0, O10, Or0, a0, _, ow0, _, P0, _⟩ := hL.loc.stt s2
  cases A.fn a0 au
  unfold oKT Ow at ow0
  obtain ⟨l, us0, Oc0, rfl, _, _, _, rfl⟩ := ow0
  have hl0 : ∃ z, H2 l = some (.dT z) := ⟨_, P0.oh l _ (jn_some upd_same)⟩
  obtain ⟨z0, hl0⟩ := hl0
  refine ⟨l, rfl, .inr ⟨_, .inl hl0⟩, hk _ σ H2 s2 _ fun kv H3 s3 e3 => hb _ σ H3 s3 _ fun x H4 s4 e4 => ?_⟩
  obtain ⟨Bi, ei, ri⟩ := s4.pop.topd
  unfold Rp at ri
  obtain ⟨ak, rfl, hak⟩ := ri
  obtain ⟨B, Ot, O1, Or, at_, ow, dt, dj, P, ii, kc⟩ := hL.loc.mut1 s4 (A.mono (e3.trans e4) au)
  obtain ⟨rx, rfl⟩ := at_.rp
  rw [emp_jn] at P
  unfold oKT Ow at ow
  obtain ⟨l', us, Oc, ee, oa, nl, hkl, rfl⟩ := ow
  cases ee
  obtain ⟨ra, rfl⟩ := oa.dats
  have hl4 : H4 l = some (.dT ((kvs.map fun p => kq p.1).zip us)) := P.oh l _ (jn_some upd_same)
  have hvl : us.length = kvs.length := by rw [ra.length, List.length_map]
  have orl : Or l = none := by
    rcases dj l with z | z
    · rw [upd_same] at z; cases z
    · exact z
  have fin : ∀ {kvs' : List (α × β)} {ws : List V} {c : β} {y : V} {H5 : Hp}, RpA F.K B (kvs'.map fun p => enc p.2) ws → Rp F.K B (enc c) y → Post F.B F.O F.H B (jn (upd emp l (.dT ((kvs'.map fun p => kq p.1).zip ws))) Or) H5 → Stt F (put (oKT kq enc kvs')) ((y, .dat (enc c)) :: T) σ H5 := fun {kvs' ws c y H5} r1 r2 P5 => by
    have b1 : Ow F.K B (oKT kq enc kvs') (upd emp l (.dT ((kvs'.map fun p => kq p.1).zip ws))) (.ref l) := by
      unfold oKT Ow
      exact ⟨l, ws, emp, rfl, owa_dats r1, rfl, by simp, rfl⟩
    have sl := kc B _ _ (Same.refl _) b1 (Dj.upd emp_dj orl)
    have sl : Slots F.K B (some (Own.dat (.kt (kq ky))) :: (T.map (fun p => some p.2) ++ put (oKT kq enc kvs'))) (jn (upd emp l (.dT ((kvs'.map fun p => kq p.1).zip ws))) Or) (some (V.ref ak) :: (T.map (fun p => some p.1) ++ σ)) := sl
    unfold Slots at sl
    obtain ⟨_, _, P1, P2, ee, a2, b2, c2, hh⟩ := sl
    cases ee
    obtain ⟨_, rfl⟩ := a2.rp
    rw [emp_jn] at hh
    rw [← hh] at b2
    have z := slots_own (ow_dat r2) b2 emp_dj
    rw [emp_jn] at z
    exact ⟨B, _, z, P5, ii⟩
  refine ⟨_, kq ky, ak, hl4, rfl, ei _ _ hak, by rw [List.length_zip, List.length_map, hvl, Nat.min_self]; exact line_lt gl, fun y hy => ?_, fun hn => ?_⟩
  · rcases zip_get (kk := kq) (k := ky) inj ra with ⟨z1, z2⟩ | ⟨w', b', z1, z2, z3⟩
    · rw [z1] at hy; cases hy
    · rw [z1] at hy
      cases hy
      have ew : ((getD? kvs ky).getD b, setdD kvs ky b) = (b', kvs) := by unfold setdD; rw [z2]; rfl
      rw [ew] at w
      exact q _ _ _ w (fin ra z3 P)
  · rcases zip_get (kk := kq) (k := ky) inj ra with ⟨z1, z2⟩ | ⟨w', b', z1, z2, z3⟩
    · have ew : ((getD? kvs ky).getD b, setdD kvs ky b) = (b, putD kvs ky b) := by unfold setdD; rw [z2]; rfl
      rw [ew] at w
      obtain ⟨ws, y1, y2⟩ := zip_put (kk := kq) (k := ky) inj rx ra
      rw [y1]
      have Pm := P.mut (a := l) (o := .dT (((putD kvs ky b).map fun p => kq p.1).zip ws)) (jn_some upd_same)
      rw [upd_jn, upd_upd] at Pm
      exact q _ _ _ w (fin y2 rx Pm)
    · rw [z1] at hn; cases hn
theorem s_lvPutKX [DecidableEq δ] {kk : δ → Key} {enc : γ → Dt} {kd : δ → Dt} {ky : δ} {f : α → γ} {Γ1 : α → List Ent} {m : R α} {kvs : α → List (δ × γ)} {put1 : α → Own → List Ent} {k : α → List (δ × γ) → R ρ} (inj : ∀ a b, kk a = kk b → a = b) (hkd : ∀ B v, Rp F.K B (kd ky) v → v = kV (kk ky)) (hst : Stt F Γ T σ H)
    (hw : W (m.bind fun a => R.guard (gL (kvs a)) ((R.ok (putD (kvs a) ky (f a))).bind (k a)))) (ok : WOk F Γe Er W)
    (h : MX2 F Γe Er te Γ Γ1 m fun a => .dat (enc (f a))) (hL : ∀ a, Lv F ta (Γ1 a) A (oK kk enc (kvs a)) (put1 a)) (hk : ∀ a, Ev F tk (Γ1 a) (.dat (kd ky)))
    (q : ∀ a kvs' σ' H', W (k a kvs') → Stt F (put1 a (oK kk enc kvs')) T σ' H' → D.nx σ' H') : sDPut ta tk te D σ H := by
  refine h _ W _ T σ H ok hw hst _ fun a y H1 w s1 => ?_
  obtain ⟨gl, w⟩ := R.guard_ok ok w
  refine (hL a).ev _ σ H1 s1 _ fun u H2 au e2 s2 => hk a _ σ H2 s2 _ fun kv H3 s3 e3 => ?_
  obtain ⟨Bi, _, ri⟩ := s3.topd
  have ekv := hkd _ _ ri
  obtain ⟨B, Ot, O1, Or, at_, ow, dt, dj, P, ii, kc⟩ := (hL a).loc.mut1 s3.pop (A.mono e3 au)
  obtain ⟨ru, rfl⟩ := at_.rp
  rw [emp_jn] at P
  unfold oK Ow at ow
  obtain ⟨l, us, Oc, rfl, oa, nl, hkl, rfl⟩ := ow
  obtain ⟨ra, rfl⟩ := oa.dats
  have hl : H3 l = some (.dK (((kvs a).map fun p => kk p.1).zip us)) := P.oh l _ (jn_some upd_same)
  obtain ⟨ws, z1, z2⟩ := zip_put (kk := kk) (k := ky) inj ru ra
  have hvl : us.length = (kvs a).length := by rw [ra.length, List.length_map]
  have orl : Or l = none := by
    rcases dj l with z | z
    · rw [upd_same] at z; cases z
    · exact z
  refine ⟨l, upd H3 l (.dK (((putD (kvs a) ky (f a)).map fun p => kk p.1).zip ws)), rfl, .inl ⟨_, kk ky, hl, ekv, by rw [List.length_zip, List.length_map, hvl, Nat.min_self]; exact line_lt gl, by rw [z1]⟩, ?_⟩
  have Pm := P.mut (a := l) (o := .dK (((putD (kvs a) ky (f a)).map fun p => kk p.1).zip ws)) (jn_some upd_same)
  rw [upd_jn, upd_upd] at Pm
  have b1 : Ow F.K B (oK kk enc (putD (kvs a) ky (f a))) (upd emp l (.dK (((putD (kvs a) ky (f a)).map fun p => kk p.1).zip ws))) (.ref l) := by
    unfold oK Ow
    exact ⟨l, ws, emp, rfl, owa_dats z2, rfl, by simp, rfl⟩
  exact q a _ σ _ w ⟨B, _, kc B _ _ (Same.refl _) b1 (Dj.upd emp_dj orl), Pm, ii⟩
end
end Sm
namespace Sm
open PySem PySem.Spec PyProof.Rows L2
section
variable {X : Cx} {CX : CXT} {k : Nat} {f C : Addr} {fd : FuncData} {ps : List Str} {sp : Sp} {E : L2.St → XK} {x m : Str} {p pos apos : Pos} {e o : Expr} {es : List Expr} {ta : TE} {t : TA}
theorem pe_methPD {pl : Sem Bool} {di : Int} (he : PE X o ta) (c : Cls X.K C) (hm : Meth X.K C m f) (F : FnOk X.prog X.w X.K X.mg X.base CX k f fd ps sp) (hr : Room k X.A) (hb : ∃ ds, Vals [V.int di] ds ∧ Binds X.K fd ps ds) (hx : ∀ σ, PassesAt CX X σ (E σ))
    (ht : eval (.Call (.Attribute o m apos) [] [] pos) X.env = (do
      let ov ← eval o X.env
      standAt apos.atName
      let (f, first) ← holding [ov] (getMethod ov m pl)
      callWith pos f first (backTo pos (starEach [] X.env)) (backToKw pos (keywordEach [] X.env))) := by rfl) :
    PE X (.Call (.Attribute o m apos) [] [] pos) (tMethP C m sp E ta (tCons (tC (.int di)) tNil)) := by
  obtain ⟨ds, hd, hb⟩ := hb
  refine ⟨fun pins s σ H Q I h => ?_⟩
  refine PySem.W.methodCall_KW (pl := pl) (thn (he.run pins s σ H _ I h) fun u s1 ⟨x, H1, I1, rx, a, dx, fs, ex, ea, l, q⟩ => ?_) ht
  subst ex
  obtain rfl : u = Value.ref a := rx
  refine getmeth_ok I1 ea c hm l ?_
  exact PySem.W.callWith_K0 (first := [.ref a]) I1.kIn hm.kp (run_fnSD (us := [.ref a]) (vs := [.ref a]) F hr hb hd (hx σ) I1 (.cons rfl .nil) q)
end
end Sm
namespace L2
open PySem PySem.Spec PyProof.Rows
section
variable {X : Cx} {e o value : Expr} {f : Str} {ta tv : TE} {pos pos' : Pos} {K : PySem.W.Frag}
theorem pe_fldK (he : PE X e ta) (hb : attributeBase e f X.env (eval e X.env) = eval e X.env) (hK : X.K = K := by rfl) : PE X (.Attribute e f pos) (tFld K ta f) := by
  subst hK
  exact pe_fld he hb
theorem ps_fldK (ha : PE X o ta) (hv : PE X value tv) (hs : swapsWith value (some (.Attribute o f pos')) pos.line X.env = pure false) (hK : X.K = K := by rfl) : PS X (.Assign [.Attribute o f pos'] value pos) (sFld K ta tv f) := by
  subst hK
  exact ps_fld ha hv hs
end
end L2
namespace Sm
open PySem PySem.Spec PyProof.Rows L2 L2.DX PySem.W Sy
section
variable {F : Fx} {Γ Γ' Γe : List Ent} {T : List (V × Own)} {σ : L2.St} {H H' : Hp} {v : V} {Er : L2.St → Exn → Hp → Prop} {ρ α β γ δ S : Type} {W : R ρ → Prop} {D : Ends} {ta tb tc te td tk : TE} {tt : TT} {d e : Dt} {ds : List Dt} {n : Nat} {l : Addr} {od : Obj} {ks : List (List Key)} {us : List V} {t t0 : Own}
end
end Sm
namespace Sm
open PySem PySem.Spec PyProof.Rows L2 L2.DX PySem.W Sy
section
variable {F : Fx} {Γ Γ' Γe : List Ent} {T : List (V × Own)} {σ : L2.St} {H H' : Hp} {v : V} {Er : L2.St → Exn → Hp → Prop} {ρ α β γ δ S : Type} {W : R ρ → Prop} {te : TE} {d e : Dt} {ds : List Dt} {i : Int}
end
end Sm
namespace Sm
open PySem PySem.Spec PyProof.Rows L2 PySem.W TL
def oFr {α β γ : Type} (ea : α → Dt) (eb : β → Dt) (ec : γ → Dt) (x : α × β × List γ) : Own := .lst [.dat (ea x.1), .dat (eb x.2.1), oL ec x.2.2]
def oFrZ {α β γ : Type} (ea : α → Dt) (eb : β → Dt) (ec : γ → Dt) (x : α × β × List γ) : Own := .lst [.dat (ea x.1), .dat (eb x.2.1), .dat (eL ec x.2.2)]
section
variable {F : Fx} {Γ Γ' Γ1 Γe : List Ent} {T : List (V × Own)} {σ : L2.St} {H H' : Hp} {v u : V} {Er : L2.St → Exn → Hp → Prop} {ρ α β γ S : Type} {W : R ρ → Prop} {D : Ends} {ta tb te ti : TE} {tr : TA} {d : Dt} {ds : List Dt} {n h j k : Nat} {i : Int} {t w : Own} {ts : List Own} {A : Adr} {put : Own → List Ent} {l : Addr} {K : PySem.W.Frag}
theorem Stt.freezeLoc (s : Stt F Γ T σ H) (h : Loc F.K Γ A t put) (r : RdO t d) : Stt F (put (.dat d)) T σ H := by
  obtain ⟨B, u, O1, Or, a, _, ow, dj, P, ii, _, k⟩ := h.stt s
  have d1 : Dj B O1 := P.dj.rl
  have kk : Rp F.K (jn B O1) d u := r F.K B (jn B O1) O1 u ow same_jnl (same_jnr d1)
  have z := k (jn B O1) (.dat d) emp same_jnl (ow_dat kk) emp_dj
  rw [emp_jn] at z
  exact ⟨jn B O1, Or, z, P.freeze dj, ii⟩
theorem ixK {α : Type} {xs : List α} : ixI xs (k : Int) = k := by
  unfold ixI
  rw [if_pos (by omega)]
  omega
theorem inK {α : Type} {xs : List α} {x : α} (h : xs[k]? = some x) : inB xs (k : Int) := by
  have := (List.getElem?_eq_some_iff.mp h).1
  exact ⟨by omega, by omega⟩
theorem loc_fr (h : Loc K Γ A (.lst ts) put) (hx : ts[k]? = some t) : Loc K Γ (A.ix (k : Int)) t fun t' => put (.lst (ts.set k t')) := by
  have z := loc_ix h (i := (k : Int)) (inK hx) (by rw [ixK]; exact hx)
  rw [ixK] at z
  exact z
theorem lv_fr (h : Lv F te Γ A (.lst ts) put) (h2 : Ev F ti Γ (.dat (.int (k : Int)))) (hx : ts[k]? = some t) : Lv F (tOp (rIxL F.K) te ti) Γ (A.ix (k : Int)) t fun t' => put (.lst (ts.set k t')) := by
  have z := lv_ix h (i := (k : Int)) h2 (inK hx) (by rw [ixK]; exact hx)
  rw [ixK] at z
  exact z
theorem lv_ixS {xs : List α} {f : α → Own} (h : Lv F te Γ A (.lst ((xs.map f).set (ixI xs i) w)) put) (h2 : Ev F ti Γ (.dat (.int i))) (hb : inB xs i) : Lv F (tOp (rIxL F.K) te ti) Γ (A.ix i) w fun t' => put (.lst ((xs.map f).set (ixI xs i) t')) := by
  have hl : ((xs.map f).set (ixI xs i) w).length = xs.length := by rw [List.length_set, List.length_map]
  have hb' : inB ((xs.map f).set (ixI xs i) w) i := by unfold inB at hb ⊢; rw [hl]; exact hb
  have ix : ixI ((xs.map f).set (ixI xs i) w) i = ixI xs i := by simp only [ixI, List.length_set, List.length_map]
  have z := lv_ix h h2 hb' (by rw [ix]; exact List.getElem?_set_self (by rw [List.length_map]; exact ixI_lt hb))
  rw [ix] at z
  simp only [List.set_set] at z
  exact z
theorem s_frSet {t : α → Own} {m : R α} {k : α → R ρ} {c : Nat} {x : Own} (hst : Stt F Γ T σ H) (hw : W (m.bind k)) (ok : WOk F Γe Er W) (hL : Lv F ta Γ A (.lst ts) put) (h : MV F Γe Er te Γ m t) (hi : Ev F ti Γ (.dat (.int (c : Int)))) (hx : ts[c]? = some x)
    (q : ∀ a σ' H', W (k a) → Stt F (put (.lst (ts.set c (t a)))) T σ' H' → D.nx σ' H') : tAsg te (gSub ta ti rSetL) D σ H := by
  refine s_lvSetO (k := k) (i := (c : Int)) hst (by
    have e : (fun a => R.guard (inB ts (c : Int)) (k a)) = k := by
      funext a
      unfold R.guard
      rw [if_pos (inK hx)]
    rw [e]
    exact hw) ok hL h hi fun a σ' H' w s => q a σ' H' w ?_
  rw [ixK] at s
  exact s
theorem s_frSetP {t : Own} {m : R ρ} {c : Nat} {x : Own} (hst : Stt F Γ T σ H) (hw : W m) (ok : WOk F Γe Er W) (hL : Lv F ta Γ A (.lst ts) put) (h : Ev F te Γ t) (hi : Ev F ti Γ (.dat (.int (c : Int)))) (hx : ts[c]? = some x)
    (q : ∀ σ' H', W m → Stt F (put (.lst (ts.set c t))) T σ' H' → D.nx σ' H') : tAsg te (gSub ta ti rSetL) D σ H :=
  s_frSet (α := Unit) (m := R.ok ()) (k := fun _ => m) (t := fun _ => t) hst hw ok hL (mv_ok h) hi hx fun _ σ' H' w s => q σ' H' w s
theorem owa_lastO {K : PySem.W.Frag} {B : Hp} {t : Own} : ∀ {ts : List Own} {O : Hp} {vs : List V}, OwA K B (ts ++ [t]) O vs → ∃ us v O1 O2, vs = us ++ [v] ∧ OwA K B ts O1 us ∧ Ow K B t O2 v ∧ Dj O1 O2 ∧ O = jn O1 O2
  | [], O, vs, h => by
    rw [List.nil_append] at h
    unfold OwA at h
    obtain ⟨v, r, O1, O2, rfl, a, b, dj, rfl⟩ := h
    unfold OwA at b
    obtain ⟨rfl, rfl⟩ := b
    exact ⟨[], v, emp, O1, rfl, owa_nil, a, emp_dj, by rw [jn_emp, emp_jn]⟩
  | s :: ts, O, vs, h => by
    rw [List.cons_append] at h
    unfold OwA at h
    obtain ⟨v, r, O1, O2, rfl, a, b, dj, rfl⟩ := h
    obtain ⟨us, x, P1, P2, rfl, c, e, d2, rfl⟩ := owa_lastO b
    exact ⟨v :: us, x, jn O1 P1, P2, rfl, owa_cons a c (Dj.rl dj), e, Dj.jnl (Dj.rr dj) d2, jn_assoc.symm⟩
theorem mx_popM [Inhabited α] {f : α → Own} {xs : List α} (he : Γ[n]? = some (some (oM f xs))) : MX2 F Γe Er (tBM0 F.K "list" rPop (tVar n)) Γ (fun a : α × List α => Γ.set n (some (oM f a.2))) (popR xs) fun a => f a.1 := fun _ W k T σ H ok w s Q q => by
  have w2 : W (R.guard (0 < xs.length) (k ((xs.getLast?).getD default, xs.dropLast))) := by
    unfold popR R.guard at w
    unfold R.guard
    by_cases z : 0 < xs.length
    · rw [if_pos z] at w ⊢; exact w
    · rw [if_neg z] at w; exact absurd w ok.bad
  obtain ⟨hl, w3⟩ := R.guard_ok ok w2
  have ex : xs = xs.dropLast ++ [(xs.getLast?).getD default] := by
    have hne : xs ≠ [] := by intro z; rw [z] at hl; exact absurd hl (Nat.lt_irrefl 0)
    rw [List.getLast?_eq_some_getLast hne]
    exact (List.dropLast_concat_getLast hne).symm
  have em : xs.map f = (xs.dropLast).map f ++ [f ((xs.getLast?).getD default)] := by
    conv => lhs; rw [ex]
    rw [List.map_append]
    rfl
  obtain ⟨B, u, O1, O2, e1, a, dj, P, ii, sl, k1, _⟩ := s.atn he
  unfold oM Ow at a
  obtain ⟨l, vs, Oc, rfl, oa, nl, rfl⟩ := a
  rw [em] at oa
  obtain ⟨us, x, P1, P2, rfl, oa1, ax, d12, rfl⟩ := owa_lastO oa
  have hH : H l = some (.lst (us ++ [x])) := P.oh l _ (jn_some upd_same)
  refine ⟨.ref l, e1, .inl ⟨rfl, _, SqL.of hH⟩, l, us ++ [x], x, rfl, rfl, hH, by simp, ?_⟩
  have n1 := (jn_none_iff.mp nl).1
  have n2 := (jn_none_iff.mp nl).2
  have ol : O2 l = none := by
    rcases dj l with z | z
    · rw [upd_same] at z; cases z
    · exact z
  have dc : Dj (jn P1 P2) O2 := fun b => by
    by_cases z1 : b = l
    · subst z1; exact .inl nl
    · rcases dj b with z | z
      · rw [upd_ne z1] at z; exact .inl z
      · exact .inr z
  have Pm := P.mut (a := l) (o := .lst us) (u := .lst (us ++ [x])) (jn_some upd_same)
  have eO : upd (jn (upd (jn P1 P2) l (.lst (us ++ [x]))) O2) l (.lst us) = jn P2 (jn (upd P1 l (.lst us)) O2) := by
    rw [upd_jn, upd_upd, jn_comm d12, ← jn_upd n2, jn_assoc]
  rw [eO] at Pm
  have d2u : Dj P2 (upd P1 l (.lst us)) := (Dj.upd d12 n2).symm
  have du2 : Dj (upd P1 l (.lst us)) O2 := Dj.upd (Dj.l dc) ol
  have ow : Ow F.K B (oM f xs.dropLast) (upd P1 l (.lst us)) (.ref l) := by
    unfold oM Ow
    exact ⟨l, us, P1, rfl, oa1, n1, rfl⟩
  have z := k1 B _ _ (Same.refl _) ow du2
  rw [List.dropLast_concat]
  exact q ((xs.getLast?).getD default, xs.dropLast) x _ w3 ⟨B, _, slots_own ax z (Dj.jnr d2u (dj_jn_r dc)), Pm, ii⟩
end
end Sm
namespace Sm
open PySem PySem.Spec PyProof.Rows L2 PySem.W TL
section
variable {F : Fx} {Γ Γ' Γ1 Γe : List Ent} {T : List (V × Own)} {σ : L2.St} {H H' : Hp} {v u : V} {Er : L2.St → Exn → Hp → Prop} {ρ α β γ S : Type} {W : R ρ → Prop} {D : Ends} {ta tb te ti : TE} {tr : TA} {d : Dt} {ds : List Dt} {n h j k : Nat} {i : Int} {t w : Own} {ts : List Own} {A : Adr} {put : Own → List Ent} {l : Addr} {K : PySem.W.Frag}
end
end Sm
namespace Sm
open PySem PySem.Spec PyProof.Rows L2 PySem.W TL
section
variable {F : Fx} {Γ Γ' Γ1 Γe : List Ent} {T : List (V × Own)} {σ : L2.St} {H H' : Hp} {v u : V} {Er : L2.St → Exn → Hp → Prop} {ρ α β γ S : Type} {W : R ρ → Prop} {D : Ends} {ta tb te ti : TE} {tr : TA} {d : Dt} {ds : List Dt} {n h j k : Nat} {i : Int} {t w : Own} {ts : List Own} {A : Adr} {put : Own → List Ent} {l : Addr} {K : PySem.W.Frag} {enc : α → Dt}
def MAp (F : Fx) (Γe : List Ent) (Er : L2.St → Exn → Hp → Prop) (ta : TA) (Γ Γ' : List Ent) (m : R α) (ts : α → List Own) : Prop :=
  ∀ (ρ : Type) (W : R ρ → Prop) (k : α → R ρ) T σ H, WOk F Γe Er W → W (m.bind k) → Stt F Γ T σ H → ∀ Q : List V → Hp → Prop,
    (∀ a vs H', W (k a) → (∃ B Oa Or, OwA F.K B (ts a) Oa vs ∧ Slots F.K B (T.map (fun p => some p.2) ++ Γ') Or (T.map (fun p => some p.1) ++ σ) ∧ Dj Oa Or ∧ Post F.B F.O F.H B (jn Oa Or) H' ∧ ∀ p ∈ F.ins, σ[p.1]? = some (some p.2)) → Q vs H') → ta σ H Q
theorem map_cons {m : R α} {t : α → Own} {m2 : R β} {ts : β → List Own} (h1 : MV F Γe Er te Γ m t) (h2 : MAp F Γe Er tr Γ Γ' m2 ts) : MAp F Γe Er (tCons te tr) Γ Γ' (m.bind fun a => m2.bind fun b => R.ok (a, b)) fun p => t p.1 :: ts p.2 := fun _ W k T σ H ok w s Q q => by
  rw [R.bind_assoc] at w
  refine h1 _ W _ T σ H ok w s _ fun a v H1 w1 s1 e1 => ?_
  rw [R.bind_assoc] at w1
  refine h2 _ W _ ((v, t a) :: T) σ H1 ok w1 s1 _ fun b vs H2 w2 A => ?_
  obtain ⟨B, Oa, Or, oa, sl, dj, p, ii⟩ := A
  rw [List.map_cons, List.map_cons] at sl
  unfold Slots at sl
  obtain ⟨w', r', P1, P2, e, a1, sl, d1, rfl⟩ := sl
  cases e
  have d2 : Dj Oa P1 := (Dj.l dj.symm).symm
  have d3 : Dj Oa P2 := (dj_jn_r dj.symm).symm
  refine q (a, b) (v :: vs) H2 w2 ⟨B, jn P1 Oa, P2, owa_cons a1 oa d2.symm, sl, Dj.jnl d1 d3, ?_, ii⟩
  rw [jn_comm d2.symm, jn_assoc]
  exact p
theorem mx_tupP {m : R α} {ts : α → List Own} (h : MAp F Γe Er tr Γ Γ' m ts) (hl : ∀ a, (ts a).length ≤ 1000) : MX2 F Γe Er (tTup tr) Γ (fun _ => Γ') m fun a => .tup (ts a) := fun _ W k T σ H ok w s Q q =>
  h _ W k T σ H ok w s _ fun a vs H1 w1 A => by
    obtain ⟨B, Oa, Or, oa, sl, dj, P, ii⟩ := A
    refine ⟨line_le (by rw [oa.length]; exact Nat.le_trans (hl a) (by decide)), fun p hp => ?_⟩
    have nB := none_of_same P.bh hp
    have sm : Same B (upd B p (.tup vs)) := same_upd nB
    have ow : Ow F.K (upd B p (.tup vs)) (.tup (ts a)) Oa (.ref p) := by
      unfold Ow
      exact ⟨p, vs, rfl, SqT.of upd_same, oa.mono sm⟩
    exact q a _ _ w1 ⟨_, _, slots_own ow (sl.mono sm) dj, P.newB hp, ii⟩
end
end Sm
namespace Sm
open PySem PySem.Spec PyProof.Rows L2 PySem.W TL
section
variable {F : Fx} {Γ Γ' Γ1 Γe : List Ent} {T : List (V × Own)} {σ : L2.St} {H H' : Hp} {v u : V} {Er : L2.St → Exn → Hp → Prop} {ρ α β γ S : Type} {W : R ρ → Prop} {D : Ends} {ta tb te ti : TE} {tt uu : TT} {tr : TA} {d : Dt} {n h j k : Nat}
theorem mtx_test {Γ' : α → List Ent} {m : R α} {b : α → Bool} (h : MX2 F Γe Er te Γ Γ' m fun a => .dat (.bl (b a))) : MTX F Γe Er (tTest te) Γ Γ' m b := fun _ W k T σ H ok w s Q q => h _ W k T σ H ok w s _ fun a v H1 w1 s1 => by
  obtain ⟨B, _, r⟩ := s1.topd
  exact ⟨b a, rp_bl r, q a H1 w1 s1.pop⟩
def MTN (F : Fx) (Γe : List Ent) (Er : L2.St → Exn → Hp → Prop) (tt : TT) (Γ : List Ent) (Γn : S → List Ent) (m : R (Bool × S)) : Prop := MTX F Γe Er tt Γ (fun x : Bool × S => Γn x.2) m fun x => x.1
theorem mtn_pure {Γn : S → List Ent} (s : S) {m : R Bool} (e : Γn s = Γ) (h : MT F Γe Er tt Γ m) : MTN F Γe Er tt Γ Γn (m.bind fun b => R.ok (b, s)) := fun _ W k T σ H ok w st Q q => by
  rw [R.bind_assoc] at w
  subst e
  exact h _ W _ T σ H ok w st _ fun b H1 w1 s1 _ => q (b, s) H1 w1 s1
theorem mtn_of {Γ' : α → List Ent} {m : R α} {b : α → Bool} {Γn : S → List Ent} (st : α → S) (e : ∀ a, Γ' a = Γn (st a)) (h : MTX F Γe Er tt Γ Γ' m b) : MTN F Γe Er tt Γ Γn (m.bind fun a => R.ok (b a, st a)) := fun _ W k T σ H ok w s Q q => by
  rw [R.bind_assoc] at w
  exact h _ W _ T σ H ok w s _ fun a H1 w1 s1 => q (b a, st a) H1 w1 (by rw [e] at s1; exact s1)
theorem mtn_not {Γn : S → List Ent} {m : R (Bool × S)} (h : MTN F Γe Er tt Γ Γn m) : MTN F Γe Er (tNot tt) Γ Γn (m.bind fun x => R.ok (!x.1, x.2)) := fun _ W k T σ H ok w s Q q => by
  rw [R.bind_assoc] at w
  exact h _ W _ T σ H ok w s _ fun x H1 w1 s1 => q (!x.1, x.2) H1 w1 s1
theorem mtn_or {Γn : S → List Ent} {m1 : R (Bool × S)} {m2 : S → R (Bool × S)} (h1 : MTN F Γe Er tt Γ Γn m1) (h2 : ∀ s, MTN F Γe Er uu (Γn s) Γn (m2 s)) : MTN F Γe Er (tOr tt uu) Γ Γn (m1.bind fun x => if x.1 = true then R.ok (true, x.2) else m2 x.2) := fun _ W k T σ H ok w s Q q => by
  rw [R.bind_assoc] at w
  refine h1 _ W _ T σ H ok w s _ fun x H1 w1 s1 => ?_
  obtain ⟨b, x⟩ := x
  cases b with
  | true =>
    show Q true H1
    exact q (true, x) H1 w1 s1
  | false =>
    show uu σ H1 Q
    exact h2 x _ W k T σ H1 ok w1 s1 Q fun a H2 w2 s2 => q a H2 w2 s2
theorem mx_op2 {r : R2} {Γ' : α → List Ent} {m : R α} {tx ty tz : α → Own} (h1 : MX2 F Γe Er ta Γ Γ' m tx) (h2 : ∀ a, Ev F tb (Γ' a) (ty a)) (ho : ∀ a, Op2 F r (tx a) (ty a) (tz a)) : MX2 F Γe Er (tOp r ta tb) Γ Γ' m tz := fun _ W k T σ H ok w s Q q =>
  h1 _ W k T σ H ok w s _ fun a x H1 w1 s1 => h2 a _ σ H1 s1 _ fun y H2 s2 _ => ho a _ _ σ H2 x y s2 Q fun z H3 s3 _ => q a z H3 w1 s3
theorem mx_op2G {r : R2} {Γ' : α → List Ent} {m : R α} {tx ty tz : α → Own} {p : α → Prop} [∀ a, Decidable (p a)] (h1 : MX2 F Γe Er ta Γ Γ' m tx) (h2 : ∀ a, Ev F tb (Γ' a) (ty a)) (ho : ∀ a, p a → Op2 F r (tx a) (ty a) (tz a)) : MX2 F Γe Er (tOp r ta tb) Γ Γ' (m.bind fun a => R.guard (p a) (R.ok a)) tz := fun _ W k T σ H ok w s Q q => by
  rw [R.bind_assoc] at w
  refine h1 _ W _ T σ H ok w s _ fun a x H1 w1 s1 => ?_
  have w1 : W (R.guard (p a) ((R.ok a).bind k)) := by
    unfold R.guard at w1 ⊢
    split at w1
    · rw [if_pos (by assumption)]; exact w1
    · exact absurd w1 ok.bad
  obtain ⟨g, w2⟩ := R.guard_ok ok w1
  exact h2 a _ σ H1 s1 _ fun y H2 s2 _ => ho a g _ _ σ H2 x y s2 Q fun z H3 s3 _ => q a z H3 w2 s3
end
end Sm
namespace Sm
open PySem PySem.Spec PyProof.Rows L2 PySem.W TL
def Adr.key (A : Adr) (k : Key) : Adr := ⟨fun σ H u => ∃ p kvs, A.at_ σ H (.ref p) ∧ H p = some (.dK kvs) ∧ valV kvs k = some u,
  fun ⟨p, kvs, a, b, c⟩ ⟨p', kvs', a', b', c'⟩ => by
    have e := A.fn a a'
    cases e
    rw [b] at b'
    cases b'
    rw [c] at c'
    cases c'
    rfl,
  fun s ⟨p, kvs, a, b, c⟩ => ⟨p, kvs, A.mono s a, s _ _ b, c⟩⟩
section
variable {K : PySem.W.Frag} {Γ Γ' : List Ent} {A : Adr} {t : Own} {put : Own → List Ent} {n j : Nat} {ks : List Key} {k : Key} {xs : List Own} {i : Int} {B B' : Hp}
end
section
variable {F : Fx} {Γ Γ' Γ1 Γe : List Ent} {T : List (V × Own)} {σ : L2.St} {H H' : Hp} {v u : V} {Er : L2.St → Exn → Hp → Prop} {ρ α β γ S : Type} {W : R ρ → Prop} {D : Ends} {ta tb te ti tk : TE} {tt uu : TT} {tr : TA} {d : Dt} {n h j : Nat} {A : Adr} {t : Own} {put : Own → List Ent} {ks : List Key} {k : Key} {xs : List Own} {x : List Nat}
end
section
variable {F : Fx} {Γ : List Ent} {td tk : TE} {α β : Type} [DecidableEq α] {kk : α → Key} {kq : α → List Key} {enc : β → Dt} {kvs : List (α × β)} {kd : α → Dt} {ky : α}
end
end Sm
namespace Sm
open PySem PySem.Spec PyProof.Rows L2 L2.DX PySem.W Sy
section
variable {F : Fx} {Γ Γ' Γe : List Ent} {T : List (V × Own)} {σ : L2.St} {H H' : Hp} {v : V} {Er : L2.St → Exn → Hp → Prop} {ρ α β γ δ S : Type} {W : R ρ → Prop} {D : Ends} {ta tb tc te td tk : TE} {tt : TT} {d e : Dt} {ds : List Dt} {n : Nat} {l : Addr} {od : Obj} {ks : List (List Key)} {us : List V} {t t0 : Own} {A : Adr} {put : Own → List Ent}
end
end Sm
namespace Sm
open PySem PySem.Spec PyProof.Rows L2 PySem.W
def oOpt {α : Type} (f : α → Own) : Option α → Own
  | none => .dat .non
  | some a => f a
section
variable {K : PySem.W.Frag} {Γ Γ' Γ1 Γe : List Ent} {A : Adr} {t : Own} {put : Own → List Ent} {u : V} {n : Nat}
theorem ow_at {B O : Hp} {v : V} (h : Ow K B (.at_ u t) O v) : v = u ∧ Ow K B t O v := by unfold Ow at h; exact h
theorem ow_at' {B O : Hp} {v : V} (h : v = u ∧ Ow K B t O v) : Ow K B (.at_ u t) O v := by unfold Ow; exact h
end
section
variable {F : Fx} {Γ Γ' Γ1 Γe Γx : List Ent} {T : List (V × Own)} {σ : L2.St} {H H' : Hp} {v u : V} {Er : L2.St → Exn → Hp → Prop} {ρ α β γ S : Type} {W : R ρ → Prop} {D : Ends} {ta tb tc te ti tk : TE} {tt : TT} {tr : TA} {d e : Dt} {ds : List Dt} {n j : Nat} {C : Addr} {fs : List Str} {f m' : Str} {xs ts : List Own} {A : Adr} {t : Own} {put : Own → List Ent} {i : Int}
theorem mv_noneO {fo : α → Own} : MV F Γe Er (tC .non) Γ (R.ok none) (oOpt fo) := mv_ok (t := oOpt fo) (a := none) ev_non
def MXN (F : Fx) (Γe : List Ent) (Er : L2.St → Exn → Hp → Prop) (te : TE) (Γ : List Ent) (Γn : S → List Ent) (m : R (Bool × S)) : Prop := MX2 F Γe Er te Γ (fun x : Bool × S => Γn x.2) m fun x => .dat (.bl x.1)
theorem mxn_pure {Γn : S → List Ent} (s : S) {m : R Bool} (e : Γn s = Γ) (h : MV F Γe Er te Γ m oB) : MXN F Γe Er te Γ Γn (m.bind fun b => R.ok (b, s)) := fun _ W k T σ H ok w st Q q => by
  rw [R.bind_assoc] at w
  subst e
  exact h _ W _ T σ H ok w st _ fun b v H1 w1 s1 _ => q (b, s) v H1 w1 s1
theorem mxn_of {Γ' : α → List Ent} {m : R α} {b : α → Bool} {Γn : S → List Ent} (st : α → S) (e : ∀ a, Γ' a = Γn (st a)) (h : MX2 F Γe Er te Γ Γ' m fun a => .dat (.bl (b a))) : MXN F Γe Er te Γ Γn (m.bind fun a => R.ok (b a, st a)) := fun _ W k T σ H ok w s Q q => by
  rw [R.bind_assoc] at w
  exact h _ W _ T σ H ok w s _ fun a v H1 w1 s1 => q (b a, st a) v H1 w1 (by rw [e] at s1; exact s1)
theorem mxn_and {Γn : S → List Ent} {m1 : R (Bool × S)} {m2 : S → R (Bool × S)} (h1 : MXN F Γe Er ta Γ Γn m1) (h2 : ∀ s, MXN F Γe Er tb (Γn s) Γn (m2 s)) : MXN F Γe Er (tAndV ta tb) Γ Γn (m1.bind fun x => if x.1 = true then m2 x.2 else R.ok (false, x.2)) := fun _ W k T σ H ok w s Q q => by
  rw [R.bind_assoc] at w
  refine h1 _ W _ T σ H ok w s _ fun x v H1 w1 s1 => ?_
  obtain ⟨b, x⟩ := x
  obtain ⟨B, eb, r⟩ := s1.topd
  unfold Rp at r
  subst r
  refine ⟨b, rfl, ?_⟩
  cases b with
  | true =>
    rw [if_pos rfl]
    exact h2 x _ W k T σ H1 ok w1 s1.pop Q fun a v H2 w2 s2 => q a v H2 w2 s2
  | false =>
    rw [if_neg Bool.false_ne_true]
    exact q (false, x) _ H1 w1 s1
end
end Sm
namespace Sm
open PySem PySem.Spec PyProof.Rows L2 PySem.W
section
variable {K : PySem.W.Frag} {B : Hp}
end
section
variable {F : Fx} {Γ Γ' Γ1 Γe Γx : List Ent} {T : List (V × Own)} {σ : L2.St} {H H' : Hp} {v u : V} {Er : L2.St → Exn → Hp → Prop} {ρ α β γ S : Type} {W : R ρ → Prop} {D : Ends} {ta tb tc te ti tk tp : TE} {to : TO} {tr : TA} {d e : Dt} {ds : List Dt} {n j : Nat} {l : Addr} {xs ts : List Own} {A : Adr} {t : Own} {put : Own → List Ent} {i : Int}
theorem map_nil : MAp F Γe Er tNil Γ Γ (R.ok ()) fun _ => [] := fun _ W k T σ H ok w s Q q => by
  obtain ⟨B, O, sl, p, ii⟩ := s
  exact q () [] H w ⟨B, emp, O, owa_nil, sl, emp_dj, by rw [emp_jn]; exact p, ii⟩
theorem map_slotC {m2 : R β} {ts : β → List Own} (he : Γ[n]? = some (some t)) (h2 : MAp F Γe Er tr (Γ.set n none) Γ' m2 ts) : MAp F Γe Er (tCons (tVar n) tr) Γ Γ' m2 fun b => t :: ts b := fun _ W k T σ H ok w s Q q => by
  obtain ⟨B, v, O1, O2, e1, a, dj, P, ii, _, _, k2⟩ := s.atn he
  refine ⟨v, e1, ?_⟩
  have s1 : Stt F (Γ.set n none) ((v, t) :: T) σ H := ⟨B, _, slots_own a (k2 B (Same.refl _)) dj, P, ii⟩
  refine h2 _ W _ ((v, t) :: T) σ H ok w s1 _ fun b vs H2 w2 A => ?_
  obtain ⟨B, Oa, Or, oa, sl, dj, p, ii⟩ := A
  rw [List.map_cons, List.map_cons] at sl
  unfold Slots at sl
  obtain ⟨w', r', P1, P2, e, a1, sl, d1, rfl⟩ := sl
  cases e
  have d2 : Dj Oa P1 := (Dj.l dj.symm).symm
  have d3 : Dj Oa P2 := (dj_jn_r dj.symm).symm
  refine q b (v :: vs) H2 w2 ⟨B, jn P1 Oa, P2, owa_cons a1 oa d2.symm, sl, Dj.jnl d1 d3, ?_, ii⟩
  rw [jn_comm d2.symm, jn_assoc]
  exact p
end
section
variable {X : Cx} {CX : CXT} {k : Nat} {f C : Addr} {fd : FuncData} {ps : List Str} {sp : Sp} {E : L2.St → XK} {x m : Str} {p pos apos : Pos} {e o : Expr} {es : List Expr} {t : TA}
end
section
variable {F : Fx} {Γ Γ' Γe : List Ent} {Er : L2.St → Exn → Hp → Prop} {α : Type} {tr : TA}
end
section
variable {F : Fx} {Γ Γe : List Ent} {Er : L2.St → Exn → Hp → Prop} {α γ : Type} {te : TE}
end
section
variable {F : Fx} {Γ Γ' Γe : List Ent} {T : List (V × Own)} {σ : L2.St} {H H' : Hp} {v : V} {Er : L2.St → Exn → Hp → Prop} {ρ α β γ S : Type} {W : R ρ → Prop} {ta tb te : TE} {tr : TA} {d : Dt} {ds : List Dt} {i : Int}
theorem SttA.pull {vs : List V} (h : SttA F Γ ((v, .dat d) :: T) vs ds σ H) : SttA F Γ T (v :: vs) (d :: ds) σ H := by
  obtain ⟨B, O, r, sl, p, ii⟩ := h
  rw [List.map_cons, List.map_cons] at sl
  unfold Slots at sl
  obtain ⟨w, r', P1, P2, e, a1, sl, d1, rfl⟩ := sl
  cases e
  obtain ⟨r1, rfl⟩ := a1.rp
  rw [emp_jn] at p
  exact ⟨B, P2, rpa_cons r1 r, sl, p, ii⟩
def MA2 (F : Fx) (Γe : List Ent) (Er : L2.St → Exn → Hp → Prop) (ta : TA) (Γ : List Ent) (Γ' : α → List Ent) (m : R α) (ds : α → List Dt) : Prop :=
  ∀ (ρ : Type) (W : R ρ → Prop) (k : α → R ρ) T σ H, WOk F Γe Er W → W (m.bind k) → Stt F Γ T σ H → ∀ Q : List V → Hp → Prop, (∀ a vs H', W (k a) → SttA F (Γ' a) T vs (ds a) σ H' → Q vs H') → ta σ H Q
theorem ma2_nil : MA2 F Γe Er tNil Γ (fun _ => Γ) (R.ok ()) fun _ => [] := fun _ W k T σ H ok w s Q q => q () [] H w (SttA.nil s)
theorem ma2_P {Γ' : α → List Ent} {m : R α} {ds : α → List Dt} (h : Ev F te Γ (.dat d)) (h2 : MA2 F Γe Er tr Γ Γ' m ds) : MA2 F Γe Er (tCons te tr) Γ Γ' m fun a => d :: ds a := fun _ W k T σ H ok w s Q q =>
  h T σ H s _ fun v H1 s1 _ => h2 _ W k _ σ H1 ok w s1 _ fun a vs H2 w2 A => q a (v :: vs) H2 w2 A.pull
theorem ma2_L {Γ1 : γ → List Ent} {Γ' : γ → α → List Ent} {d : γ → Dt} {m1 : R γ} {m : γ → R α} {ds : γ → α → List Dt} (h : MX2 F Γe Er te Γ Γ1 m1 fun b => .dat (d b)) (h2 : ∀ b, MA2 F Γe Er tr (Γ1 b) (Γ' b) (m b) (ds b)) :
    MA2 F Γe Er (tCons te tr) Γ (fun c : γ × α => Γ' c.1 c.2) (m1.bind fun b => (m b).bind fun a => R.ok (b, a)) fun c => d c.1 :: ds c.1 c.2 := fun _ W k T σ H ok w s Q q => by
  rw [R.bind_assoc] at w
  refine h _ W _ T σ H ok w s _ fun b v H1 w1 s1 => ?_
  rw [R.bind_assoc] at w1
  exact h2 b _ W _ _ σ H1 ok w1 s1 _ fun a vs H2 w2 A => q (b, a) (v :: vs) H2 w2 A.pull
theorem mx_callA2 {X : Type} {Ce : Exn → Addr} {n : Nat} {argT : X → List Dt} {m : X → R α} {enc : α → Dt} {Γ2 : γ → List Ent} {mx : R γ} {ds : γ → List Dt} {Ex : L2.St → XK} (x : γ → X)
    (ha : MA2 F Γe Er tr Γ Γ2 mx ds) (hx : ∀ b, argT (x b) = ds b) (hn : ∀ b, (ds b).length = n) (hE : ∀ σ e H', Er σ e H' → ErrAt Ce (Ex σ) e H') (wk : ∀ b, Wk (Γ2 b) Γe) :
    MX2 F Γe Er (tCallS (spD F.K Ce n argT m (oD enc)) Ex tr) Γ (fun c : γ × α => Γ2 c.1) (mx.bind fun b => (m (x b)).bind fun a => R.ok (b, a)) (fun c => .dat (enc c.2)) := fun _ W k T σ H ok w s Q q => by
  rw [R.bind_assoc] at w
  refine ha _ W _ T σ H ok w s _ fun b vs H1 w1 A => ?_
  rw [R.bind_assoc] at w1
  exact call_go (x b) (hx b) (hn b) A ok (hE σ) (wk b) w1 fun a v H2 w2 s2 => q (b, a) v H2 w2 s2
end
section
variable {F : Fx} {Γe : List Ent} {T : List (V × Own)} {σ : L2.St} {H : Hp} {Er : L2.St → Exn → Hp → Prop} {ρ α β γ δ S : Type} {W : R ρ → Prop} {te : TE}
end
def Dt.isLs : Dt → Bool
  | .lst _ => true
  | _ => false
def Dt.isTp : Dt → Bool
  | .tup _ => true
  | .kt _ => true
  | _ => false
def gZq (d e : Dt) : Prop := (Dt.isLs d = true ∧ Dt.isLs e = true) ∨ (Dt.isTp d = true ∧ Dt.isTp e = true)
instance (d e : Dt) : Decidable (gZq d e) := by unfold gZq; infer_instance
section
variable {F : Fx} {Γ Γe : List Ent} {T : List (V × Own)} {σ : L2.St} {H : Hp} {Er : L2.St → Exn → Hp → Prop} {ρ α β γ : Type} {W : R ρ → Prop} {ta tb te : TE} {d : Dt}
theorem SttA.re {vs : List V} {ds es : List Dt} (h : SttA F Γ T vs ds σ H) (k : ∀ B, RpA F.K B ds vs → RpA F.K B es vs) : SttA F Γ T vs es σ H := by
  obtain ⟨B, O, r, sl, p, ii⟩ := h
  exact ⟨B, O, k B r, sl, p, ii⟩
theorem ev_lenQ (g : Dt.isQ d = true) (h : Ev F te Γ (.dat d)) : Ev F (tCB (fun xs H Q => ∃ p ys, xs = [.ref p] ∧ (SqL F.K H p ys ∨ SqT F.K H p ys) ∧ Q (.int ys.length) H) (tCons te tNil)) Γ (.dat (.int ((Dt.asQ d).length : Int))) := by
  cases d with
  | lst l => exact ev_lenL (el_dat h)
  | tup l => exact ev_lenT h
  | kt l => exact ev_lenT (ds := l.map kDt) fun T σ H s Q q => h T σ H s _ fun v H1 s1 e1 => q v H1 (s1.re fun _ r => Rp.kt r) e1
  | _ => cases g
end
section
variable {F : Fx} {Γ Γe : List Ent} {Er : L2.St → Exn → Hp → Prop} {α β : Type} {ta tb tc te : TE} {t t' : Own} {A : Adr} {put : Own → List Ent}
end
end Sm
namespace L2
open PySem PySem.Spec PyProof.Rows
end L2
namespace Sm
open PySem PySem.Spec PyProof.Rows L2 PySem.W
section
variable {F : Fx} {Γ : List Ent} {td : TE} {β : Type}
end
section
variable {F : Fx} {Γ Γe : List Ent} {T : List (V × Own)} {σ : L2.St} {H H' : Hp} {v : V} {Er : L2.St → Exn → Hp → Prop} {ρ α β δ S : Type} {W : R ρ → Prop} {D : Ends} {ta tb tc te : TE} {n : Nat} [DecidableEq α] {kk : α → Key} {enc : β → Dt}
end
end Sm
namespace Sm
open PySem PySem.Spec PyProof.Rows L2 PySem.W
section
variable {F : Fx} {Γ Γ' Γ1 Γe : List Ent} {T : List (V × Own)} {σ : L2.St} {H H' : Hp} {v : V} {Er : L2.St → Exn → Hp → Prop} {ρ α β γ S : Type} {W : R ρ → Prop} {D : Ends} {ta tb tc te ti : TE} {tr : TA} {d : Dt} {ds : List Dt} {n j : Nat} {i : Int} {t t1 : Own} {ts : List Own} {A : Adr} {put : Own → List Ent} {C : Addr} {fs : List Str} {f m' : Str}
def DictOf (e : Exn) (d : Option Addr) (H : Hp) : Prop := match e with
  | .noDealing r => ∃ a, d = some a ∧ H a = some (.xd [(("row" : Str), V.int r)])
  | _ => d = none
end
section
variable {F : Fx} {Γ : List Ent} {α : Type} {te : TE}
end
end Sm
namespace PySem.W
open PySem PySem.Spec PySem.Calls PyProof.Rows
section
variable {prog : Program} {w : World} {A : Around} {E : Value → Shared → Prop} {s : Shared} {K : Frag} {x D : Addr} {ox : Obj} {od : Option Obj}
end
end PySem.W
namespace Sm
open PySem PySem.Spec PyProof.Rows L2 PySem.W
section
variable {F : Fx} {Γ Γ' Γe : List Ent} {T : List (V × Own)} {σ : L2.St} {H H' : Hp} {v : V} {Er : L2.St → Exn → Hp → Prop} {ρ α β γ δ S : Type} {W : R ρ → Prop} {D : Ends} {ta tb tc te : TE}
def DictAt (d : Option Addr) (H : Hp) : Prop := d = none ∨ ∃ dd fs, d = some dd ∧ H dd = some (.xd fs)
theorem DictOf.at_ {e : Exn} {d : Option Addr} (h : DictOf e d H) : DictAt d H := by
  cases e with
  | noDealing r => obtain ⟨a, e1, e2⟩ := h; exact .inr ⟨a, _, e1, e2⟩
  | _ => exact .inl h
theorem DictOf.same {e : Exn} {d : Option Addr} (h : DictOf e d H) (sm : Same H H') : DictOf e d H' := by
  cases e with
  | noDealing r => obtain ⟨a, e1, e2⟩ := h; exact ⟨a, e1, sm _ _ e2⟩
  | _ => exact h
def gML0 {α : Type} (xs : List α) (n : Int) : Prop := -1000000 ≤ n ∧ n ≤ 1000000 ∧ xs.length * n.toNat ≤ 16777216
instance {α : Type} (xs : List α) (n : Int) : Decidable (gML0 xs n) := by unfold gML0; infer_instance
instance instInhSum {α β : Type} [Inhabited α] : Inhabited (α ⊕ β) := ⟨.inl default⟩
theorem RH.snoc {K : PySem.W.Frag} {B : Hp} {σ : L2.St} {H : Hp} {di : Int} : ∀ {as : List Ah} {vs : List V}, RH K B σ H as vs → RH K B σ H (as ++ [.d (.int di)]) (vs ++ [.int di])
  | [], _, h => by rw [show _ = [] from h]; exact ⟨_, _, rfl, by unfold Rp; rfl, rfl⟩
  | .d x :: as, _, ⟨v, r, e1, h1, h2⟩ => ⟨v, _, by rw [e1]; rfl, h1, h2.snoc⟩
  | .p A :: as, _, ⟨v, r, e1, h1, h2⟩ => ⟨v, _, by rw [e1]; rfl, h1, h2.snoc⟩
  | .g A :: as, _, ⟨v, r, e1, h1, h2⟩ => ⟨v, _, by rw [e1]; rfl, h1, h2.snoc⟩
def Adr.con (w : V) : Adr := ⟨fun _ _ v => v = w, fun h k => h.trans k.symm, fun _ h => h⟩
theorem Stt.openT {t0 t1 t2 : Own} (s : Stt F Γ T σ H) (e : Γ[n]? = some (some (.tup [t0, t1, t2]))) : ∃ l v0 v1 v2, Stt F (Γ.set n (some (.at_ (.ref l) (.tup [.at_ v0 t0, .at_ v1 t1, .at_ v2 t2])))) T σ H := by
  obtain ⟨B, v, O1, O2, e1, a, dj, P, ii, sl, k, _⟩ := s.atn e
  unfold Ow at a
  obtain ⟨l, vs, rfl, hs, oa⟩ := a
  unfold OwA at oa
  obtain ⟨v0, r0, P0, Q0, rfl, a0, oa, d0, rfl⟩ := oa
  unfold OwA at oa
  obtain ⟨v1, r1, P1, Q1, rfl, a1, oa, d1, rfl⟩ := oa
  unfold OwA at oa
  obtain ⟨v2, r2, P2, Q2, rfl, a2, oa, d2, rfl⟩ := oa
  unfold OwA at oa
  obtain ⟨rfl, rfl⟩ := oa
  refine ⟨l, v0, v1, v2, B, _, k B _ _ (Same.refl _) (ow_at' ⟨rfl, ?_⟩) dj, P, ii⟩
  unfold Ow
  exact ⟨l, _, rfl, hs, owa_cons (ow_at' ⟨rfl, a0⟩) (owa_cons (ow_at' ⟨rfl, a1⟩) (owa_cons (ow_at' ⟨rfl, a2⟩) owa_nil d2) d1) d0⟩
theorem loc_conT {ts : List Own} {l : Addr} {w : V} {k : Nat} (he : Γ[n]? = some (some (.at_ (.ref l) (.tup ts)))) (hk : ts[k]? = some (.at_ w t)) : Loc F.K Γ (Adr.con w) t fun t' => Γ.set n (some (.at_ (.ref l) (.tup (ts.set k (.at_ w t'))))) := fun T B O σ sl => by
  obtain ⟨x, O1, Or, ax, a, dj, rfl, kk⟩ := loc_var he T B O σ sl
  obtain ⟨rfl, a⟩ := ow_at a
  unfold Ow at a
  obtain ⟨l', vs, el, hs, oa⟩ := a
  cases el
  obtain ⟨y, P1, P2, e1, a1, d1, rfl, q⟩ := oa.at hk
  obtain ⟨rfl, a2⟩ := ow_at a1
  have dr : Dj P1 Or := Dj.l dj
  have drr : Dj P2 Or := fun b => by
    rcases dj b with x | x
    · exact .inl (jn_none_iff.mp x).2
    · exact .inr x
  refine ⟨y, P1, jn P2 Or, rfl, a2, Dj.jnr d1 dr, jn_assoc, fun B' t' O1' s a' d' => ?_⟩
  have z := q B' (.at_ y t') O1' y s (ow_at' ⟨rfl, a'⟩) (Dj.rl d')
  rw [set_same e1] at z
  have z2 := kk B' (.at_ (.ref l) (.tup (ts.set k (.at_ y t')))) (jn O1' P2) s (ow_at' ⟨rfl, by unfold Ow; exact ⟨l, vs, rfl, sqt_mono s hs, z⟩⟩) (Dj.jnl (Dj.rr d') drr)
  rw [jn_assoc] at z2
  exact z2
theorem lv_conT {ts : List Own} {l : Addr} {w : V} {k : Nat} (he : Γ[n]? = some (some (.at_ (.ref l) (.tup ts)))) (hk : ts[k]? = some (.at_ w t)) (h2 : Ev F tb Γ (.dat (.int (k : Int)))) : Lv F (tOp (rIxT F.K) (tVar n) tb) Γ (Adr.con w) t fun t' => Γ.set n (some (.at_ (.ref l) (.tup (ts.set k (.at_ w t'))))) := ⟨loc_conT he hk, fun T σ H s Q q => by
  obtain ⟨B0, v0, O10, O20, e0, a0, _⟩ := s.atn he
  obtain ⟨rfl, _⟩ := ow_at a0
  refine ⟨.ref l, e0, h2 T σ H s _ fun y H1 s1 e2 => ?_⟩
  obtain ⟨B, _, ry⟩ := s1.topd
  obtain ⟨B1, v1, O1, O2, e1, a, dj, P, ii, sl, _⟩ := s1.pop.atn he
  rw [e0] at e1
  cases e1
  obtain ⟨_, a⟩ := ow_at a
  unfold Ow at a
  obtain ⟨l', us, el, hs, oa⟩ := a
  cases el
  obtain ⟨u, P1, P2, eu, a1, d1, _, _⟩ := oa.at hk
  obtain ⟨rfl, a2⟩ := ow_at a1
  refine ⟨l, us, (k : Int), u, rfl, rp_int ry, sqt_mono P.bh hs, ?_, q u H1 rfl e2 s1.pop⟩
  have hlt : k < us.length := (List.getElem?_eq_some_iff.mp eu).1
  have hb : inB us (k : Int) := ⟨by omega, by omega⟩
  rw [atI_of hb]
  have : ixI us (k : Int) = k := by unfold ixI; rw [if_pos (by omega)]; omega
  rw [this, eu]⟩
end
end Sm
namespace Sm
open PySem PySem.Spec PyProof.Rows L2 PySem.W
abbrev oTr {α β γ : Type} (a : α → Dt) (b : β → Dt) (c : γ → Dt) (p : α × List β × List γ) : Own := .tup [.dat (a p.1), oL b p.2.1, oL c p.2.2]
theorem rdo_oTr {α β γ : Type} {a : α → Dt} {b : β → Dt} {c : γ → Dt} {p : α × List β × List γ} : RdO (oTr a b c p) (e3 a (eL b) (eL c) p) := rdo_tup (rdoa_cons rdo_dat (rdoa_cons rdo_oL (rdoa_cons rdo_oL rdoa_nil)))
section
variable {F : Fx} {Γ Γ' Γ1 Γe : List Ent} {T : List (V × Own)} {σ : L2.St} {H H' : Hp} {v : V} {Er : L2.St → Exn → Hp → Prop} {ρ α β γ S : Type} {W : R ρ → Prop} {D : Ends} {ta tb te ti : TE} {d : Dt} {ds : List Dt} {n h j : Nat} {i : Int} {t t1 : Own} {ts : List Own} {A : Adr} {put : Own → List Ent} {l : Addr} {K : PySem.W.Frag}
theorem Stt.someO {fo : α → Own} [Inhabited α] {o : Option α} (g : o.isSome = true) (e : Γ[n]? = some (some (oOpt fo o))) (s : Stt F Γ T σ H) : Stt F (Γ.set n (some (fo (o.getD default)))) T σ H := by
  cases o with
  | none => cases g
  | some a =>
    have : Γ.set n (some (fo ((some a).getD default))) = Γ := set_same e
    rw [this]
    exact s
theorem any_plc {x : List Nat × Int} (xs : List (List Nat × Int)) : ((xs.map fun p => (eP p).py).any fun z => PyData.eqv z (eP x).py) = decide (x ∈ xs) := by
  rw [List.any_map]
  induction xs with
  | nil => rfl
  | cons y ys ih =>
    rw [List.any_cons, ih]
    show (PyData.eqv (eP y).py (eP x).py || _) = _
    rw [plc_eqvP]
    by_cases hx : y = x
    · subst hx; simp
    · have : ¬ x = y := fun z => hx z.symm
      simp [hx, this]
theorem mv_inPM {x : List Nat × Int} {m : R (List (List Nat × Int))} (h1 : Ev F ta Γ (.dat (eP x))) (h2 : ML F Γe Er tb Γ eP m) : MV F Γe Er (tOp (rInD F.K) ta tb) Γ (m.bind fun xs => R.guard (gQ2 (eP x) (eL eP xs)) (R.ok (decide (x ∈ xs)))) oB := fun _ W k T σ H ok w s Q q => by
  rw [R.bind_assoc] at w
  refine eq_d h1 T σ H s _ fun v H1 r1 st1 e1 => h2 _ W _ T σ H1 ok w st1 _ fun xs l vs H2 w2 hl s2 e2 => ?_
  by_cases g : gQ2 (eP x) (eL eP xs)
  · have w3 : W (k (decide (x ∈ xs))) := by
      unfold R.guard at w2
      rw [if_pos g] at w2
      exact w2
    obtain ⟨B, eb, r⟩ := s2.rvs
    have r2 : Rp F.K H2 (.lst (xs.map eP)) (.ref l) := by
      unfold Rp
      exact ⟨l, vs, rfl, hl, r.mono eb⟩
    have r2' := r2.dp g.2.1
    have e0 : Dt.py (.lst (xs.map eP)) = .list (xs.map fun p => (eP p).py) := by
      unfold Dt.py
      rw [pys_map, List.map_map]
      rfl
    have sh := g.2.2
    unfold eL at sh
    rw [e0] at r2' sh
    refine ⟨(eP x).py, _, (r1.mono e2).dp g.1.1, r2', g.1.2, sh, ?_⟩
    rw [any_plc]
    exact q _ _ H2 w3 (s2.pop.push fun _ _ => by unfold Rp; rfl) (e1.trans e2)
  · unfold R.guard at w2
    rw [if_neg g] at w2
    exact absurd w2 ok.bad
theorem rdo_oOpt {fo : α → Own} {e : α → Dt} (h : ∀ a, RdO (fo a) (e a)) {o : Option α} : RdO (oOpt fo o) (eO e o) := by
  cases o with
  | none => exact rdo_dat
  | some a => exact h a
end
end Sm
namespace Mi
open PySem L2 Sm
def ks_DOERS : List Str := ["plus", "minus", "times", "over", "rest", "under", "same"]
def k_DOERS : List (List Nat) := ks_DOERS.map lt
abbrev S_Run := ((List (List Dt)) × Int × (List ((List Nat) × Int)) × (List ((List Nat × Int) × Int)) × (List ((List Nat × Int) × Int)) × (List Int) × (List Nat))
def m_is_worth (v_thing : Int) : R Bool :=
  (R.ok ((!true) || false)).bind fun b => if b = true then (
  (R.ok false)) else (
  (R.ok (decide ((-(1000000000000000000000000000000 : Int)) ≤ v_thing) && decide (v_thing ≤ (1000000000000000000000000000000 : Int)))))
def m_comes_to (v_word : (List Nat)) (v_first : Int) (v_second : Int) : R Int :=
  (R.ok (decide (v_word = (lt "plus")))).bind fun b => if b = true then (
  (R.ok (v_first + v_second))) else (
  (R.ok (decide (v_word = (lt "minus")))).bind fun b => if b = true then (
  (R.ok (v_first - v_second))) else (
  (R.ok (decide (v_word = (lt "times")))).bind fun b => if b = true then (
  (R.guard (CMulW v_first v_second) (R.ok (v_first * v_second)))) else (
  (R.ok (decide (v_word = (lt "under")))).bind fun b => if b = true then (
  (R.ok (b2I (decide (v_first < v_second))))) else (
  (R.ok (decide (v_word = (lt "same")))).bind fun b => if b = true then (
  (R.ok (b2I (decide (v_first = v_second))))) else (
  (R.ok (decide (v_second = (0 : Int)))).bind fun b => if b = true then (
  R.err .nought) else (
  (R.ok (decide (v_word = (lt "over")))).bind fun b => if b = true then (
  (R.guard (CDivWN v_first v_second) (R.ok (Int.fdiv v_first v_second)))) else (
  (R.guard (CDivWN v_first v_second) (R.guard (CMulW (Int.fdiv v_first v_second) v_second) (R.ok (v_first - ((Int.fdiv v_first v_second) * v_second))))))))))))
def m_Run_init (v_code : (List (List Dt))) : R (Unit × S_Run) :=
  (R.ok v_code).bind fun a5 =>
  (R.ok (0 : Int)).bind fun a6 =>
  (R.ok ([] : (List ((List Nat) × Int)))).bind fun a7 =>
  (R.ok ([] : (List ((List Nat × Int) × Int)))).bind fun a8 =>
  (R.ok ([] : (List ((List Nat × Int) × Int)))).bind fun a9 =>
  (R.ok ([] : (List Int))).bind fun a10 =>
  (R.ok (lt "")).bind fun a11 =>
  (R.ok ((a5, a6, a7, a8, a9, a10, a11))).bind fun v_self =>
  R.ok ((), v_self)
def m_Run_init__L (z_code : (List (List Dt))) : R (Unit × S_Run × (List (List Dt))) :=
  (R.ok z_code).bind fun a12 =>
  (R.ok (0 : Int)).bind fun a13 =>
  (R.ok ([] : (List ((List Nat) × Int)))).bind fun a14 =>
  (R.ok ([] : (List ((List Nat × Int) × Int)))).bind fun a15 =>
  (R.ok ([] : (List ((List Nat × Int) × Int)))).bind fun a16 =>
  (R.ok ([] : (List Int))).bind fun a17 =>
  (R.ok (lt "")).bind fun a18 =>
  (R.ok ((a12, a13, a14, a15, a16, a17, a18))).bind fun v_self =>
  R.ok ((), v_self, z_code)
def m_Run_over (v_self : S_Run) : R Bool :=
  (R.ok ((!decide (v_self.2.2.2.2.2.2 = (lt ""))) || (decide ((v_self.1.length : Int) ≤ v_self.2.1))))
def m_law_cell_at (v_script : (List Int)) (v_k : Int) : R Int :=
  (R.ok (decide (v_k < (v_script.length : Int)))).bind fun b => if b = true then (
  (R.guard (inB v_script v_k) (R.ok (getI v_script v_k)))) else (
  (R.ok (0 : Int)))
def m_law_draw (v_cell : Int) (v_j : Int) : R Int :=
  (R.guard (0 < (1000000007 : Int)) (R.guard (CMulW (v_cell % (1000000007 : Int)) (6700417 : Int)) (R.guard (CMulW (v_j + (1 : Int)) (104729 : Int)) (R.guard (CMulW ((v_j + (1 : Int)) * (104729 : Int)) (65537 : Int)) (R.guard (0 < (1000000009 : Int)) (R.ok ((((v_cell % (1000000007 : Int)) * (6700417 : Int)) + (((v_j + (1 : Int)) * (104729 : Int)) * (65537 : Int))) % (1000000009 : Int)))))))).bind fun v_far =>
  (R.guard (CMulW v_far v_far) (R.guard (0 < (1000000009 : Int)) (R.guard (CMulW ((v_far * v_far) % (1000000009 : Int)) v_far) (R.guard (0 < (1000000009 : Int)) (R.guard (CDivW ((((v_far * v_far) % (1000000009 : Int)) * v_far) % (1000000009 : Int)) (32 : Int)) (R.ok (((((v_far * v_far) % (1000000009 : Int)) * v_far) % (1000000009 : Int)) / (32 : Int))))))))
def m_law_closed (z_frames : (List (Dt × Dt × (List Dt)))) : R (Unit × (List (Dt × Dt × (List Dt)))) :=
  (popR z_frames).bind fun a30 =>
  (R.ok (a30.2)).bind fun v_frames =>
  (R.ok (a30.1)).bind fun v_frame =>
  (R.ok (Dt.isN v_frame.2.1)).bind fun b => if b = true then (
  R.guard (inB v_frames (-(1 : Int))) ((R.ok ((e4 eS eA (eL eA) (eL eA)) ((lt "if"), v_frame.1, v_frame.2.2, ([] : (List Dt))))).bind fun a33 => R.guard (gL (getI v_frames (-(1 : Int))).2.2) ((R.ok ((getI v_frames (-(1 : Int))).2.2 ++ [a33])).bind fun v32 =>
  (R.ok ((setI v_frames (-(1 : Int)) ((getI v_frames (-(1 : Int))).1, (getI v_frames (-(1 : Int))).2.1, v32)))).bind fun v_frames =>
  R.ok ((), v_frames)))) else (
  R.guard (inB v_frames (-(1 : Int))) ((R.ok ((e4 eS eA eA (eL eA)) ((lt "if"), v_frame.1, v_frame.2.1, v_frame.2.2))).bind fun a36 => R.guard (gL (getI v_frames (-(1 : Int))).2.2) ((R.ok ((getI v_frames (-(1 : Int))).2.2 ++ [a36])).bind fun v35 =>
  (R.ok ((setI v_frames (-(1 : Int)) ((getI v_frames (-(1 : Int))).1, (getI v_frames (-(1 : Int))).2.1, v35)))).bind fun v_frames =>
  R.ok ((), v_frames))))
def m_law_is_place (v_found : (List Nat × Int)) : R Bool :=
  (R.ok ((!true) || ((!decide ((2 : Int) = (2 : Int))) || (!true)))).bind fun b => if b = true then (
  (R.ok false)) else (
  (R.ok (true && (!false))))
def m_law_same_L1 (v_note : Dt) : R (Ctl Unit Bool) :=
  (R.or (R.guard (gOb v_note) (R.ok (!(Dt.isT "tuple" v_note)))) (R.or (R.guard (Dt.isQ v_note = true) (R.ok (!decide (((Dt.asQ v_note).length : Int) = (2 : Int))))) (R.guard (Dt.isU v_note = true) (R.guard (inB (Dt.asU v_note) (1 : Int)) (R.guard (gOb (getI (Dt.asU v_note) (1 : Int))) (R.ok (Dt.isT "bool" (getI (Dt.asU v_note) (1 : Int))))))))).bind fun b => if b = true then (
  (R.ok false).bind fun r => R.ok (Ctl.rt r)) else (
  R.ok (Ctl.nx ()))
def m_law_same_J1 (v_paper : Dt) (v_noted : (List ((List Nat × Int) × Int))) : R Bool :=
  (R.guard (Dt.isU v_paper = true) (R.guard (inB (Dt.asU v_paper) (1 : Int)) (R.guard (gQ2 (eA (getI (Dt.asU v_paper) (1 : Int))) ((eL (e2 eP eI)) v_noted)) (R.ok (eqD (eA (getI (Dt.asU v_paper) (1 : Int))) ((eL (e2 eP eI)) v_noted))))))
def m_law_same (v_paper : Dt) (v_noted : (List ((List Nat × Int) × Int))) : R Bool :=
  (R.or (R.guard (gOb v_paper) (R.ok (!(Dt.isT "tuple" v_paper)))) (R.or (R.guard (Dt.isQ v_paper = true) (R.ok (!decide (((Dt.asQ v_paper).length : Int) = (3 : Int))))) (R.guard (Dt.isU v_paper = true) (R.guard (inB (Dt.asU v_paper) (1 : Int)) (R.guard (gOb (getI (Dt.asU v_paper) (1 : Int))) (R.ok (!(Dt.isT "list" (getI (Dt.asU v_paper) (1 : Int)))))))))).bind fun b => if b = true then (
  (R.ok false)) else (
  ((((R.guard (Dt.isU v_paper = true) (R.guard (inB (Dt.asU v_paper) (1 : Int)) (R.ok (getI (Dt.asU v_paper) (1 : Int))))).bind fun d => R.guard (Dt.isQ d = true) (R.ok d)).bind fun c57 => forR (fun y44 (s45 : Unit) => m_law_same_L1 y44) (Dt.asQ c57) ()) : R (Ctl Unit Bool)).bind fun c => c.fin fun s45 => m_law_same_J1 v_paper v_noted)
def m_reckoned_J1 (v_parts : (List Int)) : R (List Int) :=
  R.ok v_parts
def m_reckoned_L1 (v_slots : (List ((List Nat) × Int))) (v_parts : (List Int)) (v_part : Dt) : R (List Int) :=
  (R.guard (flatD v_part = true) (R.ok (inA v_part k_DOERS))).bind fun b => if b = true then (
  (popR v_parts).bind (R.sp2 fun v_second v_parts =>
  (R.guard (Dt.isX v_part = true) ((popR v_parts).bind fun b => (m_comes_to (Dt.asX v_part) b.1 v_second).bind fun r => R.ok (r, b.2))).bind (R.sp2 fun v_worth v_parts =>
  (R.not (m_is_worth v_worth)).bind fun b => if b = true then (
  R.err .great) else (
  (R.ok v_worth).bind fun a71 => R.guard (gL v_parts) ((R.ok (v_parts ++ [a71])).bind fun v_parts =>
  R.ok v_parts))))) else (
  (((R.guard (gOb v_part) (R.ok (Dt.isT "int" v_part))).bind fun b => if b = true then (
  (R.guard (Dt.isI v_part = true) (R.ok (Dt.asI v_part))).bind fun a77 => R.guard (gL v_parts) ((R.ok (v_parts ++ [a77])).bind fun v_parts =>
  R.ok v_parts)) else (
  (R.guard (Dt.isX v_part = true) (R.ok ((getD? v_slots (Dt.asX v_part)).getD (0 : Int)))).bind fun a79 => R.guard (gL v_parts) ((R.ok (v_parts ++ [a79])).bind fun v_parts =>
  R.ok v_parts))) : R (List Int)).bind fun s73 => m_reckoned_J1 s73)
def m_reckoned_J2 (v_parts : (List Int)) : R Int :=
  (R.guard (inB v_parts (0 : Int)) (R.ok (getI v_parts (0 : Int))))
def m_reckoned (v_term : (List Dt)) (v_slots : (List ((List Nat) × Int))) : R Int :=
  (R.ok ([] : (List Int))).bind fun v_parts =>
  ((R.ok v_term).bind fun c80 => foldR (fun y61 (s62 : (List Int)) => m_reckoned_L1 v_slots s62 y61) c80 v_parts).bind fun s62 => m_reckoned_J2 s62
def m_Run_paper (z_self : S_Run) : R ((Option (((List Nat) × Dt) × (List ((List Nat × Int) × Int)) × (List ((List Nat × Int) × Int)))) × S_Run) :=
  (R.not (m_Run_over z_self)).bind fun b => if b = true then (
  (R.ok (none : (Option (((List Nat) × Dt) × (List ((List Nat × Int) × Int)) × (List ((List Nat × Int) × Int)))))).bind fun r82 => R.ok (r82, z_self)) else (
  (R.ok z_self.2.2.2.2.1).bind fun v_notes =>
  (R.ok (!decide (z_self.2.2.2.2.2.2 = (lt "")))).bind fun b => if b = true then (
  ((R.ok ((lt "off"), (eS z_self.2.2.2.2.2.2))).bind fun a => ((R.ok ([] : (List ((List Nat × Int) × Int)))).bind fun a => (R.ok ()).bind fun b => R.ok (a, b)).bind fun b => R.ok (a, b)).bind fun x83 => R.ok ((some (x83.1, v_notes, x83.2.1)), z_self)) else (
  ((R.ok ((lt "done"), ((eU eI) z_self.2.2.2.2.2.1))).bind fun a => ((R.ok (sortX (e2 eP eI) z_self.2.2.2.1)).bind fun a => (R.ok ()).bind fun b => R.ok (a, b)).bind fun b => R.ok (a, b)).bind fun x85 => R.ok ((some (x85.1, v_notes, x85.2.1)), z_self)))
def m_law_names_L1 (v_cell : Int) (v_signs : (List Nat)) (v_stem : (List Nat)) (v_k : Int) : R (List Nat) :=
  ((R.ok v_stem).bind fun x109 => (((R.ok v_signs).bind fun x106 => ((m_law_draw v_cell ((2 : Int) + v_k)).bind fun x103 => (R.guard (gS v_signs) (R.ok (v_signs.length : Int))).bind fun x104 => R.guard (0 < x104) (R.ok (x103 % x104))).bind fun x107 => R.guard (gS x106 ∧ inB x106 x107) (R.ok (getI x106 x107))).bind fun a => R.ok [a]).bind fun x110 => R.guard (gS (x109 ++ x110)) (R.ok (x109 ++ x110))).bind fun v_stem =>
  R.ok v_stem
def m_law_names_C1 (v_signs : (List Nat)) (v_stem : (List Nat)) (v_at : Int) (v_k : Int) : R (List Nat) := (R.guard (gS v_stem) (R.guard (gS v_signs ∧ inB v_signs v_k) (R.guard (gS ((cutL v_stem none (some v_at)) ++ [(getI v_signs v_k)])) (R.guard (gS v_stem) (R.guard (gS (((cutL v_stem none (some v_at)) ++ [(getI v_signs v_k)]) ++ (cutL v_stem (some (v_at + (1 : Int))) none))) (R.ok (((cutL v_stem none (some v_at)) ++ [(getI v_signs v_k)]) ++ (cutL v_stem (some (v_at + (1 : Int))) none))))))))
def m_law_names_J2 (v_cell : Int) (v_many : Int) (v_size : Int) (v_signs : (List Nat)) (v_stem : (List Nat)) : R (List (List Nat)) :=
  ((m_law_draw v_cell (8 : Int)).bind fun x113 => (R.ok v_size).bind fun x114 => R.guard (0 < x114) (R.ok (x113 % x114))).bind fun v_at =>
  ((m_law_draw v_cell (9 : Int)).bind fun x117 => (R.guard (gS v_signs) (R.ok (v_signs.length : Int))).bind fun x118 => R.guard (0 < x118) (R.ok (x117 % x118))).bind fun v_turn =>
  (R.guard (gS v_signs) (R.guard (gS v_signs) (R.guard (gS ((cutL v_signs (some v_turn) none) ++ (cutL v_signs none (some v_turn)))) (R.ok ((cutL v_signs (some v_turn) none) ++ (cutL v_signs none (some v_turn))))))).bind fun v_signs =>
  (((R.ok v_many).bind fun j => R.guard (gR j) (R.ok j)).bind fun c => R.guard ((rng 0 c).length ≤ 16777216) (mapR (fun x => m_law_names_C1 v_signs v_stem v_at x) (rng 0 c)))
def m_law_names_J1 (v_cell : Int) (v_many : Int) (v_size : Int) (v_signs : (List Nat)) : R (List (List Nat)) :=
  (R.ok (lt "")).bind fun v_stem =>
  (((R.ok v_size).bind fun j => R.guard (gR j) (R.ok j)).bind fun c112 => foldR (fun y95 (s96 : (List Nat)) => m_law_names_L1 v_cell v_signs s96 y95) (rng 0 c112) v_stem).bind fun s96 => m_law_names_J2 v_cell v_many v_size v_signs s96
def m_law_names (v_cell : Int) (v_many : Int) : R (List (List Nat)) :=
  ((R.ok (1 : Int)).bind fun x90 => ((m_law_draw v_cell (1 : Int)).bind fun x87 => (R.ok (6 : Int)).bind fun x88 => R.guard (0 < x88) (R.ok (x87 % x88))).bind fun x91 => R.ok (x90 + x91)).bind fun v_size =>
  (R.ok (lt "zyxwvtsrqpnmlkjhgfdcb")).bind fun v_signs =>
  (((R.ok (decide (v_size = (6 : Int)))).bind fun b => if b = true then (
  (R.ok (lt "zyxwvutsrqponmlkjihgfedcba")).bind fun v_signs =>
  R.ok v_signs) else (
  R.ok v_signs)) : R (List Nat)).bind fun s92 => m_law_names_J1 v_cell v_many v_size s92
def m_law_worth (v_cell : Int) (v_j : Int) : R Int :=
  ((m_law_draw v_cell v_j).bind fun x129 => (R.ok (4 : Int)).bind fun x130 => R.guard (0 < x130) (R.ok (x129 % x130))).bind fun v_way =>
  (R.ok (decide (v_way = (0 : Int)))).bind fun b => if b = true then (
  (R.ok (0 : Int))) else (
  (R.ok (decide (v_way = (1 : Int)))).bind fun b => if b = true then (
  (R.guard (CPow (10 : Int) (40 : Int)) (R.guard (0 < ((10 : Int) ^ (40 : Int).toNat)) (R.guard (CMulW (v_cell % ((10 : Int) ^ (40 : Int).toNat)) (v_j + (2 : Int))) (R.guard (CMulW ((v_cell % ((10 : Int) ^ (40 : Int).toNat)) * (v_j + (2 : Int))) (1000003 : Int)) (R.guard (CPow (10 : Int) (30 : Int)) (R.guard (CMulW (2 : Int) ((10 : Int) ^ (30 : Int).toNat)) (R.guard (0 < (((2 : Int) * ((10 : Int) ^ (30 : Int).toNat)) + (1 : Int))) (R.guard (CPow (10 : Int) (30 : Int)) (R.ok ((((((v_cell % ((10 : Int) ^ (40 : Int).toNat)) * (v_j + (2 : Int))) * (1000003 : Int)) + v_j) % (((2 : Int) * ((10 : Int) ^ (30 : Int).toNat)) + (1 : Int))) - ((10 : Int) ^ (30 : Int).toNat)))))))))))) else (
  (((m_law_draw v_cell (v_j + (1 : Int))).bind fun x140 => (R.ok (5 : Int)).bind fun x141 => R.guard (0 < x141) (R.ok (x140 % x141))).bind fun x143 => (R.ok (2 : Int)).bind fun x144 => R.ok (x143 - x144))))
def m_Run_asks_H1 (e153 : Exn)  : R (Ctl Int (Option (List Nat × Int))) := (R.ok none).bind fun r => R.ok (Ctl.rt r)
def m_Run_asks_H2 (e153 : Exn)  : R (Ctl Int (Option (List Nat × Int))) := (R.ok none).bind fun r => R.ok (Ctl.rt r)
def m_Run_asks_J1 (v_self : S_Run) (v_row : (List Dt)) (v_number : Int) : R (Option (List Nat × Int)) :=
  (R.guard (inB v_row (1 : Int)) (R.guard (Dt.isX (getI v_row (1 : Int)) = true) (R.ok ((Dt.asX (getI v_row (1 : Int))), v_number)))).bind fun v_place =>
  (R.ok ((getD? v_self.2.2.2.1 v_place).isSome || (getD? v_self.2.2.2.2.1 v_place).isSome)).bind fun b => if b = true then (
  (R.ok none)) else (
  (R.ok (some v_place)))
def m_Run_asks (v_self : S_Run) : R (Option (List Nat × Int)) :=
  (R.or (m_Run_over v_self) (R.guard (inB v_self.1 v_self.2.1) (R.guard (inB (getI v_self.1 v_self.2.1) (0 : Int)) (R.guard (Dt.isX (getI (getI v_self.1 v_self.2.1) (0 : Int)) = true) (R.ok (!decide ((Dt.asX (getI (getI v_self.1 v_self.2.1) (0 : Int))) = (lt "take")))))))).bind fun b => if b = true then (
  (R.ok none)) else (
  (R.guard (inB v_self.1 v_self.2.1) (R.ok (getI v_self.1 v_self.2.1))).bind fun v_row =>
  (R.tryC ((R.guard (inB v_row (2 : Int)) (R.guard (Dt.isU (getI v_row (2 : Int)) = true) (m_reckoned (Dt.asU (getI v_row (2 : Int))) v_self.2.2.1))).bind fun v_number =>
  R.ok (Ctl.nx v_number)) (fun e => Exn.is "Great" e || Exn.is "Nought" e) (fun e153 => if Exn.is "Great" e153 = true then m_Run_asks_H1 e153  else m_Run_asks_H2 e153 ) : R (Ctl Int (Option (List Nat × Int)))).bind fun c => c.fin fun s149 => m_Run_asks_J1 v_self v_row s149)
def m_Run_straight_J1 (v_self : S_Run) : R (Unit × S_Run) :=
  R.ok ((), v_self)
def m_Run_straight_J2 (v_self : S_Run) : R (Unit × S_Run) :=
  R.ok ((), v_self)
def m_Run_straight (z_self : S_Run) (v_row : (List Dt)) (v_worth : Int) : R (Unit × S_Run) :=
  (R.guard (inB v_row (0 : Int)) (R.guard (Dt.isX (getI v_row (0 : Int)) = true) (R.ok (Dt.asX (getI v_row (0 : Int)))))).bind fun v_word =>
  (R.ok (decide (v_word = (lt "take")))).bind fun b => if b = true then (
  ((R.guard (inB v_row (1 : Int)) (R.guard (Dt.isX (getI v_row (1 : Int)) = true) ((R.guard (inB v_row (2 : Int)) (R.guard (Dt.isU (getI v_row (2 : Int)) = true) (m_reckoned (Dt.asU (getI v_row (2 : Int))) z_self.2.2.1))).bind fun a => (R.ok ()).bind fun b => R.ok (a, b)))).bind fun x172 => R.ok ((Dt.asX (getI v_row (1 : Int))), x172.1)).bind fun v_place =>
  (((R.ok (getD? z_self.2.2.2.1 v_place).isSome).bind fun b => if b = true then (
  R.guard (inB v_row (3 : Int)) (R.guard (Dt.isX (getI v_row (3 : Int)) = true) ((R.guard ((getD? z_self.2.2.2.1 v_place).isSome = true) (R.ok ((getD? z_self.2.2.2.1 v_place).getD default))).bind fun a179 => R.guard (gL z_self.2.2.1) ((R.ok (putD z_self.2.2.1 (Dt.asX (getI v_row (3 : Int))) a179)).bind fun v180 =>
  (R.ok ((z_self.1, z_self.2.1, v180, z_self.2.2.2.1, z_self.2.2.2.2.1, z_self.2.2.2.2.2.1, z_self.2.2.2.2.2.2))).bind fun v_self =>
  R.ok v_self)))) else (
  R.guard (inB v_row (3 : Int)) (R.guard (Dt.isX (getI v_row (3 : Int)) = true) ((R.guard (gL z_self.2.2.2.2.1) (R.ok (((getD? z_self.2.2.2.2.1 v_place).getD v_worth, setdD z_self.2.2.2.2.1 v_place v_worth) : (Int × (List ((List Nat × Int) × Int)))))).bind fun a181 => R.guard (gL (z_self.1, z_self.2.1, z_self.2.2.1, z_self.2.2.2.1, a181.2, z_self.2.2.2.2.2.1, z_self.2.2.2.2.2.2).2.2.1) ((R.ok (putD (z_self.1, z_self.2.1, z_self.2.2.1, z_self.2.2.2.1, a181.2, z_self.2.2.2.2.2.1, z_self.2.2.2.2.2.2).2.2.1 (Dt.asX (getI v_row (3 : Int))) a181.1)).bind fun v182 =>
  (R.ok (((z_self.1, z_self.2.1, z_self.2.2.1, z_self.2.2.2.1, a181.2, z_self.2.2.2.2.2.1, z_self.2.2.2.2.2.2).1, (z_self.1, z_self.2.1, z_self.2.2.1, z_self.2.2.2.1, a181.2, z_self.2.2.2.2.2.1, z_self.2.2.2.2.2.2).2.1, v182, (z_self.1, z_self.2.1, z_self.2.2.1, z_self.2.2.2.1, a181.2, z_self.2.2.2.2.2.1, z_self.2.2.2.2.2.2).2.2.2.1, (z_self.1, z_self.2.1, z_self.2.2.1, z_self.2.2.2.1, a181.2, z_self.2.2.2.2.2.1, z_self.2.2.2.2.2.2).2.2.2.2.1, (z_self.1, z_self.2.1, z_self.2.2.1, z_self.2.2.2.1, a181.2, z_self.2.2.2.2.2.1, z_self.2.2.2.2.2.2).2.2.2.2.2.1, (z_self.1, z_self.2.1, z_self.2.2.1, z_self.2.2.2.1, a181.2, z_self.2.2.2.2.2.1, z_self.2.2.2.2.2.2).2.2.2.2.2.2))).bind fun v_self =>
  R.ok v_self))))) : R S_Run).bind fun s173 => m_Run_straight_J1 s173) else (
  (((R.ok (decide (v_word = (lt "give")))).bind fun b => if b = true then (
  ((R.guard (inB v_row (1 : Int)) (R.guard (Dt.isX (getI v_row (1 : Int)) = true) ((R.guard (inB v_row (2 : Int)) (R.guard (Dt.isU (getI v_row (2 : Int)) = true) (m_reckoned (Dt.asU (getI v_row (2 : Int))) z_self.2.2.1))).bind fun a => (R.ok ()).bind fun b => R.ok (a, b)))).bind fun x192 => R.ok ((Dt.asX (getI v_row (1 : Int))), x192.1)).bind fun v_place =>
  (R.guard (inB v_row (3 : Int)) (R.guard (Dt.isU (getI v_row (3 : Int)) = true) (m_reckoned (Dt.asU (getI v_row (3 : Int))) z_self.2.2.1))).bind fun a195 => R.guard (gL z_self.2.2.2.1) ((R.ok (putD z_self.2.2.2.1 v_place a195)).bind fun v196 =>
  (R.ok ((z_self.1, z_self.2.1, z_self.2.2.1, v196, z_self.2.2.2.2.1, z_self.2.2.2.2.2.1, z_self.2.2.2.2.2.2))).bind fun v_self =>
  R.ok v_self)) else (
  (R.ok (decide (v_word = (lt "let")))).bind fun b => if b = true then (
  R.guard (inB v_row (1 : Int)) (R.guard (Dt.isX (getI v_row (1 : Int)) = true) ((R.guard (inB v_row (2 : Int)) (R.guard (Dt.isU (getI v_row (2 : Int)) = true) (m_reckoned (Dt.asU (getI v_row (2 : Int))) z_self.2.2.1))).bind fun a201 => R.guard (gL z_self.2.2.1) ((R.ok (putD z_self.2.2.1 (Dt.asX (getI v_row (1 : Int))) a201)).bind fun v202 =>
  (R.ok ((z_self.1, z_self.2.1, v202, z_self.2.2.2.1, z_self.2.2.2.2.1, z_self.2.2.2.2.2.1, z_self.2.2.2.2.2.2))).bind fun v_self =>
  R.ok v_self)))) else (
  (R.guard (inB v_row (1 : Int)) (R.guard (Dt.isU (getI v_row (1 : Int)) = true) (m_reckoned (Dt.asU (getI v_row (1 : Int))) z_self.2.2.1))).bind fun a204 => R.guard (gL z_self.2.2.2.2.2.1) ((R.ok (z_self.2.2.2.2.2.1 ++ [a204])).bind fun v203 =>
  (R.ok ((z_self.1, z_self.2.1, z_self.2.2.1, z_self.2.2.2.1, z_self.2.2.2.2.1, v203, z_self.2.2.2.2.2.2))).bind fun v_self =>
  R.ok v_self)))) : R S_Run).bind fun s185 => m_Run_straight_J2 s185)
def m_law_spot (v_cell : Int) (v_slots : (List (List Nat))) : R (List Dt) :=
  ((m_law_draw v_cell (20 : Int)).bind fun x207 => (R.ok (6 : Int)).bind fun x208 => R.guard (0 < x208) (R.ok (x207 % x208))).bind fun v_way =>
  (R.ok (decide (v_way = (0 : Int)))).bind fun b => if b = true then (
  (((((R.ok v_slots).bind fun x213 => ((m_law_draw v_cell (21 : Int)).bind fun x210 => (R.ok (2 : Int)).bind fun x211 => R.guard (0 < x211) (R.ok (x210 % x211))).bind fun x214 => R.guard (inB x213 x214) (R.ok (getI x213 x214))).bind fun a => R.ok (eS a)).bind fun a => (R.ok ()).bind fun b => R.ok (a, b)).bind fun x215 => R.ok ([x215.1] : (List Dt)))) else (
  (R.ok (decide (v_way = (1 : Int)))).bind fun b => if b = true then (
  (((((R.ok v_slots).bind fun x219 => ((m_law_draw v_cell (21 : Int)).bind fun x216 => (R.ok (2 : Int)).bind fun x217 => R.guard (0 < x217) (R.ok (x216 % x217))).bind fun x220 => R.guard (inB x219 x220) (R.ok (getI x219 x220))).bind fun a => R.ok (eS a)).bind fun a => (((m_law_worth v_cell (22 : Int)).bind fun a => R.ok (eI a)).bind fun a => ((((R.ok ([(lt "plus"), (lt "over")] : (List (List Nat)))).bind fun x224 => ((m_law_draw v_cell (24 : Int)).bind fun x221 => (R.ok (2 : Int)).bind fun x222 => R.guard (0 < x222) (R.ok (x221 % x222))).bind fun x225 => R.guard (inB x224 x225) (R.ok (getI x224 x225))).bind fun a => R.ok (eS a)).bind fun a => (R.ok ()).bind fun b => R.ok (a, b)).bind fun b => R.ok (a, b)).bind fun b => R.ok (a, b)).bind fun x226 => R.ok ([x226.1, x226.2.1, x226.2.2.1] : (List Dt)))) else (
  ((((((m_law_draw v_cell (25 : Int)).bind fun x227 => (R.ok (5 : Int)).bind fun x228 => R.guard (0 < x228) (R.ok (x227 % x228))).bind fun x230 => (R.ok (2 : Int)).bind fun x231 => R.ok (x230 - x231)).bind fun a => R.ok (eI a)).bind fun a => (R.ok ()).bind fun b => R.ok (a, b)).bind fun x232 => R.ok ([x232.1] : (List Dt)))))
def m_Run_behind_J1 (v_self : S_Run) : R (Ctl S_Run (Int × S_Run)) :=
  R.ok (Ctl.nx v_self)
def m_Run_behind_J2 (v_self : S_Run) : R (Int × S_Run) :=
  (R.ok (v_self.2.1 + (1 : Int))).bind fun r259 => R.ok (r259, v_self)
def m_Run_behind (z_self : S_Run) (v_row : (List Dt)) (v_worth : Int) : R (Int × S_Run) :=
  (R.guard (inB v_row (0 : Int)) (R.guard (Dt.isX (getI v_row (0 : Int)) = true) (R.ok (Dt.asX (getI v_row (0 : Int)))))).bind fun v_word =>
  (R.ok (decide (v_word = (lt "go")))).bind fun b => if b = true then (
  (R.guard (inB v_row (1 : Int)) (R.guard (Dt.isI (getI v_row (1 : Int)) = true) (R.ok (Dt.asI (getI v_row (1 : Int)))))).bind fun r237 => R.ok (r237, z_self)) else (
  (((R.ok (decide (v_word = (lt "skip")))).bind fun b => if b = true then (
  ((R.guard (inB v_row (1 : Int)) (R.guard (Dt.isU (getI v_row (1 : Int)) = true) (m_reckoned (Dt.asU (getI v_row (1 : Int))) z_self.2.2.1))).bind fun x244 => (R.ok (0 : Int)).bind fun x245 => R.ok (decide (x244 = x245))).bind fun b => if b = true then (
  (R.guard (inB v_row (2 : Int)) (R.guard (Dt.isI (getI v_row (2 : Int)) = true) (R.ok (Dt.asI (getI v_row (2 : Int)))))).bind fun r => R.ok (Ctl.rt (r, z_self))) else (
  R.ok (Ctl.nx z_self))) else (
  (R.ok (decide (v_word = (lt "off")))).bind fun b => if b = true then (
  ((((R.guard (inB v_row (1 : Int)) (R.guard (Dt.isU (getI v_row (1 : Int)) = true) (m_reckoned (Dt.asU (getI v_row (1 : Int))) z_self.2.2.1))).bind fun x250 => (R.ok (0 : Int)).bind fun x251 => R.ok (!decide (x250 = x251))).bind fun b => if b = true then (
  (R.ok (lt "told")).bind fun a255 =>
  (R.ok ((z_self.1, z_self.2.1, z_self.2.2.1, z_self.2.2.2.1, z_self.2.2.2.2.1, z_self.2.2.2.2.2.1, a255))).bind fun v_self =>
  R.ok v_self) else (
  R.ok z_self)) : R S_Run).bind fun s252 => m_Run_behind_J1 s252) else (
  ((R.ok ()).bind fun x256 => m_Run_straight z_self v_row v_worth).bind fun a258 =>
  (R.ok (a258.2)).bind fun v_self =>
  R.ok (Ctl.nx v_self)))) : R (Ctl S_Run (Int × S_Run))).bind fun c => c.fin fun s238 => m_Run_behind_J2 s238)
def m_law_row (v_cell : Int) (v_slots : (List (List Nat))) (v_shelves : (List (List Nat))) : R (List Dt) :=
  ((m_law_draw v_cell (0 : Int)).bind fun x261 => (R.ok (20 : Int)).bind fun x262 => R.guard (0 < x262) (R.ok (x261 % x262))).bind fun v_kind =>
  ((R.ok v_shelves).bind fun x267 => ((m_law_draw v_cell (60 : Int)).bind fun x264 => (R.ok (2 : Int)).bind fun x265 => R.guard (0 < x265) (R.ok (x264 % x265))).bind fun x268 => R.guard (inB x267 x268) (R.ok (getI x267 x268))).bind fun v_shelf =>
  ((R.ok v_slots).bind fun x272 => ((m_law_draw v_cell (61 : Int)).bind fun x269 => (R.ok (2 : Int)).bind fun x270 => R.guard (0 < x270) (R.ok (x269 % x270))).bind fun x273 => R.guard (inB x272 x273) (R.ok (getI x272 x273))).bind fun v_slot =>
  (R.ok (decide (v_kind < (9 : Int)))).bind fun b => if b = true then (
  ((((m_law_spot v_cell v_slots).bind fun a => R.ok ((eU eA) a)).bind fun a => (R.ok ()).bind fun b => R.ok (a, b)).bind fun x274 => R.ok ([(eS (lt "take")), (eS v_shelf), x274.1, (eS v_slot)] : (List Dt)))) else (
  (R.ok (decide (v_kind < (12 : Int)))).bind fun b => if b = true then (
  ((((m_law_spot v_cell v_slots).bind fun a => R.ok ((eU eA) a)).bind fun a => (((((m_law_worth v_cell (30 : Int)).bind fun a => (R.ok ()).bind fun b => R.ok (a, b)).bind fun x275 => R.ok (v_slot, x275.1, (lt "minus"))).bind fun a => R.ok ((e3 eS eI eS) a)).bind fun a => (R.ok ()).bind fun b => R.ok (a, b)).bind fun b => R.ok (a, b)).bind fun x276 => R.ok ([(eS (lt "give")), (eS v_shelf), x276.1, x276.2.1] : (List Dt)))) else (
  (R.ok (decide (v_kind = (12 : Int)))).bind fun b => if b = true then (
  ((((((m_law_worth v_cell (31 : Int)).bind fun a => (R.ok ()).bind fun b => R.ok (a, b)).bind fun x277 => R.ok (v_slot, x277.1, (lt "same"))).bind fun a => R.ok ((e3 eS eI eS) a)).bind fun a => (R.ok ()).bind fun b => R.ok (a, b)).bind fun x278 => R.ok ([(eS (lt "off")), x278.1] : (List Dt)))) else (
  (R.ok (decide (v_kind = (13 : Int)))).bind fun b => if b = true then (
  ((((((m_law_worth v_cell (32 : Int)).bind fun a => (R.ok ()).bind fun b => R.ok (a, b)).bind fun x279 => R.ok x279.1).bind fun a => R.ok ((e1 eI) a)).bind fun a => (R.ok ()).bind fun b => R.ok (a, b)).bind fun x280 => R.ok ([(eS (lt "let")), (eS v_slot), x280.1] : (List Dt)))) else (
  ((((((m_law_worth v_cell (33 : Int)).bind fun a => (R.ok ()).bind fun b => R.ok (a, b)).bind fun x281 => R.ok (v_slot, x281.1, (lt "under"))).bind fun a => R.ok ((e3 eS eI eS) a)).bind fun a => (R.ok ()).bind fun b => R.ok (a, b)).bind fun x282 => R.ok ([(eS (lt "say")), x282.1] : (List Dt)))))))
def m_Run_step_H1 (e288 : Exn) (z_self : S_Run) : R S_Run := (R.ok (lt "great")).bind fun a295 =>
  (R.ok ((z_self.1, z_self.2.1, z_self.2.2.1, z_self.2.2.2.1, z_self.2.2.2.2.1, z_self.2.2.2.2.2.1, a295))).bind fun v_self =>
  R.ok v_self
def m_Run_step_H2 (e288 : Exn) (z_self : S_Run) : R S_Run := (R.ok (lt "nought")).bind fun a296 =>
  (R.ok ((z_self.1, z_self.2.1, z_self.2.2.1, z_self.2.2.2.1, z_self.2.2.2.2.1, z_self.2.2.2.2.2.1, a296))).bind fun v_self =>
  R.ok v_self
def m_Run_step_J1 (v_self : S_Run) : R (Unit × S_Run) :=
  R.ok ((), v_self)
def m_Run_step (z_self : S_Run) (v_worth : Int) : R (Unit × S_Run) :=
  (m_Run_over z_self).bind fun b => if b = true then (
  (R.ok ()).bind fun r283 => R.ok (r283, z_self)) else (
  (R.tryC (((R.guard (inB z_self.1 z_self.2.1) (R.ok ())).bind fun x292 => m_Run_behind z_self (getI z_self.1 z_self.2.1) v_worth).bind fun a294 =>
  (R.ok ((a294.2.1, a294.1, a294.2.2.2.1, a294.2.2.2.2.1, a294.2.2.2.2.2.1, a294.2.2.2.2.2.2.1, a294.2.2.2.2.2.2.2))).bind fun v_self =>
  R.ok v_self) (fun e => Exn.is "Great" e || Exn.is "Nought" e) (fun e288 => if Exn.is "Great" e288 = true then m_Run_step_H1 e288 z_self else m_Run_step_H2 e288 z_self) : R (S_Run)).bind fun s284 => m_Run_step_J1 s284)
def m_law_rows_J1 (v_frames : (List (Dt × Dt × (List Dt)))) : R (List (Dt × Dt × (List Dt))) :=
  R.ok v_frames
def m_law_rows_L1 (v_slots : (List (List Nat))) (v_shelves : (List (List Nat))) (v_frames : (List (Dt × Dt × (List Dt)))) (v_cell : Int) : R (List (Dt × Dt × (List Dt))) :=
  ((m_law_draw v_cell (0 : Int)).bind fun x307 => (R.ok (20 : Int)).bind fun x308 => R.guard (0 < x308) (R.ok (x307 % x308))).bind fun v_kind =>
  (R.ok ((decide (v_kind ∈ ([(15 : Int), (16 : Int), (17 : Int)] : (List Int)))) && (decide ((v_frames.length : Int) < (6 : Int))))).bind fun b => if b = true then (
  (((((((R.ok v_slots).bind fun x313 => ((m_law_draw v_cell (61 : Int)).bind fun x310 => (R.ok (2 : Int)).bind fun x311 => R.guard (0 < x311) (R.ok (x310 % x311))).bind fun x314 => R.guard (inB x313 x314) (R.ok (getI x313 x314))).bind fun a => (R.ok ()).bind fun b => R.ok (a, b)).bind fun x315 => R.ok x315.1).bind fun a => R.ok ((e1 eS) a)).bind fun a => ((R.ok (eN ())).bind fun a => ((R.ok ([] : (List Dt))).bind fun a => (R.ok ()).bind fun b => R.ok (a, b)).bind fun b => R.ok (a, b)).bind fun b => R.ok (a, b)).bind fun p => R.ok (p.1, p.2.1, p.2.2.1)).bind fun a316 => R.guard (gL v_frames) ((R.ok (v_frames ++ [a316])).bind fun v_frames =>
  R.ok v_frames)) else (
  (((R.and (R.ok (decide (v_kind = (18 : Int)))) (R.and (R.ok (decide ((1 : Int) < (v_frames.length : Int)))) (R.guard (inB v_frames (-(1 : Int))) (R.ok (Dt.isN (getI v_frames (-(1 : Int))).2.1))))).bind fun b => if b = true then (
  R.guard (inB v_frames (-(1 : Int))) ((R.ok ((setI v_frames (-(1 : Int)) ((getI v_frames (-(1 : Int))).1, ((eL eA) (getI v_frames (-(1 : Int))).2.2), [])))).bind fun v_frames =>
  R.ok v_frames)) else (
  (R.ok ((decide (v_kind = (19 : Int))) && (decide ((1 : Int) < (v_frames.length : Int))))).bind fun b => if b = true then (
  ((R.ok ()).bind fun x324 => m_law_closed v_frames).bind fun a326 =>
  (R.ok (a326.2)).bind fun v_frames =>
  R.ok v_frames) else (
  R.guard (inB v_frames (-(1 : Int))) (((m_law_row v_cell v_slots v_shelves).bind fun a => R.ok ((eU eA) a)).bind fun a329 => R.guard (gL (getI v_frames (-(1 : Int))).2.2) ((R.ok ((getI v_frames (-(1 : Int))).2.2 ++ [a329])).bind fun v328 =>
  (R.ok ((setI v_frames (-(1 : Int)) ((getI v_frames (-(1 : Int))).1, (getI v_frames (-(1 : Int))).2.1, v328)))).bind fun v_frames =>
  R.ok v_frames))))) : R (List (Dt × Dt × (List Dt)))).bind fun s319 => m_law_rows_J1 s319)
def m_law_rows_Q1 (v_frames : (List (Dt × Dt × (List Dt)))) : R Bool := (R.ok (decide ((1 : Int) < (v_frames.length : Int))))
def m_law_rows_L2 (v_frames : (List (Dt × Dt × (List Dt)))) : R (Ctl (List (Dt × Dt × (List Dt))) (List Dt)) :=
  ((R.ok ()).bind fun x337 => m_law_closed v_frames).bind fun a339 =>
  (R.ok (a339.2)).bind fun v_frames =>
  R.ok (Ctl.nx v_frames)
def m_law_rows_J3 (v_frames : (List (Dt × Dt × (List Dt)))) : R (List Dt) :=
  R.guard (inB v_frames (0 : Int)) ((R.ok (getI v_frames (0 : Int)).2.2))
def m_law_rows_J2 (v_frames : (List (Dt × Dt × (List Dt)))) : R (List Dt) :=
  ((whileR (fun (s331 : (List (Dt × Dt × (List Dt)))) => m_law_rows_Q1 s331) (fun (s331 : (List (Dt × Dt × (List Dt)))) => m_law_rows_L2 s331) (v_frames.length + 2) v_frames) : R (Ctl (List (Dt × Dt × (List Dt))) (List Dt))).bind fun c => c.fin fun s331 => m_law_rows_J3 s331
def m_law_rows (v_cells : (List Int)) (v_slots : (List (List Nat))) (v_shelves : (List (List Nat))) : R (List Dt) :=
  (((((R.ok (eN ())).bind fun a => ((R.ok (eN ())).bind fun a => ((R.ok ([] : (List Dt))).bind fun a => (R.ok ()).bind fun b => R.ok (a, b)).bind fun b => R.ok (a, b)).bind fun b => R.ok (a, b)).bind fun p => R.ok (p.1, p.2.1, p.2.2.1)).bind fun a => (R.ok ()).bind fun b => R.ok (a, b)).bind fun p => R.ok [p.1]).bind fun v_frames =>
  ((R.ok v_cells).bind fun c330 => foldR (fun y300 (s301 : (List (Dt × Dt × (List Dt)))) => m_law_rows_L1 v_slots v_shelves s301 y300) c330 v_frames).bind fun s301 => m_law_rows_J2 s301
def m_law_asked_C1  (v_note : ((List Nat × Int) × Int)) : R (List Nat × Int) := (R.ok v_note.1)
def m_law_asked_J1 (v_run : S_Run) (v_noted : (List ((List Nat × Int) × Int))) : R (Bool × S_Run × (List ((List Nat × Int) × Int))) :=
  (R.ok true).bind fun r373 => R.ok (r373, v_run, v_noted)
def m_law_asked (z_run : S_Run) (v_cell : Int) (z_noted : (List ((List Nat × Int) × Int))) : R (Bool × S_Run × (List ((List Nat × Int) × Int))) :=
  (m_Run_asks z_run).bind fun v_place =>
  ((((R.ok v_place).bind fun x342 => (m_Run_asks z_run).bind fun x343 => R.guard (gQ2 ((eO eP) x342) ((eO eP) x343)) (R.ok (!eqD ((eO eP) x342) ((eO eP) x343)))).bind fun b => R.ok (b, z_run)).bind fun x349 => if x349.1 = true then R.ok (true, x349.2) else ((((R.ok ()).bind fun x346 => m_Run_paper x349.2).calm).bind fun a348 => R.ok ((Option.isSome a348.1), a348.2))).bind fun a350 => if a350.1 = true then (
  (R.ok (a350.2)).bind fun v_run =>
  (R.ok false).bind fun r351 => R.ok (r351, v_run, z_noted)) else (
  (R.ok (a350.2)).bind fun v_run =>
  ((m_law_worth v_cell ((40 : Int) + (z_noted.length : Int))).calm).bind fun v_worth =>
  (R.ok (Option.isNone v_place)).bind fun b => if b = true then (
  (((R.ok ()).bind fun x352 => m_Run_step v_run v_worth).calm).bind fun a354 =>
  (R.ok (a354.2)).bind fun v_run =>
  (R.ok true).bind fun r355 => R.ok (r355, v_run, z_noted)) else (
  (R.or (R.not ((R.guard (v_place.isSome = true) (m_law_is_place (v_place.getD default))).calm)) (R.guard (v_place.isSome = true) ((R.guard (z_noted.length ≤ 16777216) (mapR (fun x => m_law_asked_C1 x) z_noted)).bind fun x360 => R.guard (gQ2 (eP (v_place.getD default)) (eL eP x360)) (R.ok (decide ((v_place.getD default) ∈ x360)))))).bind fun b => if b = true then (
  (R.ok false).bind fun r361 => R.ok (r361, v_run, z_noted)) else (
  (R.guard (v_place.isSome = true) (R.ok ((v_place.getD default), v_worth))).bind fun a363 => R.guard (gL z_noted) ((R.ok (z_noted ++ [a363])).bind fun v_noted =>
  (((R.ok (decide (v_worth = (0 : Int)))).bind fun b => if b = true then (
  (((R.ok ()).bind fun x367 => m_Run_step v_run (0 : Int)).calm).bind fun a369 =>
  (R.ok (a369.2)).bind fun v_run =>
  R.ok v_run) else (
  (((R.ok ()).bind fun x370 => m_Run_step v_run v_worth).calm).bind fun a372 =>
  (R.ok (a372.2)).bind fun v_run =>
  R.ok v_run)) : R S_Run).bind fun s364 => m_law_asked_J1 s364 v_noted))))
def m_law_run_Q1 (v_run : S_Run) : R Bool := ((m_Run_over v_run).bind fun x386 => (R.ok false).bind fun x387 => R.ok (decide (x386 = x387)))
def m_law_run_L1 (v_code : (List (List Dt))) (v_cells : (List Int)) (v_run : S_Run) (v_noted : (List ((List Nat × Int) × Int))) (v_steps : Int) : R (Ctl (S_Run × (List ((List Nat × Int) × Int)) × Int) Bool) :=
  (((R.ok (decide (v_steps = (v_code.length : Int)))).bind fun b => R.ok (b, (v_run, v_noted))).bind fun x396 => if x396.1 = true then R.ok (true, x396.2) else ((((R.guard (0 < (v_cells.length : Int)) (R.guard (inB v_cells (v_steps % (v_cells.length : Int))) (R.ok ()))).bind fun x393 => m_law_asked x396.2.1 ((getI v_cells (v_steps % (v_cells.length : Int))) + v_steps) x396.2.2).bind fun a395 => R.ok (a395.1, (a395.2.1, a395.2.2))).bind fun x => R.ok (!x.1, x.2))).bind fun a397 => if a397.1 = true then (
  (R.ok (a397.2.1)).bind fun v_run =>
  (R.ok (a397.2.2)).bind fun v_noted =>
  (R.ok false).bind fun r => R.ok (Ctl.rt r)) else (
  (R.ok (a397.2.1)).bind fun v_run =>
  (R.ok (a397.2.2)).bind fun v_noted =>
  (R.ok (v_steps + (1 : Int))).bind fun v_steps =>
  R.ok (Ctl.nx (v_run, v_noted, v_steps)))
def m_law_run_J1 (v_run : S_Run) (v_noted : (List ((List Nat × Int) × Int))) : R Bool :=
  ((R.ok ()).bind fun x398 => m_Run_paper v_run).bind fun a400 =>
  (R.ok (a400.2)).bind fun v_run =>
  (R.ok (a400.1)).bind fun v_paper =>
  (R.or ((m_Run_over v_run).bind fun x401 => (R.ok true).bind fun x402 => R.ok ((!decide (x401 = x402)))) (R.or ((m_Run_asks v_run).bind fun x => (R.ok ()).bind fun _ => R.ok (Option.isSome x)) (R.not (m_law_same ((eO (e3 (e2 eS eA) (eL (e2 eP eI)) (eL (e2 eP eI)))) v_paper) v_noted)))).bind fun b => if b = true then (
  (R.ok false)) else (
  R.guard (v_paper.isSome = true) ((R.ok ((v_paper.getD default))).bind fun v_paper =>
  (R.ok (v_paper.1, v_paper.2.1, v_paper.2.2)).bind fun v_kept =>
  ((R.ok ()).bind fun x408 => m_Run_step v_run (7 : Int)).bind fun a410 =>
  (R.ok (a410.2)).bind fun v_run =>
  (R.ok (((lt "z"), (1 : Int)), (5 : Int))).bind fun a412 => R.guard (gL v_paper.2.1) ((R.ok (v_paper.2.1 ++ [a412])).bind fun v411 =>
  (R.ok ((v_paper.1, v411, v_paper.2.2))).bind fun v_paper =>
  (R.ok (((lt "z"), (2 : Int)), (5 : Int))).bind fun a414 => R.guard (gL v_paper.2.2) ((R.ok (v_paper.2.2 ++ [a414])).bind fun v413 =>
  (R.ok ((v_paper.1, v_paper.2.1, v413))).bind fun v_paper =>
  ((((m_Run_over v_run).bind fun x416 => (R.ok true).bind fun x417 => R.ok (decide (x416 = x417))).bind fun b => R.ok (b, v_run)).bind fun x433 => if x433.1 = true then ((((m_Run_asks x433.2).bind fun x => (R.ok ()).bind fun _ => R.ok (Option.isNone x)).bind fun b => R.ok (b, x433.2)).bind fun x432 => if x432.1 = true then ((((((R.ok ()).bind fun x422 => m_Run_paper x432.2).bind fun a424 => (R.ok ()).bind fun b => R.ok (a424, b)).bind fun x425 => (m_law_same ((eO (e3 (e2 eS eA) (eL (e2 eP eI)) (eL (e2 eP eI)))) x425.1.1) v_noted).bind fun r => R.ok (x425, r)).bind fun a426 => R.ok (a426.2, a426.1.1.2)).bind fun x431 => if x431.1 = true then ((((R.ok ()).bind fun x428 => m_Run_paper x431.2).bind fun a430 => R.guard (gQ2 ((eO (e3 (e2 eS eA) (eL (e2 eP eI)) (eL (e2 eP eI)))) a430.1) ((e3 (e2 eS eA) (eL (e2 eP eI)) (eL (e2 eP eI))) v_kept)) (R.ok a430)).bind fun a430 => R.ok ((eqD ((eO (e3 (e2 eS eA) (eL (e2 eP eI)) (eL (e2 eP eI)))) a430.1) ((e3 (e2 eS eA) (eL (e2 eP eI)) (eL (e2 eP eI))) v_kept)), a430.2)) else R.ok (false, x431.2)) else R.ok (false, x432.2)) else R.ok (false, x433.2)).bind fun a434 => R.ok a434.1))))
def m_law_run (v_code : (List (List Dt))) (v_cells : (List Int)) : R Bool :=
  (R.ok v_code).bind fun v_handed =>
  ((R.ok ()).bind fun x374 => m_Run_init__L v_handed).bind fun a376 =>
  (R.ok (a376.2.2)).bind fun v_handed =>
  (R.ok (a376.2.1)).bind fun v_run =>
  (R.ok (([] : (List (List Dt))))).bind fun v_handed =>
  (R.ok ([] : (List ((List Nat × Int) × Int)))).bind fun v_noted =>
  (R.ok (0 : Int)).bind fun v_steps =>
  ((m_Run_over v_run).bind fun x379 => (R.ok (decide ((v_code.length : Int) = (0 : Int)))).bind fun x380 => R.ok (!decide (x379 = x380))).bind fun b => if b = true then (
  (R.ok false)) else (
  ((whileR (fun (s381 : (S_Run × (List ((List Nat × Int) × Int)) × Int)) => m_law_run_Q1 s381.1) (fun (s381 : (S_Run × (List ((List Nat × Int) × Int)) × Int)) => m_law_run_L1 v_code v_cells s381.1 s381.2.1 s381.2.2) (v_code.length + 2) (v_run, v_noted, v_steps)) : R (Ctl (S_Run × (List ((List Nat × Int) × Int)) × Int) Bool)).bind fun c => c.fin fun s381 => m_law_run_J1 s381.1 s381.2.1)
class Rc_1 where
  r_block_from : (List Dt) → Int → R (List (List Dt))
  r_steps_from : (List Dt) → Int → R (List (List Dt))
section
variable [Rc_1]
def m_block_from_b (v_row : (List Dt)) (v_at : Int) : R (List (List Dt)) :=
  (R.guard (inB v_row (2 : Int)) (R.guard (Dt.isL (getI v_row (2 : Int)) = true) (Rc_1.r_steps_from (Dt.asL (getI v_row (2 : Int))) (v_at + (1 : Int))))).bind fun v_inner =>
  (R.ok ((v_at + (1 : Int)) + (v_inner.length : Int))).bind fun v_behind =>
  (R.guard (inB v_row (3 : Int)) (R.guard (gQ2 (eA (getI v_row (3 : Int))) ((eL eA) ([] : (List Dt)))) (R.ok (eqD (eA (getI v_row (3 : Int))) ((eL eA) ([] : (List Dt))))))).bind fun b => if b = true then (
  (R.guard (inB v_row (1 : Int)) (R.guard ((([([(eS (lt "skip")), (getI v_row (1 : Int)), (eI v_behind)] : (List Dt))] : (List (List Dt))) ++ v_inner).length ≤ 16777216) (R.ok (([([(eS (lt "skip")), (getI v_row (1 : Int)), (eI v_behind)] : (List Dt))] : (List (List Dt))) ++ v_inner))))) else (
  (R.guard (inB v_row (3 : Int)) (R.guard (Dt.isL (getI v_row (3 : Int)) = true) (Rc_1.r_steps_from (Dt.asL (getI v_row (3 : Int))) (v_behind + (1 : Int))))).bind fun v_others =>
  (R.guard (inB v_row (1 : Int)) (R.guard ((([([(eS (lt "skip")), (getI v_row (1 : Int)), (eI (v_behind + (1 : Int)))] : (List Dt))] : (List (List Dt))) ++ v_inner).length ≤ 16777216) (R.guard (((([([(eS (lt "skip")), (getI v_row (1 : Int)), (eI (v_behind + (1 : Int)))] : (List Dt))] : (List (List Dt))) ++ v_inner) ++ ([([(eS (lt "go")), (eI ((v_behind + (1 : Int)) + (v_others.length : Int)))] : (List Dt))] : (List (List Dt)))).length ≤ 16777216) (R.guard ((((([([(eS (lt "skip")), (getI v_row (1 : Int)), (eI (v_behind + (1 : Int)))] : (List Dt))] : (List (List Dt))) ++ v_inner) ++ ([([(eS (lt "go")), (eI ((v_behind + (1 : Int)) + (v_others.length : Int)))] : (List Dt))] : (List (List Dt)))) ++ v_others).length ≤ 16777216) (R.ok (((([([(eS (lt "skip")), (getI v_row (1 : Int)), (eI (v_behind + (1 : Int)))] : (List Dt))] : (List (List Dt))) ++ v_inner) ++ ([([(eS (lt "go")), (eI ((v_behind + (1 : Int)) + (v_others.length : Int)))] : (List Dt))] : (List (List Dt)))) ++ v_others)))))))
end
section
variable [Rc_1]
def m_steps_from_L1 (v_at : Int) (v_steps : (List (List Dt))) (v_row : Dt) : R (List (List Dt)) :=
  (R.guard (Dt.isU v_row = true) (R.guard (inB (Dt.asU v_row) (0 : Int)) (R.guard (Dt.isX (getI (Dt.asU v_row) (0 : Int)) = true) (R.ok (decide ((Dt.asX (getI (Dt.asU v_row) (0 : Int))) = (lt "if"))))))).bind fun b => if b = true then (
  (R.guard (Dt.isU v_row = true) (Rc_1.r_block_from (Dt.asU v_row) (v_at + (v_steps.length : Int)))).bind fun a458 => R.guard (v_steps.length + a458.length ≤ 16777216) ((R.ok (v_steps ++ a458)).bind fun v_steps =>
  R.ok v_steps)) else (
  (R.guard (Dt.isU v_row = true) (R.ok (Dt.asU v_row))).bind fun a460 => R.guard (gL v_steps) ((R.ok (v_steps ++ [a460])).bind fun v_steps =>
  R.ok v_steps))
def m_steps_from_J1 (v_steps : (List (List Dt))) : R (List (List Dt)) :=
  (R.ok v_steps)
def m_steps_from_b (v_rows : (List Dt)) (v_at : Int) : R (List (List Dt)) :=
  (R.ok ([] : (List (List Dt)))).bind fun v_steps =>
  ((R.ok v_rows).bind fun c461 => foldR (fun y447 (s448 : (List (List Dt))) => m_steps_from_L1 v_at s448 y447) c461 v_steps).bind fun s448 => m_steps_from_J1 s448
end
def rc_1 : Nat → Rc_1
  | 0 => ⟨fun _ _ => R.bad, fun _ _ => R.bad⟩
  | n + 1 => ⟨@m_block_from_b (rc_1 n), @m_steps_from_b (rc_1 n)⟩
def m_steps_from : (List Dt) → Int → R (List (List Dt)) := (rc_1 16).r_steps_from
def m_code_of (v_rows : (List Dt)) : R (List (List Dt)) :=
  (m_steps_from v_rows (0 : Int))
def m_law_L1 (v_slots : (List (List Nat))) (v_shelves : (List (List Nat))) (v_many : Int) (v_cells : (List Int)) (v_at : Int) : R (Ctl Unit Bool) :=
  (R.ok (cutL v_cells (some v_at) (some (v_at + v_many)))).bind fun v_part =>
  (R.not (((((m_law_rows v_part v_slots v_shelves).bind fun a => (R.ok ()).bind fun b => R.ok (a, b)).bind fun x479 => m_code_of x479.1).bind fun a => (R.ok ()).bind fun b => R.ok (a, b)).bind fun x480 => m_law_run x480.1 v_part)).bind fun b => if b = true then (
  (R.ok false).bind fun r => R.ok (Ctl.rt r)) else (
  R.ok (Ctl.nx ()))
def m_law_J1  : R Bool :=
  ((R.ok ()).bind fun x482 => (m_Run_init ([] : (List (List Dt)))).bind fun a => R.ok a.2).bind fun v_empty =>
  ((((m_Run_over v_empty).bind fun x484 => (R.ok true).bind fun x485 => R.ok (decide (x484 = x485))).bind fun b => R.ok (b, v_empty)).bind fun x490 => if x490.1 = true then ((((R.ok ()).bind fun x487 => m_Run_paper x490.2).bind fun a489 => R.guard (gQ2 ((eO (e3 (e2 eS eA) (eL (e2 eP eI)) (eL (e2 eP eI)))) a489.1) ((e3 (e2 eS e0) (eL eA) (eL eA)) (((lt "done"), ()), ([] : (List Dt)), ([] : (List Dt))))) (R.ok a489)).bind fun a489 => R.ok ((eqD ((eO (e3 (e2 eS eA) (eL (e2 eP eI)) (eL (e2 eP eI)))) a489.1) ((e3 (e2 eS e0) (eL eA) (eL eA)) (((lt "done"), ()), ([] : (List Dt)), ([] : (List Dt))))), a489.2)) else R.ok (false, x490.2)).bind fun a491 => R.ok a491.1
def m_law (v_script : (List Int)) : R Bool :=
  (((m_law_cell_at v_script (0 : Int)).bind fun a => (R.ok ()).bind fun b => R.ok (a, b)).bind fun x462 => m_law_names x462.1 (2 : Int)).bind fun v_slots =>
  (((m_law_cell_at v_script (1 : Int)).bind fun a => (R.ok ()).bind fun b => R.ok (a, b)).bind fun x463 => m_law_names x463.1 (2 : Int)).bind fun v_shelves =>
  ((R.ok (1 : Int)).bind fun x468 => ((((m_law_cell_at v_script (0 : Int)).bind fun a => (R.ok ()).bind fun b => R.ok (a, b)).bind fun x464 => m_law_draw x464.1 (200 : Int)).bind fun x465 => (R.ok (13 : Int)).bind fun x466 => R.guard (0 < x466) (R.ok (x465 % x466))).bind fun x469 => R.ok (x468 + x469)).bind fun v_many =>
  (R.ok (cutL v_script none (some (240 : Int)))).bind fun v_cells =>
  (((((R.ok ()).bind fun x470 => R.ok ((0 : Int), (v_cells.length : Int), v_many)).bind fun p => R.guard (gR3 p) (R.ok p)).bind fun c481 => forR (fun y471 (s472 : Unit) => m_law_L1 v_slots v_shelves v_many v_cells y471) (rng3 c481) ()) : R (Ctl Unit Bool)).bind fun c => c.fin fun s472 => m_law_J1 
end Mi
namespace Mi
open PySem L2 Sm TL
def low (l : List Nat) : Prop := ∀ c ∈ l, c < 128
theorem low_cut {l : List Nat} {lo hi : Option Int} (h : low l) : low (cutL l lo hi) := fun c hc => h c (cutL_mem hc)
theorem low_app {a b : List Nat} (h : low a) (k : low b) : low (a ++ b) := fun c hc => (List.mem_append.mp hc).elim (h c) (k c)
theorem low_one {c : Nat} (h : c < 128) : low [c] := fun d hd => by rw [List.mem_singleton] at hd; subst hd; exact h
abbrev S21 : List Nat := lt "zyxwvtsrqpnmlkjhgfdcb"
def nmOk (l : List Nat) : Prop := l.length ≤ 20 ∧ low l ∧ (l.length = 6 ∨ ∀ c ∈ l, c ∈ S21)
theorem cell_at_ok (ns : List Int) (k : Int) (h : 0 ≤ k) : Sat (m_law_cell_at ns k) fun _ => True := by
  unfold m_law_cell_at
  refine sat_bind (Q := (· = decide (k < ns.length))) (sat_ok rfl) fun b e => ?_
  subst e
  exact sat_if (fun c => sat_guard (inB_of h (of_decide_eq_true c)) (sat_ok trivial)) fun _ => sat_ok trivial
theorem arg1 {β : Type} {m : R Int} {Q : Int → Prop} {P : β → Prop} {f : Int → R β} (h : Sat m Q) (k : ∀ a, Q a → Sat (f a) P) : Sat ((m.bind fun a => (R.ok ()).bind fun b => R.ok (a, b)).bind fun x => f x.1) P :=
  sat_bind (Q := fun x : Int × Unit => Q x.1) (sat_bind h fun a ha => sat_bind (Q := fun _ => True) (sat_ok trivial) fun b _ => sat_ok ha) fun x hx => k x.1 hx
theorem range_ok {j : Int} (h0 : 0 ≤ j) (h1 : j ≤ 1000) : Sat ((R.ok j).bind fun j => R.guard (gR j) (R.ok j)) (· = j) :=
  sat_bind (Q := (· = j)) (sat_ok rfl) fun i e => by subst e; exact sat_guard (gR_of (by omega) (by omega)) (sat_ok rfl)
theorem draw_ok (c j : Int) (h0 : 0 ≤ j) (h1 : j ≤ 1000) : Sat (m_law_draw c j) fun v => 0 ≤ v ∧ v ≤ 31250001 := by
  unfold m_law_draw
  have hm := Int.emod_nonneg c (b := 1000000007) (by decide)
  have hl := Int.emod_lt_of_pos c (b := 1000000007) (by decide)
  refine sat_bind (Q := fun v => 0 ≤ v ∧ v < 1000000009) (sat_guard (by decide) (sat_guard (mulW (a := 40) (b := 40) (by omega) (by decide) (by decide) (by decide) (by decide)) (sat_guard (mulW (a := 40) (b := 40) (by omega) (by decide) (by decide) (by decide) (by decide))
    (sat_guard (mulW (a := 40) (b := 40) (by omega) (by decide) (by decide) (by decide) (by decide)) (sat_guard (by decide) (sat_ok ⟨Int.emod_nonneg _ (by decide), Int.emod_lt_of_pos _ (by decide)⟩)))))) fun v hv => ?_
  have a1 := Int.emod_nonneg (v * v) (b := 1000000009) (by decide)
  have a2 := Int.emod_lt_of_pos (v * v) (b := 1000000009) (by decide)
  have b1 := Int.emod_nonneg (v * v % 1000000009 * v) (b := 1000000009) (by decide)
  have b2 := Int.emod_lt_of_pos (v * v % 1000000009 * v) (b := 1000000009) (by decide)
  exact sat_guard (mulW (a := 40) (b := 40) (by omega) (by omega) (by decide) (by decide) (by decide)) (sat_guard (by decide) (sat_guard (mulW (a := 40) (b := 40) (by omega) (by omega) (by decide) (by decide) (by decide)) (sat_guard (by decide) (sat_guard (divW (by decide) (by decide)) (sat_ok ⟨by omega, by omega⟩)))))
theorem dm (c j : Int) {m : Int} (h0 : 0 ≤ j) (h1 : j ≤ 1000) (hm : 0 < m) : Sat ((m_law_draw c j).bind fun x => (R.ok m).bind fun y => R.guard (0 < y) (R.ok (x % y))) fun v => 0 ≤ v ∧ v < m :=
  sat_bind (draw_ok c j h0 h1) fun x hx => sat_bind (Q := (· = m)) (sat_ok rfl) fun y e => by
    subst e
    exact sat_guard hm (sat_ok ⟨Int.emod_nonneg _ (by omega), Int.emod_lt_of_pos _ hm⟩)
theorem dmL (c j : Int) {l : List Nat} (h0 : 0 ≤ j) (h1 : j ≤ 1000) (hl : l.length ≤ 1000) (hm : 0 < l.length) : Sat ((m_law_draw c j).bind fun x => (R.guard (gS l) (R.ok (l.length : Int))).bind fun y => R.guard (0 < y) (R.ok (x % y))) fun v => 0 ≤ v ∧ v < (l.length : Int) :=
  sat_bind (draw_ok c j h0 h1) fun x hx => sat_bind (Q := (· = (l.length : Int))) (sat_guard (gS_of (by omega)) (sat_ok rfl)) fun y e => by
    subst e
    exact sat_guard (by omega) (sat_ok ⟨Int.emod_nonneg _ (by omega), Int.emod_lt_of_pos _ (by omega)⟩)
theorem sIx_some {n d : Nat} {k : Int} (h0 : 0 ≤ k) : HT.sIx n d (some k) = min k.toNat n := by
  show (if k < 0 then _ else _) = _
  rw [if_neg (by omega)]
theorem cut_to {α : Type} {xs : List α} {k : Int} (h0 : 0 ≤ k) : cutL xs none (some k) = xs.take k.toNat := by
  unfold cutL
  rw [sIx_some h0]
  show (xs.drop 0).take (min k.toNat xs.length - 0) = _
  rw [List.drop_zero, Nat.sub_zero]
  by_cases h : k.toNat ≤ xs.length
  · rw [Nat.min_eq_left h]
  · rw [Nat.min_eq_right (by omega), List.take_of_length_le (Nat.le_refl _), List.take_of_length_le (by omega)]
theorem cut_from {α : Type} {xs : List α} {k : Int} (h0 : 0 ≤ k) : cutL xs (some k) none = xs.drop k.toNat := by
  unfold cutL
  rw [sIx_some h0]
  show (xs.drop (min k.toNat xs.length)).take (xs.length - min k.toNat xs.length) = _
  by_cases h : k.toNat ≤ xs.length
  · rw [Nat.min_eq_left h, List.take_of_length_le (by rw [List.length_drop]; omega)]
  · rw [Nat.min_eq_right (by omega), List.drop_eq_nil_of_le (Nat.le_refl _), List.drop_eq_nil_of_le (by omega), List.take_nil]
theorem s21 : (lt "zyxwvtsrqpnmlkjhgfdcb").length = 21 ∧ low (lt "zyxwvtsrqpnmlkjhgfdcb") := by unfold low; decide +kernel
theorem s26 : (lt "zyxwvutsrqponmlkjihgfedcba").length = 26 ∧ low (lt "zyxwvutsrqponmlkjihgfedcba") := by unfold low; decide +kernel
theorem get_low {l : List Nat} {i : Int} (h : low l) (hi : inB l i) : getI l i < 128 := h _ (getI_mem hi)
theorem nd21 : (lt "zyxwvtsrqpnmlkjhgfdcb").Nodup := by decide +kernel
theorem nd26 : (lt "zyxwvutsrqponmlkjihgfedcba").Nodup := by decide +kernel
theorem names_all (c m : Int) (h0 : 0 ≤ m) (h1 : m ≤ 20) : Sat (m_law_names c m) fun ns => (ns.length = m.toNat ∧ ∀ n ∈ ns, nmOk n) ∧ ∃ A B z : List Nat, ns = (rng 0 m).map (fun k => A ++ [getI z k] ++ B) ∧ z.Nodup ∧ 21 ≤ z.length := by
  unfold m_law_names
  refine sat_bind (Q := fun v : Int => 1 ≤ v ∧ v ≤ 6) (sat_bind (Q := (· = 1)) (sat_ok rfl) fun a e => by subst e; exact sat_bind (dm c 1 (by decide) (by decide) (by decide)) fun b hb => sat_ok ⟨by omega, by omega⟩) fun size hs => ?_
  refine sat_bind (Q := (· = lt "zyxwvtsrqpnmlkjhgfdcb")) (sat_ok rfl) fun sg e => ?_
  subst e
  refine sat_bind (Q := fun sg : List Nat => 21 ≤ sg.length ∧ sg.length ≤ 26 ∧ low sg ∧ (size = 6 ∨ ∀ c ∈ sg, c ∈ S21) ∧ sg.Nodup) (sat_bind (Q := (· = decide (size = 6))) (sat_ok rfl) fun b eb => sat_if
    (fun hb6 => sat_bind (Q := (· = lt "zyxwvutsrqponmlkjihgfedcba")) (sat_ok rfl) fun sg e => by subst e; exact sat_ok ⟨by rw [s26.1]; decide, by rw [s26.1]; decide, s26.2, .inl (by subst eb; exact of_decide_eq_true hb6), nd26⟩) fun _ => sat_ok ⟨by rw [s21.1]; decide, by rw [s21.1]; decide, s21.2, .inr fun c hc => hc, nd21⟩) fun sg hg => ?_
  unfold m_law_names_J1
  refine sat_bind (Q := (· = [])) (sat_ok (by decide +kernel)) fun st e => ?_
  subst e
  refine sat_bind (Q := fun st : List Nat => (st.length : Int) = size ∧ low st ∧ (size = 6 ∨ ∀ c ∈ st, c ∈ S21)) (sat_bind (range_ok (by omega) (by omega)) fun j e => ?_) fun st hst => ?_
  · subst e
    refine sat_mono (sat_fold (fun pre s => s.length = pre.length ∧ low s ∧ (j = 6 ∨ ∀ c ∈ s, c ∈ S21)) ⟨rfl, fun _ h => by simp at h, .inr fun _ h => by simp at h⟩ fun pre x suf s e hs' => ?_) fun s h => ⟨by rw [h.1, rng_len]; omega, h.2⟩
    have hx := rng_pre e
    have hlen : pre.length < (rng 0 j).length := by rw [e]; simp
    rw [rng_len] at hlen
    unfold m_law_names_L1
    refine sat_bind (Q := fun z => z.length = pre.length + 1 ∧ low z ∧ (j = 6 ∨ ∀ c ∈ z, c ∈ S21)) (sat_bind (Q := (· = s)) (sat_ok rfl) fun a e => ?_) fun z hz => sat_ok ⟨by rw [hz.1]; simp, hz.2⟩
    subst e
    refine sat_bind (Q := fun z : List Nat => z.length = 1 ∧ low z ∧ (j = 6 ∨ ∀ c ∈ z, c ∈ S21)) (sat_bind (Q := fun c => c < 128 ∧ (j = 6 ∨ c ∈ S21)) (sat_bind (Q := (· = sg)) (sat_ok rfl) fun b e => ?_) fun k hk => sat_ok ⟨rfl, low_one hk.1, hk.2.imp_right fun h c hc => by rw [List.mem_singleton] at hc; subst hc; exact h⟩) fun z hz => ?_
    · subst e
      refine sat_bind (dmL c _ (by omega) (by omega) (by omega) (by omega)) fun i hi => ?_
      have hb := inB_of hi.1 hi.2
      exact sat_guard ⟨gS_of (by omega), hb⟩ (sat_ok ⟨get_low hg.2.2.1 hb, hg.2.2.2.1.imp_right fun h => h _ (getI_mem hb)⟩)
    · exact sat_guard (gS_of (by rw [List.length_append]; omega)) (sat_ok ⟨by rw [List.length_append]; omega, low_app hs'.2.1 hz.2.1, by
        rcases hs'.2.2 with h6 | h6
        · exact .inl h6
        · rcases hz.2.2 with h7 | h7
          · exact .inl h7
          · exact .inr fun c hc => (List.mem_append.mp hc).elim (h6 c) (h7 c)⟩)
  unfold m_law_names_J2
  refine sat_bind (dm c 8 (by decide) (by decide) (by omega)) fun at_ ha => ?_
  refine sat_bind (dmL c 9 (by decide) (by decide) (by omega) (by omega)) fun turn ht => ?_
  refine sat_bind (Q := fun z => 21 ≤ z.length ∧ z.length ≤ 26 ∧ low z ∧ (size = 6 ∨ ∀ c ∈ z, c ∈ S21) ∧ z.Nodup) ?_ fun z hz => ?_
  · have e : (cutL sg (some turn) none ++ cutL sg none (some turn)).length = sg.length := by
      rw [cut_to ht.1, cut_from ht.1, List.length_append, List.length_drop, List.length_take]
      omega
    have hnd : (cutL sg (some turn) none ++ cutL sg none (some turn)).Nodup := by
      rw [cut_to ht.1, cut_from ht.1]
      exact (List.perm_append_comm.trans (by rw [List.take_append_drop])).nodup_iff.mpr hg.2.2.2.2
    exact sat_guard (gS_of (by omega)) (sat_guard (gS_of (by omega)) (sat_guard (gS_of (by omega)) (sat_ok ⟨by omega, by omega, low_app (low_cut hg.2.2.1) (low_cut hg.2.2.1), hg.2.2.2.1.imp_right fun h c hc => (List.mem_append.mp hc).elim (fun hc => h c (cutL_mem hc)) fun hc => h c (cutL_mem hc), hnd⟩)))
  refine sat_bind (range_ok h0 (by omega)) fun j e => ?_
  subst e
  refine sat_guard (by rw [rng_len]; omega) ?_
  have key : ∀ k ∈ rng 0 j, Sat (m_law_names_C1 z st at_ k) fun n => n = cutL st none (some at_) ++ [getI z k] ++ cutL st (some (at_ + 1)) none ∧ nmOk n := fun k hk => ?_
  · refine sat_of (sat_mapE (fun k => cutL st none (some at_) ++ [getI z k] ++ cutL st (some (at_ + 1)) none) fun k hk => by
      obtain ⟨n, e, e2, _⟩ := key k hk
      rw [e, e2]) ⟨⟨by rw [List.length_map, rng_len]; omega, fun n hn => ?_⟩, _, _, z, rfl, hz.2.2.2.2, hz.1⟩
    obtain ⟨k, hk, rfl⟩ := List.mem_map.mp hn
    obtain ⟨n, _, e2, h⟩ := key k hk
    rw [← e2]
    exact h
  have hk := rng_mem.mp hk
  unfold m_law_names_C1
  have hb : inB z k := inB_of hk.1 (by omega)
  have l1 := cutL_length_le (xs := st) (lo := none) (hi := some at_)
  have l2 := cutL_length_le (xs := st) (lo := some (at_ + 1)) (hi := none)
  refine sat_guard (gS_of (by omega)) (sat_guard ⟨gS_of (by omega), hb⟩ (sat_guard (gS_of (by rw [List.length_append, List.length_singleton]; omega)) (sat_guard (gS_of (by omega)) (sat_guard (gS_of (by rw [List.length_append, List.length_append, List.length_singleton]; omega)) (sat_ok ⟨rfl, ?_, ?_, ?_⟩)))))
  · rw [List.length_append, List.length_append, List.length_singleton]; omega
  · exact low_app (low_app (low_cut hst.2.1) (low_one (get_low hz.2.2.1 hb))) (low_cut hst.2.1)
  · by_cases h6 : size = 6
    · refine .inl ?_
      have e1 : cutL st none (some at_) = st.take at_.toNat := cut_to ha.1
      have e2 : cutL st (some (at_ + 1)) none = st.drop (at_.toNat + 1) := by rw [cut_from (by omega)]; congr 1; omega
      rw [e1, e2, List.length_append, List.length_append, List.length_singleton, List.length_take, List.length_drop]
      omega
    · refine .inr fun c hc => ?_
      have h1 := hst.2.2.resolve_left h6
      have h2 := hz.2.2.2.1.resolve_left h6
      rcases List.mem_append.mp hc with hc | hc
      · rcases List.mem_append.mp hc with hc | hc
        · exact h1 c (cutL_mem hc)
        · rw [List.mem_singleton] at hc
          subst hc
          exact h2 _ (getI_mem hb)
      · exact h1 c (cutL_mem hc)
theorem names_ok (c m : Int) (h0 : 0 ≤ m) (h1 : m ≤ 20) : Sat (m_law_names c m) fun ns => ns.length = m.toNat ∧ ∀ n ∈ ns, nmOk n := sat_mono (names_all c m h0 h1) fun _ h => h.1
theorem doers21 : ∀ x ∈ k_DOERS, x.length ≠ 6 ∧ ∃ c ∈ x, c ∉ S21 := by decide +kernel
theorem nm_doer {l : List Nat} (h : nmOk l) : l ∉ k_DOERS := fun z => by
  obtain ⟨a, c, b, d⟩ := doers21 l z
  rcases h.2.2 with h | h
  · exact a h
  · exact d (h c b)
theorem nm_at {l : List (List Nat)} {i : Int} (h : ∀ n ∈ l, nmOk n) (hi : inB l i) : nmOk (getI l i) := h _ (getI_mem hi)
theorem pick (c j : Int) {m : Int} {l : List (List Nat)} (h0 : 0 ≤ j) (h1 : j ≤ 1000) (hm : 0 < m) (hl : m ≤ l.length) (h : ∀ n ∈ l, nmOk n) : Sat ((R.ok l).bind fun x => ((m_law_draw c j).bind fun x => (R.ok m).bind fun y => R.guard (0 < y) (R.ok (x % y))).bind fun y => R.guard (inB x y) (R.ok (getI x y))) nmOk :=
  sat_bind (Q := (· = l)) (sat_ok rfl) fun x e => by
    subst e
    exact sat_bind (dm c j h0 h1 hm) fun i hi => sat_guard (inB_of hi.1 (by omega)) (sat_ok (nm_at h (inB_of hi.1 (by omega))))
abbrev B30 : Int := 1000000000000000000000000000000
def worthOk (v : Int) : Prop := -B30 ≤ v ∧ v ≤ B30
abbrev Slots := List (List Nat × Int)
def slotsOk (s : Slots) : Prop := (s.map (·.1)).Nodup ∧ ∀ p ∈ s, worthOk p.2
theorem slot_get {s : Slots} (h : slotsOk s) (n : List Nat) : worthOk ((getD? s n).getD 0) := by
  cases q : getD? s n with
  | none => show worthOk 0; unfold worthOk B30; omega
  | some b => exact h.2 _ (getD?_mem q)
theorem sat_ne {α : Type} {c : Bool} {f g : R α} {P : α → Prop} (h : c = false) (k : Sat g P) : Sat ((R.ok c).bind fun b => if b = true then f else g) P := by
  subst h
  exact k
theorem sat_ye {α : Type} {c : Bool} {f g : R α} {P : α → Prop} (h : c = true) (k : Sat f P) : Sat ((R.ok c).bind fun b => if b = true then f else g) P := by
  subst h
  exact k
theorem wok {v : Int} (h : worthOk v) : v.natAbs < 2 ^ 100 := by
  unfold worthOk B30 at h
  have : (1000000000000000000000000000000 : Nat) < 2 ^ 100 := by decide
  omega
theorem fdiv_b {a b : Int} (hb : b ≠ 0) : (Int.fdiv a b).natAbs ≤ a.natAbs ∧ Int.fmod a b = a - Int.fdiv a b * b ∧ (Int.fmod a b).natAbs ≤ b.natAbs := by
  have h1 := Int.mul_fdiv_add_fmod a b
  have hc : b * Int.fdiv a b = Int.fdiv a b * b := Int.mul_comm _ _
  have e : Int.fmod a b = a - Int.fdiv a b * b := by omega
  have hm : (Int.fmod a b).natAbs < b.natAbs ∧ (0 < b → 0 ≤ Int.fmod a b) ∧ (b < 0 → Int.fmod a b ≤ 0) := by
    rcases Int.lt_or_gt_of_ne hb with h | h
    · have : Int.fmod a b = -Int.fmod (-a) (-b) := by rw [Int.neg_fmod_neg]; omega
      rw [Int.fmod_eq_emod_of_nonneg (-a) (show 0 ≤ -b by omega)] at this
      have h2 := Int.emod_nonneg (-a) (b := -b) (by omega)
      have h3 := Int.emod_lt_of_pos (-a) (b := -b) (by omega)
      omega
    · have : Int.fmod a b = a % b := Int.fmod_eq_emod_of_nonneg _ (by omega)
      have h2 := Int.emod_nonneg a (b := b) (by omega)
      have h3 := Int.emod_lt_of_pos a (b := b) h
      omega
  refine ⟨?_, e, by omega⟩
  obtain ⟨q, eq⟩ : ∃ q, Int.fdiv a b = q := ⟨_, rfl⟩
  obtain ⟨r, er⟩ : ∃ r, Int.fmod a b = r := ⟨_, rfl⟩
  rw [eq] at h1 hc e ⊢
  rw [er] at h1 e hm
  rcases Int.lt_or_gt_of_ne hb with h | h
  · by_cases hq : 0 ≤ q
    · have : q * 1 ≤ q * -b := Int.mul_le_mul_of_nonneg_left (by omega) hq
      rw [Int.mul_neg] at this
      omega
    · have : (-q - 1) * 1 ≤ (-q - 1) * -b := Int.mul_le_mul_of_nonneg_left (by omega) (by omega)
      rw [Int.sub_mul (-q) 1 (-b), Int.neg_mul_neg] at this
      omega
  · by_cases hq : 0 ≤ q
    · have : q * 1 ≤ q * b := Int.mul_le_mul_of_nonneg_left (by omega) hq
      omega
    · have : (-q - 1) * 1 ≤ (-q - 1) * b := Int.mul_le_mul_of_nonneg_left (by omega) (by omega)
      rw [Int.sub_mul (-q) 1 b, Int.neg_mul] at this
      omega
def doers7 : List (List Nat) := [(lt "plus"), (lt "minus"), (lt "times"), (lt "over"), (lt "rest"), (lt "under"), (lt "same")]
theorem doers_eq : k_DOERS = doers7 := rfl
theorem okb {α β : Type} {a : α} {f : α → R β} : (R.ok a).bind f = f a := rfl
abbrev fld (s : Slots) (t : List Dt) (parts : List Int) : R (List Int) := foldR (fun d s' => m_reckoned_L1 s s' d) t parts
theorem isT_int (v : Int) : Dt.isT "int" (eI v) = true := by
  show (kitB "int" "int").getD false = true
  decide +kernel
theorem gL_of {α : Type} {l : List α} (h : l.length ≤ 1000) : gL l := by show l.length < 16777216; omega
theorem step_int (s : Slots) (v : Int) (parts : List Int) (h : parts.length ≤ 1000) : m_reckoned_L1 s parts (eI v) = .ok (parts ++ [v]) := by
  apply sat_eq
  unfold m_reckoned_L1
  refine sat_bind (Q := (· = false)) (sat_guard rfl (sat_ok rfl)) fun c e => ?_
  subst e
  refine sat_bind (Q := (· = parts ++ [v])) ?_ fun p e => by subst e; unfold m_reckoned_J1; exact sat_ok rfl
  refine sat_bind (Q := (· = true)) (sat_ok (isT_int v)) fun c e => ?_
  subst e
  rw [if_pos rfl]
  refine sat_bind (Q := (· = v)) (sat_guard rfl (sat_ok rfl)) fun a e => ?_
  subst e
  exact sat_guard (gL_of h) (sat_ok rfl)
theorem isT_str (x : Str) : Dt.isT "int" (.str x) = false := by
  show (kitB "str" "int").getD false = false
  decide +kernel
theorem step_name (s : Slots) (n : List Nat) (hn : n ∉ k_DOERS) (parts : List Int) (h : parts.length ≤ 1000) : m_reckoned_L1 s parts (eS n) = .ok (parts ++ [(getD? s n).getD 0]) := by
  apply sat_eq
  unfold m_reckoned_L1
  refine sat_bind (Q := (· = false)) (sat_guard rfl (sat_ok ?_)) fun c e => ?_
  · show decide (n ∈ k_DOERS) = false
    exact decide_eq_false hn
  subst e
  refine sat_bind (Q := (· = parts ++ [(getD? s n).getD 0])) ?_ fun p e => by subst e; unfold m_reckoned_J1; exact sat_ok rfl
  refine sat_bind (Q := (· = false)) (sat_ok (isT_str _)) fun c e => ?_
  subst e
  rw [if_neg (by decide)]
  refine sat_bind (Q := (· = (getD? s n).getD 0)) (sat_guard rfl (sat_ok rfl)) fun a e => ?_
  subst e
  exact sat_guard (gL_of h) (sat_ok rfl)
theorem isworth_ok (v : Int) (h : worthOk v) : m_is_worth v = .ok true := by
  apply sat_eq
  unfold m_is_worth
  refine sat_bind (Q := (· = false)) (sat_ok rfl) fun c e => ?_
  subst e
  refine sat_ok ?_
  unfold worthOk B30 at h
  rw [decide_eq_true h.1, decide_eq_true h.2]
  rfl
theorem isworth_no (v : Int) (h : ¬ worthOk v) : m_is_worth v = .ok false := by
  apply sat_eq
  unfold m_is_worth
  refine sat_bind (Q := (· = false)) (sat_ok rfl) fun c e => ?_
  subst e
  refine sat_ok ?_
  unfold worthOk B30 at h
  simp only [Bool.and_eq_false_iff, decide_eq_false_iff_not]
  omega
def SatE {α : Type} (m : R α) (P : α → Prop) : Prop := (∃ a, m = .ok a ∧ P a) ∨ m = .err .great ∨ m = .err .nought
section
variable {α β S ρ : Type}
theorem satE_of {m : R α} {P : α → Prop} (h : Sat m P) : SatE m P := .inl h
theorem satE_ok {a : α} {P : α → Prop} (h : P a) : SatE (.ok a) P := .inl ⟨a, rfl, h⟩
theorem satE_bind {m : R α} {f : α → R β} {Q : α → Prop} {P : β → Prop} (h : SatE m Q) (k : ∀ a, Q a → SatE (f a) P) : SatE (m.bind f) P := by
  rcases h with ⟨a, rfl, q⟩ | rfl | rfl
  · exact k a q
  · exact .inr (.inl rfl)
  · exact .inr (.inr rfl)
theorem satE_guard {p : Prop} [Decidable p] {m : R α} {P : α → Prop} (h : p) (k : SatE m P) : SatE (R.guard p m) P := by
  unfold R.guard
  rw [if_pos h]
  exact k
end
theorem comes_ok {w : List Nat} (hw : w ∈ k_DOERS) {a b : Int} (ha : worthOk a) (hb : worthOk b) : SatE (m_comes_to w a b) fun _ => True := by
  rw [doers_eq] at hw
  unfold doers7 at hw
  simp only [List.mem_cons, List.not_mem_nil, or_false] at hw
  have ha' := wok ha
  have hb' := wok hb
  have hm : CMulW a b := mulW (a := 100) (b := 100) ha' hb' (by decide) (by decide) (by decide)
  have dv : b ≠ 0 → CDivWN a b := fun z => ⟨z, by
    have : b.natAbs.log2 < 100 := (Nat.log2_lt (by omega)).mpr hb'
    omega⟩
  have tr : ∀ v : Int, Sat (R.ok v) fun _ => True := fun v => sat_ok trivial
  rcases hw with rfl | rfl | rfl | rfl | rfl | rfl | rfl
  · exact satE_of (by unfold m_comes_to; exact sat_ye (by decide +kernel) (tr _))
  · exact satE_of (by unfold m_comes_to; exact sat_ne (by decide +kernel) (sat_ye (by decide +kernel) (tr _)))
  · exact satE_of (by unfold m_comes_to; exact sat_ne (by decide +kernel) (sat_ne (by decide +kernel) (sat_ye (by decide +kernel) (sat_guard hm (tr _)))))
  · by_cases z : b = 0
    · refine .inr (.inr ?_)
      unfold m_comes_to
      subst z
      rfl
    · refine satE_of ?_
      unfold m_comes_to
      refine sat_ne (by decide +kernel) (sat_ne (by decide +kernel) (sat_ne (by decide +kernel) (sat_ne (by decide +kernel) (sat_ne (by decide +kernel) (sat_ne (decide_eq_false z) (sat_ye (by decide +kernel) (sat_guard (dv z) (tr _))))))))
  · by_cases z : b = 0
    · refine .inr (.inr ?_)
      unfold m_comes_to
      subst z
      rfl
    · refine satE_of ?_
      unfold m_comes_to
      have fb := (fdiv_b (a := a) z).1
      refine sat_ne (by decide +kernel) (sat_ne (by decide +kernel) (sat_ne (by decide +kernel) (sat_ne (by decide +kernel) (sat_ne (by decide +kernel) (sat_ne (decide_eq_false z) (sat_ne (by decide +kernel) (sat_guard (dv z) (sat_guard (mulW (a := 100) (b := 100) (by omega) hb' (by decide) (by decide) (by decide)) (tr _)))))))))
  · exact satE_of (by unfold m_comes_to; exact sat_ne (by decide +kernel) (sat_ne (by decide +kernel) (sat_ne (by decide +kernel) (sat_ye (by decide +kernel) (tr _)))))
  · exact satE_of (by unfold m_comes_to; exact sat_ne (by decide +kernel) (sat_ne (by decide +kernel) (sat_ne (by decide +kernel) (sat_ne (by decide +kernel) (sat_ye (by decide +kernel) (tr _))))))
def wd (w : List Nat) (a b : Int) : R Int := (m_comes_to w a b).bind fun r => (R.not (m_is_worth r)).bind fun c => if c = true then .err .great else .ok r
theorem step_wd (s : Slots) (w : List Nat) (hw : w ∈ k_DOERS) (a b : Int) (parts : List Int) (h : parts.length ≤ 1000) : m_reckoned_L1 s (parts ++ [a] ++ [b]) (eS w) = (wd w a b).bind fun r => .ok (parts ++ [r]) := by
  unfold m_reckoned_L1 wd
  have e1 : (R.guard (flatD (eS w) = true) (R.ok (inA (eS w) k_DOERS))) = .ok true := by
    apply sat_eq
    refine sat_guard rfl (sat_ok ?_)
    show decide (w ∈ k_DOERS) = true
    exact decide_eq_true hw
  rw [e1]
  show (popR _).bind _ = _
  rw [popR_app]
  show (R.guard _ ((popR (parts ++ [a])).bind _)).bind _ = _
  rw [popR_app]
  unfold R.guard
  rw [if_pos (show Dt.isX (eS w) = true from rfl)]
  show ((m_comes_to w a b).bind _).bind _ = _
  rw [R.bind_assoc, R.bind_assoc]
  congr 1
  funext r
  rw [okb]
  unfold R.sp2
  dsimp only
  rw [R.bind_assoc]
  congr 1
  funext c
  cases c with
  | true => rfl
  | false =>
    show R.guard (gL parts) _ = _
    unfold R.guard
    rw [if_pos (gL_of h)]
    rfl
theorem wd_ok {w : List Nat} (hw : w ∈ k_DOERS) {a b : Int} (ha : worthOk a) (hb : worthOk b) : SatE (wd w a b) worthOk := by
  unfold wd
  refine satE_bind (comes_ok hw ha hb) fun r _ => ?_
  by_cases z : worthOk r
  · rw [isworth_ok r z]
    exact satE_ok z
  · rw [isworth_no r z]
    exact .inr (.inl rfl)
inductive Pf : Nat → List Dt → Prop
  | nil : Pf 1 []
  | int {h : Nat} {v : Int} {ps : List Dt} : worthOk v → Pf (h + 1) ps → Pf h (eI v :: ps)
  | name {h : Nat} {n : List Nat} {ps : List Dt} : n ∉ k_DOERS → low n → Pf (h + 1) ps → Pf h (eS n :: ps)
  | word {h : Nat} {w : List Nat} {ps : List Dt} : w ∈ k_DOERS → Pf (h + 1) ps → Pf (h + 2) (eS w :: ps)
theorem len2 {α : Type} {l : List α} {h : Nat} (e : l.length = h + 2) : ∃ p a b, l = p ++ [a] ++ [b] := by
  refine ⟨l.take h, l[h]'(by omega), l[h + 1]'(by omega), ?_⟩
  have e1 : l = l.take h ++ l.drop h := (List.take_append_drop h l).symm
  have e2 : l.drop h = [l[h]'(by omega), l[h + 1]'(by omega)] := by
    rw [List.drop_eq_getElem_cons (by omega), List.drop_eq_getElem_cons (by omega), List.drop_eq_nil_of_le (by omega)]
  rw [List.append_assoc]
  calc l = l.take h ++ l.drop h := e1
    _ = _ := by rw [e2]; rfl
theorem pf_go {s : Slots} (hs : slotsOk s) : ∀ {h : Nat} {ps : List Dt}, Pf h ps → ∀ {parts : List Int}, parts.length = h → (∀ v ∈ parts, worthOk v) → h + ps.length ≤ 1000 → SatE (fld s ps parts) fun r => r.length = 1 ∧ ∀ v ∈ r, worthOk v := by
  intro h ps p
  induction p with
  | nil => intro parts hl hw _; exact satE_ok ⟨hl, hw⟩
  | @int h v ps hv _ ih =>
    intro parts hl hw hb
    rw [List.length_cons] at hb
    show SatE ((m_reckoned_L1 s parts (eI v)).bind _) _
    rw [step_int s v parts (by omega)]
    exact ih (by rw [List.length_append, List.length_singleton, hl]) (fun u hu => (List.mem_append.mp hu).elim (hw u) fun z => by rw [List.mem_singleton] at z; subst z; exact hv) (by omega)
  | @name h n ps hn _ _ ih =>
    intro parts hl hw hb
    rw [List.length_cons] at hb
    show SatE ((m_reckoned_L1 s parts (eS n)).bind _) _
    rw [step_name s n hn parts (by omega)]
    exact ih (by rw [List.length_append, List.length_singleton, hl]) (fun u hu => (List.mem_append.mp hu).elim (hw u) fun z => by rw [List.mem_singleton] at z; subst z; exact slot_get hs n) (by omega)
  | @word h w ps hw' _ ih =>
    intro parts hl hw hb
    rw [List.length_cons] at hb
    obtain ⟨p, a, b, rfl⟩ := len2 hl
    have hp : p.length = h := by rw [List.length_append, List.length_append, List.length_singleton, List.length_singleton] at hl; omega
    show SatE ((m_reckoned_L1 s (p ++ [a] ++ [b]) (eS w)).bind _) _
    rw [step_wd s w hw' a b p (by omega), R.bind_assoc]
    refine satE_bind (wd_ok hw' (hw a (by simp)) (hw b (by simp))) fun r hr => ?_
    show SatE (fld s ps (p ++ [r])) _
    exact ih (by rw [List.length_append, List.length_singleton, hp]) (fun u hu => (List.mem_append.mp hu).elim (fun z => hw u (by simp [z])) fun z => by rw [List.mem_singleton] at z; subst z; exact hr) (by omega)
def TermOk (t : List Dt) : Prop := t.length ≤ 100 ∧ Pf 0 t
theorem reck_ok {t : List Dt} {s : Slots} (ht : TermOk t) (hs : slotsOk s) : SatE (m_reckoned t s) worthOk := by
  unfold m_reckoned
  refine satE_bind (Q := (· = [])) (satE_ok rfl) fun p e => ?_
  subst e
  refine satE_bind (Q := fun r : List Int => r.length = 1 ∧ ∀ v ∈ r, worthOk v) ?_ fun r hr => ?_
  · refine satE_bind (Q := (· = t)) (satE_ok rfl) fun c e => ?_
    subst e
    exact pf_go hs ht.2 rfl (fun v h => by simp at h) (by have := ht.1; omega)
  · unfold m_reckoned_J2
    have hb : inB r 0 := inB_of (by decide) (by omega)
    exact satE_guard hb (satE_ok (hr.2 _ (getI_mem hb)))
theorem doer_lowT : ∀ w ∈ k_DOERS, low w := by unfold low; decide +kernel
theorem pf_gQ : ∀ {h : Nat} {ps : List Dt}, Pf h ps → ∀ d ∈ ps, gQn 0 d := by
  intro h ps p
  induction p with
  | nil => intro d hd; simp at hd
  | int _ _ ih => intro d hd; rcases List.mem_cons.mp hd with rfl | hd; exact gQn_int _; exact ih d hd
  | name _ hl _ ih => intro d hd; rcases List.mem_cons.mp hd with rfl | hd; exact gQn_str (strOk_ascii hl); exact ih d hd
  | word hw _ ih => intro d hd; rcases List.mem_cons.mp hd with rfl | hd; exact gQn_str (strOk_ascii (doer_lowT _ hw)); exact ih d hd
theorem term_gQ {t : List Dt} (h : TermOk t) : gQn 1 (.tup t) := gQn_tup (n := 0) (pf_gQ h.2)
abbrev Pl := List Nat × Int
abbrev Rw := Pl × Int
section
variable {α β : Type} [DecidableEq α]
end
abbrev eRow : Rw → Dt := e2 eP eI
def srt (kvs : List Rw) : List Rw := sortX eRow kvs
theorem srt_perm (kvs : List Rw) : (srt kvs).Perm kvs := List.mergeSort_perm _ _
def val (t : List Rw) (k : Pl) : Int := (getD? t k).getD 0
def ov (g : List Rw) (k : Pl) (x : Int) : Int := g.foldl (fun x r => if r.1 = k then r.2 else x) x
theorem gQ_plc {p : Pl} (h : low p.1) : gQn 1 (eP p) := by
  refine ⟨rfl, ?_, ?_⟩
  · show PyData.canLay0 (.tuple [.str (Sx p.1), .int p.2]) = true
    simp only [PyData.canLay0, PyData.canLayAll0, strOk_ascii h, Bool.and_true]
  · show PyData.depth (.tuple [.str (Sx p.1), .int p.2]) ≤ 1
    simp [PyData.depth, PyData.depthAll]
theorem gQ_row {r : Rw} (h : low r.1.1) : gQn 2 (e2 eP eI r) := gQn_tup (n := 1) fun d hd => by
  simp only [List.mem_cons, List.not_mem_nil, or_false] at hd
  rcases hd with rfl | rfl
  · exact gQ_plc h
  · exact gQn_int _
theorem gQ_rowsN {rs : List Rw} (h : ∀ r ∈ rs, low r.1.1) : gQn 3 (eL (e2 eP eI) rs) := gQn_lst fun d hd => by
  obtain ⟨r, hr, rfl⟩ := List.mem_map.mp hd
  exact gQ_row (h r hr)
theorem gQn_mono {n m : Nat} {d : Dt} (h : gQn n d) (hm : n ≤ m) : gQn m d := ⟨h.1, h.2.1, Nat.le_trans h.2.2 hm⟩
def rwOk (r : Rw) : Prop := low r.1.1 ∧ worthOk r.2
theorem worth0 : worthOk 0 := by unfold worthOk B30; omega
mutual
inductive RowOk : Nat → Nat → Dt → Prop
  | take {d : Nat} {sh sl : List Nat} {t : List Dt} : low sh → low sl → TermOk t → RowOk d 1 (.tup [eS (lt "take"), eS sh, .tup t, eS sl])
  | give {d : Nat} {sh : List Nat} {t u : List Dt} : low sh → TermOk t → TermOk u → RowOk d 1 (.tup [eS (lt "give"), eS sh, .tup t, .tup u])
  | let_ {d : Nat} {sl : List Nat} {t : List Dt} : low sl → TermOk t → RowOk d 1 (.tup [eS (lt "let"), eS sl, .tup t])
  | say {d : Nat} {t : List Dt} : TermOk t → RowOk d 1 (.tup [eS (lt "say"), .tup t])
  | off {d : Nat} {t : List Dt} : TermOk t → RowOk d 1 (.tup [eS (lt "off"), .tup t])
  | if_ {d k1 k2 : Nat} {t a b : List Dt} : TermOk t → RowsOk d k1 a → RowsOk d k2 b → RowOk (d + 1) (k1 + k2 + 1) (.tup [eS (lt "if"), .tup t, .lst a, .lst b])
inductive RowsOk : Nat → Nat → List Dt → Prop
  | nil {d : Nat} : RowsOk d 0 []
  | cons {d k k' : Nat} {r : Dt} {rs : List Dt} : RowOk d k r → RowsOk d k' rs → RowsOk d (k + k') (r :: rs)
end
theorem slots_put {s : Slots} {n : List Nat} {v : Int} (h : slotsOk s) (hv : worthOk v) : slotsOk (putD s n v) := ⟨putD_nodup h.1, fun p hp => by
  rcases putD_mem hp with hp | rfl
  · exact h.2 p hp
  · exact hv⟩
theorem gifts_put {s : List Rw} {p : Pl} {v : Int} (h : ∀ r ∈ s, rwOk r) (hp : low p.1) (hv : worthOk v) : ∀ r ∈ putD s p v, rwOk r := fun r hr => by
  rcases putD_mem hr with hr | rfl
  · exact h r hr
  · exact ⟨hp, hv⟩
theorem b4 {a b c d : Dt} {i : Int} (h0 : 0 ≤ i) (h : i < 4) : inB [a, b, c, d] i := inB_of h0 h
theorem b3 {a b c : Dt} {i : Int} (h0 : 0 ≤ i) (h : i < 3) : inB [a, b, c] i := inB_of h0 h
theorem b2 {a b : Dt} {i : Int} (h0 : 0 ≤ i) (h : i < 2) : inB [a, b] i := inB_of h0 h
theorem row_head {d k : Nat} {r : Dt} (h : RowOk d k r) : Dt.isU r = true ∧ inB (Dt.asU r) 0 ∧ Dt.isX (getI (Dt.asU r) 0) = true ∧ 1 ≤ k := by
  cases h with
  | take => exact ⟨rfl, b4 (by decide) (by decide), rfl, Nat.le_refl _⟩
  | give => exact ⟨rfl, b4 (by decide) (by decide), rfl, Nat.le_refl _⟩
  | let_ => exact ⟨rfl, b3 (by decide) (by decide), rfl, Nat.le_refl _⟩
  | say => exact ⟨rfl, b2 (by decide) (by decide), rfl, Nat.le_refl _⟩
  | off => exact ⟨rfl, b2 (by decide) (by decide), rfl, Nat.le_refl _⟩
  | if_ => exact ⟨rfl, b4 (by decide) (by decide), rfl, by omega⟩
abbrev Oc := List Nat × Dt
def OutOk (o : Oc) : Prop := gQn 2 (e2 eS eA o)
theorem lit_low : low (lt "off") ∧ low (lt "nought") ∧ low (lt "done") ∧ low (lt "told") ∧ low (lt "great") := by unfold low; decide +kernel
theorem out_off {w : List Nat} (h : low w) : OutOk (lt "off", eS w) := gQn_tup (n := 1) fun d hd => by
  simp only [List.mem_cons, List.not_mem_nil, or_false] at hd
  rcases hd with rfl | rfl
  · exact gQn_str (strOk_ascii lit_low.1)
  · exact gQn_str (strOk_ascii h)
theorem out_done (l : List Int) : OutOk (lt "done", eU eI l) := gQn_tup (n := 1) fun d hd => by
  simp only [List.mem_cons, List.not_mem_nil, or_false] at hd
  rcases hd with rfl | rfl
  · exact gQn_str (strOk_ascii lit_low.2.2.1)
  · exact gQn_tup (n := 0) fun d hd => by
      obtain ⟨i, _, rfl⟩ := List.mem_map.mp hd
      exact gQn_int _
mutual
theorem row_gQ : ∀ {d k : Nat} {r : Dt}, RowOk d k r → gQn (3 * d + 3) r
  | _, _, _, .take h1 h2 h3 => gQn_tup (n := _) fun x hx => by
    simp only [List.mem_cons, List.not_mem_nil, or_false] at hx
    rcases hx with rfl | rfl | rfl | rfl
    · exact gQn_str (strOk_ascii (by decide +kernel))
    · exact gQn_str (strOk_ascii h1)
    · exact gQn_mono (term_gQ h3) (by omega)
    · exact gQn_str (strOk_ascii h2)
  | _, _, _, .give h1 h2 h3 => gQn_tup (n := _) fun x hx => by
    simp only [List.mem_cons, List.not_mem_nil, or_false] at hx
    rcases hx with rfl | rfl | rfl | rfl
    · exact gQn_str (strOk_ascii (by decide +kernel))
    · exact gQn_str (strOk_ascii h1)
    · exact gQn_mono (term_gQ h2) (by omega)
    · exact gQn_mono (term_gQ h3) (by omega)
  | _, _, _, .let_ h1 h2 => gQn_tup (n := _) fun x hx => by
    simp only [List.mem_cons, List.not_mem_nil, or_false] at hx
    rcases hx with rfl | rfl | rfl
    · exact gQn_str (strOk_ascii (by decide +kernel))
    · exact gQn_str (strOk_ascii h1)
    · exact gQn_mono (term_gQ h2) (by omega)
  | _, _, _, .say h => gQn_tup (n := _) fun x hx => by
    simp only [List.mem_cons, List.not_mem_nil, or_false] at hx
    rcases hx with rfl | rfl
    · exact gQn_str (strOk_ascii (by decide +kernel))
    · exact gQn_mono (term_gQ h) (by omega)
  | _, _, _, .off h => gQn_tup (n := _) fun x hx => by
    simp only [List.mem_cons, List.not_mem_nil, or_false] at hx
    rcases hx with rfl | rfl
    · exact gQn_str (strOk_ascii (by decide +kernel))
    · exact gQn_mono (term_gQ h) (by omega)
  | _, _, _, .if_ h1 h2 h3 => by
    have a := gQn_lst (rows_gQ h2)
    have b := gQn_lst (rows_gQ h3)
    exact gQn_tup (n := _) fun x hx => by
      simp only [List.mem_cons, List.not_mem_nil, or_false] at hx
      rcases hx with rfl | rfl | rfl | rfl
      · exact gQn_str (strOk_ascii (by decide +kernel))
      · exact gQn_mono (term_gQ h1) (by omega)
      · exact gQn_mono a (by omega)
      · exact gQn_mono b (by omega)
theorem rows_gQ : ∀ {d k : Nat} {rs : List Dt}, RowsOk d k rs → ∀ r ∈ rs, gQn (3 * d + 3) r
  | _, _, _, .nil, r, h => by simp at h
  | _, _, _, .cons h1 h2, r, h => (List.mem_cons.mp h).elim (fun e => e ▸ row_gQ h1) fun h => rows_gQ h2 r h
end
inductive Cod : Int → List Dt → List (List Dt) → Prop
  | nil {p : Int} : Cod p [] []
  | plain {p : Int} {r : List Dt} {rows : List Dt} {c : List (List Dt)} : Dt.asX (getI r 0) ≠ lt "if" → Cod (p + 1) rows c → Cod p (.tup r :: rows) (r :: c)
  | if1 {p : Int} {t a : List Dt} {rows : List Dt} {ca c : List (List Dt)} : Cod (p + 1) a ca → Cod (p + 1 + (ca.length : Int)) rows c →
      Cod p (.tup [eS (lt "if"), .tup t, .lst a, .lst []] :: rows) ([eS (lt "skip"), .tup t, eI (p + 1 + (ca.length : Int))] :: (ca ++ c))
  | if2 {p : Int} {t a b : List Dt} {rows : List Dt} {ca cb c : List (List Dt)} : b ≠ [] → Cod (p + 1) a ca → Cod (p + 1 + (ca.length : Int) + 1) b cb → Cod (p + 1 + (ca.length : Int) + 1 + (cb.length : Int)) rows c →
      Cod p (.tup [eS (lt "if"), .tup t, .lst a, .lst b] :: rows) ([eS (lt "skip"), .tup t, eI (p + 1 + (ca.length : Int) + 1)] :: (ca ++ ([eS (lt "go"), eI (p + 1 + (ca.length : Int) + 1 + (cb.length : Int))] :: (cb ++ c))))
theorem eLeA (l : List Dt) : eL eA l = .lst l := by show Dt.lst (l.map eA) = _; rw [map_eA]
theorem lst_nil (b : List Dt) (h : gQ (.lst b)) : eqD (.lst b) (.lst []) = decide (b = []) := by
  cases b with
  | nil => rw [decide_eq_true rfl]; exact eqD_same h.1
  | cons x b =>
    rw [decide_eq_false (by simp)]
    show PyData.eqv (.list (Dt.pys (x :: b))) (.list (Dt.pys [])) = false
    simp [Dt.pys, PyData.eqv, PyData.eqvAll]
theorem steps_go : ∀ (n : Nat), (∀ {d k : Nat} {rows : List Dt} {p : Int}, 2 * d + 1 ≤ n → d ≤ 6 → RowsOk d k rows → k ≤ 1000 → ∃ c, (rc_1 n).r_steps_from rows p = .ok c ∧ Cod p rows c ∧ c.length ≤ 2 * k)
  | 0, _, _, _, _, h, _, _, _ => absurd h (by omega)
  | n + 1, d, k, rows, p, hn, hd6, hr, hk => by
    have go : ∀ {rows : List Dt} {k : Nat} {s : List (List Dt)}, RowsOk d k rows → k ≤ 1000 → s.length + 2 * k ≤ 10000 → ∃ c, foldR (fun y s => @m_steps_from_L1 (rc_1 n) p s y) rows s = .ok (s ++ c) ∧ Cod (p + (s.length : Int)) rows c ∧ c.length ≤ 2 * k := by
      intro rows
      induction rows with
      | nil => intro k s h _ _; exact ⟨[], by rw [List.append_nil]; rfl, .nil, by simp⟩
      | cons r rows ih =>
        intro k s h hk hs
        cases h with
        | @cons _ k1 k2 _ _ hr h2 =>
          have hh := row_head hr
          have one : ∃ x, @m_steps_from_L1 (rc_1 n) p s r = .ok (s ++ x) ∧ x.length ≤ 2 * k1 ∧ ∀ c, Cod (p + (s.length : Int) + (x.length : Int)) rows c → Cod (p + (s.length : Int)) (r :: rows) (x ++ c) := by
            by_cases z : Dt.asX (getI (Dt.asU r) 0) = lt "if"
            · cases hr with
              | take => exact absurd z (by show ¬ lt "take" = lt "if"; decide +kernel)
              | give => exact absurd z (by show ¬ lt "give" = lt "if"; decide +kernel)
              | let_ => exact absurd z (by show ¬ lt "let" = lt "if"; decide +kernel)
              | say => exact absurd z (by show ¬ lt "say" = lt "if"; decide +kernel)
              | off => exact absurd z (by show ¬ lt "off" = lt "if"; decide +kernel)
              | @if_ d ka kb t a b ht ha hb =>
                obtain ⟨m, rfl⟩ : ∃ m, n = m + 1 := ⟨n - 1, by omega⟩
                obtain ⟨ca, ea, wa, la⟩ := steps_go m (p := p + (s.length : Int) + 1) (show 2 * d + 1 ≤ m by omega) (by omega) ha (by omega)
                obtain ⟨cb, eb, wb, lb⟩ := steps_go m (p := p + (s.length : Int) + 1 + (ca.length : Int) + 1) (show 2 * d + 1 ≤ m by omega) (by omega) hb (by omega)
                have gb : gQ (Dt.lst b) := gQn_gQ (n := 64) (gQn_mono (gQn_lst (rows_gQ hb)) (by omega)) (by decide)
                have gn : gQ (Dt.lst []) := gQn_gQ (n := 1) (gQn_lst (n := 0) fun d h => by simp at h) (by decide)
                have blk : (rc_1 (m + 1)).r_block_from [eS (lt "if"), .tup t, .lst a, .lst b] (p + (s.length : Int)) = .ok (if b = [] then [eS (lt "skip"), .tup t, eI (p + (s.length : Int) + 1 + (ca.length : Int))] :: ca else [eS (lt "skip"), .tup t, eI (p + (s.length : Int) + 1 + (ca.length : Int) + 1)] :: (ca ++ ([eS (lt "go"), eI (p + (s.length : Int) + 1 + (ca.length : Int) + 1 + (cb.length : Int))] :: cb))) := sat_eq (by
                  show Sat (@m_block_from_b (rc_1 m) [eS (lt "if"), .tup t, .lst a, .lst b] (p + (s.length : Int))) _
                  unfold m_block_from_b
                  rw [eLeA]
                  refine sat_bind (Q := (· = ca)) (sat_guard (b4 (by decide) (by decide)) (sat_guard rfl (sat_of ea rfl))) fun inner e => ?_
                  subst e
                  refine sat_bind (Q := (· = p + (s.length : Int) + 1 + (inner.length : Int))) (sat_ok rfl) fun beh e => ?_
                  subst e
                  refine sat_bind (Q := (· = decide (b = []))) (sat_guard (b4 (by decide) (by decide)) (sat_guard ⟨gb, gn⟩ (sat_ok (lst_nil b gb)))) fun z e => ?_
                  subst e
                  by_cases hb0 : b = []
                  · rw [decide_eq_true hb0, if_pos rfl, if_pos hb0]
                    exact sat_guard (b4 (by decide) (by decide)) (sat_guard (by rw [List.length_append, List.length_singleton]; omega) (sat_ok rfl))
                  · rw [decide_eq_false hb0, if_neg (by decide), if_neg hb0]
                    refine sat_bind (Q := (· = cb)) (sat_guard (b4 (by decide) (by decide)) (sat_guard rfl (sat_of eb rfl))) fun oth e => ?_
                    subst e
                    refine sat_guard (b4 (by decide) (by decide)) (sat_guard (by rw [List.length_append, List.length_singleton]; omega) (sat_guard (by rw [List.length_append, List.length_append, List.length_singleton, List.length_singleton]; omega) (sat_guard (by rw [List.length_append, List.length_append, List.length_append, List.length_singleton, List.length_singleton]; omega) (sat_ok ?_))))
                    simp [List.append_assoc]
                    rfl)
                have step : ∀ x : List (List Dt), (rc_1 (m + 1)).r_block_from [eS (lt "if"), .tup t, .lst a, .lst b] (p + (s.length : Int)) = .ok x → s.length + x.length ≤ 10000 → @m_steps_from_L1 (rc_1 (m + 1)) p s (.tup [eS (lt "if"), .tup t, .lst a, .lst b]) = .ok (s ++ x) := fun x ex hx => sat_eq (by
                  unfold m_steps_from_L1
                  refine sat_bind (Q := (· = true)) (sat_guard rfl (sat_guard (b4 (by decide) (by decide)) (sat_guard rfl (sat_ok (show decide (lt "if" = lt "if") = true by decide +kernel))))) fun z e => ?_
                  subst e
                  rw [if_pos rfl]
                  exact sat_bind (Q := (· = x)) (sat_guard rfl (sat_of ex rfl)) fun y e => by subst e; exact sat_guard (by omega) (sat_ok rfl))
                by_cases hb0 : b = []
                · rw [if_pos hb0] at blk
                  refine ⟨_, step _ blk (by rw [List.length_cons]; omega), by rw [List.length_cons]; omega, fun c hc => ?_⟩
                  subst hb0
                  rw [List.length_cons] at hc
                  rw [List.cons_append]
                  exact .if1 wa (by rwa [show p + (s.length : Int) + 1 + (ca.length : Int) = p + (s.length : Int) + ((ca.length + 1 : Nat) : Int) from by omega])
                · rw [if_neg hb0] at blk
                  have lx : ([eS (lt "skip"), Dt.tup t, eI (p + (s.length : Int) + 1 + (ca.length : Int) + 1)] :: (ca ++ ([eS (lt "go"), eI (p + (s.length : Int) + 1 + (ca.length : Int) + 1 + (cb.length : Int))] :: cb))).length = 1 + ca.length + 1 + cb.length := by rw [List.length_cons, List.length_append, List.length_cons]; omega
                  refine ⟨_, step _ blk (by rw [lx]; omega), by rw [lx]; omega, fun c hc => ?_⟩
                  rw [lx] at hc
                  rw [List.cons_append, List.append_assoc, List.cons_append]
                  exact .if2 hb0 wa wb (by rwa [show p + (s.length : Int) + 1 + (ca.length : Int) + 1 + (cb.length : Int) = p + (s.length : Int) + ((1 + ca.length + 1 + cb.length : Nat) : Int) from by omega])
            · refine ⟨[Dt.asU r], sat_eq ?_, by simp; omega, fun c hc => ?_⟩
              · unfold m_steps_from_L1
                refine sat_bind (Q := (· = false)) (sat_guard hh.1 (sat_guard hh.2.1 (sat_guard hh.2.2.1 (sat_ok (decide_eq_false z))))) fun b e => ?_
                subst e
                rw [if_neg Bool.false_ne_true]
                exact sat_bind (Q := (· = Dt.asU r)) (sat_guard hh.1 (sat_ok rfl)) fun x e => by subst e; exact sat_guard (by show s.length < 16777216; omega) (sat_ok rfl)
              · have er : r = .tup (Dt.asU r) := by
                  cases r with
                  | tup l => rfl
                  | _ => cases hh.1
                rw [er]
                exact .plain z hc
          obtain ⟨x, e1, l1, wx⟩ := one
          obtain ⟨c, e2, w2, l2⟩ := ih (s := s ++ x) h2 (by omega) (by rw [List.length_append]; omega)
          refine ⟨x ++ c, ?_, wx c ?_, by rw [List.length_append]; omega⟩
          · show ((@m_steps_from_L1 (rc_1 n) p s r).bind _) = _
            rw [e1]
            show foldR (fun y s => @m_steps_from_L1 (rc_1 n) p s y) rows (s ++ x) = _
            rw [e2, List.append_assoc]
          · rw [List.length_append] at w2
            rwa [show p + (s.length : Int) + (x.length : Int) = p + ((s.length + x.length : Nat) : Int) from by omega]
    obtain ⟨c, e1, w, l⟩ := go (s := []) hr hk (by simp; omega)
    refine ⟨c, sat_eq ?_, by simpa using w, l⟩
    show Sat (@m_steps_from_b (rc_1 n) rows p) _
    unfold m_steps_from_b
    refine sat_bind (Q := (· = [])) (sat_ok rfl) fun s e => ?_
    subst e
    refine sat_bind (Q := (· = c)) (sat_bind (Q := (· = rows)) (sat_ok rfl) fun z e => by subst e; exact sat_of (by rw [e1, List.nil_append]) rfl) fun z e => by subst e; unfold m_steps_from_J1; exact sat_ok rfl
theorem gd {α : Type} {p : Prop} [Decidable p] {m : R α} (h : p) : R.guard p m = m := by unfold R.guard; rw [if_pos h]
theorem dt1 {α : Type} {c : Prop} [Decidable c] {f g : R α} (h : c) : ((R.ok (decide c)).bind fun b => if b = true then f else g) = f := by rw [okb, if_pos (decide_eq_true h)]
theorem df1 {α : Type} {c : Prop} [Decidable c] {f g : R α} (h : ¬ c) : ((R.ok (decide c)).bind fun b => if b = true then f else g) = g := by rw [okb, if_neg (by rw [decide_eq_false h]; decide)]
abbrev Rn := S_Run
theorem beh_go (s : Rn) (j w : Int) : m_Run_behind s [eS (lt "go"), eI j] w = .ok (j, s) := by
  have h0 : inB [eS (lt "go"), eI j] 0 := b2 (by decide) (by decide)
  have hx : Dt.isX (getI [eS (lt "go"), eI j] 0) = true := rfl
  have hw : Dt.asX (getI [eS (lt "go"), eI j] 0) = lt "go" := rfl
  have h1 : inB [eS (lt "go"), eI j] 1 := b2 (by decide) (by decide)
  have hi : Dt.isI (getI [eS (lt "go"), eI j] 1) = true := rfl
  unfold m_Run_behind
  rw [gd h0, gd hx, okb, hw, dt1 (show lt "go" = lt "go" from rfl), gd h1, gd hi]
  rfl
theorem beh_skip (s : Rn) (t : List Dt) (j w : Int) : m_Run_behind s [eS (lt "skip"), .tup t, eI j] w = (m_reckoned t s.2.2.1).bind fun v => .ok (if v = 0 then j else s.2.1 + 1, s) := by
  have h0 : inB [eS (lt "skip"), .tup t, eI j] 0 := b3 (by decide) (by decide)
  have hx : Dt.isX (getI [eS (lt "skip"), .tup t, eI j] 0) = true := rfl
  have hw : Dt.asX (getI [eS (lt "skip"), .tup t, eI j] 0) = lt "skip" := rfl
  have h1 : inB [eS (lt "skip"), .tup t, eI j] 1 := b3 (by decide) (by decide)
  have h2 : inB [eS (lt "skip"), .tup t, eI j] 2 := b3 (by decide) (by decide)
  have hu : Dt.isU (getI [eS (lt "skip"), .tup t, eI j] 1) = true := rfl
  have hi : Dt.isI (getI [eS (lt "skip"), .tup t, eI j] 2) = true := rfl
  have ea : Dt.asU (getI [eS (lt "skip"), .tup t, eI j] 1) = t := rfl
  unfold m_Run_behind
  rw [gd h0, gd hx, okb, hw, df1 (show ¬ lt "skip" = lt "go" by decide +kernel), dt1 (show lt "skip" = lt "skip" from rfl), gd h1, gd hu, ea]
  cases e : m_reckoned t s.2.2.1 with
  | err e => rfl
  | bad => rfl
  | ok v =>
    rw [okb, okb, okb]
    show _ = (R.ok (if v = 0 then j else s.2.1 + 1, s) : R (Int × S_Run))
    by_cases z : v = 0
    · rw [if_pos (decide_eq_true z), gd h2, gd hi, if_pos z]
      rfl
    · rw [if_neg (by rw [decide_eq_false z]; decide), if_neg z]
      rfl
theorem beh_off (s : Rn) (t : List Dt) (w : Int) : m_Run_behind s [eS (lt "off"), .tup t] w = (m_reckoned t s.2.2.1).bind fun v => .ok (s.2.1 + 1, if v = 0 then s else (s.1, s.2.1, s.2.2.1, s.2.2.2.1, s.2.2.2.2.1, s.2.2.2.2.2.1, lt "told")) := by
  have h0 : inB [eS (lt "off"), .tup t] 0 := b2 (by decide) (by decide)
  have hx : Dt.isX (getI [eS (lt "off"), .tup t] 0) = true := rfl
  have hw : Dt.asX (getI [eS (lt "off"), .tup t] 0) = lt "off" := rfl
  have h1 : inB [eS (lt "off"), .tup t] 1 := b2 (by decide) (by decide)
  have hu : Dt.isU (getI [eS (lt "off"), .tup t] 1) = true := rfl
  have ea : Dt.asU (getI [eS (lt "off"), .tup t] 1) = t := rfl
  unfold m_Run_behind
  rw [gd h0, gd hx, okb, hw, df1 (show ¬ lt "off" = lt "go" by decide +kernel), df1 (show ¬ lt "off" = lt "skip" by decide +kernel), dt1 (show lt "off" = lt "off" from rfl), gd h1, gd hu, ea]
  cases e : m_reckoned t s.2.2.1 with
  | err e => rfl
  | bad => rfl
  | ok v =>
    rw [okb, okb, okb]
    show _ = (R.ok (s.2.1 + 1, if v = 0 then s else (s.1, s.2.1, s.2.2.1, s.2.2.2.1, s.2.2.2.2.1, s.2.2.2.2.2.1, lt "told")) : R (Int × S_Run))
    by_cases z : v = 0
    · rw [decide_eq_true z, if_pos z]
      rfl
    · rw [decide_eq_false z, if_neg z]
      rfl
theorem beh_let (s : Rn) (x : List Nat) (t : List Dt) (w : Int) (hl : s.2.2.1.length ≤ 10000) : m_Run_behind s [eS (lt "let"), eS x, .tup t] w = (m_reckoned t s.2.2.1).bind fun v => .ok (s.2.1 + 1, (s.1, s.2.1, putD s.2.2.1 x v, s.2.2.2.1, s.2.2.2.2.1, s.2.2.2.2.2.1, s.2.2.2.2.2.2)) := by
  have h0 : inB [eS (lt "let"), eS x, .tup t] 0 := b3 (by decide) (by decide)
  have hx : Dt.isX (getI [eS (lt "let"), eS x, .tup t] 0) = true := rfl
  have hw : Dt.asX (getI [eS (lt "let"), eS x, .tup t] 0) = lt "let" := rfl
  have h1 : inB [eS (lt "let"), eS x, .tup t] 1 := b3 (by decide) (by decide)
  have h2 : inB [eS (lt "let"), eS x, .tup t] 2 := b3 (by decide) (by decide)
  have hx1 : Dt.isX (getI [eS (lt "let"), eS x, .tup t] 1) = true := rfl
  have hu : Dt.isU (getI [eS (lt "let"), eS x, .tup t] 2) = true := rfl
  have ea : Dt.asU (getI [eS (lt "let"), eS x, .tup t] 2) = t := rfl
  have ex : Dt.asX (getI [eS (lt "let"), eS x, .tup t] 1) = x := rfl
  have g : gL s.2.2.1 := by show _ < _; omega
  unfold m_Run_behind m_Run_straight
  rw [gd h0, gd hx, okb, hw, df1 (show ¬ lt "let" = lt "go" by decide +kernel), df1 (show ¬ lt "let" = lt "skip" by decide +kernel), df1 (show ¬ lt "let" = lt "off" by decide +kernel), okb, okb, df1 (show ¬ lt "let" = lt "take" by decide +kernel), df1 (show ¬ lt "let" = lt "give" by decide +kernel), dt1 (show lt "let" = lt "let" from rfl), gd h1, gd hx1, gd h2, gd hu, ea, ex]
  cases e : m_reckoned t s.2.2.1 with
  | err e => rfl
  | bad => rfl
  | ok v =>
    rw [okb, okb, gd g]
    rfl
theorem beh_say (s : Rn) (t : List Dt) (w : Int) (hl : s.2.2.2.2.2.1.length ≤ 10000) : m_Run_behind s [eS (lt "say"), .tup t] w = (m_reckoned t s.2.2.1).bind fun v => .ok (s.2.1 + 1, (s.1, s.2.1, s.2.2.1, s.2.2.2.1, s.2.2.2.2.1, s.2.2.2.2.2.1 ++ [v], s.2.2.2.2.2.2)) := by
  have h0 : inB [eS (lt "say"), .tup t] 0 := b2 (by decide) (by decide)
  have hx : Dt.isX (getI [eS (lt "say"), .tup t] 0) = true := rfl
  have hw : Dt.asX (getI [eS (lt "say"), .tup t] 0) = lt "say" := rfl
  have h1 : inB [eS (lt "say"), .tup t] 1 := b2 (by decide) (by decide)
  have hu : Dt.isU (getI [eS (lt "say"), .tup t] 1) = true := rfl
  have ea : Dt.asU (getI [eS (lt "say"), .tup t] 1) = t := rfl
  have g : gL s.2.2.2.2.2.1 := by show _ < _; omega
  unfold m_Run_behind m_Run_straight
  rw [gd h0, gd hx, okb, hw, df1 (show ¬ lt "say" = lt "go" by decide +kernel), df1 (show ¬ lt "say" = lt "skip" by decide +kernel), df1 (show ¬ lt "say" = lt "off" by decide +kernel), okb, okb, df1 (show ¬ lt "say" = lt "take" by decide +kernel), df1 (show ¬ lt "say" = lt "give" by decide +kernel), df1 (show ¬ lt "say" = lt "let" by decide +kernel), gd h1, gd hu, ea]
  cases e : m_reckoned t s.2.2.1 with
  | err e => rfl
  | bad => rfl
  | ok v =>
    rw [okb, okb, gd g]
    rfl
theorem beh_give (s : Rn) (x : List Nat) (t u : List Dt) (w : Int) (hl : s.2.2.2.1.length ≤ 10000) : m_Run_behind s [eS (lt "give"), eS x, .tup t, .tup u] w = (m_reckoned t s.2.2.1).bind fun n => (m_reckoned u s.2.2.1).bind fun v => .ok (s.2.1 + 1, (s.1, s.2.1, s.2.2.1, putD s.2.2.2.1 (x, n) v, s.2.2.2.2.1, s.2.2.2.2.2.1, s.2.2.2.2.2.2)) := by
  have h0 : inB [eS (lt "give"), eS x, .tup t, .tup u] 0 := b4 (by decide) (by decide)
  have hx : Dt.isX (getI [eS (lt "give"), eS x, .tup t, .tup u] 0) = true := rfl
  have hw : Dt.asX (getI [eS (lt "give"), eS x, .tup t, .tup u] 0) = lt "give" := rfl
  have h1 : inB [eS (lt "give"), eS x, .tup t, .tup u] 1 := b4 (by decide) (by decide)
  have h2 : inB [eS (lt "give"), eS x, .tup t, .tup u] 2 := b4 (by decide) (by decide)
  have h3 : inB [eS (lt "give"), eS x, .tup t, .tup u] 3 := b4 (by decide) (by decide)
  have hx1 : Dt.isX (getI [eS (lt "give"), eS x, .tup t, .tup u] 1) = true := rfl
  have hu : Dt.isU (getI [eS (lt "give"), eS x, .tup t, .tup u] 2) = true := rfl
  have hu3 : Dt.isU (getI [eS (lt "give"), eS x, .tup t, .tup u] 3) = true := rfl
  have ea : Dt.asU (getI [eS (lt "give"), eS x, .tup t, .tup u] 2) = t := rfl
  have ea3 : Dt.asU (getI [eS (lt "give"), eS x, .tup t, .tup u] 3) = u := rfl
  have ex : Dt.asX (getI [eS (lt "give"), eS x, .tup t, .tup u] 1) = x := rfl
  have g : gL s.2.2.2.1 := by show _ < _; omega
  unfold m_Run_behind m_Run_straight
  rw [gd h0, gd hx, okb, hw, df1 (show ¬ lt "give" = lt "go" by decide +kernel), df1 (show ¬ lt "give" = lt "skip" by decide +kernel), df1 (show ¬ lt "give" = lt "off" by decide +kernel), okb, okb, df1 (show ¬ lt "give" = lt "take" by decide +kernel), dt1 (show lt "give" = lt "give" from rfl), gd h1, gd hx1, gd h2, gd hu, ea, ex, gd h3, gd hu3, ea3]
  cases e : m_reckoned t s.2.2.1 with
  | err e => rfl
  | bad => rfl
  | ok n =>
    show _ = (m_reckoned u s.2.2.1).bind fun v => R.ok (s.2.1 + 1, ((s.1, s.2.1, s.2.2.1, putD s.2.2.2.1 (x, n) v, s.2.2.2.2.1, s.2.2.2.2.2.1, s.2.2.2.2.2.2) : S_Run))
    rw [okb, okb, okb, okb]
    cases e2 : m_reckoned u s.2.2.1 with
    | err e => rfl
    | bad => rfl
    | ok v =>
      rw [okb, gd g]
      rfl
theorem beh_take (s : Rn) (x y : List Nat) (t : List Dt) (w : Int) (hl : s.2.2.1.length ≤ 10000) (hl2 : s.2.2.2.2.1.length ≤ 10000) : m_Run_behind s [eS (lt "take"), eS x, .tup t, eS y] w = (m_reckoned t s.2.2.1).bind fun n => .ok (s.2.1 + 1, match getD? s.2.2.2.1 ((x, n) : Pl) with
    | some v => ((s.1, s.2.1, putD s.2.2.1 y v, s.2.2.2.1, s.2.2.2.2.1, s.2.2.2.2.2.1, s.2.2.2.2.2.2) : S_Run)
    | none => (s.1, s.2.1, putD s.2.2.1 y ((getD? s.2.2.2.2.1 ((x, n) : Pl)).getD w), s.2.2.2.1, setdD s.2.2.2.2.1 (x, n) w, s.2.2.2.2.2.1, s.2.2.2.2.2.2)) := by
  have h0 : inB [eS (lt "take"), eS x, .tup t, eS y] 0 := b4 (by decide) (by decide)
  have hx : Dt.isX (getI [eS (lt "take"), eS x, .tup t, eS y] 0) = true := rfl
  have hw : Dt.asX (getI [eS (lt "take"), eS x, .tup t, eS y] 0) = lt "take" := rfl
  have h1 : inB [eS (lt "take"), eS x, .tup t, eS y] 1 := b4 (by decide) (by decide)
  have h2 : inB [eS (lt "take"), eS x, .tup t, eS y] 2 := b4 (by decide) (by decide)
  have h3 : inB [eS (lt "take"), eS x, .tup t, eS y] 3 := b4 (by decide) (by decide)
  have hx1 : Dt.isX (getI [eS (lt "take"), eS x, .tup t, eS y] 1) = true := rfl
  have hu : Dt.isU (getI [eS (lt "take"), eS x, .tup t, eS y] 2) = true := rfl
  have hx3 : Dt.isX (getI [eS (lt "take"), eS x, .tup t, eS y] 3) = true := rfl
  have ea : Dt.asU (getI [eS (lt "take"), eS x, .tup t, eS y] 2) = t := rfl
  have ex3 : Dt.asX (getI [eS (lt "take"), eS x, .tup t, eS y] 3) = y := rfl
  have ex : Dt.asX (getI [eS (lt "take"), eS x, .tup t, eS y] 1) = x := rfl
  have g : gL s.2.2.1 := by show _ < _; omega
  have g2 : gL s.2.2.2.2.1 := by show _ < _; omega
  unfold m_Run_behind m_Run_straight
  rw [gd h0, gd hx, okb, hw, df1 (show ¬ lt "take" = lt "go" by decide +kernel), df1 (show ¬ lt "take" = lt "skip" by decide +kernel), df1 (show ¬ lt "take" = lt "off" by decide +kernel), okb, okb, dt1 (show lt "take" = lt "take" from rfl), gd h1, gd hx1, gd h2, gd hu, ea, ex]
  cases e : m_reckoned t s.2.2.1 with
  | err e => rfl
  | bad => rfl
  | ok n =>
    rw [okb, okb, okb, okb]
    show _ = (R.ok (s.2.1 + 1, match getD? s.2.2.2.1 ((x, n) : Pl) with
      | some v => ((s.1, s.2.1, putD s.2.2.1 y v, s.2.2.2.1, s.2.2.2.2.1, s.2.2.2.2.2.1, s.2.2.2.2.2.2) : S_Run)
      | none => (s.1, s.2.1, putD s.2.2.1 y ((getD? s.2.2.2.2.1 ((x, n) : Pl)).getD w), s.2.2.2.1, setdD s.2.2.2.2.1 (x, n) w, s.2.2.2.2.2.1, s.2.2.2.2.2.2)) : R (Int × S_Run))
    dsimp only
    cases q : getD? s.2.2.2.1 ((x, n) : Pl) with
    | some v =>
      rw [okb, if_pos (show (some v).isSome = true from rfl), gd h3, gd hx3, ex3, gd (show (some v).isSome = true from rfl), okb, gd g]
      rfl
    | none =>
      rw [okb, if_neg (show ¬ (none : Option Int).isSome = true by decide), gd h3, gd hx3, ex3, gd g2, okb, gd g]
      rfl
def RE {α : Type} (m : R α) : Prop := (∃ a, m = .ok a) ∨ m = .err .great ∨ m = .err .nought
def stp (s : Rn) (w : Int) : Rn := match m_Run_behind s (getI s.1 s.2.1) w with
  | .ok q => (q.2.1, q.1, q.2.2.2)
  | .err .great => (s.1, s.2.1, s.2.2.1, s.2.2.2.1, s.2.2.2.2.1, s.2.2.2.2.2.1, lt "great")
  | .err .nought => (s.1, s.2.1, s.2.2.1, s.2.2.2.1, s.2.2.2.2.1, s.2.2.2.2.2.1, lt "nought")
  | _ => s
theorem step_ok {s : Rn} {w : Int} (ho : m_Run_over s = .ok false) (hi : inB s.1 s.2.1) (hb : RE (m_Run_behind s (getI s.1 s.2.1) w)) : m_Run_step s w = .ok ((), stp s w) := by
  unfold m_Run_step stp
  rw [ho, okb, if_neg Bool.false_ne_true, gd hi, okb]
  rcases hb with ⟨q, e⟩ | e | e
  · rw [e]
    rfl
  · rw [e]
    rfl
  · rw [e]
    rfl
def wkOf (g : Pl → Int) (s : Rn) : Int := match m_Run_asks s with
  | .ok (some p) => g p
  | _ => 0
def turn (g : Pl → Int) (s : Rn) : Rn := stp s (wkOf g s)
inductive StepAt (e i : Int) : List Dt → Prop
  | take {sh sl : List Nat} {t : List Dt} : low sh → low sl → TermOk t → StepAt e i [eS (lt "take"), eS sh, .tup t, eS sl]
  | give {sh : List Nat} {t u : List Dt} : low sh → TermOk t → TermOk u → StepAt e i [eS (lt "give"), eS sh, .tup t, .tup u]
  | let_ {sl : List Nat} {t : List Dt} : low sl → TermOk t → StepAt e i [eS (lt "let"), eS sl, .tup t]
  | say {t : List Dt} : TermOk t → StepAt e i [eS (lt "say"), .tup t]
  | off {t : List Dt} : TermOk t → StepAt e i [eS (lt "off"), .tup t]
  | skip {t : List Dt} {j : Int} : TermOk t → i < j → j ≤ e → StepAt e i [eS (lt "skip"), .tup t, eI j]
  | go {j : Int} : i < j → j ≤ e → StepAt e i [eS (lt "go"), eI j]
theorem StepAt.up {e e' i : Int} {r : List Dt} (h : StepAt e i r) (he : e ≤ e') : StepAt e' i r := by
  cases h with
  | take a b c => exact .take a b c
  | give a b c => exact .give a b c
  | let_ a b => exact .let_ a b
  | say a => exact .say a
  | off a => exact .off a
  | skip a b c => exact .skip a b (by omega)
  | go a b => exact .go a (by omega)
def Lead (e : Int) : Int → List (List Dt) → Prop
  | _, [] => True
  | p, r :: c => StepAt e p r ∧ Lead e (p + 1) c
theorem Lead.up {e e' : Int} (he : e ≤ e') : ∀ {p : Int} {c : List (List Dt)}, Lead e p c → Lead e' p c
  | _, [], _ => trivial
  | _, _ :: _, h => ⟨h.1.up he, Lead.up he h.2⟩
theorem Lead.app {e : Int} : ∀ {p : Int} {a b : List (List Dt)}, Lead e p a → Lead e (p + (a.length : Int)) b → Lead e p (a ++ b)
  | p, [], b, _, h => by simpa using h
  | p, x :: a, b, h, k => ⟨h.1, Lead.app h.2 (by rw [List.length_cons] at k; rwa [show p + 1 + (a.length : Int) = p + ((a.length + 1 : Nat) : Int) from by omega])⟩
theorem Lead.at_ {e : Int} : ∀ {p : Int} {c : List (List Dt)} {i : Nat} {r : List Dt}, Lead e p c → c[i]? = some r → StepAt e (p + (i : Int)) r
  | p, [], i, r, _, h => by simp at h
  | p, x :: c, 0, r, h, k => by
    rw [List.getElem?_cons_zero] at k
    cases k
    simpa using h.1
  | p, x :: c, i + 1, r, h, k => by
    rw [List.getElem?_cons_succ] at k
    have := Lead.at_ h.2 k
    rwa [show p + 1 + (i : Int) = p + ((i + 1 : Nat) : Int) from by omega] at this
theorem cod_lead : ∀ {p : Int} {rows : List Dt} {c : List (List Dt)}, Cod p rows c → ∀ {d k : Nat}, RowsOk d k rows → Lead (p + (c.length : Int)) p c := by
  intro p rows c h
  induction h with
  | nil => intro d k _; trivial
  | @plain p r rows c hn _ ih =>
    intro d k hr
    cases hr with
    | cons h1 h2 =>
      refine ⟨?_, ?_⟩
      · cases h1 with
        | take a b c => exact .take a b c
        | give a b c => exact .give a b c
        | let_ a b => exact .let_ a b
        | say a => exact .say a
        | off a => exact .off a
        | if_ => exact absurd rfl hn
      · have := ih h2
        rw [List.length_cons]
        rwa [show p + ((c.length + 1 : Nat) : Int) = p + 1 + (c.length : Int) from by omega]
  | @if1 p t a rows ca c _ _ iha ihc =>
    intro d k hr
    cases hr with
    | cons h1 h2 =>
      cases h1 with
      | if_ ht ha hb =>
        have la := iha ha
        have lc := ihc h2
        have el : ((([eS (lt "skip"), Dt.tup t, eI (p + 1 + (ca.length : Int))] :: (ca ++ c)).length : Nat) : Int) = 1 + (ca.length : Int) + (c.length : Int) := by rw [List.length_cons, List.length_append]; omega
        rw [el]
        refine ⟨.skip ht (by omega) (by omega), Lead.app (la.up (by omega)) ?_⟩
        exact lc.up (by omega)
  | @if2 p t a b rows ca cb c _ _ _ _ iha ihb ihc =>
    intro d k hr
    cases hr with
    | cons h1 h2 =>
      cases h1 with
      | if_ ht ha hb =>
        have la := iha ha
        have lb := ihb hb
        have lc := ihc h2
        have el : ((([eS (lt "skip"), Dt.tup t, eI (p + 1 + (ca.length : Int) + 1)] :: (ca ++ ([eS (lt "go"), eI (p + 1 + (ca.length : Int) + 1 + (cb.length : Int))] :: (cb ++ c)))).length : Nat) : Int) = 1 + (ca.length : Int) + 1 + (cb.length : Int) + (c.length : Int) := by rw [List.length_cons, List.length_append, List.length_cons, List.length_append]; omega
        rw [el]
        refine ⟨.skip ht (by omega) (by omega), Lead.app (la.up (by omega)) ⟨.go (by omega) (by omega), Lead.app (lb.up (by omega)) (lc.up (by omega))⟩⟩
theorem over_false {s : Rn} (h : m_Run_over s = .ok false) : s.2.2.2.2.2.2 = lt "" ∧ s.2.1 < (s.1.length : Int) := by
  unfold m_Run_over at h
  injection h with h
  rw [Bool.or_eq_false_iff] at h
  obtain ⟨h1, h2⟩ := h
  exact ⟨by simpa using h1, by have := of_decide_eq_false h2; omega⟩
theorem asks_other {s : Rn} (ho : m_Run_over s = .ok false) (hi : inB s.1 s.2.1) (h0 : inB (getI s.1 s.2.1) 0) (hx : Dt.isX (getI (getI s.1 s.2.1) 0) = true) (hw : Dt.asX (getI (getI s.1 s.2.1) 0) ≠ lt "take") : m_Run_asks s = .ok none := sat_eq (by
  unfold m_Run_asks
  refine sat_bind (Q := (· = true)) (sat_mono (sat_or (x := false) (y := true) (sat_of ho rfl) fun _ => sat_guard hi (sat_guard h0 (sat_guard hx (sat_ok (by rw [decide_eq_false hw]; rfl))))) fun b e => by rw [e]; rfl) fun b e => ?_
  subst e
  rw [if_pos rfl]
  exact sat_ok rfl)
def askT (s : Rn) (x : List Nat) (t : List Dt) : Option Pl := match m_reckoned t s.2.2.1 with
  | .ok n => if ((getD? s.2.2.2.1 ((x, n) : Pl)).isSome || (getD? s.2.2.2.2.1 ((x, n) : Pl)).isSome) = true then none else some (x, n)
  | _ => none
theorem asks_take {s : Rn} {x y : List Nat} {t : List Dt} (ho : m_Run_over s = .ok false) (hi : inB s.1 s.2.1) (er : getI s.1 s.2.1 = [eS (lt "take"), eS x, .tup t, eS y]) (ht : SatE (m_reckoned t s.2.2.1) worthOk) : m_Run_asks s = .ok (askT s x t) := sat_eq (by
  unfold m_Run_asks askT
  rw [er]
  have h0 : inB [eS (lt "take"), eS x, .tup t, eS y] 0 := b4 (by decide) (by decide)
  have h1 : inB [eS (lt "take"), eS x, .tup t, eS y] 1 := b4 (by decide) (by decide)
  have h2 : inB [eS (lt "take"), eS x, .tup t, eS y] 2 := b4 (by decide) (by decide)
  refine sat_bind (Q := (· = false)) (sat_mono (sat_or (x := false) (y := false) (sat_of ho rfl) fun _ => sat_guard hi (sat_guard h0 (sat_guard rfl (sat_ok (show (!decide (lt "take" = lt "take")) = false by rw [decide_eq_true rfl]; rfl))))) fun b e => by rw [e]; rfl) fun b e => ?_
  subst e
  rw [if_neg Bool.false_ne_true]
  refine sat_bind (Q := (· = [eS (lt "take"), eS x, .tup t, eS y])) (sat_guard hi (sat_ok rfl)) fun row e => ?_
  subst e
  rw [gd h2, gd (show Dt.isU (getI [eS (lt "take"), eS x, .tup t, eS y] 2) = true from rfl)]
  have ea : Dt.asU (getI [eS (lt "take"), eS x, .tup t, eS y] 2) = t := rfl
  rw [ea]
  rcases ht with ⟨n, e, _⟩ | e | e
  · rw [e, okb]
    refine sat_bind (Q := (· = Ctl.nx n)) (sat_of rfl rfl) fun c e => ?_
    subst e
    show Sat (m_Run_asks_J1 s _ n) _
    unfold m_Run_asks_J1
    refine sat_bind (Q := (· = ((x, n) : Pl))) (sat_guard h1 (sat_guard rfl (sat_ok rfl))) fun p e => ?_
    subst e
    refine sat_bind (Q := (· = ((getD? s.2.2.2.1 ((x, n) : Pl)).isSome || (getD? s.2.2.2.2.1 ((x, n) : Pl)).isSome))) (sat_ok rfl) fun b e => ?_
    subst e
    dsimp only
    split
    · exact sat_ok rfl
    · exact sat_ok rfl
  · rw [e]
    exact sat_of rfl rfl
  · rw [e]
    exact sat_of rfl rfl)
structure RunOk (c : List (List Dt)) (n : Nat) (s : Rn) : Prop where
  code : s.1 = c
  at0 : 0 ≤ s.2.1
  at1 : s.2.1 ≤ (c.length : Int)
  slots : slotsOk s.2.2.1
  given : ∀ r ∈ s.2.2.2.1, rwOk r
  noted : ∀ r ∈ s.2.2.2.2.1, rwOk r
  ndn : (s.2.2.2.2.1.map (·.1)).Nodup
  l1 : s.2.2.1.length ≤ n
  l2 : s.2.2.2.1.length ≤ n
  l3 : s.2.2.2.2.1.length ≤ n
  l4 : s.2.2.2.2.2.1.length ≤ n
  br : low s.2.2.2.2.2.2
theorem put_new {kvs : List Rw} {k : Pl} {v : Int} (h : getD? kvs k = none) : putD kvs k v = kvs ++ [(k, v)] := by
  unfold putD
  rw [if_neg]
  intro z
  obtain ⟨q, hq, e⟩ := List.any_eq_true.mp z
  unfold getD? at h
  rw [Option.map_eq_none_iff, List.find?_eq_none] at h
  exact h q hq e
theorem setd_cases (kvs : List Rw) (k : Pl) (v : Int) : ((getD? kvs k).isSome = true ∧ setdD kvs k v = kvs) ∨ (getD? kvs k = none ∧ setdD kvs k v = kvs ++ [(k, v)]) := by
  unfold setdD
  cases q : getD? kvs k with
  | some x => exact .inl ⟨rfl, by rw [if_pos (show (some x).isSome = true from rfl)]⟩
  | none => exact .inr ⟨rfl, by rw [if_neg (by decide)]; exact put_new q⟩
structure Went (c : List (List Dt)) (n : Nat) (s s' : Rn) (w : Int) : Prop where
  ok : RunOk c (n + 1) s'
  on : s'.2.2.2.2.2.2 ≠ lt "" ∨ s.2.1 < s'.2.1
  notes : s'.2.2.2.2.1 = s.2.2.2.2.1 ∨ ∃ p, m_Run_asks s = .ok (some p) ∧ getD? s.2.2.2.2.1 p = none ∧ s'.2.2.2.2.1 = s.2.2.2.2.1 ++ [(p, w)]
theorem ne_lit : lt "great" ≠ lt "" ∧ lt "nought" ≠ lt "" ∧ lt "told" ≠ lt "" := by decide +kernel
theorem got (s : Rn) {r : List Dt} (er : getI s.1 s.2.1 = r) (w : Int) : stp s w = match m_Run_behind s r w with
  | .ok q => (q.2.1, q.1, q.2.2.2)
  | .err .great => (s.1, s.2.1, s.2.2.1, s.2.2.2.1, s.2.2.2.2.1, s.2.2.2.2.2.1, lt "great")
  | .err .nought => (s.1, s.2.1, s.2.2.1, s.2.2.2.1, s.2.2.2.2.1, s.2.2.2.2.2.1, lt "nought")
  | _ => s := by unfold stp; rw [er]
theorem went {c : List (List Dt)} {n : Nat} {s : Rn} {w : Int} (hl : Lead (c.length : Int) 0 c) (h : RunOk c n s) (hn : n ≤ 5000) (ho : m_Run_over s = .ok false) (hw : worthOk w) :
    inB s.1 s.2.1 ∧ (∃ o, m_Run_asks s = .ok o ∧ ∀ p, o = some p → low p.1) ∧ RE (m_Run_behind s (getI s.1 s.2.1) w) ∧ ((∀ p, m_Run_asks s = .ok (some p) → True) → Went c n s (stp s w) w) := by
  obtain ⟨hb, hlt⟩ := over_false ho
  have hi : inB s.1 s.2.1 := inB_of h.at0 hlt
  obtain ⟨i, ei⟩ := Int.eq_ofNat_of_zero_le h.at0
  have hc := h.code
  have hii : i < c.length := by rw [hc] at hlt; omega
  have eg : c[i]? = some (getI s.1 s.2.1) := by
    have := getI_get hi
    rw [← this, hc]
    unfold ixI
    rw [if_pos h.at0, ei]
    rfl
  have st := Lead.at_ hl eg
  rw [Int.zero_add, ← ei] at st
  generalize er : getI s.1 s.2.1 = r at st
  have hgreat : RunOk c (n + 1) (s.1, s.2.1, s.2.2.1, s.2.2.2.1, s.2.2.2.2.1, s.2.2.2.2.2.1, lt "great") := ⟨h.code, h.at0, h.at1, h.slots, h.given, h.noted, h.ndn, by have := h.l1; show s.2.2.1.length ≤ _; omega, by have := h.l2; show s.2.2.2.1.length ≤ _; omega, by have := h.l3; show s.2.2.2.2.1.length ≤ _; omega, by have := h.l4; show s.2.2.2.2.2.1.length ≤ _; omega, lit_low.2.2.2.2⟩
  have hnought : RunOk c (n + 1) (s.1, s.2.1, s.2.2.1, s.2.2.2.1, s.2.2.2.2.1, s.2.2.2.2.2.1, lt "nought") := ⟨h.code, h.at0, h.at1, h.slots, h.given, h.noted, h.ndn, by have := h.l1; show s.2.2.1.length ≤ _; omega, by have := h.l2; show s.2.2.2.1.length ≤ _; omega, by have := h.l3; show s.2.2.2.2.1.length ≤ _; omega, by have := h.l4; show s.2.2.2.2.2.1.length ≤ _; omega, lit_low.2.1⟩
  have eg' : ∀ {m : R (Int × S_Run)}, m_Run_behind s r w = m → m = .err .great → Went c n s (stp s w) w := fun {m} e1 e2 => by rw [got s er, e1, e2]; exact ⟨hgreat, .inl ne_lit.1, .inl rfl⟩
  have en' : ∀ {m : R (Int × S_Run)}, m_Run_behind s r w = m → m = .err .nought → Went c n s (stp s w) w := fun {m} e1 e2 => by rw [got s er, e1, e2]; exact ⟨hnought, .inl ne_lit.2.1, .inl rfl⟩
  have l1 := h.l1
  have l2 := h.l2
  have l3 := h.l3
  have l4 := h.l4
  have hbr : low s.2.2.2.2.2.2 := h.br
  cases st with
  | @go j a b =>
    have e := beh_go s j w
    refine ⟨hi, ⟨none, asks_other ho hi (by rw [er]; exact b2 (by decide) (by decide)) (by rw [er]; rfl) (by rw [er]; show ¬ lt "go" = lt "take"; decide +kernel), fun p z => by cases z⟩, .inl ⟨_, e⟩, fun _ => ?_⟩
    rw [got s er, e]
    exact ⟨⟨h.code, by show 0 ≤ j; have := h.at0; omega, b, h.slots, h.given, h.noted, h.ndn, by show s.2.2.1.length ≤ _; omega, by show s.2.2.2.1.length ≤ _; omega, by show s.2.2.2.2.1.length ≤ _; omega, by show s.2.2.2.2.2.1.length ≤ _; omega, hbr⟩, .inr a, .inl rfl⟩
  | @say t ht =>
    have e := beh_say s t w (by omega)
    refine ⟨hi, ⟨none, asks_other ho hi (by rw [er]; exact b2 (by decide) (by decide)) (by rw [er]; rfl) (by rw [er]; show ¬ lt "say" = lt "take"; decide +kernel), fun p z => by cases z⟩, ?_⟩
    rcases reck_ok ht h.slots with ⟨v, ev, hv⟩ | ev | ev
    · rw [ev, okb] at e
      refine ⟨.inl ⟨_, e⟩, fun _ => ?_⟩
      rw [got s er, e]
      exact ⟨⟨h.code, by show 0 ≤ s.2.1 + 1; have := h.at0; omega, by show s.2.1 + 1 ≤ _; rw [hc] at hlt; omega, h.slots, h.given, h.noted, h.ndn, by show s.2.2.1.length ≤ _; omega, by show s.2.2.2.1.length ≤ _; omega, by show s.2.2.2.2.1.length ≤ _; omega, by show (s.2.2.2.2.2.1 ++ [v]).length ≤ _; rw [List.length_append, List.length_singleton]; omega, hbr⟩, .inr (by show s.2.1 < s.2.1 + 1; omega), .inl rfl⟩
    · rw [ev] at e
      exact ⟨.inr (.inl e), fun _ => eg' e rfl⟩
    · rw [ev] at e
      exact ⟨.inr (.inr e), fun _ => en' e rfl⟩
  | @skip t j ht a b =>
    have e := beh_skip s t j w
    refine ⟨hi, ⟨none, asks_other ho hi (by rw [er]; exact b3 (by decide) (by decide)) (by rw [er]; rfl) (by rw [er]; show ¬ lt "skip" = lt "take"; decide +kernel), fun p z => by cases z⟩, ?_⟩
    rcases reck_ok ht h.slots with ⟨v, ev, hv⟩ | ev | ev
    · rw [ev, okb] at e
      refine ⟨.inl ⟨_, e⟩, fun _ => ?_⟩
      rw [got s er, e]
      have hj : s.2.1 < (if v = 0 then j else s.2.1 + 1) ∧ (if v = 0 then j else s.2.1 + 1) ≤ (c.length : Int) := by
        rw [hc] at hlt
        split <;> omega
      exact ⟨⟨h.code, by show 0 ≤ (if v = 0 then j else s.2.1 + 1); have := h.at0; omega, hj.2, h.slots, h.given, h.noted, h.ndn, by show s.2.2.1.length ≤ _; omega, by show s.2.2.2.1.length ≤ _; omega, by show s.2.2.2.2.1.length ≤ _; omega, by show s.2.2.2.2.2.1.length ≤ _; omega, hbr⟩, .inr hj.1, .inl rfl⟩
    · rw [ev] at e
      exact ⟨.inr (.inl e), fun _ => eg' e rfl⟩
    · rw [ev] at e
      exact ⟨.inr (.inr e), fun _ => en' e rfl⟩
  | @off t ht =>
    have e := beh_off s t w
    refine ⟨hi, ⟨none, asks_other ho hi (by rw [er]; exact b2 (by decide) (by decide)) (by rw [er]; rfl) (by rw [er]; show ¬ lt "off" = lt "take"; decide +kernel), fun p z => by cases z⟩, ?_⟩
    rcases reck_ok ht h.slots with ⟨v, ev, hv⟩ | ev | ev
    · rw [ev, okb] at e
      refine ⟨.inl ⟨_, e⟩, fun _ => ?_⟩
      rw [got s er, e]
      by_cases z : v = 0
      · rw [if_pos z]
        exact ⟨⟨h.code, by show 0 ≤ s.2.1 + 1; have := h.at0; omega, by show s.2.1 + 1 ≤ _; rw [hc] at hlt; omega, h.slots, h.given, h.noted, h.ndn, by show s.2.2.1.length ≤ _; omega, by show s.2.2.2.1.length ≤ _; omega, by show s.2.2.2.2.1.length ≤ _; omega, by show s.2.2.2.2.2.1.length ≤ _; omega, hbr⟩, .inr (by show s.2.1 < s.2.1 + 1; omega), .inl rfl⟩
      · rw [if_neg z]
        exact ⟨⟨h.code, by show 0 ≤ s.2.1 + 1; have := h.at0; omega, by show s.2.1 + 1 ≤ _; rw [hc] at hlt; omega, h.slots, h.given, h.noted, h.ndn, by show s.2.2.1.length ≤ _; omega, by show s.2.2.2.1.length ≤ _; omega, by show s.2.2.2.2.1.length ≤ _; omega, by show s.2.2.2.2.2.1.length ≤ _; omega, lit_low.2.2.2.1⟩, .inl ne_lit.2.2, .inl rfl⟩
    · rw [ev] at e
      exact ⟨.inr (.inl e), fun _ => eg' e rfl⟩
    · rw [ev] at e
      exact ⟨.inr (.inr e), fun _ => en' e rfl⟩
  | @let_ x t hx ht =>
    have e := beh_let s x t w (by omega)
    refine ⟨hi, ⟨none, asks_other ho hi (by rw [er]; exact b3 (by decide) (by decide)) (by rw [er]; rfl) (by rw [er]; show ¬ lt "let" = lt "take"; decide +kernel), fun p z => by cases z⟩, ?_⟩
    rcases reck_ok ht h.slots with ⟨v, ev, hv⟩ | ev | ev
    · rw [ev, okb] at e
      refine ⟨.inl ⟨_, e⟩, fun _ => ?_⟩
      rw [got s er, e]
      have lp := putD_length (kvs := s.2.2.1) (k := x) (v := v)
      exact ⟨⟨h.code, by show 0 ≤ s.2.1 + 1; have := h.at0; omega, by show s.2.1 + 1 ≤ _; rw [hc] at hlt; omega, slots_put h.slots hv, h.given, h.noted, h.ndn, by show (putD s.2.2.1 x v).length ≤ _; omega, by show s.2.2.2.1.length ≤ _; omega, by show s.2.2.2.2.1.length ≤ _; omega, by show s.2.2.2.2.2.1.length ≤ _; omega, hbr⟩, .inr (by show s.2.1 < s.2.1 + 1; omega), .inl rfl⟩
    · rw [ev] at e
      exact ⟨.inr (.inl e), fun _ => eg' e rfl⟩
    · rw [ev] at e
      exact ⟨.inr (.inr e), fun _ => en' e rfl⟩
  | @give sh t u hsh ht hu =>
    have e := beh_give s sh t u w (by omega)
    refine ⟨hi, ⟨none, asks_other ho hi (by rw [er]; exact b4 (by decide) (by decide)) (by rw [er]; rfl) (by rw [er]; show ¬ lt "give" = lt "take"; decide +kernel), fun p z => by cases z⟩, ?_⟩
    rcases reck_ok ht h.slots with ⟨v, ev, hv⟩ | ev | ev
    · rw [ev, okb] at e
      rcases reck_ok hu h.slots with ⟨v2, ev2, hv2⟩ | ev2 | ev2
      · rw [ev2, okb] at e
        refine ⟨.inl ⟨_, e⟩, fun _ => ?_⟩
        rw [got s er, e]
        have lp := putD_length (kvs := s.2.2.2.1) (k := ((sh, v) : Pl)) (v := v2)
        exact ⟨⟨h.code, by show 0 ≤ s.2.1 + 1; have := h.at0; omega, by show s.2.1 + 1 ≤ _; rw [hc] at hlt; omega, h.slots, gifts_put h.given hsh hv2, h.noted, h.ndn, by show s.2.2.1.length ≤ _; omega, by show (putD s.2.2.2.1 (sh, v) v2).length ≤ _; omega, by show s.2.2.2.2.1.length ≤ _; omega, by show s.2.2.2.2.2.1.length ≤ _; omega, hbr⟩, .inr (by show s.2.1 < s.2.1 + 1; omega), .inl rfl⟩
      · rw [ev2] at e
        exact ⟨.inr (.inl e), fun _ => eg' e rfl⟩
      · rw [ev2] at e
        exact ⟨.inr (.inr e), fun _ => en' e rfl⟩
    · rw [ev] at e
      exact ⟨.inr (.inl e), fun _ => eg' e rfl⟩
    · rw [ev] at e
      exact ⟨.inr (.inr e), fun _ => en' e rfl⟩
  | @take sh x t hsh hx ht =>
    have e := beh_take s sh x t w (by omega) (by omega)
    have hr := reck_ok ht h.slots
    have ak := asks_take ho hi er hr
    refine ⟨hi, ⟨_, ak, fun p z => ?_⟩, ?_⟩
    · unfold askT at z
      rcases hr with ⟨v, ev, hv⟩ | ev | ev
      · rw [ev] at z
        dsimp only at z
        split at z
        · cases z
        · cases z; exact hsh
      · rw [ev] at z; cases z
      · rw [ev] at z; cases z
    rcases hr with ⟨v, ev, hv⟩ | ev | ev
    · rw [ev, okb] at e
      refine ⟨.inl ⟨_, e⟩, fun _ => ?_⟩
      rw [got s er, e]
      cases q : getD? s.2.2.2.1 ((sh, v) : Pl) with
      | some g =>
        have lp := putD_length (kvs := s.2.2.1) (k := x) (v := g)
        exact ⟨⟨h.code, by show 0 ≤ s.2.1 + 1; have := h.at0; omega, by show s.2.1 + 1 ≤ _; rw [hc] at hlt; omega, slots_put h.slots (h.given _ (getD?_mem q)).2, h.given, h.noted, h.ndn, by show (putD s.2.2.1 x g).length ≤ _; omega, by show s.2.2.2.1.length ≤ _; omega, by show s.2.2.2.2.1.length ≤ _; omega, by show s.2.2.2.2.2.1.length ≤ _; omega, hbr⟩, .inr (by show s.2.1 < s.2.1 + 1; omega), .inl rfl⟩
      | none =>
        have hgw : worthOk ((getD? s.2.2.2.2.1 ((sh, v) : Pl)).getD w) := by
          cases q2 : getD? s.2.2.2.2.1 ((sh, v) : Pl) with
          | none => exact hw
          | some g => exact (h.noted _ (getD?_mem q2)).2
        have lp := putD_length (kvs := s.2.2.1) (k := x) (v := (getD? s.2.2.2.2.1 ((sh, v) : Pl)).getD w)
        rcases setd_cases s.2.2.2.2.1 ((sh, v) : Pl) w with ⟨z1, z2⟩ | ⟨z1, z2⟩
        · dsimp only
          rw [z2]
          exact ⟨⟨h.code, by show 0 ≤ s.2.1 + 1; have := h.at0; omega, by show s.2.1 + 1 ≤ _; rw [hc] at hlt; omega, slots_put h.slots hgw, h.given, h.noted, h.ndn, by show (putD s.2.2.1 x _).length ≤ _; omega, by show s.2.2.2.1.length ≤ _; omega, by show s.2.2.2.2.1.length ≤ _; omega, by show s.2.2.2.2.2.1.length ≤ _; omega, hbr⟩, .inr (by show s.2.1 < s.2.1 + 1; omega), .inl rfl⟩
        · dsimp only
          rw [z2]
          refine ⟨⟨h.code, by show 0 ≤ s.2.1 + 1; have := h.at0; omega, by show s.2.1 + 1 ≤ _; rw [hc] at hlt; omega, slots_put h.slots hgw, h.given, fun r hr => ?_, ?_, by show (putD s.2.2.1 x _).length ≤ _; omega, by show s.2.2.2.1.length ≤ _; omega, by show (s.2.2.2.2.1 ++ [((sh, v), w)]).length ≤ _; rw [List.length_append, List.length_singleton]; omega, by show s.2.2.2.2.2.1.length ≤ _; omega, hbr⟩, .inr (by show s.2.1 < s.2.1 + 1; omega), .inr ⟨(sh, v), ?_, z1, rfl⟩⟩
          · rcases List.mem_append.mp hr with z | z
            · exact h.noted r z
            · rw [List.mem_singleton] at z; rw [z]; exact ⟨hsh, hw⟩
          · show ((s.2.2.2.2.1 ++ [((sh, v), w)]).map (·.1)).Nodup
            rw [← put_new z1]
            exact putD_nodup h.ndn
          · rw [ak]
            unfold askT
            rw [ev]
            dsimp only
            rw [q, z1]
            rfl
    · rw [ev] at e
      exact ⟨.inr (.inl e), fun _ => eg' e rfl⟩
    · rw [ev] at e
      exact ⟨.inr (.inr e), fun _ => en' e rfl⟩
def ovr (s : Rn) : Bool := (!decide (s.2.2.2.2.2.2 = lt "")) || decide ((s.1.length : Int) ≤ s.2.1)
theorem over_eq (s : Rn) : m_Run_over s = .ok (ovr s) := rfl
abbrev Pap := ((List Nat) × Dt) × List Rw × List Rw
def papOf (s : Rn) : Pap := if s.2.2.2.2.2.2 = lt "" then ((lt "done", (eU eI) s.2.2.2.2.2.1), s.2.2.2.2.1, sortX (e2 eP eI) s.2.2.2.1) else ((lt "off", eS s.2.2.2.2.2.2), s.2.2.2.2.1, [])
def run0 (c : List (List Dt)) : Rn := (c, 0, [], [], [], [], lt "")
theorem run0_ok (c : List (List Dt)) : RunOk c 0 (run0 c) where
  code := rfl
  at0 := by show (0 : Int) ≤ 0; omega
  at1 := by show (0 : Int) ≤ _; omega
  slots := ⟨List.nodup_nil, fun p hp => by cases hp⟩
  given := fun r hr => by cases hr
  noted := fun r hr => by cases hr
  ndn := List.nodup_nil
  l1 := Nat.le_refl _
  l2 := Nat.le_refl _
  l3 := Nat.le_refl _
  l4 := Nat.le_refl _
  br := by show low (lt ""); unfold low; decide +kernel
theorem paper_ok {s : Rn} (h : ovr s = true) : m_Run_paper s = .ok (some (papOf s), s) := by
  unfold m_Run_paper papOf
  rw [over_eq, h]
  by_cases z : s.2.2.2.2.2.2 = lt ""
  · rw [if_pos z, show R.not (R.ok true) = R.ok false from rfl, okb, if_neg Bool.false_ne_true, okb, decide_eq_true z]
    rfl
  · rw [if_neg z, show R.not (R.ok true) = R.ok false from rfl, okb, if_neg Bool.false_ne_true, okb, decide_eq_false z]
    rfl
theorem given_cases {c : List (List Dt)} {n : Nat} {s : Rn} {w : Int} (hl : Lead (c.length : Int) 0 c) (h : RunOk c n s) (hn : n ≤ 5000) (ho : m_Run_over s = .ok false) : (stp s w).2.2.2.1 = s.2.2.2.1 ∨ ∃ p v, (stp s w).2.2.2.1 = putD s.2.2.2.1 p v := by
  obtain ⟨hb, hlt⟩ := over_false ho
  have hi : inB s.1 s.2.1 := inB_of h.at0 hlt
  obtain ⟨i, ei⟩ := Int.eq_ofNat_of_zero_le h.at0
  have hc := h.code
  have eg : c[i]? = some (getI s.1 s.2.1) := by
    have := getI_get hi
    rw [← this, hc]
    unfold ixI
    rw [if_pos h.at0, ei]
    rfl
  have st := Lead.at_ hl eg
  rw [Int.zero_add, ← ei] at st
  generalize er : getI s.1 s.2.1 = r at st
  have eg' : ∀ {m : R (Int × S_Run)}, m_Run_behind s r w = m → m = .err .great → (stp s w).2.2.2.1 = s.2.2.2.1 := fun {m} e1 e2 => by rw [got s er, e1, e2]
  have en' : ∀ {m : R (Int × S_Run)}, m_Run_behind s r w = m → m = .err .nought → (stp s w).2.2.2.1 = s.2.2.2.1 := fun {m} e1 e2 => by rw [got s er, e1, e2]
  have l1 := h.l1
  have l2 := h.l2
  have l3 := h.l3
  have l4 := h.l4
  cases st with
  | @go j a b =>
    have e := beh_go s j w
    rw [got s er, e]
    exact .inl rfl
  | @say t ht =>
    have e := beh_say s t w (by omega)
    rcases reck_ok ht h.slots with ⟨v, ev, hv⟩ | ev | ev
    · rw [ev, okb] at e; rw [got s er, e]; exact .inl rfl
    · rw [ev] at e; exact .inl (eg' e rfl)
    · rw [ev] at e; exact .inl (en' e rfl)
  | @skip t j ht a b =>
    have e := beh_skip s t j w
    rcases reck_ok ht h.slots with ⟨v, ev, hv⟩ | ev | ev
    · rw [ev, okb] at e; rw [got s er, e]; exact .inl rfl
    · rw [ev] at e; exact .inl (eg' e rfl)
    · rw [ev] at e; exact .inl (en' e rfl)
  | @off t ht =>
    have e := beh_off s t w
    rcases reck_ok ht h.slots with ⟨v, ev, hv⟩ | ev | ev
    · rw [ev, okb] at e
      rw [got s er, e]
      by_cases z : v = 0
      · rw [if_pos z]; exact .inl rfl
      · rw [if_neg z]; exact .inl rfl
    · rw [ev] at e; exact .inl (eg' e rfl)
    · rw [ev] at e; exact .inl (en' e rfl)
  | @let_ x t hx ht =>
    have e := beh_let s x t w (by omega)
    rcases reck_ok ht h.slots with ⟨v, ev, hv⟩ | ev | ev
    · rw [ev, okb] at e; rw [got s er, e]; exact .inl rfl
    · rw [ev] at e; exact .inl (eg' e rfl)
    · rw [ev] at e; exact .inl (en' e rfl)
  | @give sh t u hsh ht hu =>
    have e := beh_give s sh t u w (by omega)
    rcases reck_ok ht h.slots with ⟨v, ev, hv⟩ | ev | ev
    · rw [ev, okb] at e
      rcases reck_ok hu h.slots with ⟨v2, ev2, hv2⟩ | ev2 | ev2
      · rw [ev2, okb] at e; rw [got s er, e]; exact .inr ⟨_, _, rfl⟩
      · rw [ev2] at e; exact .inl (eg' e rfl)
      · rw [ev2] at e; exact .inl (en' e rfl)
    · rw [ev] at e; exact .inl (eg' e rfl)
    · rw [ev] at e; exact .inl (en' e rfl)
  | @take sh x t hsh hx ht =>
    have e := beh_take s sh x t w (by omega) (by omega)
    rcases reck_ok ht h.slots with ⟨v, ev, hv⟩ | ev | ev
    · rw [ev, okb] at e
      rw [got s er, e]
      cases q : getD? s.2.2.2.1 ((sh, v) : Pl) with
      | some g => exact .inl rfl
      | none => exact .inl rfl
    · rw [ev] at e; exact .inl (eg' e rfl)
    · rw [ev] at e; exact .inl (en' e rfl)
mutual
theorem RowOk.up : ∀ {d e k : Nat} {r : Dt}, RowOk d k r → d ≤ e → RowOk e k r
  | _, _, _, _, .take a b c, _ => .take a b c
  | _, _, _, _, .give a b c, _ => .give a b c
  | _, _, _, _, .let_ a b, _ => .let_ a b
  | _, _, _, _, .say a, _ => .say a
  | _, _, _, _, .off a, _ => .off a
  | _, 0, _, _, .if_ _ _ _, h => absurd h (by omega)
  | _, e + 1, _, _, .if_ a b c, h => .if_ a (RowsOk.up b (by omega)) (RowsOk.up c (by omega))
theorem RowsOk.up : ∀ {d e k : Nat} {rs : List Dt}, RowsOk d k rs → d ≤ e → RowsOk e k rs
  | _, _, _, _, .nil, _ => .nil
  | _, _, _, _, .cons a b, h => .cons (RowOk.up a h) (RowsOk.up b h)
end
theorem rows_app : ∀ {d k k' : Nat} {a b : List Dt}, RowsOk d k a → RowsOk d k' b → RowsOk d (k + k') (a ++ b)
  | _, _, _, _, _, .nil, h => by rw [Nat.zero_add]; exact h
  | _, _, _, _, _, .cons x y, h => by rw [Nat.add_assoc]; exact .cons x (rows_app y h)
theorem rows_len : ∀ {d k : Nat} {a : List Dt}, RowsOk d k a → a.length ≤ k
  | _, _, _, .nil => Nat.le_refl _
  | _, _, _, .cons x y => by have := rows_len y; have := (row_head x).2.2.2; rw [List.length_cons]; omega
theorem p40 : ((10 : Int) ^ (40 : Int).toNat) = 10000000000000000000000000000000000000000 ∧ ((10 : Int) ^ (30 : Int).toNat) = 1000000000000000000000000000000 := by decide +kernel
theorem big_ok (c j : Int) (h0 : 0 ≤ j) (h1 : j ≤ 800) : Sat (R.guard (CPow (10 : Int) (40 : Int)) (R.guard (0 < ((10 : Int) ^ (40 : Int).toNat)) (R.guard (CMulW (c % ((10 : Int) ^ (40 : Int).toNat)) (j + (2 : Int))) (R.guard (CMulW ((c % ((10 : Int) ^ (40 : Int).toNat)) * (j + (2 : Int))) (1000003 : Int)) (R.guard (CPow (10 : Int) (30 : Int)) (R.guard (CMulW (2 : Int) ((10 : Int) ^ (30 : Int).toNat)) (R.guard (0 < (((2 : Int) * ((10 : Int) ^ (30 : Int).toNat)) + (1 : Int))) (R.guard (CPow (10 : Int) (30 : Int)) (R.ok ((((((c % ((10 : Int) ^ (40 : Int).toNat)) * (j + (2 : Int))) * (1000003 : Int)) + j) % (((2 : Int) * ((10 : Int) ^ (30 : Int).toNat)) + (1 : Int))) - ((10 : Int) ^ (30 : Int).toNat))))))))))) worthOk := by
  rw [p40.1, p40.2]
  have hm := Int.emod_nonneg c (b := 10000000000000000000000000000000000000000) (by decide)
  have hl := Int.emod_lt_of_pos c (b := 10000000000000000000000000000000000000000) (by decide)
  have h1' : (c % 10000000000000000000000000000000000000000 * (j + 2)).natAbs < 2 ^ 200 := by
    rw [Int.natAbs_mul]
    have a : (c % 10000000000000000000000000000000000000000).natAbs < 2 ^ 140 := by omega
    have b : (j + 2).natAbs < 2 ^ 60 := by omega
    exact Nat.lt_of_lt_of_le (Nat.mul_lt_mul_of_lt_of_le (a := (c % 10000000000000000000000000000000000000000).natAbs) a (Nat.le_of_lt b) (by decide)) (by decide)
  generalize c % 10000000000000000000000000000000000000000 * (j + 2) = x at h1' ⊢
  have e1 := Int.emod_nonneg (x * 1000003 + j) (b := 2 * 1000000000000000000000000000000 + 1) (by decide)
  have e2 := Int.emod_lt_of_pos (x * 1000003 + j) (b := 2 * 1000000000000000000000000000000 + 1) (by decide)
  exact sat_guard (by decide +kernel) (sat_guard (by decide) (sat_guard (mulW (a := 140) (b := 60) (by omega) (by omega) (by decide) (by decide) (by decide)) (sat_guard (mulW (a := 200) (b := 40) h1' (by decide) (by decide) (by decide) (by decide))
    (sat_guard (by decide +kernel) (sat_guard (mulW (a := 40) (b := 140) (by decide) (by decide) (by decide) (by decide) (by decide)) (sat_guard (by decide) (sat_guard (by decide +kernel) (sat_ok (by unfold worthOk B30; omega)))))))))
theorem small {v : Int} (h0 : -1000 ≤ v) (h : v ≤ 1000) : worthOk v := by unfold worthOk B30; omega
theorem pickG (c j : Int) {m : Int} {l : List (List Nat)} {P : List Nat → Prop} (h0 : 0 ≤ j) (h1 : j ≤ 1000) (hm : 0 < m) (hl : m ≤ l.length) (h : ∀ n ∈ l, P n) : Sat ((R.ok l).bind fun x => ((m_law_draw c j).bind fun x => (R.ok m).bind fun y => R.guard (0 < y) (R.ok (x % y))).bind fun y => R.guard (inB x y) (R.ok (getI x y))) P := by
  refine sat_bind (Q := (· = l)) (sat_ok rfl) fun x e => ?_
  subst e
  refine sat_bind (dm c j h0 h1 hm) fun i hi => ?_
  have hb : inB x i := inB_of hi.1 (by omega)
  exact sat_guard hb (sat_ok (h _ (getI_mem hb)))
theorem u_arg {m : R Dt} {P : Dt → Prop} (h : Sat m P) : Sat (m.bind fun a => (R.ok ()).bind fun b => R.ok (a, b)) fun x : Dt × Unit => P x.1 := sat_bind h fun a ha => sat_bind (Q := fun _ => True) (sat_ok trivial) fun _ _ => sat_ok ha
theorem eU_eAx (l : List Dt) : eU eA l = .tup l := by show Dt.tup (l.map eA) = _; rw [map_eA]
def LeafOk (d : Dt) : Prop := (∃ v, d = eI v ∧ worthOk v) ∨ ∃ n, d = eS n ∧ nmOk n
theorem pf_leaf {d : Dt} (h : LeafOk d) {k : Nat} {ps : List Dt} (p : Pf (k + 1) ps) : Pf k (d :: ps) := by
  rcases h with ⟨v, rfl, hv⟩ | ⟨n, rfl, hn⟩
  · exact .int hv p
  · exact .name (nm_doer hn) hn.2.1 p
def Brk (s : Rn) : Prop := s.2.2.2.2.2.2 = lt "" ∨ s.2.2.2.2.2.2 = lt "told" ∨ s.2.2.2.2.2.2 = lt "great" ∨ s.2.2.2.2.2.2 = lt "nought"
theorem stp_more {c : List (List Dt)} {n : Nat} {s : Rn} {w : Int} (hl : Lead (c.length : Int) 0 c) (h : RunOk c n s) (hn : n ≤ 5000) (ho : m_Run_over s = .ok false) : Brk (stp s w) ∧ ((∀ p, m_Run_asks s ≠ .ok (some p)) → stp s w = stp s 0) := by
  obtain ⟨hb, hlt⟩ := over_false ho
  have hi : inB s.1 s.2.1 := inB_of h.at0 hlt
  obtain ⟨i, ei⟩ := Int.eq_ofNat_of_zero_le h.at0
  have hc := h.code
  have eg : c[i]? = some (getI s.1 s.2.1) := by
    have := getI_get hi
    rw [← this, hc]
    unfold ixI
    rw [if_pos h.at0, ei]
    rfl
  have st := Lead.at_ hl eg
  rw [Int.zero_add, ← ei] at st
  generalize er : getI s.1 s.2.1 = r at st
  have l1 := h.l1
  have l2 := h.l2
  have l3 := h.l3
  have l4 := h.l4
  have bg : ∀ {m : R (Int × S_Run)}, m_Run_behind s r w = m → m = .err .great → Brk (stp s w) := fun {m} e1 e2 => by rw [got s er, e1, e2]; exact .inr (.inr (.inl rfl))
  have bn : ∀ {m : R (Int × S_Run)}, m_Run_behind s r w = m → m = .err .nought → Brk (stp s w) := fun {m} e1 e2 => by rw [got s er, e1, e2]; exact .inr (.inr (.inr rfl))
  have same : ∀ {M : R (Int × S_Run)}, m_Run_behind s r w = M → m_Run_behind s r 0 = M → stp s w = stp s 0 := fun {M} e1 e2 => by rw [got s er w, got s er 0, e1, e2]
  cases st with
  | @go j a b =>
    refine ⟨?_, fun _ => same (beh_go s j w) (beh_go s j 0)⟩
    rw [got s er, beh_go s j w]
    exact .inl hb
  | @say t ht =>
    refine ⟨?_, fun _ => same (beh_say s t w (by omega)) (beh_say s t 0 (by omega))⟩
    have e := beh_say s t w (by omega)
    rcases reck_ok ht h.slots with ⟨v, ev, hv⟩ | ev | ev
    · rw [ev, okb] at e; rw [got s er, e]; exact .inl hb
    · rw [ev] at e; exact bg e rfl
    · rw [ev] at e; exact bn e rfl
  | @skip t j ht a b =>
    refine ⟨?_, fun _ => same (beh_skip s t j w) (beh_skip s t j 0)⟩
    have e := beh_skip s t j w
    rcases reck_ok ht h.slots with ⟨v, ev, hv⟩ | ev | ev
    · rw [ev, okb] at e; rw [got s er, e]; exact .inl hb
    · rw [ev] at e; exact bg e rfl
    · rw [ev] at e; exact bn e rfl
  | @off t ht =>
    refine ⟨?_, fun _ => same (beh_off s t w) (beh_off s t 0)⟩
    have e := beh_off s t w
    rcases reck_ok ht h.slots with ⟨v, ev, hv⟩ | ev | ev
    · rw [ev, okb] at e
      rw [got s er, e]
      by_cases z : v = 0
      · rw [if_pos z]; exact .inl hb
      · rw [if_neg z]; exact .inr (.inl rfl)
    · rw [ev] at e; exact bg e rfl
    · rw [ev] at e; exact bn e rfl
  | @let_ x t hx ht =>
    refine ⟨?_, fun _ => same (beh_let s x t w (by omega)) (beh_let s x t 0 (by omega))⟩
    have e := beh_let s x t w (by omega)
    rcases reck_ok ht h.slots with ⟨v, ev, hv⟩ | ev | ev
    · rw [ev, okb] at e; rw [got s er, e]; exact .inl hb
    · rw [ev] at e; exact bg e rfl
    · rw [ev] at e; exact bn e rfl
  | @give sh t u hsh ht hu =>
    refine ⟨?_, fun _ => same (beh_give s sh t u w (by omega)) (beh_give s sh t u 0 (by omega))⟩
    have e := beh_give s sh t u w (by omega)
    rcases reck_ok ht h.slots with ⟨v, ev, hv⟩ | ev | ev
    · rw [ev, okb] at e
      rcases reck_ok hu h.slots with ⟨v2, ev2, hv2⟩ | ev2 | ev2
      · rw [ev2, okb] at e; rw [got s er, e]; exact .inl hb
      · rw [ev2] at e; exact bg e rfl
      · rw [ev2] at e; exact bn e rfl
    · rw [ev] at e; exact bg e rfl
    · rw [ev] at e; exact bn e rfl
  | @take sh x t hsh hx ht =>
    have e := beh_take s sh x t w (by omega) (by omega)
    have e0 := beh_take s sh x t 0 (by omega) (by omega)
    have hr := reck_ok ht h.slots
    have ak := asks_take ho hi er hr
    rcases hr with ⟨v, ev, hv⟩ | ev | ev
    · rw [ev, okb] at e e0
      refine ⟨?_, fun hno => ?_⟩
      · rw [got s er, e]
        cases q : getD? s.2.2.2.1 ((sh, v) : Pl) with
        | some g => exact .inl hb
        | none => exact .inl hb
      · rw [got s er w, got s er 0, e, e0]
        cases q : getD? s.2.2.2.1 ((sh, v) : Pl) with
        | some g => rfl
        | none =>
          rw [ak] at hno
          unfold askT at hno
          rw [ev] at hno
          dsimp only at hno
          rw [q] at hno
          cases q2 : getD? s.2.2.2.2.1 ((sh, v) : Pl) with
          | none =>
            rw [q2] at hno
            exact absurd rfl (hno _)
          | some g =>
            have z : ∀ w, setdD s.2.2.2.2.1 ((sh, v) : Pl) w = s.2.2.2.2.1 := fun w => by
              rcases setd_cases s.2.2.2.2.1 ((sh, v) : Pl) w with ⟨_, z⟩ | ⟨z, _⟩
              · exact z
              · rw [q2] at z; cases z
            dsimp only
            rw [z w, z 0]
            rfl
    · rw [ev] at e e0
      exact ⟨bg e rfl, fun _ => same e e0⟩
    · rw [ev] at e e0
      exact ⟨bn e rfl, fun _ => same e e0⟩
def repF (c : List (List Dt)) (made : List (Option Int)) : Rn := made.foldl (fun s o => stp s (o.getD 0)) (run0 c)
theorem repF_snoc (c : List (List Dt)) (m : List (Option Int)) (o : Option Int) : repF c (m ++ [o]) = stp (repF c m) (o.getD 0) := by
  unfold repF
  rw [List.foldl_append]
  rfl
def Ans (s : Rn) (o : Option Int) : Prop := ovr s = false ∧ match o with
  | none => m_Run_asks s = .ok none
  | some w => worthOk w ∧ ∃ p, m_Run_asks s = .ok (some p)
structure Rep (c : List (List Dt)) (made : List (Option Int)) : Prop where
  ok : RunOk c made.length (repF c made)
  brk : Brk (repF c made)
  nd : ((repF c made).2.2.2.1.map (·.1)).Nodup
  le : made.length ≤ c.length
  on : (repF c made).2.2.2.2.2.2 ≠ lt "" ∨ (made.length : Int) ≤ (repF c made).2.1
theorem rep_nil (c : List (List Dt)) : Rep c [] := ⟨run0_ok c, .inl rfl, List.nodup_nil, Nat.zero_le _, .inr (by show (0 : Int) ≤ 0; omega)⟩
theorem Rep.snoc {c : List (List Dt)} {m : List (Option Int)} {o : Option Int} (hl : Lead (c.length : Int) 0 c) (hc : c.length ≤ 4000) (h : Rep c m) (ha : Ans (repF c m) o) : Rep c (m ++ [o]) ∧ ∀ w, worthOk w → (o = none ∨ o = some w) → m_Run_step (repF c m) w = .ok ((), repF c (m ++ [o])) := by
  have hn : m.length ≤ 5000 := by have := h.le; omega
  have ho : m_Run_over (repF c m) = .ok false := by rw [over_eq, ha.1]
  have hw0 : worthOk (o.getD 0) := by
    cases o with
    | none => exact worth0
    | some w => exact ha.2.1
  obtain ⟨hi, _, hre, hwt⟩ := went hl h.ok hn ho hw0
  have ww := hwt fun _ _ => trivial
  have sm := stp_more (w := o.getD 0) hl h.ok hn ho
  obtain ⟨hb, hlt⟩ := over_false ho
  have hat : (m.length : Int) ≤ (repF c m).2.1 := by
    rcases h.on with z | z
    · exact absurd hb z
    · exact z
  have hcode := h.ok.code
  have e := repF_snoc c m o
  refine ⟨⟨by rw [List.length_append, List.length_singleton, e]; exact ww.ok, by rw [e]; exact sm.1, ?_, ?_, ?_⟩, fun w hw hcase => ?_⟩
  · rw [e]
    rcases given_cases (w := o.getD 0) hl h.ok hn ho with z | ⟨p, v, z⟩
    · rw [z]; exact h.nd
    · rw [z]; exact putD_nodup h.nd
  · rw [List.length_append, List.length_singleton]
    rw [hcode] at hlt
    omega
  · rw [e, List.length_append, List.length_singleton]
    rcases ww.on with z | z
    · exact .inl z
    · exact .inr (by omega)
  · obtain ⟨_, _, hre2, _⟩ := went hl h.ok hn ho hw
    rw [step_ok ho hi hre2, e]
    rcases hcase with rfl | rfl
    · have hno : ∀ p, m_Run_asks (repF c m) ≠ .ok (some p) := fun p z => by
        have := ha.2
        dsimp only at this
        rw [this] at z
        cases z
      rw [(stp_more (w := w) hl h.ok hn ho).2 hno]
      rfl
    · rfl
theorem asked_ok {c : List (List Dt)} {n : Nat} {s : Rn} {w : Int} {p : Pl} (hl : Lead (c.length : Int) 0 c) (h : RunOk c n s) (hn : n ≤ 5000) (ho : m_Run_over s = .ok false) (ha : m_Run_asks s = .ok (some p)) : (stp s w).2.2.2.2.1 = s.2.2.2.2.1 ++ [(p, w)] := by
  obtain ⟨hb, hlt⟩ := over_false ho
  have hi : inB s.1 s.2.1 := inB_of h.at0 hlt
  obtain ⟨i, ei⟩ := Int.eq_ofNat_of_zero_le h.at0
  have hc := h.code
  have eg : c[i]? = some (getI s.1 s.2.1) := by
    have := getI_get hi
    rw [← this, hc]
    unfold ixI
    rw [if_pos h.at0, ei]
    rfl
  have st := Lead.at_ hl eg
  rw [Int.zero_add, ← ei] at st
  generalize er : getI s.1 s.2.1 = r at st
  have no : ∀ {r : List Dt}, getI s.1 s.2.1 = r → inB r 0 → Dt.isX (getI r 0) = true → Dt.asX (getI r 0) ≠ lt "take" → False := fun {r} e a b d => by
    rw [asks_other ho hi (by rw [e]; exact a) (by rw [e]; exact b) (by rw [e]; exact d)] at ha
    cases ha
  cases st with
  | go => exact (no er (b2 (by decide) (by decide)) rfl (by show ¬ lt "go" = lt "take"; decide +kernel)).elim
  | say => exact (no er (b2 (by decide) (by decide)) rfl (by show ¬ lt "say" = lt "take"; decide +kernel)).elim
  | off => exact (no er (b2 (by decide) (by decide)) rfl (by show ¬ lt "off" = lt "take"; decide +kernel)).elim
  | skip => exact (no er (b3 (by decide) (by decide)) rfl (by show ¬ lt "skip" = lt "take"; decide +kernel)).elim
  | let_ => exact (no er (b3 (by decide) (by decide)) rfl (by show ¬ lt "let" = lt "take"; decide +kernel)).elim
  | give => exact (no er (b4 (by decide) (by decide)) rfl (by show ¬ lt "give" = lt "take"; decide +kernel)).elim
  | @take sh x t hsh hx ht =>
    have l1 := h.l1
    have l3 := h.l3
    have e := beh_take s sh x t w (by omega) (by omega)
    have hr := reck_ok ht h.slots
    have ak := asks_take ho hi er hr
    rw [ak] at ha
    injection ha with ha
    unfold askT at ha
    rcases hr with ⟨v, ev, hv⟩ | ev | ev
    · rw [ev] at ha
      dsimp only at ha
      split at ha
      · cases ha
      · rename_i hno
        cases ha
        rw [Bool.not_eq_true, Bool.or_eq_false_iff] at hno
        obtain ⟨q1, q2⟩ := hno
        have n1 : getD? s.2.2.2.1 ((sh, v) : Pl) = none := by
          cases z : getD? s.2.2.2.1 ((sh, v) : Pl) with
          | none => rfl
          | some y => rw [z] at q1; cases q1
        have n2 : getD? s.2.2.2.2.1 ((sh, v) : Pl) = none := by
          cases z : getD? s.2.2.2.2.1 ((sh, v) : Pl) with
          | none => rfl
          | some y => rw [z] at q2; cases q2
        rw [ev, okb, n1] at e
        rw [got s er, e]
        rcases setd_cases s.2.2.2.2.1 ((sh, v) : Pl) w with ⟨z1, z2⟩ | ⟨z1, z2⟩
        · rw [n2] at z1; cases z1
        · exact z2
    · rw [ev] at ha; cases ha
    · rw [ev] at ha; cases ha
abbrev Fm := Dt × Dt × List Dt
def OthOk (d k : Nat) (o : Dt) : Prop := (o = .non ∧ k = 0) ∨ ∃ l, o = .lst l ∧ RowsOk d k l
inductive Stk : Nat → Nat → List Fm → Prop
  | one {k : Nat} {a : Dt} {l : List Dt} : RowsOk 5 k l → Stk 0 k [(a, .non, l)]
  | more {i k k1 k2 : Nat} {S : List Fm} {t : List Dt} {o : Dt} {l : List Dt} : Stk i k S → i < 5 → TermOk t → OthOk (4 - i) k1 o → RowsOk (4 - i) k2 l → Stk (i + 1) (k + k1 + k2 + 1) ((.tup t, o, l) :: S)
theorem Stk.len : ∀ {i k : Nat} {S : List Fm}, Stk i k S → S.length = i + 1 ∧ i ≤ 5
  | _, _, _, .one _ => ⟨rfl, by omega⟩
  | _, _, _, .more h hi _ _ _ => by have := h.len; exact ⟨by rw [List.length_cons]; omega, by omega⟩
theorem Stk.row {i k j : Nat} {a b : Dt} {l : List Dt} {S : List Fm} {r : Dt} (h : Stk i k ((a, b, l) :: S)) (hr : RowOk (5 - i) j r) : Stk i (k + j) ((a, b, l ++ [r]) :: S) := by
  have hj : RowsOk (5 - i) j [r] := by simpa using RowsOk.cons hr RowsOk.nil
  cases h with
  | one h => exact .one (rows_app h hj)
  | @more i k k1 k2 _ _ _ _ h hi ht ho hl =>
    have e : 5 - (i + 1) = 4 - i := by omega
    rw [e] at hj
    have := Stk.more h hi ht ho (rows_app hl hj)
    rwa [show k + k1 + (k2 + j) + 1 = k + k1 + k2 + 1 + j from by omega] at this
theorem Stk.lenL {i k : Nat} {a b : Dt} {l : List Dt} {S : List Fm} (h : Stk i k ((a, b, l) :: S)) : l.length ≤ k := by
  cases h with
  | one h => exact rows_len h
  | more h hi ht ho hl => have := rows_len hl; omega
theorem Stk.turn {i k : Nat} {a : Dt} {l : List Dt} {S : List Fm} (h : Stk (i + 1) k ((a, .non, l) :: S)) : Stk (i + 1) k ((a, .lst l, []) :: S) := by
  cases h with
  | @more i k k1 k2 _ _ _ _ h hi ht ho hl =>
    rcases ho with ⟨_, rfl⟩ | ⟨l', z, _⟩
    · have := Stk.more h hi ht (.inr ⟨l, rfl, hl⟩) .nil
      rwa [show k + k2 + 0 + 1 = k + 0 + k2 + 1 from by omega] at this
    · cases z
theorem Stk.cons {i k : Nat} {S : List Fm} (h : Stk i k S) : ∃ f S', S = f :: S' := by
  cases h with
  | one => exact ⟨_, _, rfl⟩
  | more => exact ⟨_, _, rfl⟩
theorem top_pop (f : Fm) (S : List Fm) : popR ((f :: S).reverse) = .ok (f, S.reverse) := by
  unfold popR
  rw [List.reverse_cons, gd (by rw [List.length_append, List.length_singleton]; omega)]
  simp
theorem top_in (f : Fm) (S : List Fm) : inB ((f :: S).reverse) (-1) := ⟨by rw [List.length_reverse, List.length_cons]; omega, by omega⟩
theorem top_ix (f : Fm) (S : List Fm) : ixI ((f :: S).reverse) (-1) = S.length := by
  unfold ixI
  rw [if_neg (by decide), List.length_reverse, List.length_cons]
  omega
theorem top_get (f : Fm) (S : List Fm) : getI ((f :: S).reverse) (-1) = f := by
  unfold getI
  rw [top_ix, List.reverse_cons, List.getD_eq_getElem?_getD, List.getElem?_append_right (by rw [List.length_reverse]; exact Nat.le_refl _), List.length_reverse, Nat.sub_self]
  rfl
theorem top_set (f g : Fm) (S : List Fm) : setI ((f :: S).reverse) (-1) g = (g :: S).reverse := by
  unfold setI
  rw [top_ix, List.reverse_cons, List.set_append_right _ _ (by rw [List.length_reverse]; exact Nat.le_refl _), List.length_reverse, Nat.sub_self, List.reverse_cons]
  rfl
theorem top_app {β : Type} {f : Fm} {S : List Fm} {r : Dt} {n : Nat} {k : List Fm → R β} (hn : f.2.2.length ≤ n) (h : n ≤ 100000) :
    (R.guard (inB ((f :: S).reverse) (-(1 : Int))) ((R.ok r).bind fun a => R.guard (gL (getI ((f :: S).reverse) (-(1 : Int))).2.2) ((R.ok ((getI ((f :: S).reverse) (-(1 : Int))).2.2 ++ [a])).bind fun v =>
      (R.ok ((setI ((f :: S).reverse) (-(1 : Int)) ((getI ((f :: S).reverse) (-(1 : Int))).1, (getI ((f :: S).reverse) (-(1 : Int))).2.1, v)))).bind k))) = k (((f.1, f.2.1, f.2.2 ++ [r]) :: S).reverse) := by
  rw [gd (top_in f S), okb, top_get, gd (show gL f.2.2 from (show f.2.2.length < 16777216 by omega)), okb, okb, top_set]
theorem closed_ok {i k : Nat} {S : List Fm} (h : Stk (i + 1) k S) (hk : k ≤ 100000) : ∃ S', m_law_closed S.reverse = .ok ((), S'.reverse) ∧ Stk i k S' := by
  cases h with
  | @more i k k1 k2 S t o l h hi ht ho hl =>
    obtain ⟨⟨a, b, l0⟩, S0, rfl⟩ := h.cons
    have hl0 := h.lenL
    unfold m_law_closed
    rw [top_pop, okb, okb, okb]
    rcases ho with ⟨rfl, rfl⟩ | ⟨l1, rfl, h1⟩
    · refine ⟨(a, b, l0 ++ [.tup [eS (lt "if"), .tup t, .lst l, .lst []]]) :: S0, ?_, ?_⟩
      · show ((R.guard _ ((R.ok _).bind _)) : R _) = _
        have e : (e4 eS eA (eL eA) (eL eA)) ((lt "if"), Dt.tup t, l, ([] : List Dt)) = .tup [eS (lt "if"), .tup t, .lst l, .lst []] := by show Dt.tup [_, _, eL eA l, eL eA []] = _; rw [eLeA, eLeA]
        show (R.guard (inB (((a, b, l0) :: S0).reverse) (-(1 : Int))) ((R.ok ((e4 eS eA (eL eA) (eL eA)) ((lt "if"), Dt.tup t, l, ([] : List Dt)))).bind _)) = _
        rw [e]
        exact top_app (n := 100000) (by show l0.length ≤ _; omega) (by decide)
      · have := h.row (r := .tup [eS (lt "if"), .tup t, .lst l, .lst []]) (j := k2 + 0 + 1) (by rw [show 5 - i = 4 - i + 1 from by omega]; exact .if_ ht hl .nil)
        rwa [show k + (k2 + 0 + 1) = k + 0 + k2 + 1 from by omega] at this
    · refine ⟨(a, b, l0 ++ [.tup [eS (lt "if"), .tup t, .lst l1, .lst l]]) :: S0, ?_, ?_⟩
      · have e : (e4 eS eA eA (eL eA)) ((lt "if"), Dt.tup t, Dt.lst l1, l) = .tup [eS (lt "if"), .tup t, .lst l1, .lst l] := by show Dt.tup [_, _, _, eL eA l] = _; rw [eLeA]
        show (R.guard (inB (((a, b, l0) :: S0).reverse) (-(1 : Int))) ((R.ok ((e4 eS eA eA (eL eA)) ((lt "if"), Dt.tup t, Dt.lst l1, l))).bind _)) = _
        rw [e]
        exact top_app (n := 100000) (by show l0.length ≤ _; omega) (by decide)
      · have := h.row (r := .tup [eS (lt "if"), .tup t, .lst l1, .lst l]) (j := k1 + k2 + 1) (by rw [show 5 - i = 4 - i + 1 from by omega]; exact .if_ ht h1 hl)
        rwa [show k + (k1 + k2 + 1) = k + k1 + k2 + 1 from by omega] at this
theorem worthL_ok (c j : Int) (h0 : 0 ≤ j) (h1 : j ≤ 800) : Sat (m_law_worth c j) worthOk := by
  unfold m_law_worth
  refine sat_bind (dm c j h0 (by omega) (by decide)) fun way _ => ?_
  refine sat_bind (Q := fun _ => True) (sat_ok trivial) fun b _ => sat_if (fun _ => sat_ok worth0) fun _ => ?_
  refine sat_bind (Q := fun _ => True) (sat_ok trivial) fun b _ => sat_if (fun _ => big_ok c j h0 h1) fun _ => ?_
  exact sat_bind (dm c (j + 1) (by omega) (by omega) (by decide)) fun x hx => sat_bind (Q := (· = 2)) (sat_ok rfl) fun y e => by subst e; exact sat_ok (small (by omega) (by omega))
theorem w26 : lt "plus" ∈ k_DOERS ∧ lt "over" ∈ k_DOERS ∧ lt "minus" ∈ k_DOERS ∧ lt "same" ∈ k_DOERS ∧ lt "under" ∈ k_DOERS := by decide +kernel
theorem t3 {d : Dt} {v : Int} {w : List Nat} (h1 : LeafOk d) (h2 : worthOk v) (h3 : w ∈ k_DOERS) : TermOk [d, eI v, eS w] := ⟨by show 3 ≤ 100; decide, pf_leaf h1 (.int h2 (.word h3 .nil))⟩
theorem spot_ok (c : Int) {sl : List (List Nat)} (hl : sl.length = 2) (hs : ∀ n ∈ sl, nmOk n) : Sat (m_law_spot c sl) TermOk := by
  unfold m_law_spot
  refine sat_bind (dm c 20 (by decide) (by decide) (by decide)) fun way _ => ?_
  refine sat_bind (Q := fun _ => True) (sat_ok trivial) fun b _ => sat_if (fun _ => ?_) fun _ => ?_
  · exact sat_bind (u_arg (P := LeafOk) (sat_bind (pick c 21 (by decide) (by decide) (by decide) (by omega) hs) fun n hn => sat_ok (.inr ⟨n, rfl, hn⟩))) fun x hx => sat_ok ⟨by show 1 ≤ 100; decide, pf_leaf hx .nil⟩
  refine sat_bind (Q := fun _ => True) (sat_ok trivial) fun b _ => sat_if (fun _ => ?_) fun _ => ?_
  · refine sat_bind (Q := fun x : Dt × Dt × Dt × Unit => LeafOk x.1 ∧ (∃ v, x.2.1 = eI v ∧ worthOk v) ∧ ∃ w, x.2.2.1 = eS w ∧ w ∈ k_DOERS) (sat_bind (Q := LeafOk) (sat_bind (pick c 21 (by decide) (by decide) (by decide) (by omega) hs) fun n hn => sat_ok (.inr ⟨n, rfl, hn⟩)) fun a ha => sat_bind (Q := fun y : Dt × Dt × Unit => (∃ v, y.1 = eI v ∧ worthOk v) ∧ ∃ w, y.2.1 = eS w ∧ w ∈ k_DOERS) (sat_bind (Q := fun d : Dt => ∃ v, d = eI v ∧ worthOk v) (sat_bind (worthL_ok c 22 (by decide) (by decide)) fun v hv => sat_ok ⟨v, rfl, hv⟩) fun b hb => sat_bind (u_arg (P := fun d => ∃ w, d = eS w ∧ w ∈ k_DOERS) (sat_bind (pickG (P := fun w => w ∈ k_DOERS) c 24 (by decide) (by decide) (by decide) (by decide) (fun n hn => by
      rcases List.mem_cons.mp hn with e | hn
      · rw [e]; exact w26.1
      · rw [List.mem_singleton] at hn; rw [hn]; exact w26.2.1)) fun w hw => sat_ok ⟨w, rfl, hw⟩)) fun q hq => sat_ok ⟨hb, hq⟩) fun y hy => sat_ok ⟨ha, hy⟩) fun x hx => ?_
    obtain ⟨h1, ⟨v, e1, hv⟩, w, e2, hw⟩ := hx
    rw [e1, e2]
    exact sat_ok (t3 h1 hv hw)
  · exact sat_bind (u_arg (P := LeafOk) (sat_bind (Q := worthOk) (sat_bind (dm c 25 (by decide) (by decide) (by decide)) fun x hx => sat_bind (Q := (· = 2)) (sat_ok rfl) fun y e => by subst e; exact sat_ok (small (by omega) (by omega))) fun v hv => sat_ok (.inl ⟨v, rfl, hv⟩))) fun x hx => sat_ok ⟨by show 1 ≤ 100; decide, pf_leaf hx .nil⟩
theorem spot_arg (c : Int) {sl : List (List Nat)} (hl : sl.length = 2) (hs : ∀ n ∈ sl, nmOk n) : Sat ((m_law_spot c sl).bind fun a => R.ok ((eU eA) a)) fun x => ∃ t, x = .tup t ∧ TermOk t :=
  sat_bind (spot_ok c hl hs) fun t ht => sat_ok ⟨t, eU_eAx t, ht⟩
theorem trip (c j : Int) (h0 : 0 ≤ j) (h1 : j ≤ 800) {slot w : List Nat} (hs : nmOk slot) (hw : w ∈ k_DOERS) : Sat ((((m_law_worth c j).bind fun a => (R.ok ()).bind fun b => R.ok (a, b)).bind fun x => R.ok (slot, x.1, w)).bind fun a => R.ok ((e3 eS eI eS) a)) fun d => ∃ t, d = .tup t ∧ TermOk t :=
  sat_bind (Q := fun q : List Nat × Int × List Nat => q.1 = slot ∧ worthOk q.2.1 ∧ q.2.2 = w) (sat_bind (Q := fun x : Int × Unit => worthOk x.1) (sat_bind (worthL_ok c j h0 h1) fun v hv => sat_bind (Q := fun _ => True) (sat_ok trivial) fun _ _ => sat_ok hv) fun x hx => sat_ok ⟨rfl, hx, rfl⟩) fun q hq => sat_ok ⟨[eS q.1, eI q.2.1, eS q.2.2], rfl, by rw [hq.1, hq.2.2]; exact t3 (.inr ⟨slot, rfl, hs⟩) hq.2.1 hw⟩
def PlainR (r : List Dt) : Prop := ∀ d, RowOk d 1 (.tup r)
theorem row_ok (c : Int) {sl sh : List (List Nat)} (hl : sl.length = 2) (hs : ∀ n ∈ sl, nmOk n) (hl2 : sh.length = 2) (hs2 : ∀ n ∈ sh, nmOk n) : Sat (m_law_row c sl sh) PlainR := by
  unfold m_law_row
  refine sat_bind (dm c 0 (by decide) (by decide) (by decide)) fun kind _ => ?_
  refine sat_bind (pick c 60 (by decide) (by decide) (by decide) (by omega) hs2) fun shelf hsh => ?_
  refine sat_bind (pick c 61 (by decide) (by decide) (by decide) (by omega) hs) fun slot hsl => ?_
  refine sat_bind (Q := fun _ => True) (sat_ok trivial) fun z _ => sat_if (fun _ => ?_) fun _ => ?_
  · refine sat_bind (u_arg (spot_arg c hl hs)) fun x hx => ?_
    obtain ⟨t, e, ht⟩ := hx
    rw [e]
    exact sat_ok fun d => .take hsh.2.1 hsl.2.1 ht
  refine sat_bind (Q := fun _ => True) (sat_ok trivial) fun z _ => sat_if (fun _ => ?_) fun _ => ?_
  · refine sat_bind (Q := fun x : Dt × Dt × Unit => (∃ t, x.1 = .tup t ∧ TermOk t) ∧ ∃ t, x.2.1 = .tup t ∧ TermOk t) (sat_bind (spot_arg c hl hs) fun a ha => sat_bind (u_arg (trip c 30 (by decide) (by decide) hsl w26.2.2.1)) fun b hb => sat_ok ⟨ha, hb⟩) fun x hx => ?_
    obtain ⟨⟨t, e1, ht⟩, u, e2, hu⟩ := hx
    rw [e1, e2]
    exact sat_ok fun d => .give hsh.2.1 ht hu
  refine sat_bind (Q := fun _ => True) (sat_ok trivial) fun z _ => sat_if (fun _ => ?_) fun _ => ?_
  · refine sat_bind (u_arg (trip c 31 (by decide) (by decide) hsl w26.2.2.2.1)) fun x hx => ?_
    obtain ⟨t, e, ht⟩ := hx
    rw [e]
    exact sat_ok fun d => .off ht
  refine sat_bind (Q := fun _ => True) (sat_ok trivial) fun z _ => sat_if (fun _ => ?_) fun _ => ?_
  · refine sat_bind (u_arg (P := fun d => ∃ t, d = .tup t ∧ TermOk t) (sat_bind (Q := worthOk) (sat_bind (Q := fun x : Int × Unit => worthOk x.1) (sat_bind (worthL_ok c 32 (by decide) (by decide)) fun v hv => sat_bind (Q := fun _ => True) (sat_ok trivial) fun _ _ => sat_ok hv) fun x hx => sat_ok hx) fun v hv => sat_ok ⟨[eI v], rfl, by show 1 ≤ 100; decide, pf_leaf (.inl ⟨v, rfl, hv⟩) .nil⟩)) fun x hx => ?_
    obtain ⟨t, e, ht⟩ := hx
    rw [e]
    exact sat_ok fun d => .let_ hsl.2.1 ht
  · refine sat_bind (u_arg (trip c 33 (by decide) (by decide) hsl w26.2.2.2.2)) fun x hx => ?_
    obtain ⟨t, e, ht⟩ := hx
    rw [e]
    exact sat_ok fun d => .say ht
theorem rev_snoc (f : Fm) (S : List Fm) : S.reverse ++ [f] = (f :: S).reverse := by rw [List.reverse_cons]
theorem rL1_ok {i k : Nat} {S : List Fm} {cell : Int} {sl sh : List (List Nat)} (hl : sl.length = 2) (hs : ∀ n ∈ sl, nmOk n) (hl2 : sh.length = 2) (hs2 : ∀ n ∈ sh, nmOk n) (h : Stk i k S) (hk : k ≤ 1000) : Sat (m_law_rows_L1 sl sh S.reverse cell) fun s => ∃ i' k' S', s = S'.reverse ∧ Stk i' k' S' ∧ k' ≤ k + 1 := by
  have hln := h.len
  unfold m_law_rows_L1
  refine sat_bind (dm cell 0 (by decide) (by decide) (by decide)) fun kind _ => ?_
  refine sat_bind (Q := fun b => b = true → i < 5) (sat_ok fun z => ?_) fun b hb => sat_if (fun hbt => ?_) fun _ => ?_
  · have := of_decide_eq_true (Bool.and_eq_true_iff.mp z).2
    rw [List.length_reverse] at this
    omega
  · have hi := hb hbt
    refine sat_bind (Q := fun f : Fm => ∃ t, f = (.tup t, .non, []) ∧ TermOk t) (sat_bind (Q := fun p : Dt × Dt × List Dt × Unit => ∃ t, (p.1, p.2.1, p.2.2.1) = ((.tup t, .non, []) : Fm) ∧ TermOk t) (sat_bind (Q := fun a : Dt => ∃ t, a = .tup t ∧ TermOk t) (sat_bind (Q := nmOk) (sat_bind (Q := fun x : List Nat × Unit => nmOk x.1) (sat_bind (pick cell 61 (by decide) (by decide) (by decide) (by omega) hs) fun n hn => sat_bind (Q := fun _ => True) (sat_ok trivial) fun _ _ => sat_ok hn) fun x hx => sat_ok hx) fun n hn => sat_ok ⟨[eS n], rfl, by show 1 ≤ 100; decide, pf_leaf (.inr ⟨n, rfl, hn⟩) .nil⟩) fun a ha => ?_) fun p hp => sat_ok hp) fun f hf => ?_
    · obtain ⟨t, rfl, ht⟩ := ha
      exact sat_of (a := ((.tup t, .non, [], ()) : Dt × Dt × List Dt × Unit)) rfl ⟨t, rfl, ht⟩
    · obtain ⟨t, rfl, ht⟩ := hf
      refine sat_guard (show S.reverse.length < _ by rw [List.length_reverse]; omega) (sat_bind (Q := (· = S.reverse ++ [(.tup t, .non, [])])) (sat_ok rfl) fun s e => ?_)
      refine sat_ok ⟨i + 1, k + 0 + 0 + 1, (.tup t, .non, []) :: S, by rw [e, rev_snoc], .more h hi ht (.inl ⟨rfl, rfl⟩) .nil, by omega⟩
  refine sat_bind (Q := fun s => ∃ i' k' S', s = List.reverse S' ∧ Stk i' k' S' ∧ k' ≤ k + 1) ?_ fun s hs => by unfold m_law_rows_J1; exact sat_ok hs
  obtain ⟨⟨a, b, l⟩, S0, rfl⟩ := h.cons
  have hll := h.lenL
  refine sat_bind (Q := fun z => z = true → ∃ i', i = i' + 1 ∧ b = .non) ?_ fun z hz => sat_if (fun hzt => ?_) fun _ => ?_
  · rw [gd (top_in _ _), top_get]
    cases h1 : decide (kind = (18 : Int)) with
    | false => exact ⟨false, rfl, fun z => by cases z⟩
    | true =>
      cases h2 : decide ((1 : Int) < (((a, b, l) :: S0).reverse.length : Int)) with
      | false => exact ⟨false, rfl, fun z => by cases z⟩
      | true =>
        refine ⟨Dt.isN b, rfl, fun z => ?_⟩
        have := of_decide_eq_true h2
        rw [List.length_reverse, hln.1] at this
        refine ⟨i - 1, by omega, ?_⟩
        cases h with
        | one h => rfl
        | more h hi ht ho hl =>
          rcases ho with ⟨rfl, _⟩ | ⟨l1, rfl, _⟩
          · rfl
          · cases z
  · obtain ⟨i', rfl, rfl⟩ := hz hzt
    refine sat_guard (top_in _ _) ?_
    rw [top_get, top_set, eLeA]
    exact sat_bind (Q := (· = List.reverse ((a, .lst l, []) :: S0))) (sat_ok rfl) fun s e => sat_ok ⟨i' + 1, k, _, e, h.turn, by omega⟩
  refine sat_bind (Q := fun z => z = true → ∃ i', i = i' + 1) (sat_ok fun z => ?_) fun z hz => sat_if (fun hzt => ?_) fun _ => ?_
  · have := of_decide_eq_true (Bool.and_eq_true_iff.mp z).2
    rw [List.length_reverse] at this
    exact ⟨i - 1, by omega⟩
  · obtain ⟨i', rfl⟩ := hz hzt
    obtain ⟨S', e, hS⟩ := closed_ok h (by omega)
    refine sat_bind (Q := (· = ((), S'.reverse))) (sat_of (show ((R.ok ()).bind fun _ => m_law_closed (((a, b, l) :: S0).reverse)) = _ from e) rfl) fun q e => ?_
    subst e
    exact sat_bind (Q := (· = S'.reverse)) (sat_ok rfl) fun s e => sat_ok ⟨i', k, S', e, hS, by omega⟩
  · obtain ⟨r, er, hr⟩ := row_ok cell hl hs hl2 hs2
    have er2 : ((m_law_row cell sl sh).bind fun a => R.ok ((eU eA) a)) = .ok (.tup r) := by rw [er, okb, eU_eAx]
    rw [er2]
    have := top_app (f := (a, b, l)) (S := S0) (r := .tup r) (n := 1000) (k := fun v => R.ok v) (by show l.length ≤ _; omega) (by decide)
    exact sat_of this ⟨i, k + 1, (a, b, l ++ [.tup r]) :: S0, rfl, h.row (hr _), by omega⟩
theorem rows_ok (cells : List Int) {sl sh : List (List Nat)} (hc : cells.length ≤ 63) (hl : sl.length = 2) (hs : ∀ n ∈ sl, nmOk n) (hl2 : sh.length = 2) (hs2 : ∀ n ∈ sh, nmOk n) : Sat (m_law_rows cells sl sh) fun rs => ∃ k, k ≤ 63 ∧ RowsOk 5 k rs := by
  unfold m_law_rows
  refine sat_bind (Q := fun s => ∃ a, s = ([(a, .non, [])] : List Fm)) (sat_of (a := [(eN (), eN (), [])]) rfl ⟨_, rfl⟩) fun s0 h0 => ?_
  refine sat_bind (Q := fun s => ∃ i k S, s = List.reverse S ∧ Stk i k S ∧ k ≤ cells.length) (sat_bind (Q := (· = cells)) (sat_ok rfl) fun c e => ?_) fun s hs' => ?_
  · subst e
    refine sat_fold (fun pre s => ∃ i k S, s = List.reverse S ∧ Stk i k S ∧ k ≤ pre.length) (by obtain ⟨a, rfl⟩ := h0; exact ⟨0, 0, [(a, .non, [])], rfl, .one .nil, by simp⟩) fun pre x suf s e hs' => ?_
    obtain ⟨i, k, S, rfl, h, hk⟩ := hs'
    have hpre : pre.length < 63 := by rw [e, List.length_append, List.length_cons] at hc; omega
    exact sat_mono (rL1_ok hl hs hl2 hs2 h (by omega)) fun s hs' => by
      obtain ⟨i', k', S', e, h', hk'⟩ := hs'
      exact ⟨i', k', S', e, h', by rw [List.length_append, List.length_singleton]; omega⟩
  · obtain ⟨i, k, S, rfl, h, hk⟩ := hs'
    unfold m_law_rows_J2
    refine sat_bind (Q := fun c : Ctl (List Fm) (List Dt) => match c with | .nx s => ∃ a l, s = [(a, .non, l)] ∧ RowsOk 5 k l | .rt _ => False | .bk _ => False) ?_ fun c hcx => ?_
    · refine sat_while (fun s => ∃ i S, s = List.reverse S ∧ Stk i k S) (fun s => s.length) ⟨i, S, rfl, h⟩ (by omega) fun s hs' => ?_
      obtain ⟨i, S, rfl, h⟩ := hs'
      have hl := h.len
      unfold m_law_rows_Q1
      refine sat_ok ?_
      rw [List.length_reverse]
      by_cases z : (1 : Int) < (S.length : Int)
      · rw [decide_eq_true z]
        obtain ⟨i', rfl⟩ : ∃ i', i = i' + 1 := ⟨i - 1, by omega⟩
        obtain ⟨S', e, hS⟩ := closed_ok h (by omega)
        refine sat_of (a := Ctl.nx S'.reverse) ?_ ⟨⟨i', S', rfl, hS⟩, by have := hS.len; rw [List.length_reverse]; omega⟩
        unfold m_law_rows_L2
        rw [okb, e]
        rfl
      · rw [decide_eq_false z]
        cases h with
        | one h => exact ⟨_, _, rfl, h⟩
        | more h hi ht ho hl2 => exact absurd z (by have := h.len; rw [List.length_cons]; omega)
    · cases c with
      | nx s =>
        obtain ⟨a, l, rfl, hr⟩ := hcx
        exact sat_of (a := l) rfl ⟨k, by omega, hr⟩
      | rt _ => exact hcx.elim
      | bk _ => exact hcx.elim
abbrev nts26 (s : Rn) : List Rw := s.2.2.2.2.1
theorem no_key {L : List Rw} {p : Pl} (h : getD? L p = none) : p ∉ L.map (·.1) := fun hm => by
  obtain ⟨r, hr, e⟩ := List.mem_map.mp hm
  unfold getD? at h
  cases z : L.find? (fun r => decide (r.1 = p)) with
  | some q => rw [z] at h; cases h
  | none =>
    have := List.find?_eq_none.mp z r hr
    exact this (decide_eq_true e)
theorem ne_self {d : Dt} (h : gQ d) : (R.guard (gQ2 d d) (R.ok (!eqD d d))) = .ok false := by rw [gd ⟨h, h⟩, eqD_same h.1]; rfl
theorem eq_self {d : Dt} (h : gQ d) : (R.guard (gQ2 d d) (R.ok (eqD d d))) = .ok true := by rw [gd ⟨h, h⟩, eqD_same h.1]
theorem is_place_ok (p : Pl) : m_law_is_place p = .ok true := by
  unfold m_law_is_place
  rw [okb, if_neg (by decide)]
  rfl
theorem asked26 {c : List (List Dt)} {m : List (Option Int)} {cell : Int} (hl : Lead (c.length : Int) 0 c) (hc : c.length ≤ 500) (h : Rep c m) (ho : ovr (repF c m) = false) :
    ∃ o, m_law_asked (repF c m) cell (nts26 (repF c m)) = .ok (true, repF c (m ++ [o]), nts26 (repF c (m ++ [o]))) ∧ Rep c (m ++ [o]) := by
  have hle := h.le
  have hn : m.length ≤ 5000 := by omega
  have hov : m_Run_over (repF c m) = .ok false := by rw [over_eq, ho]
  obtain ⟨_, ⟨a, ea, la⟩, _, _⟩ := went (w := 0) hl h.ok hn hov worth0
  have pn : m_Run_paper (repF c m) = .ok (none, repF c m) := by
    unfold m_Run_paper
    rw [hov]
    rfl
  have nl := h.ok.l3
  obtain ⟨w, ew, hw⟩ := worthL_ok cell ((40 : Int) + ((nts26 (repF c m)).length : Int)) (by omega) (by show (40 : Int) + ((repF c m).2.2.2.2.1.length : Int) ≤ 800; omega)
  have gP : gQ ((eO eP) a) := by
    cases a with
    | none => exact gQn_gQ (n := 0) ⟨rfl, rfl, by show PyData.depth .none ≤ 0; simp [PyData.depth]⟩ (by decide)
    | some p => exact gQn_gQ (gQ_plc (la p rfl)) (by decide)
  have first : (((R.ok a).bind fun x343 => (R.ok a).bind fun x344 => R.guard (gQ2 ((eO eP) x343) ((eO eP) x344)) (R.ok (!eqD ((eO eP) x343) ((eO eP) x344)))).bind fun b => R.ok (b, repF c m)) = .ok (false, repF c m) := by
    rw [okb, okb, ne_self gP, okb]
  have dn : (((R.ok ()).bind fun x => m_Run_paper (repF c m)).calm) = .ok (none, repF c m) := by rw [okb, pn]; rfl
  cases a with
  | none =>
    have an : Ans (repF c m) none := ⟨ho, ea⟩
    have sn := h.snoc hl (by omega) an
    have st := sn.2 w hw (.inl rfl)
    have same : nts26 (repF c (m ++ [none])) = nts26 (repF c m) := by
      obtain ⟨_, _, _, wt⟩ := went (w := 0) hl h.ok hn hov worth0
      have ww := wt fun _ _ => trivial
      rw [repF_snoc]
      rcases ww.notes with e | ⟨p, e, _⟩
      · exact e
      · rw [ea] at e; cases e
    refine ⟨none, ?_, sn.1⟩
    unfold m_law_asked
    rw [ea, okb, first, okb]
    dsimp only
    rw [if_neg Bool.false_ne_true, dn, okb, okb]
    dsimp only
    rw [if_neg (by decide), okb, ew]
    show ((R.ok w).bind _) = _
    rw [okb, okb, if_pos (show (none : Option Pl).isNone = true from rfl), okb, st]
    show ((R.ok _).bind _) = _
    rw [okb, okb, okb, same]
  | some p =>
    have an : Ans (repF c m) (some w) := ⟨ho, hw, p, ea⟩
    have sn := h.snoc hl (by omega) an
    have st := sn.2 w hw (.inr rfl)
    obtain ⟨_, _, _, wt⟩ := went (w := w) hl h.ok hn hov hw
    have ww := wt fun _ _ => trivial
    have ak := asked_ok (w := w) hl h.ok hn hov ea
    have new : getD? (nts26 (repF c m)) p = none ∧ nts26 (repF c (m ++ [some w])) = nts26 (repF c m) ++ [(p, w)] := by
      refine ⟨?_, by rw [repF_snoc]; exact ak⟩
      rcases ww.notes with e | ⟨q, e, g, _⟩
      · rw [ak] at e
        have := congrArg List.length e
        rw [List.length_append, List.length_singleton] at this
        omega
      · rw [ea] at e
        cases e
        exact g
    have lows : ∀ q ∈ (nts26 (repF c m)).map (·.1), low q.1 := fun q hq => by
      obtain ⟨r, hr, e⟩ := List.mem_map.mp hq
      rw [← e]
      exact (h.ok.noted r hr).1
    have gL2 : gQ (eL eP ((nts26 (repF c m)).map (·.1))) := gQn_gQ (n := 2) (gQn_lst fun d hd => by
      obtain ⟨q, hq, rfl⟩ := List.mem_map.mp hd
      exact gQ_plc (lows q hq)) (by decide)
    have mp : mapR (fun x => m_law_asked_C1 x) (nts26 (repF c m)) = .ok ((nts26 (repF c m)).map (·.1)) := by
      generalize nts26 (repF c m) = L
      induction L with
      | nil => rfl
      | cons r L ih =>
        show ((m_law_asked_C1 r).calm.bind _) = _
        rw [show m_law_asked_C1 r = R.ok r.1 from rfl]
        show ((R.ok r.1).bind _) = _
        rw [okb, ih, okb]
        rfl
    refine ⟨some w, ?_, sn.1⟩
    unfold m_law_asked
    rw [ea, okb, first, okb]
    dsimp only
    rw [if_neg Bool.false_ne_true, dn, okb, okb]
    dsimp only
    rw [if_neg (by decide), okb, ew]
    show ((R.ok w).bind _) = _
    rw [okb, okb, if_neg (show ¬ (some p : Option Pl).isNone = true from Bool.false_ne_true)]
    have t2 : (R.or (R.not ((R.guard ((some p : Option Pl).isSome = true) (m_law_is_place ((some p : Option Pl).getD default))).calm)) (R.guard ((some p : Option Pl).isSome = true) ((R.guard ((nts26 (repF c m)).length ≤ 16777216) (mapR (fun x => m_law_asked_C1 x) (nts26 (repF c m)))).bind fun x361 => R.guard (gQ2 (eP ((some p : Option Pl).getD default)) (eL eP x361)) (R.ok (decide (((some p : Option Pl).getD default) ∈ x361)))))) = .ok false := by
      show R.or (R.not ((m_law_is_place p).calm)) ((R.guard ((nts26 (repF c m)).length ≤ 16777216) (mapR (fun x => m_law_asked_C1 x) (nts26 (repF c m)))).bind fun x361 => R.guard (gQ2 (eP p) (eL eP x361)) (R.ok (decide (p ∈ x361)))) = _
      rw [is_place_ok, gd (by show (repF c m).2.2.2.2.1.length ≤ 16777216; omega), mp, okb, gd ⟨gP, gL2⟩, decide_eq_false (no_key new.1)]
      rfl
    rw [t2, okb, if_neg Bool.false_ne_true]
    show ((R.ok (p, w)).bind _) = _
    rw [okb, gd (by show (repF c m).2.2.2.2.1.length < 16777216; omega), okb, okb]
    have stp2 : (((if decide (w = (0 : Int)) = true then (
  (((R.ok ()).bind fun x368 => m_Run_step (repF c m) (0 : Int)).calm).bind fun a370 =>
  (R.ok (a370.2)).bind fun v_run =>
  R.ok v_run) else (
  (((R.ok ()).bind fun x371 => m_Run_step (repF c m) w).calm).bind fun a373 =>
  (R.ok (a373.2)).bind fun v_run =>
  R.ok v_run)) : R S_Run)) = .ok (repF c (m ++ [some w])) := by
      by_cases z : w = 0
      · rw [if_pos (decide_eq_true z), okb, ← z, st]
        rfl
      · rw [if_neg (by rw [decide_eq_false z]; decide), okb, st]
        rfl
    rw [stp2, okb]
    unfold m_law_asked_J1
    rw [okb, new.2]
theorem same_ok (P : Pap) (h : ∀ r ∈ P.2.1, low r.1.1) : m_law_same ((eO (e3 (e2 eS eA) (eL (e2 eP eI)) (eL (e2 eP eI)))) (some P)) P.2.1 = .ok true := by
  have g := gQn_gQ (gQ_rowsN h) (show 3 ≤ 64 by decide)
  apply sat_eq
  unfold m_law_same
  refine sat_bind (Q := (· = false)) (sat_or (x := false) (y := false) (sat_guard (by show "tuple" ≠ "?"; decide) (sat_ok (by show (!((kitB "tuple" "tuple").getD false)) = false; decide +kernel))) fun _ => sat_or (x := false) (y := false) (sat_guard rfl (sat_ok rfl)) fun _ => sat_guard rfl (sat_guard (inB_of (by decide) (by show (1 : Int) < 3; decide)) (sat_guard (by show "list" ≠ "?"; decide) (sat_ok (by show (!((kitB "list" "list").getD false)) = false; decide +kernel))))) fun b e => ?_
  subst e
  rw [if_neg Bool.false_ne_true]
  refine sat_bind (Q := (· = Ctl.nx ())) ?_ fun q e => ?_
  · refine sat_bind (Q := (· = eL (e2 eP eI) P.2.1)) (sat_bind (Q := (· = eL (e2 eP eI) P.2.1)) (sat_guard rfl (sat_guard (inB_of (by decide) (by show (1 : Int) < 3; decide)) (sat_ok rfl))) fun d e => by subst e; exact sat_guard rfl (sat_ok rfl)) fun c e => ?_
    subst e
    refine sat_for (P := (· = Ctl.nx ())) (fun _ _ => True) trivial (fun pre d suf s e _ => ?_) fun _ _ => rfl
    have hd : d ∈ P.2.1.map (e2 eP eI) := by
      have e : P.2.1.map (e2 eP eI) = pre ++ d :: suf := e
      rw [e]; simp
    obtain ⟨r, hr, rfl⟩ := List.mem_map.mp hd
    have main : Sat (m_law_same_L1 (e2 eP eI r)) (· = Ctl.nx ()) := by
      unfold m_law_same_L1
      refine sat_bind (Q := (· = false)) (sat_or (x := false) (y := false) (sat_guard (by show "tuple" ≠ "?"; decide) (sat_ok (by show (!((kitB "tuple" "tuple").getD false)) = false; decide +kernel))) fun _ => sat_or (x := false) (y := false) (sat_guard rfl (sat_ok rfl)) fun _ => sat_guard rfl (sat_guard (inB_of (by decide) (by show (1 : Int) < 2; decide)) (sat_guard (by show "int" ≠ "?"; decide) (sat_ok (by show ((kitB "int" "bool").getD false) = false; decide +kernel))))) fun b e => ?_
      subst e
      exact sat_ok rfl
    exact sat_mono main fun q e => by subst e; trivial
  · subst e
    show Sat (m_law_same_J1 _ _) _
    unfold m_law_same_J1
    refine sat_guard rfl (sat_guard (inB_of (by decide) (by show (1 : Int) < 3; decide)) ?_)
    show Sat (R.guard (gQ2 (eL (e2 eP eI) P.2.1) (eL (e2 eP eI) P.2.1)) (R.ok (eqD (eL (e2 eP eI) P.2.1) (eL (e2 eP eI) P.2.1)))) _
    rw [eq_self g]
    exact sat_ok rfl
theorem pap_nts (s : Rn) : (papOf s).2.1 = nts26 s := by unfold papOf; split <;> rfl
theorem run_ok {c : List (List Dt)} (hl : Lead (c.length : Int) 0 c) (hc : c.length ≤ 500) {cells : List Int} (hne : 0 < cells.length) : m_law_run c cells = .ok true := by
  apply sat_eq
  unfold m_law_run
  rw [okb, okb]
  show Sat (((R.ok ((), run0 c, c)).bind _)) _
  rw [okb, okb, okb, okb, okb, okb]
  have ov0 : m_Run_over (run0 c) = .ok (decide ((c.length : Int) = 0)) := by
    rw [over_eq]
    unfold ovr
    show R.ok ((!decide (lt "" = lt "")) || decide ((c.length : Int) ≤ 0)) = _
    rw [decide_eq_true (rfl : lt "" = lt "")]
    by_cases z : (c.length : Int) = 0
    · rw [decide_eq_true z, decide_eq_true (by omega)]
      rfl
    · rw [decide_eq_false z, decide_eq_false (by omega)]
      rfl
  dsimp only
  rw [ov0, okb, okb, decide_eq_true (rfl : decide ((c.length : Int) = 0) = decide ((c.length : Int) = 0)), okb]
  rw [if_neg (by decide)]
  refine sat_bind (Q := fun q : Ctl (S_Run × List Rw × Int) Bool => ∃ m, q = .nx (repF c m, nts26 (repF c m), (m.length : Int)) ∧ Rep c m ∧ ovr (repF c m) = true) ?_ fun q hq => ?_
  · refine sat_while (fun s => ∃ m, s = (repF c m, nts26 (repF c m), (m.length : Int)) ∧ Rep c m) (fun s => c.length + 1 - s.2.2.toNat) ⟨[], rfl, rep_nil c⟩ (by show c.length + 1 - 0 < _; omega) fun s hs => ?_
    obtain ⟨m, rfl, h⟩ := hs
    have hle := h.le
    unfold m_law_run_Q1
    dsimp only
    rw [over_eq, okb, okb]
    refine sat_ok ?_
    cases ho : ovr (repF c m) with
    | true => exact ⟨m, rfl, h, ho⟩
    | false =>
      have hov : m_Run_over (repF c m) = .ok false := by rw [over_eq, ho]
      obtain ⟨hb, hlt⟩ := over_false hov
      have hat : (m.length : Int) ≤ (repF c m).2.1 := by
        rcases h.on with z | z
        · exact absurd hb z
        · exact z
      have hcode := h.ok.code
      rw [hcode] at hlt
      have e1 := Int.emod_nonneg (m.length : Int) (b := (cells.length : Int)) (by omega)
      have e2 := Int.emod_lt_of_pos (m.length : Int) (b := (cells.length : Int)) (by omega)
      obtain ⟨o, eo, ro⟩ := asked26 (cell := getI cells ((m.length : Int) % (cells.length : Int)) + (m.length : Int)) hl hc h ho
      show Sat (m_law_run_L1 c cells (repF c m) (nts26 (repF c m)) (m.length : Int)) _
      unfold m_law_run_L1
      rw [okb, decide_eq_false (by omega), okb]
      dsimp only
      rw [if_neg Bool.false_ne_true, gd (by omega), gd (inB_of e1 e2), okb, eo, okb, okb, okb]
      dsimp only
      rw [if_neg (by decide), okb, okb, okb]
      refine sat_ok ⟨⟨m ++ [o], ?_, ro⟩, ?_⟩
      · rw [List.length_append, List.length_singleton]
        congr 2
      · show c.length + 1 - ((m.length : Int) + 1).toNat < c.length + 1 - ((m.length : Int)).toNat
        omega
  · obtain ⟨m, rfl, h, ho⟩ := hq
    show Sat (m_law_run_J1 (repF c m) (nts26 (repF c m))) _
    have pk := paper_ok ho
    have hov : m_Run_over (repF c m) = .ok true := by rw [over_eq, ho]
    have lows : ∀ r ∈ (papOf (repF c m)).2.1, low r.1.1 := fun r hr => by
      rw [pap_nts] at hr
      exact (h.ok.noted r hr).1
    have asn : m_Run_asks (repF c m) = .ok none := by
      unfold m_Run_asks
      rw [hov]
      rfl
    have stn : m_Run_step (repF c m) 7 = .ok ((), repF c m) := by
      unfold m_Run_step
      rw [hov]
      rfl
    have sm := same_ok (papOf (repF c m)) lows
    rw [pap_nts] at sm
    have hout : OutOk (papOf (repF c m)).1 ∧ (∀ r ∈ (papOf (repF c m)).2.1, rwOk r) ∧ ∀ r ∈ (papOf (repF c m)).2.2, rwOk r := by
      unfold papOf
      split
      · exact ⟨out_done _, h.ok.noted, fun r hr => h.ok.given r ((srt_perm _).mem_iff.mp hr)⟩
      · exact ⟨out_off h.ok.br, h.ok.noted, fun r hr => (by cases hr)⟩
    have go : gQ ((eO (e3 (e2 eS eA) (eL (e2 eP eI)) (eL (e2 eP eI)))) (some (papOf (repF c m)))) := gQn_gQ (n := 4) (gQn_tup (n := 3) fun d hd => by
      simp only [List.mem_cons, List.not_mem_nil, or_false] at hd
      rcases hd with rfl | rfl | rfl
      · exact gQn_mono hout.1 (by decide)
      · exact gQ_rowsN fun r hr => (hout.2.1 r hr).1
      · exact gQ_rowsN fun r hr => (hout.2.2 r hr).1) (by decide)
    have l1 : (papOf (repF c m)).2.1.length ≤ 10000 := by
      rw [pap_nts]
      have := h.ok.l3
      have := h.le
      show (repF c m).2.2.2.2.1.length ≤ _
      omega
    have l2 : (papOf (repF c m)).2.2.length ≤ 10000 := by
      have := h.ok.l2
      have := h.le
      unfold papOf
      split
      · show (srt _).length ≤ _
        rw [(srt_perm _).length_eq]
        omega
      · exact Nat.zero_le _
    unfold m_law_run_J1
    have orf : (R.or ((R.ok true).bind fun x402 => (R.ok true).bind fun x403 => R.ok ((!decide (x402 = x403)))) (R.or ((R.ok (none : Option Pl)).bind fun x => (R.ok ()).bind fun _ => R.ok (Option.isSome x)) (R.not (R.ok true)))) = .ok false := rfl
    rw [okb, pk, okb, okb, okb, hov, asn, sm, orf, okb, if_neg Bool.false_ne_true]
    dsimp only
    rw [gd (show (some (papOf (repF c m))).isSome = true from rfl), okb, okb, okb, stn, okb, okb, okb]
    show Sat (R.guard (gL (papOf (repF c m)).2.1) _) _
    rw [gd (by show (papOf (repF c m)).2.1.length < 16777216; omega), okb, okb, okb]
    show Sat (R.guard (gL (papOf (repF c m)).2.2) _) _
    rw [gd (by show (papOf (repF c m)).2.2.length < 16777216; omega), okb, okb]
    rw [hov, okb, okb, okb, okb]
    dsimp only
    rw [if_pos (by decide), asn, okb, okb, okb, okb]
    dsimp only
    rw [if_pos (by decide), okb, pk, okb, okb, okb]
    dsimp only
    rw [sm, okb, okb, okb]
    dsimp only
    rw [if_pos rfl, okb, pk, okb]
    show Sat (((R.guard (gQ2 ((eO (e3 (e2 eS eA) (eL (e2 eP eI)) (eL (e2 eP eI)))) (some (papOf (repF c m)))) ((eO (e3 (e2 eS eA) (eL (e2 eP eI)) (eL (e2 eP eI)))) (some (papOf (repF c m))))) _).bind _).bind _) _
    rw [gd ⟨go, go⟩, okb, okb]
    refine sat_ok ?_
    exact eqD_same go.1
def m13 : List Int := [1, 2, 3, 4, 5, 6, 7, 8, 9, 10, 11, 12, 13]
theorem gR3_at : ∀ m, m < 64 → ∀ c ∈ m13, gR3 (0, ((m : Nat) : Int), c) := by decide +kernel
theorem rng3_at : ∀ m, m < 64 → ∀ c ∈ m13, (rng3 (0, ((m : Nat) : Int), c)).length ≤ 63 ∧ ∀ k ∈ rng3 (0, ((m : Nat) : Int), c), 0 ≤ k ∧ k < (m : Int) := by decide +kernel
theorem many13 {v : Int} (h0 : 1 ≤ v) (h1 : v ≤ 13) : v ∈ m13 := by
  unfold m13
  simp only [List.mem_cons, List.not_mem_nil, or_false]
  omega
theorem cut_pos {α : Type} {xs : List α} {a m : Int} (h0 : 0 ≤ a) (h1 : 1 ≤ m) (h2 : a < (xs.length : Int)) : 0 < (cutL xs (some a) (some (a + m))).length := by
  unfold cutL
  rw [List.length_take, sIx_some h0, sIx_some (by omega), List.length_drop]
  omega
theorem law_ok (ns : List Int) (h : ns.length ≤ 63) (_ : ∀ z ∈ ns, bits z) : m_law ns = .ok true := by
  apply sat_eq
  unfold m_law
  refine sat_bind (arg1 (f := fun a => m_law_names a 2) (cell_at_ok ns 0 (by decide)) fun c _ => names_ok c 2 (by decide) (by decide)) fun sl hsl => ?_
  refine sat_bind (arg1 (f := fun a => m_law_names a 2) (cell_at_ok ns 1 (by decide)) fun c _ => names_ok c 2 (by decide) (by decide)) fun sh hsh => ?_
  have l1 : sl.length = 2 := hsl.1
  have l2 : sh.length = 2 := hsh.1
  refine sat_bind (Q := fun v : Int => 1 ≤ v ∧ v ≤ 13) (sat_bind (Q := (· = 1)) (sat_ok rfl) fun a e => by subst e; exact sat_bind (Q := fun v : Int => 0 ≤ v ∧ v < 13) (sat_bind (arg1 (f := fun a => m_law_draw a 200) (cell_at_ok ns 0 (by decide)) fun c _ => draw_ok c 200 (by decide) (by decide)) fun x hx => sat_bind (Q := (· = 13)) (sat_ok rfl) fun y e => by subst e; exact sat_guard (by decide) (sat_ok ⟨Int.emod_nonneg _ (by decide), Int.emod_lt_of_pos _ (by decide)⟩)) fun b hb => sat_ok ⟨by omega, by omega⟩) fun many hm => ?_
  refine sat_bind (Q := fun cs : List Int => cs.length ≤ 63) (sat_ok (Nat.le_trans cutL_length_le h)) fun cells hc => ?_
  have g3 := gR3_at cells.length (by omega) many (many13 hm.1 hm.2)
  have r3 := rng3_at cells.length (by omega) many (many13 hm.1 hm.2)
  refine sat_bind (Q := (· = Ctl.nx ())) (sat_bind (Q := (· = ((0 : Int), (cells.length : Int), many))) (sat_bind (Q := (· = ((0 : Int), (cells.length : Int), many))) (sat_bind (Q := fun _ => True) (sat_ok trivial) fun _ _ => sat_ok rfl) fun p e => by subst e; exact sat_guard g3 (sat_ok rfl)) fun p e => ?_) fun q e => ?_
  · subst e
    refine sat_for (P := (· = Ctl.nx ())) (fun _ _ => True) trivial (fun pre k suf s e _ => ?_) fun _ _ => rfl
    have hk := r3.2 k (by rw [e]; simp)
    have main : Sat (m_law_L1 sl sh many cells k) (· = Ctl.nx ()) := by
      unfold m_law_L1
      refine sat_bind (Q := fun part : List Int => part.length ≤ 63 ∧ 0 < part.length) (sat_ok ⟨Nat.le_trans cutL_length_le hc, cut_pos hk.1 hm.1 hk.2⟩) fun part hp => ?_
      refine sat_bind (Q := (· = false)) (sat_not (x := true) (sat_bind (Q := fun x : List (List Dt) × Unit => Lead (x.1.length : Int) 0 x.1 ∧ x.1.length ≤ 500) (sat_bind (Q := fun c : List (List Dt) => Lead (c.length : Int) 0 c ∧ c.length ≤ 500) (sat_bind (Q := fun x : List Dt × Unit => ∃ k, k ≤ 63 ∧ RowsOk 5 k x.1) (sat_bind (rows_ok part hp.1 l1 hsl.2 l2 hsh.2) fun a ha => sat_bind (Q := fun _ => True) (sat_ok trivial) fun _ _ => sat_ok ha) fun x hx => ?_) fun c hcd => sat_bind (Q := fun _ => True) (sat_ok trivial) fun _ _ => sat_ok hcd) fun x hx => sat_of (run_ok hx.1 hx.2 hp.2) rfl)) fun b e => by subst e; exact sat_ok rfl
      obtain ⟨k, hk, hr⟩ := hx
      obtain ⟨cc, ec, hcod, lc⟩ := steps_go 16 (p := 0) (by decide) (by decide) hr (by omega)
      exact sat_of ec ⟨by simpa using cod_lead hcod hr, by omega⟩
    exact sat_mono main fun q e => by subst e; trivial
  · subst e
    show Sat m_law_J1 _
    unfold m_law_J1
    have ov : ovr (run0 []) = true := by decide +kernel
    have pk := paper_ok ov
    have ei : (((R.ok ()).bind fun _ => (m_Run_init ([] : (List (List Dt)))).bind fun a => R.ok a.2) : R S_Run) = .ok (run0 []) := rfl
    rw [ei, okb, over_eq, ov, okb, okb, okb, okb]
    dsimp only
    rw [if_pos (by decide), okb, pk, okb]
    have g2 : gQ2 ((eO (e3 (e2 eS eA) (eL (e2 eP eI)) (eL (e2 eP eI)))) (some (papOf (run0 [])))) ((e3 (e2 eS e0) (eL eA) (eL eA)) (((lt "done"), ()), ([] : (List Dt)), ([] : (List Dt)))) := by decide +kernel
    have e2 : eqD ((eO (e3 (e2 eS eA) (eL (e2 eP eI)) (eL (e2 eP eI)))) (some (papOf (run0 [])))) ((e3 (e2 eS e0) (eL eA) (eL eA)) (((lt "done"), ()), ([] : (List Dt)), ([] : (List Dt)))) = true := by decide +kernel
    rw [gd g2, okb, okb]
    dsimp only
    rw [e2]
    exact sat_ok rfl
end Mi
namespace Wa
open PySem PySem.Spec PyProof.Rows L2 Sm Mi
def top (i : Nat) : Stmt := PySem.Challenge.pw_forerun_k26_asked_once.main.body.getD i (.Pass ⟨0, 0, 0, 0⟩)
abbrev FnP (K : PySem.W.Frag) (x : Str) (st : Stmt) (f : Addr) (fd : FuncData) : Prop := FunD K x x (defArgs st) (defBody st) (defScope st) [] [] f fd
abbrev FnQ (K : PySem.W.Frag) (x q : Str) (st : Stmt) (f : Addr) (fd : FuncData) : Prop := FunD K x q (defArgs st) (defBody st) (defScope st) [] [] f fd
abbrev fs_Run : List Str := ["code", "at", "slots", "given", "noted", "sayings", "broken"]
abbrev eOb_Run (K : PySem.W.Frag) (x : S_Run) : Dt := .ob (He.ga K "Run") fs_Run [(eL (eU eA)) x.1, eI x.2.1, (eK kS eI) x.2.2.1, (eKU kP eI) x.2.2.2.1, (eKU kP eI) x.2.2.2.2.1, (eL eI) x.2.2.2.2.2.1, eS x.2.2.2.2.2.2]
abbrev oOb_Run (K : PySem.W.Frag) (x : S_Run) : Own := .ins (He.ga K "Run") fs_Run [oD (eL (eU eA)) x.1, oD eI x.2.1, oK kS eI x.2.2.1, oKT kP eI x.2.2.2.1, oKT kP eI x.2.2.2.2.1, oL eI x.2.2.2.2.2.1, oD eS x.2.2.2.2.2.2]
abbrev s_is_worth : Stmt := top 6
abbrev N_is_worth : List Str := (["thing"] : List Str)
theorem sc_is_worth : FnScope N_is_worth ["thing"] (defScope s_is_worth) := ⟨rfl, rfl, rfl, by decide +kernel, rfl, by decide +kernel, by decide +kernel⟩
abbrev sp_is_worth (K : PySem.W.Frag) (Ce : Exn → Addr) : Sp := spD (α := Bool) K Ce 1 (fun x : Int => [eI x]) (fun x => m_is_worth x) (oD eB)
abbrev s_comes_to : Stmt := top 9
abbrev N_comes_to : List Str := (["word", "first", "second"] : List Str)
theorem sc_comes_to : FnScope N_comes_to ["word", "first", "second"] (defScope s_comes_to) := ⟨rfl, rfl, rfl, by decide +kernel, rfl, by decide +kernel, by decide +kernel⟩
abbrev sp_comes_to (K : PySem.W.Frag) (Ce : Exn → Addr) : Sp := spD (α := Int) K Ce 3 (fun x : ((List Nat) × Int × Int) => [eS x.1, eI x.2.1, eI x.2.2]) (fun x => m_comes_to x.1 x.2.1 x.2.2) (oD eI)
abbrev s_Run_init : Stmt := (clsBody (top 12)).getD 0 (.Pass ⟨0, 0, 0, 0⟩)
abbrev N_Run_init : List Str := (["self", "code"] : List Str)
theorem sc_Run_init : FnScope N_Run_init ["self", "code"] (defScope s_Run_init) := ⟨rfl, rfl, rfl, by decide +kernel, rfl, by decide +kernel, by decide +kernel⟩
abbrev sp_Run_init (K : PySem.W.Frag) (Ce : Exn → Addr) : Sp := spF (α := (Unit × S_Run)) K Ce 2 [0] (fun x : (List (List Dt)) => [Own.ins (He.ga K "Run") [] [], .dat ((eL (eU eA)) x)]) (fun x => m_Run_init x) (fun a => oD eN a.1) (fun a => [oOb_Run K a.2]) (fun x => [Own.ins (He.ga K "Run") [] []])
abbrev sp_Run_init__L (K : PySem.W.Frag) (Ce : Exn → Addr) : Sp := spF (α := (Unit × S_Run × (List (List Dt)))) K Ce 2 [0, 1] (fun x : (List (List Dt)) => [Own.ins (He.ga K "Run") [] [], oL (eU eA) x]) (fun x => m_Run_init__L x) (fun a => oD eN a.1) (fun a => [oOb_Run K a.2.1, oL (eU eA) a.2.2]) (fun x => [Own.ins (He.ga K "Run") [] [], oL (eU eA) x])
abbrev s_Run_over : Stmt := (clsBody (top 12)).getD 1 (.Pass ⟨0, 0, 0, 0⟩)
abbrev N_Run_over : List Str := (["self"] : List Str)
theorem sc_Run_over : FnScope N_Run_over ["self"] (defScope s_Run_over) := ⟨rfl, rfl, rfl, by decide +kernel, rfl, by decide +kernel, by decide +kernel⟩
abbrev sp_Run_over (K : PySem.W.Frag) (Ce : Exn → Addr) : Sp := spD (α := Bool) K Ce 1 (fun x : S_Run => [(eOb_Run K) x]) (fun x => m_Run_over x) (oD eB)
abbrev s_law_cell_at : Stmt := top 18
abbrev N_law_cell_at : List Str := (["script", "k"] : List Str)
theorem sc_law_cell_at : FnScope N_law_cell_at ["script", "k"] (defScope s_law_cell_at) := ⟨rfl, rfl, rfl, by decide +kernel, rfl, by decide +kernel, by decide +kernel⟩
abbrev sp_law_cell_at (K : PySem.W.Frag) (Ce : Exn → Addr) : Sp := spD (α := Int) K Ce 2 (fun x : ((List Int) × Int) => [eX x.1, eI x.2]) (fun x => m_law_cell_at x.1 x.2) (oD eI)
abbrev s_law_draw : Stmt := top 19
abbrev N_law_draw : List Str := (["cell", "j", "far"] : List Str)
theorem sc_law_draw : FnScope N_law_draw ["cell", "j"] (defScope s_law_draw) := ⟨rfl, rfl, rfl, by decide +kernel, rfl, by decide +kernel, by decide +kernel⟩
abbrev sp_law_draw (K : PySem.W.Frag) (Ce : Exn → Addr) : Sp := spD (α := Int) K Ce 2 (fun x : (Int × Int) => [eI x.1, eI x.2]) (fun x => m_law_draw x.1 x.2) (oD eI)
abbrev s_law_closed : Stmt := top 24
abbrev N_law_closed : List Str := (["frames", "frame"] : List Str)
theorem sc_law_closed : FnScope N_law_closed ["frames"] (defScope s_law_closed) := ⟨rfl, rfl, rfl, by decide +kernel, rfl, by decide +kernel, by decide +kernel⟩
abbrev sp_law_closed (K : PySem.W.Frag) (Ce : Exn → Addr) : Sp := spF (α := (Unit × (List (Dt × Dt × (List Dt))))) K Ce 1 [0] (fun x : (List (Dt × Dt × (List Dt))) => [oM (oFr eA eA eA) x]) (fun x => m_law_closed x) (fun a => oD eN a.1) (fun a => [oM (oFr eA eA eA) a.2]) (fun x => [oM (oFr eA eA eA) x])
abbrev s_law_is_place : Stmt := top 26
abbrev N_law_is_place : List Str := (["found"] : List Str)
theorem sc_law_is_place : FnScope N_law_is_place ["found"] (defScope s_law_is_place) := ⟨rfl, rfl, rfl, by decide +kernel, rfl, by decide +kernel, by decide +kernel⟩
abbrev sp_law_is_place (K : PySem.W.Frag) (Ce : Exn → Addr) : Sp := spD (α := Bool) K Ce 1 (fun x : (List Nat × Int) => [eP x]) (fun x => m_law_is_place x) (oD eB)
abbrev s_law_same : Stmt := top 28
abbrev N_law_same : List Str := (["paper", "noted", "note"] : List Str)
theorem sc_law_same : FnScope N_law_same ["paper", "noted"] (defScope s_law_same) := ⟨rfl, rfl, rfl, by decide +kernel, rfl, by decide +kernel, by decide +kernel⟩
abbrev sp_law_same (K : PySem.W.Frag) (Ce : Exn → Addr) : Sp := spD (α := Bool) K Ce 2 (fun x : (Dt × (List ((List Nat × Int) × Int))) => [eA x.1, (eL (e2 eP eI)) x.2]) (fun x => m_law_same x.1 x.2) (oD eB)
abbrev s_reckoned : Stmt := top 10
abbrev N_reckoned : List Str := (["term", "slots", "parts", "part", "second", "worth"] : List Str)
theorem sc_reckoned : FnScope N_reckoned ["term", "slots"] (defScope s_reckoned) := ⟨rfl, rfl, rfl, by decide +kernel, rfl, by decide +kernel, by decide +kernel⟩
abbrev sp_reckoned (K : PySem.W.Frag) (Ce : Exn → Addr) : Sp := spD (α := Int) K Ce 2 (fun x : ((List Dt) × (List ((List Nat) × Int))) => [(eU eA) x.1, (eK kS eI) x.2]) (fun x => m_reckoned x.1 x.2) (oD eI)
abbrev s_Run_paper : Stmt := (clsBody (top 12)).getD 6 (.Pass ⟨0, 0, 0, 0⟩)
abbrev N_Run_paper : List Str := (["self", "notes"] : List Str)
theorem sc_Run_paper : FnScope N_Run_paper ["self"] (defScope s_Run_paper) := ⟨rfl, rfl, rfl, by decide +kernel, rfl, by decide +kernel, by decide +kernel⟩
abbrev sp_Run_paper (K : PySem.W.Frag) (Ce : Exn → Addr) : Sp := spF (α := ((Option (((List Nat) × Dt) × (List ((List Nat × Int) × Int)) × (List ((List Nat × Int) × Int)))) × S_Run)) K Ce 1 [0] (fun x : S_Run => [oOb_Run K x]) (fun x => m_Run_paper x) (fun a => oOpt (oTr (e2 eS eA) (e2 eP eI) (e2 eP eI)) a.1) (fun a => [oOb_Run K a.2]) (fun x => [oOb_Run K x])
abbrev s_law_names : Stmt := top 20
abbrev N_law_names : List Str := (["cell", "many", "size", "signs", "stem", "k", "at", "turn"] : List Str)
theorem sc_law_names : FnScope N_law_names ["cell", "many"] (defScope s_law_names) := ⟨rfl, rfl, rfl, by decide +kernel, rfl, by decide +kernel, by decide +kernel⟩
abbrev sp_law_names (K : PySem.W.Frag) (Ce : Exn → Addr) : Sp := spD (α := (List (List Nat))) K Ce 2 (fun x : (Int × Int) => [eI x.1, eI x.2]) (fun x => m_law_names x.1 x.2) (oD (eL eS))
abbrev s_law_worth : Stmt := top 21
abbrev N_law_worth : List Str := (["cell", "j", "way"] : List Str)
theorem sc_law_worth : FnScope N_law_worth ["cell", "j"] (defScope s_law_worth) := ⟨rfl, rfl, rfl, by decide +kernel, rfl, by decide +kernel, by decide +kernel⟩
abbrev sp_law_worth (K : PySem.W.Frag) (Ce : Exn → Addr) : Sp := spD (α := Int) K Ce 2 (fun x : (Int × Int) => [eI x.1, eI x.2]) (fun x => m_law_worth x.1 x.2) (oD eI)
abbrev s_Run_asks : Stmt := (clsBody (top 12)).getD 2 (.Pass ⟨0, 0, 0, 0⟩)
abbrev N_Run_asks : List Str := (["self", "row", "number", "place"] : List Str)
theorem sc_Run_asks : FnScope N_Run_asks ["self"] (defScope s_Run_asks) := ⟨rfl, rfl, rfl, by decide +kernel, rfl, by decide +kernel, by decide +kernel⟩
abbrev sp_Run_asks (K : PySem.W.Frag) (Ce : Exn → Addr) : Sp := spD (α := (Option (List Nat × Int))) K Ce 1 (fun x : S_Run => [(eOb_Run K) x]) (fun x => m_Run_asks x) (oD (eO eP))
abbrev s_Run_straight : Stmt := (clsBody (top 12)).getD 5 (.Pass ⟨0, 0, 0, 0⟩)
abbrev N_Run_straight : List Str := (["self", "row", "worth", "word", "place"] : List Str)
theorem sc_Run_straight : FnScope N_Run_straight ["self", "row", "worth"] (defScope s_Run_straight) := ⟨rfl, rfl, rfl, by decide +kernel, rfl, by decide +kernel, by decide +kernel⟩
abbrev sp_Run_straight (K : PySem.W.Frag) (Ce : Exn → Addr) : Sp := spF (α := (Unit × S_Run)) K Ce 3 [0] (fun x : (S_Run × (List Dt) × Int) => [oOb_Run K x.1, .dat ((eU eA) x.2.1), .dat (eI x.2.2)]) (fun x => m_Run_straight x.1 x.2.1 x.2.2) (fun a => oD eN a.1) (fun a => [oOb_Run K a.2]) (fun x => [oOb_Run K x.1])
abbrev s_law_spot : Stmt := top 22
abbrev N_law_spot : List Str := (["cell", "slots", "way"] : List Str)
theorem sc_law_spot : FnScope N_law_spot ["cell", "slots"] (defScope s_law_spot) := ⟨rfl, rfl, rfl, by decide +kernel, rfl, by decide +kernel, by decide +kernel⟩
abbrev sp_law_spot (K : PySem.W.Frag) (Ce : Exn → Addr) : Sp := spD (α := (List Dt)) K Ce 2 (fun x : (Int × (List (List Nat))) => [eI x.1, (eL eS) x.2]) (fun x => m_law_spot x.1 x.2) (oD (eU eA))
abbrev s_Run_behind : Stmt := (clsBody (top 12)).getD 4 (.Pass ⟨0, 0, 0, 0⟩)
abbrev N_Run_behind : List Str := (["self", "row", "worth", "word"] : List Str)
theorem sc_Run_behind : FnScope N_Run_behind ["self", "row", "worth"] (defScope s_Run_behind) := ⟨rfl, rfl, rfl, by decide +kernel, rfl, by decide +kernel, by decide +kernel⟩
abbrev sp_Run_behind (K : PySem.W.Frag) (Ce : Exn → Addr) : Sp := spF (α := (Int × S_Run)) K Ce 3 [0] (fun x : (S_Run × (List Dt) × Int) => [oOb_Run K x.1, .dat ((eU eA) x.2.1), .dat (eI x.2.2)]) (fun x => m_Run_behind x.1 x.2.1 x.2.2) (fun a => oD eI a.1) (fun a => [oOb_Run K a.2]) (fun x => [oOb_Run K x.1])
abbrev s_law_row : Stmt := top 23
abbrev N_law_row : List Str := (["cell", "slots", "shelves", "kind", "shelf", "slot"] : List Str)
theorem sc_law_row : FnScope N_law_row ["cell", "slots", "shelves"] (defScope s_law_row) := ⟨rfl, rfl, rfl, by decide +kernel, rfl, by decide +kernel, by decide +kernel⟩
abbrev sp_law_row (K : PySem.W.Frag) (Ce : Exn → Addr) : Sp := spD (α := (List Dt)) K Ce 3 (fun x : (Int × (List (List Nat)) × (List (List Nat))) => [eI x.1, (eL eS) x.2.1, (eL eS) x.2.2]) (fun x => m_law_row x.1 x.2.1 x.2.2) (oD (eU eA))
abbrev s_Run_step : Stmt := (clsBody (top 12)).getD 3 (.Pass ⟨0, 0, 0, 0⟩)
abbrev N_Run_step : List Str := (["self", "worth"] : List Str)
theorem sc_Run_step : FnScope N_Run_step ["self", "worth"] (defScope s_Run_step) := ⟨rfl, rfl, rfl, by decide +kernel, rfl, by decide +kernel, by decide +kernel⟩
abbrev sp_Run_step (K : PySem.W.Frag) (Ce : Exn → Addr) : Sp := spF (α := (Unit × S_Run)) K Ce 2 [0] (fun x : (S_Run × Int) => [oOb_Run K x.1, .dat (eI x.2)]) (fun x => m_Run_step x.1 x.2) (fun a => oD eN a.1) (fun a => [oOb_Run K a.2]) (fun x => [oOb_Run K x.1])
abbrev s_law_rows : Stmt := top 25
abbrev N_law_rows : List Str := (["cells", "slots", "shelves", "frames", "cell", "kind"] : List Str)
theorem sc_law_rows : FnScope N_law_rows ["cells", "slots", "shelves"] (defScope s_law_rows) := ⟨rfl, rfl, rfl, by decide +kernel, rfl, by decide +kernel, by decide +kernel⟩
abbrev sp_law_rows (K : PySem.W.Frag) (Ce : Exn → Addr) : Sp := spD (α := (List Dt)) K Ce 3 (fun x : ((List Int) × (List (List Nat)) × (List (List Nat))) => [(eL eI) x.1, (eL eS) x.2.1, (eL eS) x.2.2]) (fun x => m_law_rows x.1 x.2.1 x.2.2) (oD (eL eA))
abbrev s_law_asked : Stmt := top 27
abbrev N_law_asked : List Str := (["run", "cell", "noted", "place", "worth", "note"] : List Str)
theorem sc_law_asked : FnScope N_law_asked ["run", "cell", "noted"] (defScope s_law_asked) := ⟨rfl, rfl, rfl, by decide +kernel, rfl, by decide +kernel, by decide +kernel⟩
abbrev sp_law_asked (K : PySem.W.Frag) (Ce : Exn → Addr) : Sp := spF (α := (Bool × S_Run × (List ((List Nat × Int) × Int)))) K Ce 3 [0, 2] (fun x : (S_Run × Int × (List ((List Nat × Int) × Int))) => [oOb_Run K x.1, .dat (eI x.2.1), oL (e2 eP eI) x.2.2]) (fun x => m_law_asked x.1 x.2.1 x.2.2) (fun a => oD eB a.1) (fun a => [oOb_Run K a.2.1, oL (e2 eP eI) a.2.2]) (fun x => [oOb_Run K x.1, oL (e2 eP eI) x.2.2])
abbrev s_law_run : Stmt := top 29
abbrev N_law_run : List Str := (["code", "cells", "handed", "run", "noted", "steps", "paper", "kept"] : List Str)
theorem sc_law_run : FnScope N_law_run ["code", "cells"] (defScope s_law_run) := ⟨rfl, rfl, rfl, by decide +kernel, rfl, by decide +kernel, by decide +kernel⟩
abbrev sp_law_run (K : PySem.W.Frag) (Ce : Exn → Addr) : Sp := spD (α := Bool) K Ce 2 (fun x : ((List (List Dt)) × (List Int)) => [(eL (eU eA)) x.1, (eL eI) x.2]) (fun x => m_law_run x.1 x.2) (oD eB)
abbrev s_block_from : Stmt := top 14
abbrev N_block_from : List Str := (["row", "at", "inner", "behind", "others"] : List Str)
theorem sc_block_from : FnScope N_block_from ["row", "at"] (defScope s_block_from) := ⟨rfl, rfl, rfl, by decide +kernel, rfl, by decide +kernel, by decide +kernel⟩
abbrev sp_block_from_ (K : PySem.W.Frag) (Ce : Exn → Addr) (rm : (List Dt) → Int → R (List (List Dt))) : Sp := spD (α := (List (List Dt))) K Ce 2 (fun x : ((List Dt) × Int) => [(eU eA) x.1, eI x.2]) (fun x => rm x.1 x.2) (oL (eU eA))
abbrev s_steps_from : Stmt := top 15
abbrev N_steps_from : List Str := (["rows", "at", "steps", "row"] : List Str)
theorem sc_steps_from : FnScope N_steps_from ["rows", "at"] (defScope s_steps_from) := ⟨rfl, rfl, rfl, by decide +kernel, rfl, by decide +kernel, by decide +kernel⟩
abbrev sp_steps_from_ (K : PySem.W.Frag) (Ce : Exn → Addr) (rm : (List Dt) → Int → R (List (List Dt))) : Sp := spD (α := (List (List Dt))) K Ce 2 (fun x : ((List Dt) × Int) => [(eL eA) x.1, eI x.2]) (fun x => rm x.1 x.2) (oL (eU eA))
abbrev sp_steps_from (K : PySem.W.Frag) (Ce : Exn → Addr) : Sp := sp_steps_from_ K Ce m_steps_from
abbrev s_code_of : Stmt := top 16
abbrev N_code_of : List Str := (["rows"] : List Str)
theorem sc_code_of : FnScope N_code_of ["rows"] (defScope s_code_of) := ⟨rfl, rfl, rfl, by decide +kernel, rfl, by decide +kernel, by decide +kernel⟩
abbrev sp_code_of (K : PySem.W.Frag) (Ce : Exn → Addr) : Sp := spD (α := (List (List Dt))) K Ce 1 (fun x : (List Dt) => [(eL eA) x]) (fun x => m_code_of x) (oD (eL (eU eA)))
abbrev s_law : Stmt := top 30
abbrev N_law : List Str := (["script", "slots", "shelves", "many", "cells", "at", "part", "empty"] : List Str)
theorem sc_law : FnScope N_law ["script"] (defScope s_law) := ⟨rfl, rfl, rfl, by decide +kernel, rfl, by decide +kernel, by decide +kernel⟩
abbrev sp_law (K : PySem.W.Frag) (Ce : Exn → Addr) : Sp := spD (α := Bool) K Ce 1 (fun x : (List Int) => [eX x]) (fun x => (m_law x).calm) (oD eB)
def CeF (K : PySem.W.Frag) : Exn → Addr
  | .nought => He.ga K "Nought"
  | .great => He.ga K "Great"
  | _ => He.ga K "ForerunError"
def tab_DOERS : List He.Dv := [He.Dv.str "plus", He.Dv.str "minus", He.Dv.str "times", He.Dv.str "over", He.Dv.str "rest", He.Dv.str "under", He.Dv.str "same"]
structure Tx (K : PySem.W.Frag) (mg : Str → Option Value) where
  f_is_worth : Addr
  d_is_worth : FuncData
  F_is_worth : FnP K "is_worth" s_is_worth f_is_worth d_is_worth
  g_is_worth : mg "is_worth" = some (.ref f_is_worth)
  f_comes_to : Addr
  d_comes_to : FuncData
  F_comes_to : FnP K "comes_to" s_comes_to f_comes_to d_comes_to
  g_comes_to : mg "comes_to" = some (.ref f_comes_to)
  f_Run_init : Addr
  d_Run_init : FuncData
  F_Run_init : FnQ K "__init__" "Run.__init__" s_Run_init f_Run_init d_Run_init
  g_Run_init : L2.Mk K (He.ga K "Run") f_Run_init
  f_Run_over : Addr
  d_Run_over : FuncData
  F_Run_over : FnQ K "over" "Run.over" s_Run_over f_Run_over d_Run_over
  g_Run_over : L2.Meth K (He.ga K "Run") "over" f_Run_over
  f_law_cell_at : Addr
  d_law_cell_at : FuncData
  F_law_cell_at : FnP K "_law_cell_at" s_law_cell_at f_law_cell_at d_law_cell_at
  g_law_cell_at : mg "_law_cell_at" = some (.ref f_law_cell_at)
  f_law_draw : Addr
  d_law_draw : FuncData
  F_law_draw : FnP K "_law_draw" s_law_draw f_law_draw d_law_draw
  g_law_draw : mg "_law_draw" = some (.ref f_law_draw)
  f_law_closed : Addr
  d_law_closed : FuncData
  F_law_closed : FnP K "_law_closed" s_law_closed f_law_closed d_law_closed
  g_law_closed : mg "_law_closed" = some (.ref f_law_closed)
  f_law_is_place : Addr
  d_law_is_place : FuncData
  F_law_is_place : FnP K "_law_is_place" s_law_is_place f_law_is_place d_law_is_place
  g_law_is_place : mg "_law_is_place" = some (.ref f_law_is_place)
  f_law_same : Addr
  d_law_same : FuncData
  F_law_same : FnP K "_law_same" s_law_same f_law_same d_law_same
  g_law_same : mg "_law_same" = some (.ref f_law_same)
  f_reckoned : Addr
  d_reckoned : FuncData
  F_reckoned : FnP K "reckoned" s_reckoned f_reckoned d_reckoned
  g_reckoned : mg "reckoned" = some (.ref f_reckoned)
  f_Run_paper : Addr
  d_Run_paper : FuncData
  F_Run_paper : FnQ K "paper" "Run.paper" s_Run_paper f_Run_paper d_Run_paper
  g_Run_paper : L2.Meth K (He.ga K "Run") "paper" f_Run_paper
  f_law_names : Addr
  d_law_names : FuncData
  F_law_names : FnP K "_law_names" s_law_names f_law_names d_law_names
  g_law_names : mg "_law_names" = some (.ref f_law_names)
  f_law_worth : Addr
  d_law_worth : FuncData
  F_law_worth : FnP K "_law_worth" s_law_worth f_law_worth d_law_worth
  g_law_worth : mg "_law_worth" = some (.ref f_law_worth)
  f_Run_asks : Addr
  d_Run_asks : FuncData
  F_Run_asks : FnQ K "asks" "Run.asks" s_Run_asks f_Run_asks d_Run_asks
  g_Run_asks : L2.Meth K (He.ga K "Run") "asks" f_Run_asks
  f_Run_straight : Addr
  d_Run_straight : FuncData
  F_Run_straight : FnQ K "straight" "Run.straight" s_Run_straight f_Run_straight d_Run_straight
  g_Run_straight : L2.Meth K (He.ga K "Run") "straight" f_Run_straight
  f_law_spot : Addr
  d_law_spot : FuncData
  F_law_spot : FnP K "_law_spot" s_law_spot f_law_spot d_law_spot
  g_law_spot : mg "_law_spot" = some (.ref f_law_spot)
  f_Run_behind : Addr
  d_Run_behind : FuncData
  F_Run_behind : FnQ K "behind" "Run.behind" s_Run_behind f_Run_behind d_Run_behind
  g_Run_behind : L2.Meth K (He.ga K "Run") "behind" f_Run_behind
  f_law_row : Addr
  d_law_row : FuncData
  F_law_row : FnP K "_law_row" s_law_row f_law_row d_law_row
  g_law_row : mg "_law_row" = some (.ref f_law_row)
  f_Run_step : Addr
  d_Run_step : FuncData
  F_Run_step : FunD K "step" "Run.step" (defArgs s_Run_step) (defBody s_Run_step) (defScope s_Run_step) [V.int 0] [] f_Run_step d_Run_step
  g_Run_step : L2.Meth K (He.ga K "Run") "step" f_Run_step
  f_law_rows : Addr
  d_law_rows : FuncData
  F_law_rows : FnP K "_law_rows" s_law_rows f_law_rows d_law_rows
  g_law_rows : mg "_law_rows" = some (.ref f_law_rows)
  f_law_asked : Addr
  d_law_asked : FuncData
  F_law_asked : FnP K "_law_asked" s_law_asked f_law_asked d_law_asked
  g_law_asked : mg "_law_asked" = some (.ref f_law_asked)
  f_law_run : Addr
  d_law_run : FuncData
  F_law_run : FnP K "_law_run" s_law_run f_law_run d_law_run
  g_law_run : mg "_law_run" = some (.ref f_law_run)
  f_block_from : Addr
  d_block_from : FuncData
  F_block_from : FnP K "block_from" s_block_from f_block_from d_block_from
  g_block_from : mg "block_from" = some (.ref f_block_from)
  f_steps_from : Addr
  d_steps_from : FuncData
  F_steps_from : FnP K "steps_from" s_steps_from f_steps_from d_steps_from
  g_steps_from : mg "steps_from" = some (.ref f_steps_from)
  f_code_of : Addr
  d_code_of : FuncData
  F_code_of : FnP K "code_of" s_code_of f_code_of d_code_of
  g_code_of : mg "code_of" = some (.ref f_code_of)
  f_law : Addr
  d_law : FuncData
  F_law : FnP K "law" s_law f_law d_law
  g_law : mg "law" = some (.ref f_law)
  x_Nought : mg "Nought" = some (.ref (He.ga K "Nought"))
  x_Great : mg "Great" = some (.ref (He.ga K "Great"))
  x_Run : mg "Run" = some (.ref (He.ga K "Run"))
  cl_Run : L2.Cls K (He.ga K "Run")
  na_Run_code : L2.NoAttr K (He.ga K "Run") "code"
  na_Run_at : L2.NoAttr K (He.ga K "Run") "at"
  na_Run_slots : L2.NoAttr K (He.ga K "Run") "slots"
  na_Run_given : L2.NoAttr K (He.ga K "Run") "given"
  na_Run_noted : L2.NoAttr K (He.ga K "Run") "noted"
  na_Run_sayings : L2.NoAttr K (He.ga K "Run") "sayings"
  na_Run_broken : L2.NoAttr K (He.ga K "Run") "broken"
  q_Nought : PySem.W.excIn K (He.ga K "Nought") He.veBase "ValueError.__new__" = true
  k_Nought : PySem.W.keepIn K (.ref (He.ga K "Nought")) = true
  b_Nought : PySem.W.subIn K (.ref (He.ga K "Nought")) (.type "BaseException") = some true
  t_Nought : PySem.W.typeIn K (.ref (He.ga K "Nought")) = some (.type "type")
  q_Great : PySem.W.excIn K (He.ga K "Great") He.veBase "ValueError.__new__" = true
  k_Great : PySem.W.keepIn K (.ref (He.ga K "Great")) = true
  b_Great : PySem.W.subIn K (.ref (He.ga K "Great")) (.type "BaseException") = some true
  t_Great : PySem.W.typeIn K (.ref (He.ga K "Great")) = some (.type "type")
  ck0 : ∀ e : Exn, e.plain = true → PySem.W.exmOne K (.ref (CeF K e)) (.ref (He.ga K "Great")) = some (e.is "Great")
  ck1 : ∀ e : Exn, e.plain = true → PySem.W.exmOne K (.ref (CeF K e)) (.ref (He.ga K "Nought")) = some (e.is "Nought")
  n_isinstance : mg "isinstance" = none
  n_int : mg "int" = none
  n_bool : mg "bool" = none
  n_list : mg "list" = none
  n_len : mg "len" = none
  n_tuple : mg "tuple" = none
  n_str : mg "str" = none
  n_sorted : mg "sorted" = none
  n_range : mg "range" = none
  c_MOST : ∃ u, mg "MOST" = some u ∧ RelV (.int 1000000000000000000000000000000) u
  a_DOERS : Addr
  c_DOERS : ∃ u, mg "DOERS" = some u ∧ RelV (.ref a_DOERS) u
  s_DOERS : ∀ H, SqT K H a_DOERS [V.str "plus", V.str "minus", V.str "times", V.str "over", V.str "rest", V.str "under", V.str "same"]
  r_DOERS : ∀ B, RpA K B (k_DOERS.map eS) [V.str "plus", V.str "minus", V.str "times", V.str "over", V.str "rest", V.str "under", V.str "same"]
abbrev Tx.Ce {K : PySem.W.Frag} {mg : Str → Option Value} (_ : Tx K mg) : Exn → Addr := CeF K
section
variable {P : Program} {w : World} {K : PySem.W.Frag} {mg : Str → Option Value} {base : Heap}
theorem bn_block_from (tx : Tx K mg) : Binds K tx.d_block_from ["row", "at"] [] := tx.F_block_from.bindsN fun _ _ _ _ _ _ us hl => match us, hl with | [_, _], _ => rfl
theorem bn_steps_from (tx : Tx K mg) : Binds K tx.d_steps_from ["rows", "at"] [] := tx.F_steps_from.bindsN fun _ _ _ _ _ _ us hl => match us, hl with | [_, _], _ => rfl
theorem bn_is_worth (tx : Tx K mg) : Binds K tx.d_is_worth ["thing"] [] := tx.F_is_worth.bindsN fun _ _ _ _ _ _ us hl => match us, hl with | [_], _ => rfl
theorem ok_is_worth (tx : Tx K mg) : FnOk P w K mg base (L2.CX P w) 1 tx.f_is_worth tx.d_is_worth ["thing"] (sp_is_worth K tx.Ce) := by
  refine tx.F_is_worth.ok sc_is_worth (fun vs H Q E h => spF_len (n := 1) rfl vs H Q E h) (fun cdv A outer s H vs Q E hr h => ⟨_, (pss_cons (ps_if (pw_or (pt_not (pt_val (pe_callB (r := rIsiY K) call_isiY (by rfl) tx.n_isinstance (by rfl) (pa_cons (pv 0) (pa_cons (pe_bltn (v := .ty "int") (by rfl) tx.n_int (by rfl) rfl) pa_nil))))) (pw_or1 (pt_val (pe_callB (r := rIsiY K) call_isiY (by rfl) tx.n_isinstance (by rfl) (pa_cons (pv 0) (pa_cons (pe_bltn (v := .ty "bool") (by rfl) tx.n_bool (by rfl) rfl) pa_nil)))))).pt (pss_one (ps_ret pe_bl)) pss_nil) (pss_one (ps_ret (pe_chain op_le op_le (pe_un un_neg (C8.pe_gc (by rfl) tx.c_MOST)) (pv 0) (C8.pe_gc (by rfl) tx.c_MOST))))), ?_⟩)
  obtain ⟨v_thing, F, W, rfl, ni, hst, hw, ok, rt⟩ := spD_start N_is_worth h
  generalize L2.start N_is_worth vs = σ at hst ⊢
  have hw : W (m_is_worth v_thing) := hw
  replace ok := ok (List.replicate 1 none)
  have hst : Stt F [some (oD eI v_thing)] [] σ H := hst
  unfold m_is_worth at hw
  refine q_seq ?_
  refine s_ifM hst hw ok (mt_ok (et_or (et_not (et_B (ev_isi (d := eI v_thing) (show kitB "int" "int" = some true by decide +kernel) (ev_var (i := 0) (by rfl))))) (et_B (ev_isi (d := eI v_thing) (show kitB "int" "bool" = some false by decide +kernel) (ev_var (i := 0) (by rfl)))))) ?_ ?_
  · clear hst hw
    intro H hw hst
    exact s_retF (t := oD eB) hst hw ok (mv_ok (t := oD eB) (ev_bl)) fun a v H w s => rt _ _ _ _ _ _ w s
  · clear hst hw
    intro H hw hst
    refine s_next ?_
    refine q_nx ?_
    exact s_retF (t := oD eB) hst hw ok (mv_ok (t := oD eB) ((ev_chain (g1 := fun i j => decide (i ≤ j)) (g2 := fun i j => decide (i ≤ j)) (ev_neg ev_int) (ev_var (i := 0) (by rfl)) ev_int))) fun a v H w s => rt _ _ _ _ _ _ w s
theorem bn_comes_to (tx : Tx K mg) : Binds K tx.d_comes_to ["word", "first", "second"] [] := tx.F_comes_to.bindsN fun _ _ _ _ _ _ us hl => match us, hl with | [_, _, _], _ => rfl
theorem ok_comes_to (tx : Tx K mg) : FnOk P w K mg base (L2.CX P w) 1 tx.f_comes_to tx.d_comes_to ["word", "first", "second"] (sp_comes_to K tx.Ce) := by
  refine tx.F_comes_to.ok sc_comes_to (fun vs H Q E h => spF_len (n := 3) rfl vs H Q E h) (fun cdv A outer s H vs Q E hr h => ⟨_, (pss_cons (ps_if (pt_cmpR op_eq (pv 0) pe_str (by first | exact nomark _ | rfl)) (pss_one (ps_ret (pe_op op_add (pv 1) (pv 2)))) pss_nil) (pss_cons (ps_if (pt_cmpR op_eq (pv 0) pe_str (by first | exact nomark _ | rfl)) (pss_one (ps_ret (pe_op op_sub (pv 1) (pv 2)))) pss_nil) (pss_cons (ps_if (pt_cmpR op_eq (pv 0) pe_str (by first | exact nomark _ | rfl)) (pss_one (ps_ret (pe_op op_mulW (pv 1) (pv 2)))) pss_nil) (pss_cons (ps_if (pt_cmpR op_eq (pv 0) pe_str (by first | exact nomark _ | rfl)) (pss_one (ps_ret (pe_callTy (r := rInt1) call_int1 (by rfl) tx.n_int (by rfl) (pa_cons (pe_cmpR op_lt (pv 1) (pv 2) (by first | exact nomark _ | rfl)) pa_nil)))) pss_nil) (pss_cons (ps_if (pt_cmpR op_eq (pv 0) pe_str (by first | exact nomark _ | rfl)) (pss_one (ps_ret (pe_callTy (r := rInt1) call_int1 (by rfl) tx.n_int (by rfl) (pa_cons (pe_cmpR op_eq (pv 1) (pv 2) (by first | exact nomark _ | rfl)) pa_nil)))) pss_nil) (pss_cons (ps_if (pt_cmpR op_eq (pv 2) pe_int (by first | exact nomark _ | rfl)) (pss_one (ps_raise rfl (takes_of rfl rfl rfl rfl) (pmk_own PySem.F.excBase_ValueError tx.q_Nought tx.x_Nought tx.k_Nought (raises_own tx.b_Nought tx.t_Nought) (by rfl)))) pss_nil) (pss_cons (ps_if (pt_cmpR op_eq (pv 0) pe_str (by first | exact nomark _ | rfl)) (pss_one (ps_ret (pe_op op_fdivWN (pv 1) (pv 2)))) pss_nil) (pss_one (ps_ret (pe_op op_sub (pv 1) (pe_op op_mulW (pe_op op_fdivWN (pv 1) (pv 2)) (pv 2)))))))))))), ?_⟩)
  obtain ⟨x, F, W, rfl, ni, hst, hw, ok, rt⟩ := spD_start N_comes_to h
  obtain ⟨v_word, v_first, v_second⟩ := x
  generalize L2.start N_comes_to vs = σ at hst ⊢
  have hw : W (m_comes_to v_word v_first v_second) := hw
  replace ok := ok (List.replicate 3 none)
  have hst : Stt F [some (oD eS v_word), some (oD eI v_first), some (oD eI v_second)] [] σ H := hst
  unfold m_comes_to at hw
  refine q_seq ?_
  refine s_ifM hst hw ok (mt_ok (et_test (ev_eqX (ev_var (i := 0) (by rfl)) ev_lit))) ?_ ?_
  · clear hst hw
    intro H hw hst
    exact s_retF (t := oD eI) hst hw ok (mv_ok (t := oD eI) ((ev_add (ev_var (i := 1) (by rfl)) (ev_var (i := 2) (by rfl))))) fun a v H w s => rt _ _ _ _ _ _ w s
  · clear hst hw
    intro H hw hst
    refine s_next ?_
    refine q_nx ?_
    refine q_seq ?_
    refine s_ifM hst hw ok (mt_ok (et_test (ev_eqX (ev_var (i := 0) (by rfl)) ev_lit))) ?_ ?_
    · clear hst hw
      intro H hw hst
      exact s_retF (t := oD eI) hst hw ok (mv_ok (t := oD eI) ((ev_sub (ev_var (i := 1) (by rfl)) (ev_var (i := 2) (by rfl))))) fun a v H w s => rt _ _ _ _ _ _ w s
    · clear hst hw
      intro H hw hst
      refine s_next ?_
      refine q_nx ?_
      refine q_seq ?_
      refine s_ifM hst hw ok (mt_ok (et_test (ev_eqX (ev_var (i := 0) (by rfl)) ev_lit))) ?_ ?_
      · clear hst hw
        intro H hw hst
        exact s_retF (t := oD eI) hst hw ok (mv_guard fun g1 => mv_ok (t := oD eI) ((ev_mulW g1 (ev_var (i := 1) (by rfl)) (ev_var (i := 2) (by rfl))))) fun a v H w s => rt _ _ _ _ _ _ w s
      · clear hst hw
        intro H hw hst
        refine s_next ?_
        refine q_nx ?_
        refine q_seq ?_
        refine s_ifM hst hw ok (mt_ok (et_test (ev_eqX (ev_var (i := 0) (by rfl)) ev_lit))) ?_ ?_
        · clear hst hw
          intro H hw hst
          exact s_retF (t := oD eI) hst hw ok (mv_ok (t := oD eI) ((ev_intB (ev_lt (ev_var (i := 1) (by rfl)) (ev_var (i := 2) (by rfl)))))) fun a v H w s => rt _ _ _ _ _ _ w s
        · clear hst hw
          intro H hw hst
          refine s_next ?_
          refine q_nx ?_
          refine q_seq ?_
          refine s_ifM hst hw ok (mt_ok (et_test (ev_eqX (ev_var (i := 0) (by rfl)) ev_lit))) ?_ ?_
          · clear hst hw
            intro H hw hst
            exact s_retF (t := oD eI) hst hw ok (mv_ok (t := oD eI) ((ev_intB (ev_eqI (ev_var (i := 1) (by rfl)) (ev_var (i := 2) (by rfl)))))) fun a v H w s => rt _ _ _ _ _ _ w s
          · clear hst hw
            intro H hw hst
            refine s_next ?_
            refine q_nx ?_
            refine q_seq ?_
            refine s_ifM hst hw ok (mt_ok (et_test (ev_eqI (ev_var (i := 2) (by rfl)) ev_int))) ?_ ?_
            · clear hst hw
              intro H hw hst
              exact s_raise (C := tx.Ce .nought) hst hw ok (wkN (by rfl)) (fun _ _ _ h => h) fun h => h
            · clear hst hw
              intro H hw hst
              refine s_next ?_
              refine q_nx ?_
              refine q_seq ?_
              refine s_ifM hst hw ok (mt_ok (et_test (ev_eqX (ev_var (i := 0) (by rfl)) ev_lit))) ?_ ?_
              · clear hst hw
                intro H hw hst
                exact s_retF (t := oD eI) hst hw ok (mv_guard fun g2 => mv_ok (t := oD eI) ((ev_divWN g2 (ev_var (i := 1) (by rfl)) (ev_var (i := 2) (by rfl))))) fun a v H w s => rt _ _ _ _ _ _ w s
              · clear hst hw
                intro H hw hst
                refine s_next ?_
                refine q_nx ?_
                exact s_retF (t := oD eI) hst hw ok (mv_guard fun g3 => mv_guard fun g4 => mv_ok (t := oD eI) ((ev_sub (ev_var (i := 1) (by rfl)) (ev_mulW g4 (ev_divWN g3 (ev_var (i := 1) (by rfl)) (ev_var (i := 2) (by rfl))) (ev_var (i := 2) (by rfl)))))) fun a v H w s => rt _ _ _ _ _ _ w s
theorem bn_Run_init (tx : Tx K mg) : Binds K tx.d_Run_init ["self", "code"] [] := tx.F_Run_init.bindsN fun _ _ _ _ _ _ us hl => match us, hl with | [_, _], _ => rfl
theorem ok_Run_init (tx : Tx K mg) : FnOk P w K mg base (L2.CX P w) 1 tx.f_Run_init tx.d_Run_init ["self", "code"] (sp_Run_init K tx.Ce) := by
  refine tx.F_Run_init.ok sc_Run_init (fun vs H Q E h => spF_len (n := 2) rfl vs H Q E h) (fun cdv A outer s H vs Q E hr h => ⟨_, (pss_cons (ps_fldK (K := K) (pv 0) (pe_callTy (r := rLstK K) call_list_of (by rfl) tx.n_list (by rfl) (pa_cons (pv 1) pa_nil)) rfl) (pss_cons (ps_fldK (K := K) (pv 0) pe_int rfl) (pss_cons (ps_fldK (K := K) (pv 0) pe_dnewK rfl) (pss_cons (ps_fldK (K := K) (pv 0) pe_dnewT rfl) (pss_cons (ps_fldK (K := K) (pv 0) pe_dnewT rfl) (pss_cons (ps_fldK (K := K) (pv 0) (pe_lst pa_nil) rfl) (pss_one (ps_fldK (K := K) (pv 0) pe_str rfl)))))))), ?_⟩)
  obtain ⟨v_code, F, W, rfl, ni, hst, hw, ok, rt0⟩ := spF_start N_Run_init (by decide) (by decide) h
  generalize L2.start N_Run_init vs = σ at hst ⊢
  have rt : ∀ a v T Γ σ H', W (.ok a) → (∃ Γ1, Tk Γ (List.map Ag.s [0]) [oOb_Run F.K a.2] Γ1) → Stt F Γ ((v, oD eN a.1) :: T) σ H' → Q v H' := fun a v T Γ σ H' w z s => rt0 a v T Γ _ σ H' w z.choose_spec s
  clear rt0
  have hw : W (m_Run_init v_code) := hw
  replace ok := ok [some (Own.ins (He.ga F.K "Run") [] []), none] _ (.s (by rfl) .nil)
  have hst : Stt F [some (Own.ins (He.ga F.K "Run") [] []), some (oD (eL (eU eA)) v_code)] [] σ H := hst
  unfold m_Run_init at hw
  refine q_seq ?_
  refine s_fldNew3 (f := "code") (t := fun (a5 : (List (List Dt))) => oD (eL (eU eA)) a5) hst hw ok (mx_v (mv_ok (t := oD (eL (eU eA))) ((ev_frz (ev_listLE (enc := (eU eA)) (el_dat (ev_var (i := 1) (by rfl)))))))) (fun a5 => (lv_var (n := 0) (by rfl))) tx.cl_Run tx.na_Run_code (by decide) (put_new (by decide +kernel)) ?_
  clear hst hw
  intro a5 σ H hw hst
  have hst : Stt F [some (Own.ins (He.ga F.K "Run") ["code"] [oD (eL (eU eA)) a5]), some (oD (eL (eU eA)) v_code)] [] σ H := hst
  refine q_nx ?_
  refine q_seq ?_
  refine s_fldNew3 (f := "at") (t := fun (a6 : Int) => oD eI a6) hst hw ok (mx_v (mv_ok (t := oD eI) (ev_int))) (fun a6 => (lv_var (n := 0) (by rfl))) tx.cl_Run tx.na_Run_at (by decide) (put_new (by decide +kernel)) ?_
  clear hst hw
  intro a6 σ H hw hst
  have hst : Stt F [some (Own.ins (He.ga F.K "Run") ["code", "at"] [oD (eL (eU eA)) a5, oD eI a6]), some (oD (eL (eU eA)) v_code)] [] σ H := hst
  refine q_nx ?_
  refine q_seq ?_
  refine s_fldNew3 (f := "slots") (t := fun (a7 : (List ((List Nat) × Int))) => oK kS eI a7) hst hw ok (mx_v (mv_ok (t := oK kS eI) (ev_dnewO))) (fun a7 => (lv_var (n := 0) (by rfl))) tx.cl_Run tx.na_Run_slots (by decide) (put_new (by decide +kernel)) ?_
  clear hst hw
  intro a7 σ H hw hst
  have hst : Stt F [some (Own.ins (He.ga F.K "Run") ["code", "at", "slots"] [oD (eL (eU eA)) a5, oD eI a6, oK kS eI a7]), some (oD (eL (eU eA)) v_code)] [] σ H := hst
  refine q_nx ?_
  refine q_seq ?_
  refine s_fldNew3 (f := "given") (t := fun (a8 : (List ((List Nat × Int) × Int))) => oKT kP eI a8) hst hw ok (mx_v (mv_ok (t := oKT kP eI) (ev_dnewT))) (fun a8 => (lv_var (n := 0) (by rfl))) tx.cl_Run tx.na_Run_given (by decide) (put_new (by decide +kernel)) ?_
  clear hst hw
  intro a8 σ H hw hst
  have hst : Stt F [some (Own.ins (He.ga F.K "Run") ["code", "at", "slots", "given"] [oD (eL (eU eA)) a5, oD eI a6, oK kS eI a7, oKT kP eI a8]), some (oD (eL (eU eA)) v_code)] [] σ H := hst
  refine q_nx ?_
  refine q_seq ?_
  refine s_fldNew3 (f := "noted") (t := fun (a9 : (List ((List Nat × Int) × Int))) => oKT kP eI a9) hst hw ok (mx_v (mv_ok (t := oKT kP eI) (ev_dnewT))) (fun a9 => (lv_var (n := 0) (by rfl))) tx.cl_Run tx.na_Run_noted (by decide) (put_new (by decide +kernel)) ?_
  clear hst hw
  intro a9 σ H hw hst
  have hst : Stt F [some (Own.ins (He.ga F.K "Run") ["code", "at", "slots", "given", "noted"] [oD (eL (eU eA)) a5, oD eI a6, oK kS eI a7, oKT kP eI a8, oKT kP eI a9]), some (oD (eL (eU eA)) v_code)] [] σ H := hst
  refine q_nx ?_
  refine q_seq ?_
  refine s_fldNew3 (f := "sayings") (t := fun (a10 : (List Int)) => oL eI a10) hst hw ok (mx_v (mv_ok (t := oL eI) ((ev_lst ea_nil (show 0 ≤ 1000 by decide))))) (fun a10 => (lv_var (n := 0) (by rfl))) tx.cl_Run tx.na_Run_sayings (by decide) (put_new (by decide +kernel)) ?_
  clear hst hw
  intro a10 σ H hw hst
  have hst : Stt F [some (Own.ins (He.ga F.K "Run") ["code", "at", "slots", "given", "noted", "sayings"] [oD (eL (eU eA)) a5, oD eI a6, oK kS eI a7, oKT kP eI a8, oKT kP eI a9, oL eI a10]), some (oD (eL (eU eA)) v_code)] [] σ H := hst
  refine q_nx ?_
  refine s_fldNew3 (f := "broken") (t := fun (a11 : (List Nat)) => oD eS a11) hst hw ok (mx_v (mv_ok (t := oD eS) (ev_lit))) (fun a11 => (lv_var (n := 0) (by rfl))) tx.cl_Run tx.na_Run_broken (by decide) (put_new (by decide +kernel)) ?_
  clear hst hw
  intro a11 σ H hw hst
  have hst : Stt F [some (oOb_Run F.K (a5, a6, a7, a8, a9, a10, a11)), some (oD (eL (eU eA)) v_code)] [] σ H := hst
  obtain ⟨v_self, hw, hst⟩ := nm (P := fun v_self => Stt F [some (oOb_Run F.K v_self), some (oD (eL (eU eA)) v_code)] [] σ H) hw hst
  exact rt _ _ _ _ _ _ hw ⟨_, (.s (by rfl) .nil)⟩ (hst.push fun _ _ => by unfold Rp; rfl)
theorem ok_Run_init__L (tx : Tx K mg) : FnOk P w K mg base (L2.CX P w) 1 tx.f_Run_init tx.d_Run_init ["self", "code"] (sp_Run_init__L K tx.Ce) := by
  refine tx.F_Run_init.ok sc_Run_init (fun vs H Q E h => spF_len (n := 2) rfl vs H Q E h) (fun cdv A outer s H vs Q E hr h => ⟨_, (pss_cons (ps_fldK (K := K) (pv 0) (pe_callTy (r := rLstK K) call_list_of (by rfl) tx.n_list (by rfl) (pa_cons (pv 1) pa_nil)) rfl) (pss_cons (ps_fldK (K := K) (pv 0) pe_int rfl) (pss_cons (ps_fldK (K := K) (pv 0) pe_dnewK rfl) (pss_cons (ps_fldK (K := K) (pv 0) pe_dnewT rfl) (pss_cons (ps_fldK (K := K) (pv 0) pe_dnewT rfl) (pss_cons (ps_fldK (K := K) (pv 0) (pe_lst pa_nil) rfl) (pss_one (ps_fldK (K := K) (pv 0) pe_str rfl)))))))), ?_⟩)
  obtain ⟨z_code, F, W, rfl, ni, hst, hw, ok, rt0⟩ := spF_start N_Run_init (by decide) (by decide) h
  generalize L2.start N_Run_init vs = σ at hst ⊢
  have rt : ∀ a v T Γ σ H', W (.ok a) → (∃ Γ1, Tk Γ (List.map Ag.s [0, 1]) [oOb_Run F.K a.2.1, oL (eU eA) a.2.2] Γ1) → Stt F Γ ((v, oD eN a.1) :: T) σ H' → Q v H' := fun a v T Γ σ H' w z s => rt0 a v T Γ _ σ H' w z.choose_spec s
  clear rt0
  have hw : W (m_Run_init__L z_code) := hw
  replace ok := ok [some (Own.ins (He.ga F.K "Run") [] []), some (oL (eU eA) z_code)] _ (.s (by rfl) (.s (by rfl) .nil))
  have hst : Stt F [some (Own.ins (He.ga F.K "Run") [] []), some (oL (eU eA) z_code)] [] σ H := hst
  unfold m_Run_init__L at hw
  refine q_seq ?_
  refine s_fldNew3 (f := "code") (t := fun (a12 : (List (List Dt))) => oD (eL (eU eA)) a12) hst hw ok (mx_v (mv_ok (t := oD (eL (eU eA))) ((ev_frz (ev_listLE (enc := (eU eA)) (el_var (n := 1) (by rfl))))))) (fun a12 => (lv_var (n := 0) (by rfl))) tx.cl_Run tx.na_Run_code (by decide) (put_new (by decide +kernel)) ?_
  clear hst hw
  intro a12 σ H hw hst
  have hst : Stt F [some (Own.ins (He.ga F.K "Run") ["code"] [oD (eL (eU eA)) a12]), some (oL (eU eA) z_code)] [] σ H := hst
  refine q_nx ?_
  refine q_seq ?_
  refine s_fldNew3 (f := "at") (t := fun (a13 : Int) => oD eI a13) hst hw ok (mx_v (mv_ok (t := oD eI) (ev_int))) (fun a13 => (lv_var (n := 0) (by rfl))) tx.cl_Run tx.na_Run_at (by decide) (put_new (by decide +kernel)) ?_
  clear hst hw
  intro a13 σ H hw hst
  have hst : Stt F [some (Own.ins (He.ga F.K "Run") ["code", "at"] [oD (eL (eU eA)) a12, oD eI a13]), some (oL (eU eA) z_code)] [] σ H := hst
  refine q_nx ?_
  refine q_seq ?_
  refine s_fldNew3 (f := "slots") (t := fun (a14 : (List ((List Nat) × Int))) => oK kS eI a14) hst hw ok (mx_v (mv_ok (t := oK kS eI) (ev_dnewO))) (fun a14 => (lv_var (n := 0) (by rfl))) tx.cl_Run tx.na_Run_slots (by decide) (put_new (by decide +kernel)) ?_
  clear hst hw
  intro a14 σ H hw hst
  have hst : Stt F [some (Own.ins (He.ga F.K "Run") ["code", "at", "slots"] [oD (eL (eU eA)) a12, oD eI a13, oK kS eI a14]), some (oL (eU eA) z_code)] [] σ H := hst
  refine q_nx ?_
  refine q_seq ?_
  refine s_fldNew3 (f := "given") (t := fun (a15 : (List ((List Nat × Int) × Int))) => oKT kP eI a15) hst hw ok (mx_v (mv_ok (t := oKT kP eI) (ev_dnewT))) (fun a15 => (lv_var (n := 0) (by rfl))) tx.cl_Run tx.na_Run_given (by decide) (put_new (by decide +kernel)) ?_
  clear hst hw
  intro a15 σ H hw hst
  have hst : Stt F [some (Own.ins (He.ga F.K "Run") ["code", "at", "slots", "given"] [oD (eL (eU eA)) a12, oD eI a13, oK kS eI a14, oKT kP eI a15]), some (oL (eU eA) z_code)] [] σ H := hst
  refine q_nx ?_
  refine q_seq ?_
  refine s_fldNew3 (f := "noted") (t := fun (a16 : (List ((List Nat × Int) × Int))) => oKT kP eI a16) hst hw ok (mx_v (mv_ok (t := oKT kP eI) (ev_dnewT))) (fun a16 => (lv_var (n := 0) (by rfl))) tx.cl_Run tx.na_Run_noted (by decide) (put_new (by decide +kernel)) ?_
  clear hst hw
  intro a16 σ H hw hst
  have hst : Stt F [some (Own.ins (He.ga F.K "Run") ["code", "at", "slots", "given", "noted"] [oD (eL (eU eA)) a12, oD eI a13, oK kS eI a14, oKT kP eI a15, oKT kP eI a16]), some (oL (eU eA) z_code)] [] σ H := hst
  refine q_nx ?_
  refine q_seq ?_
  refine s_fldNew3 (f := "sayings") (t := fun (a17 : (List Int)) => oL eI a17) hst hw ok (mx_v (mv_ok (t := oL eI) ((ev_lst ea_nil (show 0 ≤ 1000 by decide))))) (fun a17 => (lv_var (n := 0) (by rfl))) tx.cl_Run tx.na_Run_sayings (by decide) (put_new (by decide +kernel)) ?_
  clear hst hw
  intro a17 σ H hw hst
  have hst : Stt F [some (Own.ins (He.ga F.K "Run") ["code", "at", "slots", "given", "noted", "sayings"] [oD (eL (eU eA)) a12, oD eI a13, oK kS eI a14, oKT kP eI a15, oKT kP eI a16, oL eI a17]), some (oL (eU eA) z_code)] [] σ H := hst
  refine q_nx ?_
  refine s_fldNew3 (f := "broken") (t := fun (a18 : (List Nat)) => oD eS a18) hst hw ok (mx_v (mv_ok (t := oD eS) (ev_lit))) (fun a18 => (lv_var (n := 0) (by rfl))) tx.cl_Run tx.na_Run_broken (by decide) (put_new (by decide +kernel)) ?_
  clear hst hw
  intro a18 σ H hw hst
  have hst : Stt F [some (oOb_Run F.K (a12, a13, a14, a15, a16, a17, a18)), some (oL (eU eA) z_code)] [] σ H := hst
  obtain ⟨v_self, hw, hst⟩ := nm (P := fun v_self => Stt F [some (oOb_Run F.K v_self), some (oL (eU eA) z_code)] [] σ H) hw hst
  exact rt _ _ _ _ _ _ hw ⟨_, (.s (by rfl) (.s (by rfl) .nil))⟩ (hst.push fun _ _ => by unfold Rp; rfl)
theorem bn_Run_over (tx : Tx K mg) : Binds K tx.d_Run_over ["self"] [] := tx.F_Run_over.bindsN fun _ _ _ _ _ _ us hl => match us, hl with | [_], _ => rfl
theorem ok_Run_over (tx : Tx K mg) : FnOk P w K mg base (L2.CX P w) 1 tx.f_Run_over tx.d_Run_over ["self"] (sp_Run_over K tx.Ce) := by
  refine tx.F_Run_over.ok sc_Run_over (fun vs H Q E h => spF_len (n := 1) rfl vs H Q E h) (fun cdv A outer s H vs Q E hr h => ⟨_, (pss_one (ps_ret (pe_or (pe_cmpR op_ne (pe_fldK (K := K) (pv 0) (by rfl)) pe_str (by first | exact nomark _ | rfl)) (pe_one (pe_cmpR op_ge (pe_fldK (K := K) (pv 0) (by rfl)) (pe_callB (r := rLenK K) call_len_seq (by rfl) tx.n_len (by rfl) (pa_cons (pe_fldK (K := K) (pv 0) (by rfl)) pa_nil)) (by first | exact nomark _ | rfl)))))), ?_⟩)
  obtain ⟨v_self, F, W, rfl, ni, hst, hw, ok, rt⟩ := spD_start N_Run_over h
  generalize L2.start N_Run_over vs = σ at hst ⊢
  have hw : W (m_Run_over v_self) := hw
  replace ok := ok (List.replicate 1 none)
  have hst : Stt F [some (oD (eOb_Run F.K) v_self)] [] σ H := hst
  unfold m_Run_over at hw
  exact s_retF (t := oD eB) hst hw ok (mv_ok (t := oD eB) ((ev_orV (ev_neX (ev_obF (f := "broken") (j := 6) (ev_var (i := 0) (by rfl)) (by rfl) tx.cl_Run tx.na_Run_broken (lk_ix (by decide +kernel))) ev_lit) (ev_ge (ev_obF (f := "at") (j := 1) (ev_var (i := 0) (by rfl)) (by rfl) tx.cl_Run tx.na_Run_at (lk_ix (by decide +kernel))) (ev_lenLE (enc := (eU eA)) (el_dat (ev_obF (f := "code") (j := 0) (ev_var (i := 0) (by rfl)) (by rfl) tx.cl_Run tx.na_Run_code (lk_ix (by decide +kernel))))))))) fun a v H w s => rt _ _ _ _ _ _ w s
theorem bn_law_cell_at (tx : Tx K mg) : Binds K tx.d_law_cell_at ["script", "k"] [] := tx.F_law_cell_at.bindsN fun _ _ _ _ _ _ us hl => match us, hl with | [_, _], _ => rfl
theorem ok_law_cell_at (tx : Tx K mg) : FnOk P w K mg base (L2.CX P w) 1 tx.f_law_cell_at tx.d_law_cell_at ["script", "k"] (sp_law_cell_at K tx.Ce) := by
  refine tx.F_law_cell_at.ok sc_law_cell_at (fun vs H Q E h => spF_len (n := 2) rfl vs H Q E h) (fun cdv A outer s H vs Q E hr h => ⟨_, (pss_cons (ps_if (pt_cmpR op_lt (pv 1) (pe_callB (r := rLenK K) call_len_seq (by rfl) tx.n_len (by rfl) (pa_cons (pv 0) pa_nil)) (by first | exact nomark _ | rfl)) (pss_one (ps_ret (pe_ix (r := rIxL K) ix_list (pv 0) (pv 1) (fun _ _ => rfl)))) pss_nil) (pss_one (ps_ret pe_int))), ?_⟩)
  obtain ⟨x, F, W, rfl, ni, hst, hw, ok, rt⟩ := spD_start N_law_cell_at h
  obtain ⟨v_script, v_k⟩ := x
  generalize L2.start N_law_cell_at vs = σ at hst ⊢
  have hw : W (m_law_cell_at v_script v_k) := hw
  replace ok := ok (List.replicate 2 none)
  have hst : Stt F [some (oD eX v_script), some (oD eI v_k)] [] σ H := hst
  unfold m_law_cell_at at hw
  refine q_seq ?_
  refine s_ifM hst hw ok (mt_ok (et_test (ev_lt (ev_var (i := 1) (by rfl)) (ev_lenX (ev_var (i := 0) (by rfl)))))) ?_ ?_
  · clear hst hw
    intro H hw hst
    exact s_retF (t := oD eI) hst hw ok (mv_guard fun g19 => mv_ok (t := oD eI) ((ev_ixX g19 (ev_var (i := 0) (by rfl)) (ev_var (i := 1) (by rfl))))) fun a v H w s => rt _ _ _ _ _ _ w s
  · clear hst hw
    intro H hw hst
    refine s_next ?_
    refine q_nx ?_
    exact s_retF (t := oD eI) hst hw ok (mv_ok (t := oD eI) (ev_int)) fun a v H w s => rt _ _ _ _ _ _ w s
theorem bn_law_draw (tx : Tx K mg) : Binds K tx.d_law_draw ["cell", "j"] [] := tx.F_law_draw.bindsN fun _ _ _ _ _ _ us hl => match us, hl with | [_, _], _ => rfl
theorem ok_law_draw (tx : Tx K mg) : FnOk P w K mg base (L2.CX P w) 1 tx.f_law_draw tx.d_law_draw ["cell", "j"] (sp_law_draw K tx.Ce) := by
  refine tx.F_law_draw.ok sc_law_draw (fun vs H Q E h => spF_len (n := 2) rfl vs H Q E h) (fun cdv A outer s H vs Q E hr h => ⟨_, (pss_cons (ps_set (i := 2) sc_law_draw.nd rfl (by first | exact Or.inl rfl | exact Or.inr rfl) (pe_op op_mod (pe_op op_add (pe_op op_mulW (pe_op op_mod (pv 0) pe_int) pe_int) (pe_op op_mulW (pe_op op_mulW (pe_op op_add (pv 1) pe_int) pe_int) pe_int)) pe_int)) (pss_one (ps_ret (pe_op op_fdivW (pe_op op_mod (pe_op op_mulW (pe_op op_mod (pe_op op_mulW (pv 2) (pv 2)) pe_int) (pv 2)) pe_int) pe_int)))), ?_⟩)
  obtain ⟨x, F, W, rfl, ni, hst, hw, ok, rt⟩ := spD_start N_law_draw h
  obtain ⟨v_cell, v_j⟩ := x
  generalize L2.start N_law_draw vs = σ at hst ⊢
  have hw : W (m_law_draw v_cell v_j) := hw
  replace ok := ok (List.replicate 3 none)
  have hst : Stt F [some (oD eI v_cell), some (oD eI v_j), none] [] σ H := hst
  unfold m_law_draw at hw
  refine q_seq ?_
  refine s_asgM (t := oD eI) hst hw ok (mv_guard fun g20 => mv_guard fun g21 => mv_guard fun g22 => mv_guard fun g23 => mv_guard fun g24 => mv_ok (t := oD eI) ((ev_mod g24 (ev_add (ev_mulW g21 (ev_mod g20 (ev_var (i := 0) (by rfl)) ev_int) ev_int) (ev_mulW g23 (ev_mulW g22 (ev_add (ev_var (i := 1) (by rfl)) ev_int) ev_int) ev_int)) ev_int))) (show 2 < 3 by decide) (ni _) ?_
  clear hst hw
  intro v_far σ H hw hst
  refine q_nx ?_
  exact s_retF (t := oD eI) hst hw ok (mv_guard fun g25 => mv_guard fun g26 => mv_guard fun g27 => mv_guard fun g28 => mv_guard fun g29 => mv_ok (t := oD eI) ((ev_divW g29 (ev_mod g28 (ev_mulW g27 (ev_mod g26 (ev_mulW g25 (ev_var (i := 2) (by rfl)) (ev_var (i := 2) (by rfl))) ev_int) (ev_var (i := 2) (by rfl))) ev_int) ev_int))) fun a v H w s => rt _ _ _ _ _ _ w s
theorem bn_law_closed (tx : Tx K mg) : Binds K tx.d_law_closed ["frames"] [] := tx.F_law_closed.bindsN fun _ _ _ _ _ _ us hl => match us, hl with | [_], _ => rfl
theorem ok_law_closed (tx : Tx K mg) : FnOk P w K mg base (L2.CX P w) 1 tx.f_law_closed tx.d_law_closed ["frames"] (sp_law_closed K tx.Ce) := by
  refine tx.F_law_closed.ok sc_law_closed (fun vs H Q E h => spF_len (n := 1) rfl vs H Q E h) (fun cdv A outer s H vs Q E hr h => ⟨_, (pss_cons (ps_set (i := 1) sc_law_closed.nd rfl (by first | exact Or.inl rfl | exact Or.inr rfl) (pe_bm0 PySem.F.plainAttrs_list PySem.F.slot_list_pop PySem.F.type_list_pop mt_pop (pv 0))) (pss_one (ps_if (pt_cmpR op_isN (pe_ix (r := rIxL K) ix_list (pv 1) pe_int (fun _ _ => rfl)) pe_non (by first | exact nomark _ | rfl)) (pss_one (ps_expr (pe_bm PySem.F.plainAttrs_list PySem.F.slot_list_append PySem.F.type_list_append mt_append (pe_ix (r := rIxL K) ix_list (pe_ix (r := rIxL K) ix_list (pv 0) (pe_un un_neg pe_int) (fun _ _ => rfl)) pe_int (fun _ _ => rfl)) (pa_cons (pe_tup (pa_cons pe_str (pa_cons (pe_ix (r := rIxL K) ix_list (pv 1) pe_int (fun _ _ => rfl)) (pa_cons (pe_ix (r := rIxL K) ix_list (pv 1) pe_int (fun _ _ => rfl)) (pa_cons (pe_lst pa_nil) pa_nil))))) pa_nil)))) (pss_one (ps_expr (pe_bm PySem.F.plainAttrs_list PySem.F.slot_list_append PySem.F.type_list_append mt_append (pe_ix (r := rIxL K) ix_list (pe_ix (r := rIxL K) ix_list (pv 0) (pe_un un_neg pe_int) (fun _ _ => rfl)) pe_int (fun _ _ => rfl)) (pa_cons (pe_tup (pa_cons pe_str (pa_cons (pe_ix (r := rIxL K) ix_list (pv 1) pe_int (fun _ _ => rfl)) (pa_cons (pe_ix (r := rIxL K) ix_list (pv 1) pe_int (fun _ _ => rfl)) (pa_cons (pe_ix (r := rIxL K) ix_list (pv 1) pe_int (fun _ _ => rfl)) pa_nil))))) pa_nil))))))), ?_⟩)
  obtain ⟨z_frames, F, W, rfl, ni, hst, hw, ok, rt0⟩ := spF_start N_law_closed (by decide) (by decide) h
  generalize L2.start N_law_closed vs = σ at hst ⊢
  have rt : ∀ a v T Γ σ H', W (.ok a) → (∃ Γ1, Tk Γ (List.map Ag.s [0]) [oM (oFr eA eA eA) a.2] Γ1) → Stt F Γ ((v, oD eN a.1) :: T) σ H' → Q v H' := fun a v T Γ σ H' w z s => rt0 a v T Γ _ σ H' w z.choose_spec s
  clear rt0
  have hw : W (m_law_closed z_frames) := hw
  replace ok := ok [some (oM (oFr eA eA eA) z_frames), none] _ (.s (by rfl) .nil)
  have hst : Stt F [some (oM (oFr eA eA eA) z_frames), none] [] σ H := hst
  unfold m_law_closed at hw
  refine q_seq ?_
  refine s_asgX3 (t := fun (a30 : ((Dt × Dt × (List Dt)) × (List (Dt × Dt × (List Dt))))) => oFr eA eA eA a30.1) hst hw ok (mx_popM (n := 0) (f := oFr eA eA eA) (by rfl)) (fun _ => by show 1 < 2; decide) (ni _ (by decide)) ?_
  clear hst hw
  intro a30 σ H hw hst
  have hst : Stt F [some (oM (oFr eA eA eA) a30.2), some (oFr eA eA eA a30.1)] [] σ H := hst
  obtain ⟨v_frames, hw, hst⟩ := nm (P := fun v_frames => Stt F [some (oM (oFr eA eA eA) v_frames), some (oFr eA eA eA a30.1)] [] σ H) hw hst
  obtain ⟨v_frame, hw, hst⟩ := nm (P := fun v_frame => Stt F [some (oM (oFr eA eA eA) v_frames), some (oFr eA eA eA v_frame)] [] σ H) hw hst
  refine q_nx ?_
  refine s_ifM hst hw ok (mt_ok (et_test (ev_isNA (ev_lv (lv_fr (k := 1) (lv_var (n := 1) (by rfl)) ev_int (by rfl))) ev_non))) ?_ ?_
  · clear hst hw
    intro H hw hst
    have hst := hst.freezeLoc (loc_fr (k := 2) (loc_var (n := 1) (by rfl)) (by rfl)) rdo_oL
    have hst : Stt F [some (oM (oFr eA eA eA) v_frames), some (oFrZ eA eA eA v_frame)] [] σ H := hst
    obtain ⟨g31, hw⟩ := R.guard_ok ok hw
    refine s_lvApp (enc := eA) (ys := (getI v_frames (-(1 : Int))).2.2) hst hw ok (lv_fr (k := 2) (lv_ixM (f := oFr eA eA eA) (xs := v_frames) (lv_var (n := 0) (by rfl)) (ev_neg ev_int) g31) ev_int (by rfl)) (mv_ok (t := oD eA) ((ev_tup (ea_cons ev_lit (ea_cons (ev_lv (lv_fr (k := 0) (lv_var (n := 1) (by rfl)) ev_int (by rfl))) (ea_cons (ev_lv (lv_fr (k := 2) (lv_var (n := 1) (by rfl)) ev_int (by rfl))) (ea_cons (ev_frz (ev_lst ea_nil (show 0 ≤ 1000 by decide))) ea_nil)))) (show 4 ≤ 1000 by decide)))) ?_
    clear hst hw
    intro v32 σ H hw hst
    have hst : Stt F [some (oM (oFr eA eA eA) (setI v_frames (-(1 : Int)) ((getI v_frames (-(1 : Int))).1, (getI v_frames (-(1 : Int))).2.1, v32))), some (oFrZ eA eA eA v_frame)] [] σ H := by
      unfold oM
      rw [← map_set_ix]
      exact hst
    obtain ⟨v_frames, hw, hst⟩ := nm (P := fun v_frames => Stt F [some (oM (oFr eA eA eA) v_frames), some (oFrZ eA eA eA v_frame)] [] σ H) hw hst
    exact rt _ _ _ _ _ _ hw ⟨_, (.s (by rfl) .nil)⟩ (hst.push fun _ _ => by unfold Rp; rfl)
  · clear hst hw
    intro H hw hst
    have hst := hst.freezeLoc (loc_fr (k := 2) (loc_var (n := 1) (by rfl)) (by rfl)) rdo_oL
    have hst : Stt F [some (oM (oFr eA eA eA) v_frames), some (oFrZ eA eA eA v_frame)] [] σ H := hst
    obtain ⟨g34, hw⟩ := R.guard_ok ok hw
    refine s_lvApp (enc := eA) (ys := (getI v_frames (-(1 : Int))).2.2) hst hw ok (lv_fr (k := 2) (lv_ixM (f := oFr eA eA eA) (xs := v_frames) (lv_var (n := 0) (by rfl)) (ev_neg ev_int) g34) ev_int (by rfl)) (mv_ok (t := oD eA) ((ev_tup (ea_cons ev_lit (ea_cons (ev_lv (lv_fr (k := 0) (lv_var (n := 1) (by rfl)) ev_int (by rfl))) (ea_cons (ev_lv (lv_fr (k := 1) (lv_var (n := 1) (by rfl)) ev_int (by rfl))) (ea_cons (ev_lv (lv_fr (k := 2) (lv_var (n := 1) (by rfl)) ev_int (by rfl))) ea_nil)))) (show 4 ≤ 1000 by decide)))) ?_
    clear hst hw
    intro v35 σ H hw hst
    have hst : Stt F [some (oM (oFr eA eA eA) (setI v_frames (-(1 : Int)) ((getI v_frames (-(1 : Int))).1, (getI v_frames (-(1 : Int))).2.1, v35))), some (oFrZ eA eA eA v_frame)] [] σ H := by
      unfold oM
      rw [← map_set_ix]
      exact hst
    obtain ⟨v_frames, hw, hst⟩ := nm (P := fun v_frames => Stt F [some (oM (oFr eA eA eA) v_frames), some (oFrZ eA eA eA v_frame)] [] σ H) hw hst
    exact rt _ _ _ _ _ _ hw ⟨_, (.s (by rfl) .nil)⟩ (hst.push fun _ _ => by unfold Rp; rfl)
theorem bn_law_is_place (tx : Tx K mg) : Binds K tx.d_law_is_place ["found"] [] := tx.F_law_is_place.bindsN fun _ _ _ _ _ _ us hl => match us, hl with | [_], _ => rfl
theorem ok_law_is_place (tx : Tx K mg) : FnOk P w K mg base (L2.CX P w) 1 tx.f_law_is_place tx.d_law_is_place ["found"] (sp_law_is_place K tx.Ce) := by
  refine tx.F_law_is_place.ok sc_law_is_place (fun vs H Q E h => spF_len (n := 1) rfl vs H Q E h) (fun cdv A outer s H vs Q E hr h => ⟨_, (pss_cons (ps_if (pw_or (pt_not (pt_val (pe_callB (r := rIsiY K) call_isiY (by rfl) tx.n_isinstance (by rfl) (pa_cons (pv 0) (pa_cons (pe_bltn (v := .ty "tuple") (by rfl) tx.n_tuple (by rfl) rfl) pa_nil))))) (pw_or (pt_cmpR op_ne (pe_callB (r := rLenK K) call_len_seq (by rfl) tx.n_len (by rfl) (pa_cons (pv 0) pa_nil)) pe_int (by first | exact nomark _ | rfl)) (pw_or1 (pt_not (pt_val (pe_callB (r := rIsiY K) call_isiY (by rfl) tx.n_isinstance (by rfl) (pa_cons (pe_ix (r := rIxT K) ix_tup (pv 0) pe_int (fun _ _ => rfl)) (pa_cons (pe_bltn (v := .ty "str") (by rfl) tx.n_str (by rfl) rfl) pa_nil)))))))).pt (pss_one (ps_ret pe_bl)) pss_nil) (pss_one (ps_ret (pe_and (pe_callB (r := rIsiY K) call_isiY (by rfl) tx.n_isinstance (by rfl) (pa_cons (pe_ix (r := rIxT K) ix_tup (pv 0) pe_int (fun _ _ => rfl)) (pa_cons (pe_bltn (v := .ty "int") (by rfl) tx.n_int (by rfl) rfl) pa_nil))) (pe_one (pe_not (pe_callB (r := rIsiY K) call_isiY (by rfl) tx.n_isinstance (by rfl) (pa_cons (pe_ix (r := rIxT K) ix_tup (pv 0) pe_int (fun _ _ => rfl)) (pa_cons (pe_bltn (v := .ty "bool") (by rfl) tx.n_bool (by rfl) rfl) pa_nil))))))))), ?_⟩)
  obtain ⟨v_found, F, W, rfl, ni, hst, hw, ok, rt⟩ := spD_start N_law_is_place h
  generalize L2.start N_law_is_place vs = σ at hst ⊢
  have hw : W (m_law_is_place v_found) := hw
  replace ok := ok (List.replicate 1 none)
  have hst : Stt F [some (oD eP v_found)] [] σ H := hst
  unfold m_law_is_place at hw
  refine q_seq ?_
  refine s_ifM hst hw ok (mt_ok (et_or (et_not (et_B (ev_isi (d := eP v_found) (show kitB "tuple" "tuple" = some true by decide +kernel) (ev_var (i := 0) (by rfl))))) (et_or (et_test (ev_neI (ev_lenT (ds := [eS v_found.1, eI v_found.2]) (ev_P (ev_var (i := 0) (by rfl)))) ev_int)) (et_not (et_B (ev_isi (d := eS v_found.1) (show kitB "str" "str" = some true by decide +kernel) (ev_ixC (ds := [eS v_found.1, eI v_found.2]) (n := 0) (by rfl) (ev_P (ev_var (i := 0) (by rfl))) ev_int))))))) ?_ ?_
  · clear hst hw
    intro H hw hst
    exact s_retF (t := oD eB) hst hw ok (mv_ok (t := oD eB) (ev_bl)) fun a v H w s => rt _ _ _ _ _ _ w s
  · clear hst hw
    intro H hw hst
    refine s_next ?_
    refine q_nx ?_
    exact s_retF (t := oD eB) hst hw ok (mv_ok (t := oD eB) ((ev_andV (ev_isi (d := eI v_found.2) (show kitB "int" "int" = some true by decide +kernel) (ev_ixC (ds := [eS v_found.1, eI v_found.2]) (n := 1) (by rfl) (ev_P (ev_var (i := 0) (by rfl))) ev_int)) (ev_notV (ev_isi (d := eI v_found.2) (show kitB "int" "bool" = some false by decide +kernel) (ev_ixC (ds := [eS v_found.1, eI v_found.2]) (n := 1) (by rfl) (ev_P (ev_var (i := 0) (by rfl))) ev_int)))))) fun a v H w s => rt _ _ _ _ _ _ w s
theorem bn_law_same (tx : Tx K mg) : Binds K tx.d_law_same ["paper", "noted"] [] := tx.F_law_same.bindsN fun _ _ _ _ _ _ us hl => match us, hl with | [_, _], _ => rfl
theorem ok_law_same (tx : Tx K mg) : FnOk P w K mg base (L2.CX P w) 1 tx.f_law_same tx.d_law_same ["paper", "noted"] (sp_law_same K tx.Ce) := by
  refine tx.F_law_same.ok sc_law_same (fun vs H Q E h => spF_len (n := 2) rfl vs H Q E h) (fun cdv A outer s H vs Q E hr h => ⟨_, (pss_cons (ps_if (pw_or (pt_not (pt_val (pe_callB (r := rIsiY K) call_isiY (by rfl) tx.n_isinstance (by rfl) (pa_cons (pv 0) (pa_cons (pe_bltn (v := .ty "tuple") (by rfl) tx.n_tuple (by rfl) rfl) pa_nil))))) (pw_or (pt_cmpR op_ne (pe_callB (r := rLenK K) call_len_seq (by rfl) tx.n_len (by rfl) (pa_cons (pv 0) pa_nil)) pe_int (by first | exact nomark _ | rfl)) (pw_or1 (pt_not (pt_val (pe_callB (r := rIsiY K) call_isiY (by rfl) tx.n_isinstance (by rfl) (pa_cons (pe_ix (r := rIxT K) ix_tup (pv 0) pe_int (fun _ _ => rfl)) (pa_cons (pe_bltn (v := .ty "list") (by rfl) tx.n_list (by rfl) rfl) pa_nil)))))))).pt (pss_one (ps_ret pe_bl)) pss_nil) (pss_cons (ps_for (passes_of rfl) rfl (pi_seq (pe_ix (r := rIxT K) ix_tup (pv 0) pe_int (fun _ _ => rfl))) (pg_name (i := 2) sc_law_same.nd rfl (by first | exact Or.inl rfl | exact Or.inr rfl)) (pss_one (ps_if (pw_or (pt_not (pt_val (pe_callB (r := rIsiY K) call_isiY (by rfl) tx.n_isinstance (by rfl) (pa_cons (pv 2) (pa_cons (pe_bltn (v := .ty "tuple") (by rfl) tx.n_tuple (by rfl) rfl) pa_nil))))) (pw_or (pt_cmpR op_ne (pe_callB (r := rLenK K) call_len_seq (by rfl) tx.n_len (by rfl) (pa_cons (pv 2) pa_nil)) pe_int (by first | exact nomark _ | rfl)) (pw_or1 (pt_val (pe_callB (r := rIsiY K) call_isiY (by rfl) tx.n_isinstance (by rfl) (pa_cons (pe_ix (r := rIxT K) ix_tup (pv 2) pe_int (fun _ _ => rfl)) (pa_cons (pe_bltn (v := .ty "bool") (by rfl) tx.n_bool (by rfl) rfl) pa_nil))))))).pt (pss_one (ps_ret pe_bl)) pss_nil))) (pss_one (ps_ret (pe_cmpR (r := rEqD K) (op_eqD hr.units) (pe_ix (r := rIxT K) ix_tup (pv 0) pe_int (fun _ _ => rfl)) (pv 1) (by first | exact nomark _ | rfl)))))), ?_⟩)
  obtain ⟨x, F, W, rfl, ni, hst, hw, ok, rt⟩ := spD_start N_law_same h
  obtain ⟨v_paper, v_noted⟩ := x
  generalize L2.start N_law_same vs = σ at hst ⊢
  have hw : W (m_law_same v_paper v_noted) := hw
  replace ok := ok (List.replicate 3 none)
  have hst : Stt F [some (oD eA v_paper), some (oD (eL (e2 eP eI)) v_noted), none] [] σ H := hst
  unfold m_law_same at hw
  refine q_seq ?_
  refine s_ifM hst hw ok (mt_or (mt_guard fun g37 => mt_ok (et_not (et_B (ev_isA (by decide +kernel) g37 (ev_var (i := 0) (by rfl)))))) (mt_or (mt_guard fun g38 => mt_ok (et_test (ev_neI (ev_lenQ g38 (ev_var (i := 0) (by rfl))) ev_int))) (mt_guard fun g39 => mt_guard fun g40 => mt_guard fun g41 => mt_ok (et_not (et_B (ev_isA (by decide +kernel) g41 (ev_ixT (enc := eA) g40 (ev_asU g39 (ev_var (i := 0) (by rfl))) ev_int))))))) ?_ ?_
  · clear hst hw
    intro H hw hst
    exact s_retF (t := oD eB) hst hw ok (mv_ok (t := oD eB) (ev_bl)) fun a v H w s => rt _ _ _ _ _ _ w s
  · clear hst hw
    intro H hw hst
    refine s_next ?_
    refine q_nx ?_
    refine q_seq ?_
    refine s_forM (S := Unit) (β := Bool) (xs := fun c57 => (Dt.asQ c57)) (enc := eA) (f := fun c57 y44 s45 => m_law_same_L1 y44) (Γs := fun s45 => [some (oD eA v_paper), some (oD (eL (e2 eP eI)) v_noted), none]) (Γb := fun _ y44 s45 => [some (oD eA v_paper), some (oD (eL (e2 eP eI)) v_noted), some (oD eA y44)]) (s0 := ()) hst hw ok (sr_seq (mv_guard fun g42 => mv_guard fun g43 => mv_ok (t := oD eA) ((ev_ixT (enc := eA) g43 (ev_asU g42 (ev_var (i := 0) (by rfl))) ev_int)))) (.same (.same (.same .nil))) (fun _ _ _ => (tg_name (j := 2) (show 2 < 3 by decide) (ni _))) ?_ ?_
    · clear hst hw ok
      intro _ v_note s45 W46 hN47p hB48p T49 σ H ok r50 hw hst hN47 hB48
      have rt51 := fun a v T Γ σ H' w s => rt a v T Γ σ H' (r50 a w) s
      have hw : W46 (m_law_same_L1 v_note) := hw
      have hst : Stt F [some (oD eA v_paper), some (oD (eL (e2 eP eI)) v_noted), some (oD eA v_note)] T49 σ H := hst
      unfold m_law_same_L1 at hw
      refine s_ifM hst hw ok (mt_or (mt_guard fun g52 => mt_ok (et_not (et_B (ev_isA (by decide +kernel) g52 (ev_var (i := 2) (by rfl)))))) (mt_or (mt_guard fun g53 => mt_ok (et_test (ev_neI (ev_lenQ g53 (ev_var (i := 2) (by rfl))) ev_int))) (mt_guard fun g54 => mt_guard fun g55 => mt_guard fun g56 => mt_ok (et_B (ev_isA (by decide +kernel) g56 (ev_ixT (enc := eA) g55 (ev_asU g54 (ev_var (i := 2) (by rfl))) ev_int)))))) ?_ ?_
      · clear hst hw
        intro H hw hst
        exact s_retM (t := oD eB) hst hw ok (mv_ok (t := oD eB) (ev_bl)) fun a v H w s => rt51 _ _ _ _ _ _ w s
      · clear hst hw
        intro H hw hst
        refine s_next ?_
        exact hN47 () _ _ hw (hst.weak (.same (.same (.drop .nil))))
    · clear hst hw
      intro s45 σ H hw hst
      have hw := fin_nx hw
      have hw : W (m_law_same_J1 v_paper v_noted) := hw
      have hst : Stt F [some (oD eA v_paper), some (oD (eL (e2 eP eI)) v_noted), none] [] σ H := hst
      replace hst := hst.weak (Γ' := [some (oD eA v_paper), some (oD (eL (e2 eP eI)) v_noted), none]) (.same (.same (.same .nil)))
      unfold m_law_same_J1 at hw
      refine q_nx ?_
      exact s_retF (t := oD eB) hst hw ok (mv_guard fun g58 => mv_guard fun g59 => mv_guard fun g60 => mv_ok (t := oD eB) ((ev_eqDD g60 (eq_d (ev_ixT (enc := eA) g59 (ev_asU g58 (ev_var (i := 0) (by rfl))) ev_int)) (eq_d (ev_var (i := 1) (by rfl)))))) fun a v H w s => rt _ _ _ _ _ _ w s
theorem bn_reckoned (tx : Tx K mg) : Binds K tx.d_reckoned ["term", "slots"] [] := tx.F_reckoned.bindsN fun _ _ _ _ _ _ us hl => match us, hl with | [_, _], _ => rfl
theorem ok_reckoned (tx : Tx K mg) : FnOk P w K mg base (L2.CX P w) 2 tx.f_reckoned tx.d_reckoned ["term", "slots"] (sp_reckoned K tx.Ce) := by
  refine tx.F_reckoned.ok sc_reckoned (fun vs H Q E h => spF_len (n := 2) rfl vs H Q E h) (fun cdv A outer s H vs Q E hr h => ⟨_, (pss_cons (ps_set (i := 2) sc_reckoned.nd rfl (by first | exact Or.inl rfl | exact Or.inr rfl) (pe_lst pa_nil)) (pss_cons (ps_for (passes_of rfl) rfl (pi_tup (pv 0)) (pg_name (i := 3) sc_reckoned.nd rfl (by first | exact Or.inl rfl | exact Or.inr rfl)) (pss_one (ps_if (pt_cmpR (r := rIn K false) op_in_seq (pv 3) (C8.pe_gc (by rfl) tx.c_DOERS) (by first | exact nomark _ | rfl)) (pss_cons (ps_set (i := 4) sc_reckoned.nd rfl (by first | exact Or.inl rfl | exact Or.inr rfl) (pe_bm0 PySem.F.plainAttrs_list PySem.F.slot_list_pop PySem.F.type_list_pop mt_pop (pv 2))) (pss_cons (ps_set (i := 5) sc_reckoned.nd rfl (by first | exact Or.inl rfl | exact Or.inr rfl) (pe_callS (E := WE (fun cls d _ H => E cls d H)) (ok_comes_to tx) (hr.mono (by decide)) (by rfl) tx.g_comes_to tx.F_comes_to.kp (bn_comes_to tx) (fun σ => passAt (takes_of rfl rfl rfl rfl) σ) (pa_cons (pv 3) (pa_cons (pe_bm0 PySem.F.plainAttrs_list PySem.F.slot_list_pop PySem.F.type_list_pop mt_pop (pv 2)) (pa_cons (pv 4) pa_nil))))) (pss_cons (ps_if (pt_not (pt_val (pe_callS (E := WE (fun cls d _ H => E cls d H)) (ok_is_worth tx) (hr.mono (by decide)) (by rfl) tx.g_is_worth tx.F_is_worth.kp (bn_is_worth tx) (fun σ => passAt (takes_of rfl rfl rfl rfl) σ) (pa_cons (pv 5) pa_nil)))) (pss_one (ps_raise rfl (takes_of rfl rfl rfl rfl) (pmk_own PySem.F.excBase_ValueError tx.q_Great tx.x_Great tx.k_Great (raises_own tx.b_Great tx.t_Great) (by rfl)))) pss_nil) (pss_one (ps_expr (pe_bm PySem.F.plainAttrs_list PySem.F.slot_list_append PySem.F.type_list_append mt_append (pv 2) (pa_cons (pv 5) pa_nil))))))) (pss_one (ps_if (pt_val (pe_callB (r := rIsiY K) call_isiY (by rfl) tx.n_isinstance (by rfl) (pa_cons (pv 3) (pa_cons (pe_bltn (v := .ty "int") (by rfl) tx.n_int (by rfl) rfl) pa_nil)))) (pss_one (ps_expr (pe_bm PySem.F.plainAttrs_list PySem.F.slot_list_append PySem.F.type_list_append mt_append (pv 2) (pa_cons (pv 3) pa_nil)))) (pss_one (ps_expr (pe_bm PySem.F.plainAttrs_list PySem.F.slot_list_append PySem.F.type_list_append mt_append (pv 2) (pa_cons (pe_dget2 (hu_of hr) (pv 1) (pv 3) pe_int (by exact ⟨rfl, rfl, rfl, rfl⟩)) pa_nil))))))))) (pss_one (ps_ret (pe_ix (r := rIxL K) ix_list (pv 2) pe_int (fun _ _ => rfl)))))), ?_⟩)
  obtain ⟨x, F, W, rfl, ni, hst, hw, ok, rt⟩ := spD_start N_reckoned h
  obtain ⟨v_term, v_slots⟩ := x
  generalize L2.start N_reckoned vs = σ at hst ⊢
  have hw : W (m_reckoned v_term v_slots) := hw
  replace ok := ok (List.replicate 6 none)
  have hst : Stt F [some (oD (eU eA) v_term), some (oD (eK kS eI) v_slots), none, none, none, none] [] σ H := hst
  unfold m_reckoned at hw
  refine q_seq ?_
  refine s_asgM (t := oL eI) hst hw ok (mv_ok (t := oL eI) ((ev_lst ea_nil (show 0 ≤ 1000 by decide)))) (show 2 < 6 by decide) (ni _) ?_
  clear hst hw
  intro v_parts σ H hw hst
  refine q_nx ?_
  refine q_seq ?_
  refine s_foldM (S := (List Int)) (xs := fun c80 => c80) (enc := eA) (f := fun c80 y61 s62 => m_reckoned_L1 v_slots s62 y61) (Γs := fun s62 => [none, some (oD (eK kS eI) v_slots), some (oL eI s62), none, none, none]) (Γb := fun _ y61 s62 => [none, some (oD (eK kS eI) v_slots), some (oL eI s62), some (oD eA y61), none, none]) (s0 := v_parts) hst hw ok (sr_tup (mv_ok (t := oD (eU eA)) ((ev_var (i := 0) (by rfl))))) (.drop (.same (.same (.same (.same (.same .nil)))))) (fun _ _ _ => (tg_name (j := 3) (show 3 < 6 by decide) (ni _))) ?_ ?_
  · clear hst hw ok
    intro _ v_part v_parts W63 hN64p T66 σ H ok hw hst hN64
    have hw : W63 (m_reckoned_L1 v_slots v_parts v_part) := hw
    have hst : Stt F [none, some (oD (eK kS eI) v_slots), some (oL eI v_parts), some (oD eA v_part), none, none] T66 σ H := hst
    unfold m_reckoned_L1 at hw
    refine s_ifM hst hw ok (mt_guard fun g68 => mt_ok (et_test (ev_inTA g68 (ev_var (i := 3) (by rfl)) (ev_globT tx.s_DOERS (tx.r_DOERS))))) ?_ ?_
    · clear hst hw
      intro H hw hst
      refine q_seq ?_
      refine s_asgP (n := 2) (enc := eI) (t := oD eI) hst hw ok (mp_pop (enc := eI) (by rfl)) (show 4 < 6 by decide) (ni _) ?_
      clear hst hw
      intro v_second v_parts σ H hw hst
      refine q_nx ?_
      refine q_seq ?_
      refine s_asgP (n := 2) (enc := eI) (t := oD eI) hst hw ok (mp_guard fun g70 => (mp_call (fun (b : Int) => ((Dt.asX v_part), b, v_second)) (mpa_consP (ev_asX g70 (ev_var (i := 3) (by rfl))) (mpa_cons (mp_pop (enc := eI) (by rfl)) (fun _ _ => (ea_cons (ev_var (i := 4) (by rfl)) ea_nil)))) (fun _ => rfl) (fun _ => rfl) (fun _ _ _ h => h) (fun _ => (wkN (by rfl))))) (show 5 < 6 by decide) (ni _) ?_
      clear hst hw
      intro v_worth v_parts σ H hw hst
      refine q_nx ?_
      refine q_seq ?_
      refine s_ifM hst hw ok (mt_not (mt_B (mv_callP (x := v_worth) (ea_cons (ev_var (i := 5) (by rfl)) ea_nil) rfl rfl (fun _ _ _ h => h) (wkN (by rfl))))) ?_ ?_
      · clear hst hw
        intro H hw hst
        exact s_raise (C := tx.Ce .great) hst hw ok (wkN (by rfl)) (fun _ _ _ h => h) fun h => h
      · clear hst hw
        intro H hw hst
        refine s_next ?_
        refine q_nx ?_
        refine s_appE (enc := eI) (xs := v_parts) hst hw ok (by rfl) (mv_ok (t := oD eI) ((ev_var (i := 5) (by rfl)))) ?_
        clear hst hw
        intro v_parts σ H hw hst
        exact hN64 v_parts _ _ hw (hst.weak (.same (.same (.same (.drop (.drop (.drop .nil)))))))
    · clear hst hw
      intro H hw hst
      refine s_ifJ (S := (List Int)) (Γj := fun s73 => [none, some (oD (eK kS eI) v_slots), some (oL eI s73), some (oD eA v_part), none, none]) hst hw ok (mt_guard fun g72 => mt_ok (et_B (ev_isA (by decide +kernel) g72 (ev_var (i := 3) (by rfl))))) ?_ ?_ ?_
      · clear hst hw ok
        intro W74 hN75p H ok hw hst hN75
        refine s_appE (enc := eI) (xs := v_parts) hst hw ok (by rfl) (mv_guard fun g76 => mv_ok (t := oD eI) ((ev_asI g76 (ev_var (i := 3) (by rfl))))) ?_
        clear hst hw
        intro v_parts σ H hw hst
        exact hN75 v_parts _ _ hw (hst.weak (.same (.same (.same (.same (.same (.same .nil)))))))
      · clear hst hw ok
        intro W74 hN75p H ok hw hst hN75
        refine s_appE (enc := eI) (xs := v_parts) hst hw ok (by rfl) (mv_guard fun g78 => mv_ok (t := oD eI) ((ev_dget2 (kk := kS) (enc := eI) (kd := eS) (fun _ _ => kS_inj.mp) (fun _ _ h => rp_str h) (ev_var (i := 1) (by rfl)) (ev_asX g78 (ev_var (i := 3) (by rfl))) ev_int))) ?_
        clear hst hw
        intro v_parts σ H hw hst
        exact hN75 v_parts _ _ hw (hst.weak (.same (.same (.same (.same (.same (.same .nil)))))))
      · clear hst hw
        intro v_parts σ H hw hst
        have hw : W63 (m_reckoned_J1 v_parts) := hw
        have hst : Stt F [none, some (oD (eK kS eI) v_slots), some (oL eI v_parts), some (oD eA v_part), none, none] T66 σ H := hst
        replace hst := hst.weak (Γ' := [none, some (oD (eK kS eI) v_slots), some (oL eI v_parts), none, none, none]) (.same (.same (.same (.drop (.same (.same .nil))))))
        unfold m_reckoned_J1 at hw
        exact hN64 v_parts _ _ hw (hst.weak (.same (.same (.same (.same (.same (.same .nil)))))))
  · clear hst hw
    intro v_parts σ H hw hst
    have hw : W (m_reckoned_J2 v_parts) := hw
    have hst : Stt F [none, some (oD (eK kS eI) v_slots), some (oL eI v_parts), none, none, none] [] σ H := hst
    replace hst := hst.weak (Γ' := [none, none, some (oL eI v_parts), none, none, none]) (.same (.drop (.same (.same (.same (.same .nil))))))
    unfold m_reckoned_J2 at hw
    refine q_nx ?_
    exact s_retF (t := oD eI) hst hw ok (mv_guard fun g81 => mv_ok (t := oD eI) ((ev_ixL (enc := eI) g81 (el_var (n := 2) (by rfl)) ev_int))) fun a v H w s => rt _ _ _ _ _ _ w s
theorem bn_Run_paper (tx : Tx K mg) : Binds K tx.d_Run_paper ["self"] [] := tx.F_Run_paper.bindsN fun _ _ _ _ _ _ us hl => match us, hl with | [_], _ => rfl
theorem ok_Run_paper (tx : Tx K mg) : FnOk P w K mg base (L2.CX P w) 2 tx.f_Run_paper tx.d_Run_paper ["self"] (sp_Run_paper K tx.Ce) := by
  refine tx.F_Run_paper.ok sc_Run_paper (fun vs H Q E h => spF_len (n := 1) rfl vs H Q E h) (fun cdv A outer s H vs Q E hr h => ⟨_, (pss_cons (ps_if (pt_not (pt_val (pe_methP0 (E := WE (fun cls d _ H => E cls d H)) (pv 0) tx.cl_Run tx.g_Run_over (ok_Run_over tx) (hr.mono (by decide)) (bn_Run_over tx) (fun σ => passAt (takes_of rfl rfl rfl rfl) σ)))) (pss_one (ps_ret pe_non)) pss_nil) (pss_cons (ps_set (i := 1) sc_Run_paper.nd rfl (by first | exact Or.inl rfl | exact Or.inr rfl) (pe_callTy (r := Sy.rListIt) (Sy.cr_listIt (by rfl)) (by rfl) tx.n_list (by rfl) (pa_cons (pe_bm0 PySem.F.plainAttrs_dict PySem.F.slot_dict_items PySem.F.type_dict_items DX.mt_itemsT (pe_fldK (K := K) (pv 0) (by rfl))) pa_nil))) (pss_cons (ps_if (pt_cmpR op_ne (pe_fldK (K := K) (pv 0) (by rfl)) pe_str (by first | exact nomark _ | rfl)) (pss_one (ps_ret (pe_tup (pa_cons (pe_tup (pa_cons pe_str (pa_cons (pe_fldK (K := K) (pv 0) (by rfl)) pa_nil))) (pa_cons (pv 1) (pa_cons (pe_lst pa_nil) pa_nil)))))) pss_nil) (pss_one (ps_ret (pe_tup (pa_cons (pe_tup (pa_cons pe_str (pa_cons (pe_callTy (r := rTupK K) call_tuple_of (by rfl) tx.n_tuple (by rfl) (pa_cons (pe_fldK (K := K) (pv 0) (by rfl)) pa_nil)) pa_nil))) (pa_cons (pv 1) (pa_cons (pe_callB (r := Sy.rSortItI) (Sy.cr_sortedItI (by rfl) hr.units) (by rfl) tx.n_sorted (by rfl) (pa_cons (pe_bm0 PySem.F.plainAttrs_dict PySem.F.slot_dict_items PySem.F.type_dict_items DX.mt_itemsT (pe_fldK (K := K) (pv 0) (by rfl))) pa_nil)) pa_nil))))))))), ?_⟩)
  obtain ⟨z_self, F, W, rfl, ni, hst, hw, ok, rt0⟩ := spF_start N_Run_paper (by decide) (by decide) h
  generalize L2.start N_Run_paper vs = σ at hst ⊢
  have rt : ∀ a v T Γ σ H', W (.ok a) → (∃ Γ1, Tk Γ (List.map Ag.s [0]) [oOb_Run F.K a.2] Γ1) → Stt F Γ ((v, oOpt (oTr (e2 eS eA) (e2 eP eI) (e2 eP eI)) a.1) :: T) σ H' → Q v H' := fun a v T Γ σ H' w z s => rt0 a v T Γ _ σ H' w z.choose_spec s
  clear rt0
  have hw : W (m_Run_paper z_self) := hw
  replace ok := ok [some (oOb_Run F.K z_self), none] _ (.s (by rfl) .nil)
  have hst : Stt F [some (oOb_Run F.K z_self), none] [] σ H := hst
  unfold m_Run_paper at hw
  refine q_seq ?_
  refine s_ifM hst hw ok (mt_not (mt_B (mv_methQ (enc := eB) (x := z_self) (eq_lv (rdo_ins (rdoa_cons rdo_dat (rdoa_cons rdo_dat (rdoa_cons rdo_oK (rdoa_cons rdo_oKT (rdoa_cons rdo_oKT (rdoa_cons rdo_oL (rdoa_cons rdo_dat rdoa_nil)))))))) (lv_var (n := 0) (by rfl))) (lk_none (by decide +kernel)) eaq_nil rfl rfl (fun _ _ _ h => h) (.same (.same .nil)) imm_B))) ?_ ?_
  · clear hst hw
    intro H hw hst
    exact s_retM (t := oOpt (oTr (e2 eS eA) (e2 eP eI) (e2 eP eI))) hst hw ok (mv_noneO (fo := oTr (e2 eS eA) (e2 eP eI) (e2 eP eI))) fun a v H w s => rt _ _ _ _ _ _ w ⟨_, (.s (by rfl) .nil)⟩ s
  · clear hst hw
    intro H hw hst
    refine s_next ?_
    refine q_nx ?_
    refine q_seq ?_
    refine s_asgM (t := oL (e2 eP eI)) hst hw ok (mv_ok (t := oL (e2 eP eI)) ((ev_listItL (kk := kP) (ek := eP) (enc := eI) (fun _ => rfl) (lv_fld (f := "noted") (j := 4) (lv_var (n := 0) (by rfl)) (by rfl) tx.cl_Run tx.na_Run_noted (lk_ix (by decide +kernel)))))) (show 1 < 2 by decide) (ni _ (by decide)) ?_
    clear hst hw
    intro v_notes σ H hw hst
    refine q_nx ?_
    refine q_seq ?_
    refine s_ifM hst hw ok (mt_ok (et_test (ev_neX (ev_lv (lv_fld (f := "broken") (j := 6) (lv_var (n := 0) (by rfl)) (by rfl) tx.cl_Run tx.na_Run_broken (lk_ix (by decide +kernel)))) ev_lit))) ?_ ?_
    · clear hst hw
      intro H hw hst
      exact s_retX3 (k := fun (x83 : (((List Nat) × Dt) × ((List ((List Nat × Int) × Int)) × Unit))) => R.ok ((some (x83.1, v_notes, x83.2.1)), z_self)) (t := fun (x83 : (((List Nat) × Dt) × ((List ((List Nat × Int) × Int)) × Unit))) => Own.tup [oD (e2 eS eA) x83.1, oL (e2 eP eI) v_notes, oL (e2 eP eI) x83.2.1]) hst hw ok (mx_tupP (Γ' := [some (oOb_Run F.K z_self), none]) (map_cons (F := F) (Γ := [some (oOb_Run F.K z_self), some (oL (e2 eP eI) v_notes)]) (mv_ok (t := oD (e2 eS eA)) ((ev_tup (ea_cons ev_lit (ea_cons (ev_lv (lv_fld (f := "broken") (j := 6) (lv_var (n := 0) (by rfl)) (by rfl) tx.cl_Run tx.na_Run_broken (lk_ix (by decide +kernel)))) ea_nil)) (show 2 ≤ 1000 by decide)))) (map_slotC (F := F) (Γ := [some (oOb_Run F.K z_self), some (oL (e2 eP eI) v_notes)]) (n := 1) (by rfl) (map_cons (F := F) (Γ := [some (oOb_Run F.K z_self), none]) (mv_ok (a := ([] : (List ((List Nat × Int) × Int)))) (t := oL (e2 eP eI)) ((ev_lst ea_nil (show 0 ≤ 1000 by decide)))) map_nil))) (fun _ => by show 3 ≤ 1000; decide)) fun x83 v H w s => rt _ _ _ _ _ _ w ⟨_, (.s (by rfl) .nil)⟩ s
    · clear hst hw
      intro H hw hst
      refine s_next ?_
      refine q_nx ?_
      exact s_retX3 (k := fun (x85 : (((List Nat) × Dt) × ((List ((List Nat × Int) × Int)) × Unit))) => R.ok ((some (x85.1, v_notes, x85.2.1)), z_self)) (t := fun (x85 : (((List Nat) × Dt) × ((List ((List Nat × Int) × Int)) × Unit))) => Own.tup [oD (e2 eS eA) x85.1, oL (e2 eP eI) v_notes, oL (e2 eP eI) x85.2.1]) hst hw ok (mx_tupP (Γ' := [some (oOb_Run F.K z_self), none]) (map_cons (F := F) (Γ := [some (oOb_Run F.K z_self), some (oL (e2 eP eI) v_notes)]) (mv_ok (t := oD (e2 eS eA)) ((ev_tup (ea_cons ev_lit (ea_cons (ev_tupLE (enc := eI) (el_lv (lv_fld (f := "sayings") (j := 5) (lv_var (n := 0) (by rfl)) (by rfl) tx.cl_Run tx.na_Run_sayings (lk_ix (by decide +kernel))))) ea_nil)) (show 2 ≤ 1000 by decide)))) (map_slotC (F := F) (Γ := [some (oOb_Run F.K z_self), some (oL (e2 eP eI) v_notes)]) (n := 1) (by rfl) (map_cons (F := F) (Γ := [some (oOb_Run F.K z_self), none]) (mv_ok (t := oL (e2 eP eI)) ((ev_sortItL (lv_fld (f := "given") (j := 3) (lv_var (n := 0) (by rfl)) (by rfl) tx.cl_Run tx.na_Run_given (lk_ix (by decide +kernel)))))) map_nil))) (fun _ => by show 3 ≤ 1000; decide)) fun x85 v H w s => rt _ _ _ _ _ _ w ⟨_, (.s (by rfl) .nil)⟩ s
theorem bn_law_names (tx : Tx K mg) : Binds K tx.d_law_names ["cell", "many"] [] := tx.F_law_names.bindsN fun _ _ _ _ _ _ us hl => match us, hl with | [_, _], _ => rfl
theorem ok_law_names (tx : Tx K mg) : FnOk P w K mg base (L2.CX P w) 2 tx.f_law_names tx.d_law_names ["cell", "many"] (sp_law_names K tx.Ce) := by
  refine tx.F_law_names.ok sc_law_names (fun vs H Q E h => spF_len (n := 2) rfl vs H Q E h) (fun cdv A outer s H vs Q E hr h => ⟨_, (pss_cons (ps_set (i := 2) sc_law_names.nd rfl (by first | exact Or.inl rfl | exact Or.inr rfl) (pe_op op_add pe_int (pe_op op_mod (pe_callS (E := WE (fun cls d _ H => E cls d H)) (ok_law_draw tx) (hr.mono (by decide)) (by rfl) tx.g_law_draw tx.F_law_draw.kp (bn_law_draw tx) (fun σ => passAt (takes_of rfl rfl rfl rfl) σ) (pa_cons (pv 0) (pa_cons pe_int pa_nil))) pe_int))) (pss_cons (ps_set (i := 3) sc_law_names.nd rfl (by first | exact Or.inl rfl | exact Or.inr rfl) pe_str) (pss_cons (ps_if (pt_cmpR op_eq (pv 2) pe_int (by first | exact nomark _ | rfl)) (pss_one (ps_set (i := 3) sc_law_names.nd rfl (by first | exact Or.inl rfl | exact Or.inr rfl) pe_str)) pss_nil) (pss_cons (ps_set (i := 4) sc_law_names.nd rfl (by first | exact Or.inl rfl | exact Or.inr rfl) pe_str) (pss_cons (ps_for (passes_of rfl) rfl (pi_range1 (by rfl) tx.n_range (pa_cons (pv 2) pa_nil)) (pg_name (i := 5) sc_law_names.nd rfl (by first | exact Or.inl rfl | exact Or.inr rfl)) (pss_one (ps_set (i := 4) sc_law_names.nd rfl (by first | exact Or.inl rfl | exact Or.inr rfl) (pe_op op_add_str (pv 4) (pe_ix ix_str (pv 3) (pe_op op_mod (pe_callS (E := WE (fun cls d _ H => E cls d H)) (ok_law_draw tx) (hr.mono (by decide)) (by rfl) tx.g_law_draw tx.F_law_draw.kp (bn_law_draw tx) (fun σ => passAt (takes_of rfl rfl rfl rfl) σ) (pa_cons (pv 0) (pa_cons (pe_op op_add pe_int (pv 5)) pa_nil))) (pe_callB call_len_str (by rfl) tx.n_len (by rfl) (pa_cons (pv 3) pa_nil))) (fun _ _ => rfl)))))) (pss_cons (ps_set (i := 6) sc_law_names.nd rfl (by first | exact Or.inl rfl | exact Or.inr rfl) (pe_op op_mod (pe_callS (E := WE (fun cls d _ H => E cls d H)) (ok_law_draw tx) (hr.mono (by decide)) (by rfl) tx.g_law_draw tx.F_law_draw.kp (bn_law_draw tx) (fun σ => passAt (takes_of rfl rfl rfl rfl) σ) (pa_cons (pv 0) (pa_cons pe_int pa_nil))) (pv 2))) (pss_cons (ps_set (i := 7) sc_law_names.nd rfl (by first | exact Or.inl rfl | exact Or.inr rfl) (pe_op op_mod (pe_callS (E := WE (fun cls d _ H => E cls d H)) (ok_law_draw tx) (hr.mono (by decide)) (by rfl) tx.g_law_draw tx.F_law_draw.kp (bn_law_draw tx) (fun σ => passAt (takes_of rfl rfl rfl rfl) σ) (pa_cons (pv 0) (pa_cons pe_int pa_nil))) (pe_callB call_len_str (by rfl) tx.n_len (by rfl) (pa_cons (pv 3) pa_nil)))) (pss_cons (ps_set (i := 3) sc_law_names.nd rfl (by first | exact Or.inl rfl | exact Or.inr rfl) (pe_op op_add_str (pe_slice sl_str (pv 3) (po_some (pv 7)) po_none) (pe_slice sl_str (pv 3) po_none (po_some (pv 7))))) (pss_one (ps_ret (pe_lc (own := [("k", 5)]) (g := gName 5) (tt := tYes) rfl sc_law_names.nd (pi_range1 (by rfl) tx.n_range (pa_cons (pv 1) pa_nil)) (blkOk_by (N := N_law_names) (sc := defScope s_law_names) (by decide +kernel)) (fun _ _ _ _ _ => (pg_name (i := 5) sc_law_names.nd rfl (by first | exact Or.inl rfl | exact Or.inr rfl))) (fun _ _ _ _ _ => pts_nil) (fun _ _ _ _ _ => (pe_op op_add_str (pe_op op_add_str (pe_slice sl_str (pv 4) po_none (po_some (pv 6))) (pe_ix ix_str (pv 3) (pv 5) (fun _ _ => rfl))) (pe_slice sl_str (pv 4) (po_some (pe_op op_add (pv 6) pe_int)) po_none)))))))))))))), ?_⟩)
  obtain ⟨x, F, W, rfl, ni, hst, hw, ok, rt⟩ := spD_start N_law_names h
  obtain ⟨v_cell, v_many⟩ := x
  generalize L2.start N_law_names vs = σ at hst ⊢
  have hw : W (m_law_names v_cell v_many) := hw
  replace ok := ok (List.replicate 8 none)
  have hst : Stt F [some (oD eI v_cell), some (oD eI v_many), none, none, none, none, none, none] [] σ H := hst
  unfold m_law_names at hw
  refine q_seq ?_
  refine s_asgM (t := oD eI) hst hw ok (mv_op (mv_ok (t := oD eI) (ev_int)) (fun _ => (mv_op (mv_callP (x := (v_cell, (1 : Int))) (ea_cons (ev_var (i := 0) (by rfl)) (ea_cons ev_int ea_nil)) rfl rfl (fun _ _ _ h => h) (wkN (by rfl))) (fun _ => (mv_ok (t := oD eI) (ev_int))) fun _ _ => om_guard fun g89 => om_ok (op2_I (C := fun _ j => 0 < j) (g := fun i j => i % j) g89))) fun _ _ => om_ok (op2_I0 (g := fun i j => i + j) )) (show 2 < 8 by decide) (ni _) ?_
  clear hst hw
  intro v_size σ H hw hst
  refine q_nx ?_
  refine q_seq ?_
  refine s_asgM (t := oD eS) hst hw ok (mv_ok (t := oD eS) (ev_lit)) (show 3 < 8 by decide) (ni _) ?_
  clear hst hw
  intro v_signs σ H hw hst
  refine q_nx ?_
  refine q_seq ?_
  refine s_ifJ (S := (List Nat)) (Γj := fun s92 => [some (oD eI v_cell), some (oD eI v_many), some (oD eI v_size), some (oD eS s92), none, none, none, none]) hst hw ok (mt_ok (et_test (ev_eqI (ev_var (i := 2) (by rfl)) ev_int))) ?_ ?_ ?_
  · clear hst hw ok
    intro W93 hN94p H ok hw hst hN94
    refine s_asgM (t := oD eS) hst hw ok (mv_ok (t := oD eS) (ev_lit)) (show 3 < 8 by decide) (ni _) ?_
    clear hst hw
    intro v_signs σ H hw hst
    exact hN94 v_signs _ _ hw (hst.weak (.same (.same (.same (.same (.same (.same (.same (.same .nil)))))))))
  · clear hst hw ok
    intro W93 hN94p H ok hw hst hN94
    refine s_next ?_
    exact hN94 v_signs _ _ hw (hst.weak (.same (.same (.same (.same (.same (.same (.same (.same .nil)))))))))
  · clear hst hw
    intro v_signs σ H hw hst
    have hw : W (m_law_names_J1 v_cell v_many v_size v_signs) := hw
    have hst : Stt F [some (oD eI v_cell), some (oD eI v_many), some (oD eI v_size), some (oD eS v_signs), none, none, none, none] [] σ H := hst
    replace hst := hst.weak (Γ' := [some (oD eI v_cell), some (oD eI v_many), some (oD eI v_size), some (oD eS v_signs), none, none, none, none]) (.same (.same (.same (.same (.same (.same (.same (.same .nil))))))))
    unfold m_law_names_J1 at hw
    refine q_nx ?_
    refine q_seq ?_
    refine s_asgM (t := oD eS) hst hw ok (mv_ok (t := oD eS) (ev_lit)) (show 4 < 8 by decide) (ni _) ?_
    clear hst hw
    intro v_stem σ H hw hst
    refine q_nx ?_
    refine q_seq ?_
    refine s_foldM (S := (List Nat)) (xs := fun c112 => (rng 0 c112)) (enc := eI) (f := fun c112 y95 s96 => m_law_names_L1 v_cell v_signs s96 y95) (Γs := fun s96 => [some (oD eI v_cell), some (oD eI v_many), some (oD eI v_size), some (oD eS v_signs), some (oD eS s96), none, none, none]) (Γb := fun _ y95 s96 => [some (oD eI v_cell), some (oD eI v_many), some (oD eI v_size), some (oD eS v_signs), some (oD eS s96), some (oD eI y95), none, none]) (s0 := v_stem) hst hw ok (sr_rng1 (mv_ok (t := oD eI) ((ev_var (i := 2) (by rfl))))) (.same (.same (.same (.same (.same (.same (.same (.same .nil)))))))) (fun _ _ _ => (tg_name (j := 5) (show 5 < 8 by decide) (ni _))) ?_ ?_
    · clear hst hw ok
      intro _ v_k v_stem W97 hN98p T100 σ H ok hw hst hN98
      have hw : W97 (m_law_names_L1 v_cell v_signs v_stem v_k) := hw
      have hst : Stt F [some (oD eI v_cell), some (oD eI v_many), some (oD eI v_size), some (oD eS v_signs), some (oD eS v_stem), some (oD eI v_k), none, none] T100 σ H := hst
      unfold m_law_names_L1 at hw
      refine s_asgM (t := oD eS) hst hw ok (mv_op (mv_ok (t := oD eS) ((ev_var (i := 4) (by rfl)))) (fun _ => (mv_map (f := fun a => [a]) (mv_op (mv_ok (t := oD eS) ((ev_var (i := 3) (by rfl)))) (fun _ => (mv_op (mv_callP (x := (v_cell, ((2 : Int) + v_k))) (ea_cons (ev_var (i := 0) (by rfl)) (ea_cons (ev_add ev_int (ev_var (i := 5) (by rfl))) ea_nil)) rfl rfl (fun _ _ _ h => h) (wkN (by rfl))) (fun _ => (mv_guard fun g102 => mv_ok (t := oD eI) ((ev_lenSx g102 (ev_var (i := 3) (by rfl)))))) fun _ _ => om_guard fun g105 => om_ok (op2_I (C := fun _ j => 0 < j) (g := fun i j => i % j) g105))) fun _ _ => om_guard fun g108 => om_ok (op2_ixSx g108)) fun _ => rfl)) fun _ _ => om_guard fun g111 => om_ok (op2_catX g111)) (show 4 < 8 by decide) (ni _) ?_
      clear hst hw
      intro v_stem σ H hw hst
      exact hN98 v_stem _ _ hw (hst.weak (.same (.same (.same (.same (.same (.drop (.same (.same .nil)))))))))
    · clear hst hw
      intro v_stem σ H hw hst
      have hw : W (m_law_names_J2 v_cell v_many v_size v_signs v_stem) := hw
      have hst : Stt F [some (oD eI v_cell), some (oD eI v_many), some (oD eI v_size), some (oD eS v_signs), some (oD eS v_stem), none, none, none] [] σ H := hst
      replace hst := hst.weak (Γ' := [some (oD eI v_cell), some (oD eI v_many), some (oD eI v_size), some (oD eS v_signs), some (oD eS v_stem), none, none, none]) (.same (.same (.same (.same (.same (.same (.same (.same .nil))))))))
      unfold m_law_names_J2 at hw
      refine q_nx ?_
      refine q_seq ?_
      refine s_asgM (t := oD eI) hst hw ok (mv_op (mv_callP (x := (v_cell, (8 : Int))) (ea_cons (ev_var (i := 0) (by rfl)) (ea_cons ev_int ea_nil)) rfl rfl (fun _ _ _ h => h) (wkN (by rfl))) (fun _ => (mv_ok (t := oD eI) ((ev_var (i := 2) (by rfl))))) fun _ _ => om_guard fun g115 => om_ok (op2_I (C := fun _ j => 0 < j) (g := fun i j => i % j) g115)) (show 6 < 8 by decide) (ni _) ?_
      clear hst hw
      intro v_at σ H hw hst
      refine q_nx ?_
      refine q_seq ?_
      refine s_asgM (t := oD eI) hst hw ok (mv_op (mv_callP (x := (v_cell, (9 : Int))) (ea_cons (ev_var (i := 0) (by rfl)) (ea_cons ev_int ea_nil)) rfl rfl (fun _ _ _ h => h) (wkN (by rfl))) (fun _ => (mv_guard fun g116 => mv_ok (t := oD eI) ((ev_lenSx g116 (ev_var (i := 3) (by rfl)))))) fun _ _ => om_guard fun g119 => om_ok (op2_I (C := fun _ j => 0 < j) (g := fun i j => i % j) g119)) (show 7 < 8 by decide) (ni _) ?_
      clear hst hw
      intro v_turn σ H hw hst
      refine q_nx ?_
      refine q_seq ?_
      refine s_asgM (t := oD eS) hst hw ok (mv_guard fun g120 => mv_guard fun g121 => mv_guard fun g122 => mv_ok (t := oD eS) ((ev_catX g122 (ev_slSx g120 (ev_var (i := 3) (by rfl)) (eo_some (ev_var (i := 7) (by rfl))) eo_no) (ev_slSx g121 (ev_var (i := 3) (by rfl)) eo_no (eo_some (ev_var (i := 7) (by rfl))))))) (show 3 < 8 by decide) (ni _) ?_
      clear hst hw
      intro v_signs σ H hw hst
      refine q_nx ?_
      exact s_retF (t := oD (eL eS)) hst hw ok (mv_frz (mv_lc (Γx := List.replicate 8 none) (Γb := fun _ x => [some (oD eI v_cell), some (oD eI v_many), some (oD eI v_size), some (oD eS v_signs), some (oD eS v_stem), some (oD eI x), some (oD eI v_at), some (oD eI v_turn)]) (xs := fun c => (rng 0 c)) (enc := eI) (encB := eS) (vs := [5]) (sr_rng1 (mv_ok (t := oD eI) ((ev_var (i := 1) (by rfl))))) ⟨⟨by rfl, ni _⟩, True.intro⟩ (fun _ _ => (tgw_name (j := 5) (show 5 < 8 by decide) (ni _) (by decide))) (fun _ _ => (.same (.same (.same (.same (.same (.drop (.same (.same .nil))))))))) (fun _ v_k => by
          show MV F _ _ _ _ (m_law_names_C1 v_signs v_stem v_at v_k) _
          unfold m_law_names_C1
          exact (mv_guard fun g124 => mv_guard fun g125 => mv_guard fun g126 => mv_guard fun g127 => mv_guard fun g128 => mv_ok (t := oD eS) ((ev_catX g128 (ev_catX g126 (ev_slSx g124 (ev_var (i := 4) (by rfl)) eo_no (eo_some (ev_var (i := 6) (by rfl)))) (ev_ixSx g125 (ev_var (i := 3) (by rfl)) (ev_var (i := 5) (by rfl)))) (ev_slSx g127 (ev_var (i := 4) (by rfl)) (eo_some (ev_add (ev_var (i := 6) (by rfl)) ev_int)) eo_no))))))) fun a v H w s => rt _ _ _ _ _ _ w s
theorem bn_law_worth (tx : Tx K mg) : Binds K tx.d_law_worth ["cell", "j"] [] := tx.F_law_worth.bindsN fun _ _ _ _ _ _ us hl => match us, hl with | [_, _], _ => rfl
theorem ok_law_worth (tx : Tx K mg) : FnOk P w K mg base (L2.CX P w) 2 tx.f_law_worth tx.d_law_worth ["cell", "j"] (sp_law_worth K tx.Ce) := by
  refine tx.F_law_worth.ok sc_law_worth (fun vs H Q E h => spF_len (n := 2) rfl vs H Q E h) (fun cdv A outer s H vs Q E hr h => ⟨_, (pss_cons (ps_set (i := 2) sc_law_worth.nd rfl (by first | exact Or.inl rfl | exact Or.inr rfl) (pe_op op_mod (pe_callS (E := WE (fun cls d _ H => E cls d H)) (ok_law_draw tx) (hr.mono (by decide)) (by rfl) tx.g_law_draw tx.F_law_draw.kp (bn_law_draw tx) (fun σ => passAt (takes_of rfl rfl rfl rfl) σ) (pa_cons (pv 0) (pa_cons (pv 1) pa_nil))) pe_int)) (pss_cons (ps_if (pt_cmpR op_eq (pv 2) pe_int (by first | exact nomark _ | rfl)) (pss_one (ps_ret pe_int)) pss_nil) (pss_cons (ps_if (pt_cmpR op_eq (pv 2) pe_int (by first | exact nomark _ | rfl)) (pss_one (ps_ret (pe_op op_sub (pe_op op_mod (pe_op op_add (pe_op op_mulW (pe_op op_mulW (pe_op op_mod (pv 0) (pe_op op_pow pe_int pe_int)) (pe_op op_add (pv 1) pe_int)) pe_int) (pv 1)) (pe_op op_add (pe_op op_mulW pe_int (pe_op op_pow pe_int pe_int)) pe_int)) (pe_op op_pow pe_int pe_int)))) pss_nil) (pss_one (ps_ret (pe_op op_sub (pe_op op_mod (pe_callS (E := WE (fun cls d _ H => E cls d H)) (ok_law_draw tx) (hr.mono (by decide)) (by rfl) tx.g_law_draw tx.F_law_draw.kp (bn_law_draw tx) (fun σ => passAt (takes_of rfl rfl rfl rfl) σ) (pa_cons (pv 0) (pa_cons (pe_op op_add (pv 1) pe_int) pa_nil))) pe_int) pe_int)))))), ?_⟩)
  obtain ⟨x, F, W, rfl, ni, hst, hw, ok, rt⟩ := spD_start N_law_worth h
  obtain ⟨v_cell, v_j⟩ := x
  generalize L2.start N_law_worth vs = σ at hst ⊢
  have hw : W (m_law_worth v_cell v_j) := hw
  replace ok := ok (List.replicate 3 none)
  have hst : Stt F [some (oD eI v_cell), some (oD eI v_j), none] [] σ H := hst
  unfold m_law_worth at hw
  refine q_seq ?_
  refine s_asgM (t := oD eI) hst hw ok (mv_op (mv_callP (x := (v_cell, v_j)) (ea_cons (ev_var (i := 0) (by rfl)) (ea_cons (ev_var (i := 1) (by rfl)) ea_nil)) rfl rfl (fun _ _ _ h => h) (wkN (by rfl))) (fun _ => (mv_ok (t := oD eI) (ev_int))) fun _ _ => om_guard fun g131 => om_ok (op2_I (C := fun _ j => 0 < j) (g := fun i j => i % j) g131)) (show 2 < 3 by decide) (ni _) ?_
  clear hst hw
  intro v_way σ H hw hst
  refine q_nx ?_
  refine q_seq ?_
  refine s_ifM hst hw ok (mt_ok (et_test (ev_eqI (ev_var (i := 2) (by rfl)) ev_int))) ?_ ?_
  · clear hst hw
    intro H hw hst
    exact s_retF (t := oD eI) hst hw ok (mv_ok (t := oD eI) (ev_int)) fun a v H w s => rt _ _ _ _ _ _ w s
  · clear hst hw
    intro H hw hst
    refine s_next ?_
    refine q_nx ?_
    refine q_seq ?_
    refine s_ifM hst hw ok (mt_ok (et_test (ev_eqI (ev_var (i := 2) (by rfl)) ev_int))) ?_ ?_
    · clear hst hw
      intro H hw hst
      exact s_retF (t := oD eI) hst hw ok (mv_guard fun g132 => mv_guard fun g133 => mv_guard fun g134 => mv_guard fun g135 => mv_guard fun g136 => mv_guard fun g137 => mv_guard fun g138 => mv_guard fun g139 => mv_ok (t := oD eI) ((ev_sub (ev_mod g138 (ev_add (ev_mulW g135 (ev_mulW g134 (ev_mod g133 (ev_var (i := 0) (by rfl)) (ev_pow g132 ev_int ev_int)) (ev_add (ev_var (i := 1) (by rfl)) ev_int)) ev_int) (ev_var (i := 1) (by rfl))) (ev_add (ev_mulW g137 ev_int (ev_pow g136 ev_int ev_int)) ev_int)) (ev_pow g139 ev_int ev_int)))) fun a v H w s => rt _ _ _ _ _ _ w s
    · clear hst hw
      intro H hw hst
      refine s_next ?_
      refine q_nx ?_
      exact s_retF (t := oD eI) hst hw ok (mv_op (mv_op (mv_callP (x := (v_cell, (v_j + (1 : Int)))) (ea_cons (ev_var (i := 0) (by rfl)) (ea_cons (ev_add (ev_var (i := 1) (by rfl)) ev_int) ea_nil)) rfl rfl (fun _ _ _ h => h) (wkN (by rfl))) (fun _ => (mv_ok (t := oD eI) (ev_int))) fun _ _ => om_guard fun g142 => om_ok (op2_I (C := fun _ j => 0 < j) (g := fun i j => i % j) g142)) (fun _ => (mv_ok (t := oD eI) (ev_int))) fun _ _ => om_ok (op2_I0 (g := fun i j => i - j) )) fun a v H w s => rt _ _ _ _ _ _ w s
theorem bn_Run_asks (tx : Tx K mg) : Binds K tx.d_Run_asks ["self"] [] := tx.F_Run_asks.bindsN fun _ _ _ _ _ _ us hl => match us, hl with | [_], _ => rfl
theorem ok_Run_asks (tx : Tx K mg) : FnOk P w K mg base (L2.CX P w) 3 tx.f_Run_asks tx.d_Run_asks ["self"] (sp_Run_asks K tx.Ce) := by
  refine tx.F_Run_asks.ok sc_Run_asks (fun vs H Q E h => spF_len (n := 1) rfl vs H Q E h) (fun cdv A outer s H vs Q E hr h => ⟨_, (pss_cons (ps_if (pw_or (pt_val (pe_methP0 (E := WE (fun cls d _ H => E cls d H)) (pv 0) tx.cl_Run tx.g_Run_over (ok_Run_over tx) (hr.mono (by decide)) (bn_Run_over tx) (fun σ => passAt (takes_of rfl rfl rfl rfl) σ))) (pw_or1 (pt_cmpR op_ne (pe_ix (r := rIxT K) ix_tup (pe_ix (r := rIxL K) ix_list (pe_fldK (K := K) (pv 0) (by rfl)) (pe_fldK (K := K) (pv 0) (by rfl)) (fun _ _ => rfl)) pe_int (fun _ _ => rfl)) pe_str (by first | exact nomark _ | rfl)))).pt (pss_one (ps_ret pe_non)) pss_nil) (pss_cons (ps_set (i := 1) sc_Run_asks.nd rfl (by first | exact Or.inl rfl | exact Or.inr rfl) (pe_ix (r := rIxL K) ix_list (pe_fldK (K := K) (pv 0) (by rfl)) (pe_fldK (K := K) (pv 0) (by rfl)) (fun _ _ => rfl))) (pss_cons (ps_tryTwoW rfl rfl ⟨by rfl, by decide, Or.inl tx.x_Great⟩ ⟨by rfl, by decide, Or.inl tx.x_Nought⟩ (takes_of rfl rfl rfl rfl) (fun Wt pn xe tk pw => (pss_one (ps_set (i := 2) sc_Run_asks.nd rfl (by first | exact Or.inl rfl | exact Or.inr rfl) (pe_callS (E := WE Wt) (ok_reckoned tx) (hr.mono (by decide)) (by rfl) tx.g_reckoned tx.F_reckoned.kp (bn_reckoned tx) (fun σ => passAt tk σ) (pa_cons (pe_ix (r := rIxT K) ix_tup (pv 1) pe_int (fun _ _ => rfl)) (pa_cons (pe_fldK (K := K) (pv 0) (by rfl)) pa_nil)))))) (fun a oe cls d pn hz hf => (pss_one (ps_ret pe_non))) (fun a oe cls d pn hz hf => (pss_one (ps_ret pe_non)))) (pss_cons (ps_set (i := 3) sc_Run_asks.nd rfl (by first | exact Or.inl rfl | exact Or.inr rfl) (pe_tup (pa_cons (pe_ix (r := rIxT K) ix_tup (pv 1) pe_int (fun _ _ => rfl)) (pa_cons (pv 2) pa_nil)))) (pss_cons (ps_if (pw_or (pt_cmp (pc_din (hu_of hr) (pv 3) (pe_fldK (K := K) (pv 0) (by rfl)))) (pw_or1 (pt_cmp (pc_din (hu_of hr) (pv 3) (pe_fldK (K := K) (pv 0) (by rfl)))))).pt (pss_one (ps_ret pe_non)) pss_nil) (pss_one (ps_ret (pv 3)))))))), ?_⟩)
  obtain ⟨v_self, F, W, rfl, ni, hst, hw, ok, rt⟩ := spD_start N_Run_asks h
  generalize L2.start N_Run_asks vs = σ at hst ⊢
  have hw : W (m_Run_asks v_self) := hw
  replace ok := ok (List.replicate 4 none)
  have hst : Stt F [some (oD (eOb_Run F.K) v_self), none, none, none] [] σ H := hst
  unfold m_Run_asks at hw
  refine q_seq ?_
  refine s_ifM hst hw ok (mt_or (mt_B (mv_methQ (enc := eB) (x := v_self) (eq_dat (ev_var (i := 0) (by rfl))) (lk_none (by decide +kernel)) eaq_nil rfl rfl (fun _ _ _ h => h) (wkN (by rfl)) imm_B)) (mt_guard fun g145 => mt_guard fun g146 => mt_guard fun g147 => mt_ok (et_test (ev_neX (ev_asX g147 (ev_ixT (enc := eA) g146 (ev_ixL (enc := (eU eA)) g145 (el_dat (ev_obF (f := "code") (j := 0) (ev_var (i := 0) (by rfl)) (by rfl) tx.cl_Run tx.na_Run_code (lk_ix (by decide +kernel)))) (ev_obF (f := "at") (j := 1) (ev_var (i := 0) (by rfl)) (by rfl) tx.cl_Run tx.na_Run_at (lk_ix (by decide +kernel)))) ev_int)) ev_lit)))) ?_ ?_
  · clear hst hw
    intro H hw hst
    exact s_retF (t := oD (eO eP)) hst hw ok (mv_ok (t := oD (eO eP)) (ev_non)) fun a v H w s => rt _ _ _ _ _ _ w s
  · clear hst hw
    intro H hw hst
    refine s_next ?_
    refine q_nx ?_
    refine q_seq ?_
    refine s_asgM (t := oD (eU eA)) hst hw ok (mv_guard fun g148 => mv_ok (t := oD (eU eA)) ((ev_ixL (enc := (eU eA)) g148 (el_dat (ev_obF (f := "code") (j := 0) (ev_var (i := 0) (by rfl)) (by rfl) tx.cl_Run tx.na_Run_code (lk_ix (by decide +kernel)))) (ev_obF (f := "at") (j := 1) (ev_var (i := 0) (by rfl)) (by rfl) tx.cl_Run tx.na_Run_at (lk_ix (by decide +kernel)))))) (show 1 < 4 by decide) (ni _) ?_
    clear hst hw
    intro v_row σ H hw hst
    refine q_nx ?_
    refine q_seq ?_
    refine s_tryTwoC (S := Int) (β := (Option (List Nat × Int))) (Γt := [some (oD (eOb_Run F.K) v_self), some (oD (eU eA) v_row), none, none]) (Γj := fun s149 => [some (oD (eOb_Run F.K) v_self), some (oD (eU eA) v_row), some (oD eI s149), none]) hst hw ok (wkN (by rfl)) tx.ck0 tx.ck1 (fun _ _ _ h hp => by rw [errAt_plain hp] at h; exact h) ?_ ?_ ?_ ?_
    · clear hw ok
      intro W150 Wx165 ok r163 hw hN152
      have rt156 := fun a v T Γ σ H' w s => rt a v T Γ σ H' (r163 a w) s
      refine s_asgM (t := oD eI) hst hw ok (mv_guard fun g157 => (mv_guard fun g158 => (mv_callP (x := ((Dt.asU (getI v_row (2 : Int))), v_self.2.2.1)) (ea_cons (ev_asU g158 (ev_ixT (enc := eA) g157 (ev_var (i := 1) (by rfl)) ev_int)) (ea_cons (ev_obF (f := "slots") (j := 2) (ev_var (i := 0) (by rfl)) (by rfl) tx.cl_Run tx.na_Run_slots (lk_ix (by decide +kernel))) ea_nil)) rfl rfl (fun _ _ _ h => h) (.same (.same (.same (.same .nil))))))) (show 2 < 4 by decide) (ni _) ?_
      clear hst hw
      intro v_number σ H hw hst
      exact hN152 v_number _ _ hw (hst.weak (.same (.same (.same (.same .nil)))))
    · clear hst hw ok
      intro e153 W151 a155 σ H hp154 ok r164 hw hst hN152
      replace ok := ok (List.replicate 4 none)
      have rt159 := fun a v T Γ σ H' w s => rt a v T Γ σ H' (r164 a w) s
      have hw : W151 (m_Run_asks_H1 e153 ) := hw
      unfold m_Run_asks_H1 at hw
      exact s_retM (t := oD (eO eP)) hst hw ok (mv_ok (t := oD (eO eP)) (ev_non)) fun a v H w s => rt159 _ _ _ _ _ _ w s
    · clear hst hw ok
      intro e153 W151 a155 σ H hp154 ok r164 hw hst hN152
      replace ok := ok (List.replicate 4 none)
      have rt160 := fun a v T Γ σ H' w s => rt a v T Γ σ H' (r164 a w) s
      have hw : W151 (m_Run_asks_H2 e153 ) := hw
      unfold m_Run_asks_H2 at hw
      exact s_retM (t := oD (eO eP)) hst hw ok (mv_ok (t := oD (eO eP)) (ev_non)) fun a v H w s => rt160 _ _ _ _ _ _ w s
    · clear hst hw
      intro v_number σ H hw hst
      have hw : W (m_Run_asks_J1 v_self v_row v_number) := hw
      have hst : Stt F [some (oD (eOb_Run F.K) v_self), some (oD (eU eA) v_row), some (oD eI v_number), none] [] σ H := hst
      replace hst := hst.weak (Γ' := [some (oD (eOb_Run F.K) v_self), some (oD (eU eA) v_row), some (oD eI v_number), none]) (.same (.same (.same (.same .nil))))
      unfold m_Run_asks_J1 at hw
      refine q_nx ?_
      refine q_seq ?_
      refine s_asgM (t := oD eP) hst hw ok (mv_guard fun g161 => mv_guard fun g162 => mv_ok (t := oD eP) ((ev_tupP (ea_cons (ev_asX g162 (ev_ixT (enc := eA) g161 (ev_var (i := 1) (by rfl)) ev_int)) (ea_cons (ev_var (i := 2) (by rfl)) ea_nil))))) (show 3 < 4 by decide) (ni _) ?_
      clear hst hw
      intro v_place σ H hw hst
      refine q_nx ?_
      refine q_seq ?_
      refine s_ifM hst hw ok (mt_ok (et_or (et_B (ev_tin (kq := kP) (enc := eI) (kvs := v_self.2.2.2.1) kP_inj (et_du (ev_obF (f := "given") (j := 3) (ev_var (i := 0) (by rfl)) (by rfl) tx.cl_Run tx.na_Run_given (lk_ix (by decide +kernel)))) (ev_var (i := 3) (by rfl)))) (et_B (ev_tin (kq := kP) (enc := eI) (kvs := v_self.2.2.2.2.1) kP_inj (et_du (ev_obF (f := "noted") (j := 4) (ev_var (i := 0) (by rfl)) (by rfl) tx.cl_Run tx.na_Run_noted (lk_ix (by decide +kernel)))) (ev_var (i := 3) (by rfl)))))) ?_ ?_
      · clear hst hw
        intro H hw hst
        exact s_retF (t := oD (eO eP)) hst hw ok (mv_ok (t := oD (eO eP)) (ev_non)) fun a v H w s => rt _ _ _ _ _ _ w s
      · clear hst hw
        intro H hw hst
        refine s_next ?_
        refine q_nx ?_
        exact s_retF (t := oD (eO eP)) hst hw ok (mv_ok (t := oD (eO eP)) ((ev_var (i := 3) (by rfl)))) fun a v H w s => rt _ _ _ _ _ _ w s
theorem bn_Run_straight (tx : Tx K mg) : Binds K tx.d_Run_straight ["self", "row", "worth"] [] := tx.F_Run_straight.bindsN fun _ _ _ _ _ _ us hl => match us, hl with | [_, _, _], _ => rfl
theorem ok_Run_straight (tx : Tx K mg) : FnOk P w K mg base (L2.CX P w) 3 tx.f_Run_straight tx.d_Run_straight ["self", "row", "worth"] (sp_Run_straight K tx.Ce) := by
  refine tx.F_Run_straight.ok sc_Run_straight (fun vs H Q E h => spF_len (n := 3) rfl vs H Q E h) (fun cdv A outer s H vs Q E hr h => ⟨_, (pss_cons (ps_set (i := 3) sc_Run_straight.nd rfl (by first | exact Or.inl rfl | exact Or.inr rfl) (pe_ix (r := rIxT K) ix_tup (pv 1) pe_int (fun _ _ => rfl))) (pss_one (ps_if (pt_cmpR op_eq (pv 3) pe_str (by first | exact nomark _ | rfl)) (pss_cons (ps_set (i := 4) sc_Run_straight.nd rfl (by first | exact Or.inl rfl | exact Or.inr rfl) (pe_tup (pa_cons (pe_ix (r := rIxT K) ix_tup (pv 1) pe_int (fun _ _ => rfl)) (pa_cons (pe_callS (E := WE (fun cls d _ H => E cls d H)) (ok_reckoned tx) (hr.mono (by decide)) (by rfl) tx.g_reckoned tx.F_reckoned.kp (bn_reckoned tx) (fun σ => passAt (takes_of rfl rfl rfl rfl) σ) (pa_cons (pe_ix (r := rIxT K) ix_tup (pv 1) pe_int (fun _ _ => rfl)) (pa_cons (pe_fldK (K := K) (pv 0) (by rfl)) pa_nil))) pa_nil)))) (pss_one (ps_if (pt_cmp (pc_din (hu_of hr) (pv 4) (pe_fldK (K := K) (pv 0) (by rfl)))) (pss_one (ps_dput (hu_of hr) (pe_fldK (K := K) (pv 0) (by rfl)) (pe_ix (r := rIxT K) ix_tup (pv 1) pe_int (fun _ _ => rfl)) (pe_dget (hu_of hr) (pe_fldK (K := K) (pv 0) (by rfl)) (pv 4) (fun _ _ => rfl)) rfl)) (pss_one (ps_dput (hu_of hr) (pe_fldK (K := K) (pv 0) (by rfl)) (pe_ix (r := rIxT K) ix_tup (pv 1) pe_int (fun _ _ => rfl)) (pe_dsetdT (hu_of hr) (pe_fldK (K := K) (pv 0) (by rfl)) (pv 4) (pv 2) (by exact ⟨rfl, rfl, rfl, rfl⟩)) rfl))))) (pss_one (ps_if (pt_cmpR op_eq (pv 3) pe_str (by first | exact nomark _ | rfl)) (pss_cons (ps_set (i := 4) sc_Run_straight.nd rfl (by first | exact Or.inl rfl | exact Or.inr rfl) (pe_tup (pa_cons (pe_ix (r := rIxT K) ix_tup (pv 1) pe_int (fun _ _ => rfl)) (pa_cons (pe_callS (E := WE (fun cls d _ H => E cls d H)) (ok_reckoned tx) (hr.mono (by decide)) (by rfl) tx.g_reckoned tx.F_reckoned.kp (bn_reckoned tx) (fun σ => passAt (takes_of rfl rfl rfl rfl) σ) (pa_cons (pe_ix (r := rIxT K) ix_tup (pv 1) pe_int (fun _ _ => rfl)) (pa_cons (pe_fldK (K := K) (pv 0) (by rfl)) pa_nil))) pa_nil)))) (pss_one (ps_dput (hu_of hr) (pe_fldK (K := K) (pv 0) (by rfl)) (pv 4) (pe_callS (E := WE (fun cls d _ H => E cls d H)) (ok_reckoned tx) (hr.mono (by decide)) (by rfl) tx.g_reckoned tx.F_reckoned.kp (bn_reckoned tx) (fun σ => passAt (takes_of rfl rfl rfl rfl) σ) (pa_cons (pe_ix (r := rIxT K) ix_tup (pv 1) pe_int (fun _ _ => rfl)) (pa_cons (pe_fldK (K := K) (pv 0) (by rfl)) pa_nil))) rfl))) (pss_one (ps_if (pt_cmpR op_eq (pv 3) pe_str (by first | exact nomark _ | rfl)) (pss_one (ps_dput (hu_of hr) (pe_fldK (K := K) (pv 0) (by rfl)) (pe_ix (r := rIxT K) ix_tup (pv 1) pe_int (fun _ _ => rfl)) (pe_callS (E := WE (fun cls d _ H => E cls d H)) (ok_reckoned tx) (hr.mono (by decide)) (by rfl) tx.g_reckoned tx.F_reckoned.kp (bn_reckoned tx) (fun σ => passAt (takes_of rfl rfl rfl rfl) σ) (pa_cons (pe_ix (r := rIxT K) ix_tup (pv 1) pe_int (fun _ _ => rfl)) (pa_cons (pe_fldK (K := K) (pv 0) (by rfl)) pa_nil))) rfl)) (pss_one (ps_expr (pe_bm PySem.F.plainAttrs_list PySem.F.slot_list_append PySem.F.type_list_append mt_append (pe_fldK (K := K) (pv 0) (by rfl)) (pa_cons (pe_callS (E := WE (fun cls d _ H => E cls d H)) (ok_reckoned tx) (hr.mono (by decide)) (by rfl) tx.g_reckoned tx.F_reckoned.kp (bn_reckoned tx) (fun σ => passAt (takes_of rfl rfl rfl rfl) σ) (pa_cons (pe_ix (r := rIxT K) ix_tup (pv 1) pe_int (fun _ _ => rfl)) (pa_cons (pe_fldK (K := K) (pv 0) (by rfl)) pa_nil))) pa_nil))))))))))), ?_⟩)
  obtain ⟨x, F, W, rfl, ni, hst, hw, ok, rt0⟩ := spF_start N_Run_straight (by decide) (by decide) h
  obtain ⟨z_self, v_row, v_worth⟩ := x
  generalize L2.start N_Run_straight vs = σ at hst ⊢
  have rt : ∀ a v T Γ σ H', W (.ok a) → (∃ Γ1, Tk Γ (List.map Ag.s [0]) [oOb_Run F.K a.2] Γ1) → Stt F Γ ((v, oD eN a.1) :: T) σ H' → Q v H' := fun a v T Γ σ H' w z s => rt0 a v T Γ _ σ H' w z.choose_spec s
  clear rt0
  have hw : W (m_Run_straight z_self v_row v_worth) := hw
  replace ok := ok [some (oOb_Run F.K z_self), none, none, none, none] _ (.s (by rfl) .nil)
  have hst : Stt F [some (oOb_Run F.K z_self), some (oD (eU eA) v_row), some (oD eI v_worth), none, none] [] σ H := hst
  unfold m_Run_straight at hw
  refine q_seq ?_
  refine s_asgM (t := oD eS) hst hw ok (mv_guard fun g166 => mv_guard fun g167 => mv_ok (t := oD eS) ((ev_asX g167 (ev_ixT (enc := eA) g166 (ev_var (i := 1) (by rfl)) ev_int)))) (show 3 < 5 by decide) (ni _ (by decide)) ?_
  clear hst hw
  intro v_word σ H hw hst
  refine q_nx ?_
  refine s_ifM hst hw ok (mt_ok (et_test (ev_eqX (ev_var (i := 3) (by rfl)) ev_lit))) ?_ ?_
  · clear hst hw
    intro H hw hst
    refine q_seq ?_
    refine s_asgM (t := oD eP) hst hw ok (mv_tupPd (f := fun (x172 : (Int × Unit)) => (Dt.asX (getI v_row (1 : Int)))) (g := fun (x172 : (Int × Unit)) => x172.1) (ma_guard fun g168 => (ma_guard fun g169 => (ma_consP (ev_asX g169 (ev_ixT (enc := eA) g168 (ev_var (i := 1) (by rfl)) ev_int)) (ma_consM (mv_guard fun g170 => (mv_guard fun g171 => (mv_callQ (enc := eI) (x := ((Dt.asU (getI v_row (2 : Int))), z_self.2.2.1)) (eaq_cons (eq_dat (ev_asU g171 (ev_ixT (enc := eA) g170 (ev_var (i := 1) (by rfl)) ev_int))) (eaq_cons (eq_lv rdo_oK (lv_fld (f := "slots") (j := 2) (lv_var (n := 0) (by rfl)) (by rfl) tx.cl_Run tx.na_Run_slots (lk_ix (by decide +kernel)))) eaq_nil)) rfl rfl (fun _ _ _ h => h) (.same (.drop (.drop (.drop (.same .nil))))) sc_I))) fun _ => (ma_ok (ds := fun _ => []) ea_nil))))) fun _ => rfl) (show 4 < 5 by decide) (ni _ (by decide)) ?_
    clear hst hw
    intro v_place σ H hw hst
    refine q_nx ?_
    refine s_ifJ (S := S_Run) (Γj := fun s173 => [some (oOb_Run F.K s173), none, none, none, none]) hst hw ok (mt_ok (et_B (ev_tin (kq := kP) (enc := eI) (kvs := z_self.2.2.2.1) kP_inj (et_lv (lv_fld (f := "given") (j := 3) (lv_var (n := 0) (by rfl)) (by rfl) tx.cl_Run tx.na_Run_given (lk_ix (by decide +kernel)))) (ev_var (i := 4) (by rfl))))) ?_ ?_ ?_
    · clear hst hw ok
      intro W174 hN175p H ok hw hst hN175
      obtain ⟨g177, hw⟩ := R.guard_ok ok hw
      obtain ⟨g178, hw⟩ := R.guard_ok ok hw
      refine s_lvPutK (kk := kS) (enc := eI) (kd := eS) (kvs := z_self.2.2.1) (fun _ _ => kS_inj.mp) (fun _ _ h => rp_str h) hst hw ok (lv_fld (f := "slots") (j := 2) (lv_var (n := 0) (by rfl)) (by rfl) tx.cl_Run tx.na_Run_slots (lk_ix (by decide +kernel))) (mv_guard fun g176 => mv_ok (t := oD eI) ((ev_tget (kq := kP) (enc := eI) (kvs := z_self.2.2.2.1) kP_inj g176 (et_lv (lv_fld (f := "given") (j := 3) (lv_var (n := 0) (by rfl)) (by rfl) tx.cl_Run tx.na_Run_given (lk_ix (by decide +kernel)))) (ev_var (i := 4) (by rfl))))) (ev_asX g178 (ev_ixT (enc := eA) g177 (ev_var (i := 1) (by rfl)) ev_int)) ?_
      clear hst hw
      intro v180 σ H hw hst
      have hst : Stt F [some (oOb_Run F.K (z_self.1, z_self.2.1, v180, z_self.2.2.2.1, z_self.2.2.2.2.1, z_self.2.2.2.2.2.1, z_self.2.2.2.2.2.2)), some (oD (eU eA) v_row), some (oD eI v_worth), some (oD eS v_word), some (oD eP v_place)] [] σ H := hst
      obtain ⟨v_self, hw, hst⟩ := nm (P := fun v_self => Stt F [some (oOb_Run F.K v_self), some (oD (eU eA) v_row), some (oD eI v_worth), some (oD eS v_word), some (oD eP v_place)] [] σ H) hw hst
      exact hN175 v_self _ _ hw (hst.weak (.same (.drop (.drop (.drop (.drop .nil))))))
    · clear hst hw ok
      intro W174 hN175p H ok hw hst hN175
      obtain ⟨g183, hw⟩ := R.guard_ok ok hw
      obtain ⟨g184, hw⟩ := R.guard_ok ok hw
      refine s_lvPutKX (kk := kS) (enc := eI) (kd := eS) (f := fun (a181 : (Int × (List ((List Nat × Int) × Int)))) => a181.1) (Γ1 := fun (a181 : (Int × (List ((List Nat × Int) × Int)))) => [some (oOb_Run F.K (z_self.1, z_self.2.1, z_self.2.2.1, z_self.2.2.2.1, a181.2, z_self.2.2.2.2.2.1, z_self.2.2.2.2.2.2)), some (oD (eU eA) v_row), some (oD eI v_worth), some (oD eS v_word), some (oD eP v_place)]) (kvs := fun (a181 : (Int × (List ((List Nat × Int) × Int)))) => (z_self.1, z_self.2.1, z_self.2.2.1, z_self.2.2.2.1, a181.2, z_self.2.2.2.2.2.1, z_self.2.2.2.2.2.2).2.2.1) (fun _ _ => kS_inj.mp) (fun _ _ h => rp_str h) hst hw ok (by exact (mx_setdT (F := F) (Γ := [some (oOb_Run F.K z_self), some (oD (eU eA) v_row), some (oD eI v_worth), some (oD eS v_word), some (oD eP v_place)]) (kq := kP) (enc := eI) (kvs := z_self.2.2.2.2.1) kP_inj (lv_fld (f := "noted") (j := 4) (lv_var (n := 0) (by rfl)) (by rfl) tx.cl_Run tx.na_Run_noted (lk_ix (by decide +kernel))) (ev_var (i := 4) (by rfl)) (ev_var (i := 2) (by rfl)))) (fun a181 => (lv_fld (f := "slots") (j := 2) (lv_var (n := 0) (by rfl)) (by rfl) tx.cl_Run tx.na_Run_slots (lk_ix (by decide +kernel)))) (fun a181 => (ev_asX g184 (ev_ixT (enc := eA) g183 (ev_var (i := 1) (by rfl)) ev_int))) ?_
      clear hst hw
      intro a181 v182 σ H hw hst
      have hst : Stt F [some (oOb_Run F.K ((z_self.1, z_self.2.1, z_self.2.2.1, z_self.2.2.2.1, a181.2, z_self.2.2.2.2.2.1, z_self.2.2.2.2.2.2).1, (z_self.1, z_self.2.1, z_self.2.2.1, z_self.2.2.2.1, a181.2, z_self.2.2.2.2.2.1, z_self.2.2.2.2.2.2).2.1, v182, (z_self.1, z_self.2.1, z_self.2.2.1, z_self.2.2.2.1, a181.2, z_self.2.2.2.2.2.1, z_self.2.2.2.2.2.2).2.2.2.1, (z_self.1, z_self.2.1, z_self.2.2.1, z_self.2.2.2.1, a181.2, z_self.2.2.2.2.2.1, z_self.2.2.2.2.2.2).2.2.2.2.1, (z_self.1, z_self.2.1, z_self.2.2.1, z_self.2.2.2.1, a181.2, z_self.2.2.2.2.2.1, z_self.2.2.2.2.2.2).2.2.2.2.2.1, (z_self.1, z_self.2.1, z_self.2.2.1, z_self.2.2.2.1, a181.2, z_self.2.2.2.2.2.1, z_self.2.2.2.2.2.2).2.2.2.2.2.2)), some (oD (eU eA) v_row), some (oD eI v_worth), some (oD eS v_word), some (oD eP v_place)] [] σ H := hst
      obtain ⟨v_self, hw, hst⟩ := nm (P := fun v_self => Stt F [some (oOb_Run F.K v_self), some (oD (eU eA) v_row), some (oD eI v_worth), some (oD eS v_word), some (oD eP v_place)] [] σ H) hw hst
      exact hN175 v_self _ _ hw (hst.weak (.same (.drop (.drop (.drop (.drop .nil))))))
    · clear hst hw
      intro v_self σ H hw hst
      have hw : W (m_Run_straight_J1 v_self) := hw
      have hst : Stt F [some (oOb_Run F.K v_self), none, none, none, none] [] σ H := hst
      replace hst := hst.weak (Γ' := [some (oOb_Run F.K v_self), none, none, none, none]) (.same (.same (.same (.same (.same .nil)))))
      unfold m_Run_straight_J1 at hw
      exact rt _ _ _ _ _ _ hw ⟨_, (.s (by rfl) .nil)⟩ (hst.push fun _ _ => by unfold Rp; rfl)
  · clear hst hw
    intro H hw hst
    refine s_ifJ (S := S_Run) (Γj := fun s185 => [some (oOb_Run F.K s185), none, none, none, none]) hst hw ok (mt_ok (et_test (ev_eqX (ev_var (i := 3) (by rfl)) ev_lit))) ?_ ?_ ?_
    · clear hst hw ok
      intro W186 hN187p H ok hw hst hN187
      refine q_seq ?_
      refine s_asgM (t := oD eP) hst hw ok (mv_tupPd (f := fun (x192 : (Int × Unit)) => (Dt.asX (getI v_row (1 : Int)))) (g := fun (x192 : (Int × Unit)) => x192.1) (ma_guard fun g188 => (ma_guard fun g189 => (ma_consP (ev_asX g189 (ev_ixT (enc := eA) g188 (ev_var (i := 1) (by rfl)) ev_int)) (ma_consM (mv_guard fun g190 => (mv_guard fun g191 => (mv_callQ (enc := eI) (x := ((Dt.asU (getI v_row (2 : Int))), z_self.2.2.1)) (eaq_cons (eq_dat (ev_asU g191 (ev_ixT (enc := eA) g190 (ev_var (i := 1) (by rfl)) ev_int))) (eaq_cons (eq_lv rdo_oK (lv_fld (f := "slots") (j := 2) (lv_var (n := 0) (by rfl)) (by rfl) tx.cl_Run tx.na_Run_slots (lk_ix (by decide +kernel)))) eaq_nil)) rfl rfl (fun _ _ _ h => h) (.same (.drop (.drop (.drop (.same .nil))))) sc_I))) fun _ => (ma_ok (ds := fun _ => []) ea_nil))))) fun _ => rfl) (show 4 < 5 by decide) (ni _ (by decide)) ?_
      clear hst hw
      intro v_place σ H hw hst
      refine q_nx ?_
      refine s_lvPutT (kq := kP) (enc := eI) (kvs := z_self.2.2.2.1) kP_inj hst hw ok (lv_fld (f := "given") (j := 3) (lv_var (n := 0) (by rfl)) (by rfl) tx.cl_Run tx.na_Run_given (lk_ix (by decide +kernel))) (mv_guard fun g193 => (mv_guard fun g194 => (mv_callQ (enc := eI) (x := ((Dt.asU (getI v_row (3 : Int))), z_self.2.2.1)) (eaq_cons (eq_dat (ev_asU g194 (ev_ixT (enc := eA) g193 (ev_var (i := 1) (by rfl)) ev_int))) (eaq_cons (eq_lv rdo_oK (lv_fld (f := "slots") (j := 2) (lv_var (n := 0) (by rfl)) (by rfl) tx.cl_Run tx.na_Run_slots (lk_ix (by decide +kernel)))) eaq_nil)) rfl rfl (fun _ _ _ h => h) (.same (.drop (.drop (.drop (.drop .nil))))) sc_I))) (ev_var (i := 4) (by rfl)) ?_
      clear hst hw
      intro v196 σ H hw hst
      have hst : Stt F [some (oOb_Run F.K (z_self.1, z_self.2.1, z_self.2.2.1, v196, z_self.2.2.2.2.1, z_self.2.2.2.2.2.1, z_self.2.2.2.2.2.2)), some (oD (eU eA) v_row), some (oD eI v_worth), some (oD eS v_word), some (oD eP v_place)] [] σ H := hst
      obtain ⟨v_self, hw, hst⟩ := nm (P := fun v_self => Stt F [some (oOb_Run F.K v_self), some (oD (eU eA) v_row), some (oD eI v_worth), some (oD eS v_word), some (oD eP v_place)] [] σ H) hw hst
      exact hN187 v_self _ _ hw (hst.weak (.same (.drop (.drop (.drop (.drop .nil))))))
    · clear hst hw ok
      intro W186 hN187p H ok hw hst hN187
      refine s_ifM hst hw ok (mt_ok (et_test (ev_eqX (ev_var (i := 3) (by rfl)) ev_lit))) ?_ ?_
      · clear hst hw
        intro H hw hst
        obtain ⟨g199, hw⟩ := R.guard_ok ok hw
        obtain ⟨g200, hw⟩ := R.guard_ok ok hw
        refine s_lvPutK (kk := kS) (enc := eI) (kd := eS) (kvs := z_self.2.2.1) (fun _ _ => kS_inj.mp) (fun _ _ h => rp_str h) hst hw ok (lv_fld (f := "slots") (j := 2) (lv_var (n := 0) (by rfl)) (by rfl) tx.cl_Run tx.na_Run_slots (lk_ix (by decide +kernel))) (mv_guard fun g197 => (mv_guard fun g198 => (mv_callQ (enc := eI) (x := ((Dt.asU (getI v_row (2 : Int))), z_self.2.2.1)) (eaq_cons (eq_dat (ev_asU g198 (ev_ixT (enc := eA) g197 (ev_var (i := 1) (by rfl)) ev_int))) (eaq_cons (eq_lv rdo_oK (lv_fld (f := "slots") (j := 2) (lv_var (n := 0) (by rfl)) (by rfl) tx.cl_Run tx.na_Run_slots (lk_ix (by decide +kernel)))) eaq_nil)) rfl rfl (fun _ _ _ h => h) (.same (.drop (.drop (.drop (.same .nil))))) sc_I))) (ev_asX g200 (ev_ixT (enc := eA) g199 (ev_var (i := 1) (by rfl)) ev_int)) ?_
        clear hst hw
        intro v202 σ H hw hst
        have hst : Stt F [some (oOb_Run F.K (z_self.1, z_self.2.1, v202, z_self.2.2.2.1, z_self.2.2.2.2.1, z_self.2.2.2.2.2.1, z_self.2.2.2.2.2.2)), some (oD (eU eA) v_row), some (oD eI v_worth), some (oD eS v_word), none] [] σ H := hst
        obtain ⟨v_self, hw, hst⟩ := nm (P := fun v_self => Stt F [some (oOb_Run F.K v_self), some (oD (eU eA) v_row), some (oD eI v_worth), some (oD eS v_word), none] [] σ H) hw hst
        exact hN187 v_self _ _ hw (hst.weak (.same (.drop (.drop (.drop (.same .nil))))))
      · clear hst hw
        intro H hw hst
        refine s_lvApp (enc := eI) (ys := z_self.2.2.2.2.2.1) hst hw ok (lv_fld (f := "sayings") (j := 5) (lv_var (n := 0) (by rfl)) (by rfl) tx.cl_Run tx.na_Run_sayings (lk_ix (by decide +kernel))) (mv_guard fun g205 => (mv_guard fun g206 => (mv_callQ (enc := eI) (x := ((Dt.asU (getI v_row (1 : Int))), z_self.2.2.1)) (eaq_cons (eq_dat (ev_asU g206 (ev_ixT (enc := eA) g205 (ev_var (i := 1) (by rfl)) ev_int))) (eaq_cons (eq_lv rdo_oK (lv_fld (f := "slots") (j := 2) (lv_var (n := 0) (by rfl)) (by rfl) tx.cl_Run tx.na_Run_slots (lk_ix (by decide +kernel)))) eaq_nil)) rfl rfl (fun _ _ _ h => h) (.same (.drop (.drop (.drop (.same .nil))))) sc_I))) ?_
        clear hst hw
        intro v203 σ H hw hst
        have hst : Stt F [some (oOb_Run F.K (z_self.1, z_self.2.1, z_self.2.2.1, z_self.2.2.2.1, z_self.2.2.2.2.1, v203, z_self.2.2.2.2.2.2)), some (oD (eU eA) v_row), some (oD eI v_worth), some (oD eS v_word), none] [] σ H := hst
        obtain ⟨v_self, hw, hst⟩ := nm (P := fun v_self => Stt F [some (oOb_Run F.K v_self), some (oD (eU eA) v_row), some (oD eI v_worth), some (oD eS v_word), none] [] σ H) hw hst
        exact hN187 v_self _ _ hw (hst.weak (.same (.drop (.drop (.drop (.same .nil))))))
    · clear hst hw
      intro v_self σ H hw hst
      have hw : W (m_Run_straight_J2 v_self) := hw
      have hst : Stt F [some (oOb_Run F.K v_self), none, none, none, none] [] σ H := hst
      replace hst := hst.weak (Γ' := [some (oOb_Run F.K v_self), none, none, none, none]) (.same (.same (.same (.same (.same .nil)))))
      unfold m_Run_straight_J2 at hw
      exact rt _ _ _ _ _ _ hw ⟨_, (.s (by rfl) .nil)⟩ (hst.push fun _ _ => by unfold Rp; rfl)
theorem bn_law_spot (tx : Tx K mg) : Binds K tx.d_law_spot ["cell", "slots"] [] := tx.F_law_spot.bindsN fun _ _ _ _ _ _ us hl => match us, hl with | [_, _], _ => rfl
theorem ok_law_spot (tx : Tx K mg) : FnOk P w K mg base (L2.CX P w) 3 tx.f_law_spot tx.d_law_spot ["cell", "slots"] (sp_law_spot K tx.Ce) := by
  refine tx.F_law_spot.ok sc_law_spot (fun vs H Q E h => spF_len (n := 2) rfl vs H Q E h) (fun cdv A outer s H vs Q E hr h => ⟨_, (pss_cons (ps_set (i := 2) sc_law_spot.nd rfl (by first | exact Or.inl rfl | exact Or.inr rfl) (pe_op op_mod (pe_callS (E := WE (fun cls d _ H => E cls d H)) (ok_law_draw tx) (hr.mono (by decide)) (by rfl) tx.g_law_draw tx.F_law_draw.kp (bn_law_draw tx) (fun σ => passAt (takes_of rfl rfl rfl rfl) σ) (pa_cons (pv 0) (pa_cons pe_int pa_nil))) pe_int)) (pss_cons (ps_if (pt_cmpR op_eq (pv 2) pe_int (by first | exact nomark _ | rfl)) (pss_one (ps_ret (pe_tup (pa_cons (pe_ix (r := rIxL K) ix_list (pv 1) (pe_op op_mod (pe_callS (E := WE (fun cls d _ H => E cls d H)) (ok_law_draw tx) (hr.mono (by decide)) (by rfl) tx.g_law_draw tx.F_law_draw.kp (bn_law_draw tx) (fun σ => passAt (takes_of rfl rfl rfl rfl) σ) (pa_cons (pv 0) (pa_cons pe_int pa_nil))) pe_int) (fun _ _ => rfl)) pa_nil)))) pss_nil) (pss_cons (ps_if (pt_cmpR op_eq (pv 2) pe_int (by first | exact nomark _ | rfl)) (pss_one (ps_ret (pe_tup (pa_cons (pe_ix (r := rIxL K) ix_list (pv 1) (pe_op op_mod (pe_callS (E := WE (fun cls d _ H => E cls d H)) (ok_law_draw tx) (hr.mono (by decide)) (by rfl) tx.g_law_draw tx.F_law_draw.kp (bn_law_draw tx) (fun σ => passAt (takes_of rfl rfl rfl rfl) σ) (pa_cons (pv 0) (pa_cons pe_int pa_nil))) pe_int) (fun _ _ => rfl)) (pa_cons (pe_callS (E := WE (fun cls d _ H => E cls d H)) (ok_law_worth tx) (hr.mono (by decide)) (by rfl) tx.g_law_worth tx.F_law_worth.kp (bn_law_worth tx) (fun σ => passAt (takes_of rfl rfl rfl rfl) σ) (pa_cons (pv 0) (pa_cons pe_int pa_nil))) (pa_cons (pe_ix (r := rIxL K) ix_list (pe_lst (pa_cons pe_str (pa_cons pe_str pa_nil))) (pe_op op_mod (pe_callS (E := WE (fun cls d _ H => E cls d H)) (ok_law_draw tx) (hr.mono (by decide)) (by rfl) tx.g_law_draw tx.F_law_draw.kp (bn_law_draw tx) (fun σ => passAt (takes_of rfl rfl rfl rfl) σ) (pa_cons (pv 0) (pa_cons pe_int pa_nil))) pe_int) (fun _ _ => rfl)) pa_nil)))))) pss_nil) (pss_one (ps_ret (pe_tup (pa_cons (pe_op op_sub (pe_op op_mod (pe_callS (E := WE (fun cls d _ H => E cls d H)) (ok_law_draw tx) (hr.mono (by decide)) (by rfl) tx.g_law_draw tx.F_law_draw.kp (bn_law_draw tx) (fun σ => passAt (takes_of rfl rfl rfl rfl) σ) (pa_cons (pv 0) (pa_cons pe_int pa_nil))) pe_int) pe_int) pa_nil))))))), ?_⟩)
  obtain ⟨x, F, W, rfl, ni, hst, hw, ok, rt⟩ := spD_start N_law_spot h
  obtain ⟨v_cell, v_slots⟩ := x
  generalize L2.start N_law_spot vs = σ at hst ⊢
  have hw : W (m_law_spot v_cell v_slots) := hw
  replace ok := ok (List.replicate 3 none)
  have hst : Stt F [some (oD eI v_cell), some (oD (eL eS) v_slots), none] [] σ H := hst
  unfold m_law_spot at hw
  refine q_seq ?_
  refine s_asgM (t := oD eI) hst hw ok (mv_op (mv_callP (x := (v_cell, (20 : Int))) (ea_cons (ev_var (i := 0) (by rfl)) (ea_cons ev_int ea_nil)) rfl rfl (fun _ _ _ h => h) (wkN (by rfl))) (fun _ => (mv_ok (t := oD eI) (ev_int))) fun _ _ => om_guard fun g209 => om_ok (op2_I (C := fun _ j => 0 < j) (g := fun i j => i % j) g209)) (show 2 < 3 by decide) (ni _) ?_
  clear hst hw
  intro v_way σ H hw hst
  refine q_nx ?_
  refine q_seq ?_
  refine s_ifM hst hw ok (mt_ok (et_test (ev_eqI (ev_var (i := 2) (by rfl)) ev_int))) ?_ ?_
  · clear hst hw
    intro H hw hst
    exact s_retF (t := oD (eU eA)) hst hw ok (mv_map (f := fun (x215 : (Dt × Unit)) => ([x215.1] : (List Dt))) (mv_tup (ma_consM (mv_map (f := fun a => eS a) (ml_ix (enc := eS) (ml_ok (enc := eS) ((el_dat (ev_var (i := 1) (by rfl))))) (mv_op (mv_callP (x := (v_cell, (21 : Int))) (ea_cons (ev_var (i := 0) (by rfl)) (ea_cons ev_int ea_nil)) rfl rfl (fun _ _ _ h => h) (wkN (by rfl))) (fun _ => (mv_ok (t := oD eI) (ev_int))) fun _ _ => om_guard fun g212 => om_ok (op2_I (C := fun _ j => 0 < j) (g := fun i j => i % j) g212))) fun _ => rfl) fun _ => (ma_ok (ds := fun _ => []) ea_nil)) fun _ => (show 1 ≤ 1000 by decide)) fun _ => rfl) fun a v H w s => rt _ _ _ _ _ _ w s
  · clear hst hw
    intro H hw hst
    refine s_next ?_
    refine q_nx ?_
    refine q_seq ?_
    refine s_ifM hst hw ok (mt_ok (et_test (ev_eqI (ev_var (i := 2) (by rfl)) ev_int))) ?_ ?_
    · clear hst hw
      intro H hw hst
      exact s_retF (t := oD (eU eA)) hst hw ok (mv_map (f := fun (x226 : (Dt × (Dt × (Dt × Unit)))) => ([x226.1, x226.2.1, x226.2.2.1] : (List Dt))) (mv_tup (ma_consM (mv_map (f := fun a => eS a) (ml_ix (enc := eS) (ml_ok (enc := eS) ((el_dat (ev_var (i := 1) (by rfl))))) (mv_op (mv_callP (x := (v_cell, (21 : Int))) (ea_cons (ev_var (i := 0) (by rfl)) (ea_cons ev_int ea_nil)) rfl rfl (fun _ _ _ h => h) (wkN (by rfl))) (fun _ => (mv_ok (t := oD eI) (ev_int))) fun _ _ => om_guard fun g218 => om_ok (op2_I (C := fun _ j => 0 < j) (g := fun i j => i % j) g218))) fun _ => rfl) fun _ => (ma_consM (mv_map (f := fun a => eI a) (mv_callP (x := (v_cell, (22 : Int))) (ea_cons (ev_var (i := 0) (by rfl)) (ea_cons ev_int ea_nil)) rfl rfl (fun _ _ _ h => h) (wkN (by rfl))) fun _ => rfl) fun _ => (ma_consM (mv_map (f := fun a => eS a) (ml_ix (enc := eS) (ml_ok (enc := eS) ((el_own (ev_lst (ea_cons ev_lit (ea_cons ev_lit ea_nil)) (show 2 ≤ 1000 by decide))))) (mv_op (mv_callP (x := (v_cell, (24 : Int))) (ea_cons (ev_var (i := 0) (by rfl)) (ea_cons ev_int ea_nil)) rfl rfl (fun _ _ _ h => h) (wkN (by rfl))) (fun _ => (mv_ok (t := oD eI) (ev_int))) fun _ _ => om_guard fun g223 => om_ok (op2_I (C := fun _ j => 0 < j) (g := fun i j => i % j) g223))) fun _ => rfl) fun _ => (ma_ok (ds := fun _ => []) ea_nil)))) fun _ => (show 3 ≤ 1000 by decide)) fun _ => rfl) fun a v H w s => rt _ _ _ _ _ _ w s
    · clear hst hw
      intro H hw hst
      refine s_next ?_
      refine q_nx ?_
      exact s_retF (t := oD (eU eA)) hst hw ok (mv_map (f := fun (x232 : (Dt × Unit)) => ([x232.1] : (List Dt))) (mv_tup (ma_consM (mv_map (f := fun a => eI a) (mv_op (mv_op (mv_callP (x := (v_cell, (25 : Int))) (ea_cons (ev_var (i := 0) (by rfl)) (ea_cons ev_int ea_nil)) rfl rfl (fun _ _ _ h => h) (wkN (by rfl))) (fun _ => (mv_ok (t := oD eI) (ev_int))) fun _ _ => om_guard fun g229 => om_ok (op2_I (C := fun _ j => 0 < j) (g := fun i j => i % j) g229)) (fun _ => (mv_ok (t := oD eI) (ev_int))) fun _ _ => om_ok (op2_I0 (g := fun i j => i - j) )) fun _ => rfl) fun _ => (ma_ok (ds := fun _ => []) ea_nil)) fun _ => (show 1 ≤ 1000 by decide)) fun _ => rfl) fun a v H w s => rt _ _ _ _ _ _ w s
theorem bn_Run_behind (tx : Tx K mg) : Binds K tx.d_Run_behind ["self", "row", "worth"] [] := tx.F_Run_behind.bindsN fun _ _ _ _ _ _ us hl => match us, hl with | [_, _, _], _ => rfl
theorem ok_Run_behind (tx : Tx K mg) : FnOk P w K mg base (L2.CX P w) 4 tx.f_Run_behind tx.d_Run_behind ["self", "row", "worth"] (sp_Run_behind K tx.Ce) := by
  refine tx.F_Run_behind.ok sc_Run_behind (fun vs H Q E h => spF_len (n := 3) rfl vs H Q E h) (fun cdv A outer s H vs Q E hr h => ⟨_, (pss_cons (ps_set (i := 3) sc_Run_behind.nd rfl (by first | exact Or.inl rfl | exact Or.inr rfl) (pe_ix (r := rIxT K) ix_tup (pv 1) pe_int (fun _ _ => rfl))) (pss_cons (ps_if (pt_cmpR op_eq (pv 3) pe_str (by first | exact nomark _ | rfl)) (pss_one (ps_ret (pe_ix (r := rIxT K) ix_tup (pv 1) pe_int (fun _ _ => rfl)))) pss_nil) (pss_cons (ps_if (pt_cmpR op_eq (pv 3) pe_str (by first | exact nomark _ | rfl)) (pss_one (ps_if (pt_cmpR op_eq (pe_callS (E := WE (fun cls d _ H => E cls d H)) (ok_reckoned tx) (hr.mono (by decide)) (by rfl) tx.g_reckoned tx.F_reckoned.kp (bn_reckoned tx) (fun σ => passAt (takes_of rfl rfl rfl rfl) σ) (pa_cons (pe_ix (r := rIxT K) ix_tup (pv 1) pe_int (fun _ _ => rfl)) (pa_cons (pe_fldK (K := K) (pv 0) (by rfl)) pa_nil))) pe_int (by first | exact nomark _ | rfl)) (pss_one (ps_ret (pe_ix (r := rIxT K) ix_tup (pv 1) pe_int (fun _ _ => rfl)))) pss_nil)) (pss_one (ps_if (pt_cmpR op_eq (pv 3) pe_str (by first | exact nomark _ | rfl)) (pss_one (ps_if (pt_cmpR op_ne (pe_callS (E := WE (fun cls d _ H => E cls d H)) (ok_reckoned tx) (hr.mono (by decide)) (by rfl) tx.g_reckoned tx.F_reckoned.kp (bn_reckoned tx) (fun σ => passAt (takes_of rfl rfl rfl rfl) σ) (pa_cons (pe_ix (r := rIxT K) ix_tup (pv 1) pe_int (fun _ _ => rfl)) (pa_cons (pe_fldK (K := K) (pv 0) (by rfl)) pa_nil))) pe_int (by first | exact nomark _ | rfl)) (pss_one (ps_fldK (K := K) (pv 0) pe_str rfl)) pss_nil)) (pss_one (ps_expr (pe_methP (E := WE (fun cls d _ H => E cls d H)) (pv 0) tx.cl_Run tx.g_Run_straight (ok_Run_straight tx) (hr.mono (by decide)) (bn_Run_straight tx) (fun σ => passAt (takes_of rfl rfl rfl rfl) σ) (pa_cons (pv 1) (pa_cons (pv 2) pa_nil)))))))) (pss_one (ps_ret (pe_op op_add (pe_fldK (K := K) (pv 0) (by rfl)) pe_int)))))), ?_⟩)
  obtain ⟨x, F, W, rfl, ni, hst, hw, ok, rt0⟩ := spF_start N_Run_behind (by decide) (by decide) h
  obtain ⟨z_self, v_row, v_worth⟩ := x
  generalize L2.start N_Run_behind vs = σ at hst ⊢
  have rt : ∀ a v T Γ σ H', W (.ok a) → (∃ Γ1, Tk Γ (List.map Ag.s [0]) [oOb_Run F.K a.2] Γ1) → Stt F Γ ((v, oD eI a.1) :: T) σ H' → Q v H' := fun a v T Γ σ H' w z s => rt0 a v T Γ _ σ H' w z.choose_spec s
  clear rt0
  have hw : W (m_Run_behind z_self v_row v_worth) := hw
  replace ok := ok [some (oOb_Run F.K z_self), none, none, none] _ (.s (by rfl) .nil)
  have hst : Stt F [some (oOb_Run F.K z_self), some (oD (eU eA) v_row), some (oD eI v_worth), none] [] σ H := hst
  unfold m_Run_behind at hw
  refine q_seq ?_
  refine s_asgM (t := oD eS) hst hw ok (mv_guard fun g233 => mv_guard fun g234 => mv_ok (t := oD eS) ((ev_asX g234 (ev_ixT (enc := eA) g233 (ev_var (i := 1) (by rfl)) ev_int)))) (show 3 < 4 by decide) (ni _ (by decide)) ?_
  clear hst hw
  intro v_word σ H hw hst
  refine q_nx ?_
  refine q_seq ?_
  refine s_ifM hst hw ok (mt_ok (et_test (ev_eqX (ev_var (i := 3) (by rfl)) ev_lit))) ?_ ?_
  · clear hst hw
    intro H hw hst
    exact s_retM (t := oD eI) hst hw ok (mv_guard fun g235 => mv_guard fun g236 => mv_ok (t := oD eI) ((ev_asI g236 (ev_ixT (enc := eA) g235 (ev_var (i := 1) (by rfl)) ev_int)))) fun a v H w s => rt _ _ _ _ _ _ w ⟨_, (.s (by rfl) .nil)⟩ s
  · clear hst hw
    intro H hw hst
    refine s_next ?_
    refine q_nx ?_
    refine q_seq ?_
    refine s_ifC (S := S_Run) (β := (Int × S_Run)) (Γj := fun s238 => [some (oOb_Run F.K s238), some (oD (eU eA) v_row), some (oD eI v_worth), some (oD eS v_word)]) hst hw ok (mt_ok (et_test (ev_eqX (ev_var (i := 3) (by rfl)) ev_lit))) ?_ ?_ ?_
    · clear hst hw ok
      intro W239 hN240p H ok r260 hw hst hN240
      have rt241 := fun a v T Γ σ H' w z s => rt a v T Γ σ H' (r260 a w) z s
      refine s_ifM hst hw ok (mt_test (mv_op (mv_guard fun g242 => (mv_guard fun g243 => (mv_callQ (enc := eI) (x := ((Dt.asU (getI v_row (1 : Int))), z_self.2.2.1)) (eaq_cons (eq_dat (ev_asU g243 (ev_ixT (enc := eA) g242 (ev_var (i := 1) (by rfl)) ev_int))) (eaq_cons (eq_lv rdo_oK (lv_fld (f := "slots") (j := 2) (lv_var (n := 0) (by rfl)) (by rfl) tx.cl_Run tx.na_Run_slots (lk_ix (by decide +kernel)))) eaq_nil)) rfl rfl (fun _ _ _ h => h) (.same (.drop (.drop (.drop .nil)))) sc_I))) (fun _ => (mv_ok (t := oD eI) (ev_int))) fun _ _ => om_ok (op2_eqI))) ?_ ?_
      · clear hst hw
        intro H hw hst
        exact s_retM (t := oD eI) hst hw ok (mv_guard fun g246 => mv_guard fun g247 => mv_ok (t := oD eI) ((ev_asI g247 (ev_ixT (enc := eA) g246 (ev_var (i := 1) (by rfl)) ev_int)))) fun a v H w s => rt241 _ _ _ _ _ _ w ⟨_, (.s (by rfl) .nil)⟩ s
      · clear hst hw
        intro H hw hst
        refine s_next ?_
        exact hN240 z_self _ _ hw (hst.weak (.same (.same (.same (.same .nil)))))
    · clear hst hw ok
      intro W239 hN240p H ok r260 hw hst hN240
      have rt241 := fun a v T Γ σ H' w z s => rt a v T Γ σ H' (r260 a w) z s
      refine s_ifM hst hw ok (mt_ok (et_test (ev_eqX (ev_var (i := 3) (by rfl)) ev_lit))) ?_ ?_
      · clear hst hw
        intro H hw hst
        refine s_ifJ (S := S_Run) (Γj := fun s252 => [some (oOb_Run F.K s252), some (oD (eU eA) v_row), some (oD eI v_worth), some (oD eS v_word)]) hst hw ok (mt_test (mv_op (mv_guard fun g248 => (mv_guard fun g249 => (mv_callQ (enc := eI) (x := ((Dt.asU (getI v_row (1 : Int))), z_self.2.2.1)) (eaq_cons (eq_dat (ev_asU g249 (ev_ixT (enc := eA) g248 (ev_var (i := 1) (by rfl)) ev_int))) (eaq_cons (eq_lv rdo_oK (lv_fld (f := "slots") (j := 2) (lv_var (n := 0) (by rfl)) (by rfl) tx.cl_Run tx.na_Run_slots (lk_ix (by decide +kernel)))) eaq_nil)) rfl rfl (fun _ _ _ h => h) (.same (.drop (.drop (.drop .nil)))) sc_I))) (fun _ => (mv_ok (t := oD eI) (ev_int))) fun _ _ => om_ok (op2_neI))) ?_ ?_ ?_
        · clear hst hw ok
          intro W253 hN254p H ok hw hst hN254
          refine s_fldSet (f := "broken") (j := 6) (t := fun (a255 : (List Nat)) => oD eS a255) hst hw ok (mx_v (mv_ok (t := oD eS) (ev_lit))) (fun a255 => (lv_var (n := 0) (by rfl))) tx.cl_Run tx.na_Run_broken (by decide) (fun _ => by show 6 < 7; decide) (put_ix (by decide +kernel)) ?_
          clear hst hw
          intro a255 σ H hw hst
          have hst : Stt F [some (oOb_Run F.K (z_self.1, z_self.2.1, z_self.2.2.1, z_self.2.2.2.1, z_self.2.2.2.2.1, z_self.2.2.2.2.2.1, a255)), some (oD (eU eA) v_row), some (oD eI v_worth), some (oD eS v_word)] [] σ H := hst
          obtain ⟨v_self, hw, hst⟩ := nm (P := fun v_self => Stt F [some (oOb_Run F.K v_self), some (oD (eU eA) v_row), some (oD eI v_worth), some (oD eS v_word)] [] σ H) hw hst
          exact hN254 v_self _ _ hw (hst.weak (.same (.same (.same (.same .nil)))))
        · clear hst hw ok
          intro W253 hN254p H ok hw hst hN254
          refine s_next ?_
          exact hN254 z_self _ _ hw (hst.weak (.same (.same (.same (.same .nil)))))
        · clear hst hw
          intro v_self σ H hw hst
          have hw : W239 (m_Run_behind_J1 v_self) := hw
          have hst : Stt F [some (oOb_Run F.K v_self), some (oD (eU eA) v_row), some (oD eI v_worth), some (oD eS v_word)] [] σ H := hst
          replace hst := hst.weak (Γ' := [some (oOb_Run F.K v_self), some (oD (eU eA) v_row), some (oD eI v_worth), some (oD eS v_word)]) (.same (.same (.same (.same .nil))))
          unfold m_Run_behind_J1 at hw
          exact hN240 v_self _ _ hw (hst.weak (.same (.same (.same (.same .nil)))))
      · clear hst hw
        intro H hw hst
        refine s_dropX3 hst hw ok (mx_methL (Γ' := fun (a257 : (Unit × S_Run)) => [some (oOb_Run F.K a257.2), some (oD (eU eA) v_row), some (oD eI v_worth), some (oD eS v_word)]) (Γk := fun _ => [some (oOb_Run F.K z_self), some (oD (eU eA) v_row), some (oD eI v_worth), some (oD eS v_word)]) (fun (x256 : Unit) => (z_self, v_row, v_worth)) (lv_var (n := 0) (by rfl)) (lk_none (by decide +kernel)) (mh_P (ev_var (i := 1) (by rfl)) (mh_P (ev_var (i := 2) (by rfl)) mh_nil)) (fun _ => (.p (loc_var (n := 0) (by rfl)) (.d (.d .nil)))) (fun _ => rfl) (fun _ => rfl) (by exact fun _ vs hl => match vs, hl with | [_, _, _], _ => by rfl) (fun _ => ⟨⟨_, (loc_var (n := 0) (by rfl))⟩, trivial⟩) (fun _ _ => (.cons (loc_var (n := 0) (by rfl)) .nil)) (fun _ => .inl ⟨(.cons (loc_var (n := 0) (by rfl)) .nil), (.same (.drop (.drop (.drop .nil))))⟩) (fun _ _ _ h => h)) ?_
        clear hst hw
        intro a258 σ H hw hst
        have hst : Stt F [some (oOb_Run F.K a258.2), some (oD (eU eA) v_row), some (oD eI v_worth), some (oD eS v_word)] [] σ H := hst
        obtain ⟨v_self, hw, hst⟩ := nm (P := fun v_self => Stt F [some (oOb_Run F.K v_self), some (oD (eU eA) v_row), some (oD eI v_worth), some (oD eS v_word)] [] σ H) hw hst
        exact hN240 v_self _ _ hw (hst.weak (.same (.same (.same (.same .nil)))))
    · clear hst hw
      intro v_self σ H hw hst
      have hw : W (m_Run_behind_J2 v_self) := hw
      have hst : Stt F [some (oOb_Run F.K v_self), some (oD (eU eA) v_row), some (oD eI v_worth), some (oD eS v_word)] [] σ H := hst
      replace hst := hst.weak (Γ' := [some (oOb_Run F.K v_self), none, none, none]) (.same (.drop (.drop (.drop .nil))))
      unfold m_Run_behind_J2 at hw
      refine q_nx ?_
      exact s_retM (t := oD eI) hst hw ok (mv_ok (t := oD eI) ((ev_add (ev_lv (lv_fld (f := "at") (j := 1) (lv_var (n := 0) (by rfl)) (by rfl) tx.cl_Run tx.na_Run_at (lk_ix (by decide +kernel)))) ev_int))) fun a v H w s => rt _ _ _ _ _ _ w ⟨_, (.s (by rfl) .nil)⟩ s
theorem bn_law_row (tx : Tx K mg) : Binds K tx.d_law_row ["cell", "slots", "shelves"] [] := tx.F_law_row.bindsN fun _ _ _ _ _ _ us hl => match us, hl with | [_, _, _], _ => rfl
theorem ok_law_row (tx : Tx K mg) : FnOk P w K mg base (L2.CX P w) 4 tx.f_law_row tx.d_law_row ["cell", "slots", "shelves"] (sp_law_row K tx.Ce) := by
  refine tx.F_law_row.ok sc_law_row (fun vs H Q E h => spF_len (n := 3) rfl vs H Q E h) (fun cdv A outer s H vs Q E hr h => ⟨_, (pss_cons (ps_set (i := 3) sc_law_row.nd rfl (by first | exact Or.inl rfl | exact Or.inr rfl) (pe_op op_mod (pe_callS (E := WE (fun cls d _ H => E cls d H)) (ok_law_draw tx) (hr.mono (by decide)) (by rfl) tx.g_law_draw tx.F_law_draw.kp (bn_law_draw tx) (fun σ => passAt (takes_of rfl rfl rfl rfl) σ) (pa_cons (pv 0) (pa_cons pe_int pa_nil))) pe_int)) (pss_cons (ps_set (i := 4) sc_law_row.nd rfl (by first | exact Or.inl rfl | exact Or.inr rfl) (pe_ix (r := rIxL K) ix_list (pv 2) (pe_op op_mod (pe_callS (E := WE (fun cls d _ H => E cls d H)) (ok_law_draw tx) (hr.mono (by decide)) (by rfl) tx.g_law_draw tx.F_law_draw.kp (bn_law_draw tx) (fun σ => passAt (takes_of rfl rfl rfl rfl) σ) (pa_cons (pv 0) (pa_cons pe_int pa_nil))) pe_int) (fun _ _ => rfl))) (pss_cons (ps_set (i := 5) sc_law_row.nd rfl (by first | exact Or.inl rfl | exact Or.inr rfl) (pe_ix (r := rIxL K) ix_list (pv 1) (pe_op op_mod (pe_callS (E := WE (fun cls d _ H => E cls d H)) (ok_law_draw tx) (hr.mono (by decide)) (by rfl) tx.g_law_draw tx.F_law_draw.kp (bn_law_draw tx) (fun σ => passAt (takes_of rfl rfl rfl rfl) σ) (pa_cons (pv 0) (pa_cons pe_int pa_nil))) pe_int) (fun _ _ => rfl))) (pss_cons (ps_if (pt_cmpR op_lt (pv 3) pe_int (by first | exact nomark _ | rfl)) (pss_one (ps_ret (pe_tup (pa_cons pe_str (pa_cons (pv 4) (pa_cons (pe_callS (E := WE (fun cls d _ H => E cls d H)) (ok_law_spot tx) (hr.mono (by decide)) (by rfl) tx.g_law_spot tx.F_law_spot.kp (bn_law_spot tx) (fun σ => passAt (takes_of rfl rfl rfl rfl) σ) (pa_cons (pv 0) (pa_cons (pv 1) pa_nil))) (pa_cons (pv 5) pa_nil))))))) pss_nil) (pss_cons (ps_if (pt_cmpR op_lt (pv 3) pe_int (by first | exact nomark _ | rfl)) (pss_one (ps_ret (pe_tup (pa_cons pe_str (pa_cons (pv 4) (pa_cons (pe_callS (E := WE (fun cls d _ H => E cls d H)) (ok_law_spot tx) (hr.mono (by decide)) (by rfl) tx.g_law_spot tx.F_law_spot.kp (bn_law_spot tx) (fun σ => passAt (takes_of rfl rfl rfl rfl) σ) (pa_cons (pv 0) (pa_cons (pv 1) pa_nil))) (pa_cons (pe_tup (pa_cons (pv 5) (pa_cons (pe_callS (E := WE (fun cls d _ H => E cls d H)) (ok_law_worth tx) (hr.mono (by decide)) (by rfl) tx.g_law_worth tx.F_law_worth.kp (bn_law_worth tx) (fun σ => passAt (takes_of rfl rfl rfl rfl) σ) (pa_cons (pv 0) (pa_cons pe_int pa_nil))) (pa_cons pe_str pa_nil)))) pa_nil))))))) pss_nil) (pss_cons (ps_if (pt_cmpR op_eq (pv 3) pe_int (by first | exact nomark _ | rfl)) (pss_one (ps_ret (pe_tup (pa_cons pe_str (pa_cons (pe_tup (pa_cons (pv 5) (pa_cons (pe_callS (E := WE (fun cls d _ H => E cls d H)) (ok_law_worth tx) (hr.mono (by decide)) (by rfl) tx.g_law_worth tx.F_law_worth.kp (bn_law_worth tx) (fun σ => passAt (takes_of rfl rfl rfl rfl) σ) (pa_cons (pv 0) (pa_cons pe_int pa_nil))) (pa_cons pe_str pa_nil)))) pa_nil))))) pss_nil) (pss_cons (ps_if (pt_cmpR op_eq (pv 3) pe_int (by first | exact nomark _ | rfl)) (pss_one (ps_ret (pe_tup (pa_cons pe_str (pa_cons (pv 5) (pa_cons (pe_tup (pa_cons (pe_callS (E := WE (fun cls d _ H => E cls d H)) (ok_law_worth tx) (hr.mono (by decide)) (by rfl) tx.g_law_worth tx.F_law_worth.kp (bn_law_worth tx) (fun σ => passAt (takes_of rfl rfl rfl rfl) σ) (pa_cons (pv 0) (pa_cons pe_int pa_nil))) pa_nil)) pa_nil)))))) pss_nil) (pss_one (ps_ret (pe_tup (pa_cons pe_str (pa_cons (pe_tup (pa_cons (pv 5) (pa_cons (pe_callS (E := WE (fun cls d _ H => E cls d H)) (ok_law_worth tx) (hr.mono (by decide)) (by rfl) tx.g_law_worth tx.F_law_worth.kp (bn_law_worth tx) (fun σ => passAt (takes_of rfl rfl rfl rfl) σ) (pa_cons (pv 0) (pa_cons pe_int pa_nil))) (pa_cons pe_str pa_nil)))) pa_nil)))))))))))), ?_⟩)
  obtain ⟨x, F, W, rfl, ni, hst, hw, ok, rt⟩ := spD_start N_law_row h
  obtain ⟨v_cell, v_slots, v_shelves⟩ := x
  generalize L2.start N_law_row vs = σ at hst ⊢
  have hw : W (m_law_row v_cell v_slots v_shelves) := hw
  replace ok := ok (List.replicate 6 none)
  have hst : Stt F [some (oD eI v_cell), some (oD (eL eS) v_slots), some (oD (eL eS) v_shelves), none, none, none] [] σ H := hst
  unfold m_law_row at hw
  refine q_seq ?_
  refine s_asgM (t := oD eI) hst hw ok (mv_op (mv_callP (x := (v_cell, (0 : Int))) (ea_cons (ev_var (i := 0) (by rfl)) (ea_cons ev_int ea_nil)) rfl rfl (fun _ _ _ h => h) (wkN (by rfl))) (fun _ => (mv_ok (t := oD eI) (ev_int))) fun _ _ => om_guard fun g263 => om_ok (op2_I (C := fun _ j => 0 < j) (g := fun i j => i % j) g263)) (show 3 < 6 by decide) (ni _) ?_
  clear hst hw
  intro v_kind σ H hw hst
  refine q_nx ?_
  refine q_seq ?_
  refine s_asgM (t := oD eS) hst hw ok (ml_ix (enc := eS) (ml_ok (enc := eS) ((el_dat (ev_var (i := 2) (by rfl))))) (mv_op (mv_callP (x := (v_cell, (60 : Int))) (ea_cons (ev_var (i := 0) (by rfl)) (ea_cons ev_int ea_nil)) rfl rfl (fun _ _ _ h => h) (wkN (by rfl))) (fun _ => (mv_ok (t := oD eI) (ev_int))) fun _ _ => om_guard fun g266 => om_ok (op2_I (C := fun _ j => 0 < j) (g := fun i j => i % j) g266))) (show 4 < 6 by decide) (ni _) ?_
  clear hst hw
  intro v_shelf σ H hw hst
  refine q_nx ?_
  refine q_seq ?_
  refine s_asgM (t := oD eS) hst hw ok (ml_ix (enc := eS) (ml_ok (enc := eS) ((el_dat (ev_var (i := 1) (by rfl))))) (mv_op (mv_callP (x := (v_cell, (61 : Int))) (ea_cons (ev_var (i := 0) (by rfl)) (ea_cons ev_int ea_nil)) rfl rfl (fun _ _ _ h => h) (wkN (by rfl))) (fun _ => (mv_ok (t := oD eI) (ev_int))) fun _ _ => om_guard fun g271 => om_ok (op2_I (C := fun _ j => 0 < j) (g := fun i j => i % j) g271))) (show 5 < 6 by decide) (ni _) ?_
  clear hst hw
  intro v_slot σ H hw hst
  refine q_nx ?_
  refine q_seq ?_
  refine s_ifM hst hw ok (mt_ok (et_test (ev_lt (ev_var (i := 3) (by rfl)) ev_int))) ?_ ?_
  · clear hst hw
    intro H hw hst
    exact s_retF (t := oD (eU eA)) hst hw ok (mv_map (f := fun (x274 : (Dt × Unit)) => ([(eS (lt "take")), (eS v_shelf), x274.1, (eS v_slot)] : (List Dt))) (mv_tup (ma_consP ev_lit (ma_consP (ev_var (i := 4) (by rfl)) (ma_consM (mv_map (f := fun a => (eU eA) a) (mv_callP (x := (v_cell, v_slots)) (ea_cons (ev_var (i := 0) (by rfl)) (ea_cons (ev_var (i := 1) (by rfl)) ea_nil)) rfl rfl (fun _ _ _ h => h) (wkN (by rfl))) fun _ => rfl) fun _ => (ma_consP (ev_var (i := 5) (by rfl)) (ma_ok (ds := fun _ => []) ea_nil))))) fun _ => (show 4 ≤ 1000 by decide)) fun _ => rfl) fun a v H w s => rt _ _ _ _ _ _ w s
  · clear hst hw
    intro H hw hst
    refine s_next ?_
    refine q_nx ?_
    refine q_seq ?_
    refine s_ifM hst hw ok (mt_ok (et_test (ev_lt (ev_var (i := 3) (by rfl)) ev_int))) ?_ ?_
    · clear hst hw
      intro H hw hst
      exact s_retF (t := oD (eU eA)) hst hw ok (mv_map (f := fun (x276 : (Dt × (Dt × Unit))) => ([(eS (lt "give")), (eS v_shelf), x276.1, x276.2.1] : (List Dt))) (mv_tup (ma_consP ev_lit (ma_consP (ev_var (i := 4) (by rfl)) (ma_consM (mv_map (f := fun a => (eU eA) a) (mv_callP (x := (v_cell, v_slots)) (ea_cons (ev_var (i := 0) (by rfl)) (ea_cons (ev_var (i := 1) (by rfl)) ea_nil)) rfl rfl (fun _ _ _ h => h) (wkN (by rfl))) fun _ => rfl) fun _ => (ma_consM (mv_map (f := fun a => (e3 eS eI eS) a) (mv_map (f := fun (x275 : (Int × Unit)) => (v_slot, x275.1, (lt "minus"))) (mv_tup (ma_consP (ev_var (i := 5) (by rfl)) (ma_consM (mv_callP (x := (v_cell, (30 : Int))) (ea_cons (ev_var (i := 0) (by rfl)) (ea_cons ev_int ea_nil)) rfl rfl (fun _ _ _ h => h) (wkN (by rfl))) fun _ => (ma_consP ev_lit (ma_ok (ds := fun _ => []) ea_nil)))) fun _ => (show 3 ≤ 1000 by decide)) fun _ => rfl) fun _ => rfl) fun _ => (ma_ok (ds := fun _ => []) ea_nil))))) fun _ => (show 4 ≤ 1000 by decide)) fun _ => rfl) fun a v H w s => rt _ _ _ _ _ _ w s
    · clear hst hw
      intro H hw hst
      refine s_next ?_
      refine q_nx ?_
      refine q_seq ?_
      refine s_ifM hst hw ok (mt_ok (et_test (ev_eqI (ev_var (i := 3) (by rfl)) ev_int))) ?_ ?_
      · clear hst hw
        intro H hw hst
        exact s_retF (t := oD (eU eA)) hst hw ok (mv_map (f := fun (x278 : (Dt × Unit)) => ([(eS (lt "off")), x278.1] : (List Dt))) (mv_tup (ma_consP ev_lit (ma_consM (mv_map (f := fun a => (e3 eS eI eS) a) (mv_map (f := fun (x277 : (Int × Unit)) => (v_slot, x277.1, (lt "same"))) (mv_tup (ma_consP (ev_var (i := 5) (by rfl)) (ma_consM (mv_callP (x := (v_cell, (31 : Int))) (ea_cons (ev_var (i := 0) (by rfl)) (ea_cons ev_int ea_nil)) rfl rfl (fun _ _ _ h => h) (wkN (by rfl))) fun _ => (ma_consP ev_lit (ma_ok (ds := fun _ => []) ea_nil)))) fun _ => (show 3 ≤ 1000 by decide)) fun _ => rfl) fun _ => rfl) fun _ => (ma_ok (ds := fun _ => []) ea_nil))) fun _ => (show 2 ≤ 1000 by decide)) fun _ => rfl) fun a v H w s => rt _ _ _ _ _ _ w s
      · clear hst hw
        intro H hw hst
        refine s_next ?_
        refine q_nx ?_
        refine q_seq ?_
        refine s_ifM hst hw ok (mt_ok (et_test (ev_eqI (ev_var (i := 3) (by rfl)) ev_int))) ?_ ?_
        · clear hst hw
          intro H hw hst
          exact s_retF (t := oD (eU eA)) hst hw ok (mv_map (f := fun (x280 : (Dt × Unit)) => ([(eS (lt "let")), (eS v_slot), x280.1] : (List Dt))) (mv_tup (ma_consP ev_lit (ma_consP (ev_var (i := 5) (by rfl)) (ma_consM (mv_map (f := fun a => (e1 eI) a) (mv_map (f := fun (x279 : (Int × Unit)) => x279.1) (mv_tup (ma_consM (mv_callP (x := (v_cell, (32 : Int))) (ea_cons (ev_var (i := 0) (by rfl)) (ea_cons ev_int ea_nil)) rfl rfl (fun _ _ _ h => h) (wkN (by rfl))) fun _ => (ma_ok (ds := fun _ => []) ea_nil)) fun _ => (show 1 ≤ 1000 by decide)) fun _ => rfl) fun _ => rfl) fun _ => (ma_ok (ds := fun _ => []) ea_nil)))) fun _ => (show 3 ≤ 1000 by decide)) fun _ => rfl) fun a v H w s => rt _ _ _ _ _ _ w s
        · clear hst hw
          intro H hw hst
          refine s_next ?_
          refine q_nx ?_
          exact s_retF (t := oD (eU eA)) hst hw ok (mv_map (f := fun (x282 : (Dt × Unit)) => ([(eS (lt "say")), x282.1] : (List Dt))) (mv_tup (ma_consP ev_lit (ma_consM (mv_map (f := fun a => (e3 eS eI eS) a) (mv_map (f := fun (x281 : (Int × Unit)) => (v_slot, x281.1, (lt "under"))) (mv_tup (ma_consP (ev_var (i := 5) (by rfl)) (ma_consM (mv_callP (x := (v_cell, (33 : Int))) (ea_cons (ev_var (i := 0) (by rfl)) (ea_cons ev_int ea_nil)) rfl rfl (fun _ _ _ h => h) (wkN (by rfl))) fun _ => (ma_consP ev_lit (ma_ok (ds := fun _ => []) ea_nil)))) fun _ => (show 3 ≤ 1000 by decide)) fun _ => rfl) fun _ => rfl) fun _ => (ma_ok (ds := fun _ => []) ea_nil))) fun _ => (show 2 ≤ 1000 by decide)) fun _ => rfl) fun a v H w s => rt _ _ _ _ _ _ w s
theorem bn_Run_step (tx : Tx K mg) : Binds K tx.d_Run_step ["self", "worth"] [] := by
  obtain ⟨ds, h1, h2⟩ : ∃ ds, Vals [] ds ∧ Binds K tx.d_Run_step ["self", "worth"] ds := tx.F_Run_step.binds1 2 1 (by simp) rfl (fun _ _ _ _ _ _ _ us its h1 h2 => match us, h1, its, h2 with | [_, _], _, [_], _ => ⟨_, rfl, rfl⟩)
  cases h1
  exact h2
theorem bd_Run_step (tx : Tx K mg) : ∃ ds, Vals [V.int 0] ds ∧ Binds K tx.d_Run_step ["self", "worth"] ds := tx.F_Run_step.binds1 1 0 (by simp) rfl (fun _ _ _ _ _ _ _ us its h1 h2 => match us, h1, its, h2 with | [_], _, [_], _ => ⟨_, rfl, rfl⟩)
theorem ok_Run_step (tx : Tx K mg) : FnOk P w K mg base (L2.CX P w) 5 tx.f_Run_step tx.d_Run_step ["self", "worth"] (sp_Run_step K tx.Ce) := by
  refine tx.F_Run_step.ok sc_Run_step (fun vs H Q E h => spF_len (n := 2) rfl vs H Q E h) (fun cdv A outer s H vs Q E hr h => ⟨_, (pss_cons (ps_if (pt_val (pe_methP0 (E := WE (fun cls d _ H => E cls d H)) (pv 0) tx.cl_Run tx.g_Run_over (ok_Run_over tx) (hr.mono (by decide)) (bn_Run_over tx) (fun σ => passAt (takes_of rfl rfl rfl rfl) σ))) (pss_one ps_retN) pss_nil) (pss_one (ps_tryTwoW rfl rfl ⟨by rfl, by decide, Or.inl tx.x_Great⟩ ⟨by rfl, by decide, Or.inl tx.x_Nought⟩ (takes_of rfl rfl rfl rfl) (fun Wt pn xe tk pw => (pss_one (ps_fldK (K := K) (pv 0) (pe_methP (E := WE Wt) (pv 0) tx.cl_Run tx.g_Run_behind (ok_Run_behind tx) (hr.mono (by decide)) (bn_Run_behind tx) (fun σ => passAt tk σ) (pa_cons (pe_ix (r := rIxL K) ix_list (pe_fldK (K := K) (pv 0) (by rfl)) (pe_fldK (K := K) (pv 0) (by rfl)) (fun _ _ => rfl)) (pa_cons (pv 1) pa_nil))) rfl))) (fun a oe cls d pn hz hf => (pss_one (ps_fldK (K := K) (pv 0) pe_str rfl))) (fun a oe cls d pn hz hf => (pss_one (ps_fldK (K := K) (pv 0) pe_str rfl)))))), ?_⟩)
  obtain ⟨x, F, W, rfl, ni, hst, hw, ok, rt0⟩ := spF_start N_Run_step (by decide) (by decide) h
  obtain ⟨z_self, v_worth⟩ := x
  generalize L2.start N_Run_step vs = σ at hst ⊢
  have rt : ∀ a v T Γ σ H', W (.ok a) → (∃ Γ1, Tk Γ (List.map Ag.s [0]) [oOb_Run F.K a.2] Γ1) → Stt F Γ ((v, oD eN a.1) :: T) σ H' → Q v H' := fun a v T Γ σ H' w z s => rt0 a v T Γ _ σ H' w z.choose_spec s
  clear rt0
  have hw : W (m_Run_step z_self v_worth) := hw
  replace ok := ok [some (oOb_Run F.K z_self), none] _ (.s (by rfl) .nil)
  have hst : Stt F [some (oOb_Run F.K z_self), some (oD eI v_worth)] [] σ H := hst
  unfold m_Run_step at hw
  refine q_seq ?_
  refine s_ifM hst hw ok (mt_B (mv_methQ (enc := eB) (x := z_self) (eq_lv (rdo_ins (rdoa_cons rdo_dat (rdoa_cons rdo_dat (rdoa_cons rdo_oK (rdoa_cons rdo_oKT (rdoa_cons rdo_oKT (rdoa_cons rdo_oL (rdoa_cons rdo_dat rdoa_nil)))))))) (lv_var (n := 0) (by rfl))) (lk_none (by decide +kernel)) eaq_nil rfl rfl (fun _ _ _ h => h) (.same (.drop .nil)) imm_B)) ?_ ?_
  · clear hst hw
    intro H hw hst
    show tRet (tC .non) _ σ _
    exact s_retM (t := oD eN) hst hw ok (mv_ok (t := oD eN) (ev_non)) fun a v H w s => rt _ _ _ _ _ _ w ⟨_, (.s (by rfl) .nil)⟩ s
  · clear hst hw
    intro H hw hst
    refine s_next ?_
    refine q_nx ?_
    refine s_tryTwoJ (S := S_Run) (Γt := [some (oOb_Run F.K z_self), some (oD eI v_worth)]) (Γj := fun s284 => [some (oOb_Run F.K s284), some (oD eI v_worth)]) hst hw ok (.same (.drop .nil)) tx.ck0 tx.ck1 (fun _ _ _ h hp => by rw [errAt_plain hp] at h; exact h) ?_ ?_ ?_ ?_
    · clear hw ok
      intro W285 Wx299 ok hw hN287
      refine s_fldSet (f := "at") (j := 1) (t := fun (a294 : (Int × S_Run)) => oD eI a294.1) hst hw ok (mx_methL (Γ' := fun (a293 : (Int × S_Run)) => [some (oOb_Run F.K a293.2), some (oD eI v_worth)]) (Γk := fun _ => [some (oOb_Run F.K z_self), some (oD eI v_worth)]) (fun (x292 : Unit) => (z_self, (getI z_self.1 z_self.2.1), v_worth)) (lv_var (n := 0) (by rfl)) (lk_none (by decide +kernel)) (mh_guard fun g291 => (mh_P (ev_ixL (enc := (eU eA)) g291 (el_dat (ev_lv (lv_fld (f := "code") (j := 0) (lv_var (n := 0) (by rfl)) (by rfl) tx.cl_Run tx.na_Run_code (lk_ix (by decide +kernel))))) (ev_lv (lv_fld (f := "at") (j := 1) (lv_var (n := 0) (by rfl)) (by rfl) tx.cl_Run tx.na_Run_at (lk_ix (by decide +kernel))))) (mh_P (ev_var (i := 1) (by rfl)) mh_nil))) (fun _ => (.p (loc_var (n := 0) (by rfl)) (.d (.d .nil)))) (fun _ => rfl) (fun _ => rfl) (by exact fun _ vs hl => match vs, hl with | [_, _, _], _ => by rfl) (fun _ => ⟨⟨_, (loc_var (n := 0) (by rfl))⟩, trivial⟩) (fun _ _ => (.cons (loc_var (n := 0) (by rfl)) .nil)) (fun _ => .inl ⟨(.cons (loc_var (n := 0) (by rfl)) .nil), (.same (.same .nil))⟩) (fun _ _ _ h => h)) (fun a294 => (lv_var (n := 0) (by rfl))) tx.cl_Run tx.na_Run_at (by decide) (fun _ => by show 1 < 7; decide) (put_ix (by decide +kernel)) ?_
      clear hst hw
      intro a294 σ H hw hst
      have hst : Stt F [some (oOb_Run F.K (a294.2.1, a294.1, a294.2.2.2.1, a294.2.2.2.2.1, a294.2.2.2.2.2.1, a294.2.2.2.2.2.2.1, a294.2.2.2.2.2.2.2)), some (oD eI v_worth)] [] σ H := hst
      obtain ⟨v_self, hw, hst⟩ := nm (P := fun v_self => Stt F [some (oOb_Run F.K v_self), some (oD eI v_worth)] [] σ H) hw hst
      exact hN287 v_self _ _ hw (hst.weak (.same (.same .nil)))
    · clear hst hw ok
      intro e288 W286 a290 σ H hp289 ok hw hst hN287
      replace ok := ok (List.replicate 2 none)
      have hw : W286 (m_Run_step_H1 e288 z_self) := hw
      unfold m_Run_step_H1 at hw
      refine s_fldSet (f := "broken") (j := 6) (t := fun (a295 : (List Nat)) => oD eS a295) hst hw ok (mx_v (mv_ok (t := oD eS) (ev_lit))) (fun a295 => (lv_var (n := 0) (by rfl))) tx.cl_Run tx.na_Run_broken (by decide) (fun _ => by show 6 < 7; decide) (put_ix (by decide +kernel)) ?_
      clear hst hw
      intro a295 σ H hw hst
      have hst : Stt F [some (oOb_Run F.K (z_self.1, z_self.2.1, z_self.2.2.1, z_self.2.2.2.1, z_self.2.2.2.2.1, z_self.2.2.2.2.2.1, a295)), some (oD eI v_worth)] [] σ H := hst
      obtain ⟨v_self, hw, hst⟩ := nm (P := fun v_self => Stt F [some (oOb_Run F.K v_self), some (oD eI v_worth)] [] σ H) hw hst
      exact hN287 v_self _ _ hw (hst.weak (.same (.same .nil)))
    · clear hst hw ok
      intro e288 W286 a290 σ H hp289 ok hw hst hN287
      replace ok := ok (List.replicate 2 none)
      have hw : W286 (m_Run_step_H2 e288 z_self) := hw
      unfold m_Run_step_H2 at hw
      refine s_fldSet (f := "broken") (j := 6) (t := fun (a296 : (List Nat)) => oD eS a296) hst hw ok (mx_v (mv_ok (t := oD eS) (ev_lit))) (fun a296 => (lv_var (n := 0) (by rfl))) tx.cl_Run tx.na_Run_broken (by decide) (fun _ => by show 6 < 7; decide) (put_ix (by decide +kernel)) ?_
      clear hst hw
      intro a296 σ H hw hst
      have hst : Stt F [some (oOb_Run F.K (z_self.1, z_self.2.1, z_self.2.2.1, z_self.2.2.2.1, z_self.2.2.2.2.1, z_self.2.2.2.2.2.1, a296)), some (oD eI v_worth)] [] σ H := hst
      obtain ⟨v_self, hw, hst⟩ := nm (P := fun v_self => Stt F [some (oOb_Run F.K v_self), some (oD eI v_worth)] [] σ H) hw hst
      exact hN287 v_self _ _ hw (hst.weak (.same (.same .nil)))
    · clear hst hw
      intro v_self σ H hw hst
      have hw : W (m_Run_step_J1 v_self) := hw
      have hst : Stt F [some (oOb_Run F.K v_self), some (oD eI v_worth)] [] σ H := hst
      replace hst := hst.weak (Γ' := [some (oOb_Run F.K v_self), none]) (.same (.drop .nil))
      unfold m_Run_step_J1 at hw
      exact rt _ _ _ _ _ _ hw ⟨_, (.s (by rfl) .nil)⟩ (hst.push fun _ _ => by unfold Rp; rfl)
theorem bn_law_rows (tx : Tx K mg) : Binds K tx.d_law_rows ["cells", "slots", "shelves"] [] := tx.F_law_rows.bindsN fun _ _ _ _ _ _ us hl => match us, hl with | [_, _, _], _ => rfl
theorem ok_law_rows (tx : Tx K mg) : FnOk P w K mg base (L2.CX P w) 5 tx.f_law_rows tx.d_law_rows ["cells", "slots", "shelves"] (sp_law_rows K tx.Ce) := by
  refine tx.F_law_rows.ok sc_law_rows (fun vs H Q E h => spF_len (n := 3) rfl vs H Q E h) (fun cdv A outer s H vs Q E hr h => ⟨_, (pss_cons (ps_set (i := 3) sc_law_rows.nd rfl (by first | exact Or.inl rfl | exact Or.inr rfl) (pe_lst (pa_cons (pe_lst (pa_cons pe_non (pa_cons pe_non (pa_cons (pe_lst pa_nil) pa_nil)))) pa_nil))) (pss_cons (ps_for (passes_of rfl) rfl (pi_list (pv 0)) (pg_name (i := 4) sc_law_rows.nd rfl (by first | exact Or.inl rfl | exact Or.inr rfl)) (pss_cons (ps_set (i := 5) sc_law_rows.nd rfl (by first | exact Or.inl rfl | exact Or.inr rfl) (pe_op op_mod (pe_callS (E := WE (fun cls d _ H => E cls d H)) (ok_law_draw tx) (hr.mono (by decide)) (by rfl) tx.g_law_draw tx.F_law_draw.kp (bn_law_draw tx) (fun σ => passAt (takes_of rfl rfl rfl rfl) σ) (pa_cons (pv 4) (pa_cons pe_int pa_nil))) pe_int)) (pss_one (ps_if (pw_and (pt_cmpR (r := rIn K false) op_in_seq (pv 5) (pe_tup (pa_cons pe_int (pa_cons pe_int (pa_cons pe_int pa_nil)))) (by first | exact nomark _ | rfl)) (pw_and1 (pt_cmpR op_lt (pe_callB (r := rLenK K) call_len_seq (by rfl) tx.n_len (by rfl) (pa_cons (pv 3) pa_nil)) pe_int (by first | exact nomark _ | rfl)))).pt (pss_one (ps_expr (pe_bm PySem.F.plainAttrs_list PySem.F.slot_list_append PySem.F.type_list_append mt_append (pv 3) (pa_cons (pe_lst (pa_cons (pe_tup (pa_cons (pe_ix (r := rIxL K) ix_list (pv 1) (pe_op op_mod (pe_callS (E := WE (fun cls d _ H => E cls d H)) (ok_law_draw tx) (hr.mono (by decide)) (by rfl) tx.g_law_draw tx.F_law_draw.kp (bn_law_draw tx) (fun σ => passAt (takes_of rfl rfl rfl rfl) σ) (pa_cons (pv 4) (pa_cons pe_int pa_nil))) pe_int) (fun _ _ => rfl)) pa_nil)) (pa_cons pe_non (pa_cons (pe_lst pa_nil) pa_nil)))) pa_nil)))) (pss_one (ps_if (pw_and (pt_cmpR op_eq (pv 5) pe_int (by first | exact nomark _ | rfl)) (pw_and (pt_cmpR op_gt (pe_callB (r := rLenK K) call_len_seq (by rfl) tx.n_len (by rfl) (pa_cons (pv 3) pa_nil)) pe_int (by first | exact nomark _ | rfl)) (pw_and1 (pt_cmpR op_isN (pe_ix (r := rIxL K) ix_list (pe_ix (r := rIxL K) ix_list (pv 3) (pe_un un_neg pe_int) (fun _ _ => rfl)) pe_int (fun _ _ => rfl)) pe_non (by first | exact nomark _ | rfl))))).pt (pss_cons (ps_asg (pe_ix (r := rIxL K) ix_list (pe_ix (r := rIxL K) ix_list (pv 3) (pe_un un_neg pe_int) (fun _ _ => rfl)) pe_int (fun _ _ => rfl)) (pg_sub (pe_ix (r := rIxL K) ix_list (pv 3) (pe_un un_neg pe_int) (fun _ _ => rfl)) pe_int set_list)) (pss_one (ps_asg (pe_lst pa_nil) (pg_sub (pe_ix (r := rIxL K) ix_list (pv 3) (pe_un un_neg pe_int) (fun _ _ => rfl)) pe_int set_list)))) (pss_one (ps_if (pw_and (pt_cmpR op_eq (pv 5) pe_int (by first | exact nomark _ | rfl)) (pw_and1 (pt_cmpR op_gt (pe_callB (r := rLenK K) call_len_seq (by rfl) tx.n_len (by rfl) (pa_cons (pv 3) pa_nil)) pe_int (by first | exact nomark _ | rfl)))).pt (pss_one (ps_expr (pe_callS (E := WE (fun cls d _ H => E cls d H)) (ok_law_closed tx) (hr.mono (by decide)) (by rfl) tx.g_law_closed tx.F_law_closed.kp (bn_law_closed tx) (fun σ => passAt (takes_of rfl rfl rfl rfl) σ) (pa_cons (pv 3) pa_nil)))) (pss_one (ps_expr (pe_bm PySem.F.plainAttrs_list PySem.F.slot_list_append PySem.F.type_list_append mt_append (pe_ix (r := rIxL K) ix_list (pe_ix (r := rIxL K) ix_list (pv 3) (pe_un un_neg pe_int) (fun _ _ => rfl)) pe_int (fun _ _ => rfl)) (pa_cons (pe_callS (E := WE (fun cls d _ H => E cls d H)) (ok_law_row tx) (hr.mono (by decide)) (by rfl) tx.g_law_row tx.F_law_row.kp (bn_law_row tx) (fun σ => passAt (takes_of rfl rfl rfl rfl) σ) (pa_cons (pv 4) (pa_cons (pv 1) (pa_cons (pv 2) pa_nil)))) pa_nil)))))))))))) (pss_cons (ps_while (passes_of rfl) (pt_cmpR op_gt (pe_callB (r := rLenK K) call_len_seq (by rfl) tx.n_len (by rfl) (pa_cons (pv 3) pa_nil)) pe_int (by first | exact nomark _ | rfl)) (pss_one (ps_expr (pe_callS (E := WE (fun cls d _ H => E cls d H)) (ok_law_closed tx) (hr.mono (by decide)) (by rfl) tx.g_law_closed tx.F_law_closed.kp (bn_law_closed tx) (fun σ => passAt (takes_of rfl rfl rfl rfl) σ) (pa_cons (pv 3) pa_nil))))) (pss_one (ps_ret (pe_ix (r := rIxL K) ix_list (pe_ix (r := rIxL K) ix_list (pv 3) pe_int (fun _ _ => rfl)) pe_int (fun _ _ => rfl))))))), ?_⟩)
  obtain ⟨x, F, W, rfl, ni, hst, hw, ok, rt⟩ := spD_start N_law_rows h
  obtain ⟨v_cells, v_slots, v_shelves⟩ := x
  generalize L2.start N_law_rows vs = σ at hst ⊢
  have hw : W (m_law_rows v_cells v_slots v_shelves) := hw
  replace ok := ok (List.replicate 6 none)
  have hst : Stt F [some (oD (eL eI) v_cells), some (oD (eL eS) v_slots), some (oD (eL eS) v_shelves), none, none, none] [] σ H := hst
  unfold m_law_rows at hw
  refine q_seq ?_
  refine s_asgM (t := oM (oFr eA eA eA)) hst hw ok (mv_mapO (f := fun (p : ((Dt × Dt × (List Dt)) × Unit)) => [p.1]) (t' := oM (oFr eA eA eA)) (mv_lstO (mao_cons (mv_mapO (f := fun (p : (Dt × Dt × (List Dt) × Unit)) => (p.1, p.2.1, p.2.2.1)) (t' := oFr eA eA eA) (mv_lstO (mao_cons (mv_ok (t := oD eA) (ev_non)) (mao_cons (mv_ok (t := oD eA) (ev_non)) (mao_cons (mv_ok (t := oL eA) ((ev_lst ea_nil (show 0 ≤ 1000 by decide)))) mao_nil))) (fun _ => by show 3 ≤ 1000; decide)) (fun _ => rfl)) mao_nil) (fun _ => by show 1 ≤ 1000; decide)) (fun _ => rfl)) (show 3 < 6 by decide) (ni _) ?_
  clear hst hw
  intro v_frames σ H hw hst
  refine q_nx ?_
  refine q_seq ?_
  refine s_foldM (S := (List (Dt × Dt × (List Dt)))) (xs := fun c330 => c330) (enc := eI) (f := fun c330 y300 s301 => m_law_rows_L1 v_slots v_shelves s301 y300) (Γs := fun s301 => [none, some (oD (eL eS) v_slots), some (oD (eL eS) v_shelves), some (oM (oFr eA eA eA) s301), none, none]) (Γb := fun _ y300 s301 => [none, some (oD (eL eS) v_slots), some (oD (eL eS) v_shelves), some (oM (oFr eA eA eA) s301), some (oD eI y300), none]) (s0 := v_frames) hst hw ok (sr_list (mv_ok (t := oD (eL eI)) ((ev_var (i := 0) (by rfl))))) (.drop (.same (.same (.same (.same (.same .nil)))))) (fun _ _ _ => (tg_name (j := 4) (show 4 < 6 by decide) (ni _))) ?_ ?_
  · clear hst hw ok
    intro _ v_cell v_frames W302 hN303p T305 σ H ok hw hst hN303
    have hw : W302 (m_law_rows_L1 v_slots v_shelves v_frames v_cell) := hw
    have hst : Stt F [none, some (oD (eL eS) v_slots), some (oD (eL eS) v_shelves), some (oM (oFr eA eA eA) v_frames), some (oD eI v_cell), none] T305 σ H := hst
    unfold m_law_rows_L1 at hw
    refine q_seq ?_
    refine s_asgM (t := oD eI) hst hw ok (mv_op (mv_callP (x := (v_cell, (0 : Int))) (ea_cons (ev_var (i := 4) (by rfl)) (ea_cons ev_int ea_nil)) rfl rfl (fun _ _ _ h => h) (wkN (by rfl))) (fun _ => (mv_ok (t := oD eI) (ev_int))) fun _ _ => om_guard fun g309 => om_ok (op2_I (C := fun _ j => 0 < j) (g := fun i j => i % j) g309)) (show 5 < 6 by decide) (ni _) ?_
    clear hst hw
    intro v_kind σ H hw hst
    refine q_nx ?_
    refine s_ifM hst hw ok (mt_ok (et_and (et_test (ev_inT (ev_var (i := 5) (by rfl)) (ev_tup (ea_cons ev_int (ea_cons ev_int (ea_cons ev_int ea_nil))) (show 3 ≤ 1000 by decide)))) (et_test (ev_lt (ev_lenM (f := oFr eA eA eA) (lv_var (n := 3) (by rfl))) ev_int)))) ?_ ?_
    · clear hst hw
      intro H hw hst
      refine s_appMo (f := oFr eA eA eA) (xs := v_frames) hst hw ok (by rfl) (mv_mapO (f := fun (p : (Dt × Dt × (List Dt) × Unit)) => (p.1, p.2.1, p.2.2.1)) (t' := oFr eA eA eA) (mv_lstO (mao_cons (mv_map (f := fun a => (e1 eS) a) (mv_map (f := fun (x315 : ((List Nat) × Unit)) => x315.1) (mv_tup (ma_consM (ml_ix (enc := eS) (ml_ok (enc := eS) ((el_dat (ev_var (i := 1) (by rfl))))) (mv_op (mv_callP (x := (v_cell, (61 : Int))) (ea_cons (ev_var (i := 4) (by rfl)) (ea_cons ev_int ea_nil)) rfl rfl (fun _ _ _ h => h) (wkN (by rfl))) (fun _ => (mv_ok (t := oD eI) (ev_int))) fun _ _ => om_guard fun g312 => om_ok (op2_I (C := fun _ j => 0 < j) (g := fun i j => i % j) g312))) fun _ => (ma_ok (ds := fun _ => []) ea_nil)) fun _ => (show 1 ≤ 1000 by decide)) fun _ => rfl) fun _ => rfl) (mao_cons (mv_ok (t := oD eA) (ev_non)) (mao_cons (mv_ok (t := oL eA) ((ev_lst ea_nil (show 0 ≤ 1000 by decide)))) mao_nil))) (fun _ => by show 3 ≤ 1000; decide)) (fun _ => rfl)) ?_
      clear hst hw
      intro v_frames σ H hw hst
      exact hN303 v_frames _ _ hw (hst.weak (.same (.same (.same (.same (.drop (.drop .nil)))))))
    · clear hst hw
      intro H hw hst
      refine s_ifJ (S := (List (Dt × Dt × (List Dt)))) (Γj := fun s319 => [none, some (oD (eL eS) v_slots), some (oD (eL eS) v_shelves), some (oM (oFr eA eA eA) s319), some (oD eI v_cell), some (oD eI v_kind)]) hst hw ok (mt_and (mt_ok (et_test (ev_eqI (ev_var (i := 5) (by rfl)) ev_int))) (mt_and (mt_ok (et_test (ev_gt (ev_lenM (f := oFr eA eA eA) (lv_var (n := 3) (by rfl))) ev_int))) (mt_guard fun g318 => mt_ok (et_test (ev_isNA (ev_lv (lv_fr (k := 1) (lv_ixM (f := oFr eA eA eA) (xs := v_frames) (lv_var (n := 3) (by rfl)) (ev_neg ev_int) g318) ev_int (by rfl))) ev_non))))) ?_ ?_ ?_
      · clear hst hw ok
        intro W320 hN321p H ok hw hst hN321
        obtain ⟨g323, hw⟩ := R.guard_ok ok hw
        refine q_seq ?_
        have hst := hst.freezeLoc (loc_fr (k := 2) (loc_ixM (f := oFr eA eA eA) (xs := v_frames) (loc_var (n := 3) (by rfl)) g323) (by rfl)) rdo_oL
        have hst : Stt F [none, some (oD (eL eS) v_slots), some (oD (eL eS) v_shelves), some (.lst ((List.map (oFr eA eA eA) v_frames).set (ixI v_frames (-(1 : Int))) (oFrZ eA eA eA (getI v_frames (-(1 : Int)))))), some (oD eI v_cell), some (oD eI v_kind)] T305 σ H := hst
        refine s_frSetP (c := 1) (t := .dat ((eL eA) (getI v_frames (-(1 : Int))).2.2)) hst hw ok (lv_ixS (xs := v_frames) (f := oFr eA eA eA) (i := (-(1 : Int))) (w := oFrZ eA eA eA (getI v_frames (-(1 : Int)))) (lv_var (n := 3) (by rfl)) (ev_neg ev_int) g323) (ev_lv (lv_fr (k := 2) (lv_ixS (xs := v_frames) (f := oFr eA eA eA) (i := (-(1 : Int))) (w := oFrZ eA eA eA (getI v_frames (-(1 : Int)))) (lv_var (n := 3) (by rfl)) (ev_neg ev_int) g323) ev_int (by rfl))) ev_int (by rfl) ?_
        clear hst hw
        intro σ H hw hst
        have hst : Stt F [none, some (oD (eL eS) v_slots), some (oD (eL eS) v_shelves), some (.lst ((List.map (oFr eA eA eA) v_frames).set (ixI v_frames (-(1 : Int))) (Own.lst [.dat (eA (getI v_frames (-(1 : Int))).1), .dat ((eL eA) (getI v_frames (-(1 : Int))).2.2), .dat ((eL eA) (getI v_frames (-(1 : Int))).2.2)]))), some (oD eI v_cell), some (oD eI v_kind)] T305 σ H := hst
        refine q_nx ?_
        refine s_frSetP (c := 2) (t := oL eA ([] : (List Dt))) hst hw ok (lv_ixS (xs := v_frames) (f := oFr eA eA eA) (i := (-(1 : Int))) (w := Own.lst [.dat (eA (getI v_frames (-(1 : Int))).1), .dat ((eL eA) (getI v_frames (-(1 : Int))).2.2), .dat ((eL eA) (getI v_frames (-(1 : Int))).2.2)]) (lv_var (n := 3) (by rfl)) (ev_neg ev_int) g323) (ev_lst ea_nil (show 0 ≤ 1000 by decide)) ev_int (by rfl) ?_
        clear hst hw
        intro σ H hw hst
        have hst : Stt F [none, some (oD (eL eS) v_slots), some (oD (eL eS) v_shelves), some (oM (oFr eA eA eA) (setI v_frames (-(1 : Int)) ((getI v_frames (-(1 : Int))).1, ((eL eA) (getI v_frames (-(1 : Int))).2.2), []))), some (oD eI v_cell), some (oD eI v_kind)] T305 σ H := by
          unfold oM
          rw [← map_set_ix]
          exact hst
        obtain ⟨v_frames, hw, hst⟩ := nm (P := fun v_frames => Stt F [none, some (oD (eL eS) v_slots), some (oD (eL eS) v_shelves), some (oM (oFr eA eA eA) v_frames), some (oD eI v_cell), some (oD eI v_kind)] T305 σ H) hw hst
        exact hN321 v_frames _ _ hw (hst.weak (.same (.same (.same (.same (.same (.same .nil)))))))
      · clear hst hw ok
        intro W320 hN321p H ok hw hst hN321
        refine s_ifM hst hw ok (mt_ok (et_and (et_test (ev_eqI (ev_var (i := 5) (by rfl)) ev_int)) (et_test (ev_gt (ev_lenM (f := oFr eA eA eA) (lv_var (n := 3) (by rfl))) ev_int)))) ?_ ?_
        · clear hst hw
          intro H hw hst
          refine s_dropX3 hst hw ok (mx_callL (Γ' := fun (a325 : (Unit × (List (Dt × Dt × (List Dt))))) => [none, some (oD (eL eS) v_slots), some (oD (eL eS) v_shelves), some (oM (oFr eA eA eA) a325.2), some (oD eI v_cell), some (oD eI v_kind)]) (Γk := fun _ => [none, some (oD (eL eS) v_slots), some (oD (eL eS) v_shelves), some (oM (oFr eA eA eA) v_frames), some (oD eI v_cell), some (oD eI v_kind)]) (fun (x324 : Unit) => v_frames) (mh_A (lv_var (n := 3) (by rfl)) mh_nil) (fun _ => (.p (loc_var (n := 3) (by rfl)) .nil)) (fun _ => rfl) (fun _ => rfl) (by exact fun _ vs hl => match vs, hl with | [_], _ => by rfl) (fun _ => ⟨⟨_, (loc_var (n := 3) (by rfl))⟩, trivial⟩) (fun _ _ => (.cons (loc_var (n := 3) (by rfl)) .nil)) (fun _ => .inr (wkN (by rfl))) (fun _ _ _ h => h)) ?_
          clear hst hw
          intro a326 σ H hw hst
          have hst : Stt F [none, some (oD (eL eS) v_slots), some (oD (eL eS) v_shelves), some (oM (oFr eA eA eA) a326.2), some (oD eI v_cell), some (oD eI v_kind)] T305 σ H := hst
          obtain ⟨v_frames, hw, hst⟩ := nm (P := fun v_frames => Stt F [none, some (oD (eL eS) v_slots), some (oD (eL eS) v_shelves), some (oM (oFr eA eA eA) v_frames), some (oD eI v_cell), some (oD eI v_kind)] T305 σ H) hw hst
          exact hN321 v_frames _ _ hw (hst.weak (.same (.same (.same (.same (.same (.same .nil)))))))
        · clear hst hw
          intro H hw hst
          obtain ⟨g327, hw⟩ := R.guard_ok ok hw
          refine s_lvApp (enc := eA) (ys := (getI v_frames (-(1 : Int))).2.2) hst hw ok (lv_fr (k := 2) (lv_ixM (f := oFr eA eA eA) (xs := v_frames) (lv_var (n := 3) (by rfl)) (ev_neg ev_int) g327) ev_int (by rfl)) (mv_map (f := fun a => (eU eA) a) (mv_callP (x := (v_cell, v_slots, v_shelves)) (ea_cons (ev_var (i := 4) (by rfl)) (ea_cons (ev_var (i := 1) (by rfl)) (ea_cons (ev_var (i := 2) (by rfl)) ea_nil))) rfl rfl (fun _ _ _ h => h) (wkN (by rfl))) fun _ => rfl) ?_
          clear hst hw
          intro v328 σ H hw hst
          have hst : Stt F [none, some (oD (eL eS) v_slots), some (oD (eL eS) v_shelves), some (oM (oFr eA eA eA) (setI v_frames (-(1 : Int)) ((getI v_frames (-(1 : Int))).1, (getI v_frames (-(1 : Int))).2.1, v328))), some (oD eI v_cell), some (oD eI v_kind)] T305 σ H := by
            unfold oM
            rw [← map_set_ix]
            exact hst
          obtain ⟨v_frames, hw, hst⟩ := nm (P := fun v_frames => Stt F [none, some (oD (eL eS) v_slots), some (oD (eL eS) v_shelves), some (oM (oFr eA eA eA) v_frames), some (oD eI v_cell), some (oD eI v_kind)] T305 σ H) hw hst
          exact hN321 v_frames _ _ hw (hst.weak (.same (.same (.same (.same (.same (.same .nil)))))))
      · clear hst hw
        intro v_frames σ H hw hst
        have hw : W302 (m_law_rows_J1 v_frames) := hw
        have hst : Stt F [none, some (oD (eL eS) v_slots), some (oD (eL eS) v_shelves), some (oM (oFr eA eA eA) v_frames), some (oD eI v_cell), some (oD eI v_kind)] T305 σ H := hst
        replace hst := hst.weak (Γ' := [none, some (oD (eL eS) v_slots), some (oD (eL eS) v_shelves), some (oM (oFr eA eA eA) v_frames), none, none]) (.same (.same (.same (.same (.drop (.drop .nil))))))
        unfold m_law_rows_J1 at hw
        exact hN303 v_frames _ _ hw (hst.weak (.same (.same (.same (.same (.same (.same .nil)))))))
  · clear hst hw
    intro v_frames σ H hw hst
    have hw : W (m_law_rows_J2 v_frames) := hw
    have hst : Stt F [none, some (oD (eL eS) v_slots), some (oD (eL eS) v_shelves), some (oM (oFr eA eA eA) v_frames), none, none] [] σ H := hst
    replace hst := hst.weak (Γ' := [none, none, none, some (oM (oFr eA eA eA) v_frames), none, none]) (.same (.drop (.drop (.same (.same (.same .nil))))))
    unfold m_law_rows_J2 at hw
    refine q_nx ?_
    refine q_seq ?_
    refine s_whileM (S := (List (Dt × Dt × (List Dt)))) (β := (List Dt)) (Γs := fun s331 => [none, none, none, some (oM (oFr eA eA eA) s331), none, none]) (s0 := v_frames) hst hw ok (.same (.same (.same (.same (.same (.same .nil)))))) ?_ ?_ ?_
    · clear hst hw
      intro v_frames
      show MT F _ _ _ [none, none, none, some (oM (oFr eA eA eA) v_frames), none, none] (m_law_rows_Q1 v_frames)
      unfold m_law_rows_Q1
      exact (mt_ok (et_test (ev_gt (ev_lenM (f := oFr eA eA eA) (lv_var (n := 3) (by rfl))) ev_int)))
    · clear hst hw ok
      intro v_frames W332 hN333p hB334p σ H ok r335 hw hst hN333 hB334
      have rt336 := fun a v T Γ σ H' w s => rt a v T Γ σ H' (r335 a w) s
      have hw : W332 (m_law_rows_L2 v_frames) := hw
      have hst : Stt F [none, none, none, some (oM (oFr eA eA eA) v_frames), none, none] [] σ H := hst
      unfold m_law_rows_L2 at hw
      refine s_dropX3 hst hw ok (mx_callL (Γ' := fun (a338 : (Unit × (List (Dt × Dt × (List Dt))))) => [none, none, none, some (oM (oFr eA eA eA) a338.2), none, none]) (Γk := fun _ => [none, none, none, some (oM (oFr eA eA eA) v_frames), none, none]) (fun (x337 : Unit) => v_frames) (mh_A (lv_var (n := 3) (by rfl)) mh_nil) (fun _ => (.p (loc_var (n := 3) (by rfl)) .nil)) (fun _ => rfl) (fun _ => rfl) (by exact fun _ vs hl => match vs, hl with | [_], _ => by rfl) (fun _ => ⟨⟨_, (loc_var (n := 3) (by rfl))⟩, trivial⟩) (fun _ _ => (.cons (loc_var (n := 3) (by rfl)) .nil)) (fun _ => .inr (wkN (by rfl))) (fun _ _ _ h => h)) ?_
      clear hst hw
      intro a339 σ H hw hst
      have hst : Stt F [none, none, none, some (oM (oFr eA eA eA) a339.2), none, none] [] σ H := hst
      obtain ⟨v_frames, hw, hst⟩ := nm (P := fun v_frames => Stt F [none, none, none, some (oM (oFr eA eA eA) v_frames), none, none] [] σ H) hw hst
      exact hN333 v_frames _ _ hw (hst.weak (.same (.same (.same (.same (.same (.same .nil)))))))
    · clear hst hw
      intro v_frames σ H hw hst
      have hw : W (m_law_rows_J3 v_frames) := hw
      have hst : Stt F [none, none, none, some (oM (oFr eA eA eA) v_frames), none, none] [] σ H := hst
      replace hst := hst.weak (Γ' := [none, none, none, some (oM (oFr eA eA eA) v_frames), none, none]) (.same (.same (.same (.same (.same (.same .nil))))))
      unfold m_law_rows_J3 at hw
      refine q_nx ?_
      obtain ⟨g340, hw⟩ := R.guard_ok ok hw
      have hst := hst.freezeLoc (loc_fr (k := 2) (loc_ixM (f := oFr eA eA eA) (xs := v_frames) (loc_var (n := 3) (by rfl)) g340) (by rfl)) rdo_oL
      have hst : Stt F [none, none, none, some (.lst ((List.map (oFr eA eA eA) v_frames).set (ixI v_frames (0 : Int)) (oFrZ eA eA eA (getI v_frames (0 : Int))))), none, none] [] σ H := hst
      exact s_retF (t := oD (eL eA)) hst hw ok (mv_ok (t := oD (eL eA)) ((ev_lv (lv_fr (k := 2) (lv_ixS (xs := v_frames) (f := oFr eA eA eA) (i := (0 : Int)) (w := oFrZ eA eA eA (getI v_frames (0 : Int))) (lv_var (n := 3) (by rfl)) ev_int g340) ev_int (by rfl))))) fun a v H w s => rt _ _ _ _ _ _ w s
theorem bn_law_asked (tx : Tx K mg) : Binds K tx.d_law_asked ["run", "cell", "noted"] [] := tx.F_law_asked.bindsN fun _ _ _ _ _ _ us hl => match us, hl with | [_, _, _], _ => rfl
theorem ok_law_asked (tx : Tx K mg) : FnOk P w K mg base (L2.CX P w) 6 tx.f_law_asked tx.d_law_asked ["run", "cell", "noted"] (sp_law_asked K tx.Ce) := by
  refine tx.F_law_asked.ok sc_law_asked (fun vs H Q E h => spF_len (n := 3) rfl vs H Q E h) (fun cdv A outer s H vs Q E hr h => ⟨_, (pss_cons (ps_set (i := 3) sc_law_asked.nd rfl (by first | exact Or.inl rfl | exact Or.inr rfl) (pe_methP0 (E := WE (fun cls d _ H => E cls d H)) (pv 0) tx.cl_Run tx.g_Run_asks (ok_Run_asks tx) (hr.mono (by decide)) (bn_Run_asks tx) (fun σ => passAt (takes_of rfl rfl rfl rfl) σ))) (pss_cons (ps_if (pw_or (pt_cmpR (r := rNeD K) (op_neD hr.units) (pv 3) (pe_methP0 (E := WE (fun cls d _ H => E cls d H)) (pv 0) tx.cl_Run tx.g_Run_asks (ok_Run_asks tx) (hr.mono (by decide)) (bn_Run_asks tx) (fun σ => passAt (takes_of rfl rfl rfl rfl) σ)) (by first | exact nomark _ | rfl)) (pw_or1 (pt_cmpR op_notN (pe_methP0 (E := fun _ => E0) (pv 0) tx.cl_Run tx.g_Run_paper (ok_Run_paper tx) (hr.mono (by decide)) (bn_Run_paper tx) (fun _ => passAtL)) pe_non (by first | exact nomark _ | rfl)))).pt (pss_one (ps_ret pe_bl)) pss_nil) (pss_cons (ps_set (i := 4) sc_law_asked.nd rfl (by first | exact Or.inl rfl | exact Or.inr rfl) (pe_callS (E := fun _ => E0) (ok_law_worth tx) (hr.mono (by decide)) (by rfl) tx.g_law_worth tx.F_law_worth.kp (bn_law_worth tx) (fun _ => passAtL) (pa_cons (pv 1) (pa_cons (pe_op op_add pe_int (pe_callB (r := rLenK K) call_len_seq (by rfl) tx.n_len (by rfl) (pa_cons (pv 2) pa_nil))) pa_nil)))) (pss_cons (ps_if (pt_cmpR op_isN (pv 3) pe_non (by first | exact nomark _ | rfl)) (pss_cons (ps_expr (pe_methP (E := fun _ => E0) (pv 0) tx.cl_Run tx.g_Run_step (ok_Run_step tx) (hr.mono (by decide)) (bn_Run_step tx) (fun _ => passAtL) (pa_cons (pv 4) pa_nil))) (pss_one (ps_ret pe_bl))) pss_nil) (pss_cons (ps_if (pw_or (pt_not (pt_val (pe_callS (E := fun _ => E0) (ok_law_is_place tx) (hr.mono (by decide)) (by rfl) tx.g_law_is_place tx.F_law_is_place.kp (bn_law_is_place tx) (fun _ => passAtL) (pa_cons (pv 3) pa_nil)))) (pw_or1 (pt_cmpR (r := rInD K) (op_inD hr.units65) (pv 3) (pe_lc (own := [("note", 5)]) (g := gName 5) (tt := tYes) rfl sc_law_asked.nd (pi_list (pv 2)) (blkOk_by (N := N_law_asked) (sc := defScope s_law_asked) (by decide +kernel)) (fun _ _ _ _ _ => (pg_name (i := 5) sc_law_asked.nd rfl (by first | exact Or.inl rfl | exact Or.inr rfl))) (fun _ _ _ _ _ => pts_nil) (fun _ _ _ _ _ => (pe_ix (r := rIxT K) ix_tup (pv 5) pe_int (fun _ _ => rfl)))) (by first | exact nomark _ | rfl)))).pt (pss_one (ps_ret pe_bl)) pss_nil) (pss_cons (ps_expr (pe_bm PySem.F.plainAttrs_list PySem.F.slot_list_append PySem.F.type_list_append mt_append (pv 2) (pa_cons (pe_tup (pa_cons (pv 3) (pa_cons (pv 4) pa_nil))) pa_nil))) (pss_cons (ps_if (pt_cmpR op_eq (pv 4) pe_int (by first | exact nomark _ | rfl)) (pss_one (ps_expr (pe_methPD (E := fun _ => E0) (pv 0) tx.cl_Run tx.g_Run_step (ok_Run_step tx) (hr.mono (by decide)) (bd_Run_step tx) (fun _ => passAtL)))) (pss_one (ps_expr (pe_methP (E := fun _ => E0) (pv 0) tx.cl_Run tx.g_Run_step (ok_Run_step tx) (hr.mono (by decide)) (bn_Run_step tx) (fun _ => passAtL) (pa_cons (pv 4) pa_nil))))) (pss_one (ps_ret pe_bl))))))))), ?_⟩)
  obtain ⟨x, F, W, rfl, ni, hst, hw, ok, rt0⟩ := spF_start N_law_asked (by decide) (by decide) h
  obtain ⟨z_run, v_cell, z_noted⟩ := x
  generalize L2.start N_law_asked vs = σ at hst ⊢
  have rt : ∀ a v T Γ σ H', W (.ok a) → (∃ Γ1, Tk Γ (List.map Ag.s [0, 2]) [oOb_Run F.K a.2.1, oL (e2 eP eI) a.2.2] Γ1) → Stt F Γ ((v, oD eB a.1) :: T) σ H' → Q v H' := fun a v T Γ σ H' w z s => rt0 a v T Γ _ σ H' w z.choose_spec s
  clear rt0
  have hw : W (m_law_asked z_run v_cell z_noted) := hw
  replace ok := ok [some (oOb_Run F.K z_run), none, some (oL (e2 eP eI) z_noted), none, none, none] _ (.s (by rfl) (.s (by rfl) .nil))
  have hst : Stt F [some (oOb_Run F.K z_run), some (oD eI v_cell), some (oL (e2 eP eI) z_noted), none, none, none] [] σ H := hst
  unfold m_law_asked at hw
  refine q_seq ?_
  refine s_asgM (t := oD (eO eP)) hst hw ok (mv_methQ (enc := (eO eP)) (x := z_run) (eq_lv (rdo_ins (rdoa_cons rdo_dat (rdoa_cons rdo_dat (rdoa_cons rdo_oK (rdoa_cons rdo_oKT (rdoa_cons rdo_oKT (rdoa_cons rdo_oL (rdoa_cons rdo_dat rdoa_nil)))))))) (lv_var (n := 0) (by rfl))) (lk_none (by decide +kernel)) eaq_nil rfl rfl (fun _ _ _ h => h) (.same (.drop (.same (.same (.same (.same .nil)))))) (imm_O imm_P)) (show 3 < 6 by decide) (ni _ (by decide)) ?_
  clear hst hw
  intro v_place σ H hw hst
  refine q_nx ?_
  refine q_seq ?_
  refine s_ifX3 (b := fun (a350 : (Bool × S_Run)) => a350.1) hst hw ok (mtn_or (m2 := fun (sw345 : S_Run) => ((((R.ok ()).bind fun x346 => m_Run_paper sw345).calm).bind fun a348 => R.ok ((Option.isSome a348.1), a348.2))) (mtn_pure (Γn := fun (sv341 : S_Run) => [some (oOb_Run F.K sv341), some (oD eI v_cell), some (oL (e2 eP eI) z_noted), some (oD (eO eP) v_place), none, none]) z_run (by rfl) (mt_test (mv_op (mv_ok (t := oD (eO eP)) ((ev_var (i := 3) (by rfl)))) (fun _ => (mv_methQ (enc := (eO eP)) (x := z_run) (eq_lv (rdo_ins (rdoa_cons rdo_dat (rdoa_cons rdo_dat (rdoa_cons rdo_oK (rdoa_cons rdo_oKT (rdoa_cons rdo_oKT (rdoa_cons rdo_oL (rdoa_cons rdo_dat rdoa_nil)))))))) (lv_var (n := 0) (by rfl))) (lk_none (by decide +kernel)) eaq_nil rfl rfl (fun _ _ _ h => h) (.same (.drop (.same (.drop (.same (.same .nil)))))) (imm_O imm_P))) fun _ _ => om_guard fun g344 => om_ok (op2_neDD g344)))) (fun sw345 => (mtn_of (b := fun (a348 : ((Option (((List Nat) × Dt) × (List ((List Nat × Int) × Int)) × (List ((List Nat × Int) × Int)))) × S_Run)) => (Option.isSome a348.1)) (Γn := fun (sv341 : S_Run) => [some (oOb_Run F.K sv341), some (oD eI v_cell), some (oL (e2 eP eI) z_noted), some (oD (eO eP) v_place), none, none]) (fun (a348 : ((Option (((List Nat) × Dt) × (List ((List Nat × Int) × Int)) × (List ((List Nat × Int) × Int)))) × S_Run)) => a348.2) (fun _ => by rfl) (mtx_test (mx_op2 (mx_frzG (mx_calm (Γx := List.replicate 6 none) (mx_methL (Γ' := fun (a347 : ((Option (((List Nat) × Dt) × (List ((List Nat × Int) × Int)) × (List ((List Nat × Int) × Int)))) × S_Run)) => [some (oOb_Run F.K a347.2), some (oD eI v_cell), some (oL (e2 eP eI) z_noted), some (oD (eO eP) v_place), none, none]) (Γk := fun _ => [some (oOb_Run F.K sw345), some (oD eI v_cell), some (oL (e2 eP eI) z_noted), some (oD (eO eP) v_place), none, none]) (fun (x346 : Unit) => sw345) (lv_var (n := 0) (by rfl)) (lk_none (by decide +kernel)) mh_nil (fun _ => (.p (loc_var (n := 0) (by rfl)) .nil)) (fun _ => rfl) (fun _ => rfl) (by exact fun _ vs hl => match vs, hl with | [_], _ => by rfl) (fun _ => ⟨⟨_, (loc_var (n := 0) (by rfl))⟩, trivial⟩) (fun _ _ => (.cons (loc_var (n := 0) (by rfl)) .nil)) (fun _ => .inr (wkN (by rfl))) (fun _ _ _ h => h.elim))) (fun _ => (rdo_oOpt (fun _ => rdo_oTr)))) (fun _ => ev_non) (fun _ => op2_notNO (enc := (e3 (e2 eS eA) (eL (e2 eP eI)) (eL (e2 eP eI)))) (by intro a h; cases h))))))) ?_ ?_
  · clear hst hw
    intro a350 H hw hst
    have hst : Stt F [some (oOb_Run F.K a350.2), some (oD eI v_cell), some (oL (e2 eP eI) z_noted), some (oD (eO eP) v_place), none, none] [] σ H := hst
    obtain ⟨v_run, hw, hst⟩ := nm (P := fun v_run => Stt F [some (oOb_Run F.K v_run), some (oD eI v_cell), some (oL (e2 eP eI) z_noted), some (oD (eO eP) v_place), none, none] [] σ H) hw hst
    exact s_retM (t := oD eB) hst hw ok (mv_ok (t := oD eB) (ev_bl)) fun a v H w s => rt _ _ _ _ _ _ w ⟨_, (.s (by rfl) (.s (by rfl) .nil))⟩ s
  · clear hst hw
    intro a350 H hw hst
    have hst : Stt F [some (oOb_Run F.K a350.2), some (oD eI v_cell), some (oL (e2 eP eI) z_noted), some (oD (eO eP) v_place), none, none] [] σ H := hst
    obtain ⟨v_run, hw, hst⟩ := nm (P := fun v_run => Stt F [some (oOb_Run F.K v_run), some (oD eI v_cell), some (oL (e2 eP eI) z_noted), some (oD (eO eP) v_place), none, none] [] σ H) hw hst
    refine s_next ?_
    refine q_nx ?_
    refine q_seq ?_
    refine s_asgM (t := oD eI) hst hw ok (mv_calm (Γx := List.replicate 6 none) (mv_callP (x := (v_cell, ((40 : Int) + (z_noted.length : Int)))) (ea_cons (ev_var (i := 1) (by rfl)) (ea_cons (ev_add ev_int (ev_lenLE (enc := (e2 eP eI)) (el_var (n := 2) (by rfl)))) ea_nil)) rfl rfl (fun _ _ _ h => h.elim) (wkN (by rfl))) (wkN (by rfl))) (show 4 < 6 by decide) (ni _ (by decide)) ?_
    clear hst hw
    intro v_worth σ H hw hst
    refine q_nx ?_
    refine q_seq ?_
    refine s_ifM hst hw ok (mt_ok (et_test (ev_isNO (enc := eP) (by intro a h; cases h) (ev_var (i := 3) (by rfl)) ev_non))) ?_ ?_
    · clear hst hw
      intro H hw hst
      refine q_seq ?_
      refine s_dropX3 hst hw ok (mx_calm (Γx := List.replicate 6 none) (mx_methL (Γ' := fun (a353 : (Unit × S_Run)) => [some (oOb_Run F.K a353.2), some (oD eI v_cell), some (oL (e2 eP eI) z_noted), some (oD (eO eP) v_place), some (oD eI v_worth), none]) (Γk := fun _ => [some (oOb_Run F.K v_run), some (oD eI v_cell), some (oL (e2 eP eI) z_noted), some (oD (eO eP) v_place), some (oD eI v_worth), none]) (fun (x352 : Unit) => (v_run, v_worth)) (lv_var (n := 0) (by rfl)) (lk_none (by decide +kernel)) (mh_P (ev_var (i := 4) (by rfl)) mh_nil) (fun _ => (.p (loc_var (n := 0) (by rfl)) (.d .nil))) (fun _ => rfl) (fun _ => rfl) (by exact fun _ vs hl => match vs, hl with | [_, _], _ => by rfl) (fun _ => ⟨⟨_, (loc_var (n := 0) (by rfl))⟩, trivial⟩) (fun _ _ => (.cons (loc_var (n := 0) (by rfl)) .nil)) (fun _ => .inr (wkN (by rfl))) (fun _ _ _ h => h.elim))) ?_
      clear hst hw
      intro a354 σ H hw hst
      have hst : Stt F [some (oOb_Run F.K a354.2), some (oD eI v_cell), some (oL (e2 eP eI) z_noted), some (oD (eO eP) v_place), some (oD eI v_worth), none] [] σ H := hst
      obtain ⟨v_run, hw, hst⟩ := nm (P := fun v_run => Stt F [some (oOb_Run F.K v_run), some (oD eI v_cell), some (oL (e2 eP eI) z_noted), some (oD (eO eP) v_place), some (oD eI v_worth), none] [] σ H) hw hst
      refine q_nx ?_
      exact s_retM (t := oD eB) hst hw ok (mv_ok (t := oD eB) (ev_bl)) fun a v H w s => rt _ _ _ _ _ _ w ⟨_, (.s (by rfl) (.s (by rfl) .nil))⟩ s
    · clear hst hw
      intro H hw hst
      refine s_next ?_
      refine q_nx ?_
      refine q_seq ?_
      refine s_ifM hst hw ok (mt_or (mt_not (mt_B (mv_calm (Γx := List.replicate 6 none) (mv_guard fun g356 => (mv_callP (x := (v_place.getD default)) (ea_cons (ev_some (enc := eP) (ev_var (i := 3) (by rfl)) g356) ea_nil) rfl rfl (fun _ _ _ h => h.elim) (wkN (by rfl)))) (wkN (by rfl))))) (mt_test (mv_guard fun g357 => (mv_inPM (ev_some (enc := eP) (ev_var (i := 3) (by rfl)) g357) (ml_own (mv_lcO (n := 2) (Γx := List.replicate 6 none) (Γb := fun l358 x => [some (oOb_Run F.K v_run), some (oD eI v_cell), some (Own.hole (.ref l358)), some (oD (eO eP) v_place), some (oD eI v_worth), some (oD (e2 eP eI) x)]) (xs := z_noted) (enc := (e2 eP eI)) (encB := eP) (by rfl) (fun _ => ⟨⟨by rfl, ni _ (by decide)⟩, True.intro⟩) (fun _ _ => (tgw_name (j := 5) (show 5 < 6 by decide) (ni _ (by decide)) (by decide))) (fun _ _ => (.same (.same (.same (.same (.same (.drop .nil))))))) (fun _ v_note => by
          show MV F _ _ _ _ (m_law_asked_C1 v_note) _
          unfold m_law_asked_C1
          exact (mv_ok (t := oD eP) ((ev_ixC (ds := [eP v_note.1, eI v_note.2]) (n := 0) (by rfl) (ev_var (i := 5) (by rfl)) ev_int)))))))))) ?_ ?_
      · clear hst hw
        intro H hw hst
        exact s_retM (t := oD eB) hst hw ok (mv_ok (t := oD eB) (ev_bl)) fun a v H w s => rt _ _ _ _ _ _ w ⟨_, (.s (by rfl) (.s (by rfl) .nil))⟩ s
      · clear hst hw
        intro H hw hst
        refine s_next ?_
        refine q_nx ?_
        refine q_seq ?_
        refine s_appE (enc := (e2 eP eI)) (xs := z_noted) hst hw ok (by rfl) (mv_guard fun g362 => mv_ok (t := oD (e2 eP eI)) ((ev_tup (ea_cons (ev_some (enc := eP) (ev_var (i := 3) (by rfl)) g362) (ea_cons (ev_var (i := 4) (by rfl)) ea_nil)) (show 2 ≤ 1000 by decide)))) ?_
        clear hst hw
        intro v_noted σ H hw hst
        refine q_nx ?_
        refine q_seq ?_
        refine s_ifJ (S := S_Run) (Γj := fun s364 => [some (oOb_Run F.K s364), some (oD eI v_cell), some (oL (e2 eP eI) v_noted), some (oD (eO eP) v_place), some (oD eI v_worth), none]) hst hw ok (mt_ok (et_test (ev_eqI (ev_var (i := 4) (by rfl)) ev_int))) ?_ ?_ ?_
        · clear hst hw ok
          intro W365 hN366p H ok hw hst hN366
          refine s_dropX3 hst hw ok (mx_calm (Γx := List.replicate 6 none) (mx_methL (Γ' := fun (a368 : (Unit × S_Run)) => [some (oOb_Run F.K a368.2), some (oD eI v_cell), some (oL (e2 eP eI) v_noted), some (oD (eO eP) v_place), some (oD eI v_worth), none]) (Γk := fun _ => [some (oOb_Run F.K v_run), some (oD eI v_cell), some (oL (e2 eP eI) v_noted), some (oD (eO eP) v_place), some (oD eI v_worth), none]) (fun (x367 : Unit) => (v_run, (0 : Int))) (lv_var (n := 0) (by rfl)) (lk_none (by decide +kernel)) (mh_P ev_int mh_nil) (fun _ => (.p (loc_var (n := 0) (by rfl)) (.d .nil))) (fun _ => rfl) (fun _ => rfl) (by exact fun _ vs hl => match vs, hl with | [_, _], _ => by rfl) (fun _ => ⟨⟨_, (loc_var (n := 0) (by rfl))⟩, trivial⟩) (fun _ _ => (.cons (loc_var (n := 0) (by rfl)) .nil)) (fun _ => .inr (wkN (by rfl))) (fun _ _ _ h => h.elim))) ?_
          clear hst hw
          intro a369 σ H hw hst
          have hst : Stt F [some (oOb_Run F.K a369.2), some (oD eI v_cell), some (oL (e2 eP eI) v_noted), some (oD (eO eP) v_place), some (oD eI v_worth), none] [] σ H := hst
          obtain ⟨v_run, hw, hst⟩ := nm (P := fun v_run => Stt F [some (oOb_Run F.K v_run), some (oD eI v_cell), some (oL (e2 eP eI) v_noted), some (oD (eO eP) v_place), some (oD eI v_worth), none] [] σ H) hw hst
          exact hN366 v_run _ _ hw (hst.weak (.same (.same (.same (.same (.same (.same .nil)))))))
        · clear hst hw ok
          intro W365 hN366p H ok hw hst hN366
          refine s_dropX3 hst hw ok (mx_calm (Γx := List.replicate 6 none) (mx_methL (Γ' := fun (a371 : (Unit × S_Run)) => [some (oOb_Run F.K a371.2), some (oD eI v_cell), some (oL (e2 eP eI) v_noted), some (oD (eO eP) v_place), some (oD eI v_worth), none]) (Γk := fun _ => [some (oOb_Run F.K v_run), some (oD eI v_cell), some (oL (e2 eP eI) v_noted), some (oD (eO eP) v_place), some (oD eI v_worth), none]) (fun (x370 : Unit) => (v_run, v_worth)) (lv_var (n := 0) (by rfl)) (lk_none (by decide +kernel)) (mh_P (ev_var (i := 4) (by rfl)) mh_nil) (fun _ => (.p (loc_var (n := 0) (by rfl)) (.d .nil))) (fun _ => rfl) (fun _ => rfl) (by exact fun _ vs hl => match vs, hl with | [_, _], _ => by rfl) (fun _ => ⟨⟨_, (loc_var (n := 0) (by rfl))⟩, trivial⟩) (fun _ _ => (.cons (loc_var (n := 0) (by rfl)) .nil)) (fun _ => .inr (wkN (by rfl))) (fun _ _ _ h => h.elim))) ?_
          clear hst hw
          intro a372 σ H hw hst
          have hst : Stt F [some (oOb_Run F.K a372.2), some (oD eI v_cell), some (oL (e2 eP eI) v_noted), some (oD (eO eP) v_place), some (oD eI v_worth), none] [] σ H := hst
          obtain ⟨v_run, hw, hst⟩ := nm (P := fun v_run => Stt F [some (oOb_Run F.K v_run), some (oD eI v_cell), some (oL (e2 eP eI) v_noted), some (oD (eO eP) v_place), some (oD eI v_worth), none] [] σ H) hw hst
          exact hN366 v_run _ _ hw (hst.weak (.same (.same (.same (.same (.same (.same .nil)))))))
        · clear hst hw
          intro v_run σ H hw hst
          have hw : W (m_law_asked_J1 v_run v_noted) := hw
          have hst : Stt F [some (oOb_Run F.K v_run), some (oD eI v_cell), some (oL (e2 eP eI) v_noted), some (oD (eO eP) v_place), some (oD eI v_worth), none] [] σ H := hst
          replace hst := hst.weak (Γ' := [some (oOb_Run F.K v_run), none, some (oL (e2 eP eI) v_noted), none, none, none]) (.same (.drop (.same (.drop (.drop (.same .nil))))))
          unfold m_law_asked_J1 at hw
          refine q_nx ?_
          exact s_retM (t := oD eB) hst hw ok (mv_ok (t := oD eB) (ev_bl)) fun a v H w s => rt _ _ _ _ _ _ w ⟨_, (.s (by rfl) (.s (by rfl) .nil))⟩ s
theorem bn_law_run (tx : Tx K mg) : Binds K tx.d_law_run ["code", "cells"] [] := tx.F_law_run.bindsN fun _ _ _ _ _ _ us hl => match us, hl with | [_, _], _ => rfl
theorem ok_law_run (tx : Tx K mg) : FnOk P w K mg base (L2.CX P w) 7 tx.f_law_run tx.d_law_run ["code", "cells"] (sp_law_run K tx.Ce) := by
  refine tx.F_law_run.ok sc_law_run (fun vs H Q E h => spF_len (n := 2) rfl vs H Q E h) (fun cdv A outer s H vs Q E hr h => ⟨_, (pss_cons (ps_set (i := 2) sc_law_run.nd rfl (by first | exact Or.inl rfl | exact Or.inr rfl) (pe_callTy (r := rLstK K) call_list_of (by rfl) tx.n_list (by rfl) (pa_cons (pv 0) pa_nil))) (pss_cons (ps_set (i := 3) sc_law_run.nd rfl (by first | exact Or.inl rfl | exact Or.inr rfl) (pe_makeP (E := WE (fun cls d _ H => E cls d H)) tx.g_Run_init (ok_Run_init__L tx) (hr.mono (by decide)) (by rfl) tx.x_Run (bn_Run_init tx) (fun σ => passAt (takes_of rfl rfl rfl rfl) σ) (pa_cons (pv 2) pa_nil))) (pss_cons (ps_expr (pe_bm0 PySem.F.plainAttrs_list PySem.F.slot_list_clear PySem.F.type_list_clear mt_clear (pv 2))) (pss_cons (ps_set (i := 4) sc_law_run.nd rfl (by first | exact Or.inl rfl | exact Or.inr rfl) (pe_lst pa_nil)) (pss_cons (ps_set (i := 5) sc_law_run.nd rfl (by first | exact Or.inl rfl | exact Or.inr rfl) pe_int) (pss_cons (ps_if (pt_cmpR op_ne (pe_methP0 (E := WE (fun cls d _ H => E cls d H)) (pv 3) tx.cl_Run tx.g_Run_over (ok_Run_over tx) (hr.mono (by decide)) (bn_Run_over tx) (fun σ => passAt (takes_of rfl rfl rfl rfl) σ)) (pe_cmpR op_eq (pe_callB (r := rLenK K) call_len_seq (by rfl) tx.n_len (by rfl) (pa_cons (pv 0) pa_nil)) pe_int (by first | exact nomark _ | rfl)) (by first | exact nomark _ | rfl)) (pss_one (ps_ret pe_bl)) pss_nil) (pss_cons (ps_while (passes_of rfl) (pt_cmpR op_is_bl (pe_methP0 (E := WE (fun cls d _ H => E cls d H)) (pv 3) tx.cl_Run tx.g_Run_over (ok_Run_over tx) (hr.mono (by decide)) (bn_Run_over tx) (fun σ => passAt (takes_of rfl rfl rfl rfl) σ)) pe_bl (by first | exact nomark _ | rfl)) (pss_cons (ps_if (pw_or (pt_cmpR op_eq (pv 5) (pe_callB (r := rLenK K) call_len_seq (by rfl) tx.n_len (by rfl) (pa_cons (pv 0) pa_nil)) (by first | exact nomark _ | rfl)) (pw_or1 (pt_not (pt_val (pe_callS (E := WE (fun cls d _ H => E cls d H)) (ok_law_asked tx) (hr.mono (by decide)) (by rfl) tx.g_law_asked tx.F_law_asked.kp (bn_law_asked tx) (fun σ => passAt (takes_of rfl rfl rfl rfl) σ) (pa_cons (pv 3) (pa_cons (pe_op op_add (pe_ix (r := rIxL K) ix_list (pv 1) (pe_op op_mod (pv 5) (pe_callB (r := rLenK K) call_len_seq (by rfl) tx.n_len (by rfl) (pa_cons (pv 1) pa_nil))) (fun _ _ => rfl)) (pv 5)) (pa_cons (pv 4) pa_nil)))))))).pt (pss_one (ps_ret pe_bl)) pss_nil) (pss_one (ps_set (i := 5) sc_law_run.nd rfl (by first | exact Or.inl rfl | exact Or.inr rfl) (pe_op op_add (pv 5) pe_int))))) (pss_cons (ps_set (i := 6) sc_law_run.nd rfl (by first | exact Or.inl rfl | exact Or.inr rfl) (pe_methP0 (E := WE (fun cls d _ H => E cls d H)) (pv 3) tx.cl_Run tx.g_Run_paper (ok_Run_paper tx) (hr.mono (by decide)) (bn_Run_paper tx) (fun σ => passAt (takes_of rfl rfl rfl rfl) σ))) (pss_cons (ps_if (pw_or (pt_cmpR op_isnot_bl (pe_methP0 (E := WE (fun cls d _ H => E cls d H)) (pv 3) tx.cl_Run tx.g_Run_over (ok_Run_over tx) (hr.mono (by decide)) (bn_Run_over tx) (fun σ => passAt (takes_of rfl rfl rfl rfl) σ)) pe_bl (by first | exact nomark _ | rfl)) (pw_or (pt_cmpR op_notN (pe_methP0 (E := WE (fun cls d _ H => E cls d H)) (pv 3) tx.cl_Run tx.g_Run_asks (ok_Run_asks tx) (hr.mono (by decide)) (bn_Run_asks tx) (fun σ => passAt (takes_of rfl rfl rfl rfl) σ)) pe_non (by first | exact nomark _ | rfl)) (pw_or1 (pt_not (pt_val (pe_callS (E := WE (fun cls d _ H => E cls d H)) (ok_law_same tx) (hr.mono (by decide)) (by rfl) tx.g_law_same tx.F_law_same.kp (bn_law_same tx) (fun σ => passAt (takes_of rfl rfl rfl rfl) σ) (pa_cons (pv 6) (pa_cons (pv 4) pa_nil)))))))).pt (pss_one (ps_ret pe_bl)) pss_nil) (pss_cons (ps_set (i := 7) sc_law_run.nd rfl (by first | exact Or.inl rfl | exact Or.inr rfl) (pe_tup (pa_cons (pe_ix (r := rIxT K) ix_tup (pv 6) pe_int (fun _ _ => rfl)) (pa_cons (pe_callTy (r := rLstK K) call_list_of (by rfl) tx.n_list (by rfl) (pa_cons (pe_ix (r := rIxT K) ix_tup (pv 6) pe_int (fun _ _ => rfl)) pa_nil)) (pa_cons (pe_callTy (r := rLstK K) call_list_of (by rfl) tx.n_list (by rfl) (pa_cons (pe_ix (r := rIxT K) ix_tup (pv 6) pe_int (fun _ _ => rfl)) pa_nil)) pa_nil))))) (pss_cons (ps_expr (pe_methP (E := WE (fun cls d _ H => E cls d H)) (pv 3) tx.cl_Run tx.g_Run_step (ok_Run_step tx) (hr.mono (by decide)) (bn_Run_step tx) (fun σ => passAt (takes_of rfl rfl rfl rfl) σ) (pa_cons pe_int pa_nil))) (pss_cons (ps_expr (pe_bm PySem.F.plainAttrs_list PySem.F.slot_list_append PySem.F.type_list_append mt_append (pe_ix (r := rIxT K) ix_tup (pv 6) pe_int (fun _ _ => rfl)) (pa_cons (pe_tup (pa_cons (pe_tup (pa_cons pe_str (pa_cons pe_int pa_nil))) (pa_cons pe_int pa_nil))) pa_nil))) (pss_cons (ps_expr (pe_bm PySem.F.plainAttrs_list PySem.F.slot_list_append PySem.F.type_list_append mt_append (pe_ix (r := rIxT K) ix_tup (pv 6) pe_int (fun _ _ => rfl)) (pa_cons (pe_tup (pa_cons (pe_tup (pa_cons pe_str (pa_cons pe_int pa_nil))) (pa_cons pe_int pa_nil))) pa_nil))) (pss_one (ps_ret (pe_and (pe_cmpR op_is_bl (pe_methP0 (E := WE (fun cls d _ H => E cls d H)) (pv 3) tx.cl_Run tx.g_Run_over (ok_Run_over tx) (hr.mono (by decide)) (bn_Run_over tx) (fun σ => passAt (takes_of rfl rfl rfl rfl) σ)) pe_bl (by first | exact nomark _ | rfl)) (pe_and (pe_cmpR op_isN (pe_methP0 (E := WE (fun cls d _ H => E cls d H)) (pv 3) tx.cl_Run tx.g_Run_asks (ok_Run_asks tx) (hr.mono (by decide)) (bn_Run_asks tx) (fun σ => passAt (takes_of rfl rfl rfl rfl) σ)) pe_non (by first | exact nomark _ | rfl)) (pe_and (pe_callS (E := WE (fun cls d _ H => E cls d H)) (ok_law_same tx) (hr.mono (by decide)) (by rfl) tx.g_law_same tx.F_law_same.kp (bn_law_same tx) (fun σ => passAt (takes_of rfl rfl rfl rfl) σ) (pa_cons (pe_methP0 (E := WE (fun cls d _ H => E cls d H)) (pv 3) tx.cl_Run tx.g_Run_paper (ok_Run_paper tx) (hr.mono (by decide)) (bn_Run_paper tx) (fun σ => passAt (takes_of rfl rfl rfl rfl) σ)) (pa_cons (pv 4) pa_nil))) (pe_one (pe_cmpR (r := rEqD K) (op_eqD hr.units) (pe_methP0 (E := WE (fun cls d _ H => E cls d H)) (pv 3) tx.cl_Run tx.g_Run_paper (ok_Run_paper tx) (hr.mono (by decide)) (bn_Run_paper tx) (fun σ => passAt (takes_of rfl rfl rfl rfl) σ)) (pv 7) (by first | exact nomark _ | rfl))))))))))))))))))))), ?_⟩)
  obtain ⟨x, F, W, rfl, ni, hst, hw, ok, rt⟩ := spD_start N_law_run h
  obtain ⟨v_code, v_cells⟩ := x
  generalize L2.start N_law_run vs = σ at hst ⊢
  have hw : W (m_law_run v_code v_cells) := hw
  replace ok := ok (List.replicate 8 none)
  have hst : Stt F [some (oD (eL (eU eA)) v_code), some (oD (eL eI) v_cells), none, none, none, none, none, none] [] σ H := hst
  unfold m_law_run at hw
  refine q_seq ?_
  refine s_asgM (t := oL (eU eA)) hst hw ok (mv_ok (t := oL (eU eA)) ((ev_listLE (enc := (eU eA)) (el_dat (ev_var (i := 0) (by rfl)))))) (show 2 < 8 by decide) (ni _) ?_
  clear hst hw
  intro v_handed σ H hw hst
  refine q_nx ?_
  refine q_seq ?_
  refine s_asgX3 (t := fun (a376 : (Unit × S_Run × (List (List Dt)))) => oOb_Run F.K a376.2.1) hst hw ok (mx_makeL (Γ' := fun (a375 : (Unit × S_Run × (List (List Dt)))) => [some (oD (eL (eU eA)) v_code), some (oD (eL eI) v_cells), some (oL (eU eA) a375.2.2), none, none, none, none, none]) (fun (x374 : Unit) => v_handed) (mh_A (lv_var (n := 2) (by rfl)) mh_nil) (fun _ => (.p (loc_var (n := 2) (by rfl)) .nil)) (fun _ => rfl) (fun _ => rfl) (by exact fun _ _ vs hl => match vs, hl with | [_], _ => by rfl) (fun _ => ⟨⟨_, (loc_var (n := 2) (by rfl))⟩, trivial⟩) (fun _ _ => (.cons (loc_var (n := 2) (by rfl)) .nil)) (fun _ => (wkN (by rfl))) (fun _ _ _ h => h)) (fun _ => by show 3 < 8; decide) (ni _) ?_
  clear hst hw
  intro a376 σ H hw hst
  have hst : Stt F [some (oD (eL (eU eA)) v_code), some (oD (eL eI) v_cells), some (oL (eU eA) a376.2.2), some (oOb_Run F.K a376.2.1), none, none, none, none] [] σ H := hst
  obtain ⟨v_handed, hw, hst⟩ := nm (P := fun v_handed => Stt F [some (oD (eL (eU eA)) v_code), some (oD (eL eI) v_cells), some (oL (eU eA) v_handed), some (oOb_Run F.K a376.2.1), none, none, none, none] [] σ H) hw hst
  obtain ⟨v_run, hw, hst⟩ := nm (P := fun v_run => Stt F [some (oD (eL (eU eA)) v_code), some (oD (eL eI) v_cells), some (oL (eU eA) v_handed), some (oOb_Run F.K v_run), none, none, none, none] [] σ H) hw hst
  refine q_nx ?_
  refine q_seq ?_
  refine s_lvClrD (enc := (eU eA)) (ys := v_handed) hst (lv_var (n := 2) (by rfl)) ?_
  clear hst
  intro σ H hst
  have hst : Stt F [some (oD (eL (eU eA)) v_code), some (oD (eL eI) v_cells), some (oL (eU eA) ([] : (List (List Dt)))), some (oOb_Run F.K v_run), none, none, none, none] [] σ H := hst
  obtain ⟨v_handed, hw, hst⟩ := nm (P := fun v_handed => Stt F [some (oD (eL (eU eA)) v_code), some (oD (eL eI) v_cells), some (oL (eU eA) v_handed), some (oOb_Run F.K v_run), none, none, none, none] [] σ H) hw hst
  refine q_nx ?_
  refine q_seq ?_
  refine s_asgM (t := oL (e2 eP eI)) hst hw ok (mv_ok (t := oL (e2 eP eI)) ((ev_lst ea_nil (show 0 ≤ 1000 by decide)))) (show 4 < 8 by decide) (ni _) ?_
  clear hst hw
  intro v_noted σ H hw hst
  refine q_nx ?_
  refine q_seq ?_
  refine s_asgM (t := oD eI) hst hw ok (mv_ok (t := oD eI) (ev_int)) (show 5 < 8 by decide) (ni _) ?_
  clear hst hw
  intro v_steps σ H hw hst
  refine q_nx ?_
  refine q_seq ?_
  refine s_ifM hst hw ok (mt_test (mv_op (mv_methQ (enc := eB) (x := v_run) (eq_lv (rdo_ins (rdoa_cons rdo_dat (rdoa_cons rdo_dat (rdoa_cons rdo_oK (rdoa_cons rdo_oKT (rdoa_cons rdo_oKT (rdoa_cons rdo_oL (rdoa_cons rdo_dat rdoa_nil)))))))) (lv_var (n := 3) (by rfl))) (lk_none (by decide +kernel)) eaq_nil rfl rfl (fun _ _ _ h => h) (wkN (by rfl)) imm_B) (fun _ => (mv_ok (t := oD eB) ((ev_eqI (ev_lenLE (enc := (eU eA)) (el_dat (ev_var (i := 0) (by rfl)))) ev_int)))) fun _ _ => om_ok (op2_neB))) ?_ ?_
  · clear hst hw
    intro H hw hst
    exact s_retF (t := oD eB) hst hw ok (mv_ok (t := oD eB) (ev_bl)) fun a v H w s => rt _ _ _ _ _ _ w s
  · clear hst hw
    intro H hw hst
    refine s_next ?_
    refine q_nx ?_
    refine q_seq ?_
    refine s_whileM (S := (S_Run × (List ((List Nat × Int) × Int)) × Int)) (β := Bool) (Γs := fun s381 => [some (oD (eL (eU eA)) v_code), some (oD (eL eI) v_cells), none, some (oOb_Run F.K s381.1), some (oL (e2 eP eI) s381.2.1), some (oD eI s381.2.2), none, none]) (s0 := (v_run, v_noted, v_steps)) hst hw ok (.same (.same (.drop (.same (.same (.same (.same (.same .nil)))))))) ?_ ?_ ?_
    · clear hst hw
      intro s381
      obtain ⟨v_run, v_noted, v_steps⟩ := s381
      show MT F _ _ _ [some (oD (eL (eU eA)) v_code), some (oD (eL eI) v_cells), none, some (oOb_Run F.K v_run), some (oL (e2 eP eI) v_noted), some (oD eI v_steps), none, none] (m_law_run_Q1 v_run)
      unfold m_law_run_Q1
      exact (mt_test (mv_op (mv_methQ (enc := eB) (x := v_run) (eq_lv (rdo_ins (rdoa_cons rdo_dat (rdoa_cons rdo_dat (rdoa_cons rdo_oK (rdoa_cons rdo_oKT (rdoa_cons rdo_oKT (rdoa_cons rdo_oL (rdoa_cons rdo_dat rdoa_nil)))))))) (lv_var (n := 3) (by rfl))) (lk_none (by decide +kernel)) eaq_nil rfl rfl (fun _ _ _ h => h) (wkN (by rfl)) imm_B) (fun _ => (mv_ok (t := oD eB) (ev_bl))) fun _ _ => om_ok (op2_isBl)))
    · clear hst hw ok
      intro s381 W382 hN383p hB384p σ H ok r385 hw hst hN383 hB384
      obtain ⟨v_run, v_noted, v_steps⟩ := s381
      have rt388 := fun a v T Γ σ H' w s => rt a v T Γ σ H' (r385 a w) s
      have hw : W382 (m_law_run_L1 v_code v_cells v_run v_noted v_steps) := hw
      have hst : Stt F [some (oD (eL (eU eA)) v_code), some (oD (eL eI) v_cells), none, some (oOb_Run F.K v_run), some (oL (e2 eP eI) v_noted), some (oD eI v_steps), none, none] [] σ H := hst
      unfold m_law_run_L1 at hw
      refine q_seq ?_
      refine s_ifX3 (b := fun (a397 : (Bool × (S_Run × (List ((List Nat × Int) × Int))))) => a397.1) hst hw ok (mtn_or (m2 := fun (sw390 : (S_Run × (List ((List Nat × Int) × Int)))) => ((((R.guard (0 < (v_cells.length : Int)) (R.guard (inB v_cells (v_steps % (v_cells.length : Int))) (R.ok ()))).bind fun x393 => m_law_asked sw390.1 ((getI v_cells (v_steps % (v_cells.length : Int))) + v_steps) sw390.2).bind fun a395 => R.ok (a395.1, (a395.2.1, a395.2.2))).bind fun x => R.ok (!x.1, x.2))) (mtn_pure (Γn := fun (sv389 : (S_Run × (List ((List Nat × Int) × Int)))) => [some (oD (eL (eU eA)) v_code), some (oD (eL eI) v_cells), none, some (oOb_Run F.K sv389.1), some (oL (e2 eP eI) sv389.2), some (oD eI v_steps), none, none]) (v_run, v_noted) (by rfl) (mt_ok (et_test (ev_eqI (ev_var (i := 5) (by rfl)) (ev_lenLE (enc := (eU eA)) (el_dat (ev_var (i := 0) (by rfl)))))))) (fun sw390 => (mtn_not (mtn_of (b := fun (a395 : (Bool × S_Run × (List ((List Nat × Int) × Int)))) => a395.1) (Γn := fun (sv389 : (S_Run × (List ((List Nat × Int) × Int)))) => [some (oD (eL (eU eA)) v_code), some (oD (eL eI) v_cells), none, some (oOb_Run F.K sv389.1), some (oL (e2 eP eI) sv389.2), some (oD eI v_steps), none, none]) (fun (a395 : (Bool × S_Run × (List ((List Nat × Int) × Int)))) => (a395.2.1, a395.2.2)) (fun _ => by rfl) (mtx_B (mx_callL (Γ' := fun (a394 : (Bool × S_Run × (List ((List Nat × Int) × Int)))) => [some (oD (eL (eU eA)) v_code), some (oD (eL eI) v_cells), none, some (oOb_Run F.K a394.2.1), some (oL (e2 eP eI) a394.2.2), some (oD eI v_steps), none, none]) (Γk := fun _ => [some (oD (eL (eU eA)) v_code), some (oD (eL eI) v_cells), none, some (oOb_Run F.K sw390.1), some (oL (e2 eP eI) sw390.2), some (oD eI v_steps), none, none]) (fun (x393 : Unit) => (sw390.1, ((getI v_cells (v_steps % (v_cells.length : Int))) + v_steps), sw390.2)) (mh_guard fun g391 => (mh_guard fun g392 => (mh_A (lv_var (n := 3) (by rfl)) (mh_P (ev_add (ev_ixL (enc := eI) g392 (el_dat (ev_var (i := 1) (by rfl))) (ev_mod g391 (ev_var (i := 5) (by rfl)) (ev_lenLE (enc := eI) (el_dat (ev_var (i := 1) (by rfl)))))) (ev_var (i := 5) (by rfl))) (mh_A (lv_var (n := 4) (by rfl)) mh_nil))))) (fun _ => (.p (loc_var (n := 3) (by rfl)) (.d (.p (loc_var (n := 4) (by rfl)) .nil)))) (fun _ => rfl) (fun _ => rfl) (by exact fun _ vs hl => match vs, hl with | [_, _, _], _ => by rfl) (fun _ => ⟨⟨_, (loc_var (n := 3) (by rfl))⟩, ⟨⟨_, (loc_var (n := 4) (by rfl))⟩, trivial⟩⟩) (fun _ _ => (.cons (loc_var (n := 3) (by rfl)) (.cons (loc_var (n := 4) (by rfl)) .nil))) (fun _ => .inr (wkN (by rfl))) (fun _ _ _ h => h))))))) ?_ ?_
      · clear hst hw
        intro a397 H hw hst
        have hst : Stt F [some (oD (eL (eU eA)) v_code), some (oD (eL eI) v_cells), none, some (oOb_Run F.K a397.2.1), some (oL (e2 eP eI) a397.2.2), some (oD eI v_steps), none, none] [] σ H := hst
        obtain ⟨v_run, hw, hst⟩ := nm (P := fun v_run => Stt F [some (oD (eL (eU eA)) v_code), some (oD (eL eI) v_cells), none, some (oOb_Run F.K v_run), some (oL (e2 eP eI) a397.2.2), some (oD eI v_steps), none, none] [] σ H) hw hst
        obtain ⟨v_noted, hw, hst⟩ := nm (P := fun v_noted => Stt F [some (oD (eL (eU eA)) v_code), some (oD (eL eI) v_cells), none, some (oOb_Run F.K v_run), some (oL (e2 eP eI) v_noted), some (oD eI v_steps), none, none] [] σ H) hw hst
        exact s_retM (t := oD eB) hst hw ok (mv_ok (t := oD eB) (ev_bl)) fun a v H w s => rt388 _ _ _ _ _ _ w s
      · clear hst hw
        intro a397 H hw hst
        have hst : Stt F [some (oD (eL (eU eA)) v_code), some (oD (eL eI) v_cells), none, some (oOb_Run F.K a397.2.1), some (oL (e2 eP eI) a397.2.2), some (oD eI v_steps), none, none] [] σ H := hst
        obtain ⟨v_run, hw, hst⟩ := nm (P := fun v_run => Stt F [some (oD (eL (eU eA)) v_code), some (oD (eL eI) v_cells), none, some (oOb_Run F.K v_run), some (oL (e2 eP eI) a397.2.2), some (oD eI v_steps), none, none] [] σ H) hw hst
        obtain ⟨v_noted, hw, hst⟩ := nm (P := fun v_noted => Stt F [some (oD (eL (eU eA)) v_code), some (oD (eL eI) v_cells), none, some (oOb_Run F.K v_run), some (oL (e2 eP eI) v_noted), some (oD eI v_steps), none, none] [] σ H) hw hst
        refine s_next ?_
        refine q_nx ?_
        refine s_asgM (t := oD eI) hst hw ok (mv_ok (t := oD eI) ((ev_add (ev_var (i := 5) (by rfl)) ev_int))) (show 5 < 8 by decide) (ni _) ?_
        clear hst hw
        intro v_steps σ H hw hst
        exact hN383 (v_run, v_noted, v_steps) _ _ hw (hst.weak (.same (.same (.same (.same (.same (.same (.same (.same .nil)))))))))
    · clear hst hw
      intro s381 σ H hw hst
      obtain ⟨v_run, v_noted, v_steps⟩ := s381
      have hw : W (m_law_run_J1 v_run v_noted) := hw
      have hst : Stt F [some (oD (eL (eU eA)) v_code), some (oD (eL eI) v_cells), none, some (oOb_Run F.K v_run), some (oL (e2 eP eI) v_noted), some (oD eI v_steps), none, none] [] σ H := hst
      replace hst := hst.weak (Γ' := [none, none, none, some (oOb_Run F.K v_run), some (oL (e2 eP eI) v_noted), none, none, none]) (.drop (.drop (.same (.same (.same (.drop (.same (.same .nil))))))))
      unfold m_law_run_J1 at hw
      refine q_nx ?_
      refine q_seq ?_
      refine s_asgX3 (t := fun (a400 : ((Option (((List Nat) × Dt) × (List ((List Nat × Int) × Int)) × (List ((List Nat × Int) × Int)))) × S_Run)) => oOpt (oTr (e2 eS eA) (e2 eP eI) (e2 eP eI)) a400.1) hst hw ok (mx_methL (Γ' := fun (a399 : ((Option (((List Nat) × Dt) × (List ((List Nat × Int) × Int)) × (List ((List Nat × Int) × Int)))) × S_Run)) => [none, none, none, some (oOb_Run F.K a399.2), some (oL (e2 eP eI) v_noted), none, none, none]) (Γk := fun _ => [none, none, none, some (oOb_Run F.K v_run), some (oL (e2 eP eI) v_noted), none, none, none]) (fun (x398 : Unit) => v_run) (lv_var (n := 3) (by rfl)) (lk_none (by decide +kernel)) mh_nil (fun _ => (.p (loc_var (n := 3) (by rfl)) .nil)) (fun _ => rfl) (fun _ => rfl) (by exact fun _ vs hl => match vs, hl with | [_], _ => by rfl) (fun _ => ⟨⟨_, (loc_var (n := 3) (by rfl))⟩, trivial⟩) (fun _ _ => (.cons (loc_var (n := 3) (by rfl)) .nil)) (fun _ => .inr (wkN (by rfl))) (fun _ _ _ h => h)) (fun _ => by show 6 < 8; decide) (ni _) ?_
      clear hst hw
      intro a400 σ H hw hst
      have hst : Stt F [none, none, none, some (oOb_Run F.K a400.2), some (oL (e2 eP eI) v_noted), none, some (oOpt (oTr (e2 eS eA) (e2 eP eI) (e2 eP eI)) a400.1), none] [] σ H := hst
      obtain ⟨v_run, hw, hst⟩ := nm (P := fun v_run => Stt F [none, none, none, some (oOb_Run F.K v_run), some (oL (e2 eP eI) v_noted), none, some (oOpt (oTr (e2 eS eA) (e2 eP eI) (e2 eP eI)) a400.1), none] [] σ H) hw hst
      obtain ⟨v_paper, hw, hst⟩ := nm (P := fun v_paper => Stt F [none, none, none, some (oOb_Run F.K v_run), some (oL (e2 eP eI) v_noted), none, some (oOpt (oTr (e2 eS eA) (e2 eP eI) (e2 eP eI)) v_paper), none] [] σ H) hw hst
      refine q_nx ?_
      refine q_seq ?_
      have hst := hst.freezeAt (i := 4) (by rfl)
      refine s_ifM hst hw ok (mt_or (mt_test (mv_op (mv_methQ (enc := eB) (x := v_run) (eq_lv (rdo_ins (rdoa_cons rdo_dat (rdoa_cons rdo_dat (rdoa_cons rdo_oK (rdoa_cons rdo_oKT (rdoa_cons rdo_oKT (rdoa_cons rdo_oL (rdoa_cons rdo_dat rdoa_nil)))))))) (lv_var (n := 3) (by rfl))) (lk_none (by decide +kernel)) eaq_nil rfl rfl (fun _ _ _ h => h) (wkN (by rfl)) imm_B) (fun _ => (mv_ok (t := oD eB) (ev_bl))) fun _ _ => om_ok (op2_isnotBl))) (mt_or (mt_test (mv_op (mv_methQ (enc := (eO eP)) (x := v_run) (eq_lv (rdo_ins (rdoa_cons rdo_dat (rdoa_cons rdo_dat (rdoa_cons rdo_oK (rdoa_cons rdo_oKT (rdoa_cons rdo_oKT (rdoa_cons rdo_oL (rdoa_cons rdo_dat rdoa_nil)))))))) (lv_var (n := 3) (by rfl))) (lk_none (by decide +kernel)) eaq_nil rfl rfl (fun _ _ _ h => h) (wkN (by rfl)) (imm_O imm_P)) (fun _ => mv_ok (t := oD eN) ev_non) fun _ _ => om_ok (op2_notNO (enc := eP) (by intro a h; cases h)))) (mt_not (mt_B (mv_callQ (enc := eB) (x := (((eO (e3 (e2 eS eA) (eL (e2 eP eI)) (eL (e2 eP eI)))) v_paper), v_noted)) (eaq_cons (eq_lv (rdo_oOpt (fun _ => rdo_oTr)) (lv_var (n := 6) (by rfl))) (eaq_cons (eq_d (ev_var (i := 4) (by rfl))) eaq_nil)) rfl rfl (fun _ _ _ h => h) (wkN (by rfl)) sc_B))))) ?_ ?_
      · clear hst hw
        intro H hw hst
        exact s_retF (t := oD eB) hst hw ok (mv_ok (t := oD eB) (ev_bl)) fun a v H w s => rt _ _ _ _ _ _ w s
      · clear hst hw
        intro H hw hst
        refine s_next ?_
        refine q_nx ?_
        obtain ⟨g403, hw⟩ := R.guard_ok ok hw
        have hst : Stt F [none, none, none, some (oOb_Run F.K v_run), some (oD (eL (e2 eP eI)) v_noted), none, some (oTr (e2 eS eA) (e2 eP eI) (e2 eP eI) (v_paper.getD default)), none] [] σ H := Stt.someO (n := 6) (fo := oTr (e2 eS eA) (e2 eP eI) (e2 eP eI)) g403 (by rfl) hst
        obtain ⟨v_paper, hw, hst⟩ := nm (P := fun v_paper => Stt F [none, none, none, some (oOb_Run F.K v_run), some (oD (eL (e2 eP eI)) v_noted), none, some (oTr (e2 eS eA) (e2 eP eI) (e2 eP eI) v_paper), none] [] σ H) hw hst
        obtain ⟨l404, u405, u406, u407, hst⟩ := Stt.openT (n := 6) (t0 := oD (e2 eS eA) v_paper.1) (t1 := oL (e2 eP eI) v_paper.2.1) (t2 := oL (e2 eP eI) v_paper.2.2) hst (by rfl)
        have hst : Stt F [none, none, none, some (oOb_Run F.K v_run), some (oD (eL (e2 eP eI)) v_noted), none, some (Own.at_ (.ref l404) (Own.tup [Own.at_ u405 (oD (e2 eS eA) v_paper.1), Own.at_ u406 (oL (e2 eP eI) v_paper.2.1), Own.at_ u407 (oL (e2 eP eI) v_paper.2.2)])), none] [] σ H := hst
        refine q_seq ?_
        refine s_asgM (t := oD (e3 (e2 eS eA) (eL (e2 eP eI)) (eL (e2 eP eI)))) hst hw ok (mv_ok (t := oD (e3 (e2 eS eA) (eL (e2 eP eI)) (eL (e2 eP eI)))) ((ev_tup (ea_cons (ev_lv (lv_conT (n := 6) (k := 0) (by rfl) (by rfl) ev_int)) (ea_cons (ev_frz (ev_listLE (enc := (e2 eP eI)) (el_lv (lv_conT (n := 6) (k := 1) (by rfl) (by rfl) ev_int)))) (ea_cons (ev_frz (ev_listLE (enc := (e2 eP eI)) (el_lv (lv_conT (n := 6) (k := 2) (by rfl) (by rfl) ev_int)))) ea_nil))) (show 3 ≤ 1000 by decide)))) (show 7 < 8 by decide) (ni _) ?_
        clear hst hw
        intro v_kept σ H hw hst
        refine q_nx ?_
        refine q_seq ?_
        refine s_dropX3 hst hw ok (mx_methL (Γ' := fun (a409 : (Unit × S_Run)) => [none, none, none, some (oOb_Run F.K a409.2), some (oD (eL (e2 eP eI)) v_noted), none, some (Own.at_ (.ref l404) (Own.tup [Own.at_ u405 (oD (e2 eS eA) v_paper.1), Own.at_ u406 (oL (e2 eP eI) v_paper.2.1), Own.at_ u407 (oL (e2 eP eI) v_paper.2.2)])), some (oD (e3 (e2 eS eA) (eL (e2 eP eI)) (eL (e2 eP eI))) v_kept)]) (Γk := fun _ => [none, none, none, some (oOb_Run F.K v_run), some (oD (eL (e2 eP eI)) v_noted), none, some (Own.at_ (.ref l404) (Own.tup [Own.at_ u405 (oD (e2 eS eA) v_paper.1), Own.at_ u406 (oL (e2 eP eI) v_paper.2.1), Own.at_ u407 (oL (e2 eP eI) v_paper.2.2)])), some (oD (e3 (e2 eS eA) (eL (e2 eP eI)) (eL (e2 eP eI))) v_kept)]) (fun (x408 : Unit) => (v_run, (7 : Int))) (lv_var (n := 3) (by rfl)) (lk_none (by decide +kernel)) (mh_P ev_int mh_nil) (fun _ => (.p (loc_var (n := 3) (by rfl)) (.d .nil))) (fun _ => rfl) (fun _ => rfl) (by exact fun _ vs hl => match vs, hl with | [_, _], _ => by rfl) (fun _ => ⟨⟨_, (loc_var (n := 3) (by rfl))⟩, trivial⟩) (fun _ _ => (.cons (loc_var (n := 3) (by rfl)) .nil)) (fun _ => .inr (wkN (by rfl))) (fun _ _ _ h => h)) ?_
        clear hst hw
        intro a410 σ H hw hst
        have hst : Stt F [none, none, none, some (oOb_Run F.K a410.2), some (oD (eL (e2 eP eI)) v_noted), none, some (Own.at_ (.ref l404) (Own.tup [Own.at_ u405 (oD (e2 eS eA) v_paper.1), Own.at_ u406 (oL (e2 eP eI) v_paper.2.1), Own.at_ u407 (oL (e2 eP eI) v_paper.2.2)])), some (oD (e3 (e2 eS eA) (eL (e2 eP eI)) (eL (e2 eP eI))) v_kept)] [] σ H := hst
        obtain ⟨v_run, hw, hst⟩ := nm (P := fun v_run => Stt F [none, none, none, some (oOb_Run F.K v_run), some (oD (eL (e2 eP eI)) v_noted), none, some (Own.at_ (.ref l404) (Own.tup [Own.at_ u405 (oD (e2 eS eA) v_paper.1), Own.at_ u406 (oL (e2 eP eI) v_paper.2.1), Own.at_ u407 (oL (e2 eP eI) v_paper.2.2)])), some (oD (e3 (e2 eS eA) (eL (e2 eP eI)) (eL (e2 eP eI))) v_kept)] [] σ H) hw hst
        refine q_nx ?_
        refine q_seq ?_
        refine s_lvApp (enc := (e2 eP eI)) (ys := v_paper.2.1) hst hw ok (lv_conT (n := 6) (k := 1) (by rfl) (by rfl) ev_int) (mv_ok (t := oD (e2 eP eI)) ((ev_tup (ea_cons (ev_tupP (ea_cons ev_lit (ea_cons ev_int ea_nil))) (ea_cons ev_int ea_nil)) (show 2 ≤ 1000 by decide)))) ?_
        clear hst hw
        intro v411 σ H hw hst
        have hst : Stt F [none, none, none, some (oOb_Run F.K v_run), some (oD (eL (e2 eP eI)) v_noted), none, some (Own.at_ (.ref l404) (Own.tup [Own.at_ u405 (oD (e2 eS eA) (v_paper.1, v411, v_paper.2.2).1), Own.at_ u406 (oL (e2 eP eI) (v_paper.1, v411, v_paper.2.2).2.1), Own.at_ u407 (oL (e2 eP eI) (v_paper.1, v411, v_paper.2.2).2.2)])), some (oD (e3 (e2 eS eA) (eL (e2 eP eI)) (eL (e2 eP eI))) v_kept)] [] σ H := hst
        obtain ⟨v_paper, hw, hst⟩ := nm (P := fun v_paper => Stt F [none, none, none, some (oOb_Run F.K v_run), some (oD (eL (e2 eP eI)) v_noted), none, some (Own.at_ (.ref l404) (Own.tup [Own.at_ u405 (oD (e2 eS eA) v_paper.1), Own.at_ u406 (oL (e2 eP eI) v_paper.2.1), Own.at_ u407 (oL (e2 eP eI) v_paper.2.2)])), some (oD (e3 (e2 eS eA) (eL (e2 eP eI)) (eL (e2 eP eI))) v_kept)] [] σ H) hw hst
        refine q_nx ?_
        refine q_seq ?_
        refine s_lvApp (enc := (e2 eP eI)) (ys := v_paper.2.2) hst hw ok (lv_conT (n := 6) (k := 2) (by rfl) (by rfl) ev_int) (mv_ok (t := oD (e2 eP eI)) ((ev_tup (ea_cons (ev_tupP (ea_cons ev_lit (ea_cons ev_int ea_nil))) (ea_cons ev_int ea_nil)) (show 2 ≤ 1000 by decide)))) ?_
        clear hst hw
        intro v413 σ H hw hst
        have hst : Stt F [none, none, none, some (oOb_Run F.K v_run), some (oD (eL (e2 eP eI)) v_noted), none, some (Own.at_ (.ref l404) (Own.tup [Own.at_ u405 (oD (e2 eS eA) (v_paper.1, v_paper.2.1, v413).1), Own.at_ u406 (oL (e2 eP eI) (v_paper.1, v_paper.2.1, v413).2.1), Own.at_ u407 (oL (e2 eP eI) (v_paper.1, v_paper.2.1, v413).2.2)])), some (oD (e3 (e2 eS eA) (eL (e2 eP eI)) (eL (e2 eP eI))) v_kept)] [] σ H := hst
        obtain ⟨v_paper, hw, hst⟩ := nm (P := fun v_paper => Stt F [none, none, none, some (oOb_Run F.K v_run), some (oD (eL (e2 eP eI)) v_noted), none, some (Own.at_ (.ref l404) (Own.tup [Own.at_ u405 (oD (e2 eS eA) v_paper.1), Own.at_ u406 (oL (e2 eP eI) v_paper.2.1), Own.at_ u407 (oL (e2 eP eI) v_paper.2.2)])), some (oD (e3 (e2 eS eA) (eL (e2 eP eI)) (eL (e2 eP eI))) v_kept)] [] σ H) hw hst
        refine q_nx ?_
        exact s_retX3 (t := fun (a434 : (Bool × S_Run)) => oD eB a434.1) hst hw ok (mxn_and (m2 := fun (sw418 : S_Run) => ((((m_Run_asks sw418).bind fun x => (R.ok ()).bind fun _ => R.ok (Option.isNone x)).bind fun b => R.ok (b, sw418)).bind fun x432 => if x432.1 = true then ((((((R.ok ()).bind fun x422 => m_Run_paper x432.2).bind fun a424 => (R.ok ()).bind fun b => R.ok (a424, b)).bind fun x425 => (m_law_same ((eO (e3 (e2 eS eA) (eL (e2 eP eI)) (eL (e2 eP eI)))) x425.1.1) v_noted).bind fun r => R.ok (x425, r)).bind fun a426 => R.ok (a426.2, a426.1.1.2)).bind fun x431 => if x431.1 = true then ((((R.ok ()).bind fun x428 => m_Run_paper x431.2).bind fun a430 => R.guard (gQ2 ((eO (e3 (e2 eS eA) (eL (e2 eP eI)) (eL (e2 eP eI)))) a430.1) ((e3 (e2 eS eA) (eL (e2 eP eI)) (eL (e2 eP eI))) v_kept)) (R.ok a430)).bind fun a430 => R.ok ((eqD ((eO (e3 (e2 eS eA) (eL (e2 eP eI)) (eL (e2 eP eI)))) a430.1) ((e3 (e2 eS eA) (eL (e2 eP eI)) (eL (e2 eP eI))) v_kept)), a430.2)) else R.ok (false, x431.2)) else R.ok (false, x432.2))) (mxn_pure (Γn := fun (sv415 : S_Run) => [none, none, none, some (oOb_Run F.K sv415), some (oD (eL (e2 eP eI)) v_noted), none, some (Own.at_ (.ref l404) (Own.tup [Own.at_ u405 (oD (e2 eS eA) v_paper.1), Own.at_ u406 (oL (e2 eP eI) v_paper.2.1), Own.at_ u407 (oL (e2 eP eI) v_paper.2.2)])), some (oD (e3 (e2 eS eA) (eL (e2 eP eI)) (eL (e2 eP eI))) v_kept)]) v_run (by rfl) (mv_op (mv_methQ (enc := eB) (x := v_run) (eq_lv (rdo_ins (rdoa_cons rdo_dat (rdoa_cons rdo_dat (rdoa_cons rdo_oK (rdoa_cons rdo_oKT (rdoa_cons rdo_oKT (rdoa_cons rdo_oL (rdoa_cons rdo_dat rdoa_nil)))))))) (lv_var (n := 3) (by rfl))) (lk_none (by decide +kernel)) eaq_nil rfl rfl (fun _ _ _ h => h) (wkN (by rfl)) imm_B) (fun _ => (mv_ok (t := oD eB) (ev_bl))) fun _ _ => om_ok (op2_isBl))) (fun sw418 => (mxn_and (m2 := fun (sw419 : S_Run) => ((((((R.ok ()).bind fun x422 => m_Run_paper sw419).bind fun a424 => (R.ok ()).bind fun b => R.ok (a424, b)).bind fun x425 => (m_law_same ((eO (e3 (e2 eS eA) (eL (e2 eP eI)) (eL (e2 eP eI)))) x425.1.1) v_noted).bind fun r => R.ok (x425, r)).bind fun a426 => R.ok (a426.2, a426.1.1.2)).bind fun x431 => if x431.1 = true then ((((R.ok ()).bind fun x428 => m_Run_paper x431.2).bind fun a430 => R.guard (gQ2 ((eO (e3 (e2 eS eA) (eL (e2 eP eI)) (eL (e2 eP eI)))) a430.1) ((e3 (e2 eS eA) (eL (e2 eP eI)) (eL (e2 eP eI))) v_kept)) (R.ok a430)).bind fun a430 => R.ok ((eqD ((eO (e3 (e2 eS eA) (eL (e2 eP eI)) (eL (e2 eP eI)))) a430.1) ((e3 (e2 eS eA) (eL (e2 eP eI)) (eL (e2 eP eI))) v_kept)), a430.2)) else R.ok (false, x431.2))) (mxn_pure (Γn := fun (sv415 : S_Run) => [none, none, none, some (oOb_Run F.K sv415), some (oD (eL (e2 eP eI)) v_noted), none, some (Own.at_ (.ref l404) (Own.tup [Own.at_ u405 (oD (e2 eS eA) v_paper.1), Own.at_ u406 (oL (e2 eP eI) v_paper.2.1), Own.at_ u407 (oL (e2 eP eI) v_paper.2.2)])), some (oD (e3 (e2 eS eA) (eL (e2 eP eI)) (eL (e2 eP eI))) v_kept)]) sw418 (by rfl) (mv_op (mv_methQ (enc := (eO eP)) (x := sw418) (eq_lv (rdo_ins (rdoa_cons rdo_dat (rdoa_cons rdo_dat (rdoa_cons rdo_oK (rdoa_cons rdo_oKT (rdoa_cons rdo_oKT (rdoa_cons rdo_oL (rdoa_cons rdo_dat rdoa_nil)))))))) (lv_var (n := 3) (by rfl))) (lk_none (by decide +kernel)) eaq_nil rfl rfl (fun _ _ _ h => h) (wkN (by rfl)) (imm_O imm_P)) (fun _ => mv_ok (t := oD eN) ev_non) fun _ _ => om_ok (op2_isNO (enc := eP) (by intro a h; cases h)))) (fun sw419 => (mxn_and (m2 := fun (sw427 : S_Run) => ((((R.ok ()).bind fun x428 => m_Run_paper sw427).bind fun a430 => R.guard (gQ2 ((eO (e3 (e2 eS eA) (eL (e2 eP eI)) (eL (e2 eP eI)))) a430.1) ((e3 (e2 eS eA) (eL (e2 eP eI)) (eL (e2 eP eI))) v_kept)) (R.ok a430)).bind fun a430 => R.ok ((eqD ((eO (e3 (e2 eS eA) (eL (e2 eP eI)) (eL (e2 eP eI)))) a430.1) ((e3 (e2 eS eA) (eL (e2 eP eI)) (eL (e2 eP eI))) v_kept)), a430.2))) (mxn_of (b := fun (a426 : ((((Option (((List Nat) × Dt) × (List ((List Nat × Int) × Int)) × (List ((List Nat × Int) × Int)))) × S_Run) × Unit) × Bool)) => a426.2) (Γn := fun (sv415 : S_Run) => [none, none, none, some (oOb_Run F.K sv415), some (oD (eL (e2 eP eI)) v_noted), none, some (Own.at_ (.ref l404) (Own.tup [Own.at_ u405 (oD (e2 eS eA) v_paper.1), Own.at_ u406 (oL (e2 eP eI) v_paper.2.1), Own.at_ u407 (oL (e2 eP eI) v_paper.2.2)])), some (oD (e3 (e2 eS eA) (eL (e2 eP eI)) (eL (e2 eP eI))) v_kept)]) (fun (a426 : ((((Option (((List Nat) × Dt) × (List ((List Nat × Int) × Int)) × (List ((List Nat × Int) × Int)))) × S_Run) × Unit) × Bool)) => a426.1.1.2) (fun _ => by rfl) (mx_callA2 (enc := eB) (Γ2 := fun (x425 : (((Option (((List Nat) × Dt) × (List ((List Nat × Int) × Int)) × (List ((List Nat × Int) × Int)))) × S_Run) × Unit)) => [none, none, none, some (oOb_Run F.K x425.1.2), some (oD (eL (e2 eP eI)) v_noted), none, some (Own.at_ (.ref l404) (Own.tup [Own.at_ u405 (oD (e2 eS eA) v_paper.1), Own.at_ u406 (oL (e2 eP eI) v_paper.2.1), Own.at_ u407 (oL (e2 eP eI) v_paper.2.2)])), some (oD (e3 (e2 eS eA) (eL (e2 eP eI)) (eL (e2 eP eI))) v_kept)]) (fun (x425 : (((Option (((List Nat) × Dt) × (List ((List Nat × Int) × Int)) × (List ((List Nat × Int) × Int)))) × S_Run) × Unit)) => (((eO (e3 (e2 eS eA) (eL (e2 eP eI)) (eL (e2 eP eI)))) x425.1.1), v_noted)) (ma2_L (d := fun (a424 : ((Option (((List Nat) × Dt) × (List ((List Nat × Int) × Int)) × (List ((List Nat × Int) × Int)))) × S_Run)) => (eO (e3 (e2 eS eA) (eL (e2 eP eI)) (eL (e2 eP eI)))) a424.1) (mx_frzG (mx_methL (Γ' := fun (a423 : ((Option (((List Nat) × Dt) × (List ((List Nat × Int) × Int)) × (List ((List Nat × Int) × Int)))) × S_Run)) => [none, none, none, some (oOb_Run F.K a423.2), some (oD (eL (e2 eP eI)) v_noted), none, some (Own.at_ (.ref l404) (Own.tup [Own.at_ u405 (oD (e2 eS eA) v_paper.1), Own.at_ u406 (oL (e2 eP eI) v_paper.2.1), Own.at_ u407 (oL (e2 eP eI) v_paper.2.2)])), some (oD (e3 (e2 eS eA) (eL (e2 eP eI)) (eL (e2 eP eI))) v_kept)]) (Γk := fun _ => [none, none, none, some (oOb_Run F.K sw419), some (oD (eL (e2 eP eI)) v_noted), none, some (Own.at_ (.ref l404) (Own.tup [Own.at_ u405 (oD (e2 eS eA) v_paper.1), Own.at_ u406 (oL (e2 eP eI) v_paper.2.1), Own.at_ u407 (oL (e2 eP eI) v_paper.2.2)])), some (oD (e3 (e2 eS eA) (eL (e2 eP eI)) (eL (e2 eP eI))) v_kept)]) (fun (x422 : Unit) => sw419) (lv_var (n := 3) (by rfl)) (lk_none (by decide +kernel)) mh_nil (fun _ => (.p (loc_var (n := 3) (by rfl)) .nil)) (fun _ => rfl) (fun _ => rfl) (by exact fun _ vs hl => match vs, hl with | [_], _ => by rfl) (fun _ => ⟨⟨_, (loc_var (n := 3) (by rfl))⟩, trivial⟩) (fun _ _ => (.cons (loc_var (n := 3) (by rfl)) .nil)) (fun _ => .inr (wkN (by rfl))) (fun _ _ _ h => h)) (fun _ => (rdo_oOpt (fun _ => rdo_oTr)))) (fun a424 => (ma2_P (ev_var (i := 4) (by rfl)) ma2_nil))) (fun _ => rfl) (fun _ => rfl) (fun _ _ _ h => h) (fun _ => wkN (by rfl)))) (fun sw427 => (mxn_of (b := fun (a430 : ((Option (((List Nat) × Dt) × (List ((List Nat × Int) × Int)) × (List ((List Nat × Int) × Int)))) × S_Run)) => (eqD ((eO (e3 (e2 eS eA) (eL (e2 eP eI)) (eL (e2 eP eI)))) a430.1) ((e3 (e2 eS eA) (eL (e2 eP eI)) (eL (e2 eP eI))) v_kept))) (Γn := fun (sv415 : S_Run) => [none, none, none, some (oOb_Run F.K sv415), some (oD (eL (e2 eP eI)) v_noted), none, some (Own.at_ (.ref l404) (Own.tup [Own.at_ u405 (oD (e2 eS eA) v_paper.1), Own.at_ u406 (oL (e2 eP eI) v_paper.2.1), Own.at_ u407 (oL (e2 eP eI) v_paper.2.2)])), some (oD (e3 (e2 eS eA) (eL (e2 eP eI)) (eL (e2 eP eI))) v_kept)]) (fun (a430 : ((Option (((List Nat) × Dt) × (List ((List Nat × Int) × Int)) × (List ((List Nat × Int) × Int)))) × S_Run)) => a430.2) (fun _ => by rfl) (mx_op2G (p := fun (a430 : ((Option (((List Nat) × Dt) × (List ((List Nat × Int) × Int)) × (List ((List Nat × Int) × Int)))) × S_Run)) => gQ2 ((eO (e3 (e2 eS eA) (eL (e2 eP eI)) (eL (e2 eP eI)))) a430.1) ((e3 (e2 eS eA) (eL (e2 eP eI)) (eL (e2 eP eI))) v_kept)) (mx_frzG (mx_methL (Γ' := fun (a429 : ((Option (((List Nat) × Dt) × (List ((List Nat × Int) × Int)) × (List ((List Nat × Int) × Int)))) × S_Run)) => [none, none, none, some (oOb_Run F.K a429.2), some (oD (eL (e2 eP eI)) v_noted), none, some (Own.at_ (.ref l404) (Own.tup [Own.at_ u405 (oD (e2 eS eA) v_paper.1), Own.at_ u406 (oL (e2 eP eI) v_paper.2.1), Own.at_ u407 (oL (e2 eP eI) v_paper.2.2)])), some (oD (e3 (e2 eS eA) (eL (e2 eP eI)) (eL (e2 eP eI))) v_kept)]) (Γk := fun _ => [none, none, none, some (oOb_Run F.K sw427), some (oD (eL (e2 eP eI)) v_noted), none, some (Own.at_ (.ref l404) (Own.tup [Own.at_ u405 (oD (e2 eS eA) v_paper.1), Own.at_ u406 (oL (e2 eP eI) v_paper.2.1), Own.at_ u407 (oL (e2 eP eI) v_paper.2.2)])), some (oD (e3 (e2 eS eA) (eL (e2 eP eI)) (eL (e2 eP eI))) v_kept)]) (fun (x428 : Unit) => sw427) (lv_var (n := 3) (by rfl)) (lk_none (by decide +kernel)) mh_nil (fun _ => (.p (loc_var (n := 3) (by rfl)) .nil)) (fun _ => rfl) (fun _ => rfl) (by exact fun _ vs hl => match vs, hl with | [_], _ => by rfl) (fun _ => ⟨⟨_, (loc_var (n := 3) (by rfl))⟩, trivial⟩) (fun _ _ => (.cons (loc_var (n := 3) (by rfl)) .nil)) (fun _ => .inr (wkN (by rfl))) (fun _ _ _ h => h)) (fun _ => (rdo_oOpt (fun _ => rdo_oTr)))) (fun a430 => (ev_var (i := 7) (by rfl))) (fun _ g => op2_eqDD g))))))))) fun a v H w s => rt _ _ _ _ _ _ w s
theorem okb_block_from [Rc_1] (tx : Tx K mg) (n : Nat) (h_block_from : FnOk P w K mg base (L2.CX P w) (1 + n) tx.f_block_from tx.d_block_from ["row", "at"] (sp_block_from_ K tx.Ce Rc_1.r_block_from)) (h_steps_from : FnOk P w K mg base (L2.CX P w) (1 + n) tx.f_steps_from tx.d_steps_from ["rows", "at"] (sp_steps_from_ K tx.Ce Rc_1.r_steps_from)) : FnOk P w K mg base (L2.CX P w) (1 + (n + 1)) tx.f_block_from tx.d_block_from ["row", "at"] (sp_block_from_ K tx.Ce m_block_from_b) := by
  refine tx.F_block_from.ok sc_block_from (fun vs H Q E h => spF_len (n := 2) rfl vs H Q E h) (fun cdv A outer s H vs Q E hr h => ⟨_, (pss_cons (ps_set (i := 2) sc_block_from.nd rfl (by first | exact Or.inl rfl | exact Or.inr rfl) (pe_callS (E := WE (fun cls d _ H => E cls d H)) h_steps_from (hr.mono (by simp only [Nat.add_eq]; omega)) (by rfl) tx.g_steps_from tx.F_steps_from.kp (bn_steps_from tx) (fun σ => passAt (takes_of rfl rfl rfl rfl) σ) (pa_cons (pe_ix (r := rIxT K) ix_tup (pv 0) pe_int (fun _ _ => rfl)) (pa_cons (pe_op op_add (pv 1) pe_int) pa_nil)))) (pss_cons (ps_set (i := 3) sc_block_from.nd rfl (by first | exact Or.inl rfl | exact Or.inr rfl) (pe_op op_add (pe_op op_add (pv 1) pe_int) (pe_callB (r := rLenK K) call_len_seq (by rfl) tx.n_len (by rfl) (pa_cons (pv 2) pa_nil)))) (pss_cons (ps_if (pt_cmpR (r := rEqD K) (op_eqD hr.units) (pe_ix (r := rIxT K) ix_tup (pv 0) pe_int (fun _ _ => rfl)) (pe_lst pa_nil) (by first | exact nomark _ | rfl)) (pss_one (ps_ret (pe_op op_cat (pe_lst (pa_cons (pe_tup (pa_cons pe_str (pa_cons (pe_ix (r := rIxT K) ix_tup (pv 0) pe_int (fun _ _ => rfl)) (pa_cons (pv 3) pa_nil)))) pa_nil)) (pv 2)))) pss_nil) (pss_cons (ps_set (i := 4) sc_block_from.nd rfl (by first | exact Or.inl rfl | exact Or.inr rfl) (pe_callS (E := WE (fun cls d _ H => E cls d H)) h_steps_from (hr.mono (by simp only [Nat.add_eq]; omega)) (by rfl) tx.g_steps_from tx.F_steps_from.kp (bn_steps_from tx) (fun σ => passAt (takes_of rfl rfl rfl rfl) σ) (pa_cons (pe_ix (r := rIxT K) ix_tup (pv 0) pe_int (fun _ _ => rfl)) (pa_cons (pe_op op_add (pv 3) pe_int) pa_nil)))) (pss_one (ps_ret (pe_op op_cat (pe_op op_cat (pe_op op_cat (pe_lst (pa_cons (pe_tup (pa_cons pe_str (pa_cons (pe_ix (r := rIxT K) ix_tup (pv 0) pe_int (fun _ _ => rfl)) (pa_cons (pe_op op_add (pv 3) pe_int) pa_nil)))) pa_nil)) (pv 2)) (pe_lst (pa_cons (pe_tup (pa_cons pe_str (pa_cons (pe_op op_add (pe_op op_add (pv 3) pe_int) (pe_callB (r := rLenK K) call_len_seq (by rfl) tx.n_len (by rfl) (pa_cons (pv 4) pa_nil))) pa_nil))) pa_nil))) (pv 4)))))))), ?_⟩)
  obtain ⟨x, F, W, rfl, ni, hst, hw, ok, rt⟩ := spD_start N_block_from h
  obtain ⟨v_row, v_at⟩ := x
  generalize L2.start N_block_from vs = σ at hst ⊢
  have hw : W (m_block_from_b v_row v_at) := hw
  replace ok := ok (List.replicate 5 none)
  have hst : Stt F [some (oD (eU eA) v_row), some (oD eI v_at), none, none, none] [] σ H := hst
  unfold m_block_from_b at hw
  refine q_seq ?_
  refine s_asgM (t := oD (eL (eU eA))) hst hw ok (mv_frz (mv_guard fun g435 => (mv_guard fun g436 => (mv_callP (x := ((Dt.asL (getI v_row (2 : Int))), (v_at + (1 : Int)))) (ea_cons (ev_asL g436 (ev_ixT (enc := eA) g435 (ev_var (i := 0) (by rfl)) ev_int)) (ea_cons (ev_add (ev_var (i := 1) (by rfl)) ev_int) ea_nil)) rfl rfl (fun _ _ _ h => h) (wkN (by rfl)))))) (show 2 < 5 by decide) (ni _) ?_
  clear hst hw
  intro v_inner σ H hw hst
  refine q_nx ?_
  refine q_seq ?_
  refine s_asgM (t := oD eI) hst hw ok (mv_ok (t := oD eI) ((ev_add (ev_add (ev_var (i := 1) (by rfl)) ev_int) (ev_lenLE (enc := (eU eA)) (el_dat (ev_var (i := 2) (by rfl))))))) (show 3 < 5 by decide) (ni _) ?_
  clear hst hw
  intro v_behind σ H hw hst
  refine q_nx ?_
  refine q_seq ?_
  refine s_ifM hst hw ok (mt_guard fun g437 => mt_guard fun g438 => mt_ok (et_test (ev_eqDD g438 (eq_d (ev_ixT (enc := eA) g437 (ev_var (i := 0) (by rfl)) ev_int)) (eq_l (el_own (ev_lst ea_nil (show 0 ≤ 1000 by decide))))))) ?_ ?_
  · clear hst hw
    intro H hw hst
    exact s_retF (t := oL (eU eA)) hst hw ok (mv_guard fun g439 => mv_guard fun g440 => mv_ok (t := oL (eU eA)) ((ev_catL (enc := (eU eA)) g440 (el_own (ev_lst (ea_cons (ev_tup (ea_cons ev_lit (ea_cons (ev_ixT (enc := eA) g439 (ev_var (i := 0) (by rfl)) ev_int) (ea_cons (ev_var (i := 3) (by rfl)) ea_nil))) (show 3 ≤ 1000 by decide)) ea_nil) (show 1 ≤ 1000 by decide))) (el_dat (ev_var (i := 2) (by rfl)))))) fun a v H w s => rt _ _ _ _ _ _ w s
  · clear hst hw
    intro H hw hst
    refine s_next ?_
    refine q_nx ?_
    refine q_seq ?_
    refine s_asgM (t := oD (eL (eU eA))) hst hw ok (mv_frz (mv_guard fun g441 => (mv_guard fun g442 => (mv_callP (x := ((Dt.asL (getI v_row (3 : Int))), (v_behind + (1 : Int)))) (ea_cons (ev_asL g442 (ev_ixT (enc := eA) g441 (ev_var (i := 0) (by rfl)) ev_int)) (ea_cons (ev_add (ev_var (i := 3) (by rfl)) ev_int) ea_nil)) rfl rfl (fun _ _ _ h => h) (wkN (by rfl)))))) (show 4 < 5 by decide) (ni _) ?_
    clear hst hw
    intro v_others σ H hw hst
    refine q_nx ?_
    exact s_retF (t := oL (eU eA)) hst hw ok (mv_guard fun g443 => mv_guard fun g444 => mv_guard fun g445 => mv_guard fun g446 => mv_ok (t := oL (eU eA)) ((ev_catL (enc := (eU eA)) g446 (el_own (ev_catL (enc := (eU eA)) g445 (el_own (ev_catL (enc := (eU eA)) g444 (el_own (ev_lst (ea_cons (ev_tup (ea_cons ev_lit (ea_cons (ev_ixT (enc := eA) g443 (ev_var (i := 0) (by rfl)) ev_int) (ea_cons (ev_add (ev_var (i := 3) (by rfl)) ev_int) ea_nil))) (show 3 ≤ 1000 by decide)) ea_nil) (show 1 ≤ 1000 by decide))) (el_dat (ev_var (i := 2) (by rfl))))) (el_own (ev_lst (ea_cons (ev_tup (ea_cons ev_lit (ea_cons (ev_add (ev_add (ev_var (i := 3) (by rfl)) ev_int) (ev_lenLE (enc := (eU eA)) (el_dat (ev_var (i := 4) (by rfl))))) ea_nil)) (show 2 ≤ 1000 by decide)) ea_nil) (show 1 ≤ 1000 by decide))))) (el_dat (ev_var (i := 4) (by rfl)))))) fun a v H w s => rt _ _ _ _ _ _ w s
theorem okb_steps_from [Rc_1] (tx : Tx K mg) (n : Nat) (h_block_from : FnOk P w K mg base (L2.CX P w) (1 + n) tx.f_block_from tx.d_block_from ["row", "at"] (sp_block_from_ K tx.Ce Rc_1.r_block_from)) (h_steps_from : FnOk P w K mg base (L2.CX P w) (1 + n) tx.f_steps_from tx.d_steps_from ["rows", "at"] (sp_steps_from_ K tx.Ce Rc_1.r_steps_from)) : FnOk P w K mg base (L2.CX P w) (1 + (n + 1)) tx.f_steps_from tx.d_steps_from ["rows", "at"] (sp_steps_from_ K tx.Ce m_steps_from_b) := by
  refine tx.F_steps_from.ok sc_steps_from (fun vs H Q E h => spF_len (n := 2) rfl vs H Q E h) (fun cdv A outer s H vs Q E hr h => ⟨_, (pss_cons (ps_set (i := 2) sc_steps_from.nd rfl (by first | exact Or.inl rfl | exact Or.inr rfl) (pe_lst pa_nil)) (pss_cons (ps_for (passes_of rfl) rfl (pi_list (pv 0)) (pg_name (i := 3) sc_steps_from.nd rfl (by first | exact Or.inl rfl | exact Or.inr rfl)) (pss_one (ps_if (pt_cmpR op_eq (pe_ix (r := rIxT K) ix_tup (pv 3) pe_int (fun _ _ => rfl)) pe_str (by first | exact nomark _ | rfl)) (pss_one (ps_expr (pe_bm PySem.F.plainAttrs_list PySem.F.slot_list_extend PySem.F.type_list_extend mt_extend (pv 2) (pa_cons (pe_callS (E := WE (fun cls d _ H => E cls d H)) h_block_from (hr.mono (by simp only [Nat.add_eq]; omega)) (by rfl) tx.g_block_from tx.F_block_from.kp (bn_block_from tx) (fun σ => passAt (takes_of rfl rfl rfl rfl) σ) (pa_cons (pv 3) (pa_cons (pe_op op_add (pv 1) (pe_callB (r := rLenK K) call_len_seq (by rfl) tx.n_len (by rfl) (pa_cons (pv 2) pa_nil))) pa_nil))) pa_nil)))) (pss_one (ps_expr (pe_bm PySem.F.plainAttrs_list PySem.F.slot_list_append PySem.F.type_list_append mt_append (pv 2) (pa_cons (pv 3) pa_nil))))))) (pss_one (ps_ret (pv 2))))), ?_⟩)
  obtain ⟨x, F, W, rfl, ni, hst, hw, ok, rt⟩ := spD_start N_steps_from h
  obtain ⟨v_rows, v_at⟩ := x
  generalize L2.start N_steps_from vs = σ at hst ⊢
  have hw : W (m_steps_from_b v_rows v_at) := hw
  replace ok := ok (List.replicate 4 none)
  have hst : Stt F [some (oD (eL eA) v_rows), some (oD eI v_at), none, none] [] σ H := hst
  unfold m_steps_from_b at hw
  refine q_seq ?_
  refine s_asgM (t := oL (eU eA)) hst hw ok (mv_ok (t := oL (eU eA)) ((ev_lst ea_nil (show 0 ≤ 1000 by decide)))) (show 2 < 4 by decide) (ni _) ?_
  clear hst hw
  intro v_steps σ H hw hst
  refine q_nx ?_
  refine q_seq ?_
  refine s_foldM (S := (List (List Dt))) (xs := fun c461 => c461) (enc := eA) (f := fun c461 y447 s448 => m_steps_from_L1 v_at s448 y447) (Γs := fun s448 => [none, some (oD eI v_at), some (oL (eU eA) s448), none]) (Γb := fun _ y447 s448 => [none, some (oD eI v_at), some (oL (eU eA) s448), some (oD eA y447)]) (s0 := v_steps) hst hw ok (sr_list (mv_ok (t := oD (eL eA)) ((ev_var (i := 0) (by rfl))))) (.drop (.same (.same (.same .nil)))) (fun _ _ _ => (tg_name (j := 3) (show 3 < 4 by decide) (ni _))) ?_ ?_
  · clear hst hw ok
    intro _ v_row v_steps W449 hN450p T452 σ H ok hw hst hN450
    have hw : W449 (m_steps_from_L1 v_at v_steps v_row) := hw
    have hst : Stt F [none, some (oD eI v_at), some (oL (eU eA) v_steps), some (oD eA v_row)] T452 σ H := hst
    unfold m_steps_from_L1 at hw
    refine s_ifM hst hw ok (mt_guard fun g454 => mt_guard fun g455 => mt_guard fun g456 => mt_ok (et_test (ev_eqX (ev_asX g456 (ev_ixT (enc := eA) g455 (ev_asU g454 (ev_var (i := 3) (by rfl))) ev_int)) ev_lit))) ?_ ?_
    · clear hst hw
      intro H hw hst
      refine s_extE (enc := (eU eA)) (xs := v_steps) hst hw ok (by rfl) (mv_guard fun g457 => (mv_callP (x := ((Dt.asU v_row), (v_at + (v_steps.length : Int)))) (ea_cons (ev_asU g457 (ev_var (i := 3) (by rfl))) (ea_cons (ev_add (ev_var (i := 1) (by rfl)) (ev_lenLE (enc := (eU eA)) (el_var (n := 2) (by rfl)))) ea_nil)) rfl rfl (fun _ _ _ h => h) (wkN (by rfl)))) ?_
      clear hst hw
      intro v_steps σ H hw hst
      exact hN450 v_steps _ _ hw (hst.weak (.same (.same (.same (.drop .nil)))))
    · clear hst hw
      intro H hw hst
      refine s_appE (enc := (eU eA)) (xs := v_steps) hst hw ok (by rfl) (mv_guard fun g459 => mv_ok (t := oD (eU eA)) ((ev_asU g459 (ev_var (i := 3) (by rfl))))) ?_
      clear hst hw
      intro v_steps σ H hw hst
      exact hN450 v_steps _ _ hw (hst.weak (.same (.same (.same (.drop .nil)))))
  · clear hst hw
    intro v_steps σ H hw hst
    have hw : W (m_steps_from_J1 v_steps) := hw
    have hst : Stt F [none, some (oD eI v_at), some (oL (eU eA) v_steps), none] [] σ H := hst
    replace hst := hst.weak (Γ' := [none, none, some (oL (eU eA) v_steps), none]) (.same (.drop (.same (.same .nil))))
    unfold m_steps_from_J1 at hw
    refine q_nx ?_
    exact s_retVar (t := oL (eU eA) v_steps) (n := 2) hst hw (by rfl) fun v H w s => rt _ v _ _ _ H w s
theorem okr_1 (tx : Tx K mg) : ∀ n : Nat, (FnOk P w K mg base (L2.CX P w) (1 + n) tx.f_block_from tx.d_block_from ["row", "at"] (sp_block_from_ K tx.Ce (rc_1 n).r_block_from)) ∧ (FnOk P w K mg base (L2.CX P w) (1 + n) tx.f_steps_from tx.d_steps_from ["rows", "at"] (sp_steps_from_ K tx.Ce (rc_1 n).r_steps_from))
  | 0 => ⟨fnok_bad rfl fun _ => rfl, fnok_bad rfl fun _ => rfl⟩
  | n + 1 => ⟨@okb_block_from _ _ _ _ _ (rc_1 n) tx n (okr_1 tx n).1 (okr_1 tx n).2, @okb_steps_from _ _ _ _ _ (rc_1 n) tx n (okr_1 tx n).1 (okr_1 tx n).2⟩
theorem ok_steps_from (tx : Tx K mg) : FnOk P w K mg base (L2.CX P w) 17 tx.f_steps_from tx.d_steps_from ["rows", "at"] (sp_steps_from K tx.Ce) := (okr_1 tx 16).2
theorem bn_code_of (tx : Tx K mg) : Binds K tx.d_code_of ["rows"] [] := tx.F_code_of.bindsN fun _ _ _ _ _ _ us hl => match us, hl with | [_], _ => rfl
theorem ok_code_of (tx : Tx K mg) : FnOk P w K mg base (L2.CX P w) 18 tx.f_code_of tx.d_code_of ["rows"] (sp_code_of K tx.Ce) := by
  refine tx.F_code_of.ok sc_code_of (fun vs H Q E h => spF_len (n := 1) rfl vs H Q E h) (fun cdv A outer s H vs Q E hr h => ⟨_, (pss_one (ps_ret (pe_callS (E := WE (fun cls d _ H => E cls d H)) (ok_steps_from tx) (hr.mono (by decide)) (by rfl) tx.g_steps_from tx.F_steps_from.kp (bn_steps_from tx) (fun σ => passAt (takes_of rfl rfl rfl rfl) σ) (pa_cons (pv 0) (pa_cons pe_int pa_nil))))), ?_⟩)
  obtain ⟨v_rows, F, W, rfl, ni, hst, hw, ok, rt⟩ := spD_start N_code_of h
  generalize L2.start N_code_of vs = σ at hst ⊢
  have hw : W (m_code_of v_rows) := hw
  replace ok := ok (List.replicate 1 none)
  have hst : Stt F [some (oD (eL eA) v_rows)] [] σ H := hst
  unfold m_code_of at hw
  exact s_retF (t := oD (eL (eU eA))) hst hw ok (mv_frz (mv_callP (x := (v_rows, (0 : Int))) (ea_cons (ev_var (i := 0) (by rfl)) (ea_cons ev_int ea_nil)) rfl rfl (fun _ _ _ h => h) (wkN (by rfl)))) fun a v H w s => rt _ _ _ _ _ _ w s
theorem ok_law (tx : Tx K mg) : FnOk P w K mg base L2.CX0 19 tx.f_law tx.d_law ["script"] (sp_law K tx.Ce) := by
  refine tx.F_law.ok sc_law (fun vs H Q E h => spF_len (n := 1) rfl vs H Q E h) (fun cdv A outer s H vs Q E hr h => ⟨_, (pss_cons (ps_set (i := 1) sc_law.nd rfl (by first | exact Or.inl rfl | exact Or.inr rfl) (pe_callS (E := fun _ => E0) (ok_law_names tx) (hr.mono (by decide)) (by rfl) tx.g_law_names tx.F_law_names.kp (bn_law_names tx) (fun _ => passAtL) (pa_cons (pe_callS (E := fun _ => E0) (ok_law_cell_at tx) (hr.mono (by decide)) (by rfl) tx.g_law_cell_at tx.F_law_cell_at.kp (bn_law_cell_at tx) (fun _ => passAtL) (pa_cons (pv 0) (pa_cons pe_int pa_nil))) (pa_cons pe_int pa_nil)))) (pss_cons (ps_set (i := 2) sc_law.nd rfl (by first | exact Or.inl rfl | exact Or.inr rfl) (pe_callS (E := fun _ => E0) (ok_law_names tx) (hr.mono (by decide)) (by rfl) tx.g_law_names tx.F_law_names.kp (bn_law_names tx) (fun _ => passAtL) (pa_cons (pe_callS (E := fun _ => E0) (ok_law_cell_at tx) (hr.mono (by decide)) (by rfl) tx.g_law_cell_at tx.F_law_cell_at.kp (bn_law_cell_at tx) (fun _ => passAtL) (pa_cons (pv 0) (pa_cons pe_int pa_nil))) (pa_cons pe_int pa_nil)))) (pss_cons (ps_set (i := 3) sc_law.nd rfl (by first | exact Or.inl rfl | exact Or.inr rfl) (pe_op op_add pe_int (pe_op op_mod (pe_callS (E := fun _ => E0) (ok_law_draw tx) (hr.mono (by decide)) (by rfl) tx.g_law_draw tx.F_law_draw.kp (bn_law_draw tx) (fun _ => passAtL) (pa_cons (pe_callS (E := fun _ => E0) (ok_law_cell_at tx) (hr.mono (by decide)) (by rfl) tx.g_law_cell_at tx.F_law_cell_at.kp (bn_law_cell_at tx) (fun _ => passAtL) (pa_cons (pv 0) (pa_cons pe_int pa_nil))) (pa_cons pe_int pa_nil))) pe_int))) (pss_cons (ps_set (i := 4) sc_law.nd rfl (by first | exact Or.inl rfl | exact Or.inr rfl) (pe_slice (r := rSlL K) sl_list (pv 0) po_none (po_some pe_int))) (pss_cons (ps_for (passes_of rfl) rfl (pi_range3 (by rfl) tx.n_range (pa_cons pe_int (pa_cons (pe_callB (r := rLenK K) call_len_seq (by rfl) tx.n_len (by rfl) (pa_cons (pv 4) pa_nil)) (pa_cons (pv 3) pa_nil)))) (pg_name (i := 5) sc_law.nd rfl (by first | exact Or.inl rfl | exact Or.inr rfl)) (pss_cons (ps_set (i := 6) sc_law.nd rfl (by first | exact Or.inl rfl | exact Or.inr rfl) (pe_slice (r := rSlL K) sl_list (pv 4) (po_some (pv 5)) (po_some (pe_op op_add (pv 5) (pv 3))))) (pss_one (ps_if (pt_not (pt_val (pe_callS (E := fun _ => E0) (ok_law_run tx) (hr.mono (by decide)) (by rfl) tx.g_law_run tx.F_law_run.kp (bn_law_run tx) (fun _ => passAtL) (pa_cons (pe_callS (E := fun _ => E0) (ok_code_of tx) (hr.mono (by decide)) (by rfl) tx.g_code_of tx.F_code_of.kp (bn_code_of tx) (fun _ => passAtL) (pa_cons (pe_callS (E := fun _ => E0) (ok_law_rows tx) (hr.mono (by decide)) (by rfl) tx.g_law_rows tx.F_law_rows.kp (bn_law_rows tx) (fun _ => passAtL) (pa_cons (pv 6) (pa_cons (pv 1) (pa_cons (pv 2) pa_nil)))) pa_nil)) (pa_cons (pv 6) pa_nil))))) (pss_one (ps_ret pe_bl)) pss_nil)))) (pss_cons (ps_set (i := 7) sc_law.nd rfl (by first | exact Or.inl rfl | exact Or.inr rfl) (pe_makeP (E := fun _ => E0) tx.g_Run_init (ok_Run_init tx) (hr.mono (by decide)) (by rfl) tx.x_Run (bn_Run_init tx) (fun _ => passAtL) (pa_cons (pe_lst pa_nil) pa_nil))) (pss_one (ps_ret (pe_and (pe_cmpR op_is_bl (pe_methP0 (E := fun _ => E0) (pv 7) tx.cl_Run tx.g_Run_over (ok_Run_over tx) (hr.mono (by decide)) (bn_Run_over tx) (fun _ => passAtL)) pe_bl (by first | exact nomark _ | rfl)) (pe_one (pe_cmpR (r := rEqD K) (op_eqD hr.units) (pe_methP0 (E := fun _ => E0) (pv 7) tx.cl_Run tx.g_Run_paper (ok_Run_paper tx) (hr.mono (by decide)) (bn_Run_paper tx) (fun _ => passAtL)) (pe_tup (pa_cons (pe_tup (pa_cons pe_str (pa_cons (pe_tup pa_nil) pa_nil))) (pa_cons (pe_lst pa_nil) (pa_cons (pe_lst pa_nil) pa_nil)))) (by first | exact nomark _ | rfl)))))))))))), ?_⟩)
  obtain ⟨v_script, F, W, rfl, ni, hst, hw, ok, rt⟩ := spD_start N_law h
  generalize L2.start N_law vs = σ at hst ⊢
  obtain ⟨W, hw, ok, rt⟩ := calm_of (m := m_law v_script) hw ok rt
  replace ok := ok (List.replicate 8 none)
  have hst : Stt F [some (oD eX v_script), none, none, none, none, none, none, none] [] σ H := hst
  unfold m_law at hw
  refine q_seq ?_
  refine s_asgM (t := oD (eL eS)) hst hw ok (mv_call (fun (x462 : (Int × Unit)) => (x462.1, (2 : Int))) (ma_consM (mv_callP (x := (v_script, (0 : Int))) (ea_cons (ev_var (i := 0) (by rfl)) (ea_cons ev_int ea_nil)) rfl rfl (fun _ _ _ h => h.elim) (wkN (by rfl))) fun _ => (ma_consP ev_int (ma_ok (ds := fun _ => []) ea_nil))) (fun _ => rfl) (fun _ => rfl) (fun _ _ _ h => h.elim) (wkN (by rfl))) (show 1 < 8 by decide) (ni _) ?_
  clear hst hw
  intro v_slots σ H hw hst
  refine q_nx ?_
  refine q_seq ?_
  refine s_asgM (t := oD (eL eS)) hst hw ok (mv_call (fun (x463 : (Int × Unit)) => (x463.1, (2 : Int))) (ma_consM (mv_callP (x := (v_script, (1 : Int))) (ea_cons (ev_var (i := 0) (by rfl)) (ea_cons ev_int ea_nil)) rfl rfl (fun _ _ _ h => h.elim) (wkN (by rfl))) fun _ => (ma_consP ev_int (ma_ok (ds := fun _ => []) ea_nil))) (fun _ => rfl) (fun _ => rfl) (fun _ _ _ h => h.elim) (wkN (by rfl))) (show 2 < 8 by decide) (ni _) ?_
  clear hst hw
  intro v_shelves σ H hw hst
  refine q_nx ?_
  refine q_seq ?_
  refine s_asgM (t := oD eI) hst hw ok (mv_op (mv_ok (t := oD eI) (ev_int)) (fun _ => (mv_op (mv_call (fun (x464 : (Int × Unit)) => (x464.1, (200 : Int))) (ma_consM (mv_callP (x := (v_script, (0 : Int))) (ea_cons (ev_var (i := 0) (by rfl)) (ea_cons ev_int ea_nil)) rfl rfl (fun _ _ _ h => h.elim) (wkN (by rfl))) fun _ => (ma_consP ev_int (ma_ok (ds := fun _ => []) ea_nil))) (fun _ => rfl) (fun _ => rfl) (fun _ _ _ h => h.elim) (wkN (by rfl))) (fun _ => (mv_ok (t := oD eI) (ev_int))) fun _ _ => om_guard fun g467 => om_ok (op2_I (C := fun _ j => 0 < j) (g := fun i j => i % j) g467))) fun _ _ => om_ok (op2_I0 (g := fun i j => i + j) )) (show 3 < 8 by decide) (ni _) ?_
  clear hst hw
  intro v_many σ H hw hst
  refine q_nx ?_
  refine q_seq ?_
  refine s_asgM (t := oD (eL eI)) hst hw ok (mv_ok (t := oD (eL eI)) ((ev_frz (ev_slX (ev_var (i := 0) (by rfl)) eo_no (eo_some ev_int))))) (show 4 < 8 by decide) (ni _) ?_
  clear hst hw
  intro v_cells σ H hw hst
  refine q_nx ?_
  refine q_seq ?_
  refine s_forM (S := Unit) (β := Bool) (xs := fun c481 => (rng3 c481)) (enc := eI) (f := fun c481 y471 s472 => m_law_L1 v_slots v_shelves v_many v_cells y471) (Γs := fun s472 => [none, some (oD (eL eS) v_slots), some (oD (eL eS) v_shelves), some (oD eI v_many), some (oD (eL eI) v_cells), none, none, none]) (Γb := fun _ y471 s472 => [none, some (oD (eL eS) v_slots), some (oD (eL eS) v_shelves), some (oD eI v_many), some (oD (eL eI) v_cells), some (oD eI y471), none, none]) (s0 := ()) hst hw ok (sr_rng3 (ma_map (f := fun (x470 : Unit) => ((0 : Int), (v_cells.length : Int), v_many)) (ma_consP ev_int (ma_consP (ev_lenLE (enc := eI) (el_dat (ev_var (i := 4) (by rfl)))) (ma_consP (ev_var (i := 3) (by rfl)) (ma_ok (ds := fun _ => []) ea_nil)))) fun _ => rfl)) (.drop (.same (.same (.same (.same (.same (.same (.same .nil)))))))) (fun _ _ _ => (tg_name (j := 5) (show 5 < 8 by decide) (ni _))) ?_ ?_
  · clear hst hw ok
    intro _ v_at s472 W473 hN474p hB475p T476 σ H ok r477 hw hst hN474 hB475
    have rt478 := fun a v T Γ σ H' w s => rt a v T Γ σ H' (r477 a w) s
    have hw : W473 (m_law_L1 v_slots v_shelves v_many v_cells v_at) := hw
    have hst : Stt F [none, some (oD (eL eS) v_slots), some (oD (eL eS) v_shelves), some (oD eI v_many), some (oD (eL eI) v_cells), some (oD eI v_at), none, none] T476 σ H := hst
    unfold m_law_L1 at hw
    refine q_seq ?_
    refine s_asgM (t := oD (eL eI)) hst hw ok (mv_ok (t := oD (eL eI)) ((ev_frz (ev_slLE (enc := eI) (el_dat (ev_var (i := 4) (by rfl))) (eo_some (ev_var (i := 5) (by rfl))) (eo_some (ev_add (ev_var (i := 5) (by rfl)) (ev_var (i := 3) (by rfl)))))))) (show 6 < 8 by decide) (ni _) ?_
    clear hst hw
    intro v_part σ H hw hst
    refine q_nx ?_
    refine s_ifM hst hw ok (mt_not (mt_B (mv_call (fun (x480 : ((List (List Dt)) × Unit)) => (x480.1, v_part)) (ma_consM (mv_call (fun (x479 : ((List Dt) × Unit)) => x479.1) (ma_consM (mv_callP (x := (v_part, v_slots, v_shelves)) (ea_cons (ev_var (i := 6) (by rfl)) (ea_cons (ev_var (i := 1) (by rfl)) (ea_cons (ev_var (i := 2) (by rfl)) ea_nil))) rfl rfl (fun _ _ _ h => h.elim) (wkN (by rfl))) fun _ => (ma_ok (ds := fun _ => []) ea_nil)) (fun _ => rfl) (fun _ => rfl) (fun _ _ _ h => h.elim) (wkN (by rfl))) fun _ => (ma_consP (ev_var (i := 6) (by rfl)) (ma_ok (ds := fun _ => []) ea_nil))) (fun _ => rfl) (fun _ => rfl) (fun _ _ _ h => h.elim) (wkN (by rfl))))) ?_ ?_
    · clear hst hw
      intro H hw hst
      exact s_retM (t := oD eB) hst hw ok (mv_ok (t := oD eB) (ev_bl)) fun a v H w s => rt478 _ _ _ _ _ _ w s
    · clear hst hw
      intro H hw hst
      refine s_next ?_
      exact hN474 () _ _ hw (hst.weak (.same (.same (.same (.same (.same (.drop (.drop (.same .nil)))))))))
  · clear hst hw
    intro s472 σ H hw hst
    have hw := fin_nx hw
    have hw : W (m_law_J1 ) := hw
    have hst : Stt F [none, some (oD (eL eS) v_slots), some (oD (eL eS) v_shelves), some (oD eI v_many), some (oD (eL eI) v_cells), none, none, none] [] σ H := hst
    replace hst := hst.weak (Γ' := [none, none, none, none, none, none, none, none]) (.same (.drop (.drop (.drop (.drop (.same (.same (.same .nil))))))))
    unfold m_law_J1 at hw
    refine q_nx ?_
    refine q_seq ?_
    refine s_asgM (t := oOb_Run F.K) hst hw ok (mv_makeD (fun (x482 : Unit) => ([] : (List (List Dt)))) (ma_consP (ev_frz (ev_lst ea_nil (show 0 ≤ 1000 by decide))) (ma_ok (ds := fun _ => []) ea_nil)) (fun _ => rfl) (fun _ => rfl) (wkN (by rfl)) (fun _ _ _ h => h.elim)) (show 7 < 8 by decide) (ni _) ?_
    clear hst hw
    intro v_empty σ H hw hst
    refine q_nx ?_
    exact s_retX3 (t := fun (a491 : (Bool × S_Run)) => oD eB a491.1) hst hw ok (mxn_and (m2 := fun (sw486 : S_Run) => ((((R.ok ()).bind fun x487 => m_Run_paper sw486).bind fun a489 => R.guard (gQ2 ((eO (e3 (e2 eS eA) (eL (e2 eP eI)) (eL (e2 eP eI)))) a489.1) ((e3 (e2 eS e0) (eL eA) (eL eA)) (((lt "done"), ()), ([] : (List Dt)), ([] : (List Dt))))) (R.ok a489)).bind fun a489 => R.ok ((eqD ((eO (e3 (e2 eS eA) (eL (e2 eP eI)) (eL (e2 eP eI)))) a489.1) ((e3 (e2 eS e0) (eL eA) (eL eA)) (((lt "done"), ()), ([] : (List Dt)), ([] : (List Dt))))), a489.2))) (mxn_pure (Γn := fun (sv483 : S_Run) => [none, none, none, none, none, none, none, some (oOb_Run F.K sv483)]) v_empty (by rfl) (mv_op (mv_methQ (enc := eB) (x := v_empty) (eq_lv (rdo_ins (rdoa_cons rdo_dat (rdoa_cons rdo_dat (rdoa_cons rdo_oK (rdoa_cons rdo_oKT (rdoa_cons rdo_oKT (rdoa_cons rdo_oL (rdoa_cons rdo_dat rdoa_nil)))))))) (lv_var (n := 7) (by rfl))) (lk_none (by decide +kernel)) eaq_nil rfl rfl (fun _ _ _ h => h.elim) (wkN (by rfl)) imm_B) (fun _ => (mv_ok (t := oD eB) (ev_bl))) fun _ _ => om_ok (op2_isBl))) (fun sw486 => (mxn_of (b := fun (a489 : ((Option (((List Nat) × Dt) × (List ((List Nat × Int) × Int)) × (List ((List Nat × Int) × Int)))) × S_Run)) => (eqD ((eO (e3 (e2 eS eA) (eL (e2 eP eI)) (eL (e2 eP eI)))) a489.1) ((e3 (e2 eS e0) (eL eA) (eL eA)) (((lt "done"), ()), ([] : (List Dt)), ([] : (List Dt)))))) (Γn := fun (sv483 : S_Run) => [none, none, none, none, none, none, none, some (oOb_Run F.K sv483)]) (fun (a489 : ((Option (((List Nat) × Dt) × (List ((List Nat × Int) × Int)) × (List ((List Nat × Int) × Int)))) × S_Run)) => a489.2) (fun _ => by rfl) (mx_op2G (p := fun (a489 : ((Option (((List Nat) × Dt) × (List ((List Nat × Int) × Int)) × (List ((List Nat × Int) × Int)))) × S_Run)) => gQ2 ((eO (e3 (e2 eS eA) (eL (e2 eP eI)) (eL (e2 eP eI)))) a489.1) ((e3 (e2 eS e0) (eL eA) (eL eA)) (((lt "done"), ()), ([] : (List Dt)), ([] : (List Dt))))) (mx_frzG (mx_methL (Γ' := fun (a488 : ((Option (((List Nat) × Dt) × (List ((List Nat × Int) × Int)) × (List ((List Nat × Int) × Int)))) × S_Run)) => [none, none, none, none, none, none, none, some (oOb_Run F.K a488.2)]) (Γk := fun _ => [none, none, none, none, none, none, none, some (oOb_Run F.K sw486)]) (fun (x487 : Unit) => sw486) (lv_var (n := 7) (by rfl)) (lk_none (by decide +kernel)) mh_nil (fun _ => (.p (loc_var (n := 7) (by rfl)) .nil)) (fun _ => rfl) (fun _ => rfl) (by exact fun _ vs hl => match vs, hl with | [_], _ => by rfl) (fun _ => ⟨⟨_, (loc_var (n := 7) (by rfl))⟩, trivial⟩) (fun _ _ => (.cons (loc_var (n := 7) (by rfl)) .nil)) (fun _ => .inr (wkN (by rfl))) (fun _ _ _ h => h.elim)) (fun _ => (rdo_oOpt (fun _ => rdo_oTr)))) (fun a489 => (ev_tup (ea_cons (ev_tup (ea_cons ev_lit (ea_cons (ev_tup ea_nil (show 0 ≤ 1000 by decide)) ea_nil)) (show 2 ≤ 1000 by decide)) (ea_cons (ev_frz (ev_lst ea_nil (show 0 ≤ 1000 by decide))) (ea_cons (ev_frz (ev_lst ea_nil (show 0 ≤ 1000 by decide))) ea_nil))) (show 3 ≤ 1000 by decide))) (fun _ g => op2_eqDD g))))) fun a v H w s => rt _ _ _ _ _ _ w s
end
def D_is_worth : He.DefD := ⟨("is_worth", none), "is_worth", "is_worth", defArgs s_is_worth, defBody s_is_worth, defScope s_is_worth, [], []⟩
def D_comes_to : He.DefD := ⟨("comes_to", none), "comes_to", "comes_to", defArgs s_comes_to, defBody s_comes_to, defScope s_comes_to, [], []⟩
def D_Run_init : He.DefD := ⟨("Run", some "__init__"), "__init__", "Run.__init__", defArgs s_Run_init, defBody s_Run_init, defScope s_Run_init, [], []⟩
def D_Run_over : He.DefD := ⟨("Run", some "over"), "over", "Run.over", defArgs s_Run_over, defBody s_Run_over, defScope s_Run_over, [], []⟩
def D_law_cell_at : He.DefD := ⟨("_law_cell_at", none), "_law_cell_at", "_law_cell_at", defArgs s_law_cell_at, defBody s_law_cell_at, defScope s_law_cell_at, [], []⟩
def D_law_draw : He.DefD := ⟨("_law_draw", none), "_law_draw", "_law_draw", defArgs s_law_draw, defBody s_law_draw, defScope s_law_draw, [], []⟩
def D_law_closed : He.DefD := ⟨("_law_closed", none), "_law_closed", "_law_closed", defArgs s_law_closed, defBody s_law_closed, defScope s_law_closed, [], []⟩
def D_law_is_place : He.DefD := ⟨("_law_is_place", none), "_law_is_place", "_law_is_place", defArgs s_law_is_place, defBody s_law_is_place, defScope s_law_is_place, [], []⟩
def D_law_same : He.DefD := ⟨("_law_same", none), "_law_same", "_law_same", defArgs s_law_same, defBody s_law_same, defScope s_law_same, [], []⟩
def D_reckoned : He.DefD := ⟨("reckoned", none), "reckoned", "reckoned", defArgs s_reckoned, defBody s_reckoned, defScope s_reckoned, [], []⟩
def D_Run_paper : He.DefD := ⟨("Run", some "paper"), "paper", "Run.paper", defArgs s_Run_paper, defBody s_Run_paper, defScope s_Run_paper, [], []⟩
def D_law_names : He.DefD := ⟨("_law_names", none), "_law_names", "_law_names", defArgs s_law_names, defBody s_law_names, defScope s_law_names, [], []⟩
def D_law_worth : He.DefD := ⟨("_law_worth", none), "_law_worth", "_law_worth", defArgs s_law_worth, defBody s_law_worth, defScope s_law_worth, [], []⟩
def D_Run_asks : He.DefD := ⟨("Run", some "asks"), "asks", "Run.asks", defArgs s_Run_asks, defBody s_Run_asks, defScope s_Run_asks, [], []⟩
def D_Run_straight : He.DefD := ⟨("Run", some "straight"), "straight", "Run.straight", defArgs s_Run_straight, defBody s_Run_straight, defScope s_Run_straight, [], []⟩
def D_law_spot : He.DefD := ⟨("_law_spot", none), "_law_spot", "_law_spot", defArgs s_law_spot, defBody s_law_spot, defScope s_law_spot, [], []⟩
def D_Run_behind : He.DefD := ⟨("Run", some "behind"), "behind", "Run.behind", defArgs s_Run_behind, defBody s_Run_behind, defScope s_Run_behind, [], []⟩
def D_law_row : He.DefD := ⟨("_law_row", none), "_law_row", "_law_row", defArgs s_law_row, defBody s_law_row, defScope s_law_row, [], []⟩
def D_Run_step : He.DefD := ⟨("Run", some "step"), "step", "Run.step", defArgs s_Run_step, defBody s_Run_step, defScope s_Run_step, [.int 0], []⟩
def D_law_rows : He.DefD := ⟨("_law_rows", none), "_law_rows", "_law_rows", defArgs s_law_rows, defBody s_law_rows, defScope s_law_rows, [], []⟩
def D_law_asked : He.DefD := ⟨("_law_asked", none), "_law_asked", "_law_asked", defArgs s_law_asked, defBody s_law_asked, defScope s_law_asked, [], []⟩
def D_law_run : He.DefD := ⟨("_law_run", none), "_law_run", "_law_run", defArgs s_law_run, defBody s_law_run, defScope s_law_run, [], []⟩
def D_block_from : He.DefD := ⟨("block_from", none), "block_from", "block_from", defArgs s_block_from, defBody s_block_from, defScope s_block_from, [], []⟩
def D_steps_from : He.DefD := ⟨("steps_from", none), "steps_from", "steps_from", defArgs s_steps_from, defBody s_steps_from, defScope s_steps_from, [], []⟩
def D_code_of : He.DefD := ⟨("code_of", none), "code_of", "code_of", defArgs s_code_of, defBody s_code_of, defScope s_code_of, [], []⟩
def D_law : He.DefD := ⟨("law", none), "law", "law", defArgs s_law, defBody s_law, defScope s_law, [], []⟩
def ls0 : List Str := ["__name__", "ForerunError", "Nought", "Great", "MOST", "is_worth", "DOERS", "comes_to", "reckoned", "Run", "block_from", "steps_from"]
def ls1 : List Str := ["code_of", "_law_cell_at", "_law_draw", "_law_names", "_law_worth", "_law_spot", "_law_row", "_law_closed", "_law_rows", "_law_is_place", "_law_asked", "_law_same"]
def ls2 : List Str := ["_law_run"]
abbrev loose : List Str := ls0 ++ ls1 ++ ls2
def fn : List He.DefD := [D_is_worth, D_comes_to, D_Run_init, D_Run_over, D_law_cell_at, D_law_draw, D_law_closed, D_law_is_place, D_law_same, D_reckoned, D_Run_paper, D_law_names, D_law_worth, D_Run_asks, D_Run_straight, D_law_spot, D_Run_behind, D_law_row, D_Run_step, D_law_rows, D_law_asked, D_law_run, D_block_from, D_steps_from, D_code_of, D_law]
def fa0 : List He.Fa := [.glo "is_worth", .glo "comes_to", .mkr "Run", .meth "Run" "over", .glo "_law_cell_at", .glo "_law_draw", .glo "_law_closed", .glo "_law_is_place", .glo "_law_same", .glo "reckoned", .meth "Run" "paper", .glo "_law_names", .glo "_law_worth", .meth "Run" "asks", .meth "Run" "straight", .glo "_law_spot", .meth "Run" "behind", .glo "_law_row", .meth "Run" "step", .glo "_law_rows", .glo "_law_asked", .glo "_law_run", .glo "block_from", .glo "steps_from", .glo "code_of"]
def fa1 : List He.Fa := [.glo "law", .glo "Nought", .glo "Great", .glo "Run", .cls "Run", .noat "Run" "code", .noat "Run" "at", .noat "Run" "slots", .noat "Run" "given", .noat "Run" "noted", .noat "Run" "sayings", .noat "Run" "broken", .exc "Nought", .exc "Great", .free "isinstance", .free "int", .free "bool", .free "list", .free "len", .free "tuple", .free "str", .free "sorted", .free "range", .int "MOST" (1000000000000000000000000000000), .glo "DOERS"]
def fa : List He.Fa := fa0 ++ fa1
def tb : List (PySem.W.Frag → Bool) := [exmB CeF "Great" "Great", exmB CeF "Nought" "Nought", fun K => He.tupB K "DOERS" tab_DOERS]
abbrev R' : PySem.W.OpenRow := PySem.W.OpenLaw.row PySem.Challenge.rw_forerun_k26_asked_once
abbrev hk : PySem.W.Hook := hookT 5 fa fn tb
def ob (s : PySem.W.SharedT) : AlT := obsTG 5 fa fn tb (HandSHeadRun.getT s)
theorem ob_eq (s : PySem.W.SharedT) : ob s = hk.obs s.abs := obsTG_eq (HandSHeadRun.getT_eq s)
theorem run (w : World) : HandSHeadRun.RunEq R' (PySem.W.view R'.prog [30]) hk ob 20000 loose w := by
  intro os
  kernel_rfl
theorem facts {K : PySem.W.Frag} {h : Heap} {mg : Str → Option Value} (X : K.In h) (G : h.Ns mainGlobals mg) (c : obsT fa fn tb K = valT fn) : Nonempty (Tx K mg) := by
  obtain ⟨fd_is_worth, F_is_worth⟩ := (saysT c).def_ 0 (d := D_is_worth) rfl
  obtain ⟨fd_comes_to, F_comes_to⟩ := (saysT c).def_ 1 (d := D_comes_to) rfl
  obtain ⟨fd_Run_init, F_Run_init⟩ := (saysT c).def_ 2 (d := D_Run_init) rfl
  obtain ⟨fd_Run_over, F_Run_over⟩ := (saysT c).def_ 3 (d := D_Run_over) rfl
  obtain ⟨fd_law_cell_at, F_law_cell_at⟩ := (saysT c).def_ 4 (d := D_law_cell_at) rfl
  obtain ⟨fd_law_draw, F_law_draw⟩ := (saysT c).def_ 5 (d := D_law_draw) rfl
  obtain ⟨fd_law_closed, F_law_closed⟩ := (saysT c).def_ 6 (d := D_law_closed) rfl
  obtain ⟨fd_law_is_place, F_law_is_place⟩ := (saysT c).def_ 7 (d := D_law_is_place) rfl
  obtain ⟨fd_law_same, F_law_same⟩ := (saysT c).def_ 8 (d := D_law_same) rfl
  obtain ⟨fd_reckoned, F_reckoned⟩ := (saysT c).def_ 9 (d := D_reckoned) rfl
  obtain ⟨fd_Run_paper, F_Run_paper⟩ := (saysT c).def_ 10 (d := D_Run_paper) rfl
  obtain ⟨fd_law_names, F_law_names⟩ := (saysT c).def_ 11 (d := D_law_names) rfl
  obtain ⟨fd_law_worth, F_law_worth⟩ := (saysT c).def_ 12 (d := D_law_worth) rfl
  obtain ⟨fd_Run_asks, F_Run_asks⟩ := (saysT c).def_ 13 (d := D_Run_asks) rfl
  obtain ⟨fd_Run_straight, F_Run_straight⟩ := (saysT c).def_ 14 (d := D_Run_straight) rfl
  obtain ⟨fd_law_spot, F_law_spot⟩ := (saysT c).def_ 15 (d := D_law_spot) rfl
  obtain ⟨fd_Run_behind, F_Run_behind⟩ := (saysT c).def_ 16 (d := D_Run_behind) rfl
  obtain ⟨fd_law_row, F_law_row⟩ := (saysT c).def_ 17 (d := D_law_row) rfl
  obtain ⟨fd_Run_step, F_Run_step⟩ := (saysT c).def_ 18 (d := D_Run_step) rfl
  obtain ⟨fd_law_rows, F_law_rows⟩ := (saysT c).def_ 19 (d := D_law_rows) rfl
  obtain ⟨fd_law_asked, F_law_asked⟩ := (saysT c).def_ 20 (d := D_law_asked) rfl
  obtain ⟨fd_law_run, F_law_run⟩ := (saysT c).def_ 21 (d := D_law_run) rfl
  obtain ⟨fd_block_from, F_block_from⟩ := (saysT c).def_ 22 (d := D_block_from) rfl
  obtain ⟨fd_steps_from, F_steps_from⟩ := (saysT c).def_ 23 (d := D_steps_from) rfl
  obtain ⟨fd_code_of, F_code_of⟩ := (saysT c).def_ 24 (d := D_code_of) rfl
  obtain ⟨fd_law, F_law⟩ := (saysT c).def_ 25 (d := D_law) rfl
  exact ⟨⟨_, fd_is_worth, F_is_worth, He.glo_ok X G ((saysT c).fact 0 (f := .glo "is_worth") rfl),
    _, fd_comes_to, F_comes_to, He.glo_ok X G ((saysT c).fact 1 (f := .glo "comes_to") rfl),
    _, fd_Run_init, F_Run_init, He.mkr_ok ((saysT c).fact 2 (f := .mkr "Run") rfl),
    _, fd_Run_over, F_Run_over, He.meth_ok ((saysT c).fact 3 (f := .meth "Run" "over") rfl),
    _, fd_law_cell_at, F_law_cell_at, He.glo_ok X G ((saysT c).fact 4 (f := .glo "_law_cell_at") rfl),
    _, fd_law_draw, F_law_draw, He.glo_ok X G ((saysT c).fact 5 (f := .glo "_law_draw") rfl),
    _, fd_law_closed, F_law_closed, He.glo_ok X G ((saysT c).fact 6 (f := .glo "_law_closed") rfl),
    _, fd_law_is_place, F_law_is_place, He.glo_ok X G ((saysT c).fact 7 (f := .glo "_law_is_place") rfl),
    _, fd_law_same, F_law_same, He.glo_ok X G ((saysT c).fact 8 (f := .glo "_law_same") rfl),
    _, fd_reckoned, F_reckoned, He.glo_ok X G ((saysT c).fact 9 (f := .glo "reckoned") rfl),
    _, fd_Run_paper, F_Run_paper, He.meth_ok ((saysT c).fact 10 (f := .meth "Run" "paper") rfl),
    _, fd_law_names, F_law_names, He.glo_ok X G ((saysT c).fact 11 (f := .glo "_law_names") rfl),
    _, fd_law_worth, F_law_worth, He.glo_ok X G ((saysT c).fact 12 (f := .glo "_law_worth") rfl),
    _, fd_Run_asks, F_Run_asks, He.meth_ok ((saysT c).fact 13 (f := .meth "Run" "asks") rfl),
    _, fd_Run_straight, F_Run_straight, He.meth_ok ((saysT c).fact 14 (f := .meth "Run" "straight") rfl),
    _, fd_law_spot, F_law_spot, He.glo_ok X G ((saysT c).fact 15 (f := .glo "_law_spot") rfl),
    _, fd_Run_behind, F_Run_behind, He.meth_ok ((saysT c).fact 16 (f := .meth "Run" "behind") rfl),
    _, fd_law_row, F_law_row, He.glo_ok X G ((saysT c).fact 17 (f := .glo "_law_row") rfl),
    _, fd_Run_step, F_Run_step, He.meth_ok ((saysT c).fact 18 (f := .meth "Run" "step") rfl),
    _, fd_law_rows, F_law_rows, He.glo_ok X G ((saysT c).fact 19 (f := .glo "_law_rows") rfl),
    _, fd_law_asked, F_law_asked, He.glo_ok X G ((saysT c).fact 20 (f := .glo "_law_asked") rfl),
    _, fd_law_run, F_law_run, He.glo_ok X G ((saysT c).fact 21 (f := .glo "_law_run") rfl),
    _, fd_block_from, F_block_from, He.glo_ok X G ((saysT c).fact 22 (f := .glo "block_from") rfl),
    _, fd_steps_from, F_steps_from, He.glo_ok X G ((saysT c).fact 23 (f := .glo "steps_from") rfl),
    _, fd_code_of, F_code_of, He.glo_ok X G ((saysT c).fact 24 (f := .glo "code_of") rfl),
    _, fd_law, F_law, He.glo_ok X G ((saysT c).fact 25 (f := .glo "law") rfl),
    He.glo_ok X G ((saysT c).fact 26 (f := .glo "Nought") rfl),
    He.glo_ok X G ((saysT c).fact 27 (f := .glo "Great") rfl),
    He.glo_ok X G ((saysT c).fact 28 (f := .glo "Run") rfl),
    He.cls_ok ((saysT c).fact 29 (f := .cls "Run") rfl),
    He.noat_ok ((saysT c).fact 30 (f := .noat "Run" "code") rfl),
    He.noat_ok ((saysT c).fact 31 (f := .noat "Run" "at") rfl),
    He.noat_ok ((saysT c).fact 32 (f := .noat "Run" "slots") rfl),
    He.noat_ok ((saysT c).fact 33 (f := .noat "Run" "given") rfl),
    He.noat_ok ((saysT c).fact 34 (f := .noat "Run" "noted") rfl),
    He.noat_ok ((saysT c).fact 35 (f := .noat "Run" "sayings") rfl),
    He.noat_ok ((saysT c).fact 36 (f := .noat "Run" "broken") rfl),
    (He.exc_ok ((saysT c).fact 37 (f := .exc "Nought") rfl)).1, (He.exc_ok ((saysT c).fact 37 (f := .exc "Nought") rfl)).2.1, (He.exc_ok ((saysT c).fact 37 (f := .exc "Nought") rfl)).2.2.1, (He.exc_ok ((saysT c).fact 37 (f := .exc "Nought") rfl)).2.2.2,
    (He.exc_ok ((saysT c).fact 38 (f := .exc "Great") rfl)).1, (He.exc_ok ((saysT c).fact 38 (f := .exc "Great") rfl)).2.1, (He.exc_ok ((saysT c).fact 38 (f := .exc "Great") rfl)).2.2.1, (He.exc_ok ((saysT c).fact 38 (f := .exc "Great") rfl)).2.2.2,
    exmB_ok (tabT c 0 (q := exmB CeF "Great" "Great") rfl),
    exmB_ok (tabT c 1 (q := exmB CeF "Nought" "Nought") rfl),
    He.free_ok X G ((saysT c).fact 39 (f := .free "isinstance") rfl),
    He.free_ok X G ((saysT c).fact 40 (f := .free "int") rfl),
    He.free_ok X G ((saysT c).fact 41 (f := .free "bool") rfl),
    He.free_ok X G ((saysT c).fact 42 (f := .free "list") rfl),
    He.free_ok X G ((saysT c).fact 43 (f := .free "len") rfl),
    He.free_ok X G ((saysT c).fact 44 (f := .free "tuple") rfl),
    He.free_ok X G ((saysT c).fact 45 (f := .free "str") rfl),
    He.free_ok X G ((saysT c).fact 46 (f := .free "sorted") rfl),
    He.free_ok X G ((saysT c).fact 47 (f := .free "range") rfl),
    (He.int_ok X G ((saysT c).fact 48 (f := .int "MOST" (1000000000000000000000000000000)) rfl)).elim fun t h => ⟨_, h, t, rfl⟩,
    _, ⟨_, He.glo_ok X G ((saysT c).fact 49 (f := .glo "DOERS") rfl), rfl⟩, fun H => He.tupB_ok (vs := tab_DOERS) (tabT c 2 (q := fun K => He.tupB K "DOERS" tab_DOERS) rfl) H, fun B => rpa_lits ks_DOERS rfl rfl⟩⟩
end Wa
open PySem PySem.W PySem.Calls PyProof.Rows
theorem PySem.Challenge.cw_forerun_k26_asked_once_holds : PySem.Challenge.rw_forerun_k26_asked_once.Holds := by
  w_on; o_law
  refine HandSHeadRun.head_any (r := OpenLaw.row PySem.Challenge.rw_forerun_k26_asked_once) (q := view (OpenLaw.row PySem.Challenge.rw_forerun_k26_asked_once).prog [30]) (H := Wa.hk) (ob := Wa.ob) (M := 20000) (loose := Wa.loose) (d := HandSHeadRun.topDef (OpenLaw.row PySem.Challenge.rw_forerun_k26_asked_once).prog 30) (kwd := []) Wa.ob_eq
    (by kernel_rfl) (fun s => by kernel_rfl) Wa.run (by kernel_rfl) (by kernel_rfl) (by kernel_rfl) (by rfl) (by first | assumption | decide +kernel) (by decide +kernel) ⟨rfl, rfl, rfl, rfl, rfl, by decide +kernel⟩ ?hw ?hc
  case hw => w_witness2
  case hc =>
    refine L2.walk_ofEB (l := PySem.Challenge.rw_forerun_k26_asked_once) (n := 63) (k := 19) (x := "script") (CX := L2.CX0) rfl (by decide) (by kernel_rfl) ⟨rfl, by decide, by decide⟩ ?F (fun _ _ _ _ z => z)
    intro w mg fa h Y G hmg0
    obtain ⟨K, KX, c⟩ := Y
    have hmg : mg ("law" : PySem.Str) = some (.ref fa) := by
      have e : (HandSHeadRun.topDef (OpenLaw.row PySem.Challenge.rw_forerun_k26_asked_once).prog 30).name = ("law" : PySem.Str) := by kernel_rfl
      rw [← e]
      exact hmg0
    obtain ⟨tx⟩ := Wa.facts KX G c
    have ef : tx.f_law = fa := by
      have := tx.g_law.symm.trans hmg
      cases this
      rfl
    subst ef
    exact ⟨K, tx.d_law, Wa.sp_law K tx.Ce, KX, fun s v => tx.F_law.bindsA (ps := ["script"]) (fun _ _ _ _ _ _ us hl => match us, hl with | [_], _ => rfl) s [v] rfl, fun H a ns hl hb _ hS => Sm.law_end (Mi.law_ok ns hl hb) hS, fun base _ _ => Wa.ok_law tx⟩
