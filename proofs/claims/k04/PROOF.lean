import PyProof.Rows.All
import Wide.All
import OpenK.AllK
import Wide.FinOn
import KE.KStateDown
import HandS.ForMost
import HandS.ForExc
import HandS.IsInst
import HandS.Wide
import HandS.StrMore
import HandS.Codes
import HandS.TupLe
import HandS.TryOnly
import HandS.TryMany
import HandS.ExcIs
import HandS.ExcInit
import HandS.Defaults
import HandS.WordsExc
import HandS.Head0
import HandS.Head1
import HandS.Head2
import HandS.HeadEnd
import HandS.HeadHook1
import HandS.HeadHook2
import PyProof.StrOps2
import HandS.TupAny
import HandS.DictComp
import HandS.SuiteRaise
import HandS.Zip
import HandS.Rev
import PySem.Challenge.RW_forerun_k04_terms_read_and_written
set_option Elab.async false
set_option linter.all false
set_option maxRecDepth 100000
set_option maxHeartbeats 4000000
namespace Sm
open PySem L2
inductive Exn where
  | noNumber | noTerm | noDealing (row : Int) | nought | great | folded | noHand | noOrder | noLine | noLog
inductive R (α : Type) where
  | ok (a : α) | err (e : Exn) | bad
def R.bind {α β : Type} : R α → (α → R β) → R β
  | .ok a, f => f a
  | .err e, _ => .err e
  | .bad, _ => .bad
def emp : Hp := fun _ => none
def jn (A B : Hp) : Hp := fun a => match A a with
  | some o => some o
  | none => B a
def Dj (A B : Hp) : Prop := ∀ a, A a = none ∨ B a = none
section
variable {A B C : Hp} {a : Addr} {o : HO}
theorem jn_some (h : A a = some o) : jn A B a = some o := by unfold jn; rw [h]
theorem jn_none (h : A a = none) : jn A B a = B a := by unfold jn; rw [h]
theorem jn_none_iff : jn A B a = none ↔ A a = none ∧ B a = none := by
  unfold jn
  cases e : A a with
  | some x => simp
  | none => simp
theorem jn_emp : jn A emp = A := by
  funext a
  unfold jn
  cases e : A a <;> rfl
theorem emp_jn : jn emp A = A := by funext a; rfl
theorem Dj.symm (h : Dj A B) : Dj B A := fun a => (h a).symm
theorem dj_emp : Dj A emp := fun _ => .inr rfl
theorem emp_dj : Dj emp A := fun _ => .inl rfl
theorem jn_comm (d : Dj A B) : jn A B = jn B A := by
  funext a
  cases e : A a with
  | some x =>
    have hb : B a = none := by
      rcases d a with h | h
      · rw [h] at e; cases e
      · exact h
    rw [jn_some e, jn_none hb, e]
  | none =>
    rw [jn_none e]
    cases f : B a with
    | some y => rw [jn_some f]
    | none => rw [jn_none f, e]
theorem jn_assoc : jn (jn A B) C = jn A (jn B C) := by
  funext a
  cases e : A a with
  | some x => rw [jn_some e, jn_some (jn_some e)]
  | none =>
    rw [jn_none e]
    cases f : B a with
    | some y => rw [jn_some f, jn_some ((jn_none e).trans f)]
    | none => rw [jn_none f, jn_none ((jn_none e).trans f)]
theorem Dj.jnl (h1 : Dj A C) (h2 : Dj B C) : Dj (jn A B) C := fun a => by
  rcases h1 a with x | x
  · rcases h2 a with y | y
    · exact .inl (jn_none_iff.mpr ⟨x, y⟩)
    · exact .inr y
  · exact .inr x
theorem Dj.jnr (h1 : Dj A B) (h2 : Dj A C) : Dj A (jn B C) := (Dj.jnl h1.symm h2.symm).symm
theorem Dj.l (h : Dj (jn A B) C) : Dj A C := fun a => (h a).imp_left fun x => (jn_none_iff.mp x).1
theorem Dj.r (h : Dj (jn A B) C) : Dj B C := fun a => (h a).imp_left fun x => (jn_none_iff.mp x).2
theorem Dj.rl (h : Dj A (jn B C)) : Dj A B := (Dj.l h.symm).symm
theorem Dj.rr (h : Dj A (jn B C)) : Dj A C := (Dj.r h.symm).symm
theorem same_jnl : Same A (jn A B) := fun _ _ h => jn_some h
theorem same_jnr (d : Dj A B) : Same B (jn A B) := fun a o h => by
  rcases d a with x | x
  · rw [jn_none x]; exact h
  · rw [x] at h; cases h
theorem same_jn {H : Hp} (h1 : Same A H) (h2 : Same B H) : Same (jn A B) H := fun a o h => by
  cases e : A a with
  | some x => rw [jn_some e] at h; rw [← h]; exact h1 a x e
  | none => rw [jn_none e] at h; exact h2 a o h
theorem jn_swap (d : Dj A B) : jn A (jn B C) = jn B (jn A C) := by rw [← jn_assoc, jn_comm d, jn_assoc]
theorem same_upd (h : A a = none) : Same A (upd A a o) := fun b u e => by rw [upd_ne (ne_of_none e h)]; exact e
theorem upd_jn : upd (jn A B) a o = jn (upd A a o) B := by
  funext b
  by_cases h : b = a
  · subst h; rw [upd_same, jn_some upd_same]
  · rw [upd_ne h]
    unfold jn
    rw [upd_ne h]
theorem Dj.upd (h : Dj A B) (n : B a = none) : Dj (upd A a o) B := fun b => by
  by_cases e : b = a
  · subst e; exact .inr n
  · rw [upd_ne e]; exact h b
theorem none_of_same {H : Hp} (s : Same A H) (h : H a = none) : A a = none := Same.free s h
end
theorem rd_mono {B B' : Hp} {a : Addr} {u : HO} (e : Same B B') (h : Rd B a u) : Rd B' a u := by
  rcases h with h | ⟨o, h⟩
  · exact .inl (e _ _ h)
  · exact .inr ⟨o, e _ _ h⟩
theorem sqt_mono {K : PySem.W.Frag} {B B' : Hp} {a : Addr} {xs : List V} (e : Same B B') (h : SqT K B a xs) : SqT K B' a xs := h.imp_left (rd_mono e)
theorem sql_mono {K : PySem.W.Frag} {B B' : Hp} {a : Addr} {xs : List V} (e : Same B B') (h : SqL K B a xs) : SqL K B' a xs := h.imp_left (rd_mono e)
inductive Dt where
  | non | bl (b : Bool) | int (i : Int) | str (x : Str) | lst (xs : List Dt) | tup (xs : List Dt)
  /-- the script: a list that is read only -/
  | scr (ns : List Int)
  /-- dicts that are read only: keys, what stands there -/
  | dk (ks : List Key) (xs : List Dt) | dt (ks : List (List Key)) (xs : List Dt)
mutual
def Dt.py : Dt → PyData
  | .non => .none
  | .bl b => .bool b
  | .int i => .int i
  | .str x => .str x
  | .lst xs => .list (Dt.pys xs)
  | .tup xs => .tuple (Dt.pys xs)
  | .scr ns => .list (ns.map .int)
  | .dk _ _ => .none
  | .dt _ _ => .none
def Dt.pys : List Dt → List PyData
  | [] => []
  | d :: ds => d.py :: Dt.pys ds
end
mutual
def Dt.pl : Dt → Bool
  | .lst xs => Dt.pls xs
  | .tup xs => Dt.pls xs
  | .dk _ _ => false
  | .dt _ _ => false
  | .non => true
  | .bl _ => true
  | .int _ => true
  | .str _ => true
  | .scr _ => true
def Dt.pls : List Dt → Bool
  | [] => true
  | d :: ds => d.pl && Dt.pls ds
end
theorem pys_map : ∀ ds : List Dt, Dt.pys ds = ds.map Dt.py
  | [] => rfl
  | d :: ds => by unfold Dt.pys; rw [pys_map ds]; rfl
mutual
def Rp (K : PySem.W.Frag) (B : Hp) : Dt → V → Prop
  | .non, v => v = .non
  | .bl b, v => v = .bl b
  | .int i, v => v = .int i
  | .str x, v => v = .str x
  | .lst ds, v => ∃ a xs, v = .ref a ∧ B a = some (.lst xs) ∧ RpA K B ds xs
  | .tup ds, v => ∃ a xs, v = .ref a ∧ SqT K B a xs ∧ RpA K B ds xs
  | .scr ns, v => ∃ a, v = .ref a ∧ SqL K B a (ns.map V.int)
  | .dk ks ds, v => ∃ a vs, v = .ref a ∧ B a = some (.dK (ks.zip vs)) ∧ ks.length = ds.length ∧ RpA K B ds vs
  | .dt ks ds, v => ∃ a vs, v = .ref a ∧ B a = some (.dT (ks.zip vs)) ∧ ks.length = ds.length ∧ RpA K B ds vs
def RpA (K : PySem.W.Frag) (B : Hp) : List Dt → List V → Prop
  | [], vs => vs = []
  | d :: ds, vs => ∃ v r, vs = v :: r ∧ Rp K B d v ∧ RpA K B ds r
end
section
variable {K : PySem.W.Frag} {B B' : Hp}
mutual
theorem Rp.mono (e : Same B B') : ∀ {d : Dt} {v : V}, Rp K B d v → Rp K B' d v
  | .non, _, h => h
  | .bl _, _, h => h
  | .int _, _, h => h
  | .str _, _, h => h
  | .lst ds, v, h => by
    unfold Rp at h ⊢
    obtain ⟨a, xs, e1, e2, r⟩ := h
    exact ⟨a, xs, e1, e _ _ e2, RpA.mono e r⟩
  | .tup ds, v, h => by
    unfold Rp at h ⊢
    obtain ⟨a, xs, e1, e2, r⟩ := h
    exact ⟨a, xs, e1, sqt_mono e e2, RpA.mono e r⟩
  | .scr ns, v, h => by
    unfold Rp at h ⊢
    obtain ⟨a, e1, e2⟩ := h
    exact ⟨a, e1, sql_mono e e2⟩
  | .dk ks ds, v, h => by
    unfold Rp at h ⊢
    obtain ⟨a, xs, e1, e2, n, r⟩ := h
    exact ⟨a, xs, e1, e _ _ e2, n, RpA.mono e r⟩
  | .dt ks ds, v, h => by
    unfold Rp at h ⊢
    obtain ⟨a, xs, e1, e2, n, r⟩ := h
    exact ⟨a, xs, e1, e _ _ e2, n, RpA.mono e r⟩
theorem RpA.mono (e : Same B B') : ∀ {ds : List Dt} {vs : List V}, RpA K B ds vs → RpA K B' ds vs
  | [], _, h => h
  | d :: ds, vs, h => by
    unfold RpA at h ⊢
    obtain ⟨v, r, e1, h1, h2⟩ := h
    exact ⟨v, r, e1, Rp.mono e h1, RpA.mono e h2⟩
end
theorem RpA.length : ∀ {ds : List Dt} {vs : List V}, RpA K B ds vs → vs.length = ds.length
  | [], _, h => by unfold RpA at h; subst h; rfl
  | d :: ds, vs, h => by
    unfold RpA at h
    obtain ⟨v, r, rfl, _, h2⟩ := h
    simp [RpA.length h2]
theorem RpA.get : ∀ {ds : List Dt} {vs : List V} {i : Nat} {d : Dt}, RpA K B ds vs → ds[i]? = some d → ∃ v, vs[i]? = some v ∧ Rp K B d v
  | [], _, _, _, _, e => by simp at e
  | d0 :: ds, vs, i, d, h, e => by
    unfold RpA at h
    obtain ⟨v, r, rfl, h1, h2⟩ := h
    cases i with
    | zero => simp at e; subst e; exact ⟨v, rfl, h1⟩
    | succ i => simp at e; simpa using RpA.get h2 e
theorem rpa_nil : RpA K B [] [] := by unfold RpA; rfl
theorem rpa_cons {d : Dt} {v : V} {ds : List Dt} {vs : List V} (h : Rp K B d v) (k : RpA K B ds vs) : RpA K B (d :: ds) (v :: vs) := by
  unfold RpA
  exact ⟨v, vs, rfl, h, k⟩
theorem RpA.append : ∀ {ds es : List Dt} {vs us : List V}, RpA K B ds vs → RpA K B es us → RpA K B (ds ++ es) (vs ++ us)
  | [], es, vs, us, h, k => by unfold RpA at h; subst h; exact k
  | d :: ds, es, vs, us, h, k => by
    unfold RpA at h
    obtain ⟨v, r, rfl, h1, h2⟩ := h
    exact rpa_cons h1 (RpA.append h2 k)
theorem RpA.one {d : Dt} {v : V} (h : Rp K B d v) : RpA K B [d] [v] := rpa_cons h rpa_nil
theorem RpA.drop : ∀ {ds : List Dt} {vs : List V} (n : Nat), RpA K B ds vs → RpA K B (ds.drop n) (vs.drop n)
  | _, _, 0, h => h
  | [], vs, n + 1, h => by unfold RpA at h; subst h; exact rpa_nil
  | d :: ds, vs, n + 1, h => by
    unfold RpA at h
    obtain ⟨v, r, rfl, _, h2⟩ := h
    exact RpA.drop n h2
theorem RpA.take : ∀ {ds : List Dt} {vs : List V} (n : Nat), RpA K B ds vs → RpA K B (ds.take n) (vs.take n)
  | _, _, 0, h => by simpa using rpa_nil
  | [], vs, n + 1, h => by unfold RpA at h; subst h; exact rpa_nil
  | d :: ds, vs, n + 1, h => by
    unfold RpA at h
    obtain ⟨v, r, rfl, h1, h2⟩ := h
    exact rpa_cons h1 (RpA.take n h2)
theorem RpA.reverse : ∀ {ds : List Dt} {vs : List V}, RpA K B ds vs → RpA K B ds.reverse vs.reverse
  | [], vs, h => by unfold RpA at h; subst h; exact rpa_nil
  | d :: ds, vs, h => by
    unfold RpA at h
    obtain ⟨v, r, rfl, h1, h2⟩ := h
    rw [List.reverse_cons, List.reverse_cons]
    exact RpA.append (RpA.reverse h2) (RpA.one h1)
theorem RpA.set : ∀ {ds : List Dt} {vs : List V} {d : Dt} {v : V} (n : Nat), RpA K B ds vs → Rp K B d v → RpA K B (ds.set n d) (vs.set n v)
  | [], vs, _, _, n, h, _ => by unfold RpA at h; subst h; exact rpa_nil
  | d :: ds, vs, _, _, 0, h, k => by
    unfold RpA at h
    obtain ⟨v, r, rfl, h1, h2⟩ := h
    exact rpa_cons k h2
  | d :: ds, vs, _, _, n + 1, h, k => by
    unfold RpA at h
    obtain ⟨v, r, rfl, h1, h2⟩ := h
    exact rpa_cons h1 (RpA.set n h2 k)
theorem RpA.dropLast : ∀ {ds : List Dt} {vs : List V}, RpA K B ds vs → RpA K B ds.dropLast vs.dropLast := fun {ds vs} h => by
  rw [List.dropLast_eq_take, List.dropLast_eq_take, RpA.length h]
  exact RpA.take _ h
theorem rpa_ints : ∀ {ns : List Int} {vs : List V}, RpA K B (ns.map Dt.int) vs → vs = ns.map V.int
  | [], vs, h => by unfold RpA at h; exact h
  | n :: ns, vs, h => by
    rw [List.map_cons] at h
    unfold RpA at h
    obtain ⟨v, r, rfl, h1, h2⟩ := h
    unfold Rp at h1
    subst h1
    rw [rpa_ints h2]
    rfl
theorem rpa_of_ints : ∀ {ns : List Int}, RpA K B (ns.map Dt.int) (ns.map V.int)
  | [] => rpa_nil
  | n :: ns => rpa_cons (by unfold Rp; rfl) rpa_of_ints
theorem rpa_strs : ∀ {ns : List Str} {vs : List V}, RpA K B (ns.map Dt.str) vs → vs = ns.map V.str
  | [], vs, h => by unfold RpA at h; exact h
  | n :: ns, vs, h => by
    rw [List.map_cons] at h
    unfold RpA at h
    obtain ⟨v, r, rfl, h1, h2⟩ := h
    unfold Rp at h1
    subst h1
    rw [rpa_strs h2]
    rfl
theorem rpa_of_strs : ∀ {ns : List Str}, RpA K B (ns.map Dt.str) (ns.map V.str)
  | [] => rpa_nil
  | n :: ns => rpa_cons (by unfold Rp; rfl) rpa_of_strs
theorem dpa_ints : ∀ ns : List Int, DpAll K B (ns.map V.int) (ns.map PyData.int)
  | [] => .nil
  | n :: ns => .cons (.int n) (dpa_ints ns)
mutual
theorem Rp.dp : ∀ {d : Dt} {v : V}, Rp K B d v → d.pl = true → Dp K B v d.py
  | .non, _, h, _ => by unfold Rp at h; subst h; exact .non
  | .bl _, _, h, _ => by unfold Rp at h; subst h; exact .bl _
  | .int _, _, h, _ => by unfold Rp at h; subst h; exact .int _
  | .str _, _, h, _ => by unfold Rp at h; subst h; exact .str _
  | .lst ds, v, h, p => by
    unfold Rp at h
    obtain ⟨a, xs, rfl, e2, r⟩ := h
    unfold Dt.py
    unfold Dt.pl at p
    exact .lst (SqL.of e2) (RpA.dp r p)
  | .tup ds, v, h, p => by
    unfold Rp at h
    obtain ⟨a, xs, rfl, e2, r⟩ := h
    unfold Dt.py
    unfold Dt.pl at p
    exact .tup e2 (RpA.dp r p)
  | .scr ns, v, h, _ => by
    unfold Rp at h
    obtain ⟨a, rfl, e2⟩ := h
    unfold Dt.py
    exact .lst e2 (dpa_ints ns)
  | .dk _ _, _, _, p => by unfold Dt.pl at p; cases p
  | .dt _ _, _, _, p => by unfold Dt.pl at p; cases p
theorem RpA.dp : ∀ {ds : List Dt} {vs : List V}, RpA K B ds vs → Dt.pls ds = true → DpAll K B vs (Dt.pys ds)
  | [], _, h, _ => by unfold RpA at h; subst h; exact .nil
  | d :: ds, vs, h, p => by
    unfold RpA at h
    obtain ⟨v, r, rfl, h1, h2⟩ := h
    unfold Dt.pls at p
    obtain ⟨p1, p2⟩ := Bool.and_eq_true_iff.mp p
    unfold Dt.pys
    exact .cons (Rp.dp h1 p1) (RpA.dp h2 p2)
end
end
inductive Own where
  | dat (d : Dt)
  | hole (v : V)
  /-- any value; beside it: the values vs stand for ds -/
  | rv (vs : List V) (ds : List Dt)
  | lst (xs : List Own)
  | tup (xs : List Own)
  | dK (ks : List Key) (xs : List Own)
  | dT (ks : List (List Key)) (xs : List Own)
  | ins (C : Addr) (fs : List Str) (xs : List Own)
mutual
def Ow (K : PySem.W.Frag) (B : Hp) : Own → Hp → V → Prop
  | .dat d, O, v => Rp K B d v ∧ O = emp
  | .hole w, O, v => v = w ∧ O = emp
  | .rv vs ds, O, v => RpA K B ds vs ∧ O = emp
  | .lst xs, O, v => ∃ l vs O1, v = .ref l ∧ OwA K B xs O1 vs ∧ O1 l = none ∧ O = upd O1 l (.lst vs)
  | .tup xs, O, v => ∃ l vs O1, v = .ref l ∧ OwA K B xs O1 vs ∧ O1 l = none ∧ O = upd O1 l (.tup vs)
  | .dK ks xs, O, v => ∃ l vs O1, v = .ref l ∧ OwA K B xs O1 vs ∧ O1 l = none ∧ ks.length = xs.length ∧ O = upd O1 l (.dK (ks.zip vs))
  | .dT ks xs, O, v => ∃ l vs O1, v = .ref l ∧ OwA K B xs O1 vs ∧ O1 l = none ∧ ks.length = xs.length ∧ O = upd O1 l (.dT (ks.zip vs))
  | .ins C fs xs, O, v => ∃ p dx vs O1, v = .ref p ∧ OwA K B xs O1 vs ∧ O1 p = none ∧ O1 dx = none ∧ dx ≠ p ∧ fs.length = xs.length ∧ O = upd (upd O1 dx (.own p)) p (.ins C dx (fs.zip vs))
def OwA (K : PySem.W.Frag) (B : Hp) : List Own → Hp → List V → Prop
  | [], O, vs => vs = [] ∧ O = emp
  | t :: ts, O, vs => ∃ v r O1 O2, vs = v :: r ∧ Ow K B t O1 v ∧ OwA K B ts O2 r ∧ Dj O1 O2 ∧ O = jn O1 O2
end
section
variable {K : PySem.W.Frag} {B B' : Hp}
mutual
theorem Ow.mono (e : Same B B') : ∀ {t : Own} {O : Hp} {v : V}, Ow K B t O v → Ow K B' t O v
  | .dat d, O, v, h => by unfold Ow at h ⊢; exact ⟨Rp.mono e h.1, h.2⟩
  | .hole w, O, v, h => by unfold Ow at h ⊢; exact h
  | .rv vs ds, O, v, h => by unfold Ow at h ⊢; exact ⟨RpA.mono e h.1, h.2⟩
  | .lst xs, O, v, h => by
    unfold Ow at h ⊢
    obtain ⟨l, vs, O1, a, b, c⟩ := h
    exact ⟨l, vs, O1, a, OwA.mono e b, c⟩
  | .tup xs, O, v, h => by
    unfold Ow at h ⊢
    obtain ⟨l, vs, O1, a, b, c⟩ := h
    exact ⟨l, vs, O1, a, OwA.mono e b, c⟩
  | .dK ks xs, O, v, h => by
    unfold Ow at h ⊢
    obtain ⟨l, vs, O1, a, b, c⟩ := h
    exact ⟨l, vs, O1, a, OwA.mono e b, c⟩
  | .dT ks xs, O, v, h => by
    unfold Ow at h ⊢
    obtain ⟨l, vs, O1, a, b, c⟩ := h
    exact ⟨l, vs, O1, a, OwA.mono e b, c⟩
  | .ins C fs xs, O, v, h => by
    unfold Ow at h ⊢
    obtain ⟨p, dx, vs, O1, a, b, c⟩ := h
    exact ⟨p, dx, vs, O1, a, OwA.mono e b, c⟩
theorem OwA.mono (e : Same B B') : ∀ {ts : List Own} {O : Hp} {vs : List V}, OwA K B ts O vs → OwA K B' ts O vs
  | [], _, _, h => by unfold OwA at h ⊢; exact h
  | t :: ts, O, vs, h => by
    unfold OwA at h ⊢
    obtain ⟨v, r, O1, O2, a, b, c, d⟩ := h
    exact ⟨v, r, O1, O2, a, Ow.mono e b, OwA.mono e c, d⟩
end
theorem ow_dat {d : Dt} {v : V} (h : Rp K B d v) : Ow K B (.dat d) emp v := by unfold Ow; exact ⟨h, rfl⟩
theorem Ow.rp {d : Dt} {O : Hp} {v : V} (h : Ow K B (.dat d) O v) : Rp K B d v ∧ O = emp := by unfold Ow at h; exact h
theorem owa_nil : OwA K B [] emp [] := by unfold OwA; exact ⟨rfl, rfl⟩
theorem owa_cons {t : Own} {ts : List Own} {O1 O2 : Hp} {v : V} {vs : List V} (h : Ow K B t O1 v) (k : OwA K B ts O2 vs) (d : Dj O1 O2) : OwA K B (t :: ts) (jn O1 O2) (v :: vs) := by
  unfold OwA
  exact ⟨v, vs, O1, O2, rfl, h, k, d, rfl⟩
theorem OwA.length : ∀ {ts : List Own} {O : Hp} {vs : List V}, OwA K B ts O vs → vs.length = ts.length
  | [], O, vs, h => by unfold OwA at h; rw [h.1]; rfl
  | t :: ts, O, vs, h => by
    unfold OwA at h
    obtain ⟨v, r, O1, O2, rfl, a, b, c, d⟩ := h
    simp [OwA.length b]
theorem owa_dats : ∀ {ds : List Dt} {vs : List V}, RpA K B ds vs → OwA K B (ds.map Own.dat) emp vs
  | [], vs, h => by unfold RpA at h; subst h; exact owa_nil
  | d :: ds, vs, h => by
    unfold RpA at h
    obtain ⟨v, r, rfl, h1, h2⟩ := h
    have q := owa_cons (ow_dat h1) (owa_dats h2) emp_dj
    rw [emp_jn] at q
    exact q
theorem OwA.dats : ∀ {ds : List Dt} {O : Hp} {vs : List V}, OwA K B (ds.map Own.dat) O vs → RpA K B ds vs ∧ O = emp
  | [], O, vs, h => by rw [List.map_nil] at h; unfold OwA at h; obtain ⟨rfl, rfl⟩ := h; exact ⟨rpa_nil, rfl⟩
  | d :: ds, O, vs, h => by
    rw [List.map_cons] at h
    unfold OwA at h
    obtain ⟨v, r, O1, O2, rfl, a, b, c, rfl⟩ := h
    obtain ⟨h1, rfl⟩ := a.rp
    obtain ⟨h2, rfl⟩ := OwA.dats b
    exact ⟨rpa_cons h1 h2, emp_jn⟩
theorem OwA.at : ∀ {ts : List Own} {O : Hp} {vs : List V} {i : Nat} {t : Own}, OwA K B ts O vs → ts[i]? = some t →
    ∃ v O1 O2, vs[i]? = some v ∧ Ow K B t O1 v ∧ Dj O1 O2 ∧ O = jn O1 O2 ∧
      ∀ B' t' O1' v', Same B B' → Ow K B' t' O1' v' → Dj O1' O2 → OwA K B' (ts.set i t') (jn O1' O2) (vs.set i v')
  | [], _, _, _, _, _, e => by simp at e
  | t0 :: ts, O, vs, i, t, h, e => by
    unfold OwA at h
    obtain ⟨v, r, O1, O2, rfl, a, b, c, rfl⟩ := h
    cases i with
    | zero =>
      simp at e
      subst e
      exact ⟨v, O1, O2, rfl, a, c, rfl, fun B' t' O1' v' s k d => owa_cons k (OwA.mono s b) d⟩
    | succ i =>
      simp at e
      obtain ⟨v1, P1, P2, e1, a1, d1, rfl, q⟩ := OwA.at b e
      refine ⟨v1, P1, jn O1 P2, by simpa using e1, a1, Dj.jnr (Dj.rl c).symm d1, jn_swap (Dj.rl c), fun B' t' O1' v' s k d => ?_⟩
      have d' : Dj O1' P2 := Dj.rr d
      have d0 : Dj O1 O1' := (Dj.rl d).symm
      have z := owa_cons (Ow.mono s a) (q B' t' O1' v' s k d') (Dj.jnr d0 (Dj.rr c))
      rw [jn_swap d0] at z
      exact z
end
end Sm
namespace Sm
open PySem L2
abbrev Ent := Option Own
def Slots (K : PySem.W.Frag) (B : Hp) : List Ent → Hp → L2.St → Prop
  | [], O, σ => σ = [] ∧ O = emp
  | none :: Γ, O, σ => ∃ x r, σ = x :: r ∧ Slots K B Γ O r
  | some t :: Γ, O, σ => ∃ v r O1 O2, σ = some v :: r ∧ Ow K B t O1 v ∧ Slots K B Γ O2 r ∧ Dj O1 O2 ∧ O = jn O1 O2
section
variable {K : PySem.W.Frag} {B B' : Hp}
theorem Slots.mono (e : Same B B') : ∀ {Γ : List Ent} {O : Hp} {σ : L2.St}, Slots K B Γ O σ → Slots K B' Γ O σ
  | [], _, _, h => h
  | none :: Γ, O, σ, h => by
    unfold Slots at h ⊢
    obtain ⟨x, r, a, b⟩ := h
    exact ⟨x, r, a, Slots.mono e b⟩
  | some t :: Γ, O, σ, h => by
    unfold Slots at h ⊢
    obtain ⟨v, r, O1, O2, a, b, c, d⟩ := h
    exact ⟨v, r, O1, O2, a, b.mono e, Slots.mono e c, d⟩
theorem slots_own {t : Own} {v : V} {O1 O2 : Hp} {Γ : List Ent} {σ : L2.St} (h : Ow K B t O1 v) (k : Slots K B Γ O2 σ) (d : Dj O1 O2) : Slots K B (some t :: Γ) (jn O1 O2) (some v :: σ) := by
  unfold Slots
  exact ⟨v, σ, O1, O2, rfl, h, k, d, rfl⟩
theorem slots_un {x : Option V} {O : Hp} {Γ : List Ent} {σ : L2.St} (k : Slots K B Γ O σ) : Slots K B (none :: Γ) O (x :: σ) := by
  unfold Slots
  exact ⟨x, σ, rfl, k⟩
theorem Slots.len : ∀ {Γ : List Ent} {O : Hp} {σ : L2.St}, Slots K B Γ O σ → σ.length = Γ.length
  | [], _, _, h => by unfold Slots at h; rw [h.1]; rfl
  | none :: Γ, O, σ, h => by
    unfold Slots at h
    obtain ⟨x, r, rfl, b⟩ := h
    simp [Slots.len b]
  | some t :: Γ, O, σ, h => by
    unfold Slots at h
    obtain ⟨v, r, O1, O2, rfl, b, c, d⟩ := h
    simp [Slots.len c]
theorem Slots.at : ∀ {Γ : List Ent} {O : Hp} {σ : L2.St} {i : Nat} {t : Own}, Slots K B Γ O σ → Γ[i]? = some (some t) →
    ∃ v O1 O2, σ[i]? = some (some v) ∧ Ow K B t O1 v ∧ Dj O1 O2 ∧ O = jn O1 O2 ∧
      (∀ B' t' O1' v', Same B B' → Ow K B' t' O1' v' → Dj O1' O2 → Slots K B' (Γ.set i (some t')) (jn O1' O2) (σ.set i (some v'))) ∧
      ∀ B' x, Same B B' → Slots K B' (Γ.set i none) O2 (σ.set i x)
  | [], _, _, _, _, _, e => by simp at e
  | none :: Γ, O, σ, i, t, h, e => by
    unfold Slots at h
    obtain ⟨x, r, rfl, b⟩ := h
    cases i with
    | zero => simp at e
    | succ i =>
      simp at e
      obtain ⟨v1, P1, P2, e1, a1, d1, e2, q, q2⟩ := Slots.at b e
      exact ⟨v1, P1, P2, by simpa using e1, a1, d1, e2, fun B' t' O1' v' s k d => slots_un (q B' t' O1' v' s k d), fun B' x s => slots_un (q2 B' x s)⟩
  | some t0 :: Γ, O, σ, i, t, h, e => by
    unfold Slots at h
    obtain ⟨v, r, O1, O2, rfl, a, b, c, rfl⟩ := h
    cases i with
    | zero =>
      simp at e
      subst e
      exact ⟨v, O1, O2, rfl, a, c, rfl, fun B' t' O1' v' s k d => slots_own k (b.mono s) d, fun B' x s => slots_un (b.mono s)⟩
    | succ i =>
      simp at e
      obtain ⟨v1, P1, P2, e1, a1, d1, rfl, q, q2⟩ := Slots.at b e
      refine ⟨v1, P1, jn O1 P2, by simpa using e1, a1, Dj.jnr (Dj.rl c).symm d1, jn_swap (Dj.rl c), fun B' t' O1' v' s k d => ?_, fun B' x s => slots_own (a.mono s) (q2 B' x s) (Dj.rr c)⟩
      have d' : Dj O1' P2 := Dj.rr d
      have d0 : Dj O1 O1' := (Dj.rl d).symm
      have z := slots_own (Ow.mono s a) (q B' t' O1' v' s k d') (Dj.jnr d0 (Dj.rr c))
      rw [jn_swap d0] at z
      exact z
theorem Slots.un : ∀ {Γ : List Ent} {O : Hp} {σ : L2.St} {i : Nat}, Slots K B Γ O σ → Γ[i]? = some none → ∀ B' t' O1' v', Same B B' → Ow K B' t' O1' v' → Dj O1' O → Slots K B' (Γ.set i (some t')) (jn O1' O) (σ.set i (some v'))
  | [], _, _, _, _, e => by simp at e
  | none :: Γ, O, σ, i, h, e => by
    unfold Slots at h
    obtain ⟨x, r, rfl, b⟩ := h
    cases i with
    | zero => exact fun B' t' O1' v' s k d => slots_own k (b.mono s) d
    | succ i => simp at e; exact fun B' t' O1' v' s k d => slots_un (Slots.un b e B' t' O1' v' s k d)
  | some t0 :: Γ, O, σ, i, h, e => by
    unfold Slots at h
    obtain ⟨v, r, O1, O2, rfl, a, b, c, rfl⟩ := h
    cases i with
    | zero => simp at e
    | succ i =>
      simp at e
      intro B' t' O1' v' s k d
      have z := slots_own (Ow.mono s a) (Slots.un b e B' t' O1' v' s k (Dj.rr d)) (Dj.jnr (Dj.rl d).symm c)
      rw [jn_swap (Dj.rl d).symm] at z
      exact z
theorem Slots.put {Γ : List Ent} {O : Hp} {σ : L2.St} {i : Nat} (h : Slots K B Γ O σ) (hi : i < Γ.length) : ∃ Od O3, Dj Od O3 ∧ O = jn Od O3 ∧
    (∀ B' t' O1' v', Same B B' → Ow K B' t' O1' v' → Dj O1' O3 → Slots K B' (Γ.set i (some t')) (jn O1' O3) (σ.set i (some v'))) ∧ ∀ x, Slots K B (Γ.set i none) O3 (σ.set i x) := by
  cases e : Γ[i]? with
  | none => rw [List.getElem?_eq_none_iff] at e; omega
  | some x =>
    cases x with
    | none => exact ⟨emp, O, emp_dj, emp_jn.symm, h.un e, by
        have : ∀ {Γ : List Ent} {O : Hp} {σ : L2.St} {i : Nat}, Slots K B Γ O σ → Γ[i]? = some none → ∀ x, Slots K B (Γ.set i none) O (σ.set i x) := by
          intro Γ
          induction Γ with
          | nil => intro O σ i h e; simp at e
          | cons a Γ ih =>
            intro O σ i h e x
            cases a with
            | none =>
              unfold Slots at h
              obtain ⟨y, r, rfl, b⟩ := h
              cases i with
              | zero => exact slots_un b
              | succ i => simp at e; exact slots_un (ih b e x)
            | some t =>
              unfold Slots at h
              obtain ⟨v, r, O1, O2, rfl, a, b, c, rfl⟩ := h
              cases i with
              | zero => simp at e
              | succ i => simp at e; exact slots_own a (ih b e x) c
        exact this h e⟩
    | some t =>
      obtain ⟨v, O1, O2, _, a, d, e2, q, q2⟩ := h.at e
      exact ⟨O1, O2, d, e2, q, fun x => q2 B x (Same.refl _)⟩
inductive Wk : List Ent → List Ent → Prop
  | nil : Wk [] []
  | same {x : Ent} {Γ Γ' : List Ent} : Wk Γ Γ' → Wk (x :: Γ) (x :: Γ')
  | drop {x : Ent} {Γ Γ' : List Ent} : Wk Γ Γ' → Wk (x :: Γ) (none :: Γ')
theorem Wk.refl : ∀ Γ : List Ent, Wk Γ Γ
  | [] => .nil
  | _ :: Γ => .same (Wk.refl Γ)
theorem Wk.app : ∀ (Δ : List Ent) {Γ Γ' : List Ent}, Wk Γ Γ' → Wk (Δ ++ Γ) (Δ ++ Γ')
  | [], _, _, h => h
  | _ :: Δ, _, _, h => .same (Wk.app Δ h)
theorem Slots.weak : ∀ {Γ Γ' : List Ent} {O : Hp} {σ : L2.St}, Wk Γ Γ' → Slots K B Γ O σ → ∃ Od O', Dj Od O' ∧ O = jn Od O' ∧ Slots K B Γ' O' σ
  | _, _, O, σ, .nil, h => ⟨emp, O, emp_dj, emp_jn.symm, h⟩
  | none :: Γ, _, O, σ, .same w, h => by
    unfold Slots at h
    obtain ⟨x, r, rfl, b⟩ := h
    obtain ⟨Od, O', d, e, q⟩ := Slots.weak w b
    exact ⟨Od, O', d, e, slots_un q⟩
  | some t :: Γ, _, O, σ, .same w, h => by
    unfold Slots at h
    obtain ⟨v, r, O1, O2, rfl, a, b, c, rfl⟩ := h
    obtain ⟨Od, O', d, rfl, q⟩ := Slots.weak w b
    exact ⟨Od, jn O1 O', Dj.jnr (Dj.rl c).symm d, jn_swap (Dj.rl c), slots_own a q (Dj.rr c)⟩
  | none :: Γ, _, O, σ, .drop w, h => by
    unfold Slots at h
    obtain ⟨x, r, rfl, b⟩ := h
    obtain ⟨Od, O', d, e, q⟩ := Slots.weak w b
    exact ⟨Od, O', d, e, slots_un q⟩
  | some t :: Γ, _, O, σ, .drop w, h => by
    unfold Slots at h
    obtain ⟨v, r, O1, O2, rfl, a, b, c, rfl⟩ := h
    obtain ⟨Od, O', d, rfl, q⟩ := Slots.weak w b
    exact ⟨jn O1 Od, O', Dj.jnl (Dj.rr c) d, jn_assoc.symm, slots_un q⟩
end
structure Post (B0 O0 H0 B O H : Hp) : Prop where
  b0 : Same B0 B
  bh : Same B H
  oh : Same O H
  dj : Dj B O
  fr : ∀ a o, H0 a = some o → O0 a = none → H a = some o
  yb : ∀ a, B a ≠ none → B0 a ≠ none ∨ O0 a ≠ none ∨ H0 a = none
  yo : ∀ a, O a ≠ none → O0 a ≠ none ∨ H0 a = none
section
variable {B0 O0 H0 B O H : Hp}
theorem Post.refl (h1 : Same B H) (h2 : Same O H) (h3 : Dj B O) : Post B O H B O H :=
  ⟨Same.refl _, h1, h2, h3, fun _ _ h _ => h, fun _ h => .inl h, fun _ h => .inl h⟩
theorem Post.fresh (p : Post B0 O0 H0 B O H) {a : Addr} (h : H a = none) : O0 a ≠ none ∨ H0 a = none := by
  by_cases q : O0 a = none
  · refine .inr ?_
    cases e : H0 a with
    | none => rfl
    | some o => rw [p.fr a o e q] at h; cases h
  · exact .inl q
theorem Post.newB (p : Post B0 O0 H0 B O H) {a : Addr} {o : HO} (h : H a = none) : Post B0 O0 H0 (upd B a o) O (upd H a o) where
  b0 := p.b0.trans (same_upd (none_of_same p.bh h))
  bh := fun b u e => by
    by_cases q : b = a
    · subst q; rw [upd_same] at e ⊢; exact e
    · rw [upd_ne q] at e ⊢; exact p.bh b u e
  oh := fun b u e => by rw [upd_ne (ne_of_none (p.oh b u e) h)]; exact p.oh b u e
  dj := p.dj.upd (none_of_same p.oh h)
  fr := fun b u e n => by rw [upd_ne (ne_of_none (p.fr b u e n) h)]; exact p.fr b u e n
  yb := fun b e => by
    by_cases q : b = a
    · subst q; exact .inr (p.fresh h)
    · rw [upd_ne q] at e; exact p.yb b e
  yo := p.yo
theorem Post.newO (p : Post B0 O0 H0 B O H) {a : Addr} {o : HO} (h : H a = none) : Post B0 O0 H0 B (upd O a o) (upd H a o) where
  b0 := p.b0
  bh := fun b u e => by rw [upd_ne (ne_of_none (p.bh b u e) h)]; exact p.bh b u e
  oh := fun b u e => by
    by_cases q : b = a
    · subst q; rw [upd_same] at e ⊢; exact e
    · rw [upd_ne q] at e ⊢; exact p.oh b u e
  dj := (p.dj.symm.upd (none_of_same p.bh h)).symm
  fr := fun b u e n => by rw [upd_ne (ne_of_none (p.fr b u e n) h)]; exact p.fr b u e n
  yb := p.yb
  yo := fun b e => by
    by_cases q : b = a
    · subst q; exact p.fresh h
    · rw [upd_ne q] at e; exact p.yo b e
theorem Post.mut (p : Post B0 O0 H0 B O H) {a : Addr} {o u : HO} (h : O a = some u) : Post B0 O0 H0 B (upd O a o) (upd H a o) where
  b0 := p.b0
  bh := fun b w e => by
    have ne : b ≠ a := fun q => by
      subst q
      rcases p.dj b with z | z
      · rw [z] at e; cases e
      · rw [z] at h; cases h
    rw [upd_ne ne]; exact p.bh b w e
  oh := fun b w e => by
    by_cases q : b = a
    · subst q; rw [upd_same] at e ⊢; exact e
    · rw [upd_ne q] at e ⊢; exact p.oh b w e
  dj := (Dj.upd p.dj.symm (by
    rcases p.dj a with z | z
    · exact z
    · rw [z] at h; cases h)).symm
  fr := fun b w e n => by
    have ne : b ≠ a := fun q => by
      subst q
      rcases p.yo b (by rw [h]; simp) with z | z
      · exact z n
      · rw [z] at e; cases e
    rw [upd_ne ne]; exact p.fr b w e n
  yb := p.yb
  yo := fun b e => by
    by_cases q : b = a
    · subst q; exact p.yo b (by rw [h]; simp)
    · rw [upd_ne q] at e; exact p.yo b e
theorem Post.dropL {O1 O2 : Hp} (p : Post B0 O0 H0 B (jn O1 O2) H) (d : Dj O1 O2) : Post B0 O0 H0 B O2 H :=
  ⟨p.b0, p.bh, (same_jnr d).trans p.oh, p.dj.rr, p.fr, p.yb, fun a e => p.yo a fun z => e (jn_none_iff.mp z).2⟩
theorem Post.dropR {O1 O2 : Hp} (p : Post B0 O0 H0 B (jn O1 O2) H) : Post B0 O0 H0 B O1 H :=
  ⟨p.b0, p.bh, same_jnl.trans p.oh, p.dj.rl, p.fr, p.yb, fun a e => p.yo a fun z => e (jn_none_iff.mp z).1⟩
theorem Post.freeze {O1 O2 : Hp} (p : Post B0 O0 H0 B (jn O1 O2) H) (d : Dj O1 O2) : Post B0 O0 H0 (jn B O1) O2 H where
  b0 := p.b0.trans same_jnl
  bh := same_jn p.bh (same_jnl.trans p.oh)
  oh := (same_jnr d).trans p.oh
  dj := Dj.jnl p.dj.rr d
  fr := p.fr
  yb := fun a e => by
    by_cases q : B a = none
    · exact .inr (p.yo a fun z => e (jn_none_iff.mpr ⟨q, (jn_none_iff.mp z).1⟩))
    · exact p.yb a q
  yo := fun a e => p.yo a fun z => e (jn_none_iff.mp z).2
theorem Post.call {Oa Or B' Oa' H' : Hp} (p : Post B0 O0 H0 B (jn Oa Or) H) (d : Dj Oa Or) (q : Post B Oa H B' Oa' H') : Dj Oa' Or ∧ Post B0 O0 H0 B' (jn Oa' Or) H' := by
  have hr : Same Or H := (same_jnr d).trans p.oh
  have hr' : Same Or H' := fun a o e => q.fr a o (hr a o e) (by
    rcases d a with z | z
    · exact z
    · rw [z] at e; cases e)
  have notfresh : ∀ a, Or a ≠ none → H a ≠ none := fun a e z => e (none_of_same hr z)
  have d' : Dj Oa' Or := fun a => by
    by_cases z : Oa' a = none
    · exact .inl z
    · refine .inr ?_
      rcases q.yo a z with w | w
      · rcases d a with x | x
        · exact absurd x w
        · exact x
      · exact none_of_same hr w
  refine ⟨d', ⟨p.b0.trans q.b0, q.bh, same_jn q.oh hr', ?_, ?_, ?_, ?_⟩⟩
  · refine Dj.jnr q.dj fun a => ?_
    by_cases z : B' a = none
    · exact .inl z
    · refine .inr ?_
      rcases q.yb a z with w | w | w
      · rcases p.dj.rr a with x | x
        · exact absurd x w
        · exact x
      · rcases d a with x | x
        · exact absurd x w
        · exact x
      · exact none_of_same hr w
  · intro a o e n
    have h := p.fr a o e n
    refine q.fr a o h ?_
    cases z : Oa a with
    | none => rfl
    | some u =>
      rcases p.yo a (by rw [jn_some z]; simp) with w | w
      · exact absurd n w
      · rw [w] at e; cases e
  · intro a e
    rcases q.yb a e with w | w | w
    · exact p.yb a w
    · exact .inr (p.yo a fun z => w (jn_none_iff.mp z).1)
    · exact .inr (p.fresh w)
  · intro a e
    by_cases z : Oa' a = none
    · refine p.yo a fun w => e (jn_none_iff.mpr ⟨z, (jn_none_iff.mp w).2⟩)
    · rcases q.yo a z with w | w
      · exact p.yo a fun x => w (jn_none_iff.mp x).1
      · exact p.fresh w
end
structure Fx where
  K : PySem.W.Frag
  B : Hp
  O : Hp
  H : Hp
  /-- the parameters that stay: slot, value -/
  ins : List (Nat × V)
def Stt (F : Fx) (Γ : List Ent) (T : List (V × Own)) (σ : L2.St) (H : Hp) : Prop :=
  ∃ B O, Slots F.K B (T.map (fun p => some p.2) ++ Γ) O (T.map (fun p => some p.1) ++ σ) ∧ Post F.B F.O F.H B O H ∧ ∀ p ∈ F.ins, σ[p.1]? = some (some p.2)
section
variable {F : Fx} {Γ Γ' : List Ent} {T : List (V × Own)} {σ : L2.St} {H H' : Hp} {v : V} {t : Own}
theorem Stt.push (h : Stt F Γ T σ H) {d : Dt} (k : ∀ B, Same B H → Rp F.K B d v) : Stt F Γ ((v, .dat d) :: T) σ H := by
  obtain ⟨B, O, s, p, i⟩ := h
  refine ⟨B, O, ?_, p, i⟩
  have q := slots_own (ow_dat (k B p.bh)) s emp_dj
  rw [emp_jn] at q
  exact q
theorem Stt.dup {i : Nat} {d : Dt} (h : Stt F Γ T σ H) (e : Γ[i]? = some (some (.dat d))) : ∃ v, σ[i]? = some (some v) ∧ Stt F Γ ((v, .dat d) :: T) σ H := by
  obtain ⟨B, O, s, p, q⟩ := h
  have e' : (T.map (fun p => some p.2) ++ Γ)[T.length + i]? = some (some (.dat d)) := by
    rw [List.getElem?_append_right (by simp)]
    simpa using e
  obtain ⟨v, O1, O2, e1, a, _⟩ := s.at e'
  refine ⟨v, ?_, B, O, ?_, p, q⟩
  · rw [List.getElem?_append_right (by simp)] at e1
    simpa using e1
  · have z := slots_own (ow_dat a.rp.1) s emp_dj
    rw [emp_jn] at z
    exact z
theorem Stt.pop (h : Stt F Γ ((v, t) :: T) σ H) : Stt F Γ T σ H := by
  obtain ⟨B, O, s, p, q⟩ := h
  unfold Slots at s
  obtain ⟨w, r, O1, O2, e, a, b, d, rfl⟩ := s
  cases e
  exact ⟨B, O2, b, p.dropL d, q⟩
theorem Stt.weak (h : Stt F Γ T σ H) (w : Wk Γ Γ') : Stt F Γ' T σ H := by
  obtain ⟨B, O, s, p, q⟩ := h
  obtain ⟨Od, O', d, rfl, s'⟩ := s.weak (Wk.app _ w)
  exact ⟨B, O', s', p.dropL d, q⟩
theorem Stt.top (h : Stt F Γ ((v, t) :: T) σ H) : ∃ B O1 O2, Ow F.K B t O1 v ∧ Slots F.K B (T.map (fun p => some p.2) ++ Γ) O2 (T.map (fun p => some p.1) ++ σ) ∧ Dj O1 O2 ∧ Post F.B F.O F.H B (jn O1 O2) H ∧ ∀ p ∈ F.ins, σ[p.1]? = some (some p.2) := by
  obtain ⟨B, O, s, p, q⟩ := h
  unfold Slots at s
  obtain ⟨w, r, O1, O2, e, a, b, d, rfl⟩ := s
  cases e
  exact ⟨B, O1, O2, a, b, d, p, q⟩
theorem Stt.topd {d : Dt} (h : Stt F Γ ((v, .dat d) :: T) σ H) : ∃ B, Same B H ∧ Rp F.K B d v := by
  obtain ⟨B, O1, O2, a, _, _, p, _⟩ := h.top
  exact ⟨B, p.bh, a.rp.1⟩
theorem Stt.topd2 {d e : Dt} {u : V} (h : Stt F Γ ((u, .dat e) :: (v, .dat d) :: T) σ H) : ∃ B, Same B H ∧ Rp F.K B d v ∧ Rp F.K B e u := by
  obtain ⟨B, O1, O2, a, b, _, p, _⟩ := h.top
  rw [List.map_cons, List.map_cons] at b
  unfold Slots at b
  obtain ⟨w, r, P1, P2, e1, a2, _⟩ := b
  cases e1
  exact ⟨B, p.bh, a2.rp.1, a.rp.1⟩
theorem Stt.assign {j : Nat} (h : Stt F Γ ((v, t) :: T) σ H) (hj : j < Γ.length) (ni : ∀ p ∈ F.ins, p.1 ≠ j) : Stt F (Γ.set j (some t)) T (σ.set j (some v)) H := by
  obtain ⟨B, O1, O2, a, s, d, p, q⟩ := h.top
  have hl : T.length + j < (T.map (fun p => some p.2) ++ Γ).length := by simp; omega
  obtain ⟨Od, O3, d3, rfl, q1, _⟩ := s.put hl
  refine ⟨B, jn O1 O3, ?_, ?_, fun p hp => by rw [List.getElem?_set_ne (Ne.symm (ni p hp))]; exact q p hp⟩
  · have z := q1 B t O1 v (Same.refl _) a (Dj.rr d)
    rw [List.set_append_right _ _ (by simp), List.set_append_right _ _ (by simp)] at z
    simpa using z
  · rw [jn_swap (Dj.rl d)] at p
    exact p.dropL (Dj.jnr (Dj.rl d).symm d3)
theorem Stt.new {p : Addr} {o : HO} (h : Stt F Γ T σ H) (hp : H p = none) (k : ∀ B, Same B H → ∀ O, Same O H → Ow F.K B t (upd emp p o) v) : Stt F Γ ((v, t) :: T) σ (upd H p o) := by
  obtain ⟨B, O, s, P, q⟩ := h
  have n : O p = none := none_of_same P.oh hp
  have d : Dj (upd emp p o) O := Dj.upd emp_dj n
  have e : jn (upd emp p o) O = upd O p o := by rw [← upd_jn, emp_jn]
  refine ⟨B, jn (upd emp p o) O, slots_own (k B P.bh O P.oh) s d, ?_, q⟩
  rw [e]
  exact P.newO hp
end
end Sm
namespace Sm
open PySem L2
section
variable {F : Fx} {Γ Γ' : List Ent} {T : List (V × Own)} {σ : L2.St} {H H' : Hp} {v : V} {t : Own}
theorem Stt.freeze {ds : List Dt} (h : Stt F Γ ((v, .lst (ds.map Own.dat)) :: T) σ H) : Stt F Γ ((v, .dat (.lst ds)) :: T) σ H := by
  obtain ⟨B, O1, O2, a, s, d, p, q⟩ := h.top
  unfold Ow at a
  obtain ⟨l, vs, O', rfl, oa, n, rfl⟩ := a
  obtain ⟨r, rfl⟩ := oa.dats
  have nB : B l = none := by
    rcases p.dj.rl l with z | z
    · exact z
    · rw [upd_same] at z; cases z
  refine ⟨jn B (upd emp l (.lst vs)), O2, ?_, p.freeze d, q⟩
  have k : Rp F.K (jn B (upd emp l (.lst vs))) (.lst ds) (.ref l) := by
    unfold Rp
    exact ⟨l, vs, rfl, by rw [jn_none nB, upd_same], r.mono same_jnl⟩
  have z := slots_own (ow_dat k) (s.mono same_jnl) emp_dj
  rw [emp_jn] at z
  exact z
theorem Stt.freezeAt {i : Nat} {ds : List Dt} (h : Stt F Γ T σ H) (e : Γ[i]? = some (some (.lst (ds.map Own.dat)))) : Stt F (Γ.set i (some (.dat (.lst ds)))) T σ H := by
  obtain ⟨B, O, s, p, q⟩ := h
  have e' : (T.map (fun p => some p.2) ++ Γ)[T.length + i]? = some (some (.lst (ds.map Own.dat))) := by
    rw [List.getElem?_append_right (by simp)]
    simpa using e
  obtain ⟨v, O1, O2, e1, a, d, rfl, k, _⟩ := s.at e'
  unfold Ow at a
  obtain ⟨l, vs, O', rfl, oa, n, rfl⟩ := a
  obtain ⟨r, rfl⟩ := oa.dats
  have nB : B l = none := by
    rcases p.dj.rl l with z | z
    · exact z
    · rw [upd_same] at z; cases z
  refine ⟨jn B (upd emp l (.lst vs)), O2, ?_, p.freeze d, q⟩
  have kk : Rp F.K (jn B (upd emp l (.lst vs))) (.lst ds) (.ref l) := by
    unfold Rp
    exact ⟨l, vs, rfl, by rw [jn_none nB, upd_same], r.mono same_jnl⟩
  have z := k _ _ emp (.ref l) same_jnl (ow_dat kk) emp_dj
  rw [emp_jn, List.set_append_right _ _ (by simp), List.set_append_right _ _ (by simp)] at z
  have hs : σ.set (T.length + i - (T.map fun p => some p.1).length) (some (V.ref l)) = σ := by
    rw [List.getElem?_append_right (by simp)] at e1
    apply List.ext_getElem?
    intro j
    by_cases hj : T.length + i - (T.map fun p => some p.1).length = j
    · subst hj
      rw [e1]
      have hl := (List.getElem?_eq_some_iff.mp e1).1
      rw [List.getElem?_set_self hl]
    · rw [List.getElem?_set_ne hj]
  rw [hs] at z
  simpa using z
end
def Ev (F : Fx) (te : TE) (Γ : List Ent) (t : Own) : Prop :=
  ∀ T σ H, Stt F Γ T σ H → ∀ Q : VK, (∀ v H', Stt F Γ ((v, t) :: T) σ H' → Same H H' → Q v H') → te σ H Q
def EvT (F : Fx) (tt : TT) (Γ : List Ent) (b : Bool) : Prop :=
  ∀ T σ H, Stt F Γ T σ H → ∀ Q : Bool → Hp → Prop, (∀ H', Stt F Γ T σ H' → Same H H' → Q b H') → tt σ H Q
def Op2 (F : Fx) (r : R2) (tx ty tz : Own) : Prop :=
  ∀ Γ T σ H x y, Stt F Γ ((y, ty) :: (x, tx) :: T) σ H → ∀ Q : VK, (∀ z H', Stt F Γ ((z, tz) :: T) σ H' → Same H H' → Q z H') → r x y H Q
def Op1 (F : Fx) (r : V → Hp → VK → Prop) (tx tz : Own) : Prop :=
  ∀ Γ T σ H x, Stt F Γ ((x, tx) :: T) σ H → ∀ Q : VK, (∀ z H', Stt F Γ ((z, tz) :: T) σ H' → Same H H' → Q z H') → r x H Q
section
variable {F : Fx} {Γ : List Ent} {T : List (V × Own)} {σ : L2.St} {H : Hp} {ta tb tc te : TE} {tx ty tz t : Own} {r : R2} {tt uu : TT} {a b c : Bool} {i j k : Int} {x y : Str} {d e : Dt}
theorem rp_int {K : PySem.W.Frag} {B : Hp} {i : Int} {v : V} (h : Rp K B (.int i) v) : v = .int i := by unfold Rp at h; exact h
theorem rp_str {K : PySem.W.Frag} {B : Hp} {i : Str} {v : V} (h : Rp K B (.str i) v) : v = .str i := by unfold Rp at h; exact h
theorem rp_bl {K : PySem.W.Frag} {B : Hp} {i : Bool} {v : V} (h : Rp K B (.bl i) v) : v = .bl i := by unfold Rp at h; exact h
theorem rp_non {K : PySem.W.Frag} {B : Hp} {v : V} (h : Rp K B .non v) : v = .non := by unfold Rp at h; exact h
theorem ev_int : Ev F (tC (.int i)) Γ (.dat (.int i)) := fun T σ H h Q q => q _ H (h.push fun _ _ => by unfold Rp; rfl) (Same.refl _)
theorem ev_str : Ev F (tC (.str x)) Γ (.dat (.str x)) := fun T σ H h Q q => q _ H (h.push fun _ _ => by unfold Rp; rfl) (Same.refl _)
theorem ev_bl : Ev F (tC (.bl a)) Γ (.dat (.bl a)) := fun T σ H h Q q => q _ H (h.push fun _ _ => by unfold Rp; rfl) (Same.refl _)
theorem ev_non : Ev F (tC .non) Γ (.dat .non) := fun T σ H h Q q => q _ H (h.push fun _ _ => by unfold Rp; rfl) (Same.refl _)
theorem ev_var {i : Nat} (h : Γ[i]? = some (some (.dat d))) : Ev F (tVar i) Γ (.dat d) := fun T σ H s Q q => by
  obtain ⟨v, e, s'⟩ := s.dup h
  exact ⟨v, e, q v H s' (Same.refl _)⟩
theorem ev_op (h1 : Ev F ta Γ tx) (h2 : Ev F tb Γ ty) (ho : Op2 F r tx ty tz) : Ev F (tOp r ta tb) Γ tz := fun T σ H s Q q =>
  h1 T σ H s _ fun x H1 s1 e1 => h2 _ σ H1 s1 _ fun y H2 s2 e2 => ho _ _ σ H2 x y s2 Q fun z H3 s3 e3 => q z H3 s3 ((e1.trans e2).trans e3)
theorem ev_un {r : V → Hp → VK → Prop} (h1 : Ev F ta Γ tx) (ho : Op1 F r tx tz) : Ev F (tUn r ta) Γ tz := fun T σ H s Q q =>
  h1 T σ H s _ fun x H1 s1 e1 => ho _ _ σ H1 x s1 Q fun z H3 s3 e3 => q z H3 s3 (e1.trans e3)
theorem ev_is (h : Ev F te Γ t) (e : t = tx) : Ev F te Γ tx := e ▸ h
theorem op2_val {dx dy dz : Dt} (z : V) (hz : ∀ B, Rp F.K B dz z) (h : ∀ B H x y (Q : VK), Same B H → Rp F.K B dx x → Rp F.K B dy y → Q z H → r x y H Q) : Op2 F r (.dat dx) (.dat dy) (.dat dz) := fun Γ T σ H x y s Q q => by
  obtain ⟨B, e, h1, h2⟩ := s.topd2
  exact h B H x y Q e h1 h2 (q z H (s.pop.pop.push fun B _ => hz B) (Same.refl _))
theorem op1_val {r : V → Hp → VK → Prop} {dx dz : Dt} (z : V) (hz : ∀ B, Rp F.K B dz z) (h : ∀ B H x (Q : VK), Same B H → Rp F.K B dx x → Q z H → r x H Q) : Op1 F r (.dat dx) (.dat dz) := fun Γ T σ H x s Q q => by
  obtain ⟨B, e, h1⟩ := s.topd
  exact h B H x Q e h1 (q z H (s.pop.push fun B _ => hz B) (Same.refl _))
theorem op2_I0 {g : Int → Int → Int} : Op2 F (rI0 fun i j => .int (g i j)) (.dat (.int i)) (.dat (.int j)) (.dat (.int (g i j))) :=
  op2_val _ (fun B => by unfold Rp; rfl) fun B H x y Q _ h1 h2 q => ⟨i, j, rp_int h1, rp_int h2, q⟩
theorem op2_B0 {g : Int → Int → Bool} : Op2 F (rI0 fun i j => .bl (g i j)) (.dat (.int i)) (.dat (.int j)) (.dat (.bl (g i j))) :=
  op2_val _ (fun B => by unfold Rp; rfl) fun B H x y Q _ h1 h2 q => ⟨i, j, rp_int h1, rp_int h2, q⟩
theorem op2_I {C : Int → Int → Prop} {g : Int → Int → Int} (hc : C i j) : Op2 F (rI C fun i j => .int (g i j)) (.dat (.int i)) (.dat (.int j)) (.dat (.int (g i j))) :=
  op2_val _ (fun B => by unfold Rp; rfl) fun B H x y Q _ h1 h2 q => ⟨i, j, rp_int h1, rp_int h2, hc, q⟩
theorem ev_add (h1 : Ev F ta Γ (.dat (.int i))) (h2 : Ev F tb Γ (.dat (.int j))) : Ev F (tOp (rI0 fun i j => .int (i + j)) ta tb) Γ (.dat (.int (i + j))) := ev_op h1 h2 (op2_I0 (g := fun i j => i + j))
theorem ev_sub (h1 : Ev F ta Γ (.dat (.int i))) (h2 : Ev F tb Γ (.dat (.int j))) : Ev F (tOp (rI0 fun i j => .int (i - j)) ta tb) Γ (.dat (.int (i - j))) := ev_op h1 h2 (op2_I0 (g := fun i j => i - j))
theorem ev_mul (hc : CMul i j) (h1 : Ev F ta Γ (.dat (.int i))) (h2 : Ev F tb Γ (.dat (.int j))) : Ev F (tOp (rI CMul fun i j => .int (i * j)) ta tb) Γ (.dat (.int (i * j))) := ev_op h1 h2 (op2_I (g := fun i j => i * j) hc)
theorem ev_mod (hc : 0 < j) (h1 : Ev F ta Γ (.dat (.int i))) (h2 : Ev F tb Γ (.dat (.int j))) : Ev F (tOp (rI (fun _ j => 0 < j) fun i j => .int (i % j)) ta tb) Γ (.dat (.int (i % j))) := ev_op h1 h2 (op2_I (C := fun _ j => 0 < j) (g := fun i j => i % j) hc)
theorem ev_div (hc : CDiv i j) (h1 : Ev F ta Γ (.dat (.int i))) (h2 : Ev F tb Γ (.dat (.int j))) : Ev F (tOp (rI CDiv fun i j => .int (i / j)) ta tb) Γ (.dat (.int (i / j))) := ev_op h1 h2 (op2_I (g := fun i j => i / j) hc)
theorem ev_pow (hc : CPow i j) (h1 : Ev F ta Γ (.dat (.int i))) (h2 : Ev F tb Γ (.dat (.int j))) : Ev F (tOp (rI CPow fun i j => .int (i ^ j.toNat)) ta tb) Γ (.dat (.int (i ^ j.toNat))) := ev_op h1 h2 (op2_I (g := fun i j => i ^ j.toNat) hc)
theorem ev_lt (h1 : Ev F ta Γ (.dat (.int i))) (h2 : Ev F tb Γ (.dat (.int j))) : Ev F (tOp (rI0 fun i j => .bl (decide (i < j))) ta tb) Γ (.dat (.bl (decide (i < j)))) := ev_op h1 h2 (op2_B0 (g := fun i j => decide (i < j)))
theorem ev_le (h1 : Ev F ta Γ (.dat (.int i))) (h2 : Ev F tb Γ (.dat (.int j))) : Ev F (tOp (rI0 fun i j => .bl (decide (i ≤ j))) ta tb) Γ (.dat (.bl (decide (i ≤ j)))) := ev_op h1 h2 (op2_B0 (g := fun i j => decide (i ≤ j)))
theorem ev_gt (h1 : Ev F ta Γ (.dat (.int i))) (h2 : Ev F tb Γ (.dat (.int j))) : Ev F (tOp (rI0 fun i j => .bl (decide (j < i))) ta tb) Γ (.dat (.bl (decide (j < i)))) := ev_op h1 h2 (op2_B0 (g := fun i j => decide (j < i)))
theorem ev_ge (h1 : Ev F ta Γ (.dat (.int i))) (h2 : Ev F tb Γ (.dat (.int j))) : Ev F (tOp (rI0 fun i j => .bl (decide (j ≤ i))) ta tb) Γ (.dat (.bl (decide (j ≤ i)))) := ev_op h1 h2 (op2_B0 (g := fun i j => decide (j ≤ i)))
theorem ev_neg (h1 : Ev F ta Γ (.dat (.int i))) : Ev F (tUn (rU fun i => .int (-i)) ta) Γ (.dat (.int (-i))) := ev_un h1 (op1_val _ (fun B => by unfold Rp; rfl) fun B H x Q _ h q => ⟨i, rp_int h, q⟩)
theorem ev_eqI (h1 : Ev F ta Γ (.dat (.int i))) (h2 : Ev F tb Γ (.dat (.int j))) : Ev F (tOp rEq ta tb) Γ (.dat (.bl (decide (i = j)))) := ev_op h1 h2 (op2_val _ (fun B => by unfold Rp; rfl) fun B H x y Q _ h1 h2 q => by
  rw [rp_int h1, rp_int h2]
  exact ⟨rfl, by rw [dec_int, Bool.beq_eq_decide_eq]; exact q⟩)
theorem ev_neI (h1 : Ev F ta Γ (.dat (.int i))) (h2 : Ev F tb Γ (.dat (.int j))) : Ev F (tOp rNe ta tb) Γ (.dat (.bl (!decide (i = j)))) := ev_op h1 h2 (op2_val _ (fun B => by unfold Rp; rfl) fun B H x y Q _ h1 h2 q => by
  rw [rp_int h1, rp_int h2]
  exact ⟨rfl, by rw [dec_int, Bool.beq_eq_decide_eq]; exact q⟩)
theorem ev_eqS (h1 : Ev F ta Γ (.dat (.str x))) (h2 : Ev F tb Γ (.dat (.str y))) : Ev F (tOp rEq ta tb) Γ (.dat (.bl (decide (x = y)))) := ev_op h1 h2 (op2_val _ (fun B => by unfold Rp; rfl) fun B H x y Q _ h1 h2 q => by
  rw [rp_str h1, rp_str h2]
  exact ⟨rfl, by rw [dec_str, Bool.beq_eq_decide_eq]; exact q⟩)
theorem ev_neS (h1 : Ev F ta Γ (.dat (.str x))) (h2 : Ev F tb Γ (.dat (.str y))) : Ev F (tOp rNe ta tb) Γ (.dat (.bl (!decide (x = y)))) := ev_op h1 h2 (op2_val _ (fun B => by unfold Rp; rfl) fun B H x y Q _ h1 h2 q => by
  rw [rp_str h1, rp_str h2]
  exact ⟨rfl, by rw [dec_str, Bool.beq_eq_decide_eq]; exact q⟩)
theorem ev_eqB (h1 : Ev F ta Γ (.dat (.bl a))) (h2 : Ev F tb Γ (.dat (.bl b))) : Ev F (tOp rEq ta tb) Γ (.dat (.bl (decide (a = b)))) := ev_op h1 h2 (op2_val _ (fun B => by unfold Rp; rfl) fun B H x y Q _ h1 h2 q => by
  rw [rp_bl h1, rp_bl h2]
  exact ⟨rfl, by rw [dec_bl, Bool.beq_eq_decide_eq]; exact q⟩)
theorem ev_neB (h1 : Ev F ta Γ (.dat (.bl a))) (h2 : Ev F tb Γ (.dat (.bl b))) : Ev F (tOp rNe ta tb) Γ (.dat (.bl (!decide (a = b)))) := ev_op h1 h2 (op2_val _ (fun B => by unfold Rp; rfl) fun B H x y Q _ h1 h2 q => by
  rw [rp_bl h1, rp_bl h2]
  exact ⟨rfl, by rw [dec_bl, Bool.beq_eq_decide_eq]; exact q⟩)
theorem et_test (h : Ev F te Γ (.dat (.bl b))) : EvT F (tTest te) Γ b := fun T σ H s Q q => h T σ H s _ fun v H' s' e => by
  obtain ⟨B, _, r⟩ := s'.topd
  exact ⟨b, rp_bl r, q H' s'.pop e⟩
theorem et_B (h : Ev F te Γ (.dat (.bl b))) : EvT F (tB te) Γ b := fun T σ H s Q q => h T σ H s _ fun v H' s' e => by
  obtain ⟨B, _, r⟩ := s'.topd
  exact ⟨b, rp_bl r, q H' s'.pop e⟩
theorem et_and (h1 : EvT F tt Γ a) (h2 : EvT F uu Γ b) : EvT F (tAnd tt uu) Γ (a && b) := fun T σ H s Q q => h1 T σ H s _ fun H1 s1 e1 => by
  cases a with
  | true =>
    show uu σ H1 Q
    exact h2 T σ H1 s1 Q fun H2 s2 e2 => q H2 s2 (e1.trans e2)
  | false =>
    show Q false H1
    exact q H1 s1 e1
theorem et_or (h1 : EvT F tt Γ a) (h2 : EvT F uu Γ b) : EvT F (tOr tt uu) Γ (a || b) := fun T σ H s Q q => h1 T σ H s _ fun H1 s1 e1 => by
  cases a with
  | true =>
    show Q true H1
    exact q H1 s1 e1
  | false =>
    show uu σ H1 Q
    exact h2 T σ H1 s1 Q fun H2 s2 e2 => q H2 s2 (e1.trans e2)
theorem et_not (h1 : EvT F tt Γ a) : EvT F (tNot tt) Γ (!a) := fun T σ H s Q q => h1 T σ H s _ fun H1 s1 e1 => q H1 s1 e1
theorem ev_if (h : EvT F tt Γ c) (h1 : Ev F ta Γ (.dat d)) (h2 : Ev F tb Γ (.dat e)) : Ev F (tIf tt ta tb) Γ (.dat (if c = true then d else e)) := fun T σ H s Q q => h T σ H s _ fun H1 s1 e1 => by
  cases c with
  | true =>
    show ta σ H1 Q
    exact h1 T σ H1 s1 Q fun v H2 s2 e2 => q v H2 s2 (e1.trans e2)
  | false =>
    show tb σ H1 Q
    exact h2 T σ H1 s1 Q fun v H2 s2 e2 => q v H2 s2 (e1.trans e2)
theorem ev_andV (h1 : Ev F ta Γ (.dat (.bl a))) (h2 : Ev F tb Γ (.dat (.bl b))) : Ev F (tAndV ta tb) Γ (.dat (.bl (a && b))) := fun T σ H s Q q => h1 T σ H s _ fun v H1 s1 e1 => by
  obtain ⟨B, _, r⟩ := s1.topd
  refine ⟨a, rp_bl r, ?_⟩
  cases a with
  | true =>
    show tb σ H1 Q
    exact h2 T σ H1 s1.pop Q fun v H2 s2 e2 => q v H2 s2 (e1.trans e2)
  | false =>
    show Q (.bl false) H1
    exact q _ H1 (s1.pop.push fun _ _ => by unfold Rp; rfl) e1
theorem ev_orV (h1 : Ev F ta Γ (.dat (.bl a))) (h2 : Ev F tb Γ (.dat (.bl b))) : Ev F (tOrV ta tb) Γ (.dat (.bl (a || b))) := fun T σ H s Q q => h1 T σ H s _ fun v H1 s1 e1 => by
  obtain ⟨B, _, r⟩ := s1.topd
  refine ⟨a, rp_bl r, ?_⟩
  cases a with
  | true =>
    show Q (.bl true) H1
    exact q _ H1 (s1.pop.push fun _ _ => by unfold Rp; rfl) e1
  | false =>
    show tb σ H1 Q
    exact h2 T σ H1 s1.pop Q fun v H2 s2 e2 => q v H2 s2 (e1.trans e2)
theorem ev_notV (h1 : Ev F ta Γ (.dat (.bl a))) : Ev F (tNotV ta) Γ (.dat (.bl (!a))) := fun T σ H s Q q => h1 T σ H s _ fun v H1 s1 e1 => by
  obtain ⟨B, _, r⟩ := s1.topd
  exact ⟨a, rp_bl r, q _ H1 (s1.pop.push fun _ _ => by unfold Rp; rfl) e1⟩
end
end Sm
namespace Sm
open PySem L2
def inB {α : Type} (xs : List α) (i : Int) : Prop := -(xs.length : Int) ≤ i ∧ i < xs.length
instance {α : Type} (xs : List α) (i : Int) : Decidable (inB xs i) := by unfold inB; infer_instance
def ixI {α : Type} (xs : List α) (i : Int) : Nat := if 0 ≤ i then i.toNat else (i + xs.length).toNat
def getI {α : Type} [Inhabited α] (xs : List α) (i : Int) : α := xs.getD (ixI xs i) default
def cutL {α : Type} (xs : List α) (lo hi : Option Int) : List α := (xs.drop (HT.sIx xs.length 0 lo)).take (HT.sIx xs.length xs.length hi - HT.sIx xs.length 0 lo)
def setI {α : Type} (xs : List α) (i : Int) (x : α) : List α := xs.set (ixI xs i) x
theorem ixN_of {n : Nat} {i : Int} (h : -(n : Int) ≤ i ∧ i < n) : ixN n i = some (if 0 ≤ i then i.toNat else (i + n).toNat) := by
  unfold ixN
  by_cases p : 0 ≤ i
  · rw [if_pos p, if_pos h.2, if_pos p]
  · rw [if_neg p, if_pos h.1, if_neg p]
theorem ixI_lt {α : Type} {xs : List α} {i : Int} (h : inB xs i) : ixI xs i < xs.length := by
  unfold inB at h; unfold ixI
  split <;> omega
theorem atI_of {α : Type} {xs : List α} {i : Int} (h : inB xs i) : atI xs i = xs[ixI xs i]? := by
  unfold atI
  rw [ixN_of h]
  rfl
theorem getI_get {α : Type} [Inhabited α] {xs : List α} {i : Int} (h : inB xs i) : xs[ixI xs i]? = some (getI xs i) := by
  have q := ixI_lt h
  unfold getI
  rw [List.getD_eq_getElem?_getD, List.getElem?_eq_getElem q]
  rfl
def sgn (c : Nat) : Str := ⟨#[c]⟩
def getS (z : Str) (i : Int) : Nat := z.cps.toList.getD (ixI z.cps.toList i) 0
def inS (z : Str) (i : Int) : Prop := z.length ≤ 16777216 ∧ inB z.cps.toList i
instance (z : Str) (i : Int) : Decidable (inS z i) := by unfold inS; infer_instance
theorem line_le {n : Nat} (h : n ≤ 16777216) : n ≤ sizeLine := by rw [sizeLine_eq]; exact h
theorem line_lt {n : Nat} (h : n < 16777216) : n < sizeLine := by rw [sizeLine_eq]; exact h
section
variable {F : Fx} {Γ Γ' : List Ent} {T : List (V × Own)} {σ : L2.St} {H H' : Hp} {v : V} {t : Own}
def EvL (F : Fx) (te : TE) (Γ : List Ent) (ds : List Dt) : Prop :=
  ∀ T σ H, Stt F Γ T σ H → ∀ Q : VK, (∀ l vs H', H' l = some (.lst vs) → Stt F Γ ((.ref l, .rv vs ds) :: T) σ H' → Same H H' → Q (.ref l) H') → te σ H Q
def EvQ (F : Fx) (te : TE) (Γ : List Ent) (d : Dt) : Prop :=
  ∀ T σ H, Stt F Γ T σ H → ∀ Q : VK, (∀ v H', Rp F.K H' d v → Stt F Γ T σ H' → Same H H' → Q v H') → te σ H Q
theorem Stt.rvs {vs : List V} {ds : List Dt} (h : Stt F Γ ((v, .rv vs ds) :: T) σ H) : ∃ B, Same B H ∧ RpA F.K B ds vs := by
  obtain ⟨B, O1, O2, a, _, _, p, _⟩ := h.top
  unfold Ow at a
  exact ⟨B, p.bh, a.1⟩
theorem Stt.derive {vs : List V} {ds : List Dt} {d : Dt} (h : Stt F Γ ((v, .rv vs ds) :: T) σ H) {u : V} (k : ∀ B, Same B H → RpA F.K B ds vs → Rp F.K B d u) : Stt F Γ ((u, .dat d) :: T) σ H := by
  obtain ⟨B, O1, O2, a, s, d', p, q⟩ := h.top
  unfold Ow at a
  obtain ⟨r, rfl⟩ := a
  exact ⟨B, _, slots_own (ow_dat (k B p.bh r)) s emp_dj, p, q⟩
variable {ta tb te : TE} {ds es : List Dt} {d e : Dt} {i j : Int}
theorem el_dat (h : Ev F te Γ (.dat (.lst ds))) : EvL F te Γ ds := fun T σ H s Q q => h T σ H s Q fun v H' s' e => by
  obtain ⟨B, O1, O2, a, b, c, p, i⟩ := s'.top
  obtain ⟨r, rfl⟩ := a.rp
  unfold Rp at r
  obtain ⟨l, vs, rfl, hl, ra⟩ := r
  exact q l vs H' (p.bh l _ hl) ⟨B, _, slots_own (show Ow F.K B (.rv vs ds) emp (.ref l) by unfold Ow; exact ⟨ra, rfl⟩) b emp_dj, p, i⟩ e
theorem el_own (h : Ev F te Γ (.lst (ds.map Own.dat))) : EvL F te Γ ds := fun T σ H s Q q => h T σ H s Q fun v H' s' e => by
  obtain ⟨B, O1, O2, a, b, c, p, i⟩ := s'.top
  unfold Ow at a
  obtain ⟨l, vs, O', rfl, oa, n, rfl⟩ := a
  obtain ⟨r, rfl⟩ := oa.dats
  refine q l vs H' (p.oh l _ (jn_some upd_same)) ⟨B, jn emp O2, slots_own (show Ow F.K B (.rv vs ds) emp (.ref l) by unfold Ow; exact ⟨r, rfl⟩) b emp_dj, ?_, i⟩ e
  rw [emp_jn]
  exact p.dropL c
theorem el_var {n : Nat} (h : Γ[n]? = some (some (.lst (ds.map Own.dat)))) : EvL F (tVar n) Γ ds := fun T σ H s Q q => by
  obtain ⟨B, O, s1, p, i⟩ := s
  have e' : (T.map (fun p => some p.2) ++ Γ)[T.length + n]? = some (some (.lst (ds.map Own.dat))) := by
    rw [List.getElem?_append_right (by simp)]
    simpa using h
  obtain ⟨v, O1, O2, e1, a, dj, rfl, _⟩ := s1.at e'
  unfold Ow at a
  obtain ⟨l, vs, O', rfl, oa, n', rfl⟩ := a
  obtain ⟨r, rfl⟩ := oa.dats
  refine ⟨.ref l, ?_, q l vs H (p.oh l _ (jn_some upd_same)) ⟨B, _, ?_, p, i⟩ (Same.refl _)⟩
  · rw [List.getElem?_append_right (by simp)] at e1
    simpa using e1
  · have z := slots_own (show Ow F.K B (.rv vs ds) emp (.ref l) by unfold Ow; exact ⟨r, rfl⟩) s1 emp_dj
    rw [emp_jn] at z
    exact z
theorem eq_dat (h : Ev F te Γ (.dat d)) : EvQ F te Γ d := fun T σ H s Q q => h T σ H s Q fun v H' s' e => by
  obtain ⟨B, eb, r⟩ := s'.topd
  exact q v H' (r.mono eb) s'.pop e
theorem eq_l (h : EvL F te Γ ds) : EvQ F te Γ (.lst ds) := fun T σ H s Q q => h T σ H s Q fun l vs H' hl s' e => by
  obtain ⟨B, eb, r⟩ := s'.rvs
  refine q _ H' ?_ s'.pop e
  unfold Rp
  exact ⟨l, vs, rfl, hl, r.mono eb⟩
theorem ev_eqD (h1 : EvQ F ta Γ d) (h2 : EvQ F tb Γ e) (p1 : d.pl = true) (p2 : e.pl = true) (s1 : SeqAt.shaped d.py = true) (s2 : SeqAt.shaped e.py = true) : Ev F (tOp (rEqD F.K) ta tb) Γ (.dat (.bl (PyData.eqv d.py e.py))) := fun T σ H s Q q =>
  h1 T σ H s _ fun v H1 r1 st1 e1 => h2 T σ H1 st1 _ fun u H2 r2 st2 e2 =>
    ⟨d.py, e.py, (r1.mono e2).dp p1, r2.dp p2, s1, s2, q _ H2 (st2.push fun _ _ => by unfold Rp; rfl) (e1.trans e2)⟩
theorem ev_neD (h1 : EvQ F ta Γ d) (h2 : EvQ F tb Γ e) (p1 : d.pl = true) (p2 : e.pl = true) (s1 : SeqAt.shaped d.py = true) (s2 : SeqAt.shaped e.py = true) : Ev F (tOp (rNeD F.K) ta tb) Γ (.dat (.bl (!PyData.eqv d.py e.py))) := fun T σ H s Q q =>
  h1 T σ H s _ fun v H1 r1 st1 e1 => h2 T σ H1 st1 _ fun u H2 r2 st2 e2 =>
    ⟨d.py, e.py, (r1.mono e2).dp p1, r2.dp p2, s1, s2, q _ H2 (st2.push fun _ _ => by unfold Rp; rfl) (e1.trans e2)⟩
def SttA (F : Fx) (Γ : List Ent) (T : List (V × Own)) (vs : List V) (ds : List Dt) (σ : L2.St) (H : Hp) : Prop :=
  ∃ B O, RpA F.K B ds vs ∧ Slots F.K B (T.map (fun p => some p.2) ++ Γ) O (T.map (fun p => some p.1) ++ σ) ∧ Post F.B F.O F.H B O H ∧ ∀ p ∈ F.ins, σ[p.1]? = some (some p.2)
def EvA (F : Fx) (ta : TA) (Γ : List Ent) (ds : List Dt) : Prop :=
  ∀ T σ H, Stt F Γ T σ H → ∀ Q : List V → Hp → Prop, (∀ vs H', SttA F Γ T vs ds σ H' → Same H H' → Q vs H') → ta σ H Q
theorem SttA.nil (h : Stt F Γ T σ H) : SttA F Γ T [] [] σ H := by
  obtain ⟨B, O, s, p, q⟩ := h
  exact ⟨B, O, rpa_nil, s, p, q⟩
theorem SttA.cons {vs : List V} (h : SttA F Γ ((v, .dat d) :: T) vs ds σ H) : SttA F Γ T (v :: vs) (d :: ds) σ H := by
  obtain ⟨B, O, r, s, p, q⟩ := h
  rw [List.map_cons, List.map_cons] at s
  unfold Slots at s
  obtain ⟨w, r', O1, O2, e, a, b, c, rfl⟩ := s
  cases e
  obtain ⟨ra, rfl⟩ := a.rp
  exact ⟨B, O2, rpa_cons ra r, b, by rw [emp_jn] at p; exact p, q⟩
theorem ea_nil : EvA F tNil Γ [] := fun T σ H s Q q => q [] H (SttA.nil s) (Same.refl _)
theorem ea_cons {tr : TA} (h1 : Ev F te Γ (.dat d)) (h2 : EvA F tr Γ ds) : EvA F (tCons te tr) Γ (d :: ds) := fun T σ H s Q q =>
  h1 T σ H s _ fun v H1 s1 e1 => h2 _ σ H1 s1 _ fun vs H2 s2 e2 => q (v :: vs) H2 s2.cons (e1.trans e2)
theorem SttA.tup {vs : List V} (h : SttA F Γ T vs ds σ H) {p : Addr} (hp : H p = none) : Stt F Γ ((.ref p, .dat (.tup ds)) :: T) σ (upd H p (.tup vs)) := by
  obtain ⟨B, O, r, s, P, q⟩ := h
  have nB := none_of_same P.bh hp
  refine ⟨upd B p (.tup vs), O, ?_, P.newB hp, q⟩
  have k : Rp F.K (upd B p (.tup vs)) (.tup ds) (.ref p) := by
    unfold Rp
    exact ⟨p, vs, rfl, SqT.of upd_same, r.mono (same_upd nB)⟩
  have z := slots_own (ow_dat k) (s.mono (same_upd nB)) emp_dj
  rw [emp_jn] at z
  exact z
theorem SttA.lst {vs : List V} (h : SttA F Γ T vs ds σ H) {p : Addr} (hp : H p = none) : Stt F Γ ((.ref p, .lst (ds.map Own.dat)) :: T) σ (upd H p (.lst vs)) := by
  obtain ⟨B, O, r, s, P, q⟩ := h
  have hs : Stt F Γ T σ H := ⟨B, O, s, P, q⟩
  have n : O p = none := none_of_same P.oh hp
  have dd : Dj (upd emp p (.lst vs)) O := Dj.upd emp_dj n
  have ee : jn (upd emp p (.lst vs)) O = upd O p (.lst vs) := by rw [← upd_jn, emp_jn]
  refine ⟨B, jn (upd emp p (.lst vs)) O, slots_own ?_ s dd, ?_, q⟩
  · unfold Ow
    exact ⟨p, vs, emp, rfl, owa_dats r, rfl, rfl⟩
  · rw [ee]
    exact P.newO hp
theorem ev_tup {ta : TA} (h : EvA F ta Γ ds) (hl : ds.length ≤ 1000) : Ev F (tTup ta) Γ (.dat (.tup ds)) := fun T σ H s Q q =>
  h T σ H s _ fun vs H1 s1 e1 => by
    have el : vs.length = ds.length := by obtain ⟨B, O, r, _⟩ := s1; exact r.length
    refine ⟨by rw [el]; exact line_le (by omega), fun p hp => ?_⟩
    exact q _ _ (s1.tup hp) (e1.trans (same_upd hp))
theorem ev_lst {ta : TA} (h : EvA F ta Γ ds) (hl : ds.length ≤ 1000) : Ev F (tLst ta) Γ (.lst (ds.map Own.dat)) := fun T σ H s Q q =>
  h T σ H s _ fun vs H1 s1 e1 => by
    have el : vs.length = ds.length := by obtain ⟨B, O, r, _⟩ := s1; exact r.length
    refine ⟨by rw [el]; exact line_le (by omega), fun p hp => ?_⟩
    exact q _ _ (s1.lst hp) (e1.trans (same_upd hp))
theorem ev_frz (h : Ev F te Γ (.lst (ds.map Own.dat))) : Ev F te Γ (.dat (.lst ds)) := fun T σ H s Q q => h T σ H s Q fun v H' s' e => q v H' s'.freeze e
theorem Stt.newL {vs us : List V} (h : Stt F Γ ((v, .rv vs ds) :: T) σ H) {p : Addr} (hp : H p = none) (k : ∀ B, RpA F.K B ds vs → RpA F.K B es us) : Stt F Γ ((.ref p, .lst (es.map Own.dat)) :: T) σ (upd H p (.lst us)) := by
  obtain ⟨B, O1, O2, a, s, d', P, q⟩ := h.top
  unfold Ow at a
  obtain ⟨r, rfl⟩ := a
  rw [emp_jn] at P
  exact SttA.lst ⟨B, O2, k B r, s, P, q⟩ hp
theorem Stt.newL2 {vs us ws : List V} {gs : List Dt} {u : V} (h : Stt F Γ ((u, .rv us es) :: (v, .rv vs ds) :: T) σ H) {p : Addr} (hp : H p = none) (k : ∀ B, RpA F.K B ds vs → RpA F.K B es us → RpA F.K B gs ws) :
    Stt F Γ ((.ref p, .lst (gs.map Own.dat)) :: T) σ (upd H p (.lst ws)) := by
  obtain ⟨B, O1, O2, a, s, d', P, q⟩ := h.top
  unfold Ow at a
  obtain ⟨r, rfl⟩ := a
  rw [emp_jn] at P
  rw [List.map_cons, List.map_cons] at s
  unfold Slots at s
  obtain ⟨w, r', P1, P2, e, a2, b, c, rfl⟩ := s
  cases e
  unfold Ow at a2
  obtain ⟨r2, rfl⟩ := a2
  rw [emp_jn] at P
  exact SttA.lst ⟨B, P2, k B r2 r, b, P, q⟩ hp
theorem ev_lenL (h : EvL F te Γ ds) : Ev F (tCB (fun xs H Q => ∃ p ys, xs = [.ref p] ∧ (SqL F.K H p ys ∨ SqT F.K H p ys) ∧ Q (.int ys.length) H) (tCons te tNil)) Γ (.dat (.int ds.length)) := fun T σ H s Q q =>
  h T σ H s _ fun l vs H1 hl s1 e1 => ⟨l, vs, rfl, .inl (SqL.of hl), by
    obtain ⟨B, eb, r⟩ := s1.rvs
    rw [r.length]
    exact q _ H1 (s1.pop.push fun _ _ => by unfold Rp; rfl) e1⟩
theorem ev_lenT (h : Ev F te Γ (.dat (.tup ds))) : Ev F (tCB (fun xs H Q => ∃ p ys, xs = [.ref p] ∧ (SqL F.K H p ys ∨ SqT F.K H p ys) ∧ Q (.int ys.length) H) (tCons te tNil)) Γ (.dat (.int ds.length)) := fun T σ H s Q q =>
  h T σ H s _ fun v H1 s1 e1 => by
    obtain ⟨B, eb, r⟩ := s1.topd
    unfold Rp at r
    obtain ⟨a, xs, rfl, hs, ra⟩ := r
    refine ⟨a, xs, rfl, .inr (sqt_mono eb hs), ?_⟩
    rw [ra.length]
    exact q _ H1 (s1.pop.push fun _ _ => by unfold Rp; rfl) e1
theorem ev_lenX {ns : List Int} (h : Ev F te Γ (.dat (.scr ns))) : Ev F (tCB (fun xs H Q => ∃ p ys, xs = [.ref p] ∧ (SqL F.K H p ys ∨ SqT F.K H p ys) ∧ Q (.int ys.length) H) (tCons te tNil)) Γ (.dat (.int ns.length)) := fun T σ H s Q q =>
  h T σ H s _ fun v H1 s1 e1 => by
    obtain ⟨B, eb, r⟩ := s1.topd
    unfold Rp at r
    obtain ⟨a, rfl, hs⟩ := r
    refine ⟨a, _, rfl, .inl (sql_mono eb hs), ?_⟩
    rw [List.length_map]
    exact q _ H1 (s1.pop.push fun _ _ => by unfold Rp; rfl) e1
theorem ev_lenS {x : Str} (hx : x.length ≤ 16777216) (h : Ev F te Γ (.dat (.str x))) : Ev F (tCB (fun xs H Q => ∃ z, xs = [.str z] ∧ z.length ≤ sizeLine ∧ Q (.int z.length) H) (tCons te tNil)) Γ (.dat (.int x.length)) := fun T σ H s Q q =>
  h T σ H s _ fun v H1 s1 e1 => by
    obtain ⟨B, eb, r⟩ := s1.topd
    exact ⟨x, by rw [rp_str r], line_le hx, q _ H1 (s1.pop.push fun _ _ => by unfold Rp; rfl) e1⟩
theorem ev_ixL {α : Type} [Inhabited α] {enc : α → Dt} {xs : List α} (hb : inB xs i) (h1 : EvL F ta Γ (xs.map enc)) (h2 : Ev F tb Γ (.dat (.int i))) : Ev F (tOp (rIxL F.K) ta tb) Γ (.dat (enc (getI xs i))) := fun T σ H s Q q =>
  h1 T σ H s _ fun l vs H1 hl s1 e1 => h2 _ σ H1 s1 _ fun u H2 s2 e2 => by
    obtain ⟨B, eb, r⟩ := s2.topd
    have s3 := s2.pop
    obtain ⟨B', eb', ra⟩ := s3.rvs
    have hl' : vs.length = xs.length := by rw [ra.length, List.length_map]
    have hb' : inB vs i := by unfold inB at hb ⊢; rw [hl']; exact hb
    have ix : ixI vs i = ixI xs i := by unfold ixI; rw [hl']
    obtain ⟨w, hw⟩ : ∃ w, vs[ixI vs i]? = some w := ⟨_, List.getElem?_eq_getElem (ixI_lt hb')⟩
    refine ⟨l, vs, i, w, rfl, rp_int r, SqL.of (e2 l _ hl), by rw [atI_of hb', hw], ?_⟩
    refine q w H2 (s3.derive fun B2 _ rb => ?_) (e1.trans e2)
    have hg : (xs.map enc)[ixI xs i]? = some (enc (getI xs i)) := by rw [List.getElem?_map, getI_get hb]; rfl
    obtain ⟨w', e', rw'⟩ := rb.get hg
    rw [← ix, hw] at e'
    cases e'
    exact rw'
theorem ev_ixT {α : Type} [Inhabited α] {enc : α → Dt} {xs : List α} (hb : inB xs i) (h1 : Ev F ta Γ (.dat (.tup (xs.map enc)))) (h2 : Ev F tb Γ (.dat (.int i))) : Ev F (tOp (rIxT F.K) ta tb) Γ (.dat (enc (getI xs i))) :=
  ev_op h1 h2 fun Γ T σ H x y s Q q => by
    obtain ⟨B, O1, O2, a, b, c, p, ii⟩ := s.top
    rw [List.map_cons, List.map_cons] at b
    unfold Slots at b
    obtain ⟨w, r', P1, P2, e, a2, b2, c2, rfl⟩ := b
    cases e
    obtain ⟨r1, rfl⟩ := a.rp
    obtain ⟨r2, rfl⟩ := a2.rp
    unfold Rp at r2
    obtain ⟨a', vs, rfl, hs, ra⟩ := r2
    have hl' : vs.length = xs.length := by rw [ra.length, List.length_map]
    have hb' : inB vs i := by unfold inB at hb ⊢; rw [hl']; exact hb
    have ix : ixI vs i = ixI xs i := by unfold ixI; rw [hl']
    have hg : (xs.map enc)[ixI xs i]? = some (enc (getI xs i)) := by rw [List.getElem?_map, getI_get hb]; rfl
    obtain ⟨u, e', ru⟩ := ra.get hg
    rw [← ix] at e'
    refine ⟨a', vs, i, u, rfl, rp_int r1, sqt_mono p.bh hs, by rw [atI_of hb', e'], q u H ⟨B, _, slots_own (ow_dat ru) b2 emp_dj, ?_, ii⟩ (Same.refl _)⟩
    rw [emp_jn, emp_jn] at p
    rw [emp_jn]
    exact p
theorem ev_ixC {n : Nat} (hn : ds[n]? = some d) (h1 : Ev F ta Γ (.dat (.tup ds))) (h2 : Ev F tb Γ (.dat (.int i))) (hi : ixN ds.length i = some n := by rfl) : Ev F (tOp (rIxT F.K) ta tb) Γ (.dat d) :=
  ev_op h1 h2 fun Γ T σ H x y s Q q => by
    obtain ⟨B, O1, O2, a, b, c, p, ii⟩ := s.top
    rw [List.map_cons, List.map_cons] at b
    unfold Slots at b
    obtain ⟨w, r', P1, P2, e, a2, b2, c2, rfl⟩ := b
    cases e
    obtain ⟨r1, rfl⟩ := a.rp
    obtain ⟨r2, rfl⟩ := a2.rp
    unfold Rp at r2
    obtain ⟨a', vs, rfl, hs, ra⟩ := r2
    obtain ⟨u, e', ru⟩ := ra.get hn
    refine ⟨a', vs, i, u, rfl, rp_int r1, sqt_mono p.bh hs, ?_, q u H ⟨B, _, slots_own (ow_dat ru) b2 emp_dj, ?_, ii⟩ (Same.refl _)⟩
    · unfold atI
      rw [ra.length, hi]
      exact e'
    · rw [emp_jn, emp_jn] at p
      rw [emp_jn]
      exact p
theorem ev_ixX {ns : List Int} (hb : inB ns i) (h1 : Ev F ta Γ (.dat (.scr ns))) (h2 : Ev F tb Γ (.dat (.int i))) : Ev F (tOp (rIxL F.K) ta tb) Γ (.dat (.int (getI ns i))) :=
  ev_op h1 h2 (op2_val _ (fun B => by unfold Rp; rfl) fun B H x y Q eb h1 h2 q => by
    unfold Rp at h1
    obtain ⟨a, rfl, hs⟩ := h1
    refine ⟨a, _, i, .int (getI ns i), rfl, rp_int h2, sql_mono eb hs, ?_, q⟩
    have hb' : inB (ns.map V.int) i := by unfold inB at hb ⊢; rw [List.length_map]; exact hb
    rw [atI_of hb']
    have ix : ixI (ns.map V.int) i = ixI ns i := by unfold ixI; rw [List.length_map]
    rw [ix, List.getElem?_map, getI_get hb]
    rfl)
theorem ev_ixS {z : Str} (hb : inS z i) (h1 : Ev F ta Γ (.dat (.str z))) (h2 : Ev F tb Γ (.dat (.int i))) : Ev F (tOp rIxS ta tb) Γ (.dat (.str (sgn (getS z i)))) :=
  ev_op h1 h2 (op2_val _ (fun B => by unfold Rp; rfl) fun B H x y Q eb h1 h2 q => by
    refine ⟨z, i, getS z i, rp_str h1, rp_int h2, line_le hb.1, ?_, q⟩
    rw [atI_of hb.2, getI_get hb.2]
    rfl)
def EvO (F : Fx) (to : TO) (Γ : List Ent) (o : Option Int) : Prop :=
  ∀ T σ H, Stt F Γ T σ H → ∀ Q : Option Int → Hp → Prop, (∀ H', Stt F Γ T σ H' → Same H H' → Q o H') → to σ H Q
theorem eo_no : EvO F tNoPart Γ none := fun T σ H s Q q => q H s (Same.refl _)
theorem eo_some (h : Ev F te Γ (.dat (.int i))) : EvO F (tPart te) Γ (some i) := fun T σ H s Q q => h T σ H s _ fun v H1 s1 e1 => by
  obtain ⟨B, eb, r⟩ := s1.topd
  exact ⟨i, rp_int r, q H1 s1.pop e1⟩
variable {tl th : TO} {lo hi : Option Int}
theorem cutL_map {α β : Type} (f : α → β) (xs : List α) (lo hi : Option Int) : cutL (xs.map f) lo hi = (cutL xs lo hi).map f := by
  unfold cutL
  rw [List.length_map, List.map_take, List.map_drop]
theorem RpA.cut {K : PySem.W.Frag} {B : Hp} {vs : List V} (h : RpA K B ds vs) (lo hi : Option Int) : RpA K B (cutL ds lo hi) (cutV vs lo hi) := by
  unfold cutL cutV
  rw [h.length]
  exact (h.drop _).take _
theorem ev_slL (h : EvL F te Γ ds) (hl : EvO F tl Γ lo) (hh : EvO F th Γ hi) : Ev F (tSl (rSlL F.K) te tl th) Γ (.lst ((cutL ds lo hi).map Own.dat)) := fun T σ H s Q q =>
  h T σ H s _ fun l vs H1 hv s1 e1 => hl _ σ H1 s1 _ fun H2 s2 e2 => hh _ σ H2 s2 _ fun H3 s3 e3 =>
    ⟨l, vs, rfl, SqL.of (e3 l _ (e2 l _ hv)), fun p hp => q _ _ (s3.newL hp fun B r => r.cut lo hi) (((e1.trans e2).trans e3).trans (same_upd hp))⟩
theorem ev_slX {ns : List Int} (h : Ev F te Γ (.dat (.scr ns))) (hl : EvO F tl Γ lo) (hh : EvO F th Γ hi) : Ev F (tSl (rSlL F.K) te tl th) Γ (.lst (((cutL ns lo hi).map Dt.int).map Own.dat)) := fun T σ H s Q q =>
  h T σ H s _ fun v H1 s1 e1 => hl _ σ H1 s1 _ fun H2 s2 e2 => hh _ σ H2 s2 _ fun H3 s3 e3 => by
    obtain ⟨B, eb, r⟩ := s3.topd
    unfold Rp at r
    obtain ⟨a, rfl, hs⟩ := r
    refine ⟨a, _, rfl, sql_mono eb hs, fun p hp => q _ _ ?_ (((e1.trans e2).trans e3).trans (same_upd hp))⟩
    have k : cutV (ns.map V.int) lo hi = (cutL ns lo hi).map V.int := cutL_map V.int ns lo hi
    rw [k]
    obtain ⟨B, O, s4, P, ii⟩ := s3.pop
    exact SttA.lst ⟨B, O, rpa_of_ints, s4, P, ii⟩ hp
theorem ev_slS {z : Str} (hz : z.length ≤ 16777216) (h : Ev F te Γ (.dat (.str z))) (hl : EvO F tl Γ lo) (hh : EvO F th Γ hi) : Ev F (tSl rSlS te tl th) Γ (.dat (.str (cutS z lo hi))) := fun T σ H s Q q =>
  h T σ H s _ fun v H1 s1 e1 => hl _ σ H1 s1 _ fun H2 s2 e2 => hh _ σ H2 s2 _ fun H3 s3 e3 => by
    obtain ⟨B, eb, r⟩ := s3.topd
    exact ⟨z, rp_str r, line_le hz, q _ H3 (s3.pop.push fun _ _ => by unfold Rp; rfl) ((e1.trans e2).trans e3)⟩
theorem ev_cat (hb : ds.length + es.length ≤ 16777216) (h1 : EvL F ta Γ ds) (h2 : EvL F tb Γ es) : Ev F (tOp rCat ta tb) Γ (.lst ((ds ++ es).map Own.dat)) := fun T σ H s Q q =>
  h1 T σ H s _ fun l vs H1 hv s1 e1 => h2 _ σ H1 s1 _ fun m us H2 hu s2 e2 => by
    obtain ⟨B, eb, r⟩ := s2.rvs
    obtain ⟨B', eb', r'⟩ := s2.pop.rvs
    refine ⟨l, m, vs, us, rfl, rfl, e2 l _ hv, hu, by rw [r.length, r'.length]; exact line_le hb, fun p hp => ?_⟩
    exact q _ _ (s2.newL2 hp fun B a b => a.append b) ((e1.trans e2).trans (same_upd hp))
theorem ev_listL (h : EvL F te Γ ds) : Ev F (tCB (fun xs H Q => ∃ p ys, xs = [.ref p] ∧ (SqL F.K H p ys ∨ SqT F.K H p ys) ∧ ∀ l, H l = none → Q (.ref l) (upd H l (.lst ys))) (tCons te tNil)) Γ (.lst (ds.map Own.dat)) := fun T σ H s Q q =>
  h T σ H s _ fun l vs H1 hl s1 e1 => ⟨l, vs, rfl, .inl (SqL.of hl), fun p hp => q _ _ (s1.newL hp fun B r => r) (e1.trans (same_upd hp))⟩
theorem ev_listT (h : Ev F te Γ (.dat (.tup ds))) : Ev F (tCB (fun xs H Q => ∃ p ys, xs = [.ref p] ∧ (SqL F.K H p ys ∨ SqT F.K H p ys) ∧ ∀ l, H l = none → Q (.ref l) (upd H l (.lst ys))) (tCons te tNil)) Γ (.lst (ds.map Own.dat)) := fun T σ H s Q q =>
  h T σ H s _ fun v H1 s1 e1 => by
    obtain ⟨B, O1, O2, a, b, c, p, ii⟩ := s1.top
    obtain ⟨r, rfl⟩ := a.rp
    unfold Rp at r
    obtain ⟨a', vs, rfl, hs, ra⟩ := r
    refine ⟨a', vs, rfl, .inr (sqt_mono p.bh hs), fun l hl => q _ _ (SttA.lst ⟨B, O2, ra, b, by rw [emp_jn] at p; exact p, ii⟩ hl) (e1.trans (same_upd hl))⟩
theorem ev_tupleL (h : EvL F te Γ ds) : Ev F (tCB (fun xs H Q => ∃ p ys, xs = [.ref p] ∧ ((SqL F.K H p ys ∧ ∀ l, H l = none → Q (.ref l) (upd H l (.tup ys))) ∨ (SqT F.K H p ys ∧ Q (.ref p) H))) (tCons te tNil)) Γ (.dat (.tup ds)) := fun T σ H s Q q =>
  h T σ H s _ fun l vs H1 hl s1 e1 => ⟨l, vs, rfl, .inl ⟨SqL.of hl, fun p hp => by
    obtain ⟨B, O1, O2, a, b, c, P, ii⟩ := s1.top
    unfold Ow at a
    obtain ⟨r, rfl⟩ := a
    rw [emp_jn] at P
    exact q _ _ (SttA.tup ⟨B, O2, r, b, P, ii⟩ hp) (e1.trans (same_upd hp))⟩⟩
theorem ev_catS {x y : Str} (hb : x.length + y.length ≤ 16777216) (h1 : Ev F ta Γ (.dat (.str x))) (h2 : Ev F tb Γ (.dat (.str y))) :
    Ev F (tOp (fun x y H Q => ∃ i j, x = .str i ∧ y = .str j ∧ i.length + j.length ≤ sizeLine ∧ Q (.str (i ++ j)) H) ta tb) Γ (.dat (.str (x ++ y))) :=
  ev_op h1 h2 (op2_val _ (fun B => by unfold Rp; rfl) fun B H a b Q eb h1 h2 q => ⟨x, y, rp_str h1, rp_str h2, line_le hb, q⟩)
theorem ev_inC {c : Nat} {z : Str} (h1 : Ev F ta Γ (.dat (.str (sgn c)))) (h2 : Ev F tb Γ (.dat (.str z))) : Ev F (tOp (fun x y H Q => ∃ (c : Nat) (z : Str), x = .str ⟨#[c]⟩ ∧ y = .str z ∧ Q (.bl (decide (c ∈ z.cps.toList))) H) ta tb) Γ (.dat (.bl (decide (c ∈ z.cps.toList)))) :=
  ev_op h1 h2 (op2_val _ (fun B => by unfold Rp; rfl) fun B H a b Q eb h1 h2 q => ⟨c, z, rp_str h1, rp_str h2, q⟩)
theorem ev_ninC {c : Nat} {z : Str} (h1 : Ev F ta Γ (.dat (.str (sgn c)))) (h2 : Ev F tb Γ (.dat (.str z))) : Ev F (tOp (fun x y H Q => ∃ (c : Nat) (z : Str), x = .str ⟨#[c]⟩ ∧ y = .str z ∧ Q (.bl (!decide (c ∈ z.cps.toList))) H) ta tb) Γ (.dat (.bl (!decide (c ∈ z.cps.toList)))) :=
  ev_op h1 h2 (op2_val _ (fun B => by unfold Rp; rfl) fun B H a b Q eb h1 h2 q => ⟨c, z, rp_str h1, rp_str h2, q⟩)
end
end Sm
namespace Sm
open PySem L2
def R.guard {α : Type} (p : Prop) [Decidable p] (k : R α) : R α := if p then k else .bad
def R.calm {α : Type} : R α → R α
  | .ok a => .ok a
  | _ => .bad
def foldR {α S : Type} (f : α → S → R S) : List α → S → R S
  | [], s => .ok s
  | x :: xs, s => (f x s).bind (foldR f xs)
inductive Ctl (S ρ : Type) where
  | nx (s : S) | rt (r : ρ) | bk (s : S)
def Ctl.step {S ρ : Type} (c : Ctl S ρ) (k : S → R (Ctl S ρ)) : R (Ctl S ρ) := match c with
  | .nx s => k s
  | .bk s => .ok (.nx s)
  | .rt r => .ok (.rt r)
def forR {α S ρ : Type} (f : α → S → R (Ctl S ρ)) : List α → S → R (Ctl S ρ)
  | [], s => .ok (.nx s)
  | x :: xs, s => (f x s).bind fun c => c.step (forR f xs)
def Ctl.fin {S ρ : Type} (c : Ctl S ρ) (k : S → R ρ) : R ρ := match c with
  | .nx s => k s
  | .bk s => k s
  | .rt r => .ok r
def Ctl.fin2 {S S2 ρ : Type} (c : Ctl S ρ) (k : S → R (Ctl S2 ρ)) : R (Ctl S2 ρ) := match c with
  | .nx s => k s
  | .bk s => k s
  | .rt r => .ok (.rt r)
def whileR {S ρ : Type} (c : S → R Bool) (f : S → R (Ctl S ρ)) : Nat → S → R (Ctl S ρ)
  | 0, _ => .bad
  | n + 1, s => (c s).bind fun b => match b with
    | false => .ok (.nx s)
    | true => (f s).bind fun c' => c'.step (whileR c f n)
def mapR {α β : Type} (f : α → R β) : List α → R (List β)
  | [] => .ok []
  | x :: xs => (f x).calm.bind fun y => (mapR f xs).bind fun ys => .ok (y :: ys)
def filR {α β : Type} (f : α → R (Option β)) : List α → R (List β)
  | [] => .ok []
  | x :: xs => (f x).calm.bind fun y => (filR f xs).bind fun ys => .ok (y.toList ++ ys)
def rng (lo hi : Int) : List Int := (List.range (hi - lo).toNat).map fun (i : Nat) => lo + (i : Int)
def ErrAt (Ce : Exn → Addr) (E : XK) (e : Exn) (H : Hp) : Prop := match e with
  | .noDealing r => ∀ d, H d = some (.xd [(("row" : Str), V.int r)]) → E (.ref (Ce e)) (some d) H
  | _ => E (.ref (Ce e)) none H
structure WOk (F : Fx) (Γe : List Ent) (Er : L2.St → Exn → Hp → Prop) {ρ : Type} (W : R ρ → Prop) : Prop where
  bad : ¬ W .bad
  err : ∀ e, W (.err e) → ∀ σ H, Stt F Γe [] σ H → Er σ e H
section
variable {F : Fx} {Γ Γ' Γe : List Ent} {T : List (V × Own)} {σ : L2.St} {H H' : Hp} {v : V} {t : Own} {Er : L2.St → Exn → Hp → Prop} {ρ α β S : Type} {W : R ρ → Prop}
theorem R.guard_ok {p : Prop} [Decidable p] {k : R ρ} (ok : WOk F Γe Er W) (h : W (R.guard p k)) : p ∧ W k := by
  unfold R.guard at h
  by_cases c : p
  · rw [if_pos c] at h; exact ⟨c, h⟩
  · rw [if_neg c] at h; exact absurd h ok.bad
theorem WOk.bind (ok : WOk F Γe Er W) (k : α → R ρ) : WOk F Γe Er (fun m : R α => W (m.bind k)) := ⟨ok.bad, ok.err⟩
theorem WOk.drop (ok : WOk F Γe Er W) {Γ2 : List Ent} (w : Wk Γ2 Γe) : WOk F Γ2 Er W := ⟨ok.bad, fun e h σ H s => ok.err e h σ H (s.weak w)⟩
theorem Stt.pops : ∀ {T : List (V × Own)} {H : Hp}, Stt F Γ T σ H → Stt F Γ [] σ H
  | [], _, h => h
  | _ :: T, _, h => Stt.pops (T := T) h.pop
def Wsh (K : PySem.W.Frag) (Ce : Exn → Addr) (B O H : Hp) (Q : VK) (E : XK) (res : α → Own) (outs : α → List Own) (keep : List Own) (iv : List V) : R α → Prop
  | .ok a => ∀ v B' O' H', Post B O H B' O' H' → OwA K B' (res a :: outs a) O' (v :: iv) → Q v H'
  | .err e => ∀ B' O' H', Post B O H B' O' H' → OwA K B' keep O' iv → ErrAt Ce E e H'
  | .bad => False
def spF {X : Type} (K : PySem.W.Frag) (Ce : Exn → Addr) (n : Nat) (insN : List Nat) (argT : X → List Own) (m : X → R α) (res : α → Own) (outs : α → List Own) (keep : X → List Own) : Sp := fun vs H Q E =>
  ∃ (x : X) (B O : Hp), (argT x).length = n ∧ OwA K B (argT x) O vs ∧ Same B H ∧ Same O H ∧ Dj B O ∧ Wsh K Ce B O H Q E res outs (keep x) (insN.filterMap fun i => vs[i]?) (m x)
abbrev spD {X : Type} (K : PySem.W.Frag) (Ce : Exn → Addr) (n : Nat) (argT : X → List Dt) (m : X → R α) (res : α → Own) : Sp :=
  spF K Ce n [] (fun x => (argT x).map Own.dat) m res (fun _ => []) (fun _ => [])
theorem spF_len {X : Type} {K : PySem.W.Frag} {Ce : Exn → Addr} {n : Nat} {insN : List Nat} {argT : X → List Own} {m : X → R α} {res : α → Own} {outs : α → List Own} {keep : X → List Own} {ps : List Str} (hn : n = ps.length) (vs : List V) (H : Hp) (Q : VK) (E : XK)
    (h : spF K Ce n insN argT m res outs keep vs H Q E) : vs.length = ps.length := by
  obtain ⟨x, B, O, e, oa, _⟩ := h
  rw [oa.length, e, hn]
theorem call_go {X : Type} {Ce : Exn → Addr} {n : Nat} {argT : X → List Dt} {m : X → R α} {res : α → Own} {k : α → R ρ} {vs : List V} {ds : List Dt} {Q : VK} {Ex : XK} (x : X)
    (hx : argT x = ds) (hn : ds.length = n) (A : SttA F Γ T vs ds σ H) (ok : WOk F Γe Er W) (hE : ∀ e H', Er σ e H' → ErrAt Ce Ex e H') (wk : Wk Γ Γe) (hw : W ((m x).bind k))
    (q : ∀ a v H', W (k a) → Stt F Γ ((v, res a) :: T) σ H' → Q v H') : spD F.K Ce n argT m res vs H Q Ex := by
  obtain ⟨B, O, r, s, p, i⟩ := A
  subst hx
  refine ⟨x, B, emp, by rw [List.length_map, hn], owa_dats r, p.bh, fun a o e => (nomatch e), dj_emp, ?_⟩
  have pe : Post F.B F.O F.H B (jn emp O) H := by rw [emp_jn]; exact p
  cases e : m x with
  | ok a =>
    rw [e] at hw
    intro v B' O' H' P oa
    unfold OwA at oa
    obtain ⟨v', r', O1, O2, e1, a1, b1, d1, rfl⟩ := oa
    cases e1
    unfold OwA at b1
    obtain ⟨_, rfl⟩ := b1
    rw [jn_emp] at P
    obtain ⟨dj', P'⟩ := pe.call emp_dj P
    exact q a v H' hw ⟨B', jn O1 O, slots_own a1 (s.mono P.b0) dj', P', i⟩
  | err ex =>
    rw [e] at hw
    intro B' O' H' P oa
    unfold OwA at oa
    obtain ⟨_, rfl⟩ := oa
    obtain ⟨dj', P'⟩ := pe.call emp_dj P
    rw [emp_jn] at P'
    refine hE ex H' (ok.err ex hw σ H' ?_)
    exact (Stt.pops (T := T) ⟨B', O, s.mono P.b0, P', i⟩).weak wk
  | bad =>
    rw [e] at hw
    exact absurd hw ok.bad
theorem x_call {X : Type} {Ce : Exn → Addr} {n : Nat} {argT : X → List Dt} {m : X → R α} {res : α → Own} {k : α → R ρ} {ta : TA} {ds : List Dt} {Q : VK} {Ex : L2.St → XK} (x : X)
    (ha : EvA F ta Γ ds) (hx : argT x = ds) (hn : ds.length = n) (h : Stt F Γ T σ H) (ok : WOk F Γe Er W) (hE : ∀ e H', Er σ e H' → ErrAt Ce (Ex σ) e H') (wk : Wk Γ Γe) (hw : W ((m x).bind k))
    (q : ∀ a v H', W (k a) → Stt F Γ ((v, res a) :: T) σ H' → Q v H') : tCallS (spD F.K Ce n argT m res) Ex ta σ H Q :=
  ha T σ H h _ fun vs H1 A e1 => call_go x hx hn A ok hE wk hw q
variable {D : Ends} {te : TE} {tt : TT} {t1 t2 : TS} {g : TG}
abbrev NI (F : Fx) (j : Nat) : Prop := ∀ p ∈ F.ins, p.1 ≠ j
theorem q_seq (h : t1 { D with nx := t2 D } σ H) : tSeq t1 t2 D σ H := h
theorem s_next (h : D.nx σ H) : tNext D σ H := h
theorem s_asg {j : Nat} (h : Ev F te Γ t) (hst : Stt F Γ T σ H) (hj : j < Γ.length) (ni : NI F j) (q : ∀ σ' H', Stt F (Γ.set j (some t)) T σ' H' → D.nx σ' H') : tAsg te (gName j) D σ H :=
  h T σ H hst _ fun v H1 s1 _ => q _ H1 (s1.assign hj ni)
theorem s_drop (h : Ev F te Γ t) (hst : Stt F Γ T σ H) (q : ∀ H', Stt F Γ T σ H' → D.nx σ H') : tDrop te D σ H :=
  h T σ H hst _ fun v H1 s1 _ => q H1 s1.pop
theorem s_if {b : Bool} (h : EvT F tt Γ b) (hst : Stt F Γ T σ H) (q1 : b = true → ∀ H', Stt F Γ T σ H' → t1 D σ H') (q2 : b = false → ∀ H', Stt F Γ T σ H' → t2 D σ H') : tIfS tt t1 t2 D σ H :=
  h T σ H hst _ fun H1 s1 _ => by
    cases b with
    | true => exact q1 rfl H1 s1
    | false => exact q2 rfl H1 s1
theorem s_ret (h : Ev F te Γ t) (hst : Stt F Γ T σ H) (q : ∀ v H', Stt F Γ ((v, t) :: T) σ H' → D.rt v H') : tRet te D σ H :=
  h T σ H hst _ fun v H1 s1 _ => q v H1 s1
theorem s_app {n : Nat} {ds : List Dt} {d : Dt} (he : Γ[n]? = some (some (.lst (ds.map Own.dat)))) (h : Ev F te Γ (.dat d)) (hl : ds.length < 16777216) (hst : Stt F Γ T σ H)
    (q : ∀ σ' H', Stt F (Γ.set n (some (.lst ((ds ++ [d]).map Own.dat)))) T σ' H' → D.nx σ' H') : tDrop (tBM F.K "list" rAppend (tVar n) (tCons te tNil)) D σ H := by
  have e' : (T.map (fun p => some p.2) ++ Γ)[T.length + n]? = some (some (.lst (ds.map Own.dat))) := by
    rw [List.getElem?_append_right (by simp)]
    simpa using he
  obtain ⟨B, O, s1, p, i⟩ := id hst
  obtain ⟨v, O1, O2, e1, a, dj, rfl, _⟩ := s1.at e'
  unfold Ow at a
  obtain ⟨l, vs, O', rfl, oa, n', rfl⟩ := a
  rw [List.getElem?_append_right (by simp)] at e1
  have e2 : σ[n]? = some (some (V.ref l)) := by simpa using e1
  refine ⟨.ref l, e2, .inl ⟨rfl, _, SqL.of (p.oh l _ (jn_some upd_same))⟩, ?_⟩
  refine h T σ H hst _ fun u H1 s2 e3 => ?_
  obtain ⟨B2, Ou, Or, au, s3, dj3, p3, i3⟩ := s2.top
  obtain ⟨ru, rfl⟩ := au.rp
  rw [emp_jn] at p3
  obtain ⟨v', P1, P2, e1', a', dj', rfl, k, _⟩ := s3.at e'
  rw [List.getElem?_append_right (by simp)] at e1'
  have e2' : σ[n]? = some (some v') := by simpa using e1'
  rw [e2] at e2'
  cases e2'
  unfold Ow at a'
  obtain ⟨l', ws, Q', el, oa', n2, rfl⟩ := a'
  cases el
  obtain ⟨rw_, rfl⟩ := oa'.dats
  have hH : H1 l = some (.lst ws) := p3.oh l _ (jn_some upd_same)
  refine ⟨l, ws, u, rfl, rfl, hH, by rw [rw_.length]; exact line_lt hl, ?_⟩
  have z := k B2 (.lst ((ds ++ [d]).map Own.dat)) (upd emp l (.lst (ws ++ [u]))) (.ref l) (Same.refl _) (by
    unfold Ow
    exact ⟨l, ws ++ [u], emp, rfl, owa_dats (rw_.append (RpA.one ru)), rfl, rfl⟩) (by
    have nl : P2 l = none := by
      rcases dj' l with x | x
      · rw [upd_same] at x; cases x
      · exact x
    exact Dj.upd emp_dj nl)
  rw [List.set_append_right _ _ (by simp), List.set_append_right _ _ (by simp)] at z
  have hs : σ.set (T.length + n - (T.map fun p => some p.1).length) (some (V.ref l)) = σ := by
    have en : T.length + n - (T.map fun (p : V × Own) => some p.1).length = n := by simp
    rw [en]
    apply List.ext_getElem?
    intro j
    by_cases hj : n = j
    · subst hj
      rw [e2, List.getElem?_set_self (List.getElem?_eq_some_iff.mp e2).1]
    · rw [List.getElem?_set_ne hj]
  rw [hs] at z
  have en : T.length + n - (T.map fun (p : V × Own) => some p.2).length = n := by simp
  rw [en] at z
  refine q σ _ ⟨B2, _, z, ?_, i3⟩
  have p4 := p3.mut (a := l) (o := .lst (ws ++ [u])) (jn_some upd_same)
  rw [upd_jn, upd_upd] at p4
  exact p4
theorem it_core {J : It} {n : Nat} {g : TG} {tb : TS} (Pv : Nat → L2.St → Hp → Prop) (h0 : Pv 0 σ H)
    (hs : ∀ i σ H, i < n → Pv i σ H → J.go i H ∧ ∀ x H', J.yld i H x H' → g x σ H' fun σ2 H2 => tb { D with nx := Pv (i + 1), ct := Pv (i + 1), bk := D.nx } σ2 H2) (hd : ∀ σ H, Pv n σ H → J.stop n H ∧ D.nx σ H) :
    ∃ W : Nat → Nat → L2.St → Hp → Prop, (∃ m, W 0 m σ H) ∧ ∀ i m σ H, W i m σ H →
      (J.stop i H ∧ D.nx σ H) ∨ (J.go i H ∧ ∃ N : L2.St → Hp → Prop, (∀ σ' H', N σ' H' → ∃ m', m' < m ∧ W (i + 1) m' σ' H') ∧ ∀ x H', J.yld i H x H' → g x σ H' fun σ2 H2 => tb { D with nx := N, ct := N, bk := D.nx } σ2 H2) := by
  refine ⟨fun i m σ H => m = n - i ∧ i ≤ n ∧ Pv i σ H, ⟨n, by simp, Nat.zero_le _, h0⟩, ?_⟩
  rintro i m σ H ⟨rfl, hi, p⟩
  by_cases hlt : i < n
  · obtain ⟨a, b⟩ := hs i σ H hlt p
    exact .inr ⟨a, Pv (i + 1), fun σ' H' p' => ⟨n - (i + 1), by omega, rfl, hlt, p'⟩, b⟩
  · have e : i = n := by omega
    subst e
    exact .inl (hd σ H p)
structure Wks (F : Fx) (J : It) (T : List (V × Own)) (ds : List Dt) : Prop where
  go : ∀ Γ T' σ H i d, Stt F Γ (T' ++ T) σ H → ds[i]? = some d → J.go i H ∧ ∀ x H', J.yld i H x H' → Stt F Γ ((x, .dat d) :: (T' ++ T)) σ H' ∧ Same H H'
  stop : ∀ Γ T' σ H, Stt F Γ (T' ++ T) σ H → J.stop ds.length H
theorem Stt.deep {T' : List (V × Own)} {d : Dt} (h : Stt F Γ (T' ++ (v, .dat d) :: T) σ H) : ∃ B O, Slots F.K B ((T' ++ (v, .dat d) :: T).map (fun p => some p.2) ++ Γ) O ((T' ++ (v, .dat d) :: T).map (fun p => some p.1) ++ σ) ∧ Post F.B F.O F.H B O H ∧ (∀ p ∈ F.ins, σ[p.1]? = some (some p.2)) ∧ Rp F.K B d v := by
  obtain ⟨B, O, s, p, i⟩ := h
  have e : ((T' ++ (v, .dat d) :: T).map (fun p => some p.2) ++ Γ)[T'.length]? = some (some (.dat d)) := by
    rw [List.getElem?_append_left (by simp), List.getElem?_map, List.getElem?_append_right (Nat.le_refl _)]
    simp
  obtain ⟨u, O1, O2, e1, a, _⟩ := s.at e
  rw [List.getElem?_append_left (by simp), List.getElem?_map, List.getElem?_append_right (Nat.le_refl _)] at e1
  simp at e1
  subst e1
  exact ⟨B, O, s, p, i, a.rp.1⟩
def Tg (F : Fx) (g : TG) (d : Dt) (Γ Γ' : List Ent) : Prop := ∀ T σ H x (Q : L2.St → Hp → Prop), Stt F Γ ((x, .dat d) :: T) σ H → (∀ σ' H', Stt F Γ' T σ' H' → Q σ' H') → g x σ H Q
theorem tg_name {j : Nat} {d : Dt} (hj : j < Γ.length) (ni : NI F j) : Tg F (gName j) d Γ (Γ.set j (some (.dat d))) := fun T σ H x Q s q => q _ H (s.assign hj ni)
theorem drop_some {l : List α} {i : Nat} (h : i < l.length) : ∃ x, l[i]? = some x ∧ l.drop i = x :: l.drop (i + 1) := ⟨l[i], List.getElem?_eq_getElem h, List.drop_eq_getElem_cons h⟩
theorem s_fold {J : It} {g : TG} {tb : TS} {xs : List α} {enc : α → Dt} {f : α → S → R S} {k : S → R ρ} {Γs : S → List Ent} {Γb : α → S → List Ent} {s0 : S}
    (wk : Wks F J T (xs.map enc)) (tg : ∀ x s, Tg F g (enc x) (Γs s) (Γb x s)) (h0 : Stt F (Γs s0) T σ H) (ok : WOk F Γe Er W) (hw : W ((foldR f xs s0).bind k))
    (body : ∀ x s (W' : R S → Prop) (N : L2.St → Hp → Prop) σ H, WOk F Γe Er W' → W' (f x s) → Stt F (Γb x s) T σ H → (∀ s' σ' H', W' (.ok s') → Stt F (Γs s') T σ' H' → N σ' H') → tb { D with nx := N, ct := N, bk := D.nx } σ H)
    (hd : ∀ s σ H, W (k s) → Stt F (Γs s) T σ H → D.nx σ H) :
    ∃ W : Nat → Nat → L2.St → Hp → Prop, (∃ m, W 0 m σ H) ∧ ∀ i m σ H, W i m σ H →
      (J.stop i H ∧ D.nx σ H) ∨ (J.go i H ∧ ∃ N : L2.St → Hp → Prop, (∀ σ' H', N σ' H' → ∃ m', m' < m ∧ W (i + 1) m' σ' H') ∧ ∀ x H', J.yld i H x H' → g x σ H' fun σ2 H2 => tb { D with nx := N, ct := N, bk := D.nx } σ2 H2) := by
  refine it_core (n := xs.length) (fun i σ H => ∃ s, Stt F (Γs s) T σ H ∧ W ((foldR f (xs.drop i) s).bind k)) ⟨s0, h0, hw⟩ (fun i σ H hi p => ?_) (fun σ H p => ?_)
  · obtain ⟨s, st, w⟩ := p
    obtain ⟨x, e1, e2⟩ := drop_some hi
    rw [e2] at w
    have w' : W (((f x s).bind (foldR f (xs.drop (i + 1)))).bind k) := w
    obtain ⟨a, b⟩ := wk.go _ [] σ H i (enc x) st (by rw [List.getElem?_map, e1]; rfl)
    refine ⟨a, fun y H' yl => tg x s T σ H' y _ (b y H' yl).1 fun σ' H2 st2 => ?_⟩
    exact body x s (fun m => W ((m.bind (foldR f (xs.drop (i + 1)))).bind k)) _ σ' H2 ⟨ok.bad, ok.err⟩ w' st2 fun s' σ'' H'' w2 st3 => ⟨s', st3, w2⟩
  · obtain ⟨s, st, w⟩ := p
    rw [List.drop_length] at w
    have e := wk.stop _ [] σ H st
    rw [List.length_map] at e
    exact ⟨e, hd s σ H w st⟩
theorem s_for {J : It} {g : TG} {tb : TS} {xs : List α} {enc : α → Dt} {f : α → S → R (Ctl S β)} {k : Ctl S β → R ρ} {Γs : S → List Ent} {Γb : α → S → List Ent} {s0 : S}
    (wk : Wks F J T (xs.map enc)) (tg : ∀ x s, Tg F g (enc x) (Γs s) (Γb x s)) (h0 : Stt F (Γs s0) T σ H) (ok : WOk F Γe Er W) (hw : W ((forR f xs s0).bind k))
    (body : ∀ x s (W' : R (Ctl S β) → Prop) (N Bk : L2.St → Hp → Prop) σ H, WOk F Γe Er W' → (∀ r, W' (.ok (.rt r)) → W (k (.rt r))) → W' (f x s) → Stt F (Γb x s) T σ H → (∀ s' σ' H', W' (.ok (.nx s')) → Stt F (Γs s') T σ' H' → N σ' H') →
      (∀ s' σ' H', W' (.ok (.bk s')) → Stt F (Γs s') T σ' H' → Bk σ' H') → tb { D with nx := N, ct := N, bk := Bk } σ H)
    (hd : ∀ s σ H, W (k (.nx s)) → Stt F (Γs s) T σ H → D.nx σ H) :
    ∃ W : Nat → Nat → L2.St → Hp → Prop, (∃ m, W 0 m σ H) ∧ ∀ i m σ H, W i m σ H →
      (J.stop i H ∧ D.nx σ H) ∨ (J.go i H ∧ ∃ N : L2.St → Hp → Prop, (∀ σ' H', N σ' H' → ∃ m', m' < m ∧ W (i + 1) m' σ' H') ∧ ∀ x H', J.yld i H x H' → g x σ H' fun σ2 H2 => tb { D with nx := N, ct := N, bk := D.nx } σ2 H2) := by
  refine it_core (n := xs.length) (fun i σ H => ∃ s, Stt F (Γs s) T σ H ∧ W ((forR f (xs.drop i) s).bind k)) ⟨s0, h0, hw⟩ (fun i σ H hi p => ?_) (fun σ H p => ?_)
  · obtain ⟨s, st, w⟩ := p
    obtain ⟨x, e1, e2⟩ := drop_some hi
    rw [e2] at w
    have w' : W (((f x s).bind fun c => c.step (forR f (xs.drop (i + 1)))).bind k) := w
    obtain ⟨a, b⟩ := wk.go _ [] σ H i (enc x) st (by rw [List.getElem?_map, e1]; rfl)
    refine ⟨a, fun y H' yl => tg x s T σ H' y _ (b y H' yl).1 fun σ' H2 st2 => ?_⟩
    exact body x s (fun m => W ((m.bind fun c => c.step (forR f (xs.drop (i + 1)))).bind k)) _ _ σ' H2 ⟨ok.bad, ok.err⟩ (fun r w => w) w' st2 (fun s' σ'' H'' w2 st3 => ⟨s', st3, w2⟩) fun s' σ'' H'' w2 st3 => hd s' σ'' H'' w2 st3
  · obtain ⟨s, st, w⟩ := p
    rw [List.drop_length] at w
    have e := wk.stop _ [] σ H st
    rw [List.length_map] at e
    exact ⟨e, hd s σ H w st⟩
theorem wks_list {a : Addr} {ds : List Dt} : Wks F (Itl F.K a) ((.ref a, .dat (.lst ds)) :: T) ds where
  go := fun Γ T' σ H i d s e => by
    obtain ⟨B, O, s1, p, ii, r⟩ := s.deep
    unfold Rp at r
    obtain ⟨l, vs, el, hl, ra⟩ := r
    cases el
    obtain ⟨u, e1, ru⟩ := ra.get e
    refine ⟨⟨vs, u, SqL.of (p.bh _ _ hl), e1⟩, fun x H' y => ?_⟩
    obtain ⟨rfl, y⟩ := y
    have := y vs (SqL.of (p.bh _ _ hl))
    rw [e1] at this
    cases this
    refine ⟨⟨B, _, slots_own (ow_dat ru) s1 emp_dj, ?_, ii⟩, Same.refl _⟩
    rw [emp_jn]
    exact p
  stop := fun Γ T' σ H s => by
    obtain ⟨B, O, s1, p, ii, r⟩ := s.deep
    unfold Rp at r
    obtain ⟨l, vs, el, hl, ra⟩ := r
    cases el
    exact ⟨vs, SqL.of (p.bh _ _ hl), by rw [ra.length]; exact Nat.le_refl _⟩
theorem wks_tup {a : Addr} {ds : List Dt} : Wks F (Itt F.K a) ((.ref a, .dat (.tup ds)) :: T) ds where
  go := fun Γ T' σ H i d s e => by
    obtain ⟨B, O, s1, p, ii, r⟩ := s.deep
    unfold Rp at r
    obtain ⟨l, vs, el, hl, ra⟩ := r
    cases el
    obtain ⟨u, e1, ru⟩ := ra.get e
    refine ⟨⟨vs, u, sqt_mono p.bh hl, e1⟩, fun x H' y => ?_⟩
    obtain ⟨rfl, y⟩ := y
    have := y vs (sqt_mono p.bh hl)
    rw [e1] at this
    cases this
    refine ⟨⟨B, _, slots_own (ow_dat ru) s1 emp_dj, ?_, ii⟩, Same.refl _⟩
    rw [emp_jn]
    exact p
  stop := fun Γ T' σ H s => by
    obtain ⟨B, O, s1, p, ii, r⟩ := s.deep
    unfold Rp at r
    obtain ⟨l, vs, el, hl, ra⟩ := r
    cases el
    exact ⟨vs, sqt_mono p.bh hl, by rw [ra.length]; exact Nat.le_refl _⟩
theorem wks_scr {a : Addr} {ns : List Int} : Wks F (Itl F.K a) ((.ref a, .dat (.scr ns)) :: T) (ns.map Dt.int) where
  go := fun Γ T' σ H i d s e => by
    obtain ⟨B, O, s1, p, ii, r⟩ := s.deep
    unfold Rp at r
    obtain ⟨l, el, hl⟩ := r
    cases el
    rw [List.getElem?_map] at e
    cases en : ns[i]? with
    | none => rw [en] at e; cases e
    | some n =>
      rw [en] at e
      cases e
      have e1 : (ns.map V.int)[i]? = some (V.int n) := by rw [List.getElem?_map, en]; rfl
      refine ⟨⟨_, _, sql_mono p.bh hl, e1⟩, fun x H' y => ?_⟩
      obtain ⟨rfl, y⟩ := y
      have := y _ (sql_mono p.bh hl)
      rw [e1] at this
      cases this
      exact ⟨s.push fun _ _ => by unfold Rp; rfl, Same.refl _⟩
  stop := fun Γ T' σ H s => by
    obtain ⟨B, O, s1, p, ii, r⟩ := s.deep
    unfold Rp at r
    obtain ⟨l, el, hl⟩ := r
    cases el
    exact ⟨_, sql_mono p.bh hl, by simp⟩
theorem wks_rng {lo : Int} {n : Nat} : Wks F (Itr lo n) T (((List.range n).map fun (i : Nat) => lo + (i : Int)).map Dt.int) where
  go := fun Γ T' σ H i d s e => by
    rw [List.getElem?_map, List.getElem?_map] at e
    cases en : (List.range n)[i]? with
    | none => rw [en] at e; cases e
    | some j =>
      rw [en] at e
      cases e
      obtain ⟨h1, h2⟩ := List.getElem?_eq_some_iff.mp en
      rw [List.getElem_range] at h2
      subst h2
      rw [List.length_range] at h1
      refine ⟨h1, fun x H' y => ?_⟩
      obtain ⟨rfl, rfl⟩ := y
      exact ⟨s.push fun _ _ => by unfold Rp; rfl, Same.refl _⟩
  stop := fun Γ T' σ H s => by show n ≤ _; simp
theorem wks_str {z : Str} : Wks F (Its z) T ((z.cps.toList.map sgn).map Dt.str) where
  go := fun Γ T' σ H i d s e => by
    rw [List.getElem?_map, List.getElem?_map] at e
    cases en : z.cps.toList[i]? with
    | none => rw [en] at e; cases e
    | some j =>
      rw [en] at e
      cases e
      have ea : z.cps[i]? = some j := by rw [← Array.getElem?_toList]; exact en
      obtain ⟨h1, h2⟩ := Array.getElem?_eq_some_iff.mp ea
      refine ⟨h1, fun x H' y => ?_⟩
      obtain ⟨rfl, c, ec, rfl⟩ := y
      rw [ea] at ec
      cases ec
      exact ⟨s.push fun _ _ => by unfold Rp; rfl, Same.refl _⟩
  stop := fun Γ T' σ H s => by show z.cps.size ≤ _; simp
variable {tl : TE} {ds : List Dt} {Ri : It → Hp → Prop}
theorem i_list (h : Ev F tl Γ (.dat (.lst ds))) (hst : Stt F Γ T σ H) (q : ∀ v J H', Stt F Γ ((v, .dat (.lst ds)) :: T) σ H' → Wks F J ((v, .dat (.lst ds)) :: T) ds → Ri J H') : iList F.K tl σ H Ri :=
  h T σ H hst _ fun v H1 s1 _ => by
    obtain ⟨B, eb, r⟩ := s1.topd
    unfold Rp at r
    obtain ⟨l, vs, rfl, hl, ra⟩ := r
    exact ⟨l, rfl, ⟨vs, SqL.of (eb _ _ hl)⟩, q _ _ H1 s1 wks_list⟩
theorem i_scr {ns : List Int} (h : Ev F tl Γ (.dat (.scr ns))) (hst : Stt F Γ T σ H) (q : ∀ v J H', Stt F Γ ((v, .dat (.scr ns)) :: T) σ H' → Wks F J ((v, .dat (.scr ns)) :: T) (ns.map Dt.int) → Ri J H') : iList F.K tl σ H Ri :=
  h T σ H hst _ fun v H1 s1 _ => by
    obtain ⟨B, eb, r⟩ := s1.topd
    unfold Rp at r
    obtain ⟨l, rfl, hl⟩ := r
    exact ⟨l, rfl, ⟨_, sql_mono eb hl⟩, q _ _ H1 s1 wks_scr⟩
theorem i_tup (h : Ev F tl Γ (.dat (.tup ds))) (hst : Stt F Γ T σ H) (q : ∀ v J H', Stt F Γ ((v, .dat (.tup ds)) :: T) σ H' → Wks F J ((v, .dat (.tup ds)) :: T) ds → Ri J H') : iTup F.K tl σ H Ri :=
  h T σ H hst _ fun v H1 s1 _ => by
    obtain ⟨B, eb, r⟩ := s1.topd
    unfold Rp at r
    obtain ⟨l, vs, rfl, hl, ra⟩ := r
    exact ⟨l, rfl, ⟨vs, sqt_mono eb hl⟩, q _ _ H1 s1 wks_tup⟩
theorem i_str {z : Str} (h : Ev F tl Γ (.dat (.str z))) (hst : Stt F Γ T σ H) (q : ∀ J H', Stt F Γ T σ H' → Wks F J T ((z.cps.toList.map sgn).map Dt.str) → Ri J H') : iStr tl σ H Ri :=
  h T σ H hst _ fun v H1 s1 _ => by
    obtain ⟨B, eb, r⟩ := s1.topd
    exact ⟨z, rp_str r, q _ H1 s1.pop wks_str⟩
theorem i_rng1 {j : Int} (hb : -(2 ^ 62) ≤ j ∧ j < 2 ^ 62) (h : Ev F tl Γ (.dat (.int j))) (hst : Stt F Γ T σ H) (q : ∀ J H', Stt F Γ T σ H' → Wks F J T ((rng 0 j).map Dt.int) → Ri J H') : iRng1 (tCons tl tNil) σ H Ri :=
  h T σ H hst _ fun v H1 s1 _ => by
    obtain ⟨B, eb, r⟩ := s1.topd
    refine ⟨j, by rw [rp_int r], hb.1, hb.2, q _ H1 s1.pop ?_⟩
    have e : rng 0 j = (List.range j.toNat).map fun (i : Nat) => (0 : Int) + (i : Int) := by unfold rng; rw [Int.sub_zero]
    rw [e]
    exact wks_rng
theorem i_rng2 {th : TE} {i j : Int} (hb : -(2 ^ 62) ≤ i ∧ i < 2 ^ 62 ∧ -(2 ^ 62) ≤ j ∧ j < 2 ^ 62) (h : Ev F tl Γ (.dat (.int i))) (h2 : Ev F th Γ (.dat (.int j))) (hst : Stt F Γ T σ H) (q : ∀ J H', Stt F Γ T σ H' → Wks F J T ((rng i j).map Dt.int) → Ri J H') : iRng2 (tCons tl (tCons th tNil)) σ H Ri :=
  h T σ H hst _ fun v H1 s1 _ => h2 _ σ H1 s1 _ fun u H2 s2 _ => by
    obtain ⟨B, eb, r, r2⟩ := s2.topd2
    exact ⟨i, j, by rw [rp_int r, rp_int r2], hb, q _ H2 s2.pop.pop wks_rng⟩
end
end Sm
namespace Sm
open PySem L2
theorem R.bind_assoc {α β γ : Type} (m : R α) (f : α → R β) (g : β → R γ) : (m.bind f).bind g = m.bind fun a => (f a).bind g := by cases m <;> rfl
theorem R.ok_bind {α β : Type} (a : α) (f : α → R β) : (R.ok a).bind f = f a := rfl
section
variable {F : Fx} {Γ Γ' Γe : List Ent} {T : List (V × Own)} {σ : L2.St} {H H' : Hp} {v : V} {t : Own} {Er : L2.St → Exn → Hp → Prop} {ρ α β S : Type} {W : R ρ → Prop} {D : Ends}
theorem slots_of {K : PySem.W.Frag} {B : Hp} (n : Nat) : ∀ {ts : List Own} {O : Hp} {vs : List V}, OwA K B ts O vs → Slots K B (ts.map some ++ List.replicate n none) O (vs.map some ++ List.replicate n none)
  | [], O, vs, h => by
    unfold OwA at h
    obtain ⟨rfl, rfl⟩ := h
    show Slots K B (List.replicate n none) emp (List.replicate n none)
    induction n with
    | zero => exact ⟨rfl, rfl⟩
    | succ n ih => exact slots_un ih
  | t :: ts, O, vs, h => by
    unfold OwA at h
    obtain ⟨v, r, O1, O2, rfl, a, b, c, rfl⟩ := h
    exact slots_own a (slots_of n b) c
theorem spD_start {X : Type} {K : PySem.W.Frag} {Ce : Exn → Addr} {n : Nat} {argT : X → List Dt} {m : X → R α} {res : α → Own} {vs : List V} {Q : VK} {E : XK} (N : List Str) (h : spD K Ce n argT m res vs H Q E) :
    ∃ (x : X) (F : Fx) (W : R α → Prop), K = F.K ∧ (∀ j, NI F j) ∧ Stt F (((argT x).map Own.dat).map some ++ List.replicate (N.length - n) none) [] (L2.start N vs) H ∧ W (m x) ∧ (∀ Γe, WOk F Γe (fun _ => ErrAt Ce E) W) ∧
      ∀ a v T Γ σ H', W (.ok a) → Stt F Γ ((v, res a) :: T) σ H' → Q v H' := by
  obtain ⟨x, B, O, hn, oa, s1, s2, dj, hw⟩ := h
  have el : vs.length = n := by rw [oa.length, hn]
  refine ⟨x, ⟨K, B, O, H, []⟩, Wsh K Ce B O H Q E res (fun _ => []) [] [], rfl, fun j p hp => (nomatch hp), ⟨B, O, ?_, Post.refl s1 s2 dj, fun p hp => (nomatch hp)⟩, hw, fun Γe => ⟨fun z => z, fun e he σ H' s => ?_⟩, fun a v T Γ σ H' w s => ?_⟩
  · have z := slots_of (N.length - n) oa
    unfold L2.start
    rw [el]
    exact z
  · obtain ⟨B', O', sl, p, _⟩ := s
    have p' : Post B O H B' (jn emp O') H' := by rw [emp_jn]; exact p
    exact he B' emp H' p'.dropR owa_nil
  · obtain ⟨B', O1, O2, a1, _, _, p, _⟩ := s.top
    have z := w v B' (jn O1 emp) H' (by rw [jn_emp]; exact p.dropR)
    exact z (owa_cons a1 owa_nil dj_emp)
theorem wipe_get {σ : L2.St} {i : Nat} : ∀ {vs : List Nat}, (wipe σ vs)[i]? = if i ∈ vs ∧ i < σ.length then some none else σ[i]?
  | [] => by simp [wipe]
  | v :: vs => by
    unfold wipe
    by_cases e : v = i
    · subst e
      by_cases l : v < σ.length
      · rw [List.getElem?_set_self (by rw [wipe_length]; exact l)]
        simp [l]
      · rw [List.getElem?_eq_none (by rw [List.length_set, wipe_length]; omega)]
        simp [l]
        try omega
    · rw [List.getElem?_set_ne e, wipe_get]
      have e' : ¬ i = v := fun z => e z.symm
      simp [e']
theorem wipe_wipe (σ : L2.St) (vs : List Nat) : wipe (wipe σ vs) vs = wipe σ vs := by
  apply List.ext_getElem?
  intro i
  rw [wipe_get, wipe_get, wipe_length]
  by_cases h : i ∈ vs ∧ i < σ.length
  · rw [if_pos h, if_pos h]
  · rw [if_neg h]
theorem wipe_set (σ : L2.St) {vs : List Nat} {j : Nat} (x : Option V) (h : j ∈ vs) : wipe (σ.set j x) vs = wipe σ vs := by
  apply List.ext_getElem?
  intro i
  rw [wipe_get, wipe_get, List.length_set]
  by_cases c : i ∈ vs ∧ i < σ.length
  · rw [if_pos c, if_pos c]
  · rw [if_neg c, if_neg c]
    by_cases e : j = i
    · subst e
      have : ¬ j < σ.length := fun z => c ⟨h, z⟩
      rw [List.getElem?_eq_none (by rw [List.length_set]; omega), List.getElem?_eq_none (by omega)]
    · rw [List.getElem?_set_ne e]
def NoneAt (F : Fx) (Γ : List Ent) : List Nat → Prop
  | [] => True
  | v :: vs => (Γ[v]? = some none ∧ NI F v) ∧ NoneAt F Γ vs
theorem set_none {l : List Ent} {i : Nat} (h : l[i]? = some none) : l.set i none = l := by
  apply List.ext_getElem?
  intro j
  by_cases e : i = j
  · subst e; rw [List.getElem?_set_self (List.getElem?_eq_some_iff.mp h).1, h]
  · rw [List.getElem?_set_ne e]
theorem Slots.irr {K : PySem.W.Frag} {B : Hp} : ∀ {Γ : List Ent} {O : Hp} {σ : L2.St} {i : Nat} {x : Option V}, Slots K B Γ O (σ.set i x) → Γ[i]? = some none → Slots K B Γ O σ
  | [], _, _, _, _, _, e => by simp at e
  | none :: Γ, O, [], i, x, h, e => h
  | none :: Γ, O, y :: σ, 0, x, h, e => by
    unfold Slots at h
    obtain ⟨z, r, e1, b⟩ := h
    rw [List.set_cons_zero] at e1
    cases e1
    exact slots_un b
  | none :: Γ, O, y :: σ, i + 1, x, h, e => by
    unfold Slots at h
    obtain ⟨z, r, e1, b⟩ := h
    rw [List.set_cons_succ] at e1
    cases e1
    exact slots_un (Slots.irr b (by simpa using e))
  | some t :: Γ, O, [], i, x, h, e => h
  | some t :: Γ, O, y :: σ, 0, x, h, e => by simp at e
  | some t :: Γ, O, y :: σ, i + 1, x, h, e => by
    unfold Slots at h
    obtain ⟨v, r, O1, O2, e1, a, b, c, rfl⟩ := h
    rw [List.set_cons_succ] at e1
    cases e1
    exact slots_own a (Slots.irr b (by simpa using e)) c
theorem Stt.irr {i : Nat} {x : Option V} (h : Stt F Γ T (σ.set i x) H) (e : Γ[i]? = some none) (ni : NI F i) : Stt F Γ T σ H := by
  obtain ⟨B, O, s, p, q⟩ := h
  refine ⟨B, O, ?_, p, fun z hz => ?_⟩
  · have k : (T.map (fun p => some p.1) ++ σ).set (T.length + i) x = T.map (fun p => some p.1) ++ σ.set i x := by
      rw [List.set_append_right _ _ (by simp)]
      simp
    rw [← k] at s
    exact s.irr (by rw [List.getElem?_append_right (by simp)]; simpa using e)
  · have := q z hz
    rw [List.getElem?_set_ne (Ne.symm (ni z hz))] at this
    exact this
theorem Stt.setN {i : Nat} {x : Option V} (h : Stt F Γ T σ H) (e : Γ[i]? = some none) (ni : NI F i) : Stt F Γ T (σ.set i x) H := by
  obtain ⟨B, O, s, p, q⟩ := h
  have e' : (T.map (fun p => some p.2) ++ Γ)[T.length + i]? = some none := by
    rw [List.getElem?_append_right (by simp)]
    simpa using e
  obtain ⟨Od, O3, d, rfl, _, k⟩ := s.put (List.getElem?_eq_some_iff.mp e').1
  have z := k x
  rw [set_none e', List.set_append_right _ _ (by simp)] at z
  simp only [List.length_map, Nat.add_sub_cancel_left] at z
  exact ⟨B, O3, z, p.dropL d, fun z hz => by rw [List.getElem?_set_ne (Ne.symm (ni z hz))]; exact q z hz⟩
theorem Stt.wiped : ∀ {vs : List Nat} {σ : L2.St}, Stt F Γ T σ H → NoneAt F Γ vs → Stt F Γ T (wipe σ vs) H
  | [], σ, h, _ => h
  | v :: vs, σ, h, ⟨⟨e, ni⟩, n⟩ => (Stt.wiped h n).setN e ni
theorem Stt.unwiped : ∀ {vs : List Nat} {σ : L2.St}, Stt F Γ T (wipe σ vs) H → NoneAt F Γ vs → Stt F Γ T σ H
  | [], σ, h, _ => h
  | v :: vs, σ, h, ⟨⟨e, ni⟩, n⟩ => Stt.unwiped (h.irr e ni) n
def TgW (F : Fx) (g : TG) (d : Dt) (Γ Γ' : List Ent) (vs : List Nat) : Prop := ∀ T σ σ0 H x (Q : L2.St → Hp → Prop), wipe σ vs = wipe σ0 vs → Stt F Γ ((x, .dat d) :: T) σ H →
  (∀ σ' H', wipe σ' vs = wipe σ0 vs → Stt F Γ' T σ' H' → Same H H' → Q σ' H') → g x σ H Q
theorem tgw_name {j : Nat} {d : Dt} {vs : List Nat} (hj : j < Γ.length) (ni : NI F j) (hv : j ∈ vs) : TgW F (gName j) d Γ (Γ.set j (some (.dat d))) vs := fun T σ σ0 H x Q e s q =>
  q _ H ((wipe_set σ _ hv).trans e) (s.assign hj ni) (Same.refl _)
theorem Stt.appTop {d : Dt} {ds : List Dt} {l : Addr} (h : Stt F Γ ((v, .dat d) :: (.ref l, .lst (ds.map Own.dat)) :: T) σ H) :
    ∃ us, H l = some (.lst us) ∧ us.length = ds.length ∧ Stt F Γ ((.ref l, .lst ((ds ++ [d]).map Own.dat)) :: T) σ (upd H l (.lst (us ++ [v]))) := by
  obtain ⟨B, O1, O2, a, s, c, p, i⟩ := h.top
  obtain ⟨r, rfl⟩ := a.rp
  rw [emp_jn] at p
  rw [List.map_cons, List.map_cons] at s
  unfold Slots at s
  obtain ⟨w, r', P1, P2, e1, a2, b, d2, rfl⟩ := s
  cases e1
  unfold Ow at a2
  obtain ⟨l', us, O', el, oa, n, rfl⟩ := a2
  cases el
  obtain ⟨ra, rfl⟩ := oa.dats
  have p4 := p.mut (a := l) (o := .lst (us ++ [v])) (jn_some upd_same)
  rw [upd_jn, upd_upd] at p4
  refine ⟨us, p.oh l _ (jn_some upd_same), ra.length, B, _, slots_own (O1 := upd emp l (.lst (us ++ [v]))) ?_ b ?_, p4, i⟩
  · unfold Ow
    exact ⟨l, _, emp, rfl, owa_dats (ra.append (RpA.one r)), rfl, rfl⟩
  · refine Dj.upd emp_dj ?_
    rcases d2 l with x | x
    · rw [upd_same] at x; cases x
    · exact x
theorem Stt.nilTop {l : Addr} (h : Stt F Γ T σ H) (hl : H l = none) : Stt F Γ ((.ref l, .lst (([] : List Dt).map Own.dat)) :: T) σ (upd H l (.lst [])) := SttA.lst (SttA.nil h) hl
theorem calm_err {e : Exn} : (R.err e : R α).calm = .bad := rfl
def Nb (L : Addr) (H0 H : Hp) : Prop := ∀ a o, a ≠ L → H0 a = some o → H a = some o
theorem nb_new {L : Addr} {o : HO} (h : H L = none) : Nb L H (upd H L o) := fun a u n e => by rw [upd_ne n]; exact e
theorem Nb.same {L : Addr} {H0 H1 H2 : Hp} (h : Nb L H0 H1) (s : Same H1 H2) : Nb L H0 H2 := fun a o n e => s a o (h a o n e)
theorem Nb.upd {L : Addr} {H0 H1 : Hp} {o : HO} (h : Nb L H0 H1) : Nb L H0 (upd H1 L o) := fun a u n e => by rw [upd_ne n]; exact h a u n e
theorem Nb.out {L : Addr} {H0 H1 : Hp} (h : Nb L H0 H1) (n : H0 L = none) : Same H0 H1 := fun a o e => h a o (ne_of_none e n) e
theorem lc_go {Γx : List Ent} {J : It} {g : TG} {te : TE} {vs : List Nat} {xs : List α} {enc : α → Dt} {encB : β → Dt} {f : α → R β} {k : List β → R ρ} {Γb : α → List Ent} {Q : VK}
    (wk : Wks F J T (xs.map enc)) (hn : NoneAt F Γ vs) (tg : ∀ x, TgW F g (enc x) Γ (Γb x) vs) (wkb : ∀ x, Wk (Γb x) Γ) (hl : xs.length ≤ 16777216) (hst : Stt F Γ T σ H) (ok : WOk F Γe Er W) (hw : W ((mapR f xs).bind k))
    (body : ∀ x T' (W' : R β → Prop) σ' H' (Qe : VK), WOk F Γx (fun _ _ _ => False) W' → W' (f x) → Stt F (Γb x) T' σ' H' → (∀ y v H'', W' (.ok y) → Stt F (Γb x) ((v, .dat (encB y)) :: T') σ' H'' → Same H' H'' → Qe v H'') → te σ' H' Qe)
    (q : ∀ ys v H', W (k ys) → Stt F Γ ((v, .lst ((ys.map encB).map Own.dat)) :: T) σ H' → Same H H' → Q v H') :
    ∀ L, H L = none → ∃ W : Nat → Nat → Hp → Prop, (∃ m, W 0 m (upd H L (.lst []))) ∧ ∀ i m H, W i m H →
      (J.stop i H ∧ Q (.ref L) H) ∨ (J.go i H ∧ ∃ Nx : Hp → Prop, (∀ H', Nx H' → ∃ m', m' < m ∧ W (i + 1) m' H') ∧ ∀ x H', J.yld i H x H' → g x (wipe σ vs) H' fun σ2 H2 => wipe σ2 vs = wipe σ vs ∧ tYes σ2 H2 fun b H3 =>
        if b = true then te σ2 H3 fun y H4 => ∃ acc, H4 L = some (.lst acc) ∧ acc.length < sizeLine ∧ Nx (upd H4 L (.lst (acc ++ [y]))) else Nx H3) := by
  intro L hL
  let H0 := H
  refine ⟨fun i m H => m = xs.length - i ∧ i ≤ xs.length ∧ ∃ acc : List β, acc.length = i ∧ Stt F Γ ((.ref L, .lst ((acc.map encB).map Own.dat)) :: T) (wipe σ vs) H ∧ W ((mapR f (xs.drop i)).bind fun ys => k (acc ++ ys)) ∧ Nb L H0 H,
    ⟨xs.length, by simp, Nat.zero_le _, [], rfl, (hst.wiped hn).nilTop hL, hw, nb_new hL⟩, ?_⟩
  rintro i m H1 ⟨rfl, hi, acc, ha, st, w, nb⟩
  by_cases hlt : i < xs.length
  · obtain ⟨x, e1, e2⟩ := drop_some hlt
    rw [e2] at w
    obtain ⟨a, b⟩ := wk.go Γ [_] _ H1 i (enc x) st (by rw [List.getElem?_map, e1]; rfl)
    refine .inr ⟨a, fun H' => ∃ acc : List β, acc.length = i + 1 ∧ Stt F Γ ((.ref L, .lst ((acc.map encB).map Own.dat)) :: T) (wipe σ vs) H' ∧ W ((mapR f (xs.drop (i + 1))).bind fun ys => k (acc ++ ys)) ∧ Nb L H0 H',
      fun H' ⟨acc', h1, h2, h3, h4⟩ => ⟨xs.length - (i + 1), by omega, rfl, hlt, acc', h1, h2, h3, h4⟩, fun y H' yl => ?_⟩
    have sy := (b y H' yl).2
    refine tg x _ _ σ H' y _ (wipe_wipe σ vs) (b y H' yl).1 fun σ2 H2 ew st2 sa2 => ⟨ew, ?_⟩
    show te σ2 H2 _
    have w' : W ((((f x).calm.bind fun y => (mapR f (xs.drop (i + 1))).bind fun ys => .ok (y :: ys))).bind fun ys => k (acc ++ ys)) := w
    refine body x _ (fun m => W (((m.calm.bind fun y => (mapR f (xs.drop (i + 1))).bind fun ys => .ok (y :: ys))).bind fun ys => k (acc ++ ys))) σ2 H2 _ ⟨ok.bad, fun e he _ _ _ => ok.bad he⟩ w' st2 fun y u H3 wy st3 sa3 => ?_
    obtain ⟨us, h1, h2, h3⟩ := st3.appTop
    have nb3 := ((nb.same sy).same sa2).same sa3
    refine ⟨us, h1, ?_, acc ++ [y], by simp [ha], ?_, ?_, nb3.upd⟩
    · rw [h2, List.length_map, ha]
      exact line_lt (by omega)
    · have z : Stt F Γ ((.ref L, .lst ((((acc ++ [y]).map encB)).map Own.dat)) :: T) σ2 (upd H3 L (.lst (us ++ [u]))) := by
        rw [List.map_append]
        exact h3.weak (wkb x)
      have z2 := z.wiped hn
      rw [ew] at z2
      exact z2
    · have w2 : W (((mapR f (xs.drop (i + 1))).bind fun ys => .ok (y :: ys)).bind fun ys => k (acc ++ ys)) := wy
      rw [R.bind_assoc] at w2
      have e3 : (fun ys => (R.ok (y :: ys)).bind fun ys => k (acc ++ ys)) = fun ys => k (acc ++ [y] ++ ys) := by
        funext ys
        rw [R.ok_bind, List.append_assoc]
        rfl
      rw [e3] at w2
      exact w2
  · have e : i = xs.length := by omega
    subst e
    rw [List.drop_length] at w
    have w2 : W (k (acc ++ [])) := w
    rw [List.append_nil] at w2
    have z := wk.stop Γ [_] _ H1 st
    rw [List.length_map] at z
    exact .inl ⟨z, q acc _ H1 w2 (st.unwiped hn) (nb.out hL)⟩
theorem lcf_go {Γx : List Ent} {J : It} {g : TG} {tt : TT} {te : TE} {vs : List Nat} {xs : List α} {enc : α → Dt} {encB : β → Dt} {f : α → R (Option β)} {k : List β → R ρ} {Γb : α → List Ent} {Q : VK}
    (wk : Wks F J T (xs.map enc)) (hn : NoneAt F Γ vs) (tg : ∀ x, TgW F g (enc x) Γ (Γb x) vs) (wkb : ∀ x, Wk (Γb x) Γ) (hl : xs.length ≤ 16777216) (hst : Stt F Γ T σ H) (ok : WOk F Γe Er W) (hw : W ((filR f xs).bind k))
    (body : ∀ x T' (W' : R (Option β) → Prop) σ' H' (Qe : VK) (Qn : Hp → Prop), WOk F Γx (fun _ _ _ => False) W' → W' (f x) → Stt F (Γb x) T' σ' H' → (∀ y v H'', W' (.ok (some y)) → Stt F (Γb x) ((v, .dat (encB y)) :: T') σ' H'' → Same H' H'' → Qe v H'') →
      (∀ H'', W' (.ok none) → Stt F (Γb x) T' σ' H'' → Same H' H'' → Qn H'') → tt σ' H' fun b H3 => if b = true then te σ' H3 Qe else Qn H3)
    (q : ∀ ys v H', W (k ys) → Stt F Γ ((v, .lst ((ys.map encB).map Own.dat)) :: T) σ H' → Same H H' → Q v H') :
    ∀ L, H L = none → ∃ W : Nat → Nat → Hp → Prop, (∃ m, W 0 m (upd H L (.lst []))) ∧ ∀ i m H, W i m H →
      (J.stop i H ∧ Q (.ref L) H) ∨ (J.go i H ∧ ∃ Nx : Hp → Prop, (∀ H', Nx H' → ∃ m', m' < m ∧ W (i + 1) m' H') ∧ ∀ x H', J.yld i H x H' → g x (wipe σ vs) H' fun σ2 H2 => wipe σ2 vs = wipe σ vs ∧ tt σ2 H2 fun b H3 =>
        if b = true then te σ2 H3 fun y H4 => ∃ acc, H4 L = some (.lst acc) ∧ acc.length < sizeLine ∧ Nx (upd H4 L (.lst (acc ++ [y]))) else Nx H3) := by
  intro L hL
  let H0 := H
  refine ⟨fun i m H => m = xs.length - i ∧ i ≤ xs.length ∧ ∃ acc : List β, acc.length ≤ i ∧ Stt F Γ ((.ref L, .lst ((acc.map encB).map Own.dat)) :: T) (wipe σ vs) H ∧ W ((filR f (xs.drop i)).bind fun ys => k (acc ++ ys)) ∧ Nb L H0 H,
    ⟨xs.length, by simp, Nat.zero_le _, [], Nat.le_refl _, (hst.wiped hn).nilTop hL, hw, nb_new hL⟩, ?_⟩
  rintro i m H1 ⟨rfl, hi, acc, ha, st, w, nb⟩
  by_cases hlt : i < xs.length
  · obtain ⟨x, e1, e2⟩ := drop_some hlt
    rw [e2] at w
    obtain ⟨a, b⟩ := wk.go Γ [_] _ H1 i (enc x) st (by rw [List.getElem?_map, e1]; rfl)
    refine .inr ⟨a, fun H' => ∃ acc : List β, acc.length ≤ i + 1 ∧ Stt F Γ ((.ref L, .lst ((acc.map encB).map Own.dat)) :: T) (wipe σ vs) H' ∧ W ((filR f (xs.drop (i + 1))).bind fun ys => k (acc ++ ys)) ∧ Nb L H0 H',
      fun H' ⟨acc', h1, h2, h3, h4⟩ => ⟨xs.length - (i + 1), by omega, rfl, hlt, acc', h1, h2, h3, h4⟩, fun y H' yl => ?_⟩
    have sy := (b y H' yl).2
    refine tg x _ _ σ H' y _ (wipe_wipe σ vs) (b y H' yl).1 fun σ2 H2 ew st2 sa2 => ⟨ew, ?_⟩
    have w' : W ((((f x).calm.bind fun y => (filR f (xs.drop (i + 1))).bind fun ys => .ok (y.toList ++ ys))).bind fun ys => k (acc ++ ys)) := w
    have re : ∀ zs : List β, W ((((filR f (xs.drop (i + 1))).bind fun ys => .ok (zs ++ ys))).bind fun ys => k (acc ++ ys)) → W ((filR f (xs.drop (i + 1))).bind fun ys => k ((acc ++ zs) ++ ys)) := fun zs w2 => by
      rw [R.bind_assoc] at w2
      have e3 : (fun ys => (R.ok (zs ++ ys)).bind fun ys => k (acc ++ ys)) = fun ys => k ((acc ++ zs) ++ ys) := by
        funext ys
        rw [R.ok_bind, List.append_assoc]
      rw [e3] at w2
      exact w2
    refine body x _ (fun m => W (((m.calm.bind fun y => (filR f (xs.drop (i + 1))).bind fun ys => .ok (y.toList ++ ys))).bind fun ys => k (acc ++ ys))) σ2 H2 _ _ ⟨ok.bad, fun e he _ _ _ => ok.bad he⟩ w' st2 (fun y u H3 wy st3 sa3 => ?_) fun H3 wy st3 sa3 => ?_
    · obtain ⟨us, h1, h2, h3⟩ := st3.appTop
      have nb3 := ((nb.same sy).same sa2).same sa3
      refine ⟨us, h1, ?_, acc ++ [y], by simp; omega, ?_, re [y] wy, nb3.upd⟩
      · rw [h2, List.length_map]
        exact line_lt (by omega)
      · have z : Stt F Γ ((.ref L, .lst ((((acc ++ [y]).map encB)).map Own.dat)) :: T) σ2 (upd H3 L (.lst (us ++ [u]))) := by
          rw [List.map_append]
          exact h3.weak (wkb x)
        have z2 := z.wiped hn
        rw [ew] at z2
        exact z2
    · have z := (st3.weak (wkb x)).wiped hn
      rw [ew] at z
      exact ⟨acc, by omega, z, by have := re [] wy; rw [List.append_nil] at this; exact this, ((nb.same sy).same sa2).same sa3⟩
  · have e : i = xs.length := by omega
    subst e
    rw [List.drop_length] at w
    have w2 : W (k (acc ++ [])) := w
    rw [List.append_nil] at w2
    have z := wk.stop Γ [_] _ H1 st
    rw [List.length_map] at z
    exact .inl ⟨z, q acc _ H1 w2 (st.unwiped hn) (nb.out hL)⟩
theorem s_while {tc : TT} {tb : TS} {c : S → R Bool} {f : S → R (Ctl S β)} {n : Nat} {k : Ctl S β → R ρ} {Γs : S → List Ent} {s0 : S}
    (h0 : Stt F (Γs s0) T σ H) (ok : WOk F Γe Er W) (hw : W ((whileR c f n s0).bind k))
    (cond : ∀ s (W' : R Bool → Prop) σ H (Q : Bool → Hp → Prop), WOk F Γe Er W' → W' (c s) → Stt F (Γs s) T σ H → (∀ b H', W' (.ok b) → Stt F (Γs s) T σ H' → Q b H') → tc σ H Q)
    (body : ∀ s (W' : R (Ctl S β) → Prop) (N Bk : L2.St → Hp → Prop) σ H, WOk F Γe Er W' → (∀ r, W' (.ok (.rt r)) → W (k (.rt r))) → W' (f s) → Stt F (Γs s) T σ H → (∀ s' σ' H', W' (.ok (.nx s')) → Stt F (Γs s') T σ' H' → N σ' H') →
      (∀ s' σ' H', W' (.ok (.bk s')) → Stt F (Γs s') T σ' H' → Bk σ' H') → tb { D with nx := N, ct := N, bk := Bk } σ H)
    (hd : ∀ s σ H, W (k (.nx s)) → Stt F (Γs s) T σ H → D.nx σ H) : tWhile tc tb D σ H := by
  refine ⟨fun n σ H => ∃ s, Stt F (Γs s) T σ H ∧ W ((whileR c f n s).bind k), ⟨n, s0, h0, hw⟩, ?_⟩
  rintro m σ H ⟨s, st, w⟩
  cases m with
  | zero => exact absurd w ok.bad
  | succ m =>
    have w' : W (((c s).bind fun b => match b with
      | false => .ok (.nx s)
      | true => (f s).bind fun c' => c'.step (whileR c f m)).bind k) := w
    refine cond s (fun mb => W ((mb.bind fun b => match b with
      | false => .ok (.nx s)
      | true => (f s).bind fun c' => c'.step (whileR c f m)).bind k)) σ H _ ⟨ok.bad, ok.err⟩ w' st fun b H1 wb st1 => ?_
    cases b with
    | false => exact hd s σ H1 wb st1
    | true =>
      refine ⟨fun σ' H' => ∃ s, Stt F (Γs s) T σ' H' ∧ W ((whileR c f m s).bind k), fun σ' H' p => ⟨m, Nat.lt_succ_self m, p⟩, ?_⟩
      exact body s (fun mb => W ((mb.bind fun c' => c'.step (whileR c f m)).bind k)) _ _ σ H1 ⟨ok.bad, ok.err⟩ (fun r z => z) wb st1 (fun s' σ' H' w2 s2 => ⟨s', s2, w2⟩) fun s' σ' H' w2 s2 => hd s' σ' H' w2 s2
end
end Sm
namespace Sm
open PySem L2
section
variable {F : Fx} {Γ Γ' Γe : List Ent} {T : List (V × Own)} {σ : L2.St} {H H' : Hp} {v : V} {t : Own} {Er : L2.St → Exn → Hp → Prop} {ρ α β S : Type} {W : R ρ → Prop} {D : Ends} {ta tb tc te : TE} {i j k : Int} {ds es : List Dt} {d e : Dt}
theorem inV_int {i : Int} : ∀ {ns : List Int}, inV (.int i) (ns.map V.int) = decide (i ∈ ns)
  | [] => by simp [inV]
  | n :: ns => by
    have ih := inV_int (i := i) (ns := ns)
    unfold inV at ih ⊢
    rw [List.map_cons, List.any_cons, ih]
    show ((n == i) || decide (i ∈ ns)) = decide (i ∈ n :: ns)
    by_cases h : n = i
    · subst h; simp
    · have h' : ¬ i = n := fun z => h z.symm
      simp [h, h']
theorem inV_str {i : Str} : ∀ {ns : List Str}, inV (.str i) (ns.map V.str) = decide (i ∈ ns)
  | [] => by simp [inV]
  | n :: ns => by
    have ih := inV_str (i := i) (ns := ns)
    unfold inV at ih ⊢
    rw [List.map_cons, List.any_cons, ih]
    show ((n == i) || decide (i ∈ ns)) = decide (i ∈ n :: ns)
    by_cases h : n = i
    · subst h; simp
    · have h' : ¬ i = n := fun z => h z.symm
      simp [h, h']
theorem flat_ints : ∀ ns : List Int, (ns.map V.int).all flatV = true
  | [] => rfl
  | _ :: ns => by rw [List.map_cons, List.all_cons, flat_ints ns]; rfl
theorem flat_strs : ∀ ns : List Str, (ns.map V.str).all flatV = true
  | [] => rfl
  | _ :: ns => by rw [List.map_cons, List.all_cons, flat_strs ns]; rfl
theorem ev_inTI {neg : Bool} {ns : List Int} (h1 : Ev F ta Γ (.dat (.int i))) (h2 : Ev F tb Γ (.dat (.tup (ns.map Dt.int)))) : Ev F (tOp (rIn F.K neg) ta tb) Γ (.dat (.bl (if neg then !decide (i ∈ ns) else decide (i ∈ ns)))) :=
  ev_op h1 h2 (op2_val _ (fun B => by unfold Rp; rfl) fun B H x y Q eb h1 h2 q => by
    rw [rp_int h1]
    unfold Rp at h2
    obtain ⟨a, xs, rfl, hs, ra⟩ := h2
    rw [rpa_ints ra] at hs
    exact ⟨a, _, rfl, .inr (sqt_mono eb hs), rfl, flat_ints ns, by rw [inV_int]; exact q⟩)
theorem ev_inTS {neg : Bool} {s : Str} {ns : List Str} (h1 : Ev F ta Γ (.dat (.str s))) (h2 : Ev F tb Γ (.dat (.tup (ns.map Dt.str)))) : Ev F (tOp (rIn F.K neg) ta tb) Γ (.dat (.bl (if neg then !decide (s ∈ ns) else decide (s ∈ ns)))) :=
  ev_op h1 h2 (op2_val _ (fun B => by unfold Rp; rfl) fun B H x y Q eb h1 h2 q => by
    rw [rp_str h1]
    unfold Rp at h2
    obtain ⟨a, xs, rfl, hs, ra⟩ := h2
    rw [rpa_strs ra] at hs
    exact ⟨a, _, rfl, .inr (sqt_mono eb hs), rfl, flat_strs ns, by rw [inV_str]; exact q⟩)
theorem ev_inLI {neg : Bool} {ns : List Int} (h1 : Ev F ta Γ (.dat (.int i))) (h2 : EvL F tb Γ (ns.map Dt.int)) : Ev F (tOp (rIn F.K neg) ta tb) Γ (.dat (.bl (if neg then !decide (i ∈ ns) else decide (i ∈ ns)))) := fun T σ H s Q q =>
  h1 T σ H s _ fun v H1 s1 e1 => h2 _ σ H1 s1 _ fun l vs H2 hl s2 e2 => by
    obtain ⟨B, _, r⟩ := s2.rvs
    obtain ⟨B', _, r'⟩ := s2.pop.topd
    rw [rpa_ints r] at hl
    rw [rp_int r']
    exact ⟨l, _, rfl, .inl (SqL.of hl), rfl, flat_ints ns, by rw [inV_int]; exact q _ H2 (s2.pop.pop.push fun _ _ => by unfold Rp; rfl) (e1.trans e2)⟩
theorem ev_inLS {neg : Bool} {s : Str} {ns : List Str} (h1 : Ev F ta Γ (.dat (.str s))) (h2 : EvL F tb Γ (ns.map Dt.str)) : Ev F (tOp (rIn F.K neg) ta tb) Γ (.dat (.bl (if neg then !decide (s ∈ ns) else decide (s ∈ ns)))) := fun T σ H s Q q =>
  h1 T σ H s _ fun v H1 s1 e1 => h2 _ σ H1 s1 _ fun l vs H2 hl s2 e2 => by
    obtain ⟨B, _, r⟩ := s2.rvs
    obtain ⟨B', _, r'⟩ := s2.pop.topd
    rw [rpa_strs r] at hl
    rw [rp_str r']
    exact ⟨l, _, rfl, .inl (SqL.of hl), rfl, flat_strs ns, by rw [inV_str]; exact q _ H2 (s2.pop.pop.push fun _ _ => by unfold Rp; rfl) (e1.trans e2)⟩
theorem ev_chain {g1 g2 : Int → Int → Bool} (h1 : Ev F ta Γ (.dat (.int i))) (h2 : Ev F tb Γ (.dat (.int j))) (h3 : Ev F tc Γ (.dat (.int k))) :
    Ev F (tChain (rI0 fun i j => .bl (g1 i j)) (rI0 fun i j => .bl (g2 i j)) ta tb tc) Γ (.dat (.bl (g1 i j && g2 j k))) := fun T σ H s Q q =>
  h1 T σ H s _ fun x H1 s1 e1 => h2 _ σ H1 s1 _ fun y H2 s2 e2 => by
    obtain ⟨B, _, r1, r2⟩ := s2.topd2
    refine ⟨i, j, rp_int r1, rp_int r2, g1 i j, rfl, ?_⟩
    cases c : g1 i j with
    | true =>
      rw [if_pos rfl]
      refine h3 _ σ H2 s2.pop.pop _ fun z H3 s3 e3 => ?_
      obtain ⟨B, _, r3⟩ := s3.topd
      refine ⟨j, k, rp_int r2, rp_int r3, ?_⟩
      rw [c] at q
      exact q _ H3 (s3.pop.push fun _ _ => by unfold Rp; rfl) ((e1.trans e2).trans e3)
    | false =>
      rw [if_neg Bool.false_ne_true]
      rw [c] at q
      exact q _ H2 (s2.pop.pop.push fun _ _ => by unfold Rp; rfl) (e1.trans e2)
theorem et_chain {g1 g2 : Int → Int → Bool} {tt : TT} (h : tt = tTest (tChain (rI0 fun i j => .bl (g1 i j)) (rI0 fun i j => .bl (g2 i j)) ta tb tc)) (h1 : Ev F ta Γ (.dat (.int i))) (h2 : Ev F tb Γ (.dat (.int j))) (h3 : Ev F tc Γ (.dat (.int k))) :
    EvT F tt Γ (g1 i j && g2 j k) := h ▸ et_test (ev_chain h1 h2 h3)
def Tgs (F : Fx) (g : TGs) (ds : List Dt) (Γ Γ' : List Ent) : Prop := ∀ T σ H xs (Q : L2.St → Hp → Prop), SttA F Γ T xs ds σ H → (∀ σ' H', Stt F Γ' T σ' H' → Q σ' H') → g xs σ H Q
theorem tgs_nil : Tgs F gNil [] Γ Γ := fun T σ H xs Q s q => by
  obtain ⟨B, O, r, sl, p, i⟩ := s
  unfold RpA at r
  exact ⟨r, q σ H ⟨B, O, sl, p, i⟩⟩
theorem SttA.split {xs : List V} (h : SttA F Γ T xs (d :: ds) σ H) : ∃ v r, xs = v :: r ∧ ∃ B O, RpA F.K B ds r ∧ Slots F.K B (((v, Own.dat d) :: T).map (fun p => some p.2) ++ Γ) O (((v, Own.dat d) :: T).map (fun p => some p.1) ++ σ) ∧ Post F.B F.O F.H B O H ∧ ∀ p ∈ F.ins, σ[p.1]? = some (some p.2) := by
  obtain ⟨B, O, r, sl, p, i⟩ := h
  unfold RpA at r
  obtain ⟨v, r', rfl, h1, h2⟩ := r
  refine ⟨v, r', rfl, B, jn emp O, h2, slots_own (ow_dat h1) sl emp_dj, ?_, i⟩
  rw [emp_jn]
  exact p
theorem SttA.assign {xs : List V} {v : V} {jn_ : Nat} (h : ∃ B O, RpA F.K B ds xs ∧ Slots F.K B (((v, Own.dat d) :: T).map (fun p => some p.2) ++ Γ) O (((v, Own.dat d) :: T).map (fun p => some p.1) ++ σ) ∧ Post F.B F.O F.H B O H ∧ ∀ p ∈ F.ins, σ[p.1]? = some (some p.2))
    (hj : jn_ < Γ.length) (ni : NI F jn_) : SttA F (Γ.set jn_ (some (.dat d))) T xs ds (σ.set jn_ (some v)) H := by
  obtain ⟨B, O, r, sl, p, q⟩ := h
  rw [List.map_cons, List.map_cons] at sl
  unfold Slots at sl
  obtain ⟨w, r', O1, O2, e1, a, s, c, rfl⟩ := sl
  cases e1
  have s : Slots F.K B (T.map (fun p => some p.2) ++ Γ) O2 (T.map (fun p => some p.1) ++ σ) := s
  have hl : T.length + jn_ < (T.map (fun p => some p.2) ++ Γ).length := by simp; omega
  obtain ⟨Od, O3, d3, rfl, q1, _⟩ := s.put hl
  refine ⟨B, jn O1 O3, r, ?_, ?_, fun p hp => by rw [List.getElem?_set_ne (Ne.symm (ni p hp))]; exact q p hp⟩
  · have z := q1 B _ O1 v (Same.refl _) a (Dj.rr c)
    rw [List.set_append_right _ _ (by simp), List.set_append_right _ _ (by simp)] at z
    simpa using z
  · rw [jn_swap (Dj.rl c)] at p
    exact p.dropL (Dj.jnr (Dj.rl c).symm d3)
theorem tgs_cons {n : Nat} {gs : TGs} (hj : n < Γ.length) (ni : NI F n) (h : Tgs F gs ds (Γ.set n (some (.dat d))) Γ') : Tgs F (gCons (gName n) gs) (d :: ds) Γ Γ' := fun T σ H xs Q s q => by
  obtain ⟨v, r, rfl, s'⟩ := s.split
  exact ⟨v, r, rfl, h T _ H r Q (SttA.assign s' hj ni) q⟩
theorem tg_tup {n : Nat} {gs : TGs} (hn : ds.length = n) (h : Tgs F gs ds Γ Γ') : Tg F (gTup F.K n gs) (.tup ds) Γ Γ' := fun T σ H x Q s q => by
  obtain ⟨B, O1, O2, a, sl, c, p, i⟩ := s.top
  obtain ⟨r, rfl⟩ := a.rp
  unfold Rp at r
  obtain ⟨l, vs, rfl, hs, ra⟩ := r
  rw [emp_jn] at p
  exact ⟨l, vs, rfl, sqt_mono p.bh hs, by rw [ra.length, hn], h T σ H vs Q ⟨B, O2, ra, sl, p, i⟩ q⟩
theorem s_asgT {n : Nat} {gs : TGs} (h : Ev F te Γ (.dat (.tup ds))) (hn : ds.length = n) (hg : Tgs F gs ds Γ Γ') (hst : Stt F Γ T σ H) (q : ∀ σ' H', Stt F Γ' T σ' H' → D.nx σ' H') : tAsg te (gTup F.K n gs) D σ H :=
  h T σ H hst _ fun v H1 s1 _ => tg_tup hn hg T σ H1 v _ s1 q
def TgsW (F : Fx) (g : TGs) (ds : List Dt) (Γ Γ' : List Ent) (vs : List Nat) : Prop := ∀ T σ σ0 H xs (Q : L2.St → Hp → Prop), wipe σ vs = wipe σ0 vs → SttA F Γ T xs ds σ H → (∀ σ' H', wipe σ' vs = wipe σ0 vs → Stt F Γ' T σ' H' → Same H H' → Q σ' H') → g xs σ H Q
theorem tgsw_nil {vs : List Nat} : TgsW F gNil [] Γ Γ vs := fun T σ σ0 H xs Q e s q => by
  obtain ⟨B, O, r, sl, p, i⟩ := s
  unfold RpA at r
  exact ⟨r, q σ H e ⟨B, O, sl, p, i⟩ (Same.refl _)⟩
theorem tgsw_cons {n : Nat} {gs : TGs} {vs : List Nat} (hj : n < Γ.length) (ni : NI F n) (hv : n ∈ vs) (h : TgsW F gs ds (Γ.set n (some (.dat d))) Γ' vs) : TgsW F (gCons (gName n) gs) (d :: ds) Γ Γ' vs := fun T σ σ0 H xs Q e s q => by
  obtain ⟨v, r, rfl, s'⟩ := s.split
  exact ⟨v, r, rfl, h T _ σ0 H r Q ((wipe_set σ _ hv).trans e) (SttA.assign s' hj ni) q⟩
theorem tgw_tup {n : Nat} {gs : TGs} {vs : List Nat} (hn : ds.length = n) (h : TgsW F gs ds Γ Γ' vs) : TgW F (gTup F.K n gs) (.tup ds) Γ Γ' vs := fun T σ σ0 H x Q e s q => by
  obtain ⟨B, O1, O2, a, sl, c, p, i⟩ := s.top
  obtain ⟨r, rfl⟩ := a.rp
  unfold Rp at r
  obtain ⟨l, vs', rfl, hs, ra⟩ := r
  rw [emp_jn] at p
  exact ⟨l, vs', rfl, sqt_mono p.bh hs, by rw [ra.length, hn], h T σ σ0 H vs' Q e ⟨B, O2, ra, sl, p, i⟩ q⟩
theorem ev_globT {a : Addr} {xs : List V} (h : ∀ H, SqT F.K H a xs) (r : ∀ B, RpA F.K B ds xs) : Ev F (tC (.ref a)) Γ (.dat (.tup ds)) := fun T σ H s Q q => q _ H (s.push fun B _ => by
  unfold Rp
  exact ⟨a, xs, rfl, h B, r B⟩) (Same.refl _)
end
end Sm
namespace Sm
open PySem L2
theorem R.bind_ok {α : Type} (m : R α) : m.bind R.ok = m := by cases m <;> rfl
def R.and (a b : R Bool) : R Bool := a.bind fun x => match x with
  | true => b
  | false => .ok false
def R.or (a b : R Bool) : R Bool := a.bind fun x => match x with
  | true => .ok true
  | false => b
def gR (j : Int) : Prop := -(2 ^ 62) ≤ j ∧ j < 2 ^ 62
instance (j : Int) : Decidable (gR j) := by unfold gR; infer_instance
def R.not (a : R Bool) : R Bool := a.bind fun x => .ok (!x)
section
variable {F : Fx} {Γ Γ' Γe : List Ent} {T : List (V × Own)} {σ : L2.St} {H H' : Hp} {v : V} {Er : L2.St → Exn → Hp → Prop} {ρ α β γ S : Type} {W : R ρ → Prop} {D : Ends} {ta tb tc te : TE} {tt uu : TT} {i j : Int} {d e : Dt}
def MV (F : Fx) (Γe : List Ent) (Er : L2.St → Exn → Hp → Prop) (te : TE) (Γ : List Ent) (m : R α) (t : α → Own) : Prop :=
  ∀ (ρ : Type) (W : R ρ → Prop) (k : α → R ρ) T σ H, WOk F Γe Er W → W (m.bind k) → Stt F Γ T σ H → ∀ Q : VK, (∀ a v H', W (k a) → Stt F Γ ((v, t a) :: T) σ H' → Same H H' → Q v H') → te σ H Q
def MT (F : Fx) (Γe : List Ent) (Er : L2.St → Exn → Hp → Prop) (tt : TT) (Γ : List Ent) (m : R Bool) : Prop :=
  ∀ (ρ : Type) (W : R ρ → Prop) (k : Bool → R ρ) T σ H, WOk F Γe Er W → W (m.bind k) → Stt F Γ T σ H → ∀ Q : Bool → Hp → Prop, (∀ a H', W (k a) → Stt F Γ T σ H' → Same H H' → Q a H') → tt σ H Q
def MA (F : Fx) (Γe : List Ent) (Er : L2.St → Exn → Hp → Prop) (ta : TA) (Γ : List Ent) (m : R α) (ds : α → List Dt) : Prop :=
  ∀ (ρ : Type) (W : R ρ → Prop) (k : α → R ρ) T σ H, WOk F Γe Er W → W (m.bind k) → Stt F Γ T σ H → ∀ Q : List V → Hp → Prop, (∀ a vs H', W (k a) → SttA F Γ T vs (ds a) σ H' → Same H H' → Q vs H') → ta σ H Q
def OpM (F : Fx) (r : R2) (tx ty : Own) (m : R γ) (tz : γ → Own) : Prop :=
  ∀ (ρ : Type) (W : R ρ → Prop) (k : γ → R ρ) Γ T σ H x y, ¬ W .bad → W (m.bind k) → Stt F Γ ((y, ty) :: (x, tx) :: T) σ H → ∀ Q : VK, (∀ c z H', W (k c) → Stt F Γ ((z, tz c) :: T) σ H' → Same H H' → Q z H') → r x y H Q
theorem om_ok {r : R2} {tx ty : Own} {tz : γ → Own} {c : γ} (h : Op2 F r tx ty (tz c)) : OpM F r tx ty (.ok c) tz := fun _ W k Γ T σ H x y nb w s Q q => h Γ T σ H x y s Q fun z H' s' e => q c z H' w s' e
theorem om_guard {r : R2} {tx ty : Own} {tz : γ → Own} {p : Prop} [Decidable p] {m : R γ} (h : p → OpM F r tx ty m tz) : OpM F r tx ty (R.guard p m) tz := fun _ W k Γ T σ H x y nb w s Q q => by
  unfold R.guard at w
  by_cases c : p
  · rw [if_pos c] at w; exact h c _ W k Γ T σ H x y nb w s Q q
  · rw [if_neg c] at w; exact absurd w nb
theorem mv_ok {t : α → Own} {a : α} (h : Ev F te Γ (t a)) : MV F Γe Er te Γ (.ok a) t := fun _ W k T σ H ok w s Q q => h T σ H s Q fun v H' s' e => q a v H' w s' e
theorem mv_guard {t : α → Own} {p : Prop} [Decidable p] {m : R α} (h : p → MV F Γe Er te Γ m t) : MV F Γe Er te Γ (R.guard p m) t := fun _ W k T σ H ok w s Q q => by
  unfold R.guard at w
  by_cases c : p
  · rw [if_pos c] at w; exact h c _ W k T σ H ok w s Q q
  · rw [if_neg c] at w; exact absurd w ok.bad
theorem mv_op {r : R2} {tx : α → Own} {ty : α → β → Own} {tz : γ → Own} {m1 : R α} {m2 : α → R β} {m3 : α → β → R γ} (h1 : MV F Γe Er ta Γ m1 tx) (h2 : ∀ a, MV F Γe Er tb Γ (m2 a) (ty a)) (ho : ∀ a b, OpM F r (tx a) (ty a b) (m3 a b) tz) :
    MV F Γe Er (tOp r ta tb) Γ (m1.bind fun a => (m2 a).bind fun b => m3 a b) tz := fun _ W k T σ H ok w s Q q => by
  have w1 : W (m1.bind fun a => ((m2 a).bind fun b => m3 a b).bind k) := by rw [← R.bind_assoc]; exact w
  refine h1 _ W _ T σ H ok w1 s _ fun a x H1 w2 s1 e1 => ?_
  have w3 : W ((m2 a).bind fun b => (m3 a b).bind k) := by rw [← R.bind_assoc]; exact w2
  refine h2 a _ W _ _ σ H1 ok w3 s1 _ fun b y H2 w4 s2 e2 => ?_
  exact ho a b _ W k _ _ σ H2 x y ok.bad w4 s2 Q fun c z H3 w5 s3 e3 => q c z H3 w5 s3 ((e1.trans e2).trans e3)
theorem mv_un {r : V → Hp → VK → Prop} {tx : α → Own} {tz : β → Own} {m1 : R α} {f : α → β} (h1 : MV F Γe Er ta Γ m1 tx) (ho : ∀ a, Op1 F r (tx a) (tz (f a))) : MV F Γe Er (tUn r ta) Γ (m1.bind fun a => .ok (f a)) tz := fun _ W k T σ H ok w s Q q => by
  rw [R.bind_assoc] at w
  exact h1 _ W _ T σ H ok w s _ fun a x H1 w2 s1 e1 => ho a _ _ σ H1 x s1 Q fun z H3 s3 e3 => q (f a) z H3 w2 s3 (e1.trans e3)
theorem mv_map {t : α → Own} {u : β → Own} {m : R α} {f : α → β} (h : MV F Γe Er te Γ m t) (e : ∀ a, u (f a) = t a) : MV F Γe Er te Γ (m.bind fun a => .ok (f a)) u := fun _ W k T σ H ok w s Q q => by
  rw [R.bind_assoc] at w
  exact h _ W _ T σ H ok w s _ fun a x H1 w2 s1 e1 => q (f a) x H1 w2 (by rw [e a]; exact s1) e1
theorem mv_enc {t u : α → Own} {m : R α} (h : MV F Γe Er te Γ m t) (e : ∀ a, u a = t a) : MV F Γe Er te Γ m u := fun _ W k T σ H ok w s Q q =>
  h _ W _ T σ H ok w s _ fun a x H1 w2 s1 e1 => q a x H1 w2 (by rw [e a]; exact s1) e1
theorem mv_frz {ds : α → List Dt} {m : R α} (h : MV F Γe Er te Γ m fun a => .lst ((ds a).map Own.dat)) : MV F Γe Er te Γ m fun a => .dat (.lst (ds a)) := fun _ W k T σ H ok w s Q q =>
  h _ W k T σ H ok w s Q fun a v H' w' s' e => q a v H' w' s'.freeze e
theorem mv_if {t : α → Own} {mc : R Bool} {ma mb : R α} (h : MT F Γe Er tt Γ mc) (h1 : MV F Γe Er ta Γ ma t) (h2 : MV F Γe Er tb Γ mb t) : MV F Γe Er (tIf tt ta tb) Γ (mc.bind fun b => if b = true then ma else mb) t := fun _ W k T σ H ok w s Q q => by
  rw [R.bind_assoc] at w
  refine h _ W _ T σ H ok w s _ fun b H1 w1 s1 e1 => ?_
  cases b with
  | true => exact h1 _ W k T σ H1 ok w1 s1 Q fun a v H2 w2 s2 e2 => q a v H2 w2 s2 (e1.trans e2)
  | false => exact h2 _ W k T σ H1 ok w1 s1 Q fun a v H2 w2 s2 e2 => q a v H2 w2 s2 (e1.trans e2)
theorem ma_ok {tr : TA} {ds : α → List Dt} {a : α} (h : EvA F tr Γ (ds a)) : MA F Γe Er tr Γ (.ok a) ds := fun _ W k T σ H ok w s Q q => h T σ H s Q fun vs H' s' e => q a vs H' w s' e
theorem ma_guard {tr : TA} {ds : α → List Dt} {p : Prop} [Decidable p] {m : R α} (h : p → MA F Γe Er tr Γ m ds) : MA F Γe Er tr Γ (R.guard p m) ds := fun _ W k T σ H ok w s Q q => by
  unfold R.guard at w
  by_cases c : p
  · rw [if_pos c] at w; exact h c _ W k T σ H ok w s Q q
  · rw [if_neg c] at w; exact absurd w ok.bad
theorem ma_consP {tr : TA} {ds : α → List Dt} {m : R α} (h1 : Ev F te Γ (.dat d)) (h2 : MA F Γe Er tr Γ m ds) : MA F Γe Er (tCons te tr) Γ m (fun a => d :: ds a) := fun _ W k T σ H ok w s Q q =>
  h1 T σ H s _ fun v H1 s1 e1 => h2 _ W k _ σ H1 ok w s1 _ fun a vs H2 w2 s2 e2 => q a (v :: vs) H2 w2 s2.cons (e1.trans e2)
theorem ma_consM {tr : TA} {e1 : α → Dt} {ds : β → List Dt} {m1 : R α} {m2 : α → R β} (h1 : MV F Γe Er te Γ m1 fun a => .dat (e1 a)) (h2 : ∀ a, MA F Γe Er tr Γ (m2 a) ds) : MA F Γe Er (tCons te tr) Γ (m1.bind fun a => (m2 a).bind fun b => .ok (a, b)) (fun p => e1 p.1 :: ds p.2) := fun _ W k T σ H ok w s Q q => by
  rw [R.bind_assoc] at w
  refine h1 _ W _ T σ H ok w s _ fun a v H1 w1 s1 e1 => ?_
  rw [R.bind_assoc] at w1
  exact h2 a _ W _ _ σ H1 ok w1 s1 _ fun b vs H2 w2 s2 e2 => q (a, b) (v :: vs) H2 w2 s2.cons (e1.trans e2)
theorem ma_one {e1 : α → Dt} {m1 : R α} (h1 : MV F Γe Er te Γ m1 fun a => .dat (e1 a)) : MA F Γe Er (tCons te tNil) Γ m1 (fun a => [e1 a]) := fun _ W k T σ H ok w s Q q =>
  h1 _ W _ T σ H ok w s _ fun a v H1 w1 s1 e1 => q a [v] H1 w1 (SttA.nil s1).cons e1
theorem mv_tup {tr : TA} {ds : α → List Dt} {m : R α} (h : MA F Γe Er tr Γ m ds) (hl : ∀ a, (ds a).length ≤ 1000) : MV F Γe Er (tTup tr) Γ m fun a => .dat (.tup (ds a)) := fun _ W k T σ H ok w s Q q =>
  h _ W k T σ H ok w s _ fun a vs H1 w1 s1 e1 => by
    refine ⟨?_, fun p hp => q a _ _ w1 (SttA.tup s1 hp) (e1.trans (same_upd hp))⟩
    obtain ⟨B, O, r, _⟩ := s1
    rw [r.length]
    exact line_le (Nat.le_trans (hl a) (by decide))
theorem mv_lst {tr : TA} {ds : α → List Dt} {m : R α} (h : MA F Γe Er tr Γ m ds) (hl : ∀ a, (ds a).length ≤ 1000) : MV F Γe Er (tLst tr) Γ m fun a => .lst ((ds a).map Own.dat) := fun _ W k T σ H ok w s Q q =>
  h _ W k T σ H ok w s _ fun a vs H1 w1 s1 e1 => by
    refine ⟨?_, fun p hp => q a _ _ w1 (SttA.lst s1 hp) (e1.trans (same_upd hp))⟩
    obtain ⟨B, O, r, _⟩ := s1
    rw [r.length]
    exact line_le (Nat.le_trans (hl a) (by decide))
theorem call_goS {X : Type} {Ce : Exn → Addr} {n : Nat} {argT : X → List Dt} {m : X → R α} {res : α → Own} {k : α → R ρ} {vs : List V} {ds : List Dt} {Q : VK} {Ex : XK} (x : X)
    (hx : argT x = ds) (hn : ds.length = n) (A : SttA F Γ T vs ds σ H) (ok : WOk F Γe Er W) (hE : ∀ e H', Er σ e H' → ErrAt Ce Ex e H') (wk : Wk Γ Γe) (hw : W ((m x).bind k))
    (q : ∀ a v H', W (k a) → Stt F Γ ((v, res a) :: T) σ H' → Same H H' → Q v H') : spD F.K Ce n argT m res vs H Q Ex := by
  obtain ⟨B, O, r, s, p, i⟩ := A
  subst hx
  refine ⟨x, B, emp, by rw [List.length_map, hn], owa_dats r, p.bh, fun a o e => (nomatch e), dj_emp, ?_⟩
  have pe : Post F.B F.O F.H B (jn emp O) H := by rw [emp_jn]; exact p
  cases e : m x with
  | ok a =>
    rw [e] at hw
    intro v B' O' H' P oa
    unfold OwA at oa
    obtain ⟨v', r', O1, O2, e1, a1, b1, d1, rfl⟩ := oa
    cases e1
    unfold OwA at b1
    obtain ⟨_, rfl⟩ := b1
    rw [jn_emp] at P
    obtain ⟨dj', P'⟩ := pe.call emp_dj P
    exact q a v H' hw ⟨B', jn O1 O, slots_own a1 (s.mono P.b0) dj', P', i⟩ fun a o h => P.fr a o h rfl
  | err ex =>
    rw [e] at hw
    intro B' O' H' P oa
    unfold OwA at oa
    obtain ⟨_, rfl⟩ := oa
    obtain ⟨dj', P'⟩ := pe.call emp_dj P
    rw [emp_jn] at P'
    refine hE ex H' (ok.err ex hw σ H' ?_)
    exact (Stt.pops (T := T) ⟨B', O, s.mono P.b0, P', i⟩).weak wk
  | bad =>
    rw [e] at hw
    exact absurd hw ok.bad
theorem mv_call {X : Type} {Ce : Exn → Addr} {n : Nat} {argT : X → List Dt} {m : X → R α} {res : α → Own} {tr : TA} {ds : β → List Dt} {Ex : L2.St → XK} {mx : R β} (x : β → X)
    (ha : MA F Γe Er tr Γ mx ds) (hx : ∀ b, argT (x b) = ds b) (hn : ∀ b, (ds b).length = n) (hE : ∀ σ e H', Er σ e H' → ErrAt Ce (Ex σ) e H') (wk : Wk Γ Γe) :
    MV F Γe Er (tCallS (spD F.K Ce n argT m res) Ex tr) Γ (mx.bind fun b => m (x b)) res := fun _ W k T σ H ok w s Q q => by
  rw [R.bind_assoc] at w
  exact ha _ W _ T σ H ok w s _ fun b vs H1 w1 A e1 => call_goS (x b) (hx b) (hn b) A ok (hE σ) wk w1 fun a v H2 w2 s2 e2 => q a v H2 w2 s2 (e1.trans e2)
theorem mv_callP {X : Type} {Ce : Exn → Addr} {n : Nat} {argT : X → List Dt} {m : X → R α} {res : α → Own} {tr : TA} {ds : List Dt} {Ex : L2.St → XK} (x : X)
    (ha : EvA F tr Γ ds) (hx : argT x = ds) (hn : ds.length = n) (hE : ∀ σ e H', Er σ e H' → ErrAt Ce (Ex σ) e H') (wk : Wk Γ Γe) :
    MV F Γe Er (tCallS (spD F.K Ce n argT m res) Ex tr) Γ (m x) res := fun _ W k T σ H ok w s Q q =>
  ha T σ H s _ fun vs H1 A e1 => call_goS x hx hn A ok (hE σ) wk w fun a v H2 w2 s2 e2 => q a v H2 w2 s2 (e1.trans e2)
theorem mt_ok {b : Bool} (h : EvT F tt Γ b) : MT F Γe Er tt Γ (.ok b) := fun _ W k T σ H ok w s Q q => h T σ H s Q fun H' s' e => q b H' w s' e
theorem mt_guard {p : Prop} [Decidable p] {m : R Bool} (h : p → MT F Γe Er tt Γ m) : MT F Γe Er tt Γ (R.guard p m) := fun _ W k T σ H ok w s Q q => by
  unfold R.guard at w
  by_cases c : p
  · rw [if_pos c] at w; exact h c _ W k T σ H ok w s Q q
  · rw [if_neg c] at w; exact absurd w ok.bad
theorem mt_test {m : R Bool} (h : MV F Γe Er te Γ m fun b => .dat (.bl b)) : MT F Γe Er (tTest te) Γ m := fun _ W k T σ H ok w s Q q => h _ W k T σ H ok w s _ fun b v H' w' s' e => by
  obtain ⟨B, _, r⟩ := s'.topd
  exact ⟨b, rp_bl r, q b H' w' s'.pop e⟩
theorem mt_B {m : R Bool} (h : MV F Γe Er te Γ m fun b => .dat (.bl b)) : MT F Γe Er (tB te) Γ m := fun _ W k T σ H ok w s Q q => h _ W k T σ H ok w s _ fun b v H' w' s' e => by
  obtain ⟨B, _, r⟩ := s'.topd
  exact ⟨b, rp_bl r, q b H' w' s'.pop e⟩
theorem mt_not {m : R Bool} (h : MT F Γe Er tt Γ m) : MT F Γe Er (tNot tt) Γ (R.not m) := fun _ W k T σ H ok w s Q q => by
  unfold R.not at w
  rw [R.bind_assoc] at w
  exact h _ W _ T σ H ok w s _ fun b H' w' s' e => q (!b) H' w' s' e
theorem mt_and {m n : R Bool} (h1 : MT F Γe Er tt Γ m) (h2 : MT F Γe Er uu Γ n) : MT F Γe Er (tAnd tt uu) Γ (R.and m n) := fun _ W k T σ H ok w s Q q => by
  unfold R.and at w
  rw [R.bind_assoc] at w
  refine h1 _ W _ T σ H ok w s _ fun b H1 w1 s1 e1 => ?_
  cases b with
  | true =>
    show uu σ H1 Q
    exact h2 _ W k T σ H1 ok w1 s1 Q fun a H2 w2 s2 e2 => q a H2 w2 s2 (e1.trans e2)
  | false =>
    show Q false H1
    exact q false H1 w1 s1 e1
theorem mt_or {m n : R Bool} (h1 : MT F Γe Er tt Γ m) (h2 : MT F Γe Er uu Γ n) : MT F Γe Er (tOr tt uu) Γ (R.or m n) := fun _ W k T σ H ok w s Q q => by
  unfold R.or at w
  rw [R.bind_assoc] at w
  refine h1 _ W _ T σ H ok w s _ fun b H1 w1 s1 e1 => ?_
  cases b with
  | true =>
    show Q true H1
    exact q true H1 w1 s1 e1
  | false =>
    show uu σ H1 Q
    exact h2 _ W k T σ H1 ok w1 s1 Q fun a H2 w2 s2 e2 => q a H2 w2 s2 (e1.trans e2)
abbrev oB : Bool → Own := fun b => .dat (.bl b)
theorem mv_andV {m n : R Bool} (h1 : MV F Γe Er ta Γ m oB) (h2 : MV F Γe Er tb Γ n oB) : MV F Γe Er (tAndV ta tb) Γ (R.and m n) oB := fun _ W k T σ H ok w s Q q => by
  unfold R.and at w
  rw [R.bind_assoc] at w
  refine h1 _ W _ T σ H ok w s _ fun b v H1 w1 s1 e1 => ?_
  obtain ⟨B, _, r⟩ := s1.topd
  refine ⟨b, rp_bl r, ?_⟩
  cases b with
  | true =>
    show tb σ H1 Q
    exact h2 _ W k T σ H1 ok w1 s1.pop Q fun a v H2 w2 s2 e2 => q a v H2 w2 s2 (e1.trans e2)
  | false =>
    show Q (.bl false) H1
    exact q false _ H1 w1 (s1.pop.push fun _ _ => by unfold Rp; rfl) e1
theorem mv_orV {m n : R Bool} (h1 : MV F Γe Er ta Γ m oB) (h2 : MV F Γe Er tb Γ n oB) : MV F Γe Er (tOrV ta tb) Γ (R.or m n) oB := fun _ W k T σ H ok w s Q q => by
  unfold R.or at w
  rw [R.bind_assoc] at w
  refine h1 _ W _ T σ H ok w s _ fun b v H1 w1 s1 e1 => ?_
  obtain ⟨B, _, r⟩ := s1.topd
  refine ⟨b, rp_bl r, ?_⟩
  cases b with
  | true =>
    show Q (.bl true) H1
    exact q true _ H1 w1 (s1.pop.push fun _ _ => by unfold Rp; rfl) e1
  | false =>
    show tb σ H1 Q
    exact h2 _ W k T σ H1 ok w1 s1.pop Q fun a v H2 w2 s2 e2 => q a v H2 w2 s2 (e1.trans e2)
theorem mv_notV {m : R Bool} (h : MV F Γe Er ta Γ m oB) : MV F Γe Er (tNotV ta) Γ (R.not m) oB := fun _ W k T σ H ok w s Q q => by
  unfold R.not at w
  rw [R.bind_assoc] at w
  refine h _ W _ T σ H ok w s _ fun b v H1 w1 s1 e1 => ?_
  obtain ⟨B, _, r⟩ := s1.topd
  exact ⟨b, rp_bl r, q (!b) _ H1 w1 (s1.pop.push fun _ _ => by unfold Rp; rfl) e1⟩
theorem s_asgM {t : α → Own} {m : R α} {k : α → R ρ} {j : Nat} (hst : Stt F Γ T σ H) (hw : W (m.bind k)) (ok : WOk F Γe Er W) (h : MV F Γe Er te Γ m t) (hj : j < Γ.length) (ni : NI F j)
    (q : ∀ a σ' H', W (k a) → Stt F (Γ.set j (some (t a))) T σ' H' → D.nx σ' H') : tAsg te (gName j) D σ H :=
  h _ W k T σ H ok hw hst _ fun a v H1 w s1 _ => q a _ H1 w (s1.assign hj ni)
theorem s_asgTM {n : Nat} {gs : TGs} {ds : α → List Dt} {m : R α} {k : α → R ρ} {Γ' : α → List Ent} (hst : Stt F Γ T σ H) (hw : W (m.bind k)) (ok : WOk F Γe Er W) (h : MV F Γe Er te Γ m fun a => .dat (.tup (ds a))) (hn : ∀ a, (ds a).length = n) (hg : ∀ a, Tgs F gs (ds a) Γ (Γ' a))
    (q : ∀ a σ' H', W (k a) → Stt F (Γ' a) T σ' H' → D.nx σ' H') : tAsg te (gTup F.K n gs) D σ H :=
  h _ W k T σ H ok hw hst _ fun a v H1 w s1 _ => tg_tup (hn a) (hg a) T σ H1 v _ s1 fun σ' H' s' => q a σ' H' w s'
theorem s_retM {t : α → Own} {m : R α} {k : α → R ρ} (hst : Stt F Γ T σ H) (hw : W (m.bind k)) (ok : WOk F Γe Er W) (h : MV F Γe Er te Γ m t)
    (q : ∀ a v H', W (k a) → Stt F Γ ((v, t a) :: T) σ H' → D.rt v H') : tRet te D σ H :=
  h _ W k T σ H ok hw hst _ fun a v H1 w s1 _ => q a v H1 w s1
theorem s_dropM {t : α → Own} {m : R α} {k : α → R ρ} (hst : Stt F Γ T σ H) (hw : W (m.bind k)) (ok : WOk F Γe Er W) (h : MV F Γe Er te Γ m t)
    (q : ∀ a σ' H', W (k a) → Stt F Γ T σ' H' → D.nx σ' H') : tDrop te D σ H :=
  h _ W k T σ H ok hw hst _ fun a v H1 w s1 _ => q a σ H1 w s1.pop
theorem s_ifM {t1 t2 : TS} {m : R Bool} {A B : R ρ} (hst : Stt F Γ T σ H) (hw : W (m.bind fun b => if b = true then A else B)) (ok : WOk F Γe Er W) (h : MT F Γe Er tt Γ m)
    (q1 : ∀ H', W A → Stt F Γ T σ H' → t1 D σ H') (q2 : ∀ H', W B → Stt F Γ T σ H' → t2 D σ H') : tIfS tt t1 t2 D σ H :=
  h _ W _ T σ H ok hw hst _ fun b H1 w s1 _ => by
    cases b with
    | true => exact q1 H1 w s1
    | false => exact q2 H1 w s1
theorem s_ifJ {t1 t2 : TS} {m : R Bool} {A B : R S} {k : S → R ρ} {Γj : S → List Ent} (hst : Stt F Γ T σ H) (hw : W ((m.bind fun b => if b = true then A else B).bind k)) (ok : WOk F Γe Er W) (h : MT F Γe Er tt Γ m)
    (q1 : ∀ (W' : R S → Prop) (N : L2.St → Hp → Prop) H, WOk F Γe Er W' → W' A → Stt F Γ T σ H → (∀ s σ' H', W' (.ok s) → Stt F (Γj s) T σ' H' → N σ' H') → t1 { D with nx := N } σ H)
    (q2 : ∀ (W' : R S → Prop) (N : L2.St → Hp → Prop) H, WOk F Γe Er W' → W' B → Stt F Γ T σ H → (∀ s σ' H', W' (.ok s) → Stt F (Γj s) T σ' H' → N σ' H') → t2 { D with nx := N } σ H)
    (q : ∀ s σ' H', W (k s) → Stt F (Γj s) T σ' H' → D.nx σ' H') : tIfS tt t1 t2 D σ H := by
  rw [R.bind_assoc] at hw
  refine h _ W _ T σ H ok hw hst _ fun b H1 w s1 _ => ?_
  cases b with
  | true => exact q1 (fun m => W (m.bind k)) D.nx H1 (ok.bind k) w s1 q
  | false => exact q2 (fun m => W (m.bind k)) D.nx H1 (ok.bind k) w s1 q
theorem s_ifC {t1 t2 : TS} {m : R Bool} {A B : R (Ctl S β)} {k : Ctl S β → R ρ} {Γj : S → List Ent} (hst : Stt F Γ T σ H) (hw : W ((m.bind fun b => if b = true then A else B).bind k)) (ok : WOk F Γe Er W) (h : MT F Γe Er tt Γ m)
    (q1 : ∀ (W' : R (Ctl S β) → Prop) (N : L2.St → Hp → Prop) H, WOk F Γe Er W' → (∀ r, W' (.ok (.rt r)) → W (k (.rt r))) → W' A → Stt F Γ T σ H → (∀ s σ' H', W' (.ok (.nx s)) → Stt F (Γj s) T σ' H' → N σ' H') → t1 { D with nx := N } σ H)
    (q2 : ∀ (W' : R (Ctl S β) → Prop) (N : L2.St → Hp → Prop) H, WOk F Γe Er W' → (∀ r, W' (.ok (.rt r)) → W (k (.rt r))) → W' B → Stt F Γ T σ H → (∀ s σ' H', W' (.ok (.nx s)) → Stt F (Γj s) T σ' H' → N σ' H') → t2 { D with nx := N } σ H)
    (q : ∀ s σ' H', W (k (.nx s)) → Stt F (Γj s) T σ' H' → D.nx σ' H') : tIfS tt t1 t2 D σ H := by
  rw [R.bind_assoc] at hw
  refine h _ W _ T σ H ok hw hst _ fun b H1 w s1 _ => ?_
  cases b with
  | true => exact q1 (fun m => W (m.bind k)) D.nx H1 (ok.bind k) (fun r z => z) w s1 q
  | false => exact q2 (fun m => W (m.bind k)) D.nx H1 (ok.bind k) (fun r z => z) w s1 q
theorem s_appM {n : Nat} {ds : List Dt} {e : α → Dt} {m : R α} {k : α → R ρ} (hst : Stt F Γ T σ H) (hw : W (m.bind fun a => R.guard (ds.length < 16777216) (k a))) (ok : WOk F Γe Er W) (he : Γ[n]? = some (some (.lst (ds.map Own.dat)))) (h : MV F Γe Er te Γ m fun a => .dat (e a))
    (q : ∀ a σ' H', W (k a) → Stt F (Γ.set n (some (.lst ((ds ++ [e a]).map Own.dat)))) T σ' H' → D.nx σ' H') : tDrop (tBM F.K "list" rAppend (tVar n) (tCons te tNil)) D σ H := by
  have e' : (T.map (fun p => some p.2) ++ Γ)[T.length + n]? = some (some (.lst (ds.map Own.dat))) := by
    rw [List.getElem?_append_right (by simp)]
    simpa using he
  obtain ⟨B, O, s1, p, i⟩ := id hst
  obtain ⟨v, O1, O2, e1, a, dj, rfl, _⟩ := s1.at e'
  unfold Ow at a
  obtain ⟨l, vs, O', rfl, oa, n', rfl⟩ := a
  rw [List.getElem?_append_right (by simp)] at e1
  have e2 : σ[n]? = some (some (V.ref l)) := by simpa using e1
  refine ⟨.ref l, e2, .inl ⟨rfl, _, SqL.of (p.oh l _ (jn_some upd_same))⟩, ?_⟩
  refine h _ W _ T σ H ok hw hst _ fun a u H1 w s2 e3 => ?_
  obtain ⟨hl, w⟩ := R.guard_ok ok w
  obtain ⟨B2, Ou, Or, au, s3, dj3, p3, i3⟩ := s2.top
  obtain ⟨ru, rfl⟩ := au.rp
  rw [emp_jn] at p3
  obtain ⟨v', P1, P2, e1', a', dj', rfl, k', _⟩ := s3.at e'
  rw [List.getElem?_append_right (by simp)] at e1'
  have e2' : σ[n]? = some (some v') := by simpa using e1'
  rw [e2] at e2'
  cases e2'
  unfold Ow at a'
  obtain ⟨l', ws, Q', el, oa', n2, rfl⟩ := a'
  cases el
  obtain ⟨rw_, rfl⟩ := oa'.dats
  have hH : H1 l = some (.lst ws) := p3.oh l _ (jn_some upd_same)
  refine ⟨l, ws, u, rfl, rfl, hH, by rw [rw_.length]; exact line_lt hl, ?_⟩
  have z := k' B2 (.lst ((ds ++ [_]).map Own.dat)) (upd emp l (.lst (ws ++ [u]))) (.ref l) (Same.refl _) (by
    unfold Ow
    exact ⟨l, ws ++ [u], emp, rfl, owa_dats (rw_.append (RpA.one ru)), rfl, rfl⟩) (by
    have nl : P2 l = none := by
      rcases dj' l with x | x
      · rw [upd_same] at x; cases x
      · exact x
    exact Dj.upd emp_dj nl)
  rw [List.set_append_right _ _ (by simp), List.set_append_right _ _ (by simp)] at z
  have hs : σ.set (T.length + n - (T.map fun p => some p.1).length) (some (V.ref l)) = σ := by
    have en : T.length + n - (T.map fun (p : V × Own) => some p.1).length = n := by simp
    rw [en]
    apply List.ext_getElem?
    intro j
    by_cases hj : n = j
    · subst hj
      rw [e2, List.getElem?_set_self (List.getElem?_eq_some_iff.mp e2).1]
    · rw [List.getElem?_set_ne hj]
  rw [hs] at z
  have en : T.length + n - (T.map fun (p : V × Own) => some p.2).length = n := by simp
  rw [en] at z
  refine q a σ _ w ⟨B2, _, z, ?_, i3⟩
  have p4 := p3.mut (a := l) (o := .lst (ws ++ [u])) (jn_some upd_same)
  rw [upd_jn, upd_upd] at p4
  exact p4
def Sr (F : Fx) (Γe : List Ent) (Er : L2.St → Exn → Hp → Prop) (wi : L2.St → Hp → (It → Hp → Prop) → Prop) (Γ : List Ent) (m : R β) (xs : β → List α) (enc : α → Dt) : Prop :=
  ∀ (ρ : Type) (W : R ρ → Prop) (k : β → R ρ) T σ H, WOk F Γe Er W → W (m.bind k) → Stt F Γ T σ H → ∀ Ri : It → Hp → Prop,
    (∀ b T' J H', W (k b) → Stt F Γ (T' ++ T) σ H' → Same H H' → Wks F J (T' ++ T) ((xs b).map enc) → Ri J H') → wi σ H Ri
theorem sr_list {m : R β} {xs : β → List α} {enc : α → Dt} (h : MV F Γe Er te Γ m fun b => .dat (.lst ((xs b).map enc))) : Sr F Γe Er (iList F.K te) Γ m xs enc := fun _ W k T σ H ok w s Ri q =>
  h _ W k T σ H ok w s _ fun b v H1 w1 s1 e1 => by
    obtain ⟨B, eb, r⟩ := s1.topd
    unfold Rp at r
    obtain ⟨l, vs, rfl, hl, ra⟩ := r
    exact ⟨l, rfl, ⟨vs, SqL.of (eb _ _ hl)⟩, q b [_] _ H1 w1 s1 e1 wks_list⟩
theorem sr_tup {m : R β} {xs : β → List α} {enc : α → Dt} (h : MV F Γe Er te Γ m fun b => .dat (.tup ((xs b).map enc))) : Sr F Γe Er (iTup F.K te) Γ m xs enc := fun _ W k T σ H ok w s Ri q =>
  h _ W k T σ H ok w s _ fun b v H1 w1 s1 e1 => by
    obtain ⟨B, eb, r⟩ := s1.topd
    unfold Rp at r
    obtain ⟨l, vs, rfl, hl, ra⟩ := r
    exact ⟨l, rfl, ⟨vs, sqt_mono eb hl⟩, q b [_] _ H1 w1 s1 e1 wks_tup⟩
theorem sr_scr {m : R β} {xs : β → List Int} (h : MV F Γe Er te Γ m fun b => .dat (.scr (xs b))) : Sr F Γe Er (iList F.K te) Γ m xs Dt.int := fun _ W k T σ H ok w s Ri q =>
  h _ W k T σ H ok w s _ fun b v H1 w1 s1 e1 => by
    obtain ⟨B, eb, r⟩ := s1.topd
    unfold Rp at r
    obtain ⟨l, rfl, hl⟩ := r
    exact ⟨l, rfl, ⟨_, sql_mono eb hl⟩, q b [_] _ H1 w1 s1 e1 wks_scr⟩
theorem sr_str {m : R β} {z : β → Str} (h : MV F Γe Er te Γ m fun b => .dat (.str (z b))) : Sr F Γe Er (iStr te) Γ m (fun b => (z b).cps.toList) (fun c => .str (sgn c)) := fun _ W k T σ H ok w s Ri q =>
  h _ W k T σ H ok w s _ fun b v H1 w1 s1 e1 => by
    obtain ⟨B, eb, r⟩ := s1.topd
    refine ⟨z b, rp_str r, q b [] _ H1 w1 s1.pop e1 ?_⟩
    have := wks_str (F := F) (T := T) (z := z b)
    rw [List.map_map] at this
    exact this
theorem sr_rng1 {m : R Int} (h : MV F Γe Er te Γ m fun j => .dat (.int j)) : Sr F Γe Er (iRng1 (tCons te tNil)) Γ (m.bind fun j => R.guard (gR j) (.ok j)) (fun j => rng 0 j) Dt.int := fun _ W k T σ H ok w s Ri q => by
  rw [R.bind_assoc] at w
  refine h _ W _ T σ H ok w s _ fun j v H1 w1 s1 e1 => ?_
  obtain ⟨B, eb, r⟩ := s1.topd
  have w2 : W (R.guard (gR j) (k j)) := by
    unfold R.guard at w1 ⊢
    by_cases c : gR j
    · rw [if_pos c] at w1 ⊢; exact w1
    · rw [if_neg c] at w1; exact absurd w1 ok.bad
  obtain ⟨hb, w2⟩ := R.guard_ok ok w2
  refine ⟨j, by rw [rp_int r], hb.1, hb.2, q j [] _ H1 w2 s1.pop e1 ?_⟩
  have e : rng 0 j = (List.range j.toNat).map fun (i : Nat) => (0 : Int) + (i : Int) := by unfold rng; rw [Int.sub_zero]
  show Wks F (Itr 0 j.toNat) _ ((rng 0 j).map Dt.int)
  rw [e]
  exact wks_rng
theorem sr_rng2 {m : R (Int × Int)} (h : MA F Γe Er (tCons te (tCons tc tNil)) Γ m fun p => [.int p.1, .int p.2]) : Sr F Γe Er (iRng2 (tCons te (tCons tc tNil))) Γ (m.bind fun p => R.guard (gR p.1 ∧ gR p.2) (.ok p)) (fun p => rng p.1 p.2) Dt.int := fun _ W k T σ H ok w s Ri q => by
  rw [R.bind_assoc] at w
  refine h _ W _ T σ H ok w s _ fun j vs H1 w1 s1 e1 => ?_
  have w2 : W (R.guard (gR j.1 ∧ gR j.2) (k j)) := by
    unfold R.guard at w1 ⊢
    by_cases c : gR j.1 ∧ gR j.2
    · rw [if_pos c] at w1 ⊢; exact w1
    · rw [if_neg c] at w1; exact absurd w1 ok.bad
  obtain ⟨hb, w2⟩ := R.guard_ok ok w2
  obtain ⟨B, O, r, s2, p, ii⟩ := s1
  unfold RpA at r
  obtain ⟨v1, r1, rfl, h1, r⟩ := r
  unfold RpA at r
  obtain ⟨v2, r2, rfl, h2, r⟩ := r
  unfold RpA at r
  subst r
  refine ⟨j.1, j.2, by rw [rp_int h1, rp_int h2], ⟨hb.1.1, hb.1.2, hb.2.1, hb.2.2⟩, q j [] _ H1 w2 ⟨B, O, s2, p, ii⟩ e1 wks_rng⟩
theorem Stt.popn : ∀ {T' : List (V × Own)}, Stt F Γ (T' ++ T) σ H → Stt F Γ T σ H
  | [], h => h
  | _ :: T', h => Stt.popn (T' := T') (Stt.pop h)
theorem Slots.mid {K : PySem.W.Frag} {B : Hp} : ∀ {T' : List (V × Own)} {Γ : List Ent} {O : Hp} {σ : L2.St}, Slots K B (T'.map (fun p => some p.2) ++ Γ) O (T'.map (fun p => some p.1) ++ σ) → ∃ Od O', Dj Od O' ∧ O = jn Od O' ∧ Slots K B Γ O' σ
  | [], Γ, O, σ, h => ⟨emp, O, emp_dj, emp_jn.symm, h⟩
  | p :: T', Γ, O, σ, h => by
    rw [List.map_cons, List.map_cons, List.cons_append, List.cons_append] at h
    unfold Slots at h
    obtain ⟨v, r, O1, O2, e, a, b, c, rfl⟩ := h
    obtain ⟨_, rfl⟩ := List.cons.inj e
    obtain ⟨Od, O', d, rfl, s⟩ := Slots.mid b
    exact ⟨jn O1 Od, O', Dj.jnl (Dj.rr c) d, jn_assoc.symm, s⟩
theorem Stt.popm {T' : List (V × Own)} {t : Own} (h : Stt F Γ ((v, t) :: (T' ++ T)) σ H) : Stt F Γ ((v, t) :: T) σ H := by
  obtain ⟨B, O1, O2, a, s, d, p, i⟩ := h.top
  rw [List.map_append, List.map_append, List.append_assoc, List.append_assoc] at s
  obtain ⟨Od, O', d2, rfl, s'⟩ := s.mid
  refine ⟨B, jn O1 O', slots_own a s' d.rr, ?_, i⟩
  rw [jn_swap d.rl] at p
  exact p.dropL (Dj.jnr d.rl.symm d2)
theorem mv_lc {Γx : List Ent} {wi : L2.St → Hp → (It → Hp → Prop) → Prop} {g : TG} {vs : List Nat} {m : R γ} {xs : γ → List α} {enc : α → Dt} {encB : β → Dt} {f : γ → α → R β} {Γb : γ → α → List Ent}
    (hs : Sr F Γe Er wi Γ m xs enc) (hn : NoneAt F Γ vs) (tg : ∀ c x, TgW F g (enc x) Γ (Γb c x) vs) (wkb : ∀ c x, Wk (Γb c x) Γ)
    (body : ∀ c x, MV F Γx (fun _ _ _ => False) te (Γb c x) (f c x) fun y => .dat (encB y)) :
    MV F Γe Er (tLc wi g tYes te vs) Γ (m.bind fun c => R.guard ((xs c).length ≤ 16777216) (mapR (f c) (xs c))) (fun ys => .lst ((ys.map encB).map Own.dat)) := fun _ W k T σ H ok w s Q q => by
  rw [R.bind_assoc] at w
  refine hs _ W _ T σ H ok w s _ fun c T' J H1 w1 s1 e1 wk => ?_
  have w2 : W (R.guard ((xs c).length ≤ 16777216) ((mapR (f c) (xs c)).bind k)) := by
    unfold R.guard at w1 ⊢
    by_cases z : (xs c).length ≤ 16777216
    · rw [if_pos z] at w1 ⊢; exact w1
    · rw [if_neg z] at w1; exact absurd w1 ok.bad
  obtain ⟨hl, w2⟩ := R.guard_ok ok w2
  exact lc_go wk hn (tg c) (wkb c) hl s1 ok w2 (fun x T2 W' σ' H' Qe ok' w' st' q' => body c x _ W' R.ok T2 σ' H' ok' (by rw [R.bind_ok]; exact w') st' Qe q') fun ys v H' w3 s3 e3 => q ys v H' w3 s3.popm (e1.trans e3)
theorem mv_lcf {Γx : List Ent} {wi : L2.St → Hp → (It → Hp → Prop) → Prop} {g : TG} {vs : List Nat} {m : R γ} {xs : γ → List α} {enc : α → Dt} {encB : β → Dt} {fc : γ → α → R Bool} {f : γ → α → R β} {Γb : γ → α → List Ent}
    (hs : Sr F Γe Er wi Γ m xs enc) (hn : NoneAt F Γ vs) (tg : ∀ c x, TgW F g (enc x) Γ (Γb c x) vs) (wkb : ∀ c x, Wk (Γb c x) Γ) (test : ∀ c x, MT F Γx (fun _ _ _ => False) tt (Γb c x) (fc c x))
    (body : ∀ c x, MV F Γx (fun _ _ _ => False) te (Γb c x) (f c x) fun y => .dat (encB y)) :
    MV F Γe Er (tLc wi g tt te vs) Γ (m.bind fun c => R.guard ((xs c).length ≤ 16777216) (filR (fun x => (fc c x).bind fun b => if b = true then (f c x).bind fun y => .ok (some y) else .ok none) (xs c))) (fun ys => .lst ((ys.map encB).map Own.dat)) := fun _ W k T σ H ok w s Q q => by
  rw [R.bind_assoc] at w
  refine hs _ W _ T σ H ok w s _ fun c T' J H1 w1 s1 e1 wk => ?_
  have w2 : W (R.guard ((xs c).length ≤ 16777216) ((filR (fun x => (fc c x).bind fun b => if b = true then (f c x).bind fun y => .ok (some y) else .ok none) (xs c)).bind k)) := by
    unfold R.guard at w1 ⊢
    by_cases z : (xs c).length ≤ 16777216
    · rw [if_pos z] at w1 ⊢; exact w1
    · rw [if_neg z] at w1; exact absurd w1 ok.bad
  obtain ⟨hl, w2⟩ := R.guard_ok ok w2
  refine lcf_go (Γx := Γx) wk hn (tg c) (wkb c) hl s1 ok w2 (fun x T2 W' σ' H' Qe Qn ok' w' st' q' qn => ?_) fun ys v H' w3 s3 e3 => q ys v H' w3 s3.popm (e1.trans e3)
  refine test c x _ W' _ T2 σ' H' ok' w' st' _ fun b H2 w4 s4 e4 => ?_
  cases b with
  | true => exact body c x _ W' _ T2 σ' H2 ok' w4 s4 _ fun y v H3 w5 s5 e5 => q' y v H3 w5 s5 (e4.trans e5)
  | false => exact qn H2 w4 s4 e4
theorem wkN : ∀ {n : Nat} {Γ : List Ent}, Γ.length = n → Wk Γ (List.replicate n none)
  | 0, [], _ => .nil
  | n + 1, _ :: Γ, h => .drop (wkN (Nat.succ.inj h))
theorem s_retF {t : α → Own} {m : R α} {W : R α → Prop} (hst : Stt F Γ T σ H) (hw : W m) (ok : WOk F Γe Er W) (h : MV F Γe Er te Γ m t)
    (q : ∀ a v H', W (.ok a) → Stt F Γ ((v, t a) :: T) σ H' → D.rt v H') : tRet te D σ H :=
  h _ W R.ok T σ H ok (by rw [R.bind_ok]; exact hw) hst _ fun a v H1 w s1 _ => q a v H1 w s1
theorem s_foldM {wi : L2.St → Hp → (It → Hp → Prop) → Prop} {g : TG} {tb : TS} {m : R γ} {xs : γ → List α} {enc : α → Dt} {f : γ → α → S → R S} {k : S → R ρ} {Γs : S → List Ent} {Γb : γ → α → S → List Ent} {s0 : S}
    (hst : Stt F Γ T σ H) (hw : W ((m.bind fun c => foldR (f c) (xs c) s0).bind k)) (ok : WOk F Γe Er W) (hs : Sr F Γe Er wi Γ m xs enc) (wk0 : Wk Γ (Γs s0)) (tg : ∀ c x s, Tg F g (enc x) (Γs s) (Γb c x s))
    (body : ∀ c x s (W' : R S → Prop) (N : L2.St → Hp → Prop) T σ H, WOk F Γe Er W' → W' (f c x s) → Stt F (Γb c x s) T σ H → (∀ s' σ' H', W' (.ok s') → Stt F (Γs s') T σ' H' → N σ' H') → tb { D with nx := N, ct := N, bk := D.nx } σ H)
    (q : ∀ s σ H, W (k s) → Stt F (Γs s) T σ H → D.nx σ H) : tFor wi g tb D σ H := by
  rw [R.bind_assoc] at hw
  refine hs _ W _ T σ H ok hw hst _ fun c T' J H1 w1 s1 e1 wk => ?_
  exact s_fold wk (tg c) (s1.weak wk0) ok w1 (fun x s W' N σ H ok' w' st' q' => body c x s W' N _ σ H ok' w' st' q') fun s σ H w2 st => q s σ H w2 st.popn
theorem s_forM {wi : L2.St → Hp → (It → Hp → Prop) → Prop} {g : TG} {tb : TS} {m : R γ} {xs : γ → List α} {enc : α → Dt} {f : γ → α → S → R (Ctl S β)} {k : Ctl S β → R ρ} {Γs : S → List Ent} {Γb : γ → α → S → List Ent} {s0 : S}
    (hst : Stt F Γ T σ H) (hw : W ((m.bind fun c => forR (f c) (xs c) s0).bind k)) (ok : WOk F Γe Er W) (hs : Sr F Γe Er wi Γ m xs enc) (wk0 : Wk Γ (Γs s0)) (tg : ∀ c x s, Tg F g (enc x) (Γs s) (Γb c x s))
    (body : ∀ c x s (W' : R (Ctl S β) → Prop) (N Bk : L2.St → Hp → Prop) T σ H, WOk F Γe Er W' → (∀ r, W' (.ok (.rt r)) → W (k (.rt r))) → W' (f c x s) → Stt F (Γb c x s) T σ H → (∀ s' σ' H', W' (.ok (.nx s')) → Stt F (Γs s') T σ' H' → N σ' H') →
      (∀ s' σ' H', W' (.ok (.bk s')) → Stt F (Γs s') T σ' H' → Bk σ' H') → tb { D with nx := N, ct := N, bk := Bk } σ H)
    (q : ∀ s σ H, W (k (.nx s)) → Stt F (Γs s) T σ H → D.nx σ H) : tFor wi g tb D σ H := by
  rw [R.bind_assoc] at hw
  refine hs _ W _ T σ H ok hw hst _ fun c T' J H1 w1 s1 e1 wk => ?_
  exact s_for wk (tg c) (s1.weak wk0) ok w1 (fun x s W' N Bk σ H ok' r' w' st' q1 q2 => body c x s W' N Bk _ σ H ok' r' w' st' q1 q2) fun s σ H w2 st => q s σ H w2 st.popn
theorem s_whileM {tc : TT} {tb : TS} {c : S → R Bool} {f : S → R (Ctl S β)} {n : Nat} {k : Ctl S β → R ρ} {Γs : S → List Ent} {s0 : S}
    (hst : Stt F Γ T σ H) (hw : W ((whileR c f n s0).bind k)) (ok : WOk F Γe Er W) (wk0 : Wk Γ (Γs s0))
    (cond : ∀ s, MT F Γe Er tc (Γs s) (c s))
    (body : ∀ s (W' : R (Ctl S β) → Prop) (N Bk : L2.St → Hp → Prop) σ H, WOk F Γe Er W' → (∀ r, W' (.ok (.rt r)) → W (k (.rt r))) → W' (f s) → Stt F (Γs s) T σ H → (∀ s' σ' H', W' (.ok (.nx s')) → Stt F (Γs s') T σ' H' → N σ' H') →
      (∀ s' σ' H', W' (.ok (.bk s')) → Stt F (Γs s') T σ' H' → Bk σ' H') → tb { D with nx := N, ct := N, bk := Bk } σ H)
    (q : ∀ s σ H, W (k (.nx s)) → Stt F (Γs s) T σ H → D.nx σ H) : tWhile tc tb D σ H :=
  s_while (hst.weak wk0) ok hw (fun s W' σ H Q ok' w' st' q' => cond s _ W' R.ok T σ H ok' (by rw [R.bind_ok]; exact w') st' Q fun b H' w2 s2 _ => q' b H' w2 s2) body q
end
end Sm
namespace Sm
open PySem L2
def Sx (l : List Nat) : Str := ⟨l.toArray⟩
abbrev lt (x : Str) : List Nat := x.cps.toList
theorem Sx_lt (x : Str) : Sx (lt x) = x := by cases x; simp [Sx, lt]
theorem Sx_cps (l : List Nat) : (Sx l).cps.toList = l := rfl
theorem Sx_len (l : List Nat) : (Sx l).length = l.length := by simp [Sx, Str.length]
theorem Sx_cat (a b : List Nat) : Sx a ++ Sx b = Sx (a ++ b) := by
  show Str.append _ _ = _
  unfold Str.append Sx
  simp
theorem Sx_inj {a b : List Nat} : Sx a = Sx b ↔ a = b := ⟨fun h => by have := congrArg (fun x : Str => x.cps.toList) h; simpa [Sx] using this, fun h => h ▸ rfl⟩
theorem Sx_cut (l : List Nat) (lo hi : Option Int) : cutS (Sx l) lo hi = Sx (cutL l lo hi) := by
  unfold cutS cutL
  rw [Sx_len]
  rfl
abbrev eI : Int → Dt := Dt.int
abbrev eB : Bool → Dt := Dt.bl
abbrev eS (l : List Nat) : Dt := Dt.str (Sx l)
abbrev eC (c : Nat) : Dt := Dt.str (Sx [c])
abbrev eN (_ : Unit) : Dt := Dt.non
abbrev eX (ns : List Int) : Dt := Dt.scr ns
abbrev eL {α : Type} (e : α → Dt) (xs : List α) : Dt := Dt.lst (xs.map e)
abbrev eU {α : Type} (e : α → Dt) (xs : List α) : Dt := Dt.tup (xs.map e)
abbrev e1 {α : Type} (a : α → Dt) (p : α) : Dt := Dt.tup [a p]
abbrev e2 {α β : Type} (a : α → Dt) (b : β → Dt) (p : α × β) : Dt := Dt.tup [a p.1, b p.2]
abbrev e3 {α β γ : Type} (a : α → Dt) (b : β → Dt) (c : γ → Dt) (p : α × β × γ) : Dt := Dt.tup [a p.1, b p.2.1, c p.2.2]
abbrev e4 {α β γ δ : Type} (a : α → Dt) (b : β → Dt) (c : γ → Dt) (d : δ → Dt) (p : α × β × γ × δ) : Dt := Dt.tup [a p.1, b p.2.1, c p.2.2.1, d p.2.2.2]
abbrev e5 {α β γ δ ε : Type} (a : α → Dt) (b : β → Dt) (c : γ → Dt) (d : δ → Dt) (e : ε → Dt) (p : α × β × γ × δ × ε) : Dt := Dt.tup [a p.1, b p.2.1, c p.2.2.1, d p.2.2.2.1, e p.2.2.2.2]
abbrev eO {α : Type} (e : α → Dt) : Option α → Dt
  | none => Dt.non
  | some a => e a
abbrev oD {α : Type} (e : α → Dt) (a : α) : Own := .dat (e a)
abbrev oL {α : Type} (e : α → Dt) (xs : List α) : Own := .lst ((xs.map e).map Own.dat)
def gS (l : List Nat) : Prop := l.length ≤ 16777216
instance (l : List Nat) : Decidable (gS l) := by unfold gS; infer_instance
def gL {α : Type} (l : List α) : Prop := l.length < 16777216
instance {α : Type} (l : List α) : Decidable (gL l) := by unfold gL; infer_instance
instance (i j : Int) : Decidable (CMulW i j) := by unfold CMulW; infer_instance
instance (i j : Int) : Decidable (CDivW i j) := by unfold CDivW; infer_instance
instance (i j : Int) : Decidable (CPow i j) := by unfold CPow; infer_instance
section
variable {F : Fx} {Γ Γ' Γe : List Ent} {T : List (V × Own)} {σ : L2.St} {H H' : Hp} {v : V} {Er : L2.St → Exn → Hp → Prop} {ρ α β γ S : Type} {W : R ρ → Prop} {D : Ends} {ta tb tc te : TE} {tt uu : TT} {i j : Int} {d e : Dt} {a b : List Nat} {c : Nat} {ds : List Dt}
theorem ev_lit {x : Str} : Ev F (tC (.str x)) Γ (.dat (eS (lt x))) := ev_is ev_str (by rw [eS, Sx_lt])
theorem ev_mulW (hc : CMulW i j) (h1 : Ev F ta Γ (.dat (.int i))) (h2 : Ev F tb Γ (.dat (.int j))) : Ev F (tOp (rI CMulW fun i j => .int (i * j)) ta tb) Γ (.dat (.int (i * j))) := ev_op h1 h2 (op2_I (g := fun i j => i * j) hc)
theorem ev_divW (hc : CDivW i j) (h1 : Ev F ta Γ (.dat (.int i))) (h2 : Ev F tb Γ (.dat (.int j))) : Ev F (tOp (rI CDivW fun i j => .int (i / j)) ta tb) Γ (.dat (.int (i / j))) := ev_op h1 h2 (op2_I (g := fun i j => i / j) hc)
theorem ev_catX (hb : gS (a ++ b)) (h1 : Ev F ta Γ (.dat (eS a))) (h2 : Ev F tb Γ (.dat (eS b))) :
    Ev F (tOp (fun x y H Q => ∃ i j, x = .str i ∧ y = .str j ∧ i.length + j.length ≤ sizeLine ∧ Q (.str (i ++ j)) H) ta tb) Γ (.dat (eS (a ++ b))) := by
  have := ev_catS (x := Sx a) (y := Sx b) (by rw [Sx_len, Sx_len]; unfold gS at hb; rw [List.length_append] at hb; exact hb) h1 h2
  rw [Sx_cat] at this
  exact this
theorem ev_eqX (h1 : Ev F ta Γ (.dat (eS a))) (h2 : Ev F tb Γ (.dat (eS b))) : Ev F (tOp rEq ta tb) Γ (.dat (.bl (decide (a = b)))) := by
  have := ev_eqS h1 h2
  simp only [Sx_inj] at this
  exact this
theorem ev_neX (h1 : Ev F ta Γ (.dat (eS a))) (h2 : Ev F tb Γ (.dat (eS b))) : Ev F (tOp rNe ta tb) Γ (.dat (.bl (!decide (a = b)))) := by
  have := ev_neS h1 h2
  simp only [Sx_inj] at this
  exact this
theorem ev_lenSx (hx : gS a) (h : Ev F te Γ (.dat (eS a))) : Ev F (tCB (fun xs H Q => ∃ z, xs = [.str z] ∧ z.length ≤ sizeLine ∧ Q (.int z.length) H) (tCons te tNil)) Γ (.dat (.int a.length)) := by
  have := ev_lenS (x := Sx a) (by rw [Sx_len]; exact hx) h
  rw [Sx_len] at this
  exact this
theorem ev_ixSx (hb : gS a ∧ inB a i) (h1 : Ev F ta Γ (.dat (eS a))) (h2 : Ev F tb Γ (.dat (.int i))) : Ev F (tOp rIxS ta tb) Γ (.dat (eC (getI a i))) :=
  ev_ixS (z := Sx a) ⟨by rw [Sx_len]; exact hb.1, hb.2⟩ h1 h2
variable {tl th : TO} {lo hi : Option Int}
theorem ev_slSx (hz : gS a) (h : Ev F te Γ (.dat (eS a))) (hl : EvO F tl Γ lo) (hh : EvO F th Γ hi) : Ev F (tSl rSlS te tl th) Γ (.dat (eS (cutL a lo hi))) := by
  have := ev_slS (z := Sx a) (by rw [Sx_len]; exact hz) h hl hh
  rw [Sx_cut] at this
  exact this
theorem ev_inX (h1 : Ev F ta Γ (.dat (eC c))) (h2 : Ev F tb Γ (.dat (eS a))) : Ev F (tOp (fun x y H Q => ∃ (c : Nat) (z : Str), x = .str ⟨#[c]⟩ ∧ y = .str z ∧ Q (.bl (decide (c ∈ z.cps.toList))) H) ta tb) Γ (.dat (.bl (decide (c ∈ a)))) := ev_inC (z := Sx a) h1 h2
theorem ev_ninX (h1 : Ev F ta Γ (.dat (eC c))) (h2 : Ev F tb Γ (.dat (eS a))) : Ev F (tOp (fun x y H Q => ∃ (c : Nat) (z : Str), x = .str ⟨#[c]⟩ ∧ y = .str z ∧ Q (.bl (!decide (c ∈ z.cps.toList))) H) ta tb) Γ (.dat (.bl (!decide (c ∈ a)))) := ev_ninC (z := Sx a) h1 h2
theorem map_eS (ns : List (List Nat)) : ns.map eS = (ns.map Sx).map Dt.str := by rw [List.map_map]; rfl
theorem mem_Sx {s : List Nat} {ns : List (List Nat)} : Sx s ∈ ns.map Sx ↔ s ∈ ns := by
  rw [List.mem_map]
  constructor
  · rintro ⟨x, h, e⟩
    rw [Sx_inj] at e
    exact e ▸ h
  · intro h
    exact ⟨s, h, rfl⟩
theorem ev_inTX {ns : List (List Nat)} (h1 : Ev F ta Γ (.dat (eS a))) (h2 : Ev F tb Γ (.dat (eU eS ns))) : Ev F (tOp (rIn F.K false) ta tb) Γ (.dat (.bl (decide (a ∈ ns)))) := by
  unfold eU at h2
  rw [map_eS] at h2
  have := ev_inTS (neg := false) h1 h2
  simp only [mem_Sx] at this
  exact this
theorem ev_ninTX {ns : List (List Nat)} (h1 : Ev F ta Γ (.dat (eS a))) (h2 : Ev F tb Γ (.dat (eU eS ns))) : Ev F (tOp (rIn F.K true) ta tb) Γ (.dat (.bl (!decide (a ∈ ns)))) := by
  unfold eU at h2
  rw [map_eS] at h2
  have := ev_inTS (neg := true) h1 h2
  simp only [mem_Sx] at this
  exact this
theorem ev_inLX {ns : List (List Nat)} (h1 : Ev F ta Γ (.dat (eS a))) (h2 : EvL F tb Γ (ns.map eS)) : Ev F (tOp (rIn F.K false) ta tb) Γ (.dat (.bl (decide (a ∈ ns)))) := by
  rw [map_eS] at h2
  have := ev_inLS (neg := false) h1 h2
  simp only [mem_Sx] at this
  exact this
theorem ev_ninLX {ns : List (List Nat)} (h1 : Ev F ta Γ (.dat (eS a))) (h2 : EvL F tb Γ (ns.map eS)) : Ev F (tOp (rIn F.K true) ta tb) Γ (.dat (.bl (!decide (a ∈ ns)))) := by
  rw [map_eS] at h2
  have := ev_inLS (neg := true) h1 h2
  simp only [mem_Sx] at this
  exact this
theorem ev_inT {ns : List Int} (h1 : Ev F ta Γ (.dat (.int i))) (h2 : Ev F tb Γ (.dat (eU eI ns))) : Ev F (tOp (rIn F.K false) ta tb) Γ (.dat (.bl (decide (i ∈ ns)))) := ev_inTI (neg := false) h1 h2
theorem ev_ninT {ns : List Int} (h1 : Ev F ta Γ (.dat (.int i))) (h2 : Ev F tb Γ (.dat (eU eI ns))) : Ev F (tOp (rIn F.K true) ta tb) Γ (.dat (.bl (!decide (i ∈ ns)))) := ev_inTI (neg := true) h1 h2
theorem ev_inL {ns : List Int} (h1 : Ev F ta Γ (.dat (.int i))) (h2 : EvL F tb Γ (ns.map eI)) : Ev F (tOp (rIn F.K false) ta tb) Γ (.dat (.bl (decide (i ∈ ns)))) := ev_inLI (neg := false) h1 h2
theorem ev_ninL {ns : List Int} (h1 : Ev F ta Γ (.dat (.int i))) (h2 : EvL F tb Γ (ns.map eI)) : Ev F (tOp (rIn F.K true) ta tb) Γ (.dat (.bl (!decide (i ∈ ns)))) := ev_inLI (neg := true) h1 h2
def upX (a : List Nat) : List Nat := lt (Txt.upper (Sx a))
theorem ev_upper (hb : a.length ≤ 5592405) (h : Ev F te Γ (.dat (eS a))) : Ev F (tM0 (fun x xs H Q => ∃ a, x = .str a ∧ xs = [] ∧ a.length ≤ 5592405 ∧ Q (.str (Txt.upper a)) H) te) Γ (.dat (eS (upX a))) := fun T σ H s Q q =>
  h T σ H s _ fun v H1 s1 e1 => by
    obtain ⟨B, _, r⟩ := s1.topd
    have r := rp_str r
    refine ⟨⟨_, r⟩, Sx a, r, rfl, by rw [Sx_len]; exact hb, ?_⟩
    refine q _ H1 (s1.pop.push fun _ _ => ?_) e1
    unfold Rp upX
    rw [Sx_lt]
def Dt.tyn : Dt → String
  | .non => "NoneType"
  | .bl _ => "bool"
  | .int _ => "int"
  | .str _ => "str"
  | .lst _ => "list"
  | .tup _ => "tuple"
  | .scr _ => "list"
  | .dk _ _ => "dict"
  | .dt _ _ => "dict"
theorem tyx_lst {K : PySem.W.Frag} {H : Hp} {a : Addr} {xs : List V} (h : SqL K H a xs) : TyX K H (.ref a) (.type "list") := by
  rcases h with (h | ⟨o, h⟩) | ⟨o, its, n, h, c, _⟩
  · exact .base (.lst h)
  · exact .base (.frz h)
  · exact .kList h c
theorem tyx_tup {K : PySem.W.Frag} {H : Hp} {a : Addr} {xs : List V} (h : SqT K H a xs) : TyX K H (.ref a) (.type "tuple") := by
  rcases h with (h | ⟨o, h⟩) | ⟨o, its, n, h, c, _⟩
  · exact .base (.tup h)
  · exact .fTuple h
  · exact .kTuple h c
theorem tyx_of {K : PySem.W.Frag} {B H : Hp} (s : Same B H) : ∀ {d : Dt} {v : V}, Rp K B d v → TyX K H v (.type d.tyn)
  | .non, v, h => by unfold Rp at h; subst h; exact .base .non
  | .bl b, v, h => by unfold Rp at h; subst h; exact .base (.bl b)
  | .int i, v, h => by unfold Rp at h; subst h; exact .base (.int i)
  | .str x, v, h => by unfold Rp at h; subst h; exact .base (.str x)
  | .lst xs, v, h => by
    unfold Rp at h
    obtain ⟨a, vs, rfl, h, _⟩ := h
    exact .base (.lst (s _ _ h))
  | .tup xs, v, h => by
    unfold Rp at h
    obtain ⟨a, vs, rfl, h, _⟩ := h
    exact tyx_tup (sqt_mono s h)
  | .scr ns, v, h => by
    unfold Rp at h
    obtain ⟨a, rfl, h⟩ := h
    exact tyx_lst (sql_mono s h)
  | .dk ks xs, v, h => by
    unfold Rp at h
    obtain ⟨a, vs, rfl, h, _⟩ := h
    exact .base (.dK (s _ _ h))
  | .dt ks xs, v, h => by
    unfold Rp at h
    obtain ⟨a, vs, rfl, h, _⟩ := h
    exact .base (.dT (s _ _ h))
theorem ev_isi {n : String} {r : Bool} (hk : kitB d.tyn n = some r) (h : Ev F ta Γ (.dat d)) : Ev F (tCB (rIsi F.K) (tCons ta (tCons (tC (.ty n)) tNil))) Γ (.dat (.bl r)) := fun T σ H s Q q =>
  h T σ H s _ fun v H1 s1 e1 => by
    obtain ⟨B, eb, rr⟩ := s1.topd
    exact ⟨v, .ty n, _, _, r, rfl, .ty n, tyx_of eb rr, kit_ty hk, q _ H1 (s1.pop.push fun _ _ => by unfold Rp; rfl) e1⟩
theorem ev_isiL {n : String} {r : Bool} (hk : kitB "list" n = some r) (h : EvL F ta Γ ds) : Ev F (tCB (rIsi F.K) (tCons ta (tCons (tC (.ty n)) tNil))) Γ (.dat (.bl r)) := fun T σ H s Q q =>
  h T σ H s _ fun l vs H1 hl s1 e1 => ⟨.ref l, .ty n, _, _, r, rfl, .ty n, .base (.lst hl), kit_ty hk, q _ H1 (s1.pop.push fun _ _ => by unfold Rp; rfl) e1⟩
theorem ev_isBl {x y : Bool} (h1 : Ev F ta Γ (.dat (.bl x))) (h2 : Ev F tb Γ (.dat (.bl y))) : Ev F (tOp (fun x y H Q => ∃ a b, x = .bl a ∧ y = .bl b ∧ Q (.bl (decide (a = b))) H) ta tb) Γ (.dat (.bl (decide (x = y)))) :=
  ev_op h1 h2 (op2_val _ (fun B => by unfold Rp; rfl) fun B H a b Q _ h1 h2 q => ⟨x, y, rp_bl h1, rp_bl h2, q⟩)
theorem ev_isnotBl {x y : Bool} (h1 : Ev F ta Γ (.dat (.bl x))) (h2 : Ev F tb Γ (.dat (.bl y))) : Ev F (tOp (fun x y H Q => ∃ a b, x = .bl a ∧ y = .bl b ∧ Q (.bl (!decide (a = b))) H) ta tb) Γ (.dat (.bl (!decide (x = y)))) :=
  ev_op h1 h2 (op2_val _ (fun B => by unfold Rp; rfl) fun B H a b Q _ h1 h2 q => ⟨x, y, rp_bl h1, rp_bl h2, q⟩)
end
end Sm
namespace Sm
open PySem L2
theorem passAtL {X : Cx} {σ : L2.St} : PassesAt (L2.CX X.prog X.w) X σ E0 := fun pins H s e s' I c => passL pins σ H s e s' I c
section
variable {F : Fx} {Γ Γ' Γe : List Ent} {T : List (V × Own)} {σ : L2.St} {H H' : Hp} {v : V} {Er : L2.St → Exn → Hp → Prop} {ρ α β γ S : Type} {W : R ρ → Prop} {D : Ends} {ta tb tc te : TE} {tt uu : TT} {i j : Int} {d e : Dt} {c : Bool}
theorem s_augI {n : Nat} {a : Int} {g : Int → Int → Int} {m : R Int} {k : Int → R ρ} (hst : Stt F Γ T σ H) (hw : W ((m.bind fun b => R.ok (g a b)).bind k)) (ok : WOk F Γe Er W) (he : Γ[n]? = some (some (.dat (.int a)))) (h : MV F Γe Er te Γ m (oD eI)) (hj : n < Γ.length) (ni : NI F n)
    (q : ∀ b σ' H', W (k b) → Stt F (Γ.set n (some (.dat (.int b)))) T σ' H' → D.nx σ' H') : tAug n te (ipI g) D σ H := by
  rw [R.bind_assoc] at hw
  obtain ⟨v, e1, s1⟩ := hst.dup he
  obtain ⟨B, _, r⟩ := s1.topd
  refine ⟨v, e1, h _ W _ T σ H ok hw hst _ fun b u H1 w s2 _ => ?_⟩
  obtain ⟨B', _, r'⟩ := s2.topd
  refine ⟨a, b, rp_int r, rp_int r', ?_⟩
  have s3 : Stt F Γ ((.int (g a b), .dat (.int (g a b))) :: T) σ H1 := s2.pop.push fun _ _ => by unfold Rp; rfl
  exact q (g a b) _ H1 w (s3.assign hj ni)
theorem ev_ifE {enc : α → Dt} {a b : α} (h : EvT F tt Γ c) (h1 : Ev F ta Γ (.dat (enc a))) (h2 : Ev F tb Γ (.dat (enc b))) : Ev F (tIf tt ta tb) Γ (.dat (enc (if c = true then a else b))) := by
  have := ev_if h h1 h2
  cases c <;> exact this
theorem ev_catL {enc : α → Dt} {xs ys : List α} (hb : (xs ++ ys).length ≤ 16777216) (h1 : EvL F ta Γ (xs.map enc)) (h2 : EvL F tb Γ (ys.map enc)) : Ev F (tOp rCat ta tb) Γ (oL enc (xs ++ ys)) := by
  have := ev_cat (by rw [List.length_map, List.length_map]; rw [List.length_append] at hb; exact hb) h1 h2
  rw [← List.map_append] at this
  exact this
theorem ev_slLE {enc : α → Dt} {xs : List α} {tl th : TO} {lo hi : Option Int} (h : EvL F te Γ (xs.map enc)) (hl : EvO F tl Γ lo) (hh : EvO F th Γ hi) : Ev F (tSl (rSlL F.K) te tl th) Γ (oL enc (cutL xs lo hi)) := by
  have := ev_slL h hl hh
  rw [cutL_map] at this
  exact this
theorem ev_lenLE {enc : α → Dt} {xs : List α} (h : EvL F te Γ (xs.map enc)) : Ev F (tCB (fun xs H Q => ∃ p ys, xs = [.ref p] ∧ (SqL F.K H p ys ∨ SqT F.K H p ys) ∧ Q (.int ys.length) H) (tCons te tNil)) Γ (.dat (.int xs.length)) := by
  have := ev_lenL h
  rw [List.length_map] at this
  exact this
theorem ev_lenUE {enc : α → Dt} {xs : List α} (h : Ev F te Γ (.dat (eU enc xs))) : Ev F (tCB (fun xs H Q => ∃ p ys, xs = [.ref p] ∧ (SqL F.K H p ys ∨ SqT F.K H p ys) ∧ Q (.int ys.length) H) (tCons te tNil)) Γ (.dat (.int xs.length)) := by
  have := ev_lenT h
  rw [List.length_map] at this
  exact this
theorem ev_listLE {enc : α → Dt} {xs : List α} (h : EvL F te Γ (xs.map enc)) : Ev F (tCB (fun xs H Q => ∃ p ys, xs = [.ref p] ∧ (SqL F.K H p ys ∨ SqT F.K H p ys) ∧ ∀ l, H l = none → Q (.ref l) (upd H l (.lst ys))) (tCons te tNil)) Γ (oL enc xs) := ev_listL h
theorem op2_eqI {i j : Int} : Op2 F rEq (.dat (.int i)) (.dat (.int j)) (.dat (.bl (decide (i = j)))) := op2_val _ (fun B => by unfold Rp; rfl) fun B H x y Q _ h1 h2 q => by
  rw [rp_int h1, rp_int h2]
  exact ⟨rfl, by rw [dec_int, Bool.beq_eq_decide_eq]; exact q⟩
theorem op2_neI {i j : Int} : Op2 F rNe (.dat (.int i)) (.dat (.int j)) (.dat (.bl (!decide (i = j)))) := op2_val _ (fun B => by unfold Rp; rfl) fun B H x y Q _ h1 h2 q => by
  rw [rp_int h1, rp_int h2]
  exact ⟨rfl, by rw [dec_int, Bool.beq_eq_decide_eq]; exact q⟩
theorem op2_eqB {i j : Bool} : Op2 F rEq (.dat (.bl i)) (.dat (.bl j)) (.dat (.bl (decide (i = j)))) := op2_val _ (fun B => by unfold Rp; rfl) fun B H x y Q _ h1 h2 q => by
  rw [rp_bl h1, rp_bl h2]
  exact ⟨rfl, by rw [dec_bl, Bool.beq_eq_decide_eq]; exact q⟩
theorem op2_neB {i j : Bool} : Op2 F rNe (.dat (.bl i)) (.dat (.bl j)) (.dat (.bl (!decide (i = j)))) := op2_val _ (fun B => by unfold Rp; rfl) fun B H x y Q _ h1 h2 q => by
  rw [rp_bl h1, rp_bl h2]
  exact ⟨rfl, by rw [dec_bl, Bool.beq_eq_decide_eq]; exact q⟩
theorem op2_eqX {a b : List Nat} : Op2 F rEq (.dat (eS a)) (.dat (eS b)) (.dat (.bl (decide (a = b)))) := op2_val _ (fun B => by unfold Rp; rfl) fun B H x y Q _ h1 h2 q => by
  rw [rp_str h1, rp_str h2]
  refine ⟨rfl, ?_⟩
  rw [dec_str, Bool.beq_eq_decide_eq]
  simp only [Sx_inj]
  exact q
theorem op2_neX {a b : List Nat} : Op2 F rNe (.dat (eS a)) (.dat (eS b)) (.dat (.bl (!decide (a = b)))) := op2_val _ (fun B => by unfold Rp; rfl) fun B H x y Q _ h1 h2 q => by
  rw [rp_str h1, rp_str h2]
  refine ⟨rfl, ?_⟩
  rw [dec_str, Bool.beq_eq_decide_eq]
  simp only [Sx_inj]
  exact q
theorem op2_catX {a b : List Nat} (hb : gS (a ++ b)) : Op2 F (fun x y H Q => ∃ i j, x = .str i ∧ y = .str j ∧ i.length + j.length ≤ sizeLine ∧ Q (.str (i ++ j)) H) (.dat (eS a)) (.dat (eS b)) (.dat (eS (a ++ b))) :=
  op2_val _ (fun B => by unfold Rp; rfl) fun B H x y Q _ h1 h2 q => ⟨Sx a, Sx b, rp_str h1, rp_str h2, by rw [Sx_len, Sx_len]; unfold gS at hb; rw [List.length_append] at hb; exact line_le hb, by rw [Sx_cat]; exact q⟩
theorem op2_ixSx {a : List Nat} (hb : gS a ∧ inB a i) : Op2 F rIxS (.dat (eS a)) (.dat (.int i)) (.dat (eC (getI a i))) :=
  op2_val _ (fun B => by unfold Rp; rfl) fun B H x y Q eb h1 h2 q => by
    refine ⟨Sx a, i, getI a i, rp_str h1, rp_int h2, by rw [Sx_len]; exact line_le hb.1, ?_, q⟩
    have hb' : inB (Sx a).cps.toList i := hb.2
    rw [atI_of hb', getI_get hb']
    rfl
theorem op2_ixL [Inhabited α] {enc : α → Dt} {xs : List α} (hb : inB xs i) : Op2 F (rIxL F.K) (.dat (eL enc xs)) (.dat (.int i)) (.dat (enc (getI xs i))) := fun Γ T σ H x y s Q q => by
  obtain ⟨B, O1, O2, a, b, c, p, ii⟩ := s.top
  rw [List.map_cons, List.map_cons] at b
  unfold Slots at b
  obtain ⟨w, r', P1, P2, e, a2, b2, c2, rfl⟩ := b
  cases e
  obtain ⟨r1, rfl⟩ := a.rp
  obtain ⟨r2, rfl⟩ := a2.rp
  unfold Rp at r2
  obtain ⟨a', vs, rfl, hs, ra⟩ := r2
  have hl' : vs.length = xs.length := by rw [ra.length, List.length_map]
  have hb' : inB vs i := by unfold inB at hb ⊢; rw [hl']; exact hb
  have ix : ixI vs i = ixI xs i := by unfold ixI; rw [hl']
  have hg : (xs.map enc)[ixI xs i]? = some (enc (getI xs i)) := by rw [List.getElem?_map, getI_get hb]; rfl
  obtain ⟨u, e', ru⟩ := ra.get hg
  rw [← ix] at e'
  refine ⟨a', vs, i, u, rfl, rp_int r1, SqL.of (p.bh _ _ hs), by rw [atI_of hb', e'], q u H ⟨B, _, slots_own (ow_dat ru) b2 emp_dj, ?_, ii⟩ (Same.refl _)⟩
  rw [emp_jn, emp_jn] at p
  rw [emp_jn]
  exact p
end
def tbs (K : PySem.W.Frag) (tb : List (PySem.W.Frag → Bool)) : Bool := tb.all fun q => q K
abbrev AlT : Type := He.AlD × Bool
def obsT (fa : List He.Fa) (fn : List He.DefD) (tb : List (PySem.W.Frag → Bool)) (K : PySem.W.Frag) : AlT := (He.obsD fa fn K, tbs K tb)
def valT (fn : List He.DefD) : AlT := (He.valD fn, true)
def obsTG (n : Nat) (fa : List He.Fa) (fn : List He.DefD) (tb : List (PySem.W.Frag → Bool)) (g : Addr → Option Obj) : AlT := obsT fa fn tb (He.frG g (He.asD g n))
def hookT (n : Nat) (fa : List He.Fa) (fn : List He.DefD) (tb : List (PySem.W.Frag → Bool)) : PySem.W.Hook where
  α := AlT
  obs := fun s => obsTG n fa fn tb s.heap.get?
  val := fun _ => valT fn
  says := fun _ h => ∃ K : PySem.W.Frag, K.In h ∧ obsT fa fn tb K = valT fn
  of := fun _ _ e => ⟨_, He.frG_in, e⟩
  keeps := fun _ _ _ ⟨K, hK, c⟩ k => ⟨K, PySem.W.Frag.In.keeps hK k, c⟩
theorem obsTG_eq {n : Nat} {fa : List He.Fa} {fn : List He.DefD} {tb : List (PySem.W.Frag → Bool)} {g : Addr → Option Obj} {s : Shared} (h : ∀ a, g a = s.heap.get? a) : obsTG n fa fn tb g = (hookT n fa fn tb).obs s := by
  have e : g = s.heap.get? := funext h
  rw [e] <;> rfl
section
variable {fa : List He.Fa} {fn : List He.DefD} {tb : List (PySem.W.Frag → Bool)} {K : PySem.W.Frag}
theorem saysT (c : obsT fa fn tb K = valT fn) : He.SaysD fa fn K := congrArg (fun z : AlT => z.1) c
theorem tabT (c : obsT fa fn tb K = valT fn) (i : Nat) {q : PySem.W.Frag → Bool} (h : tb[i]? = some q := by rfl) : q K = true := by
  have c1 : tbs K tb = true := congrArg (fun z : AlT => z.2) c
  unfold tbs at c1
  exact List.all_eq_true.mp c1 q (List.mem_of_getElem? h)
end
end Sm
namespace Sm
open PySem L2
def R.sp2 {α β ρ : Type} (k : α → β → R ρ) (y : α × β) : R ρ := k y.1 y.2
def R.sp3 {α β γ ρ : Type} (k : α → β → γ → R ρ) (y : α × β × γ) : R ρ := k y.1 y.2.1 y.2.2
def R.sp4 {α β γ δ ρ : Type} (k : α → β → γ → δ → R ρ) (y : α × β × γ × δ) : R ρ := k y.1 y.2.1 y.2.2.1 y.2.2.2
def absI (i : Int) : Int := if i < 0 then -i else i
section
variable {F : Fx} {Γ Γ' Γe : List Ent} {T : List (V × Own)} {σ : L2.St} {H H' : Hp} {v : V} {Er : L2.St → Exn → Hp → Prop} {ρ α β γ δ S : Type} {W : R ρ → Prop} {D : Ends} {ta tb tc te : TE} {tt uu : TT} {i j : Int} {d e : Dt} {c : Bool}
theorem sr_strX {m : R β} {z : β → List Nat} (h : MV F Γe Er te Γ m fun b => .dat (eS (z b))) : Sr F Γe Er (iStr te) Γ m z eC := sr_str (z := fun b => Sx (z b)) h
theorem s_retN' (hst : Stt F Γ T σ H) (q : ∀ H', Stt F Γ ((.non, .dat .non) :: T) σ H' → D.rt .non H') : tRetN D σ H := q H (hst.push fun _ _ => by unfold Rp; rfl)
theorem s_appE {n : Nat} {enc : α → Dt} {xs : List α} {m : R α} {k : List α → R ρ} (hst : Stt F Γ T σ H) (hw : W (m.bind fun a => R.guard (gL xs) ((R.ok (xs ++ [a])).bind k))) (ok : WOk F Γe Er W) (he : Γ[n]? = some (some (oL enc xs))) (h : MV F Γe Er te Γ m (oD enc))
    (q : ∀ ys σ' H', W (k ys) → Stt F (Γ.set n (some (oL enc ys))) T σ' H' → D.nx σ' H') : tDrop (tBM F.K "list" rAppend (tVar n) (tCons te tNil)) D σ H := by
  refine s_appM (ds := xs.map enc) (e := enc) (k := fun a => k (xs ++ [a])) hst (by
    have e : (fun a => R.guard ((xs.map enc).length < 16777216) (k (xs ++ [a]))) = fun a => R.guard (gL xs) ((R.ok (xs ++ [a])).bind k) := by
      funext a
      unfold R.guard gL
      rw [List.length_map]
      rfl
    rw [e]
    exact hw) ok he h fun a σ' H' w s => q (xs ++ [a]) σ' H' w ?_
  have e : (xs ++ [a]).map enc = xs.map enc ++ [enc a] := by rw [List.map_append]; rfl
  unfold oL
  rw [e]
  exact s
theorem s_asgT2 {n : Nat} {gs : TGs} {ds : α × β → List Dt} {m : R (α × β)} {k : α → β → R ρ} {Γ' : α × β → List Ent} (hst : Stt F Γ T σ H) (hw : W (m.bind (R.sp2 k))) (ok : WOk F Γe Er W) (h : MV F Γe Er te Γ m fun a => .dat (.tup (ds a))) (hn : ∀ a, (ds a).length = n) (hg : ∀ a, Tgs F gs (ds a) Γ (Γ' a))
    (q : ∀ a b σ' H', W (k a b) → Stt F (Γ' (a, b)) T σ' H' → D.nx σ' H') : tAsg te (gTup F.K n gs) D σ H :=
  s_asgTM hst hw ok h hn hg fun a σ' H' w s => q a.1 a.2 σ' H' w s
theorem s_asgT3 {n : Nat} {gs : TGs} {ds : α × β × γ → List Dt} {m : R (α × β × γ)} {k : α → β → γ → R ρ} {Γ' : α × β × γ → List Ent} (hst : Stt F Γ T σ H) (hw : W (m.bind (R.sp3 k))) (ok : WOk F Γe Er W) (h : MV F Γe Er te Γ m fun a => .dat (.tup (ds a))) (hn : ∀ a, (ds a).length = n) (hg : ∀ a, Tgs F gs (ds a) Γ (Γ' a))
    (q : ∀ a b c σ' H', W (k a b c) → Stt F (Γ' (a, b, c)) T σ' H' → D.nx σ' H') : tAsg te (gTup F.K n gs) D σ H :=
  s_asgTM hst hw ok h hn hg fun a σ' H' w s => q a.1 a.2.1 a.2.2 σ' H' w s
theorem s_asgT4 {n : Nat} {gs : TGs} {ds : α × β × γ × δ → List Dt} {m : R (α × β × γ × δ)} {k : α → β → γ → δ → R ρ} {Γ' : α × β × γ × δ → List Ent} (hst : Stt F Γ T σ H) (hw : W (m.bind (R.sp4 k))) (ok : WOk F Γe Er W) (h : MV F Γe Er te Γ m fun a => .dat (.tup (ds a))) (hn : ∀ a, (ds a).length = n) (hg : ∀ a, Tgs F gs (ds a) Γ (Γ' a))
    (q : ∀ a b c d σ' H', W (k a b c d) → Stt F (Γ' (a, b, c, d)) T σ' H' → D.nx σ' H') : tAsg te (gTup F.K n gs) D σ H :=
  s_asgTM hst hw ok h hn hg fun a σ' H' w s => q a.1 a.2.1 a.2.2.1 a.2.2.2 σ' H' w s
theorem ev_abs (h : Ev F te Γ (.dat (.int i))) : Ev F (tCB (fun xs H Q => ∃ i, xs = [.int i] ∧ Q (.int (if i < 0 then -i else i)) H) (tCons te tNil)) Γ (.dat (.int (absI i))) := fun T σ H s Q q =>
  h T σ H s _ fun v H1 s1 e1 => by
    obtain ⟨B, _, r⟩ := s1.topd
    exact ⟨i, by rw [rp_int r], q _ H1 (s1.pop.push fun _ _ => by unfold Rp; rfl) e1⟩
theorem ma_map {tr : TA} {ds : α → List Dt} {ds2 : β → List Dt} {m : R α} {f : α → β} (h : MA F Γe Er tr Γ m ds) (e : ∀ a, ds2 (f a) = ds a) : MA F Γe Er tr Γ (m.bind fun a => .ok (f a)) ds2 := fun _ W k T σ H ok w s Q q => by
  rw [R.bind_assoc] at w
  exact h _ W _ T σ H ok w s _ fun a vs H1 w2 s1 e1 => q (f a) vs H1 w2 (by rw [e a]; exact s1) e1
theorem mv_isi {n ty : String} {r : Bool} {enc : α → Dt} {m : R α} (hk : kitB ty n = some r) (h : MV F Γe Er te Γ m (oD enc)) (ht : ∀ a, (enc a).tyn = ty := by intro _; rfl) : MV F Γe Er (tCB (rIsi F.K) (tCons te (tCons (tC (.ty n)) tNil))) Γ (m.bind fun _ => R.ok r) oB := fun _ W k T σ H ok w s Q q => by
  rw [R.bind_assoc] at w
  exact h _ W _ T σ H ok w s _ fun a v H1 w1 s1 e1 => by
    obtain ⟨B, eb, rr⟩ := s1.topd
    exact ⟨v, .ty n, _, _, r, rfl, .ty n, tyx_of eb rr, kit_ty (by rw [ht a]; exact hk), q r _ H1 w1 (s1.pop.push fun _ _ => by unfold Rp; rfl) e1⟩
def ML (F : Fx) (Γe : List Ent) (Er : L2.St → Exn → Hp → Prop) (te : TE) (Γ : List Ent) (enc : α → Dt) (m : R (List α)) : Prop :=
  ∀ (ρ : Type) (W : R ρ → Prop) (k : List α → R ρ) T σ H, WOk F Γe Er W → W (m.bind k) → Stt F Γ T σ H → ∀ Q : VK, (∀ xs l vs H', W (k xs) → H' l = some (.lst vs) → Stt F Γ ((.ref l, .rv vs (xs.map enc)) :: T) σ H' → Same H H' → Q (.ref l) H') → te σ H Q
theorem ml_ok {enc : α → Dt} {xs : List α} (h : EvL F te Γ (xs.map enc)) : ML F Γe Er te Γ enc (.ok xs) := fun _ W k T σ H ok w s Q q => h T σ H s Q fun l vs H' hl s' e => q xs l vs H' w hl s' e
theorem ml_guard {enc : α → Dt} {p : Prop} [Decidable p] {m : R (List α)} (h : p → ML F Γe Er te Γ enc m) : ML F Γe Er te Γ enc (R.guard p m) := fun _ W k T σ H ok w s Q q => by
  unfold R.guard at w
  by_cases c : p
  · rw [if_pos c] at w; exact h c _ W k T σ H ok w s Q q
  · rw [if_neg c] at w; exact absurd w ok.bad
theorem Stt.rvD {ds : List Dt} (h : Stt F Γ ((v, .dat (.lst ds)) :: T) σ H) : ∃ l vs, v = .ref l ∧ H l = some (.lst vs) ∧ Stt F Γ ((.ref l, .rv vs ds) :: T) σ H := by
  obtain ⟨B, O1, O2, a, b, c, p, ii⟩ := h.top
  obtain ⟨r, rfl⟩ := a.rp
  unfold Rp at r
  obtain ⟨l, vs, rfl, hl, ra⟩ := r
  refine ⟨l, vs, rfl, p.bh _ _ hl, B, jn emp O2, slots_own (O1 := emp) ?_ b emp_dj, p, ii⟩
  unfold Ow
  exact ⟨ra, rfl⟩
theorem ml_dat {enc : α → Dt} {m : R (List α)} (h : MV F Γe Er te Γ m (oD (eL enc))) : ML F Γe Er te Γ enc m := fun _ W k T σ H ok w s Q q => h _ W k T σ H ok w s Q fun xs v H' w' s' e => by
  obtain ⟨l, vs, rfl, hl, s2⟩ := s'.rvD
  exact q xs l vs H' w' hl s2 e
theorem ml_own {enc : α → Dt} {m : R (List α)} (h : MV F Γe Er te Γ m (oL enc)) : ML F Γe Er te Γ enc m := fun _ W k T σ H ok w s Q q => h _ W k T σ H ok w s Q fun xs v H' w' s' e => by
  obtain ⟨l, vs, rfl, hl, s2⟩ := s'.freeze.rvD
  exact q xs l vs H' w' hl s2 e
theorem ml_len {enc : α → Dt} {m : R (List α)} (h : ML F Γe Er te Γ enc m) : MV F Γe Er (tCB (fun xs H Q => ∃ p ys, xs = [.ref p] ∧ (SqL F.K H p ys ∨ SqT F.K H p ys) ∧ Q (.int ys.length) H) (tCons te tNil)) Γ (m.bind fun xs => R.ok (xs.length : Int)) (oD eI) := fun _ W k T σ H ok w s Q q => by
  rw [R.bind_assoc] at w
  exact h _ W _ T σ H ok w s _ fun xs l vs H1 w1 hl s1 e1 => by
    obtain ⟨B, _, r⟩ := s1.rvs
    refine ⟨l, vs, rfl, .inl (SqL.of hl), ?_⟩
    have e : (vs.length : Int) = xs.length := by rw [r.length, List.length_map]
    rw [e]
    exact q _ _ H1 w1 (s1.pop.push fun _ _ => by unfold Rp; rfl) e1
theorem ml_cat {enc : α → Dt} {m1 m2 : R (List α)} (h1 : ML F Γe Er ta Γ enc m1) (h2 : ML F Γe Er tb Γ enc m2) : MV F Γe Er (tOp rCat ta tb) Γ (m1.bind fun x => m2.bind fun y => R.guard ((x ++ y).length ≤ 16777216) (R.ok (x ++ y))) (oL enc) := fun _ W k T σ H ok w s Q q => by
  rw [R.bind_assoc] at w
  refine h1 _ W _ T σ H ok w s _ fun xs l vs H1 w1 hv s1 e1 => ?_
  rw [R.bind_assoc] at w1
  refine h2 _ W _ _ σ H1 ok w1 s1 _ fun ys m us H2 w2 hu s2 e2 => ?_
  have w3 : W (R.guard ((xs ++ ys).length ≤ 16777216) (k (xs ++ ys))) := by
    unfold R.guard at w2 ⊢
    by_cases z : (xs ++ ys).length ≤ 16777216
    · rw [if_pos z] at w2 ⊢; exact w2
    · rw [if_neg z] at w2; exact absurd w2 ok.bad
  obtain ⟨hb, w3⟩ := R.guard_ok ok w3
  obtain ⟨B, eb, r⟩ := s2.rvs
  obtain ⟨B', eb', r'⟩ := s2.pop.rvs
  refine ⟨l, m, vs, us, rfl, rfl, e2 l _ hv, hu, by rw [r.length, r'.length, List.length_map, List.length_map]; rw [List.length_append] at hb; exact line_le hb, fun p hp => ?_⟩
  refine q _ _ _ w3 ?_ ((e1.trans e2).trans (same_upd hp))
  have z := s2.newL2 hp (gs := (xs ++ ys).map enc) fun B a b => by rw [List.map_append]; exact a.append b
  exact z
theorem ml_ix [Inhabited α] {enc : α → Dt} {m1 : R (List α)} {m2 : R Int} (h1 : ML F Γe Er ta Γ enc m1) (h2 : MV F Γe Er tb Γ m2 (oD eI)) : MV F Γe Er (tOp (rIxL F.K) ta tb) Γ (m1.bind fun x => m2.bind fun y => R.guard (inB x y) (R.ok (getI x y))) (oD enc) := fun _ W k T σ H ok w s Q q => by
  rw [R.bind_assoc] at w
  refine h1 _ W _ T σ H ok w s _ fun xs l vs H1 w1 hl s1 e1 => ?_
  rw [R.bind_assoc] at w1
  refine h2 _ W _ _ σ H1 ok w1 s1 _ fun i u H2 w2 s2 e2 => ?_
  have w3 : W (R.guard (inB xs i) (k (getI xs i))) := by
    unfold R.guard at w2 ⊢
    by_cases z : inB xs i
    · rw [if_pos z] at w2 ⊢; exact w2
    · rw [if_neg z] at w2; exact absurd w2 ok.bad
  obtain ⟨hb, w3⟩ := R.guard_ok ok w3
  obtain ⟨B, eb, r⟩ := s2.topd
  have s3 := s2.pop
  obtain ⟨B', eb', ra⟩ := s3.rvs
  have hl' : vs.length = xs.length := by rw [ra.length, List.length_map]
  have hb' : inB vs i := by unfold inB at hb ⊢; rw [hl']; exact hb
  have ix : ixI vs i = ixI xs i := by unfold ixI; rw [hl']
  obtain ⟨w', hw'⟩ : ∃ w, vs[ixI vs i]? = some w := ⟨_, List.getElem?_eq_getElem (ixI_lt hb')⟩
  refine ⟨l, vs, i, w', rfl, rp_int r, SqL.of (e2 l _ hl), by rw [atI_of hb', hw'], ?_⟩
  refine q _ w' H2 w3 (s3.derive fun B2 _ rb => ?_) (e1.trans e2)
  have hg : (xs.map enc)[ixI xs i]? = some (enc (getI xs i)) := by rw [List.getElem?_map, getI_get hb]; rfl
  obtain ⟨w2', e', rw'⟩ := rb.get hg
  rw [← ix, hw'] at e'
  cases e'
  exact rw'
theorem op2_isBl {x y : Bool} : Op2 F (fun x y H Q => ∃ a b, x = .bl a ∧ y = .bl b ∧ Q (.bl (decide (a = b))) H) (.dat (.bl x)) (.dat (.bl y)) (.dat (.bl (decide (x = y)))) := op2_val _ (fun B => by unfold Rp; rfl) fun B H a b Q _ h1 h2 q => ⟨x, y, rp_bl h1, rp_bl h2, q⟩
theorem op2_isnotBl {x y : Bool} : Op2 F (fun x y H Q => ∃ a b, x = .bl a ∧ y = .bl b ∧ Q (.bl (!decide (a = b))) H) (.dat (.bl x)) (.dat (.bl y)) (.dat (.bl (!decide (x = y)))) := op2_val _ (fun B => by unfold Rp; rfl) fun B H a b Q _ h1 h2 q => ⟨x, y, rp_bl h1, rp_bl h2, q⟩
end
theorem rpa_lits {K : PySem.W.Frag} {B : Hp} {ds : List Dt} {vs : List V} (xs : List Str) (h : ds = (xs.map lt).map eS) (h2 : vs = xs.map V.str := by rfl) : RpA K B ds vs := by
  subst h h2
  have e : (xs.map lt).map eS = xs.map Dt.str := by
    rw [List.map_map]
    apply List.map_congr_left
    intro x _
    show Dt.str (Sx (lt x)) = _
    rw [Sx_lt]
  rw [e]
  exact rpa_of_strs
theorem calm_of {α : Type} {m : R α} {F : Fx} {W : R α → Prop} {Q : VK} {res : α → Own} {Er : L2.St → Exn → Hp → Prop} (hw : W m.calm) (ok : ∀ Γe, WOk F Γe Er W) (rt : ∀ a v T Γ σ H', W (.ok a) → Stt F Γ ((v, res a) :: T) σ H' → Q v H') :
    ∃ W' : R α → Prop, W' m ∧ (∀ Γe, WOk F Γe (fun _ _ _ => False) W') ∧ ∀ a v T Γ σ H', W' (.ok a) → Stt F Γ ((v, res a) :: T) σ H' → Q v H' :=
  ⟨fun m => W m.calm, hw, fun Γe => ⟨(ok []).bad, fun e he _ _ _ => (ok []).bad he⟩, rt⟩
theorem q_nx {f : L2.St → Hp → Prop} {r : VK} {a b : L2.St → Hp → Prop} {σ : L2.St} {H : Hp} (h : f σ H) : (Ends.mk f r a b).nx σ H := h
theorem law_end {K : PySem.W.Frag} {Ce : Exn → Addr} {m : List Int → R Bool} {H : Hp} {a : Addr} {ns : List Int} (h : m ns = .ok true) (hS : SqL K H a (ns.map V.int)) :
    spD K Ce 1 (fun x => [eX x]) (fun x => (m x).calm) (oD eB) [.ref a] H (fun v _ => v = .bl true) fun _ _ _ => False := by
  refine ⟨ns, H, emp, rfl, ?_, Same.refl _, fun _ _ e => (nomatch e), dj_emp, ?_⟩
  · refine owa_dats (ds := [eX ns]) (rpa_cons ?_ rpa_nil)
    unfold Rp
    exact ⟨a, rfl, hS⟩
  · show Wsh K Ce H emp H _ _ _ _ _ _ (m ns).calm
    rw [h]
    intro v B' O' H' _ oa
    unfold OwA at oa
    obtain ⟨v', r, O1, O2, e, a1, _⟩ := oa
    cases e
    exact rp_bl a1.rp.1
end Sm
namespace Sm
open PySem L2
abbrev eA (d : Dt) : Dt := d
def Dt.isT (n : String) (d : Dt) : Bool := (kitB d.tyn n).getD false
theorem tyn_mem (d : Dt) : d.tyn ∈ ["NoneType", "bool", "int", "str", "list", "tuple", "dict"] := by cases d <;> simp [Dt.tyn]
def Dt.isI : Dt → Bool
  | .int _ => true
  | _ => false
def Dt.isX : Dt → Bool
  | .str _ => true
  | _ => false
def Dt.isB : Dt → Bool
  | .bl _ => true
  | _ => false
def Dt.isU : Dt → Bool
  | .tup _ => true
  | _ => false
def Dt.isL : Dt → Bool
  | .lst _ => true
  | _ => false
def Dt.asI : Dt → Int
  | .int i => i
  | _ => 0
def Dt.asX : Dt → List Nat
  | .str x => lt x
  | _ => []
def Dt.asB : Dt → Bool
  | .bl b => b
  | _ => false
def Dt.asU : Dt → List Dt
  | .tup ds => ds
  | _ => []
def Dt.asL : Dt → List Dt
  | .lst ds => ds
  | _ => []
instance : Inhabited Dt := ⟨.non⟩
theorem map_eA (ds : List Dt) : ds.map eA = ds := by
  induction ds with
  | nil => rfl
  | cons d ds ih => rw [List.map_cons, ih]
section
variable {F : Fx} {Γ Γ' Γe : List Ent} {T : List (V × Own)} {σ : L2.St} {H H' : Hp} {v : V} {Er : L2.St → Exn → Hp → Prop} {ρ α β γ δ S : Type} {W : R ρ → Prop} {D : Ends} {ta tb tc te : TE} {tt uu : TT} {i j : Int} {d e : Dt} {c : Bool}
theorem asI_eq (g : d.isI = true) : d = eI d.asI := by cases d <;> first | rfl | cases g
theorem asX_eq (g : d.isX = true) : d = eS d.asX := by
  cases d with
  | str x => show Dt.str x = Dt.str (Sx (lt x)); rw [Sx_lt]
  | _ => cases g
theorem asB_eq (g : d.isB = true) : d = eB d.asB := by cases d <;> first | rfl | cases g
theorem asU_eq (g : d.isU = true) : d = eU eA d.asU := by
  cases d with
  | tup ds => show Dt.tup ds = Dt.tup (ds.map eA); rw [map_eA]
  | _ => cases g
theorem asL_eq (g : d.isL = true) : d = eL eA d.asL := by
  cases d with
  | lst ds => show Dt.lst ds = Dt.lst (ds.map eA); rw [map_eA]
  | _ => cases g
theorem ev_asI (g : d.isI = true) (h : Ev F te Γ (.dat d)) : Ev F te Γ (.dat (eI d.asI)) := ev_is h (congrArg Own.dat (asI_eq g))
theorem ev_asX (g : d.isX = true) (h : Ev F te Γ (.dat d)) : Ev F te Γ (.dat (eS d.asX)) := ev_is h (congrArg Own.dat (asX_eq g))
theorem ev_asB (g : d.isB = true) (h : Ev F te Γ (.dat d)) : Ev F te Γ (.dat (eB d.asB)) := ev_is h (congrArg Own.dat (asB_eq g))
theorem ev_asU (g : d.isU = true) (h : Ev F te Γ (.dat d)) : Ev F te Γ (.dat (eU eA d.asU)) := ev_is h (congrArg Own.dat (asU_eq g))
theorem ev_asL (g : d.isL = true) (h : Ev F te Γ (.dat d)) : Ev F te Γ (.dat (eL eA d.asL)) := ev_is h (congrArg Own.dat (asL_eq g))
theorem mv_as {enc : α → Dt} {isK : Dt → Bool} {asK : Dt → α} {m : R Dt} (he : ∀ d, isK d = true → d = enc (asK d)) (h : MV F Γe Er te Γ m (oD eA)) : MV F Γe Er te Γ (m.bind fun d => R.guard (isK d = true) (R.ok (asK d))) (oD enc) := fun _ W k T σ H ok w s Q q => by
  rw [R.bind_assoc] at w
  refine h _ W _ T σ H ok w s _ fun d v H1 w1 s1 e1 => ?_
  have w2 : W (R.guard (isK d = true) (k (asK d))) := by
    unfold R.guard at w1 ⊢
    by_cases z : isK d = true
    · rw [if_pos z] at w1 ⊢; exact w1
    · rw [if_neg z] at w1; exact absurd w1 ok.bad
  obtain ⟨g, w3⟩ := R.guard_ok ok w2
  refine q _ v H1 w3 ?_ e1
  have := he d g
  unfold oD at s1 ⊢
  rw [← this]
  exact s1
theorem ev_isA {n : String} (hn : ∀ t ∈ ["NoneType", "bool", "int", "str", "list", "tuple", "dict"], (kitB t n).isSome = true) (h : Ev F ta Γ (.dat d)) : Ev F (tCB (rIsi F.K) (tCons ta (tCons (tC (.ty n)) tNil))) Γ (.dat (.bl (d.isT n))) := by
  have k : kitB d.tyn n = some (d.isT n) := by
    have := hn _ (tyn_mem d)
    unfold Dt.isT
    cases e : kitB d.tyn n with
    | none => rw [e] at this; cases this
    | some b => rfl
  exact ev_isi k h
theorem mv_isA {n : String} {m : R Dt} (hn : ∀ t ∈ ["NoneType", "bool", "int", "str", "list", "tuple", "dict"], (kitB t n).isSome = true) (h : MV F Γe Er ta Γ m (oD eA)) : MV F Γe Er (tCB (rIsi F.K) (tCons ta (tCons (tC (.ty n)) tNil))) Γ (m.bind fun d => R.ok (d.isT n)) oB := fun _ W k T σ H ok w s Q q => by
  rw [R.bind_assoc] at w
  exact h _ W _ T σ H ok w s _ fun d v H1 w1 s1 e1 => by
    obtain ⟨B, eb, rr⟩ := s1.topd
    have k : kitB d.tyn n = some (d.isT n) := by
      have := hn _ (tyn_mem d)
      unfold Dt.isT
      cases e : kitB d.tyn n with
      | none => rw [e] at this; cases this
      | some b => rfl
    exact ⟨v, .ty n, _, _, _, rfl, .ty n, tyx_of eb rr, kit_ty k, q _ _ H1 w1 (s1.pop.push fun _ _ => by unfold Rp; rfl) e1⟩
def strI (i : Int) : List Nat := lt (Str.ofString (toString i))
def intX? (a : List Nat) : Option Int := intText? (Sx a)
theorem ev_strI (hb : i.natAbs.log2 < 1920) (h : Ev F te Γ (.dat (.int i))) : Ev F (tCB (fun xs H Q => ∃ i, xs = [.int i] ∧ i.natAbs.log2 < 1920 ∧ Q (.str (toString i)) H) (tCons te tNil)) Γ (.dat (eS (strI i))) := fun T σ H s Q q =>
  h T σ H s _ fun v H1 s1 e1 => by
    obtain ⟨B, _, r⟩ := s1.topd
    refine ⟨i, by rw [rp_int r], hb, q _ H1 (s1.pop.push fun _ _ => ?_) e1⟩
    show Rp F.K _ (Dt.str (Sx (strI i))) _
    unfold strI
    rw [Sx_lt]
    unfold Rp
    rfl
theorem ev_intX {a : List Nat} (hb : (intX? a).isSome = true ∧ a.length ≤ 640) (h : Ev F te Γ (.dat (eS a))) : Ev F (tCB (fun xs H Q => ∃ a n, xs = [.str a] ∧ PySem.intText? a = some n ∧ a.length ≤ 640 ∧ Q (.int n) H) (tCons te tNil)) Γ (.dat (.int ((intX? a).getD 0))) := fun T σ H s Q q =>
  h T σ H s _ fun v H1 s1 e1 => by
    obtain ⟨B, _, r⟩ := s1.topd
    obtain ⟨n, hn⟩ := Option.isSome_iff_exists.mp hb.1
    rw [hn] at q
    exact ⟨Sx a, n, by rw [rp_str r], hn, by rw [Sx_len]; exact hb.2, q _ H1 (s1.pop.push fun _ _ => by unfold Rp; rfl) e1⟩
theorem ev_dnewK : Ev F tDNewK Γ (.dat (.dk [] [])) := fun T σ H s Q q p hp => by
  have n : ∀ {B : Hp}, Same B H → B p = none := fun e => none_of_same e hp
  obtain ⟨B, O, sl, P, i⟩ := s
  refine q _ _ ⟨upd B p (.dK []), O, ?_, P.newB hp, i⟩ (same_upd hp)
  have k : Rp F.K (upd B p (.dK [])) (.dk [] []) (.ref p) := by
    unfold Rp
    exact ⟨p, [], rfl, upd_same, rfl, rpa_nil⟩
  have z := slots_own (ow_dat k) (sl.mono (same_upd (n P.bh))) emp_dj
  rw [emp_jn] at z
  exact z
theorem s_raise {x : Exn} {C : Addr} {E : XK} {tmk : L2.St → Hp → XK → Prop} (hst : Stt F Γ T σ H) (hw : W (.err x)) (ok : WOk F Γe Er W) (wk : Wk Γ Γe) (ht : ∀ σ H (Q : XK), Q (.ref C) none H → tmk σ H Q) (hE : Er σ x H → E (.ref C) none H) :
    tmk σ H fun cls d H' => E cls d H' :=
  ht σ H _ (hE (ok.err x hw σ H ((Stt.pops hst).weak wk)))
end
end Sm
namespace Sm
open PySem L2
def Exn.plain : Exn → Bool
  | .noDealing _ => false
  | _ => true
def R.tryC {α : Type} (m : R α) (c : Exn → Bool) (h : Exn → R α) : R α := match m with
  | .ok a => .ok a
  | .err e => if e.plain = true then (if c e = true then (h e).calm else .err e) else .bad
  | .bad => .bad
section
variable {F : Fx} {Γ Γ' Γe : List Ent} {T : List (V × Own)} {σ : L2.St} {H H' : Hp} {v : V} {Er : L2.St → Exn → Hp → Prop} {ρ α β γ δ S : Type} {W : R ρ → Prop} {D : Ends} {ta tb tc te : TE} {tt uu : TT} {i j : Int} {d e : Dt} {c : Bool}
theorem Stt.hole {i : Nat} {w : V} (h : Stt F Γ T σ H) (e : Γ[i]? = some none) (ni : NI F i) : Stt F (Γ.set i (some (.hole w))) T (σ.set i (some w)) H := by
  obtain ⟨B, O, s, p, q⟩ := h
  have e' : (T.map (fun p => some p.2) ++ Γ)[T.length + i]? = some none := by
    rw [List.getElem?_append_right (by simp)]
    simpa using e
  have z := s.un e' B (.hole w) emp w (Same.refl _) (by unfold Ow; exact ⟨rfl, rfl⟩) emp_dj
  rw [emp_jn, List.set_append_right _ _ (by simp), List.set_append_right _ _ (by simp)] at z
  simp only [List.length_map, Nat.add_sub_cancel_left] at z
  exact ⟨B, O, z, p, fun z hz => by rw [List.getElem?_set_ne (Ne.symm (ni z hz))]; exact q z hz⟩
theorem Stt.holeAt {i : Nat} {w : V} (h : Stt F Γ T σ H) (e : Γ[i]? = some (some (.hole w))) : σ[i]? = some (some w) := by
  obtain ⟨B, O, s, p, q⟩ := h
  have e' : (T.map (fun p => some p.2) ++ Γ)[T.length + i]? = some (some (.hole w)) := by
    rw [List.getElem?_append_right (by simp)]
    simpa using e
  obtain ⟨v, O1, O2, e1, a, _⟩ := s.at e'
  unfold Ow at a
  rw [a.1, List.getElem?_append_right (by simp)] at e1
  simpa using e1
theorem errAt_plain {Ce : Exn → Addr} {E : XK} {e : Exn} {H : Hp} (h : e.plain = true) : ErrAt Ce E e H = E (.ref (Ce e)) none H := by cases e <;> first | rfl | cases h
def tTryAs (K : PySem.W.Frag) (c : Value) (i : Nat) (ts : Addr → Value → Option Addr → TS) (Wout : WX) (tb : WX → TS) : TS := fun D σ H => tb (wAs K c i ts Wout D) D σ H
def tTryOnly (K : PySem.W.Frag) (c : Value) (ts : Addr → Value → Option Addr → TS) (Wout : WX) (tb : WX → TS) : TS := fun D σ H => tb (wOnly K c ts Wout D) D σ H
theorem ps_tryAsW {X : Cx} {x n : Str} {c : Value} {i : Nat} {body suite : List Stmt} {b₀ : Stmt} {np pos pos' : Pos} {tb : WX → TS} {ts : Addr → Value → Option Addr → TS} {Wout : WX} (hs : X.stack = X.env :: X.outer) (hf : X.env.frame = some X.env.locals) (hN : X.N.Nodup) (hi : X.N[i]? = some n) (hln : X.env.kindOf n = some .local) (hc : Names X x c) (tk : Takes X Wout)
    (hb : ∀ (W : WX) (pn : List (Addr × Obj)) (xe : Value → Shared → Prop), Takes (X.tr pn xe) W → PassesOwn (model X.prog X.w) X.A X.env xe → PSs (X.tr pn xe) body (tb W))
    (hsu : ∀ (a : Addr) (oe : Obj) (cls : Value) (d : Option Addr) (pn : List (Addr × Obj)), Zc cls d oe → (∃ vs, oe.data = .fields vs) → PSs (X.suite a ((a, oe) :: pn)) (b₀ :: suite) (ts a cls d)) :
    PS X (.Try body [.ExceptHandler (some (.Name x np)) (some n) (b₀ :: suite) pos'] [] [] pos) (tTryAs X.K c i ts Wout tb) := ps_try_as hs hf hN hi hln hc tk hb hsu
theorem ps_tryOnlyW {X : Cx} {x : Str} {c : Value} {body suite : List Stmt} {b₀ : Stmt} {np pos pos' : Pos} {tb : WX → TS} {ts : Addr → Value → Option Addr → TS} {Wout : WX} (hs : X.stack = X.env :: X.outer) (hf : X.env.frame = some X.env.locals) (hc : Names X x c) (tk : Takes X Wout)
    (hb : ∀ (W : WX) (pn : List (Addr × Obj)) (xe : Value → Shared → Prop), Takes (X.tr pn xe) W → PassesOwn (model X.prog X.w) X.A X.env xe → PSs (X.tr pn xe) body (tb W))
    (hsu : ∀ (a : Addr) (oe : Obj) (cls : Value) (d : Option Addr) (pn : List (Addr × Obj)), Zc cls d oe → (∃ vs, oe.data = .fields vs) → PSs (X.suite a ((a, oe) :: pn)) (b₀ :: suite) (ts a cls d)) :
    PS X (.Try body [.ExceptHandler (some (.Name x np)) none (b₀ :: suite) pos'] [] [] pos) (tTryOnly X.K c ts Wout tb) := ps_try_only hs hf hc tk hb hsu
abbrev endsAs (D : Ends) (i : Nat) : Ends := { nx := fun σ' H' => D.nx (σ'.set i none) H', rt := D.rt, bk := fun σ' H' => D.bk (σ'.set i none) H', ct := fun σ' H' => D.ct (σ'.set i none) H' }
theorem s_tryAs {i : Nat} {cv : Value} {tbd : WX → TS} {ts : Addr → Value → Option Addr → TS} {Wout : WX} {Ce : Exn → Addr} {m : R α} {ct : Exn → Bool} {h : Exn → R α} {k : α → R ρ} {Γt : List Ent}
    (hst : Stt F Γ [] σ H) (hw : W ((R.tryC m ct h).bind k)) (ok : WOk F Γe Er W) (wke : Wk Γt Γe) (hi : Γt[i]? = some none) (ni : NI F i)
    (hex : ∀ e, e.plain = true → PySem.W.exmOne F.K (.ref (Ce e)) cv = some (ct e)) (hEo : ∀ σ e H, Er σ e H → e.plain = true → Wout (.ref (Ce e)) none σ H)
    (qb : ∀ (W' : R α → Prop) (Wx : WX), WOk F Γt (fun σ e H => ErrAt Ce (WE Wx σ) e H) W' → (∀ a, W' (.ok a) → W (k a)) → W' m → tbd Wx D σ H)
    (qh : ∀ (e : Exn) (W' : R α → Prop) (a : Addr) σ H, e.plain = true → ct e = true → (∀ Γx, WOk F Γx (fun _ _ _ => False) W') → (∀ a, W' (.ok a) → W (k a)) → W' (h e) → Stt F (Γt.set i (some (.hole (.ref a)))) [] σ H → ts a (.ref (Ce e)) none (endsAs D i) σ H) :
    tbd (wAs F.K cv i ts Wout D) D σ H := by
  refine qb (fun m => W ((R.tryC m ct h).bind k)) _ ⟨ok.bad, fun e he σ' H' s => ?_⟩ (fun a w => w) hw
  have he : W ((if e.plain = true then (if ct e = true then (h e).calm else .err e) else .bad : R α).bind k) := he
  by_cases hp : e.plain = true
  · rw [if_pos hp] at he
    rw [errAt_plain hp]
    refine ⟨ct e, hex e hp, fun hc a ha => ?_, fun hc => ?_⟩
    · rw [if_pos hc] at he
      exact qh e (fun m => W (m.calm.bind k)) a _ H' hp hc (fun Γx => ⟨ok.bad, fun e he _ _ _ => ok.bad he⟩) (fun a w => w) he (s.hole hi ni)
    · rw [hc, if_neg Bool.false_ne_true] at he
      exact hEo σ' e H' (ok.err e he σ' H' (s.weak wke)) hp
  · rw [if_neg hp] at he
    exact absurd he ok.bad
theorem s_tryOnly {cv : Value} {tbd : WX → TS} {ts : Addr → Value → Option Addr → TS} {Wout : WX} {Ce : Exn → Addr} {m : R α} {ct : Exn → Bool} {h : Exn → R α} {k : α → R ρ} {Γt : List Ent}
    (hst : Stt F Γ [] σ H) (hw : W ((R.tryC m ct h).bind k)) (ok : WOk F Γe Er W) (wke : Wk Γt Γe)
    (hex : ∀ e, e.plain = true → PySem.W.exmOne F.K (.ref (Ce e)) cv = some (ct e)) (hEo : ∀ σ e H, Er σ e H → e.plain = true → Wout (.ref (Ce e)) none σ H)
    (qb : ∀ (W' : R α → Prop) (Wx : WX), WOk F Γt (fun σ e H => ErrAt Ce (WE Wx σ) e H) W' → (∀ a, W' (.ok a) → W (k a)) → W' m → tbd Wx D σ H)
    (qh : ∀ (e : Exn) (W' : R α → Prop) (a : Addr) σ H, e.plain = true → ct e = true → (∀ Γx, WOk F Γx (fun _ _ _ => False) W') → (∀ a, W' (.ok a) → W (k a)) → W' (h e) → Stt F Γt [] σ H → ts a (.ref (Ce e)) none D σ H) :
    tbd (wOnly F.K cv ts Wout D) D σ H := by
  refine qb (fun m => W ((R.tryC m ct h).bind k)) _ ⟨ok.bad, fun e he σ' H' s => ?_⟩ (fun a w => w) hw
  have he : W ((if e.plain = true then (if ct e = true then (h e).calm else .err e) else .bad : R α).bind k) := he
  by_cases hp : e.plain = true
  · rw [if_pos hp] at he
    rw [errAt_plain hp]
    refine ⟨ct e, hex e hp, fun hc a ha => ?_, fun hc => ?_⟩
    · rw [if_pos hc] at he
      exact qh e (fun m => W (m.calm.bind k)) a _ H' hp hc (fun Γx => ⟨ok.bad, fun e he _ _ _ => ok.bad he⟩) (fun a w => w) he s
    · rw [hc, if_neg Bool.false_ne_true] at he
      exact hEo σ' e H' (ok.err e he σ' H' (s.weak wke)) hp
  · rw [if_neg hp] at he
    exact absurd he ok.bad
theorem s_tryAsJ {i : Nat} {cv : Value} {tbd : WX → TS} {ts : Addr → Value → Option Addr → TS} {Wout : WX} {Ce : Exn → Addr} {m : R S} {ct : Exn → Bool} {h : Exn → R S} {k : S → R ρ} {Γt : List Ent} {Γj : S → List Ent}
    (hst : Stt F Γ [] σ H) (hw : W ((R.tryC m ct h).bind k)) (ok : WOk F Γe Er W) (wke : Wk Γt Γe) (hi : Γt[i]? = some none) (hij : ∀ s, (Γj s)[i]? = some none) (ni : NI F i)
    (hex : ∀ e, e.plain = true → PySem.W.exmOne F.K (.ref (Ce e)) cv = some (ct e)) (hEo : ∀ σ e H, Er σ e H → e.plain = true → Wout (.ref (Ce e)) none σ H)
    (qb : ∀ (W' : R S → Prop) (Wx : WX), WOk F Γt (fun σ e H => ErrAt Ce (WE Wx σ) e H) W' → W' m → (∀ s σ' H', W' (.ok s) → Stt F (Γj s) [] σ' H' → D.nx σ' H') → tbd Wx D σ H)
    (qh : ∀ (e : Exn) (W' : R S → Prop) (a : Addr) σ H, e.plain = true → (∀ Γx, WOk F Γx (fun _ _ _ => False) W') → W' (h e) → Stt F (Γt.set i (some (.hole (.ref a)))) [] σ H → (∀ s σ' H', W' (.ok s) → Stt F (Γj s) [] σ' H' → (endsAs D i).nx σ' H') → ts a (.ref (Ce e)) none (endsAs D i) σ H)
    (q : ∀ s σ' H', W (k s) → Stt F (Γj s) [] σ' H' → D.nx σ' H') : tTryAs F.K cv i ts Wout tbd D σ H :=
  s_tryAs hst hw ok wke hi ni hex hEo (fun W' Wx ok' hk w => qb W' Wx ok' w fun s σ' H' w' st => q s σ' H' (hk s w') st) fun e W' a σ' H' hp _ ok' hk w st => qh e W' a σ' H' hp ok' w st fun s σ2 H2 w' st2 => q s _ H2 (hk s w') (st2.setN (hij s) ni)
theorem s_tryAsC {i : Nat} {cv : Value} {tbd : WX → TS} {ts : Addr → Value → Option Addr → TS} {Wout : WX} {Ce : Exn → Addr} {m : R (Ctl S β)} {ct : Exn → Bool} {h : Exn → R (Ctl S β)} {k : Ctl S β → R ρ} {Γt : List Ent} {Γj : S → List Ent}
    (hst : Stt F Γ [] σ H) (hw : W ((R.tryC m ct h).bind k)) (ok : WOk F Γe Er W) (wke : Wk Γt Γe) (hi : Γt[i]? = some none) (hij : ∀ s, (Γj s)[i]? = some none) (ni : NI F i)
    (hex : ∀ e, e.plain = true → PySem.W.exmOne F.K (.ref (Ce e)) cv = some (ct e)) (hEo : ∀ σ e H, Er σ e H → e.plain = true → Wout (.ref (Ce e)) none σ H)
    (qb : ∀ (W' : R (Ctl S β) → Prop) (Wx : WX), WOk F Γt (fun σ e H => ErrAt Ce (WE Wx σ) e H) W' → (∀ r, W' (.ok (.rt r)) → W (k (.rt r))) → W' m → (∀ s σ' H', W' (.ok (.nx s)) → Stt F (Γj s) [] σ' H' → D.nx σ' H') → tbd Wx D σ H)
    (qh : ∀ (e : Exn) (W' : R (Ctl S β) → Prop) (a : Addr) σ H, e.plain = true → (∀ Γx, WOk F Γx (fun _ _ _ => False) W') → (∀ r, W' (.ok (.rt r)) → W (k (.rt r))) → W' (h e) → Stt F (Γt.set i (some (.hole (.ref a)))) [] σ H → (∀ s σ' H', W' (.ok (.nx s)) → Stt F (Γj s) [] σ' H' → (endsAs D i).nx σ' H') → ts a (.ref (Ce e)) none (endsAs D i) σ H)
    (q : ∀ s σ' H', W (k (.nx s)) → Stt F (Γj s) [] σ' H' → D.nx σ' H') : tTryAs F.K cv i ts Wout tbd D σ H :=
  s_tryAs hst hw ok wke hi ni hex hEo (fun W' Wx ok' hk w => qb W' Wx ok' (fun r => hk _) w fun s σ' H' w' st => q s σ' H' (hk _ w') st) fun e W' a σ' H' hp _ ok' hk w st => qh e W' a σ' H' hp ok' (fun r => hk _) w st fun s σ2 H2 w' st2 => q s _ H2 (hk _ w') (st2.setN (hij s) ni)
theorem s_tryOnlyJ {cv : Value} {tbd : WX → TS} {ts : Addr → Value → Option Addr → TS} {Wout : WX} {Ce : Exn → Addr} {m : R S} {ct : Exn → Bool} {h : Exn → R S} {k : S → R ρ} {Γt : List Ent} {Γj : S → List Ent}
    (hst : Stt F Γ [] σ H) (hw : W ((R.tryC m ct h).bind k)) (ok : WOk F Γe Er W) (wke : Wk Γt Γe)
    (hex : ∀ e, e.plain = true → PySem.W.exmOne F.K (.ref (Ce e)) cv = some (ct e)) (hEo : ∀ σ e H, Er σ e H → e.plain = true → Wout (.ref (Ce e)) none σ H)
    (qb : ∀ (W' : R S → Prop) (Wx : WX), WOk F Γt (fun σ e H => ErrAt Ce (WE Wx σ) e H) W' → W' m → (∀ s σ' H', W' (.ok s) → Stt F (Γj s) [] σ' H' → D.nx σ' H') → tbd Wx D σ H)
    (qh : ∀ (e : Exn) (W' : R S → Prop) (a : Addr) σ H, e.plain = true → (∀ Γx, WOk F Γx (fun _ _ _ => False) W') → W' (h e) → Stt F Γt [] σ H → (∀ s σ' H', W' (.ok s) → Stt F (Γj s) [] σ' H' → D.nx σ' H') → ts a (.ref (Ce e)) none D σ H)
    (q : ∀ s σ' H', W (k s) → Stt F (Γj s) [] σ' H' → D.nx σ' H') : tTryOnly F.K cv ts Wout tbd D σ H :=
  s_tryOnly hst hw ok wke hex hEo (fun W' Wx ok' hk w => qb W' Wx ok' w fun s σ' H' w' st => q s σ' H' (hk s w') st) fun e W' a σ' H' hp _ ok' hk w st => qh e W' a σ' H' hp ok' w st fun s σ2 H2 w' st2 => q s _ H2 (hk s w') st2
theorem s_tryOnlyC {cv : Value} {tbd : WX → TS} {ts : Addr → Value → Option Addr → TS} {Wout : WX} {Ce : Exn → Addr} {m : R (Ctl S β)} {ct : Exn → Bool} {h : Exn → R (Ctl S β)} {k : Ctl S β → R ρ} {Γt : List Ent} {Γj : S → List Ent}
    (hst : Stt F Γ [] σ H) (hw : W ((R.tryC m ct h).bind k)) (ok : WOk F Γe Er W) (wke : Wk Γt Γe)
    (hex : ∀ e, e.plain = true → PySem.W.exmOne F.K (.ref (Ce e)) cv = some (ct e)) (hEo : ∀ σ e H, Er σ e H → e.plain = true → Wout (.ref (Ce e)) none σ H)
    (qb : ∀ (W' : R (Ctl S β) → Prop) (Wx : WX), WOk F Γt (fun σ e H => ErrAt Ce (WE Wx σ) e H) W' → (∀ r, W' (.ok (.rt r)) → W (k (.rt r))) → W' m → (∀ s σ' H', W' (.ok (.nx s)) → Stt F (Γj s) [] σ' H' → D.nx σ' H') → tbd Wx D σ H)
    (qh : ∀ (e : Exn) (W' : R (Ctl S β) → Prop) (a : Addr) σ H, e.plain = true → (∀ Γx, WOk F Γx (fun _ _ _ => False) W') → (∀ r, W' (.ok (.rt r)) → W (k (.rt r))) → W' (h e) → Stt F Γt [] σ H → (∀ s σ' H', W' (.ok (.nx s)) → Stt F (Γj s) [] σ' H' → D.nx σ' H') → ts a (.ref (Ce e)) none D σ H)
    (q : ∀ s σ' H', W (k (.nx s)) → Stt F (Γj s) [] σ' H' → D.nx σ' H') : tTryOnly F.K cv ts Wout tbd D σ H :=
  s_tryOnly hst hw ok wke hex hEo (fun W' Wx ok' hk w => qb W' Wx ok' (fun r => hk _) w fun s σ' H' w' st => q s σ' H' (hk _ w') st) fun e W' a σ' H' hp _ ok' hk w st => qh e W' a σ' H' hp ok' (fun r => hk _) w st fun s σ2 H2 w' st2 => q s _ H2 (hk _ w') st2
def Exn.is (n : String) (e : Exn) : Bool := n == "ForerunError" || n == "ValueError" || (match e with
  | .noNumber => n == "NoNumber"
  | .noTerm => n == "NoTerm"
  | .noDealing _ => n == "NoDealing"
  | .nought => n == "Nought"
  | .great => n == "Great"
  | .folded => n == "Folded"
  | .noHand => n == "NoHand"
  | .noOrder => n == "NoOrder"
  | .noLine => n == "NoLine"
  | .noLog => n == "NoLog")
def rIsC (K : PySem.W.Frag) (a : Addr) (cls : Value) (d : Option Addr) : List V → Hp → VK → Prop := fun xs H Q => ∃ C : Addr, cls = .ref C ∧ d = none ∧ ExcC K C ∧ rIsE K C a xs H Q
theorem call_isEC {X : Cx} {a : Addr} {oe : Obj} {cls : Value} {d : Option Addr} {pn : List (Addr × Obj)} (hz : Zc cls d oe) (hf : ∃ vs, oe.data = .fields vs) : CallR (X.suite a ((a, oe) :: pn)) (.builtin "isinstance") (rIsC X.K a cls d) := by
  intro pins s σ H xs us Q I r h
  obtain ⟨C, rfl, rfl, ec, h⟩ := h
  exact call_isE ec hz hf pins s σ H xs us Q I r h
def rIsET (K : PySem.W.Frag) (D a : Addr) : List V → Hp → VK → Prop := fun xs H Q => ∃ (tp : Addr) (cs : List V) (us : List Value) (b : Bool), xs = [.ref a, .ref tp] ∧ H tp = some (.tup cs) ∧ Paired ClsV cs us ∧ PySem.W.kitAny K (.ref D) us = some b ∧ Q (.bl b) H
theorem call_isET {X : Cx} {a D : Addr} {oe : Obj} {pn : List (Addr × Obj)} (C : ExcC X.K D) (hz : Zc (.ref D) none oe) (hf : ∃ vs, oe.data = .fields vs) : CallR (X.suite a ((a, oe) :: pn)) (.builtin "isinstance") (rIsET X.K D a) := by
  intro pins s σ H xs us Q I r h
  obtain ⟨tp, cs, ws, b, rfl, hT, k, e, q⟩ := h
  cases r with
  | cons rx rr =>
    cases rr with
    | cons rt rr =>
      cases rr
      cases rx
      obtain ⟨hget, _⟩ := I.pin (a, oe) (List.mem_append.mpr (.inl List.mem_cons_self))
      obtain ⟨vs, hv⟩ := hf
      have J : PySem.W.InstAt s.heap a oe D none := by
        obtain ⟨oc, od, oda, osl⟩ := oe
        obtain ⟨h1, h2⟩ := hz
        dsimp only at h1 h2 hv
        subst h1 h2 hv
        exact ⟨hget, rfl, rfl, trivial⟩
      cases rt
      obtain ⟨_, its, rv, o, h1, h2, n, h3⟩ := (show ObjOk X.prog X.w H s.heap tp (.tup cs) from I.hok tp _ hT)
      have e3 := ClsV.all k rv
      subst e3
      obtain ⟨oc, od, dt, sl⟩ := o
      simp only at h2 h3
      subst h2 h3
      exact PySem.W.kia_tup (PySem.W.handS_kitx_exc C.hg C.hk C.hs C.hd C.ha C.hn C.ht C.hm) I.kIn J h1 e (fun z => nomatch z) fun tk => ⟨.bl b, H, I.kept (t' := tk) fun _ _ z => z, rfl, q⟩
def rIsCT (K : PySem.W.Frag) (a : Addr) (cls : Value) (d : Option Addr) : List V → Hp → VK → Prop := fun xs H Q => ∃ C : Addr, cls = .ref C ∧ d = none ∧ ExcC K C ∧ rIsET K C a xs H Q
theorem call_isECT {X : Cx} {a : Addr} {oe : Obj} {cls : Value} {d : Option Addr} {pn : List (Addr × Obj)} (hz : Zc cls d oe) (hf : ∃ vs, oe.data = .fields vs) : CallR (X.suite a ((a, oe) :: pn)) (.builtin "isinstance") (rIsCT X.K a cls d) := by
  intro pins s σ H xs us Q I r h
  obtain ⟨C, rfl, rfl, ec, h⟩ := h
  exact call_isET ec hz hf pins s σ H xs us Q I r h
theorem ev_isE {a C : Addr} {i : Nat} {cv : V} {u : Value} {b : Bool} (hs : Γ[i]? = some (some (.hole (.ref a)))) (ec : ExcC F.K C) (hk : PySem.W.kitOne F.K (.ref C) u = some b) (hc : ClsV cv u) :
    Ev F (tCB (rIsC F.K a (.ref C) none) (tCons (tVar i) (tCons (tC cv) tNil))) Γ (.dat (.bl b)) := fun T σ H s Q q =>
  ⟨_, s.holeAt hs, C, rfl, rfl, ec, cv, u, b, rfl, fun w r => hc.eq r, hk, q _ H (s.push fun _ _ => by unfold Rp; rfl) (Same.refl _)⟩
inductive ClsT : TA → List V → List Value → Prop where
  | nil : ClsT tNil [] []
  | cons {cv : V} {u : Value} {tr : TA} {cs : List V} {us : List Value} (h : ClsV cv u) (k : ClsT tr cs us) : ClsT (tCons (tC cv) tr) (cv :: cs) (u :: us)
theorem ClsT.run {tr : TA} {cs : List V} {us : List Value} (h : ClsT tr cs us) : ∀ {σ : L2.St} {H : Hp} {Q : List V → Hp → Prop}, Q cs H → tr σ H Q := by
  induction h with
  | nil => exact fun q => q
  | cons h k ih => exact fun q => ih q
theorem ClsT.pair {tr : TA} {cs : List V} {us : List Value} (h : ClsT tr cs us) : Paired ClsV cs us := by
  induction h with
  | nil => exact .nil
  | cons h k ih => exact .cons h ih
theorem ClsT.len {tr : TA} {cs : List V} {us : List Value} (h : ClsT tr cs us) : cs.length = us.length := by
  induction h with
  | nil => rfl
  | cons h k ih => simp [ih]
theorem ev_isET {a C : Addr} {i : Nat} {tr : TA} {cs : List V} {us : List Value} {b : Bool} (hs : Γ[i]? = some (some (.hole (.ref a)))) (ec : ExcC F.K C) (hk : PySem.W.kitAny F.K (.ref C) us = some b) (hc : ClsT tr cs us) (hl : us.length ≤ 1000) :
    Ev F (tCB (rIsCT F.K a (.ref C) none) (tCons (tVar i) (tCons (tTup tr) tNil))) Γ (.dat (.bl b)) := fun T σ H s Q q => by
  refine ⟨_, s.holeAt hs, hc.run ?_⟩
  refine ⟨by rw [hc.len]; exact line_le (Nat.le_trans hl (by decide)), fun p hp => ?_⟩
  refine ⟨C, rfl, rfl, ec, p, cs, us, b, rfl, upd_same, hc.pair, hk, ?_⟩
  refine q _ _ ?_ (same_upd hp)
  -- the tuple of classes is no datum of ours: it is dropped at once
  obtain ⟨B, O, sl, P, ii⟩ := s
  have hB : B p = none := none_of_same P.bh hp
  have P2 := P.newO (a := p) (o := .tup cs) hp
  have P3 : Post F.B F.O F.H B O (upd H p (.tup cs)) := by
    have e : upd O p (.tup cs) = jn (upd emp p (.tup cs)) O := by rw [← upd_jn, emp_jn]
    rw [e] at P2
    exact P2.dropL (Dj.upd emp_dj (none_of_same P.oh hp))
  have z := slots_own (ow_dat (K := F.K) (B := B) (d := .bl b) (v := .bl b) (by unfold Rp; rfl)) sl emp_dj
  rw [emp_jn] at z
  exact ⟨B, O, z, P3, ii⟩
theorem rp_ne_non {K : PySem.W.Frag} {B : Hp} {d : Dt} {v : V} (h : Rp K B d v) (n : d ≠ .non) : v ≠ .non := by
  intro z
  subst z
  cases d with
  | non => exact n rfl
  | bl b => exact nomatch rp_bl h
  | int i => exact nomatch rp_int h
  | str x => exact nomatch rp_str h
  | lst xs => unfold Rp at h; obtain ⟨_, _, e, _⟩ := h; cases e
  | tup xs => unfold Rp at h; obtain ⟨_, _, e, _⟩ := h; cases e
  | scr ns => unfold Rp at h; obtain ⟨_, e, _⟩ := h; cases e
  | dk ks xs => unfold Rp at h; obtain ⟨_, _, e, _⟩ := h; cases e
  | dt ks xs => unfold Rp at h; obtain ⟨_, _, e, _⟩ := h; cases e
theorem op2_isNO {enc : α → Dt} (hne : ∀ a, enc a ≠ .non) {o : Option α} : Op2 F (fun x y H Q => y = .non ∧ Q (.bl (decide (x = .non))) H) (.dat (eO enc o)) (.dat .non) (.dat (.bl o.isNone)) := op2_val _ (fun B => by unfold Rp; rfl) fun B H a b Q _ h1 h2 q => by
  refine ⟨rp_non h2, ?_⟩
  cases o with
  | none =>
    rw [decide_eq_true (rp_non h1)]
    exact q
  | some x =>
    rw [decide_eq_false (rp_ne_non h1 (hne x))]
    exact q
theorem op2_notNO {enc : α → Dt} (hne : ∀ a, enc a ≠ .non) {o : Option α} : Op2 F (fun x y H Q => y = .non ∧ Q (.bl (!decide (x = .non))) H) (.dat (eO enc o)) (.dat .non) (.dat (.bl o.isSome)) := op2_val _ (fun B => by unfold Rp; rfl) fun B H a b Q _ h1 h2 q => by
  refine ⟨rp_non h2, ?_⟩
  cases o with
  | none =>
    rw [decide_eq_true (rp_non h1)]
    exact q
  | some x =>
    rw [decide_eq_false (rp_ne_non h1 (hne x))]
    exact q
theorem ev_isNO {enc : α → Dt} (hne : ∀ a, enc a ≠ .non) {o : Option α} (h1 : Ev F ta Γ (.dat (eO enc o))) (h2 : Ev F tb Γ (.dat .non)) : Ev F (tOp (fun x y H Q => y = .non ∧ Q (.bl (decide (x = .non))) H) ta tb) Γ (.dat (.bl o.isNone)) := ev_op h1 h2 (op2_isNO hne)
theorem ev_notNO {enc : α → Dt} (hne : ∀ a, enc a ≠ .non) {o : Option α} (h1 : Ev F ta Γ (.dat (eO enc o))) (h2 : Ev F tb Γ (.dat .non)) : Ev F (tOp (fun x y H Q => y = .non ∧ Q (.bl (!decide (x = .non))) H) ta tb) Γ (.dat (.bl o.isSome)) := ev_op h1 h2 (op2_notNO hne)
theorem op2_eqO {a b : Option Int} : Op2 F rEq (.dat (eO eI a)) (.dat (eO eI b)) (.dat (.bl (decide (a = b)))) := op2_val _ (fun B => by unfold Rp; rfl) fun B H x y Q _ h1 h2 q => by
  cases a with
  | none =>
    rw [rp_non h1]
    cases b with
    | none => rw [rp_non h2]; exact ⟨rfl, by simpa using q⟩
    | some j => rw [rp_int h2]; exact ⟨rfl, by simpa using q⟩
  | some i =>
    rw [rp_int h1]
    cases b with
    | none => rw [rp_non h2]; exact ⟨rfl, by simpa using q⟩
    | some j =>
      rw [rp_int h2]
      refine ⟨rfl, ?_⟩
      rw [dec_int, Bool.beq_eq_decide_eq]
      simpa using q
theorem ev_eqO {a b : Option Int} (h1 : Ev F ta Γ (.dat (eO eI a))) (h2 : Ev F tb Γ (.dat (eO eI b))) : Ev F (tOp rEq ta tb) Γ (.dat (.bl (decide (a = b)))) := ev_op h1 h2 op2_eqO
theorem ev_joinX {a : List Nat} {ys : List (List Nat)} (hb : (ys.map (·.length)).sum + ys.length * a.length ≤ 16777216) (h1 : Ev F ta Γ (.dat (eS a))) (h2 : EvL F tb Γ (ys.map eS)) :
    Ev F (tM1 (fun x xs H Q => ∃ a p, ∃ ys : List Str, x = .str a ∧ xs = [.ref p] ∧ (SqL F.K H p (ys.map V.str) ∨ SqT F.K H p (ys.map V.str)) ∧ (ys.map (·.length)).sum + ys.length * a.length ≤ 16777216 ∧ Q (.str (Txt.join a ys)) H) ta tb) Γ (.dat (eS (lt (Txt.join (Sx a) (ys.map Sx))))) := fun T σ H s Q q =>
  h1 T σ H s _ fun v H1 s1 e1 => by
    obtain ⟨B, _, r⟩ := s1.topd
    refine ⟨⟨_, rp_str r⟩, h2 _ σ H1 s1 _ fun l vs H2 hl s2 e2 => ?_⟩
    obtain ⟨B2, _, r2⟩ := s2.rvs
    have ev : vs = (ys.map Sx).map V.str := by
      rw [map_eS] at r2
      exact rpa_strs r2
    subst ev
    refine ⟨Sx a, l, ys.map Sx, rp_str r, rfl, .inl (SqL.of hl), ?_, ?_⟩
    · have e : (ys.map Sx).map (·.length) = ys.map (·.length) := by
        rw [List.map_map]
        apply List.map_congr_left
        intro x _
        exact Sx_len x
      rw [e, List.length_map, Sx_len]
      exact hb
    · refine q _ H2 (s2.pop.pop.push fun _ _ => ?_) (e1.trans e2)
      unfold Rp
      rw [Sx_lt]
end
section
variable {X : Cx}
theorem repl_flat (n : Nat) (a : Array Nat) : (List.replicate n a).foldl (· ++ ·) #[] = ((List.replicate n a.toList).flatten).toArray := by
  have g : ∀ (n : Nat) (b : Array Nat), (List.replicate n a).foldl (· ++ ·) b = b ++ ((List.replicate n a.toList).flatten).toArray := by
    intro n
    induction n with
    | zero => intro b; simp
    | succ n ih => intro b; rw [List.replicate_succ, List.foldl_cons, ih, List.replicate_succ, List.flatten_cons]; apply Array.toList_inj.mp; simp
  rw [g]; simp
def rMulS : R2 := fun x y H Q => ∃ (i : Str) (n : Int), x = .str i ∧ y = .int n ∧ 1 ≤ n ∧ n ≤ 100000 ∧ i.length ≤ 160 ∧ Q (.str ⟨((List.replicate n.toNat i.cps.toList).flatten).toArray⟩) H
theorem op_mulS : OpR X (binaryOp .Mult) rMulS := by
  intro pins s σ H x y v u Q I rx ry h
  obtain ⟨i, n, rfl, rfl, h1, h2, h3, q⟩ := h
  obtain ⟨t, rfl⟩ := rx
  obtain ⟨t', rfl⟩ := ry
  refine P.mul_str ?_ ?_ ?_ ?_
  · rw [Bool.or_eq_false_iff]
    exact ⟨decide_eq_false (by omega), decide_eq_false (by omega)⟩
  · intro _ _ z
    have : (2 ^ 63 - 1) / n ≥ (2 ^ 63 - 1) / 100000 := by
      apply Int.le_ediv_of_mul_le (by omega)
      have : (2 ^ 63 - 1 : Int) / 100000 * n ≤ (2 ^ 63 - 1) / 100000 * 100000 := Int.mul_le_mul_of_nonneg_left h2 (by decide)
      omega
    omega
  · intro _ _
    have : i.length * n.toNat ≤ 160 * 100000 := Nat.mul_le_mul h3 (by omega)
    have hs := sizeLine_eq
    unfold Builtin.Str.tooLong
    simp
    omega
  · rw [if_neg (by omega)]
    by_cases c : (n == 1 || i.length == 0) = true
    · rw [if_pos c]
      have e : (⟨((List.replicate n.toNat i.cps.toList).flatten).toArray⟩ : Str) = i := by
        rcases Bool.or_eq_true_iff.mp c with z | z
        · have : n = 1 := by simpa using z
          subst this
          cases i
          simp
        · have : i.cps = #[] := by
            have : i.length = 0 := by simpa using z
            exact Array.eq_empty_of_size_eq_zero this
          cases i with
          | mk a =>
            simp at this
            subst this
            simp
      rw [e] at q
      exact ⟨.str i, H, I, ⟨t, rfl⟩, q⟩
    · rw [if_neg c, repl_flat]
      refine ⟨?_, .str _, H, I.tok _, ⟨_, rfl⟩, q⟩
      have hs := sizeLine_eq
      have : i.length * n.toNat ≤ 160 * 100000 := Nat.mul_le_mul h3 (by omega)
      have e : (⟨((List.replicate n.toNat i.cps.toList).flatten).toArray⟩ : Str).length = n.toNat * i.length := by
        simp [Str.length]
      rw [e, Nat.mul_comm]
      omega
end
abbrev rLenK (K : PySem.W.Frag) : List V → Hp → VK → Prop := fun xs H Q => ∃ p ys, xs = [.ref p] ∧ (SqL K H p ys ∨ SqT K H p ys) ∧ Q (.int ys.length) H
abbrev rLstK (K : PySem.W.Frag) : List V → Hp → VK → Prop := fun xs H Q => ∃ p ys, xs = [.ref p] ∧ (SqL K H p ys ∨ SqT K H p ys) ∧ ∀ l, H l = none → Q (.ref l) (upd H l (.lst ys))
abbrev rTupK (K : PySem.W.Frag) : List V → Hp → VK → Prop := fun xs H Q => ∃ p ys, xs = [.ref p] ∧ ((SqL K H p ys ∧ ∀ l, H l = none → Q (.ref l) (upd H l (.tup ys))) ∨ (SqT K H p ys ∧ Q (.ref p) H))
abbrev rJoinK (K : PySem.W.Frag) : V → List V → Hp → VK → Prop := fun x xs H Q => ∃ a p, ∃ ys : List Str, x = .str a ∧ xs = [.ref p] ∧ (SqL K H p (ys.map V.str) ∨ SqT K H p (ys.map V.str)) ∧ (ys.map (·.length)).sum + ys.length * a.length ≤ 16777216 ∧ Q (.str (Txt.join a ys)) H
def gMS (a : List Nat) (n : Int) : Prop := 1 ≤ n ∧ n ≤ 100000 ∧ a.length ≤ 160
instance (a : List Nat) (n : Int) : Decidable (gMS a n) := by unfold gMS; infer_instance
def mulX (a : List Nat) (n : Int) : List Nat := (List.replicate n.toNat a).flatten
def findX (a b : List Nat) : Int := Txt.find (Sx a) (Sx b)
def joinX (a : List Nat) (ys : List (List Nat)) : List Nat := lt (Txt.join (Sx a) (ys.map Sx))
def gJ (a : List Nat) (ys : List (List Nat)) : Prop := (ys.map (·.length)).sum + ys.length * a.length ≤ 16777216
instance (a : List Nat) (ys : List (List Nat)) : Decidable (gJ a ys) := by unfold gJ; infer_instance
section
variable {F : Fx} {Γ Γ' Γe : List Ent} {T : List (V × Own)} {σ : L2.St} {H H' : Hp} {v : V} {Er : L2.St → Exn → Hp → Prop} {ρ α β γ δ S : Type} {W : R ρ → Prop} {D : Ends} {ta tb tc te : TE} {tt uu : TT} {i j : Int} {d e : Dt} {c : Bool}
theorem op2_mulS {a : List Nat} {n : Int} (g : gMS a n) : Op2 F rMulS (.dat (eS a)) (.dat (.int n)) (.dat (eS (mulX a n))) := op2_val _ (fun B => by unfold Rp; rfl) fun B H x y Q _ h1 h2 q =>
  ⟨Sx a, n, rp_str h1, rp_int h2, g.1, g.2.1, by rw [Sx_len]; exact g.2.2, q⟩
theorem ev_mulS {a : List Nat} {n : Int} (g : gMS a n) (h1 : Ev F ta Γ (.dat (eS a))) (h2 : Ev F tb Γ (.dat (.int n))) : Ev F (tOp rMulS ta tb) Γ (.dat (eS (mulX a n))) := ev_op h1 h2 (op2_mulS g)
theorem ev_find {a b : List Nat} (h1 : Ev F ta Γ (.dat (eS a))) (h2 : Ev F tb Γ (.dat (eS b))) : Ev F (tM1 (fun x xs H Q => ∃ a b, x = .str a ∧ xs = [.str b] ∧ Q (.int (Txt.find a b)) H) ta tb) Γ (.dat (.int (findX a b))) := fun T σ H s Q q =>
  h1 T σ H s _ fun v H1 s1 e1 => by
    obtain ⟨B, _, r⟩ := s1.topd
    have r := rp_str r
    subst r
    refine ⟨⟨_, rfl⟩, h2 _ σ H1 s1 _ fun u H2 s2 e2 => ?_⟩
    obtain ⟨B2, _, r2⟩ := s2.topd
    have r2 := rp_str r2
    subst r2
    exact ⟨Sx a, Sx b, rfl, rfl, q _ H2 (s2.pop.pop.push fun _ _ => by unfold Rp; rfl) (e1.trans e2)⟩
theorem mv_find {a : List Nat} {m : R (List Nat)} (h1 : Ev F ta Γ (.dat (eS a))) (h2 : MV F Γe Er tb Γ m (oD eS)) : MV F Γe Er (tM1 (fun x xs H Q => ∃ a b, x = .str a ∧ xs = [.str b] ∧ Q (.int (Txt.find a b)) H) ta tb) Γ (m.bind fun b => R.ok (findX a b)) (oD eI) := fun _ W k T σ H ok w s Q q => by
  rw [R.bind_assoc] at w
  refine h1 T σ H s _ fun v H1 s1 e1 => ?_
  obtain ⟨B, _, r⟩ := s1.topd
  have r := rp_str r
  subst r
  refine ⟨⟨_, rfl⟩, h2 _ W _ _ σ H1 ok w s1 _ fun b u H2 w2 s2 e2 => ?_⟩
  obtain ⟨B2, _, r2⟩ := s2.topd
  have r2 := rp_str r2
  subst r2
  exact ⟨Sx a, Sx b, rfl, rfl, q _ _ H2 w2 (s2.pop.pop.push fun _ _ => by unfold Rp; rfl) (e1.trans e2)⟩
theorem mv_joinX {a : List Nat} {m : R (List (List Nat))} (h1 : Ev F ta Γ (.dat (eS a))) (h2 : ML F Γe Er tb Γ eS m) :
    MV F Γe Er (tM1 (fun x xs H Q => ∃ a p, ∃ ys : List Str, x = .str a ∧ xs = [.ref p] ∧ (SqL F.K H p (ys.map V.str) ∨ SqT F.K H p (ys.map V.str)) ∧ (ys.map (·.length)).sum + ys.length * a.length ≤ 16777216 ∧ Q (.str (Txt.join a ys)) H) ta tb) Γ (m.bind fun ys => R.guard (gJ a ys) (R.ok (joinX a ys))) (oD eS) := fun _ W k T σ H ok w s Q q => by
  rw [R.bind_assoc] at w
  refine h1 T σ H s _ fun v H1 s1 e1 => ?_
  obtain ⟨B, _, r⟩ := s1.topd
  refine ⟨⟨_, rp_str r⟩, h2 _ W _ _ σ H1 ok w s1 _ fun ys l vs H2 w2 hl s2 e2 => ?_⟩
  have w3 : W (R.guard (gJ a ys) (k (joinX a ys))) := by
    unfold R.guard at w2 ⊢
    by_cases z : gJ a ys
    · rw [if_pos z] at w2 ⊢; exact w2
    · rw [if_neg z] at w2; exact absurd w2 ok.bad
  obtain ⟨hb, w3⟩ := R.guard_ok ok w3
  obtain ⟨B2, _, r2⟩ := s2.rvs
  have ev : vs = (ys.map Sx).map V.str := by
    rw [map_eS] at r2
    exact rpa_strs r2
  subst ev
  refine ⟨Sx a, l, ys.map Sx, rp_str r, rfl, .inl (SqL.of hl), ?_, ?_⟩
  · have e : (ys.map Sx).map (·.length) = ys.map (·.length) := by
      rw [List.map_map]
      apply List.map_congr_left
      intro x _
      exact Sx_len x
    rw [e, List.length_map, Sx_len]
    exact hb
  · refine q _ _ H2 w3 (s2.pop.pop.push fun _ _ => ?_) (e1.trans e2)
    show Rp F.K _ (Dt.str (Sx (joinX a ys))) _
    unfold Rp joinX
    rw [Sx_lt]
end
def exnAll : List Exn := [.noNumber, .noTerm, .nought, .great, .folded, .noHand, .noOrder, .noLine, .noLog]
theorem exn_mem {e : Exn} (h : e.plain = true) : e ∈ exnAll := by cases e <;> first | (unfold exnAll; simp; done) | cases h
def exmB (Ce : PySem.W.Frag → Exn → Addr) (x : Str) (n : String) (K : PySem.W.Frag) : Bool := exnAll.all fun e => decide (PySem.W.exmOne K (.ref (Ce K e)) (.ref (He.ga K x)) = some (e.is n))
theorem exmB_ok {Ce : PySem.W.Frag → Exn → Addr} {x : Str} {n : String} {K : PySem.W.Frag} (h : exmB Ce x n K = true) (e : Exn) (hp : e.plain = true) : PySem.W.exmOne K (.ref (Ce K e)) (.ref (He.ga K x)) = some (e.is n) :=
  of_decide_eq_true (List.all_eq_true.mp h e (exn_mem hp))
def exmT (Ce : PySem.W.Frag → Exn → Addr) (n : String) (K : PySem.W.Frag) : Bool := exnAll.all fun e => decide (PySem.W.exmOne K (.ref (Ce K e)) (.type n) = some (e.is n))
theorem exmT_ok {Ce : PySem.W.Frag → Exn → Addr} {n : String} {K : PySem.W.Frag} (h : exmT Ce n K = true) (e : Exn) (hp : e.plain = true) : PySem.W.exmOne K (.ref (Ce K e)) (.type n) = some (e.is n) :=
  of_decide_eq_true (List.all_eq_true.mp h e (exn_mem hp))
def kitC (Ce : PySem.W.Frag → Exn → Addr) (x : Str) (n : String) (K : PySem.W.Frag) : Bool := exnAll.all fun e => decide (PySem.W.kitOne K (.ref (Ce K e)) (.ref (He.ga K x)) = some (e.is n))
theorem kitC_ok {Ce : PySem.W.Frag → Exn → Addr} {x : Str} {n : String} {K : PySem.W.Frag} (h : kitC Ce x n K = true) (e : Exn) (hp : e.plain = true) : PySem.W.kitOne K (.ref (Ce K e)) (.ref (He.ga K x)) = some (e.is n) :=
  of_decide_eq_true (List.all_eq_true.mp h e (exn_mem hp))
def kitT (Ce : PySem.W.Frag → Exn → Addr) (n : String) (K : PySem.W.Frag) : Bool := exnAll.all fun e => decide (PySem.W.kitOne K (.ref (Ce K e)) (.type n) = some (e.is n))
theorem kitT_ok {Ce : PySem.W.Frag → Exn → Addr} {n : String} {K : PySem.W.Frag} (h : kitT Ce n K = true) (e : Exn) (hp : e.plain = true) : PySem.W.kitOne K (.ref (Ce K e)) (.type n) = some (e.is n) :=
  of_decide_eq_true (List.all_eq_true.mp h e (exn_mem hp))
def kitN (Ce : PySem.W.Frag → Exn → Addr) (xs : List (Str × String)) (K : PySem.W.Frag) : Bool := exnAll.all fun e => decide (PySem.W.kitAny K (.ref (Ce K e)) (xs.map fun p => .ref (He.ga K p.1)) = some (xs.any fun p => e.is p.2))
theorem kitN_ok {Ce : PySem.W.Frag → Exn → Addr} {xs : List (Str × String)} {K : PySem.W.Frag} (h : kitN Ce xs K = true) (e : Exn) (hp : e.plain = true) : PySem.W.kitAny K (.ref (Ce K e)) (xs.map fun p => .ref (He.ga K p.1)) = some (xs.any fun p => e.is p.2) :=
  of_decide_eq_true (List.all_eq_true.mp h e (exn_mem hp))
def exccB (Ce : PySem.W.Frag → Exn → Addr) (K : PySem.W.Frag) : Bool := exnAll.all fun e =>
  decide (PySem.W.findIn K (.ref (Ce K e)) "__getattribute__" = some (some (.builtin "BaseException.__getattribute__"))) && (decide (PySem.W.findIn K (.ref (Ce K e)) "__getattr__" = some none) && (decide (PySem.W.subIn K (.ref (Ce K e)) (.type "BaseException") = some true) &&
  (PySem.W.hasDictIn K (Ce K e) && (decide (PySem.W.findIn K (.ref (Ce K e)) "__class__" = some (some (.builtin "object.__class__"))) && (decide (PySem.W.specialIn K (.builtin "object.__class__") "__get__" = some (some (.builtin "getset_descriptor.__get__"))) &&
  (decide (PySem.W.takesIn K (.builtin "object.__class__") = some true) && decide (PySem.W.mroIn K (Ce K e) (.type "object") = some true)))))))
theorem exccB_ok {Ce : PySem.W.Frag → Exn → Addr} {K : PySem.W.Frag} (h : exccB Ce K = true) (e : Exn) (hp : e.plain = true) : ExcC K (Ce K e) := by
  have h := List.all_eq_true.mp h e (exn_mem hp)
  simp only [Bool.and_eq_true, decide_eq_true_eq] at h
  obtain ⟨h1, h2, h3, h4, h5, h6, h7, h8⟩ := h
  exact ⟨h1, h2, h3, h4, h5, h6, h7, h8⟩
end Sm
namespace Sm
open PySem L2
theorem set_same {α : Type} {l : List α} {i : Nat} {x : α} (h : l[i]? = some x) : l.set i x = l := by
  apply List.ext_getElem?
  intro j
  by_cases e : i = j
  · subst e; rw [List.getElem?_set_self (List.getElem?_eq_some_iff.mp h).1, h]
  · rw [List.getElem?_set_ne e]
theorem slots_mut {K : PySem.W.Frag} {B : Hp} {Γ : List Ent} {O : Hp} {σ : L2.St} {i : Nat} {ds : List Dt} (s : Slots K B Γ O σ) (e : Γ[i]? = some (some (.lst (ds.map Own.dat)))) :
    ∃ l vs, σ[i]? = some (some (.ref l)) ∧ O l = some (.lst vs) ∧ RpA K B ds vs ∧ ∀ ds' vs', RpA K B ds' vs' → Slots K B (Γ.set i (some (.lst (ds'.map Own.dat)))) (upd O l (.lst vs')) σ := by
  obtain ⟨v, O1, O2, e1, a, dj, rfl, k, _⟩ := s.at e
  unfold Ow at a
  obtain ⟨l, vs, O', rfl, oa, n', rfl⟩ := a
  obtain ⟨ra, rfl⟩ := oa.dats
  refine ⟨l, vs, e1, jn_some upd_same, ra, fun ds' vs' r => ?_⟩
  have nl : O2 l = none := by
    rcases dj l with x | x
    · rw [upd_same] at x; cases x
    · exact x
  have z := k B (.lst (ds'.map Own.dat)) (upd emp l (.lst vs')) (.ref l) (Same.refl _) (by
    unfold Ow
    exact ⟨l, vs', emp, rfl, owa_dats r, rfl, rfl⟩) (Dj.upd emp_dj nl)
  rw [set_same e1] at z
  rw [upd_jn, upd_upd]
  exact z
section
variable {F : Fx} {Γ Γ' Γe : List Ent} {T : List (V × Own)} {σ : L2.St} {H H' : Hp} {v : V} {Er : L2.St → Exn → Hp → Prop} {ρ α β γ δ S : Type} {W : R ρ → Prop} {D : Ends} {ta tb tc te : TE} {tt uu : TT} {i j : Int} {d e : Dt} {c : Bool} {ds : List Dt} {n : Nat}
theorem Stt.mutL (h : Stt F Γ T σ H) (e : Γ[n]? = some (some (.lst (ds.map Own.dat)))) : ∃ l vs, σ[n]? = some (some (.ref l)) ∧ H l = some (.lst vs) ∧ vs.length = ds.length ∧
    (∀ d u ds' vs', (∀ B, RpA F.K B ds vs → RpA F.K B ds' vs' ∧ Rp F.K B d u) → Stt F (Γ.set n (some (.lst (ds'.map Own.dat)))) ((u, .dat d) :: T) σ (upd H l (.lst vs'))) := by
  obtain ⟨B, O, s, p, q⟩ := h
  have e' : (T.map (fun p => some p.2) ++ Γ)[T.length + n]? = some (some (.lst (ds.map Own.dat))) := by
    rw [List.getElem?_append_right (by simp)]
    simpa using e
  obtain ⟨l, vs, e1, eo, ra, k⟩ := slots_mut s e'
  rw [List.getElem?_append_right (by simp)] at e1
  refine ⟨l, vs, by simpa using e1, p.oh _ _ eo, ra.length, fun d u ds' vs' hr => ?_⟩
  obtain ⟨r1, r2⟩ := hr B ra
  have z := k ds' vs' r1
  rw [List.set_append_right _ _ (by simp)] at z
  simp only [List.length_map, Nat.add_sub_cancel_left] at z
  have z2 := slots_own (ow_dat r2) z emp_dj
  rw [emp_jn] at z2
  exact ⟨B, _, z2, p.mut eo, q⟩
theorem Stt.mutTop {u : V} (h : Stt F Γ ((u, .dat d) :: T) σ H) (e : Γ[n]? = some (some (.lst (ds.map Own.dat)))) : ∃ l vs, σ[n]? = some (some (.ref l)) ∧ H l = some (.lst vs) ∧ vs.length = ds.length ∧
    (∀ ds' vs', (∀ B, RpA F.K B ds vs → Rp F.K B d u → RpA F.K B ds' vs') → Stt F (Γ.set n (some (.lst (ds'.map Own.dat)))) T σ (upd H l (.lst vs'))) := by
  obtain ⟨B, O1, O2, a, s, dj, p, q⟩ := h.top
  obtain ⟨ru, rfl⟩ := a.rp
  rw [emp_jn] at p
  have e' : (T.map (fun p => some p.2) ++ Γ)[T.length + n]? = some (some (.lst (ds.map Own.dat))) := by
    rw [List.getElem?_append_right (by simp)]
    simpa using e
  obtain ⟨l, vs, e1, eo, ra, k⟩ := slots_mut s e'
  rw [List.getElem?_append_right (by simp)] at e1
  refine ⟨l, vs, by simpa using e1, p.oh _ _ eo, ra.length, fun ds' vs' hr => ?_⟩
  have z := k ds' vs' (hr B ra ru)
  rw [List.set_append_right _ _ (by simp)] at z
  simp only [List.length_map, Nat.add_sub_cancel_left] at z
  exact ⟨B, _, z, p.mut eo, q⟩
def MP (F : Fx) (Γe : List Ent) (Er : L2.St → Exn → Hp → Prop) (te : TE) (Γ : List Ent) (n : Nat) (enc : β → Dt) (m : R (α × List β)) (t : α → Own) : Prop :=
  ∀ (ρ : Type) (W : R ρ → Prop) (k : α × List β → R ρ) T σ H, WOk F Γe Er W → W (m.bind k) → Stt F Γ T σ H → ∀ Q : VK, (∀ a xs v H', W (k (a, xs)) → Stt F (Γ.set n (some (oL enc xs))) ((v, t a) :: T) σ H' → Q v H') → te σ H Q
def popR [Inhabited α] (xs : List α) : R (α × List α) := R.guard (0 < xs.length) (R.ok ((xs.getLast?).getD default, xs.dropLast))
theorem map_dropLast' (f : α → β) (xs : List α) : (xs.dropLast).map f = (xs.map f).dropLast := by simp [List.map_dropLast]
theorem getLastD_get [Inhabited α] {xs : List α} (h : 0 < xs.length) : xs[xs.length - 1]? = some ((xs.getLast?).getD default) := by
  cases xs with
  | nil => simp at h
  | cons x xs => rw [← List.getLast?_eq_getElem?, List.getLast?_cons]; rfl
theorem mp_pop [Inhabited α] {enc : α → Dt} {xs : List α} (he : Γ[n]? = some (some (oL enc xs))) : MP F Γe Er (tBM0 F.K "list" rPop (tVar n)) Γ n enc (popR xs) (oD enc) := fun _ W k T σ H ok w s Q q => by
  have w2 : W (R.guard (0 < xs.length) (k ((xs.getLast?).getD default, xs.dropLast))) := by
    unfold popR R.guard at w
    unfold R.guard
    by_cases z : 0 < xs.length
    · rw [if_pos z] at w ⊢; exact w
    · rw [if_neg z] at w; exact absurd w ok.bad
  obtain ⟨hl, w3⟩ := R.guard_ok ok w2
  obtain ⟨l, vs, e1, e2, e3, k2⟩ := s.mutL (ds := xs.map enc) he
  rw [List.length_map] at e3
  obtain ⟨u, hu⟩ : ∃ u, vs[vs.length - 1]? = some u := ⟨_, List.getElem?_eq_getElem (by omega)⟩
  refine ⟨.ref l, e1, .inl ⟨rfl, _, SqL.of e2⟩, l, vs, u, rfl, rfl, e2, hu, ?_⟩
  refine q _ _ u _ w3 ?_
  have z := k2 (enc ((xs.getLast?).getD default)) u ((xs.map enc).dropLast) vs.dropLast fun B r => ⟨r.dropLast, by
    have hg : (xs.map enc)[vs.length - 1]? = some (enc ((xs.getLast?).getD default)) := by rw [e3, List.getElem?_map, getLastD_get hl]; rfl
    obtain ⟨u', e', ru⟩ := r.get hg
    rw [hu] at e'
    cases e'
    exact ru⟩
  rw [← map_dropLast'] at z
  exact z
theorem mp_guard {enc : β → Dt} {p : Prop} [Decidable p] {m : R (α × List β)} {t : α → Own} (h : p → MP F Γe Er te Γ n enc m t) : MP F Γe Er te Γ n enc (R.guard p m) t := fun _ W k T σ H ok w s Q q => by
  unfold R.guard at w
  by_cases c : p
  · rw [if_pos c] at w; exact h c _ W k T σ H ok w s Q q
  · rw [if_neg c] at w; exact absurd w ok.bad
def MPA (F : Fx) (Γe : List Ent) (Er : L2.St → Exn → Hp → Prop) (tr : TA) (Γ : List Ent) (n : Nat) (enc : β → Dt) (m : R (α × List β)) (ds : α → List Dt) : Prop :=
  ∀ (ρ : Type) (W : R ρ → Prop) (k : α × List β → R ρ) T σ H, WOk F Γe Er W → W (m.bind k) → Stt F Γ T σ H → ∀ Q : List V → Hp → Prop, (∀ a xs vs H', W (k (a, xs)) → SttA F (Γ.set n (some (oL enc xs))) T vs (ds a) σ H' → Q vs H') → tr σ H Q
theorem mpa_cons {tr : TA} {enc : β → Dt} {m : R (α × List β)} {e1 : α → Dt} {ds : α → List Dt} (h : MP F Γe Er te Γ n enc m fun a => .dat (e1 a)) (h2 : ∀ a xs, EvA F tr (Γ.set n (some (oL enc xs))) (ds a)) : MPA F Γe Er (tCons te tr) Γ n enc m fun a => e1 a :: ds a := fun _ W k T σ H ok w s Q q =>
  h _ W k T σ H ok w s _ fun a xs v H1 w1 s1 => h2 a xs _ σ H1 s1 _ fun vs H2 s2 _ => q a xs (v :: vs) H2 w1 s2.cons
theorem mpa_consP {tr : TA} {enc : β → Dt} {m : R (α × List β)} {ds : α → List Dt} (h1 : Ev F te Γ (.dat d)) (h2 : MPA F Γe Er tr Γ n enc m ds) : MPA F Γe Er (tCons te tr) Γ n enc m fun a => d :: ds a := fun _ W k T σ H ok w s Q q =>
  h1 T σ H s _ fun v H1 s1 _ => h2 _ W k _ σ H1 ok w s1 _ fun a xs vs H2 w2 s2 => q a xs (v :: vs) H2 w2 s2.cons
theorem mp_call {X : Type} {Ce : Exn → Addr} {nn : Nat} {argT : X → List Dt} {m : X → R γ} {res : γ → Own} {tr : TA} {enc : β → Dt} {ds : α → List Dt} {Ex : L2.St → XK} {mx : R (α × List β)} (x : α → X)
    (ha : MPA F Γe Er tr Γ n enc mx ds) (hx : ∀ b, argT (x b) = ds b) (hn : ∀ b, (ds b).length = nn) (hE : ∀ σ e H', Er σ e H' → ErrAt Ce (Ex σ) e H') (wk : ∀ xs, Wk (Γ.set n (some (oL enc xs))) Γe) :
    MP F Γe Er (tCallS (spD F.K Ce nn argT m res) Ex tr) Γ n enc (mx.bind fun b => (m (x b.1)).bind fun r => R.ok (r, b.2)) res := fun _ W k T σ H ok w s Q q => by
  rw [R.bind_assoc] at w
  refine ha _ W _ T σ H ok w s _ fun b xs vs H1 w1 A => ?_
  rw [R.bind_assoc] at w1
  exact call_goS (x b) (hx b) (hn b) A ok (hE σ) (wk xs) w1 fun a v H2 w2 s2 _ => q a xs v H2 w2 s2
theorem s_asgP {jn_ : Nat} {enc : β → Dt} {m : R (α × List β)} {t : α → Own} {k : α → List β → R ρ} (hst : Stt F Γ T σ H) (hw : W (m.bind (R.sp2 k))) (ok : WOk F Γe Er W) (h : MP F Γe Er te Γ n enc m t) (hj : jn_ < Γ.length) (ni : NI F jn_)
    (q : ∀ a xs σ' H', W (k a xs) → Stt F ((Γ.set n (some (oL enc xs))).set jn_ (some (t a))) T σ' H' → D.nx σ' H') : tAsg te (gName jn_) D σ H :=
  h _ W _ T σ H ok hw hst _ fun a xs v H1 w s1 => q a xs _ H1 w (s1.assign (by rw [List.length_set]; exact hj) ni)
theorem s_dropP {enc : β → Dt} {m : R (α × List β)} {t : α → Own} {k : List β → R ρ} (hst : Stt F Γ T σ H) (hw : W (m.bind (R.sp2 fun _ xs => k xs))) (ok : WOk F Γe Er W) (h : MP F Γe Er te Γ n enc m t)
    (q : ∀ xs σ' H', W (k xs) → Stt F (Γ.set n (some (oL enc xs))) T σ' H' → D.nx σ' H') : tDrop te D σ H :=
  h _ W _ T σ H ok hw hst _ fun a xs v H1 w s1 => q xs σ H1 w s1.pop
theorem s_appP {n1 : Nat} {enc1 : α → Dt} {enc : β → Dt} {xs : List α} {m : R (α × List β)} {k : List β → List α → R ρ} (hst : Stt F Γ T σ H) (hw : W (m.bind (R.sp2 fun a ys => R.guard (gL xs) ((R.ok (xs ++ [a])).bind fun zs => k ys zs)))) (ok : WOk F Γe Er W)
    (he : Γ[n1]? = some (some (oL enc1 xs))) (hne : n ≠ n1) (h : MP F Γe Er te Γ n enc m (oD enc1))
    (q : ∀ ys zs σ' H', W (k ys zs) → Stt F ((Γ.set n (some (oL enc ys))).set n1 (some (oL enc1 zs))) T σ' H' → D.nx σ' H') : tDrop (tBM F.K "list" rAppend (tVar n1) (tCons te tNil)) D σ H := by
  obtain ⟨l, vs, e1, e2, e3, _⟩ := hst.mutL (ds := xs.map enc1) he
  refine ⟨.ref l, e1, .inl ⟨rfl, _, SqL.of e2⟩, ?_⟩
  refine h _ W _ T σ H ok hw hst _ fun a ys u H1 w s1 => ?_
  have w : W (R.guard (gL xs) ((R.ok (xs ++ [a])).bind fun zs => k ys zs)) := w
  obtain ⟨hl, w⟩ := R.guard_ok ok w
  have he' : (Γ.set n (some (oL enc ys)))[n1]? = some (some (.lst ((xs.map enc1).map Own.dat))) := by rw [List.getElem?_set_ne hne]; exact he
  obtain ⟨l', us, f1, f2, f3, k2⟩ := s1.mutTop he'
  rw [e1] at f1
  cases f1
  refine ⟨l, us, u, rfl, rfl, f2, by rw [f3, List.length_map]; exact line_lt hl, ?_⟩
  have z := k2 ((xs ++ [a]).map enc1) (us ++ [u]) fun B r ru => by rw [List.map_append]; exact r.append (RpA.one ru)
  exact q ys (xs ++ [a]) σ _ w z
theorem s_setL {enc : α → Dt} {xs : List α} {m : R α} {k : List α → R ρ} (hst : Stt F Γ T σ H) (hw : W (m.bind fun a => R.guard (inB xs i) ((R.ok (setI xs i a)).bind k))) (ok : WOk F Γe Er W) (he : Γ[n]? = some (some (oL enc xs))) (h : MV F Γe Er te Γ m (oD enc)) (hi : Ev F ta Γ (.dat (.int i)))
    (q : ∀ ys σ' H', W (k ys) → Stt F (Γ.set n (some (oL enc ys))) T σ' H' → D.nx σ' H') : tAsg te (gSub (tVar n) ta rSetL) D σ H := by
  refine h _ W _ T σ H ok hw hst _ fun a u H1 w s1 e1 => ?_
  obtain ⟨hb, w⟩ := R.guard_ok ok w
  obtain ⟨l, vs, f1, _⟩ := s1.mutTop (ds := xs.map enc) he
  refine ⟨.ref l, f1, hi _ σ H1 s1 _ fun iv H2 s2 e2 => ?_⟩
  obtain ⟨B, _, r⟩ := s2.topd
  obtain ⟨l', us, g1, g2, g3, k2⟩ := s2.pop.mutTop (ds := xs.map enc) he
  rw [f1] at g1
  cases g1
  rw [List.length_map] at g3
  refine ⟨l, us, i, ixI xs i, rfl, rp_int r, g2, ?_, ?_⟩
  · have := ixN_of (n := us.length) (i := i) (by rw [g3]; exact hb)
    rw [this]
    unfold ixI
    rw [g3]
  · have z := k2 ((setI xs i a).map enc) (us.set (ixI xs i) u) fun B r ru => by
      have e : (setI xs i a).map enc = (xs.map enc).set (ixI xs i) (enc a) := by unfold setI; rw [List.map_set]
      rw [e]
      exact r.set _ ru
    exact q (setI xs i a) σ _ w z
theorem ev_catU {enc : α → Dt} {xs ys : List α} (hb : (xs ++ ys).length ≤ 16777216) (h1 : Ev F ta Γ (.dat (eU enc xs))) (h2 : Ev F tb Γ (.dat (eU enc ys))) : Ev F (tOp (rCatA F.K) ta tb) Γ (.dat (eU enc (xs ++ ys))) :=
  ev_op h1 h2 fun Γ T σ H x y s Q q => by
    obtain ⟨B, O1, O2, a, b, c, p, ii⟩ := s.top
    rw [List.map_cons, List.map_cons] at b
    unfold Slots at b
    obtain ⟨w, r', P1, P2, e, a2, b2, c2, rfl⟩ := b
    cases e
    obtain ⟨r1, rfl⟩ := a.rp
    obtain ⟨r2, rfl⟩ := a2.rp
    have r2 : Rp F.K B (.tup (xs.map enc)) x := r2
    have r1 : Rp F.K B (.tup (ys.map enc)) y := r1
    unfold Rp at r1 r2
    obtain ⟨m, us, rfl, hm, ru⟩ := r1
    obtain ⟨l, vs, rfl, hl, rv⟩ := r2
    rw [emp_jn, emp_jn] at p
    have lu : us.length = ys.length := by rw [ru.length, List.length_map]
    have lv : vs.length = xs.length := by rw [rv.length, List.length_map]
    have app : RpA F.K B ((xs ++ ys).map enc) (vs ++ us) := by rw [List.map_append]; exact rv.append ru
    have one : ∀ {w : V} {zs : List α} (hz : Rp F.K B (.tup (zs.map enc)) w), Stt F Γ ((w, .dat (eU enc zs)) :: T) σ H := fun hz => by
      have z := slots_own (ow_dat hz) b2 emp_dj
      rw [emp_jn] at z
      exact ⟨B, P2, z, p, ii⟩
    refine ⟨l, m, vs, us, rfl, rfl, sqt_mono p.bh hl, sqt_mono p.bh hm, by rw [lu, lv]; rw [List.length_append] at hb; exact line_le hb, fun z => ?_, fun z1 z2 => ?_, fun z1 z2 t ht => ?_⟩
    · subst z
      have : xs = [] := List.eq_nil_of_length_eq_zero (by rw [← lv]; rfl)
      subst this
      exact q _ H (one (by unfold Rp; exact ⟨m, us, rfl, hm, ru⟩)) (Same.refl _)
    · subst z2
      have : ys = [] := List.eq_nil_of_length_eq_zero (by rw [← lu]; rfl)
      subst this
      rw [List.append_nil] at q
      exact q _ H (one (by unfold Rp; exact ⟨l, vs, rfl, hl, rv⟩)) (Same.refl _)
    · exact q _ _ (SttA.tup ⟨B, P2, app, b2, p, ii⟩ ht) (same_upd ht)
theorem ev_tupLE {enc : α → Dt} {xs : List α} (h : EvL F te Γ (xs.map enc)) : Ev F (tCB (rTupK F.K) (tCons te tNil)) Γ (.dat (eU enc xs)) := ev_tupleL h
def inA (d : Dt) (ns : List (List Nat)) : Bool := match d with
  | .str x => decide (lt x ∈ ns)
  | _ => false
def flatD (d : Dt) : Bool := d.isI || d.isX
theorem inV_intS (i : Int) : ∀ ns : List Str, inV (.int i) (ns.map V.str) = false
  | [] => by simp [inV]
  | n :: ns => by
    have ih := inV_intS i ns
    unfold inV at ih ⊢
    rw [List.map_cons, List.any_cons, ih]
    rfl
theorem ev_inTA {ns : List (List Nat)} (g : flatD d = true) (h1 : Ev F ta Γ (.dat d)) (h2 : Ev F tb Γ (.dat (eU eS ns))) : Ev F (tOp (rIn F.K false) ta tb) Γ (.dat (.bl (inA d ns))) := by
  unfold eU at h2
  rw [map_eS] at h2
  cases d with
  | str x =>
    have h1' : Ev F ta Γ (.dat (eS (lt x))) := ev_is h1 (by rw [eS, Sx_lt])
    have := ev_inTS (neg := false) h1' h2
    simp only [mem_Sx] at this
    exact this
  | int i =>
    exact ev_op h1 h2 (op2_val _ (fun B => by unfold Rp; rfl) fun B H x y Q eb h1 h2 q => by
      rw [rp_int h1]
      unfold Rp at h2
      obtain ⟨a, xs, rfl, hs, ra⟩ := h2
      rw [rpa_strs ra] at hs
      exact ⟨a, _, rfl, .inr (sqt_mono eb hs), rfl, flat_strs _, by rw [inV_intS]; exact q⟩)
  | _ => cases g
def b2I (b : Bool) : Int := if b then 1 else 0
abbrev rInt1 : List V → Hp → VK → Prop := fun xs H Q => (∃ i, xs = [.int i] ∧ Q (.int i) H) ∨ ∃ k, xs = [.bl k] ∧ Q (.int (if k then 1 else 0)) H
theorem ev_intB {b : Bool} (h : Ev F te Γ (.dat (.bl b))) : Ev F (tCB rInt1 (tCons te tNil)) Γ (.dat (.int (b2I b))) := fun T σ H s Q q =>
  h T σ H s _ fun v H1 s1 e1 => by
    obtain ⟨B, _, r⟩ := s1.topd
    exact .inr ⟨b, by rw [rp_bl r], q _ H1 (s1.pop.push fun _ _ => by unfold Rp; rfl) e1⟩
end
def CDivWN (_ j : Int) : Prop := j ≠ 0 ∧ j.natAbs.log2 < 9000
instance (i j : Int) : Decidable (CDivWN i j) := by unfold CDivWN; infer_instance
theorem op_fdivWN {X : Cx} : OpR X (binaryOp .FloorDiv) (rI CDivWN fun i j => .int (i.fdiv j)) := opI fun _ _ _ _ _ _ _ hc q => PyProof.Rows.floordiv_int hc.1 q (.inl (PyProof.noPylong_of_log2 hc.2))
theorem ev_divWN {F : Fx} {Γ : List Ent} {ta tb : TE} {i j : Int} (hc : CDivWN i j) (h1 : Ev F ta Γ (.dat (.int i))) (h2 : Ev F tb Γ (.dat (.int j))) : Ev F (tOp (rI CDivWN fun i j => .int (i.fdiv j)) ta tb) Γ (.dat (.int (i.fdiv j))) := ev_op h1 h2 (op2_I (g := fun i j => i.fdiv j) hc)
def kS (l : List Nat) : Key := .inr (Sx l)
def kI (i : Int) : Key := .inl i
theorem kS_inj {a b : List Nat} : kS a = kS b ↔ a = b := by unfold kS; rw [Sum.inr.injEq, Sx_inj]
theorem kI_inj {a b : Int} : kI a = kI b ↔ a = b := by unfold kI; rw [Sum.inl.injEq]
section
variable {α β : Type} [DecidableEq α]
abbrev eK (kk : α → Key) (e : β → Dt) (kvs : List (α × β)) : Dt := .dk (kvs.map fun p => kk p.1) (kvs.map fun p => e p.2)
abbrev oK (kk : α → Key) (e : β → Dt) (kvs : List (α × β)) : Own := .dK (kvs.map fun p => kk p.1) ((kvs.map fun p => e p.2).map Own.dat)
def getD? (kvs : List (α × β)) (k : α) : Option β := (kvs.find? fun p => decide (p.1 = k)).map (·.2)
def putD (kvs : List (α × β)) (k : α) (v : β) : List (α × β) := if (kvs.any fun p => decide (p.1 = k)) = true then kvs.map (fun p => if p.1 = k then (p.1, v) else p) else kvs ++ [(k, v)]
theorem zip_get {K : PySem.W.Frag} {B : Hp} {kk : α → Key} {e : β → Dt} (inj : ∀ a b, kk a = kk b → a = b) {k : α} : ∀ {kvs : List (α × β)} {vs : List V}, RpA K B (kvs.map fun p => e p.2) vs →
    (valV ((kvs.map fun p => kk p.1).zip vs) (kk k) = none ∧ getD? kvs k = none) ∨ ∃ v b, valV ((kvs.map fun p => kk p.1).zip vs) (kk k) = some v ∧ getD? kvs k = some b ∧ Rp K B (e b) v
  | [], vs, h => .inl ⟨rfl, rfl⟩
  | p :: kvs, vs, h => by
    rw [List.map_cons] at h
    unfold RpA at h
    obtain ⟨v, r, rfl, h1, h2⟩ := h
    rw [List.map_cons, List.zip_cons_cons]
    by_cases c : p.1 = k
    · refine .inr ⟨v, p.2, valV_pos (by rw [c]), ?_, h1⟩
      unfold getD?
      rw [List.find?_cons, decide_eq_true c]
      rfl
    · have c' : ¬ kk p.1 = kk k := fun z => c (inj _ _ z)
      have e1 : getD? (p :: kvs) k = getD? kvs k := by
        unfold getD?
        rw [List.find?_cons, decide_eq_false c]
      have e2 : valV ((kk p.1, v) :: (kvs.map fun p => kk p.1).zip r) (kk k) = valV ((kvs.map fun p => kk p.1).zip r) (kk k) := valV_neg c'
      rw [e1, e2]
      exact zip_get inj h2
theorem zip_any {kk : α → Key} (inj : ∀ a b, kk a = kk b → a = b) {k : α} : ∀ {kvs : List (α × β)} {vs : List V}, vs.length = kvs.length → (((kvs.map fun p => kk p.1).zip vs).any fun kv => decide (kv.1 = kk k)) = kvs.any fun p => decide (p.1 = k)
  | [], vs, _ => rfl
  | p :: kvs, [], h => by simp at h
  | p :: kvs, v :: vs, h => by
    rw [List.map_cons, List.zip_cons_cons, List.any_cons, List.any_cons, zip_any inj (by simpa using h)]
    congr 1
    by_cases c : p.1 = k
    · rw [decide_eq_true c, decide_eq_true (by rw [c])]
    · rw [decide_eq_false c, decide_eq_false fun z => c (inj _ _ z)]
theorem zip_map {K : PySem.W.Frag} {B : Hp} {kk : α → Key} {e : β → Dt} (inj : ∀ a b, kk a = kk b → a = b) {k : α} {b : β} {u : V} (hu : Rp K B (e b) u) : ∀ {kvs : List (α × β)} {vs : List V}, RpA K B (kvs.map fun p => e p.2) vs →
    ∃ ws, ((kvs.map fun p => kk p.1).zip vs).map (fun kv => if kv.1 = kk k then (kv.1, u) else kv) = ((kvs.map fun p => if p.1 = k then (p.1, b) else p).map fun p => kk p.1).zip ws ∧ RpA K B ((kvs.map fun p => if p.1 = k then (p.1, b) else p).map fun p => e p.2) ws
  | [], vs, h => ⟨[], rfl, rpa_nil⟩
  | p :: kvs, vs, h => by
    rw [List.map_cons] at h
    unfold RpA at h
    obtain ⟨v, r, rfl, h1, h2⟩ := h
    obtain ⟨ws, q1, q2⟩ := zip_map inj (k := k) hu h2
    by_cases c : p.1 = k
    · refine ⟨u :: ws, ?_, ?_⟩
      · simp only [List.map_cons, List.zip_cons_cons, q1]
        rw [if_pos (by rw [c]), if_pos c]
      · rw [List.map_cons, List.map_cons, if_pos c]
        exact rpa_cons hu q2
    · refine ⟨v :: ws, ?_, ?_⟩
      · simp only [List.map_cons, List.zip_cons_cons, q1]
        rw [if_neg fun z => c (inj _ _ z), if_neg c]
      · rw [List.map_cons, List.map_cons, if_neg c]
        exact rpa_cons h1 q2
theorem zip_put {K : PySem.W.Frag} {B : Hp} {kk : α → Key} {e : β → Dt} (inj : ∀ a b, kk a = kk b → a = b) {k : α} {b : β} {u : V} (hu : Rp K B (e b) u) {kvs : List (α × β)} {vs : List V} (h : RpA K B (kvs.map fun p => e p.2) vs) :
    ∃ ws, putK ((kvs.map fun p => kk p.1).zip vs) (kk k) u = ((putD kvs k b).map fun p => kk p.1).zip ws ∧ RpA K B ((putD kvs k b).map fun p => e p.2) ws := by
  have hl : vs.length = kvs.length := by rw [h.length, List.length_map]
  unfold putK putD
  rw [zip_any inj hl]
  by_cases c : (kvs.any fun p => decide (p.1 = k)) = true
  · rw [if_pos c, if_pos c]
    exact zip_map inj hu h
  · rw [if_neg c, if_neg c]
    refine ⟨vs ++ [u], ?_, ?_⟩
    · rw [List.map_append, List.zip_append (by simp [hl])]
      rfl
    · rw [List.map_append]
      exact h.append (RpA.one hu)
theorem putD_len {kvs : List (α × β)} {k : α} {b : β} : (putD kvs k b).length ≤ kvs.length + 1 := by
  unfold putD
  split
  · rw [List.length_map]; omega
  · rw [List.length_append]; exact Nat.le_refl _
end
theorem slots_mutK {K : PySem.W.Frag} {B : Hp} {Γ : List Ent} {O : Hp} {σ : L2.St} {i : Nat} {ks : List Key} {ds : List Dt} (s : Slots K B Γ O σ) (e : Γ[i]? = some (some (.dK ks (ds.map Own.dat)))) :
    ∃ l vs, σ[i]? = some (some (.ref l)) ∧ O l = some (.dK (ks.zip vs)) ∧ ks.length = ds.length ∧ RpA K B ds vs ∧ ∀ ks' ds' vs', ks'.length = ds'.length → RpA K B ds' vs' → Slots K B (Γ.set i (some (.dK ks' (ds'.map Own.dat)))) (upd O l (.dK (ks'.zip vs'))) σ := by
  obtain ⟨v, O1, O2, e1, a, dj, rfl, k, _⟩ := s.at e
  unfold Ow at a
  obtain ⟨l, vs, O', rfl, oa, n', hkl, rfl⟩ := a
  obtain ⟨ra, rfl⟩ := oa.dats
  refine ⟨l, vs, e1, jn_some upd_same, by simpa using hkl, ra, fun ks' ds' vs' hk' r => ?_⟩
  have nl : O2 l = none := by
    rcases dj l with x | x
    · rw [upd_same] at x; cases x
    · exact x
  have z := k B (.dK ks' (ds'.map Own.dat)) (upd emp l (.dK (ks'.zip vs'))) (.ref l) (Same.refl _) (by
    unfold Ow
    exact ⟨l, vs', emp, rfl, owa_dats r, rfl, by simpa using hk', rfl⟩) (Dj.upd emp_dj nl)
  rw [set_same e1] at z
  rw [upd_jn, upd_upd]
  exact z
section
variable {F : Fx} {Γ Γ' Γe : List Ent} {T : List (V × Own)} {σ : L2.St} {H H' : Hp} {v : V} {Er : L2.St → Exn → Hp → Prop} {ρ α β γ δ S : Type} {W : R ρ → Prop} {D : Ends} {ta tb tc te : TE} {tt uu : TT} {i j : Int} {d e : Dt} {c : Bool} {ds : List Dt} {n : Nat} [DecidableEq α] {kk : α → Key} {enc : β → Dt}
theorem ev_dnewO : Ev F tDNewK Γ (oK kk enc ([] : List (α × β))) := fun T σ H s Q q p hp => by
  refine q _ _ (s.new hp fun B _ O _ => ?_) (same_upd hp)
  unfold Ow
  exact ⟨p, [], emp, rfl, owa_nil, rfl, rfl, rfl⟩
theorem Stt.freezeK {i : Nat} {ks : List Key} {ds : List Dt} (h : Stt F Γ T σ H) (e : Γ[i]? = some (some (.dK ks (ds.map Own.dat)))) : Stt F (Γ.set i (some (.dat (.dk ks ds)))) T σ H := by
  obtain ⟨B, O, s, p, q⟩ := h
  have e' : (T.map (fun p => some p.2) ++ Γ)[T.length + i]? = some (some (.dK ks (ds.map Own.dat))) := by
    rw [List.getElem?_append_right (by simp)]
    simpa using e
  obtain ⟨v, O1, O2, e1, a, d, rfl, k, _⟩ := s.at e'
  unfold Ow at a
  obtain ⟨l, vs, O', rfl, oa, n, hkl, rfl⟩ := a
  obtain ⟨r, rfl⟩ := oa.dats
  have nB : B l = none := by
    rcases p.dj.rl l with z | z
    · exact z
    · rw [upd_same] at z; cases z
  refine ⟨jn B (upd emp l (.dK (ks.zip vs))), O2, ?_, p.freeze d, q⟩
  have kk : Rp F.K (jn B (upd emp l (.dK (ks.zip vs)))) (.dk ks ds) (.ref l) := by
    unfold Rp
    exact ⟨l, vs, rfl, by rw [jn_none nB, upd_same], by simpa using hkl, r.mono same_jnl⟩
  have z := k _ _ emp (.ref l) same_jnl (ow_dat kk) emp_dj
  rw [emp_jn, List.set_append_right _ _ (by simp), List.set_append_right _ _ (by simp)] at z
  rw [List.getElem?_append_right (by simp)] at e1
  have e2 : σ[i]? = some (some (V.ref l)) := by simpa using e1
  simp only [List.length_map, Nat.add_sub_cancel_left] at z
  rw [set_same e2] at z
  exact z
theorem s_dputK {kvs : List (α × β)} {kd : α → Dt} {ky : α} {m : R β} {k : List (α × β) → R ρ} (inj : ∀ a b, kk a = kk b → a = b) (hkd : ∀ B v, Rp F.K B (kd ky) v → v = kV (kk ky)) (hst : Stt F Γ T σ H) (hw : W (m.bind fun b => R.guard (gL kvs) ((R.ok (putD kvs ky b)).bind k))) (ok : WOk F Γe Er W)
    (he : Γ[n]? = some (some (oK kk enc kvs))) (h : MV F Γe Er te Γ m (oD enc)) (hk : Ev F ta Γ (.dat (kd ky)))
    (q : ∀ kvs' σ' H', W (k kvs') → Stt F (Γ.set n (some (oK kk enc kvs'))) T σ' H' → D.nx σ' H') : sDPut (tVar n) ta te D σ H := by
  refine h _ W _ T σ H ok hw hst _ fun b u H1 w s1 e1 => ?_
  obtain ⟨hl, w⟩ := R.guard_ok ok w
  have e' : ∀ T : List (V × Own), (T.map (fun p => some p.2) ++ Γ)[T.length + n]? = some (some (oK kk enc kvs)) := fun T => by
    rw [List.getElem?_append_right (by simp)]
    simpa using he
  obtain ⟨B0, O0, sl0, p0, ii0⟩ := id s1
  obtain ⟨l, vs0, f1, _⟩ := slots_mutK sl0 (e' _)
  rw [List.getElem?_append_right (by simp)] at f1
  have f1 : σ[n]? = some (some (.ref l)) := by simpa using f1
  refine ⟨.ref l, f1, hk _ σ H1 s1 _ fun kv H2 s2 e2 => ?_⟩
  obtain ⟨Bk, _, rk⟩ := s2.topd
  have ekv := hkd _ _ rk
  obtain ⟨B, O1, O2, a, sl, dj, p, ii⟩ := s2.pop.top
  obtain ⟨ru, rfl⟩ := a.rp
  rw [emp_jn] at p
  obtain ⟨l', vs, g1, g2, g3, ra, k2⟩ := slots_mutK sl (e' _)
  rw [List.getElem?_append_right (by simp)] at g1
  have g1 : σ[n]? = some (some (.ref l')) := by simpa using g1
  rw [f1] at g1
  cases g1
  obtain ⟨ws, z1, z2⟩ := zip_put (kk := kk) (k := ky) inj ru ra
  have hvl : vs.length = kvs.length := by rw [ra.length, List.length_map]
  refine ⟨l, upd H2 l (.dK (((putD kvs ky b).map fun p => kk p.1).zip ws)), rfl, .inl ⟨_, kk ky, p.oh _ _ g2, ekv, by rw [List.length_zip, List.length_map, hvl, Nat.min_self]; exact line_lt hl, by rw [z1]⟩, ?_⟩
  · have z := k2 ((putD kvs ky b).map fun p => kk p.1) ((putD kvs ky b).map fun p => enc p.2) ws (by rw [List.length_map, List.length_map]) z2
    rw [List.set_append_right _ _ (by simp)] at z
    simp only [List.length_map, Nat.add_sub_cancel_left] at z
    exact q _ σ _ w ⟨B, _, z, p.mut g2, ii⟩
theorem ev_dget2 {kvs : List (α × β)} {kd : α → Dt} {ky : α} {b : β} (inj : ∀ a b, kk a = kk b → a = b) (hkd : ∀ B v, Rp F.K B (kd ky) v → v = kV (kk ky)) (h1 : Ev F ta Γ (.dat (eK kk enc kvs))) (h2 : Ev F tb Γ (.dat (kd ky))) (h3 : Ev F tc Γ (.dat (enc b))) :
    Ev F (tDGet2 ta tb tc) Γ (.dat (enc ((getD? kvs ky).getD b))) := fun T σ H s Q q =>
  h1 T σ H s _ fun v H1 s1 e1 => by
    obtain ⟨B, eb, r⟩ := s1.topd
    unfold Rp at r
    obtain ⟨a, vs, rfl, ha, _, ra⟩ := r
    refine ⟨a, rfl, .inl ⟨_, .inl (eb _ _ ha)⟩, h2 _ σ H1 s1 _ fun kv H2 s2 e2 => h3 _ σ H2 s2 _ fun x H3 s3 e3 => ?_⟩
    obtain ⟨B2, _, rk⟩ := s2.topd
    have ekv := hkd _ _ rk
    refine ⟨_, .inl ⟨_, kk ky, .inl (e3 _ _ (e2 _ _ (eb _ _ ha))), ekv, rfl⟩, ?_⟩
    have ha3 : H3 a = some (.dK ((kvs.map fun p => kk p.1).zip vs)) := e3 _ _ (e2 _ _ (eb _ _ ha))
    have fin : ∀ w, (∀ B', Same B' H3 → Rp F.K B' (eK kk enc kvs) (.ref a) → Rp F.K B' (enc b) x → Rp F.K B' (enc ((getD? kvs ky).getD b)) w) → Q w H3 := fun w hw => by
      obtain ⟨B3, O1, O2, ax, sl, dj, p, ii⟩ := s3.top
      obtain ⟨rx, rfl⟩ := ax.rp
      rw [emp_jn] at p
      rw [List.map_cons, List.map_cons] at sl
      unfold Slots at sl
      obtain ⟨_, _, P1, P2, ee, a2, b2, c2, rfl⟩ := sl
      cases ee
      obtain ⟨_, rfl⟩ := a2.rp
      have b2 : Slots F.K B3 (some (Own.dat (eK kk enc kvs)) :: (T.map (fun p => some p.2) ++ Γ)) P2 (some (V.ref a) :: (T.map (fun p => some p.1) ++ σ)) := b2
      unfold Slots at b2
      obtain ⟨_, _, P3, P4, ee, a3, b3, c3, rfl⟩ := b2
      cases ee
      obtain ⟨rd, rfl⟩ := a3.rp
      rw [emp_jn, emp_jn] at p
      have z := slots_own (ow_dat (hw B3 p.bh rd rx)) b3 emp_dj
      rw [emp_jn] at z
      exact q w H3 ⟨B3, P4, z, p, ii⟩ ((e1.trans e2).trans e3)
    rcases zip_get (kk := kk) (k := ky) inj ra with ⟨z1, z2⟩ | ⟨w, b', z1, z2, z3⟩
    · rw [z1]
      exact fin x fun B' _ _ hx => by rw [z2]; exact hx
    · rw [z1]
      refine fin w fun B' hs hd _ => ?_
      rw [z2]
      unfold Rp at hd
      obtain ⟨a', vs', ea, ha', _, ra'⟩ := hd
      cases ea
      rcases zip_get (kk := kk) (k := ky) inj ra' with ⟨y1, y2⟩ | ⟨w2, b2, y1, y2, y3⟩
      · rw [z2] at y2; cases y2
      · rw [z2] at y2
        cases y2
        have h4 := hs _ _ ha'
        rw [ha3] at h4
        have h5 := Option.some.inj h4
        injection h5 with h6
        rw [← h6, z1] at y1
        cases y1
        exact y3
abbrev rDictD : List V → Hp → VK → Prop := fun xs H Q => ∃ (a : Addr) (kvs : List (Key × V)), xs = [.ref a] ∧ Rd H a (.dK kvs) ∧ ∀ p, H p = none → Q (.ref p) (upd H p (.dK kvs))
theorem ev_dictD {kvs : List (α × β)} (h : Ev F te Γ (.dat (eK kk enc kvs))) : Ev F (tCB rDictD (tCons te tNil)) Γ (.dat (eK kk enc kvs)) := fun T σ H s Q q =>
  h T σ H s _ fun v H1 s1 e1 => by
    obtain ⟨B, O1, O2, a, sl, dj, p, ii⟩ := s1.top
    obtain ⟨r, rfl⟩ := a.rp
    rw [emp_jn] at p
    unfold Rp at r
    obtain ⟨ad, vs, rfl, ha, hl, ra⟩ := r
    refine ⟨ad, _, rfl, .inl (p.bh _ _ ha), fun x hx => q _ _ ⟨upd B x (.dK ((kvs.map fun p => kk p.1).zip vs)), O2, ?_, p.newB hx, ii⟩ (e1.trans (same_upd hx))⟩
    have hB : B x = none := none_of_same p.bh hx
    have k : Rp F.K (upd B x (.dK ((kvs.map fun p => kk p.1).zip vs))) (eK kk enc kvs) (.ref x) := by
      unfold Rp
      exact ⟨x, vs, rfl, upd_same, hl, ra.mono (same_upd hB)⟩
    have z := slots_own (ow_dat k) (sl.mono (same_upd hB)) emp_dj
    rw [emp_jn] at z
    exact z
def gDE [DecidableEq β] (a b : List (α × β)) : Prop := a = b ∧ (a.map (·.1)).Nodup
instance [DecidableEq β] (a b : List (α × β)) : Decidable (gDE a b) := by unfold gDE; infer_instance
theorem valV_nodup {κ : Type} [DecidableEq κ] : ∀ {l : List (κ × V)}, (l.map (·.1)).Nodup → ∀ p ∈ l, valV l p.1 = some p.2
  | [], _, p, h => by simp at h
  | q :: l, n, p, h => by
    rw [List.map_cons, List.nodup_cons] at n
    by_cases c : q.1 = p.1
    · rcases List.mem_cons.mp h with rfl | h
      · exact valV_pos rfl
      · exact absurd (List.mem_map.mpr ⟨p, h, c.symm⟩) n.1
    · rw [valV_neg c]
      rcases List.mem_cons.mp h with rfl | h
      · exact absurd rfl c
      · exact valV_nodup n.2 p h
theorem op2_neK {a b : List (α × Int)} (inj : ∀ a b, kk a = kk b → a = b) (g : gDE a b) : Op2 F rNeDA (.dat (eK kk eI a)) (.dat (eK kk eI b)) (.dat (.bl false)) := op2_val _ (fun B => by unfold Rp; rfl) fun B H x y Q eb h1 h2 q => by
  obtain ⟨rfl, nd⟩ := g
  unfold Rp at h1 h2
  obtain ⟨l, vs, rfl, hl, _, ra⟩ := h1
  obtain ⟨m, us, rfl, hm, _, rb⟩ := h2
  have e1 : (a.map fun p => eI p.2) = (a.map (·.2)).map Dt.int := by rw [List.map_map]; rfl
  rw [e1] at ra rb
  have e2 := rpa_ints ra
  have e3 := rpa_ints rb
  subst e2 e3
  unfold rNeDA
  refine ⟨l, m, _, _, rfl, rfl, eb _ _ hl, eb _ _ hm, rfl, fun p hp => ⟨?_, ?_⟩, q⟩
  · refine valV_nodup ?_ p hp
    have : (((a.map fun p => kk p.1).zip ((a.map (·.2)).map V.int)).map (·.1)) = a.map fun p => kk p.1 := by
      rw [List.map_fst_zip]
      simp
    rw [this]
    have : ((a.map (·.1)).map kk).Nodup := List.Pairwise.map (S := fun x y => x ≠ y) kk (fun x y (h : x ≠ y) (z : kk x = kk y) => h (inj _ _ z)) nd
    rw [List.map_map] at this
    exact this
  · obtain ⟨q1, q2⟩ := List.of_mem_zip hp
    obtain ⟨i, _, e⟩ := List.mem_map.mp q2
    rw [← e]
    rfl
theorem ev_neK {a b : List (α × Int)} (inj : ∀ a b, kk a = kk b → a = b) (g : gDE a b) (h1 : Ev F ta Γ (.dat (eK kk eI a))) (h2 : Ev F tb Γ (.dat (eK kk eI b))) : Ev F (tOp rNeDA ta tb) Γ (.dat (.bl false)) := ev_op h1 h2 (op2_neK inj g)
end
section
variable {F : Fx} {Γ Γ' Γe : List Ent} {T : List (V × Own)} {σ : L2.St} {H H' : Hp} {v : V} {Er : L2.St → Exn → Hp → Prop} {ρ α β γ δ S : Type} {W : R ρ → Prop} {D : Ends} {ta tb tc te : TE} {tt uu : TT} {i j : Int} {d e : Dt} {c : Bool} {ds es : List Dt} {n : Nat}
def gQ (d : Dt) : Prop := d.pl = true ∧ SeqAt.shaped d.py = true
instance (d : Dt) : Decidable (gQ d) := by unfold gQ; infer_instance
theorem eqvAll_nil (ds : List Dt) : PyData.eqvAll (Dt.pys ds) [] = decide (ds = []) := by
  cases ds with
  | nil => simp [Dt.pys, PyData.eqvAll]
  | cons d ds => simp [Dt.pys, PyData.eqvAll]
theorem shaped_nil : gQ (.lst []) := by
  refine ⟨rfl, ?_⟩
  unfold SeqAt.shaped
  simp [Dt.py, Dt.pys, PyData.canLay0, PyData.canLayAll0, PyData.depth, PyData.depthAll]
theorem ev_eqNil {enc : α → Dt} {xs : List α} (g : gQ (eL enc xs)) (h1 : EvQ F ta Γ (eL enc xs)) (h2 : EvQ F tb Γ (.lst [])) : Ev F (tOp (rEqD F.K) ta tb) Γ (.dat (.bl (decide (xs.length = 0)))) := by
  have := ev_eqD h1 h2 g.1 shaped_nil.1 g.2 shaped_nil.2
  have e : PyData.eqv (eL enc xs).py (Dt.lst []).py = decide (xs.length = 0) := by
    show PyData.eqv (.list (Dt.pys (xs.map enc))) (.list []) = _
    rw [PyData.eqv, eqvAll_nil]
    cases xs <;> simp
  rw [e] at this
  exact this
theorem ev_neNil {enc : α → Dt} {xs : List α} (g : gQ (eL enc xs)) (h1 : EvQ F ta Γ (eL enc xs)) (h2 : EvQ F tb Γ (.lst [])) : Ev F (tOp (rNeD F.K) ta tb) Γ (.dat (.bl (!decide (xs.length = 0)))) := by
  have := ev_neD h1 h2 g.1 shaped_nil.1 g.2 shaped_nil.2
  have e : PyData.eqv (eL enc xs).py (Dt.lst []).py = decide (xs.length = 0) := by
    show PyData.eqv (.list (Dt.pys (xs.map enc))) (.list []) = _
    rw [PyData.eqv, eqvAll_nil]
    cases xs <;> simp
  rw [e] at this
  exact this
end
theorem mv_cb1 {F : Fx} {Γ Γe : List Ent} {Er : L2.St → Exn → Hp → Prop} {α β : Type} {te : TE} {r : List V → Hp → VK → Prop} {enc : α → Dt} {enc2 : β → Dt} {f : α → β} {m : R α} (h : MV F Γe Er te Γ m (oD enc)) (u : α → V) (hu : ∀ a B, Rp F.K B (enc2 (f a)) (u a))
    (hr : ∀ a B H v (Q : VK), Same B H → Rp F.K B (enc a) v → Q (u a) H → r [v] H Q) : MV F Γe Er (tCB r (tCons te tNil)) Γ (m.bind fun a => R.ok (f a)) (oD enc2) := fun _ W k T σ H ok w s Q q => by
  rw [R.bind_assoc] at w
  exact h _ W _ T σ H ok w s _ fun a v H1 w1 s1 e1 => by
    obtain ⟨B, eb, rr⟩ := s1.topd
    exact hr a B H1 v Q eb rr (q (f a) _ H1 w1 (s1.pop.push fun B _ => hu a B) e1)
theorem mv_abs {F : Fx} {Γ Γe : List Ent} {Er : L2.St → Exn → Hp → Prop} {te : TE} {m : R Int} (h : MV F Γe Er te Γ m (oD eI)) : MV F Γe Er (tCB (fun xs H Q => ∃ i, xs = [.int i] ∧ Q (.int (if i < 0 then -i else i)) H) (tCons te tNil)) Γ (m.bind fun i => R.ok (absI i)) (oD eI) :=
  mv_cb1 h (fun i => .int (absI i)) (fun i B => by unfold Rp; rfl) fun i B H v Q _ r q => ⟨i, by rw [rp_int r], q⟩
theorem mv_intB {F : Fx} {Γ Γe : List Ent} {Er : L2.St → Exn → Hp → Prop} {te : TE} {m : R Bool} (h : MV F Γe Er te Γ m (oD eB)) : MV F Γe Er (tCB rInt1 (tCons te tNil)) Γ (m.bind fun b => R.ok (b2I b)) (oD eI) :=
  mv_cb1 h (fun b => .int (b2I b)) (fun b B => by unfold Rp; rfl) fun b B H v Q _ r q => .inr ⟨b, by rw [rp_bl r], q⟩
theorem gQ_int (i : Int) : gQ (eI i) := ⟨rfl, by unfold SeqAt.shaped; simp [Dt.py, PyData.canLay0, PyData.depth]⟩
end Sm
namespace Sm
open PySem L2
def Sat {α : Type} (m : R α) (P : α → Prop) : Prop := ∃ a, m = .ok a ∧ P a
section
variable {α β γ S ρ : Type}
theorem sat_ok {a : α} {P : α → Prop} (h : P a) : Sat (.ok a) P := ⟨a, rfl, h⟩
theorem sat_bind {m : R α} {f : α → R β} {Q : α → Prop} {P : β → Prop} (h : Sat m Q) (k : ∀ a, Q a → Sat (f a) P) : Sat (m.bind f) P := by
  obtain ⟨a, rfl, q⟩ := h
  exact k a q
theorem sat_guard {p : Prop} [Decidable p] {m : R α} {P : α → Prop} (h : p) (k : Sat m P) : Sat (R.guard p m) P := by
  unfold R.guard
  rw [if_pos h]
  exact k
theorem sat_if {c : Prop} [Decidable c] {a b : R α} {P : α → Prop} (h1 : c → Sat a P) (h2 : ¬ c → Sat b P) : Sat (if c then a else b) P := by
  by_cases h : c
  · rw [if_pos h]; exact h1 h
  · rw [if_neg h]; exact h2 h
theorem sat_mono {m : R α} {P Q : α → Prop} (h : Sat m P) (k : ∀ a, P a → Q a) : Sat m Q := by
  obtain ⟨a, e, p⟩ := h
  exact ⟨a, e, k a p⟩
theorem sat_eq {m : R α} {a : α} (h : Sat m (· = a)) : m = .ok a := by
  obtain ⟨b, e, rfl⟩ := h
  exact e
theorem sat_of {m : R α} {a : α} {P : α → Prop} (h : m = .ok a) (p : P a) : Sat m P := ⟨a, h, p⟩
theorem sat_calm {m : R α} {P : α → Prop} (h : Sat m P) : Sat m.calm P := by
  obtain ⟨a, rfl, p⟩ := h
  exact ⟨a, rfl, p⟩
theorem sat_or {a b : R Bool} {x y : Bool} (h : Sat a (· = x)) (k : x = false → Sat b (· = y)) : Sat (R.or a b) (· = (x || y)) := by
  obtain ⟨x', rfl, rfl⟩ := h
  cases x' with
  | true => exact ⟨true, rfl, by simp⟩
  | false =>
    obtain ⟨_, rfl, rfl⟩ := k rfl
    exact ⟨_, rfl, by simp⟩
theorem sat_and {a b : R Bool} {x y : Bool} (h : Sat a (· = x)) (k : x = true → Sat b (· = y)) : Sat (R.and a b) (· = (x && y)) := by
  obtain ⟨x', rfl, rfl⟩ := h
  cases x' with
  | false => exact ⟨false, rfl, by simp⟩
  | true =>
    obtain ⟨_, rfl, rfl⟩ := k rfl
    exact ⟨_, rfl, by simp⟩
theorem sat_not {a : R Bool} {x : Bool} (h : Sat a (· = x)) : Sat (R.not a) (· = !x) := by
  obtain ⟨_, rfl, rfl⟩ := h
  exact ⟨_, rfl, rfl⟩
theorem sat_fold {f : α → S → R S} {xs : List α} {s0 : S} (I : List α → S → Prop) (h0 : I [] s0) (step : ∀ pre x suf s, xs = pre ++ x :: suf → I pre s → Sat (f x s) (I (pre ++ [x]))) : Sat (foldR f xs s0) (I xs) := by
  suffices h : ∀ suf pre s, xs = pre ++ suf → I pre s → Sat (foldR f suf s) (I xs) from h xs [] s0 rfl h0
  intro suf
  induction suf with
  | nil => intro pre s e i; rw [List.append_nil] at e; subst e; exact sat_ok i
  | cons x suf ih => intro pre s e i; exact sat_bind (step pre x suf s e i) fun s' i' => ih (pre ++ [x]) s' (by rw [e]; simp) i'
theorem sat_foldI {f : α → S → R S} {xs : List α} {s0 : S} (I : S → Prop) (h0 : I s0) (step : ∀ x s, x ∈ xs → I s → Sat (f x s) I) : Sat (foldR f xs s0) I :=
  sat_fold (fun _ => I) h0 fun pre x suf s e i => step x s (by rw [e]; simp) i
theorem sat_for {f : α → S → R (Ctl S ρ)} {xs : List α} {s0 : S} {P : Ctl S ρ → Prop} (I : List α → S → Prop) (h0 : I [] s0)
    (step : ∀ pre x suf s, xs = pre ++ x :: suf → I pre s → Sat (f x s) fun c => match c with
      | .nx s' => I (pre ++ [x]) s'
      | .rt r => P (.rt r)
      | .bk s' => P (.nx s')) (hd : ∀ s, I xs s → P (.nx s)) : Sat (forR f xs s0) P := by
  suffices h : ∀ suf pre s, xs = pre ++ suf → I pre s → Sat (forR f suf s) P from h xs [] s0 rfl h0
  intro suf
  induction suf with
  | nil => intro pre s e i; rw [List.append_nil] at e; subst e; exact sat_ok (hd s i)
  | cons x suf ih =>
    intro pre s e i
    refine sat_bind (step pre x suf s e i) fun c h => ?_
    cases c with
    | nx s' => exact ih (pre ++ [x]) s' (by rw [e]; simp) h
    | rt r => exact sat_ok h
    | bk s' => exact sat_ok h
theorem sat_any {f : α → Unit → R (Ctl Unit ρ)} {xs : List α} {v : ρ} (p : α → Bool) (h : ∀ x, x ∈ xs → Sat (f x ()) (· = if p x = true then .rt v else .nx ())) : Sat (forR f xs ()) (· = if xs.any p = true then .rt v else .nx ()) := by
  induction xs with
  | nil => exact sat_ok rfl
  | cons x xs ih =>
    refine sat_bind (h x (by simp)) fun c e => ?_
    subst e
    cases hp : p x with
    | true => exact sat_ok (by simp [hp])
    | false =>
      have := ih fun y hy => h y (by simp [hy])
      simpa [hp, Ctl.step] using this
theorem sat_map {f : α → R β} {xs : List α} (Q : α → β → Prop) (h : ∀ x, x ∈ xs → Sat (f x) (Q x)) : Sat (mapR f xs) fun ys => ys.length = xs.length ∧ ∀ (i : Nat) (x : α) (y : β), xs[i]? = some x → ys[i]? = some y → Q x y := by
  induction xs with
  | nil => exact sat_ok ⟨rfl, fun i x y e => by simp at e⟩
  | cons x xs ih =>
    refine sat_bind (sat_calm (h x (by simp))) fun y q => sat_bind (ih fun z hz => h z (by simp [hz])) fun ys hys => sat_ok ⟨by simp [hys.1], fun i a b e1 e2 => ?_⟩
    cases i with
    | zero => simp at e1 e2; subst e1 e2; exact q
    | succ i => simp at e1 e2; exact hys.2 i a b e1 e2
theorem sat_mapM {f : α → R β} {xs : List α} (Q : β → Prop) (h : ∀ x, x ∈ xs → Sat (f x) Q) : Sat (mapR f xs) fun ys => ys.length = xs.length ∧ ∀ y, y ∈ ys → Q y :=
  sat_mono (sat_map (fun _ => Q) h) fun ys hy => ⟨hy.1, fun y my => by
    obtain ⟨i, hi, e⟩ := List.mem_iff_getElem.mp my
    have hx : i < xs.length := by rw [← hy.1]; exact hi
    exact hy.2 i xs[i] y (List.getElem?_eq_getElem hx) (by rw [List.getElem?_eq_getElem hi, e])⟩
theorem sat_mapE {f : α → R β} {xs : List α} (g : α → β) (h : ∀ x, x ∈ xs → f x = .ok (g x)) : mapR f xs = .ok (xs.map g) := by
  induction xs with
  | nil => rfl
  | cons x xs ih =>
    show (f x).calm.bind _ = _
    rw [h x (by simp)]
    show (mapR f xs).bind _ = _
    rw [ih fun y hy => h y (by simp [hy])]
    rfl
theorem sat_foldE {f : α → S → R S} {xs : List α} (g : S → α → S) {s0 : S} (h : ∀ x s, x ∈ xs → f x s = .ok (g s x)) : foldR f xs s0 = .ok (xs.foldl g s0) := by
  induction xs generalizing s0 with
  | nil => rfl
  | cons x xs ih =>
    show (f x s0).bind _ = _
    rw [h x s0 (by simp)]
    exact ih fun y s hy => h y s (by simp [hy])
theorem sat_while {c : S → R Bool} {f : S → R (Ctl S ρ)} {P : Ctl S ρ → Prop} (I : S → Prop) (μ : S → Nat) : ∀ {n : Nat} {s : S}, I s → μ s < n →
    (∀ s, I s → Sat (c s) fun b => match b with
      | false => P (.nx s)
      | true => Sat (f s) fun k => match k with
        | .nx s' => I s' ∧ μ s' < μ s
        | .rt r => P (.rt r)
        | .bk s' => P (.nx s')) → Sat (whileR c f n s) P
  | 0, _, _, h, _ => absurd h (Nat.not_lt_zero _)
  | n + 1, s, i, hm, step => by
    refine sat_bind (step s i) fun b h => ?_
    cases b with
    | false => exact sat_ok h
    | true =>
      refine sat_bind h fun k hk => ?_
      cases k with
      | nx s' => exact sat_while I μ hk.1 (by omega) step
      | rt r => exact sat_ok hk
      | bk s' => exact sat_ok hk
theorem rng_mem {i a b : Int} : i ∈ rng a b ↔ a ≤ i ∧ i < b := by
  unfold rng
  rw [List.mem_map]
  constructor
  · rintro ⟨n, h, rfl⟩
    rw [List.mem_range] at h
    omega
  · intro h
    exact ⟨(i - a).toNat, by rw [List.mem_range]; omega, by omega⟩
theorem rng_len {a b : Int} : (rng a b).length = (b - a).toNat := by unfold rng; simp
theorem rng_pre {a b : Int} {pre suf : List Int} {x : Int} (h : rng a b = pre ++ x :: suf) : x = a + pre.length := by
  have e : (rng a b)[pre.length]? = some x := by rw [h]; simp
  unfold rng at e
  rw [List.getElem?_map] at e
  cases q : (List.range (b - a).toNat)[pre.length]? with
  | none => rw [q] at e; cases e
  | some n =>
    rw [q] at e
    have := List.getElem?_eq_some_iff.mp q
    obtain ⟨h1, h2⟩ := this
    rw [List.getElem_range] at h2
    subst h2
    exact (Option.some.inj e).symm
theorem divW {i : Int} {n : Int} (h : 0 < n) (b : n < 1267650600228229401496703205376) : CDivW i n := ⟨h, Nat.lt_of_le_of_lt (Nat.log2_lt (n := n.natAbs) (k := 101) (by omega) |>.mpr (by omega) |> Nat.le_of_lt) (by decide)⟩
theorem mulW {i j : Int} {a b : Nat} (h1 : i.natAbs < 2 ^ a) (h2 : j.natAbs < 2 ^ b) (h3 : 0 < a) (h4 : 0 < b) (h : a + b ≤ 1000000) : CMulW i j := wide_mul h1 h2 h3 h4 h
theorem gS_of {l : List Nat} (h : l.length ≤ 16777216) : gS l := h
theorem gR_of {j : Int} (h : -1000000000 ≤ j) (k : j ≤ 1000000000) : gR j := ⟨by omega, by omega⟩
theorem getI_mem [Inhabited α] {xs : List α} {i : Int} (h : inB xs i) : getI xs i ∈ xs := List.mem_of_getElem? (getI_get h)
theorem inB_of {xs : List α} {i : Int} (h : 0 ≤ i) (k : i < xs.length) : inB xs i := ⟨by omega, k⟩
theorem cutL_length_le {xs : List α} {lo hi : Option Int} : (cutL xs lo hi).length ≤ xs.length := by
  unfold cutL
  rw [List.length_take, List.length_drop]
  omega
theorem cutL_mem {xs : List α} {lo hi : Option Int} {x : α} (h : x ∈ cutL xs lo hi) : x ∈ xs := by
  unfold cutL at h
  exact List.mem_of_mem_drop (List.mem_of_mem_take h)
end
end Sm
namespace Sm
open PySem L2 TL
def numI (w : Int) : List Nat := if w < 0 then 45 :: numL w.natAbs else numL w.natAbs
theorem lt_eq (s : String) : lt (Str.ofString s) = s.toList.map Char.toNat := tl_ofString s
theorem numL_repr (n : Nat) : (Nat.repr n).toList.map Char.toNat = numL n := by
  have := tl_num n
  rw [tl_ofString] at this
  exact this
theorem strI_eq (w : Int) : strI w = numI w := by
  unfold strI numI
  rw [lt_eq]
  cases w with
  | ofNat n => exact numL_repr n
  | negSucc n =>
    rw [if_pos (Int.negSucc_lt_zero n)]
    show (("-" ++ Nat.repr (n + 1) : String)).toList.map Char.toNat = _
    rw [String.toList_append, List.map_append, numL_repr]
    rfl
theorem figs : ∀ k : Nat, k < 10 → getI (lt "0123456789") (k : Int) = 48 + k := by decide +kernel
theorem figsI {k : Int} (h : 0 ≤ k) (h2 : k < 10) : getI (lt "0123456789") k = 48 + k.toNat := by
  have := figs k.toNat (by omega)
  rw [Int.toNat_of_nonneg h] at this
  exact this
theorem figs_len : (lt "0123456789").length = 10 := by decide +kernel
theorem fig_mem {c : Nat} : c ∈ lt "0123456789" ↔ 48 ≤ c ∧ c ≤ 57 := by
  have e : lt "0123456789" = [48, 49, 50, 51, 52, 53, 54, 55, 56, 57] := by decide +kernel
  rw [e]
  simp only [List.mem_cons, List.not_mem_nil, or_false]
  omega
theorem numL_head : ∀ {n : Nat}, 1 ≤ n → ∃ c r, numL n = c :: r ∧ c ≠ 48 := by
  intro n
  induction n using Nat.strongRecOn with
  | ind n ih =>
    intro h
    by_cases q : n < 10
    · exact ⟨48 + n, [], numL_lt q, by omega⟩
    · obtain ⟨c, r, e, hc⟩ := ih (n / 10) (by omega) (by omega)
      exact ⟨c, r ++ [48 + n % 10], by rw [numL_step (by omega), e]; rfl, hc⟩
theorem numL_short {n k : Nat} (hk : 0 < k) (h : n < 10 ^ k) : (numL n).length ≤ k := numL_len hk h
theorem intX_num {w : Int} (h : (numL w.natAbs).length ≤ 600) : intX? (numI w) = some w := by
  unfold intX? numI
  by_cases q : w < 0
  · rw [if_pos q]
    have e := intText_neg (x := Sx (45 :: numL w.natAbs)) (cs := numL w.natAbs) rfl (numL_digits _) (numL_ne _) (by rw [Sx_len, List.length_cons]; omega)
    rw [numL_val] at e
    rw [e]
    congr 1
    omega
  · rw [if_neg q]
    have e := intText_digits (x := Sx (numL w.natAbs)) (numL_digits _) (numL_ne _) (by rw [Sx_len]; omega)
    rw [show (Sx (numL w.natAbs)).cps.toList = numL w.natAbs from rfl, numL_val] at e
    rw [e]
    congr 1
    omega
theorem cut_head {α : Type} {xs : List α} : cutL xs none (some 1) = xs.take 1 := by
  unfold cutL HT.sIx
  cases xs <;> simp
theorem cut_tail {α : Type} {xs : List α} : cutL xs (some 1) none = xs.drop 1 := by
  unfold cutL HT.sIx
  cases xs with
  | nil => simp
  | cons x xs =>
    have : min (Int.toNat 1) (x :: xs).length = 1 := by simp
    simp [this]
theorem getI0 {α : Type} [Inhabited α] {x : α} {xs : List α} : getI (x :: xs) 0 = x := by
  unfold getI ixI
  simp
theorem sat_foldU {α : Type} {f : α → Unit → R Unit} {xs : List α} (h : ∀ x, x ∈ xs → f x () = .ok ()) : foldR f xs () = .ok () := by
  induction xs with
  | nil => rfl
  | cons x xs ih =>
    show (f x ()).bind _ = _
    rw [h x (by simp)]
    exact ih fun y hy => h y (by simp [hy])
theorem joinX_eq (a : List Nat) (ys : List (List Nat)) : joinX a ys = joinL a ys := by
  unfold joinX
  have e : Txt.join (Sx a) (ys.map Sx) = Str.join (Sx a) (ys.map Sx) := join_eq _ _
  rw [e]
  have := tl_join (Sx a) (ys.map Sx)
  have e2 : (ys.map Sx).map tl = ys := by
    rw [List.map_map]
    have : (tl ∘ Sx) = id := by funext l; rfl
    rw [this, List.map_id]
  rw [e2] at this
  exact this
theorem joinL_nil_len : ∀ ys : List (List Nat), (joinL [] ys).length = (ys.map List.length).sum
  | [] => rfl
  | [p] => by simp [joinL]
  | p :: q :: r => by
    have ih := joinL_nil_len (q :: r)
    show (p ++ ([] ++ joinL [] (q :: r))).length = _
    rw [List.nil_append, List.length_append, ih]
    simp
theorem sum_le {ys : List (List Nat)} {n : Nat} (h : ∀ y ∈ ys, y.length ≤ n) : (ys.map List.length).sum ≤ ys.length * n := by
  induction ys with
  | nil => simp
  | cons y ys ih =>
    have h1 := h y (by simp)
    have h2 := ih fun z hz => h z (by simp [hz])
    rw [List.map_cons, List.sum_cons, List.length_cons, Nat.succ_mul]
    omega
theorem digitsVal_app (a : List Nat) (c : Nat) : NumText.digitsVal (a ++ [c]) = NumText.digitsVal a * 10 + (c - 48) := by
  unfold NumText.digitsVal
  rw [List.foldl_append]
  rfl
theorem digits_bound : ∀ (l : List Nat) (a : Nat), NumText.AllDigits l → l.foldl (fun acc c => acc * 10 + (c - 48)) a < (a + 1) * 10 ^ l.length
  | [], a, _ => by simp
  | c :: l, a, h => by
    have hc := h c (by simp)
    have ih := digits_bound l (a * 10 + (c - 48)) fun d hd => h d (by simp [hd])
    rw [List.foldl_cons, List.length_cons, Nat.pow_succ, Nat.mul_comm (10 ^ l.length) 10, ← Nat.mul_assoc]
    refine Nat.lt_of_lt_of_le ih ?_
    exact Nat.mul_le_mul_right _ (by omega)
theorem digitsVal_lt {l : List Nat} (h : NumText.AllDigits l) : NumText.digitsVal l < 10 ^ l.length := by
  have := digits_bound l 0 h
  unfold NumText.digitsVal
  simpa using this
end Sm
namespace Sm
open PySem L2 TL
section
variable {α β S : Type}
theorem foldR_app {f : α → S → R S} (a b : List α) (s : S) : foldR f (a ++ b) s = (foldR f a s).bind (foldR f b) := by
  induction a generalizing s with
  | nil => rfl
  | cons x a ih =>
    show (f x s).bind (foldR f (a ++ b)) = ((f x s).bind (foldR f a)).bind (foldR f b)
    cases f x s with
    | ok t => exact ih t
    | err e => rfl
    | bad => rfl
theorem popR_app [Inhabited α] (xs : List α) (x : α) : popR (xs ++ [x]) = .ok (x, xs) := by
  unfold popR R.guard
  rw [if_pos (by simp)]
  simp
theorem getI_app0 [Inhabited α] {a b : α} : getI [a, b] 0 = a := rfl
theorem getI_app1 [Inhabited α] {a b : α} : getI [a, b] 1 = b := rfl
theorem getI_last [Inhabited α] {xs : List α} {a : α} : getI (xs ++ [a]) (-1) = a := by
  unfold getI ixI
  rw [if_neg (by decide)]
  have : ((-1 : Int) + ((xs ++ [a]).length : Int)).toNat = xs.length := by rw [List.length_append, List.length_singleton]; omega
  rw [this]
  simp
theorem getI_last2 [Inhabited α] {xs : List α} {a b : α} : getI (xs ++ [a, b]) (-2) = a ∧ getI (xs ++ [a, b]) (-1) = b := by
  unfold getI ixI
  rw [if_neg (by decide), if_neg (by decide)]
  have h1 : ((-2 : Int) + ((xs ++ [a, b]).length : Int)).toNat = xs.length := by rw [List.length_append]; simp; omega
  have h2 : ((-1 : Int) + ((xs ++ [a, b]).length : Int)).toNat = xs.length + 1 := by rw [List.length_append]; simp; omega
  rw [h1, h2]
  simp
theorem cutL_last2 {xs : List α} {a b : α} : cutL (xs ++ [a, b]) none (some (-2)) = xs := by
  unfold cutL HT.sIx
  simp
  rw [List.take_append_of_le_length (by omega)]
  rw [List.take_of_length_le (by omega)]
theorem two_last {xs : List α} (h : 1 < xs.length) : ∃ r a b, xs = r ++ [a, b] := by
  have h1 : xs ≠ [] := by intro e; rw [e] at h; simp at h
  have e1 := List.dropLast_concat_getLast h1
  have h2 : xs.dropLast ≠ [] := by intro e; rw [e] at e1; rw [← e1] at h; simp at h
  have e2 := List.dropLast_concat_getLast h2
  refine ⟨xs.dropLast.dropLast, xs.dropLast.getLast h2, xs.getLast h1, ?_⟩
  rw [show [xs.dropLast.getLast h2, xs.getLast h1] = [xs.dropLast.getLast h2] ++ [xs.getLast h1] from rfl, ← List.append_assoc, e2, e1]
end
section
variable {α β : Type} [DecidableEq α]
theorem getD?_mem {kvs : List (α × β)} {k : α} {b : β} (h : getD? kvs k = some b) : (k, b) ∈ kvs := by
  unfold getD? at h
  cases q : kvs.find? fun p => decide (p.1 = k) with
  | none => rw [q] at h; cases h
  | some p =>
    rw [q] at h
    have h1 := List.mem_of_find?_eq_some q
    have h2 := List.find?_some q
    simp at h h2
    subst h h2
    exact h1
theorem putD_mem {kvs : List (α × β)} {k : α} {v : β} {p : α × β} (h : p ∈ putD kvs k v) : p ∈ kvs ∨ p = (k, v) := by
  unfold putD at h
  split at h
  · obtain ⟨q, hq, e⟩ := List.mem_map.mp h
    split at e
    · next c => exact .inr (by rw [← e, c])
    · exact .inl (e ▸ hq)
  · rcases List.mem_append.mp h with h | h
    · exact .inl h
    · exact .inr (List.mem_singleton.mp h)
theorem putD_keys {kvs : List (α × β)} {k : α} {v : β} : (putD kvs k v).map (·.1) = if k ∈ kvs.map (·.1) then kvs.map (·.1) else kvs.map (·.1) ++ [k] := by
  unfold putD
  by_cases c : k ∈ kvs.map (·.1)
  · have : (kvs.any fun p => decide (p.1 = k)) = true := by
      rw [List.any_eq_true]
      obtain ⟨p, hp, e⟩ := List.mem_map.mp c
      exact ⟨p, hp, by simpa using e⟩
    rw [if_pos this, if_pos c, List.map_map]
    apply List.map_congr_left
    intro p hp
    simp only [Function.comp]
    split
    · rfl
    · rfl
  · have : ¬ (kvs.any fun p => decide (p.1 = k)) = true := by
      rw [List.any_eq_true]
      rintro ⟨p, hp, e⟩
      exact c (List.mem_map.mpr ⟨p, hp, by simpa using e⟩)
    rw [if_neg this, if_neg c, List.map_append]
    rfl
theorem putD_nodup {kvs : List (α × β)} {k : α} {v : β} (h : (kvs.map (·.1)).Nodup) : ((putD kvs k v).map (·.1)).Nodup := by
  rw [putD_keys]
  split
  · exact h
  · next c => exact List.nodup_append.mpr ⟨h, by simp, fun a ha b hb e => by
      rw [List.mem_singleton] at hb; subst hb e; exact c ha⟩
theorem putD_length {kvs : List (α × β)} {k : α} {v : β} : (putD kvs k v).length ≤ kvs.length + 1 := by
  have := congrArg List.length (putD_keys (kvs := kvs) (k := k) (v := v))
  rw [List.length_map] at this
  rw [this]
  split <;> simp
end
def gQn (n : Nat) (d : Dt) : Prop := d.pl = true ∧ d.py.canLay0 = true ∧ d.py.depth ≤ n
theorem gQn_gQ {n : Nat} {d : Dt} (h : gQn n d) (hn : n ≤ 64) : gQ d := by
  refine ⟨h.1, ?_⟩
  unfold SeqAt.shaped
  rw [h.2.1, Bool.true_and, decide_eq_true_iff]
  exact Nat.le_trans h.2.2 hn
theorem gQn_int {n : Nat} (i : Int) : gQn n (eI i) := ⟨rfl, by simp [Dt.py, PyData.canLay0], by simp [Dt.py, PyData.depth]⟩
theorem gQn_str {n : Nat} {l : List Nat} (h : PyData.strOk (Sx l) = true) : gQn n (eS l) := ⟨rfl, by simpa [Dt.py, PyData.canLay0] using h, by simp [Dt.py, PyData.depth]⟩
theorem gQn_all {n : Nat} : ∀ {ds : List Dt}, (∀ d ∈ ds, gQn n d) → Dt.pls ds = true ∧ PyData.canLayAll0 (Dt.pys ds) = true ∧ PyData.depthAll (Dt.pys ds) ≤ n
  | [], _ => by simp [Dt.pls, Dt.pys, PyData.canLayAll0, PyData.depthAll]
  | d :: ds, h => by
    have h1 := h d (by simp)
    have ih := gQn_all fun e he => h e (List.mem_cons_of_mem _ he)
    refine ⟨?_, ?_, ?_⟩
    · unfold Dt.pls; rw [h1.1, ih.1]; rfl
    · unfold Dt.pys PyData.canLayAll0; rw [h1.2.1, ih.2.1]; rfl
    · unfold Dt.pys PyData.depthAll; exact Nat.max_le.mpr ⟨h1.2.2, ih.2.2⟩
theorem gQn_lst {n : Nat} {ds : List Dt} (h : ∀ d ∈ ds, gQn n d) : gQn (n + 1) (.lst ds) := by
  have := gQn_all h
  refine ⟨?_, ?_, ?_⟩
  · unfold Dt.pl; exact this.1
  · unfold Dt.py PyData.canLay0; exact this.2.1
  · unfold Dt.py PyData.depth; exact Nat.succ_le_succ this.2.2
theorem gQn_tup {n : Nat} {ds : List Dt} (h : ∀ d ∈ ds, gQn n d) : gQn (n + 1) (.tup ds) := by
  have := gQn_all h
  refine ⟨?_, ?_, ?_⟩
  · unfold Dt.pl; exact this.1
  · unfold Dt.py PyData.canLay0; exact this.2.1
  · unfold Dt.py PyData.depth; exact Nat.succ_le_succ this.2.2
theorem strOk_ascii {l : List Nat} (h : ∀ c ∈ l, c < 128) : PyData.strOk (Sx l) = true := by
  unfold PyData.strOk Sx
  rw [List.all_toArray, List.all_eq_true]
  intro c hc
  have := h c hc
  simp; omega
end Sm
namespace Sm
open PySem L2 TL
section
variable {F : Fx} {Γ Γ' Γe : List Ent} {T : List (V × Own)} {σ : L2.St} {H H' : Hp} {v : V} {Er : L2.St → Exn → Hp → Prop} {ρ α β γ δ S : Type} {W : R ρ → Prop} {D : Ends} {ta tb tc te : TE} {tt uu : TT} {i j : Int} {d e : Dt} {c : Bool} {ds es : List Dt} {n : Nat}
def eqD (d e : Dt) : Bool := PyData.eqv d.py e.py
def gQ2 (d e : Dt) : Prop := gQ d ∧ gQ e
instance (d e : Dt) : Decidable (gQ2 d e) := by unfold gQ2; infer_instance
theorem op2_eqDD (g : gQ2 d e) : Op2 F (rEqD F.K) (.dat d) (.dat e) (.dat (.bl (eqD d e))) :=
  op2_val _ (fun B => by unfold Rp; rfl) fun B H x y Q eb h1 h2 q => ⟨d.py, e.py, (h1.mono eb).dp g.1.1, (h2.mono eb).dp g.2.1, g.1.2, g.2.2, q⟩
theorem op2_neDD (g : gQ2 d e) : Op2 F (rNeD F.K) (.dat d) (.dat e) (.dat (.bl (!eqD d e))) :=
  op2_val _ (fun B => by unfold Rp; rfl) fun B H x y Q eb h1 h2 q => ⟨d.py, e.py, (h1.mono eb).dp g.1.1, (h2.mono eb).dp g.2.1, g.1.2, g.2.2, q⟩
theorem ev_eqDD (g : gQ2 d e) (h1 : EvQ F ta Γ d) (h2 : EvQ F tb Γ e) : Ev F (tOp (rEqD F.K) ta tb) Γ (.dat (.bl (eqD d e))) := ev_eqD h1 h2 g.1.1 g.2.1 g.1.2 g.2.2
theorem ev_neDD (g : gQ2 d e) (h1 : EvQ F ta Γ d) (h2 : EvQ F tb Γ e) : Ev F (tOp (rNeD F.K) ta tb) Γ (.dat (.bl (!eqD d e))) := ev_neD h1 h2 g.1.1 g.2.1 g.1.2 g.2.2
theorem eq_d (h : Ev F te Γ (.dat d)) : EvQ F te Γ d := fun T σ H s Q q => h T σ H s Q fun v H' s' e => by
  obtain ⟨B, eb, r⟩ := s'.topd
  exact q _ H' (r.mono eb) s'.pop e
theorem scr_eqv : ∀ ns : List Int, PyData.eqvAll (ns.map .int) (ns.map .int) = true
  | [] => by simp [PyData.eqvAll]
  | n :: ns => by simp [PyData.eqvAll, PyData.eqv, scr_eqv ns]
mutual
theorem eqD_refl : ∀ {d : Dt}, d.pl = true → PyData.eqv d.py d.py = true
  | .non, _ => by simp [Dt.py, PyData.eqv]
  | .bl b, _ => by simp [Dt.py, PyData.eqv]
  | .int i, _ => by simp [Dt.py, PyData.eqv]
  | .str x, _ => by simp [Dt.py, PyData.eqv]
  | .lst xs, h => by unfold Dt.pl at h; simp only [Dt.py, PyData.eqv]; exact eqDs_refl h
  | .tup xs, h => by unfold Dt.pl at h; simp only [Dt.py, PyData.eqv]; exact eqDs_refl h
  | .scr ns, _ => by simp only [Dt.py, PyData.eqv]; exact scr_eqv ns
  | .dk _ _, h => by unfold Dt.pl at h; cases h
  | .dt _ _, h => by unfold Dt.pl at h; cases h
theorem eqDs_refl : ∀ {ds : List Dt}, Dt.pls ds = true → PyData.eqvAll (Dt.pys ds) (Dt.pys ds) = true
  | [], _ => by simp [Dt.pys, PyData.eqvAll]
  | d :: ds, h => by
    unfold Dt.pls at h
    rw [Bool.and_eq_true] at h
    unfold Dt.pys
    simp only [PyData.eqvAll, eqD_refl h.1, eqDs_refl h.2, Bool.and_self]
end
theorem eqD_same (h : d.pl = true) : eqD d d = true := eqD_refl h
theorem eqvAll_map {enc : α → Dt} {p : α → α → Bool} (h : ∀ a b, PyData.eqv (enc a).py (enc b).py = p a b) : ∀ {xs ys : List α}, PyData.eqvAll (Dt.pys (xs.map enc)) (Dt.pys (ys.map enc)) = (decide (xs.length = ys.length) && (xs.zip ys).all fun z => p z.1 z.2)
  | [], [] => by simp [Dt.pys, PyData.eqvAll]
  | [], y :: ys => by simp [Dt.pys, PyData.eqvAll]
  | x :: xs, [] => by simp [Dt.pys, PyData.eqvAll]
  | x :: xs, y :: ys => by
    have ih := eqvAll_map h (xs := xs) (ys := ys)
    simp only [List.map_cons, Dt.pys, PyData.eqvAll, h, ih, List.zip_cons_cons, List.all_cons, List.length_cons, Nat.add_right_cancel_iff]
    cases p x y <;> simp
theorem ev_modN (hc : j ≠ 0) (h1 : Ev F ta Γ (.dat (.int i))) (h2 : Ev F tb Γ (.dat (.int j))) : Ev F (tOp (rI (fun _ j => j ≠ 0) fun i j => .int (i.fmod j)) ta tb) Γ (.dat (.int (i.fmod j))) := ev_op h1 h2 (op2_I (C := fun _ j => j ≠ 0) (g := fun i j => i.fmod j) hc)
theorem kit_opt {enc : α → Dt} {o : Option α} {t n : String} {r : Bool} (h : ∀ a, (enc a).tyn = t) (k : kitB t n = some r) (k0 : kitB "NoneType" n = some false) : kitB (eO enc o).tyn n = some (o.isSome && r) := by
  cases o with
  | none => exact k0
  | some a => show kitB (enc a).tyn n = _; rw [h a, k]; cases r <;> rfl
theorem mv_disp1 [DecidableEq α] {kk : α → Key} {enc : β → Dt} {kd : α → Dt} {ky : α} {m : R β} (hkd : ∀ B v, Rp F.K B (kd ky) v → v = kV (kk ky)) (hk : Ev F ta Γ (.dat (kd ky))) (hv : MV F Γe Er tb Γ m (oD enc)) :
    MV F Γe Er (tDisp [(ta, tb)]) Γ (m.bind fun b => R.ok [(ky, b)]) (oK kk enc) := fun _ W k T σ H ok w s Q q => by
  intro p hp
  rw [R.bind_assoc] at w
  have s0 : Stt F Γ ((.ref p, oK kk enc ([] : List (α × β))) :: T) σ (upd H p (.dK [])) := s.new hp fun B _ O _ => by
    unfold Ow
    exact ⟨p, [], emp, rfl, owa_nil, rfl, rfl, rfl⟩
  refine hk _ σ _ s0 _ fun x H1 s1 e1 => hv _ W _ _ σ H1 ok w s1 _ fun b y H2 w2 s2 e2 => ?_
  obtain ⟨Bx, _, rx⟩ := s1.topd
  have ekv := hkd _ _ rx
  obtain ⟨B, O1, O2, a, sl, dj, P, ii⟩ := s2.top
  obtain ⟨ry, rfl⟩ := a.rp
  rw [emp_jn] at P
  rw [List.map_cons, List.map_cons] at sl
  unfold Slots at sl
  obtain ⟨_, _, P1, P2, ee, a2, b2, c2, rfl⟩ := sl
  cases ee
  obtain ⟨_, rfl⟩ := a2.rp
  rw [emp_jn] at P
  have b2 : Slots F.K B (some (oK kk enc ([] : List (α × β))) :: (T.map (fun p => some p.2) ++ Γ)) P2 (some (V.ref p) :: (T.map (fun p => some p.1) ++ σ)) := b2
  obtain ⟨l, vs, g1, g2, g3, ra, k2⟩ := slots_mutK b2 (i := 0) (ks := []) (ds := []) rfl
  cases g1
  have z := k2 [kk ky] [enc b] [y] rfl (RpA.one ry)
  have ez : ([] : List Key).zip vs = [] := rfl
  refine ⟨by rw [ez] at g2; exact P.oh _ _ g2, [(kk ky, y)], by rw [ekv]; rfl, by simp, ?_⟩
  refine q [(ky, b)] _ _ w2 ⟨B, _, z, P.mut g2, ii⟩ ?_
  intro c u hc
  have hne : c ≠ p := fun z => by rw [z, hp] at hc; cases hc
  rw [upd_ne hne]
  exact e2 _ _ (e1 _ _ (by rw [upd_ne hne]; exact hc))
theorem Stt.freezeKT {ks : List Key} {ds : List Dt} (h : Stt F Γ ((v, .dK ks (ds.map Own.dat)) :: T) σ H) : Stt F Γ ((v, .dat (.dk ks ds)) :: T) σ H := by
  obtain ⟨B, O1, O2, a, s, d, p, q⟩ := h.top
  unfold Ow at a
  obtain ⟨l, vs, O', rfl, oa, n, hkl, rfl⟩ := a
  obtain ⟨r, rfl⟩ := oa.dats
  have nB : B l = none := by
    rcases p.dj.rl l with z | z
    · exact z
    · rw [upd_same] at z; cases z
  refine ⟨jn B (upd emp l (.dK (ks.zip vs))), O2, ?_, p.freeze d, q⟩
  have k : Rp F.K (jn B (upd emp l (.dK (ks.zip vs)))) (.dk ks ds) (.ref l) := by
    unfold Rp
    exact ⟨l, vs, rfl, by rw [jn_none nB, upd_same], by simpa using hkl, r.mono same_jnl⟩
  have z := slots_own (ow_dat k) (s.mono same_jnl) emp_dj
  rw [emp_jn] at z
  exact z
theorem mv_frzK {kk : α → Key} {enc : β → Dt} {m : R (List (α × β))} (h : MV F Γe Er te Γ m (oK kk enc)) : MV F Γe Er te Γ m (oD (eK kk enc)) := fun _ W k T σ H ok w s Q q =>
  h _ W k T σ H ok w s Q fun a v H' w' s' e => q a v H' w' s'.freezeKT e
theorem ev_frzK {kk : α → Key} {enc : β → Dt} {kvs : List (α × β)} (h : Ev F te Γ (oK kk enc kvs)) : Ev F te Γ (.dat (eK kk enc kvs)) := fun T σ H s Q q => h T σ H s Q fun v H' s' e => q v H' s'.freezeKT e
end
end Sm
namespace Sm
open PySem L2 TL
section
variable {F : Fx} {Γ Γ' Γe : List Ent} {T : List (V × Own)} {σ : L2.St} {H H' : Hp} {v : V} {Er : L2.St → Exn → Hp → Prop} {ρ α β γ δ S : Type} {W : R ρ → Prop} {D : Ends} {ta tb tc te : TE} {tt uu : TT} {i j : Int} {d e : Dt} {c : Bool} {ds es : List Dt} {n : Nat}
def R.tryX {α : Type} (m : R α) (c : Exn → Bool) (h : Exn → R α) : R α := match m with
  | .ok a => .ok a
  | .err e => if e.plain = true then (if c e = true then h e else .err e) else .bad
  | .bad => .bad
theorem ps_tryOnlyXW {X : Cx} {x : Str} {c : Value} {body suite : List Stmt} {b₀ : Stmt} {np pos pos' : Pos} {tb : WX → TS} {ts : Addr → Value → Option Addr → TS} {Wout : WX} (hs : X.stack = X.env :: X.outer) (hf : X.env.frame = some X.env.locals) (hc : Names X x c) (hpa : ∀ hd : Option Value, PassesOwnAt (model X.prog X.w) (X.A.mark hd) X.A X.env X.xe) (tk : L2.Takes X Wout)
    (hb : ∀ (W : WX) (pn : List (Addr × Obj)) (xe : Value → Shared → Prop), L2N.Takes (X.tr pn xe) W → L2.Takes (X.tr pn xe) (L2H.wPass X.K c Wout) → PassesOwn (model X.prog X.w) X.A X.env xe → PSs (X.tr pn xe) body (tb W))
    (hsu : ∀ (a : Addr) (oe : Obj) (cls : Value) (d : Option Addr) (pn : List (Addr × Obj)), L2N.Zn cls d oe → (∃ vs, oe.data = .fields vs) → L2.Takes (L2H.suiteX X a ((a, oe) :: pn)) Wout → L2H.HotC (L2H.suiteX X a ((a, oe) :: pn)) →
      PSs (L2H.suiteX X a ((a, oe) :: pn)) (b₀ :: suite) (ts a cls d)) :
    PS X (.Try body [.ExceptHandler (some (.Name x np)) none (b₀ :: suite) pos'] [] [] pos) (tTryOnly X.K c ts Wout tb) := L2H.ps_try_onlyX hs hf hc hpa tk hb hsu
theorem s_tryOnlyX {cv : Value} {tbd : WX → TS} {ts : Addr → Value → Option Addr → TS} {Wout : WX} {Ce : Exn → Addr} {m : R α} {ct : Exn → Bool} {h : Exn → R α} {k : α → R ρ} {Γt : List Ent}
    (hst : Stt F Γ [] σ H) (hw : W ((R.tryX m ct h).bind k)) (ok : WOk F Γe Er W) (wke : Wk Γt Γe)
    (hex : ∀ e, e.plain = true → PySem.W.exmOne F.K (.ref (Ce e)) cv = some (ct e)) (hEo : ∀ σ e H, Er σ e H → e.plain = true → Wout (.ref (Ce e)) none σ H)
    (qb : ∀ (W' : R α → Prop) (Wx : WX), WOk F Γt (fun σ e H => ErrAt Ce (WE Wx σ) e H) W' → (∀ a, W' (.ok a) → W (k a)) → W' m → tbd Wx D σ H)
    (qh : ∀ (e : Exn) (W' : R α → Prop) (a : Addr) σ H, e.plain = true → WOk F Γe Er W' → (∀ a, W' (.ok a) → W (k a)) → W' (h e) → Stt F Γt [] σ H → ts a (.ref (Ce e)) none D σ H) :
    tTryOnly F.K cv ts Wout tbd D σ H := by
  refine qb (fun m => W ((R.tryX m ct h).bind k)) _ ⟨ok.bad, fun e he σ' H' s => ?_⟩ (fun a w => w) hw
  have he : W ((if e.plain = true then (if ct e = true then h e else .err e) else .bad : R α).bind k) := he
  by_cases hp : e.plain = true
  · rw [if_pos hp] at he
    rw [errAt_plain hp]
    refine ⟨ct e, hex e hp, fun hc a ha => ?_, fun hc => ?_⟩
    · rw [if_pos hc] at he
      exact qh e (fun m => W (m.bind k)) a _ H' hp ⟨ok.bad, fun e he σ2 H2 s2 => ok.err e he σ2 H2 s2⟩ (fun a w => w) he s
    · rw [hc, if_neg Bool.false_ne_true] at he
      exact hEo σ' e H' (ok.err e he σ' H' (s.weak wke)) hp
  · rw [if_neg hp] at he
    exact absurd he ok.bad
theorem s_tryOnlyXJ {cv : Value} {tbd : WX → TS} {ts : Addr → Value → Option Addr → TS} {Wout : WX} {Ce : Exn → Addr} {m : R S} {ct : Exn → Bool} {h : Exn → R S} {k : S → R ρ} {Γt : List Ent} {Γj : S → List Ent}
    (hst : Stt F Γ [] σ H) (hw : W ((R.tryX m ct h).bind k)) (ok : WOk F Γe Er W) (wke : Wk Γt Γe)
    (hex : ∀ e, e.plain = true → PySem.W.exmOne F.K (.ref (Ce e)) cv = some (ct e)) (hEo : ∀ σ e H, Er σ e H → e.plain = true → Wout (.ref (Ce e)) none σ H)
    (qb : ∀ (W' : R S → Prop) (Wx : WX), WOk F Γt (fun σ e H => ErrAt Ce (WE Wx σ) e H) W' → W' m → (∀ s σ' H', W' (.ok s) → Stt F (Γj s) [] σ' H' → D.nx σ' H') → tbd Wx D σ H)
    (qh : ∀ (e : Exn) (W' : R S → Prop) (a : Addr) σ H, e.plain = true → WOk F Γe Er W' → W' (h e) → Stt F Γt [] σ H → (∀ s σ' H', W' (.ok s) → Stt F (Γj s) [] σ' H' → D.nx σ' H') → ts a (.ref (Ce e)) none D σ H)
    (q : ∀ s σ' H', W (k s) → Stt F (Γj s) [] σ' H' → D.nx σ' H') : tTryOnly F.K cv ts Wout tbd D σ H :=
  s_tryOnlyX hst hw ok wke hex hEo (fun W' Wx ok' hk w => qb W' Wx ok' w fun s σ' H' w' st => q s σ' H' (hk s w') st) fun e W' a σ' H' hp ok' hk w st => qh e W' a σ' H' hp ok' w st fun s σ2 H2 w' st2 => q s _ H2 (hk s w') st2
theorem s_tryOnlyXC {cv : Value} {tbd : WX → TS} {ts : Addr → Value → Option Addr → TS} {Wout : WX} {Ce : Exn → Addr} {m : R (Ctl S β)} {ct : Exn → Bool} {h : Exn → R (Ctl S β)} {k : Ctl S β → R ρ} {Γt : List Ent} {Γj : S → List Ent}
    (hst : Stt F Γ [] σ H) (hw : W ((R.tryX m ct h).bind k)) (ok : WOk F Γe Er W) (wke : Wk Γt Γe)
    (hex : ∀ e, e.plain = true → PySem.W.exmOne F.K (.ref (Ce e)) cv = some (ct e)) (hEo : ∀ σ e H, Er σ e H → e.plain = true → Wout (.ref (Ce e)) none σ H)
    (qb : ∀ (W' : R (Ctl S β) → Prop) (Wx : WX), WOk F Γt (fun σ e H => ErrAt Ce (WE Wx σ) e H) W' → (∀ r, W' (.ok (.rt r)) → W (k (.rt r))) → W' m → (∀ s σ' H', W' (.ok (.nx s)) → Stt F (Γj s) [] σ' H' → D.nx σ' H') → tbd Wx D σ H)
    (qh : ∀ (e : Exn) (W' : R (Ctl S β) → Prop) (a : Addr) σ H, e.plain = true → WOk F Γe Er W' → (∀ r, W' (.ok (.rt r)) → W (k (.rt r))) → W' (h e) → Stt F Γt [] σ H → (∀ s σ' H', W' (.ok (.nx s)) → Stt F (Γj s) [] σ' H' → D.nx σ' H') → ts a (.ref (Ce e)) none D σ H)
    (q : ∀ s σ' H', W (k (.nx s)) → Stt F (Γj s) [] σ' H' → D.nx σ' H') : tTryOnly F.K cv ts Wout tbd D σ H :=
  s_tryOnlyX hst hw ok wke hex hEo (fun W' Wx ok' hk w => qb W' Wx ok' (fun r => hk _) w fun s σ' H' w' st => q s σ' H' (hk _ w') st) fun e W' a σ' H' hp ok' hk w st => qh e W' a σ' H' hp ok' (fun r => hk _) w st fun s σ2 H2 w' st2 => q s _ H2 (hk _ w') st2
end
section
variable {F : Fx} {Γ Γ' Γe : List Ent} {T : List (V × Own)} {σ : L2.St} {H H' : Hp} {v : V} {Er : L2.St → Exn → Hp → Prop} {ρ α β γ δ S : Type} {W : R ρ → Prop} {D : Ends} {ta tb tc te : TE} {tt uu : TT} {i j : Int} {d e : Dt} {c : Bool} {ds es : List Dt} {n : Nat}
theorem slots_datAt {K : PySem.W.Frag} {B O : Hp} {Γ : List Ent} {σ : L2.St} {i : Nat} {d : Dt} {v : V} (s : Slots K B Γ O σ) (e : Γ[i]? = some (some (.dat d))) (e2 : σ[i]? = some (some v)) : Rp K B d v := by
  obtain ⟨u, O1, O2, e1, a, _⟩ := s.at e
  rw [e2] at e1
  cases e1
  exact a.rp.1
theorem Stt.deep2 {T' : List (V × Own)} {a b : V} {d e : Dt} (h : Stt F Γ (T' ++ (b, .dat e) :: (a, .dat d) :: T) σ H) : ∃ B O, Slots F.K B ((T' ++ (b, .dat e) :: (a, .dat d) :: T).map (fun p => some p.2) ++ Γ) O ((T' ++ (b, .dat e) :: (a, .dat d) :: T).map (fun p => some p.1) ++ σ) ∧ Post F.B F.O F.H B O H ∧ (∀ p ∈ F.ins, σ[p.1]? = some (some p.2)) ∧ Rp F.K B d a ∧ Rp F.K B e b := by
  obtain ⟨B, O, s, p, i⟩ := h
  refine ⟨B, O, s, p, i, ?_, ?_⟩
  · refine slots_datAt (i := T'.length + 1) s ?_ ?_
    · rw [List.getElem?_append_left (by simp), List.getElem?_map, List.getElem?_append_right (by omega)]
      simp
    · rw [List.getElem?_append_left (by simp), List.getElem?_map, List.getElem?_append_right (by omega)]
      simp
  · refine slots_datAt (i := T'.length) s ?_ ?_
    · rw [List.getElem?_append_left (by simp), List.getElem?_map, List.getElem?_append_right (by omega)]
      simp
    · rw [List.getElem?_append_left (by simp), List.getElem?_map, List.getElem?_append_right (by omega)]
      simp
theorem slots_pair {B O : Hp} {x y : V} {Tt : Addr} (sl : Slots F.K B ((T.map (fun p => some p.2)) ++ Γ) O (T.map (fun p => some p.1) ++ σ)) (P : Post F.B F.O F.H B O H) (ii : ∀ p ∈ F.ins, σ[p.1]? = some (some p.2)) (hT : H Tt = none) (hx : Rp F.K B d x) (hy : Rp F.K B e y) :
    Stt F Γ ((.ref Tt, .dat (.tup [d, e])) :: T) σ (upd H Tt (.tup [x, y])) := by
  have nB : B Tt = none := none_of_same P.bh hT
  refine ⟨upd B Tt (.tup [x, y]), O, ?_, P.newB hT, ii⟩
  have k : Rp F.K (upd B Tt (.tup [x, y])) (.tup [d, e]) (.ref Tt) := by
    unfold Rp
    exact ⟨Tt, [x, y], rfl, SqT.of upd_same, rpa_cons (hx.mono (same_upd nB)) (RpA.one (hy.mono (same_upd nB)))⟩
  have z := slots_own (ow_dat k) (sl.mono (same_upd nB)) emp_dj
  rw [emp_jn] at z
  exact z
theorem zip_at {ds es : List Dt} {i : Nat} {d : Dt} (h : ((ds.zip es).map fun p => Dt.tup [p.1, p.2])[i]? = some d) : ∃ a b, ds[i]? = some a ∧ es[i]? = some b ∧ d = .tup [a, b] := by
  rw [List.getElem?_map] at h
  cases q : (ds.zip es)[i]? with
  | none => rw [q] at h; cases h
  | some p =>
    rw [q] at h
    have := List.getElem?_zip_eq_some.mp q
    exact ⟨p.1, p.2, this.1, this.2, (Option.some.inj h).symm⟩
theorem wks_zipT {a b : Addr} {ds es : List Dt} : Wks F (RZ.ItzT F.K a b) ((.ref b, .dat (.tup es)) :: (.ref a, .dat (.tup ds)) :: T) ((ds.zip es).map fun p => .tup [p.1, p.2]) where
  go := fun Γ T' σ H i d s e => by
    obtain ⟨B, O, s1, p, ii, r1, r2⟩ := s.deep2
    unfold Rp at r1 r2
    obtain ⟨l1, vs, el1, hl1, ra⟩ := r1
    obtain ⟨l2, us, el2, hl2, rb⟩ := r2
    cases el1
    cases el2
    obtain ⟨x, y, ex, ey, rfl⟩ := zip_at e
    obtain ⟨u, e1, ru⟩ := ra.get ex
    obtain ⟨w, e2, rw_⟩ := rb.get ey
    refine ⟨⟨vs, us, u, w, sqt_mono p.bh hl1, sqt_mono p.bh hl2, e1, e2⟩, fun x' H' yl => ?_⟩
    obtain ⟨Tt, u', w', rfl, hT, rfl, f1, f2⟩ := yl
    have g1 := f1 vs (sqt_mono p.bh hl1)
    have g2 := f2 us (sqt_mono p.bh hl2)
    rw [e1] at g1
    rw [e2] at g2
    cases g1
    cases g2
    exact ⟨slots_pair s1 p ii hT ru rw_, same_upd hT⟩
  stop := fun Γ T' σ H s => by
    obtain ⟨B, O, s1, p, ii, r1, r2⟩ := s.deep2
    unfold Rp at r1 r2
    obtain ⟨l1, vs, el1, hl1, ra⟩ := r1
    obtain ⟨l2, us, el2, hl2, rb⟩ := r2
    cases el1
    cases el2
    refine ⟨vs, us, sqt_mono p.bh hl1, sqt_mono p.bh hl2, ?_⟩
    rw [ra.length, rb.length, List.length_map, List.length_zip]
    omega
theorem wks_zipL {a b : Addr} {ds es : List Dt} : Wks F (Itz F.K a b) ((.ref b, .dat (.lst es)) :: (.ref a, .dat (.lst ds)) :: T) ((ds.zip es).map fun p => .tup [p.1, p.2]) where
  go := fun Γ T' σ H i d s e => by
    obtain ⟨B, O, s1, p, ii, r1, r2⟩ := s.deep2
    unfold Rp at r1 r2
    obtain ⟨l1, vs, el1, hl1, ra⟩ := r1
    obtain ⟨l2, us, el2, hl2, rb⟩ := r2
    cases el1
    cases el2
    obtain ⟨x, y, ex, ey, rfl⟩ := zip_at e
    obtain ⟨u, e1, ru⟩ := ra.get ex
    obtain ⟨w, e2, rw_⟩ := rb.get ey
    refine ⟨⟨vs, us, u, w, SqL.of (p.bh _ _ hl1), SqL.of (p.bh _ _ hl2), e1, e2⟩, fun x' H' yl => ?_⟩
    obtain ⟨Tt, u', w', rfl, hT, rfl, f1, f2⟩ := yl
    have g1 := f1 vs (SqL.of (p.bh _ _ hl1))
    have g2 := f2 us (SqL.of (p.bh _ _ hl2))
    rw [e1] at g1
    rw [e2] at g2
    cases g1
    cases g2
    exact ⟨slots_pair s1 p ii hT ru rw_, same_upd hT⟩
  stop := fun Γ T' σ H s => by
    obtain ⟨B, O, s1, p, ii, r1, r2⟩ := s.deep2
    unfold Rp at r1 r2
    obtain ⟨l1, vs, el1, hl1, ra⟩ := r1
    obtain ⟨l2, us, el2, hl2, rb⟩ := r2
    cases el1
    cases el2
    refine ⟨vs, us, SqL.of (p.bh _ _ hl1), SqL.of (p.bh _ _ hl2), ?_⟩
    rw [ra.length, rb.length, List.length_map, List.length_zip]
    omega
theorem SttA.two {v w : V} {d e : Dt} (h : SttA F Γ T [v, w] [d, e] σ H) : Stt F Γ ((w, .dat e) :: (v, .dat d) :: T) σ H := by
  obtain ⟨B, O, r, sl, P, ii⟩ := h
  unfold RpA at r
  obtain ⟨_, _, e1, r1, r2⟩ := r
  cases e1
  unfold RpA at r2
  obtain ⟨_, _, e2, r2, _⟩ := r2
  cases e2
  have z := slots_own (ow_dat r1) sl emp_dj
  rw [emp_jn] at z
  have z2 := slots_own (ow_dat r2) z emp_dj
  rw [emp_jn] at z2
  exact ⟨B, O, z2, P, ii⟩
theorem zip_enc {e1 : α → Dt} {e2' : β → Dt} (xs : List α) (ys : List β) : ((xs.map e1).zip (ys.map e2')).map (fun p => Dt.tup [p.1, p.2]) = (xs.zip ys).map (e2 e1 e2') := by
  rw [List.zip_map, List.map_map]
  rfl
theorem sr_zipT {m : R γ} {xs : γ → List α} {ys : γ → List β} {e1 : α → Dt} {e2' : β → Dt} (h : MA F Γe Er (tCons ta (tCons tb tNil)) Γ m fun b => [.tup ((xs b).map e1), .tup ((ys b).map e2')]) :
    Sr F Γe Er (RZ.iZipA F.K (tCons ta (tCons tb tNil))) Γ m (fun b => (xs b).zip (ys b)) (e2 e1 e2') := fun _ W k T σ H ok w s Ri q =>
  h _ W k T σ H ok w s _ fun b vs H1 w1 s1 ee => by
    have hl : vs.length = 2 := by obtain ⟨B, O, r, _⟩ := s1; exact r.length
    match vs, hl with
    | [v1, v2], _ =>
      have s2 := s1.two
      obtain ⟨B, O, sl, P, ii, r1, r2⟩ := Stt.deep2 (T' := []) s2
      unfold Rp at r1 r2
      obtain ⟨l1, us, rfl, hl1, ra⟩ := r1
      obtain ⟨l2, ws, rfl, hl2, rb⟩ := r2
      refine ⟨l1, l2, us, ws, rfl, .inr ⟨sqt_mono P.bh hl1, sqt_mono P.bh hl2, ?_⟩⟩
      refine q b [_, _] _ H1 w1 s2 ee ?_
      rw [← zip_enc]
      exact wks_zipT
theorem sr_zipL {m : R γ} {xs : γ → List α} {ys : γ → List β} {e1 : α → Dt} {e2' : β → Dt} (h : MA F Γe Er (tCons ta (tCons tb tNil)) Γ m fun b => [.lst ((xs b).map e1), .lst ((ys b).map e2')]) :
    Sr F Γe Er (RZ.iZipA F.K (tCons ta (tCons tb tNil))) Γ m (fun b => (xs b).zip (ys b)) (e2 e1 e2') := fun _ W k T σ H ok w s Ri q =>
  h _ W k T σ H ok w s _ fun b vs H1 w1 s1 ee => by
    have hl : vs.length = 2 := by obtain ⟨B, O, r, _⟩ := s1; exact r.length
    match vs, hl with
    | [v1, v2], _ =>
      have s2 := s1.two
      obtain ⟨B, O, sl, P, ii, r1, r2⟩ := Stt.deep2 (T' := []) s2
      unfold Rp at r1 r2
      obtain ⟨l1, us, rfl, hl1, ra⟩ := r1
      obtain ⟨l2, ws, rfl, hl2, rb⟩ := r2
      refine ⟨l1, l2, us, ws, rfl, .inl ⟨SqL.of (P.bh _ _ hl1), SqL.of (P.bh _ _ hl2), ?_⟩⟩
      refine q b [_, _] _ H1 w1 s2 ee ?_
      rw [← zip_enc]
      exact wks_zipL
def enumX (xs : List α) : List (Int × α) := (rng 0 (xs.length : Int)).zip xs
theorem enum_at {ds : List Dt} {i : Nat} {d : Dt} (h : (((rng 0 (ds.length : Int)).zip ds).map fun p => Dt.tup [.int p.1, p.2])[i]? = some d) : ∃ b, ds[i]? = some b ∧ d = .tup [.int (i : Int), b] := by
  rw [List.getElem?_map] at h
  cases q : ((rng 0 (ds.length : Int)).zip ds)[i]? with
  | none => rw [q] at h; cases h
  | some p =>
    rw [q] at h
    have hz := List.getElem?_zip_eq_some.mp q
    refine ⟨p.2, hz.2, ?_⟩
    rw [← Option.some.inj h]
    have h1 := hz.1
    unfold rng at h1
    rw [List.getElem?_map] at h1
    cases q2 : (List.range ((ds.length : Int) - 0).toNat)[i]? with
    | none => rw [q2] at h1; cases h1
    | some n =>
      rw [q2] at h1
      obtain ⟨hh, e⟩ := List.getElem?_eq_some_iff.mp q2
      rw [List.getElem_range] at e
      subst e
      have : (0 : Int) + (i : Int) = p.1 := Option.some.inj h1
      show Dt.tup [Dt.int p.1, p.2] = _
      rw [← this, Int.zero_add]
theorem wks_enum {a : Addr} {ds : List Dt} : Wks F (Ite F.K a) ((.ref a, .dat (.lst ds)) :: T) (((rng 0 (ds.length : Int)).zip ds).map fun p => .tup [.int p.1, p.2]) where
  go := fun Γ T' σ H i d s e => by
    obtain ⟨B, O, s1, p, ii, r1⟩ := s.deep
    unfold Rp at r1
    obtain ⟨l1, vs, el1, hl1, ra⟩ := r1
    cases el1
    obtain ⟨x, ex, rfl⟩ := enum_at e
    obtain ⟨u, e1, ru⟩ := ra.get ex
    refine ⟨⟨vs, u, SqL.of (p.bh _ _ hl1), e1⟩, fun x' H' yl => ?_⟩
    obtain ⟨Tt, u', rfl, hT, rfl, f1⟩ := yl
    have g1 := f1 vs (SqL.of (p.bh _ _ hl1))
    rw [e1] at g1
    cases g1
    exact ⟨slots_pair s1 p ii hT (by unfold Rp; rfl) ru, same_upd hT⟩
  stop := fun Γ T' σ H s => by
    obtain ⟨B, O, s1, p, ii, r1⟩ := s.deep
    unfold Rp at r1
    obtain ⟨l1, vs, el1, hl1, ra⟩ := r1
    cases el1
    refine ⟨vs, SqL.of (p.bh _ _ hl1), ?_⟩
    rw [ra.length, List.length_map, List.length_zip, rng_len]
    omega
theorem sr_enum {m : R γ} {xs : γ → List α} {e1 : α → Dt} (h : MV F Γe Er ta Γ m fun b => .dat (.lst ((xs b).map e1))) :
    Sr F Γe Er (iEnum F.K (tCons ta tNil)) Γ m (fun b => enumX (xs b)) (e2 eI e1) := fun _ W k T σ H ok w s Ri q =>
  h _ W k T σ H ok w s _ fun b v H1 w1 s1 ee => by
    obtain ⟨B, O, sl, P, ii, r1⟩ := Stt.deep (T' := []) s1
    unfold Rp at r1
    obtain ⟨l1, us, rfl, hl1, ra⟩ := r1
    refine ⟨l1, us, rfl, SqL.of (P.bh _ _ hl1), ?_⟩
    refine q b [_] _ H1 w1 s1 ee ?_
    have e : (enumX (xs b)).map (e2 eI e1) = ((rng 0 (((xs b).map e1).length : Int)).zip ((xs b).map e1)).map fun p => Dt.tup [.int p.1, p.2] := by
      unfold enumX
      rw [List.length_map, ← List.map_id (rng 0 _), List.zip_map, List.map_map, List.map_id]
      rfl
    rw [e]
    exact wks_enum
theorem wks_revL {a : Addr} {ds : List Dt} : Wks F (Itv F.K a ds.length) ((.ref a, .dat (.lst ds)) :: T) ds.reverse where
  go := fun Γ T' σ H i d s e => by
    obtain ⟨B, O, s1, p, ii, r⟩ := s.deep
    unfold Rp at r
    obtain ⟨l, vs, el, hl, ra⟩ := r
    cases el
    have hi : i < ds.length := by
      have := (List.getElem?_eq_some_iff.mp e).1
      simpa using this
    rw [List.getElem?_reverse hi] at e
    obtain ⟨u, e1, ru⟩ := ra.get e
    refine ⟨⟨hi, vs, u, SqL.of (p.bh _ _ hl), e1⟩, fun x H' y => ?_⟩
    obtain ⟨rfl, y⟩ := y
    have := y vs (SqL.of (p.bh _ _ hl))
    rw [e1] at this
    cases this
    refine ⟨⟨B, _, slots_own (ow_dat ru) s1 emp_dj, ?_, ii⟩, Same.refl _⟩
    rw [emp_jn]
    exact p
  stop := fun Γ T' σ H s => by
    show ds.length ≤ ds.reverse.length
    simp
theorem wks_revT {a : Addr} {ds : List Dt} : Wks F (RT.ItvT F.K a ds.length) ((.ref a, .dat (.tup ds)) :: T) ds.reverse where
  go := fun Γ T' σ H i d s e => by
    obtain ⟨B, O, s1, p, ii, r⟩ := s.deep
    unfold Rp at r
    obtain ⟨l, vs, el, hl, ra⟩ := r
    cases el
    have hi : i < ds.length := by
      have := (List.getElem?_eq_some_iff.mp e).1
      simpa using this
    rw [List.getElem?_reverse hi] at e
    obtain ⟨u, e1, ru⟩ := ra.get e
    refine ⟨⟨hi, vs, u, sqt_mono p.bh hl, e1⟩, fun x H' y => ?_⟩
    obtain ⟨rfl, y⟩ := y
    have := y vs (sqt_mono p.bh hl)
    rw [e1] at this
    cases this
    refine ⟨⟨B, _, slots_own (ow_dat ru) s1 emp_dj, ?_, ii⟩, Same.refl _⟩
    rw [emp_jn]
    exact p
  stop := fun Γ T' σ H s => by
    show ds.length ≤ ds.reverse.length
    simp
theorem sr_revL {m : R γ} {xs : γ → List α} {e1 : α → Dt} (h : MV F Γe Er ta Γ m fun b => .dat (.lst ((xs b).map e1))) :
    Sr F Γe Er (RT.iRevA F.K ta) Γ m (fun b => (xs b).reverse) e1 := fun _ W k T σ H ok w s Ri q =>
  h _ W k T σ H ok w s _ fun b v H1 w1 s1 ee => by
    obtain ⟨B, O, sl, P, ii, r1⟩ := Stt.deep (T' := []) s1
    unfold Rp at r1
    obtain ⟨l1, us, rfl, hl1, ra⟩ := r1
    refine ⟨l1, us, rfl, .inl ⟨SqL.of (P.bh _ _ hl1), ?_⟩⟩
    refine q b [_] _ H1 w1 s1 ee ?_
    rw [ra.length, List.map_reverse]
    exact wks_revL
theorem sr_revT {m : R γ} {xs : γ → List α} {e1 : α → Dt} (h : MV F Γe Er ta Γ m fun b => .dat (.tup ((xs b).map e1))) :
    Sr F Γe Er (RT.iRevA F.K ta) Γ m (fun b => (xs b).reverse) e1 := fun _ W k T σ H ok w s Ri q =>
  h _ W k T σ H ok w s _ fun b v H1 w1 s1 ee => by
    obtain ⟨B, O, sl, P, ii, r1⟩ := Stt.deep (T' := []) s1
    unfold Rp at r1
    obtain ⟨l1, us, rfl, hl1, ra⟩ := r1
    refine ⟨l1, us, rfl, .inr ⟨sqt_mono P.bh hl1, ?_⟩⟩
    refine q b [_] _ H1 w1 s1 ee ?_
    rw [ra.length, List.map_reverse]
    exact wks_revT
def minI (i j : Int) : Int := if j < i then j else i
def maxI (i j : Int) : Int := if j > i then j else i
theorem ev_min (h1 : Ev F ta Γ (.dat (.int i))) (h2 : Ev F tb Γ (.dat (.int j))) : Ev F (tCB (fun xs H Q => ∃ i j, xs = [.int i, .int j] ∧ Q (.int (if j < i then j else i)) H) (tCons ta (tCons tb tNil))) Γ (.dat (.int (minI i j))) := fun T σ H s Q q =>
  h1 T σ H s _ fun v H1 s1 e1 => h2 _ σ H1 s1 _ fun u H2 s2 e2 => by
    obtain ⟨B, _, r1, r2⟩ := s2.topd2
    exact ⟨i, j, by rw [rp_int r1, rp_int r2], q _ H2 (s2.pop.pop.push fun _ _ => by unfold Rp; rfl) (e1.trans e2)⟩
theorem ev_max (h1 : Ev F ta Γ (.dat (.int i))) (h2 : Ev F tb Γ (.dat (.int j))) : Ev F (tCB (fun xs H Q => ∃ i j, xs = [.int i, .int j] ∧ Q (.int (if j > i then j else i)) H) (tCons ta (tCons tb tNil))) Γ (.dat (.int (maxI i j))) := fun T σ H s Q q =>
  h1 T σ H s _ fun v H1 s1 e1 => h2 _ σ H1 s1 _ fun u H2 s2 e2 => by
    obtain ⟨B, _, r1, r2⟩ := s2.topd2
    exact ⟨i, j, by rw [rp_int r1, rp_int r2], q _ H2 (s2.pop.pop.push fun _ _ => by unfold Rp; rfl) (e1.trans e2)⟩
def mulL (xs : List α) (n : Int) : List α := (List.replicate n.toNat xs).flatten
def gML (xs : List α) (n : Int) : Prop := 0 ≤ n ∧ n ≤ 1000000 ∧ xs.length * n.toNat ≤ 16777216
instance (xs : List α) (n : Int) : Decidable (gML xs n) := by unfold gML; infer_instance
theorem rpa_rep {K : PySem.W.Frag} {B : Hp} {vs : List V} (r : RpA K B ds vs) : ∀ k : Nat, RpA K B (List.replicate k ds).flatten (List.replicate k vs).flatten
  | 0 => by simp; exact rpa_nil
  | k + 1 => by rw [List.replicate_succ, List.replicate_succ, List.flatten_cons, List.flatten_cons]; exact r.append (rpa_rep r k)
theorem ev_repL {enc : α → Dt} {xs : List α} (hb : gML xs i) (h1 : EvL F ta Γ (xs.map enc)) (h2 : Ev F tb Γ (.dat (.int i))) : Ev F (tOp rRep ta tb) Γ (oL enc (mulL xs i)) := fun T σ H s Q q =>
  h1 T σ H s _ fun l vs H1 hv s1 e1 => h2 _ σ H1 s1 _ fun u H2 s2 e2 => by
    obtain ⟨B, eb, r⟩ := s2.topd
    obtain ⟨B', eb', r'⟩ := s2.pop.rvs
    refine ⟨l, i, vs, rfl, rp_int r, e2 l _ hv, by have := hb.1; omega, by have := hb.2.1; omega, by rw [r'.length, List.length_map]; exact line_le hb.2.2, fun p hp => ?_⟩
    refine q _ _ ?_ ((e1.trans e2).trans (same_upd hp))
    have z := s2.pop.newL hp (us := (List.replicate i.toNat vs).flatten) (es := (List.replicate i.toNat (xs.map enc)).flatten) fun B a => rpa_rep a _
    have e : (List.replicate i.toNat (xs.map enc)).flatten = (mulL xs i).map enc := by
      unfold mulL
      rw [List.map_flatten, List.map_replicate]
    rw [e] at z
    exact z
theorem mp_map {enc : β → Dt} {m : R (α × List β)} {t : α → Own} {t' : γ → Own} (f : α → γ) (h : MP F Γe Er te Γ n enc m t) (e : ∀ a, t' (f a) = t a) : MP F Γe Er te Γ n enc (m.bind fun p => R.ok (f p.1, p.2)) t' := fun _ W k T σ H ok w s Q q => by
  rw [R.bind_assoc] at w
  exact h _ W _ T σ H ok w s _ fun a xs v H1 w1 s1 => q (f a) xs v H1 w1 (by rw [e]; exact s1)
def Dt.isN : Dt → Bool
  | .non => true
  | _ => false
theorem isN_ne {d : Dt} (h : d.isN = false) : d ≠ .non := by intro e; subst e; cases h
theorem isN_eq {d : Dt} (h : d.isN = true) : d = .non := by cases d <;> first | rfl | cases h
theorem op2_isNA : Op2 F (fun x y H Q => y = .non ∧ Q (.bl (decide (x = .non))) H) (.dat d) (.dat .non) (.dat (.bl d.isN)) := op2_val _ (fun B => by unfold Rp; rfl) fun B H a b Q _ h1 h2 q => by
  refine ⟨rp_non h2, ?_⟩
  cases z : d.isN with
  | true =>
    rw [isN_eq z] at h1
    rw [decide_eq_true (rp_non h1)]
    rw [z] at q
    exact q
  | false =>
    rw [decide_eq_false (rp_ne_non h1 (isN_ne z))]
    rw [z] at q
    exact q
theorem op2_notNA : Op2 F (fun x y H Q => y = .non ∧ Q (.bl (!decide (x = .non))) H) (.dat d) (.dat .non) (.dat (.bl (!d.isN))) := op2_val _ (fun B => by unfold Rp; rfl) fun B H a b Q _ h1 h2 q => by
  refine ⟨rp_non h2, ?_⟩
  cases z : d.isN with
  | true =>
    rw [isN_eq z] at h1
    rw [decide_eq_true (rp_non h1)]
    rw [z] at q
    exact q
  | false =>
    rw [decide_eq_false (rp_ne_non h1 (isN_ne z))]
    rw [z] at q
    exact q
theorem ev_isNA (h1 : Ev F ta Γ (.dat d)) (h2 : Ev F tb Γ (.dat .non)) : Ev F (tOp (fun x y H Q => y = .non ∧ Q (.bl (decide (x = .non))) H) ta tb) Γ (.dat (.bl d.isN)) := ev_op h1 h2 op2_isNA
theorem ev_notNA (h1 : Ev F ta Γ (.dat d)) (h2 : Ev F tb Γ (.dat .non)) : Ev F (tOp (fun x y H Q => y = .non ∧ Q (.bl (!decide (x = .non))) H) ta tb) Γ (.dat (.bl (!d.isN))) := ev_op h1 h2 op2_notNA
theorem unO_eq [Inhabited α] {enc : α → Dt} {o : Option α} (g : o.isSome = true) : eO enc o = enc (o.getD default) := by
  cases o with
  | none => cases g
  | some a => rfl
theorem ev_unO [Inhabited α] {enc : α → Dt} {o : Option α} (g : o.isSome = true) (h : Ev F te Γ (.dat (eO enc o))) : Ev F te Γ (.dat (enc (o.getD default))) := by
  rw [← unO_eq (enc := enc) g]
  exact h
theorem mv_unO [Inhabited α] {enc : α → Dt} {m : R (Option α)} (h : MV F Γe Er te Γ m (oD (eO enc))) : MV F Γe Er te Γ (m.bind fun o => R.guard (o.isSome = true) (R.ok (o.getD default))) (oD enc) := fun _ W k T σ H ok w s Q q => by
  rw [R.bind_assoc] at w
  refine h _ W _ T σ H ok w s _ fun o v H1 w1 s1 e1 => ?_
  unfold R.guard at w1
  by_cases g : o.isSome = true
  · rw [if_pos g] at w1
    refine q _ v H1 w1 ?_ e1
    show Stt F Γ ((v, .dat (enc (o.getD default))) :: T) σ H1
    rw [← unO_eq (enc := enc) g]
    exact s1
  · rw [if_neg g] at w1
    exact absurd w1 ok.bad
theorem homA {enc : α → Dt} (xs : List α) : eU eA (xs.map enc) = eU enc xs := by unfold eU; rw [map_eA]
theorem lisA {enc : α → Dt} (xs : List α) : eL eA (xs.map enc) = eL enc xs := by unfold eL; rw [map_eA]
theorem ev_homA {enc : α → Dt} {xs : List α} (h : Ev F te Γ (.dat (eU enc xs))) : Ev F te Γ (.dat (eU eA (xs.map enc))) := by rw [homA]; exact h
theorem ev_lisA {enc : α → Dt} {xs : List α} (h : Ev F te Γ (.dat (eL enc xs))) : Ev F te Γ (.dat (eL eA (xs.map enc))) := by rw [lisA]; exact h
abbrev zipP (p : List α × List β) : List (α × β) := p.1.zip p.2
abbrev rngP (p : Int × Int) : List Int := rng p.1 p.2
theorem op2_neO {a b : Option Int} : Op2 F rNe (.dat (eO eI a)) (.dat (eO eI b)) (.dat (.bl (!decide (a = b)))) := op2_val _ (fun B => by unfold Rp; rfl) fun B H x y Q _ h1 h2 q => by
  cases a with
  | none =>
    rw [rp_non h1]
    cases b with
    | none => rw [rp_non h2]; exact ⟨rfl, by simpa using q⟩
    | some j => rw [rp_int h2]; exact ⟨rfl, by simpa using q⟩
  | some i =>
    rw [rp_int h1]
    cases b with
    | none => rw [rp_non h2]; exact ⟨rfl, by simpa using q⟩
    | some j =>
      rw [rp_int h2]
      refine ⟨rfl, ?_⟩
      by_cases z : i = j
      · subst z
        simpa using q
      · simpa [z] using q
theorem ev_neO {a b : Option Int} (h1 : Ev F ta Γ (.dat (eO eI a))) (h2 : Ev F tb Γ (.dat (eO eI b))) : Ev F (tOp rNe ta tb) Γ (.dat (.bl (!decide (a = b)))) := ev_op h1 h2 op2_neO
end
end Sm
namespace Mi
open PySem L2 Sm
def ks_HEADS : List Str := ["take", "give", "let", "say", "off", "if", "else", "end", "as"]
def k_HEADS : List (List Nat) := ks_HEADS.map lt
def ks_DOERS : List Str := ["plus", "minus", "times", "over", "rest", "under", "same"]
def k_DOERS : List (List Nat) := ks_DOERS.map lt
def m_is_worth (v_thing : Int) : R Bool :=
  (R.ok ((!true) || false)).bind fun b => if b = true then (
  (R.ok false)) else (
  (R.ok (decide ((-(1000000000000000000000000000000 : Int)) ≤ v_thing) && decide (v_thing ≤ (1000000000000000000000000000000 : Int)))))
def m_numeral (v_worth : Dt) : R (List Nat) :=
  (R.guard (Dt.isI v_worth = true) (R.guard ((Dt.asI v_worth).natAbs.log2 < 1920) (R.ok (strI (Dt.asI v_worth)))))
def m_is_name_L1 (v_sign : Nat) : R (Ctl Unit Bool) :=
  (R.ok (!decide (v_sign ∈ (lt "abcdefghijklmnopqrstuvwxyz")))).bind fun b => if b = true then (
  (R.ok false).bind fun r => R.ok (Ctl.rt r)) else (
  R.ok (Ctl.nx ()))
def m_is_name_J1  : R Bool :=
  (R.ok true)
def m_is_name (v_text : (List Nat)) : R Bool :=
  (R.or (R.ok (decide (v_text = (lt "")))) (R.or (R.guard (gS v_text) (R.ok (decide ((6 : Int) < (v_text.length : Int))))) (R.or (R.ok (decide (v_text ∈ k_DOERS))) (R.ok (decide (v_text ∈ k_HEADS)))))).bind fun b => if b = true then (
  (R.ok false)) else (
  (((R.ok v_text).bind fun c12 => forR (fun y4 (s5 : Unit) => m_is_name_L1 y4) c12 ()) : R (Ctl Unit Bool)).bind fun c => c.fin fun s5 => m_is_name_J1 )
def m_law_cell_at (v_script : (List Int)) (v_k : Int) : R Int :=
  (R.ok (decide (v_k < (v_script.length : Int)))).bind fun b => if b = true then (
  (R.guard (inB v_script v_k) (R.ok (getI v_script v_k)))) else (
  (R.ok (0 : Int)))
def m_law_mixed (v_cell : Int) (v_k : Int) : R Int :=
  (R.guard (0 < (2147483647 : Int)) (R.guard (CMulW (11 : Int) v_k) (R.ok (((v_cell % (2147483647 : Int)) + ((11 : Int) * v_k)) + (7 : Int))))).bind fun v_number =>
  (R.guard (CMulW v_number ((v_number + (48271 : Int)) + v_k)) (R.guard (0 < (2147483647 : Int)) (R.guard (CDivW ((v_number * ((v_number + (48271 : Int)) + v_k)) % (2147483647 : Int)) (5 : Int)) (R.ok (((v_number * ((v_number + (48271 : Int)) + v_k)) % (2147483647 : Int)) / (5 : Int))))))
def m_law_letters_L1 (v_number : Int) (v_letters : (List Nat)) (v_found : (List Nat)) (v_k : Int) : R (Int × (List Nat)) :=
  (R.guard (0 < (26 : Int)) (R.guard (gS v_letters ∧ inB v_letters (v_number % (26 : Int))) (R.guard (gS (v_found ++ [(getI v_letters (v_number % (26 : Int)))])) (R.ok (v_found ++ [(getI v_letters (v_number % (26 : Int)))]))))).bind fun v_found =>
  (R.guard (CDivW v_number (26 : Int)) (R.guard (CMulW (991 : Int) v_k) (R.guard (CMulW ((991 : Int) * v_k) v_k) (R.ok ((v_number / (26 : Int)) + (((991 : Int) * v_k) * v_k)))))).bind fun v_number =>
  R.ok (v_number, v_found)
def m_law_letters_J1 (v_found : (List Nat)) : R (List Nat) :=
  (R.ok v_found)
def m_law_letters (v_number : Int) (v_many : Int) : R (List Nat) :=
  (R.ok (lt "abcdefghijklmnopqrstuvwxyz")).bind fun v_letters =>
  (R.ok (lt "")).bind fun v_found =>
  (((R.ok v_many).bind fun j => R.guard (gR j) (R.ok j)).bind fun c32 => foldR (fun y19 (s20 : (Int × (List Nat))) => m_law_letters_L1 s20.1 v_letters s20.2 y19) (rng 0 c32) (v_number, v_found)).bind fun s20 => m_law_letters_J1 s20.2
def m_law_free (v_name : (List Nat)) : R (List Nat) :=
  (R.ok (decide (v_name ∈ ([(lt "take"), (lt "give"), (lt "let"), (lt "say"), (lt "off"), (lt "if"), (lt "else"), (lt "end"), (lt "as")] : (List (List Nat)))))).bind fun b => if b = true then (
  (R.guard (gS (v_name ++ (lt "q"))) (R.ok (v_name ++ (lt "q"))))) else (
  (R.ok (decide (v_name ∈ ([(lt "plus"), (lt "minus"), (lt "times"), (lt "over"), (lt "rest"), (lt "under"), (lt "same")] : (List (List Nat)))))).bind fun b => if b = true then (
  (R.guard (gS (v_name ++ (lt "q"))) (R.ok (v_name ++ (lt "q"))))) else (
  (R.ok v_name)))
def m_law_figures_Q1 (v_rest : Int) : R Bool := (R.ok (decide ((9 : Int) < v_rest)))
def m_law_figures_L1 (v_rest : Int) (v_found : (List Nat)) : R (Ctl (Int × (List Nat)) (List Nat)) :=
  (R.guard (CDivW v_rest (10 : Int)) (R.ok (v_rest / (10 : Int)))).bind fun v_rest =>
  (R.guard (0 < (10 : Int)) (R.guard (gS (lt "0123456789") ∧ inB (lt "0123456789") (v_rest % (10 : Int))) (R.guard (gS ([(getI (lt "0123456789") (v_rest % (10 : Int)))] ++ v_found)) (R.ok ([(getI (lt "0123456789") (v_rest % (10 : Int)))] ++ v_found))))).bind fun v_found =>
  R.ok (Ctl.nx (v_rest, v_found))
def m_law_figures_J1 (v_worth : Int) (v_found : (List Nat)) : R (List Nat) :=
  (R.ok (decide (v_worth < (0 : Int)))).bind fun b => if b = true then (
  (R.guard (gS ((lt "-") ++ v_found)) (R.ok ((lt "-") ++ v_found)))) else (
  (R.ok v_found))
def m_law_figures (v_worth : Int) : R (List Nat) :=
  (R.ok (absI v_worth)).bind fun v_rest =>
  (R.guard (0 < (10 : Int)) (R.guard (gS (lt "0123456789") ∧ inB (lt "0123456789") (v_rest % (10 : Int))) (R.ok [(getI (lt "0123456789") (v_rest % (10 : Int)))]))).bind fun v_found =>
  ((whileR (fun (s37 : (Int × (List Nat))) => m_law_figures_Q1 s37.1) (fun (s37 : (Int × (List Nat))) => m_law_figures_L1 s37.1 s37.2) (v_rest.natAbs + v_found.length + 2) (v_rest, v_found)) : R (Ctl (Int × (List Nat)) (List Nat))).bind fun c => c.fin fun s37 => m_law_figures_J1 v_worth s37.2
def m_law_joined (v_some : (List ((List (List Nat)) × (List Dt)))) (v_number : Int) : R (List ((List (List Nat)) × (List Dt))) :=
  (R.guard (0 < (7 : Int)) (R.guard (inB ([(lt "plus"), (lt "minus"), (lt "times"), (lt "over"), (lt "rest"), (lt "under"), (lt "same")] : (List (List Nat))) (v_number % (7 : Int))) (R.ok (getI ([(lt "plus"), (lt "minus"), (lt "times"), (lt "over"), (lt "rest"), (lt "under"), (lt "same")] : (List (List Nat))) (v_number % (7 : Int)))))).bind fun v_word =>
  (R.guard (inB v_some (-(2 : Int))) (R.ok (getI v_some (-(2 : Int))))).bind fun v_first =>
  (R.guard (inB v_some (-(1 : Int))) (R.ok (getI v_some (-(1 : Int))))).bind fun v_second =>
  (R.guard ((([v_word] : (List (List Nat))) ++ v_first.1).length ≤ 16777216) (R.guard (((([v_word] : (List (List Nat))) ++ v_first.1) ++ v_second.1).length ≤ 16777216) (R.guard ((v_first.2 ++ v_second.2).length ≤ 16777216) (R.guard (((v_first.2 ++ v_second.2) ++ ([(eS v_word)] : (List Dt))).length ≤ 16777216) (R.guard (((cutL v_some none (some (-(2 : Int)))) ++ ([(((([v_word] : (List (List Nat))) ++ v_first.1) ++ v_second.1), ((v_first.2 ++ v_second.2) ++ ([(eS v_word)] : (List Dt))))] : (List ((List (List Nat)) × (List Dt))))).length ≤ 16777216) (R.ok ((cutL v_some none (some (-(2 : Int)))) ++ ([(((([v_word] : (List (List Nat))) ++ v_first.1) ++ v_second.1), ((v_first.2 ++ v_second.2) ++ ([(eS v_word)] : (List Dt))))] : (List ((List (List Nat)) × (List Dt)))))))))))
def m_law_alike_L1 (v_one : Dt) (v_other : Dt) : R (Ctl Unit Bool) :=
  (R.or (R.ok (Dt.isT "bool" v_one)) (R.or (R.ok (!decide ((Dt.isT "int" v_one) = (Dt.isT "int" v_other)))) (R.guard (gQ2 (eA v_one) (eA v_other)) (R.ok (!eqD (eA v_one) (eA v_other)))))).bind fun b => if b = true then (
  (R.ok false).bind fun r => R.ok (Ctl.rt r)) else (
  R.ok (Ctl.nx ()))
def m_law_alike_J1  : R Bool :=
  (R.ok true)
def m_law_alike (v_found : (List Dt)) (v_due : (List Dt)) : R Bool :=
  (R.ok ((!true) || (!decide ((v_found.length : Int) = (v_due.length : Int))))).bind fun b => if b = true then (
  (R.ok false)) else (
  ((((R.ok ()).bind fun x57 => R.ok ((v_found, v_due) : ((List Dt) × (List Dt)))).bind fun c67 => forR (fun y58 (s59 : Unit) => m_law_alike_L1 y58.1 y58.2) (zipP (α := Dt) (β := Dt) c67) ()) : R (Ctl Unit Bool)).bind fun c => c.fin fun s59 => m_law_alike_J1 )
def m_law_around_C1 (v_number : Int) (v_some : (List (List Nat))) (v_k : Int) : R (List Nat) := (R.guard (inB ([(1 : Int), (11 : Int), (121 : Int), (1331 : Int)] : (List Int)) v_k) (R.guard (CDivW v_number (getI ([(1 : Int), (11 : Int), (121 : Int), (1331 : Int)] : (List Int)) v_k)) (R.guard (0 < (11 : Int)) (R.guard (inB v_some ((v_number / (getI ([(1 : Int), (11 : Int), (121 : Int), (1331 : Int)] : (List Int)) v_k)) % (11 : Int))) (R.ok (getI v_some ((v_number / (getI ([(1 : Int), (11 : Int), (121 : Int), (1331 : Int)] : (List Int)) v_k)) % (11 : Int))))))))
def m_law_around (v_number : Int) (v_names : (List (List Nat))) : R (List (List Nat)) :=
  (R.guard (inB v_names (0 : Int)) (R.guard (inB v_names (3 : Int)) (R.ok ([(lt "plus"), (lt "take"), (lt "7"), (lt ""), (lt "as"), (lt "same"), (getI v_names (0 : Int)), (getI v_names (3 : Int)), (lt "-0"), (lt "end"), (lt "x y")] : (List (List Nat)))))).bind fun v_some =>
  (((R.guard (CDivW v_number (14641 : Int)) (R.guard (0 < (5 : Int)) (R.ok ((v_number / (14641 : Int)) % (5 : Int))))).bind fun j => R.guard (gR j) (R.ok j)).bind fun c => R.guard ((rng 0 c).length ≤ 16777216) (mapR (fun x => m_law_around_C1 v_number v_some x) (rng 0 c)))
def m_worth_in_L1 (v_sign : Nat) : R Unit :=
  (R.ok (!decide (v_sign ∈ (lt "0123456789")))).bind fun b => if b = true then (
  R.err .noNumber) else (
  R.ok ())
def m_worth_in_J2 (v_text : (List Nat)) (v_figures : (List Nat)) : R Int :=
  (R.guard (gS v_figures ∧ inB v_figures (0 : Int)) (R.ok ((decide ([(getI v_figures (0 : Int))] = (lt "0"))) && (!decide (v_text = (lt "0")))))).bind fun b => if b = true then (
  R.err .noNumber) else (
  (R.guard ((intX? v_text).isSome = true ∧ v_text.length ≤ 640) (R.ok ((intX? v_text).getD 0))).bind fun v_worth =>
  (R.not (m_is_worth v_worth)).bind fun b => if b = true then (
  R.err .noNumber) else (
  (R.ok v_worth)))
def m_worth_in_J1 (v_text : (List Nat)) (v_figures : (List Nat)) : R Int :=
  (R.or (R.ok (decide (v_figures = (lt "")))) (R.guard (gS v_figures) (R.ok (decide ((31 : Int) < (v_figures.length : Int)))))).bind fun b => if b = true then (
  R.err .noNumber) else (
  ((R.ok v_figures).bind fun c90 => foldR (fun y83 (s84 : Unit) => m_worth_in_L1 y83) c90 ()).bind fun s84 => m_worth_in_J2 v_text v_figures)
def m_worth_in (v_text : (List Nat)) : R Int :=
  (R.ok v_text).bind fun v_figures =>
  (((R.guard (gS v_text) (R.ok (decide ((cutL v_text none (some (1 : Int))) = (lt "-"))))).bind fun b => if b = true then (
  (R.guard (gS v_text) (R.ok (cutL v_text (some (1 : Int)) none))).bind fun v_figures =>
  R.ok v_figures) else (
  R.ok v_figures)) : R (List Nat)).bind fun s78 => m_worth_in_J1 v_text s78
def m_words_of_J1 (v_parts : (List (List Dt))) : R (List (List Dt)) :=
  R.ok v_parts
def m_words_of_L1 (v_parts : (List (List Dt))) (v_part : Dt) : R (List (List Dt)) :=
  (R.guard (flatD v_part = true) (R.ok (inA v_part k_DOERS))).bind fun b => if b = true then (
  (popR v_parts).bind (R.sp2 fun v_second v_parts =>
  (popR v_parts).bind (R.sp2 fun v_first v_parts =>
  (R.guard ((([v_part] : (List Dt)) ++ v_first).length ≤ 16777216) (R.guard (((([v_part] : (List Dt)) ++ v_first) ++ v_second).length ≤ 16777216) (R.ok ((([v_part] : (List Dt)) ++ v_first) ++ v_second)))).bind fun a103 => R.guard (gL v_parts) ((R.ok (v_parts ++ [a103])).bind fun v_parts =>
  R.ok v_parts)))) else (
  (((R.ok (Dt.isT "int" v_part)).bind fun b => if b = true then (
  ((((m_numeral v_part).bind fun a => R.ok (eS a)).bind fun a => (R.ok ()).bind fun b => R.ok (a, b)).bind fun x107 => R.ok ([x107.1] : (List Dt))).bind fun a108 => R.guard (gL v_parts) ((R.ok (v_parts ++ [a108])).bind fun v_parts =>
  R.ok v_parts)) else (
  (R.ok ([v_part] : (List Dt))).bind fun a109 => R.guard (gL v_parts) ((R.ok (v_parts ++ [a109])).bind fun v_parts =>
  R.ok v_parts))) : R (List (List Dt))).bind fun s104 => m_words_of_J1 s104)
def m_words_of_J2 (v_parts : (List (List Dt))) : R (List Dt) :=
  (R.guard (inB v_parts (0 : Int)) (R.ok (getI v_parts (0 : Int))))
def m_words_of (v_term : (List Dt)) : R (List Dt) :=
  (R.ok ([] : (List (List Dt)))).bind fun v_parts =>
  ((R.ok v_term).bind fun c110 => foldR (fun y93 (s94 : (List (List Dt))) => m_words_of_L1 s94 y93) c110 v_parts).bind fun s94 => m_words_of_J2 s94
def m_law_names_C1 (v_letters : (List Nat)) (v_base : (List Nat)) (v_at : Int) (v_first : Int) (v_k : Int) : R (List Nat) := (R.guard (gS v_base) (R.guard (0 < (26 : Int)) (R.guard (gS v_letters ∧ inB v_letters ((v_first + v_k) % (26 : Int))) (R.guard (gS ((cutL v_base none (some v_at)) ++ [(getI v_letters ((v_first + v_k) % (26 : Int)))])) (R.guard (gS v_base) (R.guard (gS (((cutL v_base none (some v_at)) ++ [(getI v_letters ((v_first + v_k) % (26 : Int)))]) ++ (cutL v_base (some (v_at + (1 : Int))) none))) (R.ok (((cutL v_base none (some v_at)) ++ [(getI v_letters ((v_first + v_k) % (26 : Int)))]) ++ (cutL v_base (some (v_at + (1 : Int))) none)))))))))
def m_law_names_C2 (v_cell : Int) (v_k : Int) : R (List Nat) := (((m_law_mixed v_cell ((3 : Int) + v_k)).bind fun a => (((R.ok (1 : Int)).bind fun x140 => ((m_law_mixed v_cell ((7 : Int) + v_k)).bind fun x137 => (R.ok (6 : Int)).bind fun x138 => R.guard (0 < x138) (R.ok (x137 % x138))).bind fun x141 => R.ok (x140 + x141)).bind fun a => (R.ok ()).bind fun b => R.ok (a, b)).bind fun b => R.ok (a, b)).bind fun x142 => m_law_letters x142.1 x142.2.1)
def m_law_names_C3  (v_name : (List Nat)) : R (List Nat) := (m_law_free v_name)
def m_law_names_J1 (v_some : (List (List Nat))) : R (List (List Nat)) :=
  ((R.ok v_some).bind fun c => R.guard (c.length ≤ 16777216) (mapR (fun x => m_law_names_C3 x) c))
def m_law_names (v_cell : Int) : R (List (List Nat)) :=
  (R.ok (lt "abcdefghijklmnopqrstuvwxyz")).bind fun v_letters =>
  ((R.guard (CDivW v_cell (3 : Int)) (R.guard (0 < (6 : Int)) ((m_law_mixed v_cell (1 : Int)).bind fun a => (R.ok ()).bind fun b => R.ok (a, b)))).bind fun x114 => m_law_letters x114.1 ((1 : Int) + ((v_cell / (3 : Int)) % (6 : Int)))).bind fun v_base =>
  ((m_law_mixed v_cell (2 : Int)).bind fun x116 => (R.guard (gS v_base) (R.ok (v_base.length : Int))).bind fun x117 => R.guard (0 < x117) (R.ok (x116 % x117))).bind fun v_at =>
  (((R.guard (0 < (3 : Int)) (R.ok (decide ((v_cell % (3 : Int)) = (0 : Int))))).bind fun b => if b = true then (
  (R.guard (gS v_base ∧ inB v_base v_at) (R.ok (findX v_letters [(getI v_base v_at)]))).bind fun v_first =>
  (((R.ok (4 : Int)).bind fun j => R.guard (gR j) (R.ok j)).bind fun c => R.guard ((rng 0 c).length ≤ 16777216) (mapR (fun x => m_law_names_C1 v_letters v_base v_at v_first x) (rng 0 c))).bind fun v_some =>
  R.ok v_some) else (
  (R.guard (0 < (3 : Int)) (R.ok (decide ((v_cell % (3 : Int)) = (1 : Int))))).bind fun b => if b = true then (
  (((m_law_mixed v_cell (1 : Int)).bind fun a => (R.ok ()).bind fun b => R.ok (a, b)).bind fun x132 => m_law_letters x132.1 (6 : Int)).bind fun v_base =>
  (R.guard (gS v_base) (R.guard (gS v_base) (R.guard (gS v_base) (R.ok ([(cutL v_base none (some ((1 : Int) + v_at))), (cutL v_base none (some ((2 : Int) + v_at))), (cutL v_base none (some ((3 : Int) + v_at))), v_base] : (List (List Nat))))))).bind fun v_some =>
  R.ok v_some) else (
  (((R.ok (4 : Int)).bind fun j => R.guard (gR j) (R.ok j)).bind fun c => R.guard ((rng 0 c).length ≤ 16777216) (mapR (fun x => m_law_names_C2 v_cell x) (rng 0 c))).bind fun v_some =>
  R.ok v_some))) : R (List (List Nat))).bind fun s120 => m_law_names_J1 s120
def m_law_leaf_J1 (v_worth : Int) : R ((List (List Nat)) × (List Dt)) :=
  (((((m_law_figures v_worth).bind fun a => (R.ok ()).bind fun b => R.ok (a, b)).bind fun x160 => R.ok ([x160.1] : (List (List Nat)))).bind fun a => (R.ok ()).bind fun b => R.ok (a, b)).bind fun x161 => R.ok (x161.1, ([(eI v_worth)] : (List Dt))))
def m_law_leaf (v_cell : Int) (v_names : (List (List Nat))) : R ((List (List Nat)) × (List Dt)) :=
  (R.guard (0 < (5 : Int)) (R.ok (decide ((v_cell % (5 : Int)) < (2 : Int))))).bind fun b => if b = true then (
  (R.guard (CDivW v_cell (5 : Int)) (R.guard (0 < (4 : Int)) (R.guard (inB v_names ((v_cell / (5 : Int)) % (4 : Int))) (R.ok (getI v_names ((v_cell / (5 : Int)) % (4 : Int))))))).bind fun v_name =>
  (R.ok (([v_name] : (List (List Nat))), ([(eS v_name)] : (List Dt))))) else (
  (R.guard (CDivW v_cell (5 : Int)) (R.guard (0 < (14 : Int)) (R.ok (((v_cell / (5 : Int)) % (14 : Int)) - (4 : Int))))).bind fun v_worth =>
  (((R.guard (0 < (5 : Int)) (R.ok (decide ((v_cell % (5 : Int)) = (4 : Int))))).bind fun b => if b = true then (
  (R.guard (CDivW v_cell (5 : Int)) (R.guard (CPow (10 : Int) (30 : Int)) (R.guard (CPow (10 : Int) (30 : Int)) (R.guard (CMulW (2 : Int) ((10 : Int) ^ (30 : Int).toNat)) (R.guard (0 < (((2 : Int) * ((10 : Int) ^ (30 : Int).toNat)) + (1 : Int))) (R.guard (CPow (10 : Int) (30 : Int)) (R.ok ((((v_cell / (5 : Int)) + ((10 : Int) ^ (30 : Int).toNat)) % (((2 : Int) * ((10 : Int) ^ (30 : Int).toNat)) + (1 : Int))) - ((10 : Int) ^ (30 : Int).toNat))))))))).bind fun v_worth =>
  R.ok v_worth) else (
  R.ok v_worth)) : R Int).bind fun s151 => m_law_leaf_J1 s151)
def m_part_in_H1 (e166 : Exn)  : R (Ctl Unit Dt) := R.err .noTerm
def m_part_in_J1  : R Dt :=
  R.bad
def m_part_in (v_word : (List Nat)) : R Dt :=
  (m_is_name v_word).bind fun b => if b = true then (
  (R.ok (eS v_word))) else (
  (R.tryX (((m_worth_in v_word).bind fun a => R.ok (eI a)).bind fun r => R.ok (Ctl.rt r)) (Exn.is "NoNumber") (fun e166 => m_part_in_H1 e166 ) : R (Ctl Unit Dt)).bind fun c => c.fin fun s162 => m_part_in_J1 )
def m_law_term_J1 (v_some : (List ((List (List Nat)) × (List Dt)))) (v_leaves : Int) : R ((List ((List (List Nat)) × (List Dt))) × Int) :=
  R.ok (v_some, v_leaves)
def m_law_term_L1 (v_names : (List (List Nat))) (v_some : (List ((List (List Nat)) × (List Dt)))) (v_leaves : Int) (v_cell : Int) : R ((List ((List (List Nat)) × (List Dt))) × Int) :=
  (R.and (R.ok (decide ((1 : Int) < (v_some.length : Int)))) (R.guard (0 < (3 : Int)) (R.ok ((decide ((v_cell % (3 : Int)) = (0 : Int))) || (decide (v_leaves = (30 : Int))))))).bind fun b => if b = true then (
  (R.guard (CDivW v_cell (3 : Int)) (m_law_joined v_some (v_cell / (3 : Int)))).bind fun v_some =>
  R.ok (v_some, v_leaves)) else (
  (((R.ok (decide (v_leaves < (30 : Int)))).bind fun b => if b = true then (
  ((R.ok v_some).bind fun x188 => (((R.guard (CDivW v_cell (3 : Int)) (m_law_leaf (v_cell / (3 : Int)) v_names)).bind fun a => (R.ok ()).bind fun b => R.ok (a, b)).bind fun x187 => R.ok ([x187.1] : (List ((List (List Nat)) × (List Dt))))).bind fun x189 => R.guard ((x188 ++ x189).length ≤ 16777216) (R.ok (x188 ++ x189))).bind fun v_some =>
  ((R.ok (1 : Int)).bind fun b191 => R.ok (v_leaves + b191)).bind fun v_leaves =>
  R.ok (v_some, v_leaves)) else (
  R.ok (v_some, v_leaves))) : R ((List ((List (List Nat)) × (List Dt))) × Int)).bind fun s183 => m_law_term_J1 s183.1 s183.2)
def m_law_term_Q1 (v_some : (List ((List (List Nat)) × (List Dt)))) : R Bool := (R.ok (decide ((1 : Int) < (v_some.length : Int))))
def m_law_term_L2 (v_some : (List ((List (List Nat)) × (List Dt)))) (v_leaves : Int) : R (Ctl (List ((List (List Nat)) × (List Dt))) ((List (List Nat)) × (List Dt))) :=
  (R.guard (CMulW (v_some.length : Int) (v_some.length : Int)) (m_law_joined v_some (((v_some.length : Int) * (v_some.length : Int)) + v_leaves))).bind fun v_some =>
  R.ok (Ctl.nx v_some)
def m_law_term_J4 (v_some : (List ((List (List Nat)) × (List Dt)))) : R ((List (List Nat)) × (List Dt)) :=
  (R.guard (inB v_some (0 : Int)) (R.ok (getI v_some (0 : Int))))
def m_law_term_J3 (v_some : (List ((List (List Nat)) × (List Dt)))) (v_leaves : Int) : R ((List (List Nat)) × (List Dt)) :=
  ((whileR (fun (s198 : (List ((List (List Nat)) × (List Dt)))) => m_law_term_Q1 s198) (fun (s198 : (List ((List (List Nat)) × (List Dt)))) => m_law_term_L2 s198 v_leaves) (v_some.length + 2) v_some) : R (Ctl (List ((List (List Nat)) × (List Dt))) ((List (List Nat)) × (List Dt)))).bind fun c => c.fin fun s198 => m_law_term_J4 s198
def m_law_term_J2 (v_names : (List (List Nat))) (v_some : (List ((List (List Nat)) × (List Dt)))) (v_leaves : Int) : R ((List (List Nat)) × (List Dt)) :=
  (((R.guard (gQ (eL (e2 (eL eS) (eU eA)) v_some)) (R.ok (decide (v_some.length = 0)))).bind fun b => if b = true then (
  (((m_law_leaf (0 : Int) v_names).bind fun a => (R.ok ()).bind fun b => R.ok (a, b)).bind fun x197 => R.ok ([x197.1] : (List ((List (List Nat)) × (List Dt))))).bind fun v_some =>
  R.ok v_some) else (
  R.ok v_some)) : R (List ((List (List Nat)) × (List Dt)))).bind fun s194 => m_law_term_J3 s194 v_leaves
def m_law_term (v_cells : (List Int)) (v_names : (List (List Nat))) : R ((List (List Nat)) × (List Dt)) :=
  (R.ok ([] : (List ((List (List Nat)) × (List Dt))))).bind fun v_some =>
  (R.ok (0 : Int)).bind fun v_leaves =>
  ((R.ok v_cells).bind fun c192 => foldR (fun y174 (s175 : ((List ((List (List Nat)) × (List Dt))) × Int)) => m_law_term_L1 v_names s175.1 s175.2 y174) c192 (v_some, v_leaves)).bind fun s175 => m_law_term_J2 v_names s175.1 s175.2
def m_term_from_Q1 (v_words : (List (List Nat))) (v_at : Int) (v_place : Int) : R Bool := (R.ok ((decide (v_place < (v_words.length : Int))) && (decide ((v_place - v_at) < (60 : Int)))))
def m_term_from_Q2 (v_waiting : (List (List Nat))) (v_lacking : (List Int)) : R Bool := (R.and (R.guard (gQ (eL eS v_waiting)) (R.ok (!decide (v_waiting.length = 0)))) (R.guard (inB v_lacking (-(1 : Int))) (R.ok (decide ((getI v_lacking (-(1 : Int))) = (1 : Int))))))
def m_term_from_L2 (v_told : (List Dt)) (v_waiting : (List (List Nat))) (v_lacking : (List Int)) : R (Ctl ((List Dt) × (List (List Nat)) × (List Int)) ((List Dt) × Int)) :=
  ((popR v_waiting).bind fun p => R.ok ((fun (a : (List Nat)) => (eS a)) p.1, p.2)).bind (R.sp2 fun a224 v_waiting => R.guard (gL v_told) ((R.ok (v_told ++ [a224])).bind fun v_told =>
  (popR v_lacking).bind (R.sp2 fun _ v_lacking =>
  R.ok (Ctl.nx (v_told, v_waiting, v_lacking)))))
def m_term_from_J1 (v_told : (List Dt)) (v_waiting : (List (List Nat))) (v_lacking : (List Int)) (v_place : Int) : R (Ctl ((List Dt) × (List (List Nat)) × (List Int) × Int) ((List Dt) × Int)) :=
  (R.guard (gQ (eL eS v_waiting)) (R.ok (decide (v_waiting.length = 0)))).bind fun b => if b = true then (
  (R.ok (v_told, v_place)).bind fun r => R.ok (Ctl.rt r)) else (
  (R.ok (1 : Int)).bind fun a226 => R.guard (inB v_lacking (-(1 : Int))) ((R.ok (setI v_lacking (-(1 : Int)) a226)).bind fun v_lacking =>
  R.ok (Ctl.nx (v_told, v_waiting, v_lacking, v_place))))
def m_term_from_L1 (v_words : (List (List Nat))) (v_told : (List Dt)) (v_waiting : (List (List Nat))) (v_lacking : (List Int)) (v_place : Int) : R (Ctl ((List Dt) × (List (List Nat)) × (List Int) × Int) ((List Dt) × Int)) :=
  (R.guard (inB v_words v_place) (R.ok (getI v_words v_place))).bind fun v_word =>
  ((R.ok (1 : Int)).bind fun b227 => R.ok (v_place + b227)).bind fun v_place =>
  (R.ok (decide (v_word ∈ k_DOERS))).bind fun b => if b = true then (
  (R.ok v_word).bind fun a213 => R.guard (gL v_waiting) ((R.ok (v_waiting ++ [a213])).bind fun v_waiting =>
  (R.ok (2 : Int)).bind fun a214 => R.guard (gL v_lacking) ((R.ok (v_lacking ++ [a214])).bind fun v_lacking =>
  R.ok (Ctl.nx (v_told, v_waiting, v_lacking, v_place))))) else (
  (m_part_in v_word).bind fun a215 => R.guard (gL v_told) ((R.ok (v_told ++ [a215])).bind fun v_told =>
  ((whileR (fun (s216 : ((List Dt) × (List (List Nat)) × (List Int))) => m_term_from_Q2 s216.2.1 s216.2.2) (fun (s216 : ((List Dt) × (List (List Nat)) × (List Int))) => m_term_from_L2 s216.1 s216.2.1 s216.2.2) (64) (v_told, v_waiting, v_lacking)) : R (Ctl ((List Dt) × (List (List Nat)) × (List Int)) ((List Dt) × Int))).bind fun c => c.fin2 fun s216 => m_term_from_J1 s216.1 s216.2.1 s216.2.2 v_place))
def m_term_from_J2  : R ((List Dt) × Int) :=
  R.err .noTerm
def m_term_from (v_words : (List (List Nat))) (v_at : Int) : R ((List Dt) × Int) :=
  (R.ok ([] : (List Dt))).bind fun v_told =>
  (R.ok ([] : (List (List Nat)))).bind fun v_waiting =>
  (R.ok ([] : (List Int))).bind fun v_lacking =>
  (R.ok v_at).bind fun v_place =>
  ((whileR (fun (s206 : ((List Dt) × (List (List Nat)) × (List Int) × Int)) => m_term_from_Q1 v_words v_at s206.2.2.2) (fun (s206 : ((List Dt) × (List (List Nat)) × (List Int) × Int)) => m_term_from_L1 v_words s206.1 s206.2.1 s206.2.2.1 s206.2.2.2) (64) (v_told, v_waiting, v_lacking, v_place)) : R (Ctl ((List Dt) × (List (List Nat)) × (List Int) × Int) ((List Dt) × Int))).bind fun c => c.fin fun s206 => m_term_from_J2 
def m_law (v_script : (List Int)) : R Bool :=
  (((m_law_cell_at v_script (0 : Int)).bind fun a => (R.ok ()).bind fun b => R.ok (a, b)).bind fun x228 => m_law_names x228.1).bind fun v_names =>
  (m_law_term (cutL v_script (some (2 : Int)) none) v_names).bind (R.sp2 fun v_words v_due =>
  (((((m_law_cell_at v_script (1 : Int)).bind fun a => (R.ok ()).bind fun b => R.ok (a, b)).bind fun x230 => m_law_mixed x230.1 (1 : Int)).bind fun a => (R.ok ()).bind fun b => R.ok (a, b)).bind fun x231 => m_law_around x231.1 v_names).bind fun v_ahead =>
  (((((m_law_cell_at v_script (1 : Int)).bind fun a => (R.ok ()).bind fun b => R.ok (a, b)).bind fun x232 => m_law_mixed x232.1 (2 : Int)).bind fun a => (R.ok ()).bind fun b => R.ok (a, b)).bind fun x233 => m_law_around x233.1 v_names).bind fun v_behind =>
  (R.guard ((v_ahead ++ v_words).length ≤ 16777216) (R.guard (((v_ahead ++ v_words) ++ v_behind).length ≤ 16777216) (R.ok ((v_ahead ++ v_words) ++ v_behind)))).bind fun v_handed =>
  (m_term_from v_handed (v_ahead.length : Int)).bind fun v_found =>
  (R.or (R.ok (!true)) (R.or (R.ok (!decide ((2 : Int) = (2 : Int)))) (R.not (m_law_alike v_found.1 v_due)))).bind fun b => if b = true then (
  (R.ok false)) else (
  (R.ok ((!true) || (false || (!decide (v_found.2 = ((v_ahead.length : Int) + (v_words.length : Int))))))).bind fun b => if b = true then (
  (R.ok false)) else (
  (R.guard ((v_ahead ++ v_words).length ≤ 16777216) (R.guard (((v_ahead ++ v_words) ++ v_behind).length ≤ 16777216) (R.guard (gQ2 ((eL eS) v_handed) ((eL eS) ((v_ahead ++ v_words) ++ v_behind))) (R.ok (!eqD ((eL eS) v_handed) ((eL eS) ((v_ahead ++ v_words) ++ v_behind))))))).bind fun b => if b = true then (
  (R.ok false)) else (
  (m_words_of v_due).bind fun v_told =>
  (R.and (R.ok true) (m_law_alike v_told (List.map eS v_words)))))))
end Mi
namespace Mi
open PySem L2 Sm TL
def letters : List Nat := lt "abcdefghijklmnopqrstuvwxyz"
theorem letters_len : letters.length = 26 := by decide +kernel
theorem letters_low : ∀ c ∈ letters, c < 128 := by decide +kernel
theorem mixed_ok (c k : Int) (h0 : 0 ≤ k) (h1 : k ≤ 100) : Sat (m_law_mixed c k) fun v => 0 ≤ v ∧ v < 2147483647 := by
  unfold m_law_mixed
  have hm := Int.emod_nonneg c (b := 2147483647) (by decide)
  have hl := Int.emod_lt_of_pos c (b := 2147483647) (by decide)
  refine sat_bind (Q := fun v => 0 ≤ v ∧ v ≤ 2147490000) (sat_guard (by decide) (sat_guard (mulW (a := 8) (b := 8) (by decide) (by omega) (by decide) (by decide) (by decide)) (sat_ok ⟨by omega, by omega⟩))) fun v hv => ?_
  refine sat_guard (mulW (a := 40) (b := 40) (by omega) (by omega) (by decide) (by decide) (by decide)) (sat_guard (by decide) (sat_guard (divW (by decide) (by decide)) (sat_ok ?_)))
  have h3 := Int.emod_nonneg (v * (v + 48271 + k)) (b := 2147483647) (by decide)
  have h4 := Int.emod_lt_of_pos (v * (v + 48271 + k)) (b := 2147483647) (by decide)
  omega
def low (l : List Nat) : Prop := ∀ c ∈ l, c < 128
theorem low_cut {l : List Nat} {lo hi : Option Int} (h : low l) : low (cutL l lo hi) := fun c hc => h c (cutL_mem hc)
theorem low_app {a b : List Nat} (h : low a) (k : low b) : low (a ++ b) := fun c hc => (List.mem_append.mp hc).elim (h c) (k c)
theorem letters_ok (n m : Int) (h0 : 0 ≤ m) (h1 : m ≤ 1000) : Sat (m_law_letters n m) fun l => l.length = m.toNat ∧ low l := by
  unfold m_law_letters
  refine sat_bind (Q := (· = letters)) (sat_ok rfl) fun l hl => ?_
  subst hl
  refine sat_bind (Q := (· = [])) (sat_ok (by decide +kernel)) fun f hf => ?_
  subst hf
  refine sat_bind (Q := fun s : Int × List Nat => s.2.length = m.toNat ∧ low s.2) ?_ fun s hs => sat_ok hs
  refine sat_bind (Q := (· = m)) (sat_bind (Q := (· = m)) (sat_ok rfl) fun j hj => by subst hj; exact sat_guard (gR_of (by omega) (by omega)) (sat_ok rfl)) fun j hj => ?_
  subst hj
  refine sat_mono (sat_fold (fun pre s => s.2.length = pre.length ∧ low s.2) ⟨rfl, fun c hc => by simp at hc⟩ fun pre x suf s e hs => ?_) fun s hs => ⟨by rw [hs.1, rng_len]; omega, hs.2⟩
  have hx := rng_pre e
  have hlen : pre.length < (rng 0 j).length := by rw [e]; simp
  rw [rng_len] at hlen
  unfold m_law_letters_L1
  have hm := Int.emod_nonneg s.1 (b := 26) (by decide)
  have hl := Int.emod_lt_of_pos s.1 (b := 26) (by decide)
  have hi : inB letters (s.1 % 26) := inB_of hm (by rw [letters_len]; exact hl)
  refine sat_bind (Q := fun f => f.length = pre.length + 1 ∧ low f) (sat_guard (by decide) (sat_guard ⟨gS_of (by rw [letters_len]; decide), hi⟩ (sat_guard (gS_of ?_) (sat_ok ⟨?_, ?_⟩)))) fun f hf => ?_
  · rw [List.length_append, hs.1]; simp; omega
  · rw [List.length_append, hs.1]; rfl
  · exact low_app hs.2 fun c hc => by rw [List.mem_singleton] at hc; subst hc; exact letters_low _ (getI_mem hi)
  refine sat_bind (Q := fun _ => True) (sat_guard (divW (by decide) (by decide)) (sat_guard (mulW (a := 20) (b := 20) (by decide) (by omega) (by decide) (by decide) (by decide)) (sat_guard (mulW (a := 40) (b := 20) (by omega) (by omega) (by decide) (by decide) (by decide)) (sat_ok trivial)))) fun v _ => sat_ok ?_
  refine ⟨?_, hf.2⟩
  rw [hf.1]; simp
def resv : List (List Nat) := ([lt "take", lt "give", lt "let", lt "say", lt "off", lt "if", lt "else", lt "end"] : List (List Nat)) ++ [lt "as", lt "plus", lt "minus", lt "times", lt "over", lt "rest", lt "under", lt "same"]
theorem resv_split : resv = k_HEADS ++ k_DOERS := rfl
def nameB (t : List Nat) : Bool := (!(decide (t = []) || decide (6 < t.length) || decide (t ∈ resv))) && t.all fun c => decide (c ∈ letters)
theorem signs_any (t : List Nat) : (t.any fun c => !decide (c ∈ letters)) = !(t.all fun c => decide (c ∈ letters)) := by
  induction t with
  | nil => rfl
  | cons a t ih => rw [List.any_cons, List.all_cons, ih]; cases decide (a ∈ letters) <;> rfl
theorem is_name_ok (t : List Nat) (h : gS t) : m_is_name t = .ok (nameB t) := by
  apply sat_eq
  unfold m_is_name
  refine sat_bind (Q := (· = (decide (t = []) || (decide (6 < t.length) || decide (t ∈ resv))))) ?_ fun b hb => ?_
  · have e0 : lt "" = [] := by decide +kernel
    refine sat_or (sat_ok (by rw [e0])) fun _ => ?_
    refine sat_or (sat_guard h (sat_ok (by simp only [decide_eq_decide]; omega))) fun _ => ?_
    have e : decide (t ∈ resv) = (decide (t ∈ k_DOERS) || decide (t ∈ k_HEADS)) := by
      rw [resv_split]
      simp only [List.mem_append, Bool.decide_or]
      rw [Bool.or_comm]
    rw [e]
    exact sat_or (sat_ok rfl) fun _ => sat_ok rfl
  subst hb
  unfold nameB
  rw [Bool.or_assoc]
  refine sat_if (fun c => sat_ok (by rw [c]; rfl)) fun c => ?_
  rw [Bool.eq_false_iff.mpr c]
  refine sat_bind (sat_bind (sat_ok rfl) fun c e => by
    subst e
    exact sat_any (v := false) (fun c => !decide (c ∈ letters)) fun x hx => by
      unfold m_is_name_L1
      refine sat_bind (Q := (· = !decide (x ∈ letters))) (sat_ok rfl) fun b e => ?_
      subst e
      exact sat_if (fun c => by rw [if_pos c]; exact sat_ok rfl) fun c => by rw [if_neg c]; exact sat_ok rfl) fun c e => ?_
  subst e
  rw [signs_any]
  cases t.all fun c => decide (c ∈ letters) <;> exact sat_ok rfl
theorem figures_ok {w : Int} (h : w.natAbs < 10 ^ 40) : m_law_figures w = .ok (numI w) := by
  apply sat_eq
  unfold m_law_figures
  have hl : (numL w.natAbs).length ≤ 40 := numL_short (by decide) h
  have ha : absI w = (w.natAbs : Int) := by unfold absI; split <;> omega
  generalize hn : w.natAbs = n at hl ha
  have hf : gS (lt "0123456789") := gS_of (by rw [figs_len]; decide)
  refine sat_bind (Q := (· = (n : Int))) (sat_ok ha) fun r hr => ?_
  subst hr
  refine sat_bind (Q := (· = [48 + n % 10])) (sat_guard (by decide) (sat_guard ⟨hf, inB_of (by omega) (by rw [figs_len]; omega)⟩ (sat_ok ?_))) fun f hf' => ?_
  · rw [figsI (by omega) (by omega)]
    congr 1 <;> omega
  subst hf'
  refine sat_bind (Q := fun c => ∃ r, c = Ctl.nx (r, numL n)) (sat_mono (sat_while (P := fun c => ∃ r, c = Ctl.nx (r, numL n)) (fun s : Int × List Nat => ∃ m : Nat, s.1 = m ∧ numL n = (if m < 10 then [] else numL (m / 10)) ++ s.2) (fun s => s.1.natAbs) ⟨n, rfl, ?_⟩ (by simp; omega) fun s hs => ?_) fun c h => h) fun c hc => ?_
  · by_cases q : n < 10
    · rw [if_pos q, numL_lt q, List.nil_append]
      congr 2
      omega
    · rw [if_neg q, ← numL_step (by omega)]
  · obtain ⟨m, e1, e2⟩ := hs
    unfold m_law_figures_Q1
    refine sat_ok ?_
    rw [e1]
    by_cases q : m < 10
    · rw [decide_eq_false (by omega)]
      rw [if_pos q, List.nil_append] at e2
      exact ⟨s.1, by rw [e2]⟩
    · rw [decide_eq_true (by omega)]
      rw [if_neg q] at e2
      show Sat (m_law_figures_L1 (m : Int) s.2) _
      unfold m_law_figures_L1
      have hs2 : s.2.length ≤ 40 := by have := congrArg List.length e2; rw [List.length_append] at this; omega
      refine sat_bind (Q := (· = ((m / 10 : Nat) : Int))) (sat_guard (divW (by decide) (by decide)) (sat_ok (by omega))) fun r hr => ?_
      subst hr
      refine sat_bind (Q := (· = (48 + m / 10 % 10) :: s.2)) (sat_guard (by decide) (sat_guard ⟨hf, inB_of (by omega) (by rw [figs_len]; omega)⟩ (sat_guard (gS_of (by simp; omega)) (sat_ok ?_)))) fun f hf' => ?_
      · rw [figsI (by omega) (by omega)]
        show _ :: s.2 = _
        congr 1 <;> omega
      subst hf'
      refine sat_ok ⟨⟨m / 10, rfl, ?_⟩, by omega⟩
      rw [e2]
      by_cases q2 : m / 10 < 10
      · rw [if_pos q2, numL_lt q2]
        show [48 + m / 10] ++ s.2 = [] ++ ((48 + m / 10 % 10) :: s.2)
        have : m / 10 % 10 = m / 10 := by omega
        rw [this]
        rfl
      · rw [if_neg q2, numL_step (n := m / 10) (by omega), List.append_assoc]
        rfl
  · obtain ⟨r, rfl⟩ := hc
    show Sat (m_law_figures_J1 w (numL n)) _
    unfold m_law_figures_J1
    refine sat_bind (Q := (· = decide (w < 0))) (sat_ok rfl) fun b hb => ?_
    subst hb
    unfold numI
    rw [hn]
    have em : lt "-" = [45] := by decide +kernel
    refine sat_if (fun c => ?_) fun c => ?_
    · rw [if_pos (of_decide_eq_true c), em]
      exact sat_guard (gS_of (by simp; omega)) (sat_ok rfl)
    · rw [if_neg (fun z => c (decide_eq_true z))]
      exact sat_ok rfl
theorem numeral_ok {w : Int} (h : w.natAbs < 10 ^ 40) : m_numeral (eI w) = .ok (numI w) := by
  unfold m_numeral
  have : w.natAbs.log2 < 1920 := by
    by_cases q : w.natAbs = 0
    · rw [q]; decide
    · have := (Nat.log2_lt q (k := 200)).mpr (Nat.lt_of_lt_of_le h (by decide))
      omega
  unfold R.guard
  rw [if_pos (show Dt.isI (eI w) = true from rfl), if_pos (show (Dt.asI (eI w)).natAbs.log2 < 1920 from this)]
  show R.ok (strI w) = _
  rw [strI_eq]
theorem worth_int (w : Int) : m_is_worth w = .ok (decide (-1000000000000000000000000000000 ≤ w) && decide (w ≤ 1000000000000000000000000000000)) := rfl
theorem worth_in_ok {w : Int} (h1 : -1000000000000000000000000000000 ≤ w) (h2 : w ≤ 1000000000000000000000000000000) : m_worth_in (numI w) = .ok w := by
  apply sat_eq
  unfold m_worth_in
  have hl : (numL w.natAbs).length ≤ 31 := numL_short (by decide) (by omega)
  have hne := numL_ne w.natAbs
  have hd := numL_digits w.natAbs
  have hg : gS (numI w) := by
    unfold numI
    apply gS_of
    split
    · rw [List.length_cons]; omega
    · omega
  have em : lt "-" = [45] := by decide +kernel
  have e0 : lt "0" = [48] := by decide +kernel
  have ee : lt "" = [] := by decide +kernel
  refine sat_bind (Q := (· = numI w)) (sat_ok rfl) fun f hf => ?_
  subst hf
  refine sat_bind (Q := (· = numL w.natAbs)) (sat_bind (Q := (· = decide (w < 0))) (sat_guard hg (sat_ok ?_)) fun b hb => ?_) fun f hf => ?_
  · rw [cut_head, em]
    unfold numI
    by_cases q : w < 0
    · rw [if_pos q, decide_eq_true q]; rfl
    · rw [if_neg q, decide_eq_false q]
      apply decide_eq_false
      intro z
      cases e : numL w.natAbs with
      | nil => exact hne e
      | cons c r =>
        rw [e] at z hd
        have := hd c (by simp)
        simp at z
        omega
  · subst hb
    refine sat_if (fun c => ?_) fun c => ?_
    · have q := of_decide_eq_true c
      refine sat_bind (Q := (· = numL w.natAbs)) (sat_guard hg (sat_ok ?_)) fun f hf => by subst hf; exact sat_ok rfl
      rw [cut_tail]
      unfold numI
      rw [if_pos q]
      rfl
    · have q : ¬ w < 0 := fun z => c (decide_eq_true z)
      refine sat_ok ?_
      unfold numI
      rw [if_neg q]
  · subst hf
    unfold m_worth_in_J1
    refine sat_bind (Q := (· = false)) (sat_mono (sat_or (x := false) (y := false) (sat_ok (by rw [ee]; exact decide_eq_false hne)) fun _ => sat_guard (gS_of (by omega)) (sat_ok (decide_eq_false (by omega)))) fun b hb => hb) fun b hb => ?_
    subst hb
    refine sat_if (fun c => by cases c) fun _ => ?_
    refine sat_bind (Q := fun _ => True) (sat_bind (Q := (· = numL w.natAbs)) (sat_ok rfl) fun c hc => by
      subst hc
      refine sat_of (sat_foldU fun x hx => ?_) trivial
      unfold m_worth_in_L1
      have : x ∈ lt "0123456789" := fig_mem.mpr (hd x hx)
      rw [decide_eq_true this]
      rfl) fun u _ => ?_
    unfold m_worth_in_J2
    obtain ⟨c0, r0, hc⟩ : ∃ c r, numL w.natAbs = c :: r := by
      cases e : numL w.natAbs with
      | nil => exact absurd e hne
      | cons c r => exact ⟨c, r, rfl⟩
    refine sat_bind (Q := (· = false)) (sat_guard ⟨gS_of (by omega), inB_of (by decide) (by rw [hc, List.length_cons]; omega)⟩ (sat_ok ?_)) fun b hb => ?_
    · rw [hc, getI0, e0]
      by_cases z : w = 0
      · subst z
        have : numI 0 = [48] := by decide +kernel
        rw [this]
        simp
      · obtain ⟨c, r, e, hc48⟩ := numL_head (n := w.natAbs) (by omega)
        rw [hc] at e
        cases e
        have : decide ([c0] = [48]) = false := decide_eq_false (by simpa using hc48)
        rw [this]
        rfl
    · subst hb
      refine sat_if (fun c => by cases c) fun _ => ?_
      have hx := intX_num (w := w) (by omega)
      refine sat_bind (Q := (· = w)) (sat_guard ⟨by rw [hx]; rfl, ?_⟩ (sat_ok (by rw [hx]; rfl))) fun v hv => ?_
      · unfold numI
        split
        · rw [List.length_cons]; omega
        · omega
      · subst hv
        rw [worth_int, decide_eq_true h1, decide_eq_true h2]
        exact sat_ok rfl
inductive Tr where
  | leaf (x : List Nat) (d : Dt)
  | node (w : List Nat) (a b : Tr)
def Tr.pre : Tr → List (List Nat)
  | .leaf x _ => [x]
  | .node w a b => w :: (a.pre ++ b.pre)
def Tr.post : Tr → List Dt
  | .leaf _ d => [d]
  | .node w a b => (a.post ++ b.post) ++ [eS w]
def Tr.parts : Tr → List Dt
  | .leaf _ d => [d]
  | .node w a b => eS w :: (a.parts ++ b.parts)
theorem Tr.len : ∀ t : Tr, t.post.length = t.pre.length ∧ t.parts.length = t.pre.length ∧ 1 ≤ t.pre.length
  | .leaf x d => ⟨rfl, rfl, Nat.le_refl 1⟩
  | .node w a b => by
    have ha := a.len
    have hb := b.len
    unfold Tr.post Tr.pre Tr.parts
    simp only [List.length_append, List.length_cons, List.length_nil]
    omega
abbrev Fr := List Nat × Option Tr
def toldOf : List Fr → List Dt
  | [] => []
  | (_, none) :: fs => toldOf fs
  | (_, some a) :: fs => toldOf fs ++ a.post
def waitOf : List Fr → List (List Nat)
  | [] => []
  | (w, _) :: fs => waitOf fs ++ [w]
def lackOf : List Fr → List Int
  | [] => []
  | (_, none) :: fs => lackOf fs ++ [2]
  | (_, some _) :: fs => lackOf fs ++ [1]
def preOf : List Fr → List (List Nat)
  | [] => []
  | (w, none) :: fs => preOf fs ++ [w]
  | (w, some a) :: fs => preOf fs ++ (w :: a.pre)
theorem wait_len : ∀ fs : List Fr, (waitOf fs).length = fs.length
  | [] => rfl
  | (w, _) :: fs => by unfold waitOf; rw [List.length_append, wait_len fs]; rfl
theorem lack_len : ∀ fs : List Fr, (lackOf fs).length = fs.length
  | [] => rfl
  | (_, none) :: fs => by unfold lackOf; rw [List.length_append, lack_len fs]; rfl
  | (_, some _) :: fs => by unfold lackOf; rw [List.length_append, lack_len fs]; rfl
theorem told_len : ∀ fs : List Fr, (toldOf fs).length + fs.length = (preOf fs).length
  | [] => rfl
  | (w, none) :: fs => by unfold toldOf preOf; have := told_len fs; rw [List.length_append, List.length_cons, List.length_singleton]; omega
  | (w, some a) :: fs => by unfold toldOf preOf; have := told_len fs; have := a.len; rw [List.length_append, List.length_append, List.length_cons, List.length_cons]; omega
def close (t : Tr) : List Fr → Sum Tr (List Fr)
  | [] => .inl t
  | (w, none) :: fs => .inr ((w, some t) :: fs)
  | (w, some a) :: fs => close (.node w a t) fs
def doerFs (fs : List Fr) : Prop := ∀ f ∈ fs, f.1 ∈ k_DOERS
theorem doer_low' : ∀ w ∈ k_DOERS, ∀ c ∈ w, c < 128 := by decide +kernel
theorem wait_gQ {fs : List Fr} (h : doerFs fs) : gQ (eL eS (waitOf fs)) := by
  refine gQn_gQ (n := 1) (gQn_lst fun d hd => ?_) (by decide)
  obtain ⟨w, hw, rfl⟩ := List.mem_map.mp hd
  have hm : ∀ fs : List Fr, doerFs fs → w ∈ waitOf fs → w ∈ k_DOERS := by
    intro fs
    induction fs with
    | nil => intro _ h; simp [waitOf] at h
    | cons f fs ih =>
      obtain ⟨v, o⟩ := f
      intro hd h
      unfold waitOf at h
      rcases List.mem_append.mp h with h | h
      · exact ih (fun f hf => hd f (List.mem_cons_of_mem _ hf)) h
      · rw [List.mem_singleton] at h; subst h; exact hd _ List.mem_cons_self
  exact gQn_str (strOk_ascii (doer_low' w (hm fs h hw)))
abbrev TSt := List Dt × List (List Nat) × List Int × Int
def stOf (fs : List Fr) (place : Int) : TSt := (toldOf fs, waitOf fs, lackOf fs, place)
abbrev TRs := List Dt × Int
def ctlOf (r : Sum Tr (List Fr)) (place : Int) : Ctl TSt TRs := match r with
  | .inl t => .rt (t.post, place)
  | .inr fs => .nx (stOf fs place)
theorem okb' {α β : Type} {a : α} {f : α → R β} : (R.ok a).bind f = f a := rfl
theorem setI_last {α : Type} {xs : List α} {a b : α} : setI (xs ++ [a]) (-1) b = xs ++ [b] := by
  unfold setI ixI
  rw [if_neg (by decide)]
  have : ((-1 : Int) + ((xs ++ [a]).length : Int)).toNat = xs.length := by rw [List.length_append, List.length_singleton]; omega
  rw [this]
  simp
theorem q2_ok {fs : List Fr} (h : doerFs fs) : m_term_from_Q2 (waitOf fs) (lackOf fs) = .ok (match fs with
    | (_, some _) :: _ => true
    | _ => false) := by
  apply sat_eq
  unfold m_term_from_Q2
  match fs, h with
  | [], h =>
    refine sat_mono (sat_and (x := false) (y := false) (sat_guard (wait_gQ h) (sat_ok rfl)) fun z => by cases z) fun b e => e
  | (w, none) :: fs, h =>
    have hl : (waitOf ((w, none) :: fs)).length = fs.length + 1 := wait_len _
    refine sat_mono (sat_and (x := true) (y := false) (sat_guard (wait_gQ h) (sat_ok (by rw [decide_eq_false (by omega)]; rfl))) fun _ => ?_) fun b e => e
    refine sat_guard ⟨by rw [lack_len, List.length_cons]; omega, by rw [lack_len, List.length_cons]; omega⟩ (sat_ok ?_)
    unfold lackOf
    rw [getI_last]
    rfl
  | (w, some a) :: fs, h =>
    have hl : (waitOf ((w, some a) :: fs)).length = fs.length + 1 := wait_len _
    refine sat_mono (sat_and (x := true) (y := true) (sat_guard (wait_gQ h) (sat_ok (by rw [decide_eq_false (by omega)]; rfl))) fun _ => ?_) fun b e => e
    refine sat_guard ⟨by rw [lack_len, List.length_cons]; omega, by rw [lack_len, List.length_cons]; omega⟩ (sat_ok ?_)
    unfold lackOf
    rw [getI_last]
    rfl
theorem up_ok : ∀ (fs : List Fr) (t : Tr) (n : Nat) (place : Int), doerFs fs → (toldOf fs).length + t.post.length + fs.length ≤ 1000 → fs.length < n →
    (whileR (fun (s : List Dt × List (List Nat) × List Int) => m_term_from_Q2 s.2.1 s.2.2) (fun (s : List Dt × List (List Nat) × List Int) => m_term_from_L2 s.1 s.2.1 s.2.2) n (toldOf fs ++ t.post, waitOf fs, lackOf fs)).bind (fun c => c.fin2 fun s => m_term_from_J1 s.1 s.2.1 s.2.2 place) = .ok (ctlOf (close t fs) place)
  | _, _, 0, _, _, _, h => absurd h (Nat.not_lt_zero _)
  | [], t, n + 1, place, hd, hl, _ => by
    unfold whileR
    have q := q2_ok hd
    show (((m_term_from_Q2 (waitOf []) (lackOf [])).bind _).bind _) = _
    rw [q]
    show m_term_from_J1 (toldOf [] ++ t.post) (waitOf []) (lackOf []) place = _
    apply sat_eq
    unfold m_term_from_J1
    refine sat_bind (Q := (· = true)) (sat_guard (wait_gQ hd) (sat_ok rfl)) fun b e => ?_
    subst e
    exact sat_ok rfl
  | (w, none) :: fs, t, n + 1, place, hd, hl, _ => by
    unfold whileR
    have q := q2_ok hd
    show (((m_term_from_Q2 (waitOf ((w, none) :: fs)) (lackOf ((w, none) :: fs))).bind _).bind _) = _
    rw [q]
    show m_term_from_J1 (toldOf ((w, none) :: fs) ++ t.post) (waitOf ((w, none) :: fs)) (lackOf ((w, none) :: fs)) place = _
    apply sat_eq
    unfold m_term_from_J1
    have hwl : (waitOf ((w, none) :: fs)).length = fs.length + 1 := wait_len _
    refine sat_bind (Q := (· = false)) (sat_guard (wait_gQ hd) (sat_ok (decide_eq_false (by omega)))) fun b e => ?_
    subst e
    rw [if_neg (by decide)]
    refine sat_bind (Q := (· = 1)) (sat_ok rfl) fun a e => ?_
    subst e
    refine sat_guard ⟨by rw [lack_len, List.length_cons]; omega, by rw [lack_len, List.length_cons]; omega⟩ (sat_bind (Q := (· = lackOf ((w, some t) :: fs))) (sat_ok ?_) fun l e => ?_)
    · unfold lackOf
      rw [setI_last]
    · subst e
      exact sat_ok rfl
  | (w, some a) :: fs, t, n + 1, place, hd, hl, hn => by
    have ih := up_ok fs (.node w a t) n place (fun f hf => hd f (List.mem_cons_of_mem _ hf)) (by
      unfold toldOf at hl
      unfold Tr.post
      rw [List.length_append] at hl
      rw [List.length_append, List.length_append, List.length_singleton]
      simp only [List.length_cons] at hl
      omega) (by simp only [List.length_cons] at hn; omega)
    unfold whileR
    have q := q2_ok hd
    show (((m_term_from_Q2 (waitOf ((w, some a) :: fs)) (lackOf ((w, some a) :: fs))).bind _).bind _) = _
    rw [q, okb']
    dsimp only
    have e : m_term_from_L2 (toldOf ((w, some a) :: fs) ++ t.post) (waitOf ((w, some a) :: fs)) (lackOf ((w, some a) :: fs)) = .ok (.nx (toldOf fs ++ (Tr.node w a t).post, waitOf fs, lackOf fs)) := by
      unfold m_term_from_L2
      rw [show toldOf ((w, some a) :: fs) = toldOf fs ++ a.post from rfl, show waitOf ((w, some a) :: fs) = waitOf fs ++ [w] from rfl, show lackOf ((w, some a) :: fs) = lackOf fs ++ [1] from rfl]
      rw [show toldOf ((w, some a) :: fs) = toldOf fs ++ a.post from rfl] at hl
      rw [popR_app]
      show R.guard (gL ((toldOf fs ++ a.post) ++ t.post)) _ = _
      unfold R.guard
      rw [if_pos (show gL _ by
        show List.length _ < _
        rw [List.length_append] at hl
        rw [List.length_append, List.length_append]
        omega)]
      rw [okb', popR_app]
      show R.ok (Ctl.nx _) = _
      rw [show (Tr.node w a t).post = (a.post ++ t.post) ++ [eS w] from rfl]
      simp only [List.append_assoc]
    rw [e]
    exact ih
theorem word_doer {words : List (List Nat)} {fs : List Fr} {place : Int} {w : List Nat} (hi : inB words place) (hw : getI words place = w) (hd : w ∈ k_DOERS) (hl : fs.length ≤ 1000) :
    m_term_from_L1 words (toldOf fs) (waitOf fs) (lackOf fs) place = .ok (.nx (stOf ((w, none) :: fs) (place + 1))) := by
  apply sat_eq
  unfold m_term_from_L1
  refine sat_bind (Q := (· = w)) (sat_guard hi (sat_ok hw)) fun x e => ?_
  subst e
  refine sat_bind (Q := (· = place + 1)) (sat_bind (Q := (· = 1)) (sat_ok rfl) fun b e => by subst e; exact sat_ok rfl) fun p e => ?_
  subst e
  refine sat_bind (Q := (· = true)) (sat_ok (decide_eq_true hd)) fun b e => ?_
  subst e
  rw [if_pos rfl]
  refine sat_bind (Q := (· = x)) (sat_ok rfl) fun a e => ?_
  subst e
  refine sat_guard (by show (waitOf fs).length < _; rw [wait_len]; omega) ?_
  refine sat_bind (Q := (· = waitOf fs ++ [a])) (sat_ok rfl) fun l e => ?_
  subst e
  refine sat_bind (Q := (· = 2)) (sat_ok rfl) fun b e => ?_
  subst e
  refine sat_guard (by show (lackOf fs).length < _; rw [lack_len]; omega) ?_
  exact sat_bind (Q := (· = lackOf fs ++ [2])) (sat_ok rfl) fun l e => by subst e; exact sat_ok rfl
theorem word_leaf {words : List (List Nat)} {fs : List Fr} {place : Int} {w : List Nat} {d : Dt} (hi : inB words place) (hw : getI words place = w) (hn : w ∉ k_DOERS) (hp : m_part_in w = .ok d) (hd : doerFs fs) (hl : (toldOf fs).length + fs.length ≤ 60) (hf : fs.length ≤ 60) :
    m_term_from_L1 words (toldOf fs) (waitOf fs) (lackOf fs) place = .ok (ctlOf (close (.leaf w d) fs) (place + 1)) := by
  apply sat_eq
  unfold m_term_from_L1
  refine sat_bind (Q := (· = w)) (sat_guard hi (sat_ok hw)) fun x e => ?_
  subst e
  refine sat_bind (Q := (· = place + 1)) (sat_bind (Q := (· = 1)) (sat_ok rfl) fun b e => by subst e; exact sat_ok rfl) fun p e => ?_
  subst e
  refine sat_bind (Q := (· = false)) (sat_ok (decide_eq_false hn)) fun b e => ?_
  subst e
  rw [if_neg (by decide), hp, okb']
  refine sat_guard (by show (toldOf fs).length < _; omega) ?_
  rw [okb']
  exact sat_of (up_ok fs (.leaf x d) _ (place + 1) hd (by show (toldOf fs).length + 1 + fs.length ≤ 1000; omega) (by omega)) rfl
theorem word_bad {words : List (List Nat)} {fs : List Fr} {place : Int} {w : List Nat} {e : Exn} (hi : inB words place) (hw : getI words place = w) (hn : w ∉ k_DOERS) (hp : m_part_in w = .err e) :
    m_term_from_L1 words (toldOf fs) (waitOf fs) (lackOf fs) place = .err e := by
  unfold m_term_from_L1 R.guard
  rw [if_pos hi, hw, okb', okb', okb', okb', decide_eq_false hn, if_neg (by decide), hp]
  rfl
def goodT : Tr → Prop
  | .leaf x d => x ∉ k_DOERS ∧ m_part_in x = .ok d
  | .node w a b => w ∈ k_DOERS ∧ goodT a ∧ goodT b
abbrev Wl (words : List (List Nat)) (at_ : Int) (n : Nat) (s : TSt) : R (Ctl TSt TRs) := whileR (fun (s : TSt) => m_term_from_Q1 words at_ s.2.2.2) (fun (s : TSt) => m_term_from_L1 words s.1 s.2.1 s.2.2.1 s.2.2.2) n s
theorem getI_mid {α : Type} [Inhabited α] {l r : List α} {x : α} : getI (l ++ x :: r) (l.length : Int) = x ∧ inB (l ++ x :: r) (l.length : Int) := by
  refine ⟨?_, ?_⟩
  · unfold getI ixI
    rw [if_pos (by omega)]
    have : (l.length : Int).toNat = l.length := by omega
    rw [this]
    simp
  · exact inB_of (by omega) (by rw [List.length_append, List.length_cons]; omega)
theorem wl_step {words : List (List Nat)} {at_ place : Int} {fs : List Fr} {n : Nat} {c : Ctl TSt TRs} (h1 : place < words.length) (h2 : place - at_ < 60) (h : m_term_from_L1 words (toldOf fs) (waitOf fs) (lackOf fs) place = .ok c) : Wl words at_ (n + 1) (stOf fs place) = c.step (Wl words at_ n) := by
  have q : m_term_from_Q1 words at_ place = .ok true := by
    unfold m_term_from_Q1
    rw [decide_eq_true h1, decide_eq_true h2]
    rfl
  have e : Wl words at_ (n + 1) (stOf fs place) = (m_term_from_Q1 words at_ place).bind (fun b => match b with
      | false => R.ok (Ctl.nx (stOf fs place))
      | true => (m_term_from_L1 words (toldOf fs) (waitOf fs) (lackOf fs) place).bind fun c' => c'.step (Wl words at_ n)) := rfl
  rw [e, q, okb']
  dsimp only
  rw [h, okb']
theorem run_ok (words : List (List Nat)) (at_ : Int) : ∀ (t : Tr) (fs : List Fr) (l r : List (List Nat)) (m : Nat), goodT t → doerFs fs → words = l ++ (t.pre ++ r) → (l.length : Int) + t.pre.length - at_ ≤ 60 → (preOf fs).length + t.pre.length ≤ 60 →
    Wl words at_ (m + t.pre.length) (stOf fs l.length) = (ctlOf (close t fs) ((l.length : Int) + t.pre.length)).step (Wl words at_ m)
  | .leaf x d, fs, l, r, m, g, hd, e, h1, h2 => by
    have e : words = l ++ x :: r := e
    have hg := getI_mid (l := l) (r := r) (x := x)
    rw [← e] at hg
    have tl := told_len fs
    have h2 : (preOf fs).length + 1 ≤ 60 := h2
    have h1 : (l.length : Int) + 1 - at_ ≤ 60 := h1
    exact wl_step (by rw [e, List.length_append, List.length_cons]; omega) (by omega) (word_leaf hg.2 hg.1 g.1 g.2 hd (by omega) (by omega))
  | .node w a b, fs, l, r, m, g, hd, e, h1, h2 => by
    have hp : (Tr.node w a b).pre.length = a.pre.length + b.pre.length + 1 := by
      show (w :: (a.pre ++ b.pre)).length = _
      rw [List.length_cons, List.length_append]
    have hpre : (Tr.node w a b).pre = w :: (a.pre ++ b.pre) := rfl
    have tl := told_len fs
    rw [hp] at h1 h2 ⊢
    have e1 : words = l ++ w :: (a.pre ++ (b.pre ++ r)) := by rw [e, hpre]; simp
    have e2 : words = (l ++ [w]) ++ (a.pre ++ (b.pre ++ r)) := by rw [e1]; simp
    have e3 : words = ((l ++ [w]) ++ a.pre) ++ (b.pre ++ r) := by rw [e1]; simp
    have hg := getI_mid (l := l) (r := a.pre ++ (b.pre ++ r)) (x := w)
    rw [← e1] at hg
    have la := a.len
    have lb := b.len
    have s1 : Wl words at_ (m + (a.pre.length + b.pre.length + 1)) (stOf fs l.length) = Wl words at_ ((m + b.pre.length) + a.pre.length) (stOf ((w, none) :: fs) ((l.length : Int) + 1)) := by
      have : m + (a.pre.length + b.pre.length + 1) = ((m + b.pre.length) + a.pre.length) + 1 := by omega
      rw [this]
      exact wl_step (by rw [e1, List.length_append, List.length_cons]; omega) (by omega) (word_doer hg.2 hg.1 g.1 (by omega))
    have d1 : doerFs ((w, none) :: fs) := fun f hf => by
      rcases List.mem_cons.mp hf with rfl | hf
      · exact g.1
      · exact hd f hf
    have d2 : doerFs ((w, some a) :: fs) := fun f hf => by
      rcases List.mem_cons.mp hf with rfl | hf
      · exact g.1
      · exact hd f hf
    have l1 : ((l ++ [w]).length : Int) = (l.length : Int) + 1 := by rw [List.length_append, List.length_singleton]; omega
    have l2 : (((l ++ [w]) ++ a.pre).length : Int) = (l.length : Int) + 1 + a.pre.length := by rw [List.length_append]; omega
    have p1 : (preOf ((w, none) :: fs)).length = (preOf fs).length + 1 := by show (preOf fs ++ [w]).length = _; rw [List.length_append]; rfl
    have p2 : (preOf ((w, some a) :: fs)).length = (preOf fs).length + 1 + a.pre.length := by show (preOf fs ++ (w :: a.pre)).length = _; rw [List.length_append, List.length_cons]; omega
    have ra := run_ok words at_ a ((w, none) :: fs) (l ++ [w]) (b.pre ++ r) (m + b.pre.length) g.2.1 d1 e2 (by omega) (by omega)
    have rb := run_ok words at_ b ((w, some a) :: fs) ((l ++ [w]) ++ a.pre) r m g.2.2 d2 e3 (by omega) (by omega)
    rw [l1] at ra
    rw [s1, ra]
    show Wl words at_ (m + b.pre.length) (stOf ((w, some a) :: fs) ((l.length : Int) + 1 + a.pre.length)) = _
    rw [l2] at rb
    rw [rb]
    have : (l.length : Int) + 1 + a.pre.length + b.pre.length = (l.length : Int) + ((a.pre.length + b.pre.length + 1 : Nat) : Int) := by omega
    rw [this]
    rfl
theorem term_from_ok {words l r : List (List Nat)} {t : Tr} (g : goodT t) (e : words = l ++ (t.pre ++ r)) (hl : t.pre.length ≤ 60) : m_term_from words (l.length : Int) = .ok (t.post, (l.length : Int) + t.pre.length) := by
  have h := run_ok words (l.length : Int) t [] l r (64 - t.pre.length) g (fun f hf => by simp at hf) e (by omega) (by show 0 + t.pre.length ≤ 60; omega)
  have n : 64 - t.pre.length + t.pre.length = 64 := by omega
  rw [n] at h
  have e : m_term_from words (l.length : Int) = (Wl words (l.length : Int) 64 (stOf [] (l.length : Int))).bind fun c => c.fin fun _ => m_term_from_J2 := rfl
  rw [e, h]
  rfl
def heads9 : List (List Nat) := [(lt "take"), (lt "give"), (lt "let"), (lt "say"), (lt "off"), (lt "if"), (lt "else"), (lt "end"), (lt "as")]
def doers7 : List (List Nat) := [(lt "plus"), (lt "minus"), (lt "times"), (lt "over"), (lt "rest"), (lt "under"), (lt "same")]
theorem doers_eq : k_DOERS = doers7 := rfl
theorem heads_eq : k_HEADS = heads9 := rfl
def lets (l : List Nat) : Prop := ∀ c ∈ l, c ∈ letters
def nameOk (l : List Nat) : Prop := l ≠ [] ∧ l.length ≤ 6 ∧ l ∉ resv ∧ lets l
theorem lets_low {l : List Nat} (h : lets l) : low l := fun c hc => letters_low c (h c hc)
theorem lets_app {a b : List Nat} (h : lets a) (k : lets b) : lets (a ++ b) := fun c hc => (List.mem_append.mp hc).elim (h c) (k c)
theorem lets_cut {l : List Nat} {lo hi : Option Int} (h : lets l) : lets (cutL l lo hi) := fun c hc => h c (cutL_mem hc)
theorem name_B {l : List Nat} (h : nameOk l) : nameB l = true := by
  unfold nameB
  rw [decide_eq_false h.1, decide_eq_false (by have := h.2.1; omega), decide_eq_false h.2.2.1]
  simp only [Bool.false_or, Bool.not_false, Bool.true_and]
  rw [List.all_eq_true]
  intro c hc
  exact decide_eq_true (h.2.2.2 c hc)
theorem part_name {l : List Nat} (h : nameOk l) : m_part_in l = .ok (eS l) := by
  unfold m_part_in
  rw [is_name_ok l (gS_of (by have := h.2.1; omega)), name_B h, okb', if_pos rfl]
theorem dig_no : ∀ c ∈ letters, 97 ≤ c := by decide +kernel
theorem num_B (w : Int) : nameB (numI w) = false := by
  unfold nameB
  have : (numI w).all (fun c => decide (c ∈ letters)) = false := by
    rw [List.all_eq_false]
    unfold numI
    by_cases q : w < 0
    · rw [if_pos q]
      exact ⟨45, List.mem_cons_self, by decide +kernel⟩
    · rw [if_neg q]
      cases e : numL w.natAbs with
      | nil => exact absurd e (numL_ne _)
      | cons c r =>
        have hd := numL_digits w.natAbs c (by rw [e]; exact List.mem_cons_self)
        refine ⟨c, List.mem_cons_self, ?_⟩
        intro z
        have := dig_no c (of_decide_eq_true z)
        omega
  rw [this, Bool.and_false]
abbrev B30 : Int := 1000000000000000000000000000000
def worthOk (v : Int) : Prop := -B30 ≤ v ∧ v ≤ B30
theorem num_len {w : Int} (h : worthOk w) : (numI w).length ≤ 32 := by
  unfold worthOk B30 at h
  have hl : (numL w.natAbs).length ≤ 31 := numL_short (by decide) (by omega)
  unfold numI
  split
  · rw [List.length_cons]; omega
  · omega
theorem part_num {w : Int} (h : worthOk w) : m_part_in (numI w) = .ok (eI w) := by
  unfold m_part_in
  rw [is_name_ok _ (gS_of (by have := num_len h; omega)), num_B, okb', if_neg (by decide), worth_in_ok h.1 h.2]
  rfl
theorem num_low (w : Int) : low (numI w) := by
  intro c hc
  unfold numI at hc
  split at hc
  · rcases List.mem_cons.mp hc with rfl | hc
    · decide
    · have := numL_digits _ c hc; omega
  · have := numL_digits _ c hc; omega
theorem doer_first : ∀ w ∈ doers7, ∀ c ∈ w, 97 ≤ c := by decide +kernel
theorem num_no (w : Int) : numI w ∉ k_DOERS := by
  rw [doers_eq]
  intro z
  have := doer_first _ z
  cases e : numI w with
  | nil =>
    unfold numI at e
    split at e
    · cases e
    · exact numL_ne _ e
  | cons c r =>
    have h1 := this c (by rw [e]; exact List.mem_cons_self)
    have h2 : c ≤ 57 := by
      unfold numI at e
      split at e
      · cases e; decide
      · have := numL_digits w.natAbs c (by rw [e]; exact List.mem_cons_self); omega
    omega
def leafOk (x : List Nat) (d : Dt) : Prop := (nameOk x ∧ d = eS x) ∨ ∃ w, worthOk w ∧ x = numI w ∧ d = eI w
def goodL : Tr → Prop
  | .leaf x d => leafOk x d
  | .node w a b => w ∈ doers7 ∧ goodL a ∧ goodL b
theorem goodL_T : ∀ t : Tr, goodL t → goodT t
  | .leaf x d, h => by
    rcases h with ⟨h, rfl⟩ | ⟨w, h, rfl, rfl⟩
    · exact ⟨fun z => h.2.2.1 (by rw [resv_split]; exact List.mem_append_right _ z), part_name h⟩
    · exact ⟨num_no w, part_num h⟩
  | .node w a b, h => ⟨h.1, goodL_T a h.2.1, goodL_T b h.2.2⟩
theorem good_low : ∀ t : Tr, goodL t → (∀ x ∈ t.pre, low x) ∧ (∀ d ∈ t.post, gQn 0 d ∧ Dt.isT "bool" d = false)
  | .leaf x d, h => by
    refine ⟨fun y hy => ?_, fun e he => ?_⟩
    · rw [show (Tr.leaf x d).pre = [x] from rfl, List.mem_singleton] at hy
      subst hy
      rcases h with ⟨h, rfl⟩ | ⟨w, h, rfl, rfl⟩
      · exact lets_low h.2.2.2
      · exact num_low w
    · rw [show (Tr.leaf x d).post = [d] from rfl, List.mem_singleton] at he
      subst he
      rcases h with ⟨h, rfl⟩ | ⟨w, h, rfl, rfl⟩
      · exact ⟨gQn_str (strOk_ascii (lets_low h.2.2.2)), by show (kitB "str" "bool").getD false = false; decide +kernel⟩
      · exact ⟨gQn_int w, by show (kitB "int" "bool").getD false = false; decide +kernel⟩
  | .node w a b, h => by
    have ha := good_low a h.2.1
    have hb := good_low b h.2.2
    have hw : low w := fun c hc => doer_low' w h.1 c hc
    refine ⟨fun y hy => ?_, fun e he => ?_⟩
    · rw [show (Tr.node w a b).pre = w :: (a.pre ++ b.pre) from rfl] at hy
      rcases List.mem_cons.mp hy with rfl | hy
      · exact hw
      · rcases List.mem_append.mp hy with hy | hy
        · exact ha.1 y hy
        · exact hb.1 y hy
    · rw [show (Tr.node w a b).post = (a.post ++ b.post) ++ [eS w] from rfl] at he
      rcases List.mem_append.mp he with he | he
      · rcases List.mem_append.mp he with he | he
        · exact ha.2 e he
        · exact hb.2 e he
      · rw [List.mem_singleton] at he
        subst he
        exact ⟨gQn_str (strOk_ascii hw), by show (kitB "str" "bool").getD false = false; decide +kernel⟩
theorem isT_int' (v : Int) : Dt.isT "int" (eI v) = true := by
  show (kitB "int" "int").getD false = true
  decide +kernel
theorem isT_str' (x : Str) : Dt.isT "int" (.str x) = false := by
  show (kitB "str" "int").getD false = false
  decide +kernel
abbrev wof (t : List Dt) (parts : List (List Dt)) : R (List (List Dt)) := foldR (fun d s => m_words_of_L1 s d) t parts
theorem wof_ok : ∀ (t : Tr) (parts : List (List Dt)), goodL t → parts.length + t.pre.length ≤ 1000 → wof t.post parts = .ok (parts ++ [t.pre.map eS])
  | .leaf x d, parts, h, hl => by
    have hl : parts.length + 1 ≤ 1000 := hl
    have gp : gL parts := by show parts.length < 16777216; omega
    show (m_words_of_L1 parts d).bind _ = _
    have e : m_words_of_L1 parts d = .ok (parts ++ [[eS x]]) := by
      apply sat_eq
      unfold m_words_of_L1
      rcases h with ⟨h, rfl⟩ | ⟨w, h, rfl, rfl⟩
      · refine sat_bind (Q := (· = false)) (sat_guard rfl (sat_ok ?_)) fun b e => ?_
        · show decide (x ∈ k_DOERS) = false
          exact decide_eq_false fun z => h.2.2.1 (by rw [resv_split]; exact List.mem_append_right _ z)
        subst e
        rw [if_neg (by decide)]
        refine sat_bind (Q := (· = parts ++ [[eS x]])) ?_ fun p e => by subst e; unfold m_words_of_J1; exact sat_ok rfl
        refine sat_bind (Q := (· = false)) (sat_ok (isT_str' _)) fun b e => ?_
        subst e
        rw [if_neg (by decide)]
        refine sat_bind (Q := (· = [eS x])) (sat_ok rfl) fun a e => ?_
        subst e
        exact sat_guard gp (sat_bind (Q := (· = parts ++ [[eS x]])) (sat_ok rfl) fun p e => by subst e; exact sat_ok rfl)
      · refine sat_bind (Q := (· = false)) (sat_guard rfl (sat_ok rfl)) fun b e => ?_
        subst e
        rw [if_neg (by decide)]
        refine sat_bind (Q := (· = parts ++ [[eS (numI w)]])) ?_ fun p e => by subst e; unfold m_words_of_J1; exact sat_ok rfl
        refine sat_bind (Q := (· = true)) (sat_ok (isT_int' _)) fun b e => ?_
        subst e
        rw [if_pos rfl]
        refine sat_bind (Q := (· = [eS (numI w)])) ?_ fun a e => ?_
        · rw [numeral_ok (by unfold worthOk B30 at h; omega)]
          exact sat_ok rfl
        subst e
        exact sat_guard gp (sat_bind (Q := (· = parts ++ [[eS (numI w)]])) (sat_ok rfl) fun p e => by subst e; exact sat_ok rfl)
    rw [e]
    rfl
  | .node w a b, parts, h, hl => by
    have hp : (Tr.node w a b).pre.length = a.pre.length + b.pre.length + 1 := by
      show (w :: (a.pre ++ b.pre)).length = _
      rw [List.length_cons, List.length_append]
    rw [hp] at hl
    have la := a.len
    have lb := b.len
    have ea := wof_ok a parts h.2.1 (by omega)
    have eb := wof_ok b (parts ++ [a.pre.map eS]) h.2.2 (by rw [List.length_append, List.length_singleton]; omega)
    have ep : (Tr.node w a b).post = (a.post ++ b.post) ++ [eS w] := rfl
    unfold wof at ea eb ⊢
    rw [ep, foldR_app, foldR_app, ea]
    show ((foldR _ b.post (parts ++ [a.pre.map eS])).bind _) = _
    rw [eb]
    show (m_words_of_L1 ((parts ++ [a.pre.map eS]) ++ [b.pre.map eS]) (eS w)).bind _ = _
    have e : m_words_of_L1 ((parts ++ [a.pre.map eS]) ++ [b.pre.map eS]) (eS w) = .ok (parts ++ [(Tr.node w a b).pre.map eS]) := by
      apply sat_eq
      unfold m_words_of_L1
      refine sat_bind (Q := (· = true)) (sat_guard rfl (sat_ok ?_)) fun c e => ?_
      · show decide (w ∈ k_DOERS) = true
        exact decide_eq_true h.1
      subst e
      rw [if_pos rfl, popR_app, okb']
      unfold R.sp2
      dsimp only
      rw [popR_app, okb']
      dsimp only
      refine sat_bind (Q := (· = (Tr.node w a b).pre.map eS)) (sat_guard ?_ (sat_guard ?_ (sat_ok ?_))) fun x e => ?_
      · rw [List.length_append, List.length_map, List.length_singleton]; omega
      · rw [List.length_append, List.length_append, List.length_map, List.length_map, List.length_singleton]; omega
      · show ([eS w] ++ a.pre.map eS) ++ b.pre.map eS = (w :: (a.pre ++ b.pre)).map eS
        rw [List.map_cons, List.map_append]
        rfl
      · subst e
        exact sat_guard (by show parts.length < _; omega) (sat_bind (Q := (· = parts ++ [(Tr.node w a b).pre.map eS])) (sat_ok rfl) fun p e => by subst e; exact sat_ok rfl)
    rw [e]
    rfl
theorem words_of_ok {t : Tr} (h : goodL t) (hl : t.pre.length ≤ 60) : m_words_of t.post = .ok (t.pre.map eS) := by
  have e := wof_ok t [] h (by simp; omega)
  have q : m_words_of t.post = (wof t.post []).bind m_words_of_J2 := rfl
  rw [q, e, okb']
  apply sat_eq
  unfold m_words_of_J2
  exact sat_guard (inB_of (by decide) (show (0 : Int) < 1 by decide)) (sat_ok rfl)
theorem zip_self {α : Type} (l : List α) : l.zip l = l.map fun x => (x, x) := by
  induction l with
  | nil => rfl
  | cons a l ih => rw [List.zip_cons_cons, ih]; rfl
theorem alike_ok {l : List Dt} (h : ∀ d ∈ l, gQn 0 d ∧ Dt.isT "bool" d = false) : m_law_alike l l = .ok true := by
  apply sat_eq
  unfold m_law_alike
  refine sat_bind (Q := (· = false)) (sat_ok (by simp)) fun b e => ?_
  subst e
  rw [if_neg (by decide)]
  refine sat_bind (Q := (· = .nx ())) (sat_bind (Q := (· = (l, l))) (sat_bind (Q := fun _ => True) (sat_ok trivial) fun _ _ => sat_ok rfl) fun c e => ?_) fun c e => by subst e; exact sat_ok rfl
  subst e
  refine sat_mono (sat_any (v := false) (fun _ => false) fun x hx => ?_) fun c e => by subst e; simp
  have hx : x ∈ l.zip l := hx
  rw [zip_self, List.mem_map] at hx
  obtain ⟨d, hd, rfl⟩ := hx
  have hq := h d hd
  unfold m_law_alike_L1
  refine sat_bind (Q := (· = false)) (sat_mono (sat_or (x := false) (y := false) (sat_ok hq.2) fun _ => sat_mono (sat_or (x := false) (y := false) (sat_ok (by simp)) fun _ => sat_guard ⟨gQn_gQ hq.1 (by decide), gQn_gQ hq.1 (by decide)⟩ (sat_ok (by rw [show eqD (eA d) (eA d) = true from eqD_same hq.1.1]; rfl))) fun b e => e) fun b e => e) fun b e => ?_
  subst e
  exact sat_ok rfl
theorem heads_q : ∀ x ∈ resv, x ++ lt "q" ∉ resv := by decide +kernel
theorem heads_lq : ∀ x ∈ resv, (x ++ lt "q").length ≤ 6 := by decide +kernel
theorem lets_q : lets (lt "q") := by unfold lets; decide +kernel
theorem free_ok (l : List Nat) (h1 : l ≠ []) (h : l.length ≤ 6) (hl : lets l) : Sat (m_law_free l) nameOk := by
  unfold m_law_free
  have mr : l ∈ resv ↔ (l ∈ heads9 ∨ l ∈ doers7) := by rw [resv_split, List.mem_append, heads_eq, doers_eq]
  refine sat_bind (Q := (· = decide (l ∈ heads9))) (sat_ok rfl) fun b e => ?_
  subst e
  have ne : l ++ lt "q" ≠ [] := fun z => by have := congrArg List.length z; rw [List.length_append, show (lt "q").length = 1 from by decide +kernel] at this; simp at this
  have add : l ∈ resv → Sat (R.guard (gS (l ++ lt "q")) (R.ok (l ++ lt "q"))) nameOk := fun hr => by
    have := heads_lq l hr
    exact sat_guard (gS_of (by omega)) (sat_ok ⟨ne, this, heads_q l hr, lets_app hl lets_q⟩)
  refine sat_if (fun c => add (mr.mpr (.inl (of_decide_eq_true c)))) fun c1 => ?_
  refine sat_bind (Q := (· = decide (l ∈ doers7))) (sat_ok rfl) fun b e => ?_
  subst e
  refine sat_if (fun c => add (mr.mpr (.inr (of_decide_eq_true c)))) fun c2 => sat_ok ⟨h1, h, ?_, hl⟩
  rw [mr]
  rintro (z | z)
  · exact c1 (decide_eq_true z)
  · exact c2 (decide_eq_true z)
def goodN (l : List Nat) : Prop := l ≠ [] ∧ l.length ≤ 6 ∧ lets l
theorem letters_okN (n m : Int) (h0 : 1 ≤ m) (h1 : m ≤ 6) : Sat (m_law_letters n m) fun l => l.length = m.toNat ∧ lets l := by
  unfold m_law_letters
  refine sat_bind (Q := (· = letters)) (sat_ok rfl) fun l hl => ?_
  subst hl
  refine sat_bind (Q := (· = [])) (sat_ok (by decide +kernel)) fun f hf => ?_
  subst hf
  refine sat_bind (Q := fun s : Int × List Nat => s.2.length = m.toNat ∧ lets s.2) ?_ fun s hs => sat_ok hs
  refine sat_bind (Q := (· = m)) (sat_bind (Q := (· = m)) (sat_ok rfl) fun j hj => by subst hj; exact sat_guard (gR_of (by omega) (by omega)) (sat_ok rfl)) fun j hj => ?_
  subst hj
  refine sat_mono (sat_fold (fun pre s => s.2.length = pre.length ∧ lets s.2) ⟨rfl, fun c hc => by simp at hc⟩ fun pre x suf s e hs => ?_) fun s hs => ⟨by rw [hs.1, rng_len]; omega, hs.2⟩
  have hx := rng_pre e
  have hlen : pre.length < (rng 0 j).length := by rw [e]; simp
  rw [rng_len] at hlen
  unfold m_law_letters_L1
  have hm := Int.emod_nonneg s.1 (b := 26) (by decide)
  have hl := Int.emod_lt_of_pos s.1 (b := 26) (by decide)
  have hi : inB letters (s.1 % 26) := inB_of hm (by rw [letters_len]; exact hl)
  refine sat_bind (Q := fun f => f.length = pre.length + 1 ∧ lets f) (sat_guard (by decide) (sat_guard ⟨gS_of (by rw [letters_len]; decide), hi⟩ (sat_guard (gS_of ?_) (sat_ok ⟨?_, ?_⟩)))) fun f hf => ?_
  · rw [List.length_append, hs.1]; simp; omega
  · rw [List.length_append, hs.1]; rfl
  · exact lets_app hs.2 fun c hc => by rw [List.mem_singleton] at hc; subst hc; exact getI_mem hi
  refine sat_bind (Q := fun _ => True) (sat_guard (divW (by decide) (by decide)) (sat_guard (mulW (a := 20) (b := 20) (by decide) (by omega) (by decide) (by decide) (by decide)) (sat_guard (mulW (a := 40) (b := 20) (by omega) (by omega) (by decide) (by decide) (by decide)) (sat_ok trivial)))) fun v _ => sat_ok ?_
  refine ⟨?_, hf.2⟩
  rw [hf.1]; simp
theorem arg1 {β : Type} {m : R Int} {Q : Int → Prop} {P : β → Prop} {f : Int → R β} (h : Sat m Q) (k : ∀ a, Q a → Sat (f a) P) : Sat ((m.bind fun a => (R.ok ()).bind fun b => R.ok (a, b)).bind fun x => f x.1) P :=
  sat_bind (Q := fun x : Int × Unit => Q x.1) (sat_bind h fun a ha => sat_bind (Q := fun _ => True) (sat_ok trivial) fun b _ => sat_ok ha) fun x hx => k x.1 hx
theorem range_ok {j : Int} (h0 : 0 ≤ j) (h1 : j ≤ 1000) : Sat ((R.ok j).bind fun j => R.guard (gR j) (R.ok j)) (· = j) :=
  sat_bind (Q := (· = j)) (sat_ok rfl) fun i e => by subst e; exact sat_guard (gR_of (by omega) (by omega)) (sat_ok rfl)
theorem ne_len {l : List Nat} (h : 1 ≤ l.length) : l ≠ [] := fun z => by rw [z] at h; simp at h
theorem sIx_some {n d : Nat} {k : Int} (h0 : 0 ≤ k) : HT.sIx n d (some k) = min k.toNat n := by
  show (if k < 0 then _ else _) = _
  rw [if_neg (by omega)]
theorem cut_to {l : List Nat} {k : Int} (h0 : 0 ≤ k) : (cutL l none (some k)).length = min k.toNat l.length := by
  unfold cutL
  rw [sIx_some h0, show HT.sIx l.length 0 none = 0 from rfl, List.length_take, List.length_drop]
  omega
theorem cut_from {l : List Nat} {k : Int} (h0 : 0 ≤ k) : (cutL l (some k) none).length = l.length - k.toNat := by
  unfold cutL
  rw [sIx_some h0, show HT.sIx l.length l.length none = l.length from rfl, List.length_take, List.length_drop]
  omega
theorem names_ok (cell : Int) : Sat (m_law_names cell) fun ns => ns.length = 4 ∧ ∀ n ∈ ns, nameOk n := by
  unfold m_law_names
  refine sat_bind (Q := (· = letters)) (sat_ok rfl) fun L e => ?_
  subst e
  have m6 := Int.emod_nonneg (cell / 3) (b := 6) (by decide)
  have l6 := Int.emod_lt_of_pos (cell / 3) (b := 6) (by decide)
  refine sat_bind (Q := fun l : List Nat => 1 ≤ l.length ∧ l.length ≤ 6 ∧ lets l) ?_ fun base hb => ?_
  · refine sat_bind (Q := fun _ => True) (sat_guard (divW (by decide) (by decide)) (sat_guard (by decide) (sat_bind (mixed_ok cell 1 (by decide) (by decide)) fun a _ => sat_bind (Q := fun _ => True) (sat_ok trivial) fun b _ => sat_ok trivial))) fun x _ => ?_
    exact sat_mono (letters_okN _ _ (by omega) (by omega)) fun l hl => ⟨by omega, by omega, hl.2⟩
  have gb : gS base := gS_of (by omega)
  refine sat_bind (Q := fun at_ : Int => 0 ≤ at_ ∧ at_ < base.length) ?_ fun at_ hat => ?_
  · refine sat_bind (mixed_ok cell 2 (by decide) (by decide)) fun a _ => sat_bind (Q := (· = (base.length : Int))) (sat_guard gb (sat_ok rfl)) fun b e => ?_
    subst e
    exact sat_guard (by omega) (sat_ok ⟨Int.emod_nonneg _ (by omega), Int.emod_lt_of_pos _ (by omega)⟩)
  refine sat_bind (Q := fun ns : List (List Nat) => ns.length = 4 ∧ ∀ n ∈ ns, goodN n) ?_ fun ns hns => ?_
  · refine sat_bind (Q := fun _ => True) (sat_guard (by decide) (sat_ok trivial)) fun b _ => sat_if (fun _ => ?_) fun _ => ?_
    · refine sat_bind (Q := fun _ => True) (sat_guard ⟨gb, inB_of hat.1 hat.2⟩ (sat_ok trivial)) fun first _ => ?_
      refine sat_bind (Q := fun ns : List (List Nat) => ns.length = 4 ∧ ∀ n ∈ ns, goodN n) ?_ fun ns h => sat_ok h
      refine sat_bind (range_ok (by decide) (by decide)) fun c e => ?_
      subst e
      refine sat_guard (by rw [rng_len]; decide) (sat_mono (sat_mapM goodN fun k _ => ?_) fun ys hy => ⟨by rw [hy.1, rng_len]; decide, hy.2⟩)
      unfold m_law_names_C1
      have hi : inB letters ((first + k) % 26) := inB_of (Int.emod_nonneg _ (by decide)) (by rw [letters_len]; exact Int.emod_lt_of_pos _ (by decide))
      have h1 := cut_to (l := base) (k := at_) hat.1
      have h2 := cut_from (l := base) (k := at_ + 1) (by omega)
      have h3 : lets (cutL base none (some at_) ++ [getI letters ((first + k) % 26)]) := lets_app (lets_cut hb.2.2) fun c hc => by rw [List.mem_singleton] at hc; subst hc; exact getI_mem hi
      have h4 : (cutL base none (some at_) ++ [getI letters ((first + k) % 26)]).length = at_.toNat + 1 := by rw [List.length_append, List.length_singleton, h1]; omega
      have h5 : ((cutL base none (some at_) ++ [getI letters ((first + k) % 26)]) ++ cutL base (some (at_ + 1)) none).length = base.length := by rw [List.length_append, h4, h2]; omega
      refine sat_guard gb (sat_guard (by decide) (sat_guard ⟨gS_of (by rw [letters_len]; decide), hi⟩ (sat_guard (gS_of (by omega)) (sat_guard gb (sat_guard (gS_of (by omega)) (sat_ok ⟨ne_len (by omega), by omega, lets_app h3 (lets_cut hb.2.2)⟩))))))
    · refine sat_bind (Q := fun _ => True) (sat_guard (by decide) (sat_ok trivial)) fun b _ => sat_if (fun _ => ?_) fun _ => ?_
      · refine sat_bind (Q := fun l : List Nat => l.length = 6 ∧ lets l) (arg1 (f := fun a => m_law_letters a 6) (mixed_ok cell 1 (by decide) (by decide)) fun a _ => sat_mono (letters_okN a 6 (by decide) (by decide)) fun l hl => ⟨by rw [hl.1]; rfl, hl.2⟩) fun base2 hb2 => ?_
        have gb2 : gS base2 := gS_of (by omega)
        refine sat_bind (Q := fun ns : List (List Nat) => ns.length = 4 ∧ ∀ n ∈ ns, goodN n) (sat_guard gb2 (sat_guard gb2 (sat_guard gb2 (sat_ok ⟨rfl, ?_⟩)))) fun ns h => sat_ok h
        have hc : ∀ k : Int, 1 ≤ k → goodN (cutL base2 none (some (k + at_))) := fun k hk => by
          have := cut_to (l := base2) (k := k + at_) (by omega)
          exact ⟨ne_len (by omega), by omega, lets_cut hb2.2⟩
        intro n hn
        simp only [List.mem_cons, List.not_mem_nil, or_false] at hn
        rcases hn with rfl | rfl | rfl | rfl
        · exact hc 1 (by decide)
        · exact hc 2 (by decide)
        · exact hc 3 (by decide)
        · exact ⟨ne_len (by omega), by omega, hb2.2⟩
      · refine sat_bind (Q := fun ns : List (List Nat) => ns.length = 4 ∧ ∀ n ∈ ns, goodN n) ?_ fun ns h => sat_ok h
        refine sat_bind (range_ok (by decide) (by decide)) fun c e => ?_
        subst e
        refine sat_guard (by rw [rng_len]; decide) (sat_mono (sat_mapM goodN fun k hk => ?_) fun ys hy => ⟨by rw [hy.1, rng_len]; decide, hy.2⟩)
        have hk2 := rng_mem.mp hk
        unfold m_law_names_C2
        refine sat_bind (Q := fun x : Int × Int × Unit => 1 ≤ x.2.1 ∧ x.2.1 ≤ 6) (sat_bind (mixed_ok cell (3 + k) (by omega) (by omega)) fun a _ => sat_bind (Q := fun x : Int × Unit => 1 ≤ x.1 ∧ x.1 ≤ 6) (sat_bind (Q := fun x : Int => 1 ≤ x ∧ x ≤ 6) (sat_bind (Q := (· = 1)) (sat_ok rfl) fun x e => sat_bind (Q := fun y : Int => 0 ≤ y ∧ y < 6) (sat_bind (mixed_ok cell (7 + k) (by omega) (by omega)) fun a _ => sat_bind (Q := (· = 6)) (sat_ok rfl) fun b e => by subst e; exact sat_guard (by decide) (sat_ok (by omega))) fun y hy => sat_ok (by omega)) fun x hx => sat_bind (Q := fun _ => True) (sat_ok trivial) fun _ _ => sat_ok hx) fun x hx => sat_ok hx) fun x hx => ?_
        exact sat_mono (letters_okN _ _ (by omega) (by omega)) fun l hl => ⟨ne_len (by omega), by omega, hl.2⟩
  · unfold m_law_names_J1
    refine sat_bind (Q := (· = ns)) (sat_ok rfl) fun c e => ?_
    subst e
    refine sat_guard (by omega) (sat_mono (sat_mapM nameOk fun x hx => ?_) fun ys hy => ⟨by omega, hy.2⟩)
    unfold m_law_names_C3
    exact free_ok x (hns.2 x hx).1 (hns.2 x hx).2.1 (hns.2 x hx).2.2
theorem p30 : ((10 : Int) ^ (30 : Int).toNat) = 1000000000000000000000000000000 := by decide +kernel
abbrev En := List (List Nat) × List Dt
def ent (e : En) : Prop := ∃ t : Tr, goodL t ∧ e = (t.pre, t.post)
theorem leaf_ok (cell : Int) (ns : List (List Nat)) (hn : ns.length = 4) (hns : ∀ n ∈ ns, nameOk n) : Sat (m_law_leaf cell ns) fun e => ent e ∧ e.1.length = 1 := by
  unfold m_law_leaf
  refine sat_bind (Q := fun _ => True) (sat_guard (by decide) (sat_ok trivial)) fun c _ => sat_if (fun _ => ?_) fun _ => ?_
  · have hi : inB ns (cell / 5 % 4) := inB_of (Int.emod_nonneg _ (by decide)) (by rw [hn]; exact Int.emod_lt_of_pos _ (by decide))
    refine sat_bind (Q := nameOk) (sat_guard (divW (by decide) (by decide)) (sat_guard (by decide) (sat_guard hi (sat_ok (hns _ (getI_mem hi)))))) fun n hn => ?_
    exact sat_ok ⟨⟨.leaf n (eS n), .inl ⟨hn, rfl⟩, rfl⟩, rfl⟩
  · refine sat_bind (Q := worthOk) (sat_guard (divW (by decide) (by decide)) (sat_guard (by decide) (sat_ok ?_))) fun v hv => ?_
    · unfold worthOk B30
      have h1 := Int.emod_nonneg (cell / 5) (b := 14) (by decide)
      have h2 := Int.emod_lt_of_pos (cell / 5) (b := 14) (by decide)
      omega
    refine sat_bind (Q := worthOk) ?_ fun v hv => ?_
    · refine sat_bind (Q := fun _ => True) (sat_guard (by decide) (sat_ok trivial)) fun c _ => sat_if (fun _ => ?_) fun _ => sat_ok hv
      rw [p30]
      refine sat_bind (Q := worthOk) (sat_guard (divW (by decide) (by decide)) (sat_guard (by decide) (sat_guard (by decide) (sat_guard (by decide) (sat_guard (by decide) (sat_guard (by decide) (sat_ok ?_))))))) fun v hv => sat_ok hv
      unfold worthOk B30
      have h1 := Int.emod_nonneg (cell / 5 + 1000000000000000000000000000000) (b := 2 * 1000000000000000000000000000000 + 1) (by decide)
      have h2 := Int.emod_lt_of_pos (cell / 5 + 1000000000000000000000000000000) (b := 2 * 1000000000000000000000000000000 + 1) (by decide)
      omega
    unfold m_law_leaf_J1
    rw [figures_ok (by unfold worthOk B30 at hv; omega)]
    exact sat_ok ⟨⟨.leaf (numI v) (eI v), .inr ⟨v, hv, rfl, rfl⟩, rfl⟩, rfl⟩
def tot (es : List En) : Nat := (es.map fun e => e.1.length).sum
theorem tot_app (a b : List En) : tot (a ++ b) = tot a + tot b := by unfold tot; rw [List.map_append, List.sum_append]
theorem joined_ok (es : List En) (n : Int) (h : ∀ e ∈ es, ent e) (hl : 1 < es.length) (ht : tot es + es.length ≤ 60) : Sat (m_law_joined es n) fun fs => (∀ e ∈ fs, ent e) ∧ fs.length + 1 = es.length ∧ tot fs + fs.length = tot es + es.length := by
  obtain ⟨r, x, y, e⟩ := two_last hl
  subst e
  have hA := h x (by simp)
  have hB := h y (by simp)
  have hR : ∀ e ∈ r, ent e := fun e he => h e (by simp [he])
  have ht2 : tot (r ++ [x, y]) = tot r + (x.1.length + y.1.length) := by rw [tot_app]; unfold tot; simp
  rw [ht2, List.length_append] at ht
  have ht : tot r + (x.1.length + y.1.length) + (r.length + 2) ≤ 60 := ht
  obtain ⟨a, ga, ea⟩ := hA
  obtain ⟨b, gb, eb⟩ := hB
  have hg := getI_last2 (xs := r) (a := x) (b := y)
  unfold m_law_joined
  have hlen : ((r ++ [x, y]).length : Int) = r.length + 2 := by rw [List.length_append]; simp
  have hi : inB doers7 (n % 7) := inB_of (Int.emod_nonneg _ (by decide)) (Int.emod_lt_of_pos _ (by decide))
  refine sat_bind (Q := (· ∈ doers7)) (sat_guard (by decide) (sat_guard hi (sat_ok (getI_mem hi)))) fun w hw => ?_
  refine sat_bind (Q := (· = x)) (sat_guard ⟨by rw [hlen]; omega, by rw [hlen]; omega⟩ (sat_ok hg.1)) fun x' e => ?_
  subst e
  refine sat_bind (Q := (· = y)) (sat_guard ⟨by rw [hlen]; omega, by rw [hlen]; omega⟩ (sat_ok hg.2)) fun y' e => ?_
  subst e
  have la := a.len
  have lb := b.len
  have ea1 : x'.1.length = a.pre.length := by rw [ea]
  have eb1 : y'.1.length = b.pre.length := by rw [eb]
  have hc : cutL (r ++ [x', y']) none (some (-2)) = r := cutL_last2
  have ex1 : x'.1 = a.pre := by rw [ea]
  have ex2 : x'.2 = a.post := by rw [ea]
  have ey1 : y'.1 = b.pre := by rw [eb]
  have ey2 : y'.2 = b.post := by rw [eb]
  rw [hc, ex1, ex2, ey1, ey2]
  have e1 : (([w] : List (List Nat)) ++ a.pre) ++ b.pre = (Tr.node w a b).pre := by show w :: (a.pre ++ b.pre) = _; rfl
  have e2 : (a.post ++ b.post) ++ ([eS w] : List Dt) = (Tr.node w a b).post := rfl
  have hp : (Tr.node w a b).pre.length = a.pre.length + b.pre.length + 1 := by
    show (w :: (a.pre ++ b.pre)).length = _
    rw [List.length_cons, List.length_append]
  have lc := (Tr.node w a b).len
  rw [e1, e2]
  refine sat_guard (by rw [List.length_append, List.length_singleton]; omega) (sat_guard (by omega) (sat_guard (by rw [List.length_append]; omega) (sat_guard (by omega) (sat_guard (by rw [List.length_append, List.length_singleton]; omega) (sat_ok ⟨?_, ?_, ?_⟩)))))
  · intro e he
    rcases List.mem_append.mp he with he | he
    · exact hR e he
    · rw [List.mem_singleton] at he
      subst he
      exact ⟨.node w a b, ⟨hw, ga, gb⟩, rfl⟩
  · rw [List.length_append, List.length_append]; rfl
  · rw [tot_app, ht2]
    have : tot [((Tr.node w a b).pre, (Tr.node w a b).post)] = a.pre.length + b.pre.length + 1 := by unfold tot; simp [hp]
    rw [this, List.length_append, List.length_append, List.length_singleton]
    show _ = _ + (r.length + 2)
    omega
theorem term_ok (cells : List Int) (ns : List (List Nat)) (hn : ns.length = 4) (hns : ∀ n ∈ ns, nameOk n) : Sat (m_law_term cells ns) fun e => ent e ∧ e.1.length ≤ 60 := by
  unfold m_law_term
  refine sat_bind (Q := (· = [])) (sat_ok rfl) fun x e => ?_
  subst e
  refine sat_bind (Q := (· = 0)) (sat_ok rfl) fun x e => ?_
  subst e
  refine sat_bind (Q := fun s : List En × Int => (∀ e ∈ s.1, ent e) ∧ 0 ≤ s.2 ∧ s.2 ≤ 30 ∧ ((tot s.1 + s.1.length : Nat) : Int) ≤ 2 * s.2) (sat_bind (sat_ok rfl) fun c e => ?_) fun s hs => ?_
  · subst e
    refine sat_foldI _ ⟨fun e he => by simp at he, by decide, by decide, by decide⟩ fun cell s _ hs => ?_
    obtain ⟨some, leaves⟩ := s
    obtain ⟨hs, l0, l30, ht⟩ := hs
    simp only at l0 l30 ht hs
    unfold m_law_term_L1
    refine sat_bind (Q := (· = (decide ((1 : Int) < some.length) && (decide (cell % 3 = 0) || decide (leaves = 30))))) (sat_and (sat_ok rfl) fun _ => sat_guard (by decide) (sat_ok rfl)) fun c e => ?_
    subst e
    refine sat_if (fun c => ?_) fun c => ?_
    · simp only [Bool.and_eq_true, decide_eq_true_eq] at c
      refine sat_bind (sat_guard (divW (by decide) (by decide)) (joined_ok some (cell / 3) hs (by omega) (by omega))) fun fs hf => sat_ok ⟨hf.1, l0, l30, by show ((tot fs + fs.length : Nat) : Int) ≤ 2 * leaves; omega⟩
    · refine sat_bind (Q := fun s : List En × Int => (∀ e ∈ s.1, ent e) ∧ 0 ≤ s.2 ∧ s.2 ≤ 30 ∧ ((tot s.1 + s.1.length : Nat) : Int) ≤ 2 * s.2) ?_ fun s hs => by unfold m_law_term_J1; exact sat_ok hs
      refine sat_bind (Q := (· = decide (leaves < 30))) (sat_ok rfl) fun c e => ?_
      subst e
      refine sat_if (fun c => ?_) fun c => sat_ok ⟨hs, l0, l30, ht⟩
      have c := of_decide_eq_true c
      refine sat_bind (Q := fun fs : List En => ∃ e, ent e ∧ e.1.length = 1 ∧ fs = some ++ [e]) (sat_bind (sat_ok rfl) fun x e => ?_) fun fs hf => ?_
      · subst e
        refine sat_bind (Q := fun es : List En => ∃ e, ent e ∧ e.1.length = 1 ∧ es = [e]) (sat_bind (Q := fun x : En × Unit => ent x.1 ∧ x.1.1.length = 1) (sat_bind (sat_guard (divW (by decide) (by decide)) (leaf_ok (cell / 3) ns hn hns)) fun a ha => sat_bind (Q := fun _ => True) (sat_ok trivial) fun _ _ => sat_ok ha) fun x hx => sat_ok ⟨_, hx.1, hx.2, rfl⟩) fun es he => ?_
        obtain ⟨e, h1, h2, rfl⟩ := he
        exact sat_guard (by rw [List.length_append, List.length_singleton]; show some.length + 1 ≤ _; omega) (sat_ok ⟨e, h1, h2, rfl⟩)
      · obtain ⟨e, h1, h2, rfl⟩ := hf
        refine sat_bind (Q := (· = leaves + 1)) (sat_bind (Q := (· = 1)) (sat_ok rfl) fun b e => by subst e; exact sat_ok rfl) fun l e' => ?_
        subst e'
        refine sat_ok ⟨fun d hd => ?_, by show 0 ≤ leaves + 1; omega, by show leaves + 1 ≤ 30; omega, ?_⟩
        · rcases List.mem_append.mp hd with hd | hd
          · exact hs d hd
          · rw [List.mem_singleton] at hd; subst hd; exact h1
        · show ((tot (some ++ [e]) + (some ++ [e]).length : Nat) : Int) ≤ 2 * (leaves + 1)
          have : tot [e] = 1 := by unfold tot; simp [h2]
          rw [tot_app, this, List.length_append, List.length_singleton]
          omega
  obtain ⟨some, leaves⟩ := s
  obtain ⟨hs, l0, l30, ht⟩ := hs
  simp only at l0 l30 ht hs
  show Sat (m_law_term_J2 ns some leaves) _
  unfold m_law_term_J2
  refine sat_bind (Q := fun es : List En => (∀ e ∈ es, ent e) ∧ 1 ≤ es.length ∧ tot es + es.length ≤ 60) ?_ fun es he => ?_
  · refine sat_bind (Q := (· = decide (some.length = 0))) (sat_guard (gQn_gQ (n := 3) (gQn_lst fun d hd => ?_) (by decide)) (sat_ok rfl)) fun c e => ?_
    · obtain ⟨e, he, rfl⟩ := List.mem_map.mp hd
      obtain ⟨tr, gt, et⟩ := hs e he
      have gl := good_low tr gt
      have e1 : e.1 = tr.pre := by rw [et]
      have e2 : e.2 = tr.post := by rw [et]
      refine gQn_tup fun d hd => ?_
      simp only [List.mem_cons, List.not_mem_nil, or_false] at hd
      rcases hd with rfl | rfl
      · exact gQn_lst fun d hd => by
          obtain ⟨x, hx, rfl⟩ := List.mem_map.mp hd
          rw [e1] at hx
          exact gQn_str (strOk_ascii (gl.1 x hx))
      · exact gQn_tup fun d hd => by
          rw [map_eA, e2] at hd
          exact (gl.2 d hd).1
    subst e
    refine sat_if (fun c => ?_) fun c => sat_ok ⟨hs, ?_, by omega⟩
    · refine sat_bind (Q := fun es : List En => (∀ e ∈ es, ent e) ∧ 1 ≤ es.length ∧ tot es + es.length ≤ 60) (sat_bind (Q := fun x : En × Unit => ent x.1 ∧ x.1.1.length = 1) (sat_bind (leaf_ok 0 ns hn hns) fun a ha => sat_bind (Q := fun _ => True) (sat_ok trivial) fun _ _ => sat_ok ha) fun x hx => sat_ok ⟨fun e he => by rw [List.mem_singleton] at he; subst he; exact hx.1, Nat.le_refl 1, ?_⟩) fun es h => sat_ok h
      unfold tot
      simp [hx.2]
    · have c : some.length ≠ 0 := by simpa using c
      omega
  unfold m_law_term_J3
  refine sat_bind (Q := fun c : Ctl (List En) En => match c with
    | .nx es => (∀ e ∈ es, ent e) ∧ es.length = 1 ∧ tot es + es.length ≤ 60
    | _ => False) (sat_while (fun es : List En => (∀ e ∈ es, ent e) ∧ 1 ≤ es.length ∧ tot es + es.length ≤ 60) (fun es => es.length) he (by omega) fun es he => ?_) fun c hc => ?_
  · unfold m_law_term_Q1
    refine sat_ok ?_
    by_cases q : 1 < es.length
    · rw [decide_eq_true (by omega)]
      show Sat (m_law_term_L2 es leaves) _
      unfold m_law_term_L2
      refine sat_bind (sat_guard (mulW (a := 10) (b := 10) (by omega) (by omega) (by decide) (by decide) (by decide)) (joined_ok es _ he.1 q he.2.2)) fun fs hf => sat_ok ⟨⟨hf.1, by omega, by omega⟩, by omega⟩
    · rw [decide_eq_false (by omega)]
      exact ⟨he.1, by omega, he.2.2⟩
  · cases c with
    | nx es =>
      obtain ⟨h1, h2, h3⟩ := hc
      match es, h2 with
      | [e], _ =>
        show Sat (m_law_term_J4 [e]) _
        unfold m_law_term_J4
        refine sat_guard (inB_of (by decide) (show (0 : Int) < 1 by decide)) (sat_ok ⟨h1 e (by simp), ?_⟩)
        have : tot [e] = e.1.length := by unfold tot; simp
        rw [this] at h3
        show e.1.length ≤ 60
        omega
    | rt r => exact hc.elim
    | bk s => exact hc.elim
theorem cell_ok (ns : List Int) (k : Int) (h : 0 ≤ k) : Sat (m_law_cell_at ns k) fun _ => True := by
  unfold m_law_cell_at
  refine sat_bind (sat_ok rfl) fun c e => ?_
  subst e
  refine sat_if (fun c => ?_) fun _ => sat_ok trivial
  have c := of_decide_eq_true c
  exact sat_guard (inB_of h c) (sat_ok trivial)
theorem around_ok (n : Int) (ns : List (List Nat)) (hn : ns.length = 4) (hns : ∀ n ∈ ns, nameOk n) : Sat (m_law_around n ns) fun l => l.length ≤ 4 ∧ ∀ x ∈ l, low x := by
  unfold m_law_around
  have i0 : inB ns 0 := inB_of (by decide) (by omega)
  have i3 : inB ns 3 := inB_of (by decide) (by omega)
  refine sat_bind (Q := fun l : List (List Nat) => l.length = 11 ∧ ∀ x ∈ l, low x) (sat_guard i0 (sat_guard i3 (sat_ok ⟨rfl, ?_⟩))) fun some hs => ?_
  · intro x hx
    simp only [List.mem_cons, List.not_mem_nil, or_false] at hx
    rcases hx with rfl | rfl | rfl | rfl | rfl | rfl | rfl | rfl | rfl | rfl | rfl
    · unfold low; decide +kernel
    · unfold low; decide +kernel
    · unfold low; decide +kernel
    · unfold low; decide +kernel
    · unfold low; decide +kernel
    · unfold low; decide +kernel
    · exact lets_low (hns _ (getI_mem i0)).2.2.2
    · exact lets_low (hns _ (getI_mem i3)).2.2.2
    · unfold low; decide +kernel
    · unfold low; decide +kernel
    · unfold low; decide +kernel
  · have m5 := Int.emod_nonneg (n / 14641) (b := 5) (by decide)
    have l5 := Int.emod_lt_of_pos (n / 14641) (b := 5) (by decide)
    refine sat_bind (Q := fun j : Int => 0 ≤ j ∧ j < 5) (sat_bind (Q := fun j : Int => 0 ≤ j ∧ j < 5) (sat_guard (divW (by decide) (by decide)) (sat_guard (by decide) (sat_ok ⟨m5, l5⟩))) fun j hj => sat_guard (gR_of (by omega) (by omega)) (sat_ok hj)) fun j hj => ?_
    refine sat_guard (by rw [rng_len]; omega) (sat_mono (sat_mapM low fun k hk => ?_) fun ys hy => ⟨by rw [hy.1, rng_len]; omega, hy.2⟩)
    have hk2 := rng_mem.mp hk
    unfold m_law_around_C1
    have ik : inB ([(1 : Int), (11 : Int), (121 : Int), (1331 : Int)] : List Int) k := inB_of hk2.1 (show k < 4 by omega)
    have hd : getI ([(1 : Int), (11 : Int), (121 : Int), (1331 : Int)] : List Int) k ∈ ([(1 : Int), (11 : Int), (121 : Int), (1331 : Int)] : List Int) := getI_mem ik
    have hd2 : 0 < getI ([(1 : Int), (11 : Int), (121 : Int), (1331 : Int)] : List Int) k ∧ getI ([(1 : Int), (11 : Int), (121 : Int), (1331 : Int)] : List Int) k < 2000 := by
      simp only [List.mem_cons, List.not_mem_nil, or_false] at hd
      omega
    have is : inB some ((n / getI ([(1 : Int), (11 : Int), (121 : Int), (1331 : Int)] : List Int) k) % 11) := inB_of (Int.emod_nonneg _ (by decide)) (by rw [hs.1]; exact Int.emod_lt_of_pos _ (by decide))
    exact sat_guard ik (sat_guard (divW hd2.1 (by omega)) (sat_guard (by decide) (sat_guard is (sat_ok (hs.2 _ (getI_mem is))))))
theorem law_ok (ns : List Int) (h : ns.length ≤ 63) : m_law ns = .ok true := by
  apply sat_eq
  unfold m_law
  refine sat_bind (Q := fun ns : List (List Nat) => ns.length = 4 ∧ ∀ n ∈ ns, nameOk n) (arg1 (cell_ok ns 0 (by decide)) fun a _ => names_ok a) fun names hn => ?_
  refine sat_bind (term_ok _ names hn.1 hn.2) fun e he => ?_
  obtain ⟨words, due⟩ := e
  obtain ⟨⟨t, gt, et⟩, hl⟩ := he
  cases et
  have hl : t.pre.length ≤ 60 := hl
  have gl := good_low t gt
  have tl := t.len
  unfold R.sp2
  dsimp only
  have ar : ∀ k : Int, 0 ≤ k → k ≤ 10 → Sat (((((m_law_cell_at ns (1 : Int)).bind fun a => (R.ok ()).bind fun b => R.ok (a, b)).bind fun x => m_law_mixed x.1 k).bind fun a => (R.ok ()).bind fun b => R.ok (a, b)).bind fun x => m_law_around x.1 names) fun l => l.length ≤ 4 ∧ ∀ x ∈ l, low x := fun k h0 h1 =>
    arg1 (Q := fun _ => True) (arg1 (f := fun a => m_law_mixed a k) (cell_ok ns 1 (by decide)) fun a _ => sat_mono (mixed_ok a k h0 (by omega)) fun _ _ => trivial) fun a _ => around_ok a names hn.1 hn.2
  refine sat_bind (ar 1 (by decide) (by decide)) fun ahead ha => ?_
  refine sat_bind (ar 2 (by decide) (by decide)) fun behind hb => ?_
  have l1 : (ahead ++ t.pre).length = ahead.length + t.pre.length := List.length_append
  have l2 : ((ahead ++ t.pre) ++ behind).length = ahead.length + t.pre.length + behind.length := by rw [List.length_append, l1]
  refine sat_bind (Q := (· = (ahead ++ t.pre) ++ behind)) (sat_guard (by omega) (sat_guard (by omega) (sat_ok rfl))) fun handed e => ?_
  subst e
  refine sat_bind (Q := (· = (t.post, (ahead.length : Int) + t.pre.length))) (sat_of (term_from_ok (r := behind) (goodL_T t gt) (by rw [List.append_assoc]) hl) rfl) fun f e => ?_
  subst e
  refine sat_bind (Q := (· = false)) (sat_mono (sat_or (x := false) (y := false) (sat_ok rfl) fun _ => sat_mono (sat_or (x := false) (y := false) (sat_ok rfl) fun _ => sat_not (x := true) (sat_of (alike_ok gl.2) rfl)) fun b e => e) fun b e => e) fun b e => ?_
  subst e
  rw [if_neg (by decide)]
  refine sat_bind (Q := (· = false)) (sat_ok (by simp)) fun b e => ?_
  subst e
  rw [if_neg (by decide)]
  have gq : gQn 1 (eL eS ((ahead ++ t.pre) ++ behind)) := gQn_lst fun d hd => by
    obtain ⟨x, hx, rfl⟩ := List.mem_map.mp hd
    rcases List.mem_append.mp hx with hx | hx
    · rcases List.mem_append.mp hx with hx | hx
      · exact gQn_str (strOk_ascii (ha.2 x hx))
      · exact gQn_str (strOk_ascii (gl.1 x hx))
    · exact gQn_str (strOk_ascii (hb.2 x hx))
  refine sat_bind (Q := (· = false)) (sat_guard (by omega) (sat_guard (by omega) (sat_guard ⟨gQn_gQ gq (by decide), gQn_gQ gq (by decide)⟩ (sat_ok (by rw [eqD_same gq.1]; rfl))))) fun b e => ?_
  subst e
  rw [if_neg (by decide)]
  refine sat_bind (Q := (· = t.pre.map eS)) (sat_of (words_of_ok gt hl) rfl) fun told e => ?_
  subst e
  refine sat_mono (sat_and (x := true) (y := true) (sat_ok rfl) fun _ => sat_of (alike_ok fun d hd => ?_) rfl) fun b e => e
  obtain ⟨x, hx, rfl⟩ := List.mem_map.mp hd
  exact ⟨gQn_str (strOk_ascii (gl.1 x hx)), by show (kitB "str" "bool").getD false = false; decide +kernel⟩
end Mi
namespace Wa
open PySem PySem.Spec PyProof.Rows L2 Sm Mi
def top (i : Nat) : Stmt := PySem.Challenge.pw_forerun_k04_terms_read_and_written.main.body.getD i (.Pass ⟨0, 0, 0, 0⟩)
abbrev FnP (K : PySem.W.Frag) (x : Str) (st : Stmt) (f : Addr) (fd : FuncData) : Prop := FunD K x x (defArgs st) (defBody st) (defScope st) [] [] f fd
abbrev s_is_worth : Stmt := top 7
abbrev N_is_worth : List Str := (["thing"] : List Str)
theorem sc_is_worth : FnScope N_is_worth ["thing"] (defScope s_is_worth) := ⟨rfl, rfl, rfl, by decide +kernel, rfl, by decide +kernel, by decide +kernel⟩
abbrev sp_is_worth (K : PySem.W.Frag) (Ce : Exn → Addr) : Sp := spD (α := Bool) K Ce 1 (fun x : Int => [eI x]) (fun x => m_is_worth x) (oD eB)
abbrev s_numeral : Stmt := top 8
abbrev N_numeral : List Str := (["worth"] : List Str)
theorem sc_numeral : FnScope N_numeral ["worth"] (defScope s_numeral) := ⟨rfl, rfl, rfl, by decide +kernel, rfl, by decide +kernel, by decide +kernel⟩
abbrev sp_numeral (K : PySem.W.Frag) (Ce : Exn → Addr) : Sp := spD (α := (List Nat)) K Ce 1 (fun x : Dt => [eA x]) (fun x => m_numeral x) (oD eS)
abbrev s_is_name : Stmt := top 15
abbrev N_is_name : List Str := (["text", "sign"] : List Str)
theorem sc_is_name : FnScope N_is_name ["text"] (defScope s_is_name) := ⟨rfl, rfl, rfl, by decide +kernel, rfl, by decide +kernel, by decide +kernel⟩
abbrev sp_is_name (K : PySem.W.Frag) (Ce : Exn → Addr) : Sp := spD (α := Bool) K Ce 1 (fun x : (List Nat) => [eS x]) (fun x => m_is_name x) (oD eB)
abbrev s_law_cell_at : Stmt := top 20
abbrev N_law_cell_at : List Str := (["script", "k"] : List Str)
theorem sc_law_cell_at : FnScope N_law_cell_at ["script", "k"] (defScope s_law_cell_at) := ⟨rfl, rfl, rfl, by decide +kernel, rfl, by decide +kernel, by decide +kernel⟩
abbrev sp_law_cell_at (K : PySem.W.Frag) (Ce : Exn → Addr) : Sp := spD (α := Int) K Ce 2 (fun x : ((List Int) × Int) => [eX x.1, eI x.2]) (fun x => m_law_cell_at x.1 x.2) (oD eI)
abbrev s_law_mixed : Stmt := top 21
abbrev N_law_mixed : List Str := (["cell", "k", "number"] : List Str)
theorem sc_law_mixed : FnScope N_law_mixed ["cell", "k"] (defScope s_law_mixed) := ⟨rfl, rfl, rfl, by decide +kernel, rfl, by decide +kernel, by decide +kernel⟩
abbrev sp_law_mixed (K : PySem.W.Frag) (Ce : Exn → Addr) : Sp := spD (α := Int) K Ce 2 (fun x : (Int × Int) => [eI x.1, eI x.2]) (fun x => m_law_mixed x.1 x.2) (oD eI)
abbrev s_law_letters : Stmt := top 22
abbrev N_law_letters : List Str := (["number", "many", "letters", "found", "k"] : List Str)
theorem sc_law_letters : FnScope N_law_letters ["number", "many"] (defScope s_law_letters) := ⟨rfl, rfl, rfl, by decide +kernel, rfl, by decide +kernel, by decide +kernel⟩
abbrev sp_law_letters (K : PySem.W.Frag) (Ce : Exn → Addr) : Sp := spD (α := (List Nat)) K Ce 2 (fun x : (Int × Int) => [eI x.1, eI x.2]) (fun x => m_law_letters x.1 x.2) (oD eS)
abbrev s_law_free : Stmt := top 23
abbrev N_law_free : List Str := (["name"] : List Str)
theorem sc_law_free : FnScope N_law_free ["name"] (defScope s_law_free) := ⟨rfl, rfl, rfl, by decide +kernel, rfl, by decide +kernel, by decide +kernel⟩
abbrev sp_law_free (K : PySem.W.Frag) (Ce : Exn → Addr) : Sp := spD (α := (List Nat)) K Ce 1 (fun x : (List Nat) => [eS x]) (fun x => m_law_free x) (oD eS)
abbrev s_law_figures : Stmt := top 25
abbrev N_law_figures : List Str := (["worth", "rest", "found"] : List Str)
theorem sc_law_figures : FnScope N_law_figures ["worth"] (defScope s_law_figures) := ⟨rfl, rfl, rfl, by decide +kernel, rfl, by decide +kernel, by decide +kernel⟩
abbrev sp_law_figures (K : PySem.W.Frag) (Ce : Exn → Addr) : Sp := spD (α := (List Nat)) K Ce 1 (fun x : Int => [eI x]) (fun x => m_law_figures x) (oD eS)
abbrev s_law_joined : Stmt := top 27
abbrev N_law_joined : List Str := (["some", "number", "word", "first", "second"] : List Str)
theorem sc_law_joined : FnScope N_law_joined ["some", "number"] (defScope s_law_joined) := ⟨rfl, rfl, rfl, by decide +kernel, rfl, by decide +kernel, by decide +kernel⟩
abbrev sp_law_joined (K : PySem.W.Frag) (Ce : Exn → Addr) : Sp := spD (α := (List ((List (List Nat)) × (List Dt)))) K Ce 2 (fun x : ((List ((List (List Nat)) × (List Dt))) × Int) => [(eL (e2 (eL eS) (eU eA))) x.1, eI x.2]) (fun x => m_law_joined x.1 x.2) (oD (eL (e2 (eL eS) (eU eA))))
abbrev s_law_alike : Stmt := top 29
abbrev N_law_alike : List Str := (["found", "due", "one", "other"] : List Str)
theorem sc_law_alike : FnScope N_law_alike ["found", "due"] (defScope s_law_alike) := ⟨rfl, rfl, rfl, by decide +kernel, rfl, by decide +kernel, by decide +kernel⟩
abbrev sp_law_alike (K : PySem.W.Frag) (Ce : Exn → Addr) : Sp := spD (α := Bool) K Ce 2 (fun x : ((List Dt) × (List Dt)) => [(eU eA) x.1, (eU eA) x.2]) (fun x => m_law_alike x.1 x.2) (oD eB)
abbrev s_law_around : Stmt := top 30
abbrev N_law_around : List Str := (["number", "names", "some", "k"] : List Str)
theorem sc_law_around : FnScope N_law_around ["number", "names"] (defScope s_law_around) := ⟨rfl, rfl, rfl, by decide +kernel, rfl, by decide +kernel, by decide +kernel⟩
abbrev sp_law_around (K : PySem.W.Frag) (Ce : Exn → Addr) : Sp := spD (α := (List (List Nat))) K Ce 2 (fun x : (Int × (List (List Nat))) => [eI x.1, (eL eS) x.2]) (fun x => m_law_around x.1 x.2) (oD (eL eS))
abbrev s_worth_in : Stmt := top 9
abbrev N_worth_in : List Str := (["text", "figures", "sign", "worth"] : List Str)
theorem sc_worth_in : FnScope N_worth_in ["text"] (defScope s_worth_in) := ⟨rfl, rfl, rfl, by decide +kernel, rfl, by decide +kernel, by decide +kernel⟩
abbrev sp_worth_in (K : PySem.W.Frag) (Ce : Exn → Addr) : Sp := spD (α := Int) K Ce 1 (fun x : (List Nat) => [eS x]) (fun x => m_worth_in x) (oD eI)
abbrev s_words_of : Stmt := top 18
abbrev N_words_of : List Str := (["term", "parts", "part", "second", "first"] : List Str)
theorem sc_words_of : FnScope N_words_of ["term"] (defScope s_words_of) := ⟨rfl, rfl, rfl, by decide +kernel, rfl, by decide +kernel, by decide +kernel⟩
abbrev sp_words_of (K : PySem.W.Frag) (Ce : Exn → Addr) : Sp := spD (α := (List Dt)) K Ce 1 (fun x : (List Dt) => [(eU eA) x]) (fun x => m_words_of x) (oD (eL eA))
abbrev s_law_names : Stmt := top 24
abbrev N_law_names : List Str := (["cell", "letters", "base", "at", "first", "some", "k", "name"] : List Str)
theorem sc_law_names : FnScope N_law_names ["cell"] (defScope s_law_names) := ⟨rfl, rfl, rfl, by decide +kernel, rfl, by decide +kernel, by decide +kernel⟩
abbrev sp_law_names (K : PySem.W.Frag) (Ce : Exn → Addr) : Sp := spD (α := (List (List Nat))) K Ce 1 (fun x : Int => [eI x]) (fun x => m_law_names x) (oD (eL eS))
abbrev s_law_leaf : Stmt := top 26
abbrev N_law_leaf : List Str := (["cell", "names", "name", "worth"] : List Str)
theorem sc_law_leaf : FnScope N_law_leaf ["cell", "names"] (defScope s_law_leaf) := ⟨rfl, rfl, rfl, by decide +kernel, rfl, by decide +kernel, by decide +kernel⟩
abbrev sp_law_leaf (K : PySem.W.Frag) (Ce : Exn → Addr) : Sp := spD (α := ((List (List Nat)) × (List Dt))) K Ce 2 (fun x : (Int × (List (List Nat))) => [eI x.1, (eL eS) x.2]) (fun x => m_law_leaf x.1 x.2) (oD (e2 (eL eS) (eU eA)))
abbrev s_part_in : Stmt := top 16
abbrev N_part_in : List Str := (["word"] : List Str)
theorem sc_part_in : FnScope N_part_in ["word"] (defScope s_part_in) := ⟨rfl, rfl, rfl, by decide +kernel, rfl, by decide +kernel, by decide +kernel⟩
abbrev sp_part_in (K : PySem.W.Frag) (Ce : Exn → Addr) : Sp := spD (α := Dt) K Ce 1 (fun x : (List Nat) => [eS x]) (fun x => m_part_in x) (oD eA)
abbrev s_law_term : Stmt := top 28
abbrev N_law_term : List Str := (["cells", "names", "some", "leaves", "cell"] : List Str)
theorem sc_law_term : FnScope N_law_term ["cells", "names"] (defScope s_law_term) := ⟨rfl, rfl, rfl, by decide +kernel, rfl, by decide +kernel, by decide +kernel⟩
abbrev sp_law_term (K : PySem.W.Frag) (Ce : Exn → Addr) : Sp := spD (α := ((List (List Nat)) × (List Dt))) K Ce 2 (fun x : ((List Int) × (List (List Nat))) => [(eL eI) x.1, (eL eS) x.2]) (fun x => m_law_term x.1 x.2) (oD (e2 (eL eS) (eU eA)))
abbrev s_term_from : Stmt := top 17
abbrev N_term_from : List Str := (["words", "at", "told", "waiting", "lacking", "place", "word"] : List Str)
theorem sc_term_from : FnScope N_term_from ["words", "at"] (defScope s_term_from) := ⟨rfl, rfl, rfl, by decide +kernel, rfl, by decide +kernel, by decide +kernel⟩
abbrev sp_term_from (K : PySem.W.Frag) (Ce : Exn → Addr) : Sp := spD (α := ((List Dt) × Int)) K Ce 2 (fun x : ((List (List Nat)) × Int) => [(eL eS) x.1, eI x.2]) (fun x => m_term_from x.1 x.2) (oD (e2 (eU eA) eI))
abbrev s_law : Stmt := top 31
abbrev N_law : List Str := (["script", "names", "words", "due", "ahead", "behind", "handed", "found", "told"] : List Str)
theorem sc_law : FnScope N_law ["script"] (defScope s_law) := ⟨rfl, rfl, rfl, by decide +kernel, rfl, by decide +kernel, by decide +kernel⟩
abbrev sp_law (K : PySem.W.Frag) (Ce : Exn → Addr) : Sp := spD (α := Bool) K Ce 1 (fun x : (List Int) => [eX x]) (fun x => (m_law x).calm) (oD eB)
def CeF (K : PySem.W.Frag) : Exn → Addr
  | .noNumber => He.ga K "NoNumber"
  | .noTerm => He.ga K "NoTerm"
  | _ => He.ga K "ForerunError"
def tab_DOERS : List He.Dv := [He.Dv.str "plus", He.Dv.str "minus", He.Dv.str "times", He.Dv.str "over", He.Dv.str "rest", He.Dv.str "under", He.Dv.str "same"]
def tab_HEADS : List He.Dv := [He.Dv.str "take", He.Dv.str "give", He.Dv.str "let", He.Dv.str "say", He.Dv.str "off", He.Dv.str "if", He.Dv.str "else", He.Dv.str "end", He.Dv.str "as"]
structure Tx (K : PySem.W.Frag) (mg : Str → Option Value) where
  f_is_worth : Addr
  d_is_worth : FuncData
  F_is_worth : FnP K "is_worth" s_is_worth f_is_worth d_is_worth
  g_is_worth : mg "is_worth" = some (.ref f_is_worth)
  f_numeral : Addr
  d_numeral : FuncData
  F_numeral : FnP K "numeral" s_numeral f_numeral d_numeral
  g_numeral : mg "numeral" = some (.ref f_numeral)
  f_is_name : Addr
  d_is_name : FuncData
  F_is_name : FnP K "is_name" s_is_name f_is_name d_is_name
  g_is_name : mg "is_name" = some (.ref f_is_name)
  f_law_cell_at : Addr
  d_law_cell_at : FuncData
  F_law_cell_at : FnP K "_law_cell_at" s_law_cell_at f_law_cell_at d_law_cell_at
  g_law_cell_at : mg "_law_cell_at" = some (.ref f_law_cell_at)
  f_law_mixed : Addr
  d_law_mixed : FuncData
  F_law_mixed : FnP K "_law_mixed" s_law_mixed f_law_mixed d_law_mixed
  g_law_mixed : mg "_law_mixed" = some (.ref f_law_mixed)
  f_law_letters : Addr
  d_law_letters : FuncData
  F_law_letters : FnP K "_law_letters" s_law_letters f_law_letters d_law_letters
  g_law_letters : mg "_law_letters" = some (.ref f_law_letters)
  f_law_free : Addr
  d_law_free : FuncData
  F_law_free : FnP K "_law_free" s_law_free f_law_free d_law_free
  g_law_free : mg "_law_free" = some (.ref f_law_free)
  f_law_figures : Addr
  d_law_figures : FuncData
  F_law_figures : FnP K "_law_figures" s_law_figures f_law_figures d_law_figures
  g_law_figures : mg "_law_figures" = some (.ref f_law_figures)
  f_law_joined : Addr
  d_law_joined : FuncData
  F_law_joined : FnP K "_law_joined" s_law_joined f_law_joined d_law_joined
  g_law_joined : mg "_law_joined" = some (.ref f_law_joined)
  f_law_alike : Addr
  d_law_alike : FuncData
  F_law_alike : FnP K "_law_alike" s_law_alike f_law_alike d_law_alike
  g_law_alike : mg "_law_alike" = some (.ref f_law_alike)
  f_law_around : Addr
  d_law_around : FuncData
  F_law_around : FnP K "_law_around" s_law_around f_law_around d_law_around
  g_law_around : mg "_law_around" = some (.ref f_law_around)
  f_worth_in : Addr
  d_worth_in : FuncData
  F_worth_in : FnP K "worth_in" s_worth_in f_worth_in d_worth_in
  g_worth_in : mg "worth_in" = some (.ref f_worth_in)
  f_words_of : Addr
  d_words_of : FuncData
  F_words_of : FnP K "words_of" s_words_of f_words_of d_words_of
  g_words_of : mg "words_of" = some (.ref f_words_of)
  f_law_names : Addr
  d_law_names : FuncData
  F_law_names : FnP K "_law_names" s_law_names f_law_names d_law_names
  g_law_names : mg "_law_names" = some (.ref f_law_names)
  f_law_leaf : Addr
  d_law_leaf : FuncData
  F_law_leaf : FnP K "_law_leaf" s_law_leaf f_law_leaf d_law_leaf
  g_law_leaf : mg "_law_leaf" = some (.ref f_law_leaf)
  f_part_in : Addr
  d_part_in : FuncData
  F_part_in : FnP K "part_in" s_part_in f_part_in d_part_in
  g_part_in : mg "part_in" = some (.ref f_part_in)
  f_law_term : Addr
  d_law_term : FuncData
  F_law_term : FnP K "_law_term" s_law_term f_law_term d_law_term
  g_law_term : mg "_law_term" = some (.ref f_law_term)
  f_term_from : Addr
  d_term_from : FuncData
  F_term_from : FnP K "term_from" s_term_from f_term_from d_term_from
  g_term_from : mg "term_from" = some (.ref f_term_from)
  f_law : Addr
  d_law : FuncData
  F_law : FnP K "law" s_law f_law d_law
  g_law : mg "law" = some (.ref f_law)
  x_NoNumber : mg "NoNumber" = some (.ref (He.ga K "NoNumber"))
  x_NoTerm : mg "NoTerm" = some (.ref (He.ga K "NoTerm"))
  q_NoNumber : PySem.W.excIn K (He.ga K "NoNumber") He.veBase "ValueError.__new__" = true
  k_NoNumber : PySem.W.keepIn K (.ref (He.ga K "NoNumber")) = true
  b_NoNumber : PySem.W.subIn K (.ref (He.ga K "NoNumber")) (.type "BaseException") = some true
  t_NoNumber : PySem.W.typeIn K (.ref (He.ga K "NoNumber")) = some (.type "type")
  q_NoTerm : PySem.W.excIn K (He.ga K "NoTerm") He.veBase "ValueError.__new__" = true
  k_NoTerm : PySem.W.keepIn K (.ref (He.ga K "NoTerm")) = true
  b_NoTerm : PySem.W.subIn K (.ref (He.ga K "NoTerm")) (.type "BaseException") = some true
  t_NoTerm : PySem.W.typeIn K (.ref (He.ga K "NoTerm")) = some (.type "type")
  ck0 : ∀ e : Exn, e.plain = true → PySem.W.exmOne K (.ref (CeF K e)) (.ref (He.ga K "NoNumber")) = some (e.is "NoNumber")
  n_isinstance : mg "isinstance" = none
  n_int : mg "int" = none
  n_bool : mg "bool" = none
  n_str : mg "str" = none
  n_len : mg "len" = none
  n_range : mg "range" = none
  n_abs : mg "abs" = none
  n_tuple : mg "tuple" = none
  n_zip : mg "zip" = none
  n_list : mg "list" = none
  c_MOST : ∃ u, mg "MOST" = some u ∧ RelV (.int 1000000000000000000000000000000) u
  a_DOERS : Addr
  c_DOERS : ∃ u, mg "DOERS" = some u ∧ RelV (.ref a_DOERS) u
  s_DOERS : ∀ H, SqT K H a_DOERS [V.str "plus", V.str "minus", V.str "times", V.str "over", V.str "rest", V.str "under", V.str "same"]
  r_DOERS : ∀ B, RpA K B (k_DOERS.map eS) [V.str "plus", V.str "minus", V.str "times", V.str "over", V.str "rest", V.str "under", V.str "same"]
  a_HEADS : Addr
  c_HEADS : ∃ u, mg "HEADS" = some u ∧ RelV (.ref a_HEADS) u
  s_HEADS : ∀ H, SqT K H a_HEADS [V.str "take", V.str "give", V.str "let", V.str "say", V.str "off", V.str "if", V.str "else", V.str "end", V.str "as"]
  r_HEADS : ∀ B, RpA K B (k_HEADS.map eS) [V.str "take", V.str "give", V.str "let", V.str "say", V.str "off", V.str "if", V.str "else", V.str "end", V.str "as"]
  c_LETTERS : ∃ u, mg "LETTERS" = some u ∧ RelV (.str "abcdefghijklmnopqrstuvwxyz") u
  c_FIGURES : ∃ u, mg "FIGURES" = some u ∧ RelV (.str "0123456789") u
  c_MOST_WORDS : ∃ u, mg "MOST_WORDS" = some u ∧ RelV (.int 60) u
abbrev Tx.Ce {K : PySem.W.Frag} {mg : Str → Option Value} (_ : Tx K mg) : Exn → Addr := CeF K
section
variable {P : Program} {w : World} {K : PySem.W.Frag} {mg : Str → Option Value} {base : Heap}
theorem bn_is_worth (tx : Tx K mg) : Binds K tx.d_is_worth ["thing"] [] := tx.F_is_worth.bindsN fun _ _ _ _ _ _ us hl => match us, hl with | [_], _ => rfl
theorem ok_is_worth (tx : Tx K mg) : FnOk P w K mg base (L2.CX P w) 1 tx.f_is_worth tx.d_is_worth ["thing"] (sp_is_worth K tx.Ce) := by
  refine tx.F_is_worth.ok sc_is_worth (fun vs H Q E h => spF_len (n := 1) rfl vs H Q E h) (fun cdv A outer s H vs Q E hr h => ⟨_, (pss_cons (ps_if (pw_or (pt_not (pt_val (pe_callB (r := rIsi K) call_isi (by rfl) tx.n_isinstance (by rfl) (pa_cons (pv 0) (pa_cons (pe_bltn (v := .ty "int") (by rfl) tx.n_int (by rfl) rfl) pa_nil))))) (pw_or1 (pt_val (pe_callB (r := rIsi K) call_isi (by rfl) tx.n_isinstance (by rfl) (pa_cons (pv 0) (pa_cons (pe_bltn (v := .ty "bool") (by rfl) tx.n_bool (by rfl) rfl) pa_nil)))))).pt (pss_one (ps_ret pe_bl)) pss_nil) (pss_one (ps_ret (pe_chain op_le op_le (pe_un un_neg (C8.pe_gc (by rfl) tx.c_MOST)) (pv 0) (C8.pe_gc (by rfl) tx.c_MOST))))), ?_⟩)
  obtain ⟨v_thing, F, W, rfl, ni, hst, hw, ok, rt⟩ := spD_start N_is_worth h
  generalize L2.start N_is_worth vs = σ at hst ⊢
  have hw : W (m_is_worth v_thing) := hw
  replace ok := ok (List.replicate 1 none)
  have hst : Stt F [some (oD eI v_thing)] [] σ H := hst
  unfold m_is_worth at hw
  refine q_seq ?_
  refine s_ifM hst hw ok (mt_ok (et_or (et_not (et_B (ev_isi (d := eI v_thing) (show kitB "int" "int" = some true by decide +kernel) (ev_var (i := 0) (by rfl))))) (et_B (ev_isi (d := eI v_thing) (show kitB "int" "bool" = some false by decide +kernel) (ev_var (i := 0) (by rfl)))))) ?_ ?_
  · clear hst hw
    intro H hw hst
    exact s_retF (t := oD eB) hst hw ok (mv_ok (t := oD eB) (ev_bl)) fun a v H w s => rt _ _ _ _ _ _ w s
  · clear hst hw
    intro H hw hst
    refine s_next ?_
    refine q_nx ?_
    exact s_retF (t := oD eB) hst hw ok (mv_ok (t := oD eB) ((ev_chain (g1 := fun i j => decide (i ≤ j)) (g2 := fun i j => decide (i ≤ j)) (ev_neg ev_int) (ev_var (i := 0) (by rfl)) ev_int))) fun a v H w s => rt _ _ _ _ _ _ w s
theorem okN_is_worth (tx : Tx K mg) : FnOk P w K mg base (L2N.CX P w) 1 tx.f_is_worth tx.d_is_worth ["thing"] (sp_is_worth K tx.Ce) := by
  refine tx.F_is_worth.ok sc_is_worth (fun vs H Q E h => spF_len (n := 1) rfl vs H Q E h) (fun cdv A outer s H vs Q E hr h => ⟨_, (pss_cons (ps_if (pw_or (pt_not (pt_val (pe_callB (r := rIsi K) call_isi (by rfl) tx.n_isinstance (by rfl) (pa_cons (pv 0) (pa_cons (pe_bltn (v := .ty "int") (by rfl) tx.n_int (by rfl) rfl) pa_nil))))) (pw_or1 (pt_val (pe_callB (r := rIsi K) call_isi (by rfl) tx.n_isinstance (by rfl) (pa_cons (pv 0) (pa_cons (pe_bltn (v := .ty "bool") (by rfl) tx.n_bool (by rfl) rfl) pa_nil)))))).pt (pss_one (ps_ret pe_bl)) pss_nil) (pss_one (ps_ret (pe_chain op_le op_le (pe_un un_neg (C8.pe_gc (by rfl) tx.c_MOST)) (pv 0) (C8.pe_gc (by rfl) tx.c_MOST))))), ?_⟩)
  obtain ⟨v_thing, F, W, rfl, ni, hst, hw, ok, rt⟩ := spD_start N_is_worth h
  generalize L2.start N_is_worth vs = σ at hst ⊢
  have hw : W (m_is_worth v_thing) := hw
  replace ok := ok (List.replicate 1 none)
  have hst : Stt F [some (oD eI v_thing)] [] σ H := hst
  unfold m_is_worth at hw
  refine q_seq ?_
  refine s_ifM hst hw ok (mt_ok (et_or (et_not (et_B (ev_isi (d := eI v_thing) (show kitB "int" "int" = some true by decide +kernel) (ev_var (i := 0) (by rfl))))) (et_B (ev_isi (d := eI v_thing) (show kitB "int" "bool" = some false by decide +kernel) (ev_var (i := 0) (by rfl)))))) ?_ ?_
  · clear hst hw
    intro H hw hst
    exact s_retF (t := oD eB) hst hw ok (mv_ok (t := oD eB) (ev_bl)) fun a v H w s => rt _ _ _ _ _ _ w s
  · clear hst hw
    intro H hw hst
    refine s_next ?_
    refine q_nx ?_
    exact s_retF (t := oD eB) hst hw ok (mv_ok (t := oD eB) ((ev_chain (g1 := fun i j => decide (i ≤ j)) (g2 := fun i j => decide (i ≤ j)) (ev_neg ev_int) (ev_var (i := 0) (by rfl)) ev_int))) fun a v H w s => rt _ _ _ _ _ _ w s
theorem bn_numeral (tx : Tx K mg) : Binds K tx.d_numeral ["worth"] [] := tx.F_numeral.bindsN fun _ _ _ _ _ _ us hl => match us, hl with | [_], _ => rfl
theorem ok_numeral (tx : Tx K mg) : FnOk P w K mg base (L2.CX P w) 1 tx.f_numeral tx.d_numeral ["worth"] (sp_numeral K tx.Ce) := by
  refine tx.F_numeral.ok sc_numeral (fun vs H Q E h => spF_len (n := 1) rfl vs H Q E h) (fun cdv A outer s H vs Q E hr h => ⟨_, (pss_one (ps_ret (pe_callTy call_str_int (by rfl) tx.n_str (by rfl) (pa_cons (pv 0) pa_nil)))), ?_⟩)
  obtain ⟨v_worth, F, W, rfl, ni, hst, hw, ok, rt⟩ := spD_start N_numeral h
  generalize L2.start N_numeral vs = σ at hst ⊢
  have hw : W (m_numeral v_worth) := hw
  replace ok := ok (List.replicate 1 none)
  have hst : Stt F [some (oD eA v_worth)] [] σ H := hst
  unfold m_numeral at hw
  exact s_retF (t := oD eS) hst hw ok (mv_guard fun g1 => mv_guard fun g2 => mv_ok (t := oD eS) ((ev_strI g2 (ev_asI g1 (ev_var (i := 0) (by rfl)))))) fun a v H w s => rt _ _ _ _ _ _ w s
theorem bn_is_name (tx : Tx K mg) : Binds K tx.d_is_name ["text"] [] := tx.F_is_name.bindsN fun _ _ _ _ _ _ us hl => match us, hl with | [_], _ => rfl
theorem ok_is_name (tx : Tx K mg) : FnOk P w K mg base (L2.CX P w) 1 tx.f_is_name tx.d_is_name ["text"] (sp_is_name K tx.Ce) := by
  refine tx.F_is_name.ok sc_is_name (fun vs H Q E h => spF_len (n := 1) rfl vs H Q E h) (fun cdv A outer s H vs Q E hr h => ⟨_, (pss_cons (ps_if (pw_or (pt_cmpR op_eq (pv 0) pe_str (by first | exact nomark _ | rfl)) (pw_or (pt_cmpR op_gt (pe_callB call_len_str (by rfl) tx.n_len (by rfl) (pa_cons (pv 0) pa_nil)) pe_int (by first | exact nomark _ | rfl)) (pw_or (pt_cmpR (r := rIn K false) op_in_seq (pv 0) (C8.pe_gc (by rfl) tx.c_DOERS) (by first | exact nomark _ | rfl)) (pw_or1 (pt_cmpR (r := rIn K false) op_in_seq (pv 0) (C8.pe_gc (by rfl) tx.c_HEADS) (by first | exact nomark _ | rfl)))))).pt (pss_one (ps_ret pe_bl)) pss_nil) (pss_cons (ps_for (passes_of rfl) rfl (pi_str (pv 0)) (pg_name (i := 1) sc_is_name.nd rfl (by first | exact Or.inl rfl | exact Or.inr rfl)) (pss_one (ps_if (pt_cmpR op_notIn_sign (pv 1) (C8.pe_gc (by rfl) tx.c_LETTERS) (by first | exact nomark _ | rfl)) (pss_one (ps_ret pe_bl)) pss_nil))) (pss_one (ps_ret pe_bl)))), ?_⟩)
  obtain ⟨v_text, F, W, rfl, ni, hst, hw, ok, rt⟩ := spD_start N_is_name h
  generalize L2.start N_is_name vs = σ at hst ⊢
  have hw : W (m_is_name v_text) := hw
  replace ok := ok (List.replicate 2 none)
  have hst : Stt F [some (oD eS v_text), none] [] σ H := hst
  unfold m_is_name at hw
  refine q_seq ?_
  refine s_ifM hst hw ok (mt_or (mt_ok (et_test (ev_eqX (ev_var (i := 0) (by rfl)) ev_lit))) (mt_or (mt_guard fun g3 => mt_ok (et_test (ev_gt (ev_lenSx g3 (ev_var (i := 0) (by rfl))) ev_int))) (mt_or (mt_ok (et_test (ev_inTX (ev_var (i := 0) (by rfl)) (ev_globT tx.s_DOERS (tx.r_DOERS))))) (mt_ok (et_test (ev_inTX (ev_var (i := 0) (by rfl)) (ev_globT tx.s_HEADS (tx.r_HEADS)))))))) ?_ ?_
  · clear hst hw
    intro H hw hst
    exact s_retF (t := oD eB) hst hw ok (mv_ok (t := oD eB) (ev_bl)) fun a v H w s => rt _ _ _ _ _ _ w s
  · clear hst hw
    intro H hw hst
    refine s_next ?_
    refine q_nx ?_
    refine q_seq ?_
    refine s_forM (S := Unit) (β := Bool) (xs := fun c12 => c12) (enc := eC) (f := fun c12 y4 s5 => m_is_name_L1 y4) (Γs := fun s5 => [some (oD eS v_text), none]) (Γb := fun _ y4 s5 => [some (oD eS v_text), some (oD eC y4)]) (s0 := ()) hst hw ok (sr_strX (mv_ok (t := oD eS) ((ev_var (i := 0) (by rfl))))) (.same (.same .nil)) (fun _ _ _ => (tg_name (j := 1) (show 1 < 2 by decide) (ni _))) ?_ ?_
    · clear hst hw ok
      intro _ v_sign s5 W6 hN7p hB8p T9 σ H ok r10 hw hst hN7 hB8
      have rt11 := fun a v T Γ σ H' w s => rt a v T Γ σ H' (r10 a w) s
      have hw : W6 (m_is_name_L1 v_sign) := hw
      have hst : Stt F [some (oD eS v_text), some (oD eC v_sign)] T9 σ H := hst
      unfold m_is_name_L1 at hw
      refine s_ifM hst hw ok (mt_ok (et_test (ev_ninX (ev_var (i := 1) (by rfl)) ev_lit))) ?_ ?_
      · clear hst hw
        intro H hw hst
        exact s_retM (t := oD eB) hst hw ok (mv_ok (t := oD eB) (ev_bl)) fun a v H w s => rt11 _ _ _ _ _ _ w s
      · clear hst hw
        intro H hw hst
        refine s_next ?_
        exact hN7 () _ _ hw (hst.weak (.same (.drop .nil)))
    · clear hst hw
      intro s5 σ H hw hst
      have hw : W (m_is_name_J1 ) := hw
      have hst : Stt F [some (oD eS v_text), none] [] σ H := hst
      replace hst := hst.weak (Γ' := [none, none]) (.drop (.same .nil))
      unfold m_is_name_J1 at hw
      refine q_nx ?_
      exact s_retF (t := oD eB) hst hw ok (mv_ok (t := oD eB) (ev_bl)) fun a v H w s => rt _ _ _ _ _ _ w s
theorem bn_law_cell_at (tx : Tx K mg) : Binds K tx.d_law_cell_at ["script", "k"] [] := tx.F_law_cell_at.bindsN fun _ _ _ _ _ _ us hl => match us, hl with | [_, _], _ => rfl
theorem ok_law_cell_at (tx : Tx K mg) : FnOk P w K mg base (L2.CX P w) 1 tx.f_law_cell_at tx.d_law_cell_at ["script", "k"] (sp_law_cell_at K tx.Ce) := by
  refine tx.F_law_cell_at.ok sc_law_cell_at (fun vs H Q E h => spF_len (n := 2) rfl vs H Q E h) (fun cdv A outer s H vs Q E hr h => ⟨_, (pss_cons (ps_if (pt_cmpR op_lt (pv 1) (pe_callB (r := rLenK K) call_len_seq (by rfl) tx.n_len (by rfl) (pa_cons (pv 0) pa_nil)) (by first | exact nomark _ | rfl)) (pss_one (ps_ret (pe_ix (r := rIxL K) ix_list (pv 0) (pv 1) (fun _ _ => rfl)))) pss_nil) (pss_one (ps_ret pe_int))), ?_⟩)
  obtain ⟨x, F, W, rfl, ni, hst, hw, ok, rt⟩ := spD_start N_law_cell_at h
  obtain ⟨v_script, v_k⟩ := x
  generalize L2.start N_law_cell_at vs = σ at hst ⊢
  have hw : W (m_law_cell_at v_script v_k) := hw
  replace ok := ok (List.replicate 2 none)
  have hst : Stt F [some (oD eX v_script), some (oD eI v_k)] [] σ H := hst
  unfold m_law_cell_at at hw
  refine q_seq ?_
  refine s_ifM hst hw ok (mt_ok (et_test (ev_lt (ev_var (i := 1) (by rfl)) (ev_lenX (ev_var (i := 0) (by rfl)))))) ?_ ?_
  · clear hst hw
    intro H hw hst
    exact s_retF (t := oD eI) hst hw ok (mv_guard fun g13 => mv_ok (t := oD eI) ((ev_ixX g13 (ev_var (i := 0) (by rfl)) (ev_var (i := 1) (by rfl))))) fun a v H w s => rt _ _ _ _ _ _ w s
  · clear hst hw
    intro H hw hst
    refine s_next ?_
    refine q_nx ?_
    exact s_retF (t := oD eI) hst hw ok (mv_ok (t := oD eI) (ev_int)) fun a v H w s => rt _ _ _ _ _ _ w s
theorem bn_law_mixed (tx : Tx K mg) : Binds K tx.d_law_mixed ["cell", "k"] [] := tx.F_law_mixed.bindsN fun _ _ _ _ _ _ us hl => match us, hl with | [_, _], _ => rfl
theorem ok_law_mixed (tx : Tx K mg) : FnOk P w K mg base (L2.CX P w) 1 tx.f_law_mixed tx.d_law_mixed ["cell", "k"] (sp_law_mixed K tx.Ce) := by
  refine tx.F_law_mixed.ok sc_law_mixed (fun vs H Q E h => spF_len (n := 2) rfl vs H Q E h) (fun cdv A outer s H vs Q E hr h => ⟨_, (pss_cons (ps_set (i := 2) sc_law_mixed.nd rfl (by first | exact Or.inl rfl | exact Or.inr rfl) (pe_op op_add (pe_op op_add (pe_op op_mod (pv 0) pe_int) (pe_op op_mulW pe_int (pv 1))) pe_int)) (pss_one (ps_ret (pe_op op_fdivW (pe_op op_mod (pe_op op_mulW (pv 2) (pe_op op_add (pe_op op_add (pv 2) pe_int) (pv 1))) pe_int) pe_int)))), ?_⟩)
  obtain ⟨x, F, W, rfl, ni, hst, hw, ok, rt⟩ := spD_start N_law_mixed h
  obtain ⟨v_cell, v_k⟩ := x
  generalize L2.start N_law_mixed vs = σ at hst ⊢
  have hw : W (m_law_mixed v_cell v_k) := hw
  replace ok := ok (List.replicate 3 none)
  have hst : Stt F [some (oD eI v_cell), some (oD eI v_k), none] [] σ H := hst
  unfold m_law_mixed at hw
  refine q_seq ?_
  refine s_asgM (t := oD eI) hst hw ok (mv_guard fun g14 => mv_guard fun g15 => mv_ok (t := oD eI) ((ev_add (ev_add (ev_mod g14 (ev_var (i := 0) (by rfl)) ev_int) (ev_mulW g15 ev_int (ev_var (i := 1) (by rfl)))) ev_int))) (show 2 < 3 by decide) (ni _) ?_
  clear hst hw
  intro v_number σ H hw hst
  refine q_nx ?_
  exact s_retF (t := oD eI) hst hw ok (mv_guard fun g16 => mv_guard fun g17 => mv_guard fun g18 => mv_ok (t := oD eI) ((ev_divW g18 (ev_mod g17 (ev_mulW g16 (ev_var (i := 2) (by rfl)) (ev_add (ev_add (ev_var (i := 2) (by rfl)) ev_int) (ev_var (i := 1) (by rfl)))) ev_int) ev_int))) fun a v H w s => rt _ _ _ _ _ _ w s
theorem bn_law_letters (tx : Tx K mg) : Binds K tx.d_law_letters ["number", "many"] [] := tx.F_law_letters.bindsN fun _ _ _ _ _ _ us hl => match us, hl with | [_, _], _ => rfl
theorem ok_law_letters (tx : Tx K mg) : FnOk P w K mg base (L2.CX P w) 1 tx.f_law_letters tx.d_law_letters ["number", "many"] (sp_law_letters K tx.Ce) := by
  refine tx.F_law_letters.ok sc_law_letters (fun vs H Q E h => spF_len (n := 2) rfl vs H Q E h) (fun cdv A outer s H vs Q E hr h => ⟨_, (pss_cons (ps_set (i := 2) sc_law_letters.nd rfl (by first | exact Or.inl rfl | exact Or.inr rfl) pe_str) (pss_cons (ps_set (i := 3) sc_law_letters.nd rfl (by first | exact Or.inl rfl | exact Or.inr rfl) pe_str) (pss_cons (ps_for (passes_of rfl) rfl (pi_range1 (by rfl) tx.n_range (pa_cons (pv 1) pa_nil)) (pg_name (i := 4) sc_law_letters.nd rfl (by first | exact Or.inl rfl | exact Or.inr rfl)) (pss_cons (ps_set (i := 3) sc_law_letters.nd rfl (by first | exact Or.inl rfl | exact Or.inr rfl) (pe_op op_add_str (pv 3) (pe_ix ix_str (pv 2) (pe_op op_mod (pv 0) pe_int) (fun _ _ => rfl)))) (pss_one (ps_set (i := 0) sc_law_letters.nd rfl (by first | exact Or.inl rfl | exact Or.inr rfl) (pe_op op_add (pe_op op_fdivW (pv 0) pe_int) (pe_op op_mulW (pe_op op_mulW pe_int (pv 4)) (pv 4))))))) (pss_one (ps_ret (pv 3)))))), ?_⟩)
  obtain ⟨x, F, W, rfl, ni, hst, hw, ok, rt⟩ := spD_start N_law_letters h
  obtain ⟨v_number, v_many⟩ := x
  generalize L2.start N_law_letters vs = σ at hst ⊢
  have hw : W (m_law_letters v_number v_many) := hw
  replace ok := ok (List.replicate 5 none)
  have hst : Stt F [some (oD eI v_number), some (oD eI v_many), none, none, none] [] σ H := hst
  unfold m_law_letters at hw
  refine q_seq ?_
  refine s_asgM (t := oD eS) hst hw ok (mv_ok (t := oD eS) (ev_lit)) (show 2 < 5 by decide) (ni _) ?_
  clear hst hw
  intro v_letters σ H hw hst
  refine q_nx ?_
  refine q_seq ?_
  refine s_asgM (t := oD eS) hst hw ok (mv_ok (t := oD eS) (ev_lit)) (show 3 < 5 by decide) (ni _) ?_
  clear hst hw
  intro v_found σ H hw hst
  refine q_nx ?_
  refine q_seq ?_
  refine s_foldM (S := (Int × (List Nat))) (xs := fun c32 => (rng 0 c32)) (enc := eI) (f := fun c32 y19 s20 => m_law_letters_L1 s20.1 v_letters s20.2 y19) (Γs := fun s20 => [some (oD eI s20.1), none, some (oD eS v_letters), some (oD eS s20.2), none]) (Γb := fun _ y19 s20 => [some (oD eI s20.1), none, some (oD eS v_letters), some (oD eS s20.2), some (oD eI y19)]) (s0 := (v_number, v_found)) hst hw ok (sr_rng1 (mv_ok (t := oD eI) ((ev_var (i := 1) (by rfl))))) (.same (.drop (.same (.same (.same .nil))))) (fun _ _ _ => (tg_name (j := 4) (show 4 < 5 by decide) (ni _))) ?_ ?_
  · clear hst hw ok
    intro _ v_k s20 W21 hN22p T24 σ H ok hw hst hN22
    obtain ⟨v_number, v_found⟩ := s20
    have hw : W21 (m_law_letters_L1 v_number v_letters v_found v_k) := hw
    have hst : Stt F [some (oD eI v_number), none, some (oD eS v_letters), some (oD eS v_found), some (oD eI v_k)] T24 σ H := hst
    unfold m_law_letters_L1 at hw
    refine q_seq ?_
    refine s_asgM (t := oD eS) hst hw ok (mv_guard fun g26 => mv_guard fun g27 => mv_guard fun g28 => mv_ok (t := oD eS) ((ev_catX g28 (ev_var (i := 3) (by rfl)) (ev_ixSx g27 (ev_var (i := 2) (by rfl)) (ev_mod g26 (ev_var (i := 0) (by rfl)) ev_int))))) (show 3 < 5 by decide) (ni _) ?_
    clear hst hw
    intro v_found σ H hw hst
    refine q_nx ?_
    refine s_asgM (t := oD eI) hst hw ok (mv_guard fun g29 => mv_guard fun g30 => mv_guard fun g31 => mv_ok (t := oD eI) ((ev_add (ev_divW g29 (ev_var (i := 0) (by rfl)) ev_int) (ev_mulW g31 (ev_mulW g30 ev_int (ev_var (i := 4) (by rfl))) (ev_var (i := 4) (by rfl)))))) (show 0 < 5 by decide) (ni _) ?_
    clear hst hw
    intro v_number σ H hw hst
    exact hN22 (v_number, v_found) _ _ hw (hst.weak (.same (.same (.same (.same (.drop .nil))))))
  · clear hst hw
    intro s20 σ H hw hst
    obtain ⟨v_number, v_found⟩ := s20
    have hw : W (m_law_letters_J1 v_found) := hw
    have hst : Stt F [some (oD eI v_number), none, some (oD eS v_letters), some (oD eS v_found), none] [] σ H := hst
    replace hst := hst.weak (Γ' := [none, none, none, some (oD eS v_found), none]) (.drop (.same (.drop (.same (.same .nil)))))
    unfold m_law_letters_J1 at hw
    refine q_nx ?_
    exact s_retF (t := oD eS) hst hw ok (mv_ok (t := oD eS) ((ev_var (i := 3) (by rfl)))) fun a v H w s => rt _ _ _ _ _ _ w s
theorem bn_law_free (tx : Tx K mg) : Binds K tx.d_law_free ["name"] [] := tx.F_law_free.bindsN fun _ _ _ _ _ _ us hl => match us, hl with | [_], _ => rfl
theorem ok_law_free (tx : Tx K mg) : FnOk P w K mg base (L2.CX P w) 1 tx.f_law_free tx.d_law_free ["name"] (sp_law_free K tx.Ce) := by
  refine tx.F_law_free.ok sc_law_free (fun vs H Q E h => spF_len (n := 1) rfl vs H Q E h) (fun cdv A outer s H vs Q E hr h => ⟨_, (pss_cons (ps_if (pt_cmpR (r := rIn K false) op_in_seq (pv 0) (pe_tup (pa_cons pe_str (pa_cons pe_str (pa_cons pe_str (pa_cons pe_str (pa_cons pe_str (pa_cons pe_str (pa_cons pe_str (pa_cons pe_str (pa_cons pe_str pa_nil)))))))))) (by first | exact nomark _ | rfl)) (pss_one (ps_ret (pe_op op_add_str (pv 0) pe_str))) pss_nil) (pss_cons (ps_if (pt_cmpR (r := rIn K false) op_in_seq (pv 0) (pe_tup (pa_cons pe_str (pa_cons pe_str (pa_cons pe_str (pa_cons pe_str (pa_cons pe_str (pa_cons pe_str (pa_cons pe_str pa_nil)))))))) (by first | exact nomark _ | rfl)) (pss_one (ps_ret (pe_op op_add_str (pv 0) pe_str))) pss_nil) (pss_one (ps_ret (pv 0))))), ?_⟩)
  obtain ⟨v_name, F, W, rfl, ni, hst, hw, ok, rt⟩ := spD_start N_law_free h
  generalize L2.start N_law_free vs = σ at hst ⊢
  have hw : W (m_law_free v_name) := hw
  replace ok := ok (List.replicate 1 none)
  have hst : Stt F [some (oD eS v_name)] [] σ H := hst
  unfold m_law_free at hw
  refine q_seq ?_
  refine s_ifM hst hw ok (mt_ok (et_test (ev_inTX (ev_var (i := 0) (by rfl)) (ev_tup (ea_cons ev_lit (ea_cons ev_lit (ea_cons ev_lit (ea_cons ev_lit (ea_cons ev_lit (ea_cons ev_lit (ea_cons ev_lit (ea_cons ev_lit (ea_cons ev_lit ea_nil))))))))) (show 9 ≤ 1000 by decide))))) ?_ ?_
  · clear hst hw
    intro H hw hst
    exact s_retF (t := oD eS) hst hw ok (mv_guard fun g33 => mv_ok (t := oD eS) ((ev_catX g33 (ev_var (i := 0) (by rfl)) ev_lit))) fun a v H w s => rt _ _ _ _ _ _ w s
  · clear hst hw
    intro H hw hst
    refine s_next ?_
    refine q_nx ?_
    refine q_seq ?_
    refine s_ifM hst hw ok (mt_ok (et_test (ev_inTX (ev_var (i := 0) (by rfl)) (ev_tup (ea_cons ev_lit (ea_cons ev_lit (ea_cons ev_lit (ea_cons ev_lit (ea_cons ev_lit (ea_cons ev_lit (ea_cons ev_lit ea_nil))))))) (show 7 ≤ 1000 by decide))))) ?_ ?_
    · clear hst hw
      intro H hw hst
      exact s_retF (t := oD eS) hst hw ok (mv_guard fun g34 => mv_ok (t := oD eS) ((ev_catX g34 (ev_var (i := 0) (by rfl)) ev_lit))) fun a v H w s => rt _ _ _ _ _ _ w s
    · clear hst hw
      intro H hw hst
      refine s_next ?_
      refine q_nx ?_
      exact s_retF (t := oD eS) hst hw ok (mv_ok (t := oD eS) ((ev_var (i := 0) (by rfl)))) fun a v H w s => rt _ _ _ _ _ _ w s
theorem bn_law_figures (tx : Tx K mg) : Binds K tx.d_law_figures ["worth"] [] := tx.F_law_figures.bindsN fun _ _ _ _ _ _ us hl => match us, hl with | [_], _ => rfl
theorem ok_law_figures (tx : Tx K mg) : FnOk P w K mg base (L2.CX P w) 1 tx.f_law_figures tx.d_law_figures ["worth"] (sp_law_figures K tx.Ce) := by
  refine tx.F_law_figures.ok sc_law_figures (fun vs H Q E h => spF_len (n := 1) rfl vs H Q E h) (fun cdv A outer s H vs Q E hr h => ⟨_, (pss_cons (ps_set (i := 1) sc_law_figures.nd rfl (by first | exact Or.inl rfl | exact Or.inr rfl) (pe_callB call_abs (by rfl) tx.n_abs (by rfl) (pa_cons (pv 0) pa_nil))) (pss_cons (ps_set (i := 2) sc_law_figures.nd rfl (by first | exact Or.inl rfl | exact Or.inr rfl) (pe_ix ix_str pe_str (pe_op op_mod (pv 1) pe_int) (fun _ _ => rfl))) (pss_cons (ps_while (passes_of rfl) (pt_cmpR op_gt (pv 1) pe_int (by first | exact nomark _ | rfl)) (pss_cons (ps_set (i := 1) sc_law_figures.nd rfl (by first | exact Or.inl rfl | exact Or.inr rfl) (pe_op op_fdivW (pv 1) pe_int)) (pss_one (ps_set (i := 2) sc_law_figures.nd rfl (by first | exact Or.inl rfl | exact Or.inr rfl) (pe_op op_add_str (pe_ix ix_str pe_str (pe_op op_mod (pv 1) pe_int) (fun _ _ => rfl)) (pv 2)))))) (pss_cons (ps_if (pt_cmpR op_lt (pv 0) pe_int (by first | exact nomark _ | rfl)) (pss_one (ps_ret (pe_op op_add_str pe_str (pv 2)))) pss_nil) (pss_one (ps_ret (pv 2))))))), ?_⟩)
  obtain ⟨v_worth, F, W, rfl, ni, hst, hw, ok, rt⟩ := spD_start N_law_figures h
  generalize L2.start N_law_figures vs = σ at hst ⊢
  have hw : W (m_law_figures v_worth) := hw
  replace ok := ok (List.replicate 3 none)
  have hst : Stt F [some (oD eI v_worth), none, none] [] σ H := hst
  unfold m_law_figures at hw
  refine q_seq ?_
  refine s_asgM (t := oD eI) hst hw ok (mv_ok (t := oD eI) ((ev_abs (ev_var (i := 0) (by rfl))))) (show 1 < 3 by decide) (ni _) ?_
  clear hst hw
  intro v_rest σ H hw hst
  refine q_nx ?_
  refine q_seq ?_
  refine s_asgM (t := oD eS) hst hw ok (mv_guard fun g35 => mv_guard fun g36 => mv_ok (t := oD eS) ((ev_ixSx g36 ev_lit (ev_mod g35 (ev_var (i := 1) (by rfl)) ev_int)))) (show 2 < 3 by decide) (ni _) ?_
  clear hst hw
  intro v_found σ H hw hst
  refine q_nx ?_
  refine q_seq ?_
  refine s_whileM (S := (Int × (List Nat))) (β := (List Nat)) (Γs := fun s37 => [some (oD eI v_worth), some (oD eI s37.1), some (oD eS s37.2)]) (s0 := (v_rest, v_found)) hst hw ok (.same (.same (.same .nil))) ?_ ?_ ?_
  · clear hst hw
    intro s37
    obtain ⟨v_rest, v_found⟩ := s37
    show MT F _ _ _ [some (oD eI v_worth), some (oD eI v_rest), some (oD eS v_found)] (m_law_figures_Q1 v_rest)
    unfold m_law_figures_Q1
    exact (mt_ok (et_test (ev_gt (ev_var (i := 1) (by rfl)) ev_int)))
  · clear hst hw ok
    intro s37 W38 hN39p hB40p σ H ok r41 hw hst hN39 hB40
    obtain ⟨v_rest, v_found⟩ := s37
    have rt42 := fun a v T Γ σ H' w s => rt a v T Γ σ H' (r41 a w) s
    have hw : W38 (m_law_figures_L1 v_rest v_found) := hw
    have hst : Stt F [some (oD eI v_worth), some (oD eI v_rest), some (oD eS v_found)] [] σ H := hst
    unfold m_law_figures_L1 at hw
    refine q_seq ?_
    refine s_asgM (t := oD eI) hst hw ok (mv_guard fun g43 => mv_ok (t := oD eI) ((ev_divW g43 (ev_var (i := 1) (by rfl)) ev_int))) (show 1 < 3 by decide) (ni _) ?_
    clear hst hw
    intro v_rest σ H hw hst
    refine q_nx ?_
    refine s_asgM (t := oD eS) hst hw ok (mv_guard fun g44 => mv_guard fun g45 => mv_guard fun g46 => mv_ok (t := oD eS) ((ev_catX g46 (ev_ixSx g45 ev_lit (ev_mod g44 (ev_var (i := 1) (by rfl)) ev_int)) (ev_var (i := 2) (by rfl))))) (show 2 < 3 by decide) (ni _) ?_
    clear hst hw
    intro v_found σ H hw hst
    exact hN39 (v_rest, v_found) _ _ hw (hst.weak (.same (.same (.same .nil))))
  · clear hst hw
    intro s37 σ H hw hst
    obtain ⟨v_rest, v_found⟩ := s37
    have hw : W (m_law_figures_J1 v_worth v_found) := hw
    have hst : Stt F [some (oD eI v_worth), some (oD eI v_rest), some (oD eS v_found)] [] σ H := hst
    replace hst := hst.weak (Γ' := [some (oD eI v_worth), none, some (oD eS v_found)]) (.same (.drop (.same .nil)))
    unfold m_law_figures_J1 at hw
    refine q_nx ?_
    refine q_seq ?_
    refine s_ifM hst hw ok (mt_ok (et_test (ev_lt (ev_var (i := 0) (by rfl)) ev_int))) ?_ ?_
    · clear hst hw
      intro H hw hst
      exact s_retF (t := oD eS) hst hw ok (mv_guard fun g47 => mv_ok (t := oD eS) ((ev_catX g47 ev_lit (ev_var (i := 2) (by rfl))))) fun a v H w s => rt _ _ _ _ _ _ w s
    · clear hst hw
      intro H hw hst
      refine s_next ?_
      refine q_nx ?_
      exact s_retF (t := oD eS) hst hw ok (mv_ok (t := oD eS) ((ev_var (i := 2) (by rfl)))) fun a v H w s => rt _ _ _ _ _ _ w s
theorem bn_law_joined (tx : Tx K mg) : Binds K tx.d_law_joined ["some", "number"] [] := tx.F_law_joined.bindsN fun _ _ _ _ _ _ us hl => match us, hl with | [_, _], _ => rfl
theorem ok_law_joined (tx : Tx K mg) : FnOk P w K mg base (L2.CX P w) 1 tx.f_law_joined tx.d_law_joined ["some", "number"] (sp_law_joined K tx.Ce) := by
  refine tx.F_law_joined.ok sc_law_joined (fun vs H Q E h => spF_len (n := 2) rfl vs H Q E h) (fun cdv A outer s H vs Q E hr h => ⟨_, (pss_cons (ps_set (i := 2) sc_law_joined.nd rfl (by first | exact Or.inl rfl | exact Or.inr rfl) (pe_ix (r := rIxL K) ix_list (pe_lst (pa_cons pe_str (pa_cons pe_str (pa_cons pe_str (pa_cons pe_str (pa_cons pe_str (pa_cons pe_str (pa_cons pe_str pa_nil)))))))) (pe_op op_mod (pv 1) pe_int) (fun _ _ => rfl))) (pss_cons (ps_set (i := 3) sc_law_joined.nd rfl (by first | exact Or.inl rfl | exact Or.inr rfl) (pe_ix (r := rIxL K) ix_list (pv 0) (pe_un un_neg pe_int) (fun _ _ => rfl))) (pss_cons (ps_set (i := 4) sc_law_joined.nd rfl (by first | exact Or.inl rfl | exact Or.inr rfl) (pe_ix (r := rIxL K) ix_list (pv 0) (pe_un un_neg pe_int) (fun _ _ => rfl))) (pss_one (ps_ret (pe_op op_cat (pe_slice (r := rSlL K) sl_list (pv 0) po_none (po_some (pe_un un_neg pe_int))) (pe_lst (pa_cons (pe_tup (pa_cons (pe_op op_cat (pe_op op_cat (pe_lst (pa_cons (pv 2) pa_nil)) (pe_ix (r := rIxT K) ix_tup (pv 3) pe_int (fun _ _ => rfl))) (pe_ix (r := rIxT K) ix_tup (pv 4) pe_int (fun _ _ => rfl))) (pa_cons (pe_op (r := rCatA K) op_catA (pe_op (r := rCatA K) op_catA (pe_ix (r := rIxT K) ix_tup (pv 3) pe_int (fun _ _ => rfl)) (pe_ix (r := rIxT K) ix_tup (pv 4) pe_int (fun _ _ => rfl))) (pe_tup (pa_cons (pv 2) pa_nil))) pa_nil))) pa_nil)))))))), ?_⟩)
  obtain ⟨x, F, W, rfl, ni, hst, hw, ok, rt⟩ := spD_start N_law_joined h
  obtain ⟨v_some, v_number⟩ := x
  generalize L2.start N_law_joined vs = σ at hst ⊢
  have hw : W (m_law_joined v_some v_number) := hw
  replace ok := ok (List.replicate 5 none)
  have hst : Stt F [some (oD (eL (e2 (eL eS) (eU eA))) v_some), some (oD eI v_number), none, none, none] [] σ H := hst
  unfold m_law_joined at hw
  refine q_seq ?_
  refine s_asgM (t := oD eS) hst hw ok (mv_guard fun g48 => mv_guard fun g49 => mv_ok (t := oD eS) ((ev_ixL (enc := eS) g49 (el_own (ev_lst (ea_cons ev_lit (ea_cons ev_lit (ea_cons ev_lit (ea_cons ev_lit (ea_cons ev_lit (ea_cons ev_lit (ea_cons ev_lit ea_nil))))))) (show 7 ≤ 1000 by decide))) (ev_mod g48 (ev_var (i := 1) (by rfl)) ev_int)))) (show 2 < 5 by decide) (ni _) ?_
  clear hst hw
  intro v_word σ H hw hst
  refine q_nx ?_
  refine q_seq ?_
  refine s_asgM (t := oD (e2 (eL eS) (eU eA))) hst hw ok (mv_guard fun g50 => mv_ok (t := oD (e2 (eL eS) (eU eA))) ((ev_ixL (enc := (e2 (eL eS) (eU eA))) g50 (el_dat (ev_var (i := 0) (by rfl))) (ev_neg ev_int)))) (show 3 < 5 by decide) (ni _) ?_
  clear hst hw
  intro v_first σ H hw hst
  refine q_nx ?_
  refine q_seq ?_
  refine s_asgM (t := oD (e2 (eL eS) (eU eA))) hst hw ok (mv_guard fun g51 => mv_ok (t := oD (e2 (eL eS) (eU eA))) ((ev_ixL (enc := (e2 (eL eS) (eU eA))) g51 (el_dat (ev_var (i := 0) (by rfl))) (ev_neg ev_int)))) (show 4 < 5 by decide) (ni _) ?_
  clear hst hw
  intro v_second σ H hw hst
  refine q_nx ?_
  exact s_retF (t := oD (eL (e2 (eL eS) (eU eA)))) hst hw ok (mv_guard fun g52 => mv_guard fun g53 => mv_guard fun g54 => mv_guard fun g55 => mv_guard fun g56 => mv_ok (t := oD (eL (e2 (eL eS) (eU eA)))) ((ev_frz (ev_catL (enc := (e2 (eL eS) (eU eA))) g56 (el_own (ev_slLE (enc := (e2 (eL eS) (eU eA))) (el_dat (ev_var (i := 0) (by rfl))) eo_no (eo_some (ev_neg ev_int)))) (el_own (ev_lst (ea_cons (ev_tup (ea_cons (ev_frz (ev_catL (enc := eS) g53 (el_own (ev_catL (enc := eS) g52 (el_own (ev_lst (ea_cons (ev_var (i := 2) (by rfl)) ea_nil) (show 1 ≤ 1000 by decide))) (el_dat (ev_ixC (ds := [(eL eS) v_first.1, (eU eA) v_first.2]) (n := 0) (by rfl) (ev_var (i := 3) (by rfl)) ev_int)))) (el_dat (ev_ixC (ds := [(eL eS) v_second.1, (eU eA) v_second.2]) (n := 0) (by rfl) (ev_var (i := 4) (by rfl)) ev_int)))) (ea_cons (ev_catU (enc := eA) g55 (ev_catU (enc := eA) g54 (ev_ixC (ds := [(eL eS) v_first.1, (eU eA) v_first.2]) (n := 1) (by rfl) (ev_var (i := 3) (by rfl)) ev_int) (ev_ixC (ds := [(eL eS) v_second.1, (eU eA) v_second.2]) (n := 1) (by rfl) (ev_var (i := 4) (by rfl)) ev_int)) (ev_tup (ea_cons (ev_var (i := 2) (by rfl)) ea_nil) (show 1 ≤ 1000 by decide))) ea_nil)) (show 2 ≤ 1000 by decide)) ea_nil) (show 1 ≤ 1000 by decide))))))) fun a v H w s => rt _ _ _ _ _ _ w s
theorem bn_law_alike (tx : Tx K mg) : Binds K tx.d_law_alike ["found", "due"] [] := tx.F_law_alike.bindsN fun _ _ _ _ _ _ us hl => match us, hl with | [_, _], _ => rfl
theorem ok_law_alike (tx : Tx K mg) : FnOk P w K mg base (L2.CX P w) 1 tx.f_law_alike tx.d_law_alike ["found", "due"] (sp_law_alike K tx.Ce) := by
  refine tx.F_law_alike.ok sc_law_alike (fun vs H Q E h => spF_len (n := 2) rfl vs H Q E h) (fun cdv A outer s H vs Q E hr h => ⟨_, (pss_cons (ps_if (pw_or (pt_not (pt_val (pe_callB (r := rIsi K) call_isi (by rfl) tx.n_isinstance (by rfl) (pa_cons (pv 0) (pa_cons (pe_bltn (v := .ty "tuple") (by rfl) tx.n_tuple (by rfl) rfl) pa_nil))))) (pw_or1 (pt_cmpR op_ne (pe_callB (r := rLenK K) call_len_seq (by rfl) tx.n_len (by rfl) (pa_cons (pv 0) pa_nil)) (pe_callB (r := rLenK K) call_len_seq (by rfl) tx.n_len (by rfl) (pa_cons (pv 1) pa_nil)) (by first | exact nomark _ | rfl)))).pt (pss_one (ps_ret pe_bl)) pss_nil) (pss_cons (ps_for (passes_of rfl) rfl (RZ.pi_zipA (by rfl) tx.n_zip (pa_cons (pv 0) (pa_cons (pv 1) pa_nil))) (pg_tup rfl (pgs_cons (pg_name (i := 2) sc_law_alike.nd rfl (by first | exact Or.inl rfl | exact Or.inr rfl)) (pgs_cons (pg_name (i := 3) sc_law_alike.nd rfl (by first | exact Or.inl rfl | exact Or.inr rfl)) pgs_nil))) (pss_one (ps_if (pw_or (pt_val (pe_callB (r := rIsi K) call_isi (by rfl) tx.n_isinstance (by rfl) (pa_cons (pv 2) (pa_cons (pe_bltn (v := .ty "bool") (by rfl) tx.n_bool (by rfl) rfl) pa_nil)))) (pw_or (pt_cmpR op_ne (pe_callB (r := rIsi K) call_isi (by rfl) tx.n_isinstance (by rfl) (pa_cons (pv 2) (pa_cons (pe_bltn (v := .ty "int") (by rfl) tx.n_int (by rfl) rfl) pa_nil))) (pe_callB (r := rIsi K) call_isi (by rfl) tx.n_isinstance (by rfl) (pa_cons (pv 3) (pa_cons (pe_bltn (v := .ty "int") (by rfl) tx.n_int (by rfl) rfl) pa_nil))) (by first | exact nomark _ | rfl)) (pw_or1 (pt_cmpR (r := rNeD K) (op_neD hr.units) (pv 2) (pv 3) (by first | exact nomark _ | rfl))))).pt (pss_one (ps_ret pe_bl)) pss_nil))) (pss_one (ps_ret pe_bl)))), ?_⟩)
  obtain ⟨x, F, W, rfl, ni, hst, hw, ok, rt⟩ := spD_start N_law_alike h
  obtain ⟨v_found, v_due⟩ := x
  generalize L2.start N_law_alike vs = σ at hst ⊢
  have hw : W (m_law_alike v_found v_due) := hw
  replace ok := ok (List.replicate 4 none)
  have hst : Stt F [some (oD (eU eA) v_found), some (oD (eU eA) v_due), none, none] [] σ H := hst
  unfold m_law_alike at hw
  refine q_seq ?_
  refine s_ifM hst hw ok (mt_ok (et_or (et_not (et_B (ev_isi (d := (eU eA) v_found) (show kitB "tuple" "tuple" = some true by decide +kernel) (ev_var (i := 0) (by rfl))))) (et_test (ev_neI (ev_lenUE (enc := eA) (ev_var (i := 0) (by rfl))) (ev_lenUE (enc := eA) (ev_var (i := 1) (by rfl))))))) ?_ ?_
  · clear hst hw
    intro H hw hst
    exact s_retF (t := oD eB) hst hw ok (mv_ok (t := oD eB) (ev_bl)) fun a v H w s => rt _ _ _ _ _ _ w s
  · clear hst hw
    intro H hw hst
    refine s_next ?_
    refine q_nx ?_
    refine q_seq ?_
    refine s_forM (S := Unit) (β := Bool) (xs := fun c67 => (zipP (α := Dt) (β := Dt) c67)) (enc := (e2 eA eA)) (f := fun c67 y58 s59 => m_law_alike_L1 y58.1 y58.2) (Γs := fun s59 => [some (oD (eU eA) v_found), some (oD (eU eA) v_due), none, none]) (Γb := fun _ y58 s59 => [some (oD (eU eA) v_found), some (oD (eU eA) v_due), some (oD eA y58.1), some (oD eA y58.2)]) (s0 := ()) hst hw ok (sr_zipT (xs := fun (p : ((List Dt) × (List Dt))) => p.1) (ys := fun (p : ((List Dt) × (List Dt))) => p.2) (e1 := eA) (e2' := eA) (ma_map (f := fun (x57 : Unit) => ((v_found, v_due) : ((List Dt) × (List Dt)))) (ma_consP (ev_var (i := 0) (by rfl)) (ma_consP (ev_var (i := 1) (by rfl)) (ma_ok (ds := fun _ => []) ea_nil))) fun _ => rfl)) (.same (.same (.same (.same .nil)))) (fun _ _ _ => (tg_tup rfl (tgs_cons (show 2 < 4 by decide) (ni _) (tgs_cons (show 3 < 4 by decide) (ni _) tgs_nil)))) ?_ ?_
    · clear hst hw ok
      intro _ y58 s59 W60 hN61p hB62p T63 σ H ok r64 hw hst hN61 hB62
      obtain ⟨v_one, v_other⟩ := y58
      have rt65 := fun a v T Γ σ H' w s => rt a v T Γ σ H' (r64 a w) s
      have hw : W60 (m_law_alike_L1 v_one v_other) := hw
      have hst : Stt F [some (oD (eU eA) v_found), some (oD (eU eA) v_due), some (oD eA v_one), some (oD eA v_other)] T63 σ H := hst
      unfold m_law_alike_L1 at hw
      refine s_ifM hst hw ok (mt_or (mt_ok (et_B (ev_isA (by decide +kernel) (ev_var (i := 2) (by rfl))))) (mt_or (mt_ok (et_test (ev_neB (ev_isA (by decide +kernel) (ev_var (i := 2) (by rfl))) (ev_isA (by decide +kernel) (ev_var (i := 3) (by rfl)))))) (mt_guard fun g66 => mt_ok (et_test (ev_neDD g66 (eq_d (ev_var (i := 2) (by rfl))) (eq_d (ev_var (i := 3) (by rfl)))))))) ?_ ?_
      · clear hst hw
        intro H hw hst
        exact s_retM (t := oD eB) hst hw ok (mv_ok (t := oD eB) (ev_bl)) fun a v H w s => rt65 _ _ _ _ _ _ w s
      · clear hst hw
        intro H hw hst
        refine s_next ?_
        exact hN61 () _ _ hw (hst.weak (.same (.same (.drop (.drop .nil)))))
    · clear hst hw
      intro s59 σ H hw hst
      have hw : W (m_law_alike_J1 ) := hw
      have hst : Stt F [some (oD (eU eA) v_found), some (oD (eU eA) v_due), none, none] [] σ H := hst
      replace hst := hst.weak (Γ' := [none, none, none, none]) (.drop (.drop (.same (.same .nil))))
      unfold m_law_alike_J1 at hw
      refine q_nx ?_
      exact s_retF (t := oD eB) hst hw ok (mv_ok (t := oD eB) (ev_bl)) fun a v H w s => rt _ _ _ _ _ _ w s
theorem bn_law_around (tx : Tx K mg) : Binds K tx.d_law_around ["number", "names"] [] := tx.F_law_around.bindsN fun _ _ _ _ _ _ us hl => match us, hl with | [_, _], _ => rfl
theorem ok_law_around (tx : Tx K mg) : FnOk P w K mg base (L2.CX P w) 1 tx.f_law_around tx.d_law_around ["number", "names"] (sp_law_around K tx.Ce) := by
  refine tx.F_law_around.ok sc_law_around (fun vs H Q E h => spF_len (n := 2) rfl vs H Q E h) (fun cdv A outer s H vs Q E hr h => ⟨_, (pss_cons (ps_set (i := 2) sc_law_around.nd rfl (by first | exact Or.inl rfl | exact Or.inr rfl) (pe_lst (pa_cons pe_str (pa_cons pe_str (pa_cons pe_str (pa_cons pe_str (pa_cons pe_str (pa_cons pe_str (pa_cons (pe_ix (r := rIxL K) ix_list (pv 1) pe_int (fun _ _ => rfl)) (pa_cons (pe_ix (r := rIxL K) ix_list (pv 1) pe_int (fun _ _ => rfl)) (pa_cons pe_str (pa_cons pe_str (pa_cons pe_str pa_nil))))))))))))) (pss_one (ps_ret (pe_lc (own := [("k", 3)]) (g := gName 3) (tt := tYes) rfl sc_law_around.nd (pi_range1 (by rfl) tx.n_range (pa_cons (pe_op op_mod (pe_op op_fdivW (pv 0) pe_int) pe_int) pa_nil)) (blkOk_by (N := N_law_around) (sc := defScope s_law_around) (by decide +kernel)) (fun _ _ _ _ _ => (pg_name (i := 3) sc_law_around.nd rfl (by first | exact Or.inl rfl | exact Or.inr rfl))) (fun _ _ _ _ _ => pts_nil) (fun _ _ _ _ _ => (pe_ix (r := rIxL K) ix_list (pv 2) (pe_op op_mod (pe_op op_fdivW (pv 0) (pe_ix (r := rIxL K) ix_list (pe_lst (pa_cons pe_int (pa_cons pe_int (pa_cons pe_int (pa_cons pe_int pa_nil))))) (pv 3) (fun _ _ => rfl))) pe_int) (fun _ _ => rfl))))))), ?_⟩)
  obtain ⟨x, F, W, rfl, ni, hst, hw, ok, rt⟩ := spD_start N_law_around h
  obtain ⟨v_number, v_names⟩ := x
  generalize L2.start N_law_around vs = σ at hst ⊢
  have hw : W (m_law_around v_number v_names) := hw
  replace ok := ok (List.replicate 4 none)
  have hst : Stt F [some (oD eI v_number), some (oD (eL eS) v_names), none, none] [] σ H := hst
  unfold m_law_around at hw
  refine q_seq ?_
  refine s_asgM (t := oD (eL eS)) hst hw ok (mv_guard fun g68 => mv_guard fun g69 => mv_ok (t := oD (eL eS)) ((ev_frz (ev_lst (ea_cons ev_lit (ea_cons ev_lit (ea_cons ev_lit (ea_cons ev_lit (ea_cons ev_lit (ea_cons ev_lit (ea_cons (ev_ixL (enc := eS) g68 (el_dat (ev_var (i := 1) (by rfl))) ev_int) (ea_cons (ev_ixL (enc := eS) g69 (el_dat (ev_var (i := 1) (by rfl))) ev_int) (ea_cons ev_lit (ea_cons ev_lit (ea_cons ev_lit ea_nil))))))))))) (show 11 ≤ 1000 by decide))))) (show 2 < 4 by decide) (ni _) ?_
  clear hst hw
  intro v_some σ H hw hst
  refine q_nx ?_
  exact s_retF (t := oD (eL eS)) hst hw ok (mv_frz (mv_lc (Γx := List.replicate 4 none) (Γb := fun _ x => [some (oD eI v_number), some (oD (eL eS) v_names), some (oD (eL eS) v_some), some (oD eI x)]) (xs := fun c => (rng 0 c)) (enc := eI) (encB := eS) (sr_rng1 (mv_guard fun g70 => mv_guard fun g71 => mv_ok (t := oD eI) ((ev_mod g71 (ev_divW g70 (ev_var (i := 0) (by rfl)) ev_int) ev_int)))) ⟨⟨by rfl, ni _⟩, True.intro⟩ (fun _ _ => (tgw_name (j := 3) (show 3 < 4 by decide) (ni _) (by decide))) (fun _ _ => (.same (.same (.same (.drop .nil))))) (fun _ v_k => by
          show MV F _ _ _ _ (m_law_around_C1 v_number v_some v_k) _
          unfold m_law_around_C1
          exact (mv_guard fun g73 => mv_guard fun g74 => mv_guard fun g75 => mv_guard fun g76 => mv_ok (t := oD eS) ((ev_ixL (enc := eS) g76 (el_dat (ev_var (i := 2) (by rfl))) (ev_mod g75 (ev_divW g74 (ev_var (i := 0) (by rfl)) (ev_ixL (enc := eI) g73 (el_own (ev_lst (ea_cons ev_int (ea_cons ev_int (ea_cons ev_int (ea_cons ev_int ea_nil)))) (show 4 ≤ 1000 by decide))) (ev_var (i := 3) (by rfl)))) ev_int))))))) fun a v H w s => rt _ _ _ _ _ _ w s
theorem bn_worth_in (tx : Tx K mg) : Binds K tx.d_worth_in ["text"] [] := tx.F_worth_in.bindsN fun _ _ _ _ _ _ us hl => match us, hl with | [_], _ => rfl
theorem ok_worth_in (tx : Tx K mg) : FnOk P w K mg base (L2.CX P w) 2 tx.f_worth_in tx.d_worth_in ["text"] (sp_worth_in K tx.Ce) := by
  refine tx.F_worth_in.ok sc_worth_in (fun vs H Q E h => spF_len (n := 1) rfl vs H Q E h) (fun cdv A outer s H vs Q E hr h => ⟨_, (pss_cons (ps_set (i := 1) sc_worth_in.nd rfl (by first | exact Or.inl rfl | exact Or.inr rfl) (pv 0)) (pss_cons (ps_if (pt_cmpR op_eq (pe_slice sl_str (pv 0) po_none (po_some pe_int)) pe_str (by first | exact nomark _ | rfl)) (pss_one (ps_set (i := 1) sc_worth_in.nd rfl (by first | exact Or.inl rfl | exact Or.inr rfl) (pe_slice sl_str (pv 0) (po_some pe_int) po_none))) pss_nil) (pss_cons (ps_if (pw_or (pt_cmpR op_eq (pv 1) pe_str (by first | exact nomark _ | rfl)) (pw_or1 (pt_cmpR op_gt (pe_callB call_len_str (by rfl) tx.n_len (by rfl) (pa_cons (pv 1) pa_nil)) pe_int (by first | exact nomark _ | rfl)))).pt (pss_one (ps_raise rfl (takes_of rfl rfl rfl rfl) (pmk_own PySem.F.excBase_ValueError tx.q_NoNumber tx.x_NoNumber tx.k_NoNumber (raises_own tx.b_NoNumber tx.t_NoNumber) (by rfl)))) pss_nil) (pss_cons (ps_for (passes_of rfl) rfl (pi_str (pv 1)) (pg_name (i := 2) sc_worth_in.nd rfl (by first | exact Or.inl rfl | exact Or.inr rfl)) (pss_one (ps_if (pt_cmpR op_notIn_sign (pv 2) (C8.pe_gc (by rfl) tx.c_FIGURES) (by first | exact nomark _ | rfl)) (pss_one (ps_raise rfl (takes_of rfl rfl rfl rfl) (pmk_own PySem.F.excBase_ValueError tx.q_NoNumber tx.x_NoNumber tx.k_NoNumber (raises_own tx.b_NoNumber tx.t_NoNumber) (by rfl)))) pss_nil))) (pss_cons (ps_if (pw_and (pt_cmpR op_eq (pe_ix ix_str (pv 1) pe_int (fun _ _ => rfl)) pe_str (by first | exact nomark _ | rfl)) (pw_and1 (pt_cmpR op_ne (pv 0) pe_str (by first | exact nomark _ | rfl)))).pt (pss_one (ps_raise rfl (takes_of rfl rfl rfl rfl) (pmk_own PySem.F.excBase_ValueError tx.q_NoNumber tx.x_NoNumber tx.k_NoNumber (raises_own tx.b_NoNumber tx.t_NoNumber) (by rfl)))) pss_nil) (pss_cons (ps_set (i := 3) sc_worth_in.nd rfl (by first | exact Or.inl rfl | exact Or.inr rfl) (pe_callTy call_int_str (by rfl) tx.n_int (by rfl) (pa_cons (pv 0) pa_nil))) (pss_cons (ps_if (pt_not (pt_val (pe_callS (E := WE (fun cls d _ H => E cls d H)) (ok_is_worth tx) (hr.mono (by decide)) (by rfl) tx.g_is_worth tx.F_is_worth.kp (bn_is_worth tx) (fun σ => passAt (takes_of rfl rfl rfl rfl) σ) (pa_cons (pv 3) pa_nil)))) (pss_one (ps_raise rfl (takes_of rfl rfl rfl rfl) (pmk_own PySem.F.excBase_ValueError tx.q_NoNumber tx.x_NoNumber tx.k_NoNumber (raises_own tx.b_NoNumber tx.t_NoNumber) (by rfl)))) pss_nil) (pss_one (ps_ret (pv 3)))))))))), ?_⟩)
  obtain ⟨v_text, F, W, rfl, ni, hst, hw, ok, rt⟩ := spD_start N_worth_in h
  generalize L2.start N_worth_in vs = σ at hst ⊢
  have hw : W (m_worth_in v_text) := hw
  replace ok := ok (List.replicate 4 none)
  have hst : Stt F [some (oD eS v_text), none, none, none] [] σ H := hst
  unfold m_worth_in at hw
  refine q_seq ?_
  refine s_asgM (t := oD eS) hst hw ok (mv_ok (t := oD eS) ((ev_var (i := 0) (by rfl)))) (show 1 < 4 by decide) (ni _) ?_
  clear hst hw
  intro v_figures σ H hw hst
  refine q_nx ?_
  refine q_seq ?_
  refine s_ifJ (S := (List Nat)) (Γj := fun s78 => [some (oD eS v_text), some (oD eS s78), none, none]) hst hw ok (mt_guard fun g77 => mt_ok (et_test (ev_eqX (ev_slSx g77 (ev_var (i := 0) (by rfl)) eo_no (eo_some ev_int)) ev_lit))) ?_ ?_ ?_
  · clear hst hw ok
    intro W79 hN80p H ok hw hst hN80
    refine s_asgM (t := oD eS) hst hw ok (mv_guard fun g81 => mv_ok (t := oD eS) ((ev_slSx g81 (ev_var (i := 0) (by rfl)) (eo_some ev_int) eo_no))) (show 1 < 4 by decide) (ni _) ?_
    clear hst hw
    intro v_figures σ H hw hst
    exact hN80 v_figures _ _ hw (hst.weak (.same (.same (.same (.same .nil)))))
  · clear hst hw ok
    intro W79 hN80p H ok hw hst hN80
    refine s_next ?_
    exact hN80 v_figures _ _ hw (hst.weak (.same (.same (.same (.same .nil)))))
  · clear hst hw
    intro v_figures σ H hw hst
    have hw : W (m_worth_in_J1 v_text v_figures) := hw
    have hst : Stt F [some (oD eS v_text), some (oD eS v_figures), none, none] [] σ H := hst
    replace hst := hst.weak (Γ' := [some (oD eS v_text), some (oD eS v_figures), none, none]) (.same (.same (.same (.same .nil))))
    unfold m_worth_in_J1 at hw
    refine q_nx ?_
    refine q_seq ?_
    refine s_ifM hst hw ok (mt_or (mt_ok (et_test (ev_eqX (ev_var (i := 1) (by rfl)) ev_lit))) (mt_guard fun g82 => mt_ok (et_test (ev_gt (ev_lenSx g82 (ev_var (i := 1) (by rfl))) ev_int)))) ?_ ?_
    · clear hst hw
      intro H hw hst
      exact s_raise (C := tx.Ce .noNumber) hst hw ok (wkN (by rfl)) (fun _ _ _ h => h) fun h => h
    · clear hst hw
      intro H hw hst
      refine s_next ?_
      refine q_nx ?_
      refine q_seq ?_
      refine s_foldM (S := Unit) (xs := fun c90 => c90) (enc := eC) (f := fun c90 y83 s84 => m_worth_in_L1 y83) (Γs := fun s84 => [some (oD eS v_text), some (oD eS v_figures), none, none]) (Γb := fun _ y83 s84 => [some (oD eS v_text), some (oD eS v_figures), some (oD eC y83), none]) (s0 := ()) hst hw ok (sr_strX (mv_ok (t := oD eS) ((ev_var (i := 1) (by rfl))))) (.same (.same (.same (.same .nil)))) (fun _ _ _ => (tg_name (j := 2) (show 2 < 4 by decide) (ni _))) ?_ ?_
      · clear hst hw ok
        intro _ v_sign s84 W85 hN86p T88 σ H ok hw hst hN86
        have hw : W85 (m_worth_in_L1 v_sign) := hw
        have hst : Stt F [some (oD eS v_text), some (oD eS v_figures), some (oD eC v_sign), none] T88 σ H := hst
        unfold m_worth_in_L1 at hw
        refine s_ifM hst hw ok (mt_ok (et_test (ev_ninX (ev_var (i := 2) (by rfl)) ev_lit))) ?_ ?_
        · clear hst hw
          intro H hw hst
          exact s_raise (C := tx.Ce .noNumber) hst hw ok (wkN (by rfl)) (fun _ _ _ h => h) fun h => h
        · clear hst hw
          intro H hw hst
          refine s_next ?_
          exact hN86 () _ _ hw (hst.weak (.same (.same (.drop (.same .nil)))))
      · clear hst hw
        intro s84 σ H hw hst
        have hw : W (m_worth_in_J2 v_text v_figures) := hw
        have hst : Stt F [some (oD eS v_text), some (oD eS v_figures), none, none] [] σ H := hst
        replace hst := hst.weak (Γ' := [some (oD eS v_text), some (oD eS v_figures), none, none]) (.same (.same (.same (.same .nil))))
        unfold m_worth_in_J2 at hw
        refine q_nx ?_
        refine q_seq ?_
        refine s_ifM hst hw ok (mt_guard fun g91 => mt_ok (et_and (et_test (ev_eqX (ev_ixSx g91 (ev_var (i := 1) (by rfl)) ev_int) ev_lit)) (et_test (ev_neX (ev_var (i := 0) (by rfl)) ev_lit)))) ?_ ?_
        · clear hst hw
          intro H hw hst
          exact s_raise (C := tx.Ce .noNumber) hst hw ok (wkN (by rfl)) (fun _ _ _ h => h) fun h => h
        · clear hst hw
          intro H hw hst
          refine s_next ?_
          refine q_nx ?_
          refine q_seq ?_
          refine s_asgM (t := oD eI) hst hw ok (mv_guard fun g92 => mv_ok (t := oD eI) ((ev_intX g92 (ev_var (i := 0) (by rfl))))) (show 3 < 4 by decide) (ni _) ?_
          clear hst hw
          intro v_worth σ H hw hst
          refine q_nx ?_
          refine q_seq ?_
          refine s_ifM hst hw ok (mt_not (mt_B (mv_callP (x := v_worth) (ea_cons (ev_var (i := 3) (by rfl)) ea_nil) rfl rfl (fun _ _ _ h => h) (wkN (by rfl))))) ?_ ?_
          · clear hst hw
            intro H hw hst
            exact s_raise (C := tx.Ce .noNumber) hst hw ok (wkN (by rfl)) (fun _ _ _ h => h) fun h => h
          · clear hst hw
            intro H hw hst
            refine s_next ?_
            refine q_nx ?_
            exact s_retF (t := oD eI) hst hw ok (mv_ok (t := oD eI) ((ev_var (i := 3) (by rfl)))) fun a v H w s => rt _ _ _ _ _ _ w s
theorem okN_worth_in (tx : Tx K mg) : FnOk P w K mg base (L2N.CX P w) 2 tx.f_worth_in tx.d_worth_in ["text"] (sp_worth_in K tx.Ce) := by
  refine tx.F_worth_in.ok sc_worth_in (fun vs H Q E h => spF_len (n := 1) rfl vs H Q E h) (fun cdv A outer s H vs Q E hr h => ⟨_, (pss_cons (ps_set (i := 1) sc_worth_in.nd rfl (by first | exact Or.inl rfl | exact Or.inr rfl) (pv 0)) (pss_cons (ps_if (pt_cmpR op_eq (pe_slice sl_str (pv 0) po_none (po_some pe_int)) pe_str (by first | exact nomark _ | rfl)) (pss_one (ps_set (i := 1) sc_worth_in.nd rfl (by first | exact Or.inl rfl | exact Or.inr rfl) (pe_slice sl_str (pv 0) (po_some pe_int) po_none))) pss_nil) (pss_cons (ps_if (pw_or (pt_cmpR op_eq (pv 1) pe_str (by first | exact nomark _ | rfl)) (pw_or1 (pt_cmpR op_gt (pe_callB call_len_str (by rfl) tx.n_len (by rfl) (pa_cons (pv 1) pa_nil)) pe_int (by first | exact nomark _ | rfl)))).pt (pss_one (L2N.ps_raise rfl (L2N.takes_of rfl rfl rfl rfl) (L2N.pmk_own PySem.F.excBase_ValueError tx.q_NoNumber tx.x_NoNumber tx.k_NoNumber (raises_own tx.b_NoNumber tx.t_NoNumber) (by rfl)))) pss_nil) (pss_cons (ps_for (passes_of rfl) rfl (pi_str (pv 1)) (pg_name (i := 2) sc_worth_in.nd rfl (by first | exact Or.inl rfl | exact Or.inr rfl)) (pss_one (ps_if (pt_cmpR op_notIn_sign (pv 2) (C8.pe_gc (by rfl) tx.c_FIGURES) (by first | exact nomark _ | rfl)) (pss_one (L2N.ps_raise rfl (L2N.takes_of rfl rfl rfl rfl) (L2N.pmk_own PySem.F.excBase_ValueError tx.q_NoNumber tx.x_NoNumber tx.k_NoNumber (raises_own tx.b_NoNumber tx.t_NoNumber) (by rfl)))) pss_nil))) (pss_cons (ps_if (pw_and (pt_cmpR op_eq (pe_ix ix_str (pv 1) pe_int (fun _ _ => rfl)) pe_str (by first | exact nomark _ | rfl)) (pw_and1 (pt_cmpR op_ne (pv 0) pe_str (by first | exact nomark _ | rfl)))).pt (pss_one (L2N.ps_raise rfl (L2N.takes_of rfl rfl rfl rfl) (L2N.pmk_own PySem.F.excBase_ValueError tx.q_NoNumber tx.x_NoNumber tx.k_NoNumber (raises_own tx.b_NoNumber tx.t_NoNumber) (by rfl)))) pss_nil) (pss_cons (ps_set (i := 3) sc_worth_in.nd rfl (by first | exact Or.inl rfl | exact Or.inr rfl) (pe_callTy call_int_str (by rfl) tx.n_int (by rfl) (pa_cons (pv 0) pa_nil))) (pss_cons (ps_if (pt_not (pt_val (pe_callS (E := WE (fun cls d _ H => E cls d H)) (okN_is_worth tx) (hr.mono (by decide)) (by rfl) tx.g_is_worth tx.F_is_worth.kp (bn_is_worth tx) (fun σ => L2N.passAt (L2N.takes_of rfl rfl rfl rfl) σ) (pa_cons (pv 3) pa_nil)))) (pss_one (L2N.ps_raise rfl (L2N.takes_of rfl rfl rfl rfl) (L2N.pmk_own PySem.F.excBase_ValueError tx.q_NoNumber tx.x_NoNumber tx.k_NoNumber (raises_own tx.b_NoNumber tx.t_NoNumber) (by rfl)))) pss_nil) (pss_one (ps_ret (pv 3)))))))))), ?_⟩)
  obtain ⟨v_text, F, W, rfl, ni, hst, hw, ok, rt⟩ := spD_start N_worth_in h
  generalize L2.start N_worth_in vs = σ at hst ⊢
  have hw : W (m_worth_in v_text) := hw
  replace ok := ok (List.replicate 4 none)
  have hst : Stt F [some (oD eS v_text), none, none, none] [] σ H := hst
  unfold m_worth_in at hw
  refine q_seq ?_
  refine s_asgM (t := oD eS) hst hw ok (mv_ok (t := oD eS) ((ev_var (i := 0) (by rfl)))) (show 1 < 4 by decide) (ni _) ?_
  clear hst hw
  intro v_figures σ H hw hst
  refine q_nx ?_
  refine q_seq ?_
  refine s_ifJ (S := (List Nat)) (Γj := fun s78 => [some (oD eS v_text), some (oD eS s78), none, none]) hst hw ok (mt_guard fun g77 => mt_ok (et_test (ev_eqX (ev_slSx g77 (ev_var (i := 0) (by rfl)) eo_no (eo_some ev_int)) ev_lit))) ?_ ?_ ?_
  · clear hst hw ok
    intro W79 hN80p H ok hw hst hN80
    refine s_asgM (t := oD eS) hst hw ok (mv_guard fun g81 => mv_ok (t := oD eS) ((ev_slSx g81 (ev_var (i := 0) (by rfl)) (eo_some ev_int) eo_no))) (show 1 < 4 by decide) (ni _) ?_
    clear hst hw
    intro v_figures σ H hw hst
    exact hN80 v_figures _ _ hw (hst.weak (.same (.same (.same (.same .nil)))))
  · clear hst hw ok
    intro W79 hN80p H ok hw hst hN80
    refine s_next ?_
    exact hN80 v_figures _ _ hw (hst.weak (.same (.same (.same (.same .nil)))))
  · clear hst hw
    intro v_figures σ H hw hst
    have hw : W (m_worth_in_J1 v_text v_figures) := hw
    have hst : Stt F [some (oD eS v_text), some (oD eS v_figures), none, none] [] σ H := hst
    replace hst := hst.weak (Γ' := [some (oD eS v_text), some (oD eS v_figures), none, none]) (.same (.same (.same (.same .nil))))
    unfold m_worth_in_J1 at hw
    refine q_nx ?_
    refine q_seq ?_
    refine s_ifM hst hw ok (mt_or (mt_ok (et_test (ev_eqX (ev_var (i := 1) (by rfl)) ev_lit))) (mt_guard fun g82 => mt_ok (et_test (ev_gt (ev_lenSx g82 (ev_var (i := 1) (by rfl))) ev_int)))) ?_ ?_
    · clear hst hw
      intro H hw hst
      exact s_raise (C := tx.Ce .noNumber) hst hw ok (wkN (by rfl)) (fun _ _ _ h => h) fun h => h
    · clear hst hw
      intro H hw hst
      refine s_next ?_
      refine q_nx ?_
      refine q_seq ?_
      refine s_foldM (S := Unit) (xs := fun c90 => c90) (enc := eC) (f := fun c90 y83 s84 => m_worth_in_L1 y83) (Γs := fun s84 => [some (oD eS v_text), some (oD eS v_figures), none, none]) (Γb := fun _ y83 s84 => [some (oD eS v_text), some (oD eS v_figures), some (oD eC y83), none]) (s0 := ()) hst hw ok (sr_strX (mv_ok (t := oD eS) ((ev_var (i := 1) (by rfl))))) (.same (.same (.same (.same .nil)))) (fun _ _ _ => (tg_name (j := 2) (show 2 < 4 by decide) (ni _))) ?_ ?_
      · clear hst hw ok
        intro _ v_sign s84 W85 hN86p T88 σ H ok hw hst hN86
        have hw : W85 (m_worth_in_L1 v_sign) := hw
        have hst : Stt F [some (oD eS v_text), some (oD eS v_figures), some (oD eC v_sign), none] T88 σ H := hst
        unfold m_worth_in_L1 at hw
        refine s_ifM hst hw ok (mt_ok (et_test (ev_ninX (ev_var (i := 2) (by rfl)) ev_lit))) ?_ ?_
        · clear hst hw
          intro H hw hst
          exact s_raise (C := tx.Ce .noNumber) hst hw ok (wkN (by rfl)) (fun _ _ _ h => h) fun h => h
        · clear hst hw
          intro H hw hst
          refine s_next ?_
          exact hN86 () _ _ hw (hst.weak (.same (.same (.drop (.same .nil)))))
      · clear hst hw
        intro s84 σ H hw hst
        have hw : W (m_worth_in_J2 v_text v_figures) := hw
        have hst : Stt F [some (oD eS v_text), some (oD eS v_figures), none, none] [] σ H := hst
        replace hst := hst.weak (Γ' := [some (oD eS v_text), some (oD eS v_figures), none, none]) (.same (.same (.same (.same .nil))))
        unfold m_worth_in_J2 at hw
        refine q_nx ?_
        refine q_seq ?_
        refine s_ifM hst hw ok (mt_guard fun g91 => mt_ok (et_and (et_test (ev_eqX (ev_ixSx g91 (ev_var (i := 1) (by rfl)) ev_int) ev_lit)) (et_test (ev_neX (ev_var (i := 0) (by rfl)) ev_lit)))) ?_ ?_
        · clear hst hw
          intro H hw hst
          exact s_raise (C := tx.Ce .noNumber) hst hw ok (wkN (by rfl)) (fun _ _ _ h => h) fun h => h
        · clear hst hw
          intro H hw hst
          refine s_next ?_
          refine q_nx ?_
          refine q_seq ?_
          refine s_asgM (t := oD eI) hst hw ok (mv_guard fun g92 => mv_ok (t := oD eI) ((ev_intX g92 (ev_var (i := 0) (by rfl))))) (show 3 < 4 by decide) (ni _) ?_
          clear hst hw
          intro v_worth σ H hw hst
          refine q_nx ?_
          refine q_seq ?_
          refine s_ifM hst hw ok (mt_not (mt_B (mv_callP (x := v_worth) (ea_cons (ev_var (i := 3) (by rfl)) ea_nil) rfl rfl (fun _ _ _ h => h) (wkN (by rfl))))) ?_ ?_
          · clear hst hw
            intro H hw hst
            exact s_raise (C := tx.Ce .noNumber) hst hw ok (wkN (by rfl)) (fun _ _ _ h => h) fun h => h
          · clear hst hw
            intro H hw hst
            refine s_next ?_
            refine q_nx ?_
            exact s_retF (t := oD eI) hst hw ok (mv_ok (t := oD eI) ((ev_var (i := 3) (by rfl)))) fun a v H w s => rt _ _ _ _ _ _ w s
theorem bn_words_of (tx : Tx K mg) : Binds K tx.d_words_of ["term"] [] := tx.F_words_of.bindsN fun _ _ _ _ _ _ us hl => match us, hl with | [_], _ => rfl
theorem ok_words_of (tx : Tx K mg) : FnOk P w K mg base (L2.CX P w) 2 tx.f_words_of tx.d_words_of ["term"] (sp_words_of K tx.Ce) := by
  refine tx.F_words_of.ok sc_words_of (fun vs H Q E h => spF_len (n := 1) rfl vs H Q E h) (fun cdv A outer s H vs Q E hr h => ⟨_, (pss_cons (ps_set (i := 1) sc_words_of.nd rfl (by first | exact Or.inl rfl | exact Or.inr rfl) (pe_lst pa_nil)) (pss_cons (ps_for (passes_of rfl) rfl (pi_tup (pv 0)) (pg_name (i := 2) sc_words_of.nd rfl (by first | exact Or.inl rfl | exact Or.inr rfl)) (pss_one (ps_if (pt_cmpR (r := rIn K false) op_in_seq (pv 2) (C8.pe_gc (by rfl) tx.c_DOERS) (by first | exact nomark _ | rfl)) (pss_cons (ps_set (i := 3) sc_words_of.nd rfl (by first | exact Or.inl rfl | exact Or.inr rfl) (pe_bm0 PySem.F.plainAttrs_list PySem.F.slot_list_pop PySem.F.type_list_pop mt_pop (pv 1))) (pss_cons (ps_set (i := 4) sc_words_of.nd rfl (by first | exact Or.inl rfl | exact Or.inr rfl) (pe_bm0 PySem.F.plainAttrs_list PySem.F.slot_list_pop PySem.F.type_list_pop mt_pop (pv 1))) (pss_one (ps_expr (pe_bm PySem.F.plainAttrs_list PySem.F.slot_list_append PySem.F.type_list_append mt_append (pv 1) (pa_cons (pe_op op_cat (pe_op op_cat (pe_lst (pa_cons (pv 2) pa_nil)) (pv 4)) (pv 3)) pa_nil)))))) (pss_one (ps_if (pt_val (pe_callB (r := rIsi K) call_isi (by rfl) tx.n_isinstance (by rfl) (pa_cons (pv 2) (pa_cons (pe_bltn (v := .ty "int") (by rfl) tx.n_int (by rfl) rfl) pa_nil)))) (pss_one (ps_expr (pe_bm PySem.F.plainAttrs_list PySem.F.slot_list_append PySem.F.type_list_append mt_append (pv 1) (pa_cons (pe_lst (pa_cons (pe_callS (E := WE (fun cls d _ H => E cls d H)) (ok_numeral tx) (hr.mono (by decide)) (by rfl) tx.g_numeral tx.F_numeral.kp (bn_numeral tx) (fun σ => passAt (takes_of rfl rfl rfl rfl) σ) (pa_cons (pv 2) pa_nil)) pa_nil)) pa_nil)))) (pss_one (ps_expr (pe_bm PySem.F.plainAttrs_list PySem.F.slot_list_append PySem.F.type_list_append mt_append (pv 1) (pa_cons (pe_lst (pa_cons (pv 2) pa_nil)) pa_nil))))))))) (pss_one (ps_ret (pe_ix (r := rIxL K) ix_list (pv 1) pe_int (fun _ _ => rfl)))))), ?_⟩)
  obtain ⟨v_term, F, W, rfl, ni, hst, hw, ok, rt⟩ := spD_start N_words_of h
  generalize L2.start N_words_of vs = σ at hst ⊢
  have hw : W (m_words_of v_term) := hw
  replace ok := ok (List.replicate 5 none)
  have hst : Stt F [some (oD (eU eA) v_term), none, none, none, none] [] σ H := hst
  unfold m_words_of at hw
  refine q_seq ?_
  refine s_asgM (t := oL (eL eA)) hst hw ok (mv_ok (t := oL (eL eA)) ((ev_lst ea_nil (show 0 ≤ 1000 by decide)))) (show 1 < 5 by decide) (ni _) ?_
  clear hst hw
  intro v_parts σ H hw hst
  refine q_nx ?_
  refine q_seq ?_
  refine s_foldM (S := (List (List Dt))) (xs := fun c110 => c110) (enc := eA) (f := fun c110 y93 s94 => m_words_of_L1 s94 y93) (Γs := fun s94 => [none, some (oL (eL eA) s94), none, none, none]) (Γb := fun _ y93 s94 => [none, some (oL (eL eA) s94), some (oD eA y93), none, none]) (s0 := v_parts) hst hw ok (sr_tup (mv_ok (t := oD (eU eA)) ((ev_var (i := 0) (by rfl))))) (.drop (.same (.same (.same (.same .nil))))) (fun _ _ _ => (tg_name (j := 2) (show 2 < 5 by decide) (ni _))) ?_ ?_
  · clear hst hw ok
    intro _ v_part v_parts W95 hN96p T98 σ H ok hw hst hN96
    have hw : W95 (m_words_of_L1 v_parts v_part) := hw
    have hst : Stt F [none, some (oL (eL eA) v_parts), some (oD eA v_part), none, none] T98 σ H := hst
    unfold m_words_of_L1 at hw
    refine s_ifM hst hw ok (mt_guard fun g100 => mt_ok (et_test (ev_inTA g100 (ev_var (i := 2) (by rfl)) (ev_globT tx.s_DOERS (tx.r_DOERS))))) ?_ ?_
    · clear hst hw
      intro H hw hst
      refine q_seq ?_
      refine s_asgP (n := 1) (enc := (eL eA)) (t := oD (eL eA)) hst hw ok (mp_pop (enc := (eL eA)) (by rfl)) (show 3 < 5 by decide) (ni _) ?_
      clear hst hw
      intro v_second v_parts σ H hw hst
      refine q_nx ?_
      refine q_seq ?_
      refine s_asgP (n := 1) (enc := (eL eA)) (t := oD (eL eA)) hst hw ok (mp_pop (enc := (eL eA)) (by rfl)) (show 4 < 5 by decide) (ni _) ?_
      clear hst hw
      intro v_first v_parts σ H hw hst
      refine q_nx ?_
      refine s_appE (enc := (eL eA)) (xs := v_parts) hst hw ok (by rfl) (mv_guard fun g101 => mv_guard fun g102 => mv_ok (t := oD (eL eA)) ((ev_frz (ev_catL (enc := eA) g102 (el_own (ev_catL (enc := eA) g101 (el_own (ev_lst (ea_cons (ev_var (i := 2) (by rfl)) ea_nil) (show 1 ≤ 1000 by decide))) (el_dat (ev_var (i := 4) (by rfl))))) (el_dat (ev_var (i := 3) (by rfl))))))) ?_
      clear hst hw
      intro v_parts σ H hw hst
      exact hN96 v_parts _ _ hw (hst.weak (.same (.same (.drop (.drop (.drop .nil))))))
    · clear hst hw
      intro H hw hst
      refine s_ifJ (S := (List (List Dt))) (Γj := fun s104 => [none, some (oL (eL eA) s104), some (oD eA v_part), none, none]) hst hw ok (mt_ok (et_B (ev_isA (by decide +kernel) (ev_var (i := 2) (by rfl))))) ?_ ?_ ?_
      · clear hst hw ok
        intro W105 hN106p H ok hw hst hN106
        refine s_appE (enc := (eL eA)) (xs := v_parts) hst hw ok (by rfl) (mv_frz (mv_map (f := fun (x107 : (Dt × Unit)) => ([x107.1] : (List Dt))) (mv_lst (ma_consM (mv_map (f := fun a => eS a) (mv_callP (x := v_part) (ea_cons (ev_var (i := 2) (by rfl)) ea_nil) rfl rfl (fun _ _ _ h => h) (wkN (by rfl))) fun _ => rfl) fun _ => (ma_ok (ds := fun _ => []) ea_nil)) fun _ => (show 1 ≤ 1000 by decide)) fun _ => rfl)) ?_
        clear hst hw
        intro v_parts σ H hw hst
        exact hN106 v_parts _ _ hw (hst.weak (.same (.same (.same (.same (.same .nil))))))
      · clear hst hw ok
        intro W105 hN106p H ok hw hst hN106
        refine s_appE (enc := (eL eA)) (xs := v_parts) hst hw ok (by rfl) (mv_ok (t := oD (eL eA)) ((ev_frz (ev_lst (ea_cons (ev_var (i := 2) (by rfl)) ea_nil) (show 1 ≤ 1000 by decide))))) ?_
        clear hst hw
        intro v_parts σ H hw hst
        exact hN106 v_parts _ _ hw (hst.weak (.same (.same (.same (.same (.same .nil))))))
      · clear hst hw
        intro v_parts σ H hw hst
        have hw : W95 (m_words_of_J1 v_parts) := hw
        have hst : Stt F [none, some (oL (eL eA) v_parts), some (oD eA v_part), none, none] T98 σ H := hst
        replace hst := hst.weak (Γ' := [none, some (oL (eL eA) v_parts), none, none, none]) (.same (.same (.drop (.same (.same .nil)))))
        unfold m_words_of_J1 at hw
        exact hN96 v_parts _ _ hw (hst.weak (.same (.same (.same (.same (.same .nil))))))
  · clear hst hw
    intro v_parts σ H hw hst
    have hw : W (m_words_of_J2 v_parts) := hw
    have hst : Stt F [none, some (oL (eL eA) v_parts), none, none, none] [] σ H := hst
    replace hst := hst.weak (Γ' := [none, some (oL (eL eA) v_parts), none, none, none]) (.same (.same (.same (.same (.same .nil)))))
    unfold m_words_of_J2 at hw
    refine q_nx ?_
    exact s_retF (t := oD (eL eA)) hst hw ok (mv_guard fun g111 => mv_ok (t := oD (eL eA)) ((ev_ixL (enc := (eL eA)) g111 (el_var (n := 1) (by rfl)) ev_int))) fun a v H w s => rt _ _ _ _ _ _ w s
theorem bn_law_names (tx : Tx K mg) : Binds K tx.d_law_names ["cell"] [] := tx.F_law_names.bindsN fun _ _ _ _ _ _ us hl => match us, hl with | [_], _ => rfl
theorem ok_law_names (tx : Tx K mg) : FnOk P w K mg base (L2.CX P w) 2 tx.f_law_names tx.d_law_names ["cell"] (sp_law_names K tx.Ce) := by
  refine tx.F_law_names.ok sc_law_names (fun vs H Q E h => spF_len (n := 1) rfl vs H Q E h) (fun cdv A outer s H vs Q E hr h => ⟨_, (pss_cons (ps_set (i := 1) sc_law_names.nd rfl (by first | exact Or.inl rfl | exact Or.inr rfl) pe_str) (pss_cons (ps_set (i := 2) sc_law_names.nd rfl (by first | exact Or.inl rfl | exact Or.inr rfl) (pe_callS (E := WE (fun cls d _ H => E cls d H)) (ok_law_letters tx) (hr.mono (by decide)) (by rfl) tx.g_law_letters tx.F_law_letters.kp (bn_law_letters tx) (fun σ => passAt (takes_of rfl rfl rfl rfl) σ) (pa_cons (pe_callS (E := WE (fun cls d _ H => E cls d H)) (ok_law_mixed tx) (hr.mono (by decide)) (by rfl) tx.g_law_mixed tx.F_law_mixed.kp (bn_law_mixed tx) (fun σ => passAt (takes_of rfl rfl rfl rfl) σ) (pa_cons (pv 0) (pa_cons pe_int pa_nil))) (pa_cons (pe_op op_add pe_int (pe_op op_mod (pe_op op_fdivW (pv 0) pe_int) pe_int)) pa_nil)))) (pss_cons (ps_set (i := 3) sc_law_names.nd rfl (by first | exact Or.inl rfl | exact Or.inr rfl) (pe_op op_mod (pe_callS (E := WE (fun cls d _ H => E cls d H)) (ok_law_mixed tx) (hr.mono (by decide)) (by rfl) tx.g_law_mixed tx.F_law_mixed.kp (bn_law_mixed tx) (fun σ => passAt (takes_of rfl rfl rfl rfl) σ) (pa_cons (pv 0) (pa_cons pe_int pa_nil))) (pe_callB call_len_str (by rfl) tx.n_len (by rfl) (pa_cons (pv 2) pa_nil)))) (pss_cons (ps_if (pt_cmpR op_eq (pe_op op_mod (pv 0) pe_int) pe_int (by first | exact nomark _ | rfl)) (pss_cons (ps_set (i := 4) sc_law_names.nd rfl (by first | exact Or.inl rfl | exact Or.inr rfl) (pe_m1 PySem.F.slot_str_find PySem.F.type_str_find mt_find (pv 1) (pe_ix ix_str (pv 2) (pv 3) (fun _ _ => rfl)))) (pss_one (ps_setLc (i := 5) (own := [("k", 6)]) (g := gName 6) (tt := tYes) rfl sc_law_names.nd rfl rfl (sw_true rfl rfl rfl (by decide +kernel)) (pi_range1 (by rfl) tx.n_range (pa_cons pe_int pa_nil)) (blkOk_by (N := N_law_names) (sc := defScope s_law_names) (by decide +kernel)) (fun _ _ _ _ _ => (pg_name (i := 6) sc_law_names.nd rfl (by first | exact Or.inl rfl | exact Or.inr rfl))) (fun _ _ _ _ _ => pts_nil) (fun _ _ _ _ _ => (pe_op op_add_str (pe_op op_add_str (pe_slice sl_str (pv 2) po_none (po_some (pv 3))) (pe_ix ix_str (pv 1) (pe_op op_mod (pe_op op_add (pv 4) (pv 6)) pe_int) (fun _ _ => rfl))) (pe_slice sl_str (pv 2) (po_some (pe_op op_add (pv 3) pe_int)) po_none)))))) (pss_one (ps_if (pt_cmpR op_eq (pe_op op_mod (pv 0) pe_int) pe_int (by first | exact nomark _ | rfl)) (pss_cons (ps_set (i := 2) sc_law_names.nd rfl (by first | exact Or.inl rfl | exact Or.inr rfl) (pe_callS (E := WE (fun cls d _ H => E cls d H)) (ok_law_letters tx) (hr.mono (by decide)) (by rfl) tx.g_law_letters tx.F_law_letters.kp (bn_law_letters tx) (fun σ => passAt (takes_of rfl rfl rfl rfl) σ) (pa_cons (pe_callS (E := WE (fun cls d _ H => E cls d H)) (ok_law_mixed tx) (hr.mono (by decide)) (by rfl) tx.g_law_mixed tx.F_law_mixed.kp (bn_law_mixed tx) (fun σ => passAt (takes_of rfl rfl rfl rfl) σ) (pa_cons (pv 0) (pa_cons pe_int pa_nil))) (pa_cons pe_int pa_nil)))) (pss_one (ps_set (i := 5) sc_law_names.nd rfl (by first | exact Or.inl rfl | exact Or.inr rfl) (pe_lst (pa_cons (pe_slice sl_str (pv 2) po_none (po_some (pe_op op_add pe_int (pv 3)))) (pa_cons (pe_slice sl_str (pv 2) po_none (po_some (pe_op op_add pe_int (pv 3)))) (pa_cons (pe_slice sl_str (pv 2) po_none (po_some (pe_op op_add pe_int (pv 3)))) (pa_cons (pv 2) pa_nil)))))))) (pss_one (ps_setLc (i := 5) (own := [("k", 6)]) (g := gName 6) (tt := tYes) rfl sc_law_names.nd rfl rfl (sw_true rfl rfl rfl (by decide +kernel)) (pi_range1 (by rfl) tx.n_range (pa_cons pe_int pa_nil)) (blkOk_by (N := N_law_names) (sc := defScope s_law_names) (by decide +kernel)) (fun _ _ _ _ _ => (pg_name (i := 6) sc_law_names.nd rfl (by first | exact Or.inl rfl | exact Or.inr rfl))) (fun _ _ _ _ _ => pts_nil) (fun _ _ _ _ _ => (pe_callS (E := fun _ => E0) (ok_law_letters tx) (hr.mono (by decide)) (by rfl) tx.g_law_letters tx.F_law_letters.kp (bn_law_letters tx) (fun _ => passAtL) (pa_cons (pe_callS (E := fun _ => E0) (ok_law_mixed tx) (hr.mono (by decide)) (by rfl) tx.g_law_mixed tx.F_law_mixed.kp (bn_law_mixed tx) (fun _ => passAtL) (pa_cons (pv 0) (pa_cons (pe_op op_add pe_int (pv 6)) pa_nil))) (pa_cons (pe_op op_add pe_int (pe_op op_mod (pe_callS (E := fun _ => E0) (ok_law_mixed tx) (hr.mono (by decide)) (by rfl) tx.g_law_mixed tx.F_law_mixed.kp (bn_law_mixed tx) (fun _ => passAtL) (pa_cons (pv 0) (pa_cons (pe_op op_add pe_int (pv 6)) pa_nil))) pe_int)) pa_nil))))))))) (pss_one (ps_ret (pe_lc (own := [("name", 7)]) (g := gName 7) (tt := tYes) rfl sc_law_names.nd (pi_list (pv 5)) (blkOk_by (N := N_law_names) (sc := defScope s_law_names) (by decide +kernel)) (fun _ _ _ _ _ => (pg_name (i := 7) sc_law_names.nd rfl (by first | exact Or.inl rfl | exact Or.inr rfl))) (fun _ _ _ _ _ => pts_nil) (fun _ _ _ _ _ => (pe_callS (E := fun _ => E0) (ok_law_free tx) (hr.mono (by decide)) (by rfl) tx.g_law_free tx.F_law_free.kp (bn_law_free tx) (fun _ => passAtL) (pa_cons (pv 7) pa_nil)))))))))), ?_⟩)
  obtain ⟨v_cell, F, W, rfl, ni, hst, hw, ok, rt⟩ := spD_start N_law_names h
  generalize L2.start N_law_names vs = σ at hst ⊢
  have hw : W (m_law_names v_cell) := hw
  replace ok := ok (List.replicate 8 none)
  have hst : Stt F [some (oD eI v_cell), none, none, none, none, none, none, none] [] σ H := hst
  unfold m_law_names at hw
  refine q_seq ?_
  refine s_asgM (t := oD eS) hst hw ok (mv_ok (t := oD eS) (ev_lit)) (show 1 < 8 by decide) (ni _) ?_
  clear hst hw
  intro v_letters σ H hw hst
  refine q_nx ?_
  refine q_seq ?_
  refine s_asgM (t := oD eS) hst hw ok (mv_call (fun (x114 : (Int × Unit)) => (x114.1, ((1 : Int) + ((v_cell / (3 : Int)) % (6 : Int))))) (ma_guard fun g112 => (ma_guard fun g113 => (ma_consM (mv_callP (x := (v_cell, (1 : Int))) (ea_cons (ev_var (i := 0) (by rfl)) (ea_cons ev_int ea_nil)) rfl rfl (fun _ _ _ h => h) (wkN (by rfl))) fun _ => (ma_consP (ev_add ev_int (ev_mod g113 (ev_divW g112 (ev_var (i := 0) (by rfl)) ev_int) ev_int)) (ma_ok (ds := fun _ => []) ea_nil))))) (fun _ => rfl) (fun _ => rfl) (fun _ _ _ h => h) (wkN (by rfl))) (show 2 < 8 by decide) (ni _) ?_
  clear hst hw
  intro v_base σ H hw hst
  refine q_nx ?_
  refine q_seq ?_
  refine s_asgM (t := oD eI) hst hw ok (mv_op (mv_callP (x := (v_cell, (2 : Int))) (ea_cons (ev_var (i := 0) (by rfl)) (ea_cons ev_int ea_nil)) rfl rfl (fun _ _ _ h => h) (wkN (by rfl))) (fun _ => (mv_guard fun g115 => mv_ok (t := oD eI) ((ev_lenSx g115 (ev_var (i := 2) (by rfl)))))) fun _ _ => om_guard fun g118 => om_ok (op2_I (C := fun _ j => 0 < j) (g := fun i j => i % j) g118)) (show 3 < 8 by decide) (ni _) ?_
  clear hst hw
  intro v_at σ H hw hst
  refine q_nx ?_
  refine q_seq ?_
  refine s_ifJ (S := (List (List Nat))) (Γj := fun s120 => [none, none, none, none, none, some (oD (eL eS) s120), none, none]) hst hw ok (mt_guard fun g119 => mt_ok (et_test (ev_eqI (ev_mod g119 (ev_var (i := 0) (by rfl)) ev_int) ev_int))) ?_ ?_ ?_
  · clear hst hw ok
    intro W121 hN122p H ok hw hst hN122
    refine q_seq ?_
    refine s_asgM (t := oD eI) hst hw ok (mv_guard fun g123 => mv_ok (t := oD eI) ((ev_find (ev_var (i := 1) (by rfl)) (ev_ixSx g123 (ev_var (i := 2) (by rfl)) (ev_var (i := 3) (by rfl)))))) (show 4 < 8 by decide) (ni _) ?_
    clear hst hw
    intro v_first σ H hw hst
    refine q_nx ?_
    refine s_asgM (t := oD (eL eS)) hst hw ok (mv_frz (mv_lc (Γx := List.replicate 8 none) (Γb := fun _ x => [some (oD eI v_cell), some (oD eS v_letters), some (oD eS v_base), some (oD eI v_at), some (oD eI v_first), none, some (oD eI x), none]) (xs := fun c => (rng 0 c)) (enc := eI) (encB := eS) (sr_rng1 (mv_ok (t := oD eI) (ev_int))) ⟨⟨by rfl, ni _⟩, True.intro⟩ (fun _ _ => (tgw_name (j := 6) (show 6 < 8 by decide) (ni _) (by decide))) (fun _ _ => (.same (.same (.same (.same (.same (.same (.drop (.same .nil))))))))) (fun _ v_k => by
          show MV F _ _ _ _ (m_law_names_C1 v_letters v_base v_at v_first v_k) _
          unfold m_law_names_C1
          exact (mv_guard fun g125 => mv_guard fun g126 => mv_guard fun g127 => mv_guard fun g128 => mv_guard fun g129 => mv_guard fun g130 => mv_ok (t := oD eS) ((ev_catX g130 (ev_catX g128 (ev_slSx g125 (ev_var (i := 2) (by rfl)) eo_no (eo_some (ev_var (i := 3) (by rfl)))) (ev_ixSx g127 (ev_var (i := 1) (by rfl)) (ev_mod g126 (ev_add (ev_var (i := 4) (by rfl)) (ev_var (i := 6) (by rfl))) ev_int))) (ev_slSx g129 (ev_var (i := 2) (by rfl)) (eo_some (ev_add (ev_var (i := 3) (by rfl)) ev_int)) eo_no))))))) (show 5 < 8 by decide) (ni _) ?_
    clear hst hw
    intro v_some σ H hw hst
    exact hN122 v_some _ _ hw (hst.weak (.drop (.drop (.drop (.drop (.drop (.same (.same (.same .nil)))))))))
  · clear hst hw ok
    intro W121 hN122p H ok hw hst hN122
    refine s_ifM hst hw ok (mt_guard fun g131 => mt_ok (et_test (ev_eqI (ev_mod g131 (ev_var (i := 0) (by rfl)) ev_int) ev_int))) ?_ ?_
    · clear hst hw
      intro H hw hst
      refine q_seq ?_
      refine s_asgM (t := oD eS) hst hw ok (mv_call (fun (x132 : (Int × Unit)) => (x132.1, (6 : Int))) (ma_consM (mv_callP (x := (v_cell, (1 : Int))) (ea_cons (ev_var (i := 0) (by rfl)) (ea_cons ev_int ea_nil)) rfl rfl (fun _ _ _ h => h) (wkN (by rfl))) fun _ => (ma_consP ev_int (ma_ok (ds := fun _ => []) ea_nil))) (fun _ => rfl) (fun _ => rfl) (fun _ _ _ h => h) (wkN (by rfl))) (show 2 < 8 by decide) (ni _) ?_
      clear hst hw
      intro v_base σ H hw hst
      refine q_nx ?_
      refine s_asgM (t := oD (eL eS)) hst hw ok (mv_guard fun g133 => mv_guard fun g134 => mv_guard fun g135 => mv_ok (t := oD (eL eS)) ((ev_frz (ev_lst (ea_cons (ev_slSx g133 (ev_var (i := 2) (by rfl)) eo_no (eo_some (ev_add ev_int (ev_var (i := 3) (by rfl))))) (ea_cons (ev_slSx g134 (ev_var (i := 2) (by rfl)) eo_no (eo_some (ev_add ev_int (ev_var (i := 3) (by rfl))))) (ea_cons (ev_slSx g135 (ev_var (i := 2) (by rfl)) eo_no (eo_some (ev_add ev_int (ev_var (i := 3) (by rfl))))) (ea_cons (ev_var (i := 2) (by rfl)) ea_nil)))) (show 4 ≤ 1000 by decide))))) (show 5 < 8 by decide) (ni _) ?_
      clear hst hw
      intro v_some σ H hw hst
      exact hN122 v_some _ _ hw (hst.weak (.drop (.drop (.drop (.drop (.same (.same (.same (.same .nil)))))))))
    · clear hst hw
      intro H hw hst
      refine s_asgM (t := oD (eL eS)) hst hw ok (mv_frz (mv_lc (Γx := List.replicate 8 none) (Γb := fun _ x => [some (oD eI v_cell), some (oD eS v_letters), some (oD eS v_base), some (oD eI v_at), none, none, some (oD eI x), none]) (xs := fun c => (rng 0 c)) (enc := eI) (encB := eS) (sr_rng1 (mv_ok (t := oD eI) (ev_int))) ⟨⟨by rfl, ni _⟩, True.intro⟩ (fun _ _ => (tgw_name (j := 6) (show 6 < 8 by decide) (ni _) (by decide))) (fun _ _ => (.same (.same (.same (.same (.same (.same (.drop (.same .nil))))))))) (fun _ v_k => by
          show MV F _ _ _ _ (m_law_names_C2 v_cell v_k) _
          unfold m_law_names_C2
          exact (mv_call (fun (x142 : (Int × (Int × Unit))) => (x142.1, x142.2.1)) (ma_consM (mv_callP (x := (v_cell, ((3 : Int) + v_k))) (ea_cons (ev_var (i := 0) (by rfl)) (ea_cons (ev_add ev_int (ev_var (i := 6) (by rfl))) ea_nil)) rfl rfl (fun _ _ _ h => h.elim) (wkN (by rfl))) fun _ => (ma_consM (mv_op (mv_ok (t := oD eI) (ev_int)) (fun _ => (mv_op (mv_callP (x := (v_cell, ((7 : Int) + v_k))) (ea_cons (ev_var (i := 0) (by rfl)) (ea_cons (ev_add ev_int (ev_var (i := 6) (by rfl))) ea_nil)) rfl rfl (fun _ _ _ h => h.elim) (wkN (by rfl))) (fun _ => (mv_ok (t := oD eI) (ev_int))) fun _ _ => om_guard fun g139 => om_ok (op2_I (C := fun _ j => 0 < j) (g := fun i j => i % j) g139))) fun _ _ => om_ok (op2_I0 (g := fun i j => i + j) )) fun _ => (ma_ok (ds := fun _ => []) ea_nil))) (fun _ => rfl) (fun _ => rfl) (fun _ _ _ h => h.elim) (wkN (by rfl)))))) (show 5 < 8 by decide) (ni _) ?_
      clear hst hw
      intro v_some σ H hw hst
      exact hN122 v_some _ _ hw (hst.weak (.drop (.drop (.drop (.drop (.same (.same (.same (.same .nil)))))))))
  · clear hst hw
    intro v_some σ H hw hst
    have hw : W (m_law_names_J1 v_some) := hw
    have hst : Stt F [none, none, none, none, none, some (oD (eL eS) v_some), none, none] [] σ H := hst
    replace hst := hst.weak (Γ' := [none, none, none, none, none, some (oD (eL eS) v_some), none, none]) (.same (.same (.same (.same (.same (.same (.same (.same .nil))))))))
    unfold m_law_names_J1 at hw
    refine q_nx ?_
    exact s_retF (t := oD (eL eS)) hst hw ok (mv_frz (mv_lc (Γx := List.replicate 8 none) (Γb := fun _ x => [none, none, none, none, none, some (oD (eL eS) v_some), none, some (oD eS x)]) (xs := fun c => c) (enc := eS) (encB := eS) (sr_list (mv_ok (t := oD (eL eS)) ((ev_var (i := 5) (by rfl))))) ⟨⟨by rfl, ni _⟩, True.intro⟩ (fun _ _ => (tgw_name (j := 7) (show 7 < 8 by decide) (ni _) (by decide))) (fun _ _ => (.same (.same (.same (.same (.same (.same (.same (.drop .nil))))))))) (fun _ v_name => by
          show MV F _ _ _ _ (m_law_names_C3 v_name) _
          unfold m_law_names_C3
          exact (mv_callP (x := v_name) (ea_cons (ev_var (i := 7) (by rfl)) ea_nil) rfl rfl (fun _ _ _ h => h.elim) (wkN (by rfl)))))) fun a v H w s => rt _ _ _ _ _ _ w s
theorem bn_law_leaf (tx : Tx K mg) : Binds K tx.d_law_leaf ["cell", "names"] [] := tx.F_law_leaf.bindsN fun _ _ _ _ _ _ us hl => match us, hl with | [_, _], _ => rfl
theorem ok_law_leaf (tx : Tx K mg) : FnOk P w K mg base (L2.CX P w) 2 tx.f_law_leaf tx.d_law_leaf ["cell", "names"] (sp_law_leaf K tx.Ce) := by
  refine tx.F_law_leaf.ok sc_law_leaf (fun vs H Q E h => spF_len (n := 2) rfl vs H Q E h) (fun cdv A outer s H vs Q E hr h => ⟨_, (pss_cons (ps_if (pt_cmpR op_lt (pe_op op_mod (pv 0) pe_int) pe_int (by first | exact nomark _ | rfl)) (pss_cons (ps_set (i := 2) sc_law_leaf.nd rfl (by first | exact Or.inl rfl | exact Or.inr rfl) (pe_ix (r := rIxL K) ix_list (pv 1) (pe_op op_mod (pe_op op_fdivW (pv 0) pe_int) pe_int) (fun _ _ => rfl))) (pss_one (ps_ret (pe_tup (pa_cons (pe_lst (pa_cons (pv 2) pa_nil)) (pa_cons (pe_tup (pa_cons (pv 2) pa_nil)) pa_nil)))))) pss_nil) (pss_cons (ps_set (i := 3) sc_law_leaf.nd rfl (by first | exact Or.inl rfl | exact Or.inr rfl) (pe_op op_sub (pe_op op_mod (pe_op op_fdivW (pv 0) pe_int) pe_int) pe_int)) (pss_cons (ps_if (pt_cmpR op_eq (pe_op op_mod (pv 0) pe_int) pe_int (by first | exact nomark _ | rfl)) (pss_one (ps_set (i := 3) sc_law_leaf.nd rfl (by first | exact Or.inl rfl | exact Or.inr rfl) (pe_op op_sub (pe_op op_mod (pe_op op_add (pe_op op_fdivW (pv 0) pe_int) (pe_op op_pow pe_int pe_int)) (pe_op op_add (pe_op op_mulW pe_int (pe_op op_pow pe_int pe_int)) pe_int)) (pe_op op_pow pe_int pe_int)))) pss_nil) (pss_one (ps_ret (pe_tup (pa_cons (pe_lst (pa_cons (pe_callS (E := WE (fun cls d _ H => E cls d H)) (ok_law_figures tx) (hr.mono (by decide)) (by rfl) tx.g_law_figures tx.F_law_figures.kp (bn_law_figures tx) (fun σ => passAt (takes_of rfl rfl rfl rfl) σ) (pa_cons (pv 3) pa_nil)) pa_nil)) (pa_cons (pe_tup (pa_cons (pv 3) pa_nil)) pa_nil)))))))), ?_⟩)
  obtain ⟨x, F, W, rfl, ni, hst, hw, ok, rt⟩ := spD_start N_law_leaf h
  obtain ⟨v_cell, v_names⟩ := x
  generalize L2.start N_law_leaf vs = σ at hst ⊢
  have hw : W (m_law_leaf v_cell v_names) := hw
  replace ok := ok (List.replicate 4 none)
  have hst : Stt F [some (oD eI v_cell), some (oD (eL eS) v_names), none, none] [] σ H := hst
  unfold m_law_leaf at hw
  refine q_seq ?_
  refine s_ifM hst hw ok (mt_guard fun g144 => mt_ok (et_test (ev_lt (ev_mod g144 (ev_var (i := 0) (by rfl)) ev_int) ev_int))) ?_ ?_
  · clear hst hw
    intro H hw hst
    refine q_seq ?_
    refine s_asgM (t := oD eS) hst hw ok (mv_guard fun g145 => mv_guard fun g146 => mv_guard fun g147 => mv_ok (t := oD eS) ((ev_ixL (enc := eS) g147 (el_dat (ev_var (i := 1) (by rfl))) (ev_mod g146 (ev_divW g145 (ev_var (i := 0) (by rfl)) ev_int) ev_int)))) (show 2 < 4 by decide) (ni _) ?_
    clear hst hw
    intro v_name σ H hw hst
    refine q_nx ?_
    exact s_retF (t := oD (e2 (eL eS) (eU eA))) hst hw ok (mv_ok (t := oD (e2 (eL eS) (eU eA))) ((ev_tup (ea_cons (ev_frz (ev_lst (ea_cons (ev_var (i := 2) (by rfl)) ea_nil) (show 1 ≤ 1000 by decide))) (ea_cons (ev_tup (ea_cons (ev_var (i := 2) (by rfl)) ea_nil) (show 1 ≤ 1000 by decide)) ea_nil)) (show 2 ≤ 1000 by decide)))) fun a v H w s => rt _ _ _ _ _ _ w s
  · clear hst hw
    intro H hw hst
    refine s_next ?_
    refine q_nx ?_
    refine q_seq ?_
    refine s_asgM (t := oD eI) hst hw ok (mv_guard fun g148 => mv_guard fun g149 => mv_ok (t := oD eI) ((ev_sub (ev_mod g149 (ev_divW g148 (ev_var (i := 0) (by rfl)) ev_int) ev_int) ev_int))) (show 3 < 4 by decide) (ni _) ?_
    clear hst hw
    intro v_worth σ H hw hst
    refine q_nx ?_
    refine q_seq ?_
    refine s_ifJ (S := Int) (Γj := fun s151 => [some (oD eI v_cell), none, none, some (oD eI s151)]) hst hw ok (mt_guard fun g150 => mt_ok (et_test (ev_eqI (ev_mod g150 (ev_var (i := 0) (by rfl)) ev_int) ev_int))) ?_ ?_ ?_
    · clear hst hw ok
      intro W152 hN153p H ok hw hst hN153
      refine s_asgM (t := oD eI) hst hw ok (mv_guard fun g154 => mv_guard fun g155 => mv_guard fun g156 => mv_guard fun g157 => mv_guard fun g158 => mv_guard fun g159 => mv_ok (t := oD eI) ((ev_sub (ev_mod g158 (ev_add (ev_divW g154 (ev_var (i := 0) (by rfl)) ev_int) (ev_pow g155 ev_int ev_int)) (ev_add (ev_mulW g157 ev_int (ev_pow g156 ev_int ev_int)) ev_int)) (ev_pow g159 ev_int ev_int)))) (show 3 < 4 by decide) (ni _) ?_
      clear hst hw
      intro v_worth σ H hw hst
      exact hN153 v_worth _ _ hw (hst.weak (.same (.drop (.same (.same .nil)))))
    · clear hst hw ok
      intro W152 hN153p H ok hw hst hN153
      refine s_next ?_
      exact hN153 v_worth _ _ hw (hst.weak (.same (.drop (.same (.same .nil)))))
    · clear hst hw
      intro v_worth σ H hw hst
      have hw : W (m_law_leaf_J1 v_worth) := hw
      have hst : Stt F [some (oD eI v_cell), none, none, some (oD eI v_worth)] [] σ H := hst
      replace hst := hst.weak (Γ' := [none, none, none, some (oD eI v_worth)]) (.drop (.same (.same (.same .nil))))
      unfold m_law_leaf_J1 at hw
      refine q_nx ?_
      exact s_retF (t := oD (e2 (eL eS) (eU eA))) hst hw ok (mv_map (f := fun (x161 : ((List (List Nat)) × Unit)) => (x161.1, ([(eI v_worth)] : (List Dt)))) (mv_tup (ma_consM (mv_frz (mv_map (f := fun (x160 : ((List Nat) × Unit)) => ([x160.1] : (List (List Nat)))) (mv_lst (ma_consM (mv_callP (x := v_worth) (ea_cons (ev_var (i := 3) (by rfl)) ea_nil) rfl rfl (fun _ _ _ h => h) (wkN (by rfl))) fun _ => (ma_ok (ds := fun _ => []) ea_nil)) fun _ => (show 1 ≤ 1000 by decide)) fun _ => rfl)) fun _ => (ma_consP (ev_tup (ea_cons (ev_var (i := 3) (by rfl)) ea_nil) (show 1 ≤ 1000 by decide)) (ma_ok (ds := fun _ => []) ea_nil))) fun _ => (show 2 ≤ 1000 by decide)) fun _ => rfl) fun a v H w s => rt _ _ _ _ _ _ w s
theorem bn_part_in (tx : Tx K mg) : Binds K tx.d_part_in ["word"] [] := tx.F_part_in.bindsN fun _ _ _ _ _ _ us hl => match us, hl with | [_], _ => rfl
theorem ok_part_in (tx : Tx K mg) : FnOk P w K mg base (L2.CX P w) 3 tx.f_part_in tx.d_part_in ["word"] (sp_part_in K tx.Ce) := by
  refine tx.F_part_in.ok sc_part_in (fun vs H Q E h => spF_len (n := 1) rfl vs H Q E h) (fun cdv A outer s H vs Q E hr h => ⟨_, (pss_cons (ps_if (pt_val (pe_callS (E := WE (fun cls d _ H => E cls d H)) (ok_is_name tx) (hr.mono (by decide)) (by rfl) tx.g_is_name tx.F_is_name.kp (bn_is_name tx) (fun σ => passAt (takes_of rfl rfl rfl rfl) σ) (pa_cons (pv 0) pa_nil))) (pss_one (ps_ret (pv 0))) pss_nil) (pss_one (ps_tryOnlyXW rfl rfl ⟨by rfl, by decide, Or.inl tx.x_NoNumber⟩ (fun hd => L2H.passesAt_of rfl hd) (takes_of rfl rfl rfl rfl) (fun Wt pn xe tkN tk pw => (pss_one (ps_ret (pe_callS (E := WE Wt) (okN_worth_in tx) (hr.mono (by decide)) (by rfl) tx.g_worth_in tx.F_worth_in.kp (bn_worth_in tx) (fun σ => L2N.passAt tkN σ) (pa_cons (pv 0) pa_nil))))) (fun a oe cls d pn hz hf tkS hot => (pss_one (L2H.ps_raiseH hot tkS (L2N.pmk_own PySem.F.excBase_ValueError tx.q_NoTerm tx.x_NoTerm tx.k_NoTerm (raises_own tx.b_NoTerm tx.t_NoTerm) (by rfl)))))))), ?_⟩)
  obtain ⟨v_word, F, W, rfl, ni, hst, hw, ok, rt⟩ := spD_start N_part_in h
  generalize L2.start N_part_in vs = σ at hst ⊢
  have hw : W (m_part_in v_word) := hw
  replace ok := ok (List.replicate 1 none)
  have hst : Stt F [some (oD eS v_word)] [] σ H := hst
  unfold m_part_in at hw
  refine q_seq ?_
  refine s_ifM hst hw ok (mt_B (mv_callP (x := v_word) (ea_cons (ev_var (i := 0) (by rfl)) ea_nil) rfl rfl (fun _ _ _ h => h) (wkN (by rfl)))) ?_ ?_
  · clear hst hw
    intro H hw hst
    exact s_retF (t := oD eA) hst hw ok (mv_ok (t := oD eA) ((ev_var (i := 0) (by rfl)))) fun a v H w s => rt _ _ _ _ _ _ w s
  · clear hst hw
    intro H hw hst
    refine s_next ?_
    refine q_nx ?_
    refine s_tryOnlyXC (S := Unit) (β := Dt) (Γt := [some (oD eS v_word)]) (Γj := fun s162 => [some (oD eS v_word)]) hst hw ok (wkN (by rfl)) tx.ck0 (fun _ _ _ h hp => by rw [errAt_plain hp] at h; exact h) ?_ ?_ ?_
    · clear hw ok
      intro W163 Wx173 ok r171 hw hN165
      have rt169 := fun a v T Γ σ H' w s => rt a v T Γ σ H' (r171 a w) s
      exact s_retM (t := oD eA) hst hw ok (mv_map (f := fun a => eI a) (mv_callP (x := v_word) (ea_cons (ev_var (i := 0) (by rfl)) ea_nil) rfl rfl (fun _ _ _ h => h) (.same .nil)) fun _ => rfl) fun a v H w s => rt169 _ _ _ _ _ _ w s
    · clear hst hw ok
      intro e166 W164 a168 σ H hp167 ok r172 hw hst hN165
      have rt170 := fun a v T Γ σ H' w s => rt a v T Γ σ H' (r172 a w) s
      have hw : W164 (m_part_in_H1 e166 ) := hw
      unfold m_part_in_H1 at hw
      exact s_raise (C := tx.Ce .noTerm) hst hw ok (wkN (by rfl)) (fun _ _ _ h => h) fun h => h
    · clear hst hw
      intro s162 σ H hw hst
      have hw : W (m_part_in_J1 ) := hw
      have hst : Stt F [some (oD eS v_word)] [] σ H := hst
      replace hst := hst.weak (Γ' := [none]) (.drop .nil)
      unfold m_part_in_J1 at hw
      exact absurd hw ok.bad
theorem bn_law_term (tx : Tx K mg) : Binds K tx.d_law_term ["cells", "names"] [] := tx.F_law_term.bindsN fun _ _ _ _ _ _ us hl => match us, hl with | [_, _], _ => rfl
theorem ok_law_term (tx : Tx K mg) : FnOk P w K mg base (L2.CX P w) 3 tx.f_law_term tx.d_law_term ["cells", "names"] (sp_law_term K tx.Ce) := by
  refine tx.F_law_term.ok sc_law_term (fun vs H Q E h => spF_len (n := 2) rfl vs H Q E h) (fun cdv A outer s H vs Q E hr h => ⟨_, (pss_cons (ps_set (i := 2) sc_law_term.nd rfl (by first | exact Or.inl rfl | exact Or.inr rfl) (pe_lst pa_nil)) (pss_cons (ps_set (i := 3) sc_law_term.nd rfl (by first | exact Or.inl rfl | exact Or.inr rfl) pe_int) (pss_cons (ps_for (passes_of rfl) rfl (pi_list (pv 0)) (pg_name (i := 4) sc_law_term.nd rfl (by first | exact Or.inl rfl | exact Or.inr rfl)) (pss_one (ps_if (pw_and (pt_cmpR op_gt (pe_callB (r := rLenK K) call_len_seq (by rfl) tx.n_len (by rfl) (pa_cons (pv 2) pa_nil)) pe_int (by first | exact nomark _ | rfl)) (pw_and1 (pw_or (pt_cmpR op_eq (pe_op op_mod (pv 4) pe_int) pe_int (by first | exact nomark _ | rfl)) (pw_or1 (pt_cmpR op_eq (pv 3) pe_int (by first | exact nomark _ | rfl)))).pt)).pt (pss_one (ps_set (i := 2) sc_law_term.nd rfl (by first | exact Or.inl rfl | exact Or.inr rfl) (pe_callS (E := WE (fun cls d _ H => E cls d H)) (ok_law_joined tx) (hr.mono (by decide)) (by rfl) tx.g_law_joined tx.F_law_joined.kp (bn_law_joined tx) (fun σ => passAt (takes_of rfl rfl rfl rfl) σ) (pa_cons (pv 2) (pa_cons (pe_op op_fdivW (pv 4) pe_int) pa_nil))))) (pss_one (ps_if (pt_cmpR op_lt (pv 3) pe_int (by first | exact nomark _ | rfl)) (pss_cons (ps_set (i := 2) sc_law_term.nd rfl (by first | exact Or.inl rfl | exact Or.inr rfl) (pe_op op_cat (pv 2) (pe_lst (pa_cons (pe_callS (E := WE (fun cls d _ H => E cls d H)) (ok_law_leaf tx) (hr.mono (by decide)) (by rfl) tx.g_law_leaf tx.F_law_leaf.kp (bn_law_leaf tx) (fun σ => passAt (takes_of rfl rfl rfl rfl) σ) (pa_cons (pe_op op_fdivW (pv 4) pe_int) (pa_cons (pv 1) pa_nil))) pa_nil)))) (pss_one (ps_aug (i := 3) sc_law_term.nd rfl (by first | exact Or.inl rfl | exact Or.inr rfl) pe_int ip_add))) pss_nil))))) (pss_cons (ps_if (pt_cmpR (r := rEqD K) (op_eqD hr.units) (pv 2) (pe_lst pa_nil) (by first | exact nomark _ | rfl)) (pss_one (ps_set (i := 2) sc_law_term.nd rfl (by first | exact Or.inl rfl | exact Or.inr rfl) (pe_lst (pa_cons (pe_callS (E := WE (fun cls d _ H => E cls d H)) (ok_law_leaf tx) (hr.mono (by decide)) (by rfl) tx.g_law_leaf tx.F_law_leaf.kp (bn_law_leaf tx) (fun σ => passAt (takes_of rfl rfl rfl rfl) σ) (pa_cons pe_int (pa_cons (pv 1) pa_nil))) pa_nil)))) pss_nil) (pss_cons (ps_while (passes_of rfl) (pt_cmpR op_gt (pe_callB (r := rLenK K) call_len_seq (by rfl) tx.n_len (by rfl) (pa_cons (pv 2) pa_nil)) pe_int (by first | exact nomark _ | rfl)) (pss_one (ps_set (i := 2) sc_law_term.nd rfl (by first | exact Or.inl rfl | exact Or.inr rfl) (pe_callS (E := WE (fun cls d _ H => E cls d H)) (ok_law_joined tx) (hr.mono (by decide)) (by rfl) tx.g_law_joined tx.F_law_joined.kp (bn_law_joined tx) (fun σ => passAt (takes_of rfl rfl rfl rfl) σ) (pa_cons (pv 2) (pa_cons (pe_op op_add (pe_op op_mulW (pe_callB (r := rLenK K) call_len_seq (by rfl) tx.n_len (by rfl) (pa_cons (pv 2) pa_nil)) (pe_callB (r := rLenK K) call_len_seq (by rfl) tx.n_len (by rfl) (pa_cons (pv 2) pa_nil))) (pv 3)) pa_nil)))))) (pss_one (ps_ret (pe_ix (r := rIxL K) ix_list (pv 2) pe_int (fun _ _ => rfl))))))))), ?_⟩)
  obtain ⟨x, F, W, rfl, ni, hst, hw, ok, rt⟩ := spD_start N_law_term h
  obtain ⟨v_cells, v_names⟩ := x
  generalize L2.start N_law_term vs = σ at hst ⊢
  have hw : W (m_law_term v_cells v_names) := hw
  replace ok := ok (List.replicate 5 none)
  have hst : Stt F [some (oD (eL eI) v_cells), some (oD (eL eS) v_names), none, none, none] [] σ H := hst
  unfold m_law_term at hw
  refine q_seq ?_
  refine s_asgM (t := oD (eL (e2 (eL eS) (eU eA)))) hst hw ok (mv_ok (t := oD (eL (e2 (eL eS) (eU eA)))) ((ev_frz (ev_lst ea_nil (show 0 ≤ 1000 by decide))))) (show 2 < 5 by decide) (ni _) ?_
  clear hst hw
  intro v_some σ H hw hst
  refine q_nx ?_
  refine q_seq ?_
  refine s_asgM (t := oD eI) hst hw ok (mv_ok (t := oD eI) (ev_int)) (show 3 < 5 by decide) (ni _) ?_
  clear hst hw
  intro v_leaves σ H hw hst
  refine q_nx ?_
  refine q_seq ?_
  refine s_foldM (S := ((List ((List (List Nat)) × (List Dt))) × Int)) (xs := fun c192 => c192) (enc := eI) (f := fun c192 y174 s175 => m_law_term_L1 v_names s175.1 s175.2 y174) (Γs := fun s175 => [none, some (oD (eL eS) v_names), some (oD (eL (e2 (eL eS) (eU eA))) s175.1), some (oD eI s175.2), none]) (Γb := fun _ y174 s175 => [none, some (oD (eL eS) v_names), some (oD (eL (e2 (eL eS) (eU eA))) s175.1), some (oD eI s175.2), some (oD eI y174)]) (s0 := (v_some, v_leaves)) hst hw ok (sr_list (mv_ok (t := oD (eL eI)) ((ev_var (i := 0) (by rfl))))) (.drop (.same (.same (.same (.same .nil))))) (fun _ _ _ => (tg_name (j := 4) (show 4 < 5 by decide) (ni _))) ?_ ?_
  · clear hst hw ok
    intro _ v_cell s175 W176 hN177p T179 σ H ok hw hst hN177
    obtain ⟨v_some, v_leaves⟩ := s175
    have hw : W176 (m_law_term_L1 v_names v_some v_leaves v_cell) := hw
    have hst : Stt F [none, some (oD (eL eS) v_names), some (oD (eL (e2 (eL eS) (eU eA))) v_some), some (oD eI v_leaves), some (oD eI v_cell)] T179 σ H := hst
    unfold m_law_term_L1 at hw
    refine s_ifM hst hw ok (mt_and (mt_ok (et_test (ev_gt (ev_lenLE (enc := (e2 (eL eS) (eU eA))) (el_dat (ev_var (i := 2) (by rfl)))) ev_int))) (mt_guard fun g181 => mt_ok (et_or (et_test (ev_eqI (ev_mod g181 (ev_var (i := 4) (by rfl)) ev_int) ev_int)) (et_test (ev_eqI (ev_var (i := 3) (by rfl)) ev_int))))) ?_ ?_
    · clear hst hw
      intro H hw hst
      refine s_asgM (t := oD (eL (e2 (eL eS) (eU eA)))) hst hw ok (mv_guard fun g182 => (mv_callP (x := (v_some, (v_cell / (3 : Int)))) (ea_cons (ev_var (i := 2) (by rfl)) (ea_cons (ev_divW g182 (ev_var (i := 4) (by rfl)) ev_int) ea_nil)) rfl rfl (fun _ _ _ h => h) (wkN (by rfl)))) (show 2 < 5 by decide) (ni _) ?_
      clear hst hw
      intro v_some σ H hw hst
      exact hN177 (v_some, v_leaves) _ _ hw (hst.weak (.same (.same (.same (.same (.drop .nil))))))
    · clear hst hw
      intro H hw hst
      refine s_ifJ (S := ((List ((List (List Nat)) × (List Dt))) × Int)) (Γj := fun s183 => [none, some (oD (eL eS) v_names), some (oD (eL (e2 (eL eS) (eU eA))) s183.1), some (oD eI s183.2), some (oD eI v_cell)]) hst hw ok (mt_ok (et_test (ev_lt (ev_var (i := 3) (by rfl)) ev_int))) ?_ ?_ ?_
      · clear hst hw ok
        intro W184 hN185p H ok hw hst hN185
        refine q_seq ?_
        refine s_asgM (t := oD (eL (e2 (eL eS) (eU eA)))) hst hw ok (mv_frz (ml_cat (enc := (e2 (eL eS) (eU eA))) (ml_ok (enc := (e2 (eL eS) (eU eA))) ((el_dat (ev_var (i := 2) (by rfl))))) (ml_own (mv_map (f := fun (x187 : (((List (List Nat)) × (List Dt)) × Unit)) => ([x187.1] : (List ((List (List Nat)) × (List Dt))))) (mv_lst (ma_consM (mv_guard fun g186 => (mv_callP (x := ((v_cell / (3 : Int)), v_names)) (ea_cons (ev_divW g186 (ev_var (i := 4) (by rfl)) ev_int) (ea_cons (ev_var (i := 1) (by rfl)) ea_nil)) rfl rfl (fun _ _ _ h => h) (wkN (by rfl)))) fun _ => (ma_ok (ds := fun _ => []) ea_nil)) fun _ => (show 1 ≤ 1000 by decide)) fun _ => rfl)))) (show 2 < 5 by decide) (ni _) ?_
        clear hst hw
        intro v_some σ H hw hst
        refine q_nx ?_
        refine s_augI (g := fun i j => i + j) hst hw ok (by rfl) (mv_ok (t := oD eI) (ev_int)) (show 3 < 5 by decide) (ni _) ?_
        clear hst hw
        intro v_leaves σ H hw hst
        exact hN185 (v_some, v_leaves) _ _ hw (hst.weak (.same (.same (.same (.same (.same .nil))))))
      · clear hst hw ok
        intro W184 hN185p H ok hw hst hN185
        refine s_next ?_
        exact hN185 (v_some, v_leaves) _ _ hw (hst.weak (.same (.same (.same (.same (.same .nil))))))
      · clear hst hw
        intro s183 σ H hw hst
        obtain ⟨v_some, v_leaves⟩ := s183
        have hw : W176 (m_law_term_J1 v_some v_leaves) := hw
        have hst : Stt F [none, some (oD (eL eS) v_names), some (oD (eL (e2 (eL eS) (eU eA))) v_some), some (oD eI v_leaves), some (oD eI v_cell)] T179 σ H := hst
        replace hst := hst.weak (Γ' := [none, some (oD (eL eS) v_names), some (oD (eL (e2 (eL eS) (eU eA))) v_some), some (oD eI v_leaves), none]) (.same (.same (.same (.same (.drop .nil)))))
        unfold m_law_term_J1 at hw
        exact hN177 (v_some, v_leaves) _ _ hw (hst.weak (.same (.same (.same (.same (.same .nil))))))
  · clear hst hw
    intro s175 σ H hw hst
    obtain ⟨v_some, v_leaves⟩ := s175
    have hw : W (m_law_term_J2 v_names v_some v_leaves) := hw
    have hst : Stt F [none, some (oD (eL eS) v_names), some (oD (eL (e2 (eL eS) (eU eA))) v_some), some (oD eI v_leaves), none] [] σ H := hst
    replace hst := hst.weak (Γ' := [none, some (oD (eL eS) v_names), some (oD (eL (e2 (eL eS) (eU eA))) v_some), some (oD eI v_leaves), none]) (.same (.same (.same (.same (.same .nil)))))
    unfold m_law_term_J2 at hw
    refine q_nx ?_
    refine q_seq ?_
    refine s_ifJ (S := (List ((List (List Nat)) × (List Dt)))) (Γj := fun s194 => [none, none, some (oD (eL (e2 (eL eS) (eU eA))) s194), some (oD eI v_leaves), none]) hst hw ok (mt_guard fun g193 => mt_ok (et_test (ev_eqNil (enc := (e2 (eL eS) (eU eA))) g193 (eq_l (el_dat (ev_var (i := 2) (by rfl)))) (eq_l (el_own (ev_lst ea_nil (show 0 ≤ 1000 by decide))))))) ?_ ?_ ?_
    · clear hst hw ok
      intro W195 hN196p H ok hw hst hN196
      refine s_asgM (t := oD (eL (e2 (eL eS) (eU eA)))) hst hw ok (mv_frz (mv_map (f := fun (x197 : (((List (List Nat)) × (List Dt)) × Unit)) => ([x197.1] : (List ((List (List Nat)) × (List Dt))))) (mv_lst (ma_consM (mv_callP (x := ((0 : Int), v_names)) (ea_cons ev_int (ea_cons (ev_var (i := 1) (by rfl)) ea_nil)) rfl rfl (fun _ _ _ h => h) (wkN (by rfl))) fun _ => (ma_ok (ds := fun _ => []) ea_nil)) fun _ => (show 1 ≤ 1000 by decide)) fun _ => rfl)) (show 2 < 5 by decide) (ni _) ?_
      clear hst hw
      intro v_some σ H hw hst
      exact hN196 v_some _ _ hw (hst.weak (.same (.drop (.same (.same (.same .nil))))))
    · clear hst hw ok
      intro W195 hN196p H ok hw hst hN196
      refine s_next ?_
      exact hN196 v_some _ _ hw (hst.weak (.same (.drop (.same (.same (.same .nil))))))
    · clear hst hw
      intro v_some σ H hw hst
      have hw : W (m_law_term_J3 v_some v_leaves) := hw
      have hst : Stt F [none, none, some (oD (eL (e2 (eL eS) (eU eA))) v_some), some (oD eI v_leaves), none] [] σ H := hst
      replace hst := hst.weak (Γ' := [none, none, some (oD (eL (e2 (eL eS) (eU eA))) v_some), some (oD eI v_leaves), none]) (.same (.same (.same (.same (.same .nil)))))
      unfold m_law_term_J3 at hw
      refine q_nx ?_
      refine q_seq ?_
      refine s_whileM (S := (List ((List (List Nat)) × (List Dt)))) (β := ((List (List Nat)) × (List Dt))) (Γs := fun s198 => [none, none, some (oD (eL (e2 (eL eS) (eU eA))) s198), some (oD eI v_leaves), none]) (s0 := v_some) hst hw ok (.same (.same (.same (.same (.same .nil))))) ?_ ?_ ?_
      · clear hst hw
        intro v_some
        show MT F _ _ _ [none, none, some (oD (eL (e2 (eL eS) (eU eA))) v_some), some (oD eI v_leaves), none] (m_law_term_Q1 v_some)
        unfold m_law_term_Q1
        exact (mt_ok (et_test (ev_gt (ev_lenLE (enc := (e2 (eL eS) (eU eA))) (el_dat (ev_var (i := 2) (by rfl)))) ev_int)))
      · clear hst hw ok
        intro v_some W199 hN200p hB201p σ H ok r202 hw hst hN200 hB201
        have rt203 := fun a v T Γ σ H' w s => rt a v T Γ σ H' (r202 a w) s
        have hw : W199 (m_law_term_L2 v_some v_leaves) := hw
        have hst : Stt F [none, none, some (oD (eL (e2 (eL eS) (eU eA))) v_some), some (oD eI v_leaves), none] [] σ H := hst
        unfold m_law_term_L2 at hw
        refine s_asgM (t := oD (eL (e2 (eL eS) (eU eA)))) hst hw ok (mv_guard fun g204 => (mv_callP (x := (v_some, (((v_some.length : Int) * (v_some.length : Int)) + v_leaves))) (ea_cons (ev_var (i := 2) (by rfl)) (ea_cons (ev_add (ev_mulW g204 (ev_lenLE (enc := (e2 (eL eS) (eU eA))) (el_dat (ev_var (i := 2) (by rfl)))) (ev_lenLE (enc := (e2 (eL eS) (eU eA))) (el_dat (ev_var (i := 2) (by rfl))))) (ev_var (i := 3) (by rfl))) ea_nil)) rfl rfl (fun _ _ _ h => h) (wkN (by rfl)))) (show 2 < 5 by decide) (ni _) ?_
        clear hst hw
        intro v_some σ H hw hst
        exact hN200 v_some _ _ hw (hst.weak (.same (.same (.same (.same (.same .nil))))))
      · clear hst hw
        intro v_some σ H hw hst
        have hw : W (m_law_term_J4 v_some) := hw
        have hst : Stt F [none, none, some (oD (eL (e2 (eL eS) (eU eA))) v_some), some (oD eI v_leaves), none] [] σ H := hst
        replace hst := hst.weak (Γ' := [none, none, some (oD (eL (e2 (eL eS) (eU eA))) v_some), none, none]) (.same (.same (.same (.drop (.same .nil)))))
        unfold m_law_term_J4 at hw
        refine q_nx ?_
        exact s_retF (t := oD (e2 (eL eS) (eU eA))) hst hw ok (mv_guard fun g205 => mv_ok (t := oD (e2 (eL eS) (eU eA))) ((ev_ixL (enc := (e2 (eL eS) (eU eA))) g205 (el_dat (ev_var (i := 2) (by rfl))) ev_int))) fun a v H w s => rt _ _ _ _ _ _ w s
theorem bn_term_from (tx : Tx K mg) : Binds K tx.d_term_from ["words", "at"] [] := tx.F_term_from.bindsN fun _ _ _ _ _ _ us hl => match us, hl with | [_, _], _ => rfl
theorem ok_term_from (tx : Tx K mg) : FnOk P w K mg base (L2.CX P w) 4 tx.f_term_from tx.d_term_from ["words", "at"] (sp_term_from K tx.Ce) := by
  refine tx.F_term_from.ok sc_term_from (fun vs H Q E h => spF_len (n := 2) rfl vs H Q E h) (fun cdv A outer s H vs Q E hr h => ⟨_, (pss_cons (ps_set (i := 2) sc_term_from.nd rfl (by first | exact Or.inl rfl | exact Or.inr rfl) (pe_lst pa_nil)) (pss_cons (ps_set (i := 3) sc_term_from.nd rfl (by first | exact Or.inl rfl | exact Or.inr rfl) (pe_lst pa_nil)) (pss_cons (ps_set (i := 4) sc_term_from.nd rfl (by first | exact Or.inl rfl | exact Or.inr rfl) (pe_lst pa_nil)) (pss_cons (ps_set (i := 5) sc_term_from.nd rfl (by first | exact Or.inl rfl | exact Or.inr rfl) (pv 1)) (pss_cons (ps_while (passes_of rfl) (pw_and (pt_cmpR op_lt (pv 5) (pe_callB (r := rLenK K) call_len_seq (by rfl) tx.n_len (by rfl) (pa_cons (pv 0) pa_nil)) (by first | exact nomark _ | rfl)) (pw_and1 (pt_cmpR op_lt (pe_op op_sub (pv 5) (pv 1)) (C8.pe_gc (by rfl) tx.c_MOST_WORDS) (by first | exact nomark _ | rfl)))).pt (pss_cons (ps_set (i := 6) sc_term_from.nd rfl (by first | exact Or.inl rfl | exact Or.inr rfl) (pe_ix (r := rIxL K) ix_list (pv 0) (pv 5) (fun _ _ => rfl))) (pss_cons (ps_aug (i := 5) sc_term_from.nd rfl (by first | exact Or.inl rfl | exact Or.inr rfl) pe_int ip_add) (pss_cons (ps_if (pt_cmpR (r := rIn K false) op_in_seq (pv 6) (C8.pe_gc (by rfl) tx.c_DOERS) (by first | exact nomark _ | rfl)) (pss_cons (ps_expr (pe_bm PySem.F.plainAttrs_list PySem.F.slot_list_append PySem.F.type_list_append mt_append (pv 3) (pa_cons (pv 6) pa_nil))) (pss_cons (ps_expr (pe_bm PySem.F.plainAttrs_list PySem.F.slot_list_append PySem.F.type_list_append mt_append (pv 4) (pa_cons pe_int pa_nil))) (pss_one ps_continue))) pss_nil) (pss_cons (ps_expr (pe_bm PySem.F.plainAttrs_list PySem.F.slot_list_append PySem.F.type_list_append mt_append (pv 2) (pa_cons (pe_callS (E := WE (fun cls d _ H => E cls d H)) (ok_part_in tx) (hr.mono (by decide)) (by rfl) tx.g_part_in tx.F_part_in.kp (bn_part_in tx) (fun σ => passAt (takes_of rfl rfl rfl rfl) σ) (pa_cons (pv 6) pa_nil)) pa_nil))) (pss_cons (ps_while (passes_of rfl) (pw_and (pt_cmpR (r := rNeD K) (op_neD hr.units) (pv 3) (pe_lst pa_nil) (by first | exact nomark _ | rfl)) (pw_and1 (pt_cmpR op_eq (pe_ix (r := rIxL K) ix_list (pv 4) (pe_un un_neg pe_int) (fun _ _ => rfl)) pe_int (by first | exact nomark _ | rfl)))).pt (pss_cons (ps_expr (pe_bm PySem.F.plainAttrs_list PySem.F.slot_list_append PySem.F.type_list_append mt_append (pv 2) (pa_cons (pe_bm0 PySem.F.plainAttrs_list PySem.F.slot_list_pop PySem.F.type_list_pop mt_pop (pv 3)) pa_nil))) (pss_one (ps_expr (pe_bm0 PySem.F.plainAttrs_list PySem.F.slot_list_pop PySem.F.type_list_pop mt_pop (pv 4)))))) (pss_cons (ps_if (pt_cmpR (r := rEqD K) (op_eqD hr.units) (pv 3) (pe_lst pa_nil) (by first | exact nomark _ | rfl)) (pss_one (ps_ret (pe_tup (pa_cons (pe_callTy (r := rTupK K) call_tuple_of (by rfl) tx.n_tuple (by rfl) (pa_cons (pv 2) pa_nil)) (pa_cons (pv 5) pa_nil))))) pss_nil) (pss_one (ps_asg pe_int (pg_sub (pv 4) (pe_un un_neg pe_int) set_list)))))))))) (pss_one (ps_raise rfl (takes_of rfl rfl rfl rfl) (pmk_own PySem.F.excBase_ValueError tx.q_NoTerm tx.x_NoTerm tx.k_NoTerm (raises_own tx.b_NoTerm tx.t_NoTerm) (by rfl))))))))), ?_⟩)
  obtain ⟨x, F, W, rfl, ni, hst, hw, ok, rt⟩ := spD_start N_term_from h
  obtain ⟨v_words, v_at⟩ := x
  generalize L2.start N_term_from vs = σ at hst ⊢
  have hw : W (m_term_from v_words v_at) := hw
  replace ok := ok (List.replicate 7 none)
  have hst : Stt F [some (oD (eL eS) v_words), some (oD eI v_at), none, none, none, none, none] [] σ H := hst
  unfold m_term_from at hw
  refine q_seq ?_
  refine s_asgM (t := oL eA) hst hw ok (mv_ok (t := oL eA) ((ev_lst ea_nil (show 0 ≤ 1000 by decide)))) (show 2 < 7 by decide) (ni _) ?_
  clear hst hw
  intro v_told σ H hw hst
  refine q_nx ?_
  refine q_seq ?_
  refine s_asgM (t := oL eS) hst hw ok (mv_ok (t := oL eS) ((ev_lst ea_nil (show 0 ≤ 1000 by decide)))) (show 3 < 7 by decide) (ni _) ?_
  clear hst hw
  intro v_waiting σ H hw hst
  refine q_nx ?_
  refine q_seq ?_
  refine s_asgM (t := oL eI) hst hw ok (mv_ok (t := oL eI) ((ev_lst ea_nil (show 0 ≤ 1000 by decide)))) (show 4 < 7 by decide) (ni _) ?_
  clear hst hw
  intro v_lacking σ H hw hst
  refine q_nx ?_
  refine q_seq ?_
  refine s_asgM (t := oD eI) hst hw ok (mv_ok (t := oD eI) ((ev_var (i := 1) (by rfl)))) (show 5 < 7 by decide) (ni _) ?_
  clear hst hw
  intro v_place σ H hw hst
  refine q_nx ?_
  refine q_seq ?_
  refine s_whileM (S := ((List Dt) × (List (List Nat)) × (List Int) × Int)) (β := ((List Dt) × Int)) (Γs := fun s206 => [some (oD (eL eS) v_words), some (oD eI v_at), some (oL eA s206.1), some (oL eS s206.2.1), some (oL eI s206.2.2.1), some (oD eI s206.2.2.2), none]) (s0 := (v_told, v_waiting, v_lacking, v_place)) hst hw ok (.same (.same (.same (.same (.same (.same (.same .nil))))))) ?_ ?_ ?_
  · clear hst hw
    intro s206
    obtain ⟨v_told, v_waiting, v_lacking, v_place⟩ := s206
    show MT F _ _ _ [some (oD (eL eS) v_words), some (oD eI v_at), some (oL eA v_told), some (oL eS v_waiting), some (oL eI v_lacking), some (oD eI v_place), none] (m_term_from_Q1 v_words v_at v_place)
    unfold m_term_from_Q1
    exact (mt_ok (et_and (et_test (ev_lt (ev_var (i := 5) (by rfl)) (ev_lenLE (enc := eS) (el_dat (ev_var (i := 0) (by rfl)))))) (et_test (ev_lt (ev_sub (ev_var (i := 5) (by rfl)) (ev_var (i := 1) (by rfl))) ev_int))))
  · clear hst hw ok
    intro s206 W207 hN208p hB209p σ H ok r210 hw hst hN208 hB209
    obtain ⟨v_told, v_waiting, v_lacking, v_place⟩ := s206
    have rt211 := fun a v T Γ σ H' w s => rt a v T Γ σ H' (r210 a w) s
    have hw : W207 (m_term_from_L1 v_words v_told v_waiting v_lacking v_place) := hw
    have hst : Stt F [some (oD (eL eS) v_words), some (oD eI v_at), some (oL eA v_told), some (oL eS v_waiting), some (oL eI v_lacking), some (oD eI v_place), none] [] σ H := hst
    unfold m_term_from_L1 at hw
    refine q_seq ?_
    refine s_asgM (t := oD eS) hst hw ok (mv_guard fun g212 => mv_ok (t := oD eS) ((ev_ixL (enc := eS) g212 (el_dat (ev_var (i := 0) (by rfl))) (ev_var (i := 5) (by rfl))))) (show 6 < 7 by decide) (ni _) ?_
    clear hst hw
    intro v_word σ H hw hst
    refine q_nx ?_
    refine q_seq ?_
    refine s_augI (g := fun i j => i + j) hst hw ok (by rfl) (mv_ok (t := oD eI) (ev_int)) (show 5 < 7 by decide) (ni _) ?_
    clear hst hw
    intro v_place σ H hw hst
    refine q_nx ?_
    refine q_seq ?_
    refine s_ifM hst hw ok (mt_ok (et_test (ev_inTX (ev_var (i := 6) (by rfl)) (ev_globT tx.s_DOERS (tx.r_DOERS))))) ?_ ?_
    · clear hst hw
      intro H hw hst
      refine q_seq ?_
      refine s_appE (enc := eS) (xs := v_waiting) hst hw ok (by rfl) (mv_ok (t := oD eS) ((ev_var (i := 6) (by rfl)))) ?_
      clear hst hw
      intro v_waiting σ H hw hst
      refine q_nx ?_
      refine q_seq ?_
      refine s_appE (enc := eI) (xs := v_lacking) hst hw ok (by rfl) (mv_ok (t := oD eI) (ev_int)) ?_
      clear hst hw
      intro v_lacking σ H hw hst
      refine q_nx ?_
      exact hN208 (v_told, v_waiting, v_lacking, v_place) _ _ hw (hst.weak (.same (.same (.same (.same (.same (.same (.drop .nil))))))))
    · clear hst hw
      intro H hw hst
      refine s_next ?_
      refine q_nx ?_
      refine q_seq ?_
      refine s_appE (enc := eA) (xs := v_told) hst hw ok (by rfl) (mv_callP (x := v_word) (ea_cons (ev_var (i := 6) (by rfl)) ea_nil) rfl rfl (fun _ _ _ h => h) (wkN (by rfl))) ?_
      clear hst hw
      intro v_told σ H hw hst
      refine q_nx ?_
      refine q_seq ?_
      refine s_whileM (S := ((List Dt) × (List (List Nat)) × (List Int))) (β := ((List Dt) × Int)) (Γs := fun s216 => [some (oD (eL eS) v_words), some (oD eI v_at), some (oL eA s216.1), some (oL eS s216.2.1), some (oL eI s216.2.2), some (oD eI v_place), some (oD eS v_word)]) (s0 := (v_told, v_waiting, v_lacking)) hst hw ok (.same (.same (.same (.same (.same (.same (.same .nil))))))) ?_ ?_ ?_
      · clear hst hw
        intro s216
        obtain ⟨v_told, v_waiting, v_lacking⟩ := s216
        show MT F _ _ _ [some (oD (eL eS) v_words), some (oD eI v_at), some (oL eA v_told), some (oL eS v_waiting), some (oL eI v_lacking), some (oD eI v_place), some (oD eS v_word)] (m_term_from_Q2 v_waiting v_lacking)
        unfold m_term_from_Q2
        exact (mt_and (mt_guard fun g221 => mt_ok (et_test (ev_neNil (enc := eS) g221 (eq_l (el_var (n := 3) (by rfl))) (eq_l (el_own (ev_lst ea_nil (show 0 ≤ 1000 by decide))))))) (mt_guard fun g222 => mt_ok (et_test (ev_eqI (ev_ixL (enc := eI) g222 (el_var (n := 4) (by rfl)) (ev_neg ev_int)) ev_int))))
      · clear hst hw ok
        intro s216 W217 hN218p hB219p σ H ok r220 hw hst hN218 hB219
        obtain ⟨v_told, v_waiting, v_lacking⟩ := s216
        have rt223 := fun a v T Γ σ H' w s => rt211 a v T Γ σ H' (r220 a w) s
        have hw : W217 (m_term_from_L2 v_told v_waiting v_lacking) := hw
        have hst : Stt F [some (oD (eL eS) v_words), some (oD eI v_at), some (oL eA v_told), some (oL eS v_waiting), some (oL eI v_lacking), some (oD eI v_place), some (oD eS v_word)] [] σ H := hst
        unfold m_term_from_L2 at hw
        refine q_seq ?_
        refine s_appP (n := 3) (n1 := 2) (enc1 := eA) (enc := eS) (xs := v_told) hst hw ok (by rfl) (show 3 ≠ 2 by decide) (mp_map (t' := oD eA) (fun (a : (List Nat)) => (eS a)) (mp_pop (enc := eS) (by rfl)) fun _ => rfl) ?_
        clear hst hw
        intro v_waiting v_told σ H hw hst
        refine q_nx ?_
        refine s_dropP (n := 4) (enc := eI) hst hw ok (mp_pop (enc := eI) (by rfl)) ?_
        clear hst hw
        intro v_lacking σ H hw hst
        exact hN218 (v_told, v_waiting, v_lacking) _ _ hw (hst.weak (.same (.same (.same (.same (.same (.same (.same .nil))))))))
      · clear hst hw
        intro s216 σ H hw hst
        obtain ⟨v_told, v_waiting, v_lacking⟩ := s216
        have hw : W207 (m_term_from_J1 v_told v_waiting v_lacking v_place) := hw
        have hst : Stt F [some (oD (eL eS) v_words), some (oD eI v_at), some (oL eA v_told), some (oL eS v_waiting), some (oL eI v_lacking), some (oD eI v_place), some (oD eS v_word)] [] σ H := hst
        replace hst := hst.weak (Γ' := [some (oD (eL eS) v_words), some (oD eI v_at), some (oL eA v_told), some (oL eS v_waiting), some (oL eI v_lacking), some (oD eI v_place), none]) (.same (.same (.same (.same (.same (.same (.drop .nil)))))))
        unfold m_term_from_J1 at hw
        refine q_nx ?_
        refine q_seq ?_
        refine s_ifM hst hw ok (mt_guard fun g225 => mt_ok (et_test (ev_eqNil (enc := eS) g225 (eq_l (el_var (n := 3) (by rfl))) (eq_l (el_own (ev_lst ea_nil (show 0 ≤ 1000 by decide))))))) ?_ ?_
        · clear hst hw
          intro H hw hst
          have hst := hst.freezeAt (i := 2) (by rfl)
          exact s_retM (t := oD (e2 (eU eA) eI)) hst hw ok (mv_ok (t := oD (e2 (eU eA) eI)) ((ev_tup (ea_cons (ev_tupLE (enc := eA) (el_dat (ev_var (i := 2) (by rfl)))) (ea_cons (ev_var (i := 5) (by rfl)) ea_nil)) (show 2 ≤ 1000 by decide)))) fun a v H w s => rt211 _ _ _ _ _ _ w s
        · clear hst hw
          intro H hw hst
          refine s_next ?_
          refine q_nx ?_
          refine s_setL (n := 4) (enc := eI) (xs := v_lacking) hst hw ok (by rfl) (mv_ok (t := oD eI) (ev_int)) (ev_neg ev_int) ?_
          clear hst hw
          intro v_lacking σ H hw hst
          exact hN208 (v_told, v_waiting, v_lacking, v_place) _ _ hw (hst.weak (.same (.same (.same (.same (.same (.same (.same .nil))))))))
  · clear hst hw
    intro s206 σ H hw hst
    obtain ⟨v_told, v_waiting, v_lacking, v_place⟩ := s206
    have hw : W (m_term_from_J2 ) := hw
    have hst : Stt F [some (oD (eL eS) v_words), some (oD eI v_at), some (oL eA v_told), some (oL eS v_waiting), some (oL eI v_lacking), some (oD eI v_place), none] [] σ H := hst
    replace hst := hst.weak (Γ' := [none, none, none, none, none, none, none]) (.drop (.drop (.drop (.drop (.drop (.drop (.same .nil)))))))
    unfold m_term_from_J2 at hw
    refine q_nx ?_
    exact s_raise (C := tx.Ce .noTerm) hst hw ok (wkN (by rfl)) (fun _ _ _ h => h) fun h => h
theorem bn_law (tx : Tx K mg) : Binds K tx.d_law ["script"] [] := tx.F_law.bindsN fun _ _ _ _ _ _ us hl => match us, hl with | [_], _ => rfl
theorem ok_law (tx : Tx K mg) : FnOk P w K mg base L2.CX0 5 tx.f_law tx.d_law ["script"] (sp_law K tx.Ce) := by
  refine tx.F_law.ok sc_law (fun vs H Q E h => spF_len (n := 1) rfl vs H Q E h) (fun cdv A outer s H vs Q E hr h => ⟨_, (pss_cons (ps_set (i := 1) sc_law.nd rfl (by first | exact Or.inl rfl | exact Or.inr rfl) (pe_callS (E := fun _ => E0) (ok_law_names tx) (hr.mono (by decide)) (by rfl) tx.g_law_names tx.F_law_names.kp (bn_law_names tx) (fun _ => passAtL) (pa_cons (pe_callS (E := fun _ => E0) (ok_law_cell_at tx) (hr.mono (by decide)) (by rfl) tx.g_law_cell_at tx.F_law_cell_at.kp (bn_law_cell_at tx) (fun _ => passAtL) (pa_cons (pv 0) (pa_cons pe_int pa_nil))) pa_nil))) (pss_cons (ps_asg (pe_callS (E := fun _ => E0) (ok_law_term tx) (hr.mono (by decide)) (by rfl) tx.g_law_term tx.F_law_term.kp (bn_law_term tx) (fun _ => passAtL) (pa_cons (pe_slice (r := rSlL K) sl_list (pv 0) (po_some pe_int) po_none) (pa_cons (pv 1) pa_nil))) (pg_tup rfl (pgs_cons (pg_name (i := 2) sc_law.nd rfl (by first | exact Or.inl rfl | exact Or.inr rfl)) (pgs_cons (pg_name (i := 3) sc_law.nd rfl (by first | exact Or.inl rfl | exact Or.inr rfl)) pgs_nil)))) (pss_cons (ps_set (i := 4) sc_law.nd rfl (by first | exact Or.inl rfl | exact Or.inr rfl) (pe_callS (E := fun _ => E0) (ok_law_around tx) (hr.mono (by decide)) (by rfl) tx.g_law_around tx.F_law_around.kp (bn_law_around tx) (fun _ => passAtL) (pa_cons (pe_callS (E := fun _ => E0) (ok_law_mixed tx) (hr.mono (by decide)) (by rfl) tx.g_law_mixed tx.F_law_mixed.kp (bn_law_mixed tx) (fun _ => passAtL) (pa_cons (pe_callS (E := fun _ => E0) (ok_law_cell_at tx) (hr.mono (by decide)) (by rfl) tx.g_law_cell_at tx.F_law_cell_at.kp (bn_law_cell_at tx) (fun _ => passAtL) (pa_cons (pv 0) (pa_cons pe_int pa_nil))) (pa_cons pe_int pa_nil))) (pa_cons (pv 1) pa_nil)))) (pss_cons (ps_set (i := 5) sc_law.nd rfl (by first | exact Or.inl rfl | exact Or.inr rfl) (pe_callS (E := fun _ => E0) (ok_law_around tx) (hr.mono (by decide)) (by rfl) tx.g_law_around tx.F_law_around.kp (bn_law_around tx) (fun _ => passAtL) (pa_cons (pe_callS (E := fun _ => E0) (ok_law_mixed tx) (hr.mono (by decide)) (by rfl) tx.g_law_mixed tx.F_law_mixed.kp (bn_law_mixed tx) (fun _ => passAtL) (pa_cons (pe_callS (E := fun _ => E0) (ok_law_cell_at tx) (hr.mono (by decide)) (by rfl) tx.g_law_cell_at tx.F_law_cell_at.kp (bn_law_cell_at tx) (fun _ => passAtL) (pa_cons (pv 0) (pa_cons pe_int pa_nil))) (pa_cons pe_int pa_nil))) (pa_cons (pv 1) pa_nil)))) (pss_cons (ps_set (i := 6) sc_law.nd rfl (by first | exact Or.inl rfl | exact Or.inr rfl) (pe_op op_cat (pe_op op_cat (pv 4) (pv 2)) (pv 5))) (pss_cons (ps_set (i := 7) sc_law.nd rfl (by first | exact Or.inl rfl | exact Or.inr rfl) (pe_callS (E := fun _ => E0) (ok_term_from tx) (hr.mono (by decide)) (by rfl) tx.g_term_from tx.F_term_from.kp (bn_term_from tx) (fun _ => passAtL) (pa_cons (pv 6) (pa_cons (pe_callB (r := rLenK K) call_len_seq (by rfl) tx.n_len (by rfl) (pa_cons (pv 4) pa_nil)) pa_nil)))) (pss_cons (ps_if (pw_or (pt_not (pt_val (pe_callB (r := rIsi K) call_isi (by rfl) tx.n_isinstance (by rfl) (pa_cons (pv 7) (pa_cons (pe_bltn (v := .ty "tuple") (by rfl) tx.n_tuple (by rfl) rfl) pa_nil))))) (pw_or (pt_cmpR op_ne (pe_callB (r := rLenK K) call_len_seq (by rfl) tx.n_len (by rfl) (pa_cons (pv 7) pa_nil)) pe_int (by first | exact nomark _ | rfl)) (pw_or1 (pt_not (pt_val (pe_callS (E := fun _ => E0) (ok_law_alike tx) (hr.mono (by decide)) (by rfl) tx.g_law_alike tx.F_law_alike.kp (bn_law_alike tx) (fun _ => passAtL) (pa_cons (pe_ix (r := rIxT K) ix_tup (pv 7) pe_int (fun _ _ => rfl)) (pa_cons (pv 3) pa_nil)))))))).pt (pss_one (ps_ret pe_bl)) pss_nil) (pss_cons (ps_if (pw_or (pt_not (pt_val (pe_callB (r := rIsi K) call_isi (by rfl) tx.n_isinstance (by rfl) (pa_cons (pe_ix (r := rIxT K) ix_tup (pv 7) pe_int (fun _ _ => rfl)) (pa_cons (pe_bltn (v := .ty "int") (by rfl) tx.n_int (by rfl) rfl) pa_nil))))) (pw_or (pt_val (pe_callB (r := rIsi K) call_isi (by rfl) tx.n_isinstance (by rfl) (pa_cons (pe_ix (r := rIxT K) ix_tup (pv 7) pe_int (fun _ _ => rfl)) (pa_cons (pe_bltn (v := .ty "bool") (by rfl) tx.n_bool (by rfl) rfl) pa_nil)))) (pw_or1 (pt_cmpR op_ne (pe_ix (r := rIxT K) ix_tup (pv 7) pe_int (fun _ _ => rfl)) (pe_op op_add (pe_callB (r := rLenK K) call_len_seq (by rfl) tx.n_len (by rfl) (pa_cons (pv 4) pa_nil)) (pe_callB (r := rLenK K) call_len_seq (by rfl) tx.n_len (by rfl) (pa_cons (pv 2) pa_nil))) (by first | exact nomark _ | rfl))))).pt (pss_one (ps_ret pe_bl)) pss_nil) (pss_cons (ps_if (pt_cmpR (r := rNeD K) (op_neD hr.units) (pv 6) (pe_op op_cat (pe_op op_cat (pv 4) (pv 2)) (pv 5)) (by first | exact nomark _ | rfl)) (pss_one (ps_ret pe_bl)) pss_nil) (pss_cons (ps_set (i := 8) sc_law.nd rfl (by first | exact Or.inl rfl | exact Or.inr rfl) (pe_callS (E := fun _ => E0) (ok_words_of tx) (hr.mono (by decide)) (by rfl) tx.g_words_of tx.F_words_of.kp (bn_words_of tx) (fun _ => passAtL) (pa_cons (pv 3) pa_nil))) (pss_one (ps_ret (pe_and (pe_callB (r := rIsi K) call_isi (by rfl) tx.n_isinstance (by rfl) (pa_cons (pv 8) (pa_cons (pe_bltn (v := .ty "list") (by rfl) tx.n_list (by rfl) rfl) pa_nil))) (pe_one (pe_callS (E := fun _ => E0) (ok_law_alike tx) (hr.mono (by decide)) (by rfl) tx.g_law_alike tx.F_law_alike.kp (bn_law_alike tx) (fun _ => passAtL) (pa_cons (pe_callTy (r := rTupK K) call_tuple_of (by rfl) tx.n_tuple (by rfl) (pa_cons (pv 8) pa_nil)) (pa_cons (pe_callTy (r := rTupK K) call_tuple_of (by rfl) tx.n_tuple (by rfl) (pa_cons (pv 2) pa_nil)) pa_nil))))))))))))))))), ?_⟩)
  obtain ⟨v_script, F, W, rfl, ni, hst, hw, ok, rt⟩ := spD_start N_law h
  generalize L2.start N_law vs = σ at hst ⊢
  obtain ⟨W, hw, ok, rt⟩ := calm_of (m := m_law v_script) hw ok rt
  replace ok := ok (List.replicate 9 none)
  have hst : Stt F [some (oD eX v_script), none, none, none, none, none, none, none, none] [] σ H := hst
  unfold m_law at hw
  refine q_seq ?_
  refine s_asgM (t := oD (eL eS)) hst hw ok (mv_call (fun (x228 : (Int × Unit)) => x228.1) (ma_consM (mv_callP (x := (v_script, (0 : Int))) (ea_cons (ev_var (i := 0) (by rfl)) (ea_cons ev_int ea_nil)) rfl rfl (fun _ _ _ h => h.elim) (wkN (by rfl))) fun _ => (ma_ok (ds := fun _ => []) ea_nil)) (fun _ => rfl) (fun _ => rfl) (fun _ _ _ h => h.elim) (wkN (by rfl))) (show 1 < 9 by decide) (ni _) ?_
  clear hst hw
  intro v_names σ H hw hst
  refine q_nx ?_
  refine q_seq ?_
  refine s_asgT2 (Γ' := fun y229 => [some (oD eX v_script), some (oD (eL eS) v_names), some (oD (eL eS) y229.1), some (oD (eU eA) y229.2), none, none, none, none, none]) hst hw ok (mv_callP (x := ((cutL v_script (some (2 : Int)) none), v_names)) (ea_cons (ev_frz (ev_slX (ev_var (i := 0) (by rfl)) (eo_some ev_int) eo_no)) (ea_cons (ev_var (i := 1) (by rfl)) ea_nil)) rfl rfl (fun _ _ _ h => h.elim) (wkN (by rfl))) (fun _ => rfl) (fun _ => (tgs_cons (show 2 < 9 by decide) (ni _) (tgs_cons (show 3 < 9 by decide) (ni _) tgs_nil))) ?_
  clear hst hw
  intro v_words v_due σ H hw hst
  refine q_nx ?_
  refine q_seq ?_
  refine s_asgM (t := oD (eL eS)) hst hw ok (mv_call (fun (x231 : (Int × Unit)) => (x231.1, v_names)) (ma_consM (mv_call (fun (x230 : (Int × Unit)) => (x230.1, (1 : Int))) (ma_consM (mv_callP (x := (v_script, (1 : Int))) (ea_cons (ev_var (i := 0) (by rfl)) (ea_cons ev_int ea_nil)) rfl rfl (fun _ _ _ h => h.elim) (wkN (by rfl))) fun _ => (ma_consP ev_int (ma_ok (ds := fun _ => []) ea_nil))) (fun _ => rfl) (fun _ => rfl) (fun _ _ _ h => h.elim) (wkN (by rfl))) fun _ => (ma_consP (ev_var (i := 1) (by rfl)) (ma_ok (ds := fun _ => []) ea_nil))) (fun _ => rfl) (fun _ => rfl) (fun _ _ _ h => h.elim) (wkN (by rfl))) (show 4 < 9 by decide) (ni _) ?_
  clear hst hw
  intro v_ahead σ H hw hst
  refine q_nx ?_
  refine q_seq ?_
  refine s_asgM (t := oD (eL eS)) hst hw ok (mv_call (fun (x233 : (Int × Unit)) => (x233.1, v_names)) (ma_consM (mv_call (fun (x232 : (Int × Unit)) => (x232.1, (2 : Int))) (ma_consM (mv_callP (x := (v_script, (1 : Int))) (ea_cons (ev_var (i := 0) (by rfl)) (ea_cons ev_int ea_nil)) rfl rfl (fun _ _ _ h => h.elim) (wkN (by rfl))) fun _ => (ma_consP ev_int (ma_ok (ds := fun _ => []) ea_nil))) (fun _ => rfl) (fun _ => rfl) (fun _ _ _ h => h.elim) (wkN (by rfl))) fun _ => (ma_consP (ev_var (i := 1) (by rfl)) (ma_ok (ds := fun _ => []) ea_nil))) (fun _ => rfl) (fun _ => rfl) (fun _ _ _ h => h.elim) (wkN (by rfl))) (show 5 < 9 by decide) (ni _) ?_
  clear hst hw
  intro v_behind σ H hw hst
  refine q_nx ?_
  refine q_seq ?_
  refine s_asgM (t := oD (eL eS)) hst hw ok (mv_guard fun g234 => mv_guard fun g235 => mv_ok (t := oD (eL eS)) ((ev_frz (ev_catL (enc := eS) g235 (el_own (ev_catL (enc := eS) g234 (el_dat (ev_var (i := 4) (by rfl))) (el_dat (ev_var (i := 2) (by rfl))))) (el_dat (ev_var (i := 5) (by rfl))))))) (show 6 < 9 by decide) (ni _) ?_
  clear hst hw
  intro v_handed σ H hw hst
  refine q_nx ?_
  refine q_seq ?_
  refine s_asgM (t := oD (e2 (eU eA) eI)) hst hw ok (mv_callP (x := (v_handed, (v_ahead.length : Int))) (ea_cons (ev_var (i := 6) (by rfl)) (ea_cons (ev_lenLE (enc := eS) (el_dat (ev_var (i := 4) (by rfl)))) ea_nil)) rfl rfl (fun _ _ _ h => h.elim) (wkN (by rfl))) (show 7 < 9 by decide) (ni _) ?_
  clear hst hw
  intro v_found σ H hw hst
  refine q_nx ?_
  refine q_seq ?_
  refine s_ifM hst hw ok (mt_or (mt_ok (et_not (et_B (ev_isi (d := (e2 (eU eA) eI) v_found) (show kitB "tuple" "tuple" = some true by decide +kernel) (ev_var (i := 7) (by rfl)))))) (mt_or (mt_ok (et_test (ev_neI (ev_lenT (ds := [(eU eA) v_found.1, eI v_found.2]) (ev_var (i := 7) (by rfl))) ev_int))) (mt_not (mt_B (mv_callP (x := (v_found.1, v_due)) (ea_cons (ev_ixC (ds := [(eU eA) v_found.1, eI v_found.2]) (n := 0) (by rfl) (ev_var (i := 7) (by rfl)) ev_int) (ea_cons (ev_var (i := 3) (by rfl)) ea_nil)) rfl rfl (fun _ _ _ h => h.elim) (wkN (by rfl))))))) ?_ ?_
  · clear hst hw
    intro H hw hst
    exact s_retF (t := oD eB) hst hw ok (mv_ok (t := oD eB) (ev_bl)) fun a v H w s => rt _ _ _ _ _ _ w s
  · clear hst hw
    intro H hw hst
    refine s_next ?_
    refine q_nx ?_
    refine q_seq ?_
    refine s_ifM hst hw ok (mt_ok (et_or (et_not (et_B (ev_isi (d := eI v_found.2) (show kitB "int" "int" = some true by decide +kernel) (ev_ixC (ds := [(eU eA) v_found.1, eI v_found.2]) (n := 1) (by rfl) (ev_var (i := 7) (by rfl)) ev_int)))) (et_or (et_B (ev_isi (d := eI v_found.2) (show kitB "int" "bool" = some false by decide +kernel) (ev_ixC (ds := [(eU eA) v_found.1, eI v_found.2]) (n := 1) (by rfl) (ev_var (i := 7) (by rfl)) ev_int))) (et_test (ev_neI (ev_ixC (ds := [(eU eA) v_found.1, eI v_found.2]) (n := 1) (by rfl) (ev_var (i := 7) (by rfl)) ev_int) (ev_add (ev_lenLE (enc := eS) (el_dat (ev_var (i := 4) (by rfl)))) (ev_lenLE (enc := eS) (el_dat (ev_var (i := 2) (by rfl)))))))))) ?_ ?_
    · clear hst hw
      intro H hw hst
      exact s_retF (t := oD eB) hst hw ok (mv_ok (t := oD eB) (ev_bl)) fun a v H w s => rt _ _ _ _ _ _ w s
    · clear hst hw
      intro H hw hst
      refine s_next ?_
      refine q_nx ?_
      refine q_seq ?_
      refine s_ifM hst hw ok (mt_guard fun g236 => mt_guard fun g237 => mt_guard fun g238 => mt_ok (et_test (ev_neDD g238 (eq_d (ev_var (i := 6) (by rfl))) (eq_l (el_own (ev_catL (enc := eS) g237 (el_own (ev_catL (enc := eS) g236 (el_dat (ev_var (i := 4) (by rfl))) (el_dat (ev_var (i := 2) (by rfl))))) (el_dat (ev_var (i := 5) (by rfl))))))))) ?_ ?_
      · clear hst hw
        intro H hw hst
        exact s_retF (t := oD eB) hst hw ok (mv_ok (t := oD eB) (ev_bl)) fun a v H w s => rt _ _ _ _ _ _ w s
      · clear hst hw
        intro H hw hst
        refine s_next ?_
        refine q_nx ?_
        refine q_seq ?_
        refine s_asgM (t := oD (eL eA)) hst hw ok (mv_callP (x := v_due) (ea_cons (ev_var (i := 3) (by rfl)) ea_nil) rfl rfl (fun _ _ _ h => h.elim) (wkN (by rfl))) (show 8 < 9 by decide) (ni _) ?_
        clear hst hw
        intro v_told σ H hw hst
        refine q_nx ?_
        exact s_retF (t := oD eB) hst hw ok (mv_andV (mv_ok (t := oD eB) ((ev_isi (d := (eL eA) v_told) (show kitB "list" "list" = some true by decide +kernel) (ev_var (i := 8) (by rfl))))) (mv_callP (x := (v_told, (List.map eS v_words))) (ea_cons (ev_tupLE (enc := eA) (el_dat (ev_var (i := 8) (by rfl)))) (ea_cons (ev_homA (enc := eS) (ev_tupLE (enc := eS) (el_dat (ev_var (i := 2) (by rfl))))) ea_nil)) rfl rfl (fun _ _ _ h => h.elim) (wkN (by rfl)))) fun a v H w s => rt _ _ _ _ _ _ w s
end
def D_is_worth : He.DefD := ⟨("is_worth", none), "is_worth", "is_worth", defArgs s_is_worth, defBody s_is_worth, defScope s_is_worth, [], []⟩
def D_numeral : He.DefD := ⟨("numeral", none), "numeral", "numeral", defArgs s_numeral, defBody s_numeral, defScope s_numeral, [], []⟩
def D_is_name : He.DefD := ⟨("is_name", none), "is_name", "is_name", defArgs s_is_name, defBody s_is_name, defScope s_is_name, [], []⟩
def D_law_cell_at : He.DefD := ⟨("_law_cell_at", none), "_law_cell_at", "_law_cell_at", defArgs s_law_cell_at, defBody s_law_cell_at, defScope s_law_cell_at, [], []⟩
def D_law_mixed : He.DefD := ⟨("_law_mixed", none), "_law_mixed", "_law_mixed", defArgs s_law_mixed, defBody s_law_mixed, defScope s_law_mixed, [], []⟩
def D_law_letters : He.DefD := ⟨("_law_letters", none), "_law_letters", "_law_letters", defArgs s_law_letters, defBody s_law_letters, defScope s_law_letters, [], []⟩
def D_law_free : He.DefD := ⟨("_law_free", none), "_law_free", "_law_free", defArgs s_law_free, defBody s_law_free, defScope s_law_free, [], []⟩
def D_law_figures : He.DefD := ⟨("_law_figures", none), "_law_figures", "_law_figures", defArgs s_law_figures, defBody s_law_figures, defScope s_law_figures, [], []⟩
def D_law_joined : He.DefD := ⟨("_law_joined", none), "_law_joined", "_law_joined", defArgs s_law_joined, defBody s_law_joined, defScope s_law_joined, [], []⟩
def D_law_alike : He.DefD := ⟨("_law_alike", none), "_law_alike", "_law_alike", defArgs s_law_alike, defBody s_law_alike, defScope s_law_alike, [], []⟩
def D_law_around : He.DefD := ⟨("_law_around", none), "_law_around", "_law_around", defArgs s_law_around, defBody s_law_around, defScope s_law_around, [], []⟩
def D_worth_in : He.DefD := ⟨("worth_in", none), "worth_in", "worth_in", defArgs s_worth_in, defBody s_worth_in, defScope s_worth_in, [], []⟩
def D_words_of : He.DefD := ⟨("words_of", none), "words_of", "words_of", defArgs s_words_of, defBody s_words_of, defScope s_words_of, [], []⟩
def D_law_names : He.DefD := ⟨("_law_names", none), "_law_names", "_law_names", defArgs s_law_names, defBody s_law_names, defScope s_law_names, [], []⟩
def D_law_leaf : He.DefD := ⟨("_law_leaf", none), "_law_leaf", "_law_leaf", defArgs s_law_leaf, defBody s_law_leaf, defScope s_law_leaf, [], []⟩
def D_part_in : He.DefD := ⟨("part_in", none), "part_in", "part_in", defArgs s_part_in, defBody s_part_in, defScope s_part_in, [], []⟩
def D_law_term : He.DefD := ⟨("_law_term", none), "_law_term", "_law_term", defArgs s_law_term, defBody s_law_term, defScope s_law_term, [], []⟩
def D_term_from : He.DefD := ⟨("term_from", none), "term_from", "term_from", defArgs s_term_from, defBody s_term_from, defScope s_term_from, [], []⟩
def D_law : He.DefD := ⟨("law", none), "law", "law", defArgs s_law, defBody s_law, defScope s_law, [], []⟩
def ls0 : List Str := ["__name__", "ForerunError", "NoNumber", "NoTerm", "MOST", "FIGURES", "is_worth", "numeral", "worth_in", "LETTERS", "DOERS", "HEADS"]
def ls1 : List Str := ["MOST_WORDS", "is_name", "part_in", "term_from", "words_of", "_law_cell_at", "_law_mixed", "_law_letters", "_law_free", "_law_names", "_law_figures", "_law_leaf"]
def ls2 : List Str := ["_law_joined", "_law_term", "_law_alike", "_law_around"]
abbrev loose : List Str := ls0 ++ ls1 ++ ls2
def fn : List He.DefD := [D_is_worth, D_numeral, D_is_name, D_law_cell_at, D_law_mixed, D_law_letters, D_law_free, D_law_figures, D_law_joined, D_law_alike, D_law_around, D_worth_in, D_words_of, D_law_names, D_law_leaf, D_part_in, D_law_term, D_term_from, D_law]
def fa0 : List He.Fa := [.glo "is_worth", .glo "numeral", .glo "is_name", .glo "_law_cell_at", .glo "_law_mixed", .glo "_law_letters", .glo "_law_free", .glo "_law_figures", .glo "_law_joined", .glo "_law_alike", .glo "_law_around", .glo "worth_in", .glo "words_of", .glo "_law_names", .glo "_law_leaf", .glo "part_in", .glo "_law_term", .glo "term_from", .glo "law", .glo "NoNumber", .glo "NoTerm", .exc "NoNumber", .exc "NoTerm", .free "isinstance", .free "int"]
def fa1 : List He.Fa := [.free "bool", .free "str", .free "len", .free "range", .free "abs", .free "tuple", .free "zip", .free "list", .int "MOST" (1000000000000000000000000000000), .glo "DOERS", .glo "HEADS", .str "LETTERS" "abcdefghijklmnopqrstuvwxyz", .str "FIGURES" "0123456789", .int "MOST_WORDS" (60)]
def fa : List He.Fa := fa0 ++ fa1
def tb : List (PySem.W.Frag → Bool) := [exmB CeF "NoNumber" "NoNumber", fun K => He.tupB K "DOERS" tab_DOERS, fun K => He.tupB K "HEADS" tab_HEADS]
abbrev R' : PySem.W.OpenRow := PySem.W.OpenLaw.row PySem.Challenge.rw_forerun_k04_terms_read_and_written
abbrev hk : PySem.W.Hook := hookT 4 fa fn tb
def ob (s : PySem.W.SharedT) : AlT := obsTG 4 fa fn tb (HandSHeadRun.getT s)
theorem ob_eq (s : PySem.W.SharedT) : ob s = hk.obs s.abs := obsTG_eq (HandSHeadRun.getT_eq s)
theorem run (w : World) : HandSHeadRun.RunEq R' (PySem.W.view R'.prog [31]) hk ob 20000 loose w := by
  intro os
  kernel_rfl
theorem facts {K : PySem.W.Frag} {h : Heap} {mg : Str → Option Value} (X : K.In h) (G : h.Ns mainGlobals mg) (c : obsT fa fn tb K = valT fn) : Nonempty (Tx K mg) := by
  obtain ⟨fd_is_worth, F_is_worth⟩ := (saysT c).def_ 0 (d := D_is_worth) rfl
  obtain ⟨fd_numeral, F_numeral⟩ := (saysT c).def_ 1 (d := D_numeral) rfl
  obtain ⟨fd_is_name, F_is_name⟩ := (saysT c).def_ 2 (d := D_is_name) rfl
  obtain ⟨fd_law_cell_at, F_law_cell_at⟩ := (saysT c).def_ 3 (d := D_law_cell_at) rfl
  obtain ⟨fd_law_mixed, F_law_mixed⟩ := (saysT c).def_ 4 (d := D_law_mixed) rfl
  obtain ⟨fd_law_letters, F_law_letters⟩ := (saysT c).def_ 5 (d := D_law_letters) rfl
  obtain ⟨fd_law_free, F_law_free⟩ := (saysT c).def_ 6 (d := D_law_free) rfl
  obtain ⟨fd_law_figures, F_law_figures⟩ := (saysT c).def_ 7 (d := D_law_figures) rfl
  obtain ⟨fd_law_joined, F_law_joined⟩ := (saysT c).def_ 8 (d := D_law_joined) rfl
  obtain ⟨fd_law_alike, F_law_alike⟩ := (saysT c).def_ 9 (d := D_law_alike) rfl
  obtain ⟨fd_law_around, F_law_around⟩ := (saysT c).def_ 10 (d := D_law_around) rfl
  obtain ⟨fd_worth_in, F_worth_in⟩ := (saysT c).def_ 11 (d := D_worth_in) rfl
  obtain ⟨fd_words_of, F_words_of⟩ := (saysT c).def_ 12 (d := D_words_of) rfl
  obtain ⟨fd_law_names, F_law_names⟩ := (saysT c).def_ 13 (d := D_law_names) rfl
  obtain ⟨fd_law_leaf, F_law_leaf⟩ := (saysT c).def_ 14 (d := D_law_leaf) rfl
  obtain ⟨fd_part_in, F_part_in⟩ := (saysT c).def_ 15 (d := D_part_in) rfl
  obtain ⟨fd_law_term, F_law_term⟩ := (saysT c).def_ 16 (d := D_law_term) rfl
  obtain ⟨fd_term_from, F_term_from⟩ := (saysT c).def_ 17 (d := D_term_from) rfl
  obtain ⟨fd_law, F_law⟩ := (saysT c).def_ 18 (d := D_law) rfl
  exact ⟨⟨_, fd_is_worth, F_is_worth, He.glo_ok X G ((saysT c).fact 0 (f := .glo "is_worth") rfl),
    _, fd_numeral, F_numeral, He.glo_ok X G ((saysT c).fact 1 (f := .glo "numeral") rfl),
    _, fd_is_name, F_is_name, He.glo_ok X G ((saysT c).fact 2 (f := .glo "is_name") rfl),
    _, fd_law_cell_at, F_law_cell_at, He.glo_ok X G ((saysT c).fact 3 (f := .glo "_law_cell_at") rfl),
    _, fd_law_mixed, F_law_mixed, He.glo_ok X G ((saysT c).fact 4 (f := .glo "_law_mixed") rfl),
    _, fd_law_letters, F_law_letters, He.glo_ok X G ((saysT c).fact 5 (f := .glo "_law_letters") rfl),
    _, fd_law_free, F_law_free, He.glo_ok X G ((saysT c).fact 6 (f := .glo "_law_free") rfl),
    _, fd_law_figures, F_law_figures, He.glo_ok X G ((saysT c).fact 7 (f := .glo "_law_figures") rfl),
    _, fd_law_joined, F_law_joined, He.glo_ok X G ((saysT c).fact 8 (f := .glo "_law_joined") rfl),
    _, fd_law_alike, F_law_alike, He.glo_ok X G ((saysT c).fact 9 (f := .glo "_law_alike") rfl),
    _, fd_law_around, F_law_around, He.glo_ok X G ((saysT c).fact 10 (f := .glo "_law_around") rfl),
    _, fd_worth_in, F_worth_in, He.glo_ok X G ((saysT c).fact 11 (f := .glo "worth_in") rfl),
    _, fd_words_of, F_words_of, He.glo_ok X G ((saysT c).fact 12 (f := .glo "words_of") rfl),
    _, fd_law_names, F_law_names, He.glo_ok X G ((saysT c).fact 13 (f := .glo "_law_names") rfl),
    _, fd_law_leaf, F_law_leaf, He.glo_ok X G ((saysT c).fact 14 (f := .glo "_law_leaf") rfl),
    _, fd_part_in, F_part_in, He.glo_ok X G ((saysT c).fact 15 (f := .glo "part_in") rfl),
    _, fd_law_term, F_law_term, He.glo_ok X G ((saysT c).fact 16 (f := .glo "_law_term") rfl),
    _, fd_term_from, F_term_from, He.glo_ok X G ((saysT c).fact 17 (f := .glo "term_from") rfl),
    _, fd_law, F_law, He.glo_ok X G ((saysT c).fact 18 (f := .glo "law") rfl),
    He.glo_ok X G ((saysT c).fact 19 (f := .glo "NoNumber") rfl),
    He.glo_ok X G ((saysT c).fact 20 (f := .glo "NoTerm") rfl),
    (He.exc_ok ((saysT c).fact 21 (f := .exc "NoNumber") rfl)).1, (He.exc_ok ((saysT c).fact 21 (f := .exc "NoNumber") rfl)).2.1, (He.exc_ok ((saysT c).fact 21 (f := .exc "NoNumber") rfl)).2.2.1, (He.exc_ok ((saysT c).fact 21 (f := .exc "NoNumber") rfl)).2.2.2,
    (He.exc_ok ((saysT c).fact 22 (f := .exc "NoTerm") rfl)).1, (He.exc_ok ((saysT c).fact 22 (f := .exc "NoTerm") rfl)).2.1, (He.exc_ok ((saysT c).fact 22 (f := .exc "NoTerm") rfl)).2.2.1, (He.exc_ok ((saysT c).fact 22 (f := .exc "NoTerm") rfl)).2.2.2,
    exmB_ok (tabT c 0 (q := exmB CeF "NoNumber" "NoNumber") rfl),
    He.free_ok X G ((saysT c).fact 23 (f := .free "isinstance") rfl),
    He.free_ok X G ((saysT c).fact 24 (f := .free "int") rfl),
    He.free_ok X G ((saysT c).fact 25 (f := .free "bool") rfl),
    He.free_ok X G ((saysT c).fact 26 (f := .free "str") rfl),
    He.free_ok X G ((saysT c).fact 27 (f := .free "len") rfl),
    He.free_ok X G ((saysT c).fact 28 (f := .free "range") rfl),
    He.free_ok X G ((saysT c).fact 29 (f := .free "abs") rfl),
    He.free_ok X G ((saysT c).fact 30 (f := .free "tuple") rfl),
    He.free_ok X G ((saysT c).fact 31 (f := .free "zip") rfl),
    He.free_ok X G ((saysT c).fact 32 (f := .free "list") rfl),
    (He.int_ok X G ((saysT c).fact 33 (f := .int "MOST" (1000000000000000000000000000000)) rfl)).elim fun t h => ⟨_, h, t, rfl⟩,
    _, ⟨_, He.glo_ok X G ((saysT c).fact 34 (f := .glo "DOERS") rfl), rfl⟩, fun H => He.tupB_ok (vs := tab_DOERS) (tabT c 1 (q := fun K => He.tupB K "DOERS" tab_DOERS) rfl) H, fun B => rpa_lits ks_DOERS rfl rfl,
    _, ⟨_, He.glo_ok X G ((saysT c).fact 35 (f := .glo "HEADS") rfl), rfl⟩, fun H => He.tupB_ok (vs := tab_HEADS) (tabT c 2 (q := fun K => He.tupB K "HEADS" tab_HEADS) rfl) H, fun B => rpa_lits ks_HEADS rfl rfl,
    (He.str_ok X G ((saysT c).fact 36 (f := .str "LETTERS" "abcdefghijklmnopqrstuvwxyz") rfl)).elim fun t h => ⟨_, h, t, rfl⟩,
    (He.str_ok X G ((saysT c).fact 37 (f := .str "FIGURES" "0123456789") rfl)).elim fun t h => ⟨_, h, t, rfl⟩,
    (He.int_ok X G ((saysT c).fact 38 (f := .int "MOST_WORDS" (60)) rfl)).elim fun t h => ⟨_, h, t, rfl⟩⟩⟩
end Wa
open PySem PySem.W PySem.Calls PyProof.Rows
theorem PySem.Challenge.cw_forerun_k04_terms_read_and_written_holds : PySem.Challenge.rw_forerun_k04_terms_read_and_written.Holds := by
  w_on; o_law
  refine HandSHeadRun.head_any (r := OpenLaw.row PySem.Challenge.rw_forerun_k04_terms_read_and_written) (q := view (OpenLaw.row PySem.Challenge.rw_forerun_k04_terms_read_and_written).prog [31]) (H := Wa.hk) (ob := Wa.ob) (M := 20000) (loose := Wa.loose) (d := HandSHeadRun.topDef (OpenLaw.row PySem.Challenge.rw_forerun_k04_terms_read_and_written).prog 31) (kwd := []) Wa.ob_eq
    (by kernel_rfl) (fun s => by kernel_rfl) Wa.run (by kernel_rfl) (by kernel_rfl) (by kernel_rfl) (by rfl) (by first | assumption | decide +kernel) (by decide +kernel) ⟨rfl, rfl, rfl, rfl, rfl, by decide +kernel⟩ ?hw ?hc
  case hw => w_witness2
  case hc =>
    refine L2.walk_ofE (l := PySem.Challenge.rw_forerun_k04_terms_read_and_written) (n := 63) (k := 5) (x := "script") (CX := L2.CX0) rfl (by decide) (by kernel_rfl) ⟨rfl, by decide, by decide⟩ ?F (fun _ _ _ _ z => z)
    intro w mg fa h Y G hmg0
    obtain ⟨K, KX, c⟩ := Y
    have hmg : mg ("law" : PySem.Str) = some (.ref fa) := by
      have e : (HandSHeadRun.topDef (OpenLaw.row PySem.Challenge.rw_forerun_k04_terms_read_and_written).prog 31).name = ("law" : PySem.Str) := by kernel_rfl
      rw [← e]
      exact hmg0
    obtain ⟨tx⟩ := Wa.facts KX G c
    have ef : tx.f_law = fa := by
      have := tx.g_law.symm.trans hmg
      cases this
      rfl
    subst ef
    exact ⟨K, tx.d_law, Wa.sp_law K tx.Ce, KX, fun s v => tx.F_law.bindsA (ps := ["script"]) (fun _ _ _ _ _ _ us hl => match us, hl with | [_], _ => rfl) s [v] rfl, fun H a ns hl _ hS => Sm.law_end (Mi.law_ok ns hl) hS, fun base _ _ => Wa.ok_law tx⟩
