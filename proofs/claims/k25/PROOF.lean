import PyProof.Rows.All
import Wide.All
import OpenK.AllK
import Wide.FinOn
import HandS.ForMost
import HandS.Exc
import HandS.Lambda
import HandS.TupAny
import HandS.Style
import HandS.Flow
import HandS.Text
import HandS.ExcField
import HandS.IsInst
import KE.KExcIs
import HandS.SortInts
import PyProof.ReprRoads
import PyProof.Rows.StrMeet
import HandS.Iter
import HandS.Zip
import HandS.Comp
import HandS.MakeKwOnly
import HandS.Defaults
import OpenK.KOps
import OpenK.KWalk
import PyProof.InstNe
import KE.KFmtOwn
import PyProof.InstEq
import HandS.Conv
import HandS.ExcInit
import HandS.HeadWalk
import KE.KExcSuper
import HandS.TryOnly
import HandS.Head0
import HandS.Head1
import HandS.Head2
import HandS.HeadHook4
import HandS.EndTab
import PySem.Challenge.RW_slowest_k25_machines_made_and_refused
set_option Elab.async false
set_option linter.all false
set_option maxRecDepth 100000
set_option maxHeartbeats 4000000
namespace LW
open PySem PySem.Spec PyProof.Rows L2

/-! ### values, cells, outcomes -/
inductive Wv where
  | non | bl (b : Bool) | int (i : Int) | str (x : Str) | ty (n : String) | cls (c : Str)
  | tup (xs : List Wv) | lst (xs : List Wv) | kls (xs : List Wv) | dct (ks : List Key) (xs : List Wv)
  | ins (c : Str) (ns : List Str) (xs : List Wv) | exc (c : Str) (ns : List Str) (xs : List Wv)
  deriving Inhabited
mutual
def Wv.same : Wv → Wv → Bool
  | .non, .non => true
  | .bl a, .bl b => a == b
  | .int a, .int b => a == b
  | .str a, .str b => decide (a = b)
  | .ty a, .ty b => a == b
  | .cls a, .cls b => decide (a = b)
  | .tup a, .tup b => sameL a b
  | .lst a, .lst b => sameL a b
  | .kls a, .kls b => sameL a b
  | .dct k a, .dct l b => decide (k = l) && sameL a b
  | .ins c k a, .ins d l b => decide (c = d) && (decide (k = l) && sameL a b)
  | .exc c k a, .exc d l b => decide (c = d) && (decide (k = l) && sameL a b)
  | _, _ => false
def sameL : List Wv → List Wv → Bool
  | [], [] => true
  | a :: as, b :: bs => Wv.same a b && sameL as bs
  | _, _ => false
end
mutual
theorem Wv.same_eq : ∀ (a b : Wv), Wv.same a b = true → a = b
  | .non, b, h => by cases b <;> first | rfl | simp [Wv.same] at h
  | .bl a, b, h => by cases b <;> simp [Wv.same] at h; subst h; rfl
  | .int a, b, h => by cases b <;> simp [Wv.same] at h; subst h; rfl
  | .str a, b, h => by cases b <;> simp [Wv.same] at h; subst h; rfl
  | .ty a, b, h => by cases b <;> simp [Wv.same] at h; subst h; rfl
  | .cls a, b, h => by cases b <;> simp [Wv.same] at h; subst h; rfl
  | .tup a, b, h => by cases b <;> simp [Wv.same] at h; rw [sameL_eq a _ h]
  | .lst a, b, h => by cases b <;> simp [Wv.same] at h; rw [sameL_eq a _ h]
  | .kls a, b, h => by cases b <;> simp [Wv.same] at h; rw [sameL_eq a _ h]
  | .dct k a, b, h => by cases b <;> simp [Wv.same] at h; rw [h.1, sameL_eq a _ h.2]
  | .ins c k a, b, h => by cases b <;> simp [Wv.same] at h; rw [h.1, h.2.1, sameL_eq a _ h.2.2]
  | .exc c k a, b, h => by cases b <;> simp [Wv.same] at h; rw [h.1, h.2.1, sameL_eq a _ h.2.2]
theorem sameL_eq : ∀ (a b : List Wv), sameL a b = true → a = b
  | [], b, h => by cases b <;> first | rfl | simp [sameL] at h
  | x :: a, b, h => by
    cases b with
    | nil => simp [sameL] at h
    | cons y b =>
      simp [sameL] at h
      rw [Wv.same_eq x y h.1, sameL_eq a b h.2]
end
mutual
theorem Wv.same_rfl : ∀ a : Wv, Wv.same a a = true
  | .non => rfl
  | .bl a => by simp [Wv.same]
  | .int a => by simp [Wv.same]
  | .str a => by simp [Wv.same]
  | .ty a => by simp [Wv.same]
  | .cls a => by simp [Wv.same]
  | .tup a => by simp [Wv.same, sameL_rfl a]
  | .lst a => by simp [Wv.same, sameL_rfl a]
  | .kls a => by simp [Wv.same, sameL_rfl a]
  | .dct k a => by simp [Wv.same, sameL_rfl a]
  | .ins c k a => by simp [Wv.same, sameL_rfl a]
  | .exc c k a => by simp [Wv.same, sameL_rfl a]
theorem sameL_rfl : ∀ a : List Wv, sameL a a = true
  | [] => rfl
  | x :: a => by simp [sameL, Wv.same_rfl x, sameL_rfl a]
end
instance : DecidableEq Wv := fun a b => if h : Wv.same a b = true then .isTrue (Wv.same_eq a b h) else .isFalse fun e => h (by rw [e]; exact Wv.same_rfl b)

/-- a value, or a cell of the memory -/
inductive Av where
  | val (w : Wv) | ref (i : Nat)
  deriving DecidableEq, Inhabited
inductive Cell where
  | lst (xs : List Av) | dct (ks : List Key) (xs : List Av) | ins (c : Str) (ns : List Str) (xs : List Av) | dead
  deriving DecidableEq, Inhabited
abbrev Mem := List Cell
inductive Out (α : Type) where
  | ok (a : α) (m : Mem) | ex (e : Wv) (m : Mem) | no
def Mw (α : Type) := Mem → Out α
@[reducible] def Mw.pure {α : Type} (a : α) : Mw α := fun m => .ok a m
def Mw.bind {α β : Type} (x : Mw α) (f : α → Mw β) : Mw β := fun m => match x m with
  | .ok a m' => f a m'
  | .ex e m' => .ex e m'
  | .no => .no
instance : Monad Mw where
  pure := Mw.pure
  bind := Mw.bind
def Mw.fail {α : Type} : Mw α := fun _ => .no
def Mw.of {α : Type} : Option α → Mw α
  | some a => fun m => .ok a m
  | none => fun _ => .no
abbrev Ev := List (Option Av)

/-! ### what stands for a value -/
structure SC where
  K : PySem.W.Frag
  mg : Str → Option Value
  /-- what else stands as it is told (a comprehension's list under way) -/
  gh : List (Addr × HO) := []
  /-- the tables of lambdas' code objects -/
  tb : List (Addr × Str) := []

/-- lists, dicts, instances under way -/
def Mu3 : Option HO → Prop
  | some (.lst _) => True
  | some (.dK _) => True
  | some (.ins _ _ _) => True
  | _ => False
theorem Mu3.mut {o : Option HO} (h : Mu3 o) : Mut o := by
  cases o with
  | none => exact h.elim
  | some u => cases u <;> first | exact True.intro | exact False.elim h
theorem tabs_upd {T : List (Addr × Str)} {H : Hp} {p : Addr} {o : HO} (t : LamX.Tabs T H) (h : Mu3 (H p)) : LamX.Tabs T (upd H p o) := fun q hq => by
  obtain ⟨ps, h1, h2, h3⟩ := t q hq
  refine ⟨ps, ?_, h2, fun pos cv hc => ?_⟩
  · rw [upd_ne (fun z => by rw [← z, h1] at h; exact h)]; exact h1
  · obtain ⟨c, e1, e2⟩ := h3 pos cv hc
    exact ⟨c, e1, by rw [upd_ne (fun z => by rw [← z, e2] at h; exact h)]; exact e2⟩
theorem tabs_new {T : List (Addr × Str)} {H : Hp} {p : Addr} {o : HO} (t : LamX.Tabs T H) (h : H p = none) : LamX.Tabs T (upd H p o) := t.ext fun b u e => by
  rw [upd_ne (ne_of_none e h)]; exact e
def FzL (K : PySem.W.Frag) (H : Hp) (a : Addr) (xs : List V) : Prop := ∃ o, H a = some (.frz o (.lst xs))
theorem FzL.sq {K : PySem.W.Frag} {H : Hp} {a : Addr} {xs : List V} (h : FzL K H a xs) : SqL K H a xs := by
  obtain ⟨o, h⟩ := h
  exact .inl (.inr ⟨o, h⟩)
/-- an exception's object, its fields -/
def XAt (H : Hp) (a C : Addr) (fs : List (Str × V)) : Prop := ∃ (oe od : Obj) (d : Addr) (vs : Array Value), H a = some (.frz oe (.ext fun h => h.get? a = some oe)) ∧ oe.cls = .ref C ∧ oe.dict = some d ∧ oe.data = .fields vs ∧ H d = some (.frz od (.xd fs))

mutual
def RW (c : SC) (H : Hp) : Wv → V → Prop
  | .non, v => v = .non
  | .bl b, v => v = .bl b
  | .int i, v => v = .int i
  | .str x, v => v = .str x
  | .ty n, v => v = .ty n
  | .cls x, v => ∃ C, c.mg x = some (.ref C) ∧ v = .ref C
  | .tup xs, v => ∃ a vs, v = .ref a ∧ SqT c.K H a vs ∧ RWs c H xs vs
  | .lst xs, v => ∃ a vs, v = .ref a ∧ FzL c.K H a vs ∧ RWs c H xs vs
  | .kls xs, v => ∃ a vs, v = .ref a ∧ (∀ H' : Hp, SqL c.K H' a vs) ∧ RWs c H xs vs
  | .dct ks xs, v => ∃ a o kvs, v = .ref a ∧ H a = some (.frz o (.dK kvs)) ∧ kvs.map (·.1) = ks ∧ RWs c H xs (kvs.map (·.2))
  | .ins x ns xs, v => ∃ a C dx o fs, v = .ref a ∧ c.mg x = some (.ref C) ∧ H a = some (.frz o (.ins C dx fs)) ∧ fs.map (·.1) = ns ∧ RWs c H xs (fs.map (·.2))
  | .exc x ns xs, v => ∃ a C fs, v = .ref a ∧ c.mg x = some (.ref C) ∧ XAt H a C fs ∧ fs.map (·.1) = ns ∧ RWs c H xs (fs.map (·.2))
def RWs (c : SC) (H : Hp) : List Wv → List V → Prop
  | [], vs => vs = []
  | w :: ws, vs => ∃ v r, vs = v :: r ∧ RW c H w v ∧ RWs c H ws r
end
def RA (c : SC) (H : Hp) (ρ : List Addr) : Av → V → Prop
  | .val w, v => RW c H w v
  | .ref i, v => ∃ a, ρ[i]? = some a ∧ v = .ref a
/-- related one by one -/
def RL {α β : Type} (R : α → β → Prop) : List α → List β → Prop
  | [], vs => vs = []
  | w :: ws, vs => ∃ v r, vs = v :: r ∧ R w v ∧ RL R ws r

section
variable {α β : Type} {R : α → β → Prop}
theorem RL.nil : RL R [] [] := rfl
theorem RL.cons {w : α} {v : β} {ws : List α} {vs : List β} (h1 : R w v) (h2 : RL R ws vs) : RL R (w :: ws) (v :: vs) := ⟨v, vs, rfl, h1, h2⟩
theorem RL.len : ∀ {ws : List α} {vs : List β}, RL R ws vs → ws.length = vs.length
  | [], vs, h => by cases h; rfl
  | w :: ws, vs, h => by
    obtain ⟨v, r, e, h1, h2⟩ := h
    rw [e, List.length_cons, List.length_cons, RL.len h2]
theorem RL.imp {S : α → β → Prop} (f : ∀ a b, R a b → S a b) : ∀ {ws : List α} {vs : List β}, RL R ws vs → RL S ws vs
  | [], vs, h => h
  | w :: ws, vs, h => by
    obtain ⟨v, r, e, h1, h2⟩ := h
    exact ⟨v, r, e, f _ _ h1, RL.imp f h2⟩
theorem RL.get : ∀ {ws : List α} {vs : List β} {i : Nat} {w : α}, RL R ws vs → ws[i]? = some w → ∃ v, vs[i]? = some v ∧ R w v
  | [], _, _, _, _, e => by simp at e
  | w :: ws, vs, i, x, h, e => by
    obtain ⟨v, r, rfl, h1, h2⟩ := h
    cases i with
    | zero =>
      simp at e
      subst e
      exact ⟨v, rfl, h1⟩
    | succ i =>
      obtain ⟨u, e1, e2⟩ := RL.get (i := i) h2 (by simpa using e)
      exact ⟨u, by simpa using e1, e2⟩
theorem RL.get' : ∀ {ws : List α} {vs : List β} {i : Nat} {v : β}, RL R ws vs → vs[i]? = some v → ∃ w, ws[i]? = some w ∧ R w v
  | [], vs, _, _, h, e => by cases h; simp at e
  | w :: ws, vs, i, x, h, e => by
    obtain ⟨v, r, rfl, h1, h2⟩ := h
    cases i with
    | zero =>
      simp at e
      subst e
      exact ⟨w, rfl, h1⟩
    | succ i =>
      obtain ⟨u, e1, e2⟩ := RL.get' (i := i) h2 (by simpa using e)
      exact ⟨u, by simpa using e1, e2⟩
theorem RL.append : ∀ {ws xs : List α} {vs ys : List β}, RL R ws vs → RL R xs ys → RL R (ws ++ xs) (vs ++ ys)
  | [], xs, vs, ys, h, h' => by cases h; exact h'
  | w :: ws, xs, vs, ys, h, h' => by
    obtain ⟨v, r, rfl, h1, h2⟩ := h
    exact RL.cons h1 (RL.append h2 h')
theorem RL.take : ∀ (n : Nat) {ws : List α} {vs : List β}, RL R ws vs → RL R (ws.take n) (vs.take n)
  | 0, _, _, _ => by rw [List.take_zero, List.take_zero]; exact RL.nil
  | n + 1, [], vs, h => by cases h; exact RL.nil
  | n + 1, w :: ws, vs, h => by
    obtain ⟨v, r, rfl, h1, h2⟩ := h
    exact RL.cons h1 (RL.take n h2)
theorem RL.drop : ∀ (n : Nat) {ws : List α} {vs : List β}, RL R ws vs → RL R (ws.drop n) (vs.drop n)
  | 0, _, _, h => h
  | n + 1, [], vs, h => by cases h; exact RL.nil
  | n + 1, w :: ws, vs, h => by
    obtain ⟨v, r, rfl, h1, h2⟩ := h
    exact RL.drop n h2
theorem RL.set {w : α} {v : β} (h : R w v) : ∀ (i : Nat) {ws : List α} {vs : List β}, RL R ws vs → RL R (ws.set i w) (vs.set i v)
  | _, [], vs, h' => by cases h'; exact RL.nil
  | 0, _ :: ws, vs, h' => by
    obtain ⟨v', r, rfl, h1, h2⟩ := h'
    exact RL.cons h h2
  | i + 1, _ :: ws, vs, h' => by
    obtain ⟨v', r, rfl, h1, h2⟩ := h'
    exact RL.cons h1 (RL.set h i h2)
theorem RL.erase : ∀ (i : Nat) {ws : List α} {vs : List β}, RL R ws vs → RL R (ws.eraseIdx i) (vs.eraseIdx i)
  | _, [], vs, h' => by cases h'; exact RL.nil
  | 0, _ :: ws, vs, h' => by
    obtain ⟨v', r, rfl, h1, h2⟩ := h'
    exact h2
  | i + 1, _ :: ws, vs, h' => by
    obtain ⟨v', r, rfl, h1, h2⟩ := h'
    exact RL.cons h1 (RL.erase i h2)
theorem RL.rev : ∀ {ws : List α} {vs : List β}, RL R ws vs → RL R ws.reverse vs.reverse
  | [], vs, h => by cases h; exact RL.nil
  | w :: ws, vs, h => by
    obtain ⟨v, r, rfl, h1, h2⟩ := h
    rw [List.reverse_cons, List.reverse_cons]
    exact (RL.rev h2).append (RL.cons h1 RL.nil)
theorem RL.mem' : ∀ {ws : List α} {vs : List β} {v : β}, RL R ws vs → v ∈ vs → ∃ w, w ∈ ws ∧ R w v
  | [], vs, v, h, hm => by cases h; cases hm
  | w :: ws, vs, v, h, hm => by
    obtain ⟨v', r, rfl, h1, h2⟩ := h
    rcases List.mem_cons.mp hm with rfl | hm
    · exact ⟨w, List.mem_cons_self, h1⟩
    · obtain ⟨w', m, q⟩ := RL.mem' h2 hm
      exact ⟨w', List.mem_cons_of_mem _ m, q⟩
end
theorem RWs_iff {c : SC} {H : Hp} : ∀ {ws : List Wv} {vs : List V}, RWs c H ws vs ↔ RL (RW c H) ws vs
  | [], vs => by simp only [RWs, RL]
  | w :: ws, vs => by
    simp only [RWs, RL]
    exact ⟨fun ⟨v, r, e, h1, h2⟩ => ⟨v, r, e, h1, RWs_iff.mp h2⟩, fun ⟨v, r, e, h1, h2⟩ => ⟨v, r, e, h1, RWs_iff.mpr h2⟩⟩

/-! ### what stays: frozen things, tuples, tables -/
structure Stb (H H' : Hp) : Prop where
  frz : ∀ a o u, H a = some (.frz o u) → H' a = some (.frz o u)
  tup : ∀ a xs, H a = some (.tup xs) → H' a = some (.tup xs)
theorem Stb.refl (H : Hp) : Stb H H := ⟨fun _ _ _ h => h, fun _ _ h => h⟩
theorem Stb.trans {H H1 H2 : Hp} (a : Stb H H1) (b : Stb H1 H2) : Stb H H2 :=
  ⟨fun x o u h => b.frz x o u (a.frz x o u h), fun x xs h => b.tup x xs (a.tup x xs h)⟩
theorem Stb.new {H : Hp} {p : Addr} {o : HO} (h : H p = none) : Stb H (upd H p o) :=
  ⟨fun a o u e => by rw [upd_ne (ne_of_none e h)]; exact e, fun a xs e => by rw [upd_ne (ne_of_none e h)]; exact e⟩
theorem Stb.ext {H H' : Hp} (e : LamX.ExtN H H') : Stb H H' := ⟨fun a o u h => e a _ h (fun ps z => by cases z), fun a xs h => e a _ h (fun ps z => by cases z)⟩
/-- a write at a tracked, mutable thing -/
theorem Stb.write {H : Hp} {p : Addr} {o : HO} (h : Mut (H p)) : Stb H (upd H p o) := by
  have ne : ∀ a u, H a = some u → ¬ Mut (some u) → a ≠ p := fun a u e n z => n (by rw [← e, z]; exact h)
  exact ⟨fun a o u e => by rw [upd_ne (ne a _ e (fun z => z))]; exact e, fun a xs e => by rw [upd_ne (ne a _ e (fun z => z))]; exact e⟩
theorem SqT.stb {K : PySem.W.Frag} {H H' : Hp} {a : Addr} {xs : List V} (s : Stb H H') (h : SqT K H a xs) : SqT K H' a xs := by
  rcases h with (h | ⟨o, h⟩) | h
  · exact .inl (.inl (s.tup _ _ h))
  · exact .inl (.inr ⟨o, s.frz _ _ _ h⟩)
  · exact .inr h
theorem FzL.stb {K : PySem.W.Frag} {H H' : Hp} {a : Addr} {xs : List V} (s : Stb H H') (h : FzL K H a xs) : FzL K H' a xs := by
  obtain ⟨o, h⟩ := h
  exact ⟨o, s.frz _ _ _ h⟩
theorem XAt.stb {H H' : Hp} {a C : Addr} {fs : List (Str × V)} (s : Stb H H') (h : XAt H a C fs) : XAt H' a C fs := by
  obtain ⟨oe, od, d, vs, h1, h2, h3, h4, h5⟩ := h
  exact ⟨oe, od, d, vs, s.frz _ _ _ h1, h2, h3, h4, s.frz _ _ _ h5⟩
theorem pre_get {ρ ρ' : List Addr} (p : ρ <+: ρ') {i : Nat} {a : Addr} (h : ρ[i]? = some a) : ρ'[i]? = some a := by
  obtain ⟨t, rfl⟩ := p
  have hi := (List.getElem?_eq_some_iff.mp h).1
  rw [List.getElem?_append_left hi]; exact h
mutual
theorem RW.mono {c : SC} {H H' : Hp} (s : Stb H H') : ∀ (w : Wv) (v : V), RW c H w v → RW c H' w v
  | .non, v, h => by simpa only [RW] using h
  | .bl b, v, h => by simpa only [RW] using h
  | .int i, v, h => by simpa only [RW] using h
  | .str x, v, h => by simpa only [RW] using h
  | .ty n, v, h => by simpa only [RW] using h
  | .cls x, v, h => by simpa only [RW] using h
  | .tup xs, v, h => by
    simp only [RW] at h ⊢
    obtain ⟨a, vs, e, h1, h2⟩ := h
    exact ⟨a, vs, e, SqT.stb s h1, RWs.mono s xs vs h2⟩
  | .lst xs, v, h => by
    simp only [RW] at h ⊢
    obtain ⟨a, vs, e, h1, h2⟩ := h
    exact ⟨a, vs, e, FzL.stb s h1, RWs.mono s xs vs h2⟩
  | .kls xs, v, h => by
    simp only [RW] at h ⊢
    obtain ⟨a, vs, e, h1, h2⟩ := h
    exact ⟨a, vs, e, h1, RWs.mono s xs vs h2⟩
  | .dct ks xs, v, h => by
    simp only [RW] at h ⊢
    obtain ⟨a, o, kvs, e, h1, h2, h3⟩ := h
    exact ⟨a, o, kvs, e, s.frz _ _ _ h1, h2, RWs.mono s xs _ h3⟩
  | .ins x ns xs, v, h => by
    simp only [RW] at h ⊢
    obtain ⟨a, C, dx, o, fs, e, h1, h2, h3, h4⟩ := h
    exact ⟨a, C, dx, o, fs, e, h1, s.frz _ _ _ h2, h3, RWs.mono s xs _ h4⟩
  | .exc x ns xs, v, h => by
    simp only [RW] at h ⊢
    obtain ⟨a, C, fs, e, h1, h2, h3, h4⟩ := h
    exact ⟨a, C, fs, e, h1, h2.stb s, h3, RWs.mono s xs _ h4⟩
theorem RWs.mono {c : SC} {H H' : Hp} (s : Stb H H') : ∀ (ws : List Wv) (vs : List V), RWs c H ws vs → RWs c H' ws vs
  | [], vs, h => by simpa only [RWs] using h
  | w :: ws, vs, h => by
    simp only [RWs] at h ⊢
    obtain ⟨v, r, e, h1, h2⟩ := h
    exact ⟨v, r, e, RW.mono s w v h1, RWs.mono s ws r h2⟩
end
theorem RA.mono {c : SC} {H H' : Hp} {ρ ρ' : List Addr} (s : Stb H H') (p : ρ <+: ρ') (a : Av) (v : V) (h : RA c H ρ a v) : RA c H' ρ' a v := by
  cases a with
  | val w => exact RW.mono s w v h
  | ref i => obtain ⟨a, e, h1⟩ := h; exact ⟨a, pre_get p e, h1⟩
theorem RAs.mono {c : SC} {H H' : Hp} {ρ ρ' : List Addr} (s : Stb H H') (p : ρ <+: ρ') {as : List Av} {vs : List V} (h : RL (RA c H ρ) as vs) : RL (RA c H' ρ') as vs := h.imp fun a v => RA.mono s p a v

/-! ### the memory, the slots -/
def RC (c : SC) (H : Hp) (ρ : List Addr) (a : Addr) : Cell → Prop
  | .lst xs => ∃ vs, H a = some (.lst vs) ∧ RL (RA c H ρ) xs vs
  | .dct ks xs => ∃ kvs, H a = some (.dK kvs) ∧ kvs.map (·.1) = ks ∧ RL (RA c H ρ) xs (kvs.map (·.2))
  | .ins x ns xs => ∃ C dx fs, c.mg x = some (.ref C) ∧ H a = some (.ins C dx fs) ∧ fs.map (·.1) = ns ∧ RL (RA c H ρ) xs (fs.map (·.2))
  | .dead => True
structure RM (c : SC) (H : Hp) (ρ : List Addr) (M : Mem) : Prop where
  len : ρ.length = M.length
  nd : ρ.Nodup
  at_ : ∀ (i : Nat) (a : Addr) (k : Cell), ρ[i]? = some a → M[i]? = some k → RC c H ρ a k
  there : ∀ (i : Nat) (a : Addr), ρ[i]? = some a → H a ≠ none
  gh : ∀ p ∈ c.gh, H p.1 = some p.2 ∧ Mu3 (some p.2) ∧ p.1 ∉ ρ
  tab : LamX.Tabs c.tb H
  tbs : ∀ a ps, H a = some (.tbl ps) → a ∈ c.tb.map (·.1)
theorem RC.mut {c : SC} {H : Hp} {ρ : List Addr} {a : Addr} {k : Cell} (h : RC c H ρ a k) (n : k ≠ .dead) : Mut (H a) := by
  cases k with
  | lst xs => obtain ⟨vs, e, _⟩ := h; rw [e]; exact True.intro
  | dct ks xs => obtain ⟨vs, e, _⟩ := h; rw [e]; exact True.intro
  | ins x ns xs => obtain ⟨C, dx, fs, _, e, _⟩ := h; rw [e]; exact True.intro
  | dead => exact absurd rfl n
theorem RC.mono {c : SC} {H H' : Hp} {ρ ρ' : List Addr} {a : Addr} {k : Cell} (s : Stb H H') (p : ρ <+: ρ') (e : Mut (H a) → H' a = H a) (h : RC c H ρ a k) : RC c H' ρ' a k := by
  have e' : k ≠ .dead → H' a = H a := fun n => e (h.mut n)
  cases k with
  | lst xs => obtain ⟨vs, e1, h1⟩ := h; exact ⟨vs, (e' (by simp)).trans e1, RAs.mono s p h1⟩
  | dct ks xs => obtain ⟨vs, e1, e2, h1⟩ := h; exact ⟨vs, (e' (by simp)).trans e1, e2, RAs.mono s p h1⟩
  | ins x ns xs => obtain ⟨C, dx, fs, e0, e1, e2, h1⟩ := h; exact ⟨C, dx, fs, e0, (e' (by simp)).trans e1, e2, RAs.mono s p h1⟩
  | dead => exact True.intro
/-- all that is tracked stays there -/
def Thr (H H' : Hp) : Prop := ∀ a, H a ≠ none → H' a ≠ none
theorem Thr.upd {H : Hp} {p : Addr} {o : HO} : Thr H (upd H p o) := fun a h => by
  unfold L2.upd
  split
  · simp
  · exact h
theorem RM.mono {c : SC} {H H' : Hp} {ρ : List Addr} {M : Mem} (r : RM c H ρ M) (s : Stb H H') (e : ∀ a, Mut (H a) → H' a = H a) (t : Thr H H') (x : LamX.Tabs c.tb H') (y : ∀ a ps, H' a = some (.tbl ps) → a ∈ c.tb.map (·.1)) : RM c H' ρ M :=
  ⟨r.len, r.nd, fun i a k h1 h2 => (r.at_ i a k h1 h2).mono s (List.prefix_refl _) (e a), fun i a h => t a (r.there i a h), fun p hp => by
    obtain ⟨h1, h2, h3⟩ := r.gh p hp
    exact ⟨(e p.1 (by rw [h1]; exact Mu3.mut h2)).trans h1, h2, h3⟩, x, y⟩
theorem tbs_upd {c : SC} {H : Hp} {p : Addr} {o : HO} (r : ∀ a ps, H a = some (.tbl ps) → a ∈ c.tb.map (·.1)) (ho : ∀ ps, o ≠ .tbl ps) : ∀ a ps, upd H p o a = some (.tbl ps) → a ∈ c.tb.map (·.1) := fun a ps e => by
  by_cases h : a = p
  · rw [h, upd_same] at e
    exact absurd (Option.some.inj e) (ho ps)
  · rw [upd_ne h] at e
    exact r a ps e
theorem RM.new {c : SC} {H : Hp} {ρ : List Addr} {M : Mem} {p : Addr} {o : HO} (r : RM c H ρ M) (h : H p = none) (ho : ∀ ps, o ≠ .tbl ps := by intro ps z; cases z) : RM c (upd H p o) ρ M :=
  r.mono (Stb.new h) (fun a m => upd_ne (fun z => by rw [z, h] at m; exact m)) Thr.upd (tabs_new r.tab h) (tbs_upd r.tbs ho)
/-- a lambda's code object has come -/
theorem RM.ext {c : SC} {H H' : Hp} {ρ : List Addr} {M : Mem} (r : RM c H ρ M) (e : LamX.ExtN H H') (t : LamX.Tabs c.tb H') (y : ∀ a ps, H' a = some (.tbl ps) → a ∈ c.tb.map (·.1)) : RM c H' ρ M := by
  refine r.mono (Stb.ext e) (fun a m => ?_) (fun a h => ?_) t y
  · cases q : H a with
    | none => rw [q] at m; exact False.elim m
    | some u => exact e a u q (fun ps z => by rw [q, z] at m; exact m)
  · cases q : H a with
    | none => exact absurd q h
    | some u =>
      by_cases hu : ∃ ps, u = .tbl ps
      · obtain ⟨ps, hu⟩ := hu
        subst hu
        obtain ⟨p, hp, ep⟩ := List.mem_map.mp (r.tbs a ps q)
        obtain ⟨ps', h1, _⟩ := t p hp
        rw [← ep, h1]
        simp
      · rw [e a u q (fun ps z => hu ⟨ps, z⟩)]
        simp
/-- a new cell -/
theorem RM.push {c : SC} {H : Hp} {ρ : List Addr} {M : Mem} {p : Addr} {o : HO} {k : Cell} (r : RM c H ρ M) (h : H p = none) (hk : RC c (upd H p o) (ρ ++ [p]) p k) (ho : ∀ ps, o ≠ .tbl ps := by intro ps z; cases z) : RM c (upd H p o) (ρ ++ [p]) (M ++ [k]) := by
  have np : ∀ (i : Nat) (a : Addr), ρ[i]? = some a → a ≠ p := fun i a e z => r.there i a e (by rw [z]; exact h)
  refine ⟨by simp [r.len], ?_, fun i a k' h1 h2 => ?_, fun i a h1 => ?_, fun q hq => ?_, tabs_new r.tab h, tbs_upd r.tbs ho⟩
  · rw [List.nodup_append]
    refine ⟨r.nd, by simp, fun a ha b hb => ?_⟩
    simp at hb
    obtain ⟨i, e⟩ := List.mem_iff_getElem?.mp ha
    rw [hb]
    exact np i a e
  · by_cases hi : i < ρ.length
    · rw [List.getElem?_append_left hi] at h1
      rw [List.getElem?_append_left (by rw [← r.len]; exact hi)] at h2
      exact (r.at_ i a k' h1 h2).mono (Stb.new h) (List.prefix_append _ _) fun _ => upd_ne (np i a h1)
    · have hi' : i = ρ.length := by
        have := (List.getElem?_eq_some_iff.mp h1).1
        simp at this
        omega
      rw [hi', List.getElem?_append_right (Nat.le_refl _)] at h1
      rw [hi', r.len, List.getElem?_append_right (Nat.le_refl _)] at h2
      simp at h1 h2
      rw [← h1, ← h2]
      exact hk
  · by_cases hi : i < ρ.length
    · rw [List.getElem?_append_left hi] at h1
      exact Thr.upd a (r.there i a h1)
    · rw [List.getElem?_append_right (by omega)] at h1
      have : a = p := by
        cases q : i - ρ.length with
        | zero => rw [q] at h1; simpa using h1.symm
        | succ n => rw [q] at h1; simp at h1
      rw [this, upd_same]
      simp
  · obtain ⟨h1, h2, h3⟩ := r.gh q hq
    have ne : q.1 ≠ p := fun z => by rw [z, h] at h1; cases h1
    refine ⟨by rw [upd_ne ne]; exact h1, h2, fun hm => ?_⟩
    rcases List.mem_append.mp hm with z | z
    · exact h3 z
    · exact ne (by simpa using z)
/-- a cell written -/
theorem RM.put {c : SC} {H : Hp} {ρ : List Addr} {M : Mem} {i : Nat} {p : Addr} {o : HO} {k : Cell} (r : RM c H ρ M) (hp : ρ[i]? = some p) (hm : Mu3 (H p)) (hk : RC c (upd H p o) ρ p k) (ho : ∀ ps, o ≠ .tbl ps := by intro ps z; cases z) : RM c (upd H p o) ρ (M.set i k) := by
  refine ⟨by simp [r.len], r.nd, fun j a k' h1 h2 => ?_, fun j a h1 => Thr.upd a (r.there j a h1), fun q hq => by
    obtain ⟨h1, h2, h3⟩ := r.gh q hq
    have ne : q.1 ≠ p := fun z => h3 (by rw [z]; exact List.mem_of_getElem? hp)
    exact ⟨by rw [upd_ne ne]; exact h1, h2, h3⟩, tabs_upd r.tab hm, tbs_upd r.tbs ho⟩
  by_cases hj : i = j
  · subst hj
    have hl : i < M.length := by rw [← r.len]; exact (List.getElem?_eq_some_iff.mp hp).1
    rw [List.getElem?_set_self hl] at h2
    rw [hp] at h1
    cases h1
    cases h2
    exact hk
  · rw [List.getElem?_set_ne hj] at h2
    have ne : a ≠ p := fun z => by
      rw [z] at h1
      exact hj ((List.getElem?_inj (List.getElem?_eq_some_iff.mp hp).1 r.nd).mp (hp.trans h1.symm))
    exact (r.at_ j a k' h1 h2).mono (Stb.write (Mu3.mut hm)) (List.prefix_refl _) fun _ => upd_ne ne

structure RE (c : SC) (H : Hp) (ρ : List Addr) (η : Ev) (σ : L2.St) : Prop where
  len : η.length = σ.length
  at_ : ∀ (i : Nat) (w : Av), η[i]? = some (some w) → ∃ v, σ[i]? = some (some v) ∧ RA c H ρ w v
theorem RE.mono {c : SC} {H H' : Hp} {ρ ρ' : List Addr} {η : Ev} {σ : L2.St} (r : RE c H ρ η σ) (s : Stb H H') (p : ρ <+: ρ') : RE c H' ρ' η σ :=
  ⟨r.len, fun i w e => let ⟨v, e1, h⟩ := r.at_ i w e; ⟨v, e1, RA.mono s p w v h⟩⟩
theorem RE.set {c : SC} {H : Hp} {ρ : List Addr} {η : Ev} {σ : L2.St} (r : RE c H ρ η σ) (i : Nat) {w : Av} {v : V} (h : RA c H ρ w v) : RE c H ρ (η.set i (some w)) (σ.set i (some v)) :=
  ⟨by simpa using r.len, fun j x e => by
    by_cases hj : i = j
    · subst hj
      by_cases hl : i < η.length
      · rw [List.getElem?_set_self hl] at e
        cases e
        exact ⟨v, by rw [List.getElem?_set_self (by rw [← r.len]; exact hl)], h⟩
      · rw [List.getElem?_eq_none (by simpa using hl)] at e; cases e
    · rw [List.getElem?_set_ne hj] at e
      obtain ⟨u, e1, h1⟩ := r.at_ j x e
      exact ⟨u, by rw [List.getElem?_set_ne hj]; exact e1, h1⟩⟩
theorem RE.unset {c : SC} {H : Hp} {ρ : List Addr} {η : Ev} {σ : L2.St} (r : RE c H ρ η σ) (i : Nat) (x : Option V) : RE c H ρ (η.set i none) (σ.set i x) :=
  ⟨by simpa using r.len, fun j w e => by
    by_cases hj : i = j
    · subst hj
      by_cases hl : i < η.length
      · rw [List.getElem?_set_self hl] at e; cases e
      · rw [List.getElem?_eq_none (by simpa using hl)] at e; cases e
    · rw [List.getElem?_set_ne hj] at e
      obtain ⟨u, e1, h1⟩ := r.at_ j w e
      exact ⟨u, by rw [List.getElem?_set_ne hj]; exact e1, h1⟩⟩

/-! ### judgements -/
def XOf (c : SC) (H : Hp) (e : Wv) (cls : Value) (d : Option Addr) : Prop := ∃ x ns xs C dd fs, e = .exc x ns xs ∧ c.mg x = some (.ref C) ∧ cls = .ref C ∧ d = some dd ∧ H dd = some (.xd fs) ∧ fs.map (·.1) = ns ∧ RWs c H xs (fs.map (·.2))
/-- from H, ρ on: this outcome brings what is wanted -/
def OK {α β : Type} (c : SC) (R : Hp → List Addr → α → β → Prop) (H : Hp) (ρ : List Addr) (E : XK) (Q : β → Hp → Prop) : Out α → Prop
  | .ok a M => ∀ ρ' H' b, ρ <+: ρ' → Stb H H' → RM c H' ρ' M → R H' ρ' a b → Q b H'
  | .ex e M => ∀ ρ' H' cls d, ρ <+: ρ' → Stb H H' → RM c H' ρ' M → XOf c H' e cls d → E cls d H'
  | .no => False
section
variable {α β α' β' : Type} {c : SC} {R : Hp → List Addr → α → β → Prop} {R' : Hp → List Addr → α' → β' → Prop} {H H' : Hp} {ρ ρ' : List Addr} {E : XK} {Q : β → Hp → Prop} {Q' : β' → Hp → Prop}
theorem OK.step {o : Out α} (h : OK c R H ρ E Q o) (p : ρ <+: ρ') (s : Stb H H') : OK c R H' ρ' E Q o := by
  cases o with
  | ok a M => exact fun ρ2 H2 b p2 s2 => h ρ2 H2 b (p.trans p2) (s.trans s2)
  | ex e M => exact fun ρ2 H2 cls d p2 s2 => h ρ2 H2 cls d (p.trans p2) (s.trans s2)
  | no => exact h
/-- one behind another -/
theorem OK.bind {x : Mw α} {f : α → Mw α'} {M : Mem} (h : OK c R' H ρ E Q' ((x >>= f) M)) :
    OK c R H ρ E (fun b H1 => ∃ ρ1 M1 a, ρ <+: ρ1 ∧ Stb H H1 ∧ RM c H1 ρ1 M1 ∧ R H1 ρ1 a b ∧ OK c R' H1 ρ1 E Q' (f a M1)) (x M) := by
  have e : (x >>= f) M = (match x M with | .ok a m' => f a m' | .ex e m' => .ex e m' | .no => .no) := rfl
  rw [e] at h
  cases q : x M with
  | ok a M1 =>
    rw [q] at h
    exact fun ρ1 H1 b p s rm r => ⟨ρ1, M1, a, p, s, rm, r, h.step p s⟩
  | ex e M1 =>
    rw [q] at h
    exact h
  | no =>
    rw [q] at h
    exact h
end
abbrev RAr (c : SC) : Hp → List Addr → Av → V → Prop := fun H ρ => RA c H ρ
abbrev RAsr (c : SC) : Hp → List Addr → List Av → List V → Prop := fun H ρ => RL (RA c H ρ)
def lifE (c : SC) (E : XK) (m : Ev → Mw Av) : TE := fun σ H Q => ∃ ρ η M, RM c H ρ M ∧ RE c H ρ η σ ∧ OK c (RAr c) H ρ E Q (m η M)
def lifA (c : SC) (E : XK) (m : Ev → Mw (List Av)) : TA := fun σ H Q => ∃ ρ η M, RM c H ρ M ∧ RE c H ρ η σ ∧ OK c (RAsr c) H ρ E Q (m η M)
def lifT (c : SC) (E : XK) (m : Ev → Mw Bool) : TT := fun σ H Q => ∃ ρ η M, RM c H ρ M ∧ RE c H ρ η σ ∧ OK c (fun _ _ a b => a = b) H ρ E Q (m η M)
end LW

namespace LW
open PySem PySem.Spec PyProof.Rows L2

/-! ### freezing -/
theorem objOk_there {P : Program} {w : World} {H : Hp} {h : Heap} {a : Addr} : ∀ {u : HO}, ObjOk P w H h a u → ∃ o, h.get? a = some o
  | .lst _, ⟨_, _, _, _, e⟩ => ⟨_, e⟩
  | .tup _, ⟨_, _, _, o, e, _⟩ => ⟨o, e⟩
  | .dK _, ⟨_, _, _, _, o, _, _, e, _⟩ => ⟨o, e⟩
  | .dT _, ⟨_, _, _, _, o, _, _, e, _⟩ => ⟨o, e⟩
  | .set _ _, ⟨o, _, _, _, e, _⟩ => ⟨o, e⟩
  | .ins _ _ _, ⟨_, _, _, e, _⟩ => ⟨_, e⟩
  | .own _, ⟨o, e⟩ => ⟨o, e⟩
  | .xd _, ⟨_, ⟨o, _, _, e, _⟩, _⟩ => ⟨o, e⟩
  | .met _ _, e => ⟨_, e⟩
  | .rng _ _, ⟨_, _, _, e⟩ => ⟨_, e⟩
  | .frz _ _, ⟨e, _⟩ => ⟨_, e⟩
  | .tbl _, e => ⟨_, e⟩
  | .ext _, ⟨_, ⟨o, e⟩, _⟩ => ⟨o, e⟩
theorem mut_frz {X : Cx} {pins : List (Addr × Obj)} {σ : L2.St} {H : Hp} {s : Shared} {a : Addr} {u : HO} (I : Inv X pins σ H s) (e : H a = some u) (m : Mut (some u)) : ∃ o, s.heap.get? a = some o ∧ Inv X pins σ (upd H a (.frz o u)) s := by
  obtain ⟨o, ho⟩ := objOk_there (I.hok a u e)
  refine ⟨o, ho, ?_⟩
  have na : ∀ b, H b = none → b ≠ a := fun b n z => by rw [z, e] at n; cases n
  have nm : ∀ b v, H b = some v → ¬ Mut (some v) → b ≠ a := fun b v q n z => n (by rw [← q, z, e]; exact m)
  refine ⟨I.ok, I.os, I.bare, ⟨I.base.keep, I.base.slot, fun b ob q n hx => ?_, I.base.there, fun b xs q => ?_, fun b ob v q => ?_, fun b ps q => ?_⟩, I.loc, I.cell, ?_, fun x c q => ?_, fun p hp => ?_, fun b v q => ?_, I.len⟩
  · have z := I.base.free b ob q n hx
    rw [upd_ne (na b z)]; exact z
  · have z := I.base.tups b xs q
    rw [upd_ne (nm b _ z (fun y => y))]; exact z
  · have z := I.base.frzs b ob v q
    rw [upd_ne (nm b _ z (fun y => y))]; exact z
  · obtain ⟨m1, z⟩ := I.base.tbls b ps q
    exact ⟨m1, by rw [upd_ne (nm b _ z (fun y => y))]; exact z⟩
  · rw [upd_ne (na _ I.free)]; exact I.free
  · rw [upd_ne (na _ (I.freeC x c q))]; exact I.freeC x c q
  · obtain ⟨h1, h2, h3⟩ := I.pin p hp
    exact ⟨h1, by rw [upd_ne (na _ h2)]; exact h2, h3⟩
  · have stay : ∀ b v, H b = some v → ObjOk X.prog X.w (upd H a (.frz o u)) s.heap b v := fun b v q => (I.hok b v q).stay (fun c x _ r => r)
      (fun c r => by rw [upd_ne (nm c _ r (fun y => y))]; exact r) fun c xs r => by rw [upd_ne (nm c _ r (fun y => y))]; exact r
    by_cases hb : b = a
    · rw [hb, upd_same] at q
      cases q
      rw [hb]
      exact ⟨ho, stay a u e⟩
    · rw [upd_ne hb] at q
      exact stay b v q
/-- an exception's dict that no longer changes -/
theorem xd_frz {X : Cx} {pins : List (Addr × Obj)} {σ : L2.St} {H : Hp} {s : Shared} {a : Addr} {fs : List (Str × V)} (I : Inv X pins σ H s) (e : H a = some (.xd fs)) : ∃ o, s.heap.get? a = some o ∧ Inv X pins σ (upd H a (.frz o (.xd fs))) s := by
  obtain ⟨o, ho⟩ := objOk_there (I.hok a _ e)
  refine ⟨o, ho, ?_⟩
  have na : ∀ b, H b = none → b ≠ a := fun b n z => by rw [z, e] at n; cases n
  have nm : ∀ b v, H b = some v → v ≠ .xd fs → b ≠ a := fun b v q n z => n (by rw [z, e] at q; exact (Option.some.inj q).symm)
  refine ⟨I.ok, I.os, I.bare, ⟨I.base.keep, I.base.slot, fun b ob q n hx => ?_, I.base.there, fun b xs q => ?_, fun b ob v q => ?_, fun b ps q => ?_⟩, I.loc, I.cell, ?_, fun x c q => ?_, fun p hp => ?_, fun b v q => ?_, I.len⟩
  · have z := I.base.free b ob q n hx
    rw [upd_ne (na b z)]; exact z
  · have z := I.base.tups b xs q
    rw [upd_ne (nm b _ z (fun y => by cases y))]; exact z
  · have z := I.base.frzs b ob v q
    rw [upd_ne (nm b _ z (fun y => by cases y))]; exact z
  · obtain ⟨m1, z⟩ := I.base.tbls b ps q
    exact ⟨m1, by rw [upd_ne (nm b _ z (fun y => by cases y))]; exact z⟩
  · rw [upd_ne (na _ I.free)]; exact I.free
  · rw [upd_ne (na _ (I.freeC x c q))]; exact I.freeC x c q
  · obtain ⟨h1, h2, h3⟩ := I.pin p hp
    exact ⟨h1, by rw [upd_ne (na _ h2)]; exact h2, h3⟩
  · have stay : ∀ b v, H b = some v → ObjOk X.prog X.w (upd H a (.frz o (.xd fs))) s.heap b v := fun b v q => (I.hok b v q).stay (fun c x _ r => r)
      (fun c r => by rw [upd_ne (nm c _ r (fun y => by cases y))]; exact r) fun c xs r => by rw [upd_ne (nm c _ r (fun y => by cases y))]; exact r
    by_cases hb : b = a
    · rw [hb, upd_same] at q
      cases q
      rw [hb]
      exact ⟨ho, stay a _ e⟩
    · rw [upd_ne hb] at q
      exact stay b v q
/-- what an expression gives may be frozen first -/
def QF (Q : VK) : VK := fun v H => Q v H ∨ ∃ a u, v = .ref a ∧ H a = some u ∧ Mut (some u) ∧ ∀ o, Q v (upd H a (.frz o u))
theorem pe_frz {X : Cx} {e : Expr} {t : TE} (h : PE X e t) : PE X e (fun σ H Q => t σ H (QF Q)) := by
  refine ⟨fun pins s σ H Q I hw => ?_⟩
  refine thn (h.run pins s σ H _ I hw) fun u s1 ⟨v, H1, I1, r1, q1⟩ => ?_
  rcases q1 with q1 | ⟨a, o, rfl, e1, m, q1⟩
  · exact ⟨v, H1, I1, r1, q1⟩
  · obtain ⟨ob, _, I2⟩ := mut_frz I1 e1 m
    exact ⟨_, _, I2, r1, q1 ob⟩
theorem pe_imp {X : Cx} {e : Expr} {t u : TE} (h : PE X e t) (i : ∀ σ H Q, u σ H Q → t σ H Q) : PE X e u := ⟨fun pins s σ H Q I hw => h.run pins s σ H Q I (i σ H Q hw)⟩
theorem pt_imp {X : Cx} {e : Expr} {t u : TT} (h : PT X e t) (i : ∀ σ H Q, u σ H Q → t σ H Q) : PT X e u := ⟨fun pins s σ H Q I hw => h.run pins s σ H Q I (i σ H Q hw)⟩
theorem pa_imp {X : Cx} {e : List Expr} {t u : TA} (h : PA X e t) (i : ∀ σ H Q, u σ H Q → t σ H Q) : PA X e u := ⟨fun ps pins s σ H Q I hw => h.run ps pins s σ H Q I (i σ H Q hw)⟩
theorem frz_stb {H : Hp} {a : Addr} {u : HO} {o : Obj} (e : H a = some u) (m : Mut (some u)) : Stb H (upd H a (.frz o u)) := Stb.write (by rw [e]; exact m)
/-- a new object, frozen at once -/
theorem new_frz {H : Hp} {p : Addr} {u v : HO} : upd (upd H p u) p v = upd H p v := upd_upd
/-- what is caught: its object stands as it is -/
abbrev catO (a : Addr) (o : Obj) : HO := .frz o (.ext fun h => h.get? a = some o)
theorem track {X : Cx} {pins : List (Addr × Obj)} {σ : L2.St} {H : Hp} {s : Shared} {a : Addr} {o : Obj} {vs : Array Value} (I : Inv X pins σ H s) (ha : s.heap.get? a = some o) (na : H a = none) (hd : o.data = .fields vs) (n0 : X.s_0.heap.get? a = none) (nL : a ≠ X.env.locals) (np : ∀ p ∈ X.pn ++ pins, p.1 ≠ a) :
    Inv X pins σ (upd H a (catO a o)) s := by
  have nm : ∀ b v, H b = some v → b ≠ a := fun b v q z => by rw [z, na] at q; cases q
  refine ⟨I.ok, I.os, I.bare, ⟨I.base.keep, I.base.slot, fun b ob q n hx => ?_, I.base.there, fun b xs q => ?_, fun b ob v q => ?_, fun b ps q => ?_⟩, I.loc, I.cell, ?_, fun x c q => ?_, fun p hp => ?_, fun b v q => ?_, I.len⟩
  · rw [upd_ne (fun z => by rw [z, n0] at q; cases q)]; exact I.base.free b ob q n hx
  · have z := I.base.tups b xs q
    rw [upd_ne (nm b _ z)]; exact z
  · have z := I.base.frzs b ob v q
    rw [upd_ne (nm b _ z)]; exact z
  · obtain ⟨m1, z⟩ := I.base.tbls b ps q
    exact ⟨m1, by rw [upd_ne (nm b _ z)]; exact z⟩
  · rw [upd_ne (fun z => nL z.symm)]; exact I.free
  · rw [upd_ne (fun z => by
      obtain ⟨v, o', e, d⟩ := I.cell x c q
      rw [z, ha] at e
      cases e
      rw [hd] at d
      cases d)]
    exact I.freeC x c q
  · obtain ⟨h1, h2, h3⟩ := I.pin p hp
    exact ⟨h1, by rw [upd_ne (np p hp)]; exact h2, h3⟩
  · have stay : ∀ b v, H b = some v → ObjOk X.prog X.w (upd H a (catO a o)) s.heap b v := fun b v q => (I.hok b v q).stay (fun c x _ r => r)
      (fun c r => by rw [upd_ne (nm c _ r)]; exact r) fun c xs r => by rw [upd_ne (nm c _ r)]; exact r
    by_cases hb : b = a
    · rw [hb, upd_same] at q
      cases q
      rw [hb]
      exact ⟨ha, ha, ⟨o, ha⟩, fun h1 h2 z k => k _ z⟩
    · rw [upd_ne hb] at q
      exact stay b v q
end LW

namespace LW
open PySem PySem.Spec PyProof.Rows L2

/-! ### the language -/
inductive Wc where
  | non | bl (b : Bool) | int (i : Int) | str (x : Str)
  deriving DecidableEq
def Wc.wv : Wc → Wv
  | .non => .non
  | .bl b => .bl b
  | .int i => .int i
  | .str x => .str x
/-- a target: a slot, a row of targets -/
inductive PT where
  | name (i : Nat) | tup (ts : List PT)
/-- what is walked: a value, range(..), zip(..) -/
inductive ItK where
  | val | range1 | range2 | zip
  deriving DecidableEq
inductive PX where
  | var (i : Nat) | con (c : Wc) | glo (x : Str) | typ (n : String)
  | bin (o : Operator) (a b : PX) | neg (a : PX)
  | notv (a : PX) | and (xs : List PX) | or (xs : List PX)
  | cmp (o : CmpOp) (a b : PX) | chain (o1 o2 : CmpOp) (a b c : PX)
  | ife (t a b : PX)
  | call (f : Str) (xs : List PX)
  | callk (f : Str) (xs : List PX) (ks : List Str) (ys : List PX)
  | make (c : Str) (xs : List PX) (ks : List Str) (ys : List PX)
  | heard (b : PX)
  | bi (b : Str) (xs : List PX)
  | meth (m : Str) (o : PX) (xs : List PX)
  | own (m : Str) (o : PX) (xs : List PX)
  | attr (f : Str) (o : PX)
  | ix (o i : PX) | sl (o : PX) (lo hi : Option PX)
  | tup (xs : List PX) | lst (mt : Bool) (xs : List PX) | dct (mt : Bool) (ks vs : List PX)
  | lc (mt : Bool) (e : PX) (t : PT) (k : ItK) (its : List PX) (ifs : List PX) (own : List Nat)
  | star (e : PX)
inductive PSt where
  | asg (t : PT) (e : PX) | par (i j : Nat) (a b : PX)
  | sub (o i e : PX) | fld (o : PX) (f : Str) (e : PX)
  | aug (i : Nat) (o : Operator) (e : PX)
  | ex (e : PX) | ret (e : PX) | retN
  | ife (t : PX) (a b : List PSt) | whl (t : PX) (b : List PSt) | fr (t : PT) (k : ItK) (its : List PX) (b : List PSt)
  | pass | brk | cont | rais (c : Str) (xs : List PX)
  | frz (i : Nat)
  | retk (e : PX)

/-! ### what the world around gives -/
/-- a class: a built-in one, one of the module's -/
inductive Kn where
  | bt (n : String) | own (c : Str)
  deriving DecidableEq
/-- where a parameter's value comes from in a call with keywords -/
inductive Src where
  | pos (i : Nat) | kw (i : Nat) | dfl (w : Wv)
structure G where
  /-- the module's constants, its classes -/
  glob : Str → Option Wv
  /-- defs and methods ("C.m") by name, every parameter given -/
  full : Str → List Av → Mw Av
  /-- so many arguments given: what fills up -/
  dfl : Str → Nat → Option (List Wv)
  /-- .. and keywords: the parameters' sources -/
  kwo : Str → Nat → List Str → Option (List Src)
  /-- an exception class: the fields that its parameters are kept in, the last one first -/
  exf : Str → Option (List Str)
  /-- behind the try of _law_heard: the cells at its entry, what was caught, what was found -/
  hrd : Nat → Av → Av → Mw Av
  /-- the fields that instances, exceptions of a class may have -/
  fld : Str → Str → Bool
  xfd : Str → Str → Bool
  /-- the methods of a class's instances -/
  mth : Str → Str → Bool
  /-- classes whose instances, exceptions may be asked what they are -/
  icl : Str → Bool
  xcl : Str → Bool
  kit : Kn → Kn → Option Bool
  /-- beside a value of this kind a class's own __eq__ is asked first -/
  nf : Str → Kn → Bool
  /-- turns of a while -/
  fuel : Nat
abbrev G.put (g : G) (F : Str → List Av → Mw Av) (h : Nat → Av → Av → Mw Av) : G := { g with full := F, hrd := h }
def G.call (g : G) (f : Str) (n : Nat) (as : List Av) : Mw Av := match g.dfl f n with
  | some ds => if as.length = n then g.full f (as ++ ds.map .val) else Mw.fail
  | none => Mw.fail
def srcOne (as bs : List Av) : Src → Option Av
  | .pos i => as[i]?
  | .kw i => bs[i]?
  | .dfl w => some (.val w)
def srcA (as bs : List Av) : List Src → Option (List Av)
  | [] => some []
  | s :: r => match srcOne as bs s, srcA as bs r with
    | some a, some l => some (a :: l)
    | _, _ => none
def G.callk (g : G) (f : Str) (n : Nat) (ks : List Str) (as bs : List Av) : Mw Av := match g.kwo f n ks with
  | some ss => if as.length = n ∧ bs.length = ks.length then (match srcA as bs ss with
    | some l => g.full f l
    | none => Mw.fail) else Mw.fail
  | none => Mw.fail

/-! ### values -/
def strW : List Nat → Str := fun l => ⟨l.toArray⟩
def Wv.pure? : Av → Option Wv
  | .val w => some w
  | .ref _ => none
def pures : List Av → Option (List Wv)
  | [] => some []
  | a :: r => match a, pures r with
    | .val w, some ws => some (w :: ws)
    | _, _ => none
/-- a list's items, wherever it stands; lstI: the script's too -/
def lstF (M : Mem) : Av → Option (List Av)
  | .val (.lst xs) => some (xs.map .val)
  | .ref i => match M[i]? with
    | some (.lst xs) => some xs
    | _ => none
  | _ => none
def lstI (M : Mem) : Av → Option (List Av)
  | .val (.lst xs) => some (xs.map .val)
  | .val (.kls xs) => some (xs.map .val)
  | .ref i => match M[i]? with
    | some (.lst xs) => some xs
    | _ => none
  | _ => none
def tupI : Av → Option (List Wv)
  | .val (.tup xs) => some xs
  | _ => none
mutual
def toPy : Wv → Option PyData
  | .non => some .none
  | .bl b => some (.bool b)
  | .int i => some (.int i)
  | .str x => some (.str x)
  | .tup xs => match toPyL xs with
    | some ds => some (.tuple ds)
    | none => none
  | .lst xs => match toPyL xs with
    | some ds => some (.list ds)
    | none => none
  | _ => none
def toPyL : List Wv → Option (List PyData)
  | [] => some []
  | x :: r => match toPy x, toPyL r with
    | some d, some ds => some (d :: ds)
    | _, _ => none
end
def toPyA (M : Mem) : Av → Option PyData
  | .val w => toPy w
  | .ref i => match M[i]? with
    | some (.lst xs) => match pures xs with
      | some ws => toPy (.lst ws)
      | none => none
    | _ => none
def eqA (M : Mem) (a b : Av) : Option Bool := match toPyA M a, toPyA M b with
  | some d, some e => if SeqAt.shaped d = true ∧ SeqAt.shaped e = true then some (PyData.eqv d e) else none
  | _, _ => none
def trueA (M : Mem) : Av → Option Bool
  | .val .non => some false
  | .val (.bl b) => some b
  | .val (.int i) => some (i != 0)
  | .val (.str x) => if x.length ≤ sizeLine then some ((x.length : Int) != 0) else none
  | .val (.tup xs) => some (!xs.isEmpty)
  | a => match lstI M a with
    | some xs => some (!xs.isEmpty)
    | none => none

def addA (M : Mem) : Av → Av → Option Av
  | .val (.int i), .val (.int j) => some (.val (.int (i + j)))
  | .val (.str x), .val (.str y) => if x.length + y.length ≤ sizeLine then some (.val (.str (x ++ y))) else none
  | .val (.tup xs), .val (.tup ys) => if xs.length + ys.length ≤ sizeLine then some (.val (.tup (xs ++ ys))) else none
  | a, b => match lstF M a, lstF M b with
    | some xs, some ys => match pures (xs ++ ys) with
      | some ws => if ws.length ≤ sizeLine then some (.val (.lst ws)) else none
      | none => none
    | _, _ => none
def mulA (M : Mem) : Av → Av → Option Av
  | .val (.int i), .val (.int j) => if (-(2 ^ 64) < i ∧ i < 2 ^ 64) ∨ (-(2 ^ 64) < j ∧ j < 2 ^ 64) then some (.val (.int (i * j))) else none
  | a, .val (.int k) => match lstF M a with
    | some xs => match pures xs with
      | some ws => if -(2 ^ 63) ≤ k ∧ k < 2 ^ 63 ∧ ws.length * k.toNat ≤ sizeLine then some (.val (.lst (List.replicate k.toNat ws).flatten)) else none
      | none => none
    | none => none
  | _, _ => none
def binA (M : Mem) : Operator → Av → Av → Option Av
  | .Add, a, b => addA M a b
  | .Sub, .val (.int i), .val (.int j) => some (.val (.int (i - j)))
  | .Mult, a, b => mulA M a b
  | .FloorDiv, .val (.int i), .val (.int j) => if j ≠ 0 ∧ j.natAbs < 1073741824 then some (.val (.int (i.fdiv j))) else none
  | .Mod, .val (.int i), .val (.int j) => if j ≠ 0 then some (.val (.int (i.fmod j))) else none
  | .Pow, .val (.int i), .val (.int j) => if 0 ≤ j ∧ j ≤ 1000000 ∧ i.natAbs < 2 ^ 64 then some (.val (.int (i ^ j.toNat))) else none
  | _, _, _ => none
/-- flat things: by value -/
def flatW : Wv → Bool
  | .non | .bl _ | .int _ | .str _ => true
  | _ => false
def eqFlat : Wv → Wv → Bool
  | .bl a, .int j => (if a then 1 else 0) == j
  | .int i, .bl b => i == (if b then 1 else 0)
  | a, b => Wv.same a b
/-- a row that is looked through -/
def seqA (M : Mem) (b : Av) : Option (List Wv) := match tupI b with
  | some ws => some ws
  | none => match lstI M b with
    | some xs => pures xs
    | none => none
def inA (M : Mem) (x : Av) : Av → Option Bool
  | .val (.str y) => match x with
    | .val (.str z) => some (!(Builtin.Str.occurrences y z 0 y.length 1).isEmpty)
    | _ => none
  | b => match x, seqA M b with
    | .val w, some ws => if flatW w = true ∧ ws.all flatW = true then some (ws.any fun y => eqFlat y w) else none
    | _, _ => none
def isA : Av → Av → Option Bool
  | a, .val .non => some (match a with
    | .val .non => true
    | _ => false)
  | .val (.bl a), .val (.bl b) => some (decide (a = b))
  | _, _ => none
def ltA : CmpOp → Av → Av → Option Bool
  | .Lt, .val (.int i), .val (.int j) => some (decide (i < j))
  | .LtE, .val (.int i), .val (.int j) => some (decide (i ≤ j))
  | .Gt, .val (.int i), .val (.int j) => some (decide (j < i))
  | .GtE, .val (.int i), .val (.int j) => some (decide (j ≤ i))
  | .Lt, .val (.str i), .val (.str j) => some (decide (i.cps.toList < j.cps.toList))
  | .LtE, .val (.str i), .val (.str j) => some (!decide (j.cps.toList < i.cps.toList))
  | _, _, _ => none
/-- a list is no tuple, whatever they hold -/
def twoS : Av → Av → Option (Str × Str)
  | .val (.str x), .val (.str y) => some (x, y)
  | _, _ => none
def eqK0 (M : Mem) (a b : Av) : Option Bool :=
  if ((lstI M a).isSome && (tupI b).isSome || (tupI a).isSome && (lstI M b).isSome) = true then some false else eqA M a b
def eqK (M : Mem) (a b : Av) : Option Bool := match twoS a b with
  | some (x, y) => some (x == y)
  | none => eqK0 M a b
def neK (M : Mem) (a b : Av) : Option Bool := match twoS a b with
  | some (x, y) => some (x != y)
  | none => (eqA M a b).map not
def dataC (M : Mem) (a b : Av) : CmpOp → Option Bool
  | .Eq => eqK M a b
  | .NotEq => neK M a b
  | .In => inA M a b
  | .NotIn => (inA M a b).map not
  | .Is => isA a b
  | .IsNot => (isA a b).map not
  | o => ltA o a b
def ixA (M : Mem) : Av → Av → Option Av
  | .val (.tup xs), .val (.int i) => (atI xs i).map .val
  | .val (.str x), .val (.int i) => if x.length ≤ sizeLine then (atI x.cps.toList i).map fun c => .val (.str ⟨#[c]⟩) else none
  | a, .val (.int i) => match lstI M a with
    | some xs => atI xs i
    | none => none
  | _, _ => none
def optI : Option Av → Option (Option Int)
  | none => some none
  | some (.val (.int i)) => some (some i)
  | some (.val .non) => none
  | some _ => none
def cutL {α : Type} (xs : List α) (lo hi : Option Int) : List α := (xs.drop (HT.sIx xs.length 0 lo)).take (HT.sIx xs.length xs.length hi - HT.sIx xs.length 0 lo)
def slA (M : Mem) (a : Av) (lo hi : Option Int) : Option Av := match a with
  | .val (.tup xs) => some (.val (.tup (cutL xs lo hi)))
  | .val (.str z) => if z.length ≤ sizeLine then some (.val (.str (cutS z lo hi))) else none
  | a => match lstI M a with
    | some xs => match pures (cutL xs lo hi) with
      | some ws => some (.val (.lst ws))
      | none => none
    | none => none
def attrA (g : G) (M : Mem) (f : Str) : Av → Option Av
  | .val (.ins cn ns xs) => if g.fld cn f = true then ((ns.zip xs).lookup f).map .val else none
  | .val (.exc cn ns xs) => if g.xfd cn f = true then ((ns.zip xs).lookup f).map .val else none
  | .ref i => match M[i]? with
    | some (.ins cn ns xs) => if g.fld cn f = true then (ns.zip xs).lookup f else none
    | _ => none
  | _ => none
/-- the classes that a value is of, for isinstance -/
def tyOf (M : Mem) : Av → Option String
  | .val .non => some "NoneType"
  | .val (.bl _) => some "bool"
  | .val (.int _) => some "int"
  | .val (.str _) => some "str"
  | .val (.tup _) => some "tuple"
  | .val (.lst _) => some "list"
  | .val (.kls _) => some "list"
  | .val (.dct _ _) => some "dict"
  | .ref i => match M[i]? with
    | some (.lst _) => some "list"
    | some (.dct _ _) => some "dict"
    | _ => none
  | _ => none
/-- what is walked -/
def charsW (x : Str) : List Wv := x.cps.toList.map fun c => .str ⟨#[c]⟩
def walkA : Av → Option (List Wv)
  | .val (.lst xs) => some xs
  | .val (.kls xs) => some xs
  | .val (.tup xs) => some xs
  | .val (.str x) => some (charsW x)
  | _ => none
def rangeW (lo : Int) (n : Nat) : List Wv := (List.range n).map fun i => .int (lo + (i : Nat))

/-! ### targets -/
mutual
def putT : PT → Av → Ev → Option Ev
  | .name i, a, η => some (η.set i (some a))
  | .tup ts, a, η => match a with
    | .val (.tup xs) => if xs.length = ts.length then putTs ts xs η else none
    | _ => none
def putTs : List PT → List Wv → Ev → Option Ev
  | [], _, η => some η
  | t :: ts, xs, η => match xs with
    | [] => none
    | x :: r => match putT t (.val x) η with
      | some η1 => putTs ts r η1
      | none => none
end
def wipeE : Ev → List Nat → Ev
  | η, [] => η
  | η, v :: vs => (wipeE η vs).set v none

/-! ### built-in functions, by value -/
def allBl : List Wv → Option (List Bool)
  | [] => some []
  | .bl b :: r => (allBl r).map (b :: ·)
  | _ :: _ => none
def allInt : List Wv → Option (List Int)
  | [] => some []
  | .int b :: r => (allInt r).map (b :: ·)
  | _ :: _ => none
def allStr : List Wv → Option (List Str)
  | [] => some []
  | .str b :: r => (allStr r).map (b :: ·)
  | _ :: _ => none
def lenL (a : Av) : Mw Av := fun M => match lstI M a with
  | some xs => .ok (.val (.int xs.length)) M
  | none => .no
def lenA (M : Mem) (g : G) : Av → Mw Av
  | .val (.str x) => fun M => if x.length ≤ sizeLine then .ok (.val (.int x.length)) M else .no
  | .val (.tup xs) => fun M => .ok (.val (.int xs.length)) M
  | .val (.ins c ns xs) => fun M => if g.mth c "__len__" = true then (match g.call (c ++ ".__len__") 1 [.val (.ins c ns xs)] M with
    | .ok (.val (.int n)) M' => if 0 ≤ n ∧ n < 2 ^ 63 then .ok (.val (.int n)) M' else .no
    | _ => .no) else .no
  | a => lenL a
/-- a new list -/
def newL (mt : Bool) (as : List Av) : Mw Av := fun M =>
  if mt then .ok (.ref M.length) (M ++ [.lst as]) else match pures as with
    | some ws => .ok (.val (.lst ws)) M
    | none => .no
def knA (g : G) (M : Mem) : Av → Option Kn
  | .val (.ins c _ _) => if g.icl c = true then some (.own c) else none
  | .val (.exc c _ _) => if g.xcl c = true then some (.own c) else none
  | a => (tyOf M a).map .bt
/-- an own __eq__: what it says, turned for != -/
def ownR (g : G) (o : CmpOp) (c : Str) : Out Av → Out Bool
  | .ok (.val (.bl r)) M' => if o = .Eq then .ok r M' else if o = .NotEq ∧ g.mth c "!=" = true then .ok (!r) M' else .no
  | _ => .no
def ownC (g : G) (o : CmpOp) (c : Str) (a b : Av) : Mw Bool := fun M => match knA g M b with
  | some kn => if g.mth c "__eq__" = true ∧ g.nf c kn = true then ownR g o c (g.call (c ++ ".__eq__") 2 [a, b] M) else .no
  | none => .no
def cmpA (g : G) (o : CmpOp) (a b : Av) : Mw Bool := match a with
  | .val (.ins c _ _) => ownC g o c a b
  | a => fun M => Mw.of (dataC M a b o) M
def clsK : Wv → Option Kn
  | .ty n => some (.bt n)
  | .cls c => some (.own c)
  | _ => none
def anyKit (g : G) (k : Kn) : List Wv → Option Bool
  | [] => some false
  | t :: r => match clsK t with
    | some t => match g.kit k t with
      | some true => some true
      | some false => anyKit g k r
      | none => none
    | none => none
def isiA (g : G) (M : Mem) (a t : Av) : Option Bool := match knA g M a with
  | some k => match t with
    | .val (.tup ts) => if ts.all (fun t => (clsK t).isSome) = true then anyKit g k ts else none
    | .val t => match clsK t with
      | some t => g.kit k t
      | none => none
    | _ => none
  | none => none
def newT (as : List Av) : Mw Av := fun M => match pures as with
  | some ws => .ok (.val (.tup ws)) M
  | none => .no
def biAbs (as : List Av) : Mw Av := fun M => match as with
  | [.val (.int i)] => .ok (.val (.int (if i < 0 then -i else i))) M
  | _ => .no
def biInt (as : List Av) : Mw Av := fun M => match as with
  | [.val (.int i)] => .ok (.val (.int i)) M
  | [.val (.bl k)] => .ok (.val (.int (if k then 1 else 0))) M
  | _ => .no
def biMin (as : List Av) : Mw Av := fun M => match as with
  | [.val (.int i), .val (.int j)] => .ok (.val (.int (if j < i then j else i))) M
  | _ => .no
def biMax (as : List Av) : Mw Av := fun M => match as with
  | [.val (.int i), .val (.int j)] => .ok (.val (.int (if j > i then j else i))) M
  | _ => .no
def biAll (as : List Av) : Mw Av := fun M => match as with
  | [.val (.lst xs)] => (match allBl xs with
    | some bs => .ok (.val (.bl (bs.all id))) M
    | none => .no)
  | _ => .no
def biAny (as : List Av) : Mw Av := fun M => match as with
  | [.val (.lst xs)] => (match allBl xs with
    | some bs => .ok (.val (.bl (bs.any id))) M
    | none => .no)
  | _ => .no
def itemsA (M : Mem) (a : Av) : Option (List Av) := match tupI a with
  | some ws => some (ws.map Av.val)
  | none => lstI M a
def biList (mt : Bool) (as : List Av) : Mw Av := fun M => match as with
  | [a] => (match itemsA M a with
    | some xs => newL mt xs M
    | none => .no)
  | _ => .no
def biTuple (as : List Av) : Mw Av := fun M => match as with
  | [a] => (match itemsA M a with
    | some xs => newT xs M
    | none => .no)
  | _ => .no
def biIsi (g : G) (as : List Av) : Mw Av := fun M => match as with
  | [a, t] => (match isiA g M a t with
    | some k => .ok (.val (.bl k)) M
    | none => .no)
  | _ => .no
def biLen (g : G) (as : List Av) : Mw Av := fun M => match as with
  | [a] => lenA M g a M
  | _ => .no
/-! sorted, repr -/
def leS (a b : Str) : Bool := decide (a.cps.toList ≤ b.cps.toList)
def insS (x : Str) : List Str → List Str
  | [] => [x]
  | y :: r => if leS x y = true then x :: y :: r else y :: insS x r
def sortS : List Str → List Str
  | [] => []
  | x :: r => insS x (sortS r)
def insZ (x : Int) : List Int → List Int
  | [] => [x]
  | y :: r => if x ≤ y then x :: y :: r else y :: insZ x r
def sortZ : List Int → List Int
  | [] => []
  | x :: r => insZ x (sortZ r)
def biSorted (as : List Av) : Mw Av := fun M => match as with
  | [a] => (match (lstI M a).bind pures with
    | some ws => (match allStr ws with
      | some xs => if xs.length < 64 then .ok (.val (.lst ((sortS xs).map .str))) M else .no
      | none => (match allInt ws with
        | some xs => .ok (.val (.lst ((sortZ xs).map .int))) M
        | none => .no))
    | none => .no)
  | _ => .no
def showB (d : PyData) : Bool := d.showable && !d.hasDict && decide (d.depth ≤ 100) && decide (d.shown.length ≤ sizeLine)
def biRepr (as : List Av) : Mw Av := fun M => match as with
  | [a] => (match toPyA M a with
    | some (.tuple ds) => if showB (.tuple ds) = true then .ok (.val (.str (PyData.tuple ds).shown)) M else .no
    | some (.list ds) => if showB (.list ds) = true then .ok (.val (.str (PyData.list ds).shown)) M else .no
    | _ => .no)
  | _ => .no
def biA (g : G) (b : Str) (as : List Av) : Mw Av :=
  if b = "len" then biLen g as
  else if b = "abs" then biAbs as
  else if b = "int" then biInt as
  else if b = "min" then biMin as
  else if b = "max" then biMax as
  else if b = "all" then biAll as
  else if b = "any" then biAny as
  else if b = "list" then biList false as
  else if b = "list!" then biList true as
  else if b = "tuple" then biTuple as
  else if b = "isinstance" then biIsi g as
  else if b = "sorted" then biSorted as
  else if b = "repr" then biRepr as
  else Mw.fail

/-! ### cells left behind -/
def pureC : Cell → Bool
  | .lst xs => (pures xs).isSome
  | .dct _ xs => (pures xs).isSome
  | .ins _ _ xs => (pures xs).isSome
  | .dead => true
/-- the cells of M stand in M', as they were, or holding plain values -/
def chkL : Mem → Mem → Bool
  | [], _ => true
  | k :: r, l :: s => (decide (k = l) || pureC l) && chkL r s
  | _ :: _, [] => false
/-- what leaves a def: a cell of its own becomes a value -/
def retA (n : Nat) (a : Av) : Mw Av := fun M => match a with
  | .val w => .ok (.val w) M
  | .ref i => if i < n then .ok (.ref i) M else match M[i]? with
    | some (.lst xs) => (match pures xs with
      | some ws => .ok (.val (.lst ws)) (M.set i .dead)
      | none => .no)
    | some (.dct ks xs) => (match pures xs with
      | some ws => .ok (.val (.dct ks ws)) (M.set i .dead)
      | none => .no)
    | _ => .no
/-- .. and its own cells are forgotten -/
def finA (keep : Bool) (M : Mem) : Out Av → Out Av
  | .ok a M' => if keep = true then .ok a M' else if chkL M M' = true then (match a with
      | .val w => .ok (.val w) (M'.take M.length)
      | .ref i => if i < M.length then .ok (.ref i) (M'.take M.length) else .no) else .no
  | .ex e M' => if chkL M M' = true then .ex e (M'.take M.length) else .no
  | .no => .no
/-- an instance is made, its __init__ runs, then it never changes -/
def makeA (g : G) (c : Str) (as : List Av) : Mw Av := fun M => match g.full (c ++ ".__init__") (.ref M.length :: as) (M ++ [.ins c [] []]) with
  | .ok (.val .non) M' => (match M'[M.length]? with
    | some (.ins c' ns xs) => if c' = c ∧ chkL M M' = true ∧ M'.length = M.length + 1 then (match pures xs with
      | some ws => .ok (.val (.ins c ns ws)) (M'.take M.length)
      | none => .no) else .no
    | _ => .no)
  | .ok _ _ => .no
  | .ex e M' => if chkL M M' = true then .ex e (M'.take M.length) else .no
  | .no => .no
def excA (g : G) (c : Str) (as : List Av) : Option Wv := match g.exf c, pures as with
  | some ns, some ws => if ns.length = ws.length then some (.exc c ns ws.reverse) else none
  | _, _ => none
def newA (g : G) (c : Str) (n : Nat) (as : List Av) : Mw Av := match g.exf c with
  | some _ => fun M => Mw.of ((excA g c as).map .val) M
  | none => (match g.dfl (c ++ ".__init__") (n + 1) with
      | some ds => if as.length = n then makeA g c (as ++ ds.map .val) else Mw.fail
      | none => Mw.fail)
def newkA (g : G) (c : Str) (n : Nat) (ks : List Str) (as bs : List Av) : Mw Av := match g.exf c with
  | some _ => Mw.fail
  | none => (match g.kwo (c ++ ".__init__") (n + 1) ks with
    | some ss => if as.length = n ∧ bs.length = ks.length then (match srcA (.val .non :: as) bs ss with
      | some (_ :: l) => makeA g c l
      | _ => Mw.fail) else Mw.fail
    | none => Mw.fail)

/-- an instance's own method -/
def ownA (g : G) (m : Str) (n : Nat) (o : Av) (as : List Av) : Mw Av := fun M => match o with
  | .val (.ins c _ _) => if g.mth c m = true then g.call (c ++ "." ++ m) (n + 1) (o :: as) M else .no
  | .ref i => (match M[i]? with
    | some (.ins c _ _) => if g.mth c m = true then g.call (c ++ "." ++ m) (n + 1) (o :: as) M else .no
    | _ => .no)
  | _ => .no
/-! ### methods of built-in types, stores -/
def methA (m : Str) (o : Av) (as : List Av) : Mw Av := fun M =>
  if m = "append" then (match o, as with
    | .ref i, [a] => (match M[i]? with
      | some (.lst xs) => if xs.length < sizeLine then .ok (.val .non) (M.set i (.lst (xs ++ [a]))) else .no
      | _ => .no)
    | _, _ => .no)
  else if m = "pop" then (match o, as with
    | .ref i, [] => (match M[i]? with
      | some (.lst xs) => (match xs[xs.length - 1]? with
        | some a => .ok a (M.set i (.lst xs.dropLast))
        | none => .no)
      | _ => .no)
    | .ref i, [.val (.int j)] => (match M[i]? with
      | some (.lst xs) => (match ixN xs.length j with
        | some k => if -(2 ^ 63) ≤ j ∧ j < 2 ^ 63 then (match xs[k]? with
          | some a => .ok a (M.set i (.lst (xs.eraseIdx k)))
          | none => .no) else .no
        | none => .no)
      | _ => .no)
    | _, _ => .no)
  else .no
/-- a list that may be changed -/
def chkM (o : Av) : Mw Unit := fun M => match o with
  | .ref i => (match M[i]? with
    | some (.lst _) => .ok () M
    | _ => .no)
  | _ => .no
def setA (o i v : Av) : Mw Unit := fun M => match o, i with
  | .ref p, .val (.int j) => (match M[p]? with
    | some (.lst xs) => (match ixN xs.length j with
      | some k => .ok () (M.set p (.lst (xs.set k v)))
      | none => .no)
    | _ => .no)
  | _, _ => .no
def putFA (f : Str) (a : Av) : List Str → List Av → List Str × List Av
  | n :: ns, x :: xs => if n = f then (n :: ns, a :: xs) else (fun p => (n :: p.1, x :: p.2)) (putFA f a ns xs)
  | _, _ => ([f], [a])
def setF (g : G) (o : Av) (f : Str) (v : Av) : Mw Unit := fun M => match o with
  | .ref p => (match M[p]? with
    | some (.ins c ns xs) => if g.fld c f = true ∧ ns.length < 1000 ∧ ns.length = xs.length then .ok () (M.set p (.ins c (putFA f v ns xs).1 (putFA f v ns xs).2)) else .no
    | _ => .no)
  | _ => .no

/-! ### the evaluator -/
/-- one item after the other -/
def overW {S : Type} (f : Wv → S → Mw S) : List Wv → S → Mw S
  | [], s => fun M => .ok s M
  | x :: r, s => fun M => match f x s M with
    | .ok s' M' => overW f r s' M'
    | .ex e M' => .ex e M'
    | .no => .no
/-- nothing may raise here -/
def noX {α : Type} (x : Mw α) : Mw α := fun M => match x M with
  | .ok a M' => .ok a M'
  | .ex _ _ => .no
  | .no => .no
/-- an item of a comprehension -/
def lcB (t : PT) (η : Ev) (mt : Ev → Mw Bool) (me : Ev → Mw Av) (w : Wv) (acc : List Av) : Mw (List Av) := match putT t (.val w) η with
  | none => Mw.fail
  | some η1 => noX (mt η1) >>= fun k => if k = true then noX (me η1) >>= fun a => (if acc.length < sizeLine then (pure (acc ++ [a]) : Mw (List Av)) else Mw.fail) else pure acc
/-- what is walked, by name -/
def walkM (a : Av) : Mw (List Wv) := fun M => Mw.of (walkA a) M
def rangeA1 (as : List Av) : Mw (List Wv) := fun M => match as with
  | [.val (.int j)] => if -(2 ^ 62) ≤ j ∧ j < 2 ^ 62 then .ok (rangeW 0 j.toNat) M else .no
  | _ => .no
def rangeA2 (as : List Av) : Mw (List Wv) := fun M => match as with
  | [.val (.int i), .val (.int j)] => if -(2 ^ 62) ≤ i ∧ i < 2 ^ 62 ∧ -(2 ^ 62) ≤ j ∧ j < 2 ^ 62 then .ok (rangeW i (j - i).toNat) M else .no
  | _ => .no
def pairsW (xs ys : List Wv) : List Wv := List.zipWith (fun x y => Wv.tup [x, y]) xs ys
def zipA (as : List Av) : Mw (List Wv) := fun M => match as with
  | [.val (.lst xs), .val (.lst ys)] => .ok (pairsW xs ys) M
  | [.val (.tup xs), .val (.tup ys)] => .ok (pairsW xs ys) M
  | _ => .no
/-- by kind -/
def itA : ItK → List Av → Mw (List Wv)
  | .val, as => (match as with
    | [a] => walkM a
    | _ => Mw.fail)
  | .range1, as => rangeA1 as
  | .range2, as => rangeA2 as
  | .zip, as => zipA as
def truM (x : Av) : Mw Bool := fun M => Mw.of (trueA M x) M
def asB : Av → Mw Bool
  | .val (.bl k) => pure k
  | _ => Mw.fail
def blV (k : Bool) : Mw Av := pure (.val (.bl k))
/-- a value, or its truth -/
def post (m : Bool) (x : Mw Av) : Mw Av := match m with
  | false => x
  | true => x >>= fun a => truM a >>= blV
def varM (η : Ev) (i : Nat) : Mw Av := fun M => match η[i]? with
  | some (some a) => .ok a M
  | _ => .no
def gloM (g : G) (x : Str) : Mw Av := fun M => match g.glob x with
  | some w => .ok (.val w) M
  | none => .no
def negM (x : Av) : Mw Av := match x with
  | .val (.int i) => pure (.val (.int (-i)))
  | _ => Mw.fail
def intO (x : Av) : Mw (Option Int) := match x with
  | .val (.int i) => pure (some i)
  | _ => Mw.fail
def slM (x : Av) (l h : Option Int) : Mw Av := fun M => Mw.of (slA M x l h) M
def heardM (g : G) (x : Mw Av) : Mw Av := fun M => match x M with
  | .ok (.val w) M' => finA false M (g.hrd M.length (.val .non) (.val w) M')
  | .ok _ _ => .no
  | .ex (.exc x ns xs) M' => if g.xcl x = true then finA false M (g.hrd M.length (.val (.exc x ns xs)) (.val .non) M') else .no
  | .ex _ _ => .no
  | .no => .no
mutual
/-- m: asked for its truth only -/
def evE (g : G) : PX → Bool → Ev → Mw Av
  | .var i, m, η => post m (varM η i)
  | .con c, m, _ => post m (pure (.val c.wv))
  | .glo x, m, _ => post m (gloM g x)
  | .typ n, m, _ => post m (pure (.val (.ty n)))
  | .bin o a b, m, η => post m (evE g a false η >>= fun x => evE g b false η >>= fun y => fun M => Mw.of (binA M o x y) M)
  | .neg a, m, η => post m (evE g a false η >>= negM)
  | .notv a, m, η => (match m with
    | true => evE g a true η >>= asB
    | false => evE g a false η >>= truM) >>= fun k => blV (!k)
  | .and xs, m, η => (match m with
    | true => evTAnd g xs η >>= blV
    | false => evAnd g xs η)
  | .or xs, m, η => (match m with
    | true => evTOr g xs η >>= blV
    | false => evOr g xs η)
  | .cmp o a b, _, η => evE g a false η >>= fun x => evE g b false η >>= fun y => cmpA g o x y >>= blV
  | .chain o1 o2 a b c, _, η => evE g a false η >>= fun x => evE g b false η >>= fun y => cmpA g o1 x y >>= fun k =>
    if k = true then evE g c false η >>= fun z => cmpA g o2 y z >>= blV else blV false
  | .ife t a b, m, η => evE g t true η >>= fun k => asB k >>= fun k => if k = true then evE g a m η else evE g b m η
  | .call f xs, m, η => post m (evL g xs η >>= g.call f xs.length)
  | .callk f xs ks ys, m, η => post m (evL g xs η >>= fun as => evL g ys η >>= fun bs => g.callk f xs.length ks as bs)
  | .make c xs ks ys, m, η => post m (match ks with
    | [] => evL g xs η >>= newA g c xs.length
    | _ => evL g xs η >>= fun as => evL g ys η >>= fun bs => newkA g c xs.length ks as bs)
  | .heard b, m, η => post m (heardM g (evE g b false η))
  | .bi b xs, m, η => post m (evL g xs η >>= biA g b)
  | .meth n o xs, m, η => post m (evE g o false η >>= fun x => chkM x >>= fun _ => evL g xs η >>= fun as => methA n x as)
  | .own n o xs, m, η => post m (evE g o false η >>= fun x => evL g xs η >>= fun as => ownA g n xs.length x as)
  | .attr f o, m, η => post m (evE g o false η >>= fun x => fun M => Mw.of (attrA g M f x) M)
  | .ix o i, m, η => post m (evE g o false η >>= fun x => evE g i false η >>= fun y => fun M => Mw.of (ixA M x y) M)
  | .sl o lo hi, m, η => post m (evE g o false η >>= fun x => evO g lo η >>= fun l => evO g hi η >>= fun h => slM x l h)
  | .tup xs, m, η => post m (evL g xs η >>= newT)
  | .lst mt xs, m, η => post m (evL g xs η >>= newL mt)
  | .dct mt ks vs, m, η => post m (match mt, ks, vs with
    | false, [], [] => pure (.val (.dct [] []))
    | _, _, _ => Mw.fail)
  | .lc mt e t k its ifs own, m, η => post m ((evL g its η >>= itA k) >>= fun ws => overW (lcB t (wipeE η own) (evIfs g ifs) (evE g e false)) ws [] >>= newL mt)
  | .star _, _, _ => Mw.fail
def evAnd (g : G) : List PX → Ev → Mw Av
  | [], _ => Mw.fail
  | a :: r, η => evE g a false η >>= fun x => match r with
    | [] => pure x
    | _ => truM x >>= fun k => if k = true then evAnd g r η else pure x
def evOr (g : G) : List PX → Ev → Mw Av
  | [], _ => Mw.fail
  | a :: r, η => evE g a false η >>= fun x => match r with
    | [] => pure x
    | _ => truM x >>= fun k => if k = true then pure x else evOr g r η
def evTAnd (g : G) : List PX → Ev → Mw Bool
  | [], _ => pure true
  | a :: r, η => evE g a true η >>= fun k => asB k >>= fun k => if k = true then evTAnd g r η else pure false
def evTOr (g : G) : List PX → Ev → Mw Bool
  | [], _ => pure false
  | a :: r, η => evE g a true η >>= fun k => asB k >>= fun k => if k = true then pure true else evTOr g r η
def evIfs (g : G) : List PX → Ev → Mw Bool
  | [], _ => pure true
  | a :: r, η => evE g a true η >>= fun k => asB k >>= fun k => if k = true then evIfs g r η else pure false
def evL (g : G) : List PX → Ev → Mw (List Av)
  | [], _ => pure []
  | a :: r, η => evE g a false η >>= fun x => evL g r η >>= fun xs => pure (x :: xs)
def evO (g : G) : Option PX → Ev → Mw (Option Int)
  | none, _ => pure none
  | some a, η => evE g a false η >>= intO
end
abbrev evP (g : G) (p : PX) : Ev → Mw Av := evE g p false
def evT (g : G) (p : PX) : Ev → Mw Bool := fun η => evE g p true η >>= asB
def evI (g : G) (k : ItK) (its : List PX) : Ev → Mw (List Wv) := fun η => evL g its η >>= itA k

/-! ### statements -/
inductive Fl where
  | nx | bk | ct | rt (a : Av)
def forW (body : Ev → Mw (Fl × Ev)) (t : PT) : List Wv → Ev → Mw (Fl × Ev)
  | [], η => fun M => .ok (.nx, η) M
  | w :: r, η => fun M => match putT t (.val w) η with
    | none => .no
    | some η1 => match body η1 M with
      | .ok (.nx, η2) M' => forW body t r η2 M'
      | .ok (.ct, η2) M' => forW body t r η2 M'
      | .ok (.bk, η2) M' => .ok (.nx, η2) M'
      | .ok (.rt a, η2) M' => .ok (.rt a, η2) M'
      | .ex e M' => .ex e M'
      | .no => .no
def whileW (test : Ev → Mw Bool) (body : Ev → Mw (Fl × Ev)) : Nat → Ev → Mw (Fl × Ev)
  | 0, _ => fun _ => .no
  | n + 1, η => fun M => match test η M with
    | .ok true M1 => (match body η M1 with
      | .ok (.nx, η2) M' => whileW test body n η2 M'
      | .ok (.ct, η2) M' => whileW test body n η2 M'
      | .ok (.bk, η2) M' => .ok (.nx, η2) M'
      | .ok (.rt a, η2) M' => .ok (.rt a, η2) M'
      | .ex e M' => .ex e M'
      | .no => .no)
    | .ok false M1 => .ok (.nx, η) M1
    | .ex e M' => .ex e M'
    | .no => .no
mutual
def evS (g : G) (n : Nat) : PSt → Ev → Mw (Fl × Ev)
  | .asg t e, η => do
    let a ← evP g e η
    match putT t a η with
      | some η1 => pure (.nx, η1)
      | none => Mw.fail
  | .par i j a b, η => do
    let x ← evP g a η
    let y ← evP g b η
    pure (.nx, (η.set i (some x)).set j (some y))
  | .sub o i e, η => do
    let v ← evP g e η
    let x ← evP g o η
    let y ← evP g i η
    let _ ← setA x y v
    pure (.nx, η)
  | .fld o f e, η => do
    let v ← evP g e η
    let x ← evP g o η
    let _ ← setF g x f v
    pure (.nx, η)
  | .aug i o e, η => do
    let x ← evP g (.var i) η
    let y ← evP g e η
    let z ← (fun M => Mw.of (binA M o x y) M)
    pure (.nx, η.set i (some z))
  | .ex e, η => do
    let _ ← evP g e η
    pure (.nx, η)
  | .ret e, η => do
    let a ← evP g e η
    let a ← retA n a
    pure (.rt a, η)
  | .retk e, η => do
    let a ← evP g e η
    pure (.rt a, η)
  | .retN, η => pure (.rt (.val .non), η)
  | .ife t a b, η => do
    let k ← evT g t η
    if k then evSs g n a η else evSs g n b η
  | .whl t b, η => whileW (evT g t) (evSs g n b) g.fuel η
  | .fr t k its b, η => do
    let ws ← evI g k its η
    forW (evSs g n b) t ws η
  | .pass, η => pure (.nx, η)
  | .brk, η => pure (.bk, η)
  | .cont, η => pure (.ct, η)
  | .rais c xs, η => do
    let as ← evL g xs η
    fun M => match excA g c as with
      | some w => .ex w M
      | none => .no
  | .frz i, η => fun M => match η[i]? with
    | some (some (.ref p)) => (match retA 0 (.ref p) M with
      | .ok a M' => .ok (.nx, η.set i (some a)) M'
      | .ex e M' => .ex e M'
      | .no => .no)
    | _ => .no
def evSs (g : G) (n : Nat) : List PSt → Ev → Mw (Fl × Ev)
  | [], η => pure (.nx, η)
  | s :: r, η => fun M => match evS g n s η M with
    | .ok (.nx, η1) M1 => evSs g n r η1 M1
    | .ok (f, η1) M1 => .ok (f, η1) M1
    | .ex e M1 => .ex e M1
    | .no => .no
end
/-- a def: its slots, whether its cells stay, its body -/
structure PDef where
  slots : Nat
  keep : Bool
  body : List PSt
def runD (g : G) (d : PDef) (as : List Av) : Mw Av := fun M => finA d.keep M (match evSs g M.length d.body (as.map some ++ List.replicate (d.slots - as.length) none) M with
  | .ok (.rt a, _) M' => .ok a M'
  | .ok (.nx, _) M' => .ok (.val .non) M'
  | .ok _ _ => .no
  | .ex e M' => .ex e M'
  | .no => .no)
end LW

namespace LW
open PySem PySem.Spec PyProof.Rows L2

/-! ### plumbing -/
section
variable {α β : Type} {c : SC} {R : Hp → List Addr → α → β → Prop} {H : Hp} {ρ : List Addr} {E : XK} {Q Q' : β → Hp → Prop}
theorem OK.mono {o : Out α} (h : OK c R H ρ E Q o) (i : ∀ b H', Q b H' → Q' b H') : OK c R H ρ E Q' o := by
  cases o with
  | ok a M => exact fun ρ' H' b p s rm r => i b H' (h ρ' H' b p s rm r)
  | ex e M => exact h
  | no => exact h
/-- at once -/
theorem OK.here {a : α} {b : β} {M : Mem} (h : OK c R H ρ E Q (.ok a M)) (rm : RM c H ρ M) (r : R H ρ a b) : Q b H := h ρ H b (List.prefix_refl _) (Stb.refl _) rm r
/-- behind a step -/
theorem OK.then {a : α} {b : β} {M : Mem} {H' : Hp} {ρ' : List Addr} (h : OK c R H ρ E Q (.ok a M)) (p : ρ <+: ρ') (s : Stb H H') (rm : RM c H' ρ' M) (r : R H' ρ' a b) : Q b H' := h ρ' H' b p s rm r
theorem OK.of {o : Option α} {M : Mem} (h : OK c R H ρ E Q (Mw.of o M)) : ∃ a, o = some a ∧ OK c R H ρ E Q (.ok a M) := by
  cases o with
  | none => exact h.elim
  | some a => exact ⟨a, rfl, h⟩
end
theorem ep_frz {X : Cx} {pins : List (Addr × Obj)} {σ : L2.St} {Q : VK} {t : Sem Value} {A : Around} {E : Value → Shared → Prop} {s : Shared} (h : wpAny (model X.prog X.w) A t (EP X pins σ (QF Q)) E s) : wpAny (model X.prog X.w) A t (EP X pins σ Q) E s := by
  refine thn h fun u s1 ⟨v, H1, I1, r1, q1⟩ => ?_
  rcases q1 with q1 | ⟨a, o, rfl, e1, m, q1⟩
  · exact ⟨v, H1, I1, r1, q1⟩
  · obtain ⟨ob, _, I2⟩ := mut_frz I1 e1 m
    exact ⟨_, _, I2, r1, q1 ob⟩

/-- by values: an operator, a call -/
def lifO (c : SC) (E : XK) (f : Av → Av → Mw Av) : R2 := fun x y H Q => ∃ ρ M a b, RM c H ρ M ∧ RA c H ρ a x ∧ RA c H ρ b y ∧ OK c (RAr c) H ρ E Q (f a b M)
def lifU (c : SC) (E : XK) (f : Av → Mw Av) : V → Hp → VK → Prop := fun x H Q => ∃ ρ M a, RM c H ρ M ∧ RA c H ρ a x ∧ OK c (RAr c) H ρ E Q (f a M)
def lifC (c : SC) (E : XK) (f : List Av → Mw Av) : List V → Hp → VK → Prop := fun xs H Q => ∃ ρ M as, RM c H ρ M ∧ RL (RA c H ρ) as xs ∧ OK c (RAr c) H ρ E Q (f as M)
section
variable {c : SC} {E : XK} {σ : L2.St} {H : Hp} {Q : VK}
theorem lif2 {ma mb : Ev → Mw Av} {f : Av → Av → Mw Av} (h : lifE c E (fun η => ma η >>= fun x => mb η >>= fun y => f x y) σ H Q) : tOp (lifO c E f) (lifE c E ma) (lifE c E mb) σ H Q := by
  obtain ⟨ρ, η, M, rm, re, ok⟩ := h
  refine ⟨ρ, η, M, rm, re, (OK.bind (R := RAr c) ok).mono ?_⟩
  rintro x H1 ⟨ρ1, M1, a, p1, s1, rm1, ra, ok1⟩
  refine ⟨ρ1, η, M1, rm1, re.mono s1 p1, (OK.bind (R := RAr c) ok1).mono ?_⟩
  rintro y H2 ⟨ρ2, M2, b, p2, s2, rm2, rb, ok2⟩
  exact ⟨ρ2, M2, a, b, rm2, RA.mono s2 p2 a x ra, rb, ok2⟩
theorem lif1 {ma : Ev → Mw Av} {f : Av → Mw Av} (h : lifE c E (fun η => ma η >>= fun x => f x) σ H Q) : lifE c E ma σ H (fun x H1 => lifU c E f x H1 Q) := by
  obtain ⟨ρ, η, M, rm, re, ok⟩ := h
  refine ⟨ρ, η, M, rm, re, (OK.bind (R := RAr c) ok).mono ?_⟩
  rintro x H1 ⟨ρ1, M1, a, p1, s1, rm1, ra, ok1⟩
  exact ⟨ρ1, M1, a, rm1, ra, ok1⟩
theorem lifL {ma : Ev → Mw (List Av)} {f : List Av → Mw Av} (h : lifE c E (fun η => ma η >>= fun x => f x) σ H Q) : lifA c E ma σ H (fun xs H1 => lifC c E f xs H1 Q) := by
  obtain ⟨ρ, η, M, rm, re, ok⟩ := h
  refine ⟨ρ, η, M, rm, re, (OK.bind (R := RAsr c) ok).mono ?_⟩
  rintro x H1 ⟨ρ1, M1, a, p1, s1, rm1, ra, ok1⟩
  exact ⟨ρ1, M1, a, rm1, ra, ok1⟩
/-- a test first -/
theorem lifTb {α : Type} {R : Hp → List Addr → α → V → Prop} {mt : Ev → Mw Bool} {f : Bool → Ev → Mw Av} (h : lifE c E (fun η => mt η >>= fun k => f k η) σ H Q) : lifT c E mt σ H (fun k H1 => lifE c E (f k) σ H1 Q) := by
  obtain ⟨ρ, η, M, rm, re, ok⟩ := h
  refine ⟨ρ, η, M, rm, re, (OK.bind (R := fun _ _ a b => a = b) ok).mono ?_⟩
  rintro x H1 ⟨ρ1, M1, a, p1, s1, rm1, ra, ok1⟩
  subst ra
  exact ⟨ρ1, η, M1, rm1, re.mono s1 p1, ok1⟩
theorem lifTT {QT : Bool → Hp → Prop} {mt : Ev → Mw Bool} {f : Bool → Ev → Mw Bool} (h : lifT c E (fun η => mt η >>= fun k => f k η) σ H QT) : lifT c E mt σ H (fun k H1 => lifT c E (f k) σ H1 QT) := by
  obtain ⟨ρ, η, M, rm, re, ok⟩ := h
  refine ⟨ρ, η, M, rm, re, (OK.bind (R := fun _ _ a b => a = b) ok).mono ?_⟩
  rintro x H1 ⟨ρ1, M1, a, p1, s1, rm1, ra, ok1⟩
  subst ra
  exact ⟨ρ1, η, M1, rm1, re.mono s1 p1, ok1⟩
end

/-- where one stands -/
structure Good (c : SC) (E : XK) (k : Nat) (X : Cx) : Prop where
  K : X.K = c.K
  mg : X.mg = c.mg
  calm : X.calm = true
  nd : X.N.Nodup
  room : Room k X.A
  tk : Takes X (fun cls d _ H => E cls d H)
  gu : X.A.guards = some []

/-! ### what stands at an address -/
section
variable {X : Cx} {pins : List (Addr × Obj)} {σ : L2.St} {H : Hp} {s : Shared} {c : SC}
theorem pures_some : ∀ {as : List Av} {ws : List Wv}, pures as = some ws → as = ws.map .val
  | [], ws, h => by cases h; rfl
  | a :: r, ws, h => by
    unfold pures at h
    cases a with
    | val w =>
      cases q : pures r with
      | none => rw [q] at h; cases h
      | some zs =>
        rw [q] at h
        cases h
        rw [pures_some q]
        rfl
    | ref i => simp at h
theorem pures_map : ∀ ws : List Wv, pures (ws.map .val) = some ws
  | [] => rfl
  | w :: ws => by
    show (match Av.val w, pures (ws.map .val) with
      | .val w, some ws => some (w :: ws)
      | _, _ => none) = _
    rw [pures_map ws]
theorem RL_val {ρ : List Addr} : ∀ {ws : List Wv} {vs : List V}, RL (RA c H ρ) (ws.map .val) vs → RL (RW c H) ws vs
  | [], vs, h => h
  | w :: ws, vs, h => by
    obtain ⟨v, r, e, h1, h2⟩ := h
    exact ⟨v, r, e, h1, RL_val h2⟩
theorem RL_val' {ρ : List Addr} : ∀ {ws : List Wv} {vs : List V}, RL (RW c H) ws vs → RL (RA c H ρ) (ws.map .val) vs
  | [], vs, h => h
  | w :: ws, vs, h => by
    obtain ⟨v, r, e, h1, h2⟩ := h
    exact ⟨v, r, e, h1, RL_val' h2⟩
/-- a list, frozen or not -/
theorem lst_rd {ρ : List Addr} {M : Mem} (rm : RM c H ρ M) {a : Av} {xs : List Av} {v : V} (h : lstI M a = some xs) (r : RA c H ρ a v) : ∃ p vs, v = .ref p ∧ SqL c.K H p vs ∧ RL (RA c H ρ) xs vs := by
  cases a with
  | val w =>
    cases w <;> simp [lstI] at h
    · rename_i ws
      subst h
      have r : RW c H (.lst ws) v := r
      simp only [RW] at r
      obtain ⟨p, vs, e, f, q⟩ := r
      exact ⟨p, vs, e, f.sq, RL_val' (RWs_iff.mp q)⟩
    · rename_i ws
      subst h
      have r : RW c H (.kls ws) v := r
      simp only [RW] at r
      obtain ⟨p, vs, e, f, q⟩ := r
      exact ⟨p, vs, e, f H, RL_val' (RWs_iff.mp q)⟩
  | ref i =>
    obtain ⟨p, e1, e2⟩ := r
    simp only [lstI] at h
    cases q : M[i]? with
    | none => rw [q] at h; cases h
    | some k =>
      rw [q] at h
      cases k with
      | lst ys =>
        cases h
        obtain ⟨vs, h1, h2⟩ := rm.at_ i p _ e1 q
        exact ⟨p, vs, e2, SqL.of h1, h2⟩
      | dct _ _ => cases h
      | ins _ _ _ => cases h
      | dead => cases h
theorem tup_rd {ρ : List Addr} {a : Av} {ws : List Wv} {v : V} (h : tupI a = some ws) (r : RA c H ρ a v) : ∃ p vs, v = .ref p ∧ SqT c.K H p vs ∧ RL (RW c H) ws vs := by
  cases a with
  | ref i => cases h
  | val w =>
    cases w <;> simp [tupI] at h
    subst h
    have r : RW c H (.tup _) v := r
    simp only [RW] at r
    obtain ⟨p, vs, e, f, q⟩ := r
    exact ⟨p, vs, e, f, RWs_iff.mp q⟩
/-- a new tuple, a new frozen list -/
theorem rw_tup {p : Addr} {ws : List Wv} {vs : List V} (hn : H p = none) (r : RL (RW c H) ws vs) : RW c (upd H p (.tup vs)) (.tup ws) (.ref p) := by
  simp only [RW]
  exact ⟨p, vs, rfl, SqT.of upd_same, RWs_iff.mpr (r.imp fun w v => RW.mono (Stb.new hn) w v)⟩
theorem rw_lst {p : Addr} {o : Obj} {ws : List Wv} {vs : List V} (hn : H p = none) (r : RL (RW c H) ws vs) : RW c (upd H p (.frz o (.lst vs))) (.lst ws) (.ref p) := by
  simp only [RW]
  exact ⟨p, vs, rfl, ⟨o, upd_same⟩, RWs_iff.mpr (r.imp fun w v => RW.mono (Stb.new hn) w v)⟩
/-- what newL makes of a list just made at p -/
theorem new_list {ρ : List Addr} {M : Mem} {mt : Bool} {as : List Av} {vs : List V} {E : XK} {Q : VK} {p : Addr} (rm : RM c H ρ M) (r : RL (RA c H ρ) as vs) (ok : OK c (RAr c) H ρ E Q (newL mt as M)) (hn : H p = none) : QF Q (.ref p) (upd H p (.lst vs)) := by
  unfold newL at ok
  cases mt with
  | true =>
    have ok : OK c (RAr c) H ρ E Q (.ok (.ref M.length) (M ++ [.lst as])) := ok
    refine .inl (ok.then (List.prefix_append ρ [p]) (Stb.new hn) (rm.push hn ⟨vs, upd_same, RAs.mono (Stb.new hn) (List.prefix_append ρ [p]) r⟩) ⟨p, ?_, rfl⟩)
    rw [List.getElem?_append_right (by rw [rm.len]; exact Nat.le_refl _), rm.len]
    simp
  | false =>
    have ok : OK c (RAr c) H ρ E Q (match pures as with
      | some ws => .ok (.val (.lst ws)) M
      | none => .no) := ok
    cases q : pures as with
    | none => rw [q] at ok; exact ok.elim
    | some ws =>
      rw [q] at ok
      rw [pures_some q] at r
      refine .inr ⟨p, .lst vs, rfl, upd_same, True.intro, fun o => ?_⟩
      rw [upd_upd]
      exact ok.then (List.prefix_refl _) (Stb.new hn) (rm.new hn) (rw_lst hn (RL_val r))
theorem new_tup {ρ : List Addr} {M : Mem} {as : List Av} {vs : List V} {E : XK} {Q : VK} {p : Addr} (rm : RM c H ρ M) (r : RL (RA c H ρ) as vs) (ok : OK c (RAr c) H ρ E Q (newT as M)) (hn : H p = none) : Q (.ref p) (upd H p (.tup vs)) := by
  unfold newT at ok
  cases q : pures as with
  | none => rw [q] at ok; exact ok.elim
  | some ws =>
    rw [q] at ok
    rw [pures_some q] at r
    exact ok.then (List.prefix_refl _) (Stb.new hn) (rm.new hn) (rw_tup hn (RL_val r))
theorem rd_list (I : Inv X pins σ H s) {l : Addr} {xs : List V} (h : Rd H l (.lst xs)) : xs.length ≤ sizeLine ∧ ∃ (its : List Value) (n : Nat), Vals xs its ∧ xs.length = its.length ∧ s.heap.get? l = some { cls := .type "list", data := .seq its.toArray n } := by
  obtain ⟨z, its, n, r, e⟩ := h.ok I.hok
  exact ⟨z, its, n, r, r.length, e⟩
end
end LW

namespace LW
open PySem PySem.Spec PyProof.Rows L2

section
variable {X : Cx} {c : SC} {E : XK} {k : Nat} {H : Hp} {ρ : List Addr} {M : Mem}
theorem ra_int {i : Int} {v : V} : RA c H ρ (.val (.int i)) v ↔ v = .int i := by simp only [RA, RW]
theorem ra_bl {i : Bool} {v : V} : RA c H ρ (.val (.bl i)) v ↔ v = .bl i := by simp only [RA, RW]
theorem ra_str {i : Str} {v : V} : RA c H ρ (.val (.str i)) v ↔ v = .str i := by simp only [RA, RW]
theorem ra_non {v : V} : RA c H ρ (.val .non) v ↔ v = .non := by simp only [RA, RW]
theorem ra_ty {n : String} {v : V} : RA c H ρ (.val (.ty n)) v ↔ v = .ty n := by simp only [RA, RW]
theorem pures_app : ∀ {as bs : List Av} {ws : List Wv}, pures (as ++ bs) = some ws → as ++ bs = ws.map .val := fun h => pures_some h
/-! ### + on lists, wherever they stand (lists of the module are not read here) -/
theorem lst_rd2 (rm : RM c H ρ M) {a : Av} {xs : List Av} {v : V} (h : lstF M a = some xs) (r : RA c H ρ a v) : ∃ p vs, v = .ref p ∧ RL (RA c H ρ) xs vs ∧ Rd H p (.lst vs) := by
  cases a with
  | val w =>
    cases w <;> simp [lstF] at h
    rename_i ws
    subst h
    have r : RW c H (.lst ws) v := r
    simp only [RW] at r
    obtain ⟨p, vs, e, f, q⟩ := r
    refine ⟨p, vs, e, RL_val' (RWs_iff.mp q), ?_⟩
    obtain ⟨o, f⟩ := f
    exact .inr ⟨o, f⟩
  | ref i =>
    obtain ⟨p, e1, e2⟩ := r
    simp only [lstF] at h
    cases q : M[i]? with
    | none => rw [q] at h; cases h
    | some k =>
      rw [q] at h
      cases k with
      | lst ys =>
        cases h
        obtain ⟨vs, h1, h2⟩ := rm.at_ i p _ e1 q
        exact ⟨p, vs, e2, h2, .inl h1⟩
      | dct _ _ => cases h
      | ins _ _ _ => cases h
      | dead => cases h
/-- a list's object, its items -/
theorem list_obj {pins : List (Addr × Obj)} {σ : L2.St} {s : Shared} (I : Inv X pins σ H s) {p : Addr} {vs : List V} (h : SqL X.K H p vs) : ∃ (o : Obj) (its : List Value) (n : Nat), Vals vs its ∧ s.heap.get? p = some o ∧ o.cls = .type "list" ∧ o.data = .seq its.toArray n ∧ vs.length ≤ sizeLine := by
  obtain ⟨its, rv, ⟨o, n, e, hc, hd, hs⟩, hz⟩ := I.list h
  exact ⟨o, its, n, rv, e, hc, hs, hz⟩
theorem op_catR {pins : List (Addr × Obj)} {σ : L2.St} {s : Shared} {x y : V} {v u : Value} {Q : VK} (I : Inv X pins σ H s) (rx : RelV x v) (ry : RelV y u) {l b : Addr} {xs zs : List V} (ex : x = .ref l) (ey : y = .ref b) (hx : Rd H l (.lst xs)) (hy : Rd H b (.lst zs))
    (hz : xs.length + zs.length ≤ sizeLine) (q : ∀ p, H p = none → Q (.ref p) (upd H p (.lst (xs ++ zs)))) : wpAny (model X.prog X.w) X.A (binaryOp .Add v u) (EP X pins σ Q) X.xe s := by
  subst ex; subst ey
  cases rx
  cases ry
  obtain ⟨_, ia, na, ra, la, ea⟩ := rd_list I hx
  obtain ⟨_, ib, nb, rb, lb, eb⟩ := rd_list I hy
  refine PySem.P.add_list ea eb ?_ (by simp only [List.size_toArray]; omega)
  rw [show ia.toArray ++ ib.toArray = (ia ++ ib).toArray by simp]
  exact ⟨.ref _, _, I.lnew (t' := s.toks) (ra.append rb) (by simp only [List.length_append]; exact hz), rfl, q _ I.fresh⟩

theorem opR_add (g : Good c E k X) : OpR X (binaryOp .Add) (lifO c E fun x y M => Mw.of (addA M x y) M) := by
  intro pins s σ H x y v u Q I rx ry ⟨ρ, M, a, b, rm, ra, rb, ok⟩
  obtain ⟨r, e, ok⟩ := ok.of
  unfold addA at e
  split at e
  · cases e
    rw [ra_int] at ra rb
    exact op_add pins s σ H x y v u Q I rx ry ⟨_, _, ra, rb, ok.here rm (ra_int.mpr rfl)⟩
  · split at e
    · cases e
      rw [ra_str] at ra rb
      exact op_add_str pins s σ H x y v u Q I rx ry ⟨_, _, ra, rb, by assumption, ok.here rm (ra_str.mpr rfl)⟩
    · cases e
  · split at e
    · rename_i xs ys hz
      cases e
      obtain ⟨p, vs, rfl, t1, r1⟩ := tup_rd (c := c) (a := .val (.tup xs)) rfl ra
      obtain ⟨q, us, rfl, t2, r2⟩ := tup_rd (c := c) (a := .val (.tup ys)) rfl rb
      rw [r1.len, r2.len] at hz
      refine op_catA pins s σ H _ _ v u Q I rx ry ⟨p, q, vs, us, rfl, rfl, by rw [g.K]; exact t1, by rw [g.K]; exact t2, hz, fun e0 => ?_, fun _ e0 => ?_, fun _ _ n hn => ?_⟩
      · subst e0
        have : xs = [] := List.eq_nil_of_length_eq_zero (by rw [r1.len]; rfl)
        subst this
        exact ok.here rm rb
      · subst e0
        have : ys = [] := List.eq_nil_of_length_eq_zero (by rw [r2.len]; rfl)
        subst this
        rw [List.append_nil] at ok
        exact ok.here rm ra
      · exact ok.then (List.prefix_refl _) (Stb.new hn) (rm.new hn) (rw_tup hn (r1.append r2))
    · cases e
  · split at e
    · rename_i xs ys h1 h2
      split at e
      · rename_i ws hw
        split at e
        · rename_i hz
          cases e
          obtain ⟨p, vs, e1, l1, d1⟩ := lst_rd2 rm h1 ra
          obtain ⟨q, us, e2, l2, d2⟩ := lst_rd2 rm h2 rb
          have lw := l1.append l2
          rw [pures_some hw] at lw
          have lw := RL_val lw
          rw [lw.len, List.length_append] at hz
          refine ep_frz ?_
          refine op_catR I rx ry e1 e2 d1 d2 hz fun n hn => .inr ⟨n, _, rfl, upd_same, True.intro, fun o => ?_⟩
          rw [upd_upd]
          exact ok.then (List.prefix_refl _) (Stb.new hn) (rm.new hn) (rw_lst hn lw)
        · cases e
      · cases e
    · cases e

theorem opR_sub (g : Good c E k X) : OpR X (binaryOp .Sub) (lifO c E fun x y M => Mw.of (binA M .Sub x y) M) := by
  intro pins s σ H x y v u Q I rx ry ⟨ρ, M, a, b, rm, ra, rb, ok⟩
  obtain ⟨r, e, ok⟩ := ok.of
  unfold binA at e
  split at e <;> first | contradiction | skip
  cases e
  rw [ra_int] at ra rb
  exact op_sub pins s σ H x y v u Q I rx ry ⟨_, _, ra, rb, ok.here rm (ra_int.mpr rfl)⟩
theorem RL_flat {α β : Type} {R : α → β → Prop} {ws : List α} {vs : List β} (r : RL R ws vs) : ∀ n : Nat, RL R (List.replicate n ws).flatten (List.replicate n vs).flatten
  | 0 => RL.nil
  | n + 1 => by
    rw [List.replicate_succ, List.replicate_succ, List.flatten_cons, List.flatten_cons]
    exact r.append (RL_flat r n)
theorem op_repR {pins : List (Addr × Obj)} {σ : L2.St} {s : Shared} {v u : Value} {Q : VK} (I : Inv X pins σ H s) {l : Addr} {n : Int} {xs : List V} (rx : RelV (.ref l) v) (ry : RelV (.int n) u) (hx : Rd H l (.lst xs))
    (lo : -(2 ^ 63) ≤ n) (hi : n < 2 ^ 63) (hz : xs.length * n.toNat ≤ sizeLine) (q : ∀ p, H p = none → Q (.ref p) (upd H p (.lst (List.replicate n.toNat xs).flatten))) :
    wpAny (model X.prog X.w) X.A (binaryOp .Mult v u) (EP X pins σ Q) X.xe s := by
  cases rx
  obtain ⟨tk, rfl⟩ := ry
  obtain ⟨_, is, m, ri, li, ei⟩ := rd_list I hx
  have sz : is.toArray.size * n.toNat ≤ sizeLine := by
    rw [List.size_toArray, ← li]
    exact hz
  have cap : ¬ is.toArray.size * n.toNat > (2 ^ 63 - 1) / 8 := by
    have h : (sizeLine : Nat) ≤ (2 ^ 63 - 1) / 8 := by decide
    omega
  have ix : ¬ (!Builtin.List.listFitsIndex n) = true := by
    rw [fitsIndex_both lo hi]
    decide
  have long : ¬ Builtin.List.listTooLong (is.toArray.size * n.toNat) = true := by
    rw [notLongL sz]
    decide
  have made : (List.replicate (if is.toArray.isEmpty = true then 0 else n.toNat) is.toArray).foldl (fun x1 x2 => x1 ++ x2) #[] = (List.replicate n.toNat is).flatten.toArray := by
    have h0 : ∀ j : Nat, (List.replicate j is.toArray).foldl (fun x1 x2 => x1 ++ x2) #[] = (List.replicate j is).flatten.toArray := fun j => by simpa using foldl_rep is j []
    rw [h0]
    cases is with
    | nil => simp
    | cons a r =>
      rw [if_neg]
      simp
  refine wpAny_binaryOp_repeat_ref (T := "list") (U := "int") (by decide) ⟨_, ei, rfl⟩ (fun s' => typeIs_int s' n tk) noFill_list_mul F.fills_int_mul
    F.slot_int_rmul repeat_list F.slot_int_index.lookup ?_
  refine call_meets F.slot_int_rmul (typeIs_int s n tk) F.entry_int_rmul (F.args_int_rmul_2 _ _) (int___rmul___int_list n tk l is.toArray m) ?_
  refine ⟨ei, rfl, ⟨_, ei, rfl⟩, ?_⟩
  refine call_meets F.slot_list_mul ⟨_, ei, rfl⟩ F.entry_list_mul (F.args_list_mul_2 _ _) (AutoListH.list___mul___list_int_3 l is.toArray m n tk ix cap long) ?_
  refine ⟨ei, ?_⟩
  rw [made]
  refine ⟨.ref _, _, I.lnew (t' := s.toks) (ri.rep n.toNat) ?_, rfl, q _ I.fresh⟩
  rw [PyProof.Rows.lm_len_rep_flat, Nat.mul_comm]
  exact hz
theorem opR_mul (g : Good c E k X) : OpR X (binaryOp .Mult) (lifO c E fun x y M => Mw.of (mulA M x y) M) := by
  intro pins s σ H x y v u Q I rx ry ⟨ρ, M, a, b, rm, ra, rb, ok⟩
  obtain ⟨r, e, ok⟩ := ok.of
  unfold mulA at e
  split at e
  · split at e
    · rename_i hc
      cases e
      rw [ra_int] at ra rb
      exact op_mul pins s σ H x y v u Q I rx ry ⟨_, _, ra, rb, hc, ok.here rm (ra_int.mpr rfl)⟩
    · cases e
  · split at e
    · rename_i xs h1
      split at e
      · rename_i ws hw
        split at e
        · rename_i hz
          cases e
          obtain ⟨p, vs, rfl, l1, d1⟩ := lst_rd2 rm h1 ra
          rw [ra_int] at rb
          subst rb
          rw [pures_some hw] at l1
          have lw := RL_val l1
          rw [lw.len] at hz
          refine ep_frz ?_
          refine op_repR I rx ry d1 hz.1 hz.2.1 hz.2.2 fun n hn => .inr ⟨n, _, rfl, upd_same, True.intro, fun o => ?_⟩
          rw [upd_upd]
          exact ok.then (List.prefix_refl _) (Stb.new hn) (rm.new hn) (rw_lst hn (RL_flat lw _))
        · cases e
      · cases e
    · cases e
  · cases e
theorem opR_div (g : Good c E k X) : OpR X (binaryOp .FloorDiv) (lifO c E fun x y M => Mw.of (binA M .FloorDiv x y) M) := by
  intro pins s σ H x y v u Q I rx ry ⟨ρ, M, a, b, rm, ra, rb, ok⟩
  obtain ⟨r, e, ok⟩ := ok.of
  unfold binA at e
  split at e <;> first | contradiction | skip
  split at e
  · rename_i hc
    cases e
    rw [ra_int] at ra rb
    exact op_fdivN pins s σ H x y v u Q I rx ry ⟨_, _, ra, rb, hc, ok.here rm (ra_int.mpr rfl)⟩
  · cases e
theorem opR_mod (g : Good c E k X) : OpR X (binaryOp .Mod) (lifO c E fun x y M => Mw.of (binA M .Mod x y) M) := by
  intro pins s σ H x y v u Q I rx ry ⟨ρ, M, a, b, rm, ra, rb, ok⟩
  obtain ⟨r, e, ok⟩ := ok.of
  unfold binA at e
  split at e <;> first | contradiction | skip
  split at e
  · rename_i hc
    cases e
    rw [ra_int] at ra rb
    exact op_modN pins s σ H x y v u Q I rx ry ⟨_, _, ra, rb, hc, ok.here rm (ra_int.mpr rfl)⟩
  · cases e
theorem opR_pow (g : Good c E k X) : OpR X (binaryOp .Pow) (lifO c E fun x y M => Mw.of (binA M .Pow x y) M) := by
  intro pins s σ H x y v u Q I rx ry ⟨ρ, M, a, b, rm, ra, rb, ok⟩
  obtain ⟨r, e, ok⟩ := ok.of
  unfold binA at e
  split at e <;> first | contradiction | skip
  split at e
  · rename_i hc
    cases e
    rw [ra_int] at ra rb
    exact op_pow pins s σ H x y v u Q I rx ry ⟨_, _, ra, rb, hc, ok.here rm (ra_int.mpr rfl)⟩
  · cases e
theorem opR_bin (g : Good c E k X) (o : Operator) : OpR X (binaryOp o) (lifO c E fun x y M => Mw.of (binA M o x y) M) := by
  cases o with
  | Add => exact opR_add g
  | Sub => exact opR_sub g
  | Mult => exact opR_mul g
  | FloorDiv => exact opR_div g
  | Mod => exact opR_mod g
  | Pow => exact opR_pow g
  | _ =>
    intro pins s σ H x y v u Q I rx ry ⟨ρ, M, a, b, rm, ra, rb, ok⟩
    obtain ⟨r, e, ok⟩ := ok.of
    unfold binA at e
    split at e <;> contradiction

/-! ### data -/
mutual
theorem toPy_dp : ∀ {w : Wv} {v : V} {d : PyData}, RW c H w v → toPy w = some d → Dp c.K H v d
  | .non, v, d, r, e => by
    simp only [RW] at r; cases e; rw [r]; exact .non
  | .bl b, v, d, r, e => by
    simp only [RW] at r; cases e; rw [r]; exact .bl b
  | .int b, v, d, r, e => by
    simp only [RW] at r; cases e; rw [r]; exact .int b
  | .str b, v, d, r, e => by
    simp only [RW] at r; cases e; rw [r]; exact .str b
  | .ty _, _, _, _, e => by cases e
  | .cls _, _, _, _, e => by cases e
  | .kls _, _, _, _, e => by cases e
  | .dct _ _, _, _, _, e => by cases e
  | .ins _ _ _, _, _, _, e => by cases e
  | .exc _ _ _, _, _, _, e => by cases e
  | .tup xs, v, d, r, e => by
    simp only [RW] at r
    obtain ⟨a, vs, rfl, t, q⟩ := r
    unfold toPy at e
    split at e
    · rename_i ds hd
      cases e
      exact .tup t (toPyL_dp q hd)
    · cases e
  | .lst xs, v, d, r, e => by
    simp only [RW] at r
    obtain ⟨a, vs, rfl, t, q⟩ := r
    unfold toPy at e
    split at e
    · rename_i ds hd
      cases e
      exact .lst t.sq (toPyL_dp q hd)
    · cases e
theorem toPyL_dp : ∀ {ws : List Wv} {vs : List V} {ds : List PyData}, RWs c H ws vs → toPyL ws = some ds → DpAll c.K H vs ds
  | [], vs, ds, r, e => by
    simp only [RWs] at r; subst r; cases e; exact .nil
  | w :: ws, vs, ds, r, e => by
    simp only [RWs] at r
    obtain ⟨v, vr, rfl, h1, h2⟩ := r
    unfold toPyL at e
    split at e
    · rename_i d1 d2 e1 e2
      cases e
      exact .cons (toPy_dp h1 e1) (toPyL_dp h2 e2)
    · cases e
end
theorem toPyA_dp (rm : RM c H ρ M) {a : Av} {v : V} {d : PyData} (r : RA c H ρ a v) (e : toPyA M a = some d) : Dp c.K H v d := by
  cases a with
  | val w => exact toPy_dp r e
  | ref i =>
    unfold toPyA at e
    simp only at e
    split at e
    · rename_i xs hx
      split at e
      · rename_i ws hw
        obtain ⟨p, vs, rfl, t, q⟩ := lst_rd rm (a := .ref i) (xs := xs) (by simp only [lstI, hx]) r
        rw [pures_some hw] at q
        unfold toPy at e
        split at e
        · rename_i ds hd
          cases e
          exact .lst t (toPyL_dp (RWs_iff.mpr (RL_val q)) hd)
        · cases e
      · cases e
    · cases e
theorem eqA_some {a b : Av} {x y : V} {r : Bool} (rm : RM c H ρ M) (ra : RA c H ρ a x) (rb : RA c H ρ b y) (e : eqA M a b = some r) :
    ∃ d f, Dp c.K H x d ∧ Dp c.K H y f ∧ SeqAt.shaped d = true ∧ SeqAt.shaped f = true ∧ r = PyData.eqv d f := by
  unfold eqA at e
  split at e
  · rename_i d f h1 h2
    split at e
    · rename_i hs
      cases e
      exact ⟨d, f, toPyA_dp rm ra h1, toPyA_dp rm rb h2, hs.1, hs.2, rfl⟩
    · cases e
  · cases e
theorem flat_v {w : Wv} {v : V} (r : RW c H w v) (f : flatW w = true) : flatV v = true := by
  cases w <;> simp [flatW] at f <;> (simp only [RW] at r; rw [r]; rfl)
theorem flat_vs : ∀ {ws : List Wv} {vs : List V}, RL (RW c H) ws vs → ws.all flatW = true → vs.all flatV = true
  | [], vs, r, _ => by cases r; rfl
  | w :: ws, vs, r, f => by
    obtain ⟨v, vr, rfl, h1, h2⟩ := r
    simp only [List.all_cons, Bool.and_eq_true] at f ⊢
    exact ⟨flat_v h1 f.1, flat_vs h2 f.2⟩
theorem eqFlat_v {a b : Wv} {x y : V} (ra : RW c H a x) (rb : RW c H b y) (fa : flatW a = true) (fb : flatW b = true) : eqV x y = eqFlat a b := by
  cases a <;> simp [flatW] at fa <;> cases b <;> simp [flatW] at fb <;> (simp only [RW] at ra rb; rw [ra, rb]; simp [eqV, eqFlat, Wv.same]) <;> first | rfl | skip
  all_goals (first | exact (beq_eq_decide ..) | (rename_i p q; by_cases h : p = q <;> simp [h]))
theorem inV_any {w : Wv} {x : V} (r : RW c H w x) (f : flatW w = true) : ∀ {ws : List Wv} {vs : List V}, RL (RW c H) ws vs → ws.all flatW = true → inV x vs = ws.any fun y => eqFlat y w
  | [], vs, q, _ => by cases q; rfl
  | z :: ws, vs, q, fs => by
    obtain ⟨v, vr, rfl, h1, h2⟩ := q
    simp only [List.all_cons, Bool.and_eq_true] at fs
    show (eqV v x || inV x vr) = (eqFlat z w || ws.any fun y => eqFlat y w)
    rw [eqFlat_v h1 r fs.1 f, inV_any r f h2 fs.2]

/-! ### comparisons of data -/
/-- a comparison's answer as a value -/
def blA (o : Option Bool) : Option Av := o.map fun k => .val (.bl k)
theorem OK.bl {σQ : VK} {o : Option Bool} (ok : OK c (RAr c) H ρ E σQ (Mw.of (blA o) M)) (rm : RM c H ρ M) : ∃ k, o = some k ∧ σQ (.bl k) H := by
  cases o with
  | none => exact ok.elim
  | some k => exact ⟨k, rfl, OK.here (R := RAr c) (b := V.bl k) ok rm (ra_bl.mpr rfl)⟩
theorem opR_eq (g : Good c E k X) : OpR X (compareOp .Eq) (lifO c E fun x y M => Mw.of (blA (eqA M x y)) M) := by
  intro pins s σ H x y v u Q I rx ry ⟨ρ, M, a, b, rm, ra, rb, ok⟩
  obtain ⟨r, e, q⟩ := ok.bl rm
  obtain ⟨d, f, h1, h2, h3, h4, rfl⟩ := eqA_some rm ra rb e
  exact op_eqD (by have := g.room.units; exact this) pins s σ H x y v u Q I rx ry ⟨d, f, by rw [g.K]; exact h1, by rw [g.K]; exact h2, h3, h4, q⟩
theorem opR_eqK0 (g : Good c E k X) : OpR X (compareOp .Eq) (lifO c E fun x y M => Mw.of (blA (eqK0 M x y)) M) := by
  intro pins s σ H x y v u Q I rx ry ⟨ρ, M, a, b, rm, ra, rb, ok⟩
  have ok : OK c (RAr c) H ρ E Q (Mw.of (blA (if ((lstI M a).isSome && (tupI b).isSome || (tupI a).isSome && (lstI M b).isSome) = true then some false else eqA M a b)) M) := ok
  split at ok
  · rename_i hk
    obtain ⟨r, e, q⟩ := ok.bl rm
    cases e
    have hu : X.A.units < cLine := g.room.units0
    simp only [Bool.or_eq_true, Bool.and_eq_true] at hk
    rcases hk with ⟨h1, h2⟩ | ⟨h1, h2⟩
    · obtain ⟨xs, h1⟩ := Option.isSome_iff_exists.mp h1
      obtain ⟨ws, h2⟩ := Option.isSome_iff_exists.mp h2
      obtain ⟨p, vs, rfl, t1, _⟩ := lst_rd rm h1 ra
      obtain ⟨p2, vs2, rfl, t2, _⟩ := tup_rd h2 rb
      cases rx
      cases ry
      obtain ⟨_, _, l1, _⟩ := I.list (by rw [g.K]; exact t1)
      obtain ⟨_, _, l2, _⟩ := I.tuple (by rw [g.K]; exact t2)
      unfold compareOp
      exact PySem.SeqAt.RcAt.list_tuple l1.isList (show s.heap.IsTuple p2 _ from l2) hu X.prog X.w X.xe _ ⟨.bl false, H, I, rfl, q⟩
    · obtain ⟨xs, h2⟩ := Option.isSome_iff_exists.mp h2
      obtain ⟨ws, h1⟩ := Option.isSome_iff_exists.mp h1
      obtain ⟨p, vs, rfl, t1, _⟩ := lst_rd rm h2 rb
      obtain ⟨p2, vs2, rfl, t2, _⟩ := tup_rd h1 ra
      cases rx
      cases ry
      obtain ⟨_, _, l1, _⟩ := I.list (by rw [g.K]; exact t1)
      obtain ⟨_, _, l2, _⟩ := I.tuple (by rw [g.K]; exact t2)
      unfold compareOp
      exact PySem.SeqAt.RcAt.tuple_list (show s.heap.IsTuple p2 _ from l2) l1.isList hu X.prog X.w X.xe _ ⟨.bl false, H, I, rfl, q⟩
  · exact opR_eq g pins s σ H x y v u Q I rx ry ⟨ρ, M, a, b, rm, ra, rb, ok⟩
theorem opR_ne (g : Good c E k X) : OpR X (compareOp .NotEq) (lifO c E fun x y M => Mw.of (blA ((eqA M x y).map not)) M) := by
  intro pins s σ H x y v u Q I rx ry ⟨ρ, M, a, b, rm, ra, rb, ok⟩
  obtain ⟨r, e, q⟩ := ok.bl rm
  cases he : eqA M a b with
  | none => rw [he] at e; cases e
  | some r' =>
    rw [he] at e
    cases e
    obtain ⟨d, f, h1, h2, h3, h4, rfl⟩ := eqA_some rm ra rb he
    exact op_neD (by have := g.room.units; exact this) pins s σ H x y v u Q I rx ry ⟨d, f, by rw [g.K]; exact h1, by rw [g.K]; exact h2, h3, h4, q⟩
theorem twoS_some {a b : Av} {q : Str × Str} (h : twoS a b = some q) : a = .val (.str q.1) ∧ b = .val (.str q.2) := by
  unfold twoS at h
  split at h
  · cases h; exact ⟨rfl, rfl⟩
  · cases h
theorem opR_eqK (g : Good c E k X) : OpR X (compareOp .Eq) (lifO c E fun x y M => Mw.of (blA (eqK M x y)) M) := by
  intro pins s σ H x y v u Q I rx ry ⟨ρ, M, a, b, rm, ra, rb, ok⟩
  cases hs : twoS a b with
  | none => exact opR_eqK0 g pins s σ H x y v u Q I rx ry ⟨ρ, M, a, b, rm, ra, rb, by dsimp only at ok; unfold eqK at ok; rw [hs] at ok; exact ok⟩
  | some q =>
    dsimp only at ok
    unfold eqK at ok
    rw [hs] at ok
    obtain ⟨r, e, q⟩ := ok.bl rm
    cases e
    obtain ⟨rfl, rfl⟩ := twoS_some hs
    rw [ra_str] at ra rb
    subst ra rb
    obtain ⟨t, rfl⟩ := rx
    obtain ⟨t2, rfl⟩ := ry
    exact PyProof.Rows.eq_str ⟨.bl _, H, I, rfl, q⟩
theorem opR_neK (g : Good c E k X) : OpR X (compareOp .NotEq) (lifO c E fun x y M => Mw.of (blA (neK M x y)) M) := by
  intro pins s σ H x y v u Q I rx ry ⟨ρ, M, a, b, rm, ra, rb, ok⟩
  cases hs : twoS a b with
  | none => exact opR_ne g pins s σ H x y v u Q I rx ry ⟨ρ, M, a, b, rm, ra, rb, by dsimp only at ok; unfold neK at ok; rw [hs] at ok; exact ok⟩
  | some q =>
    dsimp only at ok
    unfold neK at ok
    rw [hs] at ok
    obtain ⟨r, e, q⟩ := ok.bl rm
    cases e
    obtain ⟨rfl, rfl⟩ := twoS_some hs
    rw [ra_str] at ra rb
    subst ra rb
    obtain ⟨t, rfl⟩ := rx
    obtain ⟨t2, rfl⟩ := ry
    exact PyProof.Rows.ne_str ⟨.bl _, H, I, rfl, q⟩
theorem isA_some {a b : Av} {x y : V} {r : Bool} (ra : RA c H ρ a x) (rb : RA c H ρ b y) (e : isA a b = some r) :
    (y = .non ∧ r = decide (x = .non)) ∨ (∃ p q, x = .bl p ∧ y = .bl q ∧ r = decide (p = q)) := by
  unfold isA at e
  split at e
  · cases e
    rw [ra_non] at rb
    refine .inl ⟨rb, ?_⟩
    cases a with
    | ref i => obtain ⟨p, _, rfl⟩ := ra; rfl
    | val w => cases w <;> (simp only [RA, RW] at ra) <;> first | (subst ra; rfl) | (obtain ⟨_, _, rfl⟩ := ra; rfl) | (obtain ⟨_, _, rfl, _⟩ := ra; rfl) | (obtain ⟨_, _, _, rfl, _⟩ := ra; rfl) | (obtain ⟨_, _, _, _, _, rfl, _⟩ := ra; rfl)
  · cases e
    rename_i p
    rw [ra_bl] at ra rb
    exact .inr ⟨_, _, ra, rb, by simp⟩
  · cases e
theorem opR_is (g : Good c E k X) : OpR X (compareOp .Is) (lifO c E fun x y M => Mw.of (blA (isA x y)) M) := by
  intro pins s σ H x y v u Q I rx ry ⟨ρ, M, a, b, rm, ra, rb, ok⟩
  obtain ⟨r, e, q⟩ := ok.bl rm
  rcases isA_some ra rb e with ⟨e1, rfl⟩ | ⟨p, z, e1, e2, rfl⟩
  · exact op_isN pins s σ H x y v u Q I rx ry ⟨e1, q⟩
  · exact op_isBl pins s σ H x y v u Q I rx ry ⟨p, z, e1, e2, q⟩
theorem opR_nis (g : Good c E k X) : OpR X (compareOp .IsNot) (lifO c E fun x y M => Mw.of (blA ((isA x y).map not)) M) := by
  intro pins s σ H x y v u Q I rx ry ⟨ρ, M, a, b, rm, ra, rb, ok⟩
  obtain ⟨r, e, q⟩ := ok.bl rm
  cases he : isA a b with
  | none => rw [he] at e; cases e
  | some r' =>
    rw [he] at e
    cases e
    rcases isA_some ra rb he with ⟨e1, rfl⟩ | ⟨p, z, e1, e2, rfl⟩
    · exact op_notN pins s σ H x y v u Q I rx ry ⟨e1, q⟩
    · exact op_notBl pins s σ H x y v u Q I rx ry ⟨p, z, e1, e2, q⟩
theorem opR_lt (g : Good c E k X) {o : CmpOp} (ho : o = .Lt ∨ o = .LtE ∨ o = .Gt ∨ o = .GtE) : OpR X (compareOp o) (lifO c E fun x y M => Mw.of (blA (ltA o x y)) M) := by
  intro pins s σ H x y v u Q I rx ry ⟨ρ, M, a, b, rm, ra, rb, ok⟩
  obtain ⟨r, e, q⟩ := ok.bl rm
  unfold ltA at e
  split at e
  all_goals first | contradiction | skip
  all_goals (cases e)
  all_goals first | rw [ra_int] at ra rb | rw [ra_str] at ra rb
  · exact op_lt pins s σ H x y v u Q I rx ry ⟨_, _, ra, rb, q⟩
  · exact op_le pins s σ H x y v u Q I rx ry ⟨_, _, ra, rb, q⟩
  · exact op_gt pins s σ H x y v u Q I rx ry ⟨_, _, ra, rb, q⟩
  · exact op_ge pins s σ H x y v u Q I rx ry ⟨_, _, ra, rb, q⟩
  · exact op_lt_str pins s σ H x y v u Q I rx ry ⟨_, _, ra, rb, q⟩
  · exact op_le_str pins s σ H x y v u Q I rx ry ⟨_, _, ra, rb, q⟩

theorem seqA_rd (rm : RM c H ρ M) {b : Av} {ws : List Wv} {y : V} (rb : RA c H ρ b y) (e : seqA M b = some ws) : ∃ p vs, y = .ref p ∧ (SqL c.K H p vs ∨ SqT c.K H p vs) ∧ RL (RW c H) ws vs := by
  unfold seqA at e
  split at e
  · rename_i zs hz
    cases e
    obtain ⟨p, vs, rfl, t, q⟩ := tup_rd (c := c) hz rb
    exact ⟨p, vs, rfl, .inr t, q⟩
  · split at e
    · rename_i xs hx
      obtain ⟨p, vs, rfl, t, q⟩ := lst_rd rm hx rb
      rw [pures_some e] at q
      exact ⟨p, vs, rfl, .inl t, RL_val q⟩
    · cases e
theorem opR_in (g : Good c E k X) : OpR X (compareOp .In) (lifO c E fun x y M => Mw.of (blA (inA M x y)) M) := by
  intro pins s σ H x y v u Q I rx ry ⟨ρ, M, a, b, rm, ra, rb, ok⟩
  obtain ⟨r, e, q⟩ := ok.bl rm
  unfold inA at e
  split at e
  · split at e
    · cases e
      rw [ra_str] at ra rb
      exact op_in_str pins s σ H x y v u Q I rx ry ⟨_, _, ra, rb, q⟩
    · cases e
  · split at e
    · rename_i w ws hs
      split at e
      · rename_i hf
        cases e
        obtain ⟨p, vs, rfl, t, z⟩ := seqA_rd rm rb hs
        rw [← g.K] at t
        refine op_in_seq pins s σ H x _ v u Q I rx ry ⟨p, vs, rfl, t, flat_v ra hf.1, flat_vs z hf.2, ?_⟩
        rw [if_neg (by decide), inV_any ra hf.1 z hf.2]
        exact q
      · cases e
    · cases e
theorem opR_nin (g : Good c E k X) : OpR X (compareOp .NotIn) (lifO c E fun x y M => Mw.of (blA ((inA M x y).map not)) M) := by
  intro pins s σ H x y v u Q I rx ry ⟨ρ, M, a, b, rm, ra, rb, ok⟩
  obtain ⟨r, e, q⟩ := ok.bl rm
  cases he : inA M a b with
  | none => rw [he] at e; cases e
  | some r' =>
    rw [he] at e
    cases e
    unfold inA at he
    split at he
    · split at he
      · cases he
        rw [ra_str] at ra rb
        exact op_notin_str pins s σ H x y v u Q I rx ry ⟨_, _, ra, rb, q⟩
      · cases he
    · split at he
      · rename_i w ws hs
        split at he
        · rename_i hf
          cases he
          obtain ⟨p, vs, rfl, t, z⟩ := seqA_rd rm rb hs
          rw [← g.K] at t
          refine op_notIn_seq pins s σ H x _ v u Q I rx ry ⟨p, vs, rfl, t, flat_v ra hf.1, flat_vs z hf.2, ?_⟩
          rw [if_pos (by decide), inV_any ra hf.1 z hf.2]
          exact q
        · cases he
      · cases he
end
end LW

namespace LW
open PySem PySem.Spec PyProof.Rows L2
section
variable {X : Cx} {c : SC} {E : XK} {k : Nat} {H : Hp} {ρ : List Addr} {M : Mem}
/-! ### items -/
theorem atI_RL {α β : Type} {R : α → β → Prop} {ws : List α} {vs : List β} {i : Int} {w : α} (r : RL R ws vs) (e : atI ws i = some w) : ∃ v, atI vs i = some v ∧ R w v := by
  unfold atI at e ⊢
  rw [← r.len]
  cases h : ixN ws.length i with
  | none => rw [h] at e; cases e
  | some j =>
    rw [h] at e
    exact r.get e
theorem ixR (g : Good c E k X) : IxR X (lifO c E fun x y M => Mw.of (ixA M x y) M) := by
  intro va sl pins s σ H x y v u Q I rx ry ⟨ρ, M, a, b, rm, ra, rb, ok⟩ hs
  obtain ⟨r, e, okr⟩ := ok.of
  unfold ixA at e
  split at e
  · rename_i xs i
    cases h : atI xs i with
    | none => rw [h] at e; cases e
    | some w =>
      rw [h] at e
      cases e
      rw [ra_int] at rb
      obtain ⟨p, vs, rfl, t, q⟩ := tup_rd (c := c) (a := .val (.tup xs)) rfl ra
      obtain ⟨z, hz, rz⟩ := atI_RL q h
      exact ix_tup va sl pins s σ H _ y v u Q I rx ry ⟨p, vs, i, z, rfl, rb, by rw [g.K]; exact t, hz, okr.here rm rz⟩ hs
  · rename_i z i
    split at e
    · rename_i hz
      cases h : atI z.cps.toList i with
      | none => rw [h] at e; cases e
      | some w =>
        rw [h] at e
        cases e
        rw [ra_int] at rb
        rw [ra_str] at ra
        exact ix_str va sl pins s σ H _ y v u Q I rx ry ⟨z, i, w, ra, rb, hz, h, okr.here rm (ra_str.mpr rfl)⟩ hs
    · cases e
  · split at e
    · rename_i xs hx
      rw [ra_int] at rb
      obtain ⟨p, vs, rfl, t, q⟩ := lst_rd rm hx ra
      obtain ⟨z, hz, rz⟩ := atI_RL q e
      exact ix_list va sl pins s σ H _ y v u Q I rx ry ⟨p, vs, _, z, rfl, rb, by rw [g.K]; exact t, hz, okr.here rm rz⟩ hs
    · cases e
  · cases e
/-! ### slices -/
theorem cutL_RL {α β : Type} {R : α → β → Prop} {ws : List α} {vs : List β} (r : RL R ws vs) (lo hi : Option Int) : RL R (cutL ws lo hi) (cutL vs lo hi) := by
  unfold cutL
  rw [r.len]
  exact (r.drop _).take _
theorem cutL_V (vs : List V) (lo hi : Option Int) : cutL vs lo hi = cutV vs lo hi := rfl
def lifS (c : SC) (E : XK) : V → Option Int → Option Int → Hp → VK → Prop := fun x lo hi H Q => ∃ ρ M a, RM c H ρ M ∧ RA c H ρ a x ∧ OK c (RAr c) H ρ E Q (Mw.of (slA M a lo hi) M)
theorem ep_frz' {pins : List (Addr × Obj)} {σ : L2.St} {Q : VK} {t : Sem Value} {A : Around} {E : Value → Shared → Prop} {s : Shared} (P : Prop) (h : P ∧ wpAny (model X.prog X.w) A t (EP X pins σ (QF Q)) E s) : P ∧ wpAny (model X.prog X.w) A t (EP X pins σ Q) E s := ⟨h.1, ep_frz h.2⟩
theorem slR (g : Good c E k X) : SlR X (lifS c E) := by
  intro pins s σ H x v vl vu lo hi sl Q I rx hs pl pu ⟨ρ, M, a, rm, ra, ok⟩
  obtain ⟨r, e, ok⟩ := ok.of
  unfold slA at e
  split at e
  · rename_i xs
    cases e
    obtain ⟨p, vs, rfl, t, q⟩ := tup_rd (c := c) (a := .val (.tup xs)) rfl ra
    have q2 := cutL_RL q lo hi
    refine sl_tupA pins s σ H _ v vl vu lo hi sl Q I rx hs pl pu ⟨p, vs, rfl, by rw [g.K]; exact t, fun h0 => ?_, fun _ n hn => ?_⟩
    · have e0 : cutL xs lo hi = xs := by
        unfold cutL
        rw [q.len, h0.1, h0.2, List.drop_zero, Nat.sub_zero, ← q.len, List.take_length]
      rw [e0] at ok
      exact ok.here rm ra
    · exact ok.then (List.prefix_refl _) (Stb.new hn) (rm.new hn) (rw_tup hn q2)
  · rename_i z
    split at e
    · rename_i hz
      cases e
      rw [ra_str] at ra
      exact sl_str pins s σ H _ v vl vu lo hi sl Q I rx hs pl pu ⟨z, ra, hz, ok.here rm (ra_str.mpr rfl)⟩
    · cases e
  · split at e
    · rename_i xs hx
      split at e
      · rename_i ws hw
        cases e
        obtain ⟨p, vs, rfl, t, q⟩ := lst_rd rm hx ra
        have q2 := cutL_RL q lo hi
        rw [pures_some hw] at q2
        have q3 := RL_val q2
        obtain ⟨T, id, h1, h2, h3⟩ := sl_list pins s σ H _ v vl vu lo hi sl (QF Q) I rx hs pl pu ⟨p, vs, rfl, by rw [g.K]; exact t, fun n hn => .inr ⟨n, _, rfl, upd_same, True.intro, fun o => by
          rw [upd_upd]
          exact ok.then (List.prefix_refl _) (Stb.new hn) (rm.new hn) (rw_lst hn q3)⟩⟩
        exact ⟨T, id, h1, h2, ep_frz h3⟩
      · cases e
    · cases e
/-! ### truth -/
theorem RL.empty {α β : Type} {R : α → β → Prop} {ws : List α} {vs : List β} (r : RL R ws vs) : vs.isEmpty = ws.isEmpty := by
  have := r.len
  cases ws <;> cases vs <;> first | rfl | (simp at this)
theorem trueA_some (rm : RM c H ρ M) {a : Av} {x : V} {b : Bool} (ra : RA c H ρ a x) (e : trueA M a = some b) : TruV c.K x H b := by
  unfold trueA at e
  split at e
  · cases e; rw [ra_non] at ra; subst ra; rfl
  · cases e; rw [ra_bl] at ra; subst ra; rfl
  · cases e; rw [ra_int] at ra; subst ra; rfl
  · split at e
    · rename_i hz
      cases e; rw [ra_str] at ra; subst ra; exact ⟨hz, rfl⟩
    · cases e
  · rename_i xs
    cases e
    obtain ⟨p, vs, rfl, t, q⟩ := tup_rd (c := c) (a := .val (.tup xs)) rfl ra
    exact .inr (.inl ⟨vs, t, by rw [q.empty]⟩)
  · split at e
    · rename_i xs hx
      cases e
      obtain ⟨p, vs, rfl, t, q⟩ := lst_rd rm hx ra
      exact .inl ⟨vs, t, by rw [q.empty]⟩
    · cases e
/-! ### fields -/
theorem lookup_RL {R : Wv → V → Prop} : ∀ {ns : List Str} {ws : List Wv} {fs : List (Str × V)} {f : Str} {w : Wv}, fs.map (·.1) = ns → RL R ws (fs.map (·.2)) → (ns.zip ws).lookup f = some w → ∃ v, fs.lookup f = some v ∧ R w v
  | [], _, _, _, _, _, _, e => by simp at e
  | n :: ns, [], _, _, _, _, _, e => by simp at e
  | n :: ns, w :: ws, [], f, x, h, _, _ => by simp at h
  | n :: ns, w :: ws, (m, v) :: fs, f, x, h, r, e => by
    simp only [List.map_cons, List.cons.injEq] at h
    obtain ⟨h1, h2⟩ := h
    obtain ⟨v', r', e', q1, q2⟩ := r
    simp only [List.map_cons, List.cons.injEq] at e'
    obtain ⟨rfl, rfl⟩ := e'
    subst h1
    rw [List.zip_cons_cons, List.lookup_cons] at e
    rw [List.lookup_cons]
    cases hb : f == m with
    | true =>
      rw [hb] at e
      cases e
      exact ⟨v, rfl, q1⟩
    | false =>
      rw [hb] at e
      exact lookup_RL h2 q2 e
theorem ins_rd {pins : List (Addr × Obj)} {σ : L2.St} {s : Shared} {a C dx : Addr} {o : Obj} {fs : List (Str × V)} (I : Inv X pins σ H s) (e : H a = some (.frz o (.ins C dx fs))) :
    ∃ mA, ObjM s.heap a dx C mA ∧ (∀ f, RelO (fs.lookup f) (mA f)) ∧ H dx = some (.own a) := by
  obtain ⟨h0, h1⟩ := I.hok a _ e
  obtain ⟨hd, hl, hne, hg, mA, hn, hr, hw⟩ := h1
  exact ⟨mA, ⟨hg, hn, hne⟩, hr, hd⟩
/-! ### a field read, by value -/
/-- what a class must be for its fields to be read -/
structure FldOk (c : SC) (g : G) : Prop where
  fld : ∀ cn f, g.fld cn f = true → ∃ C, c.mg cn = some (.ref C) ∧ Cls c.K C ∧ NoAttr c.K C f
  xfd : ∀ cn f, g.xfd cn f = true → ∃ C, c.mg cn = some (.ref C) ∧ XfC c.K C ∧ PySem.W.findIn c.K (.ref C) f = some none
theorem fld_get {pins : List (Addr × Obj)} {σ : L2.St} {s : Shared} {a C dx : Addr} {fs : List (Str × V)} {f : Str} {v : V} {b : Bool} {A : Around} {Q : VK} (I : Inv X pins σ H s) {mA : Str → Option Value} (O : ObjM s.heap a dx C mA) (r : ∀ f, RelO (fs.lookup f) (mA f)) (cl : Cls X.K C) (n : NoAttr X.K C f) (l : fs.lookup f = some v)
    (q : Q v H) : wpAny (model X.prog X.w) A (getAttr (.ref a) f b) (EP X pins σ Q) X.xe s := by
  obtain ⟨u, hu, ru⟩ := RelO.some_of (v := v) (o := mA f) (by rw [← l]; exact r f)
  exact get_map I.kIn O (cl.get f) cl.hd n hu (handed_of ru) ⟨v, H, I.tok _, ru, q⟩
theorem lookup_RLA {R : Av → V → Prop} : ∀ {ns : List Str} {ws : List Av} {fs : List (Str × V)} {f : Str} {w : Av}, fs.map (·.1) = ns → RL R ws (fs.map (·.2)) → (ns.zip ws).lookup f = some w → ∃ v, fs.lookup f = some v ∧ R w v
  | [], _, _, _, _, _, _, e => by simp at e
  | n :: ns, [], _, _, _, _, _, e => by simp at e
  | n :: ns, w :: ws, [], f, x, h, _, _ => by simp at h
  | n :: ns, w :: ws, (m, v) :: fs, f, x, h, r, e => by
    simp only [List.map_cons, List.cons.injEq] at h
    obtain ⟨h1, h2⟩ := h
    obtain ⟨v', r', e', q1, q2⟩ := r
    simp only [List.map_cons, List.cons.injEq] at e'
    obtain ⟨rfl, rfl⟩ := e'
    subst h1
    rw [List.zip_cons_cons, List.lookup_cons] at e
    rw [List.lookup_cons]
    cases hb : f == m with
    | true =>
      rw [hb] at e
      cases e
      exact ⟨v, rfl, q1⟩
    | false =>
      rw [hb] at e
      exact lookup_RLA h2 q2 e
theorem attr_ok {pins : List (Addr × Obj)} {σ : L2.St} {s : Shared} {x : V} {u : Value} {f : Str} {A : Around} {Q : VK} {gg : G} (g : Good c E k X) (F : FldOk c gg) (I : Inv X pins σ H s) (rx : RelV x u)
    (h : lifU c E (fun a M => Mw.of (attrA gg M f a) M) x H Q) : wpAny (model X.prog X.w) A (getAttr u f true) (EP X pins σ Q) X.xe s := by
  obtain ⟨ρ, M, a, rm, ra, ok⟩ := h
  obtain ⟨r, e, okr⟩ := ok.of
  unfold attrA at e
  split at e
  · rename_i cn ns xs
    split at e
    · rename_i hf
      cases hl : (ns.zip xs).lookup f with
      | none => rw [hl] at e; cases e
      | some w =>
        rw [hl] at e
        cases e
        have ra : RW c H (.ins cn ns xs) x := ra
        simp only [RW] at ra
        obtain ⟨p, C, dx, o, fs, rfl, hC, hp, hn, hr⟩ := ra
        obtain ⟨C', hC', cl, na⟩ := F.fld cn f hf
        rw [hC] at hC'
        cases hC'
        cases rx
        obtain ⟨mA, O, rr, _⟩ := ins_rd I hp
        obtain ⟨v, lv, rv⟩ := lookup_RL hn (RWs_iff.mp hr) hl
        rw [← g.K] at cl na
        exact fld_get I O rr cl na lv (okr.here rm rv)
    · cases e
  · rename_i cn ns xs
    split at e
    · rename_i hf
      cases hl : (ns.zip xs).lookup f with
      | none => rw [hl] at e; cases e
      | some w =>
        rw [hl] at e
        cases e
        have ra : RW c H (.exc cn ns xs) x := ra
        simp only [RW] at ra
        obtain ⟨p, C, fs, rfl, hC, ⟨oe, od, d, vs, h1, h2, h3, h4, h5⟩, hn, hr⟩ := ra
        obtain ⟨C', hC', T, na⟩ := F.xfd cn f hf
        rw [hC] at hC'
        cases hC'
        cases rx
        obtain ⟨v, lv, rv⟩ := lookup_RL hn (RWs_iff.mp hr) hl
        obtain ⟨g1, _⟩ := I.hok p _ h1
        obtain ⟨_, mA, hns, hr2⟩ := I.hok d _ h5
        obtain ⟨od2, ho, hlk⟩ := lookIn_ns hns
        obtain ⟨u, hu, ru⟩ := RelO.some_of (v := v) (o := mA f) (by rw [← lv]; exact hr2 f)
        have J : PySem.W.InstAt s.heap p oe C (some od2) := ⟨g1, h2, by unfold PySem.W.notCls; rw [h4] <;> rfl, by rw [h3]; exact ho⟩
        rw [← g.K] at T na
        exact HandSPX.exc_get I.kIn J T.ga T.gg T.exC (PySem.W.findObj_own T.hdC na rfl (by rw [hlk, hu])) (handed_of ru) ⟨v, H, I.tok _, ru, okr.here rm rv⟩
    · cases e
  · rename_i i
    split at e
    · rename_i cn ns xs hx
      split at e
      · rename_i hf
        obtain ⟨p, e1, rfl⟩ := ra
        obtain ⟨C, dx, fs, hC, hp, hn, hr⟩ := rm.at_ i p _ e1 hx
        obtain ⟨C', hC', cl, na⟩ := F.fld cn f hf
        rw [hC] at hC'
        cases hC'
        cases rx
        obtain ⟨mA, O, rr, _⟩ := ins_get I.hok hp
        obtain ⟨v, lv, rv⟩ := lookup_RLA hn hr e
        rw [← g.K] at cl na
        exact fld_get I O rr cl na lv (okr.here rm rv)
      · cases e
    · cases e
  · cases e
end
end LW

namespace LW
open PySem PySem.Spec PyProof.Rows L2
/-! ### what a value is -/
def KnV (c : SC) : Kn → Value → Prop
  | .bt n, t => t = .type n
  | .own x, t => ∃ C, c.mg x = some (.ref C) ∧ t = .ref C
structure KitOk (c : SC) (g : G) : Prop where
  icl : ∀ cn, g.icl cn = true → ∃ C, c.mg cn = some (.ref C) ∧ Cls c.K C ∧ PySem.W.findIn c.K (.ref C) "__class__" = some (some (.builtin "object.__class__")) ∧ PySem.W.mroIn c.K C (.type "object") = some true
  xcl : ∀ cn, g.xcl cn = true → ∃ C, c.mg cn = some (.ref C) ∧ (PySem.W.clsIn c.K C).isSome = true ∧ PySem.W.findIn c.K (.ref C) "__getattribute__" = some (some (.builtin "BaseException.__getattribute__")) ∧ PySem.W.findIn c.K (.ref C) "__getattr__" = some none ∧
    PySem.W.subIn c.K (.ref C) (.type "BaseException") = some true ∧ PySem.W.findIn c.K (.ref C) "__class__" = some (some (.builtin "object.__class__")) ∧ PySem.W.mroIn c.K C (.type "object") = some true
  get : (∃ cn, g.icl cn = true ∨ g.xcl cn = true) → PySem.W.specialIn c.K (.builtin "object.__class__") "__get__" = some (some (.builtin "getset_descriptor.__get__")) ∧ PySem.W.takesIn c.K (.builtin "object.__class__") = some true
  kit : ∀ a b r, g.kit a b = some r → ∀ t u, KnV c a t → KnV c b u → PySem.W.kitOne c.K t u = some r
section
variable {X : Cx} {c : SC} {E : XK} {k : Nat} {H : Hp} {ρ : List Addr} {M : Mem} {gg : G}
theorem sqT_ty {a : Addr} {xs : List V} (h : SqT X.K H a xs) : TyX X.K H (.ref a) (.type "tuple") := by
  rcases h with (h | ⟨o, h⟩) | ⟨o, its, n, h, hc, _⟩
  · exact .base (.tup h)
  · exact .fTuple h
  · exact .kTuple h hc
theorem sqL_ty {a : Addr} {xs : List V} (h : SqL X.K H a xs) : TyX X.K H (.ref a) (.type "list") := by
  rcases h with (h | ⟨o, h⟩) | ⟨o, its, n, h, hc, _⟩
  · exact .base (.lst h)
  · exact .base (.frz h)
  · exact .kList h hc
theorem kn_rd {pins : List (Addr × Obj)} {σ : L2.St} {s : Shared} {a : Av} {x : V} {u : Value} {kn : Kn} (g : Good c E k X) (KO : KitOk c gg) (I : Inv X pins σ H s) (rm : RM c H ρ M) (ra : RA c H ρ a x) (rx : RelV x u) (e : knA gg M a = some kn) :
    ∃ t P, KnV c kn t ∧ PySem.W.KitX X.K u t P ∧ P s.heap ∧ u ≠ .builtin "__main__.__loader__#opaque" := by
  have by_ty : ∀ {n : String}, TyX X.K H x (.type n) → kn = .bt n → ∃ t P, KnV c kn t ∧ PySem.W.KitX X.K u t P ∧ P s.heap ∧ u ≠ .builtin "__main__.__loader__#opaque" := fun {n} ty en => by
    obtain ⟨P, h1, h2, h3⟩ := kit_of I rx ty
    exact ⟨_, P, by rw [en]; rfl, h1, h2, h3⟩
  unfold knA at e
  split at e
  · rename_i cn ns xs
    split at e
    · rename_i hi
      cases e
      have ra : RW c H (.ins cn ns xs) x := ra
      simp only [RW] at ra
      obtain ⟨p, C, dx, o, fs, rfl, hC, hp, _, _⟩ := ra
      obtain ⟨C', hC', cl, h1, h2⟩ := KO.icl cn hi
      obtain ⟨h3, h4⟩ := KO.get ⟨cn, .inl hi⟩
      rw [hC] at hC'
      cases hC'
      cases rx
      obtain ⟨mA, O, _⟩ := ins_rd I hp
      obtain ⟨od, J, _⟩ := O.look
      rw [← g.K] at cl h1 h2 h3 h4
      exact ⟨.ref C, _, ⟨C, hC, rfl⟩, PySem.W.kitx_own (cl.get _) cl.hd h1 h3 h4 h2, J, fun z => nomatch z⟩
    · cases e
  · rename_i cn ns xs
    split at e
    · rename_i hi
      cases e
      have ra : RW c H (.exc cn ns xs) x := ra
      simp only [RW] at ra
      obtain ⟨p, C, fs, rfl, hC, ⟨oe, od, d, vs, q1, q2, q3, q4, q5⟩, _, _⟩ := ra
      obtain ⟨C', hC', g1, g2, g3, g4, g5, g6⟩ := KO.xcl cn hi
      obtain ⟨h3, h4⟩ := KO.get ⟨cn, .inr hi⟩
      rw [hC] at hC'
      cases hC'
      cases rx
      obtain ⟨z1, _⟩ := I.hok p _ q1
      obtain ⟨_, mA, hns, _⟩ := I.hok d _ q5
      obtain ⟨od2, ho, _⟩ := lookIn_ns hns
      have J : PySem.W.InstAt s.heap p oe C (some od2) := ⟨z1, q2, by unfold PySem.W.notCls; rw [q4] <;> rfl, by rw [q3]; exact ho⟩
      rw [← g.K] at g1 g2 g3 g4 g5 g6 h3 h4
      exact ⟨.ref C, _, ⟨C, hC, rfl⟩, PySem.W.kitx_exc g1 g2 g3 g4 g5 h3 h4 g6, J, fun z => nomatch z⟩
    · cases e
  · cases ht : tyOf M a with
    | none => rw [ht] at e; cases e
    | some n =>
      rw [ht] at e
      cases e
      unfold tyOf at ht
      split at ht
      · cases ht; rw [ra_non] at ra; subst ra; exact by_ty (.base .non) rfl
      · cases ht; rw [ra_bl] at ra; subst ra; exact by_ty (.base (.bl _)) rfl
      · cases ht; rw [ra_int] at ra; subst ra; exact by_ty (.base (.int _)) rfl
      · cases ht; rw [ra_str] at ra; subst ra; exact by_ty (.base (.str _)) rfl
      · rename_i xs _ _
        cases ht
        obtain ⟨p, vs, rfl, t, _⟩ := tup_rd (c := c) (a := .val (.tup xs)) rfl ra
        rw [← g.K] at t
        exact by_ty (sqT_ty t) rfl
      · rename_i xs _ _
        cases ht
        obtain ⟨p, vs, rfl, t, _⟩ := lst_rd (c := c) rm (a := .val (.lst xs)) rfl ra
        rw [← g.K] at t
        exact by_ty (sqL_ty t) rfl
      · rename_i xs _ _
        cases ht
        obtain ⟨p, vs, rfl, t, _⟩ := lst_rd (c := c) rm (a := .val (.kls xs)) rfl ra
        rw [← g.K] at t
        exact by_ty (sqL_ty t) rfl
      · rename_i ks xs _ _
        cases ht
        have ra : RW c H (.dct ks xs) x := ra
        simp only [RW] at ra
        obtain ⟨p, o, kvs, rfl, hp, _⟩ := ra
        exact by_ty (.fDict hp) rfl
      · rename_i i _ _
        split at ht
        · rename_i xs hx
          cases ht
          obtain ⟨p, e1, rfl⟩ := ra
          obtain ⟨vs, hp, _⟩ := rm.at_ i p _ e1 hx
          exact by_ty (.base (.lst hp)) rfl
        · rename_i ks xs hx
          cases ht
          obtain ⟨p, e1, rfl⟩ := ra
          obtain ⟨vs, hp, _⟩ := rm.at_ i p _ e1 hx
          exact by_ty (.base (.dK hp)) rfl
        · cases ht
      · cases ht
theorem clsK_rd {w : Wv} {v : V} {kn : Kn} (r : RW c H w v) (e : clsK w = some kn) : ∃ t, KnV c kn t ∧ ClsV v t := by
  cases w <;> simp only [clsK, Option.some.injEq, reduceCtorEq] at e
  · subst e
    simp only [RW] at r
    subst r
    exact ⟨_, rfl, .ty _⟩
  · subst e
    simp only [RW] at r
    obtain ⟨C, hC, rfl⟩ := r
    exact ⟨.ref C, ⟨C, hC, rfl⟩, .own C⟩
theorem clsAll_rd : ∀ {ts : List Wv} {vs : List V}, RL (RW c H) ts vs → ts.all (fun t => (clsK t).isSome) = true → ∃ us, Paired ClsV vs us
  | [], vs, q, _ => by cases q; exact ⟨[], .nil⟩
  | w :: ts, vs, q, f => by
    obtain ⟨v, vr, rfl, h1, h2⟩ := q
    simp only [List.all_cons, Bool.and_eq_true] at f
    obtain ⟨kn, hk⟩ := Option.isSome_iff_exists.mp f.1
    obtain ⟨t, _, cv⟩ := clsK_rd h1 hk
    obtain ⟨us, pu⟩ := clsAll_rd h2 f.2
    exact ⟨t :: us, .cons cv pu⟩
theorem anyKit_rd (KO : KitOk c gg) {kn : Kn} {t : Value} (kt : KnV c kn t) : ∀ {ts : List Wv} {vs : List V} {us : List Value} {r : Bool}, RL (RW c H) ts vs → Paired ClsV vs us → anyKit gg kn ts = some r → PySem.W.kitAny c.K t us = some r
  | [], vs, us, r, q, pu, e => by
    cases q
    cases pu
    cases e
    exact kitAny_nil
  | w :: ts, vs, us, r, q, pu, e => by
    obtain ⟨v, vr, rfl, h1, h2⟩ := q
    cases pu with
    | cons cv pr =>
    unfold anyKit at e
    cases hk : clsK w with
    | none => rw [hk] at e; cases e
    | some kn2 =>
      rw [hk] at e
      obtain ⟨u, ku, cv2⟩ := clsK_rd h1 hk
      have eu : u = _ := cv.eq (w := u) (by cases cv2 <;> rfl)
      subst eu
      cases hg : gg.kit kn kn2 with
      | none => simp only [hg] at e; cases e
      | some b =>
        simp only [hg] at e
        have z := KO.kit _ _ _ hg t u kt ku
        cases b with
        | true =>
          cases e
          exact kitAny_cons z (fun q => nomatch q) fun _ => rfl
        | false => exact kitAny_cons z (fun _ => anyKit_rd KO kt h2 pr e) (fun q => nomatch q)
theorem lifC_of {xs : List V} {Q : VK} {f : List Av → Mw Av} (h : lifC c E f xs H Q) : ∃ ρ M as, RM c H ρ M ∧ RL (RA c H ρ) as xs ∧ OK c (RAr c) H ρ E Q (f as M) := h
theorem call_isiW (g : Good c E k X) (KO : KitOk c gg) : CallR X (.builtin "isinstance") (lifC c E (biIsi gg)) := by
  intro pins s σ H xs us Q I r ⟨ρ, M, as, rm, ra, ok⟩
  unfold biIsi at ok
  split at ok
  · rename_i a t
    split at ok
    · rename_i b hb
      obtain ⟨v, _, rfl, r1, v2, _, rfl, r2, rfl⟩ := ra
      obtain ⟨u1, u2, rfl, rv1, rv2⟩ := vals2 r
      have q : Q (.bl b) H := OK.here (R := RAr c) ok rm (ra_bl.mpr rfl)
      unfold isiA at hb
      cases hk : knA gg M a with
      | none => rw [hk] at hb; cases hb
      | some kn =>
        rw [hk] at hb
        dsimp only at hb
        obtain ⟨tt, P, kt, Z, p, hx⟩ := kn_rd g KO I rm r1 rv1 hk
        have fin : ∀ tk, EP X pins σ Q (.bool b) { s with toks := tk } := fun tk => ⟨.bl b, H, I.tok tk, rfl, q⟩
        split at hb
        · rename_i ts
          split at hb
          · rename_i hall
            obtain ⟨tp, vs, rfl, tq, tr⟩ := tup_rd (c := c) (a := .val (.tup ts)) rfl r2
            obtain ⟨ws, pu⟩ := clsAll_rd tr hall
            have z := anyKit_rd KO kt tr pu hb
            rw [← g.K] at z tq
            cases rv2
            obtain ⟨its, rv, ⟨o, h1, h2, n, h3⟩, _⟩ := I.tuple tq
            have e3 := ClsV.all pu rv
            subst e3
            obtain ⟨oc, od, dt, sl⟩ := o
            simp only at h2 h3
            subst h2 h3
            exact PySem.W.kia_tup Z I.kIn p h1 z hx fin
          · cases hb
        · rename_i t _
          cases ht : clsK t with
          | none => rw [ht] at hb; cases hb
          | some kn2 =>
            rw [ht] at hb
            dsimp only at hb
            obtain ⟨u, ku, cv⟩ := clsK_rd (H := H) r2 ht
            have z := KO.kit _ _ _ hb tt u kt ku
            rw [← g.K] at z
            have e2 := cv.eq rv2
            subst e2
            exact PySem.W.kia_one Z I.kIn p z hx fin
        · cases hb
    · exact ok.elim
  · exact ok.elim
end
end LW

namespace LW
open PySem PySem.Spec PyProof.Rows L2
section
variable {X : Cx} {c : SC} {E : XK} {k : Nat} {H : Hp} {ρ : List Addr} {M : Mem} {gg : G}
theorem call_absW : CallR X (.builtin "abs") (lifC c E biAbs) := by
  intro pins s σ H xs us Q I r ⟨ρ, M, as, rm, ra, ok⟩
  unfold biAbs at ok
  split at ok
  · obtain ⟨v, _, rfl, r1, rfl⟩ := ra
    rw [ra_int] at r1
    subst r1
    exact call_abs pins s σ H _ us Q I r ⟨_, rfl, OK.here (R := RAr c) ok rm (ra_int.mpr rfl)⟩
  · exact ok.elim
theorem call_intW : CallR X (.type "int") (lifC c E biInt) := by
  intro pins s σ H xs us Q I r ⟨ρ, M, as, rm, ra, ok⟩
  unfold biInt at ok
  split at ok
  · obtain ⟨v, _, rfl, r1, rfl⟩ := ra
    rw [ra_int] at r1
    subst r1
    exact call_int1 pins s σ H _ us Q I r (.inl ⟨_, rfl, OK.here (R := RAr c) ok rm (ra_int.mpr rfl)⟩)
  · obtain ⟨v, _, rfl, r1, rfl⟩ := ra
    rw [ra_bl] at r1
    subst r1
    exact call_int1 pins s σ H _ us Q I r (.inr ⟨_, rfl, OK.here (R := RAr c) ok rm (ra_int.mpr rfl)⟩)
  · exact ok.elim
theorem call_minW (hc : X.calm = true) : CallR X (.builtin "min") (lifC c E biMin) := by
  intro pins s σ H xs us Q I r ⟨ρ, M, as, rm, ra, ok⟩
  unfold biMin at ok
  split at ok
  · obtain ⟨v, _, rfl, r1, v2, _, rfl, r2, rfl⟩ := ra
    rw [ra_int] at r1 r2
    subst r1 r2
    exact call_min2 hc pins s σ H _ us Q I r ⟨_, _, rfl, OK.here (R := RAr c) ok rm (ra_int.mpr rfl)⟩
  · exact ok.elim
theorem call_maxW (hc : X.calm = true) : CallR X (.builtin "max") (lifC c E biMax) := by
  intro pins s σ H xs us Q I r ⟨ρ, M, as, rm, ra, ok⟩
  unfold biMax at ok
  split at ok
  · obtain ⟨v, _, rfl, r1, v2, _, rfl, r2, rfl⟩ := ra
    rw [ra_int] at r1 r2
    subst r1 r2
    exact call_max2 hc pins s σ H _ us Q I r ⟨_, _, rfl, OK.here (R := RAr c) ok rm (ra_int.mpr rfl)⟩
  · exact ok.elim
theorem allBl_rd : ∀ {ws : List Wv} {vs : List V} {bs : List Bool}, RL (RW c H) ws vs → allBl ws = some bs → vs = bs.map V.bl
  | [], vs, bs, r, e => by cases r; cases e; rfl
  | w :: ws, vs, bs, r, e => by
    obtain ⟨v, vr, rfl, h1, h2⟩ := r
    cases w <;> simp only [allBl, reduceCtorEq] at e
    rename_i b
    cases h : allBl ws with
    | none => rw [h] at e; cases e
    | some zs =>
      rw [h] at e
      cases e
      simp only [RW] at h1
      rw [h1, allBl_rd h2 h]
      rfl
theorem call_allW (g : Good c E k X) : CallR X (.builtin "all") (lifC c E biAll) := by
  intro pins s σ H xs us Q I r ⟨ρ, M, as, rm, ra, ok⟩
  unfold biAll at ok
  split at ok
  · rename_i ws
    split at ok
    · rename_i bs hb
      obtain ⟨v, _, rfl, r1, rfl⟩ := ra
      obtain ⟨p, vs, rfl, t, q⟩ := lst_rd rm (a := .val (.lst ws)) rfl r1
      have e := allBl_rd (RL_val q) hb
      subst e
      exact cr_all g.calm pins s σ H _ us Q I r ⟨p, bs, rfl, by rw [g.K]; exact t, OK.here (R := RAr c) ok rm (ra_bl.mpr rfl)⟩
    · exact ok.elim
  · exact ok.elim
theorem call_anyW (g : Good c E k X) : CallR X (.builtin "any") (lifC c E biAny) := by
  intro pins s σ H xs us Q I r ⟨ρ, M, as, rm, ra, ok⟩
  unfold biAny at ok
  split at ok
  · rename_i ws
    split at ok
    · rename_i bs hb
      obtain ⟨v, _, rfl, r1, rfl⟩ := ra
      obtain ⟨p, vs, rfl, t, q⟩ := lst_rd rm (a := .val (.lst ws)) rfl r1
      have e := allBl_rd (RL_val q) hb
      subst e
      exact cr_any g.calm pins s σ H _ us Q I r ⟨p, bs, rfl, by rw [g.K]; exact t, OK.here (R := RAr c) ok rm (ra_bl.mpr rfl)⟩
    · exact ok.elim
  · exact ok.elim
theorem itemsA_rd (rm : RM c H ρ M) {a : Av} {xs : List Av} {x : V} (ra : RA c H ρ a x) (e : itemsA M a = some xs) : ∃ p vs, x = .ref p ∧ (SqL c.K H p vs ∨ SqT c.K H p vs) ∧ RL (RA c H ρ) xs vs := by
  unfold itemsA at e
  split at e
  · rename_i ws hw
    cases e
    obtain ⟨p, vs, rfl, t, q⟩ := tup_rd (c := c) hw ra
    exact ⟨p, vs, rfl, .inr t, RL_val' q⟩
  · obtain ⟨p, vs, rfl, t, q⟩ := lst_rd rm e ra
    exact ⟨p, vs, rfl, .inl t, q⟩
theorem call_listW (g : Good c E k X) (mt : Bool) : CallR X (.type "list") (lifC c E (biList mt)) := by
  intro pins s σ H xs us Q I r ⟨ρ, M, as, rm, ra, ok⟩
  unfold biList at ok
  split at ok
  · split at ok
    · rename_i a ys hy
      obtain ⟨v, _, rfl, r1, rfl⟩ := ra
      obtain ⟨p, vs, rfl, t, q⟩ := itemsA_rd rm r1 hy
      rw [← g.K] at t
      exact ep_frz (call_list_of pins s σ H _ us (QF Q) I r ⟨p, vs, rfl, t, fun l hl => new_list rm q ok hl⟩)
    · exact ok.elim
  · exact ok.elim
theorem call_tupleW (g : Good c E k X) : CallR X (.type "tuple") (lifC c E biTuple) := by
  intro pins s σ H xs us Q I r ⟨ρ, M, as, rm, ra, ok⟩
  unfold biTuple at ok
  split at ok
  · split at ok
    · rename_i a ys hy
      obtain ⟨v, _, rfl, r1, rfl⟩ := ra
      unfold itemsA at hy
      split at hy
      · rename_i ws hw
        cases hy
        obtain ⟨p, vs, rfl, t, q⟩ := tup_rd (c := c) hw r1
        rw [← g.K] at t
        refine call_tuple_of pins s σ H _ us Q I r ⟨p, vs, rfl, .inr ⟨t, ?_⟩⟩
        unfold newT at ok
        rw [pures_map] at ok
        refine OK.here (R := RAr c) ok rm ?_
        show RW c H (.tup ws) _
        simp only [RW]
        rw [g.K] at t
        exact ⟨p, vs, rfl, t, RWs_iff.mpr q⟩
      · obtain ⟨p, vs, rfl, t, q⟩ := lst_rd rm hy r1
        rw [← g.K] at t
        exact call_tuple_of pins s σ H _ us Q I r ⟨p, vs, rfl, .inl ⟨t, fun l hl => new_tup rm q ok hl⟩⟩
    · exact ok.elim
  · exact ok.elim

/-! ### sorted, repr -/
theorem leS_total (a b : Str) : leS a b = true ∨ leS b a = true := by
  simp only [leS, decide_eq_true_eq]
  exact List.le_total _ _
theorem leS_trans {a b c : Str} (h1 : leS a b = true) (h2 : leS b c = true) : leS a c = true := by
  simp only [leS, decide_eq_true_eq] at *
  exact List.le_trans h1 h2
theorem leS_anti {a b : Str} (h1 : leS a b = true) (h2 : leS b a = true) : a = b := by
  simp only [leS, decide_eq_true_eq] at *
  have := List.le_antisymm h1 h2
  cases a; cases b
  congr 1
  exact Array.toList_inj.mp this
theorem insS_perm (x : Str) : ∀ l : List Str, (insS x l).Perm (x :: l)
  | [] => List.Perm.refl _
  | y :: r => by
    unfold insS
    split
    · exact List.Perm.refl _
    · exact ((insS_perm x r).cons y).trans (List.Perm.swap x y r)
theorem sortS_perm : ∀ l : List Str, (sortS l).Perm l
  | [] => List.Perm.refl _
  | x :: r => (insS_perm x _).trans ((sortS_perm r).cons x)
theorem insS_sorted (x : Str) : ∀ l : List Str, l.Pairwise (fun a b => leS a b = true) → (insS x l).Pairwise (fun a b => leS a b = true)
  | [], _ => List.pairwise_singleton _ _
  | y :: r, h => by
    obtain ⟨h1, h2⟩ := List.pairwise_cons.mp h
    unfold insS
    split
    · rename_i hx
      exact List.pairwise_cons.mpr ⟨fun z hz => (List.mem_cons.mp hz).elim (fun e => by rw [e]; exact hx) fun m => leS_trans hx (h1 z m), h⟩
    · rename_i hx
      refine List.pairwise_cons.mpr ⟨fun z hz => ?_, insS_sorted x r h2⟩
      rcases List.mem_cons.mp ((insS_perm x r).mem_iff.mp hz) with e | m
      · rw [e]; exact (leS_total x y).resolve_left hx
      · exact h1 z m
theorem sortS_sorted : ∀ l : List Str, (sortS l).Pairwise (fun a b => leS a b = true)
  | [] => List.Pairwise.nil
  | x :: r => insS_sorted x _ (sortS_sorted r)
theorem risingS_le : ∀ (p : Str) (l : List Str), risingS p l = true → (p :: l).Pairwise (fun a b => leS a b = true)
  | p, [], _ => List.pairwise_singleton _ _
  | p, x :: r, h => by
    simp only [risingS, Bool.and_eq_true, Bool.not_eq_true'] at h
    have ih := risingS_le x r h.2
    have hx : leS p x = true := by
      simp only [leS, decide_eq_true_eq]
      have := h.1
      rw [ltCps_eq] at this
      exact List.not_lt.mp (by simpa using this)
    refine List.pairwise_cons.mpr ⟨fun z hz => ?_, ih⟩
    rcases List.mem_cons.mp hz with e | m
    · rw [e]; exact hx
    · exact leS_trans hx (List.rel_of_pairwise_cons ih m)
theorem sortedS_le : ∀ {l : List Str}, sortedS l = true → l.Pairwise (fun a b => leS a b = true)
  | [], _ => List.Pairwise.nil
  | x :: r, h => risingS_le x r h
theorem sortS_uniq {xs ys : List Str} (p : ys.Perm xs) (s : sortedS ys = true) : ys = sortS xs :=
  List.Perm.eq_of_pairwise (fun a b _ _ h1 h2 => leS_anti h1 h2) (sortedS_le s) (sortS_sorted xs) (p.trans (sortS_perm xs).symm)
theorem insZ_perm (x : Int) : ∀ l : List Int, (insZ x l).Perm (x :: l)
  | [] => List.Perm.refl _
  | y :: r => by
    unfold insZ
    split
    · exact List.Perm.refl _
    · exact ((insZ_perm x r).cons y).trans (List.Perm.swap x y r)
theorem sortZ_perm : ∀ l : List Int, (sortZ l).Perm l
  | [] => List.Perm.refl _
  | x :: r => (insZ_perm x _).trans ((sortZ_perm r).cons x)
theorem insZ_sorted (x : Int) : ∀ l : List Int, l.Pairwise (· ≤ ·) → (insZ x l).Pairwise (· ≤ ·)
  | [], _ => List.pairwise_singleton _ _
  | y :: r, h => by
    obtain ⟨h1, h2⟩ := List.pairwise_cons.mp h
    unfold insZ
    split
    · rename_i hx
      exact List.pairwise_cons.mpr ⟨fun z hz => (List.mem_cons.mp hz).elim (fun e => by rw [e]; exact hx) fun m => Int.le_trans hx (h1 z m), h⟩
    · rename_i hx
      refine List.pairwise_cons.mpr ⟨fun z hz => ?_, insZ_sorted x r h2⟩
      rcases List.mem_cons.mp ((insZ_perm x r).mem_iff.mp hz) with e | m
      · rw [e]; omega
      · exact h1 z m
theorem sortZ_sorted : ∀ l : List Int, (sortZ l).Pairwise (· ≤ ·)
  | [] => List.Pairwise.nil
  | x :: r => insZ_sorted x _ (sortZ_sorted r)
theorem sortZ_uniq {xs ys : List Int} (p : ys.Perm xs) (s : ys.Pairwise (· ≤ ·)) : ys = sortZ xs :=
  List.Perm.eq_of_pairwise (fun a b _ _ h1 h2 => Int.le_antisymm h1 h2) s (sortZ_sorted xs) (p.trans (sortZ_perm xs).symm)
theorem allStr_rd : ∀ {ws : List Wv} {vs : List V} {bs : List Str}, RL (RW c H) ws vs → allStr ws = some bs → vs = bs.map V.str
  | [], vs, bs, h, e => by cases h; cases e; rfl
  | w :: ws, vs, bs, h, e => by
    obtain ⟨v, r, e1, h1, h2⟩ := h
    cases w <;> simp [allStr] at e
    obtain ⟨bs', e2, e3⟩ := e
    subst e3
    simp only [RW] at h1
    rw [e1, h1, allStr_rd h2 e2]
    rfl
theorem allInt_rd : ∀ {ws : List Wv} {vs : List V} {bs : List Int}, RL (RW c H) ws vs → allInt ws = some bs → vs = bs.map V.int
  | [], vs, bs, h, e => by cases h; cases e; rfl
  | w :: ws, vs, bs, h, e => by
    obtain ⟨v, r, e1, h1, h2⟩ := h
    cases w <;> simp [allInt] at e
    obtain ⟨bs', e2, e3⟩ := e
    subst e3
    simp only [RW] at h1
    rw [e1, h1, allInt_rd h2 e2]
    rfl
theorem rw_strs {H : Hp} : ∀ xs : List Str, RL (RW c H) (xs.map .str) (xs.map V.str)
  | [] => rfl
  | x :: r => RL.cons (by simp only [RW]) (rw_strs r)
theorem rw_ints {H : Hp} : ∀ xs : List Int, RL (RW c H) (xs.map .int) (xs.map V.int)
  | [] => rfl
  | x :: r => RL.cons (by simp only [RW]) (rw_ints r)
theorem call_sortedW (g : Good c E k X) : CallR X (.builtin "sorted") (lifC c E biSorted) := by
  intro pins s σ H xs us Q I rs ⟨ρ, M, as, rm, ras, ok⟩
  unfold biSorted at ok
  split at ok
  · rename_i a
    obtain ⟨x, r, e, ra, r2⟩ := ras
    cases r2
    subst e
    cases hl : (lstI M a).bind pures with
    | none => rw [hl] at ok; exact False.elim ok
    | some ws =>
      rw [hl] at ok
      obtain ⟨ys, hy, hp⟩ := Option.bind_eq_some_iff.mp hl
      obtain ⟨p, vs, e, t, q⟩ := lst_rd rm hy ra
      subst e
      rw [pures_some hp] at q
      have q := RL_val q
      dsimp only at ok
      cases hs : allStr ws with
      | some zs =>
        rw [hs] at ok
        dsimp only at ok
        split at ok
        · rename_i hz
          have ev := allStr_rd q hs
          subst ev
          refine ep_frz (cr_sortedS pins s σ H _ us _ I rs ⟨p, zs, rfl, by rw [g.K]; exact t, hz, fun ys n pm so hn => .inr ⟨n, _, rfl, upd_same, True.intro, fun o => ?_⟩⟩)
          rw [upd_upd, sortS_uniq pm so]
          exact ok.then (List.prefix_refl _) (Stb.new hn) (rm.new hn) (rw_lst hn (rw_strs _))
        · exact False.elim ok
      | none =>
        rw [hs] at ok
        dsimp only at ok
        cases hi : allInt ws with
        | none => rw [hi] at ok; exact False.elim ok
        | some zs =>
          rw [hi] at ok
          have ev := allInt_rd q hi
          subst ev
          refine ep_frz (cr_sortedI pins s σ H _ us _ I rs ⟨p, zs, rfl, by rw [g.K]; exact t, fun ys n pm so hn => .inr ⟨n, _, rfl, upd_same, True.intro, fun o => ?_⟩⟩)
          rw [upd_upd, sortZ_uniq pm so]
          exact ok.then (List.prefix_refl _) (Stb.new hn) (rm.new hn) (rw_lst hn (rw_ints _))
  · exact False.elim ok
theorem call_reprW (g : Good c E k X) : CallR X (.builtin "repr") (lifC c E biRepr) := by
  intro pins s σ H xs us Q I rs ⟨ρ, M, as, rm, ras, ok⟩
  unfold biRepr at ok
  split at ok
  · rename_i a
    obtain ⟨x, r, e, ra, r2⟩ := ras
    cases r2
    subst e
    have fin : ∀ d : PyData, toPyA M a = some d → (∃ ds, d = .tuple ds ∨ d = .list ds) → showB d = true → Q (.str d.shown) H → wpAny (model X.prog X.w) X.A (call (.builtin "repr") us) (EP X pins σ Q) X.xe s := fun d hd hk hb hq => by
      have dp := toPyA_dp rm ra hd
      obtain ⟨u, rfl, ru⟩ := rs.one
      obtain ⟨as, rd⟩ := Dp.reads (X := X) I d x u (by rw [g.K]; exact dp) ru
      simp only [showB, Bool.and_eq_true, Bool.not_eq_true', decide_eq_true_eq] at hb
      obtain ⟨⟨⟨h1, h2⟩, h3⟩, h4⟩ := hb
      obtain ⟨pa, rfl⟩ : ∃ pa, u = .ref pa := by
        obtain ⟨ds, e | e⟩ := hk
        · subst e; cases rd; exact ⟨_, rfl⟩
        · subst e; cases rd; exact ⟨_, rfl⟩
      refine repr_of_reads' rd h1 (fun z => by rw [h2] at z; cases z) g.gu (by have := g.room.un; omega) (fun _ _ e => e) (fun h' u tk hk => ?_) h4
      exact ⟨.str d.shown, H, I.kept (t' := tk) hk, ⟨_, rfl⟩, hq⟩
    split at ok
    · rename_i ds hd
      split at ok
      · rename_i hb
        exact fin _ hd ⟨ds, .inl rfl⟩ hb (ok.here rm (ra_str.mpr rfl))
      · exact False.elim ok
    · rename_i ds hd
      split at ok
      · rename_i hb
        exact fin _ hd ⟨ds, .inr rfl⟩ hb (ok.here rm (ra_str.mpr rfl))
      · exact False.elim ok
    · exact False.elim ok
  · exact False.elim ok
end
end LW

namespace LW
open PySem PySem.Spec PyProof.Rows L2

/-! ### another ghost list -/
def SC.with (c : SC) (l : List (Addr × HO)) : SC := { c with gh := l }
section
variable {c c' : SC} {H H' : Hp} {ρ : List Addr} {M : Mem} {E E' : XK}
mutual
theorem RW.sc (hK : c.K = c'.K) (hm : c.mg = c'.mg) : ∀ (w : Wv) (v : V), RW c H w v → RW c' H w v
  | .non, v, h => by simpa only [RW] using h
  | .bl b, v, h => by simpa only [RW] using h
  | .int i, v, h => by simpa only [RW] using h
  | .str x, v, h => by simpa only [RW] using h
  | .ty n, v, h => by simpa only [RW] using h
  | .cls x, v, h => by simpa only [RW, hm] using h
  | .tup xs, v, h => by
    simp only [RW] at h ⊢
    obtain ⟨a, vs, e, h1, h2⟩ := h
    exact ⟨a, vs, e, hK ▸ h1, RWs.sc hK hm xs vs h2⟩
  | .lst xs, v, h => by
    simp only [RW] at h ⊢
    obtain ⟨a, vs, e, h1, h2⟩ := h
    exact ⟨a, vs, e, hK ▸ h1, RWs.sc hK hm xs vs h2⟩
  | .kls xs, v, h => by
    simp only [RW] at h ⊢
    obtain ⟨a, vs, e, h1, h2⟩ := h
    exact ⟨a, vs, e, hK ▸ h1, RWs.sc hK hm xs vs h2⟩
  | .dct ks xs, v, h => by
    simp only [RW] at h ⊢
    obtain ⟨a, o, kvs, e, h1, h2, h3⟩ := h
    exact ⟨a, o, kvs, e, h1, h2, RWs.sc hK hm xs _ h3⟩
  | .ins x ns xs, v, h => by
    simp only [RW] at h ⊢
    obtain ⟨a, C, dx, o, fs, e, h1, h2, h3, h4⟩ := h
    exact ⟨a, C, dx, o, fs, e, hm ▸ h1, h2, h3, RWs.sc hK hm xs _ h4⟩
  | .exc x ns xs, v, h => by
    simp only [RW] at h ⊢
    obtain ⟨a, C, fs, e, h1, h2, h3, h4⟩ := h
    exact ⟨a, C, fs, e, hm ▸ h1, h2, h3, RWs.sc hK hm xs _ h4⟩
theorem RWs.sc (hK : c.K = c'.K) (hm : c.mg = c'.mg) : ∀ (ws : List Wv) (vs : List V), RWs c H ws vs → RWs c' H ws vs
  | [], vs, h => by simpa only [RWs] using h
  | w :: ws, vs, h => by
    simp only [RWs] at h ⊢
    obtain ⟨v, r, e, h1, h2⟩ := h
    exact ⟨v, r, e, RW.sc hK hm w v h1, RWs.sc hK hm ws r h2⟩
end
theorem RA.sc (hK : c.K = c'.K) (hm : c.mg = c'.mg) (a : Av) (v : V) (h : RA c H ρ a v) : RA c' H ρ a v := by
  cases a with
  | val w => exact RW.sc hK hm w v h
  | ref i => exact h
theorem RC.sc (hK : c.K = c'.K) (hm : c.mg = c'.mg) {a : Addr} {k : Cell} (h : RC c H ρ a k) : RC c' H ρ a k := by
  cases k with
  | lst xs => obtain ⟨vs, e1, h1⟩ := h; exact ⟨vs, e1, h1.imp fun a v => RA.sc hK hm a v⟩
  | dct ks xs => obtain ⟨vs, e1, e2, h1⟩ := h; exact ⟨vs, e1, e2, h1.imp fun a v => RA.sc hK hm a v⟩
  | ins x ns xs => obtain ⟨C, dx, fs, e0, e1, e2, h1⟩ := h; exact ⟨C, dx, fs, hm ▸ e0, e1, e2, h1.imp fun a v => RA.sc hK hm a v⟩
  | dead => exact True.intro
theorem RE.sc (hK : c.K = c'.K) (hm : c.mg = c'.mg) {η : Ev} {σ : L2.St} (h : RE c H ρ η σ) : RE c' H ρ η σ :=
  ⟨h.len, fun i w e => let ⟨v, e1, r⟩ := h.at_ i w e; ⟨v, e1, RA.sc hK hm w v r⟩⟩
theorem RM.sc (r : RM c H ρ M) (hK : c.K = c'.K) (hm : c.mg = c'.mg) (ht : c.tb = c'.tb) (hg : ∀ p ∈ c'.gh, H p.1 = some p.2 ∧ Mu3 (some p.2) ∧ p.1 ∉ ρ) : RM c' H ρ M :=
  ⟨r.len, r.nd, fun i a k h1 h2 => (r.at_ i a k h1 h2).sc hK hm, r.there, hg, ht ▸ r.tab, ht ▸ r.tbs⟩
/-- a write elsewhere -/
theorem RM.off {D : Addr} {o : HO} (r : RM c H ρ M) (hD : D ∉ ρ) (hM : Mu3 (H D)) (hg : ∀ p ∈ c.gh, p.1 ≠ D) (ho : ∀ ps, o ≠ .tbl ps := by intro ps z; cases z) : RM c (upd H D o) ρ M :=
  ⟨r.len, r.nd, fun i a k h1 h2 => (r.at_ i a k h1 h2).mono (Stb.write (Mu3.mut hM)) (List.prefix_refl _) fun _ => upd_ne fun z => hD (by rw [← z]; exact List.mem_of_getElem? h1),
    fun i a h => Thr.upd a (r.there i a h), fun p hp => by
    obtain ⟨h1, h2, h3⟩ := r.gh p hp
    exact ⟨by rw [upd_ne (hg p hp)]; exact h1, h2, h3⟩, tabs_upd r.tab hM, tbs_upd r.tbs ho⟩
def SC.lay (c : SC) (D : Addr) (o : HO) : SC := { c with gh := (D, o) :: c.gh }
theorem RM.cover {D : Addr} {o : HO} (r : RM c H ρ M) (hn : H D = none) (hm : Mu3 (some o)) : RM (c.lay D o) (upd H D o) ρ M := by
  have r1 := r.new (o := o) hn (fun ps z => by rw [z] at hm; exact hm)
  refine r1.sc (c' := c.lay D o) rfl rfl rfl fun p hp => ?_
  rcases List.mem_cons.mp hp with e | hp
  · rw [e]
    exact ⟨upd_same, hm, fun z => by
      obtain ⟨i, q⟩ := List.mem_iff_getElem?.mp z
      exact r.there i D q hn⟩
  · exact r1.gh p hp
theorem RM.top {D : Addr} {o : HO} (r : RM (c.lay D o) H ρ M) : H D = some o ∧ Mu3 (some o) ∧ D ∉ ρ := r.gh (D, o) (List.mem_cons_self)
theorem RM.uncover {D : Addr} {o : HO} (r : RM (c.lay D o) H ρ M) : RM c H ρ M := r.sc rfl rfl rfl fun p hp => r.gh p (List.mem_cons_of_mem _ hp)
theorem RM.relay {D : Addr} {o u : HO} (r : RM (c.lay D o) H ρ M) (hg : ∀ p ∈ c.gh, p.1 ≠ D) (hm : Mu3 (some u)) : RM (c.lay D u) (upd H D u) ρ M := by
  obtain ⟨h1, h2, h3⟩ := r.top
  have r1 := r.uncover.off (o := u) h3 (by rw [h1]; exact h2) hg (fun ps z => by rw [z] at hm; exact hm)
  refine r1.sc (c' := c.lay D u) rfl rfl rfl fun p hp => ?_
  rcases List.mem_cons.mp hp with e | hp
  · rw [e]; exact ⟨upd_same, hm, h3⟩
  · exact r1.gh p hp
/-- a thing that stands becomes a cell -/
theorem RM.adopt {D : Addr} {o : HO} {k : Cell} (r : RM (c.lay D o) H ρ M) (hg : ∀ p ∈ c.gh, p.1 ≠ D) (hk : RC c H (ρ ++ [D]) D k) : RM c H (ρ ++ [D]) (M ++ [k]) := by
  obtain ⟨h1, h2, h3⟩ := r.top
  have r1 := r.uncover
  refine ⟨by simp [r1.len], ?_, fun i a k' q1 q2 => ?_, fun i a q1 => ?_, fun p hp => ?_, r1.tab, r1.tbs⟩
  · rw [List.nodup_append]
    refine ⟨r1.nd, by simp, fun a ha b hb z => ?_⟩
    have e : b = D := by simpa using hb
    rw [z, e] at ha
    exact h3 ha
  · by_cases hi : i < ρ.length
    · rw [List.getElem?_append_left hi] at q1
      rw [List.getElem?_append_left (by rw [← r1.len]; exact hi)] at q2
      exact (r1.at_ i a k' q1 q2).mono (Stb.refl _) (List.prefix_append _ _) fun _ => rfl
    · have hi' : i = ρ.length := by
        have := (List.getElem?_eq_some_iff.mp q1).1
        simp at this
        omega
      rw [hi', List.getElem?_append_right (Nat.le_refl _)] at q1
      rw [hi', r1.len, List.getElem?_append_right (Nat.le_refl _)] at q2
      simp at q1 q2
      rw [← q1, ← q2]
      exact hk
  · by_cases hi : i < ρ.length
    · rw [List.getElem?_append_left hi] at q1
      exact r1.there i a q1
    · rw [List.getElem?_append_right (by omega)] at q1
      have : a = D := by
        cases q : i - ρ.length with
        | zero => rw [q] at q1; simpa using q1.symm
        | succ n => rw [q] at q1; simp at q1
      rw [this, h1]
      simp
  · obtain ⟨q1, q2, q3⟩ := r1.gh p hp
    refine ⟨q1, q2, fun z => ?_⟩
    rcases List.mem_append.mp z with z | z
    · exact q3 z
    · exact hg p hp (by simpa using z)

/-! ### one behind another, beside ghosts -/
theorem OK.bindc {α β α' β' : Type} {R : Hp → List Addr → α → β → Prop} {R' : Hp → List Addr → α' → β' → Prop} {Q' : β' → Hp → Prop} {x : Mw α} {f : α → Mw α'} (h : OK c R' H ρ E Q' ((noX x >>= f) M)) :
    OK c' R H ρ E' (fun b H1 => ∃ ρ1 M1 a, ρ <+: ρ1 ∧ Stb H H1 ∧ RM c' H1 ρ1 M1 ∧ R H1 ρ1 a b ∧ OK c R' H1 ρ1 E Q' (f a M1)) (x M) := by
  have e : (noX x >>= f) M = (match noX x M with | .ok a m' => f a m' | .ex e m' => .ex e m' | .no => .no) := rfl
  rw [e] at h
  cases q : x M with
  | ok a M1 =>
    have e2 : noX x M = .ok a M1 := by unfold noX; rw [q]
    rw [e2] at h
    exact fun ρ1 H1 b p s rm r => ⟨ρ1, M1, a, p, s, rm, r, h.step p s⟩
  | ex e M1 =>
    have e2 : noX x M = .no := by unfold noX; rw [q]
    rw [e2] at h
    exact h.elim
  | no =>
    have e2 : noX x M = .no := by unfold noX; rw [q]
    rw [e2] at h
    exact h.elim
end

/-! ### what is walked -/
/-- ws come one by one -/
def Yld (c : SC) (H0 : Hp) (ws : List Wv) (J : It) : Prop := ∀ (i : Nat) (H : Hp), Stb H0 H → (i < ws.length → J.go i H) ∧ (ws.length ≤ i → J.stop i H) ∧
  ∀ x H', i < ws.length → J.yld i H x H' → (H' = H ∨ ∃ p u, H p = none ∧ (∀ ps, u ≠ HO.tbl ps) ∧ H' = upd H p u) ∧ ∃ w, ws[i]? = some w ∧ RW c H' w x
theorem Yld.mono {c : SC} {H H' : Hp} {ws : List Wv} {J : It} (y : Yld c H ws J) (s : Stb H H') : Yld c H' ws J := fun i H2 s2 => y i H2 (s.trans s2)
abbrev RIr (c : SC) : Hp → List Addr → List Wv → It → Prop := fun H _ ws J => Yld c H ws J
def lifI (c : SC) (E : XK) (m : Ev → Mw (List Wv)) : TI := fun σ H R => ∃ ρ η M, RM c H ρ M ∧ RE c H ρ η σ ∧ OK c (RIr c) H ρ E R (m η M)
theorem RL.some_get {α β : Type} {R : α → β → Prop} : ∀ {ws : List α} {vs : List β} {i : Nat}, RL R ws vs → i < ws.length → ∃ w v, ws[i]? = some w ∧ vs[i]? = some v ∧ R w v := fun {ws vs i} r h => by
  obtain ⟨w, hw⟩ : ∃ w, ws[i]? = some w := ⟨ws[i], List.getElem?_eq_getElem h⟩
  obtain ⟨v, hv, hr⟩ := r.get hw
  exact ⟨w, v, hw, hv, hr⟩
section
variable {c : SC} {H : Hp} {X : Cx} {E : XK} {k : Nat} {tg e : Expr}
theorem yld_list {p : Addr} {ws : List Wv} {vs : List V} (hs : ∀ H', Stb H H' → SqL c.K H' p vs) (r : RL (RW c H) ws vs) : Yld c H ws (Itl c.K p) := fun i H' s => by
  refine ⟨fun hi => ?_, fun hi => ⟨vs, hs H' s, by rw [← r.len]; exact hi⟩, fun x H2 hi y => ?_⟩
  · obtain ⟨w, v, _, hv, _⟩ := r.some_get hi
    exact ⟨vs, v, hs H' s, hv⟩
  · obtain ⟨e, y⟩ := y
    obtain ⟨w, hw, hr⟩ := r.get' (y vs (hs H' s))
    exact ⟨.inl e, w, hw, by rw [e]; exact RW.mono s w x hr⟩
theorem yld_tup {p : Addr} {ws : List Wv} {vs : List V} (hs : SqT c.K H p vs) (r : RL (RW c H) ws vs) : Yld c H ws (Itt c.K p) := fun i H' s => by
  refine ⟨fun hi => ?_, fun hi => ⟨vs, SqT.stb s hs, by rw [← r.len]; exact hi⟩, fun x H2 hi y => ?_⟩
  · obtain ⟨w, v, _, hv, _⟩ := r.some_get hi
    exact ⟨vs, v, SqT.stb s hs, hv⟩
  · obtain ⟨e, y⟩ := y
    obtain ⟨w, hw, hr⟩ := r.get' (y vs (SqT.stb s hs))
    exact ⟨.inl e, w, hw, by rw [e]; exact RW.mono s w x hr⟩
theorem yld_range {lo : Int} {n : Nat} : Yld c H (rangeW lo n) (Itr lo n) := fun i H' s => by
  have hl : (rangeW lo n).length = n := by simp [rangeW]
  refine ⟨fun hi => by rw [hl] at hi; exact hi, fun hi => by rw [hl] at hi; exact hi, fun x H2 hi y => ?_⟩
  obtain ⟨e, y⟩ := y
  rw [hl] at hi
  refine ⟨.inl e, .int (lo + (i : Nat)), ?_, by rw [y]; simp only [RW]⟩
  unfold rangeW
  rw [List.getElem?_map, List.getElem?_range hi]
  rfl
theorem yld_str {x : Str} : Yld c H (charsW x) (Its x) := fun i H' s => by
  have hl : (charsW x).length = x.cps.size := by simp [charsW]
  refine ⟨fun hi => by rw [hl] at hi; exact hi, fun hi => by rw [hl] at hi; exact hi, fun v H2 hi y => ?_⟩
  obtain ⟨e, ch, h1, h2⟩ := y
  refine ⟨.inl e, .str ⟨#[ch]⟩, ?_, by rw [h2]; simp only [RW]⟩
  unfold charsW
  rw [List.getElem?_map, Array.getElem?_toList, h1]
  rfl

theorem yld_zipL {p q : Addr} {xs ys : List Wv} {vs us : List V} (hp : ∀ H', Stb H H' → SqL c.K H' p vs) (hq : ∀ H', Stb H H' → SqL c.K H' q us) (r : RL (RW c H) xs vs) (t : RL (RW c H) ys us) : Yld c H (pairsW xs ys) (Itz c.K p q) := fun i H' s => by
  have hl : (pairsW xs ys).length = min xs.length ys.length := by simp [pairsW]
  refine ⟨fun hi => ?_, fun hi => ⟨vs, us, hp H' s, hq H' s, ?_⟩, fun x H2 hi y => ?_⟩
  · rw [hl] at hi
    obtain ⟨_, v, _, hv, _⟩ := r.some_get (i := i) (by omega)
    obtain ⟨_, u, _, hu, _⟩ := t.some_get (i := i) (by omega)
    exact ⟨vs, us, v, u, hp H' s, hq H' s, hv, hu⟩
  · rw [← r.len, ← t.len]; rw [hl] at hi; omega
  · rw [hl] at hi
    obtain ⟨T, x1, y1, e, hT, e2, h1, h2⟩ := y
    obtain ⟨w, hw, hr⟩ := r.get' (h1 vs (hp H' s))
    obtain ⟨z, hz, ht⟩ := t.get' (h2 us (hq H' s))
    refine ⟨.inr ⟨T, _, hT, (fun ps z => by cases z), e2⟩, .tup [w, z], ?_, ?_⟩
    · unfold pairsW
      rw [List.getElem?_zipWith, hw, hz]
    · rw [e2, e]
      exact rw_tup hT (RL.cons (RW.mono s _ _ hr) (RL.cons (RW.mono s _ _ ht) RL.nil))
theorem yld_zipT {p q : Addr} {xs ys : List Wv} {vs us : List V} (hp : SqT c.K H p vs) (hq : SqT c.K H q us) (r : RL (RW c H) xs vs) (t : RL (RW c H) ys us) : Yld c H (pairsW xs ys) (RZ.ItzT c.K p q) := fun i H' s => by
  have hl : (pairsW xs ys).length = min xs.length ys.length := by simp [pairsW]
  refine ⟨fun hi => ?_, fun hi => ⟨vs, us, SqT.stb s hp, SqT.stb s hq, ?_⟩, fun x H2 hi y => ?_⟩
  · rw [hl] at hi
    obtain ⟨_, v, _, hv, _⟩ := r.some_get (i := i) (by omega)
    obtain ⟨_, u, _, hu, _⟩ := t.some_get (i := i) (by omega)
    exact ⟨vs, us, v, u, SqT.stb s hp, SqT.stb s hq, hv, hu⟩
  · rw [← r.len, ← t.len]; rw [hl] at hi; omega
  · rw [hl] at hi
    obtain ⟨T, x1, y1, e, hT, e2, h1, h2⟩ := y
    obtain ⟨w, hw, hr⟩ := r.get' (h1 vs (SqT.stb s hp))
    obtain ⟨z, hz, ht⟩ := t.get' (h2 us (SqT.stb s hq))
    refine ⟨.inr ⟨T, _, hT, (fun ps z => by cases z), e2⟩, .tup [w, z], ?_, ?_⟩
    · unfold pairsW
      rw [List.getElem?_zipWith, hw, hz]
    · rw [e2, e]
      exact rw_tup hT (RL.cons (RW.mono s _ _ hr) (RL.cons (RW.mono s _ _ ht) RL.nil))
/-- a frozen list, the module's: it stands through all -/
theorem lst_stay {p : Addr} {w : Wv} {ws : List Wv} {v : V} (e : w = .lst ws ∨ w = .kls ws) (r : RW c H w v) : ∃ p vs, v = .ref p ∧ (∀ H', Stb H H' → SqL c.K H' p vs) ∧ RL (RW c H) ws vs := by
  rcases e with e | e
  · subst e
    simp only [RW] at r
    obtain ⟨p, vs, e, f, q⟩ := r
    exact ⟨p, vs, e, fun H' s => (FzL.stb s f).sq, RWs_iff.mp q⟩
  · subst e
    simp only [RW] at r
    obtain ⟨p, vs, e, f, q⟩ := r
    exact ⟨p, vs, e, fun H' s => f H', RWs_iff.mp q⟩
theorem pi_walkW {m : Ev → Mw Av} (g : Good c E k X) (he : PE X e (lifE c E m)) : PI X tg e (lifI c E fun η => m η >>= walkM) := by
  refine ⟨fun pins s σ H R I h => ?_⟩
  obtain ⟨ρ, η, M, rm, re, ok⟩ := h
  refine thn (he.run pins s σ H _ I ⟨ρ, η, M, rm, re, OK.bind (R := RAr c) ok⟩) fun v s1 ⟨x, H1, I1, r1, ρ1, M1, a, p1, st1, rm1, ra, ok1⟩ => ?_
  unfold walkM at ok1
  obtain ⟨ws, e1, ok2⟩ := ok1.of
  have fin : ∀ {R' : It}, Yld c H1 ws R' → R R' H1 := fun y => ok2.here rm1 y
  have isL : ∀ w : Wv, a = .val w → (w = .lst ws ∨ w = .kls ws) → wpAny (model X.prog X.w) X.A (pyIter v) (PIE X pins σ tg R) X.xe s1 := fun w ea ew => by
    subst ea
    obtain ⟨p, vs, e, f, q⟩ := lst_stay (p := 0) ew ra
    have y := yld_list f q
    subst e
    cases r1
    obtain ⟨its, rv, pl, hz⟩ := I1.list (by rw [g.K]; exact f H1 (Stb.refl _))
    refine wpAny_pyIter_list pl.isList ?_
    refine ⟨s1.heap.objs.size, [s1.heap.objs.size], _, _, H1, rfl, I1.kept (t' := s1.toks) fun b o e => Heap.get?_push_of_some _ e, turn_list p _, ⟨_, Heap.get?_push_size _ rfl, rfl, rfl⟩, fun b hb => ?_, by rw [g.K]; exact fin y⟩
    have e : b = s1.heap.objs.size := by simpa using hb
    subst e
    exact I1.fpOk (Nat.le_refl _) (I1.hok.fresh (Nat.le_refl _))
  cases a with
  | ref i => simp [walkA] at e1
  | val w =>
    cases w <;> simp [walkA] at e1
    · rename_i z
      subst e1
      simp only [RA, RW] at ra
      subst ra
      obtain ⟨t, rfl⟩ := r1
      cases ha : z.cps.all (· < 128)
      · exact wpAny_pyIter_wide ha (pi_one (tk := s1.toks) I1 _ (turn_str _ z t "str_iterator" (.inr rfl)) ⟨_, Heap.get?_push_size _ rfl, rfl, rfl⟩ (fin yld_str))
      · exact wpAny_pyIter_ascii ha (pi_one (tk := s1.toks) I1 _ (turn_str _ z t "str_ascii_iterator" (.inl rfl)) ⟨_, Heap.get?_push_size _ rfl, rfl, rfl⟩ (fin yld_str))
    · subst e1
      simp only [RA, RW] at ra
      obtain ⟨p, vs, e, f, q⟩ := ra
      have y := yld_tup f (RWs_iff.mp q)
      subst e
      cases r1
      obtain ⟨its, rv, pl, hz⟩ := I1.tuple (by rw [g.K]; exact f)
      refine wpAny_pyIter_tuple (show s1.heap.IsTuple p its.toArray from pl) ?_
      refine ⟨s1.heap.objs.size, [s1.heap.objs.size], _, _, H1, rfl, I1.kept (t' := s1.toks) fun b o e => Heap.get?_push_of_some _ e, turn_tuple p _, ⟨_, Heap.get?_push_size _ rfl, rfl, rfl⟩, fun b hb => ?_, by rw [g.K]; exact fin y⟩
      have e : b = s1.heap.objs.size := by simpa using hb
      subst e
      exact I1.fpOk (Nat.le_refl _) (I1.hok.fresh (Nat.le_refl _))
    · exact isL _ rfl (.inl (by rw [e1]))
    · exact isL _ rfl (.inr (by rw [e1]))
theorem lifIL {ma : Ev → Mw (List Av)} {f : List Av → Mw (List Wv)} {σ : L2.St} {R : It → Hp → Prop} (h : lifI c E (fun η => ma η >>= fun x => f x) σ H R) : lifA c E ma σ H (fun xs H1 => ∃ ρ M as, RM c H1 ρ M ∧ RL (RA c H1 ρ) as xs ∧ OK c (RIr c) H1 ρ E R (f as M)) := by
  obtain ⟨ρ, η, M, rm, re, ok⟩ := h
  refine ⟨ρ, η, M, rm, re, (OK.bind (R := RAsr c) ok).mono ?_⟩
  rintro x H1 ⟨ρ1, M1, a, p1, s1, rm1, ra, ok1⟩
  exact ⟨ρ1, M1, a, rm1, ra, ok1⟩
theorem pi_imp {tg e : Expr} {t u : TI} (h : PI X tg e t) (i : ∀ σ H R, u σ H R → t σ H R) : PI X tg e u := ⟨fun pins s σ H R I hw => h.run pins s σ H R I (i σ H R hw)⟩
theorem pi_rangeW1 {a : Expr} {m : Ev → Mw (List Av)} {p pos : Pos} (hg : Gl X "range") (hm : X.mg "range" = none) (ha : PA X [a] (lifA c E m)) (hs : starEach [a] X.env = [(false, eval a X.env)]) : PI X tg (.Call (.Name "range" p) [a] [] pos) (lifI c E fun η => m η >>= rangeA1) := by
  refine pi_imp (pi_range1 hg hm ha hs) fun σ H R h => ?_
  obtain ⟨ρ, η, M, rm, re, ok⟩ := lifIL h
  refine ⟨ρ, η, M, rm, re, ok.mono ?_⟩
  rintro xs H1 ⟨ρ1, M1, as, rm1, ra, ok1⟩
  unfold rangeA1 at ok1
  split at ok1
  · split at ok1
    · rename_i j hj
      obtain ⟨v, r, e, r1, r2⟩ := ra
      cases r2
      rw [ra_int] at r1
      subst r1
      exact ⟨j, e, hj.1, hj.2, ok1.here rm1 yld_range⟩
    · exact ok1.elim
  · exact ok1.elim
theorem pi_rangeW2 {a b : Expr} {m : Ev → Mw (List Av)} {p pos : Pos} (hg : Gl X "range") (hm : X.mg "range" = none) (ha : PA X [a, b] (lifA c E m)) (hs : starEach [a, b] X.env = [(false, eval a X.env), (false, eval b X.env)]) (hs2 : starEach [b] X.env = [(false, eval b X.env)]) :
    PI X tg (.Call (.Name "range" p) [a, b] [] pos) (lifI c E fun η => m η >>= rangeA2) := by
  refine pi_imp (pi_range2 hg hm ha hs hs2) fun σ H R h => ?_
  obtain ⟨ρ, η, M, rm, re, ok⟩ := lifIL h
  refine ⟨ρ, η, M, rm, re, ok.mono ?_⟩
  rintro xs H1 ⟨ρ1, M1, as, rm1, ra, ok1⟩
  unfold rangeA2 at ok1
  split at ok1
  · split at ok1
    · rename_i i j hj
      obtain ⟨v, r, e, r1, v2, r', e', r2, r3⟩ := ra
      cases r3
      subst e'
      rw [ra_int] at r1 r2
      subst r1
      subst r2
      exact ⟨i, j, e, hj, ok1.here rm1 yld_range⟩
    · exact ok1.elim
  · exact ok1.elim
theorem pi_zipW (g : Good c E k X) {a b : Expr} {m : Ev → Mw (List Av)} {p pos tpos : Pos} {elts : List Expr} {kk : Nat} (hg : Gl X "zip") (hm : X.mg "zip" = none) (ha : PA X [a, b] (lifA c E m)) (hs : starEach [a, b] X.env = (false, eval a X.env) :: starEach [b] X.env) (hpl : (backTo pos (starEach [b] X.env)).any (·.1) = false) :
    PI X (.Tuple elts kk tpos) (.Call (.Name "zip" p) [a, b] [] pos) (lifI c E fun η => m η >>= zipA) := by
  refine pi_imp (RZ.pi_zipA hg hm ha hs hpl) fun σ H R h => ?_
  obtain ⟨ρ, η, M, rm, re, ok⟩ := lifIL h
  refine ⟨ρ, η, M, rm, re, ok.mono ?_⟩
  rintro xs H1 ⟨ρ1, M1, as, rm1, ra, ok1⟩
  unfold zipA at ok1
  split at ok1
  · obtain ⟨v, r, e, r1, v2, r', e', r2, r3⟩ := ra
    cases r3
    subst e'
    obtain ⟨p, vs, e1, f1, q1⟩ := lst_stay (p := 0) (.inl rfl) r1
    obtain ⟨q, us, e2, f2, q2⟩ := lst_stay (p := 0) (.inl rfl) r2
    subst e1
    subst e2
    rw [g.K]
    exact ⟨p, q, vs, us, e, .inl ⟨f1 H1 (Stb.refl _), f2 H1 (Stb.refl _), ok1.here rm1 (yld_zipL f1 f2 q1 q2)⟩⟩
  · obtain ⟨v, r, e, r1, v2, r', e', r2, r3⟩ := ra
    cases r3
    subst e'
    simp only [RA, RW] at r1 r2
    obtain ⟨p, vs, e1, f1, q1⟩ := r1
    obtain ⟨q, us, e2, f2, q2⟩ := r2
    subst e1
    subst e2
    rw [g.K]
    exact ⟨p, q, vs, us, e, .inr ⟨f1, f2, ok1.here rm1 (yld_zipT f1 f2 (RWs_iff.mp q1) (RWs_iff.mp q2))⟩⟩
  · exact ok1.elim
end
end LW

namespace LW
open PySem PySem.Spec PyProof.Rows L2

/-! ### targets -/
mutual
def gOf (K : PySem.W.Frag) : PT → TG
  | .name i => gName i
  | .tup ts => gTup K ts.length (gsOf K ts)
def gsOf (K : PySem.W.Frag) : List PT → TGs
  | [] => gNil
  | t :: ts => gCons (gOf K t) (gsOf K ts)
end
mutual
def slotsT : PT → List Nat
  | .name i => [i]
  | .tup ts => slotsTs ts
def slotsTs : List PT → List Nat
  | [] => []
  | t :: ts => slotsT t ++ slotsTs ts
end
theorem wipe_in {σ : L2.St} {i : Nat} {x : Option V} : ∀ {vs : List Nat}, i ∈ vs → wipe (σ.set i x) vs = wipe σ vs
  | [], h => by cases h
  | v :: vs, h => by
    unfold wipe
    by_cases hi : i ∈ vs
    · rw [wipe_in hi]
    · have e : i = v := by
        rcases List.mem_cons.mp h with e | e
        · exact e
        · exact absurd e hi
      subst e
      have : ∀ vs : List Nat, i ∉ vs → wipe (σ.set i x) vs = (wipe σ vs).set i x := fun vs => by
        induction vs with
        | nil => intro _; rfl
        | cons w vs ih =>
          intro hn
          have h1 : i ≠ w := fun z => hn (by rw [z]; exact List.mem_cons_self)
          unfold wipe
          rw [ih fun z => hn (List.mem_cons_of_mem _ z), List.set_comm _ _ h1]
      rw [this vs hi, List.set_set]
theorem wipe_wipe {σ : L2.St} {vs : List Nat} : ∀ {us : List Nat}, (∀ i ∈ us, i ∈ vs) → wipe (wipe σ us) vs = wipe σ vs
  | [], _ => rfl
  | u :: us, h => by
    show wipe ((wipe σ us).set u none) vs = _
    rw [wipe_in (h u List.mem_cons_self), wipe_wipe fun i hi => h i (List.mem_cons_of_mem _ hi)]
theorem Mw.assoc {α β γ : Type} {x : Mw α} {f : α → Mw β} {g : β → Mw γ} {M : Mem} : ((x >>= f) >>= g) M = (x >>= fun a => f a >>= g) M := by
  show (match (match x M with | .ok a m' => f a m' | .ex e m' => .ex e m' | .no => .no) with | .ok a m' => g a m' | .ex e m' => .ex e m' | .no => .no) = (match x M with | .ok a m' => (f a >>= g) m' | .ex e m' => .ex e m' | .no => .no)
  cases x M <;> rfl
theorem Mw.pure_bind {α β : Type} {a : α} {f : α → Mw β} {M : Mem} : ((pure a : Mw α) >>= f) M = f a M := rfl
theorem Mw.fail_bind {α β : Type} {f : α → Mw β} {M : Mem} : ((Mw.fail : Mw α) >>= f) M = .no := rfl
section
variable {c : SC} {H : Hp} {ρ : List Addr}
mutual
theorem put_ok : ∀ (t : PT) {a : Av} {v : V} {η η1 : Ev} {σ : L2.St} {Q : L2.St → Hp → Prop}, RA c H ρ a v → RE c H ρ η σ → putT t a η = some η1 →
    (∀ σ', RE c H ρ η1 σ' → (∀ vs : List Nat, (∀ i ∈ slotsT t, i ∈ vs) → wipe σ' vs = wipe σ vs) → Q σ' H) → gOf c.K t v σ H Q
  | .name i, a, v, η, η1, σ, Q, ra, re, e, q => by
    simp only [putT] at e
    cases e
    exact q _ (re.set i ra) fun vs hv => wipe_in (hv i (by simp [slotsT]))
  | .tup ts, a, v, η, η1, σ, Q, ra, re, e, q => by
    simp only [putT] at e
    split at e
    · rename_i xs
      split at e
      · rename_i hl
        simp only [RA, RW] at ra
        obtain ⟨p, us, e1, h1, h2⟩ := ra
        have h2 := RWs_iff.mp h2
        exact ⟨p, us, e1, h1, by rw [← h2.len, hl], puts_ok ts h2 re hl e q⟩
      · cases e
    · cases e
theorem puts_ok : ∀ (ts : List PT) {ws : List Wv} {vs : List V} {η η1 : Ev} {σ : L2.St} {Q : L2.St → Hp → Prop}, RL (RW c H) ws vs → RE c H ρ η σ → (ws.length = ts.length → putTs ts ws η = some η1 → 
    (∀ σ', RE c H ρ η1 σ' → (∀ vs : List Nat, (∀ i ∈ slotsTs ts, i ∈ vs) → wipe σ' vs = wipe σ vs) → Q σ' H) → gsOf c.K ts vs σ H Q)
  | [], ws, vs, η, η1, σ, Q, r, re => fun hl e q => by
    simp only [putTs] at e
    cases e
    have : ws = [] := List.eq_nil_of_length_eq_zero hl
    subst this
    cases r
    exact ⟨rfl, q σ re fun _ _ => rfl⟩
  | t :: ts, ws, vs, η, η1, σ, Q, r, re => fun hl e q => by
    simp only [putTs] at e
    cases ws with
    | nil => cases e
    | cons w ws =>
      obtain ⟨v, vr, e1, r1, r2⟩ := r
      have e : (match putT t (.val w) η with
        | some η1 => putTs ts ws η1
        | none => none) = some η1 := e
      cases h : putT t (.val w) η with
      | none => rw [h] at e; cases e
      | some η2 =>
        rw [h] at e
        refine ⟨v, vr, e1, put_ok t (a := .val w) r1 re h fun σ2 re2 w2 => ?_⟩
        refine puts_ok ts r2 re2 (by simpa using hl) e fun σ3 re3 w3 => q σ3 re3 fun vs hv => ?_
        rw [w3 vs fun i hi => hv i (by simp only [slotsTs]; exact List.mem_append_right _ hi), w2 vs fun i hi => hv i (by simp only [slotsTs]; exact List.mem_append_left _ hi)]
end
theorem RE.wipe {η : Ev} {σ : L2.St} (re : RE c H ρ η σ) : ∀ vs : List Nat, RE c H ρ (wipeE η vs) (L2.wipe σ vs)
  | [] => re
  | v :: vs => by
    unfold wipeE L2.wipe
    exact (RE.wipe re vs).unset v none
end

/-! ### comprehensions -/
theorem pe_some {X : Cx} {e : Expr} {α : Type} {t : α → TE} (h : ∀ a, PE X e (t a)) : PE X e (fun σ H Q => ∃ a, t a σ H Q) := ⟨fun pins s σ H Q I ⟨a, hw⟩ => (h a).run pins s σ H Q I hw⟩
theorem pts_some {X : Cx} {e : List Expr} {α : Type} {t : α → TT} (h : ∀ a, PTs X e (t a)) : PTs X e (fun σ H Q => ∃ a, t a σ H Q) := ⟨fun pins s σ H Q I ⟨a, hw⟩ => (h a).run pins s σ H Q I hw⟩
abbrev E0 : XK := fun _ _ _ => False
section
variable {c : SC} {E : XK} {k : Nat} {X : Cx}
theorem lc_sound {t : PT} {own : List Nat} {mt : Bool} {mi : Ev → Mw (List Wv)} {mT : Ev → Mw Bool} {mE : Ev → Mw Av} (ho : ∀ i ∈ slotsT t, i ∈ own) {σ : L2.St} {H : Hp} {Q : VK}
    (h : lifE c E (fun η => mi η >>= fun ws => overW (lcB t (wipeE η own) mT mE) ws [] >>= newL mt) σ H Q) :
    tLc (lifI c E mi) (gOf c.K t) (fun σ H Q => ∃ l, lifT (c.with l) E0 mT σ H Q) (fun σ H Q => ∃ l, lifE (c.with l) E0 mE σ H Q) own σ H (QF Q) := by
  obtain ⟨ρ, η, M, rm, re, ok⟩ := h
  refine ⟨ρ, η, M, rm, re, (OK.bind (R := RIr c) ok).mono ?_⟩
  rintro J H1 ⟨ρ1, M1, ws, p1, s1, rm1, yl, ok1⟩
  have re1 : RE c H1 ρ1 η σ := re.mono s1 p1
  intro D hD
  have hgD : ∀ p ∈ c.gh, p.1 ≠ D := fun p hp z => by
    have := (rm1.gh p hp).1
    rw [z, hD] at this
    cases this
  refine ⟨fun i m Hh => ∃ ρ' M' acc accV, ρ1 <+: ρ' ∧ Stb H1 Hh ∧ RM (c.lay D (.lst accV)) Hh ρ' M' ∧ RL (RA c Hh ρ') acc accV ∧ i + m = ws.length ∧ OK c (RAr c) Hh ρ' E Q ((overW (lcB t (wipeE η own) mT mE) (ws.drop i) acc >>= newL mt) M'), ⟨ws.length, ?_⟩, ?_⟩
  · refine ⟨ρ1, M1, [], [], List.prefix_refl _, Stb.new hD, rm1.cover hD True.intro, RL.nil, by omega, ?_⟩
    exact ok1.step (List.prefix_refl _) (Stb.new hD)
  · rintro i m Hh ⟨ρ', M', acc, accV, p2, s2, rm2, ra, hm, ok2⟩
    obtain ⟨y1, y2, y3⟩ := yl i Hh s2
    by_cases hi : i < ws.length
    · refine .inr ⟨y1 hi, fun H' => ∃ ρ' M' acc accV, ρ1 <+: ρ' ∧ Stb H1 H' ∧ RM (c.lay D (.lst accV)) H' ρ' M' ∧ RL (RA c H' ρ') acc accV ∧ OK c (RAr c) H' ρ' E Q ((overW (lcB t (wipeE η own) mT mE) (ws.drop (i + 1)) acc >>= newL mt) M'), ?_, ?_⟩
      · rintro H' ⟨ρ3, M3, acc3, accV3, a1, a2, a3, a4, a5⟩
        exact ⟨m - 1, by omega, ρ3, M3, acc3, accV3, a1, a2, a3, a4, by omega, a5⟩
      · intro x H' hy
        obtain ⟨hH, w, hw, rw_⟩ := y3 x H' hi hy
        have hst : Stb Hh H' := by
          rcases hH with e | ⟨p, u, hp, hu, e⟩
          · rw [e]; exact Stb.refl _
          · rw [e]; exact Stb.new hp
        have rm3 : RM (c.lay D (.lst accV)) H' ρ' M' := by
          rcases hH with e | ⟨p, u, hp, hu, e⟩
          · rw [e]; exact rm2
          · rw [e]; exact rm2.new hp hu
        have hd : ws.drop i = w :: ws.drop (i + 1) := by
          rw [List.drop_eq_getElem_cons hi]
          congr 1
          rw [List.getElem?_eq_getElem hi] at hw
          exact Option.some.inj hw
        have ok3 : OK c (RAr c) H' ρ' E Q ((lcB t (wipeE η own) mT mE w acc >>= fun acc => overW (lcB t (wipeE η own) mT mE) (ws.drop (i + 1)) acc >>= newL mt) M') := by
          have := ok2.step (List.prefix_refl ρ') hst
          rw [hd] at this
          have e2 : (overW (lcB t (wipeE η own) mT mE) (w :: ws.drop (i + 1)) acc >>= newL mt) M' = ((lcB t (wipeE η own) mT mE w acc >>= fun acc => overW (lcB t (wipeE η own) mT mE) (ws.drop (i + 1)) acc >>= newL mt) M') := by
            show Mw.bind (overW _ (w :: _) acc) (newL mt) M' = Mw.bind (lcB t (wipeE η own) mT mE w acc) _ M'
            unfold Mw.bind
            simp only [overW]
            cases lcB t (wipeE η own) mT mE w acc M' <;> rfl
          rw [e2] at this
          exact this
        unfold lcB at ok3
        cases hp : putT t (.val w) (wipeE η own) with
        | none => rw [hp] at ok3; exact ok3.elim
        | some η1 =>
          rw [hp] at ok3
          rw [Mw.assoc] at ok3
          refine put_ok t (a := .val w) (ρ := ρ') rw_ ((re1.mono (s2.trans hst) p2).wipe own) hp fun σ2 re2 w2 => ⟨?_, ?_⟩
          · rw [w2 own ho, wipe_wipe fun _ h => h]
          · refine ⟨(D, .lst accV) :: c.gh, ρ', η1, M', rm3, RE.sc (c := c) (c' := c.with ((D, .lst accV) :: c.gh)) rfl rfl re2, (OK.bindc (c' := c.lay D (.lst accV)) (R := fun _ _ a b => a = b) ok3).mono ?_⟩
            rintro b H3 ⟨ρ3, M3, b', p3, s3, rm4, eb, ok4⟩
            subst eb
            have ra3 := RAs.mono (hst.trans s3) p3 ra
            cases b' with
            | false =>
              rw [if_neg Bool.false_ne_true]
              rw [if_neg Bool.false_ne_true] at ok4
              exact ⟨ρ3, M3, acc, accV, p2.trans p3, (s2.trans hst).trans s3, rm4, ra3, ok4⟩
            | true =>
              rw [if_pos rfl]
              rw [if_pos rfl, Mw.assoc] at ok4
              refine ⟨(D, .lst accV) :: c.gh, ρ3, η1, M3, rm4, RE.sc (c := c) (c' := c.with ((D, .lst accV) :: c.gh)) rfl rfl (re2.mono s3 p3), (OK.bindc (c' := c.lay D (.lst accV)) (R := RAr (c.lay D (.lst accV))) ok4).mono ?_⟩
              rintro y H4 ⟨ρ4, M4, a, p4, s4, rm5, ra5, ok5⟩
              have ra4 := RAs.mono s4 p4 ra3
              split at ok5
              · rename_i hz
                refine ⟨accV, rm5.top.1, by rw [← ra4.len]; exact hz, ?_⟩
                have hm := rm5.top
                have s5 : Stb H4 (upd H4 D (.lst (accV ++ [y]))) := Stb.write (by rw [hm.1]; exact Mu3.mut hm.2.1)
                refine ⟨ρ4, M4, acc ++ [a], accV ++ [y], (p2.trans p3).trans p4, (((s2.trans hst).trans s3).trans s4).trans s5, rm5.relay hgD True.intro, ?_, ok5.step (List.prefix_refl _) s5⟩
                exact (RAs.mono s5 (List.prefix_refl _) ra4).append (RL.cons (RA.mono s5 (List.prefix_refl _) a y (RA.sc (c := c.lay D (.lst accV)) (c' := c) rfl rfl a y ra5)) RL.nil)
              · exact ok5.elim
    · refine .inl ⟨y2 (by omega), ?_⟩
      have hd : ws.drop i = [] := List.drop_eq_nil_of_le (by omega)
      rw [hd] at ok2
      have ok2 : OK c (RAr c) Hh ρ' E Q (newL mt acc M') := ok2
      have hm := rm2.top
      have mu : Mu3 (Hh D) := by rw [hm.1]; exact True.intro
      unfold newL at ok2
      cases mt with
      | true =>
        have ok2 : OK c (RAr c) Hh ρ' E Q (.ok (.ref M'.length) (M' ++ [.lst acc])) := ok2
        refine .inl (ok2.then (List.prefix_append ρ' [D]) (Stb.refl _) (rm2.adopt hgD ⟨accV, hm.1, RAs.mono (Stb.refl _) (List.prefix_append ρ' [D]) ra⟩) ⟨D, ?_, rfl⟩)
        rw [List.getElem?_append_right (by rw [rm2.len]; exact Nat.le_refl _), rm2.len]
        simp
      | false =>
        have ok2 : OK c (RAr c) Hh ρ' E Q (match pures acc with
          | some ws => .ok (.val (.lst ws)) M'
          | none => .no) := ok2
        cases q : pures acc with
        | none => rw [q] at ok2; exact ok2.elim
        | some us =>
          rw [q] at ok2
          rw [pures_some q] at ra
          refine .inr ⟨D, .lst accV, rfl, hm.1, True.intro, fun o => ?_⟩
          have s5 : Stb Hh (upd Hh D (.frz o (.lst accV))) := Stb.write (Mu3.mut mu)
          refine ok2.then (List.prefix_refl _) s5 (rm2.uncover.off hm.2.2 mu hgD) ?_
          simp only [RA, RW]
          exact ⟨D, accV, rfl, ⟨o, upd_same⟩, RWs_iff.mpr ((RL_val ra).imp fun w v => RW.mono s5 w v)⟩
theorem pe_lcW {elt tg iter : Expr} {ifs : List Expr} {scope : Scope} {own : List (Str × Nat)} {pos : Pos} {t : PT} {mt : Bool} {mi : Ev → Mw (List Wv)} {mT : Ev → Mw Bool} {mE : Ev → Mw Av} (gd : Good c E k X) (hi : PI X tg iter (lifI c E mi)) (ok : BlkOk X.N X.env.scope scope own)
    (hg : ∀ (s : Shared) (H : Hp) (C : Addr) (cl : List (Str × Addr)) (fp : List Addr), PG (X.blk s H scope (compEnvC scope cl C X.env) fp) tg (gOf c.K t))
    (ht : ∀ (s : Shared) (H : Hp) (C : Addr) (cl : List (Str × Addr)) (fp : List Addr) (l : List (Addr × HO)), PTs (X.blk s H scope (compEnvC scope cl C X.env) fp) ifs (lifT (c.with l) E0 mT))
    (he : ∀ (s : Shared) (H : Hp) (C : Addr) (cl : List (Str × Addr)) (fp : List Addr) (l : List (Addr × HO)), PE (X.blk s H scope (compEnvC scope cl C X.env) fp) elt (lifE (c.with l) E0 mE))
    (ho : ∀ i ∈ slotsT t, i ∈ own.map (·.2)) (hs : ∀ x, foldedSetIterable iter X.env x = pure x) :
    PE X (.ListComp elt [⟨tg, iter, ifs, 0⟩] scope pos) (lifE c E fun η => mi η >>= fun ws => overW (lcB t (wipeE η (own.map (·.2))) mT mE) ws [] >>= newL mt) :=
  pe_imp (pe_frz (pe_lc gd.calm gd.nd hi ok hg (fun s H C cl fp => pts_some (ht s H C cl fp)) (fun s H C cl fp => pe_some (he s H C cl fp)) hs)) fun σ H Q h => lc_sound ho h
end
end LW

namespace LW
open PySem PySem.Spec PyProof.Rows L2

/-! ### the world around -/
structure Bs where
  P : Program
  w : World
  K : PySem.W.Frag
  mg : Str → Option Value
  base : Heap
  k : Nat
  tb : List (Addr × Str)
def Bs.c0 (b : Bs) : SC := ⟨b.K, b.mg, [], b.tb⟩
/-- what a def promises: it does what m does -/
def spU (c : SC) (n : Nat) (m : List Av → Mw Av) : Sp := fun vs H Q E => vs.length = n ∧ ∃ l ρ M as, RM (c.with l) H ρ M ∧ RL (RA (c.with l) H ρ) as vs ∧ OK (c.with l) (RAr (c.with l)) H ρ E Q (m as M)
/-- a def's promise, where nothing is guarded (no repr under way) -/
structure FnG (P : Program) (w : World) (K : PySem.W.Frag) (mg : Str → Option Value) (base : Heap) (CX : CXT) (k : Nat) (f : Addr) (fd : FuncData) (ps : List Str) (sp : Sp) : Prop where
  len : ∀ vs H Q E, sp vs H Q E → vs.length = ps.length
  run : ∀ (A : Around) (outer : List Env) (s : Shared) (H : Hp) (args : Args) (us : List Value) (vs : List V) (Q : VK) (E : XK), Room k A → A.guards = some [] → Env0 P w K mg base A outer s H → BindsTo s fd args (ps.zip us) → Vals vs us → sp vs H Q E →
    codeAny (model P w) A (.call (.ref f) args) (CR CX outer P w H s Q E) s
theorem gu_deeper {A : Around} {env : Env} (h : A.guards = some []) : (A.deeper env).guards = some [] := h
theorem gu_in1 {A : Around} (h : A.guards = some []) : A.in1.guards = some [] := h
theorem gu_make {A : Around} {C : Addr} {us : List Value} {kw : List (Str × Value)} (h : A.guards = some []) : (A.under (.builtin "type.__call__" ⟨.ref C :: us, kw⟩)).guards = some [] := by
  simp [Around.under, Code.guards, Code.isGuard, pushGuards, guardIds, h]
structure FnU (b : Bs) (g : G) (f : Str) (a : Addr) : Prop where
  kp : PySem.W.keepIn b.K (.ref a) = true
  ex : ∃ fd ps, FnG b.P b.w b.K b.mg b.base (CX b.P b.w) b.k a fd ps (spU b.c0 ps.length (g.full f)) ∧
    (∀ n ds, g.dfl f n = some ds → n + ds.length = ps.length ∧ ∃ dvs us, (∀ H, RL (RW b.c0 H) ds dvs) ∧ Vals dvs us ∧ Binds b.K fd ps us) ∧
    (∀ n ks ss, g.kwo f n ks = some ss → ∃ gL gV, KBn b.K fd ps n ks gL gV ∧ ∀ as bs, as.length = n → bs.length = ks.length → ∀ l, srcA as bs ss = some l → l.length = ps.length ∧
      ∀ c H ρ vs us, c.K = b.K → c.mg = b.mg → RL (RA c H ρ) as vs → RL (RA c H ρ) bs us → RL (RA c H ρ) l (gV vs us))
/-- where one stands, in the world -/
structure Here (b : Bs) (c : SC) (E : XK) (X : Cx) : Prop where
  ok : Good c E (b.k + 2) X
  c : ∃ l, c = b.c0.with l
  P : X.prog = b.P
  w : X.w = b.w
  base : X.base = b.base
section
variable {b : Bs} {c : SC} {E : XK} {X : Cx} {g : G}
theorem Here.K (h : Here b c E X) : X.K = b.K := by rw [h.ok.K]; obtain ⟨l, e⟩ := h.c; rw [e]; rfl
theorem Here.mg (h : Here b c E X) : X.mg = b.mg := by rw [h.ok.mg]; obtain ⟨l, e⟩ := h.c; rw [e]; rfl
theorem Here.passes (h : Here b c E X) : Passes (CX X.prog X.w) X E := passes_call h.ok.tk fun _ _ _ _ z => z

/-! ### argument lists -/
def isStar : Expr → Bool
  | .Starred _ _ => true
  | _ => false
theorem star_cons {e : Expr} {es : List Expr} {env : Env} (h : isStar e = false) : starEach (e :: es) env = (false, eval e env) :: starEach es env := by
  cases e <;> first | rfl | simp [isStar] at h
theorem star_none : ∀ {es : List Expr} {env : Env} {pos : Pos}, es.all (fun e => !isStar e) = true → (backTo pos (starEach es env)).any (·.1) = false
  | [], _, _, _ => rfl
  | e :: es, env, pos, h => by
    simp only [List.all_cons, Bool.and_eq_true, Bool.not_eq_true'] at h
    rw [star_cons h.1]
    show (false || (backTo pos (starEach es env)).any (·.1)) = false
    rw [star_none h.2]
    rfl
theorem lifA_mono {m : Ev → Mw (List Av)} {σ : L2.St} {H : Hp} {Q Q' : List V → Hp → Prop} (h : lifA c E m σ H Q) (i : ∀ b H', Q b H' → Q' b H') : lifA c E m σ H Q' := by
  obtain ⟨ρ, η, M, rm, re, ok⟩ := h
  exact ⟨ρ, η, M, rm, re, ok.mono i⟩
theorem pa_nilW : PA X [] (lifA c E fun _ => pure []) := pa_imp pa_nil fun σ H Q h => by
  obtain ⟨ρ, η, M, rm, re, ok⟩ := h
  exact OK.here (R := RAsr c) ok rm RL.nil
theorem pa_consW {e : Expr} {es : List Expr} {m : Ev → Mw Av} {r : Ev → Mw (List Av)} (he : PE X e (lifE c E m)) (hr : PA X es (lifA c E r)) (hs : isStar e = false) : PA X (e :: es) (lifA c E fun η => m η >>= fun x => r η >>= fun xs => pure (x :: xs)) := pa_imp (pa_cons he hr (star_cons hs)) fun σ H Q h => by
  obtain ⟨ρ, η, M, rm, re, ok⟩ := h
  refine ⟨ρ, η, M, rm, re, (OK.bind (R := RAr c) ok).mono ?_⟩
  rintro x H1 ⟨ρ1, M1, a, p1, s1, rm1, ra, ok1⟩
  refine ⟨ρ1, η, M1, rm1, re.mono s1 p1, (OK.bind (R := RAsr c) ok1).mono ?_⟩
  rintro xs H2 ⟨ρ2, M2, as, p2, s2, rm2, ras, ok2⟩
  exact OK.here (R := RAsr c) ok2 rm2 (RL.cons (RA.mono s2 p2 a x ra) ras)
theorem RL.imp' {α β : Type} {R S : α → β → Prop} (f : ∀ a b, R a b → S a b) {ws : List α} {vs : List β} (h : RL R ws vs) : RL S ws vs := h.imp f

/-! ### calls of defs -/
/-- the arguments are there: what the def wants -/
theorem spU_of (h : Here b c E X) {n N : Nat} {f : Str} {ds : List Wv} {dvs : List V} {xs : List V} {H : Hp} {Q : VK} (hd : g.dfl f n = some ds) (hn : n + ds.length = N) (rd : ∀ H, RL (RW b.c0 H) ds dvs)
    (hc : lifC c E (g.call f n) xs H Q) : spU b.c0 N (g.full f) (xs ++ dvs) H Q E := by
  obtain ⟨ρ, M, as, rm, ra, ok⟩ := hc
  obtain ⟨l, e⟩ := h.c
  subst e
  unfold G.call at ok
  rw [hd] at ok
  dsimp only at ok
  split at ok
  · rename_i hl
    have r2 : RL (RA (b.c0.with l) H ρ) (as ++ ds.map .val) (xs ++ dvs) := ra.append (RL_val' ((rd H).imp fun w v => RW.sc (c := b.c0) (c' := b.c0.with l) rfl rfl w v))
    refine ⟨?_, l, ρ, M, _, rm, r2, ok⟩
    rw [← r2.len, List.length_append, List.length_map, hl, hn]
  · exact ok.elim
/-- a def of the module runs -/
theorem run_in1 {pins : List (Addr × Obj)} {σ : L2.St} {H : Hp} {s : Shared} {fn : Str} {f : Addr} {n : Nat} {us : List Value} {vs : List V} {Q : VK} {A : Around} (h : Here b c E X) (U : FnU b g fn f) (hr : Room b.k A) (gu : A.guards = some []) (e0 : Env0 X.prog X.w X.K X.mg X.base A X.stack s H) (I : Inv X pins σ H s) (r : Vals vs us)
    (hd : (g.dfl fn n).isSome = true) (hc : lifC c E (g.call fn n) vs H Q) : wpAny (model X.prog X.w) A (call (.ref f) us) (EP X pins σ Q) X.xe s := by
  obtain ⟨ds, hd⟩ := Option.isSome_iff_exists.mp hd
  obtain ⟨fd, ps, F, hD, _⟩ := U.ex
  obtain ⟨hn, dvs, ws, rd, rv, hb⟩ := hD n ds hd
  have hs := spU_of h hd hn rd hc
  rw [← h.P, ← h.w, ← h.base, ← h.K, ← h.mg] at F
  rw [← h.K] at hb
  have r2 := r.append rv
  have hl : (us ++ ws).length = ps.length := r2.length.symm.trans (F.len _ _ _ _ hs)
  refine wpAny_call (codeAny_mono (F.run A X.stack s H ⟨us, []⟩ _ _ Q E hr gu e0 (hb s us I.kIn hl) r2 hs) fun r s' hq => ?_)
  cases r with
  | error e => exact h.passes pins σ H s e s' I hq
  | ok fl => cases fl <;> first | exact I.after hq | exact False.elim hq
theorem pe_callW {f : Str} {a : Addr} {e : Expr} {es : List Expr} {p pos : Pos} {m : Ev → Mw (List Av)} (h : Here b c E X) (U : FnU b g f a) (hm : b.mg f = some (.ref a)) (hg : Gl X f) (hdb : (f == ("__debug__" : Str)) = false) {n : Nat} {ds : List Wv} (hd : g.dfl f n = some ds)
    (ha : PA X (e :: es) (lifA c E m)) (hs : (e :: es).all (fun e => !isStar e) = true) : PE X (.Call (.Name f p) (e :: es) [] pos) (lifE c E fun η => m η >>= g.call f n) := by
  simp only [List.all_cons, Bool.and_eq_true, Bool.not_eq_true'] at hs
  refine ⟨fun pins s σ H Q I q => wpAny_Call_Name_kw (ld_glob I hg (by rw [h.mg]; exact hm) ?_ hdb)⟩
  exact PySem.W.callWith_K (h₀ := X.base) I.ok.mod.kin (by rw [h.K]; exact U.kp) (thn (ha.run pos pins s σ H _ I (lifL q)) fun us s1 ⟨vs, H1, I1, r, q1⟩ => ⟨I1.kIn, run_in1 h U (h.ok.room.mono (by omega)) h.ok.gu I1.env0 I1 r (by rw [hd]; rfl) q1⟩) (star_cons hs.1) (star_none hs.2)
theorem pe_callW0 {f : Str} {a : Addr} {p pos : Pos} (h : Here b c E X) (U : FnU b g f a) (hm : b.mg f = some (.ref a)) (hg : Gl X f) (hdb : (f == ("__debug__" : Str)) = false) {ds : List Wv} (hd : g.dfl f 0 = some ds) :
    PE X (.Call (.Name f p) [] [] pos) (lifE c E fun η => (pure [] : Mw (List Av)) >>= g.call f 0) := by
  refine ⟨fun pins s σ H Q I q => wpAny_Call_Name_kw (ld_glob I hg (by rw [h.mg]; exact hm) ?_ hdb)⟩
  obtain ⟨ρ, η, M, rm, re, ok⟩ := q
  exact PySem.W.callWith_K0 I.kIn (by rw [h.K]; exact U.kp) (run_in1 (us := []) (vs := []) h U (h.ok.room.mono (by omega)) h.ok.gu I.env0 I .nil (by rw [hd]; rfl) ⟨ρ, M, [], rm, RL.nil, ok⟩)

/-! ### cells that are left behind -/
theorem RA.cut {H : Hp} {ρ ρ2 : List Addr} {a : Av} {v : V} (p : ρ <+: ρ2) (h : RA c H ρ2 a v) (hi : ∀ i, a = .ref i → i < ρ.length) : RA c H ρ a v := by
  cases a with
  | val w => exact h
  | ref i =>
    obtain ⟨x, e, h1⟩ := h
    have q : ρ[i]? = some (ρ[i]'(hi i rfl)) := List.getElem?_eq_getElem (hi i rfl)
    have := pre_get p q
    rw [e] at this
    exact ⟨x, q.trans this.symm, h1⟩
theorem RLA.cut {H : Hp} {ρ ρ2 : List Addr} (p : ρ <+: ρ2) : ∀ {as : List Av} {vs : List V}, RL (RA c H ρ2) as vs → (∀ i, Av.ref i ∈ as → i < ρ.length) → RL (RA c H ρ) as vs
  | [], vs, h, _ => h
  | a :: as, vs, h, hi => by
    obtain ⟨v, r, e, h1, h2⟩ := h
    exact ⟨v, r, e, RA.cut p h1 fun i e => hi i (by rw [e]; exact List.mem_cons_self), RLA.cut p h2 fun i m => hi i (List.mem_cons_of_mem _ m)⟩
/-- the cells that a cell leads to -/
def refsC : Cell → List Av
  | .lst xs => xs
  | .dct _ xs => xs
  | .ins _ _ xs => xs
  | .dead => []
theorem RC.cut {H : Hp} {ρ ρ2 : List Addr} {a : Addr} {k : Cell} (p : ρ <+: ρ2) (h : RC c H ρ2 a k) (hi : ∀ i, Av.ref i ∈ refsC k → i < ρ.length) : RC c H ρ a k := by
  cases k with
  | lst xs => obtain ⟨vs, e1, h1⟩ := h; exact ⟨vs, e1, RLA.cut p h1 hi⟩
  | dct ks xs => obtain ⟨vs, e1, e2, h1⟩ := h; exact ⟨vs, e1, e2, RLA.cut p h1 hi⟩
  | ins x ns xs => obtain ⟨C, dx, fs, e0, e1, e2, h1⟩ := h; exact ⟨C, dx, fs, e0, e1, e2, RLA.cut p h1 hi⟩
  | dead => exact True.intro
theorem RLA.refs {H : Hp} {ρ : List Addr} : ∀ {as : List Av} {vs : List V}, RL (RA c H ρ) as vs → ∀ i, Av.ref i ∈ as → i < ρ.length
  | [], _, _, i, m => by cases m
  | a :: as, vs, h, i, m => by
    obtain ⟨v, r, e, h1, h2⟩ := h
    rcases List.mem_cons.mp m with e | m
    · rw [← e] at h1
      obtain ⟨x, q, _⟩ := h1
      exact (List.getElem?_eq_some_iff.mp q).1
    · exact RLA.refs h2 i m
theorem RC.refs {H : Hp} {ρ : List Addr} {a : Addr} {k : Cell} (h : RC c H ρ a k) : ∀ i, Av.ref i ∈ refsC k → i < ρ.length := by
  cases k with
  | lst xs => obtain ⟨vs, e1, h1⟩ := h; exact RLA.refs h1
  | dct ks xs => obtain ⟨vs, e1, e2, h1⟩ := h; exact RLA.refs h1
  | ins x ns xs => obtain ⟨C, dx, fs, e0, e1, e2, h1⟩ := h; exact RLA.refs h1
  | dead => intro i m; cases m
theorem pures_refs {as : List Av} (h : (pures as).isSome = true) : ∀ i, Av.ref i ∉ as := fun i m => by
  obtain ⟨ws, e⟩ := Option.isSome_iff_exists.mp h
  rw [pures_some e] at m
  obtain ⟨w, _, e⟩ := List.mem_map.mp m
  cases e
theorem pureC_refs {k : Cell} (h : pureC k = true) : ∀ i, Av.ref i ∉ refsC k := by
  cases k <;> first | exact pures_refs h | (intro i m; cases m)
theorem chkL_at : ∀ {M M' : Mem}, chkL M M' = true → M.length ≤ M'.length ∧ ∀ (i : Nat) (k : Cell), i < M.length → M'[i]? = some k → M[i]? = some k ∨ pureC k = true
  | [], M', _ => ⟨Nat.zero_le _, fun i k hi => absurd hi (by simp)⟩
  | k :: r, [], h => by simp [chkL] at h
  | k :: r, l :: s, h => by
    simp only [chkL, Bool.and_eq_true, Bool.or_eq_true, decide_eq_true_eq] at h
    obtain ⟨h1, h2⟩ := h
    obtain ⟨h3, h4⟩ := chkL_at h2
    refine ⟨by simpa using h3, fun i u hi e => ?_⟩
    cases i with
    | zero =>
      have e : l = u := by simpa using e
      subst e
      rcases h1 with h1 | h1
      · exact .inl (by rw [h1]; rfl)
      · exact .inr h1
    | succ i => exact h4 i u (by simpa using hi) (by simpa using e)
theorem RM.cut {H H2 : Hp} {ρ ρ2 : List Addr} {M M' : Mem} (r0 : RM c H ρ M) (r : RM c H2 ρ2 M') (p : ρ <+: ρ2) (k : chkL M M' = true) : RM c H2 ρ (M'.take M.length) := by
  obtain ⟨hl, hk⟩ := chkL_at k
  have hm : ∀ a, a ∈ ρ → a ∈ ρ2 := fun a h => p.subset h
  refine ⟨by rw [List.length_take, r0.len, Nat.min_eq_left hl], r.nd.sublist p.sublist, fun i a u h1 h2 => ?_, fun i a h1 => r.there i a (pre_get p h1), fun q hq => ?_, r.tab, r.tbs⟩
  · have hi : i < M.length := by rw [← r0.len]; exact (List.getElem?_eq_some_iff.mp h1).1
    rw [List.getElem?_take, if_pos hi] at h2
    refine (r.at_ i a u (pre_get p h1) h2).cut p fun j m => ?_
    rcases hk i u hi h2 with e | e
    · exact (r0.at_ i a u h1 e).refs j m
    · exact absurd m (pureC_refs e j)
  · obtain ⟨h1, h2, h3⟩ := r.gh q hq
    exact ⟨h1, h2, fun z => h3 (hm _ z)⟩

/-! ### new instances -/
structure MkU (b : Bs) (cn : Str) (C f : Addr) : Prop where
  mkf : Mk b.K C f
  mg : b.mg cn = some (.ref C)
theorem make_core (h : Here b c E X) {cn : Str} {C x dx : Addr} {H : Hp} {ρ : List Addr} {M : Mem} {as : List Av} {vs : List V} {N : Nat} {Q : VK} (hC : b.mg cn = some (.ref C)) (rm : RM c H ρ M) (ra : ∀ H', Stb H H' → RA c H' (ρ ++ [x]) (.ref M.length) (.ref x) → RL (RA c H' (ρ ++ [x])) (.ref M.length :: as) vs) (hl : as.length + 1 = N)
    (ok : OK c (RAr c) H ρ E Q (makeA g cn as M)) (hx : H x = none) (hd : H dx = none) (hne : dx ≠ x) :
    spU b.c0 N (g.full (cn ++ ".__init__")) vs (upd (upd H dx (.own x)) x (.ins C dx [])) (fun v H2 => v = .non ∧ QF Q (.ref x) H2) E := by
  obtain ⟨l, ec⟩ := h.c
  subst ec
  have s1 : Stb H (upd H dx (.own x)) := Stb.new hd
  have hx1 : upd H dx (.own x) x = none := by rw [upd_ne (fun z => hne z.symm)]; exact hx
  have s2 : Stb (upd H dx (.own x)) (upd (upd H dx (.own x)) x (.ins C dx [])) := Stb.new hx1
  have rm2 : RM (b.c0.with l) (upd (upd H dx (.own x)) x (.ins C dx [])) (ρ ++ [x]) (M ++ [.ins cn [] []]) := (rm.new hd).push hx1 ⟨C, dx, [], hC, upd_same, rfl, RL.nil⟩
  have px : ρ <+: ρ ++ [x] := List.prefix_append _ _
  have gx : (ρ ++ [x])[M.length]? = some x := by
    rw [List.getElem?_append_right (by rw [rm.len]; exact Nat.le_refl _), rm.len]
    simp
  have ra := ra _ (s1.trans s2) ⟨x, gx, rfl⟩
  refine ⟨by rw [← ra.len, List.length_cons, hl], l, ρ ++ [x], M ++ [.ins cn [] []], .ref M.length :: as, rm2, ra, ?_⟩
  have ok : OK (b.c0.with l) (RAr (b.c0.with l)) H ρ E Q (match g.full (cn ++ ".__init__") (.ref M.length :: as) (M ++ [.ins cn [] []]) with
    | .ok (.val .non) M' => (match M'[M.length]? with
      | some (.ins c' ns xs) => if c' = cn ∧ chkL M M' = true ∧ M'.length = M.length + 1 then (match pures xs with
        | some ws => .ok (.val (.ins cn ns ws)) (M'.take M.length)
        | none => .no) else .no
      | _ => .no)
    | .ok _ _ => .no
    | .ex e M' => if chkL M M' = true then .ex e (M'.take M.length) else .no
    | .no => .no) := ok
  cases q : g.full (cn ++ ".__init__") (.ref M.length :: as) (M ++ [.ins cn [] []]) with
  | no => rw [q] at ok; exact ok
  | ex e M' =>
    rw [q] at ok
    dsimp only at ok
    split at ok
    · rename_i hk
      exact fun ρ2 H2 cls d p2 st rm3 xo => ok ρ H2 cls d (List.prefix_refl _) ((s1.trans s2).trans st) (rm.cut rm3 (px.trans p2) hk) xo
    · exact ok.elim
  | ok a M' =>
    rw [q] at ok
    intro ρ2 H2 v p2 st rm3 rv
    split at ok
    · rename_i M'' e1
      cases e1
      rw [RAr, ra_non] at rv
      refine ⟨rv, ?_⟩
      split at ok
      · rename_i c' ns xs e2
        split at ok
        · rename_i hk
          obtain ⟨h1, h2, h3⟩ := hk
          subst h1
          split at ok
          · rename_i ws e3
            obtain ⟨C', dx', fs, g1, g2, g3, g4⟩ := rm3.at_ M.length x _ (pre_get p2 gx) e2
            rw [pures_some e3] at g4
            have g4 := RL_val g4
            have mu : Mu3 (H2 x) := by rw [g2]; exact True.intro
            have m2 : Mut (H2 x) := Mu3.mut mu
            refine .inr ⟨x, _, rfl, g2, by rw [← g2]; exact m2, fun o => ?_⟩
            have s3 : Stb H2 (upd H2 x (.frz o (.ins C' dx' fs))) := Stb.write m2
            have xm : x ∈ ρ2 := List.mem_of_getElem? (pre_get p2 gx)
            refine ok.then (List.prefix_refl _) (((s1.trans s2).trans st).trans s3) ((rm.cut rm3 (px.trans p2) h2).off (fun z => ?_) mu fun q hq z => (rm3.gh q hq).2.2 (by rw [z]; exact xm)) ?_
            · have := rm2.nd
              rw [List.nodup_append] at this
              exact this.2.2 x z x (by simp) rfl
            · simp only [RA, RW]
              exact ⟨x, C', dx', o, fs, rfl, g1, upd_same, g3, RWs_iff.mpr (g4.imp fun w v => RW.mono s3 w v)⟩
          · exact ok.elim
        · exact ok.elim
      · exact ok.elim
    · exact ok.elim
    · rename_i hh; cases hh
    · rename_i hh; cases hh
/-- a new instance, its __init__ runs -/
theorem run_new {pins : List (Addr × Obj)} {σ : L2.St} {H : Hp} {s : Shared} {Q : VK} {C f : Addr} {fd : FuncData} {ps ks : List Str} {sp : Sp} {us ws : List Value} {us' : List Value} {vs' : List V} (h : Here b c E X) (K : Mk X.K C f) (F : FnG X.prog X.w X.K X.mg X.base (CX X.prog X.w) b.k f fd ps sp) (I : Inv X pins σ H s)
    (hb : ∀ s' : Shared, X.K.In s'.heap → BindsTo s' fd ⟨Value.ref (s.heap.objs.size + 1) :: us, ks.zip ws⟩ (ps.zip us')) (r : Vals vs' us')
    (hs : sp vs' (upd (upd H s.heap.objs.size (.own (s.heap.objs.size + 1))) (s.heap.objs.size + 1) (.ins C s.heap.objs.size [])) (fun v H2 => v = .non ∧ Q (.ref (s.heap.objs.size + 1)) H2) E) :
    wpAny (model X.prog X.w) X.A (call (.ref C) us (ks.zip ws)) (EP X pins σ Q) X.xe s := by
  have I2 := Inv.made (C := C) I
  have rr := ((h.ok.room.mono (show b.k + 1 ≤ b.k + 2 by omega)).make C us (ks.zip ws))
  refine wpAny_call (make_map (f := f) I.kIn K.makes K.init (beq_iff_eq.mp K.fn) (codeAny_mono (F.run _ X.stack _ _ ⟨Value.ref (s.heap.objs.size + 1) :: us, ks.zip ws⟩ us' vs' _ E rr (gu_make h.ok.gu) (I2.env0.make C us (ks.zip ws)) (hb _ I2.kIn) r hs) fun r s' hq => ?_))
  cases r with
  | error e => exact h.passes pins σ _ _ e s' I2 hq
  | ok fl =>
    cases fl <;> first
      | exact False.elim hq
      | skip
    obtain ⟨v, H', I3, rv, ev, q3⟩ := I2.after hq
    subst ev
    exact ⟨rv, ⟨.ref (s.heap.objs.size + 1), H', I3, rfl, q3⟩⟩
theorem pe_makeW {cn : Str} {C f : Addr} {e : Expr} {es : List Expr} {p pos : Pos} {m : Ev → Mw (List Av)} (h : Here b c E X) (K : MkU b cn C f) (U : FnU b g (cn ++ ".__init__") f) (hx : g.exf cn = none) (hg : Gl X cn) (hdb : (cn == ("__debug__" : Str)) = false) {n : Nat} {ds : List Wv} (hd : g.dfl (cn ++ ".__init__") (n + 1) = some ds)
    (ha : PA X (e :: es) (lifA c E m)) (hs : (e :: es).all (fun e => !isStar e) = true) : PE X (.Call (.Name cn p) (e :: es) [] pos) (lifE c E fun η => m η >>= newA g cn n) := by
  obtain ⟨fd, ps, F, hD, _⟩ := U.ex
  obtain ⟨hn, dvs, ws, rd, rv, hb⟩ := hD (n + 1) ds hd
  rw [← h.P, ← h.w, ← h.base, ← h.K, ← h.mg] at F
  rw [← h.K] at hb
  simp only [List.all_cons, Bool.and_eq_true, Bool.not_eq_true'] at hs
  have mk : Mk X.K C f := by rw [h.K]; exact K.mkf
  refine ⟨fun pins s σ H Q I q => wpAny_Call_Name_kw (ld_glob I hg (by rw [h.mg]; exact K.mg) ?_ hdb)⟩
  refine PySem.W.callWith_K (h₀ := X.base) I.ok.mod.kin mk.kp (thn (ha.run pos pins s σ H _ I (lifL q)) fun us s1 ⟨xs, H1, I1, r, ρ, M, as, rm, ra, ok⟩ => ⟨I1.kIn, ep_frz ?_⟩) (star_cons hs.1) (star_none hs.2)
  unfold newA at ok
  rw [hx, hd] at ok
  dsimp only at ok
  split at ok
  · rename_i hl
    have sp := make_core (g := g) (vs := .ref (s1.heap.objs.size + 1) :: (xs ++ dvs)) (N := ps.length) (x := s1.heap.objs.size + 1) (dx := s1.heap.objs.size) h K.mg rm (fun H' st g0 => RL.cons g0 (RAs.mono st (List.prefix_append _ _) (ra.append (RL_val' ((rd H1).imp fun w v => RW.sc (c := b.c0) (c' := c) (by obtain ⟨l, e⟩ := h.c; rw [e]; rfl) (by obtain ⟨l, e⟩ := h.c; rw [e]; rfl) w v))))) (by
      rw [List.length_append, List.length_map, ← hn, hl]
      omega) ok (I1.hok.fresh (Nat.le_succ _)) (I1.hok.fresh (Nat.le_refl _)) (Nat.ne_of_lt (Nat.lt_succ_self _))
    have r2 : Vals (V.ref (s1.heap.objs.size + 1) :: (xs ++ dvs)) (Value.ref (s1.heap.objs.size + 1) :: us ++ ws) := .cons rfl (r.append rv)
    exact run_new (ks := []) (ws := []) h mk F I1 (fun s' k => hb s' (Value.ref (s1.heap.objs.size + 1) :: us) k (r2.length.symm.trans (F.len _ _ _ _ sp))) r2 sp
  · exact ok.elim

/-! ### keywords -/
theorem kw_names : ∀ (kws : List Keyword) (env : Env) (pos : Pos), (backToKw pos (keywordEach kws env)).map (·.1) = kws.map (·.arg)
  | [], _, _ => rfl
  | ⟨n, v, q⟩ :: kws, env, pos => by
    show n :: (backToKw pos (keywordEach kws env)).map (·.1) = n :: kws.map (·.arg)
    rw [kw_names kws env pos]
theorem kw_facts {kws : List Keyword} {ks : List Str} (h : kws.map (·.arg) = ks.map some) (env : Env) (pos : Pos) : (backToKw pos (keywordEach kws env)).all (·.1.isSome) = true ∧ (backToKw pos (keywordEach kws env)).filterMap (·.1) = ks ∧ (backToKw pos (keywordEach kws env)).any (·.1.isNone) = false := by
  have e := (kw_names kws env pos).trans h
  generalize backToKw pos (keywordEach kws env) = l at e
  induction l generalizing ks kws with
  | nil =>
    cases ks with
    | nil => exact ⟨rfl, rfl, rfl⟩
    | cons k ks => cases e
  | cons x l ih =>
    cases ks with
    | nil => cases e
    | cons k ks =>
      simp only [List.map_cons, List.cons.injEq] at e
      obtain ⟨h1, h2, h3⟩ := ih (kws := kws.tail) (ks := ks) (by cases kws <;> simp_all) e.2
      refine ⟨?_, ?_, ?_⟩
      · rw [List.all_cons, h1, e.1]; rfl
      · rw [List.filterMap_cons, e.1, h2]
      · rw [List.any_cons, h3, e.1]; rfl
theorem pk_nilW : PK X [] (lifA c E fun _ => pure []) := ⟨fun pos pins s σ H Q I h => by
  obtain ⟨ρ, η, M, rm, re, ok⟩ := h
  exact pk_nil.run pos pins s σ H Q I (OK.here (R := RAsr c) ok rm RL.nil)⟩
theorem pk_consW {e : Expr} {kws : List Keyword} {nm : Option Str} {kpos : Pos} {m : Ev → Mw Av} {r : Ev → Mw (List Av)} (he : PE X e (lifE c E m)) (hr : PK X kws (lifA c E r)) : PK X (⟨nm, e, kpos⟩ :: kws) (lifA c E fun η => m η >>= fun x => r η >>= fun xs => pure (x :: xs)) := ⟨fun pos pins s σ H Q I h => by
  refine (pk_cons he hr).run pos pins s σ H Q I ?_
  obtain ⟨ρ, η, M, rm, re, ok⟩ := h
  refine ⟨ρ, η, M, rm, re, (OK.bind (R := RAr c) ok).mono ?_⟩
  rintro x H1 ⟨ρ1, M1, a, p1, s1, rm1, ra, ok1⟩
  refine ⟨ρ1, η, M1, rm1, re.mono s1 p1, (OK.bind (R := RAsr c) ok1).mono ?_⟩
  rintro xs H2 ⟨ρ2, M2, as, p2, s2, rm2, ras, ok2⟩
  exact OK.here (R := RAsr c) ok2 rm2 (RL.cons (RA.mono s2 p2 a x ra) ras)⟩
/-- the first parameter is the instance -/
def selfFirst : List Src → Bool
  | .pos 0 :: r => r.all fun s => match s with
    | .pos 0 => false
    | _ => true
  | _ => false
theorem srcA_step {as bs : List Av} {s : Src} {r : List Src} {l : List Av} (h : srcA as bs (s :: r) = some l) : ∃ a l', srcOne as bs s = some a ∧ srcA as bs r = some l' ∧ l = a :: l' := by
  unfold srcA at h
  split at h
  · rename_i a l' e1 e2
    cases h
    exact ⟨a, l', e1, e2, rfl⟩
  · cases h
theorem srcA_mk {as bs : List Av} {s : Src} {r : List Src} {a : Av} {l' : List Av} (h : srcOne as bs s = some a) (h2 : srcA as bs r = some l') : srcA as bs (s :: r) = some (a :: l') := by
  unfold srcA
  rw [h, h2]
theorem srcA_self {a a' : Av} {as bs : List Av} : ∀ {ss : List Src} {l : List Av}, (ss.all fun s => match s with | .pos 0 => false | _ => true) = true → srcA (a :: as) bs ss = some l → srcA (a' :: as) bs ss = some l
  | [], l, _, h => h
  | s :: r, l, hs, h => by
    simp only [List.all_cons, Bool.and_eq_true] at hs
    obtain ⟨x, l', e1, e2, e3⟩ := srcA_step h
    rw [e3]
    refine srcA_mk ?_ (srcA_self hs.2 e2)
    cases s with
    | pos i =>
      cases i with
      | zero => simp at hs
      | succ i => exact e1
    | kw i => exact e1
    | dfl w => exact e1
theorem srcA_first {a a' : Av} {as bs : List Av} {ss : List Src} {x : Av} {l : List Av} (hf : selfFirst ss = true) (h : srcA (a :: as) bs ss = some (x :: l)) : srcA (a' :: as) bs ss = some (a' :: l) := by
  unfold selfFirst at hf
  split at hf
  · rename_i r
    obtain ⟨y, l', e1, e2, e3⟩ := srcA_step h
    cases e3
    exact srcA_mk rfl (srcA_self hf e2)
  · cases hf
theorem pe_makeKW {cn : Str} {C f : Addr} {es : List Expr} {kws : List Keyword} {ks : List Str} {p pos : Pos} {m r : Ev → Mw (List Av)} (h : Here b c E X) (K : MkU b cn C f) (U : FnU b g (cn ++ ".__init__") f) (hx : g.exf cn = none) (hg : Gl X cn) (hdb : (cn == ("__debug__" : Str)) = false) {n : Nat} {ss : List Src} (hd : g.kwo (cn ++ ".__init__") (n + 1) ks = some ss)
    (hf : selfFirst ss = true) (hes : es.length = n) (h0 : es = [] → m = fun _ => pure []) (ha : PA X es (lifA c E m)) (hs : es.all (fun e => !isStar e) = true) (hk : PK X kws (lifA c E r)) (hn : kws.map (·.arg) = ks.map some) : PE X (.Call (.Name cn p) es kws pos) (lifE c E fun η => m η >>= fun as => r η >>= fun bs => newkA g cn n ks as bs) := by
  obtain ⟨fd, ps, F, _, hD⟩ := U.ex
  obtain ⟨gL, gV, hb, hR⟩ := hD (n + 1) ks ss hd
  rw [← h.P, ← h.w, ← h.base, ← h.K, ← h.mg] at F
  rw [← h.K] at hb
  have mk : Mk X.K C f := by rw [h.K]; exact K.mkf
  have key : ∀ {pins : List (Addr × Obj)} {σ : L2.St} {H2 : Hp} {Q : VK} {s : Shared} {us ws : List Value} {vs zs : List V} {ρ : List Addr} {M : Mem} {as bs : List Av}, Inv X pins σ H2 s → Vals vs us → Vals zs ws → RM c H2 ρ M → RL (RA c H2 ρ) as vs → RL (RA c H2 ρ) bs zs → OK c (RAr c) H2 ρ E Q (newkA g cn n ks as bs M) →
      wpAny (model X.prog X.w) X.A (call (.ref C) us (ks.zip ws)) (EP X pins σ Q) X.xe s := by
    intro pins σ H2 Q s us ws vs zs ρ M as bs I r rz rm ras rbs ok
    unfold newkA at ok
    rw [hx, hd] at ok
    dsimp only at ok
    split at ok
    · rename_i hl
      cases q : srcA (.val .non :: as) bs ss with
      | none => rw [q] at ok; exact ok.elim
      | some l0 =>
        rw [q] at ok
        cases l0 with
        | nil => exact ok.elim
        | cons a0 l =>
          have q2 := srcA_first (a' := .ref M.length) hf q
          obtain ⟨z1, z2⟩ := hR (.ref M.length :: as) bs (by rw [List.length_cons, hl.1]) hl.2 _ q2
          have sp := make_core (g := g) (vs := gV (.ref (s.heap.objs.size + 1) :: vs) zs) (N := ps.length) (x := s.heap.objs.size + 1) (dx := s.heap.objs.size) h K.mg rm (fun H' st g0 => z2 c H' _ _ _ (by obtain ⟨l, e⟩ := h.c; rw [e]; rfl) (by obtain ⟨l, e⟩ := h.c; rw [e]; rfl) (RL.cons g0 (RAs.mono st (List.prefix_append _ _) ras)) (RAs.mono st (List.prefix_append _ _) rbs)) (by rw [← z1, List.length_cons]) ok
            (I.hok.fresh (Nat.le_succ _)) (I.hok.fresh (Nat.le_refl _)) (Nat.ne_of_lt (Nat.lt_succ_self _))
          have r1 : Vals (V.ref (s.heap.objs.size + 1) :: vs) (Value.ref (s.heap.objs.size + 1) :: us) := .cons rfl r
          exact ep_frz (run_new h mk F I (fun s' k => hb.to s' (Value.ref (s.heap.objs.size + 1) :: us) ws k (by rw [List.length_cons, ← r.length, ← ras.len, hl.1]) (by rw [← rz.length, ← rbs.len, hl.2])) (hb.rel r1 rz) sp)
    · exact ok.elim
  obtain ⟨k1, k2, k3⟩ := kw_facts hn X.env pos
  cases es with
  | nil =>
    subst hes
    refine ⟨fun pins s σ H Q I q => wpAny_Call_Name_kw (ld_glob I hg (by rw [h.mg]; exact K.mg) ?_ hdb)⟩
    obtain ⟨ρ, η, M, rm, re, ok⟩ := q
    rw [h0 rfl] at ok
    have ok : OK c (RAr c) H ρ E Q ((r η >>= fun bs => newkA g cn [].length ks [] bs) M) := ok
    refine PySem.W.callWith_KW0 (h₀ := X.base) I.ok.mod.kin mk.kp k1 (thn (hk.run pos pins s σ H _ I ⟨ρ, η, M, rm, re, OK.bind (R := RAsr c) ok⟩) fun ws s2 ⟨zs, H2, I2, rz, ρ2, M2, bs, p2, s2', rm2, rbs, ok2⟩ => ⟨I2.kIn, ?_⟩) (by rw [k3]; rfl)
    rw [k2]
    exact key I2 .nil rz rm2 RL.nil rbs ok2
  | cons e es =>
    simp only [List.all_cons, Bool.and_eq_true, Bool.not_eq_true'] at hs
    refine ⟨fun pins s σ H Q I q => wpAny_Call_Name_kw (ld_glob I hg (by rw [h.mg]; exact K.mg) ?_ hdb)⟩
    obtain ⟨ρ, η, M, rm, re, ok⟩ := q
    refine PySem.W.callWith_KW (h₀ := X.base) I.ok.mod.kin mk.kp k1 (thn (ha.run pos pins s σ H _ I ⟨ρ, η, M, rm, re, OK.bind (R := RAsr c) ok⟩) fun us s1 ⟨vs, H1, I1, rr, ρ1, M1, as, p1, s1', rm1, ras, ok1⟩ => ?_) (by rw [k3, Bool.or_false]; exact star_none (by simp [hs])) (star_cons hs.1)
    refine thn (hk.run pos pins s1 σ H1 _ I1 ⟨ρ1, η, M1, rm1, re.mono s1' p1, OK.bind (R := RAsr c) ok1⟩) fun ws s2 ⟨zs, H2, I2, rz, ρ2, M2, bs, p2, s2', rm2, rbs, ok2⟩ => ⟨I2.kIn, ?_⟩
    rw [k2]
    exact key I2 rr rz rm2 (RAs.mono s2' p2 ras) rbs ok2
end
end LW

namespace LW
open PySem PySem.Spec PyProof.Rows L2
section
variable {b : Bs} {c : SC} {E : XK} {X : Cx} {g : G} {k : Nat}
/-! ### append, pop -/
def lifM (c : SC) (E : XK) (f : Av → List Av → Mw Av) : V → List V → Hp → VK → Prop := fun x xs H Q => ∃ ρ M a as, RM c H ρ M ∧ RA c H ρ a x ∧ RL (RA c H ρ) as xs ∧ OK c (RAr c) H ρ E Q (f a as M)
theorem cell_lst {H : Hp} {ρ : List Addr} {M : Mem} {i : Nat} {xs : List Av} {x : V} (rm : RM c H ρ M) (ra : RA c H ρ (.ref i) x) (e : M[i]? = some (.lst xs)) : ∃ p vs, ρ[i]? = some p ∧ x = .ref p ∧ H p = some (.lst vs) ∧ RL (RA c H ρ) xs vs := by
  obtain ⟨p, e1, e2⟩ := ra
  obtain ⟨vs, h1, h2⟩ := rm.at_ i p _ e1 e
  exact ⟨p, vs, e1, e2, h1, h2⟩
theorem mt_appendW : MtR X "list.append" (lifM c E (methA "append")) := by
  intro pins s σ H x xs v us Q I rx rv ⟨ρ, M, a, as, rm, ra, ras, ok⟩
  unfold methA at ok
  rw [if_pos rfl] at ok
  split at ok
  · rename_i i y
    split at ok
    · rename_i ys hy
      split at ok
      · rename_i hz
        obtain ⟨p, vs, e1, e2, h1, h2⟩ := cell_lst rm ra hy
        obtain ⟨v1, r, e3, r1, r2⟩ := ras
        cases r2
        rw [h2.len] at hz
        refine mt_append pins s σ H x xs v us Q I rx rv ⟨p, vs, v1, e2, e3, h1, hz, ?_⟩
        have st : Stb H (upd H p (.lst (vs ++ [v1]))) := Stb.write (by rw [h1]; exact True.intro)
        refine ok.then (List.prefix_refl _) st (rm.put e1 (by rw [h1]; exact True.intro) ⟨vs ++ [v1], upd_same, RAs.mono st (List.prefix_refl _) (h2.append (RL.cons r1 RL.nil))⟩) (ra_non.mpr rfl)
      · exact ok.elim
    · exact ok.elim
  · exact ok.elim
theorem mt_popW : MtR X "list.pop" (lifM c E (methA "pop")) := by
  intro pins s σ H x xs v us Q I rx rv ⟨ρ, M, a, as, rm, ra, ras, ok⟩
  unfold methA at ok
  rw [if_neg (by decide), if_pos rfl] at ok
  split at ok
  · rename_i i
    split at ok
    · rename_i ys hy
      split at ok
      · rename_i y hl
        obtain ⟨p, vs, e1, e2, h1, h2⟩ := cell_lst rm ra hy
        cases ras
        obtain ⟨u, hu, ru⟩ := h2.get hl
        rw [h2.len] at hu
        refine mt_pop pins s σ H x [] v us Q I rx rv ⟨p, vs, u, e2, rfl, h1, hu, ?_⟩
        have st : Stb H (upd H p (.lst vs.dropLast)) := Stb.write (by rw [h1]; exact True.intro)
        have hd : RL (RA c H ρ) ys.dropLast vs.dropLast := by
          rw [List.dropLast_eq_take, List.dropLast_eq_take, h2.len]
          exact h2.take _
        refine ok.then (List.prefix_refl _) st (rm.put e1 (by rw [h1]; exact True.intro) ⟨_, upd_same, RAs.mono st (List.prefix_refl _) hd⟩) (RA.mono st (List.prefix_refl _) _ _ ru)
      · exact ok.elim
    · exact ok.elim
  · rename_i i j
    split at ok
    · rename_i ys hy
      split at ok
      · rename_i n hn
        split at ok
        · rename_i hj
          split at ok
          · rename_i y hl
            obtain ⟨p, vs, e1, e2, h1, h2⟩ := cell_lst rm ra hy
            obtain ⟨v1, r, e3, r1, r2⟩ := ras
            cases r2
            rw [ra_int] at r1
            subst r1
            obtain ⟨u, hu, ru⟩ := h2.get hl
            rw [h2.len] at hn
            refine mt_popAt pins s σ H x xs v us Q I rx rv ⟨p, vs, j, n, u, e2, e3, h1, hj.1, hj.2, (ixN_seq hn).1, hu, ?_⟩
            have st : Stb H (upd H p (.lst (vs.eraseIdx n))) := Stb.write (by rw [h1]; exact True.intro)
            refine ok.then (List.prefix_refl _) st (rm.put e1 (by rw [h1]; exact True.intro) ⟨_, upd_same, RAs.mono st (List.prefix_refl _) (h2.erase n)⟩) (RA.mono st (List.prefix_refl _) _ _ ru)
          · exact ok.elim
        · exact ok.elim
      · exact ok.elim
    · exact ok.elim
  · exact ok.elim
/-- o.m(e, ..): o a list that may be changed -/
theorem lifMM {mo : Ev → Mw Av} {ml : Ev → Mw (List Av)} {f : Av → List Av → Mw Av} {σ : L2.St} {H : Hp} {Q : VK} (hK : X.K = c.K) (h : lifE c E (fun η => mo η >>= fun x => chkM x >>= fun _ => ml η >>= fun as => f x as) σ H Q) : tBM X.K "list" (lifM c E f) (lifE c E mo) (lifA c E ml) σ H Q := by
  obtain ⟨ρ, η, M, rm, re, ok⟩ := h
  refine ⟨ρ, η, M, rm, re, (OK.bind (R := RAr c) ok).mono ?_⟩
  rintro x H1 ⟨ρ1, M1, a, p1, s1, rm1, ra, ok1⟩
  cases a with
  | val w => exact False.elim ok1
  | ref i =>
    cases q : M1[i]? with
    | none => simp only [bind, Mw.bind, chkM, q] at ok1; exact False.elim ok1
    | some k =>
      cases k with
      | lst ys =>
        simp only [bind, Mw.bind, chkM, q] at ok1
        have ok1 : OK c (RAr c) H1 ρ1 E Q ((ml η >>= fun as => f (.ref i) as) M1) := ok1
        obtain ⟨p, vs, e1, e2, h1, h2⟩ := cell_lst rm1 ra q
        subst e2
        refine ⟨?_, ρ1, η, M1, rm1, re.mono s1 p1, (OK.bind (R := RAsr c) ok1).mono ?_⟩
        · exact .inl ⟨rfl, vs, SqL.of h1⟩
        · rintro xs H2 ⟨ρ2, M2, as, p2, s2, rm2, ras, ok2⟩
          exact ⟨ρ2, M2, .ref i, as, rm2, RA.mono s2 p2 _ _ ra, ras, ok2⟩
      | dct _ _ => simp only [bind, Mw.bind, chkM, q] at ok1; exact False.elim ok1
      | ins _ _ _ => simp only [bind, Mw.bind, chkM, q] at ok1; exact False.elim ok1
      | dead => simp only [bind, Mw.bind, chkM, q] at ok1; exact False.elim ok1
end
end LW

namespace LW
section own
open PySem PySem.Spec PySem.W PySem.Calls PyProof.Rows
section
variable {prog : Program} {w : World} {A : Around} {E : Value → Shared → Prop} {s : Shared} {K : Frag} {x C L f : Addr} {h₀ : Heap} {m : Str → Option Value} {ox : Obj} {od : Option Obj} {b tb : Value}
theorem bound_blt {M : Model} {name : Str} {id : String} {args : List Value} {Q : Option Value → Shared → Prop} (X : K.In s.heap) (I : InstAt s.heap x ox C od) (hs : findIn K (.ref C) name = some (some (.builtin id)))
    (hb : ∀ self, bindSpecial (.builtin id) self = pure (.builtin id, [self])) (h : wpAny M A (call (.builtin id) (.ref x :: args)) (fun v => Q (some v)) E s) : wpAny M A (callSpecialIfBound? (.ref x) name args) Q E s := by
  simp only [callSpecialIfBound?, bindSpecialIfBound?]
  refine wpAny_holding (wpAny_bind (wpAny_bind (wpAny_bind (I.type.here ((looks_findIn X hs).here ?_)))))
  refine wpAny_bind (wpAny_askSetting (wpAny_ite ?_))
  have fin : wpAny M A (call (.builtin id) ([.ref x] ++ args) >>= fun v => pure (some v)) Q E s := wpAny_bind (wpAny_mono h (fun v s' h' => wpAny_pure h') fun _ _ h' => h')
  split
  · exact wpAny_bind ((Looks.of_pure (hb _)).here (wpAny_pure (by exact fin)))
  · exact wpAny_tryCatch (wpAny_bind ((Looks.of_pure (hb _)).here (wpAny_pure (by exact fin))))
open Builtin in
theorem one_ne {Q : Value → Shared → Prop} (hu : A.in1.units < cLine) (X : K.In s.heap) (I : InstAt s.heap x ox C od) (hm : mroIn K C (.type "object") = some true) (hr : findIn K (.ref C) "__eq__" = some (some (.ref f))) (hf : isFn K (.ref f) = true)
    (h : wpAny (model prog w) A.in1 (call (.ref f) [.ref x, b]) (fun v s' => ∃ r, v = .bool r ∧ Q (.bool (!r)) s') E s) : wpAny (model prog w) A (call (.builtin "object.__ne__") [.ref x, b]) Q E s := by
  refine wpAny_call (codeAny_call_builtin (by decide +kernel) F.cmpEntry_ne (check_slot (i := "object.__ne__") (owner := "object") (n := "__ne__") F.cmpKind_ne F.cmpSplit_ne (I.type.andThen (looks_mroIn X hm)) (F.cmpArgs_ne _ _) ?_))
  unfold Builtin.«object.__ne__»
  repeat (first
    | with_reducible refine wpAny_cRoomFor hu ?_
    | (refine wpAny_bind (m := callSpecialIfBound? (.ref x) (Str.ofString "__eq__") [b])
        (ifBound_K X I hr hf (wpAny_mono h (fun r s' hq => by
          obtain ⟨b', rfl, hq⟩ := hq
          repeat (first | exact hq | exact wpAny_pure hq | exact wpAny_truthy_bool hq | (refine wpAny_bind (m := truthy (.bool _)) (wpAny_truthy_bool ?_)) | wp_step)) fun _ _ e => e)))
    | wp_step)

/-- x != b by an own __eq__ -/
theorem ne_own {Q : Value → Shared → Prop} (hu : A.units < cLine) (hu1 : A.in1.units < cLine) (X : K.In s.heap) (I : InstAt s.heap x ox C od) (hb : Looks (model prog w) s.heap (typeOf b) tb) (hn : notFirst K C tb = true)
    (ho : findIn K (.ref C) "__ne__" = some (some (.builtin "object.__ne__"))) (hm : mroIn K C (.type "object") = some true) (hr : findIn K (.ref C) "__eq__" = some (some (.ref f))) (hf : isFn K (.ref f) = true)
    (h : wpAny (model prog w) A.in1 (call (.ref f) [.ref x, b]) (fun v s' => ∃ r, v = .bool r ∧ Q (.bool (!r)) s') E s) : wpAny (model prog w) A (richCompare .NotEq (.ref x) b) Q E s := by
  have one : wpAny (model prog w) A (tryCompare (.ref x) (cmpInfo .NotEq).2.1 b) (fun r s' => ∃ v, r = some v ∧ Q v s') E s := by
    unfold tryCompare
    refine wpAny_bind (bound_blt X I ho (by intro self; rfl) (one_ne hu1 X I hm hr hf (wpAny_mono h (fun v s' hv => ?_) fun _ _ e => e)))
    obtain ⟨r, e, q⟩ := hv
    exact ⟨r, e, wpAny_pure ⟨_, rfl, q⟩⟩
  unfold richCompare
  simp only [oneThing_ref]
  refine wpAny_holding (wpAny_bind (wpAny_cRoomFor hu (wpAny_bind (I.type.here (wpAny_bind (hb.here ?_))))))
  split
  · rename_i q
    have e : subIn K tb (.ref C) = some false := (Bool.or_eq_true_iff.mp hn).elim (fun e => by rw [beq_iff_eq.mp e] at q; simp at q) beq_iff_eq.mp
    refine wpAny_bind ((looks_subIn X e).here ?_)
    simp only [Bool.false_eq_true, if_false]
    exact wpAny_bind (wpAny_mono one (fun r s' ⟨v, e, z⟩ => by subst e; exact wpAny_pure z) fun _ _ e => e)
  · refine wpAny_bind (wpAny_pure ?_)
    simp only [Bool.false_eq_true, if_false]
    exact wpAny_bind (wpAny_mono one (fun r s' ⟨v, e, z⟩ => by subst e; exact wpAny_pure z) fun _ _ e => e)
end
end own

section
open PySem PySem.Spec PyProof.Rows L2
variable {b : Bs} {c : SC} {E : XK} {X : Cx} {g : G}
structure OwnOk (b : Bs) (g : G) : Prop where
  eq : ∀ cn, g.mth cn "__eq__" = true → ∃ C f, b.mg cn = some (.ref C) ∧ FnU b g (cn ++ ".__eq__") f ∧ PySem.W.findIn b.K (.ref C) "__eq__" = some (some (.ref f)) ∧ PySem.W.isFn b.K (.ref f) = true ∧
    ∀ kn t, g.nf cn kn = true → KnV b.c0 kn t → PySem.W.notFirst b.K C t = true
  ne : ∀ cn, g.mth cn "!=" = true → ∃ C, b.mg cn = some (.ref C) ∧ PySem.W.findIn b.K (.ref C) "__ne__" = some (some (.builtin "object.__ne__")) ∧ PySem.W.mroIn b.K C (.type "object") = some true
  len : ∀ cn, g.mth cn "__len__" = true → ∃ C f, b.mg cn = some (.ref C) ∧ FnU b g (cn ++ ".__len__") f ∧ PySem.W.findIn b.K (.ref C) "__len__" = some (some (.ref f)) ∧ PySem.W.isFn b.K (.ref f) = true
theorem Here.cK (h : Here b c E X) : c.K = b.K := by obtain ⟨l, e⟩ := h.c; rw [e]; rfl
theorem Here.cmg (h : Here b c E X) : c.mg = b.mg := by obtain ⟨l, e⟩ := h.c; rw [e]; rfl
theorem call_some {fn : Str} {n : Nat} {as : List Av} {M : Mem} {o : Out Av} (e : g.call fn n as M = o) (h : o ≠ .no) : (g.dfl fn n).isSome = true := by
  unfold G.call at e
  cases q : g.dfl fn n with
  | none => rw [q] at e; exact absurd e.symm h
  | some ds => rfl
abbrev blM (x : Mw Bool) : Mw Av := x >>= fun k => pure (.val (.bl k))
theorem blM_at {x : Mw Bool} {M : Mem} : blM x M = (match x M with
    | .ok k M' => .ok (.val (.bl k)) M'
    | .ex e M' => .ex e M'
    | .no => .no) := by
  show Mw.bind x (fun k => (pure (.val (.bl k)) : Mw Av)) M = _
  unfold Mw.bind
  cases x M <;> rfl
theorem bl_conv {f : Mem → Option Bool} {M : Mem} : blM (fun M => Mw.of (f M) M) M = Mw.of (blA (f M)) M := by
  refine blM_at.trans ?_
  unfold blA
  cases f M <;> rfl
theorem ownR_inv {o : CmpOp} {cn : Str} {R : Out Av} : ownR g o cn R = .no ∨ ∃ r M', R = .ok (.val (.bl r)) M' ∧ ((o = .Eq ∧ ownR g o cn R = .ok r M') ∨ (o = .NotEq ∧ g.mth cn "!=" = true ∧ ownR g o cn R = .ok (!r) M')) := by
  unfold ownR
  split
  · rename_i r M'
    by_cases h1 : o = .Eq
    · exact .inr ⟨r, M', rfl, .inl ⟨h1, by rw [if_pos h1]⟩⟩
    · by_cases h2 : o = .NotEq ∧ g.mth cn "!=" = true
      · exact .inr ⟨r, M', rfl, .inr ⟨h2.1, h2.2, by rw [if_neg h1, if_pos h2]⟩⟩
      · exact .inl (by rw [if_neg h1, if_neg h2])
  · exact .inl rfl
theorem ownC_inv {o : CmpOp} {cn : Str} {a y : Av} {M : Mem} : ownC g o cn a y M = .no ∨ ∃ kn r M', knA g M y = some kn ∧ g.mth cn "__eq__" = true ∧ g.nf cn kn = true ∧ g.call (cn ++ ".__eq__") 2 [a, y] M = .ok (.val (.bl r)) M' ∧
    ((o = .Eq ∧ ownC g o cn a y M = .ok r M') ∨ (o = .NotEq ∧ g.mth cn "!=" = true ∧ ownC g o cn a y M = .ok (!r) M')) := by
  unfold ownC
  cases hk : knA g M y with
  | none => exact .inl rfl
  | some kn =>
    by_cases hh : g.mth cn "__eq__" = true ∧ g.nf cn kn = true
    · simp only [if_pos hh]
      rcases ownR_inv (g := g) (o := o) (cn := cn) (R := g.call (cn ++ ".__eq__") 2 [a, y] M) with e | ⟨r, M', e, fin⟩
      · exact .inl e
      · exact .inr ⟨kn, r, M', rfl, hh.1, hh.2, e, fin⟩
    · exact .inl (by simp only [if_neg hh])
theorem opR_cmp (h : Here b c E X) (OO : OwnOk b g) (KO : KitOk c g) (o : CmpOp) : OpR X (compareOp o) (lifO c E fun x y => blM (cmpA g o x y)) := by
  intro pins s σ H x y v u Q I rx ry ⟨ρ, M, a, y', rm, ra, rb, ok⟩
  have data : cmpA g o a y' = (fun M => Mw.of (dataC M a y' o) M) → wpAny (model X.prog X.w) X.A (compareOp o v u) (EP X pins σ Q) X.xe s := fun e => by
    have ok : OK c (RAr c) H ρ E Q (blM (cmpA g o a y') M) := ok
    rw [e] at ok
    have ok : OK c (RAr c) H ρ E Q (Mw.of (blA (dataC M a y' o)) M) := (bl_conv (f := fun M => dataC M a y' o) (M := M)) ▸ ok
    cases o with
    | Eq => exact opR_eqK h.ok pins s σ H x y v u Q I rx ry ⟨ρ, M, a, y', rm, ra, rb, ok⟩
    | NotEq => exact opR_neK h.ok pins s σ H x y v u Q I rx ry ⟨ρ, M, a, y', rm, ra, rb, ok⟩
    | In => exact opR_in h.ok pins s σ H x y v u Q I rx ry ⟨ρ, M, a, y', rm, ra, rb, ok⟩
    | NotIn => exact opR_nin h.ok pins s σ H x y v u Q I rx ry ⟨ρ, M, a, y', rm, ra, rb, ok⟩
    | Is => exact opR_is h.ok pins s σ H x y v u Q I rx ry ⟨ρ, M, a, y', rm, ra, rb, ok⟩
    | IsNot => exact opR_nis h.ok pins s σ H x y v u Q I rx ry ⟨ρ, M, a, y', rm, ra, rb, ok⟩
    | Lt => exact opR_lt h.ok (.inl rfl) pins s σ H x y v u Q I rx ry ⟨ρ, M, a, y', rm, ra, rb, ok⟩
    | LtE => exact opR_lt h.ok (.inr (.inl rfl)) pins s σ H x y v u Q I rx ry ⟨ρ, M, a, y', rm, ra, rb, ok⟩
    | Gt => exact opR_lt h.ok (.inr (.inr (.inl rfl))) pins s σ H x y v u Q I rx ry ⟨ρ, M, a, y', rm, ra, rb, ok⟩
    | GtE => exact opR_lt h.ok (.inr (.inr (.inr rfl))) pins s σ H x y v u Q I rx ry ⟨ρ, M, a, y', rm, ra, rb, ok⟩
  cases a with
  | ref i => exact data rfl
  | val wa =>
    cases wa <;> first
      | exact data rfl
      | skip
    rename_i cn ns xs
    have ok : OK c (RAr c) H ρ E Q (match ownC g o cn (.val (.ins cn ns xs)) y' M with
      | .ok k M' => .ok (.val (.bl k)) M'
      | .ex e M' => .ex e M'
      | .no => .no) := blM_at (x := ownC g o cn (.val (.ins cn ns xs)) y') (M := M) ▸ ok
    rcases ownC_inv (g := g) (o := o) (cn := cn) (a := .val (.ins cn ns xs)) (y := y') (M := M) with e | ⟨kn, r, M', hk, h1, h2, hg, fin⟩
    · rw [e] at ok; exact False.elim ok
    have ra0 : RW c H (.ins cn ns xs) x := ra
    simp only [RW] at ra0
    obtain ⟨p, C, dx, ob, fs, ex, hC, hp, hnn, hrr⟩ := ra0
    subst ex
    cases rx
    obtain ⟨mA, O, _, _⟩ := ins_rd I hp
    obtain ⟨od, J, _⟩ := O.look
    obtain ⟨C', f, hC', U, he, hf, hnf⟩ := OO.eq cn h1
    rw [h.cmg, hC'] at hC
    cases hC
    obtain ⟨t, P, kt, KX, hP, _⟩ := kn_rd h.ok KO I rm rb ry hk
    have nf := hnf kn t h2 (by cases kn <;> first | exact kt | (obtain ⟨C2, q1, q2⟩ := kt; exact ⟨C2, by rw [h.cmg] at q1; exact q1, q2⟩))
    rw [← h.K] at he hf nf
    have hty := KX.ty (model X.prog X.w) s.heap I.kIn hP
    obtain ⟨mm, hF⟩ := I.fr
    have hd := call_some hg (by simp)
    have run : ∀ (A : Around), Room b.k A → A.guards = some [] → Env0 X.prog X.w X.K X.mg X.base A X.stack s H → wpAny (model X.prog X.w) A (call (.ref f) [.ref p, u]) (fun v s' => ∃ H', v = .bool r ∧ Inv X pins σ H' s' ∧ ∃ ρ', ρ <+: ρ' ∧ Stb H H' ∧ RM c H' ρ' M') X.xe s := fun A hr gu e0 =>
      thn (run_in1 (vs := [.ref p, y]) h U hr gu e0 I (.cons rfl (.cons ry .nil)) hd ⟨ρ, M, [.val (.ins cn ns xs), y'], rm, RL.cons ra (RL.cons rb RL.nil), by
        rw [hg]
        exact fun ρ' H' b p st rm' r' => (⟨ρ', p, st, rm', r'⟩ : ∃ ρ', ρ <+: ρ' ∧ Stb H H' ∧ RM c H' ρ' M' ∧ RA c H' ρ' (.val (.bl r)) b)⟩) fun v' s' hv => by
        obtain ⟨v1, H1, I1, r1, ρ1, p1, st1, rm1, ra1⟩ := hv
        rw [ra_bl] at ra1
        subst ra1
        cases r1
        exact ⟨H1, rfl, I1, ρ1, p1, st1, rm1⟩
    have hr0 : Room b.k X.A := h.ok.room.mono (by omega)
    have hr1 : Room b.k X.A.in1 := (h.ok.room.mono (show b.k + 1 ≤ b.k + 2 by omega)).in1
    unfold compareOp
    rcases fin with ⟨eo, e⟩ | ⟨eo, hne, e⟩
    · subst eo
      rw [e] at ok
      refine PySem.W.cmp_K (op := .Eq) (tb := t) hr0.units0 hF I.ok.mod.kin J hty nf he hf (thn (run _ hr0 h.ok.gu I.env0) fun v' s' hv => ?_)
      obtain ⟨H1, ev, I1, ρ1, p1, st1, rm1⟩ := hv
      subst ev
      exact ⟨.bl r, H1, I1, rfl, ok.then p1 st1 rm1 (ra_bl.mpr rfl)⟩
    · subst eo
      rw [e] at ok
      obtain ⟨C2, hC2, hn1, hn2⟩ := OO.ne cn hne
      rw [hC'] at hC2
      cases hC2
      rw [← h.K] at hn1 hn2
      refine ne_own hr0.units0 hr1.units0 I.kIn J hty nf hn1 hn2 he hf (thn (run _ hr1 (gu_in1 h.ok.gu) I.env0.in1) fun v' s' hv => ?_)
      obtain ⟨H1, ev, I1, ρ1, p1, st1, rm1⟩ := hv
      subst ev
      exact ⟨r, rfl, .bl (!r), H1, I1, rfl, ok.then p1 st1 rm1 (ra_bl.mpr rfl)⟩
end
end LW
namespace LW
open PySem PySem.Spec PyProof.Rows L2
section
variable {b : Bs} {c : SC} {E : XK} {X : Cx} {g : G}
theorem lenA_inv (a : Av) (M : Mem) : (∃ z, a = .val (.str z)) ∨ (∃ ws, a = .val (.tup ws)) ∨ (∃ cn ns ws, a = .val (.ins cn ns ws)) ∨ lenA M g a = lenL a := by
  cases a with
  | ref i => exact .inr (.inr (.inr rfl))
  | val w => cases w <;> first | exact .inr (.inr (.inr rfl)) | exact .inl ⟨_, rfl⟩ | exact .inr (.inl ⟨_, rfl⟩) | exact .inr (.inr (.inl ⟨_, _, _, rfl⟩))
theorem call_lenW (h : Here b c E X) (OO : OwnOk b g) : CallR X (.builtin "len") (lifC c E (biLen g)) := by
  intro pins s σ H xs us Q I rs ⟨ρ, M, as, rm, ras, ok⟩
  unfold biLen at ok
  split at ok
  · rename_i a
    obtain ⟨x, r, e, ra, r2⟩ := ras
    cases r2
    subst e
    rcases lenA_inv (g := g) a M with ⟨z, e⟩ | ⟨ws, e⟩ | ⟨cn, ns, ws, e⟩ | e
    · subst e
      have ok : OK c (RAr c) H ρ E Q (if z.length ≤ sizeLine then .ok (.val (.int z.length)) M else .no) := ok
      split at ok
      · rename_i hz
        rw [ra_str] at ra
        exact call_len_str pins s σ H _ us Q I rs ⟨z, by rw [ra], hz, ok.here rm (ra_int.mpr rfl)⟩
      · exact False.elim ok
    · subst e
      have ok : OK c (RAr c) H ρ E Q (.ok (.val (.int ws.length)) M) := ok
      obtain ⟨p, vs, e, t, q⟩ := tup_rd (c := c) (a := .val (.tup ws)) rfl ra
      subst e
      refine call_len_seq pins s σ H _ us Q I rs ⟨p, vs, rfl, .inr (by rw [h.ok.K]; exact t), ok.here rm (ra_int.mpr (by rw [q.len]))⟩
    · subst e
      have ok : OK c (RAr c) H ρ E Q (if g.mth cn "__len__" = true then (match g.call (cn ++ ".__len__") 1 [.val (.ins cn ns ws)] M with
        | .ok (.val (.int n)) M' => if 0 ≤ n ∧ n < 2 ^ 63 then .ok (.val (.int n)) M' else .no
        | _ => .no) else .no) := ok
      split at ok
      · rename_i hl
        split at ok
        · rename_i n M' hg
          split at ok
          · rename_i hn
            have ra0 : RW c H (.ins cn ns ws) x := ra
            simp only [RW] at ra0
            obtain ⟨p, C, dx, ob, fs, ex, hC, hp, hnn, hrr⟩ := ra0
            subst ex
            obtain ⟨u, rfl, ru⟩ := rs.one
            cases ru
            obtain ⟨mA, O, _, _⟩ := ins_rd I hp
            obtain ⟨od, J, _⟩ := O.look
            obtain ⟨C', f, hC', U, he, hf⟩ := OO.len cn hl
            rw [h.cmg, hC'] at hC
            cases hC
            rw [← h.K] at he hf
            obtain ⟨mm, hF⟩ := I.fr
            have hd := call_some hg (by simp)
            have hr1 : Room b.k X.A.in1 := (h.ok.room.mono (show b.k + 1 ≤ b.k + 2 by omega)).in1
            refine PySem.W.len_K hF I.ok.mod.kin J he hf (thn (run_in1 (vs := [.ref p]) h U hr1 (gu_in1 h.ok.gu) I.env0.in1 I (.cons rfl .nil) hd ⟨ρ, M, [.val (.ins cn ns ws)], rm, RL.cons ra RL.nil, by
              rw [hg]
              exact fun ρ' H' b p st rm' r' => (⟨ρ', p, st, rm', r'⟩ : ∃ ρ', ρ <+: ρ' ∧ Stb H H' ∧ RM c H' ρ' M' ∧ RA c H' ρ' (.val (.int n)) b)⟩) fun v' s' hv => ?_)
            obtain ⟨v1, H1, I1, r1, ρ1, p1, st1, rm1, ra1⟩ := hv
            rw [ra_int] at ra1
            subst ra1
            obtain ⟨t, rfl⟩ := r1
            exact ⟨hn, .int n, H1, I1.tok _, ⟨_, rfl⟩, ok.then p1 st1 rm1 (ra_int.mpr rfl)⟩
          · exact False.elim ok
        · exact False.elim ok
      · exact False.elim ok
    · rw [e] at ok
      unfold lenL at ok
      cases hy : lstI M a with
      | none => rw [hy] at ok; exact False.elim ok
      | some ys =>
        rw [hy] at ok
        obtain ⟨p, vs, e, t, q⟩ := lst_rd rm hy ra
        subst e
        exact call_len_seq pins s σ H _ us Q I rs ⟨p, vs, rfl, .inl (by rw [h.ok.K]; exact t), ok.here rm (ra_int.mpr (by rw [q.len]))⟩
  · exact False.elim ok
end
end LW

namespace LW
open PySem PySem.Spec PyProof.Rows L2

/-! ### what is looked at in the tree -/
structure Ds where
  /-- names of builtins that the module leaves alone -/
  bl : List Str
  fns : List Str
  cls : List Str
  /-- the def that is handed lambdas -/
  hd : Option Str := none
structure Dc where
  N : List Str
  sc : Scope
  fn : Str → Bool
  /-- lambdas may be made here -/
  lam : Bool := false
def Dc.blk (D : Dc) (scope : Scope) : Dc := { D with sc := relS scope D.sc, fn := fun x => scope.names.lookup x == some .cell, lam := false }
structure At (D : Dc) (X : Cx) : Prop where
  N : X.N = D.N
  sc : X.env.scope = D.sc
  fn : X.fn = D.fn
/-- what making a lambda asks -/
structure LamOk (b : Bs) (X : Cx) : Prop where
  room : Room (b.k + 4) X.A
  tab : ∃ cA P, X.env.code = .ref cA ∧ LamX.TabB X.base X.mg cA P ∧ (P, X.env.qual ++ "<lambda>") ∈ b.tb ∧ ∀ p ∈ b.tb, p.1 = P → p.2 = X.env.qual ++ "<lambda>"
/-- hn(lambda: e): what e gives, told -/
def HrdU (b : Bs) (g : G) (hn : Str) : Prop := ∀ (c : SC) (E : XK) (X : Cx) (bd : Expr) (sc : Scope) (m : Ev → Mw Av) (p lp pos : Pos), Here b c E X → LamOk b X → LamX.LamS X.env.scope sc → Gl X hn → (hn == ("__debug__" : Str)) = false →
  (∀ E1 A outer s H f cO, Here b c E1 (LamX.lamCx X A outer s H E1 sc f cO) → PE (LamX.lamCx X A outer s H E1 sc f cO) bd (lifE c E1 m)) →
  PE X (.Call (.Name hn p) [.Lambda ⟨[], [], none, [], [], none, []⟩ bd sc lp] [] pos) (lifE c E fun η => heardM g (m η))
theorem lam_at {D : Dc} {X : Cx} {E : XK} (A0 : At D X) {A : Around} {outer : List Env} {s : Shared} {H : Hp} {scope : Scope} {f cO : Addr} : At ⟨D.N, scope, fun _ => false, false⟩ (LamX.lamCx X A outer s H E scope f cO) := ⟨A0.N, rfl, rfl⟩
def visB (sc : Scope) (x : Str) : Bool := decide (sc.names.lookup x = some .local) || decide (sc.names.lookup x = some .cell) || decide (sc.names.lookup x = some .free)
def dunB (x : Str) : Bool := !(x == ("__debug__" : Str)) && !(x == ("__classdict__" : Str)) && decide (x ≠ "__name__")
def nameB (D : Dc) (i : Nat) (x : Str) : Bool := decide (D.N[i]? = some x) && visB D.sc x && dunB x
def locB (D : Dc) (i : Nat) (x : Str) : Bool := decide (D.N[i]? = some x) && (decide (D.sc.names.lookup x = some .local) || (decide (D.sc.names.lookup x = some .cell) && D.fn x)) && dunB x
def gloB (D : Dc) (x : Str) : Bool := decide (D.sc.names.lookup x = some .globalImplicit) && dunB x
def bltB (s : Ds) (D : Dc) (x : Str) : Bool := gloB D x && decide (x ∈ s.bl)
def conB : Wc → Const → Bool
  | .non, .none => true
  | .bl a, .bool b => a == b
  | .int a, .int b => decide (a = b)
  | .str a, .str b => decide (a = b)
  | _, _ => false
def typB (x : Str) (n : String) : Bool := match bootBuiltins x with
  | some (.type m) => m == n
  | _ => false
def plainT : Expr → Bool
  | .UnaryOp .Not _ _ => false
  | .BoolOp _ _ _ => false
  | .IfExp _ _ _ _ => false
  | .Compare _ _ _ _ => false
  | _ => true
def plainA : Expr → Bool
  | .Call (.Name id _) [] [] _ => decide (id ≠ "super")
  | _ => true
def plainP : PX → Bool
  | .notv _ => false
  | .and _ => false
  | .or _ => false
  | .cmp _ _ _ => false
  | .chain _ _ _ _ _ => false
  | .ife _ _ _ => false
  | .star _ => false
  | _ => true
def plainI : Expr → Bool
  | .Slice _ _ _ _ => false
  | _ => true
mutual
def corG : PT → Dc → Expr → Bool
  | .name i, D, .Name x _ => locB D i x
  | .tup ts, D, .Tuple es _ _ => corGs ts D es
  | _, _, _ => false
def corGs : List PT → Dc → List Expr → Bool
  | [], _, [] => true
  | t :: ts, D, e :: es => !isStar e && corG t D e && corGs ts D es
  | _, _, _ => false
end
section
variable {b : Bs} {c : SC} {E : XK} {X : Cx} {g : G} {D : Dc} {s : Ds}
theorem pe_nameW {i : Nat} {x : Str} {pos : Pos} (A : At D X) (h : nameB D i x = true) : PE X (.Name x pos) (lifE c E fun η => varM η i) := by
  simp only [nameB, visB, dunB, Bool.and_eq_true, Bool.or_eq_true, decide_eq_true_eq, Bool.not_eq_true'] at h
  obtain ⟨⟨h1, h2⟩, ⟨h3, h4⟩, h5⟩ := h
  have hv : Vis X.env.scope x := by
    rw [A.sc]
    rcases h2 with (h2 | h2) | h2
    · exact .inl h2
    · exact .inr (.inl h2)
    · exact .inr (.inr h2)
  refine pe_imp (pe_var (i := i) (by rw [A.N]; exact h1) hv h3 h4) fun σ H Q q => ?_
  obtain ⟨ρ, η, M, rm, re, ok⟩ := q
  have ok : OK c (RAr c) H ρ E Q (match η[i]? with
    | some (some a) => .ok a M
    | _ => .no) := ok
  cases e : η[i]? with
  | none => rw [e] at ok; exact False.elim ok
  | some o =>
    cases o with
    | none => rw [e] at ok; exact False.elim ok
    | some a =>
      rw [e] at ok
      obtain ⟨v, e1, r⟩ := re.at_ i a e
      exact ⟨v, e1, ok.here rm r⟩
theorem gl_of {x : Str} (A : At D X) (h : gloB D x = true) : Gl X x ∧ (x == ("__debug__" : Str)) = false ∧ x ≠ "__name__" := by
  simp only [gloB, dunB, Bool.and_eq_true, decide_eq_true_eq, Bool.not_eq_true'] at h
  exact ⟨by unfold Gl Env.kindOf; rw [A.sc]; exact h.1, h.2.1.1, h.2.2⟩
theorem pe_pureW {e : Expr} {v : V} {w : Wv} (h : PE X e (tC v)) (r : ∀ H, RW c H w v) : PE X e (lifE c E fun _ => pure (.val w)) := pe_imp h fun σ H Q q => by
  obtain ⟨ρ, η, M, rm, re, ok⟩ := q
  exact OK.here (R := RAr c) ok rm (r H)
theorem pe_conW {k : Wc} {v : Const} {j : Nat} {pos : Pos} (h : conB k v = true) : PE X (.Constant v j pos) (lifE c E fun _ => pure (.val k.wv)) := by
  cases k <;> cases v <;> simp [conB] at h
  · exact pe_pureW pe_non fun H => by simp only [Wc.wv, RW]
  · subst h; exact pe_pureW pe_bl fun H => by simp only [Wc.wv, RW]
  · subst h; exact pe_pureW pe_int fun H => by simp only [Wc.wv, RW]
  · subst h; exact pe_pureW pe_str fun H => by simp only [Wc.wv, RW]
theorem pe_typW {x : Str} {n : String} {pos : Pos} (A : At D X) (hm : X.mg x = none) (h : gloB D x = true) (ht : typB x n = true) : PE X (.Name x pos) (lifE c E fun _ => pure (.val (.ty n))) := by
  obtain ⟨h1, h2, h3⟩ := gl_of A h
  unfold typB at ht
  split at ht
  · rename_i m hb
    have : m = n := by simpa using ht
    subst this
    exact pe_pureW (v := .ty m) (pe_bltn h1 hm hb rfl h3 h2) fun H => by simp only [RW]
  · cases ht

/-! ### truth -/
theorem lifT_post {m : Ev → Mw Av} {σ : L2.St} {H : Hp} {Q : Bool → Hp → Prop} (hK : X.K = c.K) (h : lifT c E (fun η => m η >>= truM) σ H Q) : lifE c E m σ H fun x H' => ∃ k, TruV X.K x H' k ∧ Q k H' := by
  obtain ⟨ρ, η, M, rm, re, ok⟩ := h
  refine ⟨ρ, η, M, rm, re, (OK.bind (R := RAr c) ok).mono ?_⟩
  rintro x H1 ⟨ρ1, M1, a, p1, s1, rm1, ra, ok1⟩
  unfold truM at ok1
  obtain ⟨k, e, ok2⟩ := ok1.of
  rw [hK]
  exact ⟨k, trueA_some rm1 ra e, OK.here (R := fun _ _ a b => a = b) ok2 rm1 rfl⟩
theorem plainT_is {e : Expr} (h : plainT e = true) {env : Env} : ∀ whole, isTrue e env whole = (do let v ← whole; standAt e.pos; holding [v] (truthy v)) := by
  intro whole
  cases e <;> first
    | rfl
    | (rename_i op _ _; cases op <;> first | rfl | simp [plainT] at h)
    | simp [plainT] at h
theorem pt_plainW {e : Expr} {m : Ev → Mw Av} (hK : X.K = c.K) (he : PE X e (lifE c E m)) (hp : plainT e = true) : L2.PT X e (lifT c E fun η => m η >>= truM) :=
  pt_imp (pt_truth he (plainT_is hp)) fun σ H Q q => lifT_post hK q
theorem post_T {x : Mw Av} {M : Mem} : (post true x >>= asB) M = (x >>= truM) M := by
  show Mw.bind (Mw.bind x fun a => Mw.bind (truM a) blV) asB M = Mw.bind x truM M
  unfold Mw.bind
  cases h : x M with
  | ok a M' =>
    dsimp only
    cases truM a M' <;> rfl
  | ex e M' => rfl
  | no => rfl
theorem lifT_eq {m m' : Ev → Mw Bool} (e : ∀ η M, m η M = m' η M) {σ : L2.St} {H : Hp} {Q : Bool → Hp → Prop} (h : lifT c E m σ H Q) : lifT c E m' σ H Q := by
  obtain ⟨ρ, η, M, rm, re, ok⟩ := h
  exact ⟨ρ, η, M, rm, re, by rw [← e]; exact ok⟩
theorem lifE_eq {m m' : Ev → Mw Av} (e : ∀ η M, m η M = m' η M) {σ : L2.St} {H : Hp} {Q : VK} (h : lifE c E m σ H Q) : lifE c E m' σ H Q := by
  obtain ⟨ρ, η, M, rm, re, ok⟩ := h
  exact ⟨ρ, η, M, rm, re, by rw [← e]; exact ok⟩
theorem pt_postW {e : Expr} {m : Ev → Mw Av} (hK : X.K = c.K) (he : PE X e (lifE c E m)) (hp : plainT e = true) : L2.PT X e (lifT c E fun η => post true (m η) >>= asB) :=
  pt_imp (pt_plainW hK he hp) fun σ H Q q => lifT_eq (fun η M => post_T) q

/-! ### rows of expressions -/
def RP (c : SC) (E : XK) (X : Cx) (g : G) : List PX → List Expr → Prop
  | [], [] => True
  | p :: ps, e :: es => isStar e = false ∧ PE X e (lifE c E (evP g p)) ∧ RP c E X g ps es
  | _, _ => False
def RT (c : SC) (E : XK) (X : Cx) (g : G) : List PX → List Expr → Prop
  | [], [] => True
  | p :: ps, e :: es => L2.PT X e (lifT c E (evT g p)) ∧ RT c E X g ps es
  | _, _ => False
theorem RP.pa : ∀ {ps : List PX} {es : List Expr}, RP c E X g ps es → PA X es (lifA c E (evL g ps)) ∧ es.all (fun e => !isStar e) = true ∧ es.length = ps.length
  | [], [], _ => ⟨pa_nilW, rfl, rfl⟩
  | p :: ps, e :: es, h => by
    obtain ⟨h1, h2, h3⟩ := h
    obtain ⟨a1, a2, a3⟩ := RP.pa h3
    exact ⟨pa_consW h2 a1 h1, by rw [List.all_cons, h1, a2]; rfl, by rw [List.length_cons, List.length_cons, a3]⟩
theorem lif_tru {m : Ev → Mw Av} {f : Av → Bool → Ev → Mw Av} {σ : L2.St} {H : Hp} {Q : VK} (hK : X.K = c.K) (h : lifE c E (fun η => m η >>= fun x => truM x >>= fun k => f x k η) σ H Q) :
    lifE c E m σ H fun x H' => ∃ k, TruV X.K x H' k ∧ ∃ ρ η M a, RM c H' ρ M ∧ RE c H' ρ η σ ∧ RA c H' ρ a x ∧ OK c (RAr c) H' ρ E Q (f a k η M) := by
  obtain ⟨ρ, η, M, rm, re, ok⟩ := h
  refine ⟨ρ, η, M, rm, re, (OK.bind (R := RAr c) ok).mono ?_⟩
  rintro x H1 ⟨ρ1, M1, a, p1, s1, rm1, ra, ok1⟩
  have e : (truM a >>= fun k => f a k η) M1 = Mw.bind (truM a) (fun k => f a k η) M1 := rfl
  rw [e] at ok1
  unfold Mw.bind truM at ok1
  cases q : trueA M1 a with
  | none => rw [q] at ok1; exact False.elim ok1
  | some k =>
    rw [q] at ok1
    rw [hK]
    exact ⟨k, trueA_some rm1 ra q, ρ1, η, M1, a, rm1, re.mono s1 p1, ra, ok1⟩
theorem pe_andW {pos : Pos} (hK : X.K = c.K) : ∀ {ps : List PX} {es : List Expr}, ps ≠ [] → RP c E X g ps es → PE X (.BoolOp .And es pos) (lifE c E (evAnd g ps))
  | [], _, hn, _ => absurd rfl hn
  | [p], [e], _, h => pe_imp (pe_one h.2.1) fun σ H Q q => by
    obtain ⟨ρ, η, M, rm, re, ok⟩ := q
    refine ⟨ρ, η, M, rm, re, ?_⟩
    refine (OK.bind (R := RAr c) ok).mono ?_
    rintro x H1 ⟨ρ1, M1, a, p1, s1, rm1, ra, ok1⟩
    exact OK.here (R := RAr c) ok1 rm1 ra
  | p :: p2 :: ps, e :: e2 :: es, _, h => by
    have ih := pe_andW (pos := pos) hK (ps := p2 :: ps) (es := e2 :: es) (by simp) h.2.2
    refine pe_imp (pe_andT h.2.1 ih) fun σ H Q q => ?_
    have q : lifE c E (fun η => evP g p η >>= fun x => truM x >>= fun k => if k = true then evAnd g (p2 :: ps) η else pure x) σ H Q := q
    obtain ⟨ρ, η, M, rm, re, ok⟩ := lif_tru (X := X) (f := fun x k η => if k = true then evAnd g (p2 :: ps) η else pure x) hK q
    refine ⟨ρ, η, M, rm, re, ok.mono ?_⟩
    rintro x H1 ⟨k, tk, ρ1, η1, M1, a, rm1, re1, ra, ok1⟩
    refine ⟨k, tk, ?_⟩
    cases k with
    | true =>
      rw [if_pos rfl]
      exact ⟨ρ1, η1, M1, rm1, re1, by simpa using ok1⟩
    | false =>
      rw [if_neg Bool.false_ne_true]
      have ok1 : OK c (RAr c) H1 ρ1 E Q ((pure a : Mw Av) M1) := by simpa using ok1
      exact OK.here (R := RAr c) (a := a) ok1 rm1 ra
  | p :: ps, [], _, h => h.elim
  | [p], e :: e2 :: es, _, h => h.2.2.elim
  | p :: p2 :: ps, [e], _, h => h.2.2.elim
theorem pe_orW {pos : Pos} (hK : X.K = c.K) : ∀ {ps : List PX} {es : List Expr}, ps ≠ [] → RP c E X g ps es → PE X (.BoolOp .Or es pos) (lifE c E (evOr g ps))
  | [], _, hn, _ => absurd rfl hn
  | [p], [e], _, h => pe_imp (pe_one h.2.1) fun σ H Q q => by
    obtain ⟨ρ, η, M, rm, re, ok⟩ := q
    refine ⟨ρ, η, M, rm, re, ?_⟩
    refine (OK.bind (R := RAr c) ok).mono ?_
    rintro x H1 ⟨ρ1, M1, a, p1, s1, rm1, ra, ok1⟩
    exact OK.here (R := RAr c) ok1 rm1 ra
  | p :: p2 :: ps, e :: e2 :: es, _, h => by
    have ih := pe_orW (pos := pos) hK (ps := p2 :: ps) (es := e2 :: es) (by simp) h.2.2
    refine pe_imp (pe_orT h.2.1 ih) fun σ H Q q => ?_
    have q : lifE c E (fun η => evP g p η >>= fun x => truM x >>= fun k => if k = true then pure x else evOr g (p2 :: ps) η) σ H Q := q
    obtain ⟨ρ, η, M, rm, re, ok⟩ := lif_tru (X := X) (f := fun x k η => if k = true then pure x else evOr g (p2 :: ps) η) hK q
    refine ⟨ρ, η, M, rm, re, ok.mono ?_⟩
    rintro x H1 ⟨k, tk, ρ1, η1, M1, a, rm1, re1, ra, ok1⟩
    refine ⟨k, tk, ?_⟩
    cases k with
    | true =>
      rw [if_pos rfl]
      have ok1 : OK c (RAr c) H1 ρ1 E Q ((pure a : Mw Av) M1) := by simpa using ok1
      exact OK.here (R := RAr c) (a := a) ok1 rm1 ra
    | false =>
      rw [if_neg Bool.false_ne_true]
      exact ⟨ρ1, η1, M1, rm1, re1, by simpa using ok1⟩
  | p :: ps, [], _, h => h.elim
  | [p], e :: e2 :: es, _, h => h.2.2.elim
  | p :: p2 :: ps, [e], _, h => h.2.2.elim
theorem evT_and (g : G) (p : PX) (m : Bool → Ev → Mw Bool) (η : Ev) (M : Mem) : (evE g p true η >>= fun k => asB k >>= fun k => m k η) M = (evT g p η >>= fun k => m k η) M := by
  show _ = ((evE g p true η >>= asB) >>= fun k => m k η) M
  rw [Mw.assoc]
theorem pw_andW {pos : Pos} : ∀ {ps : List PX} {es : List Expr}, ps ≠ [] → RT c E X g ps es → PW X (.BoolOp .And es pos) (lifT c E (evTAnd g ps))
  | [], _, hn, _ => absurd rfl hn
  | [p], [e], _, h => ⟨fun wh pins s σ H Q I q => (pw_and1 h.1).run wh pins s σ H Q I (by
    have q := lifT_eq (m' := fun η => evT g p η >>= fun k => if k = true then pure true else pure false) (fun η M => evT_and g p (fun k _ => if k = true then pure true else pure false) η M) q
    obtain ⟨ρ, η, M, rm, re, ok⟩ := q
    refine ⟨ρ, η, M, rm, re, (OK.bind (R := fun _ _ a b => a = b) ok).mono ?_⟩
    rintro x H1 ⟨ρ1, M1, a, p1, s1, rm1, ra, ok1⟩
    subst ra
    cases a <;> exact OK.here (R := fun _ _ a b => a = b) ok1 rm1 rfl)⟩
  | p :: p2 :: ps, e :: e2 :: es, _, h => by
    have ih := pw_andW (pos := pos) (ps := p2 :: ps) (es := e2 :: es) (by simp) h.2
    refine ⟨fun wh pins s σ H Q I q => (pw_and h.1 ih).run wh pins s σ H Q I ?_⟩
    have q := lifT_eq (m' := fun η => evT g p η >>= fun k => if k = true then evTAnd g (p2 :: ps) η else pure false) (fun η M => evT_and g p (fun k η => if k = true then evTAnd g (p2 :: ps) η else pure false) η M) q
    obtain ⟨ρ, η, M, rm, re, ok⟩ := lifTT (f := fun k η => if k = true then evTAnd g (p2 :: ps) η else pure false) q
    refine ⟨ρ, η, M, rm, re, ok.mono ?_⟩
    rintro k H1 h1
    cases k with
    | true => exact h1
    | false =>
      obtain ⟨ρ1, η1, M1, rm1, re1, ok1⟩ := h1
      exact OK.here (R := fun _ _ a b => a = b) ok1 rm1 rfl
  | p :: ps, [], _, h => h.elim
  | [p], e :: e2 :: es, _, h => h.2.elim
  | p :: p2 :: ps, [e], _, h => h.2.elim
theorem pw_orW {pos : Pos} : ∀ {ps : List PX} {es : List Expr}, ps ≠ [] → RT c E X g ps es → PW X (.BoolOp .Or es pos) (lifT c E (evTOr g ps))
  | [], _, hn, _ => absurd rfl hn
  | [p], [e], _, h => ⟨fun wh pins s σ H Q I q => (pw_or1 h.1).run wh pins s σ H Q I (by
    have q := lifT_eq (m' := fun η => evT g p η >>= fun k => if k = true then pure true else pure false) (fun η M => evT_and g p (fun k _ => if k = true then pure true else pure false) η M) q
    obtain ⟨ρ, η, M, rm, re, ok⟩ := q
    refine ⟨ρ, η, M, rm, re, (OK.bind (R := fun _ _ a b => a = b) ok).mono ?_⟩
    rintro x H1 ⟨ρ1, M1, a, p1, s1, rm1, ra, ok1⟩
    subst ra
    cases a <;> exact OK.here (R := fun _ _ a b => a = b) ok1 rm1 rfl)⟩
  | p :: p2 :: ps, e :: e2 :: es, _, h => by
    have ih := pw_orW (pos := pos) (ps := p2 :: ps) (es := e2 :: es) (by simp) h.2
    refine ⟨fun wh pins s σ H Q I q => (pw_or h.1 ih).run wh pins s σ H Q I ?_⟩
    have q := lifT_eq (m' := fun η => evT g p η >>= fun k => if k = true then pure true else evTOr g (p2 :: ps) η) (fun η M => evT_and g p (fun k η => if k = true then pure true else evTOr g (p2 :: ps) η) η M) q
    obtain ⟨ρ, η, M, rm, re, ok⟩ := lifTT (f := fun k η => if k = true then pure true else evTOr g (p2 :: ps) η) q
    refine ⟨ρ, η, M, rm, re, ok.mono ?_⟩
    rintro k H1 h1
    cases k with
    | false => exact h1
    | true =>
      obtain ⟨ρ1, η1, M1, rm1, re1, ok1⟩ := h1
      exact OK.here (R := fun _ _ a b => a = b) ok1 rm1 rfl
  | p :: ps, [], _, h => h.elim
  | [p], e :: e2 :: es, _, h => h.2.elim
  | p :: p2 :: ps, [e], _, h => h.2.elim
end
end LW

namespace LW
open PySem PySem.Spec PyProof.Rows L2
section
variable {b : Bs} {c : SC} {E : XK} {X : Cx} {g : G} {D : Dc} {s : Ds}
/-- the builtin's name in the tree -/
def biY (n : Str) : Option Str :=
  if n = "len" then some "len" else if n = "abs" then some "abs" else if n = "int" then some "int" else if n = "min" then some "min" else if n = "max" then some "max" else if n = "all" then some "all" else if n = "any" then some "any"
  else if n = "list" then some "list" else if n = "list!" then some "list" else if n = "tuple" then some "tuple" else if n = "isinstance" then some "isinstance"
  else if n = "sorted" then some "sorted" else if n = "repr" then some "repr" else none
theorem pe_biW {n y : Str} {e : Expr} {es : List Expr} {p pos : Pos} {m : Ev → Mw (List Av)} (h : Here b c E X) (OO : OwnOk b g) (KO : KitOk c g) (hy : biY n = some y) (hg : Gl X y) (hm : X.mg y = none) (hd : (y == ("__debug__" : Str)) = false) (hn : y ≠ "__name__")
    (ha : PA X (e :: es) (lifA c E m)) (hs : (e :: es).all (fun e => !isStar e) = true) : PE X (.Call (.Name y p) (e :: es) [] pos) (lifE c E fun η => m η >>= biA g n) := by
  simp only [List.all_cons, Bool.and_eq_true, Bool.not_eq_true'] at hs
  have B : ∀ {id : String} {f : List Av → Mw Av}, CallR X (.builtin id) (lifC c E f) → bootBuiltins y = some (.builtin id) → biA g n = f → PE X (.Call (.Name y p) (e :: es) [] pos) (lifE c E fun η => m η >>= biA g n) := fun {id f} hc hv ef =>
    pe_imp (pe_callB hc hg hm hv ha hn hd (star_cons hs.1) (star_none hs.2)) fun σ H Q q => by rw [ef] at q; exact lifL q
  have T : ∀ {id : String} {f : List Av → Mw Av}, CallR X (.type id) (lifC c E f) → bootBuiltins y = some (.type id) → biA g n = f → PE X (.Call (.Name y p) (e :: es) [] pos) (lifE c E fun η => m η >>= biA g n) := fun {id f} hc hv ef =>
    pe_imp (pe_callTy hc hg hm hv ha hn hd (star_cons hs.1) (star_none hs.2)) fun σ H Q q => by rw [ef] at q; exact lifL q
  have hc := h.ok.calm
  unfold biY at hy
  by_cases en : n = "len"
  · rw [if_pos en] at hy; subst en; cases hy; exact B (call_lenW h OO) boot_len (by funext as; rfl)
  rw [if_neg en] at hy; clear en
  by_cases en : n = "abs"
  · rw [if_pos en] at hy; subst en; cases hy; exact B call_absW (by decide +kernel) (by funext as; rfl)
  rw [if_neg en] at hy; clear en
  by_cases en : n = "int"
  · rw [if_pos en] at hy; subst en; cases hy; exact T call_intW (by decide +kernel) (by funext as; rfl)
  rw [if_neg en] at hy; clear en
  by_cases en : n = "min"
  · rw [if_pos en] at hy; subst en; cases hy; exact B (call_minW hc) (by decide +kernel) (by funext as; rfl)
  rw [if_neg en] at hy; clear en
  by_cases en : n = "max"
  · rw [if_pos en] at hy; subst en; cases hy; exact B (call_maxW hc) (by decide +kernel) (by funext as; rfl)
  rw [if_neg en] at hy; clear en
  by_cases en : n = "all"
  · rw [if_pos en] at hy; subst en; cases hy; exact B (call_allW h.ok) (by decide +kernel) (by funext as; rfl)
  rw [if_neg en] at hy; clear en
  by_cases en : n = "any"
  · rw [if_pos en] at hy; subst en; cases hy; exact B (call_anyW h.ok) (by decide +kernel) (by funext as; rfl)
  rw [if_neg en] at hy; clear en
  by_cases en : n = "list"
  · rw [if_pos en] at hy; subst en; cases hy; exact T (call_listW h.ok false) (by decide +kernel) (by funext as; rfl)
  rw [if_neg en] at hy; clear en
  by_cases en : n = "list!"
  · rw [if_pos en] at hy; subst en; cases hy; exact T (call_listW h.ok true) (by decide +kernel) (by funext as; rfl)
  rw [if_neg en] at hy; clear en
  by_cases en : n = "tuple"
  · rw [if_pos en] at hy; subst en; cases hy; exact T (call_tupleW h.ok) (by decide +kernel) (by funext as; rfl)
  rw [if_neg en] at hy; clear en
  by_cases en : n = "isinstance"
  · rw [if_pos en] at hy; subst en; cases hy; exact B (call_isiW h.ok KO) (by decide +kernel) (by funext as; rfl)
  rw [if_neg en] at hy; clear en
  by_cases en : n = "sorted"
  · rw [if_pos en] at hy; subst en; cases hy; exact B (call_sortedW h.ok) (by decide +kernel) (by funext as; rfl)
  rw [if_neg en] at hy; clear en
  by_cases en : n = "repr"
  · rw [if_pos en] at hy; subst en; cases hy; exact B (call_reprW h.ok) (by decide +kernel) (by funext as; rfl)
  rw [if_neg en] at hy; clear en
  cases hy

/-! ### fields, items, slices -/
theorem attrBase {e : Expr} {f : Str} {env : Env} {whole : Sem Value} (h : plainA e = true) : attributeBase e f env whole = whole := by
  cases e <;> first
    | rfl
    | skip
  rename_i fn args kws pos
  cases fn <;> first
    | rfl
    | skip
  rename_i id p
  cases args <;> cases kws <;> first
    | rfl
    | skip
  simp only [plainA, decide_eq_true_eq] at h
  unfold attributeBase
  simp only []
  rw [if_pos (by simp [h])]
theorem pe_attrW {e : Expr} {f : Str} {pos : Pos} {m : Ev → Mw Av} (h : Here b c E X) (F : FldOk c g) (he : PE X e (lifE c E m)) (hb : plainA e = true) : PE X (.Attribute e f pos) (lifE c E fun η => m η >>= fun x => fun M => Mw.of (attrA g M f x) M) :=
  ⟨fun pins s σ H Q I q => attr_of (attrBase hb) (thn (he.run pins s σ H _ I (lif1 q)) fun u s1 ⟨x, H1, I1, rx, q1⟩ => attr_ok h.ok F I1 rx q1)⟩
theorem pe_ixW {e i : Expr} {pos : Pos} {m n : Ev → Mw Av} (h : Here b c E X) (he : PE X e (lifE c E m)) (hi : PE X i (lifE c E n)) (hp : plainI i = true) : PE X (.Subscript e i pos) (lifE c E fun η => m η >>= fun x => n η >>= fun y => fun M => Mw.of (ixA M x y) M) :=
  pe_imp (pe_ix (ixR h.ok) he hi (by cases i <;> first | (intro _ _; rfl) | simp [plainI] at hp)) fun σ H Q q => lif2 (f := fun x y M => Mw.of (ixA M x y) M) q
def RO (c : SC) (E : XK) (X : Cx) (g : G) : Option PX → Option Expr → Prop
  | none, none => True
  | some p, some e => PE X e (lifE c E (evP g p))
  | _, _ => False
def tO (c : SC) (E : XK) (m : Ev → Mw (Option Int)) : TO := fun σ H Q => ∃ ρ η M, RM c H ρ M ∧ RE c H ρ η σ ∧ OK c (fun _ _ a b => a = b) H ρ E Q (m η M)
theorem po_imp {lo : Option Expr} {t u : TO} (h : PO X lo t) (i : ∀ σ H Q, u σ H Q → t σ H Q) : PO X lo u := ⟨fun pins s σ H Q I hw => h.run pins s σ H Q I (i σ H Q hw)⟩
theorem po_W : ∀ {l : Option PX} {lo : Option Expr}, RO c E X g l lo → PO X lo (tO c E (evO g l))
  | none, none, _ => po_imp po_none fun σ H Q q => by
    obtain ⟨ρ, η, M, rm, re, ok⟩ := q
    exact OK.here (R := fun _ _ a b => a = b) ok rm rfl
  | some p, some e, hl => po_imp (po_some hl) fun σ H Q q => by
    obtain ⟨ρ, η, M, rm, re, ok⟩ := q
    refine ⟨ρ, η, M, rm, re, (OK.bind (R := RAr c) ok).mono ?_⟩
    rintro x H1 ⟨ρ1, M1, a, p1, s1, rm1, ra, ok1⟩
    unfold intO at ok1
    split at ok1
    · exact ⟨_, ra_int.mp ra, OK.here (R := fun _ _ a b => a = b) ok1 rm1 rfl⟩
    · exact False.elim ok1
  | none, some _, h => h.elim
  | some _, none, h => h.elim
theorem pe_slW {e : Expr} {lo hi : Option Expr} {l u : Option PX} {p2 pos : Pos} {m : Ev → Mw Av} (h : Here b c E X) (he : PE X e (lifE c E m)) (hl : RO c E X g l lo) (hu : RO c E X g u hi) :
    PE X (.Subscript e (.Slice lo hi none p2) pos) (lifE c E fun η => m η >>= fun x => evO g l η >>= fun l => evO g u η >>= fun h => slM x l h) := by
  refine pe_imp (pe_slice (slR h.ok) he (po_W hl) (po_W hu)) fun σ H Q q => ?_
  obtain ⟨ρ, η, M, rm, re, ok⟩ := q
  refine ⟨ρ, η, M, rm, re, (OK.bind (R := RAr c) ok).mono ?_⟩
  rintro x H1 ⟨ρ1, M1, a, p1, s1, rm1, ra, ok1⟩
  refine ⟨ρ1, η, M1, rm1, re.mono s1 p1, (OK.bind (R := fun _ _ a b => a = b) ok1).mono ?_⟩
  rintro lv H2 ⟨ρ2, M2, la, p2, s2, rm2, el, ok2⟩
  subst el
  refine ⟨ρ2, η, M2, rm2, (re.mono s1 p1).mono s2 p2, (OK.bind (R := fun _ _ a b => a = b) ok2).mono ?_⟩
  rintro hv H3 ⟨ρ3, M3, ha, p3, s3, rm3, eh, ok3⟩
  subst eh
  exact ⟨ρ3, M3, a, rm3, RA.mono s3 p3 _ _ (RA.mono s2 p2 _ _ ra), ok3⟩

/-! ### comparisons -/
theorem lif2T {ma mb : Ev → Mw Av} {f : Av → Av → Mw Bool} {σ : L2.St} {H : Hp} {Q : Bool → Hp → Prop} (h : lifT c E (fun η => ma η >>= fun x => mb η >>= fun y => f x y) σ H Q) : tTest (tOp (lifO c E fun x y => blM (f x y)) (lifE c E ma) (lifE c E mb)) σ H Q := by
  obtain ⟨ρ, η, M, rm, re, ok⟩ := h
  refine ⟨ρ, η, M, rm, re, (OK.bind (R := RAr c) ok).mono ?_⟩
  rintro x H1 ⟨ρ1, M1, a, p1, s1, rm1, ra, ok1⟩
  refine ⟨ρ1, η, M1, rm1, re.mono s1 p1, (OK.bind (R := RAr c) ok1).mono ?_⟩
  rintro y H2 ⟨ρ2, M2, b', p2, s2, rm2, rb, ok2⟩
  refine ⟨ρ2, M2, a, b', rm2, RA.mono s2 p2 a x ra, rb, ?_⟩
  show OK c (RAr c) H2 ρ2 E _ (blM (f a b') M2)
  have e : blM (f a b') M2 = _ := blM_at
  rw [e]
  cases q : f a b' M2 with
  | ok k M3 =>
    rw [q] at ok2
    exact fun ρ' H' v p st rm' r => ⟨k, ra_bl.mp r, ok2.then p st rm' rfl⟩
  | ex e M3 => rw [q] at ok2; exact ok2
  | no => rw [q] at ok2; exact ok2
theorem Mw.assoc' {α β γ : Type} {x : Mw α} {f : α → Mw β} {g : β → Mw γ} : ((x >>= f) >>= g) = (x >>= fun a => f a >>= g) := funext fun M => Mw.assoc
theorem bl_as {x : Mw Bool} : ((x >>= blV) >>= asB) = x := funext fun M => by
  show Mw.bind (Mw.bind x blV) asB M = x M
  unfold Mw.bind
  cases x M <;> rfl
theorem blV_as {k : Bool} : (blV k >>= asB) = (pure k : Mw Bool) := rfl
theorem cmp_T {o : CmpOp} {p q : PX} {η : Ev} : evT g (.cmp o p q) η = (evP g p η >>= fun x => evP g q η >>= fun y => cmpA g o x y) := by
  show ((evE g p false η >>= fun x => evE g q false η >>= fun y => cmpA g o x y >>= blV) >>= asB) = _
  rw [Mw.assoc']
  congr 1
  funext x
  rw [Mw.assoc']
  congr 1
  funext y
  exact bl_as
theorem pt_cmpW {o : CmpOp} {p q : PX} {e f : Expr} {pos : Pos} (h : Here b c E X) (OO : OwnOk b g) (KO : KitOk c g) (he : PE X e (lifE c E (evP g p))) (hf : PE X f (lifE c E (evP g q))) (hm : behindInMarks o f = false) : L2.PT X (.Compare e [o] [f] pos) (lifT c E (evT g (.cmp o p q))) :=
  pt_imp (pt_cmpR (opR_cmp h OO KO o) he hf hm) fun σ H Q q' => lif2T (lifT_eq (fun η M => congrFun cmp_T M) q')
theorem pe_cmpW {o : CmpOp} {p q : PX} {e f : Expr} {pos : Pos} (h : Here b c E X) (OO : OwnOk b g) (KO : KitOk c g) (he : PE X e (lifE c E (evP g p))) (hf : PE X f (lifE c E (evP g q))) (hm : behindInMarks o f = false) : PE X (.Compare e [o] [f] pos) (lifE c E (evP g (.cmp o p q))) :=
  pe_imp (pe_cmpR (opR_cmp h OO KO o) he hf hm) fun σ H Q q' => lif2 (f := fun x y => blM (cmpA g o x y)) q'
/-- a < b < c -/
theorem lif_chain {o1 o2 : CmpOp} {ma mb mc : Ev → Mw Av} {σ : L2.St} {H : Hp} {Q : VK} (h : lifE c E (fun η => ma η >>= fun x => mb η >>= fun y => cmpA g o1 x y >>= fun k => if k = true then mc η >>= fun z => cmpA g o2 y z >>= blV else blV false) σ H Q) :
    tChain (lifO c E fun x y => blM (cmpA g o1 x y)) (lifO c E fun x y => blM (cmpA g o2 x y)) (lifE c E ma) (lifE c E mb) (lifE c E mc) σ H Q := by
  obtain ⟨ρ, η, M, rm, re, ok⟩ := h
  refine ⟨ρ, η, M, rm, re, (OK.bind (R := RAr c) ok).mono ?_⟩
  rintro x H1 ⟨ρ1, M1, a, p1, s1, rm1, ra, ok1⟩
  have re1 := re.mono s1 p1
  refine ⟨ρ1, η, M1, rm1, re1, (OK.bind (R := RAr c) ok1).mono ?_⟩
  rintro y H2 ⟨ρ2, M2, b', p2, s2, rm2, rb, ok2⟩
  have re2 := re1.mono s2 p2
  refine ⟨ρ2, M2, a, b', rm2, RA.mono s2 p2 a x ra, rb, ?_⟩
  show OK c (RAr c) H2 ρ2 E _ (blM (cmpA g o1 a b') M2)
  have e : blM (cmpA g o1 a b') M2 = _ := blM_at
  rw [e]
  have ok3 := OK.bind (R := fun _ _ a b => a = b) ok2
  cases q : cmpA g o1 a b' M2 with
  | ok k M3 =>
    rw [q] at ok3
    intro ρ' H' v p st rm' r
    refine ⟨k, ra_bl.mp r, ?_⟩
    obtain ⟨ρ4, M4, k', p4, s4, rm4, ek, ok4⟩ := ok3.then p st rm' (a := k) (b := k) rfl
    subst ek
    cases k' with
    | false =>
      rw [if_neg Bool.false_ne_true]
      have ok4 : OK c (RAr c) H' ρ4 E Q (blV false M4) := by simpa using ok4
      exact OK.here (R := RAr c) (a := .val (.bl false)) ok4 rm4 (ra_bl.mpr rfl)
    | true =>
      rw [if_pos rfl]
      have ok4 : OK c (RAr c) H' ρ4 E Q ((mc η >>= fun z => cmpA g o2 b' z >>= blV) M4) := by simpa using ok4
      have re4 := re2.mono s4 p4
      have rb4 := RA.mono s4 p4 _ _ rb
      refine ⟨ρ4, η, M4, rm4, re4, (OK.bind (R := RAr c) ok4).mono ?_⟩
      rintro z H5 ⟨ρ5, M5, cv, p5, s5, rm5, rc, ok5⟩
      exact ⟨ρ5, M5, b', cv, rm5, RA.mono s5 p5 _ _ rb4, rc, ok5⟩
  | ex e M3 => rw [q] at ok3; exact ok3
  | no => rw [q] at ok3; exact ok3
theorem pe_chainW {o1 o2 : CmpOp} {p q r : PX} {e f d : Expr} {pos : Pos} (h : Here b c E X) (OO : OwnOk b g) (KO : KitOk c g) (he : PE X e (lifE c E (evP g p))) (hf : PE X f (lifE c E (evP g q))) (hd : PE X d (lifE c E (evP g r))) (hm : lastMarks [o1, o2] [f, d] = false) :
    PE X (.Compare e [o1, o2] [f, d] pos) (lifE c E (evP g (.chain o1 o2 p q r))) :=
  pe_imp (pe_chain (opR_cmp h OO KO o1) (opR_cmp h OO KO o2) he hf hd hm) fun σ H Q q' => lif_chain q'
/-- a bool, as a test -/
theorem lifT_of {m : Ev → Mw Bool} {σ : L2.St} {H : Hp} {Q : Bool → Hp → Prop} (h : lifT c E m σ H Q) : lifE c E (fun η => m η >>= blV) σ H fun x H' => ∃ k, x = .bl k ∧ Q k H' := by
  obtain ⟨ρ, η, M, rm, re, ok⟩ := h
  refine ⟨ρ, η, M, rm, re, ?_⟩
  show OK c (RAr c) H ρ E _ (blM (m η) M)
  have e : blM (m η) M = _ := blM_at
  rw [e]
  cases q : m η M with
  | ok k M3 =>
    rw [q] at ok
    exact fun ρ' H' v p st rm' r => ⟨k, ra_bl.mp r, ok.then p st rm' rfl⟩
  | ex e M3 => rw [q] at ok; exact ok
  | no => rw [q] at ok; exact ok
theorem chain_T {o1 o2 : CmpOp} {p q r : PX} {η : Ev} : evT g (.chain o1 o2 p q r) η >>= blV = evP g (.chain o1 o2 p q r) η := by
  show (((evE g p false η >>= fun x => evE g q false η >>= fun y => cmpA g o1 x y >>= fun k => if k = true then evE g r false η >>= fun z => cmpA g o2 y z >>= blV else blV false) >>= asB) >>= blV) = _
  rw [Mw.assoc', Mw.assoc']
  show _ = (evE g p false η >>= fun x => evE g q false η >>= fun y => cmpA g o1 x y >>= fun k => if k = true then evE g r false η >>= fun z => cmpA g o2 y z >>= blV else blV false)
  congr 1
  funext x
  rw [Mw.assoc']
  congr 1
  funext y
  rw [Mw.assoc']
  congr 1
  funext k
  cases k with
  | false => rfl
  | true =>
    rw [if_pos rfl, Mw.assoc']
    congr 1
    funext z
    rw [← Mw.assoc', bl_as]
theorem pt_chainW {o1 o2 : CmpOp} {p q r : PX} {e f d : Expr} {pos : Pos} (h : Here b c E X) (OO : OwnOk b g) (KO : KitOk c g) (he : PE X e (lifE c E (evP g p))) (hf : PE X f (lifE c E (evP g q))) (hd : PE X d (lifE c E (evP g r))) (hm : lastMarks [o1, o2] [f, d] = false) :
    L2.PT X (.Compare e [o1, o2] [f, d] pos) (lifT c E (evT g (.chain o1 o2 p q r))) :=
  pt_imp (pt_chain (opR_cmp h OO KO o1) (opR_cmp h OO KO o2) he hf hd hm) fun σ H Q q' => by
    have q2 := lifT_of q'
    have q3 := lifE_eq (m' := evP g (.chain o1 o2 p q r)) (fun η M => congrFun chain_T M) q2
    exact lif_chain q3

/-! ### not, if-else as tests -/
theorem not_T {p : PX} {η : Ev} : evT g (.notv p) η = (evT g p η >>= fun k => pure (!k)) := by
  show (((evE g p true η >>= asB) >>= fun k => blV (!k)) >>= asB) = _
  rw [Mw.assoc']
  rfl
theorem pt_notW {p : PX} {e : Expr} {pos : Pos} (he : L2.PT X e (lifT c E (evT g p))) : L2.PT X (.UnaryOp .Not e pos) (lifT c E (evT g (.notv p))) :=
  pt_imp (pt_not he) fun σ H Q q => by
    obtain ⟨ρ, η, M, rm, re, ok⟩ := lifTT (f := fun k _ => pure (!k)) (lifT_eq (m := evT g (.notv p)) (m' := fun η => evT g p η >>= fun k => pure (!k)) (fun η M => congrFun not_T M) q)
    refine ⟨ρ, η, M, rm, re, ok.mono ?_⟩
    rintro k H1 ⟨ρ1, η1, M1, rm1, re1, ok1⟩
    exact OK.here (R := fun _ _ a b => a = b) ok1 rm1 rfl
theorem pe_notW {p : PX} {e : Expr} {pos : Pos} (hK : X.K = c.K) (he : PE X e (lifE c E (evP g p))) : PE X (.UnaryOp .Not e pos) (lifE c E (evP g (.notv p))) :=
  pe_imp (pe_notT he) fun σ H Q q => by
    have q : lifE c E (fun η => (evP g p η >>= truM) >>= fun k => blV (!k)) σ H Q := q
    obtain ⟨ρ, η, M, rm, re, ok⟩ := lif_tru (X := X) (f := fun _ k _ => blV (!k)) hK (lifE_eq (m' := fun η => evP g p η >>= fun x => truM x >>= fun k => blV (!k)) (fun η M => Mw.assoc) q)
    refine ⟨ρ, η, M, rm, re, ok.mono ?_⟩
    rintro x H1 ⟨k, tk, ρ1, η1, M1, a, rm1, re1, ra, ok1⟩
    exact ⟨k, tk, OK.here (R := RAr c) (a := .val (.bl (!k))) ok1 rm1 (ra_bl.mpr rfl)⟩
theorem pe_ifW {t p q : PX} {e f d : Expr} {pos : Pos} (ht : L2.PT X e (lifT c E (evT g t))) (he : PE X f (lifE c E (evP g p))) (hf : PE X d (lifE c E (evP g q))) : PE X (.IfExp e f d pos) (lifE c E (evP g (.ife t p q))) :=
  pe_imp (pe_ifExp ht he hf) fun σ H Q q' => by
    have q2 : lifE c E (fun η => evT g t η >>= fun k => if k = true then evP g p η else evP g q η) σ H Q := lifE_eq (fun η M => by
      show (evE g t true η >>= fun k => asB k >>= fun k => if k = true then evE g p false η else evE g q false η) M = ((evE g t true η >>= asB) >>= fun k => if k = true then evP g p η else evP g q η) M
      rw [Mw.assoc]) q'
    obtain ⟨ρ, η, M, rm, re, ok⟩ := lifTb (R := RAr c) (f := fun k η => if k = true then evP g p η else evP g q η) q2
    refine ⟨ρ, η, M, rm, re, ok.mono ?_⟩
    rintro k H1 h1
    cases k with
    | true => simpa using h1
    | false => simpa using h1
end
end LW

namespace LW
open PySem PySem.Spec PyProof.Rows L2

/-! ### a tree and its expression are one -/
def kwsB (ks : List Str) (kws : List Keyword) : Bool := decide (kws.map (·.arg) = ks.map some)
mutual
def corE (s : Ds) (g : G) : Nat → PX → Dc → Expr → Bool
  | 0, _, _, _ => false
  | n + 1, p, D, e => match p, e with
    | .var i, .Name x _ => nameB D i x
    | .con k, .Constant v _ _ => conB k v
    | .glo x, .Name y _ => decide (x = y) && gloB D y && (g.glob x).isSome
    | .typ m, .Name y _ => bltB s D y && typB y m
    | .bin o a b, .BinOp l o' r _ => decide (o = o') && corE s g n a D l && corE s g n b D r
    | .neg a, .UnaryOp .USub l _ => corE s g n a D l
    | .notv a, .UnaryOp .Not l _ => corE s g n a D l
    | .and xs, .BoolOp .And es _ => !xs.isEmpty && corL s g n xs D es
    | .or xs, .BoolOp .Or es _ => !xs.isEmpty && corL s g n xs D es
    | .cmp o a b, .Compare l [o'] [r] _ => decide (o = o') && corE s g n a D l && corE s g n b D r && !behindInMarks o r
    | .chain o1 o2 a b c, .Compare l [p1, p2] [r, d] _ => decide (o1 = p1) && decide (o2 = p2) && corE s g n a D l && corE s g n b D r && corE s g n c D d && !lastMarks [o1, o2] [r, d]
    | .ife t a b, .IfExp te l r _ => corT s g n t D te && corE s g n a D l && corE s g n b D r
    | .call f xs, .Call (.Name y _) es [] _ => decide (f = y) && decide (f ∈ s.fns) && gloB D f && (g.dfl f es.length).isSome && corL s g n xs D es
    | .make f xs ks ys, .Call (.Name y _) es kws _ => decide (f = y) && decide (f ∈ s.cls) && gloB D f && corL s g n xs D es && (match ks, kws with
      | [], [] => (g.dfl (f ++ ".__init__") (es.length + 1)).isSome && !es.isEmpty
      | k :: ks', _ :: _ => kwsB (k :: ks') kws && (match g.kwo (f ++ ".__init__") (es.length + 1) (k :: ks') with
        | some ss => selfFirst ss
        | none => false) && corL s g n ys D (kws.map (·.value))
      | _, _ => false)
    | .bi b xs, .Call (.Name y _) es [] _ => decide (biY b = some y) && bltB s D y && !es.isEmpty && corL s g n xs D es
    | .meth m o xs, .Call (.Attribute r a ap) es [] p => decide (m = a) && plainA r && (ap.endLine == p.line) && corE s g n o D r && corL s g n xs D es && decide (es.length < 30) && ((decide (m = "append") && !es.isEmpty) || decide (m = "pop"))
    | .attr f o, .Attribute r a _ => decide (f = a) && plainA r && corE s g n o D r
    | .sl o lo hi, .Subscript r (.Slice l h none _) _ => corE s g n o D r && corO s g n lo D l && corO s g n hi D h
    | .ix o i, .Subscript r j _ => plainI j && corE s g n o D r && corE s g n i D j
    | .tup xs, .Tuple es _ _ => decide (xs.length ≤ sizeLine) && corL s g n xs D es
    | .lst _ xs, .List es _ => decide (xs.length ≤ sizeLine) && corL s g n xs D es
    | .dct false [] [], .Dict [] [] _ => true
    | .heard q, .Call (.Name y _) [.Lambda ⟨[], [], none, [], [], none, []⟩ bd sc _] [] _ => decide (s.hd = some y) && D.lam && gloB D y && LamX.lamSB D.sc sc && corE s g n q ⟨D.N, sc, fun _ => false, false⟩ bd
    | .lc _ e t k its ifs own, .ListComp el [⟨tg, it, ifs', 0⟩] scope _ => blkC D.N D.sc scope (own.map fun i => ((D.N[i]?).getD "", i)) && corG t (D.blk scope) tg && (slotsT t).all (fun i => decide (i ∈ own)) && corI s g n k its D tg it && corE s g n e (D.blk scope) el && (match ifs, ifs' with
      | [], [] => true
      | [c], [c'] => corT s g n c (D.blk scope) c'
      | _, _ => false)
    | _, _ => false
def corT (s : Ds) (g : G) : Nat → PX → Dc → Expr → Bool
  | 0, _, _, _ => false
  | n + 1, p, D, e => match p, e with
    | .notv a, .UnaryOp .Not l _ => corT s g n a D l
    | .and xs, .BoolOp .And es _ => !xs.isEmpty && corTL s g n xs D es
    | .or xs, .BoolOp .Or es _ => !xs.isEmpty && corTL s g n xs D es
    | .cmp o a b, .Compare l [o'] [r] _ => decide (o = o') && corE s g n a D l && corE s g n b D r && !behindInMarks o r
    | .chain o1 o2 a b c, .Compare l [p1, p2] [r, d] _ => decide (o1 = p1) && decide (o2 = p2) && corE s g n a D l && corE s g n b D r && corE s g n c D d && !lastMarks [o1, o2] [r, d]
    | p, e => plainT e && plainP p && corE s g n p D e
def corL (s : Ds) (g : G) : Nat → List PX → Dc → List Expr → Bool
  | _, [], _, [] => true
  | 0, _, _, _ => false
  | n + 1, p :: ps, D, e :: es => !isStar e && corE s g n p D e && corL s g n ps D es
  | _, _, _, _ => false
def corTL (s : Ds) (g : G) : Nat → List PX → Dc → List Expr → Bool
  | _, [], _, [] => true
  | 0, _, _, _ => false
  | n + 1, p :: ps, D, e :: es => corT s g n p D e && corTL s g n ps D es
  | _, _, _, _ => false
def corO (s : Ds) (g : G) : Nat → Option PX → Dc → Option Expr → Bool
  | _, none, _, none => true
  | 0, _, _, _ => false
  | n + 1, some p, D, some e => corE s g n p D e
  | _, _, _, _ => false
def corI (s : Ds) (g : G) : Nat → ItK → List PX → Dc → Expr → Expr → Bool
  | 0, _, _, _, _, _ => false
  | n + 1, k, its, D, tg, e => match k, its, e with
    | .val, [p], e => corE s g n p D e && (match e with | .Set _ _ _ => false | _ => true)
    | .range1, [p], .Call (.Name y _) [l] [] _ => decide (y = "range") && bltB s D y && corL s g n [p] D [l]
    | .range2, [p, q], .Call (.Name y _) [l, r] [] _ => decide (y = "range") && bltB s D y && corL s g n [p, q] D [l, r]
    | .zip, [p, q], .Call (.Name y _) [l, r] [] _ => decide (y = "zip") && bltB s D y && corL s g n [p, q] D [l, r] && (match tg with | .Tuple _ _ _ => true | _ => false)
    | _, _, _ => false
end
end LW

namespace LW
open PySem PySem.Spec PyProof.Rows L2
structure Sup (b : Bs) (s : Ds) (g : G) : Prop where
  bl : ∀ x ∈ s.bl, b.mg x = none
  fns : ∀ f ∈ s.fns, ∃ a, b.mg f = some (.ref a) ∧ FnU b g f a
  cls : ∀ cn ∈ s.cls, ∃ C f, MkU b cn C f ∧ FnU b g (cn ++ ".__init__") f ∧ g.exf cn = none
  glob : ∀ x w, g.glob x = some w → ∃ u v, b.mg x = some u ∧ RelV v u ∧ ∀ H, RW b.c0 H w v
  fld : FldOk b.c0 g
  kit : KitOk b.c0 g
  own : OwnOk b g
  hrd : ∀ hn, s.hd = some hn → HrdU b g hn
section
variable {b : Bs} {c : SC} {E : XK} {X : Cx} {g : G} {D : Dc} {s : Ds}
theorem KnV.sc {c c' : SC} (hm : c.mg = c'.mg) {k : Kn} {t : Value} (h : KnV c k t) : KnV c' k t := by
  cases k with
  | bt n => exact h
  | own x => obtain ⟨C, h1, h2⟩ := h; exact ⟨C, hm ▸ h1, h2⟩
theorem Sup.fldc (S : Sup b s g) (h : Here b c E X) : FldOk c g := by
  refine ⟨fun cn f hf => ?_, fun cn f hf => ?_⟩
  · rw [h.cK, h.cmg]; exact S.fld.fld cn f hf
  · rw [h.cK, h.cmg]; exact S.fld.xfd cn f hf
theorem Sup.kitc (S : Sup b s g) (h : Here b c E X) : KitOk c g := by
  refine ⟨fun cn hf => ?_, fun cn hf => ?_, fun hh => ?_, fun k k' r hr t u h1 h2 => ?_⟩
  · rw [h.cK, h.cmg]; exact S.kit.icl cn hf
  · rw [h.cK, h.cmg]; exact S.kit.xcl cn hf
  · rw [h.cK]; exact S.kit.get hh
  · rw [h.cK]; exact S.kit.kit k k' r hr t u (h1.sc h.cmg) (h2.sc h.cmg)
theorem Here.blk (h : Here b c E X) (sh : Shared) (H : Hp) (scope : Scope) (cenv : Env) (fp : List Addr) (l : List (Addr × HO)) : Here b (c.with l) E0 (X.blk sh H scope cenv fp) where
  ok := ⟨h.ok.K, h.ok.mg, h.ok.calm, h.ok.nd, h.ok.room, LamX.takes0, h.ok.gu⟩
  c := by obtain ⟨l', e⟩ := h.c; exact ⟨l, by rw [e]; rfl⟩
  P := h.P
  w := h.w
  base := h.base
theorem At.blk (A : At D X) (sh : Shared) (H : Hp) (scope : Scope) (C : Addr) (cl : List (Str × Addr)) (fp : List Addr) : At (D.blk scope) (X.blk sh H scope (compEnvC scope cl C X.env) fp) where
  N := A.N
  sc := by
    show relS scope X.env.scope = relS scope D.sc
    rw [A.sc]
  fn := rfl

/-! ### targets -/
theorem asg_cons {e : Expr} {es : List Expr} {env : Env} (h : isStar e = false) : assignEach (e :: es) env = (false, assign e env) :: assignEach es env := by
  cases e <;> first | rfl | simp [isStar] at h
theorem gs_facts {D : Dc} : ∀ {ts : List PT} {es : List Expr} {env : Env}, corGs ts D es = true → (assignEach es env).length = ts.length ∧ (assignEach es env).findIdx? (·.1) = none
  | [], [], _, _ => ⟨rfl, rfl⟩
  | t :: ts, e :: es, env, h => by
    simp only [corGs, Bool.and_eq_true, Bool.not_eq_true'] at h
    obtain ⟨h1, h2⟩ := gs_facts (env := env) h.2
    rw [asg_cons h.1.1]
    refine ⟨by rw [List.length_cons, List.length_cons, h1], ?_⟩
    rw [List.findIdx?_cons]
    simp only [Bool.false_eq_true, if_false, h2, Option.map_none]
  | [], _ :: _, _, h => by simp [corGs] at h
  | _ :: _, [], _, h => by simp [corGs] at h
mutual
theorem pg_W (hc : X.calm = true) (nd : X.N.Nodup) (A : At D X) : ∀ {t : PT} {e : Expr}, corG t D e = true → PG X e (gOf X.K t)
  | .name i, e, h => by
    cases e <;> first
      | (simp [corG] at h; done)
      | skip
    rename_i x pos
    simp only [corG, locB, dunB, Bool.and_eq_true, Bool.or_eq_true, decide_eq_true_eq, Bool.not_eq_true'] at h
    obtain ⟨⟨h1, h2⟩, h3⟩ := h
    refine pg_name nd (by rw [A.N]; exact h1) ?_ ?_
    · rw [A.sc]
      exact h2.elim (fun z => .inl z) fun z => .inr z.1
    · rw [A.sc, A.fn]
      exact h2.elim (fun z => .inr z) fun z => .inl z.2
  | .tup ts, e, h => by
    cases e <;> first
      | (simp [corG] at h; done)
      | skip
    rename_i es k pos
    simp only [corG] at h
    obtain ⟨h1, h2⟩ := gs_facts (env := X.env) h
    exact pg_tup hc (pgs_W hc nd A h) h1 h2
theorem pgs_W (hc : X.calm = true) (nd : X.N.Nodup) (A : At D X) : ∀ {ts : List PT} {es : List Expr}, corGs ts D es = true → PGs X es (gsOf X.K ts)
  | [], [], _ => pgs_nil
  | t :: ts, e :: es, h => by
    simp only [corGs, Bool.and_eq_true, Bool.not_eq_true'] at h
    exact pgs_cons (pg_W hc nd A h.1.2) (pgs_W hc nd A h.2) (by rw [asg_cons h.1.1]; rfl)
  | [], _ :: _, h => by simp [corGs] at h
  | _ :: _, [], h => by simp [corGs] at h
end
end
end LW

namespace LW
open PySem PySem.Spec PyProof.Rows L2
section
variable {b : Bs} {g : G} {s : Ds}
def SndE (b : Bs) (s : Ds) (g : G) (n : Nat) : Prop := ∀ p D e c E X, corE s g n p D e = true → Here b c E X → At D X → (D.lam = true → LamOk b X) → PE X e (lifE c E (evP g p))
def SndT (b : Bs) (s : Ds) (g : G) (n : Nat) : Prop := ∀ p D e c E X, corT s g n p D e = true → Here b c E X → At D X → (D.lam = true → LamOk b X) → L2.PT X e (lifT c E (evT g p))
def SndL (b : Bs) (s : Ds) (g : G) (n : Nat) : Prop := ∀ p D e c E X, corL s g n p D e = true → Here b c E X → At D X → (D.lam = true → LamOk b X) → RP c E X g p e
def SndTL (b : Bs) (s : Ds) (g : G) (n : Nat) : Prop := ∀ p D e c E X, corTL s g n p D e = true → Here b c E X → At D X → (D.lam = true → LamOk b X) → RT c E X g p e
def SndO (b : Bs) (s : Ds) (g : G) (n : Nat) : Prop := ∀ p D e c E X, corO s g n p D e = true → Here b c E X → At D X → (D.lam = true → LamOk b X) → RO c E X g p e
def SndI (b : Bs) (s : Ds) (g : G) (n : Nat) : Prop := ∀ k its D tg e c E X, corI s g n k its D tg e = true → Here b c E X → At D X → (D.lam = true → LamOk b X) → PI X tg e (lifI c E (evI g k its)) ∧ ∀ x, foldedSetIterable e X.env x = pure x
theorem pk_of : ∀ {ys : List PX} {kws : List Keyword} {c : SC} {E : XK} {X : Cx}, RP c E X g ys (kws.map (·.value)) → PK X kws (lifA c E (evL g ys))
  | [], [], _, _, _, _ => pk_nilW
  | y :: ys, ⟨nm, v, pos⟩ :: kws, c, E, X, h => pk_consW h.2.1 (pk_of h.2.2)
  | [], _ :: _, _, _, _, h => h.elim
  | _ :: _, [], _, _, _, h => h.elim
theorem snd_L {n : Nat} (hE : SndE b s g n) (hL : SndL b s g n) : SndL b s g (n + 1) := by
  intro p D e c E X h hh A lm
  cases p <;> cases e <;> first
    | exact True.intro
    | (simp [corL] at h; done)
    | skip
  simp only [corL, Bool.and_eq_true, Bool.not_eq_true'] at h
  exact ⟨h.1.1, hE _ _ _ _ _ _ h.1.2 hh A lm, hL _ _ _ _ _ _ h.2 hh A lm⟩
theorem snd_TL {n : Nat} (hE : SndT b s g n) (hL : SndTL b s g n) : SndTL b s g (n + 1) := by
  intro p D e c E X h hh A lm
  cases p <;> cases e <;> first
    | exact True.intro
    | (simp [corTL] at h; done)
    | skip
  simp only [corTL, Bool.and_eq_true] at h
  exact ⟨hE _ _ _ _ _ _ h.1 hh A lm, hL _ _ _ _ _ _ h.2 hh A lm⟩
theorem snd_O {n : Nat} (hE : SndE b s g n) : SndO b s g (n + 1) := by
  intro p D e c E X h hh A lm
  cases p <;> cases e <;> first
    | exact True.intro
    | (simp [corO] at h; done)
    | skip
  simp only [corO] at h
  exact hE _ _ _ _ _ _ h hh A lm
theorem snd_T {n : Nat} (S : Sup b s g) (hE : SndE b s g n) (hT : SndT b s g n) (hTL : SndTL b s g n) : SndT b s g (n + 1) := by
  intro p D e c E X h hh A lm
  unfold corT at h
  split at h
  · rename_i a l pos
    exact pt_notW (hT _ _ _ _ _ _ h hh A lm)
  · rename_i xs es pos
    simp only [Bool.and_eq_true, Bool.not_eq_true'] at h
    have hw := (pw_andW (pos := pos) (by intro z; rw [z] at h; simp at h) (hTL _ _ _ _ _ _ h.2 hh A lm)).pt
    refine pt_imp hw fun σ H Q q => lifT_eq (fun η M => ?_) q
    show ((evTAnd g xs η >>= blV) >>= asB) M = _
    rw [bl_as]
  · rename_i xs es pos
    simp only [Bool.and_eq_true, Bool.not_eq_true'] at h
    have hw := (pw_orW (pos := pos) (by intro z; rw [z] at h; simp at h) (hTL _ _ _ _ _ _ h.2 hh A lm)).pt
    refine pt_imp hw fun σ H Q q => lifT_eq (fun η M => ?_) q
    show ((evTOr g xs η >>= blV) >>= asB) M = _
    rw [bl_as]
  · simp only [Bool.and_eq_true, Bool.not_eq_true', decide_eq_true_eq] at h
    obtain ⟨⟨⟨h1, h2⟩, h3⟩, h4⟩ := h
    subst h1
    exact pt_cmpW hh S.own (S.kitc hh) (hE _ _ _ _ _ _ h2 hh A lm) (hE _ _ _ _ _ _ h3 hh A lm) h4
  · simp only [Bool.and_eq_true, Bool.not_eq_true', decide_eq_true_eq] at h
    obtain ⟨⟨⟨⟨⟨h0, h1⟩, h2⟩, h3⟩, h4⟩, h5⟩ := h
    subst h0
    subst h1
    exact pt_chainW hh S.own (S.kitc hh) (hE _ _ _ _ _ _ h2 hh A lm) (hE _ _ _ _ _ _ h3 hh A lm) (hE _ _ _ _ _ _ h4 hh A lm) h5
  · simp only [Bool.and_eq_true] at h
    have he := hE _ _ _ _ _ _ h.2 hh A lm
    have hK : X.K = c.K := hh.ok.K
    refine pt_imp (pt_plainW hK he h.1.1) fun σ H Q q => lifT_eq (fun η M => ?_) q
    cases p <;> first
      | exact post_T
      | (simp [plainP] at h; done)
theorem evI_val {p : PX} {η : Ev} : evI g .val [p] η = (evP g p η >>= walkM) := by
  show ((evE g p false η >>= fun x => (pure [] : Mw (List Av)) >>= fun xs => pure (x :: xs)) >>= itA .val) = _
  rw [Mw.assoc']
  rfl
theorem lifI_eq {c : SC} {E : XK} {m m' : Ev → Mw (List Wv)} (e : ∀ η, m η = m' η) {σ : L2.St} {H : Hp} {R : It → Hp → Prop} (h : lifI c E m σ H R) : lifI c E m' σ H R := by
  obtain ⟨ρ, η, M, rm, re, ok⟩ := h
  exact ⟨ρ, η, M, rm, re, by rw [← e]; exact ok⟩
theorem blt_of {D : Dc} {X : Cx} {c : SC} {E : XK} {y : Str} (S : Sup b s g) (hh : Here b c E X) (A : At D X) (h : bltB s D y = true) : Gl X y ∧ X.mg y = none ∧ (y == ("__debug__" : Str)) = false ∧ y ≠ "__name__" := by
  simp only [bltB, Bool.and_eq_true, decide_eq_true_eq] at h
  obtain ⟨h1, h2, h3⟩ := gl_of A h.1
  exact ⟨h1, by rw [hh.mg]; exact S.bl y h.2, h2, h3⟩
theorem snd_I {n : Nat} (S : Sup b s g) (hE : SndE b s g n) (hL : SndL b s g n) : SndI b s g (n + 1) := by
  intro k its D tg e c E X h hh A lm
  unfold corI at h
  split at h
  · simp only [Bool.and_eq_true] at h
    refine ⟨pi_imp (pi_walkW hh.ok (hE _ _ _ _ _ _ h.1 hh A lm)) fun σ H R q => lifI_eq (fun η => evI_val) q, fun x => ?_⟩
    obtain ⟨_, h2⟩ := h
    cases e <;> first
      | rfl
      | simp at h2
  · rename_i p y pos l pos2
    simp only [Bool.and_eq_true, decide_eq_true_eq] at h
    obtain ⟨⟨hy, hb⟩, hl⟩ := h
    subst hy
    obtain ⟨h1, h2, _, _⟩ := blt_of S hh A hb
    obtain ⟨pa, ns, _⟩ := (hL _ _ _ _ _ _ hl hh A lm).pa
    simp only [List.all_cons, Bool.and_eq_true, Bool.not_eq_true'] at ns
    exact ⟨pi_imp (pi_rangeW1 h1 h2 pa (star_cons ns.1)) fun σ H R q => q, fun x => rfl⟩
  · rename_i p q y pos l r pos2
    simp only [Bool.and_eq_true, decide_eq_true_eq] at h
    obtain ⟨⟨hy, hb⟩, hl⟩ := h
    subst hy
    obtain ⟨h1, h2, _, _⟩ := blt_of S hh A hb
    obtain ⟨pa, ns, _⟩ := (hL _ _ _ _ _ _ hl hh A lm).pa
    simp only [List.all_cons, Bool.and_eq_true, Bool.not_eq_true'] at ns
    exact ⟨pi_imp (pi_rangeW2 h1 h2 pa (by rw [star_cons ns.1, star_cons ns.2.1]; rfl) (star_cons ns.2.1)) fun σ H R q => q, fun x => rfl⟩
  · rename_i p q y pos l r pos2
    simp only [Bool.and_eq_true, decide_eq_true_eq] at h
    obtain ⟨⟨⟨hy, hb⟩, hl⟩, ht⟩ := h
    subst hy
    obtain ⟨h1, h2, _, _⟩ := blt_of S hh A hb
    obtain ⟨pa, ns, _⟩ := (hL _ _ _ _ _ _ hl hh A lm).pa
    have ns0 := ns
    simp only [List.all_cons, Bool.and_eq_true, Bool.not_eq_true'] at ns
    cases tg <;> first
      | (simp at ht; done)
      | skip
    exact ⟨pi_imp (pi_zipW hh.ok h1 h2 pa (star_cons ns.1) (star_none (by simp [ns.2.1]))) fun σ H R q => q, fun x => rfl⟩
  · cases h
theorem OK.bindq {c : SC} {H : Hp} {ρ : List Addr} {E : XK} {M : Mem} {α β α' β' : Type} {R : Hp → List Addr → α → β → Prop} {R' : Hp → List Addr → α' → β' → Prop} {Q' : β' → Hp → Prop} {x : Mw α} {f : α → Mw α'} (h : OK c R' H ρ E Q' ((x >>= f) M)) :
    OK c R H ρ E (fun b H1 => ∃ ρ1 M1 a, x M = .ok a M1 ∧ ρ <+: ρ1 ∧ Stb H H1 ∧ RM c H1 ρ1 M1 ∧ R H1 ρ1 a b ∧ OK c R' H1 ρ1 E Q' (f a M1)) (x M) := by
  have e : (x >>= f) M = Mw.bind x f M := rfl
  rw [e] at h
  unfold Mw.bind at h
  cases q : x M with
  | ok a M1 =>
    rw [q] at h
    exact fun ρ1 H1 b p s rm r => ⟨ρ1, M1, a, rfl, p, s, rm, r, h.step p s⟩
  | ex e M1 =>
    rw [q] at h
    exact h
  | no =>
    rw [q] at h
    exact h
theorem bind_ok {α β : Type} {x : Mw α} {f : α → Mw β} {M M' : Mem} {r : β} (h : (x >>= f) M = .ok r M') : ∃ a M1, x M = .ok a M1 ∧ f a M1 = .ok r M' := by
  have h : Mw.bind x f M = .ok r M' := h
  unfold Mw.bind at h
  cases q : x M with
  | ok a M1 => rw [q] at h; exact ⟨a, M1, rfl, h⟩
  | ex e M1 => rw [q] at h; cases h
  | no => rw [q] at h; cases h
theorem evL_len : ∀ {xs : List PX} {η : Ev} {M M' : Mem} {as : List Av}, evL g xs η M = .ok as M' → as.length = xs.length
  | [], η, M, M', as, h => by
    have h : Out.ok [] M = Out.ok as M' := h
    cases h
    rfl
  | x :: xs, η, M, M', as, h => by
    obtain ⟨a, M1, _, h⟩ := bind_ok h
    obtain ⟨as1, M2, h2, h⟩ := bind_ok h
    have h : Out.ok (a :: as1) M2 = Out.ok as M' := h
    cases h
    rw [List.length_cons, List.length_cons, evL_len h2]
theorem lifL_len {c : SC} {E : XK} {xs : List PX} {f : List Av → Mw Av} {σ : L2.St} {H : Hp} {Q : VK} (h : lifE c E (fun η => evL g xs η >>= f) σ H Q) : lifA c E (evL g xs) σ H (fun vs H1 => vs.length = xs.length ∧ lifC c E f vs H1 Q) := by
  obtain ⟨ρ, η, M, rm, re, ok⟩ := h
  refine ⟨ρ, η, M, rm, re, (OK.bindq (R := RAsr c) ok).mono ?_⟩
  rintro x H1 ⟨ρ1, M1, a, q, p1, s1, rm1, ra, ok1⟩
  exact ⟨by rw [← ra.len, evL_len q], ρ1, M1, a, rm1, ra, ok1⟩
theorem pts_imp {X : Cx} {ifs : List Expr} {t u : TT} (h : PTs X ifs t) (i : ∀ σ H Q, u σ H Q → t σ H Q) : PTs X ifs u := ⟨fun pins s σ H Q I hw => h.run pins s σ H Q I (i σ H Q hw)⟩
theorem evIfs_one {p : PX} {η : Ev} {M : Mem} : evIfs g [p] η M = evT g p η M := by
  show (evE g p true η >>= fun k => asB k >>= fun k => if k = true then (pure true : Mw Bool) else pure false) M = (evE g p true η >>= asB) M
  have e : (fun k => asB k >>= fun k => if k = true then (pure true : Mw Bool) else pure false) = asB := by
   funext a
   show Mw.bind (asB a) (fun k => if k = true then (pure true : Mw Bool) else pure false) = asB a
   funext M
   unfold Mw.bind
   cases asB a M with
   | ok k M' => cases k <;> rfl
   | ex e M' => rfl
   | no => rfl
  rw [e]
theorem snd_E {n : Nat} (S : Sup b s g) (hE : SndE b s g n) (hT : SndT b s g n) (hL : SndL b s g n) (hO : SndO b s g n) (hI : SndI b s g n) : SndE b s g (n + 1) := by
  intro p D e c E X h hh A lm
  have hK : X.K = c.K := hh.ok.K
  unfold corE at h
  split at h
  · exact pe_nameW A h
  · exact pe_conW h
  · simp only [Bool.and_eq_true, decide_eq_true_eq] at h
    obtain ⟨⟨h0, h1⟩, h2⟩ := h
    subst h0
    obtain ⟨w, hw⟩ := Option.isSome_iff_exists.mp h2
    obtain ⟨u, v, hm, rv, rw_⟩ := S.glob _ _ hw
    obtain ⟨z1, z2, z3⟩ := gl_of A h1
    refine pe_imp (pe_glob z1 (by rw [hh.mg]; exact hm) rv z2) fun σ H Q q => ?_
    obtain ⟨ρ, η, M, rm, re, ok⟩ := q
    have ok : OK c (RAr c) H ρ E Q (gloM g _ M) := ok
    unfold gloM at ok
    rw [hw] at ok
    exact OK.here (R := RAr c) ok rm (RW.sc (c := b.c0) (c' := c) hh.cK.symm hh.cmg.symm _ _ (rw_ H))
  · simp only [Bool.and_eq_true] at h
    obtain ⟨z1, z2, z3, z4⟩ := blt_of S hh A h.1
    have h1 := h.1
    simp only [bltB, Bool.and_eq_true] at h1
    exact pe_typW A z2 h1.1 h.2
  · simp only [Bool.and_eq_true, decide_eq_true_eq] at h
    obtain ⟨⟨h0, h1⟩, h2⟩ := h
    subst h0
    exact pe_imp (pe_op (opR_bin hh.ok _) (hE _ _ _ _ _ _ h1 hh A lm) (hE _ _ _ _ _ _ h2 hh A lm)) fun σ H Q q => lif2 (f := fun x y M => Mw.of (binA M _ x y) M) q
  · refine pe_imp (pe_un un_neg (hE _ _ _ _ _ _ h hh A lm)) fun σ H Q q => ?_
    obtain ⟨ρ, η, M, rm, re, ok⟩ := q
    refine ⟨ρ, η, M, rm, re, (OK.bind (R := RAr c) ok).mono ?_⟩
    rintro x H1 ⟨ρ1, M1, a, p1, s1, rm1, ra, ok1⟩
    unfold negM at ok1
    split at ok1
    · exact ⟨_, ra_int.mp ra, OK.here (R := RAr c) (a := .val (.int _)) ok1 rm1 (ra_int.mpr rfl)⟩
    · exact False.elim ok1
  · exact pe_notW hK (hE _ _ _ _ _ _ h hh A lm)
  · simp only [Bool.and_eq_true, Bool.not_eq_true'] at h
    exact pe_andW hK (by intro z; rw [z] at h; simp at h) (hL _ _ _ _ _ _ h.2 hh A lm)
  · simp only [Bool.and_eq_true, Bool.not_eq_true'] at h
    exact pe_orW hK (by intro z; rw [z] at h; simp at h) (hL _ _ _ _ _ _ h.2 hh A lm)
  · simp only [Bool.and_eq_true, Bool.not_eq_true', decide_eq_true_eq] at h
    obtain ⟨⟨⟨h1, h2⟩, h3⟩, h4⟩ := h
    subst h1
    exact pe_cmpW hh S.own (S.kitc hh) (hE _ _ _ _ _ _ h2 hh A lm) (hE _ _ _ _ _ _ h3 hh A lm) h4
  · simp only [Bool.and_eq_true, Bool.not_eq_true', decide_eq_true_eq] at h
    obtain ⟨⟨⟨⟨⟨h0, h1⟩, h2⟩, h3⟩, h4⟩, h5⟩ := h
    subst h0
    subst h1
    exact pe_chainW hh S.own (S.kitc hh) (hE _ _ _ _ _ _ h2 hh A lm) (hE _ _ _ _ _ _ h3 hh A lm) (hE _ _ _ _ _ _ h4 hh A lm) h5
  · simp only [Bool.and_eq_true] at h
    exact pe_ifW (hT _ _ _ _ _ _ h.1.1 hh A lm) (hE _ _ _ _ _ _ h.1.2 hh A lm) (hE _ _ _ _ _ _ h.2 hh A lm)
  · -- a call
    simp only [Bool.and_eq_true, decide_eq_true_eq] at h
    obtain ⟨⟨⟨⟨h0, h1⟩, h2⟩, h3⟩, h4⟩ := h
    subst h0
    obtain ⟨a, hm, U⟩ := S.fns _ h1
    obtain ⟨z1, z2, z3⟩ := gl_of A h2
    obtain ⟨ds, hd⟩ := Option.isSome_iff_exists.mp h3
    obtain ⟨pa, ns, hl⟩ := (hL _ _ _ _ _ _ h4 hh A lm).pa
    rename_i _ xs _ es _
    cases es with
    | nil =>
      have hx : xs = [] := List.eq_nil_of_length_eq_zero hl.symm
      subst hx
      exact pe_callW0 hh U hm z1 z2 hd
    | cons e es =>
      show PE X _ (lifE c E fun η => evL g xs η >>= g.call _ xs.length)
      rw [← hl]
      exact pe_callW hh U hm z1 z2 hd pa ns
  · -- a new instance
    simp only [Bool.and_eq_true, decide_eq_true_eq] at h
    obtain ⟨⟨⟨⟨h0, h1⟩, h2⟩, h3⟩, h4⟩ := h
    subst h0
    obtain ⟨C, fi, MK, U, hx⟩ := S.cls _ h1
    obtain ⟨z1, z2, z3⟩ := gl_of A h2
    obtain ⟨pa, ns, hl⟩ := (hL _ _ _ _ _ _ h3 hh A lm).pa
    rename_i f xs ks ys _ es kws _
    split at h4
    · simp only [Bool.and_eq_true, Bool.not_eq_true'] at h4
      obtain ⟨ds, hd⟩ := Option.isSome_iff_exists.mp h4.1
      cases es with
      | nil => simp at h4
      | cons e es =>
        show PE X _ (lifE c E fun η => evL g xs η >>= newA g _ xs.length)
        rw [← hl]
        exact pe_makeW hh MK U hx z1 z2 hd pa ns
    · simp only [Bool.and_eq_true, kwsB, decide_eq_true_eq] at h4
      obtain ⟨⟨k1, k2⟩, k3⟩ := h4
      split at k2
      · rename_i ss hss
        have hk := pk_of (hL _ _ _ _ _ _ k3 hh A lm)
        show PE X _ (lifE c E fun η => evL g xs η >>= fun as => evL g ys η >>= fun bs => newkA g _ xs.length _ as bs)
        rw [← hl]
        exact pe_makeKW hh MK U hx z1 z2 (n := es.length) hss k2 rfl (fun z => by
          subst z
          have : xs = [] := List.eq_nil_of_length_eq_zero hl.symm
          subst this
          rfl) pa ns hk k1
      · cases k2
    · cases h4
  · -- a builtin
    simp only [Bool.and_eq_true, decide_eq_true_eq, Bool.not_eq_true'] at h
    obtain ⟨⟨⟨h0, h1⟩, h2⟩, h3⟩ := h
    obtain ⟨z1, z2, z3, z4⟩ := blt_of S hh A h1
    obtain ⟨pa, ns, hl⟩ := (hL _ _ _ _ _ _ h3 hh A lm).pa
    rename_i _ xs _ _ es _
    cases es with
    | nil => simp at h2
    | cons e es => exact pe_biW hh S.own (S.kitc hh) h0 z1 z2 z3 z4 pa ns
  · -- append, pop
    simp only [Bool.and_eq_true, Bool.or_eq_true, decide_eq_true_eq, Bool.not_eq_true'] at h
    obtain ⟨⟨⟨⟨⟨⟨h0, h1⟩, h2⟩, h3⟩, h4⟩, h5⟩, h6⟩ := h
    subst h0
    have he := hE _ _ _ _ _ _ h3 hh A lm
    obtain ⟨pa, ns, hl⟩ := (hL _ _ _ _ _ _ h4 hh A lm).pa
    rename_i m o xs r ap es p
    have few : ∀ (e : Expr) (es : List Expr), (e :: es).all (fun e => !isStar e) = true → (e :: es).length < 30 → ((backTo p (starEach (e :: es) X.env)).all (fun x => !x.1) && (backToKw p (keywordEach [] X.env)).all (fun x => x.1.isSome) && decide ((e :: es).length + ([] : List Keyword).length + (if ([] : List Keyword).isEmpty then 0 else 1) < 30)) = true := fun e es ns hl => by
      have q : (backTo p (starEach (e :: es) X.env)).all (fun x => !x.1) = true := by
        have := star_none (env := X.env) (pos := p) ns
        rw [List.all_eq_not_any_not]
        simp only [Bool.not_not]
        rw [this]
        rfl
      rw [q]
      simpa [backToKw, keywordEach] using hl
    rcases h6 with ⟨e0, h6⟩ | e0
    · subst e0
      cases es with
      | nil => simp at h6
      | cons e es =>
        have ns0 := ns
        simp only [List.all_cons, Bool.and_eq_true, Bool.not_eq_true'] at ns
        exact pe_imp (pe_bm PySem.F.plainAttrs_list PySem.F.slot_list_append PySem.F.type_list_append mt_appendW he pa (attrBase h1) (few e es ns0 h5) h2 (star_cons ns.1) (star_none ns.2)) fun σ H Q q => lifMM hK q
    · subst e0
      cases es with
      | nil =>
        have hx : xs = [] := List.eq_nil_of_length_eq_zero hl.symm
        subst hx
        refine pe_imp (pe_bm0 PySem.F.plainAttrs_list PySem.F.slot_list_pop PySem.F.type_list_pop (mt_popW (c := c) (E := E)) he (attrBase h1) h2) fun σ H Q q => ?_
        obtain ⟨ρ, η, M, rm, re, ok⟩ := lifMM (X := X) (mo := evP g o) (ml := evL g []) (f := methA "pop") hK q
        refine ⟨ρ, η, M, rm, re, ok.mono ?_⟩
        rintro x H1 ⟨ty, ρ1, η1, M1, rm1, re1, ok1⟩
        exact ⟨ty, OK.here (R := RAsr c) ok1 rm1 RL.nil⟩
      | cons e es =>
        have ns0 := ns
        simp only [List.all_cons, Bool.and_eq_true, Bool.not_eq_true'] at ns
        exact pe_imp (pe_bm PySem.F.plainAttrs_list PySem.F.slot_list_pop PySem.F.type_list_pop mt_popW he pa (attrBase h1) (few e es ns0 h5) h2 (star_cons ns.1) (star_none ns.2)) fun σ H Q q => lifMM hK q
  · -- a field
    simp only [Bool.and_eq_true, decide_eq_true_eq] at h
    obtain ⟨⟨h0, h1⟩, h2⟩ := h
    subst h0
    exact pe_attrW hh (S.fldc hh) (hE _ _ _ _ _ _ h2 hh A lm) h1
  · simp only [Bool.and_eq_true] at h
    exact pe_slW hh (hE _ _ _ _ _ _ h.1.1 hh A lm) (hO _ _ _ _ _ _ h.1.2 hh A lm) (hO _ _ _ _ _ _ h.2 hh A lm)
  · simp only [Bool.and_eq_true] at h
    exact pe_ixW hh (hE _ _ _ _ _ _ h.1.2 hh A lm) (hE _ _ _ _ _ _ h.2 hh A lm) h.1.1
  · -- a tuple
    simp only [Bool.and_eq_true, decide_eq_true_eq] at h
    obtain ⟨pa, ns, hl⟩ := (hL _ _ _ _ _ _ h.2 hh A lm).pa
    refine pe_imp (pe_tup pa) fun σ H Q q => lifA_mono (lifL_len q) ?_
    rintro vs H1 ⟨hlen, ρ, M, as, rm, ra, ok⟩
    exact ⟨by rw [hlen]; exact h.1, fun p hp => new_tup rm ra ok hp⟩
  · -- a list
    simp only [Bool.and_eq_true, decide_eq_true_eq] at h
    obtain ⟨pa, ns, hl⟩ := (hL _ _ _ _ _ _ h.2 hh A lm).pa
    refine pe_imp (pe_frz (pe_lst pa)) fun σ H Q q => lifA_mono (lifL_len q) ?_
    rintro vs H1 ⟨hlen, ρ, M, as, rm, ra, ok⟩
    exact ⟨by rw [hlen]; exact h.1, fun p hp => new_list rm ra ok hp⟩
  · -- {}
    refine pe_imp (pe_frz pe_dnewK) fun σ H Q q => ?_
    obtain ⟨ρ, η, M, rm, re, ok⟩ := q
    have ok : OK c (RAr c) H ρ E Q (.ok (.val (.dct [] [])) M) := ok
    intro p hp
    refine .inr ⟨p, .dK [], rfl, upd_same, True.intro, fun o => ?_⟩
    rw [upd_upd]
    refine ok.then (List.prefix_refl _) (Stb.new hp) (rm.new hp) ?_
    simp only [RA, RW]
    exact ⟨p, o, [], rfl, upd_same, rfl, rfl⟩
  · -- what is heard of a lambda
    simp only [Bool.and_eq_true, decide_eq_true_eq] at h
    obtain ⟨⟨⟨⟨h1, h2⟩, h3⟩, h4⟩, h5⟩ := h
    obtain ⟨z1, z2, z3⟩ := gl_of A h3
    refine S.hrd _ h1 c E X _ _ (evP g _) _ _ _ hh (lm h2) (by rw [A.sc]; exact LamX.lamS_by h4) z1 z2 fun E1 A1 outer s1 H1 f cO hh1 => ?_
    exact hE _ _ _ _ _ _ h5 hh1 (lam_at A) (fun z => nomatch z)
  · -- a comprehension
    rename_i e t k its ifs own el tg it ifs' scope pos
    simp only [Bool.and_eq_true, List.all_eq_true, decide_eq_true_eq] at h
    obtain ⟨⟨⟨⟨⟨h1, h2⟩, h3⟩, h4⟩, h5⟩, h6⟩ := h
    obtain ⟨pi, hf⟩ := hI _ _ _ _ _ _ _ _ h4 hh A lm
    have ho : (own.map fun i => (((D.N[i]?).getD "", i) : Str × Nat)).map (·.2) = own := by
      rw [List.map_map]
      exact List.map_id' own
    have bk : BlkOk X.N X.env.scope scope (own.map fun i => ((D.N[i]?).getD "", i)) := by
      rw [A.N, A.sc]; exact blkOk_by h1
    have := pe_lcW (pos := pos) (mt := by assumption) (t := t) (mT := evIfs g ifs) (mE := evP g e) (ifs := ifs') hh.ok pi bk (fun sh H C cl fp => by
        have hb := hh.blk sh H scope (compEnvC scope cl C X.env) fp []
        have := pg_W hb.ok.calm hb.ok.nd (A.blk sh H scope C cl fp) h2
        rw [hb.ok.K] at this
        exact this) (fun sh H C cl fp l => by
        have hb := hh.blk sh H scope (compEnvC scope cl C X.env) fp l
        have A2 := A.blk sh H scope C cl fp
        split at h6
        · exact pts_imp pts_nil fun σ H Q q => by
            obtain ⟨ρ, η, M, rm, re, ok⟩ := q
            exact OK.here (R := fun _ _ a b => a = b) ok rm rfl
        · exact pts_imp (pts_one (hT _ _ _ _ _ _ h6 hb A2 (fun z => nomatch z))) fun σ H Q q => lifT_eq (fun η M => evIfs_one) q
        · cases h6) (fun sh H C cl fp l => hE _ _ _ _ _ _ h5 (hh.blk sh H scope (compEnvC scope cl C X.env) fp l) (A.blk sh H scope C cl fp) (fun z => nomatch z)) (fun i hi => by rw [ho]; exact h3 i hi) hf
    rw [ho] at this
    exact this
  · cases h

theorem corL_zero {p : List PX} {D : Dc} {e : List Expr} (h : corL s g 0 p D e = true) : p = [] ∧ e = [] := by
  cases p <;> cases e <;> first
    | exact ⟨rfl, rfl⟩
    | simp [corL] at h
theorem snd (S : Sup b s g) : ∀ n, SndE b s g n ∧ SndT b s g n ∧ SndL b s g n ∧ SndTL b s g n ∧ SndO b s g n ∧ SndI b s g n
  | 0 => by
    refine ⟨fun p D e c E X h => ?_, fun p D e c E X h => ?_, fun p D e c E X h hh A lm => ?_, fun p D e c E X h hh A lm => ?_, fun p D e c E X h hh A lm => ?_, fun k its D tg e c E X h => ?_⟩
    · simp [corE] at h
    · simp [corT] at h
    · cases p <;> cases e <;> first
        | exact True.intro
        | (simp [corL] at h; done)
    · cases p <;> cases e <;> first
        | exact True.intro
        | (simp [corTL] at h; done)
    · cases p <;> cases e <;> first
        | exact True.intro
        | (simp [corO] at h; done)
    · simp [corI] at h
  | n + 1 => by
    obtain ⟨hE, hT, hL, hTL, hO, hI⟩ := snd S n
    exact ⟨snd_E S hE hT hL hO hI, snd_T S hE hT hTL, snd_L hE hL, snd_TL hT hTL, snd_O hE, snd_I S hE hL⟩
end
end LW

namespace LW
open PySem PySem.Spec PyProof.Rows L2

/-! ### statements -/
inductive FV where
  | nx (σ : L2.St) | bk (σ : L2.St) | ct (σ : L2.St) | rt (v : V)
def RF (c : SC) : Hp → List Addr → Fl × Ev → FV → Prop := fun H ρ a r => match a.1, r with
  | .nx, .nx σ => RE c H ρ a.2 σ
  | .bk, .bk σ => RE c H ρ a.2 σ
  | .ct, .ct σ => RE c H ρ a.2 σ
  | .rt x, .rt v => RA c H ρ x v
  | _, _ => False
def QD (D : Ends) : FV → Hp → Prop
  | .nx σ, H => D.nx σ H
  | .bk σ, H => D.bk σ H
  | .ct σ, H => D.ct σ H
  | .rt v, H => D.rt v H
def lifSt (c : SC) (E : XK) (m : Ev → Mw (Fl × Ev)) : TS := fun D σ H => ∃ ρ η M, RM c H ρ M ∧ RE c H ρ η σ ∧ OK c (RF c) H ρ E (QD D) (m η M)
theorem ps_imp {X : Cx} {st : Stmt} {t u : TS} (h : PS X st t) (i : ∀ D σ H, u D σ H → t D σ H) : PS X st u := ⟨fun pins s σ H D I hw => h.run pins s σ H D I (i D σ H hw)⟩
theorem pss_imp {X : Cx} {st : List Stmt} {t u : TS} (h : PSs X st t) (i : ∀ D σ H, u D σ H → t D σ H) : PSs X st u := ⟨fun pins s σ H D I hw => h.run pins s σ H D I (i D σ H hw)⟩
section
variable {b : Bs} {c : SC} {E : XK} {X : Cx} {g : G} {D : Dc} {s : Ds}
theorem OK.nx {D : Ends} {H : Hp} {ρ : List Addr} {η : Ev} {σ : L2.St} {M : Mem} (ok : OK c (RF c) H ρ E (QD D) (.ok (.nx, η) M)) (rm : RM c H ρ M) (re : RE c H ρ η σ) : D.nx σ H := OK.here (R := RF c) (b := FV.nx σ) ok rm re
def putM (t : PT) (a : Av) (η : Ev) : Mw (Fl × Ev) := match putT t a η with
  | some η1 => pure (.nx, η1)
  | none => Mw.fail
theorem st_asg {t : PT} {m : Ev → Mw Av} {D : Ends} {σ : L2.St} {H : Hp} (h : lifSt c E (fun η => m η >>= fun a => putM t a η) D σ H) : lifE c E m σ H fun x H1 => gOf c.K t x σ H1 D.nx := by
  obtain ⟨ρ, η, M, rm, re, ok⟩ := h
  refine ⟨ρ, η, M, rm, re, (OK.bind (R := RAr c) ok).mono ?_⟩
  rintro x H1 ⟨ρ1, M1, a, p1, s1, rm1, ra, ok1⟩
  unfold putM at ok1
  cases hp : putT t a η with
  | none => rw [hp] at ok1; exact False.elim ok1
  | some η1 =>
    rw [hp] at ok1
    exact put_ok t ra (re.mono s1 p1) hp fun σ' re' _ => OK.nx ok1 rm1 re'
theorem ps_asgW {t : PT} {tg e : Expr} {pos : Pos} {m : Ev → Mw Av} (hK : X.K = c.K) (he : PE X e (lifE c E m)) (hg : PG X tg (gOf X.K t)) (hns : isStar tg = false) (hs : swapsWithSole [tg] e pos.line X.env = pure false) (hw : swappedStores [tg] e X.env = pure none) :
    PS X (.Assign [tg] e pos) (lifSt c E fun η => m η >>= fun a => putM t a η) :=
  ps_imp (ps_asg he hg hs hw (by rw [asg_cons hns]; rfl)) fun D σ H q => by rw [hK]; exact st_asg q
/-- a list that a name takes at once -/
theorem ps_frzS {st : Stmt} {t : TS} (h : PS X st t) : PS X st (fun D σ H => t { D with nx := fun σ' H' => D.nx σ' H' ∨ ∃ a u, H' a = some u ∧ Mut (some u) ∧ ∀ o, D.nx σ' (upd H' a (.frz o u)) } σ H) := by
  refine ⟨fun pins s σ H D I hw => ?_⟩
  refine thn (h.run pins s σ H _ I hw) fun fl s1 hq => ?_
  cases fl with
  | next =>
    obtain ⟨σ', H', I1, q⟩ := hq
    rcases q with q | ⟨a, u, e1, m, q⟩
    · exact ⟨σ', H', I1, q⟩
    · obtain ⟨ob, _, I2⟩ := mut_frz I1 e1 m
      exact ⟨σ', _, I2, q ob⟩
  | ret u => exact hq
  | brk => exact hq
  | cont => exact hq
theorem retA_ok {n : Nat} {a : Av} {x : V} {H : Hp} {ρ : List Addr} {M : Mem} {Q : VK} (rm : RM c H ρ M) (ra : RA c H ρ a x) (ok : OK c (RAr c) H ρ E Q (retA n a M)) : QF Q x H := by
  cases a with
  | val w => exact .inl (OK.here (R := RAr c) ok rm ra)
  | ref i =>
    have ok : OK c (RAr c) H ρ E Q (if i < n then .ok (.ref i) M else match M[i]? with
      | some (.lst xs) => (match pures xs with
        | some ws => .ok (.val (.lst ws)) (M.set i .dead)
        | none => .no)
      | some (.dct ks xs) => (match pures xs with
        | some ws => .ok (.val (.dct ks ws)) (M.set i .dead)
        | none => .no)
      | _ => .no) := ok
    split at ok
    · exact .inl (ok.here rm ra)
    · obtain ⟨p, e1, e2⟩ := ra
      subst e2
      split at ok
      · rename_i xs hx
        obtain ⟨vs, h1, h2⟩ := rm.at_ i p _ e1 hx
        split at ok
        · rename_i ws hw
          rw [pures_some hw] at h2
          refine .inr ⟨p, .lst vs, rfl, h1, True.intro, fun o => ?_⟩
          have st : Stb H (upd H p (.frz o (.lst vs))) := Stb.write (by rw [h1]; exact True.intro)
          refine ok.then (List.prefix_refl _) st (rm.put e1 (by rw [h1]; exact True.intro) True.intro) ?_
          simp only [RA, RW]
          exact ⟨p, vs, rfl, ⟨o, upd_same⟩, RWs_iff.mpr ((RL_val h2).imp fun w v => RW.mono st w v)⟩
        · exact False.elim ok
      · rename_i ks xs hx
        obtain ⟨kvs, h1, h3, h2⟩ := rm.at_ i p _ e1 hx
        split at ok
        · rename_i ws hw
          rw [pures_some hw] at h2
          refine .inr ⟨p, .dK kvs, rfl, h1, True.intro, fun o => ?_⟩
          have st : Stb H (upd H p (.frz o (.dK kvs))) := Stb.write (by rw [h1]; exact True.intro)
          refine ok.then (List.prefix_refl _) st (rm.put e1 (by rw [h1]; exact True.intro) True.intro) ?_
          simp only [RA, RW]
          exact ⟨p, o, kvs, rfl, upd_same, h3, RWs_iff.mpr ((RL_val h2).imp fun w v => RW.mono st w v)⟩
        · exact False.elim ok
      · exact False.elim ok
theorem ps_retW {n : Nat} {e : Expr} {pos : Pos} {m : Ev → Mw Av} (he : PE X e (lifE c E m)) : PS X (.Return (some e) pos) (lifSt c E fun η => m η >>= fun a => retA n a >>= fun a => pure (.rt a, η)) :=
  ps_imp (ps_ret (pe_frz he)) fun D σ H q => by
    obtain ⟨ρ, η, M, rm, re, ok⟩ := q
    refine ⟨ρ, η, M, rm, re, (OK.bind (R := RAr c) ok).mono ?_⟩
    rintro x H1 ⟨ρ1, M1, a, p1, s1, rm1, ra, ok1⟩
    refine retA_ok (n := n) (E := E) rm1 ra ((OK.bind (R := RAr c) ok1).mono ?_)
    rintro v H2 ⟨ρ2, M2, a', p2, s2, rm2, ra2, ok2⟩
    exact OK.here (R := RF c) (b := FV.rt v) ok2 rm2 ra2
theorem ps_retkW {e : Expr} {pos : Pos} {m : Ev → Mw Av} (he : PE X e (lifE c E m)) : PS X (.Return (some e) pos) (lifSt c E fun η => m η >>= fun a => pure (.rt a, η)) :=
  ps_imp (ps_ret he) fun D σ H q => by
    obtain ⟨ρ, η, M, rm, re, ok⟩ := q
    refine ⟨ρ, η, M, rm, re, (OK.bind (R := RAr c) ok).mono ?_⟩
    rintro x H1 ⟨ρ1, M1, a, p1, s1, rm1, ra, ok1⟩
    exact OK.here (R := RF c) (b := FV.rt x) ok1 rm1 ra
theorem ps_retNW {pos : Pos} : PS X (.Return none pos) (lifSt c E fun η => pure (.rt (.val .non), η)) :=
  ps_imp ps_retN fun D σ H q => by
    obtain ⟨ρ, η, M, rm, re, ok⟩ := q
    exact OK.here (R := RF c) (a := (.rt (.val .non), η)) (b := FV.rt .non) ok rm (show RA c H ρ (.val .non) .non from ra_non.mpr rfl)
theorem ps_exW {e : Expr} {pos : Pos} {m : Ev → Mw Av} (he : PE X e (lifE c E m)) (hs : swapsWith e none pos.line X.env = pure false) : PS X (.Expr e pos) (lifSt c E fun η => m η >>= fun _ => pure (.nx, η)) :=
  ps_imp (ps_expr he hs) fun D σ H q => by
    obtain ⟨ρ, η, M, rm, re, ok⟩ := q
    refine ⟨ρ, η, M, rm, re, (OK.bind (R := RAr c) ok).mono ?_⟩
    rintro x H1 ⟨ρ1, M1, a, p1, s1, rm1, ra, ok1⟩
    exact OK.nx ok1 rm1 (re.mono s1 p1)
theorem ps_passW {pos : Pos} : PS X (.Pass pos) (lifSt c E fun η => pure (.nx, η)) := ps_imp ps_pass fun D σ H q => by
  obtain ⟨ρ, η, M, rm, re, ok⟩ := q
  exact OK.nx ok rm re
theorem ps_brkW {pos : Pos} : PS X (.Break pos) (lifSt c E fun η => pure (.bk, η)) := ps_imp ps_break fun D σ H q => by
  obtain ⟨ρ, η, M, rm, re, ok⟩ := q
  exact OK.here (R := RF c) (b := FV.bk σ) ok rm re
theorem ps_contW {pos : Pos} : PS X (.Continue pos) (lifSt c E fun η => pure (.ct, η)) := ps_imp ps_continue fun D σ H q => by
  obtain ⟨ρ, η, M, rm, re, ok⟩ := q
  exact OK.here (R := RF c) (b := FV.ct σ) ok rm re
theorem pss_nilW : PSs X [] (lifSt c E fun η => pure (.nx, η)) := pss_imp pss_nil fun D σ H q => by
  obtain ⟨ρ, η, M, rm, re, ok⟩ := q
  exact OK.nx ok rm re
def seqM (x : Mw (Fl × Ev)) (r : Ev → Mw (Fl × Ev)) : Mw (Fl × Ev) := fun M => match x M with
  | .ok (.nx, η1) M1 => r η1 M1
  | .ok (f, η1) M1 => .ok (f, η1) M1
  | .ex e M1 => .ex e M1
  | .no => .no
theorem pss_consW {st : Stmt} {r : List Stmt} {m n : Ev → Mw (Fl × Ev)} (h1 : PS X st (lifSt c E m)) (h2 : PSs X r (lifSt c E n)) : PSs X (st :: r) (lifSt c E fun η => seqM (m η) n) :=
  pss_imp (pss_cons h1 h2) fun D σ H q => by
    obtain ⟨ρ, η, M, rm, re, ok⟩ := q
    refine ⟨ρ, η, M, rm, re, ?_⟩
    have ok : OK c (RF c) H ρ E (QD D) (match m η M with
      | .ok (.nx, η1) M1 => n η1 M1
      | .ok (f, η1) M1 => .ok (f, η1) M1
      | .ex e M1 => .ex e M1
      | .no => .no) := ok
    cases h : m η M with
    | no => rw [h] at ok; exact ok
    | ex e M1 => rw [h] at ok; exact ok
    | ok r M1 =>
      rw [h] at ok
      obtain ⟨f, η1⟩ := r
      intro ρ' H' v p st rm' r'
      cases f <;> cases v <;> first
        | exact False.elim r'
        | skip
      · exact ⟨ρ', η1, M1, rm', r', ok.step p st⟩
      · exact ok.then p st rm' (b := FV.bk _) r'
      · exact ok.then p st rm' (b := FV.ct _) r'
      · exact ok.then p st rm' (b := FV.rt _) r'
theorem ps_ifSW {e : Expr} {sa sb : List Stmt} {pos : Pos} {mt : Ev → Mw Bool} {ma mb : Ev → Mw (Fl × Ev)} (ht : L2.PT X e (lifT c E mt)) (ha : PSs X sa (lifSt c E ma)) (hb : PSs X sb (lifSt c E mb)) : PS X (.If e sa sb pos) (lifSt c E fun η => mt η >>= fun k => if k = true then ma η else mb η) :=
  ps_imp (ps_if ht ha hb) fun D σ H q => by
    obtain ⟨ρ, η, M, rm, re, ok⟩ := q
    refine ⟨ρ, η, M, rm, re, (OK.bind (R := fun _ _ a b => a = b) ok).mono ?_⟩
    rintro k H1 ⟨ρ1, M1, k', p1, s1, rm1, ek, ok1⟩
    subst ek
    cases k' with
    | true => exact ⟨ρ1, η, M1, rm1, re.mono s1 p1, by simpa using ok1⟩
    | false => exact ⟨ρ1, η, M1, rm1, re.mono s1 p1, by simpa using ok1⟩
theorem ps_whileW {e : Expr} {sb : List Stmt} {pos : Pos} {mt : Ev → Mw Bool} {mb : Ev → Mw (Fl × Ev)} {n : Nat} (hp : PassesOwn (model X.prog X.w) X.A X.env X.xe) (ht : L2.PT X e (lifT c E mt)) (hb : PSs X sb (lifSt c E mb)) : PS X (.While e sb [] pos) (lifSt c E fun η => whileW mt mb n η) :=
  ps_imp (ps_while hp ht hb) fun D σ H q => by
    obtain ⟨ρ, η, M, rm, re, ok⟩ := q
    refine ⟨fun m σ H => ∃ ρ η M, RM c H ρ M ∧ RE c H ρ η σ ∧ OK c (RF c) H ρ E (QD D) (whileW mt mb m η M), ⟨n, ρ, η, M, rm, re, ok⟩, ?_⟩
    rintro m σ1 H1 ⟨ρ1, η1, M1, rm1, re1, ok1⟩
    cases m with
    | zero => exact False.elim ok1
    | succ m =>
      refine ⟨ρ1, η1, M1, rm1, re1, ?_⟩
      simp only [whileW] at ok1
      cases h : mt η1 M1 with
      | no => rw [h] at ok1; exact ok1
      | ex e M2 => rw [h] at ok1; exact ok1
      | ok k M2 =>
        rw [h] at ok1
        intro ρ2 H2 k2 p2 s2 rm2 ek
        subst ek
        have re2 := re1.mono s2 p2
        cases k with
        | false =>
          rw [if_neg Bool.false_ne_true]
          exact ok1.then p2 s2 rm2 (b := FV.nx _) re2
        | true =>
          rw [if_pos rfl]
          refine ⟨fun σ H => ∃ ρ η M, RM c H ρ M ∧ RE c H ρ η σ ∧ OK c (RF c) H ρ E (QD D) (whileW mt mb m η M), fun σ' H' w => ⟨m, Nat.lt_succ_self m, w⟩, ρ2, η1, M2, rm2, re2, ?_⟩
          dsimp only at ok1
          have ok2 := ok1.step p2 s2
          cases h2 : mb η1 M2 with
          | no => rw [h2] at ok2; exact ok2
          | ex e M3 => rw [h2] at ok2; exact ok2
          | ok r M3 =>
            rw [h2] at ok2
            obtain ⟨f, η2⟩ := r
            intro ρ' H' v p st rm' r'
            cases f <;> cases v <;> first
              | exact False.elim r'
              | skip
            · exact ⟨ρ', η2, M3, rm', r', ok2.step p st⟩
            · exact ok2.then p st rm' (b := FV.nx _) r'
            · exact ⟨ρ', η2, M3, rm', r', ok2.step p st⟩
            · exact ok2.then p st rm' (b := FV.rt _) r'
theorem ps_forW {tg it : Expr} {sb : List Stmt} {pos : Pos} {t : PT} {mi : Ev → Mw (List Wv)} {mb : Ev → Mw (Fl × Ev)} (hK : X.K = c.K) (hp : PassesOwn (model X.prog X.w) X.A X.env X.xe) (hc : X.calm = true) (hi : PI X tg it (lifI c E mi)) (hg : PG X tg (gOf X.K t)) (hb : PSs X sb (lifSt c E mb))
    (hs : ∀ x, foldedSetIterable it X.env x = pure x) : PS X (.For tg it sb [] pos) (lifSt c E fun η => mi η >>= fun ws => forW mb t ws η) :=
  ps_imp (ps_for hp hc hi hg hb hs) fun D σ H q => by
    obtain ⟨ρ, η, M, rm, re, ok⟩ := q
    refine ⟨ρ, η, M, rm, re, (OK.bind (R := RIr c) ok).mono ?_⟩
    rintro J H1 ⟨ρ1, M1, ws, p1, s1, rm1, yl, ok1⟩
    refine ⟨fun i m σ H => ∃ ρ η M, Stb H1 H ∧ RM c H ρ M ∧ RE c H ρ η σ ∧ i + m = ws.length ∧ OK c (RF c) H ρ E (QD D) (forW mb t (ws.drop i) η M), ⟨ws.length, ρ1, η, M1, Stb.refl _, rm1, re.mono s1 p1, by omega, ok1⟩, ?_⟩
    rintro i m σ2 H2 ⟨ρ2, η2, M2, st2, rm2, re2, hm, ok2⟩
    obtain ⟨y1, y2, y3⟩ := yl i H2 st2
    by_cases hi : i < ws.length
    · refine .inr ⟨y1 hi, fun σ H => ∃ ρ η M, Stb H1 H ∧ RM c H ρ M ∧ RE c H ρ η σ ∧ OK c (RF c) H ρ E (QD D) (forW mb t (ws.drop (i + 1)) η M), fun σ' H' ⟨a1, a2, a3, a4, a5, a6, a7⟩ => ⟨m - 1, by omega, a1, a2, a3, a4, a5, a6, by omega, a7⟩, fun x H3 hy => ?_⟩
      obtain ⟨hH, w, hw, rw_⟩ := y3 x H3 hi hy
      have hst : Stb H2 H3 := by
        rcases hH with e | ⟨p, u, hp, hu, e⟩
        · rw [e]; exact Stb.refl _
        · rw [e]; exact Stb.new hp
      have rm3 : RM c H3 ρ2 M2 := by
        rcases hH with e | ⟨p, u, hp, hu, e⟩
        · rw [e]; exact rm2
        · rw [e]; exact rm2.new hp hu
      have hd : ws.drop i = w :: ws.drop (i + 1) := by
        rw [List.drop_eq_getElem_cons hi]
        rw [List.getElem?_eq_getElem hi] at hw
        rw [Option.some.inj hw]
      have ok3 := ok2.step (List.prefix_refl ρ2) hst
      rw [hd] at ok3
      simp only [forW] at ok3
      cases hp' : putT t (.val w) η2 with
      | none => rw [hp'] at ok3; exact False.elim ok3
      | some η3 =>
        rw [hp'] at ok3
        dsimp only at ok3
        rw [hK]
        refine put_ok t (a := .val w) (ρ := ρ2) rw_ (re2.mono hst (List.prefix_refl _)) hp' fun σ4 re4 _ => ⟨ρ2, η3, M2, rm3, re4, ?_⟩
        cases h2 : mb η3 M2 with
        | no => rw [h2] at ok3; exact ok3
        | ex e M3 => rw [h2] at ok3; exact ok3
        | ok r M3 =>
          rw [h2] at ok3
          obtain ⟨f, η5⟩ := r
          intro ρ' H' v p st rm' r'
          cases f <;> cases v <;> first
            | exact False.elim r'
            | skip
          · exact ⟨ρ', η5, M3, (st2.trans hst).trans st, rm', r', ok3.step p st⟩
          · exact ok3.then p st rm' (b := FV.nx _) r'
          · exact ⟨ρ', η5, M3, (st2.trans hst).trans st, rm', r', ok3.step p st⟩
          · exact ok3.then p st rm' (b := FV.rt _) r'
    · refine .inl ⟨y2 (by omega), ?_⟩
      have hd : ws.drop i = [] := List.drop_eq_nil_of_le (by omega)
      rw [hd] at ok2
      exact OK.nx (η := η2) ok2 rm2 re2
end
end LW

namespace LW
open PySem PySem.Spec PyProof.Rows L2
section
variable {b : Bs} {c : SC} {E : XK} {X : Cx} {g : G} {D : Dc} {s : Ds}
/-! ### a, b = x, y -/
def parK (i j : Nat) (η : Ev) : List Av → Mw (Fl × Ev)
  | [a, b] => pure (Fl.nx, (η.set i (some a)).set j (some b))
  | _ => Mw.fail
theorem ps_parW {i j : Nat} {x y : Str} {e f : Expr} {px py pt pos pt2 : Pos} {kt k2 : Nat} {p q : PX} (hh : Here b c E X) (A : At D X) (hi : D.N[i]? = some x) (hj : D.N[j]? = some y) (hij : i ≠ j) (hx : D.sc.names.lookup x = some .local) (hy : D.sc.names.lookup y = some .local)
    (hp : RP c E X g [p, q] [e, f]) (hk : D.sc.kind = .function) (hl : py.line = px.line) (hxy : x ≠ y) (h1 : foldedForSure 8 e = false ∨ foldedForSure 8 f = false) (h2 : constantsAlone 8 e = false ∨ constantsAlone 8 f = false) :
    PS X (.Assign [.Tuple [.Name x px, .Name y py] kt pt] (.Tuple [e, f] k2 pt2) pos) (lifSt c E fun η => evP g p η >>= fun a => evP g q η >>= fun b => pure (.nx, (η.set i (some a)).set j (some b))) := by
  obtain ⟨pa, ns, _⟩ := hp.pa
  have hw : swappedStores [.Tuple [.Name x px, .Name y py] kt pt] (.Tuple [e, f] k2 pt2) X.env = pure (some [x, y]) := by
    have hb : X.env.blockKind = .function := by
      unfold Env.blockKind
      rw [A.sc, hk]
      rfl
    have kx : X.env.kindOf x = some .local := by unfold Env.kindOf; rw [A.sc]; exact hx
    have ky : X.env.kindOf y = some .local := by unfold Env.kindOf; rw [A.sc]; exact hy
    simp only [List.all_cons, List.all_nil, Bool.and_true, Bool.and_eq_true, Bool.not_eq_true'] at ns
    have ne : ([x, y] : List Str).eraseDups = [x, y] := by
      rw [List.eraseDups_cons]
      have e1 : ([y] : List Str).filter (fun b => !b == x) = [y] := by simp [hxy.symm]
      rw [e1, List.eraseDups_cons]
      simp
    have st : ([e, f].any fun z => match z with | .Starred _ _ => true | _ => false) = false := by
      have q1 := ns.1
      have q2 := ns.2
      cases e <;> cases f <;> first | rfl | simp [isStar] at q1 q2
    have z1 : [e, f].all (foldedForSure 8) = false := by
      simp only [List.all_cons, List.all_nil, Bool.and_true, Bool.and_eq_false_iff]
      exact h1
    have z2 : [e, f].all (constantsAlone 8) = false := by
      simp only [List.all_cons, List.all_nil, Bool.and_true, Bool.and_eq_false_iff]
      exact h2
    have lx : (Expr.Name x px).pos.line = px.line := rfl
    unfold swappedStores
    simp [hb, kx, ky, ne, z1, z2, lx, hl]
    intro hstar
    exfalso
    obtain ⟨q1, q2⟩ := ns
    rcases hstar with hstar | hstar
    · cases e <;> first | (simp at hstar; done) | simp [isStar] at q1
    · cases f <;> first | (simp at hstar; done) | simp [isStar] at q2
  refine ps_imp (ps_par hh.ok.calm hh.ok.nd (by rw [A.N]; exact hi) (by rw [A.N]; exact hj) hij (by rw [A.sc]; exact hx) (by rw [A.sc]; exact hy) pa hw) fun Dn σ H q' => ?_
  obtain ⟨ρ, η, M, rm, re, ok⟩ := q'
  have e1 : (evP g p η >>= fun a => evP g q η >>= fun b => (pure (Fl.nx, (η.set i (some a)).set j (some b)) : Mw (Fl × Ev))) = (evL g [p, q] η >>= parK i j η) := by
    have e0 : evL g [p, q] η = (evE g p false η >>= fun x => (evE g q false η >>= fun y => (pure [] : Mw (List Av)) >>= fun xs => pure (y :: xs)) >>= fun xs => pure (x :: xs)) := rfl
    rw [e0, Mw.assoc']
    congr 1
    funext a
    rw [Mw.assoc', Mw.assoc']
    rfl
  have ok : OK c (RF c) H ρ E (QD Dn) ((evP g p η >>= fun a => evP g q η >>= fun b => (pure (Fl.nx, (η.set i (some a)).set j (some b)) : Mw (Fl × Ev))) M) := ok
  rw [e1] at ok
  refine ⟨ρ, η, M, rm, re, (OK.bind (R := RAsr c) ok).mono ?_⟩
  rintro vs H1 ⟨ρ1, M1, as, p1, s1, rm1, ras, ok1⟩
  unfold parK at ok1
  split at ok1
  · obtain ⟨v, r, e2, r1, w, r', e3, r2, r3⟩ := ras
    cases r3
    subst e3
    exact ⟨v, w, e2, OK.nx ok1 rm1 (((re.mono s1 p1).set i r1).set j r2)⟩
  · exact False.elim ok1

/-! ### o[i] = e -/
theorem ps_subW {o i e : Expr} {tpos pos : Pos} {p q r : PX} (hh : Here b c E X) (ho : PE X o (lifE c E (evP g p))) (hi : PE X i (lifE c E (evP g q))) (he : PE X e (lifE c E (evP g r))) (hpi : plainI i = true) (hsw : swapsWith e (some (.Subscript o i tpos)) pos.line X.env = pure false) :
    PS X (.Assign [.Subscript o i tpos] e pos) (lifSt c E fun η => evP g r η >>= fun v => evP g p η >>= fun x => evP g q η >>= fun y => setA x y v >>= fun _ => pure (.nx, η)) := by
  refine ps_imp (ps_asg he (pg_sub ho hi set_list (by cases i <;> first | (intro _; rfl) | simp [plainI] at hpi)) hsw (by cases e <;> rfl)) fun Dn σ H q' => ?_
  obtain ⟨ρ, η, M, rm, re, ok⟩ := q'
  refine ⟨ρ, η, M, rm, re, (OK.bind (R := RAr c) ok).mono ?_⟩
  rintro v H1 ⟨ρ1, M1, av, p1, s1, rm1, ra, ok1⟩
  have re1 := re.mono s1 p1
  refine ⟨ρ1, η, M1, rm1, re1, (OK.bind (R := RAr c) ok1).mono ?_⟩
  rintro x H2 ⟨ρ2, M2, ax, p2, s2, rm2, rx, ok2⟩
  have re2 := re1.mono s2 p2
  refine ⟨ρ2, η, M2, rm2, re2, (OK.bind (R := RAr c) ok2).mono ?_⟩
  rintro y H3 ⟨ρ3, M3, ay, p3, s3, rm3, ry, ok3⟩
  have re3 := re2.mono s3 p3
  have rx3 := RA.mono s3 p3 _ _ rx
  have rv3 := RA.mono s3 p3 _ _ (RA.mono s2 p2 _ _ ra)
  have ok3 : OK c (RF c) H3 ρ3 E (QD Dn) (Mw.bind (setA ax ay av) (fun _ => (pure (.nx, η) : Mw (Fl × Ev))) M3) := ok3
  unfold Mw.bind setA at ok3
  cases ax with
  | val w => exact False.elim ok3
  | ref n =>
    cases ay with
    | ref m => exact False.elim ok3
    | val w =>
      cases w <;> first
        | exact False.elim ok3
        | skip
      rename_i j _
      dsimp only at ok3
      cases hm : M3[n]? with
      | none => rw [hm] at ok3; exact False.elim ok3
      | some k =>
        rw [hm] at ok3
        cases k <;> first
          | exact False.elim ok3
          | skip
        rename_i xs
        dsimp only at ok3
        cases hj : ixN xs.length j with
        | none => rw [hj] at ok3; exact False.elim ok3
        | some k =>
          rw [hj] at ok3
          obtain ⟨pp, vs, e1, e2, h1, h2⟩ := cell_lst rm3 rx3 hm
          have st : Stb H3 (upd H3 pp (.lst (vs.set k v))) := Stb.write (by rw [h1]; exact True.intro)
          refine ⟨pp, vs, j, k, e2, ra_int.mp ry, h1, by rw [← h2.len]; exact hj, ?_⟩
          have rv4 := RA.mono st (List.prefix_refl _) _ _ rv3
          exact (ok3.then (List.prefix_refl _) st (rm3.put e1 (by rw [h1]; exact True.intro) ⟨_, upd_same, RL.set rv4 k (RAs.mono st (List.prefix_refl _) h2)⟩) (b := FV.nx σ) (re3.mono st (List.prefix_refl _)))

/-! ### o.f = e -/
theorem putFA_ok {H : Hp} {ρ : List Addr} {f : Str} {a : Av} {v : V} (ra : RA c H ρ a v) : ∀ {ns : List Str} {xs : List Av} {fs : List (Str × V)}, fs.map (·.1) = ns → RL (RA c H ρ) xs (fs.map (·.2)) → (putF f v fs).map (·.1) = (putFA f a ns xs).1 ∧ RL (RA c H ρ) (putFA f a ns xs).2 ((putF f v fs).map (·.2))
  | [], xs, fs, hn, hr => by
    have : fs = [] := by cases fs <;> first | rfl | simp at hn
    subst this
    have : xs = [] := List.eq_nil_of_length_eq_zero (by rw [hr.len]; rfl)
    subst this
    exact ⟨rfl, RL.cons ra RL.nil⟩
  | n :: ns, xs, fs, hn, hr => by
    cases fs with
    | nil => simp at hn
    | cons y fs =>
      obtain ⟨m, w⟩ := y
      simp only [List.map_cons, List.cons.injEq] at hn
      cases xs with
      | nil => have := hr.len; simp at this
      | cons x xs =>
        obtain ⟨v', r', e, r1, r2⟩ := hr
        simp only [List.map_cons, List.cons.injEq] at e
        obtain ⟨e1, e2⟩ := e
        subst e1
        subst e2
        obtain ⟨hn1, hn2⟩ := hn
        subst hn1
        by_cases h : m = f
        · have e1 : putF f v ((m, w) :: fs) = (m, v) :: fs := by simp [putF, h]
          have e2 : putFA f a (m :: ns) (x :: xs) = (m :: ns, a :: xs) := by simp [putFA, h]
          rw [e1, e2]
          exact ⟨by simp [hn2], RL.cons ra r2⟩
        · have e1 : putF f v ((m, w) :: fs) = (m, w) :: putF f v fs := by simp [putF, h]
          have e2 : putFA f a (m :: ns) (x :: xs) = (m :: (putFA f a ns xs).1, x :: (putFA f a ns xs).2) := by simp [putFA, h]
          rw [e1, e2]
          obtain ⟨i1, i2⟩ := putFA_ok ra hn2 r2
          exact ⟨by simp [i1], RL.cons r1 i2⟩
theorem ps_fldW {o e : Expr} {f : Str} {tpos pos : Pos} {p r : PX} (hh : Here b c E X) (F : FldOk c g) (ho : PE X o (lifE c E (evP g p))) (he : PE X e (lifE c E (evP g r))) (hsw : swapsWith e (some (.Attribute o f tpos)) pos.line X.env = pure false) :
    PS X (.Assign [.Attribute o f tpos] e pos) (lifSt c E fun η => evP g r η >>= fun v => evP g p η >>= fun x => setF g x f v >>= fun _ => pure (.nx, η)) := by
  refine ps_imp (ps_fld ho he hsw) fun Dn σ H q' => ?_
  obtain ⟨ρ, η, M, rm, re, ok⟩ := q'
  refine ⟨ρ, η, M, rm, re, (OK.bind (R := RAr c) ok).mono ?_⟩
  rintro v H1 ⟨ρ1, M1, av, p1, s1, rm1, ra, ok1⟩
  have re1 := re.mono s1 p1
  refine ⟨ρ1, η, M1, rm1, re1, (OK.bind (R := RAr c) ok1).mono ?_⟩
  rintro x H2 ⟨ρ2, M2, ax, p2, s2, rm2, rx, ok2⟩
  have re2 := re1.mono s2 p2
  have rv2 := RA.mono s2 p2 _ _ ra
  have ok2 : OK c (RF c) H2 ρ2 E (QD Dn) (Mw.bind (setF g ax f av) (fun _ => (pure (.nx, η) : Mw (Fl × Ev))) M2) := ok2
  unfold Mw.bind setF at ok2
  cases ax with
  | val w => exact False.elim ok2
  | ref n =>
    dsimp only at ok2
    cases hm : M2[n]? with
    | none => rw [hm] at ok2; exact False.elim ok2
    | some k =>
      rw [hm] at ok2
      cases k <;> first
        | exact False.elim ok2
        | skip
      rename_i cn ns xs
      dsimp only at ok2
      by_cases hz : g.fld cn f = true ∧ ns.length < 1000 ∧ ns.length = xs.length
      · rw [if_pos hz] at ok2
        obtain ⟨pp, e1, e2⟩ := rx
        subst e2
        obtain ⟨C, dx, fs, hC, hp, hn, hr⟩ := rm2.at_ n pp _ e1 hm
        obtain ⟨C', hC', cl, na⟩ := F.fld cn f hz.1
        rw [hC] at hC'
        cases hC'
        rw [← hh.ok.K] at cl na
        refine ⟨pp, C, dx, fs, rfl, hp, cl, na, by rw [← hn, List.length_map] at hz; exact hz.2.1, ?_⟩
        have st : Stb H2 (upd H2 pp (.ins C dx (putF f v fs))) := Stb.write (by rw [hp]; exact True.intro)
        obtain ⟨i1, i2⟩ := putFA_ok (RA.mono st (List.prefix_refl _) _ _ rv2) hn (RAs.mono st (List.prefix_refl _) hr)
        exact (ok2.then (List.prefix_refl _) st (rm2.put e1 (by rw [hp]; exact True.intro) ⟨C, dx, _, hC, upd_same, i1, i2⟩) (b := FV.nx σ) (re2.mono st (List.prefix_refl _)))
      · rw [if_neg hz] at ok2
        exact False.elim ok2
end
end LW

namespace LW
open PySem PySem.Spec PyProof.Rows L2
section
variable {b : Bs} {c : SC} {E : XK} {X : Cx} {g : G} {D : Dc} {s : Ds}
/-! ### x = [..] -/
theorem tLc_mono {mi : Ev → Mw (List Wv)} {gg : TG} {tt : TT} {te : TE} {vs : List Nat} {σ : L2.St} {H : Hp} {Q Q' : VK} (h : tLc (lifI c E mi) gg tt te vs σ H Q) (i : ∀ x H, Q x H → Q' x H) : tLc (lifI c E mi) gg tt te vs σ H Q' := by
  obtain ⟨ρ, η, M, rm, re, ok⟩ := h
  refine ⟨ρ, η, M, rm, re, ok.mono fun J H1 h D hD => ?_⟩
  obtain ⟨W, w0, st⟩ := h D hD
  refine ⟨W, w0, fun j m H w => ?_⟩
  rcases st j m H w with ⟨a, q⟩ | h
  · exact .inl ⟨a, i _ _ q⟩
  · exact .inr h
theorem swaps_lc {elt : Expr} {gens : List Comprehension} {scope : Scope} {pos tp : Pos} {t : Str} {line : Nat} {env : Env} : swapsWith (.ListComp elt gens scope pos) (some (.Name t tp)) line env = pure (env.blockKind == .function && env.kindOf t == some .local && tp.line == pos.line
      && !(scope.names.any fun (n, k) => n == t && (k == .local || k == .cell))) := rfl
def swB (D : Dc) (t : Str) (tp pos : Pos) (scope : Scope) : Bool := decide (D.sc.names.lookup t = some .local) && tp.line == pos.line && !(scope.names.any fun (n, k) => n == t && (k == .local || k == .cell))
theorem swaps_at (A : At D X) (hk : D.sc.kind = .function) {elt : Expr} {gens : List Comprehension} {scope : Scope} {pos tp : Pos} {t : Str} {line : Nat} : swapsWith (.ListComp elt gens scope pos) (some (.Name t tp)) line X.env = pure (swB D t tp pos scope) := by
  rw [swaps_lc]
  have hb : X.env.blockKind = .function := by
    unfold Env.blockKind
    rw [A.sc, hk]
    rfl
  have kx : X.env.kindOf t = D.sc.names.lookup t := by unfold Env.kindOf; rw [A.sc]
  unfold swB
  rw [hb, kx]
  have e1 : (ScopeKind.function == ScopeKind.function) = true := rfl
  have e2 : (D.sc.names.lookup t == some NameKind.local) = decide (D.sc.names.lookup t = some .local) := by
    by_cases h : D.sc.names.lookup t = some NameKind.local <;> simp [h]
  rw [e1, Bool.true_and, e2]
theorem ps_lcW {n : Nat} (S : Sup b s g) {mt : Bool} {e : PX} {t : PT} {k : ItK} {its ifs : List PX} {own : List Nat} {el tg it : Expr} {ifs' : List Expr} {scope : Scope} {pos tp spos : Pos} {y : Str} {i : Nat} (hh : Here b c E X) (A : At D X) (lm : D.lam = true → LamOk b X)
    (h : corE s g (n + 1) (.lc mt e t k its ifs own) D (.ListComp el [⟨tg, it, ifs', 0⟩] scope pos) = true) (hk : D.sc.kind = .function) (hy : D.N[i]? = some y) (hw : swB D y tp pos scope = true) :
    PS X (.Assign [.Name y tp] (.ListComp el [⟨tg, it, ifs', 0⟩] scope pos) spos) (lifSt c E fun η => evP g (.lc mt e t k its ifs own) η >>= fun a => putM (.name i) a η) := by
  obtain ⟨hE, hT, hL, hTL, hO, hI⟩ := snd S n
  unfold corE at h
  simp only [Bool.and_eq_true, List.all_eq_true, decide_eq_true_eq] at h
  obtain ⟨⟨⟨⟨⟨h1, h2⟩, h3⟩, h4⟩, h5⟩, h6⟩ := h
  obtain ⟨pi, hf⟩ := hI _ _ _ _ _ _ _ _ h4 hh A lm
  have ho : (own.map fun i => (((D.N[i]?).getD "", i) : Str × Nat)).map (·.2) = own := by
    rw [List.map_map]
    exact List.map_id' own
  have bk : BlkOk X.N X.env.scope scope (own.map fun i => ((D.N[i]?).getD "", i)) := by
    rw [A.N, A.sc]; exact blkOk_by h1
  have hl : D.sc.names.lookup y = some .local := by
    unfold swB at hw
    simp only [Bool.and_eq_true, decide_eq_true_eq] at hw
    exact hw.1.1
  have r := ps_frzS (ps_setLc (pos := pos) (py := tp) (spos := spos) (ifs := ifs') (elt := el) (tt := fun σ H Q => ∃ l, lifT (c.with l) E0 (evIfs g ifs) σ H Q) (te := fun σ H Q => ∃ l, lifE (c.with l) E0 (evP g e) σ H Q) (g := gOf c.K t) hh.ok.calm hh.ok.nd (by rw [A.N]; exact hy) (by rw [A.sc]; exact hl)
    (by rw [swaps_at A hk, hw]) pi bk (fun sh H C cl fp => by
      have hb := hh.blk sh H scope (compEnvC scope cl C X.env) fp []
      have := pg_W hb.ok.calm hb.ok.nd (A.blk sh H scope C cl fp) h2
      rw [hb.ok.K] at this
      exact this) (fun sh H C cl fp => pts_some fun l => by
      have hb := hh.blk sh H scope (compEnvC scope cl C X.env) fp l
      have A2 := A.blk sh H scope C cl fp
      split at h6
      · exact pts_imp pts_nil fun σ H Q q => by
          obtain ⟨ρ, η, M, rm, re, ok⟩ := q
          exact OK.here (R := fun _ _ a b => a = b) ok rm rfl
      · exact pts_imp (pts_one (hT _ _ _ _ _ _ h6 hb A2 (fun z => nomatch z))) fun σ H Q q => lifT_eq (fun η M => evIfs_one) q
      · cases h6) (fun sh H C cl fp => pe_some fun l => hE _ _ _ _ _ _ h5 (hh.blk sh H scope (compEnvC scope cl C X.env) fp l) (A.blk sh H scope C cl fp) (fun z => nomatch z)) hf)
  rw [ho] at r
  refine ps_imp r fun Dn σ H q => ?_
  have q := st_asg q
  have q2 := lc_sound (t := t) (mt := mt) (own := own) (mi := evI g k its) (mT := evIfs g ifs) (mE := evP g e) h3 q
  refine tLc_mono q2 fun x H1 hx => ?_
  rcases hx with hx | ⟨a, u, e1, e2, m, hx⟩
  · exact .inl hx
  · exact .inr ⟨a, u, e2, m, hx⟩

/-! ### raise -/
/-- a class of exceptions may be raised so -/
def ExcU (b : Bs) (g : G) (cn : Str) : Prop := ∀ (c : SC) (E : XK) (X : Cx) (es : List Expr) (m : Ev → Mw (List Av)) (p pos : Pos), Here b c E X → Gl X cn → PA X es (lifA c E m) → es ≠ [] → es.all (fun e => !isStar e) = true →
  PMk X (.Call (.Name cn p) es [] pos) (fun σ H Q => lifA c E m σ H fun vs H1 => ∃ ρ M as w, RM c H1 ρ M ∧ RL (RA c H1 ρ) as vs ∧ excA g cn as = some w ∧ ∀ ρ' H' cls d, ρ <+: ρ' → Stb H1 H' → RM c H' ρ' M → XOf c H' w cls d → Q cls d H')
def raisM (g : G) (cn : Str) (as : List Av) : Mw (Fl × Ev) := fun M => match excA g cn as with
  | some w => .ex w M
  | none => .no
theorem ps_raisW {cn : Str} {es : List Expr} {p pos pos2 : Pos} {m : Ev → Mw (List Av)} (U : ExcU b g cn) (hh : Here b c E X) (hg : Gl X cn) (ha : PA X es (lifA c E m)) (hne : es ≠ []) (hs : es.all (fun e => !isStar e) = true) :
    PS X (.Raise (some (.Call (.Name cn p) es [] pos)) none pos2) (lifSt c E fun η => m η >>= raisM g cn) :=
  ps_imp (ps_raise hh.ok.calm hh.ok.tk (U c E X es m p pos hh hg ha hne hs)) fun Dn σ H q => by
    obtain ⟨ρ, η, M, rm, re, ok⟩ := q
    refine ⟨ρ, η, M, rm, re, (OK.bind (R := RAsr c) ok).mono ?_⟩
    rintro vs H1 ⟨ρ1, M1, as, p1, s1, rm1, ras, ok1⟩
    unfold raisM at ok1
    cases hx : excA g cn as with
    | none => rw [hx] at ok1; exact False.elim ok1
    | some w =>
      rw [hx] at ok1
      exact ⟨ρ1, M1, as, w, rm1, ras, hx, fun ρ' H' cls d p2 s2 rm2 xo => ok1 ρ' H' cls d p2 s2 rm2 xo⟩

/-! ### a def's text -/
def asgB (D : Dc) (tg v : Expr) : Bool := match v with
  | .ListComp _ _ scope p => (match tg with
    | .Name x px => !swB D x px p scope
    | _ => true)
  | .SetComp _ _ _ _ => false
  | .DictComp _ _ _ _ _ => false
  | .Tuple _ _ _ => (match tg with
    | .Tuple _ _ _ => false
    | .List _ _ => false
    | _ => true)
  | _ => true
def noComp : Expr → Bool
  | .ListComp _ _ _ _ => false
  | .SetComp _ _ _ _ => false
  | .DictComp _ _ _ _ _ => false
  | _ => true
theorem swaps_no {v : Expr} {t : Option Expr} {line : Nat} {env : Env} (h : noComp v = true) : swapsWith v t line env = pure false := by
  cases v <;> first | rfl | simp [noComp] at h
theorem asg_facts {tg v : Expr} {line : Nat} (A : At D X) (hk : D.sc.kind = .function) (h : asgB D tg v = true) : swapsWithSole [tg] v line X.env = pure false ∧ swappedStores [tg] v X.env = pure none := by
  show swapsWith v (some tg) line X.env = pure false ∧ _
  cases v <;> first
    | (refine ⟨rfl, ?_⟩; cases tg <;> rfl; done)
    | (simp [asgB] at h; done)
    | skip
  · rename_i el gens scope p
    refine ⟨?_, by cases tg <;> rfl⟩
    cases tg <;> first
      | rfl
      | skip
    rename_i x px
    have h : (!swB D x px p scope) = true := h
    rw [swaps_at A hk]
    simp only [Bool.not_eq_true'] at h
    rw [h]
  · refine ⟨rfl, ?_⟩
    cases tg <;> first
      | rfl
      | (simp [asgB] at h; done)
structure Dx where
  exc : List Str
mutual
def corS (s : Ds) (x : Dx) (g : G) : Nat → PSt → Dc → Stmt → Bool
  | 0, _, _, _ => false
  | n + 1, p, D, st => match p, st with
    | .asg (.name i) (.lc mt e t k its ifs own), .Assign [.Name y tp] (.ListComp el [⟨tg, it, ifs', 0⟩] scope pos) _ => corE s g (n + 1) (.lc mt e t k its ifs own) D (.ListComp el [⟨tg, it, ifs', 0⟩] scope pos) && corG (.name i) D (.Name y tp)
    | .asg t e, .Assign [tg] v _ => !isStar tg && corG t D tg && corE s g n e D v && asgB D tg v
    | .par i j a b, .Assign [.Tuple [.Name y1 p1, .Name y2 p2] _ _] (.Tuple [e1, e2] _ _) _ => decide (D.N[i]? = some y1) && decide (D.N[j]? = some y2) && decide (i ≠ j) && decide (D.sc.names.lookup y1 = some .local) && decide (D.sc.names.lookup y2 = some .local) && corL s g n [a, b] D [e1, e2] && decide (p2.line = p1.line) && decide (y1 ≠ y2)
        && (!foldedForSure 8 e1 || !foldedForSure 8 e2) && (!constantsAlone 8 e1 || !constantsAlone 8 e2)
    | .sub o i e, .Assign [.Subscript o' i' _] v _ => corE s g n o D o' && corE s g n i D i' && corE s g n e D v && plainI i' && noComp v
    | .fld o f e, .Assign [.Attribute o' f' _] v _ => decide (f = f') && corE s g n o D o' && corE s g n e D v && noComp v
    | .ex e, .Expr v _ => corE s g n e D v && noComp v
    | .ret e, .Return (some v) _ => corE s g n e D v
    | .retk e, .Return (some v) _ => corE s g n e D v
    | .retN, .Return none _ => true
    | .ife t a b, .If v sa sb _ => corT s g n t D v && corSs s x g n a D sa && corSs s x g n b D sb
    | .whl t b, .While v sb [] _ => corT s g n t D v && corSs s x g n b D sb
    | .fr t k its b, .For tg it sb [] _ => corI s g n k its D tg it && corG t D tg && corSs s x g n b D sb
    | .pass, .Pass _ => true
    | .brk, .Break _ => true
    | .cont, .Continue _ => true
    | .rais cn xs, .Raise (some (.Call (.Name y _) es [] _)) none _ => decide (cn = y) && decide (cn ∈ x.exc) && gloB D cn && !es.isEmpty && corL s g n xs D es
    | _, _ => false
def corSs (s : Ds) (x : Dx) (g : G) : Nat → List PSt → Dc → List Stmt → Bool
  | _, [], _, [] => true
  | 0, _, _, _ => false
  | n + 1, p :: ps, D, e :: es => corS s x g n p D e && corSs s x g n ps D es
  | _, _, _, _ => false
end

structure SupX (b : Bs) (s : Ds) (x : Dx) (g : G) : Prop where
  sup : Sup b s g
  exc : ∀ cn ∈ x.exc, ExcU b g cn
def SndS (b : Bs) (s : Ds) (x : Dx) (g : G) (n : Nat) : Prop := ∀ p D st c E X (d : Nat), corS s x g n p D st = true → Here b c E X → At D X → (D.lam = true → LamOk b X) → D.sc.kind = .function → PassesOwn (model X.prog X.w) X.A X.env X.xe → PS X st (lifSt c E (evS g d p))
def SndSs (b : Bs) (s : Ds) (x : Dx) (g : G) (n : Nat) : Prop := ∀ p D st c E X (d : Nat), corSs s x g n p D st = true → Here b c E X → At D X → (D.lam = true → LamOk b X) → D.sc.kind = .function → PassesOwn (model X.prog X.w) X.A X.env X.xe → PSs X st (lifSt c E (evSs g d p))
theorem lifSt_eq {m m' : Ev → Mw (Fl × Ev)} (e : ∀ η, m η = m' η) {D : Ends} {σ : L2.St} {H : Hp} (h : lifSt c E m D σ H) : lifSt c E m' D σ H := by
  obtain ⟨ρ, η, M, rm, re, ok⟩ := h
  exact ⟨ρ, η, M, rm, re, by rw [← e]; exact ok⟩
theorem seq_eq {d : Nat} {p : PSt} {ps : List PSt} {η : Ev} : evSs g d (p :: ps) η = seqM (evS g d p η) (evSs g d ps) := rfl
theorem snd_Ss {x : Dx} {n : Nat} (hS : SndS b s x g n) (hSs : SndSs b s x g n) : SndSs b s x g (n + 1) := by
  intro p D st c E X d h hh A lm hk hp
  cases p <;> cases st <;> first
    | exact pss_nilW
    | (simp [corSs] at h; done)
    | skip
  simp only [corSs, Bool.and_eq_true] at h
  exact pss_imp (pss_consW (hS _ _ _ _ _ _ d h.1 hh A lm hk hp) (hSs _ _ _ _ _ _ d h.2 hh A lm hk hp)) fun D σ H q => lifSt_eq (fun η => seq_eq) q
theorem snd_S {x : Dx} {n : Nat} (S : SupX b s x g) (hS : SndSs b s x g n) : SndS b s x g (n + 1) := by
  intro p D st c E X d h hh A lm hk hp
  obtain ⟨hE, hT, hL, hTL, hO, hI⟩ := snd S.sup n
  have hK := hh.ok.K
  unfold corS at h
  split at h
  · -- x = [..]
    rename_i i mt e t k its ifs own y tp el tg it ifs' scope pos pos2
    simp only [Bool.and_eq_true] at h
    cases hw : swB D y tp pos scope with
    | true =>
      have h2 := h.2
      simp only [corG, locB, Bool.and_eq_true, decide_eq_true_eq] at h2
      exact ps_lcW S.sup hh A lm h.1 hk h2.1.1 hw
    | false =>
      have hE1 := (snd S.sup (n + 1)).1
      obtain ⟨a1, a2⟩ := asg_facts (tg := .Name y tp) (v := .ListComp el [⟨tg, it, ifs', 0⟩] scope pos) (line := pos2.line) A hk (by show (!swB D y tp pos scope) = true; rw [hw]; rfl)
      exact ps_asgW hK (hE1 _ _ _ _ _ _ h.1 hh A lm) (pg_W hh.ok.calm hh.ok.nd A h.2) rfl a1 a2
  · simp only [Bool.and_eq_true, Bool.not_eq_true'] at h
    obtain ⟨⟨⟨h1, h2⟩, h3⟩, h4⟩ := h
    obtain ⟨a1, a2⟩ := asg_facts A hk h4
    exact ps_asgW hK (hE _ _ _ _ _ _ h3 hh A lm) (pg_W hh.ok.calm hh.ok.nd A h2) h1 a1 a2
  · simp only [Bool.and_eq_true, Bool.or_eq_true, Bool.not_eq_true', decide_eq_true_eq] at h
    obtain ⟨⟨⟨⟨⟨⟨⟨⟨⟨h1, h2⟩, h3⟩, h4⟩, h5⟩, h6⟩, h7⟩, h8⟩, h9⟩, h10⟩ := h
    exact ps_parW hh A h1 h2 h3 h4 h5 (hL _ _ _ _ _ _ h6 hh A lm) hk h7 h8 h9 h10
  · simp only [Bool.and_eq_true] at h
    obtain ⟨⟨⟨⟨h1, h2⟩, h3⟩, h4⟩, h5⟩ := h
    exact ps_subW hh (hE _ _ _ _ _ _ h1 hh A lm) (hE _ _ _ _ _ _ h2 hh A lm) (hE _ _ _ _ _ _ h3 hh A lm) h4 (swaps_no h5)
  · simp only [Bool.and_eq_true, decide_eq_true_eq] at h
    obtain ⟨⟨⟨h0, h1⟩, h2⟩, h3⟩ := h
    subst h0
    exact ps_fldW hh (S.sup.fldc hh) (hE _ _ _ _ _ _ h1 hh A lm) (hE _ _ _ _ _ _ h2 hh A lm) (swaps_no h3)
  · simp only [Bool.and_eq_true] at h
    exact ps_exW (hE _ _ _ _ _ _ h.1 hh A lm) (swaps_no h.2)
  · exact ps_retW (hE _ _ _ _ _ _ h hh A lm)
  · exact ps_retkW (hE _ _ _ _ _ _ h hh A lm)
  · exact ps_retNW
  · simp only [Bool.and_eq_true] at h
    exact ps_ifSW (hT _ _ _ _ _ _ h.1.1 hh A lm) (hS _ _ _ _ _ _ d h.1.2 hh A lm hk hp) (hS _ _ _ _ _ _ d h.2 hh A lm hk hp)
  · simp only [Bool.and_eq_true] at h
    exact ps_whileW hp (hT _ _ _ _ _ _ h.1 hh A lm) (hS _ _ _ _ _ _ d h.2 hh A lm hk hp)
  · simp only [Bool.and_eq_true] at h
    obtain ⟨pi, hf⟩ := hI _ _ _ _ _ _ _ _ h.1.1 hh A lm
    exact ps_forW hK hp hh.ok.calm pi (pg_W hh.ok.calm hh.ok.nd A h.1.2) (hS _ _ _ _ _ _ d h.2 hh A lm hk hp) hf
  · exact ps_passW
  · exact ps_brkW
  · exact ps_contW
  · simp only [Bool.and_eq_true, Bool.not_eq_true', decide_eq_true_eq] at h
    obtain ⟨⟨⟨⟨h0, h1⟩, h2⟩, h3⟩, h4⟩ := h
    subst h0
    obtain ⟨z1, z2, z3⟩ := gl_of A h2
    obtain ⟨pa, ns, _⟩ := (hL _ _ _ _ _ _ h4 hh A lm).pa
    exact ps_raisW (S.exc _ h1) hh z1 pa (by intro z; rw [z] at h3; simp at h3) ns
  · cases h
theorem snds {x : Dx} (S : SupX b s x g) : ∀ n, SndS b s x g n ∧ SndSs b s x g n
  | 0 => by
    refine ⟨fun p D st c E X d h => ?_, fun p D st c E X d h hh A lm hk hp => ?_⟩
    · simp [corS] at h
    · cases p <;> cases st <;> first
        | exact pss_nilW
        | (simp [corSs] at h; done)
  | n + 1 => by
    obtain ⟨h1, h2⟩ := snds S n
    exact ⟨snd_S S h2, snd_Ss h1 h2⟩
end
end LW

namespace LW
open PySem PySem.Spec PyProof.Rows L2

/-! ### ValueError.__init__ bound to an exception under way, called -/
section
variable {prog : Program} {w : World} {A : Around} {E : Value → Shared → Prop} {h : Heap} {g : Array GenState} {d : Drawn} {t : Nat} {os : OsState}
variable {nm q : Str} {C N : Addr} {bs bm : List Value} {hdct : Bool} {sn : List Str} {sub : List Value} {ab : Bool} {col : Option Bool} {dd : Option Addr} {k0 k1 k2 k3 k5 : Option Value}
abbrev mwV (a : Addr) : Obj := PySem.W.kxs_mw "ValueError.__init__" a
theorem mwV_call {u a t0 : Addr} {rest : List Value} {Q : Value → Shared → Prop} (hC : h.get? C = some (excClassObj nm q C N bs bm hdct sn sub ab col dd k0 k1 k2 k3 k5 "ValueError.__new__"))
    (he : h.get? a = some (PySem.HandSPX.excO C t0)) (hu : h.get? u = some (mwV a)) (hr : rest.length ≤ sizeLine)
    (hq : ∀ h' t1, (∀ b o, b ≠ a → h.get? b = some o → h'.get? b = some o) → h'.get? a = some (PySem.HandSPX.excO C t1) → Q .none ⟨h', g, d, t, os⟩) :
    wpAny (model prog w) A (call (.ref u) rest) Q E ⟨h, g, d, t, os⟩ := by
  refine wpAny_call (codeAny_of_tree ?_)
  show wpAny _ A.in1 (callAny (.ref u) ⟨rest, []⟩) _ _ _
  simp only [callAny]
  refine wpAny_bind (wpAny_load hu ?_)
  simp only [PySem.W.kxs_mw, show (Value.type "method-wrapper" == Value.type "method" || Value.type "method-wrapper" == Value.type "builtin_function_or_method" || Value.type "method-wrapper" == Value.type "method-wrapper") = true by decide, if_true]
  refine PySem.W.KFB.if_so (by decide) ?_
  refine wpAny_bind (PySem.W.check_bound_init F.excBase_ValueError.toExcCallFacts hC he rfl ?_)
  refine wpAny_bind (wpAny_pure (wpAny_pure ?_))
  refine ⟨plainId_quiet F.excBase_ValueError.init.plain _, codeAny_builtin F.excBase_ValueError.initEntry ?_⟩
  exact PySem.W.exc_init_tree (cls := .ref C) (t0 := t0) (dv := none) (c2 := .none) (c3 := .none) (b4 := .bool false) he hr fun h' k e _ => hq h' _ k e
end

/-! ### the context of an __init__ that closes over __class__ -/
abbrev envS (qual : Str) (scope : Scope) (L f cda cc : Addr) : Env := PySem.W.ksEnv qual scope L f (.ref cda) cc
def cxS (P : Program) (w : World) (K : PySem.W.Frag) (mg : Str → Option Value) (base : Heap) (N : List Str) (qual : Str) (scope : Scope) (f cda cc : Addr) (A : Around) (outer : List Env) (s : Shared) (H : Hp) (E : XK) : Cx where
  prog := P
  w := w
  K := K
  mg := mg
  base := base
  A := A.deeper (envS qual scope s.heap.objs.size f cda cc)
  N := N
  s_0 := s
  H_0 := H
  env := envS qual scope s.heap.objs.size f cda cc
  outer := outer
  stack := envS qual scope s.heap.objs.size f cda cc :: outer
  ex := []
  fn := fun _ => false
  calm := true
  pn := []
  xe := fun e s' => wpAny (model P w) (A.deeper (envS qual scope s.heap.objs.size f cda cc)) (leaving (envS qual scope s.heap.objs.size f cda cc) e) (fun _ s'' => L2.CX P w outer H s E e s'') (fun e' s'' => L2.CX P w outer H s E e' s'') s'
structure ScS (N ps : List Str) (sc : Scope) : Prop where
  kind : sc.kind = .function
  co : sc.isCoroutine = false
  gen : sc.isGenerator = false
  nd : N.Nodup
  all : N = ps
  par : ∀ x ∈ ps, sc.names.lookup x = some .local
  cell : ∀ y ∈ sc.names, y.2 ≠ .cell
  free : ∀ y ∈ sc.names, y.2 = .free → y.1 = "__class__"
theorem lookup_rev {y : Str} {u : Value} : ∀ {ps : List Str} {us : List Value} {i : Nat}, ps.Nodup → ps[i]? = some y → us[i]? = some u → (ps.zip us).reverse.lookup y = some u
  | [], _, _, _, h, _ => by simp at h
  | _ :: _, [], _, _, _, h => by simp at h
  | p :: ps, w :: us, 0, nd, h1, h2 => by
    simp only [List.getElem?_cons_zero, Option.some.injEq] at h1 h2
    subst h1
    subst h2
    rw [List.zip_cons_cons, List.reverse_cons, List.lookup_append]
    have hn : ((ps.zip us).reverse).lookup p = none := by
      rw [List.lookup_eq_none_iff]
      intro q hq
      have hm : q.1 ∈ ps := (List.of_mem_zip (List.mem_reverse.mp hq)).1
      have := (List.nodup_cons.mp nd).1
      simp only [beq_eq_false_iff_ne, bne_iff_ne, ne_eq]
      intro z
      exact this (by rw [z]; exact hm)
    rw [hn]
    simp
  | p :: ps, w :: us, i + 1, nd, h1, h2 => by
    rw [List.zip_cons_cons, List.reverse_cons, List.lookup_append, lookup_rev (List.nodup_cons.mp nd).2 (by simpa using h1) (by simpa using h2)]
    rfl
theorem inv_startS {P : Program} {w : World} {K : PySem.W.Frag} {mg : Str → Option Value} {base : Heap} {N ps : List Str} {qual : Str} {scope : Scope} {f cda cc : Addr} {A : Around} {outer : List Env} {s : Shared} {H : Hp} {E : XK} {us : List Value} {vs : List V} {h₁ : Heap} {tk : Nat}
    (S : ScS N ps scope) (hd : A.handled = none) (e0 : Env0 P w K mg base A outer s H) (hl : vs.length = ps.length) (r : Vals vs us) (hc : ∃ o v, base.get? cc = some o ∧ o.data = .cell v)
    (hns : h₁.Ns s.heap.objs.size fun y => (ps.zip us).reverse.lookup y) (kp : ∀ b o, s.heap.get? b = some o → h₁.get? b = some o) :
    Inv (cxS P w K mg base N qual scope f cda cc A outer s H E) [] (L2.start N vs) H { s with heap := h₁, toks := tk } := by
  obtain ⟨oc, cv, c1, c2⟩ := hc
  obtain ⟨c3, c4⟩ := e0.bs cc oc c1
  have noA : ∀ b : Addr, b ∉ (cxS P w K mg base N qual scope f cda cc A outer s H E).ex := fun b z => absurd (show b ∈ ([] : List Addr) from z) (by simp)
  have cl : ∀ {y : Str} {c : Addr}, (cxS P w K mg base N qual scope f cda cc A outer s H E).env.cells.lookup y = some c → y = "__class__" ∧ c = cc := fun {y c} z => by
    have z : ([(("__class__" : Str), cc)] : List (Str × Addr)).lookup y = some c := z
    rw [List.lookup_cons] at z
    by_cases hy : y = "__class__"
    · subst hy
      simp at z
      exact ⟨rfl, z.symm⟩
    · have e : (y == ("__class__" : Str)) = false := by simpa using hy
      rw [e] at z
      simp at z
  have st : ∀ (i : Nat) (v : V), (L2.start N vs)[i]? = some (some v) → vs[i]? = some v := fun i v e => by
    unfold L2.start at e
    by_cases hi : i < vs.length
    · rw [List.getElem?_append_left (by simpa using hi), List.getElem?_map] at e
      obtain ⟨v', e1, e2⟩ := Option.map_eq_some_iff.mp e
      cases e2
      exact e1
    · rw [List.getElem?_append_right (by simpa using hi), List.getElem?_replicate] at e
      split at e <;> cases e
  refine ⟨⟨e0.mod, S.kind, rfl, rfl, Nat.le_refl _, fun y z c e1 e2 => (cl e1).1.trans (cl e2).1.symm, fun y hy => ?_, fun y c z _ => ?_, fun _ => hd, Around.frames_deeper e0.frames, .inr ⟨rfl, rfl⟩, fun b z => absurd z (noA b), e0.bs, e0.bsz, fun b _ _ => noA b,
      fun b z => absurd z (noA b), e0.funs, e0.frf⟩,
    rfl, e0.bare, Un.kept kp, ⟨_, hns, fun i y v e1 e2 e3 => ?_⟩, fun y c e => ?_, e0.hok.fresh (Nat.le_refl _), fun y c e => ?_, fun q hq => absurd (show q ∈ ([] : List (Addr × Obj)) ++ [] from hq) (by simp), e0.hok.kept kp, ?_⟩
  · have hy : scope.names.lookup y = some .cell ∨ scope.names.lookup y = some .free := hy
    rcases hy with hy | hy
    · exact absurd rfl (S.cell _ (PySem.mem_of_lookup hy))
    · have := S.free _ (PySem.mem_of_lookup hy) rfl
      have this : y = "__class__" := this
      subst this
      exact ⟨cc, by show ([(("__class__" : Str), cc)] : List (Str × Addr)).lookup ("__class__" : Str) = some cc; rw [List.lookup_cons]; simp⟩
  · have z : false = true := z
    cases z
  · have e1 : N[i]? = some y := e1
    rw [S.all] at e1
    obtain ⟨u, hu, rv⟩ := r.get (st i v e2)
    refine ⟨u, rv, .inl ⟨?_, lookup_rev (by rw [← S.all]; exact S.nd) e1 hu⟩⟩
    exact S.par y (List.mem_of_getElem? e1)
  · obtain ⟨_, rfl⟩ := cl e
    exact ⟨cv, oc, kp _ _ c3, c2⟩
  · obtain ⟨_, rfl⟩ := cl e
    exact c4
  · unfold L2.start
    show _ = N.length
    rw [List.length_append, List.length_map, List.length_replicate, S.all]
    omega

/-! ### self.f = f, one behind another -/
def stsB (self : Str) : List Str → List Stmt → Bool
  | [], [] => true
  | f :: fs, .Assign [.Attribute (.Name s _) f' _] (.Name x _) _ :: r => decide (s = self) && decide (f' = f) && decide (x = f) && dunB f && stsB self fs r
  | _, _ => false
def tSts (K : PySem.W.Frag) : Nat → List Str → TS
  | _, [] => tNext
  | i, f :: r => tSeq (tOst K f (tVar 0) (tVar i)) (tSts K (i + 1) r)
theorem dun_of {x : Str} (h : dunB x = true) : (x == ("__debug__" : Str)) = false ∧ (x == ("__classdict__" : Str)) = false := by
  simp only [dunB, Bool.and_eq_true, Bool.not_eq_true'] at h
  exact h.1
theorem sts_pss {X : Cx} {self : Str} (h0 : X.N[0]? = some self) (v0 : X.env.scope.names.lookup self = some .local) (d0 : dunB self = true) : ∀ (fs : List Str) (sts : List Stmt) (i : Nat), stsB self fs sts = true → (∀ k x, fs[k]? = some x → X.N[i + k]? = some x ∧ X.env.scope.names.lookup x = some .local) → PSs X sts (tSts X.K i fs)
  | [], [], i, _, _ => pss_nil
  | f :: fs, st :: r, i, h, hv => by
    unfold stsB at h
    split at h
    · simp at *
    · rename_i f2 fs2 s2 p1 f3 p2 x2 p3 p4 r2 e1 e2
      cases e1
      cases e2
      simp only [Bool.and_eq_true, decide_eq_true_eq] at h
      obtain ⟨⟨⟨⟨g1, g2⟩, g3⟩, g4⟩, g5⟩ := h
      subst g1 g2 g3
      obtain ⟨a1, a2⟩ := hv 0 _ rfl
      exact pss_cons (ps_ost (pe_var h0 (.inl v0) (dun_of d0).1 (dun_of d0).2) (pe_var a1 (.inl a2) (dun_of g4).1 (dun_of g4).2)) (sts_pss h0 v0 d0 _ _ (i + 1) g5 fun k x e => by
        have := hv (k + 1) x (by simpa using e)
        rw [show i + 1 + k = i + (k + 1) by omega]
        exact this)
    · cases h
  | [], _ :: _, _, h, _ => by simp [stsB] at h
  | _ :: _, [], _, h, _ => by simp [stsB] at h
theorem tSts_on {K : PySem.W.Frag} {C a dx : Addr} (T : OexC K C) : ∀ (fs : List Str) (ys : List V) (acc : List (Str × V)) (i : Nat) (D : Ends) (σ : L2.St) (H : Hp), (∀ x ∈ fs, PySem.W.findIn K (.ref C) x = some none) → σ[0]? = some (some (.ref a)) → (∀ k y, ys[k]? = some y → σ[i + k]? = some (some y)) → fs.length = ys.length →
    H a = some (exo a C (some dx)) → H dx = some (exd dx acc) → dx ≠ a → acc.length + fs.length ≤ 900 →
    (∀ H', H' a = some (exo a C (some dx)) → H' dx = some (exd dx ((fs.zip ys).reverse ++ acc)) → (∀ b, b ≠ dx → H' b = H b) → D.nx σ H') → tSts K i fs D σ H
  | [], ys, acc, i, D, σ, H, _, _, _, hl, ea, ed, _, _, q => q H ea (by simpa using ed) fun b _ => rfl
  | f :: fs, [], acc, i, D, σ, H, _, _, _, hl, _, _, _, _, _ => by simp at hl
  | f :: fs, y :: ys, acc, i, D, σ, H, hn, h0, hy, hl, ea, ed, hne, hc, q => by
    refine ⟨y, hy 0 y rfl, .ref a, h0, a, C, rfl, T, hn f List.mem_cons_self, .inr ⟨dx, acc, ea, ed, by simp at hc; omega, ?_⟩⟩
    refine tSts_on T fs ys ((f, y) :: acc) (i + 1) D σ _ (fun x hx => hn x (List.mem_cons_of_mem _ hx)) h0 (fun k z e => by
      have := hy (k + 1) z (by simpa using e)
      rw [show i + 1 + k = i + (k + 1) by omega]
      exact this) (by simpa using hl) (by rw [upd_ne (fun z => hne z.symm)]; exact ea) upd_same hne (by simp at hc ⊢; omega) fun H' e1 e2 e3 => q H' e1 (by rw [e2]; simp) fun b hb => by rw [e3 b hb, upd_ne hb]
theorem tSts_new {K : PySem.W.Frag} {C a : Addr} (T : OexC K C) {f : Str} {fs : List Str} {y : V} {ys : List V} {i : Nat} {D : Ends} {σ : L2.St} {H : Hp} (hn : ∀ x ∈ f :: fs, PySem.W.findIn K (.ref C) x = some none) (h0 : σ[0]? = some (some (.ref a))) (hy : ∀ k z, (y :: ys)[k]? = some z → σ[i + k]? = some (some z)) (hl : fs.length = ys.length)
    (ea : H a = some (exo a C none)) (hc : fs.length ≤ 800) (q : ∀ dx H', H dx = none → dx ≠ a → H' a = some (exo a C (some dx)) → H' dx = some (exd dx (((f :: fs).zip (y :: ys)).reverse)) → (∀ b, b ≠ dx → b ≠ a → H' b = H b) → D.nx σ H') : tSts K i (f :: fs) D σ H := by
  refine ⟨y, hy 0 y rfl, .ref a, h0, a, C, rfl, T, hn f List.mem_cons_self, .inl ⟨ea, fun dx hd hne => ?_⟩⟩
  refine tSts_on T fs ys [(f, y)] (i + 1) D σ _ (fun x hx => hn x (List.mem_cons_of_mem _ hx)) h0 (fun k z e => by
      have := hy (k + 1) z (by simpa using e)
      rw [show i + 1 + k = i + (k + 1) by omega]
      exact this) hl upd_same (by rw [upd_ne hne, upd_same]) hne (by simp; omega) fun H' e1 e2 e3 => q dx H' hd hne e1 (by rw [e2]; simp) fun b hb ha => by rw [e3 b hb, upd_ne ha, upd_ne hb]

/-! ### super().__init__(text) -/
/-- what is told of such a class: its own __init__ at f, the fields ns -/
structure ExcD (P : Program) (K : PySem.W.Frag) (mg : Str → Option Value) (cn : Str) (C f : Addr) (ns : List Str) : Prop where
  T : OexC K C
  init : PySem.W.findIn K (.ref C) "__init__" = some (some (.ref f))
  ti : PySem.W.typeIn K (.ref f) = some (.type "function")
  mgC : mg cn = some (.ref C)
  sup : mg "super" = none
  opq : PySem.W.nsIn K PySem.cStatics "thirdparty.any" = some none
  along : PySem.W.ks_superIn K C C "__init__" = some (some (.builtin "ValueError.__init__"))
  subV : PySem.W.subIn K (.ref C) (.type "ValueError") = some true
  mroC : PySem.W.mroIn K C (.ref C) = some true
  na : ∀ x ∈ ns, PySem.W.findIn K (.ref C) x = some none
  top : (P.main.scope.names.lookup ("super" : Str)).isSome = false
  ne : ns ≠ []
  db : (cn == ("__debug__" : Str)) = false
  len : ns.length ≤ 800
  ex : ∃ (name qual : Str) (params : Arguments) (scope : Scope) (sts : List Stmt) (dV kV doc pm ct oc : Value) (an od : Option Addr) (osl : Array (Option Value)) (cda cc : Addr) (self : Str) (txt : Str) (j : Nat) (p0 p1 p2 p3 p4 p5 : Pos) (ar : Arg)
    (ccl cl : Value) (cdd cld : Option Addr) (vs : Array Value) (ccs csl : Array (Option Value)) (file : Str) (tf : Tok),
    K.lookup f = some ⟨oc, od, .func (PySem.W.ksFn name qual params (.Expr (.Call (.Attribute (.Call (.Name "super" p0) [] [] p1) "__init__" p2) [.Constant (.str txt) j p3] [] p4) p5 :: sts) scope dV kV doc pm an (.ref cda) ct cc), osl⟩ ∧
    PySem.W.codeIn K (.ref cda) qual = true ∧ K.lookup cda = some ⟨ccl, cdd, .fields vs, ccs⟩ ∧ vs[2]? = some (.str file tf) ∧ ((P.main.file : Str) == file) = true ∧ K.lookup cc = some ⟨cl, cld, .cell (some (.ref C)), csl⟩ ∧
    (params.posonlyargs ++ params.args).head? = some ar ∧ ar.arg = self ∧ ScS (self :: ns) (self :: ns) scope ∧ scope.names.lookup ("super" : Str) = some .globalImplicit ∧ scope.names.lookup ("__class__" : Str) = some .free ∧ dunB self = true ∧ (p2.endLine == p4.line) = true ∧ stsB self ns sts = true ∧
    ∀ us : List Value, us.length = ns.length + 1 → bindArgs (PySem.W.ksFn name qual params (.Expr (.Call (.Attribute (.Call (.Name "super" p0) [] [] p1) "__init__" p2) [.Constant (.str txt) j p3] [] p4) p5 :: sts) scope dV kV doc pm an (.ref cda) ct cc) ⟨us, []⟩ = pure ((self :: ns).zip us)
theorem super_eval {env : Env} {txt : Str} {j : Nat} {p0 p1 p2 p3 p4 : Pos} (hl : (p2.endLine == p4.line) = true) : eval (.Call (.Attribute (.Call (.Name "super" p0) [] [] p1) "__init__" p2) [.Constant (.str txt) j p3] [] p4) env = (do
      let ov ← attributeBase (.Call (.Name "super" p0) [] [] p1) "__init__" env (eval (.Call (.Name "super" p0) [] [] p1) env)
      standAt p2.atName
      let (f, first) ← holding [ov] (getMethod ov "__init__" (plainOf (.Call (.Name "super" p0) [] [] p1) env))
      callWith p4 f first (backTo p4 (starEach [.Constant (.str txt) j p3] env)) []) := by
  show (do
      let ov ← attributeBase (.Call (.Name "super" p0) [] [] p1) "__init__" env (eval (.Call (.Name "super" p0) [] [] p1) env)
      standAt p2.atName
      methodCall (.Call (.Name "super" p0) [] [] p1) "__init__" p2 p4 env ov 1 (backTo p4 (starEach [.Constant (.str txt) j p3] env)) []) = _
  congr 1
  funext ov
  congr 1
  funext _
  exact mcall_line (by rfl) hl
section
variable {P : Program} {w : World} {K : PySem.W.Frag} {mg : Str → Option Value} {base : Heap} {N : List Str} {qual : Str} {scope : Scope} {f cda cc : Addr} {A : Around} {outer : List Env} {s0 : Shared} {H0 : Hp} {E0' : XK}
theorem exo_get {X : Cx} {pins : List (Addr × Obj)} {σ : L2.St} {H : Hp} {s : Shared} {a C : Addr} {d : Option Addr} (I : Inv X pins σ H s) (e : H a = some (exo a C d)) : ∃ t1 : Addr, s.heap.get? a = some { cls := .ref C, dict := d, data := .fields #[.ref t1, .none, .none, .none, .bool false, .none] } := exo_at I.hok e
theorem super_ok {cn : Str} {C : Addr} {ns : List Str} {X : Cx} {name : Str} {params : Arguments} {body : List Stmt} {dV kV doc pm ct oc : Value} {an od : Option Addr} {osl : Array (Option Value)} {self txt : Str} {j : Nat} {p0 p1 p2 p3 p4 p5 : Pos} {ar : Arg} {ccl cl : Value} {cdd cld : Option Addr} {vs : Array Value} {ccs csl : Array (Option Value)} {file : Str} {tf : Tok}
    (hX : X = cxS P w K mg base N qual scope f cda cc A outer s0 H0 E0') (D : ExcD P K mg cn C f ns) (lk : K.lookup f = some ⟨oc, od, .func (PySem.W.ksFn name qual params body scope dV kV doc pm an (.ref cda) ct cc), osl⟩) (lcd : K.lookup cda = some ⟨ccl, cdd, .fields vs, ccs⟩) (hvs : vs[2]? = some (.str file tf)) (hfile : ((P.main.file : Str) == file) = true)
    (lcc : K.lookup cc = some ⟨cl, cld, .cell (some (.ref C)), csl⟩) (hp : (params.posonlyargs ++ params.args).head? = some ar) (ha : ar.arg = self) (hk : scope.kind = .function) (vsu : scope.names.lookup ("super" : Str) = some .globalImplicit) (vcl : scope.names.lookup ("__class__" : Str) = some .free) (vse : scope.names.lookup self = some .local) (hel : (p2.endLine == p4.line) = true) (n0 : N[0]? = some self)
    {pins : List (Addr × Obj)} {σ : L2.St} {H : Hp} {s : Shared} {a : Addr} (I : Inv X pins σ H s) (h0 : σ[0]? = some (some (.ref a))) (e : H a = some (exo a C none)) :
    PySem.wpAt (model P w) X.A (.func body X.env) (exec (.Expr (.Call (.Attribute (.Call (.Name "super" p0) [] [] p1) "__init__" p2) [.Constant (.str txt) j p3] [] p4) p5) X.env) (fun fl s' => fl = .next ∧ Inv X pins σ H s') X.xe s := by
  have hXe : X.env = envS qual scope s0.heap.objs.size f cda cc := by rw [hX]; rfl
  have hXN : X.N = N := by rw [hX]; rfl
  have KX : K.In s.heap := by have := I.kIn; rw [hX] at this; exact this
  obtain ⟨nm, q, NN, bs, bm, sn, sub, ab, col, dd, k0, k1, k2, k3, k5, hC, hbm⟩ := D.T.cls
  have hcl : PySem.W.clsIn K C = some { name := nm, bases := bs, mro := .ref C :: bm, ns := NN, qualname := q, hasDict := true, slotNames := sn, subclasses := sub, abstract := ab, collection := col, hasDel := false } := by unfold PySem.W.clsIn; rw [hC] <;> rfl
  obtain ⟨t1, ho⟩ := exo_get I e
  have mod := I.mod
  obtain ⟨mb, nb, hmb⟩ := mod.blt
  have bk := I.bk
  have eg : X.env.globals = mainGlobals := I.ok.glob
  have ebl : X.env.builtins = builtinsNs := I.ok.blt
  have emg : X.mg = mg := by rw [hX]; rfl
  obtain ⟨m, hn, hl⟩ := I.loc
  have ms : m self = some (.ref a) := by
    obtain ⟨u, ru, lo⟩ := hl 0 self (.ref a) (by rw [hXN]; exact n0) h0 (by rw [hXe]; exact .inl vse)
    have ru : u = .ref a := ru
    subst ru
    rcases lo with ⟨_, z⟩ | ⟨z, _⟩
    · exact z
    · exfalso
      rw [hXe] at z
      have z : scope.names.lookup self = some .cell ∨ scope.names.lookup self = some .free := z
      rw [vse] at z
      rcases z with z | z <;> cases z
  rw [hXe]
  refine ks_wpAt_Expr_any (ks_wpAt_MethodCall (PySem.wpAt_mono (ks_wpAt_super_base (env := envS qual scope s0.heap.objs.size f cda cc) (Q := fun ov s1 => ∃ so h1, ov = .ref so ∧ s1 = { s with heap := h1 } ∧ (∀ b o, s.heap.get? b = some o → h1.get? b = some o) ∧ h1.get? so = some { cls := .type "super", dict := none, data := .fields #[.ref C, .ref a, .ref C], slots := #[] }) vsu vcl (by decide) rfl (KX _ _ lk) rfl hp rfl (KX _ _ lcd) rfl hvs hfile D.top ?_) (fun ov s1 h1 => ?_) (fun _ _ z => z)) (super_eval hel)) (by rw [← hXe]; exact I.quiet) rfl
  · refine PySem.W.ks_loadName_global hk vsu (Calls.loadGlobal_builtin (env := envS qual scope s0.heap.objs.size f cda cc) (mod.glob.keeps bk) (by rw [emg]; exact D.sup) (nb.keeps bk) ((hmb _ (by decide +kernel)).trans (show bootBuiltins ("super" : Str) = some (.type "super") by first | rfl | kernel_rfl)) ⟨rfl, ?_⟩)
    refine wpAny_loadName_free hk vcl rfl ⟨_, KX _ _ lcc, rfl⟩ ?_
    refine wpAny_loadName_local hk (by rw [ha]; exact vse) (by rw [hXe] at hn; exact hn) (by rw [ha]; exact ms) ?_
    have hC' := KX _ _ hC
    obtain ⟨hh, g, d, t, os⟩ := s
    refine ks_wpAny_isType_cls hC' rfl ⟨rfl, ?_⟩
    exact ks_wpAny_call_super hC' rfl ho rfl (fun c z => by cases z) (PySem.W.looks_mroIn KX D.mroC) (fun h' e1 k1 => ⟨_, h', rfl, rfl, k1, e1⟩)
  · obtain ⟨so, h1, rfl, rfl, kp, hso⟩ := h1
    have I1 : Inv X pins σ H { s with heap := h1 } := I.kept (t' := s.toks) kp
    obtain ⟨t2, ho1⟩ := exo_get I1 e
    have K1 : K.In h1 := by have := I1.kIn; rw [hX] at this; exact this
    have hI : PySem.W.Looks (model P w) h1 (isInstance (.ref a) (.type "ValueError")) true := PySem.W.InstAt.type (h := h1) (ox := { cls := .ref C, dict := none, data := .fields #[.ref t2, .none, .none, .none, .bool false, .none] }) (C := C) (od := none) ⟨ho1, rfl, rfl, trivial⟩ |>.andThen (PySem.W.looks_subIn K1 D.subV)
    have al := D.along
    unfold PySem.W.ks_superIn at al
    rw [hcl] at al
    have nac : a ≠ C := fun z => by
      have q := K1 _ _ hC
      rw [← z, ho1] at q
      cases q
    obtain ⟨hh, g, d, t, os⟩ := s
    refine PySem.W.kxs_getMethod PySem.W.kxs_ValueError hso (PySem.W.looks_opaque K1 D.opq) (l₀ := .ref C :: bm) (fun A Q E s k q => wpAny_bind ((PySem.W.looks_clsIn K1 hcl) A _ E s k (wpAny_pure q))) rfl K1 al hI nac (by decide) ?_
    have I2 : Inv X pins σ H ⟨h1.push (mwV a), g, d, t + 1, os⟩ := I1.kept (t' := t + 1) fun b o e => Heap.get?_push_of_some _ e
    have hu : (h1.push (mwV a)).get? h1.objs.size = some (mwV a) := Heap.get?_push_at rfl rfl
    refine PySem.W.kxs_callWith (i := "ValueError.__init__") (x := a) rfl ?_
    refine Calls.evalArgs_plain ?_
    show wpAny _ _ (spliced ((false, eval (.Constant (.str txt) j p3) (envS qual scope s0.heap.objs.size f cda cc)) :: backTo p4 (starEach [] (envS qual scope s0.heap.objs.size f cda cc)))) _ _ _
    refine Calls.spliced_cons (Calls.Constant_str (Calls.spliced_nil ⟨hu, ?_⟩))
    have I3 : Inv X pins σ H ⟨h1.push (mwV a), g, d, t + 1 + 1, os⟩ := I2.tok _
    obtain ⟨t3, ho3⟩ := exo_get I3 e
    have K3 : K.In (h1.push (mwV a)) := by have := I3.kIn; rw [hX] at this; exact this
    refine mwV_call (K3 _ _ hC) ho3 hu (by rw [sizeLine_eq]; simp) fun h' t4 k e4 => ⟨rfl, ?_⟩
    have J := I3.write (t' := t + 1 + 1) (x := a) (e := a) (o := exo a C none) (by rw [e]; exact True.intro) (.inl rfl) k ⟨_, e4⟩ (exo_ok e4)
    have eu : upd H a (exo a C none) = H := by
      funext b
      by_cases hb : b = a
      · rw [hb, upd_same, e]
      · rw [upd_ne hb]
    rw [eu] at J
    exact J

theorem initS_ok {cn : Str} {C : Addr} {ns : List Str} (D : ExcD P K mg cn C f ns) {s : Shared} {H : Hp} {a : Addr} {us : List Value} {ys : List V} {Q : VK} {E : XK} {k : Nat} (hr : Room k A) (e0 : Env0 P w K mg base A outer s H) (e : H a = some (exo a C none)) (r : Vals ys us) (hl : ys.length = ns.length)
    (q : ∀ d H2, H d = none → d ≠ a → H2 a = some (exo a C (some d)) → H2 d = some (exd d (ns.zip ys).reverse) → (∀ b, b ≠ d → b ≠ a → H2 b = H b) → Q .non H2) :
    codeAny (model P w) A (.call (.ref f) ⟨.ref a :: us, []⟩) (CR (L2.CX P w) outer P w H s Q E) s := by
  obtain ⟨name, qual, params, scope, sts, dV, kV, doc, pm, ct, oc, an, od, osl, cda, cc, self, txt, j, p0, p1, p2, p3, p4, p5, ar, ccl, cl, cdd, cld, vs, ccs, csl, file, tf, lk, hcd, lcd, hvs, hfile, lcc, hp, ha, S, vsu, vcl, dse, hel, hst, hbind⟩ := D.ex
  have KB : K.In base := e0.mod.kin
  have KX : K.In s.heap := KB.keeps fun b o e => (e0.bs b o e).1
  have lim : s.heap.NoLimit := e0.mod.nolimit.keeps fun b o e => (e0.bs b o e).1
  have hul : us.length = ns.length := by rw [← r.length, hl]
  have vse : scope.names.lookup self = some .local := S.par self List.mem_cons_self
  refine ks_codeAny_call_defAt (fd := PySem.W.ksFn name qual params _ scope dV kV doc pm an (.ref cda) ct cc) (binds := (self :: ns).zip (.ref a :: us)) hr.depth (KX _ _ lk) rfl lim (PySem.W.codeRec_of KX hcd) rfl (.of_eq (hbind (.ref a :: us) (by simp [hul]))) S.cell (fun x hx => S.par x.1 (List.of_mem_zip hx).1) (fun h₁ hns hk₁ => ?_) S.co S.gen S.kind
  have I := inv_startS (P := P) (w := w) (K := K) (mg := mg) (base := base) (N := self :: ns) (qual := qual) (scope := scope) (f := f) (cda := cda) (cc := cc) (A := A) (outer := outer) (E := E) (tk := s.toks + ((self :: ns).zip (Value.ref a :: us)).length) S hr.hd e0 (vs := .ref a :: ys) (by simp [hl]) (.cons rfl r) ⟨_, _, KB _ _ lcc, rfl⟩ hns hk₁
  generalize hX : cxS P w K mg base (self :: ns) qual scope f cda cc A outer s H E = X at I
  have sup := super_ok (N := self :: ns) (p0 := p0) (p1 := p1) (p2 := p2) (p3 := p3) (p4 := p4) (p5 := p5) (txt := txt) (j := j) hX.symm D lk lcd hvs hfile lcc hp ha S.kind vsu vcl vse hel rfl I (a := a) (by unfold L2.start; rfl) e
  have hXe : X.env = envS qual scope s.heap.objs.size f cda cc := by rw [← hX]; rfl
  have hXA : X.A = A.deeper (envS qual scope s.heap.objs.size f cda cc) := by rw [← hX]; rfl
  have hXN : X.N = self :: ns := by rw [← hX]; rfl
  have hXK : X.K = K := by rw [← hX]; rfl
  have hXP : X.prog = P := by rw [← hX]; rfl
  have hXw : X.w = w := by rw [← hX]; rfl
  have hXx : X.xe = fun e s' => wpAny (model P w) (A.deeper (envS qual scope s.heap.objs.size f cda cc)) (leaving (envS qual scope s.heap.objs.size f cda cc) e) (fun _ s'' => L2.CX P w outer H s E e s'') (fun e' s'' => L2.CX P w outer H s E e' s'') s' := by rw [← hX]; rfl
  show PySem.wpAt (model P w) (A.deeper (envS qual scope s.heap.objs.size f cda cc)) (.func _ (envS qual scope s.heap.objs.size f cda cc)) (execs _ (envS qual scope s.heap.objs.size f cda cc)) _ _ _
  rw [← hXA, ← hXe]
  refine ks_wpAt_execs_cons (PySem.wpAt_mono sup (fun fl s1 hfl => ?_) (fun e1 s1 he => by rw [hXx] at he; exact he))
  obtain ⟨rfl, I1⟩ := hfl
  have pss := sts_pss (X := X) (self := self) (by rw [hXN]; rfl) (by rw [hXe]; exact vse) dse ns sts 1 hst (fun k x ek => ⟨by rw [hXN, Nat.add_comm]; simpa using ek, by rw [hXe]; exact S.par x (List.mem_cons_of_mem _ (List.mem_of_getElem? ek))⟩)
  rw [hXK] at pss
  have run := pss.run [] s1 _ H { nx := fun _ H' => Q .non H', rt := fun _ _ => False } I1 (by
    cases hn : ns with
    | nil => exact absurd hn D.ne
    | cons f1 fs =>
      cases hy : ys with
      | nil => rw [hn, hy] at hl; simp at hl
      | cons y1 ys' =>
        rw [hn, hy] at hl
        have hlen := D.len
        rw [hn] at hlen
        refine tSts_new (ys := ys') D.T (by rw [← hn]; exact D.na) (by unfold L2.start; rfl) (fun k z ez => ?_) (by simpa using hl.symm) e (by simp at hlen; omega) fun dx H' h1 h2 h3 h4 h5 => q dx H' h1 h2 h3 (by rw [hn, hy]; exact h4) h5
        unfold L2.start
        have hk : k < (y1 :: ys').length := (List.getElem?_eq_some_iff.mp ez).1
        rw [List.getElem?_append_left (by simp at hk ⊢; omega), List.getElem?_map, Nat.add_comm, List.getElem?_cons_succ, ez]
        rfl)
  rw [hXP, hXw] at run
  refine PySem.wpAt_of_wpAny (wpAny_mono run (fun fl s2 hs => ?_) fun e1 s2 he => by rw [hXx] at he; exact he)
  have fin : ∀ {σ' : L2.St} {H' : Hp}, Inv X [] σ' H' s2 → Q .non H' → CE outer P w H s Q .none s2 := fun {σ' H'} J q => by
    have b := J.base
    have o := J.os
    have k := J.hok
    rw [← hX] at b o k
    exact ⟨.non, H', o, J.bare, b, k, rfl, q⟩
  cases fl with
  | next =>
    obtain ⟨σ', H', J, q'⟩ := hs
    exact fin J q'
  | ret u =>
    obtain ⟨v, σ', H', J, rv, q'⟩ := hs
    exact False.elim q'
  | brk =>
    obtain ⟨_, _, _, q'⟩ := hs
    exact False.elim q'
  | cont =>
    obtain ⟨_, _, _, q'⟩ := hs
    exact False.elim q'
end

/-! ### raise BadX(..) -/
theorem del_upd {H1 H2 : Hp} {a d : Addr} {u : HO} (ha : H1 a = none) (hne : d ≠ a) (h : ∀ b, b ≠ d → b ≠ a → H2 b = H1 b) : upd (del H2 a) d u = upd H1 d u := by
  funext b
  by_cases hb : b = d
  · rw [hb, upd_same, upd_same]
  · rw [upd_ne hb, upd_ne hb]
    by_cases hc : b = a
    · rw [hc, del_same, ha]
    · rw [del_ne hc]
      by_cases hd : b = d
      · exact absurd hd hb
      · exact h b hd hc
theorem excU_of {b : Bs} {g : G} {cn : Str} {C f : Addr} {ns : List Str} (D : ExcD b.P b.K b.mg cn C f ns) (hx : g.exf cn = some ns.reverse) : ExcU b g cn := by
  intro c E X es m p pos hh hg ha hne hs
  intro pins s σ H Q I h
  have hK : X.K = b.K := hh.K
  have hM : X.mg = b.mg := hh.mg
  obtain ⟨nm, q, NN, bs, bm, sn, sub, ab, col, dd, k0, k1, k2, k3, k5, hC, hbm⟩ := D.T.cls
  cases es with
  | nil => exact absurd rfl hne
  | cons e es =>
  simp only [List.all_cons, Bool.and_eq_true, Bool.not_eq_true'] at hs
  have kC : PySem.W.keepIn X.K (.ref C) = true := by rw [hK]; exact D.T.kC
  refine wpAny_Call_Name_kw (ld_glob I hg (by rw [hM]; exact D.mgC) ?_ D.db)
  refine PySem.W.callWith_K (h₀ := X.base) I.ok.mod.kin kC (thn (ha.run pos pins s σ H _ I h) fun us s1 ⟨vs, H1, I1, r1, ρ, M, as, w, rm, ra, hex, q1⟩ => ⟨I1.kIn, ?_⟩) (star_cons hs.1) (star_none hs.2)
  show wpAny _ _ (call (.ref C) us) _ _ _
  have K1 : b.K.In s1.heap := by have := I1.kIn; rw [hK] at this; exact this
  have D' : ExcD X.prog X.K X.mg cn C f ns := by rw [hh.P, hK, hM]; exact D
  -- the values
  obtain ⟨ws, hpu, hwl, rfl⟩ : ∃ ws, pures as = some ws ∧ ns.length = ws.length ∧ w = .exc cn ns.reverse ws.reverse := by
    unfold excA at hex
    rw [hx] at hex
    cases hp : pures as with
    | none => rw [hp] at hex; cases hex
    | some ws =>
      rw [hp] at hex
      dsimp only at hex
      split at hex
      · rename_i hl
        exact ⟨ws, rfl, by simpa using hl, (Option.some.inj hex).symm⟩
      · cases hex
  have ea := pures_some hpu
  have hvl : vs.length = ns.length := by rw [← ra.len, ea, List.length_map, hwl]
  have rw1 : RL (RW c H1) ws vs := by rw [ea] at ra; exact RL_val ra
  have mgC : c.mg cn = some (.ref C) := by rw [hh.cmg]; exact D.mgC
  have hus : us.length ≤ sizeLine := by
    have := D.len
    rw [← r1.length, hvl, sizeLine_eq]
    omega
  obtain ⟨hp, gs, dr, tk, os⟩ := s1
  have hsz : hp.objs.size ≤ hp.objs.size + 1 := Nat.le_succ _
  have nA : H1 (hp.objs.size + 1) = none := I1.hok.fresh hsz
  have keep : ∀ b o, hp.get? b = some o → ((hp.push (PySem.W.kdv_tup us)).push (PySem.HandSPX.excO C hp.objs.size)).get? b = some o := fun b o z => Heap.get?_push_of_some _ (Heap.get?_push_of_some _ z)
  have got : ((hp.push (PySem.W.kdv_tup us)).push (PySem.HandSPX.excO C hp.objs.size)).get? (hp.objs.size + 1) = some (PySem.HandSPX.excO C hp.objs.size) := by heap_get
  have I2 := I1.laid (t' := tk) (a := hp.objs.size + 1) (o := exo (hp.objs.size + 1) C none) keep hsz (exo_ok got)
  have ini := initS_ok D' (s := ⟨(hp.push (PySem.W.kdv_tup us)).push (PySem.HandSPX.excO C hp.objs.size), gs, dr, tk, os⟩) (us := us) (ys := vs)
    (Q := fun v H2 => v = .non ∧ ∃ d, H1 d = none ∧ d ≠ hp.objs.size + 1 ∧ H2 (hp.objs.size + 1) = some (exo (hp.objs.size + 1) C (some d)) ∧ H2 d = some (exd d (ns.zip vs).reverse) ∧ ∀ b, b ≠ d → b ≠ hp.objs.size + 1 → H2 b = H1 b) (E := fun _ _ _ => False)
    ((hh.ok.room.mono (show 0 + 1 ≤ b.k + 2 by omega)).make C us []) (I2.env0.make C us []) upd_same r1 hvl (fun d H2 z1 z2 z3 z4 z5 => ⟨rfl, d, by rw [upd_ne z2] at z1; exact z1, z2, z3, z4, fun b y1 y2 => by rw [z5 b y1 y2, upd_ne y2]⟩)
  refine wpAny_call (PySem.HandSPX.call_own F.excBase_ValueError (fun Y => PySem.HandSPX.refsVE_contains Y bm hbm) (K1 _ _ hC) (PySem.W.looks_findIn K1 D.init) (fun self => PySem.W.bind_fn K1 self D.ti) hus (codeAny_mono ini fun r s2 hq => ?_))
  cases r with
  | error er =>
    obtain ⟨_, _, _, _, _, _, _, _, _, _, _, _, z⟩ := hq
    exact z.elim
  | ok fl =>
    cases fl <;> first
      | exact False.elim hq
      | skip
    obtain ⟨v, H2, os2, bare2, un2, hok2, rv, ev, d, nd, hne, g1, g2, g3⟩ := hq
    subst ev
    obtain ⟨h2, gs2, d2, t2, os'⟩ := s2
    refine ⟨rv, mk_end (raises_own D'.T.exC D'.T.tyC) I1 hsz keep un2 hok2 os2 bare2 g1 g2 nd ?_⟩
    rw [del_upd nA hne g3]
    have st : Stb H1 (upd H1 d (.xd (ns.zip vs).reverse)) := Stb.new nd
    refine q1 ρ _ _ _ (List.prefix_refl _) st (rm.new nd) ⟨cn, ns.reverse, ws.reverse, C, d, (ns.zip vs).reverse, rfl, mgC, rfl, rfl, upd_same, ?_, ?_⟩
    · rw [List.map_reverse, List.map_fst_zip (by omega)]
    · rw [List.map_reverse, List.map_snd_zip (by omega)]
      exact RWs_iff.mpr ((rw1.imp fun w v => RW.mono st w v).rev)
end LW

namespace LW
open PySem PySem.Spec PyProof.Rows L2
/-- what `except x as n` with a suite that keeps the error wishes: slot i is n's -/
def wKeep (K : PySem.W.Frag) (c : Value) (i : Nat) (ts : Addr → Value → Option Addr → TS) (Wout : WX) (D : Ends) : WX := fun cls d σ H =>
  ∃ b, PySem.W.exmOne K cls c = some b ∧ (b = true → ∀ a, H a = none → ts a cls d { nx := fun σ' H' => ∃ dd fs, d = some dd ∧ H' dd = some (.xd fs) ∧ ∀ (od oe : Obj), oe.cls = cls → oe.dict = some dd → (∃ vs, oe.data = .fields vs) → D.nx (σ'.set i none) (upd (upd H' dd (.frz od (.xd fs))) a (catO a oe)), rt := fun _ _ => False } (σ.set i (some (.ref a))) H) ∧
    (b = false → Wout cls d σ H)
section
variable {X : Cx} {x n : Str} {c : Value} {i : Nat} {body suite : List Stmt} {b₀ : Stmt} {np pos pos' : Pos} {tb : WX → TS} {ts : Addr → Value → Option Addr → TS} {Wout : WX}
theorem ps_try_keep (hs : X.stack = X.env :: X.outer) (hf : X.env.frame = some X.env.locals) (hex : X.ex = []) (hN : X.N.Nodup) (hi : X.N[i]? = some n) (hln : X.env.kindOf n = some .local) (hc : Names X x c) (tk : Takes X Wout)
    (hb : ∀ (W : WX) (pn : List (Addr × Obj)) (xe : Value → Shared → Prop), Takes (X.tr pn xe) W → PassesOwn (model X.prog X.w) X.A X.env xe → PSs (X.tr pn xe) body (tb W))
    (hsu : ∀ (a : Addr) (oe : Obj) (cls : Value) (d : Option Addr) (pn : List (Addr × Obj)), Zc cls d oe → (∃ vs, oe.data = .fields vs) → PSs (X.suite a ((a, oe) :: pn)) (b₀ :: suite) (ts a cls d)) :
    PS X (.Try body [.ExceptHandler (some (.Name x np)) (some n) (b₀ :: suite) pos'] [] [] pos) (fun D σ H => tb (wKeep X.K c i ts Wout D) D σ H) := by
  refine ⟨fun pins s σ H D I h => ?_⟩
  have Xok := I.ok
  have fr0 : X.A.frames = some (X.env :: X.outer) := Xok.frames.trans (by rw [hs])
  refine wpAny_Try_except (wpAny_mono ((hb (wKeep X.K c i ts Wout D) (X.pn ++ pins) (fun e s₁ => wpAny (model X.prog X.w) X.A (noteFrame e X.env) (fun _ s₂ => wpAny (model X.prog X.w) X.A (setFlight e none) (fun _ s₃ =>
      wpAny (model X.prog X.w) X.A (handleBy e X.env [.ExceptHandler (some (.Name x np)) (some n) (b₀ :: suite) pos']) (SP X pins D) X.xe s₃) X.xe s₂) X.xe s₁) (fun u s' xx => ?_) PassesOwn.looking).run [] s σ H D (I.toTry _) h) (fun f s1 hsp => ?_) (fun e s1 he => he))
  · -- it is caught
    obtain ⟨a, B, sI, pins2, σ2, H2, cls, d, rfl, JT, nb, up, sky, na, hos, hag, bk, hbk, yes, no⟩ := xx
    have J : Inv X pins σ2 H2 sI := JT.ofTry Xok
    have sk : Sky B (X.env :: X.outer) a (Zc cls d) X.env.locals s'.heap := hs ▸ sky
    show wpAny (model X.prog X.w) X.A (noteFrame (.ref a) X.env) _ _ _
    refine Sky.land Zc.steady fr0 hf sk fun hp3 fy3 u3 => ?_
    have J3 : Inv X pins σ2 H2 { s' with heap := hp3 } := J.landed nb fy3.1 (up.trans u3) hos hag
    obtain ⟨oa, va, ga, za, da⟩ := fy3.there
    have offFr : a ∉ frs (X.env :: X.outer) := fun hm => by
      obtain ⟨_, o', e', hnf⟩ := fy3.2.2.1.mem hm
      rw [ga] at e'
      cases e'
      exact hnf _ da
    have aL : a ≠ X.env.locals := fun z => offFr (List.mem_filterMap.mpr ⟨X.env, List.mem_cons_self, by rw [hf, z]⟩)
    have aF : a ∉ X.fs := fun hm => offFr (by
      obtain ⟨e, he, q⟩ := List.mem_filterMap.mp hm
      exact List.mem_filterMap.mpr ⟨e, List.mem_cons_of_mem _ he, q⟩)
    have offS : a ∉ frs X.stack := hs ▸ offFr
    have noB : B.get? a = none := fy3.2.1
    have n0 : X.s_0.heap.get? a = none := by
      cases q : X.s_0.heap.get? a with
      | none => rfl
      | some o =>
        obtain ⟨o', q'⟩ := J.base.there a o q (by rw [hex]; simp)
        have := nb a o' q' offS
        rw [noB] at this
        cases this
    have pne : ∀ p ∈ X.pn ++ pins, p.1 ≠ a := fun p hp z => by
      obtain ⟨e1, _, _, _, _⟩ := J.pin p hp
      have := nb p.1 p.2 e1 (by rw [z]; exact offS)
      rw [z, noB] at this
      cases this
    have S3 := J3.suite ga da na aL aF
    refine wpAny_handleBy_cons (codeAny_handlers_test ?_) (by intro q; cases q)
    have tyA : PySem.W.Looks (model X.prog X.w) hp3 (typeOf (.ref a)) cls := fun A Q E s k q => wpAny_typeOf_ref (k _ _ ga) (by rw [za.1]; exact q)
    have LM := PySem.W.exm_one (M := model X.prog X.w) (J3.kIn) tyA hbk
    have named : ∀ {Q : Value → Shared → Prop} {E : Value → Shared → Prop}, Q c { s' with heap := hp3 } → wpAny (model X.prog X.w) (X.A.mark (some (.ref a))) (eval (.Name x np) X.env) Q E { s' with heap := hp3 } := fun {Q E} q => by
      obtain ⟨g1, g2, hm | ⟨hm, hv, hnn⟩⟩ := hc
      · exact ld_glob (X := X.suite a ((a, oa) :: (X.pn ++ pins))) S3 g1 hm q g2
      · exact ld_blt (X := X.suite a ((a, oa) :: (X.pn ++ pins))) S3 g1 hm hv q hnn g2
    refine named (LM.here ?_)
    cases bk with
    | true =>
      refine codeAny_handlers_suite_as (HandSPX.lands_againZ fy3 fun hp4 fy4 u4 => ?_)
      have J4 : Inv X pins σ2 H2 { s' with heap := hp4 } := J.landed nb fy4.1 ((up.trans u3).trans u4) hos hag
      obtain ⟨ob, vb, gb, zb, db⟩ := fy4.there
      have S4 := J4.suite gb db na aL aF
      refine store_ok (X := X.suite a ((a, ob) :: (X.pn ++ pins))) (v := .ref a) S4 hN hi (.inl hln) rfl (fun s5 S5 => ?_) (.inr hln)
      refine wpAny_mono ((hsu a ob cls d (X.pn ++ pins) zb ⟨_, db⟩).run [] s5 _ H2 _ S5 (yes rfl a na)) (fun f s6 hsp => ?_) (fun _ _ z => False.elim z)
      cases f with
      | next =>
        obtain ⟨σ6, H6, S6, dd, fs, ed, hdd, q6⟩ := hsp
        have pa := S6.pin (a, ob) (by rw [List.append_nil]; exact List.mem_cons_self)
        have J6 : Inv X pins σ6 H6 s6 := S6.unsuite Xok
        have J6' : Inv X ((a, ob) :: pins) σ6 H6 s6 := J6.pins_of fun p hp => by
          rcases List.mem_cons.mp hp with z | z
          · rw [z]; exact pa
          · exact J6.pin p (List.mem_append_right _ z)
        refine gone_ok J6' hN hi hln fun s7 J7' => ?_
        have p7 := J7'.pin (a, ob) (List.mem_append_right _ List.mem_cons_self)
        have J7 : Inv X pins (σ6.set i none) H6 s7 := J7'.pins_of fun p hp => J7'.pin p (List.mem_append_right _ (List.mem_cons_of_mem _ hp))
        obtain ⟨od, _, J8⟩ := xd_frz J7 hdd
        have ha8 : upd H6 dd (.frz od (.xd fs)) a = none := by
          rw [upd_ne (fun z => by rw [← z, p7.2.1] at hdd; cases hdd)]
          exact p7.2.1
        have J9 := track J8 p7.1 ha8 db n0 aL pne
        exact ⟨_, _, J9, q6 od ob zb.1 (by rw [zb.2, ed]) ⟨_, db⟩⟩
      | brk =>
        obtain ⟨σ6, H6, S6, q6⟩ := hsp
        exact False.elim q6
      | cont =>
        obtain ⟨σ6, H6, S6, q6⟩ := hsp
        exact False.elim q6
      | ret u =>
        obtain ⟨v6, σ6, H6, S6, r6, q6⟩ := hsp
        exact False.elim q6
    | false =>
      show wpAny _ X.A (handleBy (.ref a) X.env []) _ _ _
      refine wpAny_handleBy_nil ?_
      obtain ⟨k1, k2, k3, oe, vs, T, oT, ts', he, hz, hd, h1, hr⟩ := id fy3
      unfold PySem.passOn
      refine wpAny_bind (wpAny_field he hd h1 ?_)
      rw [if_neg (show ¬ ((Value.ref T == Value.none) = true) from by simp)]
      have fin : wpAny (model X.prog X.w) X.A (setFlight (.ref a) X.env.frame) (fun _ s4 => wpAny (model X.prog X.w) X.A (throw (.ref a) : Sem Flow) (SP X pins D) X.xe s4) X.xe { s' with heap := hp3 } := by
        rw [hf]
        refine HandSPX.setFlight_upZ fy3 fun h4 hh4 up4 => wpAny_throw (tk _ _ ?_)
        exact ⟨a, B, sI, pins, σ2, H2, cls, d, rfl, J, nb, (up.trans u3).trans up4, .inr (.inr (by rw [hs]; exact hh4)), na, hos, hag, no rfl⟩
      first
        | exact wpAny_bind (wpAny_pure (wpAny_bind fin))
        | exact wpAny_bind fin
  · cases f with
    | next =>
      obtain ⟨σ7, H7, J7, q⟩ := hsp
      exact wpAny_execs_nil ⟨σ7, H7, J7.ofTry Xok, q⟩
    | brk =>
      obtain ⟨σ7, H7, J7, q⟩ := hsp
      exact ⟨σ7, H7, J7.ofTry Xok, q⟩
    | cont =>
      obtain ⟨σ7, H7, J7, q⟩ := hsp
      exact ⟨σ7, H7, J7.ofTry Xok, q⟩
    | ret u =>
      obtain ⟨v7, σ7, H7, J7, r7, q⟩ := hsp
      exact ⟨v7, σ7, H7, J7.ofTry Xok, r7, q⟩
end
end LW

namespace LW
open PySem PySem.Spec PyProof.Rows L2 LamX
section
variable {X : Cx} {pins : List (Addr × Obj)} {σ : L2.St} {H : Hp} {s : Shared}
/-- the call of a lambda in the def that got it, nothing guarded -/
theorem pe_ask {CXg : CXT} {Eg : XK} {Ng : List Str} {qg : Str} {sg : Scope} {gA f cO : Addr} {cdg pm ctv : Value} {params : Arguments} {body : Expr} {scope : Scope} {k i : Nat} {a : Str} {pn : List (Addr × Obj)} {xe : Value → Shared → Prop} {W : WX} {E : XK} {tb : TE} {p1 p2 : Pos}
    (I : Inv X pins σ H s) (L : LamS X.env.scope scope) (of : s.heap.get? f = some (PySem.W.kla_obj "<lambda>" (X.env.qual ++ "<lambda>") params body scope (cloFrom X.env.cells scope.names []) pm cO ctv)) (nf : H f = none) (offF : f ∉ frs X.stack)
    (hbind : bindArgs (PySem.W.kla_fn "<lambda>" (X.env.qual ++ "<lambda>") params body scope (cloFrom X.env.cells scope.names []) pm (.ref cO) ctv) ⟨[], []⟩ = pure [])
    (tk : Takes ((cxOf CXg X.prog X.w X.K X.mg X.base Ng qg sg gA cdg X.A X.stack s H Eg).tr pn xe) W) (hr : Room (k + 1) (X.A.deeper (envOfC qg sg s.heap.objs.size gA cdg))) (gu : X.A.guards = some [])
    (hbody : ∀ (A : Around) (outer : List Env) (s : Shared) (H : Hp), Room k (A.deeper (lamEnv X scope s.heap.objs.size f cO)) → A.guards = some [] → PE (lamCx X A outer s H E scope f cO) body tb)
    (hN : Ng[i]? = some a) (hv : Vis sg a) (hd : (a == ("__debug__" : Str)) = false) (hcd : (a == ("__classdict__" : Str)) = false) :
    PE ((cxOf CXg X.prog X.w X.K X.mg X.base Ng qg sg gA cdg X.A X.stack s H Eg).tr pn xe) (.Call (.Name a p1) [] [] p2)
      (fun σZ HZ Q => (∀ cls d H', E cls d H' → W cls d σZ H') ∧ σZ[i]? = some (some (.ref f)) ∧ HZ cO = some (CodeO cO (X.env.qual ++ "<lambda>")) ∧ tb σ HZ Q) := by
  refine ⟨fun pz sZ σZ HZ Q IZ ⟨hW, hslot, hcode, hw⟩ => ?_⟩
  refine wpAny_Call_Name_kw (thn ((pe_var (pos := p1) (i := i) hN hv hd hcd).run pz sZ σZ HZ (fun v H1 => v = .ref f ∧ H1 = HZ) IZ ⟨.ref f, hslot, rfl, rfl⟩) fun u sA ⟨v, HA, IA, rA, ev, eH⟩ => ?_)
  subst ev
  subst eH
  obtain rfl : u = Value.ref f := rA
  have ofA := IA.base.keep f _ of nf offF (fun z => nomatch (show f ∈ ([] : List Addr) from z))
  refine PySem.W.callWith_F0 ⟨_, _, _, _, ofA⟩ ?_
  have un : Un (frs X.stack) [] H HA s.heap sA.heap := IA.base
  obtain ⟨⟨oc, vs, t, hoc, hdc, hvc⟩, _, _⟩ := IA.hok cO _ hcode
  have rc : codeAny (model X.prog X.w) (X.A.deeper (envOfC qg sg s.heap.objs.size gA cdg)) (.call (.ref f) ⟨[], []⟩) (CR (L2.CX X.prog X.w) (envOfC qg sg s.heap.objs.size gA cdg :: X.stack) X.prog X.w HA sA Q E) sA := by
    refine PySem.W.kla_callFunE hr.depth ofA rfl L.co L.gen rfl ⟨cO, oc, vs, t, rfl, hoc, hdc, hvc⟩ ?_
    rw [hbind]
    refine wpAny_pure (wpAny_newFunctionEnv (fun y hy => (L.own y hy).2) (fun y hy => absurd hy (by simp)) (fun h₁ hns hsb => ⟨IA.nolimit.fresh _ hsb, ?_⟩) L.kind)
    show codeAny _ _ (.expr body (lamEnv X scope sA.heap.objs.size f cO)) _ _
    have kp : ∀ b o, sA.heap.get? b = some o → h₁.get? b = some o := fun b o e => hsb.extBut b o (Nat.ne_of_lt (Heap.lt_size e)) (Heap.get?_push_of_some _ e)
    have J : Inv (lamCx X (X.A.deeper (envOfC qg sg s.heap.objs.size gA cdg)) (envOfC qg sg s.heap.objs.size gA cdg :: X.stack) sA HA E scope f cO) [] σ HA { sA with heap := h₁, toks := sA.toks + ([] : List (Str × Value)).length } :=
      lam_start2 I L IA.env0 hr.hd un hns kp
    refine PySem.W.kla_codeExpr (wpAny_mono ((hbody _ _ sA HA (hr.deeper _) (gu_deeper gu)).run [] _ _ HA Q J hw) (fun v s' hq => ?_) fun e s' hq => hq)
    obtain ⟨w', H', J', rv, q⟩ := hq
    exact ⟨w', H', J'.os, J'.bare, J'.base, J'.hok, rv, q⟩
  refine wpAny_call (codeAny_mono rc fun r s' hq => ?_)
  cases r with
  | error e => exact tk e s' (XE.of_call IA hW hq)
  | ok fl => cases fl <;> first | exact IA.after hq | exact False.elim hq

/-- the lambda is made; no table comes that was not there -/
theorem lam_mk {T : List (Addr × Str)} {cM P : Addr} {pa : Arguments} {bd : Expr} {sc : Scope} {ps : Pos} {Er Qr : Value → Shared → Prop} (I : Inv X pins σ H s) (TB : TabB X.base X.mg cM P) (hco : X.env.code = .ref cM)
    (mem : (P, X.env.qual ++ "<lambda>") ∈ T) (uni : ∀ p ∈ T, p.1 = P → p.2 = X.env.qual ++ "<lambda>") (hT : Tabs T H) (df : defaultsOf pa X.env = ([], [])) (fr : ∀ y ∈ sc.names, y.2 = .free → ∃ z, X.env.cells.lookup y.1 = some z)
    (k : ∀ (f cO : Addr) (pm ctv : Value) (H1 : Hp) (s1 : Shared), Inv X pins σ H1 s1 → ExtN H H1 → Tabs T H1 → (∀ a qs, H1 a = some (.tbl qs) → ∃ qs', H a = some (.tbl qs')) →
      s1.heap.get? f = some (PySem.W.kla_obj "<lambda>" (X.env.qual ++ "<lambda>") pa bd sc (cloFrom X.env.cells sc.names []) pm cO ctv) → H1 f = none → f ∉ frs X.stack → H1 cO = some (CodeO cO (X.env.qual ++ "<lambda>")) → Qr (.ref f) s1) :
    wpAny (model X.prog X.w) X.A (eval (.Lambda pa bd sc ps) X.env) Qr Er s := by
  obtain ⟨tr, eP, tok, among⟩ := hT _ mem
  refine PySem.W.kla_eval df ?_
  have bt := TB.bm.keeps I.bk
  have gP := I.hok P _ eP
  have off : ∀ f, s.heap.objs.size ≤ f → f ∉ frs X.stack := fun f hf m => by
    rcases List.mem_cons.mp (I.stkSub _ m) with e | e
    · have l1 := I.lt
      rw [← e] at l1
      exact absurd (Nat.lt_of_lt_of_le l1 hf) (Nat.lt_irrefl _)
    · exact I.nofs hf e
  cases q : codeAmong ps tr.toList with
  | some cv =>
    obtain ⟨cO, e, hcO⟩ := among ps cv q
    subst e
    refine PySem.W.kla_makeFunctionHit (mg := X.mg) (c := cM) (P := P) (ps := tr) (closure_ok fr) I.ok.glob (I.mod.glob.keeps I.bk) hco (TB.code.keeps I.bk) gP tok q bt fun ctv h1 tk hx hs => ?_
    have I2 : Inv X pins σ H { s with heap := h1.push (PySem.W.kla_obj "<lambda>" (X.env.qual ++ "<lambda>") pa bd sc (cloFrom X.env.cells sc.names []) ((X.mg "__name__").getD .none) cO ctv), toks := tk } := I.kept fun b o e => Heap.get?_push_of_some _ (hx b o e)
    exact k h1.objs.size cO ((X.mg "__name__").getD .none) ctv H _ I2 (ExtN.refl H) hT (fun a qs e => ⟨qs, e⟩) (Heap.get?_push_size _ rfl) (I.hok.fresh hs) (off _ hs) hcO
  | none =>
    refine PySem.W.kla_makeFunction (mg := X.mg) (c := cM) (P := P) (ps := tr) (closure_ok fr) I.ok.glob (I.mod.glob.keeps I.bk) hco (TB.code.keeps I.bk) gP tok q TB.gP bt fun cO ctv h1 tk hx hge hlt hrec htb => ?_
    obtain ⟨c2, oc, vs, tt, e2, g1, g2, g3⟩ := hrec
    cases e2
    have le : s.heap.objs.size ≤ h1.objs.size := Nat.le_trans hge (Nat.le_of_lt hlt)
    have nC : H cO = none := I.hok.fresh hge
    have nPC : P ≠ cO := ne_of_none eP nC
    have I2 := inv_table (t' := tk) (more := #[rawInt ps.line, rawInt ps.col, .ref cO]) (h' := h1.push (PySem.W.kla_obj "<lambda>" (X.env.qual ++ "<lambda>") pa bd sc (cloFrom X.env.cells sc.names []) ((X.mg "__name__").getD .none) cO ctv)) I eP
      (fun b o hb e => Heap.get?_push_of_some _ (hx b o hb e)) (Heap.get?_push_of_some _ htb) hge ⟨oc, vs, tt, Heap.get?_push_of_some _ g1, g2, g3⟩
    generalize hH1 : upd (upd H P (.tbl (tr ++ #[rawInt ps.line, rawInt ps.col, .ref cO]))) cO (CodeO cO (X.env.qual ++ "<lambda>")) = H1 at I2
    have atC : H1 cO = some (CodeO cO (X.env.qual ++ "<lambda>")) := by rw [← hH1, upd_same]
    have atP : H1 P = some (.tbl (tr ++ #[rawInt ps.line, rawInt ps.col, .ref cO])) := by rw [← hH1, upd_ne nPC, upd_same]
    have els : ∀ b, b ≠ P → b ≠ cO → H1 b = H b := fun b n1 n2 => by rw [← hH1, upd_ne n2, upd_ne n1]
    have ext : ExtN H H1 := fun b o e n => by
      rw [els b (fun z => by rw [z, eP] at e; exact n tr (Option.some.inj e).symm) (ne_of_none e nC)]
      exact e
    have tl : (tr ++ #[rawInt ps.line, rawInt ps.col, Value.ref cO]).toList = tr.toList ++ [rawInt ps.line, rawInt ps.col, .ref cO] := by simp
    refine k h1.objs.size cO ((X.mg "__name__").getD .none) ctv H1 _ I2 ext (fun p hp => ?_) (fun a qs e => ?_) (Heap.get?_push_size _ rfl) ?_ (off _ le) atC
    · by_cases hb : p.1 = P
      · rw [uni p hp hb, hb]
        refine ⟨_, atP, by rw [tl]; exact PySem.TriplesOk_snoc _ _ _ _ tok, fun p2 cv hcv => ?_⟩
        rw [tl] at hcv
        rcases among_app _ tok hcv with z | z
        · obtain ⟨c0, e1, e2⟩ := among p2 cv z
          exact ⟨c0, e1, ext _ _ e2 codeO_ne⟩
        · exact ⟨cO, z, atC⟩
      · obtain ⟨qs, a1, a2, a3⟩ := hT p hp
        refine ⟨qs, by rw [els _ hb (ne_of_none a1 nC)]; exact a1, a2, fun p2 cv hcv => ?_⟩
        obtain ⟨c0, e1, e2⟩ := a3 p2 cv hcv
        exact ⟨c0, e1, ext _ _ e2 codeO_ne⟩
    · by_cases hP : a = P
      · exact ⟨tr, by rw [hP]; exact eP⟩
      · by_cases hC : a = cO
        · rw [hC, atC] at e
          exact absurd (Option.some.inj e) (codeO_ne qs)
        · exact ⟨qs, by rw [← els a hP hC]; exact e⟩
    · rw [els _ (fun z => Nat.lt_irrefl _ (Nat.lt_of_lt_of_le (by rw [z]; exact Heap.lt_size gP) le)) (Nat.ne_of_gt hlt)]
      exact I.hok.fresh le

variable {b : Bs} {c : SC} {E : XK} {D : Dc}
theorem lam_here {E1 : XK} (h : Here b c E1 X) {A : Around} {outer : List Env} {s : Shared} {H : Hp} {scope : Scope} {f cO : Addr} (hr : Room (b.k + 2) (A.deeper (lamEnv X scope s.heap.objs.size f cO))) (gu : A.guards = some []) : Here b c E (lamCx X A outer s H E scope f cO) where
  ok := ⟨h.ok.K, h.ok.mg, rfl, h.ok.nd, hr, by
    have := takes_of (X := lamCx X A outer s H E scope f cO) (E := E) (E₁ := fun e' s'' => L2.CX X.prog X.w outer H s E e' s'') rfl rfl rfl rfl
    exact this, gu_deeper gu⟩
  c := h.c
  P := h.P
  w := h.w
  base := h.base
theorem sw_none {env : Env} {x y : Str} {px py pt p1 p2 pt2 : Pos} {kt k2 j1 j2 : Nat} : swappedStores [.Tuple [.Name x px, .Name y py] kt pt] (.Tuple [.Constant .none j1 p1, .Constant .none j2 p2] k2 pt2) env = pure none := by
  unfold swappedStores
  have z1 : [Expr.Constant .none j1 p1, Expr.Constant .none j2 p2].all (foldedForSure 8) = true := by simp [foldedForSure]
  simp only [z1]
  split
  · rfl
  · simp
    repeat (first | rfl | split)

/-- a, b = None, None -/
theorem ps_none2 {i j : Nat} {x y : Str} {px py pt p1 p2 pt2 pos : Pos} {kt k2 j1 j2 : Nat} (hc : X.calm = true) (nd : X.N.Nodup) (hi : X.N[i]? = some x) (hj : X.N[j]? = some y) (lx : X.env.scope.names.lookup x = some .local) (ly : X.env.scope.names.lookup y = some .local) :
    PS X (.Assign [.Tuple [.Name x px, .Name y py] kt pt] (.Tuple [.Constant .none j1 p1, .Constant .none j2 p2] k2 pt2) pos) (fun D σ H => ∀ p, H p = none → D.nx ((σ.set i (some .non)).set j (some .non)) (upd H p (.tup [.non, .non]))) := by
  refine ps_imp (ps_asg (pe_tup (pa_cons pe_non (pa_cons pe_non pa_nil))) (pg_tup (n := 2) hc (pgs_cons (pg_name nd hi (.inl lx) (.inr lx)) (pgs_cons (pg_name nd hj (.inl ly) (.inr ly)) pgs_nil))) rfl sw_none) fun D σ H h => ?_
  refine ⟨by decide, fun p hp => ⟨p, [.non, .non], rfl, SqT.of upd_same, rfl, .non, [.non], rfl, ?_⟩⟩
  exact ⟨.non, [], rfl, rfl, h p hp⟩
end
end LW

namespace LW
open PySem PySem.Spec PyProof.Rows L2 LamX
def runH (g : G) (d : PDef) (n : Nat) (a v : Av) : Mw Av := fun M => match evSs g n d.body ([none, some a, some v] ++ List.replicate (d.slots - 3) none) M with
  | .ok (.rt a, _) M' => .ok a M'
  | .ok (.nx, _) M' => .ok (.val .non) M'
  | .ok _ _ => .no
  | .ex _ _ => .no
  | .no => .no
/-- the def that hears: its text, where it stands -/
structure HrdD (b : Bs) (s : Ds) (x : Dx) (g0 : G) (hn : Str) (hb : PDef) (a : Addr) : Prop where
  kp : PySem.W.keepIn b.K (.ref a) = true
  mg : b.mg hn = some (.ref a)
  ex : ∃ (nm qual : Str) (params : Arguments) (rest : List Stmt) (scope : Scope) (fd : FuncData) (N : List Str) (n i : Nat) (xs na nc nf ne : Str) (S : Addr)
    (q1 q2 q3 q4 q5 q6 q7 q8 q9 qa qb qc qd qe qf qg qh : Pos) (k1 k2 k3 k4 : Nat),
    FunD b.K nm qual params (.Assign [.Tuple [.Name nc q1, .Name nf q2] k1 q3] (.Tuple [.Constant .none k2 q4, .Constant .none k3 q5] k4 q6) q7 ::
      .Try [.Assign [.Name nf q8] (.Call (.Name na q9) [] [] qa) qb] [.ExceptHandler (some (.Name xs qc)) (some ne) [.Assign [.Name nc qd] (.Name ne qe) qf] qg] [] [] qh :: rest) scope [] [] a fd ∧
    FnScope N [na] scope ∧ hb.slots = N.length ∧ Binds b.K fd [na] [] ∧ N[0]? = some na ∧ N[1]? = some nc ∧ N[2]? = some nf ∧ N[i]? = some ne ∧ 2 < i ∧ scope.names.lookup nc = some .local ∧ scope.names.lookup nf = some .local ∧ scope.names.lookup ne = some .local ∧
    visB scope na = true ∧ dunB na = true ∧ dunB ne = true ∧ gloB ⟨N, scope, fun _ => true, false⟩ xs = true ∧ b.mg xs = some (.ref S) ∧
    (∀ cn, g0.xcl cn = true → ∀ C, b.mg cn = some (.ref C) → PySem.W.exmOne b.K (.ref C) (.ref S) = some true) ∧ (∀ F h, corSs s x (g0.put F h) n hb.body ⟨N, scope, fun _ => true, false⟩ rest = true)

/-- the reading of found = ask() in the try -/
def tAskS (c : SC) (m : Ev → Mw Av) (σL : L2.St) (f cO : Addr) (q : Str) : WX → TS := fun W D σZ HZ => ∃ E1 : XK, (∀ cls d H', E1 cls d H' → W cls d σZ H') ∧ σZ[0]? = some (some (.ref f)) ∧ HZ cO = some (CodeO cO q) ∧ lifE c E1 m σL HZ (fun v H' => D.nx (σZ.set 2 (some v)) H')
/-- what was caught stands as a value -/
theorem RM.caught {c : SC} {H : Hp} {ρ : List Addr} {M : Mem} {dd a : Addr} {od oe : Obj} {fs : List (Str × V)} (r : RM c H ρ M) (hd : H dd = some (.xd fs)) (ha : H a = none) :
    RM c (upd (upd H dd (.frz od (.xd fs))) a (catO a oe)) ρ M ∧ Stb H (upd (upd H dd (.frz od (.xd fs))) a (catO a oe)) := by
  have hda : dd ≠ a := fun z => by rw [z, ha] at hd; cases hd
  have s1 : Stb H (upd H dd (.frz od (.xd fs))) := by
    have ne : ∀ b u, H b = some u → u ≠ .xd fs → b ≠ dd := fun b u e n z => n (by rw [z, hd] at e; exact (Option.some.inj e).symm)
    exact ⟨fun b o u e => by rw [upd_ne (ne b _ e (fun z => by cases z))]; exact e, fun b xs e => by rw [upd_ne (ne b _ e (fun z => by cases z))]; exact e⟩
  have ha1 : upd H dd (.frz od (.xd fs)) a = none := by rw [upd_ne (fun z => hda z.symm)]; exact ha
  have r1 : RM c (upd H dd (.frz od (.xd fs))) ρ M := by
    refine r.mono s1 (fun b m => upd_ne (fun z => by rw [z, hd] at m; exact m)) Thr.upd (fun q hq => ?_) (tbs_upd r.tbs fun ps z => by cases z)
    obtain ⟨ps, h1, h2, h3⟩ := r.tab q hq
    refine ⟨ps, by rw [upd_ne (fun z => by rw [z, hd] at h1; cases h1)]; exact h1, h2, fun pos cv hc => ?_⟩
    obtain ⟨c0, e1, e2⟩ := h3 pos cv hc
    exact ⟨c0, e1, by rw [upd_ne (fun z => by rw [z, hd] at e2; cases e2)]; exact e2⟩
  exact ⟨r1.new ha1, s1.trans (Stb.new ha1)⟩
theorem hrd_RE {c : SC} {H : Hp} {ρ : List Addr} {σ : L2.St} {k : Nat} {a1 a2 : Av} {v1 v2 : V} (hl : σ.length = k) (hk : 3 ≤ k) (e1 : σ[1]? = some (some v1)) (e2 : σ[2]? = some (some v2)) (r1 : RA c H ρ a1 v1) (r2 : RA c H ρ a2 v2) :
    RE c H ρ ([none, some a1, some a2] ++ List.replicate (k - 3) none) σ := by
  refine ⟨by simp; omega, fun j w e => ?_⟩
  match j, e with
  | 0, e => simp at e
  | 1, e =>
    have e : some (some a1) = some (some w) := by simpa using e
    cases e
    exact ⟨v1, e1, r1⟩
  | 2, e =>
    have e : some (some a2) = some (some w) := by simpa using e
    cases e
    exact ⟨v2, e2, r2⟩
  | j + 3, e =>
    rw [List.getElem?_append_right (by simp)] at e
    rw [List.getElem?_replicate] at e
    split at e <;> simp at e
theorem hrd_end {c : SC} {E : XK} {H1 H' : Hp} {ρ ρ' : List Addr} {M M' : Mem} {g : G} {hb : PDef} {av vv : Av} {Q : VK} (rm1 : RM c H1 ρ M) (p1 : ρ <+: ρ') (s1 : Stb H1 H') (ok : OK c (RAr c) H1 ρ E Q (finA false M (runH g hb M.length av vv M'))) :
    OK c (RF c) H' ρ' E (QD { nx := fun _ H' => Q .non H', rt := Q }) (evSs g M.length hb.body ([none, some av, some vv] ++ List.replicate (hb.slots - 3) none) M') := by
  have ok : OK c (RAr c) H1 ρ E Q (finA false M (match evSs g M.length hb.body ([none, some av, some vv] ++ List.replicate (hb.slots - 3) none) M' with
    | .ok (.rt a, _) M' => .ok a M'
    | .ok (.nx, _) M' => .ok (.val .non) M'
    | .ok _ _ => .no
    | .ex _ _ => .no
    | .no => .no)) := ok
  cases h : evSs g M.length hb.body ([none, some av, some vv] ++ List.replicate (hb.slots - 3) none) M' with
  | no => rw [h] at ok; exact False.elim ok
  | ex e M2 => rw [h] at ok; exact False.elim ok
  | ok r M2 =>
    rw [h] at ok
    obtain ⟨f, η1⟩ := r
    have fin : ∀ (a : Av), OK c (RAr c) H1 ρ E Q (finA false M (.ok a M2)) → ∀ ρ2 H2 v, ρ' <+: ρ2 → Stb H' H2 → RM c H2 ρ2 M2 → RA c H2 ρ2 a v → Q v H2 := fun a ok ρ2 H2 v p st rm' rv => by
      unfold finA at ok
      dsimp only at ok
      rw [if_neg (by simp)] at ok
      split at ok
      · rename_i hk
        split at ok
        · exact ok.then (List.prefix_refl _) (s1.trans st) (rm1.cut rm' (p1.trans p) hk) rv
        · split at ok
          · rename_i i hi
            exact ok.then (List.prefix_refl _) (s1.trans st) (rm1.cut rm' (p1.trans p) hk) (RA.cut (p1.trans p) rv fun j e => by cases e; rw [rm1.len]; exact hi)
          · exact False.elim ok
      · exact False.elim ok
    intro ρ2 H2 v p st rm' r'
    cases f <;> cases v <;> first
      | exact False.elim r'
      | exact False.elim ok
      | skip
    · exact fin _ ok ρ2 H2 .non p st rm' (show RA c H2 ρ2 (.val .non) .non from ra_non.mpr rfl)
    · exact fin _ ok ρ2 H2 _ p st rm' r'
section
variable {b : Bs} {s : Ds} {x : Dx} {g0 g1 : G}
theorem hrd_ok {hn : Str} {hb : PDef} {a : Addr} (F1 : Str → List Av → Mw Av) (h1 : Nat → Av → Av → Mw Av) (F : Str → List Av → Mw Av) (S : SupX b s x (g0.put F1 h1)) (D : HrdD b s x g0 hn hb a) :
    HrdU { b with k := b.k + 5 } (g0.put F (runH (g0.put F1 h1) hb)) hn := by
  obtain ⟨kp, hm, nm, qual, params, rest, scope, fd, N, n, i, xs, na, nc, nf, ne, SX, q1, q2, q3, q4, q5, q6, q7, q8, q9, qa, qb, qc, qd, qe, qf, qg, qh, k1, k2, k3, k4, FD, FS, hsl, hbd, n0, n1, n2, ni, i2, lc, lf, le, va, da, de, gx, hmx, hex, hc⟩ := D
  obtain ⟨oc, od0, dV, kV, doc, pm, an, cdv, ct, osl, rfl, lk, hcd, _, _⟩ := FD.ex
  intro c E X bd sc m p lp pos hh lm L hg hdb hbody
  obtain ⟨hroom, cA, P, hcode, TB, hmem, huni⟩ := lm
  have hK : X.K = b.K := hh.K
  have hM : X.mg = b.mg := hh.mg
  have ctb : c.tb = b.tb := by obtain ⟨l, e⟩ := hh.c; rw [e]; rfl
  refine ⟨fun pins s0 σ H Q I q => ?_⟩
  obtain ⟨ρ, η, M, rm, re, ok⟩ := q
  refine wpAny_Call_Name_kw (ld_glob I hg (by rw [hM]; exact hm) ?_ hdb)
  refine PySem.W.callWith_K (h₀ := X.base) I.ok.mod.kin (by rw [hK]; exact kp) ?_ (by rfl) (by rfl)
  show wpAny _ _ (spliced ((false, eval (.Lambda ⟨[], [], none, [], [], none, []⟩ bd sc lp) X.env) :: backTo pos (starEach [] X.env))) _ _ s0
  refine Calls.spliced_cons (lam_mk I TB hcode (by rw [← ctb] at hmem; exact hmem) (by rw [← ctb] at huni; exact huni) rm.tab rfl (L.has I.ok) fun f cO pm' ctv H1 s1 I1 eN T1 nt hf hfn hfr hco => ?_)
  refine Calls.spliced_nil ⟨I1.kIn, ?_⟩
  have rm1 : RM c H1 ρ M := rm.ext eN T1 fun a ps e => let ⟨ps', e'⟩ := nt a ps e; rm.tbs a ps' e'
  have st1 : Stb H H1 := Stb.ext eN
  have re1 : RE c H1 ρ η σ := re.mono st1 (List.prefix_refl _)
  have ok1 := ok.step (List.prefix_refl _) st1
  have rc : codeAny (model X.prog X.w) X.A (.call (.ref a) ⟨[.ref f], []⟩) (CR (L2.CX X.prog X.w) X.stack X.prog X.w H1 s1 Q E) s1 := by
    refine run_ofS (k := b.k + 8) (K := X.K) (mg := X.mg) (base := X.base) (N := N) (ps := [na]) (us := [.ref f]) (vs := [.ref f]) (by rw [hK]; exact lk) (by rw [hK]; exact hcd) FS hroom I1.env0 ((by rw [hK]; exact hbd : L2.Binds X.K _ [na] []) s1 [.ref f] I1.kIn rfl) (.cons rfl .nil) rfl fun hr' => ?_
    have hrZ := hr'.mono (show b.k + 2 ≤ b.k + 8 by omega)
    generalize hZ : cxOf (L2.CX X.prog X.w) X.prog X.w X.K X.mg X.base N qual scope a cdv X.A X.stack s1 H1 E = Z
    have hZh : Here b c E Z := by
      subst hZ
      exact ⟨⟨hh.ok.K, hh.ok.mg, rfl, FS.nd, hrZ, takes_of rfl rfl rfl rfl, gu_deeper hh.ok.gu⟩, hh.c, hh.P, hh.w, hh.base⟩
    have At' : At ⟨N, scope, fun _ => true, false⟩ Z := by subst hZ; exact ⟨rfl, rfl, rfl⟩
    have zN : Z.N = N := At'.N
    have zs : Z.env.scope = scope := At'.sc
    have zf : Z.fn = fun _ => true := At'.fn
    have nd : Z.N.Nodup := by rw [zN]; exact FS.nd
    have dd1 : dunB na = true := da
    simp only [dunB, Bool.and_eq_true, Bool.not_eq_true', decide_eq_true_eq] at da de
    obtain ⟨gl1, gl2, gl3⟩ := gl_of At' gx
    have zk : Z.K = b.K := hZh.K
    have zm : Z.mg = b.mg := hZh.mg
    have vis : Vis scope na := by
      simp only [visB, Bool.or_eq_true, decide_eq_true_eq] at va
      rcases va with (va | va) | va
      · exact .inl va
      · exact .inr (.inl va)
      · exact .inr (.inr va)
    have lcZ : Z.env.scope.names.lookup nc = some .local := by rw [zs]; exact lc
    have lfZ : Z.env.scope.names.lookup nf = some .local := by rw [zs]; exact lf
    have leZ : Z.env.scope.names.lookup ne = some .local := by rw [zs]; exact le
    have hrest := (snds S n).2 hb.body ⟨N, scope, fun _ => true, false⟩ rest c E Z M.length (hc F1 h1) hZh At' (fun z => nomatch z) FS.kind (by subst hZ; exact passes_of rfl)
    have htry : PS Z (.Try [.Assign [.Name nf q8] (.Call (.Name na q9) [] [] qa) qb] [.ExceptHandler (some (.Name xs qc)) (some ne) [.Assign [.Name nc qd] (.Name ne qe) qf] qg] [] [] qh)
        (fun D σZ HZ => tAskS c m σ f cO (X.env.qual ++ "<lambda>") (wKeep Z.K (.ref SX) i (fun a cls d => tAsg (tVar i) (gName 1)) (fun cls d _ H => E cls d H) D) D σZ HZ) := by
      subst hZ
      refine ps_try_keep (tb := tAskS c m σ f cO (X.env.qual ++ "<lambda>")) (ts := fun a cls d => tAsg (tVar i) (gName 1)) (Wout := fun cls d _ H => E cls d H) (b₀ := .Assign [.Name nc qd] (.Name ne qe) qf) (suite := []) rfl rfl rfl nd (by rw [zN]; exact ni) leZ ⟨gl1, gl2, .inl (by rw [zm]; exact hmx)⟩ hZh.ok.tk (fun W pn xe tkW _ => ?_) (fun ax oe cls d pn _ _ => ?_)
      · refine pss_one ⟨fun pz sZ σZ HZ D IZ hq => ?_⟩
        obtain ⟨E1, hW, e1, e2, hl⟩ := hq
        have pA := pe_ask (p1 := q9) (p2 := qa) (E := E1) (k := b.k + 7) I1 L hf hfn hfr (by rfl) tkW hr' hh.ok.gu (fun A2 o2 s2 H2 hr2 gu2 => hbody E1 A2 o2 s2 H2 f cO (lam_here hh hr2 gu2)) n0 vis da.1.1 da.1.2
        exact (ps_set (i := 2) (X := Cx.tr _ pn xe) nd n2 (.inl lf) pA (by rfl) (.inr lf)).run pz sZ σZ HZ D IZ ⟨hW, e1, e2, hl⟩
      · exact pss_one (ps_set (i := 1) (X := Cx.suite _ ax _) nd n1 (.inl lc) (pe_var (i := i) ni (.inl le) de.1.1 de.1.2) (by rfl) (.inr lc))
    refine ⟨_, pss_cons (ps_none2 (i := 1) (j := 2) hZh.ok.calm nd (by rw [zN]; exact n1) (by rw [zN]; exact n2) lcZ lfZ) (pss_cons htry hrest), ?_⟩
    intro pt hpt
    have rm2 : RM c (upd H1 pt (.tup [.non, .non])) ρ M := rm1.new hpt
    have st2 : Stb H1 (upd H1 pt (.tup [.non, .non])) := Stb.new hpt
    generalize hH2 : upd H1 pt (.tup [.non, .non]) = H2 at rm2 st2
    have hN3 : 3 ≤ N.length := (List.getElem?_eq_some_iff.mp n2).1
    have hs0 : (L2.start N [.ref f]).length = N.length := by unfold L2.start; simp; omega
    have hs00 : (L2.start N [.ref f])[0]? = some (some (.ref f)) := by unfold L2.start; simp
    generalize L2.start N [.ref f] = σ0 at hs0 hs00
    have code2 : H2 cO = some (CodeO cO (X.env.qual ++ "<lambda>")) := by
      rw [← hH2, upd_ne (fun z => by rw [z, hpt] at hco; cases hco)]; exact hco
    have i1 : i < N.length := (List.getElem?_eq_some_iff.mp ni).1
    have ok1 : OK c (RAr c) H1 ρ E Q (match m η M with
      | .ok (.val w) M' => finA false M (runH (g0.put F1 h1) hb M.length (.val .non) (.val w) M')
      | .ok _ _ => .no
      | .ex (.exc x ns xs) M' => if g0.xcl x = true then finA false M (runH (g0.put F1 h1) hb M.length (.val (.exc x ns xs)) (.val .non) M') else .no
      | .ex _ _ => .no
      | .no => .no) := ok1
    refine ⟨fun cls d H' => ∃ x ns xs M' ρ', m η M = .ex (.exc x ns xs) M' ∧ g0.xcl x = true ∧ ρ <+: ρ' ∧ Stb H2 H' ∧ RM c H' ρ' M' ∧ XOf c H' (.exc x ns xs) cls d, ?_, by simp [hs00], code2, ρ, η, M, rm2, re1.mono st2 (List.prefix_refl _), ?_⟩
    · rintro cls d H' ⟨x, ns, ys, M', ρ', hm', hx, p1, s1', rm', xo⟩
      rw [hm'] at ok1
      dsimp only at ok1
      rw [if_pos hx] at ok1
      obtain ⟨x2, ns2, ys2, C, dd, fs, ee, g1, g2, g3, g4, g5, g6⟩ := xo
      cases ee
      have mgC : b.mg x = some (.ref C) := by rw [← g1]; exact congrFun (hM.symm.trans hh.ok.mg) x
      refine ⟨true, by rw [zk, g2]; exact hex x hx C mgC, fun _ ax hax => ?_, fun z => nomatch z⟩
      refine ⟨.ref ax, by simp [hs0, i1], dd, fs, g3, g4, fun od oe q1 q2 q3 => ?_⟩
      obtain ⟨rm3, st3⟩ := rm'.caught (od := od) (oe := oe) g4 hax
      refine ⟨ρ', _, M', rm3, hrd_RE (k := hb.slots) (a1 := .val (.exc x ns ys)) (a2 := .val .non) (v1 := .ref ax) (v2 := .non) (by simp [hs0, hsl]) (by omega) ?_ ?_ ?_ (ra_non.mpr rfl), hrd_end rm1 p1 (st2.trans (s1'.trans st3)) ok1⟩
      · rw [List.getElem?_set_ne (by omega), List.getElem?_set_self (by simp [hs0]; omega)]
      · rw [List.getElem?_set_ne (by omega), List.getElem?_set_ne (by omega), List.getElem?_set_ne (by omega), List.getElem?_set_self (by simp [hs0]; omega)]
      · simp only [RA, RW]
        have hne : dd ≠ ax := fun z => by rw [z, hax] at g4; cases g4
        obtain ⟨vs3, q3⟩ := q3
        refine ⟨ax, C, fs, rfl, g1, ⟨oe, od, dd, vs3, upd_same, by rw [q1, g2], q2, q3, by rw [upd_ne hne, upd_same]⟩, g5, RWs_iff.mpr ((RWs_iff.mp g6).imp fun w v => RW.mono st3 w v)⟩
    · cases hm' : m η M with
      | no => rw [hm'] at ok1; exact False.elim ok1
      | ex e M' =>
        rw [hm'] at ok1
        cases e <;> first
          | exact False.elim ok1
          | skip
        rename_i x ns ys
        dsimp only at ok1
        split at ok1
        · rename_i hx
          exact fun ρ' H' cls d p1 s1' rm' xo => ⟨x, ns, ys, M', ρ', rfl, hx, p1, s1', rm', xo⟩
        · exact False.elim ok1
      | ok av M' =>
        rw [hm'] at ok1
        cases av with
        | ref j => exact False.elim ok1
        | val w =>
          intro ρ' H' v p1 s1' rm' ra'
          refine ⟨ρ', _, M', rm', hrd_RE (k := hb.slots) (a1 := .val .non) (a2 := .val w) (v1 := .non) (v2 := v) (by simp [hs0, hsl]) (by omega) ?_ ?_ (ra_non.mpr rfl) ra', hrd_end rm1 p1 (st2.trans s1') ok1⟩
          · rw [List.getElem?_set_ne (by omega), List.getElem?_set_ne (by omega), List.getElem?_set_self (by simp [hs0]; omega)]
          · rw [List.getElem?_set_self (by simp [hs0]; omega)]
  refine wpAny_call (codeAny_mono rc fun r s2 hq => ?_)
  cases r with
  | error e => exact hh.passes pins σ H1 s1 e s2 I1 hq
  | ok fl => cases fl <;> first | exact I1.after hq | exact False.elim hq
end
end LW

namespace LW
open PySem PySem.Spec PyProof.Rows L2
section
variable {b : Bs} {s : Ds} {x : Dx} {g : G}
theorem start_RE {c : SC} {H : Hp} {ρ : List Addr} {N : List Str} {n : Nat} {as : List Av} {vs : List V} (hn : n = N.length) (r : RL (RA c H ρ) as vs) : RE c H ρ (as.map some ++ List.replicate (n - as.length) none) (L2.start N vs) := by
  have hl := r.len
  refine ⟨by unfold L2.start; simp [hn, hl], fun i w e => ?_⟩
  unfold L2.start
  by_cases hi : i < as.length
  · rw [List.getElem?_append_left (by simpa using hi), List.getElem?_map] at e
    obtain ⟨w', e1, e2⟩ := Option.map_eq_some_iff.mp e
    cases e2
    obtain ⟨v, e3, rv⟩ := r.get e1
    exact ⟨v, by rw [List.getElem?_append_left (by simpa [← hl] using hi), List.getElem?_map, e3]; rfl, rv⟩
  · rw [List.getElem?_append_right (by simpa using Nat.le_of_not_lt hi)] at e
    rw [List.getElem?_replicate] at e
    split at e <;> simp at e
/-- the code object of a def, as its function bears it -/
def CodeOf (fd : FuncData) (cdv : Value) : Prop := ∃ nm qual params body scope dV kV doc pm an ct, fd = PySem.W.fnOf nm qual params body scope dV kV doc pm an cdv ct
def LamT (b : Bs) (qual : Str) (cdv : Value) : Prop := ∃ cA P, cdv = .ref cA ∧ LamX.TabB b.base b.mg cA P ∧ (P, (qual ++ ".<locals>.") ++ "<lambda>") ∈ b.tb ∧ ∀ p ∈ b.tb, p.1 = P → p.2 = (qual ++ ".<locals>.") ++ "<lambda>"
theorem fn_ok (S : SupX b s x g) {nm qual : Str} {params : Arguments} {body : List Stmt} {scope : Scope} {dvs : List V} {kws : List (Str × V)} {a : Addr} {fd : FuncData} {N ps : List Str} {d : PDef} {n : Nat} (F : FunD b.K nm qual params body scope dvs kws a fd) (FS : FnScope N ps scope)
    {lam : Bool} (hn : d.slots = N.length) (hc : corSs s x g n d.body ⟨N, scope, fun _ => true, lam⟩ body = true) (hl : lam = true → ∀ cdv, CodeOf fd cdv → LamT b qual cdv) : FnG b.P b.w b.K b.mg b.base (CX b.P b.w) (b.k + 5) a fd ps (spU b.c0 ps.length (runD g d)) := by
  obtain ⟨oc, od, dV, kV, doc, pm, an, cdv, ct, osl, rfl, lk, hcd, _, _⟩ := F.ex
  refine ⟨fun vs H Q E h => h.1, fun A outer sh H args us vs Q E hr0 gu e0 hb0 rv0 hsp => LamX.run_ofS (k := b.k + 4) lk hcd FS hr0 e0 hb0 rv0 hsp.1 fun hr4 => ?_⟩
  have hr := hr4.mono (show b.k + 2 ≤ b.k + 4 by omega)
  obtain ⟨hlen, l, ρ, M, as, rm, ra, ok⟩ := hsp
  have hh : Here b (b.c0.with l) E (cxOf (CX b.P b.w) b.P b.w b.K b.mg b.base N qual scope a cdv A outer sh H E) :=
    ⟨⟨rfl, rfl, rfl, FS.nd, hr, takes_of rfl rfl rfl rfl, gu_deeper gu⟩, ⟨l, rfl⟩, rfl, rfl, rfl⟩
  have At' : At ⟨N, scope, fun _ => true, lam⟩ (cxOf (CX b.P b.w) b.P b.w b.K b.mg b.base N qual scope a cdv A outer sh H E) := ⟨rfl, rfl, rfl⟩
  have lamok : (⟨N, scope, fun _ => true, lam⟩ : Dc).lam = true → LamOk b (cxOf (CX b.P b.w) b.P b.w b.K b.mg b.base N qual scope a cdv A outer sh H E) := fun z => by
    obtain ⟨cA, P, e1, e2, e3, e4⟩ := hl z cdv ⟨nm, qual, params, body, scope, dV, kV, doc, pm, an, ct, rfl⟩
    have hq : (cxOf (CX b.P b.w) b.P b.w b.K b.mg b.base N qual scope a cdv A outer sh H E).env.qual = qual ++ ".<locals>." := rfl
    refine ⟨hr4, cA, P, e1, e2, ?_, ?_⟩
    · rw [hq]; exact e3
    · rw [hq]; exact e4
  refine ⟨_, (snds S n).2 _ _ _ _ _ _ M.length hc hh At' lamok FS.kind (passes_of rfl), ρ, _, M, rm, start_RE hn ra, ?_⟩
  have ok : OK (b.c0.with l) (RAr (b.c0.with l)) H ρ E Q (finA d.keep M (match evSs g M.length d.body (as.map some ++ List.replicate (d.slots - as.length) none) M with
    | .ok (.rt a, _) M' => .ok a M'
    | .ok (.nx, _) M' => .ok (.val .non) M'
    | .ok _ _ => .no
    | .ex e M' => .ex e M'
    | .no => .no)) := ok
  cases h : evSs g M.length d.body (as.map some ++ List.replicate (d.slots - as.length) none) M with
  | no => rw [h] at ok; exact False.elim ok
  | ex e M' =>
    rw [h] at ok
    intro ρ' H' cls dd p st rm' xo
    have ok : OK (b.c0.with l) (RAr (b.c0.with l)) H ρ E Q (if chkL M M' = true then .ex e (M'.take M.length) else .no) := ok
    split at ok
    · rename_i hk
      exact ok ρ H' cls dd (List.prefix_refl _) st (rm.cut rm' p hk) xo
    · exact False.elim ok
  | ok r M' =>
    rw [h] at ok
    obtain ⟨f, η1⟩ := r
    have fin : ∀ (a : Av), OK (b.c0.with l) (RAr (b.c0.with l)) H ρ E Q (finA d.keep M (.ok a M')) → ∀ ρ' H' v, ρ <+: ρ' → Stb H H' → RM (b.c0.with l) H' ρ' M' → RA (b.c0.with l) H' ρ' a v → Q v H' := fun a ok ρ' H' v p st rm' rv => by
      unfold finA at ok
      dsimp only at ok
      split at ok
      · exact ok.then p st rm' rv
      · split at ok
        · rename_i hk
          split at ok
          · exact ok.then (List.prefix_refl _) st (rm.cut rm' p hk) rv
          · split at ok
            · rename_i i hi
              exact ok.then (List.prefix_refl _) st (rm.cut rm' p hk) (RA.cut p rv fun j e => by cases e; rw [rm.len]; exact hi)
            · exact False.elim ok
        · exact False.elim ok
    intro ρ' H' v p st rm' r'
    cases f <;> cases v <;> first
      | exact False.elim r'
      | exact False.elim ok
      | skip
    · exact fin _ ok ρ' H' .non p st rm' (show RA (b.c0.with l) H' ρ' (.val .non) .non from ra_non.mpr rfl)
    · exact fin _ ok ρ' H' _ p st rm' r'

/-! ### levels: how deep calls go -/
def lvl (g0 : G) (tab : List (Str × PDef)) (hb : PDef) : Nat → G
  | 0 => g0.put (fun _ _ => Mw.fail) fun _ _ _ => Mw.fail
  | n + 1 => g0.put (fun f as => match tab.lookup f with
    | some d => runD (lvl g0 tab hb n) d as
    | none => Mw.fail) (runH (lvl g0 tab hb n) hb)
theorem lvl_shape (g0 : G) (tab : List (Str × PDef)) (hb : PDef) : ∀ n, ∃ F h, lvl g0 tab hb n = g0.put F h
  | 0 => ⟨_, _, rfl⟩
  | n + 1 => ⟨_, _, rfl⟩
def Bs.at (b : Bs) (n : Nat) : Bs := { b with k := 5 * n }
/-- how a def's parameters are filled up -/
structure ParF (b : Bs) (g0 : G) (f : Str) (fd : FuncData) (ps : List Str) : Prop where
  dfl : ∀ n ds, g0.dfl f n = some ds → n + ds.length = ps.length ∧ ∃ dvs us, (∀ H, RL (RW b.c0 H) ds dvs) ∧ Vals dvs us ∧ Binds b.K fd ps us
  kwo : ∀ n ks ss, g0.kwo f n ks = some ss → ∃ gL gV, KBn b.K fd ps n ks gL gV ∧ ∀ as bs, as.length = n → bs.length = ks.length → ∀ l, srcA as bs ss = some l → l.length = ps.length ∧
      ∀ c H ρ vs us, c.K = b.K → c.mg = b.mg → RL (RA c H ρ) as vs → RL (RA c H ρ) bs us → RL (RA c H ρ) l (gV vs us)
structure DefU (b : Bs) (s : Ds) (x : Dx) (g0 : G) (f : Str) (d : PDef) (a : Addr) : Prop where
  kp : PySem.W.keepIn b.K (.ref a) = true
  ex : ∃ (nm qual : Str) (params : Arguments) (body : List Stmt) (scope : Scope) (dvs : List V) (kws : List (Str × V)) (fd : FuncData) (N ps : List Str) (n : Nat) (lam : Bool), FunD b.K nm qual params body scope dvs kws a fd ∧ FnScope N ps scope ∧ d.slots = N.length ∧
    (∀ F h, corSs s x (g0.put F h) n d.body ⟨N, scope, fun _ => true, lam⟩ body = true) ∧ ParF b g0 f fd ps ∧ (lam = true → ∀ cdv, CodeOf fd cdv → LamT b qual cdv)
structure Wld (b : Bs) (s : Ds) (x : Dx) (g0 : G) (tab : List (Str × PDef)) (hb : PDef) (ad : Str → Addr) : Prop where
  hrd : ∀ hn, s.hd = some hn → ∃ a, HrdD b s x g0 hn hb a
  defs : ∀ f d, tab.lookup f = some d → DefU b s x g0 f d (ad f)
  bl : ∀ x ∈ s.bl, b.mg x = none
  fns : ∀ f ∈ s.fns, b.mg f = some (.ref (ad f)) ∧ (tab.lookup f).isSome = true
  cls : ∀ cn ∈ s.cls, ∃ C, MkU b cn C (ad (cn ++ ".__init__")) ∧ (tab.lookup (cn ++ ".__init__")).isSome = true ∧ g0.exf cn = none
  glob : ∀ x w, g0.glob x = some w → ∃ u v, b.mg x = some u ∧ RelV v u ∧ ∀ H, RW b.c0 H w v
  fld : FldOk b.c0 g0
  kit : KitOk b.c0 g0
  eq : ∀ cn, g0.mth cn "__eq__" = true → (tab.lookup (cn ++ ".__eq__")).isSome = true ∧ ∃ C, b.mg cn = some (.ref C) ∧ PySem.W.findIn b.K (.ref C) "__eq__" = some (some (.ref (ad (cn ++ ".__eq__")))) ∧ PySem.W.isFn b.K (.ref (ad (cn ++ ".__eq__"))) = true ∧
    ∀ kn t, g0.nf cn kn = true → KnV b.c0 kn t → PySem.W.notFirst b.K C t = true
  ne : ∀ cn, g0.mth cn "!=" = true → ∃ C, b.mg cn = some (.ref C) ∧ PySem.W.findIn b.K (.ref C) "__ne__" = some (some (.builtin "object.__ne__")) ∧ PySem.W.mroIn b.K C (.type "object") = some true
  len : ∀ cn, g0.mth cn "__len__" = true → (tab.lookup (cn ++ ".__len__")).isSome = true ∧ ∃ C, b.mg cn = some (.ref C) ∧ PySem.W.findIn b.K (.ref C) "__len__" = some (some (.ref (ad (cn ++ ".__len__")))) ∧ PySem.W.isFn b.K (.ref (ad (cn ++ ".__len__"))) = true
  exc : ∀ k F h cn, cn ∈ x.exc → ExcU { b with k := k } (g0.put F h) cn
theorem FldOk.full {c : SC} {g0 : G} (h : FldOk c g0) (F : Str → List Av → Mw Av) (hh : Nat → Av → Av → Mw Av) : FldOk c (g0.put F hh) := ⟨h.fld, h.xfd⟩
theorem KitOk.full {c : SC} {g0 : G} (h : KitOk c g0) (F : Str → List Av → Mw Av) (hh : Nat → Av → Av → Mw Av) : KitOk c (g0.put F hh) := ⟨h.icl, h.xcl, h.get, h.kit⟩
theorem supX_of {s : Ds} {x : Dx} {g0 : G} {tab : List (Str × PDef)} {hb : PDef} {ad : Str → Addr} (W : Wld b s x g0 tab hb ad) {n : Nat} {F : Str → List Av → Mw Av} {hr : Nat → Av → Av → Mw Av} (hU : ∀ f d, tab.lookup f = some d → FnU (b.at n) (g0.put F hr) f (ad f)) (hH : ∀ hn, s.hd = some hn → HrdU (b.at n) (g0.put F hr) hn) : SupX (b.at n) s x (g0.put F hr) := by
  have get : ∀ f, (tab.lookup f).isSome = true → FnU (b.at n) (g0.put F hr) f (ad f) := fun f h => by
    obtain ⟨d, hd⟩ := Option.isSome_iff_exists.mp h
    exact hU f d hd
  refine ⟨⟨W.bl, fun f hf => ?_, fun cn hc => ?_, W.glob, W.fld.full F hr, W.kit.full F hr, ⟨fun cn h => ?_, W.ne, fun cn h => ?_⟩, hH⟩, fun cn hc => W.exc _ F hr cn hc⟩
  · exact ⟨_, (W.fns f hf).1, get f (W.fns f hf).2⟩
  · obtain ⟨C, h1, h2, h3⟩ := W.cls cn hc
    exact ⟨C, _, ⟨h1.mkf, h1.mg⟩, get _ h2, h3⟩
  · obtain ⟨h1, C, h2, h3, h4, h5⟩ := W.eq cn h
    exact ⟨C, _, h2, get _ h1, h3, h4, h5⟩
  · obtain ⟨h1, C, h2, h3, h4⟩ := W.len cn h
    exact ⟨C, _, h2, get _ h1, h3, h4⟩
theorem heard_no {g : G} {x : Mw Av} {M : Mem} (h : g.hrd = fun _ _ _ => Mw.fail) : heardM g x M = .no := by
  unfold heardM
  rw [h]
  split <;> first
    | rfl
    | (split <;> rfl)
theorem lvl_zero {s : Ds} {x : Dx} {g0 : G} {tab : List (Str × PDef)} {ad : Str → Addr} {hb : PDef} (W : Wld b s x g0 tab hb ad) : (∀ f d, tab.lookup f = some d → FnU (b.at 0) (lvl g0 tab hb 0) f (ad f)) ∧ ∀ hn, s.hd = some hn → HrdU (b.at 0) (lvl g0 tab hb 0) hn := by
  refine ⟨fun f d hd => ?_, fun hn _ => ?_⟩
  · obtain ⟨kp, nm, qual, params, body, scope, dvs, kws, fd, N, ps, m, lam, hF, hS, hn, hc, hP, hlam⟩ := W.defs f d hd
    exact ⟨kp, fd, ps, ⟨fun vs H Q E h => h.1, fun A outer s H args us vs Q E _ _ _ _ _ h => by
      obtain ⟨_, l, ρ, M, as, _, _, ok⟩ := h
      exact False.elim ok⟩, hP.dfl, hP.kwo⟩
  · intro c E X bd sc m p lp pos hh lm L hg hdb hbody
    refine ⟨fun pins s0 σ H Q I q => ?_⟩
    obtain ⟨ρ, η, M, rm, re, ok⟩ := q
    have e0 : heardM (lvl g0 tab hb 0) (m η) M = .no := heard_no rfl
    have ok : OK c (RAr c) H ρ E Q (heardM (lvl g0 tab hb 0) (m η) M) := ok
    rw [e0] at ok
    exact False.elim ok
theorem lvl_succ {s : Ds} {x : Dx} {g0 : G} {tab : List (Str × PDef)} {ad : Str → Addr} {hb : PDef} (W : Wld b s x g0 tab hb ad) {n : Nat} (ih : ∀ f d, tab.lookup f = some d → FnU (b.at n) (lvl g0 tab hb n) f (ad f)) (ihh : ∀ hn, s.hd = some hn → HrdU (b.at n) (lvl g0 tab hb n) hn) :
    (∀ f d, tab.lookup f = some d → FnU (b.at (n + 1)) (lvl g0 tab hb (n + 1)) f (ad f)) ∧ ∀ hn, s.hd = some hn → HrdU (b.at (n + 1)) (lvl g0 tab hb (n + 1)) hn := by
  obtain ⟨F, hr, eF⟩ := lvl_shape g0 tab hb n
  rw [eF] at ih ihh
  have S := supX_of W ih ihh
  refine ⟨fun f d hd => ?_, fun hn h => ?_⟩
  · obtain ⟨kp, nm, qual, params, body, scope, dvs, kws, fd, N, ps, m, lam, hF, hS, hn, hc, hP, hlam⟩ := W.defs f d hd
    have r := fn_ok (b := b.at n) S hF hS hn (hc F hr) hlam
    refine ⟨kp, fd, ps, ?_, hP.dfl, hP.kwo⟩
    have e : (lvl g0 tab hb (n + 1)).full f = runD (g0.put F hr) d := by
      show (fun as => match tab.lookup f with
        | some d => runD (lvl g0 tab hb n) d as
        | none => Mw.fail) = _
      rw [hd, eF]
    rw [e]
    exact r
  · obtain ⟨a, D⟩ := W.hrd hn h
    have r := hrd_ok F hr (lvl g0 tab hb (n + 1)).full S (hn := hn) (hb := hb) (a := a) ⟨D.kp, D.mg, D.ex⟩
    have e : lvl g0 tab hb (n + 1) = g0.put (lvl g0 tab hb (n + 1)).full (runH (g0.put F hr) hb) := by
      rw [← eF]
      rfl
    rw [e]
    exact r
theorem lvl_all {s : Ds} {x : Dx} {g0 : G} {tab : List (Str × PDef)} {ad : Str → Addr} {hb : PDef} (W : Wld b s x g0 tab hb ad) : ∀ n, (∀ f d, tab.lookup f = some d → FnU (b.at n) (lvl g0 tab hb n) f (ad f)) ∧ ∀ hn, s.hd = some hn → HrdU (b.at n) (lvl g0 tab hb n) hn
  | 0 => lvl_zero W
  | n + 1 => lvl_succ W (lvl_all W n).1 (lvl_all W n).2
theorem lvl_ok {s : Ds} {x : Dx} {g0 : G} {tab : List (Str × PDef)} {ad : Str → Addr} {hb : PDef} (W : Wld b s x g0 tab hb ad) (n : Nat) (f : Str) (d : PDef) (h : tab.lookup f = some d) : FnU (b.at n) (lvl g0 tab hb n) f (ad f) := (lvl_all W n).1 f d h
end
end LW

namespace LW
open PySem PySem.Spec PyProof.Rows L2 He

/-! ### what is observed behind the head -/
abbrev FnS : Type := Option (Str × Str × Arguments × FuncBody × Scope × Addr × List Str × Addr)
def fnS (K : PySem.W.Frag) (p : Str × Option Str) : FnS := match K.lookup (fAd K p) with
  | some ⟨_, _, .func fd, _⟩ => some (fd.name, fd.qualname, fd.params, fd.body, fd.scope, fd.globals, fd.closure.map (·.1), fd.builtins)
  | _ => none
def valS (cl : List Str) (d : DefD) : FnS := some (d.name, d.qual, d.params, .stmts d.body, d.scope, mainGlobals, cl, builtinsNs)
def asW (g : Addr → Option Obj) : Nat → List Addr
  | 0 => [mainGlobals, cStatics]
  | n + 1 => growD g (asW g n)
abbrev AlW : Type := Bool × List FnS
def obsK (fs es : List DefD) (tf : List Defn) (ex : PySem.W.Frag → Bool) (g : Addr → Option Obj) (K : PySem.W.Frag) : AlW := (ex K && tabsB g tf K, fs.map (fun d => fnS K d.at_) ++ es.map (fun d => fnS K d.at_))
def obsW (n : Nat) (fs es : List DefD) (tf : List Defn) (ex : PySem.W.Frag → Bool) (g : Addr → Option Obj) : AlW := obsK fs es tf ex g (frT g (asW g n))
def valW (fs es : List DefD) : AlW := (true, fs.map (valS []) ++ es.map (valS ["__class__"]))
structure SaysW (fs es : List DefD) (tf : List Defn) (ex : PySem.W.Frag → Bool) (h : Heap) (K : PySem.W.Frag) : Prop where
  fn : fs.map (fun d => fnS K d.at_) ++ es.map (fun d => fnS K d.at_) = fs.map (valS []) ++ es.map (valS ["__class__"])
  ex : ex K = true
  hd : ∀ p ∈ tf, PySem.W.codeHdIn K (cT K p).1 (cT K p).2 = true
  out : ∀ p ∈ tf, K.lookup (cT K p).2 = none
  empty : ∀ p ∈ tf, h.get? (cT K p).2 = some { cls := .none, data := .fields #[] }
theorem saysW_of {n : Nat} {fs es : List DefD} {tf : List Defn} {ex : PySem.W.Frag → Bool} {h : Heap} (e : obsW n fs es tf ex h.get? = valW fs es) : SaysW fs es tf ex h (frT h.get? (asW h.get? n)) := by
  have e1 := congrArg (fun z : AlW => z.1) e
  have e2 := congrArg (fun z : AlW => z.2) e
  obtain ⟨h1, h2⟩ := ba (show (ex (frT h.get? (asW h.get? n)) && tabsB h.get? tf (frT h.get? (asW h.get? n))) = true from e1)
  have key : ∀ p ∈ tf, PySem.W.codeHdIn (frT h.get? (asW h.get? n)) (cT (frT h.get? (asW h.get? n)) p).1 (cT (frT h.get? (asW h.get? n)) p).2 = true ∧ ∃ o, h.get? (cT (frT h.get? (asW h.get? n)) p).2 = some o ∧ emptyTab o = true := fun p hp => by
    obtain ⟨g1, g2⟩ := ba (List.all_eq_true.mp h2 p hp)
    refine ⟨g1, ?_⟩
    split at g2
    · rename_i o q
      exact ⟨o, q, g2⟩
    · cases g2
  refine ⟨e2, h1, fun p hp => (key p hp).1, fun p hp => ?_, fun p hp => ?_⟩
  · obtain ⟨_, o, q, z⟩ := key p hp
    exact frT_none q z
  · obtain ⟨_, o, q, z⟩ := key p hp
    rw [q, emptyTab_eq z]
def hookW (n : Nat) (fs es : List DefD) (tf : List Defn) (ex : PySem.W.Frag → Bool) : PySem.W.Hook where
  α := AlW
  obs := fun s => obsW n fs es tf ex s.heap.get?
  val := fun _ => valW fs es
  says := fun _ h => ∃ K : PySem.W.Frag, K.In h ∧ SaysW fs es tf ex h K
  of := fun _ _ e => ⟨_, frT_in, saysW_of e⟩
  keeps := fun _ _ _ ⟨K, hK, c⟩ k => ⟨K, PySem.W.Frag.In.keeps hK k, ⟨c.fn, c.ex, c.hd, c.out, fun p hp => k _ _ (c.empty p hp)⟩⟩
theorem obsW_eq {n : Nat} {fs es : List DefD} {tf : List Defn} {ex : PySem.W.Frag → Bool} {g : Addr → Option Obj} {s : Shared} (h : ∀ a, g a = s.heap.get? a) : obsW n fs es tf ex g = (hookW n fs es tf ex).obs s := by
  have e : g = s.heap.get? := funext h
  rw [e] <;> rfl
section
variable {fs es : List DefD} {tf : List Defn} {ex : PySem.W.Frag → Bool} {h : Heap} {K : PySem.W.Frag}
theorem SaysW.plain (c : SaysW fs es tf ex h K) {d : DefD} (hd : d ∈ fs) : fnS K d.at_ = valS [] d := by
  obtain ⟨i, hi⟩ := List.mem_iff_getElem?.mp hd
  have hl : i < fs.length := (List.getElem?_eq_some_iff.mp hi).1
  have e := congrArg (fun l => l[i]?) c.fn
  rw [List.getElem?_append_left (by simpa using hl), List.getElem?_append_left (by simpa using hl), List.getElem?_map, List.getElem?_map, hi] at e
  exact Option.some.inj e
theorem SaysW.exc (c : SaysW fs es tf ex h K) {d : DefD} (hd : d ∈ es) : fnS K d.at_ = valS ["__class__"] d := by
  obtain ⟨i, hi⟩ := List.mem_iff_getElem?.mp hd
  have e := congrArg (fun l => l[fs.length + i]?) c.fn
  rw [List.getElem?_append_right (by simp), List.getElem?_append_right (by simp)] at e
  simp only [List.length_map, Nat.add_sub_cancel_left, List.getElem?_map, hi] at e
  exact Option.some.inj e
theorem SaysW.funD (c : SaysW fs es tf ex h K) {d : DefD} (hd : d ∈ fs) (ok : d.ok K = true) : ∃ fd, FunD K d.name d.qual d.params d.body d.scope (d.dvs K) (d.kws K) (fAd K d.at_) fd := by
  refine DefD.funD ?_ ok
  have e := c.plain hd
  unfold fnS at e
  unfold fnW
  split at e
  · rename_i fd _ q
    rw [q]
    simp only [valS, Option.some.injEq, Prod.mk.injEq, List.map_eq_nil_iff] at e
    obtain ⟨h1, h2, h3, h4, h5, h6, h7, h8⟩ := e
    simp only [DefD.val, h1, h2, h3, h4, h5, h6, h7, h8]
  · cases e
end
/-! ### an exception class -/
def oexB (K : PySem.W.Frag) (C : Addr) : Bool := match K.lookup C with
  | some ⟨.type t, _, .cls cd, sl⟩ => decide (t = "type") && (cd.hasDict && (!cd.hasDel && (match cd.mro, sl.toList with
    | .ref C' :: bm, [_, _, _, _, some (.builtin n), _] => decide (C' = C) && (decide (n = "ValueError.__new__") && PySem.HandSPX.refsVE bm)
    | _, _ => false)))
  | _ => false
theorem oexB_ok {K : PySem.W.Frag} {C : Addr} (h : oexB K C = true) : ∃ nm q N bs bm sn sub ab col dd k0 k1 k2 k3 k5, K.lookup C = some (excClassObj nm q C N bs bm true sn sub ab col dd k0 k1 k2 k3 k5 "ValueError.__new__") ∧ PySem.HandSPX.refsVE bm = true := by
  unfold oexB at h
  split at h
  · rename_i t dd cd sl ho
    obtain ⟨h1, h⟩ := ba h
    obtain ⟨h2, h⟩ := ba h
    obtain ⟨h3, h⟩ := ba h
    split at h
    · rename_i C' bm k0 k1 k2 k3 n k5 hm hs
      obtain ⟨h4, h⟩ := ba h
      obtain ⟨h5, h6⟩ := ba h
      simp only [decide_eq_true_eq, Bool.not_eq_true'] at h1 h3 h4 h5
      subst h1 h4 h5
      obtain ⟨nm, bs, mro, ns, qn, hd, sn, sub, ab, col, del⟩ := cd
      dsimp only at hm h2 h3
      subst hm h2 h3
      have hsl : sl = #[k0, k1, k2, k3, some (.builtin "ValueError.__new__"), k5] := by
        obtain ⟨l⟩ := sl
        simp only at hs
        rw [hs]
      subst hsl
      exact ⟨nm, qn, ns, bs, bm, sn, sub, ab, col, dd, k0, k1, k2, k3, k5, ho, h6⟩
    · cases h
  · cases h
def codeFB (P : Program) (K : PySem.W.Frag) (C f : Addr) : Bool := match K.lookup f with
  | some ⟨_, _, .func fd, _⟩ => (match fd.code, fd.closure, fd.defaults with
    | .ref cda, [(_, cc)], .none => PySem.W.codeIn K (.ref cda) fd.qualname && ((match K.lookup cda with
      | some ⟨_, _, .fields vs, _⟩ => (match (vs[2]? : Option Value) with
        | some (Value.str file _) => (P.main.file : Str) == file
        | _ => false)
      | _ => false) && (match K.lookup cc with
      | some ⟨_, _, .cell (some (.ref C')), _⟩ => decide (C' = C)
      | _ => false))
    | _, _, _ => false)
  | _ => false
def excB (P : Program) (K : PySem.W.Frag) (cn : Str) (ns : List Str) : Bool :=
  eqO (PySem.W.nsIn K mainGlobals cn) (some (some (.ref (ga K cn)))) && (oexB K (ga K cn) && (eqO (PySem.W.findIn K (.ref (ga K cn)) "__setattr__") (some (some (.builtin "object.__setattr__"))) && (decide (PySem.W.subIn K (.ref (ga K cn)) (.type "BaseException") = some true) &&
  (decide (PySem.W.typeIn K (.ref (ga K cn)) = some (.type "type")) && (PySem.W.keepIn K (.ref (ga K cn)) && (eqO (PySem.W.findIn K (.ref (ga K cn)) "__init__") (some (some (.ref (ma K (ga K cn) "__init__")))) && (decide (PySem.W.typeIn K (.ref (ma K (ga K cn) "__init__")) = some (.type "function")) &&
  (eqO (PySem.W.nsIn K mainGlobals "super") (some none) && (eqO (PySem.W.nsIn K cStatics "thirdparty.any") (some none) && (eqO (PySem.W.ks_superIn K (ga K cn) (ga K cn) "__init__") (some (some (.builtin "ValueError.__init__"))) && (decide (PySem.W.subIn K (.ref (ga K cn)) (.type "ValueError") = some true) &&
  (decide (PySem.W.mroIn K (ga K cn) (.ref (ga K cn)) = some true) && (ns.all (fun x => eqO (PySem.W.findIn K (.ref (ga K cn)) x) (some none)) && codeFB P K (ga K cn) (ma K (ga K cn) "__init__"))))))))))))))
/-- what the text of such an __init__ is -/
structure ExcT (P : Program) (cn : Str) (ns : List Str) (d : DefD) : Prop where
  at_ : d.at_ = (cn, some ("__init__" : Str))
  top : (P.main.scope.names.lookup ("super" : Str)).isSome = false
  ne : ns ≠ []
  db : (cn == ("__debug__" : Str)) = false
  len : ns.length ≤ 800
  ex : ∃ (sts : List Stmt) (self txt : Str) (j : Nat) (p0 p1 p2 p3 p4 p5 : Pos) (ar : Arg), d.body = .Expr (.Call (.Attribute (.Call (.Name "super" p0) [] [] p1) "__init__" p2) [.Constant (.str txt) j p3] [] p4) p5 :: sts ∧
    (d.params.posonlyargs ++ d.params.args).head? = some ar ∧ ar.arg = self ∧ ScS (self :: ns) (self :: ns) d.scope ∧ d.scope.names.lookup ("super" : Str) = some .globalImplicit ∧ d.scope.names.lookup ("__class__" : Str) = some .free ∧ dunB self = true ∧ (p2.endLine == p4.line) = true ∧ stsB self ns sts = true ∧
    ∀ (kV doc pm : Value) (an : Option Addr) (cdv ct : Value) (cc : Addr) (us : List Value), us.length = ns.length + 1 → bindArgs (PySem.W.ksFn d.name d.qual d.params d.body d.scope .none kV doc pm an cdv ct cc) ⟨us, []⟩ = pure ((self :: ns).zip us)
theorem excD_of {P : Program} {K : PySem.W.Frag} {mg : Str → Option Value} {h : Heap} {cn : Str} {ns : List Str} {d : DefD} (X : K.In h) (G : h.Ns mainGlobals mg) (T : ExcT P cn ns d) (e : fnS K d.at_ = valS ["__class__"] d) (c : excB P K cn ns = true) : ExcD P K mg cn (ga K cn) (ma K (ga K cn) "__init__") ns := by
  obtain ⟨c1, c⟩ := ba c
  obtain ⟨c2, c⟩ := ba c
  obtain ⟨c3, c⟩ := ba c
  obtain ⟨c4, c⟩ := ba c
  obtain ⟨c5, c⟩ := ba c
  obtain ⟨c6, c⟩ := ba c
  obtain ⟨c7, c⟩ := ba c
  obtain ⟨c8, c⟩ := ba c
  obtain ⟨c9, c⟩ := ba c
  obtain ⟨c10, c⟩ := ba c
  obtain ⟨c11, c⟩ := ba c
  obtain ⟨c12, c⟩ := ba c
  obtain ⟨c13, c⟩ := ba c
  obtain ⟨c14, c15⟩ := ba c
  refine ⟨⟨oexB_ok c2, eqO_ok c3, of_decide_eq_true c4, of_decide_eq_true c5, c6⟩, eqO_ok c7, of_decide_eq_true c8, PySem.W.mg_of X G (eqO_ok c1), PySem.W.mg_none_of X G (eqO_ok c9), eqO_ok c10, eqO_ok c11, of_decide_eq_true c12, of_decide_eq_true c13, fun x hx => eqO_ok (List.all_eq_true.mp c14 x hx), T.top, T.ne, T.db, T.len, ?_⟩
  obtain ⟨sts, self, txt, j, p0, p1, p2, p3, p4, p5, ar, hb, hp, ha, hS, v1, v2, v3, v4, v5, hbind⟩ := T.ex
  rw [T.at_] at e
  have e : (match K.lookup (ma K (ga K cn) "__init__") with
    | some ⟨_, _, .func fd, _⟩ => some (fd.name, fd.qualname, fd.params, fd.body, fd.scope, fd.globals, fd.closure.map (·.1), fd.builtins)
    | _ => none) = valS ["__class__"] d := e
  unfold codeFB at c15
  split at c15
  · rename_i oc od fd osl q
    rw [q] at e
    simp only [valS, Option.some.injEq, Prod.mk.injEq] at e
    obtain ⟨n1, n2, n3, n4, n5, n6, n7, n8, n9, n10, n11, n12, n13, n14, n15⟩ := fd
    dsimp only at e c15
    obtain ⟨h1, h2, h3, h4, h5, h6, h7, h8⟩ := e
    subst h1 h2 h3 h4 h5 h6 h8
    split at c15
    · rename_i cda y cc
      have hy : y = "__class__" := by simpa using h7
      subst hy
      obtain ⟨k1, k2⟩ := ba c15
      obtain ⟨k2, k3⟩ := ba k2
      split at k2
      · rename_i ccl cdd vs ccs lcd
        split at k2
        · rename_i file tf hvs
          split at k3
          · rename_i cl cld C' csl lcc
            have hC : C' = ga K cn := of_decide_eq_true k3
            subst hC
            exact ⟨_, _, _, _, sts, _, _, _, _, _, _, _, _, _, cda, cc, self, txt, j, p0, p1, p2, p3, p4, p5, ar, ccl, cl, cdd, cld, vs, ccs, csl, file, tf, by rw [q, ← hb], k1, lcd, hvs, k2, lcc, hp, ha, hS, v1, v2, v3, v4, v5, fun us hu => by
              have := hbind n9 n10 n11 n12 (.ref cda) n14 cc us hu
              rw [hb] at this
              exact this⟩
          · cases k3
        · cases k2
      · cases k2
    · cases c15
  · cases c15
end LW

namespace LW
open PySem PySem.Spec PyProof.Rows L2 He

/-! ### a law's data -/
/-- a def: its evaluator's text, where it stands, its names -/
structure Df where
  f : Str
  pd : PDef
  dd : DefD
  N : List Str
  ps : List Str
  lam : Bool := false
  dl : List (Nat × List Wv)
  kl : List ((Nat × List Str) × List Src) := []
structure Pk where
  glo : List (Str × Wv)
  tab : List (Str × PDef)
  hb : PDef
  hd : Option Str
  bl : List Str
  fns : List Str
  cls : List Str
  exc : List (Str × List Str)
  dfl : List (Str × List (Nat × List Wv))
  kwo : List (Str × List ((Nat × List Str) × List Src))
  fld : List (Str × Str)
  mth : List (Str × Str)
  icl : List Str
  subs : List (Kn × List Kn)
  kinds : List Kn
  nfk : List Kn
  fuel : Nat
def Pk.g0 (p : Pk) : G where
  glob := fun x => p.glo.lookup x
  full := fun _ _ => Mw.fail
  dfl := fun f n => (p.dfl.lookup f).bind (·.lookup n)
  kwo := fun f n ks => (p.kwo.lookup f).bind (·.lookup (n, ks))
  exf := fun c => (p.exc.lookup c).map List.reverse
  hrd := fun _ _ _ => Mw.fail
  fld := fun c f => decide ((c, f) ∈ p.fld)
  xfd := fun c f => match p.exc.lookup c with
    | some l => decide (f ∈ l)
    | none => false
  mth := fun c m => decide ((c, m) ∈ p.mth)
  icl := fun c => decide (c ∈ p.icl)
  xcl := fun c => (p.exc.lookup c).isSome
  kit := fun a b => if b ∈ p.kinds then (p.subs.lookup a).map fun l => decide (b ∈ l) else none
  nf := fun c k => decide (c ∈ p.icl) && decide (k ∈ p.nfk)
  fuel := p.fuel
def Pk.s (p : Pk) : Ds := ⟨p.bl, p.fns, p.cls, p.hd⟩
def Pk.x (p : Pk) : Dx := ⟨p.exc.map (·.1)⟩
theorem lookup_mem' {α β : Type} [BEq α] [LawfulBEq α] {a : α} {b : β} : ∀ {l : List (α × β)}, l.lookup a = some b → (a, b) ∈ l
  | [], h => by simp at h
  | (x, y) :: r, h => by
    rw [List.lookup_cons] at h
    by_cases q : a = x
    · subst q
      simp at h
      subst h
      exact List.mem_cons_self
    · have e : (a == x) = false := by simpa using q
      rw [e] at h
      exact List.mem_cons_of_mem _ (lookup_mem' h)
theorem lookup_find {β : Type} {g : Df → β} {f : Str} : ∀ {l : List Df}, (l.map fun d => (d.f, g d)).lookup f = (l.find? fun d => d.f == f).map g
  | [] => rfl
  | d :: l => by
    rw [List.map_cons, List.lookup_cons, List.find?_cons]
    by_cases q : d.f = f
    · subst q
      simp
    · have e : (d.f == f) = false := by simpa using q
      have e2 : (f == d.f) = false := by simpa using fun z : f = d.f => q z.symm
      rw [e, e2]
      exact lookup_find

/-! ### constants -/
mutual
def gwB (K : PySem.W.Frag) : Wv → Value → Bool
  | .non, .none => true
  | .bl a, .bool b => a == b
  | .int a, .int b _ => decide (a = b)
  | .str a, .str b _ => decide (a = b)
  | .cls x, .ref C => eqO (PySem.W.nsIn K mainGlobals x) (some (some (.ref C)))
  | .tup xs, .ref a => (match K.lookup a with
    | some ⟨.type t, _, .seq its _, _⟩ => decide (t = "tuple") && (decide (its.size ≤ sizeLine) && gwL K xs its.toList)
    | _ => false)
  | _, _ => false
def gwL (K : PySem.W.Frag) : List Wv → List Value → Bool
  | [], [] => true
  | w :: ws, u :: us => gwB K w u && gwL K ws us
  | _, _ => false
end
section
variable {K : PySem.W.Frag} {mg : Str → Option Value} {h : Heap} {c : SC}
mutual
theorem gwB_ok (X : K.In h) (G : h.Ns mainGlobals mg) (hK : c.K = K) (hm : c.mg = mg) : ∀ (w : Wv) (u : Value), gwB K w u = true → ∃ v, RelV v u ∧ ∀ H, RW c H w v
  | .non, u, e => by
    cases u <;> simp [gwB] at e
    exact ⟨.non, rfl, fun H => by simp only [RW]⟩
  | .bl b, u, e => by
    cases u <;> simp [gwB] at e
    subst e
    exact ⟨.bl _, rfl, fun H => by simp only [RW]⟩
  | .int b, u, e => by
    cases u <;> simp [gwB] at e
    subst e
    exact ⟨.int _, ⟨_, rfl⟩, fun H => by simp only [RW]⟩
  | .str b, u, e => by
    cases u <;> simp [gwB] at e
    subst e
    exact ⟨.str _, ⟨_, rfl⟩, fun H => by simp only [RW]⟩
  | .cls x, u, e => by
    cases u <;> simp [gwB] at e
    rename_i C
    refine ⟨.ref C, rfl, fun H => ?_⟩
    simp only [RW]
    exact ⟨C, by rw [hm]; exact PySem.W.mg_of X G (eqO_ok e), rfl⟩
  | .tup xs, u, e => by
    cases u with
    | ref a =>
      simp only [gwB] at e
      split at e
      · rename_i t od its n osl q
        obtain ⟨e1, e⟩ := ba e
        obtain ⟨e2, e3⟩ := ba e
        have e1 : t = "tuple" := of_decide_eq_true e1
        subst e1
        obtain ⟨vs, rv, rw_⟩ := gwL_ok X G hK hm xs its.toList e3
        refine ⟨.ref a, rfl, fun H => ?_⟩
        simp only [RW]
        exact ⟨a, vs, rfl, .inr ⟨_, its, n, by rw [hK]; exact q, rfl, rfl, of_decide_eq_true e2, rv⟩, rw_ H⟩
      · cases e
    | _ => simp [gwB] at e
  | .ty _, u, e => by simp [gwB] at e
  | .lst _, u, e => by simp [gwB] at e
  | .kls _, u, e => by simp [gwB] at e
  | .dct _ _, u, e => by simp [gwB] at e
  | .ins _ _ _, u, e => by simp [gwB] at e
  | .exc _ _ _, u, e => by simp [gwB] at e
theorem gwL_ok (X : K.In h) (G : h.Ns mainGlobals mg) (hK : c.K = K) (hm : c.mg = mg) : ∀ (ws : List Wv) (us : List Value), gwL K ws us = true → ∃ vs, Vals vs us ∧ ∀ H, RWs c H ws vs
  | [], us, e => by
    cases us with
    | nil => exact ⟨[], .nil, fun H => by simp only [RWs]⟩
    | cons u us => simp [gwL] at e
  | w :: ws, us, e => by
    cases us with
    | nil => simp [gwL] at e
    | cons u us =>
      simp only [gwL] at e
      obtain ⟨e1, e2⟩ := ba e
      obtain ⟨v, rv, r⟩ := gwB_ok X G hK hm w u e1
      obtain ⟨vs, rvs, rs⟩ := gwL_ok X G hK hm ws us e2
      exact ⟨v :: vs, .cons rv rvs, fun H => by simp only [RWs]; exact ⟨v, vs, rfl, r H, rs H⟩⟩
end
end
def gloB' (K : PySem.W.Frag) (q : Str × Wv) : Bool := match PySem.W.nsIn K mainGlobals q.1 with
  | some (some u) => gwB K q.2 u
  | _ => false

/-! ### what is looked at of K -/
def knV (K : PySem.W.Frag) : Kn → Value
  | .bt n => .type n
  | .own x => .ref (ga K x)
def gloOk (K : PySem.W.Frag) (x : Str) : Bool := eqO (PySem.W.nsIn K mainGlobals x) (some (some (.ref (ga K x))))
def knOk (K : PySem.W.Frag) : Kn → Bool
  | .bt _ => true
  | .own x => gloOk K x
def adOf (K : PySem.W.Frag) (dfs : List Df) (f : Str) : Addr := match dfs.find? fun d => d.f == f with
  | some d => fAd K d.dd.at_
  | none => 0
def iclB (K : PySem.W.Frag) (cn : Str) : Bool := gloOk K cn && ((Fa.cls cn).ok K && (eqO (PySem.W.findIn K (.ref (ga K cn)) "__class__") (some (some (.builtin "object.__class__"))) && decide (PySem.W.mroIn K (ga K cn) (.type "object") = some true)))
def xclB (K : PySem.W.Frag) (cn : Str) : Bool := gloOk K cn && ((PySem.W.clsIn K (ga K cn)).isSome && (xfB K (ga K cn) && (eqO (PySem.W.findIn K (.ref (ga K cn)) "__class__") (some (some (.builtin "object.__class__"))) && decide (PySem.W.mroIn K (ga K cn) (.type "object") = some true))))
def mthB (K : PySem.W.Frag) (p : Pk) (dfs : List Df) (q : Str × Str) : Bool := gloOk K q.1 && (if q.2 = "!=" then eqO (PySem.W.findIn K (.ref (ga K q.1)) "__ne__") (some (some (.builtin "object.__ne__"))) && decide (PySem.W.mroIn K (ga K q.1) (.type "object") = some true)
  else (p.tab.lookup (q.1 ++ "." ++ q.2)).isSome && (eqO (PySem.W.findIn K (.ref (ga K q.1)) q.2) (some (some (.ref (adOf K dfs (q.1 ++ "." ++ q.2))))) && PySem.W.isFn K (.ref (adOf K dfs (q.1 ++ "." ++ q.2)))))
def clsB (K : PySem.W.Frag) (p : Pk) (dfs : List Df) (cn : Str) : Bool := gloOk K cn && ((Fa.mkr cn).ok K && (decide (ma K (ga K cn) "__init__" = adOf K dfs (cn ++ ".__init__")) && ((p.tab.lookup (cn ++ ".__init__")).isSome && (p.exc.lookup cn).isNone)))
def pkB (P : Program) (p : Pk) (dfs : List Df) (lams : List (Defn × Str)) (K : PySem.W.Frag) : Bool :=
  dfs.all (fun d => d.dd.ok K) && (p.bl.all (fun x => eqO (PySem.W.nsIn K mainGlobals x) (some none)) && (p.fns.all (fun f => gloOk K f && (decide (ga K f = adOf K dfs f) && (p.tab.lookup f).isSome)) && (p.cls.all (clsB K p dfs) && (p.glo.all (gloB' K) &&
  (p.fld.all (fun q => gloOk K q.1 && ((Fa.cls q.1).ok K && (Fa.noat q.1 q.2).ok K)) && (p.exc.all (fun q => excB P K q.1 q.2 && xclB K q.1) && (p.icl.all (iclB K) && ((decide (PySem.W.specialIn K (.builtin "object.__class__") "__get__" = some (some (.builtin "getset_descriptor.__get__"))) && decide (PySem.W.takesIn K (.builtin "object.__class__") = some true)) &&
  (p.subs.all (fun q => knOk K q.1 && p.kinds.all (fun k => knOk K k && decide (PySem.W.kitOne K (knV K q.1) (knV K k) = some (decide (k ∈ q.2))))) && (p.mth.all (mthB K p dfs) && (p.icl.all (fun cn => p.nfk.all (fun k => knOk K k && PySem.W.notFirst K (ga K cn) (knV K k))) &&
  (lams.all fun q => lams.all fun r => decide ((cT K q.1).2 = (cT K r.1).2 → q.2 = r.2)))))))))))))
/-! ### what the texts are -/
structure DefT (p : Pk) (d : Df) : Prop where
  sc : FnScope d.N d.ps d.dd.scope
  sl : d.pd.slots = d.N.length
  cor : ∃ n, ∀ F h, corSs p.s p.x (p.g0.put F h) n d.pd.body ⟨d.N, d.dd.scope, fun _ => true, d.lam⟩ d.dd.body = true
  dl : ∀ (K : PySem.W.Frag) (a : Addr) (fd : FuncData), FunD K d.dd.name d.dd.qual d.dd.params d.dd.body d.dd.scope (d.dd.dvs K) (d.dd.kws K) a fd → ∀ e ∈ d.dl, e.1 + e.2.length = d.ps.length ∧ ∃ dvs us, (∀ c H, c.K = K → RL (RW c H) e.2 dvs) ∧ Vals dvs us ∧ Binds K fd d.ps us
  kl : ∀ (K : PySem.W.Frag) (a : Addr) (fd : FuncData), FunD K d.dd.name d.dd.qual d.dd.params d.dd.body d.dd.scope (d.dd.dvs K) (d.dd.kws K) a fd → ∀ e ∈ d.kl, ∃ gL gV, KBn K fd d.ps e.1.1 e.1.2 gL gV ∧ ∀ as bs, as.length = e.1.1 → bs.length = e.1.2.length → ∀ l, srcA as bs e.2 = some l → l.length = d.ps.length ∧
    ∀ c H ρ vs us, c.K = K → RL (RA c H ρ) as vs → RL (RA c H ρ) bs us → RL (RA c H ρ) l (gV vs us)
structure HrdX (p : Pk) (hn xs : Str) (d : DefD) : Prop where
  at_ : d.at_ = (hn, none)
  dfl : d.dfl = []
  kwd : d.kwd = []
  ex : ∃ (rest : List Stmt) (N : List Str) (n i : Nat) (na nc nf ne : Str) (q1 q2 q3 q4 q5 q6 q7 q8 q9 qa qb qc qd qe qf qg qh : Pos) (k1 k2 k3 k4 : Nat),
    d.body = .Assign [.Tuple [.Name nc q1, .Name nf q2] k1 q3] (.Tuple [.Constant .none k2 q4, .Constant .none k3 q5] k4 q6) q7 ::
      .Try [.Assign [.Name nf q8] (.Call (.Name na q9) [] [] qa) qb] [.ExceptHandler (some (.Name xs qc)) (some ne) [.Assign [.Name nc qd] (.Name ne qe) qf] qg] [] [] qh :: rest ∧
    FnScope N [na] d.scope ∧ p.hb.slots = N.length ∧ (∀ (kV doc pm : Value) (an : Option Addr) (cdv ct : Value) (us : List Value), us.length = [na].length → bindArgs (PySem.W.fnOf d.name d.qual d.params d.body d.scope .none kV doc pm an cdv ct) ⟨us, []⟩ = pure ([na].zip us)) ∧
    N[0]? = some na ∧ N[1]? = some nc ∧ N[2]? = some nf ∧ N[i]? = some ne ∧ 2 < i ∧ d.scope.names.lookup nc = some .local ∧ d.scope.names.lookup nf = some .local ∧ d.scope.names.lookup ne = some .local ∧
    visB d.scope na = true ∧ dunB na = true ∧ dunB ne = true ∧ gloB ⟨N, d.scope, fun _ => true, false⟩ xs = true ∧ ∀ F h, corSs p.s p.x (p.g0.put F h) n p.hb.body ⟨N, d.scope, fun _ => true, false⟩ rest = true
def hrdB (K : PySem.W.Frag) (p : Pk) (hn xs : Str) (d : DefD) : Bool := gloOk K hn && (gloOk K xs && (d.ok K && p.exc.all fun q => decide (PySem.W.exmOne K (.ref (ga K q.1)) (.ref (ga K xs)) = some true)))
abbrev tbOf (K : PySem.W.Frag) (lams : List (Defn × Str)) : List (Addr × Str) := lams.map fun q => ((cT K q.1).2, (q.2 ++ ".<locals>.") ++ "<lambda>")
section
variable {P : Program} {w : World} {K : PySem.W.Frag} {mg : Str → Option Value} {h base : Heap} {p : Pk} {dfs : List Df} {es : List DefD} {lams : List (Defn × Str)} {fs : List DefD} {ex : PySem.W.Frag → Bool}
theorem glo_of (X : K.In h) (G : h.Ns mainGlobals mg) {x : Str} (e : gloOk K x = true) : mg x = some (.ref (ga K x)) := PySem.W.mg_of X G (eqO_ok e)
theorem knV_of (X : K.In h) (G : h.Ns mainGlobals mg) {c : SC} (hm : c.mg = mg) {k : Kn} {t : Value} (hk : knOk K k = true) (e : KnV c k t) : t = knV K k := by
  cases k with
  | bt n => exact e
  | own x =>
    obtain ⟨C, h1, h2⟩ := e
    rw [hm, glo_of X G hk] at h1
    rw [h2]
    exact (Option.some.inj h1).symm
theorem exc_mem {cn : Str} {l : List Str} (e : p.exc.lookup cn = some l) : (cn, l) ∈ p.exc := lookup_mem' e
theorem wld_of (X : K.In h) (G : h.Ns mainGlobals mg) (S : SaysW fs es (lams.map (·.1)) ex h K) (c : pkB P p dfs lams K = true) (hfs : ∀ d ∈ dfs, d.dd ∈ fs) (ht : p.tab = dfs.map fun d => (d.f, d.pd)) (hd : p.dfl = dfs.map fun d => (d.f, d.dl)) (hk : p.kwo = dfs.map fun d => (d.f, d.kl))
    (T : ∀ d ∈ dfs, DefT p d) (hl : ∀ d ∈ dfs, d.lam = true → (d.dd.at_, d.dd.qual) ∈ lams) (TE : ∀ q ∈ p.exc, ∃ d ∈ es, ExcT P q.1 q.2 d) (TH : ∀ hn, p.hd = some hn → ∃ xs, ∃ d ∈ fs, HrdX p hn xs d ∧ hrdB K p hn xs d = true)
    (KB : K.In base) (TB : ∀ q ∈ lams, LamX.TabB base mg (cT K q.1).1 (cT K q.1).2) : Wld ⟨P, w, K, mg, base, 0, tbOf K lams⟩ p.s p.x p.g0 p.tab p.hb (adOf K dfs) := by
  obtain ⟨c1, c⟩ := ba c
  obtain ⟨c2, c⟩ := ba c
  obtain ⟨c3, c⟩ := ba c
  obtain ⟨c4, c⟩ := ba c
  obtain ⟨c5, c⟩ := ba c
  obtain ⟨c6, c⟩ := ba c
  obtain ⟨c7, c⟩ := ba c
  obtain ⟨c8, c⟩ := ba c
  obtain ⟨c9, c⟩ := ba c
  obtain ⟨c10, c⟩ := ba c
  obtain ⟨c11, c⟩ := ba c
  obtain ⟨c12, c13⟩ := ba c
  have at_ : ∀ {α : Type} {l : List α} {f : α → Bool} {a : α}, l.all f = true → a ∈ l → f a = true := fun h m => List.all_eq_true.mp h _ m
  have exc2 : ∀ {cn : Str} {l : List Str}, p.exc.lookup cn = some l → excB P K cn l = true ∧ xclB K cn = true := fun {cn l} e => ba (at_ (f := fun q => excB P K q.1 q.2 && xclB K q.1) (a := (cn, l)) c7 (lookup_mem' e) :)
  have xcl : ∀ {cn : Str}, xclB K cn = true → mg cn = some (.ref (ga K cn)) ∧ (PySem.W.clsIn K (ga K cn)).isSome = true ∧ XfC K (ga K cn) ∧ PySem.W.findIn K (.ref (ga K cn)) "__class__" = some (some (.builtin "object.__class__")) ∧ PySem.W.mroIn K (ga K cn) (.type "object") = some true := fun e => by
    obtain ⟨e1, e⟩ := ba e
    obtain ⟨e2, e⟩ := ba e
    obtain ⟨e3, e⟩ := ba e
    obtain ⟨e4, e5⟩ := ba e
    exact ⟨glo_of X G e1, e2, xfB_ok e3, eqO_ok e4, of_decide_eq_true e5⟩
  have icl : ∀ {cn : Str}, cn ∈ p.icl → mg cn = some (.ref (ga K cn)) ∧ Cls K (ga K cn) ∧ PySem.W.findIn K (.ref (ga K cn)) "__class__" = some (some (.builtin "object.__class__")) ∧ PySem.W.mroIn K (ga K cn) (.type "object") = some true := fun m => by
    obtain ⟨e1, e⟩ := ba (at_ c8 m :)
    obtain ⟨e2, e⟩ := ba e
    obtain ⟨e3, e4⟩ := ba e
    exact ⟨glo_of X G e1, cls_ok e2, eqO_ok e3, of_decide_eq_true e4⟩
  have find : ∀ {f : Str} {pd : PDef}, p.tab.lookup f = some pd → ∃ d, dfs.find? (fun d => d.f == f) = some d ∧ d.pd = pd ∧ d ∈ dfs := fun {f pd} e => by
    rw [ht, lookup_find] at e
    obtain ⟨d, e1, e2⟩ := Option.map_eq_some_iff.mp e
    exact ⟨d, e1, e2, List.mem_of_find?_eq_some e1⟩
  refine ⟨fun hn e => ?_, fun f pd e => ?_, fun x hx => ?_, fun f hf => ?_, fun cn hc => ?_, fun x w' e => ?_, ⟨fun cn f e => ?_, fun cn f e => ?_⟩, ⟨fun cn e => ?_, fun cn e => ?_, fun _ => ?_, fun a b r e t u h1 h2 => ?_⟩, fun cn e => ?_, fun cn e => ?_, fun cn e => ?_, fun k F hh cn hc => ?_⟩
  · -- the def that hears
    obtain ⟨xs, d, hdm, HX, hB⟩ := TH hn e
    obtain ⟨b1, b⟩ := ba hB
    obtain ⟨b2, b⟩ := ba b
    obtain ⟨b3, b4⟩ := ba b
    obtain ⟨fd, FD⟩ := S.funD hdm b3
    have ea : fAd K d.at_ = ga K hn := by rw [HX.at_]; rfl
    rw [ea] at FD
    have e1 : d.dvs K = [] := by unfold DefD.dvs; rw [HX.dfl]; rfl
    have e2 : d.kws K = [] := by unfold DefD.kws; rw [HX.kwd]; rfl
    rw [e1, e2] at FD
    obtain ⟨rest, N, n, i, na, nc, nf, ne, q1, q2, q3, q4, q5, q6, q7, q8, q9, qa, qb, qc, qd, qe, qf, qg, qh, k1, k2, k3, k4, hb, FS, sl, hbd, n0, n1, n2, ni, i2, lc, lf, le, va, da, de, gx, hc⟩ := HX.ex
    refine ⟨ga K hn, FD.kp, glo_of X G b1, d.name, d.qual, d.params, rest, d.scope, fd, N, n, i, xs, na, nc, nf, ne, ga K xs, q1, q2, q3, q4, q5, q6, q7, q8, q9, qa, qb, qc, qd, qe, qf, qg, qh, k1, k2, k3, k4, by rw [← hb]; exact FD, FS, sl, FunD.bindsN FD hbd, n0, n1, n2, ni, i2, lc, lf, le, va, da, de, gx, glo_of X G b2, fun cn hx C hC => ?_, hc⟩
    obtain ⟨l, hl⟩ := Option.isSome_iff_exists.mp (show (p.exc.lookup cn).isSome = true from hx)
    have q := of_decide_eq_true (at_ b4 (lookup_mem' hl) :)
    have hC : mg cn = some (.ref C) := hC
    rw [(xcl (exc2 hl).2).1] at hC
    cases hC
    exact q
  · -- a def
    obtain ⟨d, e1, e2, m⟩ := find e
    have ea : adOf K dfs f = fAd K d.dd.at_ := by unfold adOf; rw [e1]
    obtain ⟨fd, FD⟩ := S.funD (hfs d m) (at_ c1 m :)
    rw [ea]
    obtain ⟨n, hc⟩ := (T d m).cor
    refine ⟨FD.kp, d.dd.name, d.dd.qual, d.dd.params, d.dd.body, d.dd.scope, d.dd.dvs K, d.dd.kws K, fd, d.N, d.ps, n, d.lam, FD, (T d m).sc, by rw [← e2]; exact (T d m).sl, by rw [← e2]; exact hc, ⟨fun n ds hds => ?_, fun n ks ss hss => ?_⟩, fun hlam cdv hcd => ?_⟩
    · have hds : (p.dfl.lookup f).bind (·.lookup n) = some ds := hds
      rw [hd, lookup_find, e1] at hds
      obtain ⟨z1, dvs, us, z2, z3, z4⟩ := (T d m).dl K _ fd FD (n, ds) (lookup_mem' hds)
      exact ⟨z1, dvs, us, fun H => z2 _ H rfl, z3, z4⟩
    · have hss : (p.kwo.lookup f).bind (·.lookup (n, ks)) = some ss := hss
      rw [hk, lookup_find, e1] at hss
      obtain ⟨gL, gV, z1, z2⟩ := (T d m).kl K _ fd FD ((n, ks), ss) (lookup_mem' hss)
      exact ⟨gL, gV, z1, fun as bs l1 l2 l hl => ⟨(z2 as bs l1 l2 l hl).1, fun c H ρ vs us hcK _ r1 r2 => (z2 as bs l1 l2 l hl).2 c H ρ vs us hcK r1 r2⟩⟩
    · have ml := hl d m hlam
      obtain ⟨oc, od, dV, kV, doc, pm, an, cdv', ct, osl, e3, lk, hcd2, _, _⟩ := FD.ex
      obtain ⟨nm', qual', params', body', scope', dV', kV', doc', pm', an', ct', e4⟩ := hcd
      have ecd : fd.code = cdv := by rw [e4] <;> rfl
      have ecd' : fd.code = cdv' := by rw [e3] <;> rfl
      have : cdv = cdv' := ecd.symm.trans ecd'
      subst this
      obtain ⟨cA, eA⟩ := codeIn_ref hcd2
      have hcode : codeOf K d.dd.at_ = cA := codeOf_eq (p := d.dd.at_) lk (by rw [ecd]; exact eA)
      have tbq := TB _ ml
      refine ⟨cA, (cT K d.dd.at_).2, eA, ?_, List.mem_map.mpr ⟨_, ml, rfl⟩, fun q hq eq => ?_⟩
      · have : (cT K d.dd.at_).1 = cA := hcode
        rw [← this]
        exact tbq
      · obtain ⟨r, hr, er⟩ := List.mem_map.mp hq
        rw [← er] at eq ⊢
        have := of_decide_eq_true (at_ (at_ c13 hr :) ml :) eq
        rw [this]
  · exact PySem.W.mg_none_of X G (eqO_ok (at_ c2 hx :))
  · obtain ⟨b1, b⟩ := ba (at_ c3 hf :)
    obtain ⟨b2, b3⟩ := ba b
    exact ⟨by rw [← of_decide_eq_true b2]; exact glo_of X G b1, b3⟩
  · obtain ⟨b1, b⟩ := ba (at_ c4 hc :)
    obtain ⟨b2, b⟩ := ba b
    obtain ⟨b3, b⟩ := ba b
    obtain ⟨b4, b5⟩ := ba b
    refine ⟨ga K cn, ⟨?_, glo_of X G b1⟩, b4, ?_⟩
    · rw [← of_decide_eq_true b3]; exact mkr_ok b2
    · show (p.exc.lookup cn).map List.reverse = none
      cases q : p.exc.lookup cn with
      | none => rfl
      | some l => rw [q] at b5; cases b5
  · have q := at_ c5 (lookup_mem' e)
    unfold gloB' at q
    dsimp only at q
    split at q
    · rename_i u hu
      obtain ⟨v, r, rw_⟩ := gwB_ok (c := (⟨P, w, K, mg, base, 0, tbOf K lams⟩ : Bs).c0) X G rfl rfl _ u q
      exact ⟨u, v, PySem.W.mg_of X G hu, r, rw_⟩
    · cases q
  · obtain ⟨b1, b⟩ := ba (at_ c6 (of_decide_eq_true e) :)
    obtain ⟨b2, b3⟩ := ba b
    exact ⟨ga K cn, glo_of X G b1, cls_ok b2, noat_ok b3⟩
  · have e : (match p.exc.lookup cn with
      | some l => decide (f ∈ l)
      | none => false) = true := e
    split at e
    · rename_i l hl
      obtain ⟨z1, z2⟩ := exc2 hl
      obtain ⟨y1, _, y2, _, _⟩ := xcl z2
      have z1' := z1
      obtain ⟨_, z⟩ := ba z1
      obtain ⟨_, z⟩ := ba z
      obtain ⟨_, z⟩ := ba z
      obtain ⟨_, z⟩ := ba z
      obtain ⟨_, z⟩ := ba z
      obtain ⟨_, z⟩ := ba z
      obtain ⟨_, z⟩ := ba z
      obtain ⟨_, z⟩ := ba z
      obtain ⟨_, z⟩ := ba z
      obtain ⟨_, z⟩ := ba z
      obtain ⟨_, z⟩ := ba z
      obtain ⟨_, z⟩ := ba z
      obtain ⟨_, z⟩ := ba z
      obtain ⟨z, _⟩ := ba z
      exact ⟨ga K cn, y1, y2, eqO_ok (at_ z (of_decide_eq_true e) :)⟩
    · cases e
  · obtain ⟨y1, y2, y3, y4⟩ := icl (of_decide_eq_true e)
    exact ⟨ga K cn, y1, y2, y3, y4⟩
  · obtain ⟨l, hl⟩ := Option.isSome_iff_exists.mp (show (p.exc.lookup cn).isSome = true from e)
    obtain ⟨y1, y2, y3, y4, y5⟩ := xcl (exc2 hl).2
    exact ⟨ga K cn, y1, y2, y3.ga, y3.gg, y3.exC, y4, y5⟩
  · obtain ⟨b1, b2⟩ := ba c9
    exact ⟨of_decide_eq_true b1, of_decide_eq_true b2⟩
  · have e : (if b ∈ p.kinds then (p.subs.lookup a).map fun l => decide (b ∈ l) else none) = some r := e
    split at e
    · rename_i hb
      obtain ⟨l, hl, er⟩ := Option.map_eq_some_iff.mp e
      obtain ⟨b1, b2⟩ := ba (at_ c10 (lookup_mem' hl) :)
      obtain ⟨b3, b4⟩ := ba (at_ b2 hb :)
      rw [knV_of X G rfl b1 h1, knV_of X G rfl b3 h2, ← er]
      exact of_decide_eq_true b4
    · cases e
  · obtain ⟨b1, b⟩ := ba (at_ c11 (of_decide_eq_true (show decide ((cn, ("__eq__" : Str)) ∈ p.mth) = true from e)) :)
    rw [if_neg (show ¬ (("__eq__" : Str) = "!=") by decide)] at b
    obtain ⟨b2, b⟩ := ba b
    obtain ⟨b3, b4⟩ := ba b
    refine ⟨b2, ga K cn, glo_of X G b1, eqO_ok b3, b4, fun kn t hn ht => ?_⟩
    obtain ⟨i1, i2⟩ := ba (show (decide (cn ∈ p.icl) && decide (kn ∈ p.nfk)) = true from hn)
    obtain ⟨j1, j2⟩ := ba (at_ (at_ c12 (of_decide_eq_true i1) :) (of_decide_eq_true i2) :)
    rw [knV_of X G rfl j1 ht]
    exact j2
  · obtain ⟨b1, b⟩ := ba (at_ c11 (of_decide_eq_true (show decide ((cn, ("!=" : Str)) ∈ p.mth) = true from e)) :)
    rw [if_pos rfl] at b
    obtain ⟨b2, b3⟩ := ba b
    exact ⟨ga K cn, glo_of X G b1, eqO_ok b2, of_decide_eq_true b3⟩
  · obtain ⟨b1, b⟩ := ba (at_ c11 (of_decide_eq_true (show decide ((cn, ("__len__" : Str)) ∈ p.mth) = true from e)) :)
    rw [if_neg (show ¬ (("__len__" : Str) = "!=") by decide)] at b
    obtain ⟨b2, b⟩ := ba b
    obtain ⟨b3, b4⟩ := ba b
    exact ⟨b2, ga K cn, glo_of X G b1, eqO_ok b3, b4⟩
  · obtain ⟨q, hq, eq⟩ := List.mem_map.mp (show cn ∈ p.exc.map (·.1) from hc)
    subst eq
    have hlk : (p.exc.lookup q.1).isSome = true := by
      cases z : p.exc.lookup q.1 with
      | some l => rfl
      | none =>
        rw [List.lookup_eq_none_iff] at z
        have := z q hq
        simp at this
    obtain ⟨l, hl⟩ := Option.isSome_iff_exists.mp hlk
    obtain ⟨d, hde, ET⟩ := TE (q.1, l) (lookup_mem' hl)
    have D := excD_of X G ET (S.exc hde) (exc2 hl).1
    exact excU_of (b := { (⟨P, w, K, mg, base, 0, tbOf K lams⟩ : Bs) with k := k }) (g := p.g0.put F hh) D (by show (p.exc.lookup q.1).map List.reverse = _; rw [hl]; rfl)
end
end LW

namespace LW
open PySem PySem.Spec PyProof.Rows L2 LamX
/-! ### the end: a law called, nothing guarded -/
theorem law_callG {P : Program} {w : World} {K : PySem.W.Frag} {mg mb : Str → Option Value} {CX : CXT} {k : Nat} {fa a : Addr} {cs : List (Addr × Addr)} {fd : FuncData} {x : Str} {sp : Sp} {s₁ : Shared} {vs : List Value} {ns : List Int}
    (kIn0 : K.In s₁.heap) (gNs : s₁.heap.Ns mainGlobals mg) (hb : s₁.heap.Ns builtinsNs mb) (bAll : ∀ x : Str, x ≠ "__name__" → mb x = bootBuiltins x) (noLim : s₁.heap.NoLimit) (hg : s₁.gens = #[])
    (emp : ∀ p ∈ cs, s₁.heap.get? p.2 = some { cls := .none, data := .fields #[] }) (outK : ∀ p ∈ cs, K.lookup p.2 = none) (C : ∀ p ∈ cs, PySem.W.CodeHd s₁.heap p.1 p.2)
    (bMod : ∃ (bm : Addr) (ob : Obj), mg "__builtins__" = some (.ref bm) ∧ bm ≠ builtinsNs ∧ s₁.heap.get? bm = some ob ∧ ob.cls = .type "module" ∧ ob.dict = some builtinsNs ∧ ob.data = .plain)
    (ha : s₁.heap.get? a = some { cls := .type "list", data := .seq vs.toArray }) (hi : IntsAre vs ns) (hl : ns.length ≤ sizeLine) (hr : Room k callerA)
    (F : ∀ base : Heap, K.In base → base.Ns mainGlobals mg → (∀ p ∈ cs, TabB base mg p.1 p.2) → FnG P w K mg base CX k fa fd [x] sp) (hbind : ∀ (s : Shared) (u : Value), BindsTo s fd ⟨[u], []⟩ [(x, u)])
    (hsp : ∀ H : Hp, (∀ p ∈ cs, H p.2 = some (.tbl #[])) → (∀ b ps, H b = some (.tbl ps) → b ∈ cs.map (·.2)) → (∀ xs, H a ≠ some (.lst xs)) → SqL K H a (ns.map V.int) → sp [.ref a] H (fun v _ => v = .bl true) fun _ _ _ => False)
    (noX : ∀ H e s', CX [] H s₁ (fun _ _ _ => False) e s' → False) :
    codeAny (model P w) callerA (.call (.ref fa) ⟨[.ref a], []⟩) (fun r s' => r = .ok (.ret (.bool true)) ∧ OldK s₁.heap s'.heap ∧ s'.os = s₁.os ∧ AllBare s'.gens) s₁ := by
  have rvs := vals_ints hi
  have eLen := hi.length
  have tabAt : ∀ b : Addr, b ∈ cs.map (·.2) → s₁.heap.get? b = some { cls := .none, data := .fields #[] } := fun b hb => by
    obtain ⟨p, hp, e⟩ := List.mem_map.mp hb
    rw [← e]
    exact emp p hp
  have aOff : a ∉ cs.map (·.2) := fun z => by
    have q := tabAt a z
    rw [ha] at q
    have z' : Data.seq vs.toArray _ = Data.fields #[] := congrArg Obj.data (Option.some.inj q)
    cases z'
  have tabIn : ∀ p ∈ cs, p.2 ∈ cs.map (·.2) := fun p hp => List.mem_map.mpr ⟨p, hp, rfl⟩
  -- from an abstract heap in which nothing but the script and the tables may be tracked
  have main1 : ∀ H : Hp, (∀ p ∈ cs, H p.2 = some (.tbl #[])) → (∀ b, H b = none ∨ b ∈ cs.map (·.2) ∨ ∃ o xs, H b = some (.frz o (.lst xs))) → SqL K H a (ns.map V.int) → HOk P w H s₁.heap → (∀ b, H b ≠ none → b = a ∨ b ∈ cs.map (·.2)) → (H a ≠ none → K.lookup a = none) →
      codeAny (model P w) callerA (.call (.ref fa) ⟨[.ref a], []⟩) (fun r s' => r = .ok (.ret (.bool true)) ∧ OldK s₁.heap s'.heap ∧ s'.os = s₁.os ∧ AllBare s'.gens) s₁ := by
    intro H hH hO hS hok hA hK
    have under : ∀ {b : Addr} {o : Obj}, s₁.heap.get? b = some o → H b = none → (hidT s₁.heap H).get? b = some o := fun e n => hidT_get e n
    have notD : ∀ {b : Addr} {o : Obj}, s₁.heap.get? b = some o → (∀ vs n, o.data ≠ .seq vs n) → o.data ≠ .fields #[] → H b = none := fun {b o} e h1 h2 => by
      cases q : H b with
      | none => rfl
      | some u =>
        rcases hA b (by rw [q]; simp) with e' | e'
        · rw [e', ha] at e
          cases e
          exact (h1 _ _ rfl).elim
        · rw [tabAt b e'] at e
          cases e
          exact (h2 rfl).elim
    have notA : ∀ {b : Addr} {o : Obj} {es : Array DictEntry} {ep : Nat}, s₁.heap.get? b = some o → o.data = .dict es ep → H b = none := fun {b o es ep} e d => by
      refine notD e (fun vs n z => ?_) fun z => ?_
      · rw [d] at z
        cases z
      · rw [d] at z
        cases z
    have nsU : ∀ {b : Addr} {m : Str → Option Value}, s₁.heap.Ns b m → (hidT s₁.heap H).Ns b m := fun {b m} ⟨o, es, ep, e, d, r⟩ => ⟨o, es, ep, under e (notA e d), d, r⟩
    have kUnder : K.In (hidT s₁.heap H) := fun b o e => under (kIn0 b o e) (by
      cases q : H b with
      | none => rfl
      | some u =>
        rcases hA b (by rw [q]; simp) with e' | e'
        · rw [e'] at e q
          rw [hK (by rw [q]; simp)] at e
          cases e
        · obtain ⟨p, hp, ep⟩ := List.mem_map.mp e'
          rw [← ep, outK p hp] at e
          cases e)
    have modU : L2.Mod K mg (hidT s₁.heap H) := ⟨kUnder, nsU gNs, ⟨mb, nsU hb, bAll⟩, let ⟨mc, h1, h2⟩ := noLim; ⟨mc, nsU h1, h2⟩⟩
    have tabU : ∀ p ∈ cs, TabB (hidT s₁.heap H) mg p.1 p.2 := fun p hp => by
      have hTp := emp p hp
      refine ⟨?_, ?_, fun z => ?_⟩
      · obtain ⟨o, us, file, tf, flags, tg, inF, text, tt, e1, r1, r2, r3, r4, r5, r6, r7, r8, hne⟩ := C p hp
        refine ⟨o, us, file, tf, flags, tg, inF, text, tt, under e1 (notD e1 (fun vs n z => ?_) fun z => ?_), r1, r2, r3, r4, r5, r6, r7, r8, hne⟩
        · rw [r2] at z
          cases z
        · rw [r2] at z
          cases z
          simp at r3
      · obtain ⟨bm, ob, b1, b2, b3, b4, b5, b6⟩ := bMod
        have nG : bm ≠ mainGlobals := fun q => by
          obtain ⟨o, es, ep, e, hd, _⟩ := gNs
          rw [q, e] at b3
          cases b3
          rw [hd] at b6
          cases b6
        have nP : bm ≠ p.2 := fun q => by
          rw [q, hTp] at b3
          cases b3
          cases b6
        refine ⟨bm, ob, b1, b2, nG, nP, under b3 (notD b3 (fun vs n z => ?_) fun z => ?_), b4, b5, b6⟩
        · rw [b6] at z
          cases z
        · rw [b6] at z
          cases z
      · obtain ⟨o, es, ep, e, hd, _⟩ := gNs
        rw [z, hTp] at e
        cases e
        cases hd
    have e0 : Env0 P w K mg (hidT s₁.heap H) callerA [] s₁ H := ⟨rfl, modU, fun b o e => of_hidT e, Nat.le_of_eq (hidT_size _ _), trivial, fun b hb => absurd (show b ∈ ([] : List Addr) from hb) (by simp), hok, .of_eq hg⟩
    refine codeAny_mono ((F _ kUnder (nsU gNs) tabU).run callerA [] s₁ H ⟨[.ref a], []⟩ [.ref a] [.ref a] _ _ hr rfl e0 (hbind s₁ (.ref a)) (.cons rfl .nil) (hsp H hH (fun b ps e => by rcases hO b with z | z | ⟨o, xs, z⟩ <;> first | exact z | (rw [e] at z; cases z)) (fun xs e => by rcases hO a with z | z | ⟨o, ys, z⟩ <;> first | exact absurd z aOff | (rw [e] at z; cases z)) hS)) fun r s' h => ?_
    cases r with
    | error e => exact (noX H e s' h).elim
    | ok fl =>
      cases fl with
      | next => exact False.elim h
      | brk => exact False.elim h
      | cont => exact False.elim h
      | ret u =>
        obtain ⟨v, H', os, bare, un, hok', r', q⟩ := h
        have q' : v = .bl true := q
        subst q'
        obtain rfl : u = Value.bool true := r'
        have stays : ∀ b o, b ∉ cs.map (·.2) → s₁.heap.get? b = some o → s'.heap.get? b = some o := fun b o nb e => by
          cases q : H b with
          | none => exact un.keep b o e q (by intro z; exact absurd (show b ∈ ([] : List Addr) from z) (by simp)) (by simp)
          | some u =>
            rcases hO b with z | z | ⟨ob, xs, z⟩
            · rw [q] at z; cases z
            · exact absurd z nb
            · have z2 := un.frzs b ob _ z
              obtain ⟨e1, _⟩ := hok b _ z
              obtain ⟨e2, _⟩ := hok' b _ z2
              rw [e] at e1; cases e1
              exact e2
        have grew : ∀ p ∈ cs, ∃ more : Array Value, s'.heap.get? p.2 = some { cls := .none, data := .fields more } := fun p hp => by
          obtain ⟨more, z⟩ := un.tbls p.2 #[] (hH p hp)
          exact ⟨_, hok' p.2 _ z⟩
        refine ⟨rfl, ⟨fun b o e => ?_, fun b o e => ?_⟩, os, bare⟩
        · by_cases hb : b ∈ cs.map (·.2)
          · obtain ⟨p, hp, ep⟩ := List.mem_map.mp hb
            obtain ⟨more, hm⟩ := grew p hp
            rw [← ep] at e ⊢
            rw [emp p hp] at e
            cases e
            exact .inr (.inl ⟨((C p hp).tab (emp p hp)).isCodeTable, rfl, #[], more, rfl, by rw [Array.empty_append]; exact hm⟩)
          · exact .inl (stays b o hb e)
        · by_cases hb : b ∈ cs.map (·.2)
          · obtain ⟨p, hp, ep⟩ := List.mem_map.mp hb
            obtain ⟨more, hm⟩ := grew p hp
            rw [← ep]
            exact ⟨_, hm⟩
          · exact ⟨o, stays b o hb e⟩
  cases hk : K.lookup a with
  | some o =>
    have e := kIn0 a o hk
    rw [ha] at e
    cases e
    refine main1 (fun b => if b ∈ cs.map (·.2) then some (.tbl #[]) else none) (fun p hp => if_pos (tabIn p hp)) (fun b => ?_) (.inr ⟨_, vs.toArray, _, hk, rfl, rfl, rfl, by rw [List.size_toArray, eLen]; exact hl, by simpa using rvs⟩) (fun b u z => ?_) (fun b z => ?_) fun z => absurd (show (if a ∈ cs.map (·.2) then some (HO.tbl #[]) else none) = none from if_neg aOff) z
    · by_cases hb : b ∈ cs.map (·.2)
      · exact .inr (.inl hb)
      · exact .inl (if_neg hb)
    · by_cases hb : b ∈ cs.map (·.2)
      · have z' := (if_pos hb).symm.trans z
        cases z'
        exact tabAt b hb
      · have z' := (if_neg hb).symm.trans z
        cases z'
    · by_cases hb : b ∈ cs.map (·.2)
      · exact .inr hb
      · exact absurd (if_neg hb) z
  | none =>
    refine main1 (fun b => if b = a then some (.frz { cls := .type "list", data := .seq vs.toArray } (.lst (ns.map V.int))) else if b ∈ cs.map (·.2) then some (.tbl #[]) else none) (fun p hp => (if_neg (show ¬ p.2 = a from fun z => aOff (by rw [← z]; exact tabIn p hp))).trans (if_pos (tabIn p hp))) (fun b => ?_)
      (.inl (.inr ⟨{ cls := .type "list", data := .seq vs.toArray }, if_pos rfl⟩)) (fun b u z => ?_) (fun b z => ?_) fun _ => hk
    · by_cases hb : b = a
      · exact .inr (.inr ⟨_, _, if_pos hb⟩)
      · by_cases hb2 : b ∈ cs.map (·.2)
        · exact .inr (.inl hb2)
        · exact .inl ((if_neg hb).trans (if_neg hb2))
    · by_cases hb : b = a
      · have z' := (if_pos hb).symm.trans z
        cases z'
        rw [hb]
        exact ⟨ha, by rw [List.length_map]; exact hl, vs, _, rvs, ha⟩
      · have z1 := (if_neg hb).symm.trans z
        by_cases hb2 : b ∈ cs.map (·.2)
        · have z' := (if_pos hb2).symm.trans z1
          cases z'
          exact tabAt b hb2
        · have z' := (if_neg hb2).symm.trans z1
          cases z'
    · by_cases hb : b = a
      · exact .inl hb
      · by_cases hb2 : b ∈ cs.map (·.2)
        · exact .inr hb2
        · exact absurd ((if_neg hb).trans (if_neg hb2)) z

/-- what is told of the law's promise at the head's heap h -/
def LawAtG (l : PySem.W.OpenLaw) (w : World) (K : PySem.W.Frag) (k n : Nat) (x : Str) (mg : Str → Option Value) (fa : Addr) (h : Heap) : Prop :=
  ∃ (fd : FuncData) (cs : List (Addr × Addr)) (sp : Sp), (∀ q ∈ cs, h.get? q.2 = some { cls := .none, data := .fields #[] }) ∧ (∀ q ∈ cs, K.lookup q.2 = none) ∧ (∀ q ∈ cs, PySem.W.CodeHd h q.1 q.2) ∧ (∀ (s : Shared) (u : Value), BindsTo s fd ⟨[u], []⟩ [(x, u)]) ∧
    (∀ (H : Hp) (a : Addr) (ns : List Int), ns.length ≤ n → (∀ z ∈ ns, Builtin.Int.intBits z ≤ 1048576) → (∀ q ∈ cs, H q.2 = some (.tbl #[])) → (∀ b ps, H b = some (.tbl ps) → b ∈ cs.map (·.2)) → (∀ xs, H a ≠ some (.lst xs)) → SqL K H a (ns.map V.int) → sp [.ref a] H (fun v _ => v = .bl true) fun _ _ _ => False) ∧
    ∀ base : Heap, K.In base → base.Ns mainGlobals mg → (∀ q ∈ cs, TabB base mg q.1 q.2) → FnG l.prog w K mg base (L2.CX l.prog w) k fa fd [x] sp
theorem walk_G {l : PySem.W.OpenLaw} {n k : Nat} {q : Program} {loose : List Str} {XP : (Str → Option Value) → Heap → Prop} {YP : World → Heap → Prop} {d : DefRec} {x : Str} (hn : l.most = some n) (hn2 : n ≤ sizeLine) (hdf : d.params.defaults = []) (hr : Room k callerA)
    (F : ∀ (w : World) (mg : Str → Option Value) (fa : Addr) (h : Heap), YP w h → h.Ns mainGlobals mg → mg d.name = some (.ref fa) → ∃ K : PySem.W.Frag, K.In h ∧ LawAtG l w K k n x mg fa h) :
    PySem.W.WalkO q loose XP YP l.row.toRowW d [] (fun f vs => PySem.call f vs) := by
  refine Att.attach_callB hn hdf fun w s₀ s₁ mg mb fa o pm cd doc a vs ns G Y ho hd hcd hmg hobj hints hlen hbits hg => ?_
  obtain ⟨K, KX, fd, cs, sp, t1, t2, t3, hb, hsp, hF⟩ := F w mg fa _ Y G.T.g hmg
  exact law_callG KX G.T.g G.T.b G.T.builtins G.T.nolimit hg t1 t2 t3 G.T.bmain hobj hints (Nat.le_trans hlen hn2) hr hF hb (fun H h1 h2 h3 h4 => hsp H a ns hlen hbits h1 h2 h3 h4) fun H e s' hx => by
    obtain ⟨_, _, _, _, _, _, _, _, _, _, _, _, z⟩ := hx
    exact z

/-! ### a law's end -/
section
open He
variable {P : Program} {w : World} {K : PySem.W.Frag} {mg : Str → Option Value} {h : Heap} {p : Pk} {dfs : List Df} {es : List DefD} {lams : List (Defn × Str)} {fs : List DefD} {ex : PySem.W.Frag → Bool}
theorem ints_W {c : SC} {H : Hp} : ∀ (ns : List Int), RWs c H (ns.map Wv.int) (ns.map V.int)
  | [] => by simp only [List.map_nil, RWs]
  | z :: ns => by
    simp only [List.map_cons, RWs]
    exact ⟨_, _, rfl, by simp only [RW], ints_W ns⟩
/-- the promise, from the evaluator's run -/
theorem law_sp {b : Bs} {m : List Av → Mw Av} {H : Hp} {a : Addr} {ns : List Int} (ht : ∀ q ∈ b.tb, H q.1 = some (.tbl #[])) (ho : ∀ d ps, H d = some (.tbl ps) → d ∈ b.tb.map (·.1)) (hN : ∀ xs, H a ≠ some (.lst xs)) (hS : SqL b.K H a (ns.map V.int))
    (hm : ∀ w : Wv, (w = .kls (ns.map .int) ∨ w = .lst (ns.map .int)) → ∃ M', m [.val w] [] = .ok (.val (.bl true)) M') : spU b.c0 1 m [.ref a] H (fun v _ => v = .bl true) fun _ _ _ => False := by
  have rm : RM (b.c0.with []) H [] [] := { len := rfl, nd := List.nodup_nil, at_ := fun i x k e => by simp at e, there := fun i x e => by simp at e, gh := fun q hq => absurd (show q ∈ ([] : List (Addr × HO)) from hq) (by simp), tab := fun q hq => LamX.TabS.nil (ht q hq), tbs := ho }
  have fin : ∀ w : Wv, (w = .kls (ns.map .int) ∨ w = .lst (ns.map .int)) → RW (b.c0.with []) H w (.ref a) → spU b.c0 1 m [.ref a] H (fun v _ => v = .bl true) fun _ _ _ => False := fun w hw r => by
    obtain ⟨M', e⟩ := hm w hw
    refine ⟨rfl, [], [], [], [.val w], rm, RL.cons r RL.nil, ?_⟩
    rw [e]
    intro ρ' H' v _ _ _ rv
    exact ra_bl.mp rv
  rcases hS with (z | ⟨o, z⟩) | z
  · exact absurd z (hN _)
  · exact fin _ (.inr rfl) (by simp only [RW]; exact ⟨a, _, rfl, ⟨o, z⟩, ints_W ns⟩)
  · exact fin _ (.inl rfl) (by simp only [RW]; exact ⟨a, _, rfl, fun H' => .inr z, ints_W ns⟩)
theorem lamT_of {b : Bs} {K : PySem.W.Frag} {lams : List (Defn × Str)} {d : DefD} {fd : FuncData} {dvs : List V} {kws : List (Str × V)} (hb : b.tb = tbOf K lams) (c13 : (lams.all fun q => lams.all fun r => decide ((cT K q.1).2 = (cT K r.1).2 → q.2 = r.2)) = true) (FD : FunD K d.name d.qual d.params d.body d.scope dvs kws (fAd K d.at_) fd) (ml : (d.at_, d.qual) ∈ lams) (tbq : LamX.TabB b.base b.mg (cT K d.at_).1 (cT K d.at_).2) : ∀ cdv, CodeOf fd cdv → LamT b d.qual cdv := by
  intro cdv hcd
  obtain ⟨oc, od, dV, kV, doc, pm, an, cdv', ct, osl, e3, lk, hcd2, _, _⟩ := FD.ex
  obtain ⟨nm', qual', params', body', scope', dV', kV', doc', pm', an', ct', e4⟩ := hcd
  have ecd : fd.code = cdv := by rw [e4] <;> rfl
  have ecd' : fd.code = cdv' := by rw [e3] <;> rfl
  have : cdv = cdv' := ecd.symm.trans ecd'
  subst this
  obtain ⟨cA, eA⟩ := codeIn_ref hcd2
  have hcode : codeOf K d.at_ = cA := codeOf_eq (p := d.at_) lk (by rw [ecd]; exact eA)
  refine ⟨cA, (cT K d.at_).2, eA, ?_, by rw [hb]; exact List.mem_map.mpr ⟨_, ml, rfl⟩, fun q hq eq => ?_⟩
  · have : (cT K d.at_).1 = cA := hcode
    rw [← this]
    exact tbq
  · rw [hb] at hq
    obtain ⟨r, hr, er⟩ := List.mem_map.mp hq
    rw [← er] at eq ⊢
    have := of_decide_eq_true (List.all_eq_true.mp (List.all_eq_true.mp c13 _ hr) _ ml) eq
    rw [this]
/-- THE END: the texts' facts, K's facts, the evaluator's run give the law's promise -/
theorem lawAt_of {l : PySem.W.OpenLaw} {N : Nat} {fa : Addr} {x : Str} {m : Nat} {dl : Df} (X : K.In h) (G : h.Ns mainGlobals mg) (S : SaysW fs es (lams.map (·.1)) ex h K) (c : pkB l.prog p dfs lams K = true) (hfs : ∀ d ∈ dfs, d.dd ∈ fs) (ht : p.tab = dfs.map fun d => (d.f, d.pd)) (hd : p.dfl = dfs.map fun d => (d.f, d.dl)) (hk : p.kwo = dfs.map fun d => (d.f, d.kl))
    (T : ∀ d ∈ dfs, DefT p d) (hl : ∀ d ∈ dfs, d.lam = true → (d.dd.at_, d.dd.qual) ∈ lams) (TE : ∀ q ∈ p.exc, ∃ d ∈ es, ExcT l.prog q.1 q.2 d) (TH : ∀ hn, p.hd = some hn → ∃ xs, ∃ d ∈ fs, HrdX p hn xs d ∧ hrdB K p hn xs d = true)
    (hf : mg "law" = some (.ref fa)) (hfind : dfs.find? (fun d => d.f == ("law" : Str)) = some dl) (hat : dl.dd.at_ = (("law" : Str), none)) (hps : dl.ps = [x]) (hdf : dl.dd.dfl = []) (hkw : dl.dd.kwd = []) (hfl : ("law" : Str) ∈ p.fns)
    (hb1 : ∀ (kV doc pm : Value) (an : Option Addr) (cdv ct : Value) (us : List Value), us.length = [x].length → bindArgs (PySem.W.fnOf dl.dd.name dl.dd.qual dl.dd.params dl.dd.body dl.dd.scope .none kV doc pm an cdv ct) ⟨us, []⟩ = pure ([x].zip us))
    (hlaw : ∀ (ns : List Int), ns.length ≤ m → (∀ z ∈ ns, Builtin.Int.intBits z ≤ 1048576) → ∀ w : Wv, (w = .kls (ns.map .int) ∨ w = .lst (ns.map .int)) → ∃ M', (lvl p.g0 p.tab p.hb (N + 1)).full "law" [.val w] [] = .ok (.val (.bl true)) M') : LawAtG l w K (5 * N + 5) m x mg fa h := by
  have md : dl ∈ dfs := List.mem_of_find?_eq_some hfind
  have c0 := c
  obtain ⟨c1, c2⟩ := ba c0
  obtain ⟨_, c2⟩ := ba c2
  obtain ⟨c3, c2⟩ := ba c2
  obtain ⟨_, c2⟩ := ba c2
  obtain ⟨_, c2⟩ := ba c2
  obtain ⟨_, c2⟩ := ba c2
  obtain ⟨_, c2⟩ := ba c2
  obtain ⟨_, c2⟩ := ba c2
  obtain ⟨_, c2⟩ := ba c2
  obtain ⟨_, c2⟩ := ba c2
  obtain ⟨_, c2⟩ := ba c2
  obtain ⟨_, c13⟩ := ba c2
  have okl : dl.dd.ok K = true := List.all_eq_true.mp c1 dl md
  obtain ⟨fd, FD⟩ := S.funD (hfs dl md) okl
  have e1 : dl.dd.dvs K = [] := by unfold DefD.dvs; rw [hdf]; rfl
  have e2 : dl.dd.kws K = [] := by unfold DefD.kws; rw [hkw]; rfl
  rw [e1, e2] at FD
  have efa : fAd K dl.dd.at_ = fa := by
    have q := ba (List.all_eq_true.mp c3 "law" hfl)
    have g := glo_of X G q.1
    rw [hf] at g
    rw [hat]
    exact (Value.ref.inj (Option.some.inj g)).symm
  rw [efa] at FD
  refine ⟨fd, lams.map fun q => cT K q.1, spU (⟨l.prog, w, K, mg, h, 5 * N, tbOf K lams⟩ : Bs).c0 1 ((lvl p.g0 p.tab p.hb (N + 1)).full "law"), fun q hq => ?_, fun q hq => ?_, fun q hq => ?_, fun s v => FunD.bindsA FD hb1 s [v] rfl, fun H a ns hlen hbits t1 t2 t3 hS => ?_, fun base KB GB TB => ?_⟩
  · obtain ⟨r, hr, er⟩ := List.mem_map.mp hq
    rw [← er]
    exact S.empty r.1 (List.mem_map.mpr ⟨r, hr, rfl⟩)
  · obtain ⟨r, hr, er⟩ := List.mem_map.mp hq
    rw [← er]
    exact S.out r.1 (List.mem_map.mpr ⟨r, hr, rfl⟩)
  · obtain ⟨r, hr, er⟩ := List.mem_map.mp hq
    rw [← er]
    exact PySem.W.codeHd_of_K X (S.hd r.1 (List.mem_map.mpr ⟨r, hr, rfl⟩))
  · refine law_sp (b := ⟨l.prog, w, K, mg, h, 5 * N, tbOf K lams⟩) (fun q hq => ?_) (fun d ps e => ?_) t3 hS (hlaw ns hlen hbits)
    · obtain ⟨r, hr, er⟩ := List.mem_map.mp hq
      rw [← er]
      exact t1 _ (List.mem_map.mpr ⟨r, hr, rfl⟩)
    · obtain ⟨q, hq, eq⟩ := List.mem_map.mp (t2 d ps e)
      obtain ⟨r, hr, er⟩ := List.mem_map.mp hq
      exact List.mem_map.mpr ⟨((cT K r.1).2, (r.2 ++ ".<locals>.") ++ "<lambda>"), List.mem_map.mpr ⟨r, hr, rfl⟩, by rw [← eq, ← er]⟩
  · have W := wld_of (w := w) (base := base) X G S c hfs ht hd hk T hl TE TH KB (fun q hq => TB _ (List.mem_map.mpr ⟨q, hq, rfl⟩))
    have lk : p.tab.lookup ("law" : Str) = some dl.pd := by rw [ht, lookup_find, hfind]; rfl
    obtain ⟨a1, a2⟩ := lvl_all W N
    obtain ⟨F, hr, eF⟩ := lvl_shape p.g0 p.tab p.hb N
    have ef : (lvl p.g0 p.tab p.hb (N + 1)).full "law" = runD (p.g0.put F hr) dl.pd := by
      show (fun as => match p.tab.lookup ("law" : Str) with
        | some d => runD (lvl p.g0 p.tab p.hb N) d as
        | none => Mw.fail) = _
      rw [lk, eF]
    rw [eF] at a1 a2
    obtain ⟨n, hc⟩ := (T dl md).cor
    have r := fn_ok (b := (⟨l.prog, w, K, mg, base, 0, tbOf K lams⟩ : Bs).at N) (supX_of W a1 a2) FD (T dl md).sc (T dl md).sl (hc F hr) (fun z => lamT_of (K := K) (b := (⟨l.prog, w, K, mg, base, 0, tbOf K lams⟩ : Bs).at N) rfl c13 (by rw [← efa] at FD; exact FD) (hl dl md z) (TB _ (List.mem_map.mpr ⟨_, hl dl md z, rfl⟩)))
    rw [hps] at r
    rw [ef]
    exact r
end

/-! ### keywords, every parameter given -/
def srcG {α : Type} (d : α) (us ws : List α) : List Src → List α
  | [] => []
  | .pos i :: r => us.getD i d :: srcG d us ws r
  | .kw i :: r => ws.getD i d :: srcG d us ws r
  | .dfl _ :: r => d :: srcG d us ws r
def srcP : List Src → Bool
  | [] => true
  | .dfl _ :: _ => false
  | _ :: r => srcP r
theorem getD_rel {vs : List V} {us : List Value} (r : Vals vs us) (i : Nat) : RelV (vs.getD i .non) (us.getD i .none) := by
  rw [List.getD_eq_getElem?_getD, List.getD_eq_getElem?_getD]
  cases e : vs[i]? with
  | some v =>
    obtain ⟨u, e1, r1⟩ := r.get e
    rw [e1]
    exact r1
  | none =>
    have hl : us[i]? = none := by
      rw [List.getElem?_eq_none_iff] at e ⊢
      rw [← r.length]
      exact e
    rw [hl]
    rfl
theorem srcG_rel {vs zs : List V} {us ws : List Value} (r1 : Vals vs us) (r2 : Vals zs ws) : ∀ ss : List Src, Vals (srcG .non vs zs ss) (srcG .none us ws ss)
  | [] => .nil
  | .pos i :: r => .cons (getD_rel r1 i) (srcG_rel r1 r2 r)
  | .kw i :: r => .cons (getD_rel r2 i) (srcG_rel r1 r2 r)
  | .dfl _ :: r => .cons rfl (srcG_rel r1 r2 r)
theorem srcA_rel {c : SC} {H : Hp} {ρ : List Addr} {as bs : List Av} {vs us : List V} (r1 : RL (RA c H ρ) as vs) (r2 : RL (RA c H ρ) bs us) : ∀ (ss : List Src) (l : List Av), srcP ss = true → srcA as bs ss = some l → RL (RA c H ρ) l (srcG .non vs us ss)
  | [], l, _, e => by
    have e : some [] = some l := e
    cases e
    exact RL.nil
  | s :: r, l, hp, e => by
    have e : (match srcOne as bs s, srcA as bs r with
      | some a, some l => some (a :: l)
      | _, _ => none) = some l := e
    cases e1 : srcOne as bs s with
    | none => rw [e1] at e; cases e
    | some a =>
      cases e2 : srcA as bs r with
      | none => rw [e1, e2] at e; cases e
      | some l' =>
        rw [e1, e2] at e
        cases e
        cases s with
        | pos i =>
          obtain ⟨v, e3, r3⟩ := r1.get (show as[i]? = some a from e1)
          refine RL.cons ?_ (srcA_rel r1 r2 r l' hp e2)
          rw [List.getD_eq_getElem?_getD, e3]
          exact r3
        | kw i =>
          obtain ⟨v, e3, r3⟩ := r2.get (show bs[i]? = some a from e1)
          refine RL.cons ?_ (srcA_rel r1 r2 r l' hp e2)
          rw [List.getD_eq_getElem?_getD, e3]
          exact r3
        | dfl w => cases hp
theorem srcA_len {as bs : List Av} : ∀ {ss : List Src} {l : List Av}, srcA as bs ss = some l → l.length = ss.length
  | [], l, e => by
    have e : some [] = some l := e
    cases e
    rfl
  | s :: r, l, e => by
    have e : (match srcOne as bs s, srcA as bs r with
      | some a, some l => some (a :: l)
      | _, _ => none) = some l := e
    cases e1 : srcOne as bs s with
    | none => rw [e1] at e; cases e
    | some a =>
      cases e2 : srcA as bs r with
      | none => rw [e1, e2] at e; cases e
      | some l' =>
        rw [e1, e2] at e
        cases e
        rw [List.length_cons, List.length_cons, srcA_len e2]
theorem kb_all {K : PySem.W.Frag} {x qual : Str} {params : Arguments} {body : List Stmt} {scope : Scope} {kws : List (Str × V)} {f : Addr} {fd : FuncData} {ps : List Str} (F : FunD K x qual params body scope [] kws f fd) (n : Nat) (ks : List Str) (ss : List Src) (hs : ss.length = ps.length) (hp : srcP ss = true)
    (h : ∀ (kV doc pm : Value) (an : Option Addr) (cdv ct : Value) (us ws : List Value), us.length = n → ws.length = ks.length → bindArgs (PySem.W.fnOf x qual params body scope .none kV doc pm an cdv ct) ⟨us, ks.zip ws⟩ = pure (ps.zip (srcG .none us ws ss))) :
    ∃ gL gV, KBn K fd ps n ks gL gV ∧ ∀ as bs, as.length = n → bs.length = ks.length → ∀ l, srcA as bs ss = some l → l.length = ps.length ∧ ∀ c H ρ vs us, c.K = K → RL (RA c H ρ) as vs → RL (RA c H ρ) bs us → RL (RA c H ρ) l (gV vs us) := by
  obtain ⟨oc, od, dV, kV, doc, pm, an, cdv, ct, osl, rfl, lk, hcd, hD, hK⟩ := F.ex
  rcases hD with ⟨_, rfl⟩ | ⟨e, _⟩
  · exact ⟨fun us ws => srcG .none us ws ss, fun vs zs => srcG .non vs zs ss, ⟨fun s us ws _ l1 l2 => .of_eq (h kV doc pm an cdv ct us ws l1 l2), fun r1 r2 => srcG_rel r1 r2 ss⟩, fun as bs _ _ l hl => ⟨(srcA_len hl).trans hs, fun c H ρ vs us _ r1 r2 => srcA_rel r1 r2 ss l hp hl⟩⟩
  · exact absurd rfl e
end LW

namespace LW
open PySem PySem.Spec L2

/-! ### the evaluator, by equations -/
theorem mw_pure_bind {α β : Type} (a : α) (f : α → Mw β) : ((pure a : Mw α) >>= f) = f a := rfl
theorem mw_bind_pure {α : Type} (x : Mw α) : (x >>= fun a => (pure a : Mw α)) = x := by
  funext M
  show Mw.bind x (fun a => Mw.pure a) M = x M
  unfold Mw.bind
  cases x M <;> rfl
theorem mw_assoc {α β γ : Type} (x : Mw α) (f : α → Mw β) (k : β → Mw γ) : ((x >>= f) >>= k) = (x >>= fun a => f a >>= k) := by
  funext M
  show Mw.bind (Mw.bind x f) k M = Mw.bind x (fun a => Mw.bind (f a) k) M
  unfold Mw.bind
  cases x M <;> rfl
theorem mw_ite {α : Type} {c : Prop} [Decidable c] (a b : α) : (if c then (pure a : Mw α) else pure b) = pure (if c then a else b) := by split <;> rfl
theorem of_some {α : Type} (a : α) : ((fun M => Mw.of (some a) M) : Mw α) = (pure a : Mw α) := rfl
theorem post_false (x : Mw Av) : post false x = x := rfl
theorem asB_bl (k : Bool) : asB (.val (.bl k)) = pure k := rfl
theorem blV_eq (k : Bool) : blV k = pure (.val (.bl k)) := rfl
@[simp] theorem truM_bl (k : Bool) : truM (.val (.bl k)) = pure k := rfl
theorem post_bl (m : Bool) (k : Bool) : post m (pure (.val (.bl k))) = pure (.val (.bl k)) := by cases m <;> rfl
theorem var_at {η : Ev} {i : Nat} {a : Av} (h : η[i]? = some (some a)) : varM η i = pure a := by
  funext M
  unfold varM
  rw [h]
  rfl
theorem varM_cons0 {a : Av} {η : Ev} : varM (some a :: η) 0 = pure a := rfl
theorem varM_consS {x : Option Av} {η : Ev} {i : Nat} : varM (x :: η) (i + 1) = varM η i := rfl
section
variable {g : G}
theorem ev_var (i : Nat) (m : Bool) (η : Ev) : evE g (.var i) m η = post m (varM η i) := rfl
theorem ev_con (c : Wc) (m : Bool) (η : Ev) : evE g (.con c) m η = post m (pure (.val c.wv)) := rfl
theorem ev_glo (x : Str) (m : Bool) (η : Ev) : evE g (.glo x) m η = post m (gloM g x) := rfl
theorem ev_typ (n : String) (m : Bool) (η : Ev) : evE g (.typ n) m η = post m (pure (.val (.ty n))) := rfl
theorem ev_bin (o : Operator) (a b : PX) (m : Bool) (η : Ev) : evE g (.bin o a b) m η = post m (evE g a false η >>= fun x => evE g b false η >>= fun y => fun M => Mw.of (binA M o x y) M) := rfl
theorem ev_neg (a : PX) (m : Bool) (η : Ev) : evE g (.neg a) m η = post m (evE g a false η >>= negM) := rfl
theorem ev_notF (a : PX) (η : Ev) : evE g (.notv a) false η = ((evE g a false η >>= truM) >>= fun k => blV (!k)) := rfl
theorem ev_notT (a : PX) (η : Ev) : evE g (.notv a) true η = ((evE g a true η >>= asB) >>= fun k => blV (!k)) := rfl
theorem ev_andF (xs : List PX) (η : Ev) : evE g (.and xs) false η = evAnd g xs η := rfl
theorem ev_andT (xs : List PX) (η : Ev) : evE g (.and xs) true η = (evTAnd g xs η >>= blV) := rfl
theorem ev_orF (xs : List PX) (η : Ev) : evE g (.or xs) false η = evOr g xs η := rfl
theorem ev_orT (xs : List PX) (η : Ev) : evE g (.or xs) true η = (evTOr g xs η >>= blV) := rfl
theorem ev_cmp (o : CmpOp) (a b : PX) (m : Bool) (η : Ev) : evE g (.cmp o a b) m η = (evE g a false η >>= fun x => evE g b false η >>= fun y => cmpA g o x y >>= blV) := rfl
theorem ev_chain (o1 o2 : CmpOp) (a b c : PX) (m : Bool) (η : Ev) : evE g (.chain o1 o2 a b c) m η = (evE g a false η >>= fun x => evE g b false η >>= fun y => cmpA g o1 x y >>= fun k =>
    if k = true then evE g c false η >>= fun z => cmpA g o2 y z >>= blV else blV false) := rfl
theorem ev_ife (t a b : PX) (m : Bool) (η : Ev) : evE g (.ife t a b) m η = (evE g t true η >>= fun k => asB k >>= fun k => if k = true then evE g a m η else evE g b m η) := rfl
theorem ev_call (f : Str) (xs : List PX) (m : Bool) (η : Ev) : evE g (.call f xs) m η = post m (evL g xs η >>= g.call f xs.length) := rfl
theorem ev_make (c : Str) (xs : List PX) (m : Bool) (η : Ev) : evE g (.make c xs [] []) m η = post m (evL g xs η >>= newA g c xs.length) := rfl
theorem ev_makek (c : Str) (xs : List PX) (k : Str) (ks : List Str) (ys : List PX) (m : Bool) (η : Ev) : evE g (.make c xs (k :: ks) ys) m η = post m (evL g xs η >>= fun as => evL g ys η >>= fun bs => newkA g c xs.length (k :: ks) as bs) := rfl
theorem ev_heard (b : PX) (m : Bool) (η : Ev) : evE g (.heard b) m η = post m (heardM g (evE g b false η)) := rfl
theorem ev_bi (b : Str) (xs : List PX) (m : Bool) (η : Ev) : evE g (.bi b xs) m η = post m (evL g xs η >>= biA g b) := rfl
theorem ev_meth (n : Str) (o : PX) (xs : List PX) (m : Bool) (η : Ev) : evE g (.meth n o xs) m η = post m (evE g o false η >>= fun x => chkM x >>= fun _ => evL g xs η >>= fun as => methA n x as) := rfl
theorem ev_attr (f : Str) (o : PX) (m : Bool) (η : Ev) : evE g (.attr f o) m η = post m (evE g o false η >>= fun x => fun M => Mw.of (attrA g M f x) M) := rfl
theorem ev_ix (o i : PX) (m : Bool) (η : Ev) : evE g (.ix o i) m η = post m (evE g o false η >>= fun x => evE g i false η >>= fun y => fun M => Mw.of (ixA M x y) M) := rfl
theorem ev_sl (o : PX) (lo hi : Option PX) (m : Bool) (η : Ev) : evE g (.sl o lo hi) m η = post m (evE g o false η >>= fun x => evO g lo η >>= fun l => evO g hi η >>= fun h => slM x l h) := rfl
theorem ev_tup (xs : List PX) (m : Bool) (η : Ev) : evE g (.tup xs) m η = post m (evL g xs η >>= newT) := rfl
theorem ev_lst (mt : Bool) (xs : List PX) (m : Bool) (η : Ev) : evE g (.lst mt xs) m η = post m (evL g xs η >>= newL mt) := rfl
theorem ev_dct0 (m : Bool) (η : Ev) : evE g (.dct false [] []) m η = post m (pure (.val (.dct [] []))) := rfl
theorem ev_lc (mt : Bool) (e : PX) (t : PT) (k : ItK) (its ifs : List PX) (own : List Nat) (m : Bool) (η : Ev) : evE g (.lc mt e t k its ifs own) m η = post m ((evL g its η >>= itA k) >>= fun ws => overW (lcB t (wipeE η own) (evIfs g ifs) (evE g e false)) ws [] >>= newL mt) := rfl
theorem evAnd_1 (a : PX) (η : Ev) : evAnd g [a] η = evE g a false η := by
  show (evE g a false η >>= fun x => (pure x : Mw Av)) = _
  exact mw_bind_pure _
theorem evAnd_2 (a b : PX) (r : List PX) (η : Ev) : evAnd g (a :: b :: r) η = (evE g a false η >>= fun x => truM x >>= fun k => if k = true then evAnd g (b :: r) η else pure x) := rfl
theorem evOr_1 (a : PX) (η : Ev) : evOr g [a] η = evE g a false η := by
  show (evE g a false η >>= fun x => (pure x : Mw Av)) = _
  exact mw_bind_pure _
theorem evOr_2 (a b : PX) (r : List PX) (η : Ev) : evOr g (a :: b :: r) η = (evE g a false η >>= fun x => truM x >>= fun k => if k = true then pure x else evOr g (b :: r) η) := rfl
theorem evTAnd_0 (η : Ev) : evTAnd g [] η = pure true := rfl
theorem evTAnd_1 (a : PX) (r : List PX) (η : Ev) : evTAnd g (a :: r) η = (evE g a true η >>= fun k => asB k >>= fun k => if k = true then evTAnd g r η else pure false) := rfl
theorem evTOr_0 (η : Ev) : evTOr g [] η = pure false := rfl
theorem evTOr_1 (a : PX) (r : List PX) (η : Ev) : evTOr g (a :: r) η = (evE g a true η >>= fun k => asB k >>= fun k => if k = true then pure true else evTOr g r η) := rfl
theorem evIfs_0 (η : Ev) : evIfs g [] η = pure true := rfl
theorem evIfs_1 (a : PX) (r : List PX) (η : Ev) : evIfs g (a :: r) η = (evE g a true η >>= fun k => asB k >>= fun k => if k = true then evIfs g r η else pure false) := rfl
theorem evL_0 (η : Ev) : evL g [] η = pure [] := rfl
theorem evL_1 (a : PX) (r : List PX) (η : Ev) : evL g (a :: r) η = (evE g a false η >>= fun x => evL g r η >>= fun xs => pure (x :: xs)) := rfl
theorem evO_0 (η : Ev) : evO g none η = pure none := rfl
theorem evO_1 (a : PX) (η : Ev) : evO g (some a) η = (evE g a false η >>= intO) := rfl
theorem intO_int (i : Int) : intO (.val (.int i)) = pure (some i) := rfl
theorem negM_int (i : Int) : negM (.val (.int i)) = pure (.val (.int (-i))) := rfl
theorem wv_non : Wc.wv .non = .non := rfl
theorem wv_bl (b : Bool) : Wc.wv (.bl b) = .bl b := rfl
theorem wv_int (b : Int) : Wc.wv (.int b) = .int b := rfl
theorem wv_str (b : Str) : Wc.wv (.str b) = .str b := rfl
/-! statements -/
variable {n : Nat}
def nxS (x : Mw (Fl × Ev)) (k : Ev → Mw (Fl × Ev)) : Mw (Fl × Ev) := fun M => match x M with
  | .ok (.nx, η1) M1 => k η1 M1
  | .ok (f, η1) M1 => .ok (f, η1) M1
  | .ex e M1 => .ex e M1
  | .no => .no
theorem es_nil (η : Ev) : evSs g n [] η = pure (.nx, η) := rfl
theorem es_cons (s : PSt) (r : List PSt) (η : Ev) : evSs g n (s :: r) η = nxS (evS g n s η) (evSs g n r) := rfl
theorem nxS_nx (η : Ev) (k : Ev → Mw (Fl × Ev)) : nxS (pure (.nx, η)) k = k η := rfl
theorem nxS_rt (a : Av) (η : Ev) (k : Ev → Mw (Fl × Ev)) : nxS (pure (.rt a, η)) k = pure (.rt a, η) := rfl
theorem nxS_ite {c : Prop} [Decidable c] (x y : Mw (Fl × Ev)) (k : Ev → Mw (Fl × Ev)) : nxS (if c then x else y) k = if c then nxS x k else nxS y k := by split <;> rfl
theorem nxS_bind {α : Type} (x : Mw α) (f : α → Mw (Fl × Ev)) (k : Ev → Mw (Fl × Ev)) : nxS (x >>= f) k = (x >>= fun a => nxS (f a) k) := by
  funext M
  show nxS (Mw.bind x f) k M = Mw.bind x (fun a => nxS (f a) k) M
  unfold nxS Mw.bind
  cases x M <;> rfl
theorem es_ret (e : PX) (η : Ev) : evS g n (.ret e) η = (evE g e false η >>= fun a => retA n a >>= fun a => pure (.rt a, η)) := rfl
theorem retA_val (n : Nat) (w : Wv) : retA n (.val w) = pure (.val w) := rfl
theorem es_retN (η : Ev) : evS g n .retN η = pure (.rt (.val .non), η) := rfl
theorem es_retk (e : PX) (η : Ev) : evS g n (.retk e) η = (evE g e false η >>= fun a => pure (.rt a, η)) := rfl
theorem es_ife (t : PX) (a b : List PSt) (η : Ev) : evS g n (.ife t a b) η = (evE g t true η >>= fun k => asB k >>= fun k => if k = true then evSs g n a η else evSs g n b η) := by
  show ((evE g t true η >>= asB) >>= fun k => if k = true then evSs g n a η else evSs g n b η) = _
  rw [mw_assoc]
theorem es_asg (i : Nat) (e : PX) (η : Ev) : evS g n (.asg (.name i) e) η = (evE g e false η >>= fun a => pure (.nx, η.set i (some a))) := rfl
theorem es_ex (e : PX) (η : Ev) : evS g n (.ex e) η = (evE g e false η >>= fun _ => pure (.nx, η)) := rfl
theorem es_par (i j : Nat) (a b : PX) (η : Ev) : evS g n (.par i j a b) η = (evE g a false η >>= fun x => evE g b false η >>= fun y => pure (.nx, (η.set i (some x)).set j (some y))) := rfl
theorem es_fld (o : PX) (f : Str) (e : PX) (η : Ev) : evS g n (.fld o f e) η = (evE g e false η >>= fun v => evE g o false η >>= fun x => setF g x f v >>= fun _ => pure (.nx, η)) := rfl
theorem es_sub (o i e : PX) (η : Ev) : evS g n (.sub o i e) η = (evE g e false η >>= fun v => evE g o false η >>= fun x => evE g i false η >>= fun y => setA x y v >>= fun _ => pure (.nx, η)) := rfl
theorem es_pass (η : Ev) : evS g n .pass η = pure (.nx, η) := rfl
theorem es_rais (c : Str) (xs : List PX) (η : Ev) : evS g n (.rais c xs) η = (evL g xs η >>= raisM g c) := rfl
end
/-! ### a def that leaves the memory as it is -/
theorem chkL_rfl : ∀ M : Mem, chkL M M = true
  | [] => rfl
  | k :: r => by simp [chkL, chkL_rfl r]
/-- what a def's text gives back -/
def thenS (x : Mw (Fl × Ev)) (k : Ev → Mw Av) : Mw Av := fun M => match x M with
  | .ok (.nx, η1) M1 => k η1 M1
  | .ok (.rt a, _) M1 => .ok a M1
  | .ok _ _ => .no
  | .ex e M1 => .ex e M1
  | .no => .no
abbrev nonK : Ev → Mw Av := fun _ => pure (.val .non)
theorem thenS_nx (η : Ev) (k : Ev → Mw Av) : thenS (pure (.nx, η)) k = k η := rfl
theorem thenS_rt (a : Av) (η : Ev) (k : Ev → Mw Av) : thenS (pure (.rt a, η)) k = pure a := rfl
theorem thenS_nxS (x : Mw (Fl × Ev)) (k1 : Ev → Mw (Fl × Ev)) (k : Ev → Mw Av) : thenS (nxS x k1) k = thenS x fun η => thenS (k1 η) k := by
  funext M
  unfold thenS nxS
  cases x M with
  | ok r M1 => obtain ⟨f, η⟩ := r; cases f <;> rfl
  | ex e M1 => rfl
  | no => rfl
theorem thenS_bind {α : Type} (x : Mw α) (f : α → Mw (Fl × Ev)) (k : Ev → Mw Av) : thenS (x >>= f) k = (x >>= fun a => thenS (f a) k) := by
  funext M
  show thenS (Mw.bind x f) k M = Mw.bind x (fun a => thenS (f a) k) M
  unfold thenS Mw.bind
  cases x M <;> rfl
theorem thenS_ite {c : Prop} [Decidable c] (x y : Mw (Fl × Ev)) (k : Ev → Mw Av) : thenS (if c then x else y) k = if c then thenS x k else thenS y k := by split <;> rfl
theorem thenS_nil {g : G} {n : Nat} (η : Ev) (k : Ev → Mw Av) : thenS (evSs g n [] η) k = k η := rfl
theorem thenS_cons {g : G} {n : Nat} (s : PSt) (r : List PSt) (η : Ev) (k : Ev → Mw Av) : thenS (evSs g n (s :: r) η) k = thenS (evS g n s η) fun η1 => thenS (evSs g n r η1) k := by
  rw [es_cons, thenS_nxS]
theorem bind_ite {α β : Type} {c : Prop} [Decidable c] (x y : Mw α) (f : α → Mw β) : ((if c then x else y) >>= f) = if c then x >>= f else y >>= f := by split <;> rfl
theorem runD_eq {g : G} {d : PDef} {as : List Av} : runD g d as = fun M => finA d.keep M (thenS (evSs g M.length d.body (as.map some ++ List.replicate (d.slots - as.length) none)) nonK M) := by
  funext M
  unfold runD thenS
  congr 1
  cases evSs g M.length d.body (as.map some ++ List.replicate (d.slots - as.length) none) M with
  | ok r M1 => obtain ⟨f, η⟩ := r; cases f <;> rfl
  | ex e M1 => rfl
  | no => rfl
theorem fin_pure {k : Bool} {M : Mem} {w : Wv} : finA k M (.ok (.val w) M) = .ok (.val w) M := by
  unfold finA
  dsimp only
  split
  · rfl
  · rw [if_pos (chkL_rfl M)]
    simp
theorem fin_ex {k : Bool} {M : Mem} {w : Wv} : finA k M (.ex w M) = .ex w M := by
  unfold finA
  dsimp only
  rw [if_pos (chkL_rfl M)]
  simp
/-- what neither reads nor changes the memory -/
inductive Pu where
  | ok (w : Wv) | ex (e : Wv)
def Pu.m : Pu → Mw Av
  | .ok w => pure (.val w)
  | .ex e => fun M => .ex e M
theorem runD_pu {g : G} {d : PDef} {as : List Av} {p : Pu} (h : ∀ n, thenS (evSs g n d.body (as.map some ++ List.replicate (d.slots - as.length) none)) nonK = p.m) : runD g d as = p.m := by
  rw [runD_eq]
  funext M
  rw [h M.length]
  cases p with
  | ok w => exact fin_pure
  | ex e => exact fin_ex
theorem runD_pure {g : G} {d : PDef} {as : List Av} {w : Wv} (h : ∀ n, thenS (evSs g n d.body (as.map some ++ List.replicate (d.slots - as.length) none)) nonK = pure (.val w)) : runD g d as = pure (.val w) := runD_pu (p := .ok w) h

/-! ### leaves -/
abbrev vI (i : Int) : Av := .val (.int i)
abbrev vS (x : Str) : Av := .val (.str x)
abbrev vB (b : Bool) : Av := .val (.bl b)
def binM (o : Operator) (x y : Av) : Mw Av := fun M => Mw.of (binA M o x y) M
def ixM (x y : Av) : Mw Av := fun M => Mw.of (ixA M x y) M
def attrM (g : G) (f : Str) (x : Av) : Mw Av := fun M => Mw.of (attrA g M f x) M
section
variable {g : G}
theorem ev_bin' (o : Operator) (a b : PX) (m : Bool) (η : Ev) : evE g (.bin o a b) m η = post m (evE g a false η >>= fun x => evE g b false η >>= fun y => binM o x y) := rfl
theorem ev_ix' (o i : PX) (m : Bool) (η : Ev) : evE g (.ix o i) m η = post m (evE g o false η >>= fun x => evE g i false η >>= fun y => ixM x y) := rfl
theorem ev_attr' (f : Str) (o : PX) (m : Bool) (η : Ev) : evE g (.attr f o) m η = post m (evE g o false η >>= fun x => attrM g f x) := rfl
theorem cmp_isI (i : Int) : cmpA g .Is (vI i) (.val .non) = pure false := rfl
theorem cmp_isN : cmpA g .Is (.val .non) (.val .non) = pure true := rfl
theorem cmp_geI (i j : Int) : cmpA g .GtE (vI i) (vI j) = pure (decide (j ≤ i)) := rfl
theorem cmp_leI (i j : Int) : cmpA g .LtE (vI i) (vI j) = pure (decide (i ≤ j)) := rfl
theorem cmp_ltI (i j : Int) : cmpA g .Lt (vI i) (vI j) = pure (decide (i < j)) := rfl
theorem cmp_gtI (i j : Int) : cmpA g .Gt (vI i) (vI j) = pure (decide (j < i)) := rfl
theorem eqA_py {M : Mem} {a b : Wv} {d e : PyData} (h1 : toPy a = some d) (h2 : toPy b = some e) (s1 : SeqAt.shaped d = true) (s2 : SeqAt.shaped e = true) : eqA M (.val a) (.val b) = some (PyData.eqv d e) := by
  unfold eqA
  have e1 : toPyA M (.val a) = some d := h1
  have e2 : toPyA M (.val b) = some e := h2
  rw [e1, e2]
  dsimp only
  rw [if_pos ⟨s1, s2⟩]
theorem twoS_py {a b : Wv} {d e : PyData} (h1 : toPy a = some d) (h2 : toPy b = some e) : (∃ x y, a = .str x ∧ b = .str y ∧ d = .str x ∧ e = .str y) ∨ twoS (.val a) (.val b) = none := by
  cases a with
  | str x =>
    cases b with
    | str y =>
      simp only [toPy] at h1 h2
      cases h1
      cases h2
      exact .inl ⟨x, y, rfl, rfl, rfl, rfl⟩
    | _ => exact .inr rfl
  | _ => exact .inr rfl
theorem eqK_py {M : Mem} {a b : Wv} {d e : PyData} (h1 : toPy a = some d) (h2 : toPy b = some e) (s1 : SeqAt.shaped d = true) (s2 : SeqAt.shaped e = true) (hk : ((lstI M (.val a)).isSome && (tupI (.val b)).isSome || (tupI (.val a)).isSome && (lstI M (.val b)).isSome) = false) : eqK M (.val a) (.val b) = some (PyData.eqv d e) := by
  rcases twoS_py h1 h2 with ⟨x, y, rfl, rfl, rfl, rfl⟩ | h
  · show some (x == y) = _
    simp only [PyData.eqv]
  · unfold eqK
    rw [h]
    show eqK0 M _ _ = _
    unfold eqK0
    rw [hk, if_neg (by simp), eqA_py h1 h2 s1 s2]
theorem neK_py {M : Mem} {a b : Wv} {d e : PyData} (h1 : toPy a = some d) (h2 : toPy b = some e) (s1 : SeqAt.shaped d = true) (s2 : SeqAt.shaped e = true) : neK M (.val a) (.val b) = some (!PyData.eqv d e) := by
  rcases twoS_py h1 h2 with ⟨x, y, rfl, rfl, rfl, rfl⟩ | h
  · show some (!(x == y)) = _
    simp only [PyData.eqv]
  · unfold neK
    rw [h]
    show (eqA M _ _).map not = _
    rw [eqA_py h1 h2 s1 s2]
    rfl
theorem cmp_eqSS {g : G} (x y : Str) : cmpA g .Eq (vS x) (vS y) = pure (x == y) := rfl
theorem cmp_neSS {g : G} (x y : Str) : cmpA g .NotEq (vS x) (vS y) = pure (x != y) := rfl
theorem bin_add (i j : Int) : binM .Add (vI i) (vI j) = pure (vI (i + j)) := rfl
theorem bin_sub (i j : Int) : binM .Sub (vI i) (vI j) = pure (vI (i - j)) := rfl
theorem ix_tup (xs : List Wv) (i : Int) {w : Wv} (h : atI xs i = some w) : ixM (.val (.tup xs)) (vI i) = pure (.val w) := by
  funext M
  show Mw.of ((atI xs i).map Av.val) M = _
  rw [h]
  rfl
theorem atI_map {α β : Type} (f : α → β) (xs : List α) (i : Int) {w : α} (h : atI xs i = some w) : atI (xs.map f) i = some (f w) := by
  unfold atI at h ⊢
  simp only [List.length_map] at h ⊢
  cases q : ixN xs.length i with
  | none => rw [q] at h; cases h
  | some k =>
    rw [q] at h
    have h : xs[k]? = some w := h
    show (xs.map f)[k]? = some (f w)
    rw [List.getElem?_map, h]
    rfl
theorem ix_lst (xs : List Wv) (i : Int) {w : Wv} (h : atI xs i = some w) : ixM (.val (.lst xs)) (vI i) = pure (.val w) := by
  funext M
  show Mw.of (atI (xs.map Av.val) i) M = _
  rw [atI_map Av.val xs i h]
  rfl
theorem len_tup (xs : List Wv) : biA g "len" [.val (.tup xs)] = pure (vI xs.length) := rfl
theorem len_lst (xs : List Wv) : biA g "len" [.val (.lst xs)] = pure (vI xs.length) := by
  funext M
  show lenL (.val (.lst xs)) M = _
  unfold lenL lstI
  simp [vI]
  rfl
theorem len_str (x : Str) (h : x.length ≤ sizeLine) : biA g "len" [vS x] = pure (vI x.length) := by
  funext M
  show (if x.length ≤ sizeLine then Out.ok (vI x.length) M else .no) = _
  rw [if_pos h]
  rfl
/-! a comprehension over values, no condition -/
theorem overW_map {t : PT} {η : Ev} {me : Ev → Mw Av} {f : Wv → Wv} : ∀ (ws : List Wv) (acc : List Av), acc.length + ws.length ≤ sizeLine → (∀ w ∈ ws, ∃ η1, putT t (.val w) η = some η1 ∧ me η1 = pure (.val (f w))) →
    overW (lcB t η (evIfs g []) me) ws acc = pure (acc ++ ws.map fun w => .val (f w))
  | [], acc, _, _ => by
    funext M
    show Out.ok acc M = _
    simp
    rfl
  | w :: ws, acc, hl, h => by
    obtain ⟨η1, e1, e2⟩ := h w List.mem_cons_self
    have hb : lcB t η (evIfs g []) me w acc = pure (acc ++ [.val (f w)]) := by
      unfold lcB
      rw [e1]
      funext M
      have e3 : noX (me η1) = pure (.val (f w)) := by rw [e2]; rfl
      show Mw.bind (noX (evIfs g [] η1)) _ M = _
      rw [evIfs_0]
      show (if true = true then noX (me η1) >>= fun a => (if acc.length < sizeLine then (pure (acc ++ [a]) : Mw (List Av)) else Mw.fail) else pure acc) M = _
      rw [if_pos rfl, e3, mw_pure_bind, if_pos (by simp at hl; omega)]
    funext M
    rw [overW]
    simp only [hb]
    show overW (lcB t η (evIfs g []) me) ws (acc ++ [.val (f w)]) M = _
    rw [overW_map ws _ (by simp at hl ⊢; omega) fun w' hw => h w' (List.mem_cons_of_mem _ hw)]
    simp
theorem newL_vals (ws : List Wv) : newL false (ws.map Av.val) = pure (.val (.lst ws)) := by
  funext M
  unfold newL
  have : pures (ws.map Av.val) = some ws := by
    induction ws with
    | nil => rfl
    | cons w ws ih => simp [pures, ih]
  rw [this]
  rfl
theorem pures_vals (ws : List Wv) : pures (ws.map Av.val) = some ws := by
  induction ws with
  | nil => rfl
  | cons w ws ih => simp [pures, ih]
theorem newT_vals (ws : List Wv) : newT (ws.map Av.val) = pure (.val (.tup ws)) := by
  funext M
  unfold newT
  rw [pures_vals]
  rfl
theorem lc_map {e : PX} {i : Nat} {its : List PX} {k : ItK} {own : List Nat} {η : Ev} {ws : List Wv} {f : Wv → Wv} (hw : (evL g its η >>= itA k) = pure ws) (hl : ws.length ≤ sizeLine) (h : ∀ w ∈ ws, evE g e false ((wipeE η own).set i (some (.val w))) = pure (.val (f w))) :
    evE g (.lc false e (.name i) k its [] own) false η = pure (.val (.lst (ws.map f))) := by
  rw [ev_lc, hw, mw_pure_bind, overW_map ws [] (by simpa using hl) fun w m => ⟨_, rfl, h w m⟩, mw_pure_bind, List.nil_append, post_false]
  have : (ws.map fun w => Av.val (f w)) = (ws.map f).map Av.val := by simp
  rw [this]
  exact newL_vals _
theorem walk_tup (xs : List Wv) : itA .val [.val (.tup xs)] = pure xs := rfl
theorem walk_lst (xs : List Wv) : itA .val [.val (.lst xs)] = pure xs := rfl
theorem walk_str (x : Str) : itA .val [vS x] = pure (charsW x) := rfl
theorem allBl_map {α : Type} (b : α → Bool) : ∀ ws : List α, allBl (ws.map fun w => Wv.bl (b w)) = some (ws.map b)
  | [] => rfl
  | w :: ws => by
    show (allBl (ws.map fun w => Wv.bl (b w))).map (b w :: ·) = _
    rw [allBl_map b ws]
    rfl
theorem all_map {α : Type} (b : α → Bool) (ws : List α) : biA g "all" [.val (.lst (ws.map fun w => Wv.bl (b w)))] = pure (vB (ws.all b)) := by
  funext M
  show (match allBl (ws.map fun w => Wv.bl (b w)) with
    | some bs => Out.ok (vB (bs.all id)) M
    | none => .no) = _
  rw [allBl_map]
  have : (ws.map b).all id = ws.all b := by simp [List.all_map]
  simp only [this]
  rfl
theorem newT_0 : newT [] = pure (.val (.tup [])) := rfl
theorem newL_0 : newL false [] = pure (.val (.lst [])) := rfl
theorem newT_1 (a : Wv) : newT [Av.val a] = pure (.val (.tup [a])) := rfl
theorem newL_1 (a : Wv) : newL false [Av.val a] = pure (.val (.lst [a])) := rfl
theorem newT_2 (a b : Wv) : newT [Av.val a, Av.val b] = pure (.val (.tup [a, b])) := rfl
theorem newL_2 (a b : Wv) : newL false [Av.val a, Av.val b] = pure (.val (.lst [a, b])) := rfl
theorem newT_3 (a b c : Wv) : newT [Av.val a, Av.val b, Av.val c] = pure (.val (.tup [a, b, c])) := rfl
theorem newL_3 (a b c : Wv) : newL false [Av.val a, Av.val b, Av.val c] = pure (.val (.lst [a, b, c])) := rfl
theorem newT_4 (a b c d : Wv) : newT [Av.val a, Av.val b, Av.val c, Av.val d] = pure (.val (.tup [a, b, c, d])) := rfl
theorem newL_4 (a b c d : Wv) : newL false [Av.val a, Av.val b, Av.val c, Av.val d] = pure (.val (.lst [a, b, c, d])) := rfl
theorem newT_5 (a b c d e : Wv) : newT [Av.val a, Av.val b, Av.val c, Av.val d, Av.val e] = pure (.val (.tup [a, b, c, d, e])) := rfl
theorem newL_5 (a b c d e : Wv) : newL false [Av.val a, Av.val b, Av.val c, Av.val d, Av.val e] = pure (.val (.lst [a, b, c, d, e])) := rfl
theorem cut1 {α : Type} (xs : List α) : cutL xs (some 1) none = xs.drop 1 := by
  unfold cutL HT.sIx
  cases xs with
  | nil => simp
  | cons x xs => simp
theorem sl1_tup (xs : List Wv) : slM (.val (.tup xs)) (some 1) none = pure (.val (.tup (xs.drop 1))) := by
  rw [← cut1]
  rfl
theorem sl1_lst (xs : List Wv) : slM (.val (.lst xs)) (some 1) none = pure (.val (.lst (xs.drop 1))) := by
  funext M
  show Mw.of (match lstI M (.val (.lst xs)) with
    | some xs => (match pures (cutL xs (some 1) none) with
      | some ws => some (Av.val (.lst ws))
      | none => none)
    | none => none) M = _
  have : lstI M (.val (.lst xs)) = some (xs.map Av.val) := rfl
  rw [this]
  dsimp only
  rw [cut1, ← List.map_drop, pures_vals]
  rfl
theorem cmp_eqI (i j : Int) : cmpA g .Eq (vI i) (vI j) = pure (i == j) := rfl
theorem cmp_neI (i j : Int) : cmpA g .NotEq (vI i) (vI j) = pure (!(i == j)) := rfl
theorem cmp_ltS (x y : Str) : cmpA g .Lt (vS x) (vS y) = pure (decide (x.cps.toList < y.cps.toList)) := rfl
theorem zip_lst (xs ys : List Wv) : itA .zip [.val (.lst xs), .val (.lst ys)] = pure (pairsW xs ys) := rfl
theorem lc_mapT {e : PX} {t : PT} {its : List PX} {k : ItK} {own : List Nat} {η : Ev} {ws : List Wv} {f : Wv → Wv} (hw : (evL g its η >>= itA k) = pure ws) (hl : ws.length ≤ sizeLine) (h : ∀ w ∈ ws, ∃ η1, putT t (.val w) (wipeE η own) = some η1 ∧ evE g e false η1 = pure (.val (f w))) :
    evE g (.lc false e t k its [] own) false η = pure (.val (.lst (ws.map f))) := by
  rw [ev_lc, hw, mw_pure_bind, overW_map ws [] (by simpa using hl) h, mw_pure_bind, List.nil_append, post_false]
  have : (ws.map fun w => Av.val (f w)) = (ws.map f).map Av.val := by simp
  rw [this]
  exact newL_vals _
end
end LW

namespace LW
open PySem PySem.Spec L2
/-! ### runs at a memory -/
structure Tr {α : Type} (m : Mw α) (M : Mem) (Q : α → Mem → Prop) : Prop where
  ex : ∃ a M', m M = .ok a M' ∧ Q a M'
section
variable {α β : Type} {g : G} {M : Mem}
theorem Tr.get {m : Mw α} {Q : α → Mem → Prop} (h : Tr m M Q) : ∃ a M', m M = .ok a M' ∧ Q a M' := h.ex
theorem Tr.of {m : Mw α} {Q : α → Mem → Prop} {a : α} {M' : Mem} (e : m M = .ok a M') (h : Q a M') : Tr m M Q := ⟨a, M', e, h⟩
theorem Tr.bind {m : Mw α} {f : α → Mw β} {Q : β → Mem → Prop} (h : Tr m M fun a M' => Tr (f a) M' Q) : Tr (m >>= f) M Q := by
  obtain ⟨a, M', e, h⟩ := h.get
  obtain ⟨b, M2, e2, h⟩ := h.get
  refine Tr.of (a := b) (M' := M2) ?_ h
  show Mw.bind m f M = _
  unfold Mw.bind
  rw [e]
  exact e2
theorem Tr.pure {a : α} {Q : α → Mem → Prop} (h : Q a M) : Tr (Pure.pure a : Mw α) M Q := ⟨a, M, rfl, h⟩
theorem Tr.mono {m : Mw α} {Q Q' : α → Mem → Prop} (h : Tr m M Q) (i : ∀ a M', Q a M' → Q' a M') : Tr m M Q' := by
  obtain ⟨a, M', e, h⟩ := h.get
  exact Tr.of e (i _ _ h)
theorem Tr.ite {c : Prop} [Decidable c] {x y : Mw α} {Q : α → Mem → Prop} (h1 : c → Tr x M Q) (h2 : ¬ c → Tr y M Q) : Tr (if c then x else y) M Q := by
  split
  · exact h1 ‹_›
  · exact h2 ‹_›
theorem Tr.ix {p : Nat} {xs : List Av} {i : Int} {a : Av} {Q : Av → Mem → Prop} (hp : M[p]? = some (.lst xs)) (hi : atI xs i = some a) (h : Q a M) : Tr (ixM (.ref p) (vI i)) M Q := by
  refine Tr.of (a := a) (M' := M) ?_ h
  show Mw.of (match lstI M (.ref p) with
    | some xs => atI xs i
    | none => none) M = _
  have : lstI M (.ref p) = some xs := by
    show (match M[p]? with
      | some (.lst xs) => some xs
      | _ => none) = _
    rw [hp]
  rw [this]
  dsimp only
  rw [hi]
  rfl
theorem Tr.setA {p : Nat} {xs : List Av} {j : Int} {k : Nat} {v : Av} {Q : Unit → Mem → Prop} (hp : M[p]? = some (.lst xs)) (hj : ixN xs.length j = some k) (h : Q () (M.set p (.lst (xs.set k v)))) : Tr (LW.setA (.ref p) (vI j) v) M Q := by
  refine Tr.of (a := ()) (M' := M.set p (.lst (xs.set k v))) ?_ h
  show (match M[p]? with
    | some (.lst xs) => (match ixN xs.length j with
      | some k => Out.ok () (M.set p (.lst (xs.set k v)))
      | none => .no)
    | _ => .no) = _
  rw [hp]
  dsimp only
  rw [hj]
theorem chkL_set {c : Cell} (h : pureC c = true) : ∀ (M : Mem) (p : Nat), chkL M (M.set p c) = true
  | [], _ => rfl
  | k :: r, 0 => by simp [chkL, h, chkL_rfl]
  | k :: r, p + 1 => by simp [chkL, chkL_set h r p]
theorem chkL_setA {c : Cell} (h : pureC c = true) : ∀ (M N : Mem) (p : Nat), p < M.length → chkL M ((M.set p c) ++ N) = true
  | [], _, _, hp => by simp at hp
  | k :: r, N, 0, _ => by simp [chkL, h, chkL_app']
  | k :: r, N, p + 1, hp => by simp [chkL, chkL_setA h r N p (by simpa using hp)]
where chkL_app' : ∀ (M N : Mem), chkL M (M ++ N) = true
  | [], _ => rfl
  | k :: r, N => by simp [chkL, chkL_app' r N]
/-- a def that leaves a cell changed and cells of its own behind -/
theorem fin_set {k : Bool} (hk : k = false) {c : Cell} (h : pureC c = true) {M N : Mem} {p : Nat} (hp : p < M.length) {w : Wv} : finA k M (.ok (.val w) ((M.set p c) ++ N)) = .ok (.val w) (M.set p c) := by
  subst hk
  unfold finA
  dsimp only
  rw [if_neg (by simp), if_pos (chkL_setA h M N p hp)]
  have : M.length = (M.set p c).length := by simp
  rw [this, List.take_left]
/-! the pen -/
abbrev penC (cells : List Int) (pa rest : Int) : Cell := .lst [.val (.lst (cells.map .int)), vI pa, vI rest]
def Pen (p k : Nat) (M : Mem) : Prop := ∃ cells pa rest, M[p]? = some (penC cells pa rest) ∧ 0 ≤ pa ∧ pa + k ≤ 1048576 ∧ 0 ≤ rest
theorem Pen.lt {p k : Nat} (h : Pen p k M) : p < M.length := by
  obtain ⟨_, _, _, e, _⟩ := h
  exact (List.getElem?_eq_some_iff.mp e).1
theorem Pen.mono {p k j : Nat} (h : Pen p k M) (hj : j ≤ k) : Pen p j M := by
  obtain ⟨a, b, c, e, h1, h2, h3⟩ := h
  exact ⟨a, b, c, e, h1, by omega, h3⟩
theorem penC_pure {cells : List Int} {pa rest : Int} : pureC (penC cells pa rest) = true := rfl
theorem Pen.set {p k : Nat} (hp : p < M.length) {cells : List Int} {pa rest : Int} (h1 : 0 ≤ pa) (h2 : pa + k ≤ 1048576) (h3 : 0 ≤ rest) : Pen p k (M.set p (penC cells pa rest)) := ⟨cells, pa, rest, by simp [hp], h1, h2, h3⟩
theorem pow_ok {i j : Int} (h1 : 0 ≤ j) (h2 : j ≤ 1000000) (h3 : i.natAbs < 2 ^ 64) : binM .Pow (vI i) (vI j) = pure (vI (i ^ j.toNat)) := by
  funext M
  show Mw.of (if 0 ≤ j ∧ j ≤ 1000000 ∧ i.natAbs < 2 ^ 64 then some (vI (i ^ j.toNat)) else none) M = _
  rw [if_pos ⟨h1, h2, h3⟩]
  rfl
theorem mod_ok {i j : Int} (h : j ≠ 0) : binM .Mod (vI i) (vI j) = pure (vI (i.fmod j)) := by
  funext M
  show Mw.of (if j ≠ 0 then some (vI (i.fmod j)) else none) M = _
  rw [if_pos h]
  rfl
theorem div_ok {i j : Int} (h : j ≠ 0) (h2 : j.natAbs < 1073741824) : binM .FloorDiv (vI i) (vI j) = pure (vI (i.fdiv j)) := by
  funext M
  show Mw.of (if j ≠ 0 ∧ j.natAbs < 1073741824 then some (vI (i.fdiv j)) else none) M = _
  rw [if_pos ⟨h, h2⟩]
  rfl
theorem mul_ok {i j : Int} (h : (-(2 ^ 64) < i ∧ i < 2 ^ 64) ∨ (-(2 ^ 64) < j ∧ j < 2 ^ 64)) : binM .Mult (vI i) (vI j) = pure (vI (i * j)) := by
  funext M
  show Mw.of (if (-(2 ^ 64) < i ∧ i < 2 ^ 64) ∨ (-(2 ^ 64) < j ∧ j < 2 ^ 64) then some (vI (i * j)) else none) M = _
  rw [if_pos h]
  rfl
theorem int_int (i : Int) : biA g "int" [vI i] = pure (vI i) := rfl
theorem int_bl (b : Bool) : biA g "int" [vB b] = pure (vI (if b then 1 else 0)) := rfl
theorem abs_int (i : Int) : biA g "abs" [vI i] = pure (vI (if i < 0 then -i else i)) := rfl
theorem min_int (i j : Int) : biA g "min" [vI i, vI j] = pure (vI (if j < i then j else i)) := rfl
theorem toPy_ints : ∀ cells : List Int, toPyL (cells.map .int) = some (cells.map .int)
  | [] => rfl
  | c :: cells => by simp [toPyL, toPy, toPy_ints cells]
theorem lay_ints : ∀ cells : List Int, PyData.canLayAll0 (cells.map .int) = true
  | [] => rfl
  | c :: cells => by simp [PyData.canLayAll0, PyData.canLay0, lay_ints cells]
theorem dep_ints : ∀ cells : List Int, PyData.depthAll (cells.map .int) = 0
  | [] => rfl
  | c :: cells => by simp [PyData.depthAll, PyData.depth, dep_ints cells]
theorem ne_nil (cells : List Int) : cmpA g .NotEq (.val (.lst (cells.map .int))) (.val (.lst [])) = pure (!cells.isEmpty) := by
  funext M
  show Mw.of ((eqA M (.val (.lst (cells.map .int))) (.val (.lst []))).map not) M = _
  have h1 : toPy (.lst (cells.map .int)) = some (.list (cells.map .int)) := by simp [toPy, toPy_ints]
  rw [eqA_py h1 (e := .list []) rfl (by simp [SeqAt.shaped, PyData.canLay0, PyData.depth, lay_ints, dep_ints]) (by decide +kernel)]
  cases cells <;> rfl
theorem es_app {n : Nat} : ∀ (a b : List PSt) (η : Ev), evSs g n (a ++ b) η = nxS (evSs g n a η) (evSs g n b)
  | [], b, η => rfl
  | s :: a, b, η => by
    rw [List.cons_append, es_cons, es_cons]
    funext M
    unfold nxS
    cases evS g n s η M with
    | ok r M1 =>
      obtain ⟨f, η1⟩ := r
      cases f <;> first
        | rfl
        | exact congrFun (es_app a b η1) M1
    | ex e M1 => rfl
    | no => rfl
theorem thenS_app {n : Nat} (a b : List PSt) (η : Ev) (k : Ev → Mw Av) : thenS (evSs g n (a ++ b) η) k = thenS (evSs g n a η) fun η1 => thenS (evSs g n b η1) k := by rw [es_app, thenS_nxS]
theorem ite_bool (b : Bool) : (if b = true then true else false) = b := by cases b <;> rfl
end
end LW

namespace LW
open PySem PySem.Spec L2
/-! small values: they are read, compared, shown -/
mutual
def smW : Wv → Bool
  | .non => true
  | .bl _ => true
  | .int i => decide ((PyData.shown (.int i)).length ≤ 13) && decide (i.natAbs.log2 < 64)
  | .str x => PyData.strOk x && decide (x.length ≤ 100)
  | .tup xs => smL xs
  | .lst xs => smL xs
  | _ => false
def smL : List Wv → Bool
  | [] => true
  | w :: ws => smW w && smL ws
end
mutual
def szW : Wv → Nat
  | .tup xs => szL xs + 1
  | .lst xs => szL xs + 1
  | _ => 1
def szL : List Wv → Nat
  | [] => 0
  | w :: ws => szW w + szL ws
end
mutual
def dpW : Wv → Nat
  | .tup xs => dpL xs + 1
  | .lst xs => dpL xs + 1
  | _ => 0
def dpL : List Wv → Nat
  | [] => 0
  | w :: ws => max (dpW w) (dpL ws)
end
structure Sm (w : Wv) (d : PyData) : Prop where
  py : toPy w = some d
  lay : PyData.canLay0 d = true
  dep : PyData.depth d = dpW w
  wt : PyData.weight d + 1 ≤ 200 * szW w
  shrt : PyData.intsShort 13 d = true
  show_ : PyData.showable d = true
  nod : PyData.hasDict d = false
structure SmL (ws : List Wv) (ds : List PyData) : Prop where
  py : toPyL ws = some ds
  lay : PyData.canLayAll0 ds = true
  dep : PyData.depthAll ds = dpL ws
  wt : PyData.weightAll ds ≤ 200 * szL ws
  shrt : PyData.intsShortAll 13 ds = true
  show_ : PyData.showableAll ds = true
  nod : PyData.hasDictAll ds = false
mutual
theorem sm_py : ∀ w : Wv, smW w = true → ∃ d, Sm w d
  | .non, _ => ⟨.none, rfl, rfl, rfl, by decide, rfl, rfl, rfl⟩
  | .bl b, _ => ⟨.bool b, rfl, rfl, rfl, by simp [PyData.weight, szW], rfl, rfl, rfl⟩
  | .int i, h => by
    simp only [smW, Bool.and_eq_true, decide_eq_true_eq] at h
    refine ⟨.int i, rfl, rfl, rfl, ?_, by simp only [PyData.intsShort]; exact decide_eq_true h.1, by simp only [PyData.showable]; exact decide_eq_true (by omega), rfl⟩
    simp only [PyData.weight, szW]
    split <;> omega
  | .str x, h => by
    simp only [smW, Bool.and_eq_true, decide_eq_true_eq] at h
    refine ⟨.str x, rfl, by simp only [PyData.canLay0]; exact h.1, rfl, ?_, rfl, rfl, rfl⟩
    simp only [PyData.weight, szW]
    have := h.2
    unfold Str.length at this
    omega
  | .tup xs, h => by
    obtain ⟨ds, q⟩ := sm_pyL xs (by simpa only [smW] using h)
    refine ⟨.tuple ds, by simp only [toPy, q.py], by simp only [PyData.canLay0, q.lay], by simp only [PyData.depth, dpW, q.dep], by simp only [PyData.weight, szW]; have := q.wt; omega, by simp only [PyData.intsShort, q.shrt], by simp only [PyData.showable, q.show_], by simp only [PyData.hasDict, q.nod]⟩
  | .lst xs, h => by
    obtain ⟨ds, q⟩ := sm_pyL xs (by simpa only [smW] using h)
    refine ⟨.list ds, by simp only [toPy, q.py], by simp only [PyData.canLay0, q.lay], by simp only [PyData.depth, dpW, q.dep], by simp only [PyData.weight, szW]; have := q.wt; omega, by simp only [PyData.intsShort, q.shrt], by simp only [PyData.showable, q.show_], by simp only [PyData.hasDict, q.nod]⟩
  | .ty _, h => by simp [smW] at h
  | .cls _, h => by simp [smW] at h
  | .kls _, h => by simp [smW] at h
  | .dct _ _, h => by simp [smW] at h
  | .ins _ _ _, h => by simp [smW] at h
  | .exc _ _ _, h => by simp [smW] at h
theorem sm_pyL : ∀ ws : List Wv, smL ws = true → ∃ ds, SmL ws ds
  | [], _ => ⟨[], rfl, rfl, rfl, by simp [PyData.weightAll], rfl, rfl, rfl⟩
  | w :: ws, h => by
    simp only [smL, Bool.and_eq_true] at h
    obtain ⟨d, q⟩ := sm_py w h.1
    obtain ⟨ds, r⟩ := sm_pyL ws h.2
    refine ⟨d :: ds, by simp only [toPyL, q.py, r.py], by simp only [PyData.canLayAll0, q.lay, r.lay, Bool.and_self], by simp only [PyData.depthAll, dpL, q.dep, r.dep], by simp only [PyData.weightAll, szL]; have := q.wt; have := r.wt; omega, by simp only [PyData.intsShortAll, q.shrt, r.shrt, Bool.and_self], by simp only [PyData.showableAll, q.show_, r.show_, Bool.and_self], by simp only [PyData.hasDictAll, q.nod, r.nod, Bool.or_self]⟩
end
section
variable {g : G} {w v : Wv} {d e : PyData}
theorem Sm.shaped (h : Sm w d) (hd : dpW w ≤ 64) : SeqAt.shaped d = true := by
  simp only [SeqAt.shaped, h.lay, h.dep, Bool.true_and, decide_eq_true_eq]
  exact hd
/-- a row is shown -/
theorem repr_tup {xs : List Wv} (h : Sm (.tup xs) d) (hd : dpW (.tup xs) ≤ 64) (hs : szW (.tup xs) ≤ 5000) : biA g "repr" [.val (.tup xs)] = pure (vS d.shown) := by
  obtain ⟨ds, rfl⟩ : ∃ ds, d = .tuple ds := by
    have := h.py
    simp only [toPy] at this
    split at this
    · exact ⟨_, (Option.some.inj this).symm⟩
    · cases this
  funext M
  have lay : PyData.layable0 (.tuple ds) = true := by
    have h1 := h.lay
    have h2 := h.dep
    have h3 := h.wt
    simp only [PyData.layable0, h1, h2, Bool.true_and, Bool.and_eq_true, decide_eq_true_eq]
    exact ⟨hd, by omega⟩
  have hl := PyProof.Rows.shown_le13 lay h.shrt
  have sb : showB (.tuple ds) = true := by
    have h2 := h.dep
    simp only [showB, h.show_, h.nod, h2, Bool.not_false, Bool.true_and, Bool.and_eq_true, decide_eq_true_eq]
    exact ⟨by omega, by rw [show sizeLine = 16777216 from by decide]; omega⟩
  show (match toPyA M (.val (.tup xs)) with
    | some (.tuple ds) => if showB (.tuple ds) = true then Out.ok (vS (PyData.tuple ds).shown) M else .no
    | some (.list ds) => if showB (.list ds) = true then .ok (vS (PyData.list ds).shown) M else .no
    | _ => .no) = _
  have : toPyA M (.val (.tup xs)) = some (.tuple ds) := h.py
  rw [this]
  dsimp only
  rw [if_pos sb]
  rfl
theorem strOk_any (x : Str) (h : PyData.strOk x = true) : SeqAt.shaped (.str x) = true := by simp [SeqAt.shaped, PyData.canLay0, PyData.depth, h]
/-- two small values compared -/
theorem cmp_eqW (hw : Sm w d) (hv : Sm v e) (h1 : dpW w ≤ 64) (h2 : dpW v ≤ 64) (hk : ((lstI [] (.val w)).isSome && (tupI (.val v)).isSome || (tupI (.val w)).isSome && (lstI [] (.val v)).isSome) = false) : cmpA g .Eq (.val w) (.val v) = pure (PyData.eqv d e) := by
  have ni : ∀ c ns xs, w ≠ .ins c ns xs := fun c ns xs q => by
    have := hw.py
    rw [q] at this
    simp [toPy] at this
  have e0 : cmpA g .Eq (.val w) (.val v) = fun M => Mw.of (dataC M (.val w) (.val v) .Eq) M := by
    cases w <;> first
      | rfl
      | exact absurd rfl (ni _ _ _)
  rw [e0]
  funext M
  show Mw.of (eqK M (.val w) (.val v)) M = _
  have hl : ∀ u : Wv, lstI M (.val u) = lstI [] (.val u) := fun u => by cases u <;> rfl
  rw [eqK_py hw.py hv.py (hw.shaped h1) (hv.shaped h2) (by rw [hl, hl]; exact hk)]
  rfl
theorem cmp_neW (hw : Sm w d) (hv : Sm v e) (h1 : dpW w ≤ 64) (h2 : dpW v ≤ 64) : cmpA g .NotEq (.val w) (.val v) = pure (!PyData.eqv d e) := by
  have ni : ∀ c ns xs, w ≠ .ins c ns xs := fun c ns xs q => by
    have := hw.py
    rw [q] at this
    simp [toPy] at this
  have e0 : cmpA g .NotEq (.val w) (.val v) = fun M => Mw.of (dataC M (.val w) (.val v) .NotEq) M := by
    cases w <;> first
      | rfl
      | exact absurd rfl (ni _ _ _)
  rw [e0]
  funext M
  show Mw.of (neK M (.val w) (.val v)) M = _
  rw [neK_py hw.py hv.py (hw.shaped h1) (hv.shaped h2)]
  rfl
end
mutual
theorem eqv_self : ∀ d : PyData, PyData.canLay0 d = true → PyData.eqv d d = true
  | .none, _ => rfl
  | .bool _, _ => by simp [PyData.eqv]
  | .int _, _ => by simp [PyData.eqv]
  | .str _, _ => by simp [PyData.eqv]
  | .list xs, h => by
    simp only [PyData.eqv]
    exact eqv_selfL xs (by simpa only [PyData.canLay0] using h)
  | .tuple xs, h => by
    simp only [PyData.eqv]
    exact eqv_selfL xs (by simpa only [PyData.canLay0] using h)
  | .dict _, h => by simp [PyData.canLay0] at h
theorem eqv_selfL : ∀ ds : List PyData, PyData.canLayAll0 ds = true → PyData.eqvAll ds ds = true
  | [], _ => rfl
  | d :: ds, h => by
    simp only [PyData.canLayAll0, Bool.and_eq_true] at h
    simp only [PyData.eqvAll, eqv_self d h.1, eqv_selfL ds h.2, Bool.and_self]
end
end LW

namespace LW
open PySem PySem.Spec PyProof.Rows L2 He
def top (i : Nat) : Stmt := PySem.Challenge.pw_slowest_k25_machines_made_and_refused.main.body.getD i (.Pass ⟨0, 0, 0, 0⟩)
def p_is_integer : PDef := ⟨1, false, [
    .ret (.and [.bi "isinstance" [.var 0, .typ "int"], .notv (.bi "isinstance" [.var 0, .typ "bool"])])]⟩
def p_is_within : PDef := ⟨3, false, [
    .ife (.notv (.call "is_integer" [.var 0])) [.ret (.con (.bl false))] [],
    .ret (.and [.or [.cmp .Is (.var 1) (.con (.non)), .cmp .GtE (.var 0) (.var 1)], .or [.cmp .Is (.var 2) (.con (.non)), .cmp .LtE (.var 0) (.var 2)]])]⟩
def p_is_listed : PDef := ⟨3, false, [
    .ret (.and [.bi "isinstance" [.var 0, .tup [.typ "list", .typ "tuple"]], .cmp .GtE (.bi "len" [.var 0]) (.var 1), .or [.cmp .Is (.var 2) (.con (.non)), .cmp .LtE (.bi "len" [.var 0]) (.var 2)]])]⟩
def p_is_ascending : PDef := ⟨3, false, [
    .ret (.bi "all" [.lc false (.cmp .Lt (.var 1) (.var 2)) (.tup [.name 1, .name 2]) .zip [.var 0, .sl (.var 0) (some (.con (.int 1))) none] [] [1, 2]])]⟩
def p_is_name : PDef := ⟨2, false, [
    .ife (.or [.notv (.bi "isinstance" [.var 0, .typ "str"]), .notv (.chain .LtE .LtE (.con (.int 1)) (.bi "len" [.var 0]) (.glo "LONGEST")), .cmp .In (.var 0) (.glo "WORDS")]) [.ret (.con (.bl false))] [],
    .ret (.bi "all" [.lc false (.cmp .In (.var 1) (.glo "LETTERS")) (.name 1) .val [.var 0] [] [1]])]⟩
def p_fixed : PDef := ⟨2, false, [
    .ife (.bi "isinstance" [.var 0, .tup [.typ "list", .typ "tuple"]]) [.ret (.bi "tuple" [.lc false (.call "fixed" [.var 1]) (.name 1) .val [.var 0] [] [1]])] [],
    .ret (.var 0)]⟩
def p_is_move_name : PDef := ⟨1, false, [
    .ret (.or [.call "is_name" [.var 0], .and [.bi "isinstance" [.var 0, .typ "str"], .cmp .Eq (.var 0) (.glo "PASS")]])]⟩
def p_is_pair : PDef := ⟨2, false, [
    .ret (.and [.call "is_listed" [.var 0, .con (.int 2), .con (.int 2)], .call "is_move_name" [.ix (.var 0) (.con (.int 0))], .call "is_within" [.ix (.var 0) (.con (.int 1)), .con (.int 0), .bin .Sub (.var 1) (.con (.int 1))]])]⟩
def p_is_row : PDef := ⟨3, false, [
    .ife (.or [.notv (.call "is_listed" [.var 0, .con (.int 2), .con (.int 3)]), .notv (.bi "isinstance" [.ix (.var 0) (.con (.int 0)), .typ "str"])]) [.ret (.con (.bl false))] [],
    .ife (.cmp .Eq (.ix (.var 0) (.con (.int 0))) (.glo "ME")) [.ret (.and [.cmp .Eq (.bi "len" [.var 0]) (.con (.int 3)), .call "is_pair" [.sl (.var 0) (some (.con (.int 1))) none, .var 1]])] [],
    .ife (.or [.cmp .NotEq (.ix (.var 0) (.con (.int 0))) (.glo "THEY"), .cmp .NotEq (.bi "len" [.var 0]) (.con (.int 2)), .notv (.call "is_listed" [.ix (.var 0) (.con (.int 1)), .con (.int 1), .glo "MOST_MOVES"])]) [.ret (.con (.bl false))] [],
    .ret (.and [.bi "all" [.lc false (.call "is_pair" [.var 2, .var 1]) (.name 2) .val [.ix (.var 0) (.con (.int 1))] [] [2]], .call "is_ascending" [.lc false (.ix (.var 2) (.con (.int 0))) (.name 2) .val [.ix (.var 0) (.con (.int 1))] [] [2]]])]⟩
def p__law_pen : PDef := ⟨2, true, [
    .retk (.lst true [.lc false (.bi "int" [.var 1]) (.name 1) .val [.sl (.var 0) none (some (.con (.int 63)))] [] [1], .con (.int 0), .con (.int 0)])]⟩
def p__law_draw : PDef := ⟨6, false, [
    .ife (.cmp .Lt (.var 1) (.con (.int 2))) [.ret (.con (.int 0))] [],
    .ife (.cmp .Gt (.ix (.var 0) (.con (.int 2))) (.con (.int 0))) [.asg (.name 2) (.bi "int" [.ix (.var 0) (.con (.int 2))]), .sub (.var 0) (.con (.int 2)) (.bin .FloorDiv (.var 2) (.var 1)), .ret (.bin .Mod (.bi "int" [.var 2]) (.var 1))] [],
    .asg (.name 3) (.ix (.var 0) (.con (.int 1))),
    .sub (.var 0) (.con (.int 1)) (.bin .Add (.var 3) (.con (.int 1))),
    .asg (.name 4) (.bin .Add (.bin .Mult (.con (.int 71861)) (.var 3)) (.con (.int 9651))),
    .ife (.cmp .NotEq (.ix (.var 0) (.con (.int 0))) (.lst false [])) [.asg (.name 4) (.ix (.ix (.var 0) (.con (.int 0))) (.bin .Mod (.bi "int" [.var 3]) (.bi "len" [.ix (.var 0) (.con (.int 0))])))] [],
    .ife (.and [.cmp .Lt (.var 3) (.bi "len" [.ix (.var 0) (.con (.int 0))]), .cmp .GtE (.bi "abs" [.var 4]) (.bin .Pow (.con (.int 10)) (.con (.int 18)))]) [.asg (.name 2) (.bin .Add (.bin .Mult (.con (.int 2)) (.bin .Sub (.bi "abs" [.var 4]) (.bin .Pow (.con (.int 10)) (.con (.int 18))))) (.bi "int" [.cmp .Lt (.var 4) (.con (.int 0))])), .sub (.var 0) (.con (.int 2)) (.bin .FloorDiv (.bi "int" [.var 2]) (.var 1)), .ret (.bin .Mod (.bi "int" [.var 2]) (.var 1))] [],
    .asg (.name 5) (.bin .Mod (.bi "int" [.bin .Pow (.bin .Add (.bin .Add (.bin .Mod (.bi "int" [.var 4]) (.con (.int 2147483579))) (.bin .Mult (.con (.int 34463)) (.var 3))) (.con (.int 6651))) (.con (.int 5))]) (.con (.int 2147483587))),
    .asg (.name 5) (.bin .Mod (.bi "int" [.bin .Pow (.bin .Add (.bin .Add (.bin .Mult (.var 5) (.bin .Add (.bin .Mult (.con (.int 2)) (.var 3)) (.con (.int 6651)))) (.bin .Mult (.bin .Mult (.con (.int 34463)) (.var 3)) (.var 3))) (.con (.int 71861))) (.con (.int 3))]) (.con (.int 2147483563))),
    .ret (.bin .Mod (.bi "int" [.bin .FloorDiv (.var 5) (.con (.int 64))]) (.var 1))]⟩
def p__law_pick : PDef := ⟨2, false, [
    .ret (.ix (.var 1) (.call "_law_draw" [.var 0, .bi "len" [.var 1]]))]⟩
def p__law_mixed : PDef := ⟨4, false, [
    .par 2 3 (.bi "list!" [.var 1]) (.lst true []),
    .whl (.cmp .NotEq (.var 2) (.lst false [])) [.ex (.meth "append" (.var 3) [.meth "pop" (.var 2) [.call "_law_draw" [.var 0, .bi "len" [.var 2]]]])],
    .ret (.var 3)]⟩
def p__law_m_steps : PDef := ⟨1, false, [
    .ret (.ife (.cmp .Eq (.ix (.var 0) (.con (.int 0))) (.con (.str "me"))) (.lst false [.tup [.ix (.var 0) (.con (.int 1)), .ix (.var 0) (.con (.int 2))]]) (.bi "list" [.ix (.var 0) (.con (.int 1))]))]⟩
def p__law_m_free : PDef := ⟨7, false, [
    .asg (.name 3) (.lst true []),
    .fr (.name 4) .range1 [.var 1] [.ife (.cmp .Eq (.call "_law_draw" [.var 0, .con (.int 2)]) (.con (.int 0))) [.ex (.meth "append" (.var 3) [.tup [.con (.str "me"), .call "_law_pick" [.var 0, .var 2], .call "_law_draw" [.var 0, .var 1]]])] [.asg (.name 5) (.bi "sorted" [.sl (.call "_law_mixed" [.var 0, .var 2]) none (some (.bin .Add (.con (.int 1)) (.call "_law_draw" [.var 0, .bi "min" [.con (.int 3), .bi "len" [.var 2]]])))]), .ex (.meth "append" (.var 3) [.tup [.con (.str "they"), .bi "tuple" [.lc false (.tup [.var 6, .call "_law_draw" [.var 0, .var 1]]) (.name 6) .val [.var 5] [] [6]]]])]],
    .ret (.bi "tuple" [.var 3])]⟩
def p__law_m_listed : PDef := ⟨2, false, [
    .ret (.ife (.bi "isinstance" [.var 0, .tup [.typ "list", .typ "tuple"]]) (.lc false (.call "_law_m_listed" [.var 1]) (.name 1) .val [.var 0] [] [1]) (.var 0))]⟩
def p__law_wrong_rows : PDef := ⟨7, false, [
    .asg (.name 2) (.call "_law_pick" [.var 0, .lst false [.con (.str "ada"), .con (.str "bo"), .con (.str "pass")]]),
    .asg (.name 3) (.lst false [.tup [.con (.str "me")], .tup [.con (.str "me"), .var 2], .tup [.con (.str "me"), .var 2, .var 1], .tup [.con (.str "me"), .var 2, .bin .Sub (.con (.int 0)) (.con (.int 1))], .tup [.con (.str "me"), .var 2, .con (.bl true)], .tup [.con (.str "me"), .var 2, .con (.str "0")], .tup [.con (.str "me"), .var 2, .con (.non)], .tup [.con (.str "me"), .con (.int 5), .con (.int 0)], .tup [.con (.str "me"), .tup [.con (.str "ada")], .con (.int 0)], .tup [.con (.str "me"), .var 2, .con (.int 0), .con (.int 0)]]),
    .asg (.name 3) (.bin .Add (.var 3) (.lc false (.tup [.con (.str "me"), .var 5, .con (.int 0)]) (.name 5) .val [.tup [.con (.str "end"), .con (.str "loop"), .con (.str "me"), .con (.str "none"), .con (.str "on"), .con (.str "or"), .con (.str "they"), .con (.str "times"), .con (.str ""), .con (.str "Ada"), .con (.str "ninelette"), .con (.str "a b"), .con (.str "ada\n"), .con (.str "a1")]] [] [5])),
    .asg (.name 4) (.lst false [.tup [.con (.str "they")], .tup [.con (.str "they"), .tup []], .tup [.con (.str "they"), .dct false [] []], .tup [.con (.str "they"), .var 2, .con (.int 0)], .tup [.con (.str "they"), .var 2], .tup [.con (.str "they"), .tup [.tup [.var 2, .con (.int 0)], .tup [.var 2, .con (.int 0)]]], .tup [.con (.str "they"), .tup [.tup [.con (.str "bo"), .con (.int 0)], .tup [.con (.str "ada"), .con (.int 0)]]], .tup [.con (.str "they"), .tup [.tup [.var 2, .var 1]]]]),
    .asg (.name 4) (.bin .Add (.var 4) (.lst false [.tup [.con (.str "they"), .tup [.tup [.var 2]]], .tup [.con (.str "they"), .tup [.tup [.var 2, .con (.int 0), .con (.int 0)]]], .tup [.con (.str "they"), .tup [.tup [.var 2, .con (.bl true)]]], .tup [.con (.str "they"), .tup [.tup [.con (.str "they"), .con (.int 0)]]], .tup [.con (.str "they"), .tup [.var 2, .con (.int 0)]], .tup [.con (.str "they"), .tup [.tup [.var 2, .con (.int 0)]], .con (.int 0)]])),
    .asg (.name 4) (.bin .Add (.var 4) (.lst false [.tup [.con (.str "they"), .bi "tuple" [.lc false (.tup [.bin .Add (.con (.str "a")) (.var 6), .con (.int 0)]) (.name 6) .val [.con (.str "abcdefgh")] [] [6]]], .tup [.con (.str "they"), .tup [.tup [.con (.str "ada"), .con (.int 0)], .con (.non)]], .tup [.con (.str "they"), .tup [.tup [.con (.int 5), .con (.int 0)]]]])),
    .ret (.lst false [.call "_law_pick" [.var 0, .var 3], .call "_law_pick" [.var 0, .var 4], .call "_law_pick" [.var 0, .lst false [.con (.non), .con (.int 5), .con (.bl true), .con (.str "me"), .tup [], .dct false [] [], .lst false [], .tup [.con (.str "you"), .var 2, .con (.int 0)], .tup [.lst false [.con (.str "me")], .var 2, .con (.int 0)], .tup [.con (.non), .var 2, .con (.int 0)], .var 2]]])]⟩
def p_law : PDef := ⟨17, false, [
    .asg (.name 1) (.call "_law_pen" [.var 0]),
    .fr (.name 2) .range1 [.con (.int 12)] [.asg (.name 3) (.bin .Add (.con (.int 1)) (.call "_law_draw" [.var 1, .con (.int 7)])), .asg (.name 4) (.call "_law_m_free" [.var 1, .var 3, .lst false [.con (.str "ada"), .con (.str "bo"), .con (.str "cut"), .con (.str "pass")]]), .par 5 6 (.make "Machine" [.var 4] [] []) (.call "_law_m_free" [.var 1, .var 3, .lst false [.con (.str "ada"), .con (.str "bo"), .con (.str "pass")]]), .ife (.or [.cmp .NotEq (.bi "repr" [.attr "rows" (.var 5)]) (.bi "repr" [.var 4]), .cmp .NotEq (.var 5) (.make "Machine" [] ["rows"] [.call "_law_m_listed" [.var 4]]), .cmp .NotEq (.bi "repr" [.attr "rows" (.make "Machine" [.call "_law_m_listed" [.var 4]] [] [])]) (.bi "repr" [.var 4]), .cmp .NotEq (.bi "len" [.var 5]) (.var 3)]) [.ret (.con (.bl false))] [], .ife (.or [.cmp .NotEq (.cmp .Eq (.var 5) (.make "Machine" [.var 6] [] [])) (.cmp .Eq (.var 4) (.var 6)), .cmp .Eq (.cmp .NotEq (.var 5) (.make "Machine" [.var 6] [] [])) (.cmp .Eq (.var 4) (.var 6)), .cmp .Eq (.var 5) (.var 4), .cmp .Eq (.var 5) (.con (.int 5))]) [.ret (.con (.bl false))] [], .asg (.name 7) (.call "_law_draw" [.var 1, .var 3]), .fr (.name 8) .val [.call "_law_wrong_rows" [.var 1, .var 3]] [.ife (.cmp .NotEq (.heard (.make "Machine" [.bin .Add (.bin .Add (.sl (.var 4) none (some (.var 7))) (.tup [.var 8])) (.sl (.var 4) (some (.bin .Add (.var 7) (.con (.int 1)))) none)] [] [])) (.tup [.con (.str "machine"), .con (.str "rows")])) [.ret (.con (.bl false))] []], .asg (.name 9) (.lc false (.var 13) (.name 13) .val [.sl (.var 4) none (some (.neg (.con (.int 1))))] [.cmp .In (.bin .Sub (.var 3) (.con (.int 1))) (.lc false (.var 15) (.tup [.name 14, .name 15]) .val [.call "_law_m_steps" [.var 13]] [] [14, 15])] [13]), .ife (.and [.cmp .Gt (.var 3) (.con (.int 1)), .cmp .NotEq (.cmp .Eq (.heard (.make "Machine" [.sl (.var 4) none (some (.neg (.con (.int 1))))] [] [])) (.tup [.con (.str "machine"), .con (.str "rows")])) (.cmp .NotEq (.var 9) (.lst false []))]) [.ret (.con (.bl false))] []],
    .asg (.name 10) (.call "_law_pick" [.var 1, .lst false [.con (.non), .con (.int 5), .con (.bl true), .con (.str "rows"), .tup [], .lst false [], .dct false [] [], .make "Machine" [.var 4] [] [], .tup [.tup []], .tup [.var 4]]]),
    .asg (.name 11) (.lst false [.tup [.con (.str "they"), .lc false (.tup [.bin .Add (.con (.str "a")) (.var 16), .con (.int 0)]) (.name 16) .val [.con (.str "abcdefg")] [] [16]]]),
    .asg (.name 12) (.lc false (.tup [.con (.str "me"), .con (.str "pass"), .bin .Mod (.bi "int" [.bin .Add (.var 7) (.con (.int 1))]) (.con (.int 2000))]) (.name 7) .range1 [.con (.int 2000)] [] [7]),
    .ife (.or [.cmp .NotEq (.heard (.make "Machine" [.var 10] [] [])) (.tup [.con (.str "machine"), .con (.str "rows")]), .cmp .NotEq (.bi "len" [.ix (.ix (.attr "rows" (.make "Machine" [.var 11] [] [])) (.con (.int 0))) (.con (.int 1))]) (.con (.int 7)), .cmp .NotEq (.bi "len" [.make "Machine" [.var 12] [] []]) (.con (.int 2000))]) [.ret (.con (.bl false))] [],
    .ret (.cmp .Eq (.heard (.make "Machine" [.bin .Add (.var 12) (.lst false [.tup [.con (.str "me"), .con (.str "pass"), .con (.int 0)]])] [] [])) (.tup [.con (.str "machine"), .con (.str "rows")]))]⟩
def p_Machine___init__ : PDef := ⟨3, false, [
    .ife (.or [.notv (.call "is_listed" [.var 1, .con (.int 1), .glo "MOST_STANDS"]), .notv (.bi "all" [.lc false (.call "is_row" [.var 2, .bi "len" [.var 1]]) (.name 2) .val [.var 1] [] [2]])]) [.rais "BadMachine" [.con (.str "rows")]] [],
    .fld (.var 0) "rows" (.call "fixed" [.var 1])]⟩
def p_Machine___eq__ : PDef := ⟨2, false, [
    .ret (.and [.bi "isinstance" [.var 1, .glo "Machine"], .cmp .Eq (.attr "rows" (.var 0)) (.attr "rows" (.var 1))])]⟩
def p_Machine___len__ : PDef := ⟨1, false, [
    .ret (.bi "len" [.attr "rows" (.var 0)])]⟩
def p_hrd : PDef := ⟨5, false, [
    .ife (.cmp .Is (.var 1) (.con (.non))) [.ret (.lst false [.var 2])] [],
    .ife (.bi "isinstance" [.var 1, .glo "TooMany"]) [.ret (.tup [.con (.str "many"), .attr "what" (.var 1), .attr "most" (.var 1)])] [],
    .ife (.bi "isinstance" [.var 1, .glo "BadText"]) [.ret (.tup [.con (.str "text"), .attr "line" (.var 1), .attr "word" (.var 1)])] [],
    .ife (.bi "isinstance" [.var 1, .tup [.glo "BadLine", .glo "BadWord"]]) [.ret (.ife (.bi "isinstance" [.var 1, .glo "BadLine"]) (.tup [.con (.str "line"), .attr "word" (.var 1)]) (.tup [.con (.str "word"), .attr "at" (.var 1)]))] [],
    .ife (.bi "isinstance" [.var 1, .tup [.glo "BadBlock", .glo "NoName"]]) [.ret (.tup [.ife (.bi "isinstance" [.var 1, .glo "BadBlock"]) (.con (.str "block")) (.con (.str "name")), .attr "value" (.var 1)])] [],
    .ife (.bi "isinstance" [.var 1, .glo "Nothing"]) [.ret (.tup [.con (.str "nothing"), .attr "what" (.var 1)])] [],
    .ife (.bi "isinstance" [.var 1, .tup [.glo "BadNumber", .glo "BadValue", .glo "BadDeed", .glo "BadKit"]]) [.asg (.name 4) (.ife (.bi "isinstance" [.var 1, .glo "BadNumber"]) (.con (.str "number")) (.ife (.bi "isinstance" [.var 1, .glo "BadValue"]) (.con (.str "value")) (.con (.str "deed")))), .ret (.tup [.ife (.bi "isinstance" [.var 1, .glo "BadKit"]) (.con (.str "kit")) (.var 4), .attr "part" (.var 1)])] [],
    .ife (.bi "isinstance" [.var 1, .tup [.glo "BadScript", .glo "BadArena", .glo "BadPaper"]]) [.ret (.tup [.ife (.bi "isinstance" [.var 1, .glo "BadScript"]) (.con (.str "script")) (.ife (.bi "isinstance" [.var 1, .glo "BadArena"]) (.con (.str "arena")) (.con (.str "paper"))), .attr "part" (.var 1)])] [],
    .ret (.tup [.ife (.bi "isinstance" [.var 1, .glo "BadMachine"]) (.con (.str "machine")) (.ife (.bi "isinstance" [.var 1, .glo "BadCode"]) (.con (.str "code")) (.con (.str "misfit"))), .attr "part" (.var 1)])]⟩
def d_is_integer : DefD := ⟨⟨"is_integer", none⟩, "is_integer", "is_integer", defArgs (top 24), defBody (top 24), defScope (top 24), [], []⟩
def f_is_integer : Df := ⟨"is_integer", p_is_integer, d_is_integer, ["value"], ["value"], false, [(1, [])], []⟩
def d_is_within : DefD := ⟨⟨"is_within", none⟩, "is_within", "is_within", defArgs (top 25), defBody (top 25), defScope (top 25), [], []⟩
def f_is_within : Df := ⟨"is_within", p_is_within, d_is_within, ["value", "least", "most"], ["value", "least", "most"], false, [(3, [])], []⟩
def d_is_listed : DefD := ⟨⟨"is_listed", none⟩, "is_listed", "is_listed", defArgs (top 26), defBody (top 26), defScope (top 26), [.int 0, .non], []⟩
def f_is_listed : Df := ⟨"is_listed", p_is_listed, d_is_listed, ["value", "least", "most"], ["value", "least", "most"], false, [(3, []), (2, [.non]), (1, [(.int 0), .non])], []⟩
def d_is_ascending : DefD := ⟨⟨"is_ascending", none⟩, "is_ascending", "is_ascending", defArgs (top 27), defBody (top 27), defScope (top 27), [], []⟩
def f_is_ascending : Df := ⟨"is_ascending", p_is_ascending, d_is_ascending, ["values", "one", "other"], ["values"], false, [(1, [])], []⟩
def d_is_name : DefD := ⟨⟨"is_name", none⟩, "is_name", "is_name", defArgs (top 28), defBody (top 28), defScope (top 28), [], []⟩
def f_is_name : Df := ⟨"is_name", p_is_name, d_is_name, ["value", "sign"], ["value"], false, [(1, [])], []⟩
def d_fixed : DefD := ⟨⟨"fixed", none⟩, "fixed", "fixed", defArgs (top 30), defBody (top 30), defScope (top 30), [], []⟩
def f_fixed : Df := ⟨"fixed", p_fixed, d_fixed, ["value", "part"], ["value"], false, [(1, [])], []⟩
def d_is_move_name : DefD := ⟨⟨"is_move_name", none⟩, "is_move_name", "is_move_name", defArgs (top 35), defBody (top 35), defScope (top 35), [], []⟩
def f_is_move_name : Df := ⟨"is_move_name", p_is_move_name, d_is_move_name, ["value"], ["value"], false, [(1, [])], []⟩
def d_is_pair : DefD := ⟨⟨"is_pair", none⟩, "is_pair", "is_pair", defArgs (top 38), defBody (top 38), defScope (top 38), [], []⟩
def f_is_pair : Df := ⟨"is_pair", p_is_pair, d_is_pair, ["value", "many"], ["value", "many"], false, [(2, [])], []⟩
def d_is_row : DefD := ⟨⟨"is_row", none⟩, "is_row", "is_row", defArgs (top 39), defBody (top 39), defScope (top 39), [], []⟩
def f_is_row : Df := ⟨"is_row", p_is_row, d_is_row, ["value", "many", "pair"], ["value", "many"], false, [(2, [])], []⟩
def d__law_pen : DefD := ⟨⟨"_law_pen", none⟩, "_law_pen", "_law_pen", defArgs (top 42), defBody (top 42), defScope (top 42), [], []⟩
def f__law_pen : Df := ⟨"_law_pen", p__law_pen, d__law_pen, ["script", "cell"], ["script"], false, [(1, [])], []⟩
def d__law_draw : DefD := ⟨⟨"_law_draw", none⟩, "_law_draw", "_law_draw", defArgs (top 43), defBody (top 43), defScope (top 43), [], []⟩
def f__law_draw : Df := ⟨"_law_draw", p__law_draw, d__law_draw, ["pen", "many", "rest", "at", "cell", "mixed"], ["pen", "many"], false, [(2, [])], []⟩
def d__law_pick : DefD := ⟨⟨"_law_pick", none⟩, "_law_pick", "_law_pick", defArgs (top 44), defBody (top 44), defScope (top 44), [], []⟩
def f__law_pick : Df := ⟨"_law_pick", p__law_pick, d__law_pick, ["pen", "some"], ["pen", "some"], false, [(2, [])], []⟩
def d__law_mixed : DefD := ⟨⟨"_law_mixed", none⟩, "_law_mixed", "_law_mixed", defArgs (top 45), defBody (top 45), defScope (top 45), [], []⟩
def f__law_mixed : Df := ⟨"_law_mixed", p__law_mixed, d__law_mixed, ["pen", "some", "left", "found"], ["pen", "some"], false, [(2, [])], []⟩
def d__law_m_steps : DefD := ⟨⟨"_law_m_steps", none⟩, "_law_m_steps", "_law_m_steps", defArgs (top 47), defBody (top 47), defScope (top 47), [], []⟩
def f__law_m_steps : Df := ⟨"_law_m_steps", p__law_m_steps, d__law_m_steps, ["row"], ["row"], false, [(1, [])], []⟩
def d__law_m_free : DefD := ⟨⟨"_law_m_free", none⟩, "_law_m_free", "_law_m_free", defArgs (top 48), defBody (top 48), defScope (top 48), [], []⟩
def f__law_m_free : Df := ⟨"_law_m_free", p__law_m_free, d__law_m_free, ["pen", "many", "names", "found", "stand", "some", "name"], ["pen", "many", "names"], false, [(3, [])], []⟩
def d__law_m_listed : DefD := ⟨⟨"_law_m_listed", none⟩, "_law_m_listed", "_law_m_listed", defArgs (top 49), defBody (top 49), defScope (top 49), [], []⟩
def f__law_m_listed : Df := ⟨"_law_m_listed", p__law_m_listed, d__law_m_listed, ["value", "part"], ["value"], false, [(1, [])], []⟩
def d__law_wrong_rows : DefD := ⟨⟨"_law_wrong_rows", none⟩, "_law_wrong_rows", "_law_wrong_rows", defArgs (top 50), defBody (top 50), defScope (top 50), [], []⟩
def f__law_wrong_rows : Df := ⟨"_law_wrong_rows", p__law_wrong_rows, d__law_wrong_rows, ["pen", "many", "name", "mine", "some", "word", "one"], ["pen", "many"], false, [(2, [])], []⟩
def d_law : DefD := ⟨⟨"law", none⟩, "law", "law", defArgs (top 51), defBody (top 51), defScope (top 51), [], []⟩
def f_law : Df := ⟨"law", p_law, d_law, ["script", "pen", "turn", "many", "rows", "made", "other", "at", "wrong", "far", "odd", "seven", "long", "row", "name", "to", "one"], ["script"], true, [(1, [])], []⟩
def d_Machine___init__ : DefD := ⟨⟨"Machine", some "__init__"⟩, "__init__", "Machine.__init__", defArgs (inClass (top 40) 0), defBody (inClass (top 40) 0), defScope (inClass (top 40) 0), [], []⟩
def f_Machine___init__ : Df := ⟨"Machine.__init__", p_Machine___init__, d_Machine___init__, ["self", "rows", "row"], ["self", "rows"], false, [(2, [])], [((1, ["rows"]), [.pos 0, .kw 0])]⟩
def d_Machine___eq__ : DefD := ⟨⟨"Machine", some "__eq__"⟩, "__eq__", "Machine.__eq__", defArgs (inClass (top 40) 1), defBody (inClass (top 40) 1), defScope (inClass (top 40) 1), [], []⟩
def f_Machine___eq__ : Df := ⟨"Machine.__eq__", p_Machine___eq__, d_Machine___eq__, ["self", "other"], ["self", "other"], false, [(2, [])], []⟩
def d_Machine___len__ : DefD := ⟨⟨"Machine", some "__len__"⟩, "__len__", "Machine.__len__", defArgs (inClass (top 40) 2), defBody (inClass (top 40) 2), defScope (inClass (top 40) 2), [], []⟩
def f_Machine___len__ : Df := ⟨"Machine.__len__", p_Machine___len__, d_Machine___len__, ["self"], ["self"], false, [(1, [])], []⟩
def dfs : List Df := [f_is_integer, f_is_within, f_is_listed, f_is_ascending, f_is_name, f_fixed, f_is_move_name, f_is_pair, f_is_row, f__law_pen, f__law_draw, f__law_pick, f__law_mixed, f__law_m_steps, f__law_m_free, f__law_m_listed, f__law_wrong_rows, f_law, f_Machine___init__, f_Machine___eq__, f_Machine___len__]

def d_hrd : DefD := ⟨⟨"_law_heard", none⟩, "_law_heard", "_law_heard", defArgs (top 46), defBody (top 46), defScope (top 46), [], []⟩
def e_BadNumber : DefD := ⟨⟨"BadNumber", some "__init__"⟩, "__init__", "BadNumber.__init__", defArgs (inClass (top 3) 0), defBody (inClass (top 3) 0), defScope (inClass (top 3) 0), [], []⟩
def e_BadValue : DefD := ⟨⟨"BadValue", some "__init__"⟩, "__init__", "BadValue.__init__", defArgs (inClass (top 4) 0), defBody (inClass (top 4) 0), defScope (inClass (top 4) 0), [], []⟩
def e_BadBlock : DefD := ⟨⟨"BadBlock", some "__init__"⟩, "__init__", "BadBlock.__init__", defArgs (inClass (top 5) 0), defBody (inClass (top 5) 0), defScope (inClass (top 5) 0), [], []⟩
def e_BadDeed : DefD := ⟨⟨"BadDeed", some "__init__"⟩, "__init__", "BadDeed.__init__", defArgs (inClass (top 6) 0), defBody (inClass (top 6) 0), defScope (inClass (top 6) 0), [], []⟩
def e_BadKit : DefD := ⟨⟨"BadKit", some "__init__"⟩, "__init__", "BadKit.__init__", defArgs (inClass (top 7) 0), defBody (inClass (top 7) 0), defScope (inClass (top 7) 0), [], []⟩
def e_BadScript : DefD := ⟨⟨"BadScript", some "__init__"⟩, "__init__", "BadScript.__init__", defArgs (inClass (top 8) 0), defBody (inClass (top 8) 0), defScope (inClass (top 8) 0), [], []⟩
def e_BadArena : DefD := ⟨⟨"BadArena", some "__init__"⟩, "__init__", "BadArena.__init__", defArgs (inClass (top 9) 0), defBody (inClass (top 9) 0), defScope (inClass (top 9) 0), [], []⟩
def e_BadPaper : DefD := ⟨⟨"BadPaper", some "__init__"⟩, "__init__", "BadPaper.__init__", defArgs (inClass (top 10) 0), defBody (inClass (top 10) 0), defScope (inClass (top 10) 0), [], []⟩
def e_BadMachine : DefD := ⟨⟨"BadMachine", some "__init__"⟩, "__init__", "BadMachine.__init__", defArgs (inClass (top 11) 0), defBody (inClass (top 11) 0), defScope (inClass (top 11) 0), [], []⟩
def e_BadCode : DefD := ⟨⟨"BadCode", some "__init__"⟩, "__init__", "BadCode.__init__", defArgs (inClass (top 12) 0), defBody (inClass (top 12) 0), defScope (inClass (top 12) 0), [], []⟩
def e_BadText : DefD := ⟨⟨"BadText", some "__init__"⟩, "__init__", "BadText.__init__", defArgs (inClass (top 13) 0), defBody (inClass (top 13) 0), defScope (inClass (top 13) 0), [], []⟩
def e_BadLine : DefD := ⟨⟨"BadLine", some "__init__"⟩, "__init__", "BadLine.__init__", defArgs (inClass (top 14) 0), defBody (inClass (top 14) 0), defScope (inClass (top 14) 0), [], []⟩
def e_BadWord : DefD := ⟨⟨"BadWord", some "__init__"⟩, "__init__", "BadWord.__init__", defArgs (inClass (top 15) 0), defBody (inClass (top 15) 0), defScope (inClass (top 15) 0), [], []⟩
def e_NoName : DefD := ⟨⟨"NoName", some "__init__"⟩, "__init__", "NoName.__init__", defArgs (inClass (top 16) 0), defBody (inClass (top 16) 0), defScope (inClass (top 16) 0), [], []⟩
def e_TooMany : DefD := ⟨⟨"TooMany", some "__init__"⟩, "__init__", "TooMany.__init__", defArgs (inClass (top 17) 0), defBody (inClass (top 17) 0), defScope (inClass (top 17) 0), [], []⟩
def e_Nothing : DefD := ⟨⟨"Nothing", some "__init__"⟩, "__init__", "Nothing.__init__", defArgs (inClass (top 18) 0), defBody (inClass (top 18) 0), defScope (inClass (top 18) 0), [], []⟩
def kGlo : List (Str × Wv) := [("LETTERS", (.str "abcdefghijklmnopqrstuvwxyz")), ("LONGEST", (.int 8)), ("PASS", (.str "pass")), ("WORDS", (.tup [(.str "end"), (.str "loop"), (.str "me"), (.str "none"), (.str "on"), (.str "or"), (.str "pass"), (.str "they"), (.str "times")])), ("ME", (.str "me")), ("THEY", (.str "they")), ("MOST_MOVES", (.int 7)), ("MOST_STANDS", (.int 2000)), ("Machine", (.cls "Machine")), ("BadNumber", (.cls "BadNumber")), ("BadValue", (.cls "BadValue")), ("BadBlock", (.cls "BadBlock")), ("BadDeed", (.cls "BadDeed")), ("BadKit", (.cls "BadKit")), ("BadScript", (.cls "BadScript")), ("BadArena", (.cls "BadArena")), ("BadPaper", (.cls "BadPaper")), ("BadMachine", (.cls "BadMachine")), ("BadCode", (.cls "BadCode")), ("BadText", (.cls "BadText")), ("BadLine", (.cls "BadLine")), ("BadWord", (.cls "BadWord")), ("NoName", (.cls "NoName")), ("TooMany", (.cls "TooMany")), ("Nothing", (.cls "Nothing"))]

def kTab : List (Str × PDef) := [("is_integer", p_is_integer), ("is_within", p_is_within), ("is_listed", p_is_listed), ("is_ascending", p_is_ascending), ("is_name", p_is_name), ("fixed", p_fixed), ("is_move_name", p_is_move_name), ("is_pair", p_is_pair), ("is_row", p_is_row), ("_law_pen", p__law_pen), ("_law_draw", p__law_draw), ("_law_pick", p__law_pick), ("_law_mixed", p__law_mixed), ("_law_m_steps", p__law_m_steps), ("_law_m_free", p__law_m_free), ("_law_m_listed", p__law_m_listed), ("_law_wrong_rows", p__law_wrong_rows), ("law", p_law), ("Machine.__init__", p_Machine___init__), ("Machine.__eq__", p_Machine___eq__), ("Machine.__len__", p_Machine___len__)]

def kDfl : List (Str × List (Nat × List Wv)) := [("is_integer", [(1, [])]), ("is_within", [(3, [])]), ("is_listed", [(3, []), (2, [.non]), (1, [(.int 0), .non])]), ("is_ascending", [(1, [])]), ("is_name", [(1, [])]), ("fixed", [(1, [])]), ("is_move_name", [(1, [])]), ("is_pair", [(2, [])]), ("is_row", [(2, [])]), ("_law_pen", [(1, [])]), ("_law_draw", [(2, [])]), ("_law_pick", [(2, [])]), ("_law_mixed", [(2, [])]), ("_law_m_steps", [(1, [])]), ("_law_m_free", [(3, [])]), ("_law_m_listed", [(1, [])]), ("_law_wrong_rows", [(2, [])]), ("law", [(1, [])]), ("Machine.__init__", [(2, [])]), ("Machine.__eq__", [(2, [])]), ("Machine.__len__", [(1, [])])]

def kKwo : List (Str × List ((Nat × List Str) × List Src)) := [("is_integer", []), ("is_within", []), ("is_listed", []), ("is_ascending", []), ("is_name", []), ("fixed", []), ("is_move_name", []), ("is_pair", []), ("is_row", []), ("_law_pen", []), ("_law_draw", []), ("_law_pick", []), ("_law_mixed", []), ("_law_m_steps", []), ("_law_m_free", []), ("_law_m_listed", []), ("_law_wrong_rows", []), ("law", []), ("Machine.__init__", [((1, ["rows"]), [.pos 0, .kw 0])]), ("Machine.__eq__", []), ("Machine.__len__", [])]

def kExc : List (Str × List Str) := [("BadNumber", ["part"]), ("BadValue", ["part"]), ("BadBlock", ["value"]), ("BadDeed", ["part"]), ("BadKit", ["part"]), ("BadScript", ["part"]), ("BadArena", ["part"]), ("BadPaper", ["part"]), ("BadMachine", ["part"]), ("BadCode", ["part"]), ("BadText", ["line", "word"]), ("BadLine", ["word"]), ("BadWord", ["at"]), ("NoName", ["value"]), ("TooMany", ["what", "most"]), ("Nothing", ["what"])]

def kSubs : List (Kn × List Kn) := [(.bt "NoneType", [.bt "NoneType"]), (.bt "bool", [.bt "bool", .bt "int"]), (.bt "int", [.bt "int"]), (.bt "str", [.bt "str"]), (.bt "tuple", [.bt "tuple"]), (.bt "list", [.bt "list"]), (.bt "dict", [.bt "dict"]), (.own "Machine", [.own "Machine"]), (.own "BadNumber", [.own "BadNumber", .own "SlowError"]), (.own "BadValue", [.own "BadValue", .own "SlowError"]), (.own "BadBlock", [.own "BadBlock", .own "SlowError"]), (.own "BadDeed", [.own "BadDeed", .own "SlowError"]), (.own "BadKit", [.own "BadKit", .own "SlowError"]), (.own "BadScript", [.own "BadScript", .own "SlowError"]), (.own "BadArena", [.own "BadArena", .own "SlowError"]), (.own "BadPaper", [.own "BadPaper", .own "SlowError"]), (.own "BadMachine", [.own "BadMachine", .own "SlowError"]), (.own "BadCode", [.own "BadCode", .own "SlowError"]), (.own "BadText", [.own "BadText", .own "SlowError"]), (.own "BadLine", [.own "BadLine", .own "SlowError"]), (.own "BadWord", [.own "BadWord", .own "SlowError"]), (.own "NoName", [.own "NoName", .own "SlowError"]), (.own "TooMany", [.own "TooMany", .own "SlowError"]), (.own "Nothing", [.own "Nothing", .own "SlowError"])]

def kKinds : List Kn := [.bt "NoneType", .bt "bool", .bt "int", .bt "str", .bt "tuple", .bt "list", .bt "dict", .own "Machine", .own "BadNumber", .own "BadValue", .own "BadBlock", .own "BadDeed", .own "BadKit", .own "BadScript", .own "BadArena", .own "BadPaper", .own "BadMachine", .own "BadCode", .own "BadText", .own "BadLine", .own "BadWord", .own "NoName", .own "TooMany", .own "Nothing", .own "SlowError"]

def pk : Pk := ⟨kGlo, kTab, p_hrd, some "_law_heard", ["ValueError", "abs", "all", "bool", "int", "isinstance", "len", "list", "min", "range", "repr", "sorted", "str", "tuple", "zip"], ["is_integer", "is_within", "is_listed", "is_ascending", "is_name", "fixed", "is_move_name", "is_pair", "is_row", "_law_pen", "_law_draw", "_law_pick", "_law_mixed", "_law_m_steps", "_law_m_free", "_law_m_listed", "_law_wrong_rows", "law"], ["Machine"], kExc, kDfl, kKwo, [("Machine", "rows")], [("Machine", "__eq__"), ("Machine", "!="), ("Machine", "__len__")], ["Machine"], kSubs, kKinds, [.bt "NoneType", .bt "bool", .bt "int", .bt "str", .bt "tuple", .bt "list", .bt "dict", .own "Machine"], 100⟩
def lams : List (Defn × Str) := [(("law", none), "law")]
def fs : List DefD := dfs.map (·.dd) ++ [d_hrd]
def es : List DefD := [e_BadNumber, e_BadValue, e_BadBlock, e_BadDeed, e_BadKit, e_BadScript, e_BadArena, e_BadPaper, e_BadMachine, e_BadCode, e_BadText, e_BadLine, e_BadWord, e_NoName, e_TooMany, e_Nothing]

theorem c_is_integer : ∀ F h, corSs pk.s pk.x (pk.g0.put F h) 200 p_is_integer.body ⟨f_is_integer.N, f_is_integer.dd.scope, fun _ => true, f_is_integer.lam⟩ f_is_integer.dd.body = true := by intro F h; kernel_rfl
theorem s_is_integer : FnScope f_is_integer.N f_is_integer.ps f_is_integer.dd.scope := ⟨rfl, rfl, rfl, by decide +kernel, rfl, by decide +kernel, by decide +kernel⟩
theorem t_is_integer : DefT pk f_is_integer := by
  refine ⟨s_is_integer, rfl, ⟨200, c_is_integer⟩, fun K a fd F => ?_, fun K a fd F => ?_⟩
  · refine List.forall_mem_singleton.mpr ⟨rfl, [], [], fun c H _ => RL.nil, .nil, FunD.bindsN F fun _ _ _ _ _ _ us hl => match us, hl with | [_], _ => rfl⟩
  · intro e he; cases he
theorem c_is_within : ∀ F h, corSs pk.s pk.x (pk.g0.put F h) 200 p_is_within.body ⟨f_is_within.N, f_is_within.dd.scope, fun _ => true, f_is_within.lam⟩ f_is_within.dd.body = true := by intro F h; kernel_rfl
theorem s_is_within : FnScope f_is_within.N f_is_within.ps f_is_within.dd.scope := ⟨rfl, rfl, rfl, by decide +kernel, rfl, by decide +kernel, by decide +kernel⟩
theorem t_is_within : DefT pk f_is_within := by
  refine ⟨s_is_within, rfl, ⟨200, c_is_within⟩, fun K a fd F => ?_, fun K a fd F => ?_⟩
  · refine List.forall_mem_singleton.mpr ⟨rfl, [], [], fun c H _ => RL.nil, .nil, FunD.bindsN F fun _ _ _ _ _ _ us hl => match us, hl with | [_, _, _], _ => rfl⟩
  · intro e he; cases he
theorem c_is_listed : ∀ F h, corSs pk.s pk.x (pk.g0.put F h) 200 p_is_listed.body ⟨f_is_listed.N, f_is_listed.dd.scope, fun _ => true, f_is_listed.lam⟩ f_is_listed.dd.body = true := by intro F h; kernel_rfl
theorem s_is_listed : FnScope f_is_listed.N f_is_listed.ps f_is_listed.dd.scope := ⟨rfl, rfl, rfl, by decide +kernel, rfl, by decide +kernel, by decide +kernel⟩
theorem t_is_listed : DefT pk f_is_listed := by
  refine ⟨s_is_listed, rfl, ⟨200, c_is_listed⟩, fun K a fd F => ?_, fun K a fd F => ?_⟩
  · have B : ∀ n j, n + (f_is_listed.dd.dfl.length - j) = f_is_listed.ps.length → (∀ (T : Addr) (kV doc pm : Value) (an : Option Addr) (cdv ct : Value) (us its : List Value), us.length = n → its.length = f_is_listed.dd.dfl.length → ∃ k, bindArgs (PySem.W.fnOf f_is_listed.dd.name f_is_listed.dd.qual f_is_listed.dd.params f_is_listed.dd.body f_is_listed.dd.scope (.ref T) kV doc pm an cdv ct) ⟨us, []⟩ = seqItems? (.ref T) >>= k ∧ k (some its.toArray) = pure (f_is_listed.ps.zip (us ++ its.drop j))) → ∃ ds, Vals ((f_is_listed.dd.dvs K).drop j) ds ∧ Binds K fd f_is_listed.ps ds := fun n j h1 h2 => FunD.binds1 F n j (by simp [DefD.dvs, f_is_listed, d_is_listed]) h1 h2
    simp only [f_is_listed, List.forall_mem_cons]
    refine ⟨?_, ?_, ?_, fun e he => by cases he⟩
    · obtain ⟨ds, h1, h2⟩ := B 3 2 rfl (fun T kV doc pm an cdv ct us its hu hi => match us, hu, its, hi with | [_, _, _], _, [_, _], _ => ⟨_, rfl, rfl⟩)
      exact ⟨rfl, _, ds, fun c H _ => by simp [DefD.dvs, f_is_listed, d_is_listed, Dv.v, RL, RW], h1, h2⟩
    · obtain ⟨ds, h1, h2⟩ := B 2 1 rfl (fun T kV doc pm an cdv ct us its hu hi => match us, hu, its, hi with | [_, _], _, [_, _], _ => ⟨_, rfl, rfl⟩)
      exact ⟨rfl, _, ds, fun c H _ => by simp [DefD.dvs, f_is_listed, d_is_listed, Dv.v, RL, RW], h1, h2⟩
    · obtain ⟨ds, h1, h2⟩ := B 1 0 rfl (fun T kV doc pm an cdv ct us its hu hi => match us, hu, its, hi with | [_], _, [_, _], _ => ⟨_, rfl, rfl⟩)
      exact ⟨rfl, _, ds, fun c H _ => by simp [DefD.dvs, f_is_listed, d_is_listed, Dv.v, RL, RW], h1, h2⟩
  · intro e he; cases he
theorem c_is_ascending : ∀ F h, corSs pk.s pk.x (pk.g0.put F h) 200 p_is_ascending.body ⟨f_is_ascending.N, f_is_ascending.dd.scope, fun _ => true, f_is_ascending.lam⟩ f_is_ascending.dd.body = true := by intro F h; kernel_rfl
theorem s_is_ascending : FnScope f_is_ascending.N f_is_ascending.ps f_is_ascending.dd.scope := ⟨rfl, rfl, rfl, by decide +kernel, rfl, by decide +kernel, by decide +kernel⟩
theorem t_is_ascending : DefT pk f_is_ascending := by
  refine ⟨s_is_ascending, rfl, ⟨200, c_is_ascending⟩, fun K a fd F => ?_, fun K a fd F => ?_⟩
  · refine List.forall_mem_singleton.mpr ⟨rfl, [], [], fun c H _ => RL.nil, .nil, FunD.bindsN F fun _ _ _ _ _ _ us hl => match us, hl with | [_], _ => rfl⟩
  · intro e he; cases he
theorem c_is_name : ∀ F h, corSs pk.s pk.x (pk.g0.put F h) 200 p_is_name.body ⟨f_is_name.N, f_is_name.dd.scope, fun _ => true, f_is_name.lam⟩ f_is_name.dd.body = true := by intro F h; kernel_rfl
theorem s_is_name : FnScope f_is_name.N f_is_name.ps f_is_name.dd.scope := ⟨rfl, rfl, rfl, by decide +kernel, rfl, by decide +kernel, by decide +kernel⟩
theorem t_is_name : DefT pk f_is_name := by
  refine ⟨s_is_name, rfl, ⟨200, c_is_name⟩, fun K a fd F => ?_, fun K a fd F => ?_⟩
  · refine List.forall_mem_singleton.mpr ⟨rfl, [], [], fun c H _ => RL.nil, .nil, FunD.bindsN F fun _ _ _ _ _ _ us hl => match us, hl with | [_], _ => rfl⟩
  · intro e he; cases he
theorem c_fixed : ∀ F h, corSs pk.s pk.x (pk.g0.put F h) 200 p_fixed.body ⟨f_fixed.N, f_fixed.dd.scope, fun _ => true, f_fixed.lam⟩ f_fixed.dd.body = true := by intro F h; kernel_rfl
theorem s_fixed : FnScope f_fixed.N f_fixed.ps f_fixed.dd.scope := ⟨rfl, rfl, rfl, by decide +kernel, rfl, by decide +kernel, by decide +kernel⟩
theorem t_fixed : DefT pk f_fixed := by
  refine ⟨s_fixed, rfl, ⟨200, c_fixed⟩, fun K a fd F => ?_, fun K a fd F => ?_⟩
  · refine List.forall_mem_singleton.mpr ⟨rfl, [], [], fun c H _ => RL.nil, .nil, FunD.bindsN F fun _ _ _ _ _ _ us hl => match us, hl with | [_], _ => rfl⟩
  · intro e he; cases he
theorem c_is_move_name : ∀ F h, corSs pk.s pk.x (pk.g0.put F h) 200 p_is_move_name.body ⟨f_is_move_name.N, f_is_move_name.dd.scope, fun _ => true, f_is_move_name.lam⟩ f_is_move_name.dd.body = true := by intro F h; kernel_rfl
theorem s_is_move_name : FnScope f_is_move_name.N f_is_move_name.ps f_is_move_name.dd.scope := ⟨rfl, rfl, rfl, by decide +kernel, rfl, by decide +kernel, by decide +kernel⟩
theorem t_is_move_name : DefT pk f_is_move_name := by
  refine ⟨s_is_move_name, rfl, ⟨200, c_is_move_name⟩, fun K a fd F => ?_, fun K a fd F => ?_⟩
  · refine List.forall_mem_singleton.mpr ⟨rfl, [], [], fun c H _ => RL.nil, .nil, FunD.bindsN F fun _ _ _ _ _ _ us hl => match us, hl with | [_], _ => rfl⟩
  · intro e he; cases he
theorem c_is_pair : ∀ F h, corSs pk.s pk.x (pk.g0.put F h) 200 p_is_pair.body ⟨f_is_pair.N, f_is_pair.dd.scope, fun _ => true, f_is_pair.lam⟩ f_is_pair.dd.body = true := by intro F h; kernel_rfl
theorem s_is_pair : FnScope f_is_pair.N f_is_pair.ps f_is_pair.dd.scope := ⟨rfl, rfl, rfl, by decide +kernel, rfl, by decide +kernel, by decide +kernel⟩
theorem t_is_pair : DefT pk f_is_pair := by
  refine ⟨s_is_pair, rfl, ⟨200, c_is_pair⟩, fun K a fd F => ?_, fun K a fd F => ?_⟩
  · refine List.forall_mem_singleton.mpr ⟨rfl, [], [], fun c H _ => RL.nil, .nil, FunD.bindsN F fun _ _ _ _ _ _ us hl => match us, hl with | [_, _], _ => rfl⟩
  · intro e he; cases he
theorem c_is_row : ∀ F h, corSs pk.s pk.x (pk.g0.put F h) 200 p_is_row.body ⟨f_is_row.N, f_is_row.dd.scope, fun _ => true, f_is_row.lam⟩ f_is_row.dd.body = true := by intro F h; kernel_rfl
theorem s_is_row : FnScope f_is_row.N f_is_row.ps f_is_row.dd.scope := ⟨rfl, rfl, rfl, by decide +kernel, rfl, by decide +kernel, by decide +kernel⟩
theorem t_is_row : DefT pk f_is_row := by
  refine ⟨s_is_row, rfl, ⟨200, c_is_row⟩, fun K a fd F => ?_, fun K a fd F => ?_⟩
  · refine List.forall_mem_singleton.mpr ⟨rfl, [], [], fun c H _ => RL.nil, .nil, FunD.bindsN F fun _ _ _ _ _ _ us hl => match us, hl with | [_, _], _ => rfl⟩
  · intro e he; cases he
theorem c__law_pen : ∀ F h, corSs pk.s pk.x (pk.g0.put F h) 200 p__law_pen.body ⟨f__law_pen.N, f__law_pen.dd.scope, fun _ => true, f__law_pen.lam⟩ f__law_pen.dd.body = true := by intro F h; kernel_rfl
theorem s__law_pen : FnScope f__law_pen.N f__law_pen.ps f__law_pen.dd.scope := ⟨rfl, rfl, rfl, by decide +kernel, rfl, by decide +kernel, by decide +kernel⟩
theorem t__law_pen : DefT pk f__law_pen := by
  refine ⟨s__law_pen, rfl, ⟨200, c__law_pen⟩, fun K a fd F => ?_, fun K a fd F => ?_⟩
  · refine List.forall_mem_singleton.mpr ⟨rfl, [], [], fun c H _ => RL.nil, .nil, FunD.bindsN F fun _ _ _ _ _ _ us hl => match us, hl with | [_], _ => rfl⟩
  · intro e he; cases he
theorem c__law_draw : ∀ F h, corSs pk.s pk.x (pk.g0.put F h) 200 p__law_draw.body ⟨f__law_draw.N, f__law_draw.dd.scope, fun _ => true, f__law_draw.lam⟩ f__law_draw.dd.body = true := by intro F h; kernel_rfl
theorem s__law_draw : FnScope f__law_draw.N f__law_draw.ps f__law_draw.dd.scope := ⟨rfl, rfl, rfl, by decide +kernel, rfl, by decide +kernel, by decide +kernel⟩
theorem t__law_draw : DefT pk f__law_draw := by
  refine ⟨s__law_draw, rfl, ⟨200, c__law_draw⟩, fun K a fd F => ?_, fun K a fd F => ?_⟩
  · refine List.forall_mem_singleton.mpr ⟨rfl, [], [], fun c H _ => RL.nil, .nil, FunD.bindsN F fun _ _ _ _ _ _ us hl => match us, hl with | [_, _], _ => rfl⟩
  · intro e he; cases he
theorem c__law_pick : ∀ F h, corSs pk.s pk.x (pk.g0.put F h) 200 p__law_pick.body ⟨f__law_pick.N, f__law_pick.dd.scope, fun _ => true, f__law_pick.lam⟩ f__law_pick.dd.body = true := by intro F h; kernel_rfl
theorem s__law_pick : FnScope f__law_pick.N f__law_pick.ps f__law_pick.dd.scope := ⟨rfl, rfl, rfl, by decide +kernel, rfl, by decide +kernel, by decide +kernel⟩
theorem t__law_pick : DefT pk f__law_pick := by
  refine ⟨s__law_pick, rfl, ⟨200, c__law_pick⟩, fun K a fd F => ?_, fun K a fd F => ?_⟩
  · refine List.forall_mem_singleton.mpr ⟨rfl, [], [], fun c H _ => RL.nil, .nil, FunD.bindsN F fun _ _ _ _ _ _ us hl => match us, hl with | [_, _], _ => rfl⟩
  · intro e he; cases he
theorem c__law_mixed : ∀ F h, corSs pk.s pk.x (pk.g0.put F h) 200 p__law_mixed.body ⟨f__law_mixed.N, f__law_mixed.dd.scope, fun _ => true, f__law_mixed.lam⟩ f__law_mixed.dd.body = true := by intro F h; kernel_rfl
theorem s__law_mixed : FnScope f__law_mixed.N f__law_mixed.ps f__law_mixed.dd.scope := ⟨rfl, rfl, rfl, by decide +kernel, rfl, by decide +kernel, by decide +kernel⟩
theorem t__law_mixed : DefT pk f__law_mixed := by
  refine ⟨s__law_mixed, rfl, ⟨200, c__law_mixed⟩, fun K a fd F => ?_, fun K a fd F => ?_⟩
  · refine List.forall_mem_singleton.mpr ⟨rfl, [], [], fun c H _ => RL.nil, .nil, FunD.bindsN F fun _ _ _ _ _ _ us hl => match us, hl with | [_, _], _ => rfl⟩
  · intro e he; cases he
theorem c__law_m_steps : ∀ F h, corSs pk.s pk.x (pk.g0.put F h) 200 p__law_m_steps.body ⟨f__law_m_steps.N, f__law_m_steps.dd.scope, fun _ => true, f__law_m_steps.lam⟩ f__law_m_steps.dd.body = true := by intro F h; kernel_rfl
theorem s__law_m_steps : FnScope f__law_m_steps.N f__law_m_steps.ps f__law_m_steps.dd.scope := ⟨rfl, rfl, rfl, by decide +kernel, rfl, by decide +kernel, by decide +kernel⟩
theorem t__law_m_steps : DefT pk f__law_m_steps := by
  refine ⟨s__law_m_steps, rfl, ⟨200, c__law_m_steps⟩, fun K a fd F => ?_, fun K a fd F => ?_⟩
  · refine List.forall_mem_singleton.mpr ⟨rfl, [], [], fun c H _ => RL.nil, .nil, FunD.bindsN F fun _ _ _ _ _ _ us hl => match us, hl with | [_], _ => rfl⟩
  · intro e he; cases he
theorem c__law_m_free : ∀ F h, corSs pk.s pk.x (pk.g0.put F h) 200 p__law_m_free.body ⟨f__law_m_free.N, f__law_m_free.dd.scope, fun _ => true, f__law_m_free.lam⟩ f__law_m_free.dd.body = true := by intro F h; kernel_rfl
theorem s__law_m_free : FnScope f__law_m_free.N f__law_m_free.ps f__law_m_free.dd.scope := ⟨rfl, rfl, rfl, by decide +kernel, rfl, by decide +kernel, by decide +kernel⟩
theorem t__law_m_free : DefT pk f__law_m_free := by
  refine ⟨s__law_m_free, rfl, ⟨200, c__law_m_free⟩, fun K a fd F => ?_, fun K a fd F => ?_⟩
  · refine List.forall_mem_singleton.mpr ⟨rfl, [], [], fun c H _ => RL.nil, .nil, FunD.bindsN F fun _ _ _ _ _ _ us hl => match us, hl with | [_, _, _], _ => rfl⟩
  · intro e he; cases he
theorem c__law_m_listed : ∀ F h, corSs pk.s pk.x (pk.g0.put F h) 200 p__law_m_listed.body ⟨f__law_m_listed.N, f__law_m_listed.dd.scope, fun _ => true, f__law_m_listed.lam⟩ f__law_m_listed.dd.body = true := by intro F h; kernel_rfl
theorem s__law_m_listed : FnScope f__law_m_listed.N f__law_m_listed.ps f__law_m_listed.dd.scope := ⟨rfl, rfl, rfl, by decide +kernel, rfl, by decide +kernel, by decide +kernel⟩
theorem t__law_m_listed : DefT pk f__law_m_listed := by
  refine ⟨s__law_m_listed, rfl, ⟨200, c__law_m_listed⟩, fun K a fd F => ?_, fun K a fd F => ?_⟩
  · refine List.forall_mem_singleton.mpr ⟨rfl, [], [], fun c H _ => RL.nil, .nil, FunD.bindsN F fun _ _ _ _ _ _ us hl => match us, hl with | [_], _ => rfl⟩
  · intro e he; cases he
theorem c__law_wrong_rows : ∀ F h, corSs pk.s pk.x (pk.g0.put F h) 200 p__law_wrong_rows.body ⟨f__law_wrong_rows.N, f__law_wrong_rows.dd.scope, fun _ => true, f__law_wrong_rows.lam⟩ f__law_wrong_rows.dd.body = true := by intro F h; kernel_rfl
theorem s__law_wrong_rows : FnScope f__law_wrong_rows.N f__law_wrong_rows.ps f__law_wrong_rows.dd.scope := ⟨rfl, rfl, rfl, by decide +kernel, rfl, by decide +kernel, by decide +kernel⟩
theorem t__law_wrong_rows : DefT pk f__law_wrong_rows := by
  refine ⟨s__law_wrong_rows, rfl, ⟨200, c__law_wrong_rows⟩, fun K a fd F => ?_, fun K a fd F => ?_⟩
  · refine List.forall_mem_singleton.mpr ⟨rfl, [], [], fun c H _ => RL.nil, .nil, FunD.bindsN F fun _ _ _ _ _ _ us hl => match us, hl with | [_, _], _ => rfl⟩
  · intro e he; cases he
theorem c_law : ∀ F h, corSs pk.s pk.x (pk.g0.put F h) 200 p_law.body ⟨f_law.N, f_law.dd.scope, fun _ => true, f_law.lam⟩ f_law.dd.body = true := by intro F h; kernel_rfl
theorem s_law : FnScope f_law.N f_law.ps f_law.dd.scope := ⟨rfl, rfl, rfl, by decide +kernel, rfl, by decide +kernel, by decide +kernel⟩
theorem t_law : DefT pk f_law := by
  refine ⟨s_law, rfl, ⟨200, c_law⟩, fun K a fd F => ?_, fun K a fd F => ?_⟩
  · refine List.forall_mem_singleton.mpr ⟨rfl, [], [], fun c H _ => RL.nil, .nil, FunD.bindsN F fun _ _ _ _ _ _ us hl => match us, hl with | [_], _ => rfl⟩
  · intro e he; cases he
theorem c_Machine___init__ : ∀ F h, corSs pk.s pk.x (pk.g0.put F h) 200 p_Machine___init__.body ⟨f_Machine___init__.N, f_Machine___init__.dd.scope, fun _ => true, f_Machine___init__.lam⟩ f_Machine___init__.dd.body = true := by intro F h; kernel_rfl
theorem s_Machine___init__ : FnScope f_Machine___init__.N f_Machine___init__.ps f_Machine___init__.dd.scope := ⟨rfl, rfl, rfl, by decide +kernel, rfl, by decide +kernel, by decide +kernel⟩
theorem t_Machine___init__ : DefT pk f_Machine___init__ := by
  refine ⟨s_Machine___init__, rfl, ⟨200, c_Machine___init__⟩, fun K a fd F => ?_, fun K a fd F => ?_⟩
  · refine List.forall_mem_singleton.mpr ⟨rfl, [], [], fun c H _ => RL.nil, .nil, FunD.bindsN F fun _ _ _ _ _ _ us hl => match us, hl with | [_, _], _ => rfl⟩
  · simp only [f_Machine___init__, List.forall_mem_cons]
    refine ⟨?_, fun e he => by cases he⟩
    · exact kb_all F 1 ["rows"] [.pos 0, .kw 0] rfl rfl (fun _ _ _ _ _ _ us ws hu hw => match us, hu, ws, hw with | [_], _, [_], _ => rfl)
theorem c_Machine___eq__ : ∀ F h, corSs pk.s pk.x (pk.g0.put F h) 200 p_Machine___eq__.body ⟨f_Machine___eq__.N, f_Machine___eq__.dd.scope, fun _ => true, f_Machine___eq__.lam⟩ f_Machine___eq__.dd.body = true := by intro F h; kernel_rfl
theorem s_Machine___eq__ : FnScope f_Machine___eq__.N f_Machine___eq__.ps f_Machine___eq__.dd.scope := ⟨rfl, rfl, rfl, by decide +kernel, rfl, by decide +kernel, by decide +kernel⟩
theorem t_Machine___eq__ : DefT pk f_Machine___eq__ := by
  refine ⟨s_Machine___eq__, rfl, ⟨200, c_Machine___eq__⟩, fun K a fd F => ?_, fun K a fd F => ?_⟩
  · refine List.forall_mem_singleton.mpr ⟨rfl, [], [], fun c H _ => RL.nil, .nil, FunD.bindsN F fun _ _ _ _ _ _ us hl => match us, hl with | [_, _], _ => rfl⟩
  · intro e he; cases he
theorem c_Machine___len__ : ∀ F h, corSs pk.s pk.x (pk.g0.put F h) 200 p_Machine___len__.body ⟨f_Machine___len__.N, f_Machine___len__.dd.scope, fun _ => true, f_Machine___len__.lam⟩ f_Machine___len__.dd.body = true := by intro F h; kernel_rfl
theorem s_Machine___len__ : FnScope f_Machine___len__.N f_Machine___len__.ps f_Machine___len__.dd.scope := ⟨rfl, rfl, rfl, by decide +kernel, rfl, by decide +kernel, by decide +kernel⟩
theorem t_Machine___len__ : DefT pk f_Machine___len__ := by
  refine ⟨s_Machine___len__, rfl, ⟨200, c_Machine___len__⟩, fun K a fd F => ?_, fun K a fd F => ?_⟩
  · refine List.forall_mem_singleton.mpr ⟨rfl, [], [], fun c H _ => RL.nil, .nil, FunD.bindsN F fun _ _ _ _ _ _ us hl => match us, hl with | [_], _ => rfl⟩
  · intro e he; cases he
theorem x_BadNumber : ExcT PySem.Challenge.pw_slowest_k25_machines_made_and_refused "BadNumber" ["part"] e_BadNumber := by
  refine ⟨rfl, by decide +kernel, by simp, by decide +kernel, by simp, ?_⟩
  exact ⟨_, "self", _, _, _, _, _, _, _, _, _, rfl, rfl, rfl, ⟨rfl, rfl, rfl, by decide +kernel, rfl, by decide +kernel, by decide +kernel, by decide +kernel⟩, rfl, rfl, by decide +kernel, rfl, by decide +kernel, fun kV doc pm an cdv ct cc us hu => match us, hu with | [_, _], _ => rfl⟩
theorem x_BadValue : ExcT PySem.Challenge.pw_slowest_k25_machines_made_and_refused "BadValue" ["part"] e_BadValue := by
  refine ⟨rfl, by decide +kernel, by simp, by decide +kernel, by simp, ?_⟩
  exact ⟨_, "self", _, _, _, _, _, _, _, _, _, rfl, rfl, rfl, ⟨rfl, rfl, rfl, by decide +kernel, rfl, by decide +kernel, by decide +kernel, by decide +kernel⟩, rfl, rfl, by decide +kernel, rfl, by decide +kernel, fun kV doc pm an cdv ct cc us hu => match us, hu with | [_, _], _ => rfl⟩
theorem x_BadBlock : ExcT PySem.Challenge.pw_slowest_k25_machines_made_and_refused "BadBlock" ["value"] e_BadBlock := by
  refine ⟨rfl, by decide +kernel, by simp, by decide +kernel, by simp, ?_⟩
  exact ⟨_, "self", _, _, _, _, _, _, _, _, _, rfl, rfl, rfl, ⟨rfl, rfl, rfl, by decide +kernel, rfl, by decide +kernel, by decide +kernel, by decide +kernel⟩, rfl, rfl, by decide +kernel, rfl, by decide +kernel, fun kV doc pm an cdv ct cc us hu => match us, hu with | [_, _], _ => rfl⟩
theorem x_BadDeed : ExcT PySem.Challenge.pw_slowest_k25_machines_made_and_refused "BadDeed" ["part"] e_BadDeed := by
  refine ⟨rfl, by decide +kernel, by simp, by decide +kernel, by simp, ?_⟩
  exact ⟨_, "self", _, _, _, _, _, _, _, _, _, rfl, rfl, rfl, ⟨rfl, rfl, rfl, by decide +kernel, rfl, by decide +kernel, by decide +kernel, by decide +kernel⟩, rfl, rfl, by decide +kernel, rfl, by decide +kernel, fun kV doc pm an cdv ct cc us hu => match us, hu with | [_, _], _ => rfl⟩
theorem x_BadKit : ExcT PySem.Challenge.pw_slowest_k25_machines_made_and_refused "BadKit" ["part"] e_BadKit := by
  refine ⟨rfl, by decide +kernel, by simp, by decide +kernel, by simp, ?_⟩
  exact ⟨_, "self", _, _, _, _, _, _, _, _, _, rfl, rfl, rfl, ⟨rfl, rfl, rfl, by decide +kernel, rfl, by decide +kernel, by decide +kernel, by decide +kernel⟩, rfl, rfl, by decide +kernel, rfl, by decide +kernel, fun kV doc pm an cdv ct cc us hu => match us, hu with | [_, _], _ => rfl⟩
theorem x_BadScript : ExcT PySem.Challenge.pw_slowest_k25_machines_made_and_refused "BadScript" ["part"] e_BadScript := by
  refine ⟨rfl, by decide +kernel, by simp, by decide +kernel, by simp, ?_⟩
  exact ⟨_, "self", _, _, _, _, _, _, _, _, _, rfl, rfl, rfl, ⟨rfl, rfl, rfl, by decide +kernel, rfl, by decide +kernel, by decide +kernel, by decide +kernel⟩, rfl, rfl, by decide +kernel, rfl, by decide +kernel, fun kV doc pm an cdv ct cc us hu => match us, hu with | [_, _], _ => rfl⟩
theorem x_BadArena : ExcT PySem.Challenge.pw_slowest_k25_machines_made_and_refused "BadArena" ["part"] e_BadArena := by
  refine ⟨rfl, by decide +kernel, by simp, by decide +kernel, by simp, ?_⟩
  exact ⟨_, "self", _, _, _, _, _, _, _, _, _, rfl, rfl, rfl, ⟨rfl, rfl, rfl, by decide +kernel, rfl, by decide +kernel, by decide +kernel, by decide +kernel⟩, rfl, rfl, by decide +kernel, rfl, by decide +kernel, fun kV doc pm an cdv ct cc us hu => match us, hu with | [_, _], _ => rfl⟩
theorem x_BadPaper : ExcT PySem.Challenge.pw_slowest_k25_machines_made_and_refused "BadPaper" ["part"] e_BadPaper := by
  refine ⟨rfl, by decide +kernel, by simp, by decide +kernel, by simp, ?_⟩
  exact ⟨_, "self", _, _, _, _, _, _, _, _, _, rfl, rfl, rfl, ⟨rfl, rfl, rfl, by decide +kernel, rfl, by decide +kernel, by decide +kernel, by decide +kernel⟩, rfl, rfl, by decide +kernel, rfl, by decide +kernel, fun kV doc pm an cdv ct cc us hu => match us, hu with | [_, _], _ => rfl⟩
theorem x_BadMachine : ExcT PySem.Challenge.pw_slowest_k25_machines_made_and_refused "BadMachine" ["part"] e_BadMachine := by
  refine ⟨rfl, by decide +kernel, by simp, by decide +kernel, by simp, ?_⟩
  exact ⟨_, "self", _, _, _, _, _, _, _, _, _, rfl, rfl, rfl, ⟨rfl, rfl, rfl, by decide +kernel, rfl, by decide +kernel, by decide +kernel, by decide +kernel⟩, rfl, rfl, by decide +kernel, rfl, by decide +kernel, fun kV doc pm an cdv ct cc us hu => match us, hu with | [_, _], _ => rfl⟩
theorem x_BadCode : ExcT PySem.Challenge.pw_slowest_k25_machines_made_and_refused "BadCode" ["part"] e_BadCode := by
  refine ⟨rfl, by decide +kernel, by simp, by decide +kernel, by simp, ?_⟩
  exact ⟨_, "self", _, _, _, _, _, _, _, _, _, rfl, rfl, rfl, ⟨rfl, rfl, rfl, by decide +kernel, rfl, by decide +kernel, by decide +kernel, by decide +kernel⟩, rfl, rfl, by decide +kernel, rfl, by decide +kernel, fun kV doc pm an cdv ct cc us hu => match us, hu with | [_, _], _ => rfl⟩
theorem x_BadText : ExcT PySem.Challenge.pw_slowest_k25_machines_made_and_refused "BadText" ["line", "word"] e_BadText := by
  refine ⟨rfl, by decide +kernel, by simp, by decide +kernel, by simp, ?_⟩
  exact ⟨_, "self", _, _, _, _, _, _, _, _, _, rfl, rfl, rfl, ⟨rfl, rfl, rfl, by decide +kernel, rfl, by decide +kernel, by decide +kernel, by decide +kernel⟩, rfl, rfl, by decide +kernel, rfl, by decide +kernel, fun kV doc pm an cdv ct cc us hu => match us, hu with | [_, _, _], _ => rfl⟩
theorem x_BadLine : ExcT PySem.Challenge.pw_slowest_k25_machines_made_and_refused "BadLine" ["word"] e_BadLine := by
  refine ⟨rfl, by decide +kernel, by simp, by decide +kernel, by simp, ?_⟩
  exact ⟨_, "self", _, _, _, _, _, _, _, _, _, rfl, rfl, rfl, ⟨rfl, rfl, rfl, by decide +kernel, rfl, by decide +kernel, by decide +kernel, by decide +kernel⟩, rfl, rfl, by decide +kernel, rfl, by decide +kernel, fun kV doc pm an cdv ct cc us hu => match us, hu with | [_, _], _ => rfl⟩
theorem x_BadWord : ExcT PySem.Challenge.pw_slowest_k25_machines_made_and_refused "BadWord" ["at"] e_BadWord := by
  refine ⟨rfl, by decide +kernel, by simp, by decide +kernel, by simp, ?_⟩
  exact ⟨_, "self", _, _, _, _, _, _, _, _, _, rfl, rfl, rfl, ⟨rfl, rfl, rfl, by decide +kernel, rfl, by decide +kernel, by decide +kernel, by decide +kernel⟩, rfl, rfl, by decide +kernel, rfl, by decide +kernel, fun kV doc pm an cdv ct cc us hu => match us, hu with | [_, _], _ => rfl⟩
theorem x_NoName : ExcT PySem.Challenge.pw_slowest_k25_machines_made_and_refused "NoName" ["value"] e_NoName := by
  refine ⟨rfl, by decide +kernel, by simp, by decide +kernel, by simp, ?_⟩
  exact ⟨_, "self", _, _, _, _, _, _, _, _, _, rfl, rfl, rfl, ⟨rfl, rfl, rfl, by decide +kernel, rfl, by decide +kernel, by decide +kernel, by decide +kernel⟩, rfl, rfl, by decide +kernel, rfl, by decide +kernel, fun kV doc pm an cdv ct cc us hu => match us, hu with | [_, _], _ => rfl⟩
theorem x_TooMany : ExcT PySem.Challenge.pw_slowest_k25_machines_made_and_refused "TooMany" ["what", "most"] e_TooMany := by
  refine ⟨rfl, by decide +kernel, by simp, by decide +kernel, by simp, ?_⟩
  exact ⟨_, "self", _, _, _, _, _, _, _, _, _, rfl, rfl, rfl, ⟨rfl, rfl, rfl, by decide +kernel, rfl, by decide +kernel, by decide +kernel, by decide +kernel⟩, rfl, rfl, by decide +kernel, rfl, by decide +kernel, fun kV doc pm an cdv ct cc us hu => match us, hu with | [_, _, _], _ => rfl⟩
theorem x_Nothing : ExcT PySem.Challenge.pw_slowest_k25_machines_made_and_refused "Nothing" ["what"] e_Nothing := by
  refine ⟨rfl, by decide +kernel, by simp, by decide +kernel, by simp, ?_⟩
  exact ⟨_, "self", _, _, _, _, _, _, _, _, _, rfl, rfl, rfl, ⟨rfl, rfl, rfl, by decide +kernel, rfl, by decide +kernel, by decide +kernel, by decide +kernel⟩, rfl, rfl, by decide +kernel, rfl, by decide +kernel, fun kV doc pm an cdv ct cc us hu => match us, hu with | [_, _], _ => rfl⟩
end LW

namespace LW
open PySem PySem.Spec PyProof.Rows L2 He
theorem hx : HrdX pk "_law_heard" "SlowError" d_hrd := ⟨rfl, rfl, rfl, _, ["ask", "caught", "found", "error", "few"], 200, 3, "ask", "caught", "found", "error", _, _, _, _, _, _, _, _, _, _, _, _, _, _, _, _, _, _, _, _, _, rfl, ⟨rfl, rfl, rfl, by decide +kernel, rfl, by decide +kernel, by decide +kernel⟩, rfl, fun _ _ _ _ _ _ us hl => match us, hl with | [_], _ => rfl, rfl, rfl, rfl, rfl, by decide, rfl, rfl, rfl, by decide +kernel, by decide +kernel, by decide +kernel, by decide +kernel, fun F h => by kernel_rfl⟩
def exK (K : PySem.W.Frag) : Bool := pkB PySem.Challenge.pw_slowest_k25_machines_made_and_refused pk dfs lams K && hrdB K pk "_law_heard" "SlowError" d_hrd
abbrev RR : PySem.W.OpenRow := PySem.W.OpenLaw.row PySem.Challenge.rw_slowest_k25_machines_made_and_refused
abbrev hk : PySem.W.Hook := hookW 5 fs es (lams.map (·.1)) exK
def ob (s : PySem.W.SharedT) : AlW := obsW 5 fs es (lams.map (·.1)) exK (HandSHeadRun.getT s)
theorem ob_eq (s : PySem.W.SharedT) : ob s = hk.obs s.abs := obsW_eq (HandSHeadRun.getT_eq s)
def loose_0 : List PySem.Str := ["_wall", "__name__", "SlowError", "BadNumber", "BadValue", "BadBlock", "BadDeed", "BadKit", "BadScript", "BadArena", "BadPaper", "BadMachine", "BadCode", "BadText", "BadLine", "BadWord", "NoName", "TooMany", "Nothing", "LETTERS", "LONGEST", "PASS", "WORDS", "is_integer", "is_within", "is_listed", "is_ascending", "is_name", "fixed", "ME"]
def loose_1 : List PySem.Str := ["THEY", "MOST_MOVES", "is_move_name", "MOST_STANDS", "is_pair", "is_row", "Machine", "_law_pen", "_law_draw", "_law_pick", "_law_mixed", "_law_heard", "_law_m_steps", "_law_m_free", "_law_m_listed", "_law_wrong_rows"]
def loose : List PySem.Str := loose_0 ++ loose_1

theorem run (w : World) : HandSHeadRun.RunEq RR (PySem.W.view RR.prog [51]) hk ob 6000 loose w := by
  intro os
  kernel_rfl
end LW

namespace LW
open PySem PySem.Spec PyProof.Rows L2 He
theorem tdf : ∀ d ∈ dfs, DefT pk d := by
  simp only [dfs, List.forall_mem_append, List.forall_mem_cons]
  exact ⟨t_is_integer, t_is_within, t_is_listed, t_is_ascending, t_is_name, t_fixed, t_is_move_name, t_is_pair, t_is_row, t__law_pen, t__law_draw, t__law_pick, t__law_mixed, t__law_m_steps, t__law_m_free, t__law_m_listed, t__law_wrong_rows, t_law, t_Machine___init__, t_Machine___eq__, t_Machine___len__, fun d h => by cases h⟩
theorem tex : ∀ q ∈ pk.exc, ∃ d ∈ es, ExcT PySem.Challenge.pw_slowest_k25_machines_made_and_refused q.1 q.2 d := by
  show ∀ q ∈ kExc, _
  simp only [kExc, List.forall_mem_cons]
  exact ⟨⟨e_BadNumber, by simp [es], x_BadNumber⟩, ⟨e_BadValue, by simp [es], x_BadValue⟩, ⟨e_BadBlock, by simp [es], x_BadBlock⟩, ⟨e_BadDeed, by simp [es], x_BadDeed⟩, ⟨e_BadKit, by simp [es], x_BadKit⟩, ⟨e_BadScript, by simp [es], x_BadScript⟩, ⟨e_BadArena, by simp [es], x_BadArena⟩, ⟨e_BadPaper, by simp [es], x_BadPaper⟩, ⟨e_BadMachine, by simp [es], x_BadMachine⟩, ⟨e_BadCode, by simp [es], x_BadCode⟩, ⟨e_BadText, by simp [es], x_BadText⟩, ⟨e_BadLine, by simp [es], x_BadLine⟩, ⟨e_BadWord, by simp [es], x_BadWord⟩, ⟨e_NoName, by simp [es], x_NoName⟩, ⟨e_TooMany, by simp [es], x_TooMany⟩, ⟨e_Nothing, by simp [es], x_Nothing⟩, fun q h => by cases h⟩
theorem holds_of (plain : ∀ (ns : List Int), ns.length ≤ 63 → (∀ z ∈ ns, Builtin.Int.intBits z ≤ 1048576) → ∀ w : Wv, (w = .kls (ns.map .int) ∨ w = .lst (ns.map .int)) → ∃ M', (lvl pk.g0 pk.tab pk.hb 13).full "law" [.val w] [] = .ok (.val (.bl true)) M') : PySem.Challenge.rw_slowest_k25_machines_made_and_refused.Holds := by
  open PySem PySem.W PySem.Calls PyProof.Rows in
  w_on; o_law
  refine HandSHeadRun.head_any (r := PySem.W.OpenLaw.row PySem.Challenge.rw_slowest_k25_machines_made_and_refused) (q := PySem.W.view (PySem.W.OpenLaw.row PySem.Challenge.rw_slowest_k25_machines_made_and_refused).prog [51]) (H := hk) (ob := ob) (M := 6000) (loose := loose) (d := HandSHeadRun.topDef (PySem.W.OpenLaw.row PySem.Challenge.rw_slowest_k25_machines_made_and_refused).prog 51) (kwd := []) ob_eq
    (by kernel_rfl) (fun s => by kernel_rfl) run (by kernel_rfl) (by kernel_rfl) (by kernel_rfl) (by rfl) (by first | assumption | decide +kernel) (by decide +kernel) ⟨rfl, rfl, rfl, rfl, rfl, by decide +kernel⟩ ?hw ?hc
  case hw => w_witness2
  case hc =>
    refine walk_G (l := PySem.Challenge.rw_slowest_k25_machines_made_and_refused) (n := 63) (k := 5 * 12 + 5) (x := "script") rfl (by decide) (by kernel_rfl) ⟨rfl, by decide, by decide⟩ ?F
    intro w mg fa h Y G hmg0
    obtain ⟨K, KX, S⟩ := Y
    have hmg : mg ("law" : PySem.Str) = some (.ref fa) := by
      have e : (HandSHeadRun.topDef (PySem.W.OpenLaw.row PySem.Challenge.rw_slowest_k25_machines_made_and_refused).prog 51).name = ("law" : PySem.Str) := by kernel_rfl
      rw [← e]
      exact hmg0
    have hex := S.ex
    obtain ⟨hp, hh⟩ := ba hex
    exact ⟨K, KX, lawAt_of (N := 12) (x := "script") (m := 63) (dl := f_law) (p := pk) (dfs := dfs) (es := es) (lams := lams) (fs := fs) (ex := exK) KX G S hp (fun d hd => List.mem_append_left _ (List.mem_map.mpr ⟨d, hd, rfl⟩)) rfl rfl rfl tdf (by decide +kernel) tex (fun hn e => ⟨"SlowError", d_hrd, List.mem_append_right _ (List.mem_singleton.mpr rfl), by cases e; exact hx, by cases e; exact hh⟩) hmg rfl rfl rfl rfl rfl (by decide +kernel) (fun _ _ _ _ _ _ us hl => match us, hl with | [_], _ => rfl) plain⟩
end LW

namespace LW
open PySem PySem.Spec PyProof.Rows L2 He
abbrev L (n : Nat) : G := lvl pk.g0 pk.tab pk.hb n
theorem L_glob (n : Nat) : (L n).glob = pk.g0.glob := by cases n <;> rfl
theorem L_kit (n : Nat) : (L n).kit = pk.g0.kit := by cases n <;> rfl
theorem L_icl (n : Nat) : (L n).icl = pk.g0.icl := by cases n <;> rfl
theorem L_xcl (n : Nat) : (L n).xcl = pk.g0.xcl := by cases n <;> rfl
theorem L_mth (n : Nat) : (L n).mth = pk.g0.mth := by cases n <;> rfl
theorem L_fld (n : Nat) : (L n).fld = pk.g0.fld := by cases n <;> rfl
theorem L_xfd (n : Nat) : (L n).xfd = pk.g0.xfd := by cases n <;> rfl
theorem L_nf (n : Nat) : (L n).nf = pk.g0.nf := by cases n <;> rfl
theorem L_exf (n : Nat) : (L n).exf = pk.g0.exf := by cases n <;> rfl
theorem L_kwo (n : Nat) : (L n).kwo = pk.g0.kwo := by cases n <;> rfl
theorem L_dfl (n : Nat) : (L n).dfl = pk.g0.dfl := by cases n <;> rfl
theorem L_fuel (n : Nat) : (L n).fuel = pk.g0.fuel := by cases n <;> rfl
theorem call1 (n : Nat) {f : Str} {ds : List Wv} {k : Nat} (h : pk.g0.dfl f k = some ds) (as : List Av) (hl : as.length = k) : (L n).call f k as = (L n).full f (as ++ ds.map .val) := by
  unfold G.call
  rw [L_dfl, h]
  dsimp only
  rw [if_pos hl]
theorem full_at (n : Nat) {f : Str} {d : PDef} (h : pk.tab.lookup f = some d) : (L (n + 1)).full f = runD (L n) d := by
  show (fun as => match pk.tab.lookup f with
    | some d => runD (L n) d as
    | none => Mw.fail) = _
  rw [h]
theorem glo1 (n : Nat) {x : Str} {w : Wv} (h : pk.g0.glob x = some w) : gloM (L n) x = pure (.val w) := by
  funext M
  unfold gloM
  rw [L_glob, h]
  rfl
theorem fl_is_integer (n : Nat) : (L (n + 1)).full "is_integer" = runD (L n) p_is_integer := full_at n (by kernel_rfl)
theorem cl_is_integer_1 (n : Nat) (a0 : Av) : (L n).call "is_integer" 1 [a0] = (L n).full "is_integer" [a0] := call1 n (f := "is_integer") (ds := []) (k := 1) (by kernel_rfl) [a0] rfl
theorem fl_is_within (n : Nat) : (L (n + 1)).full "is_within" = runD (L n) p_is_within := full_at n (by kernel_rfl)
theorem cl_is_within_3 (n : Nat) (a0 : Av) (a1 : Av) (a2 : Av) : (L n).call "is_within" 3 [a0, a1, a2] = (L n).full "is_within" [a0, a1, a2] := call1 n (f := "is_within") (ds := []) (k := 3) (by kernel_rfl) [a0, a1, a2] rfl
theorem fl_is_listed (n : Nat) : (L (n + 1)).full "is_listed" = runD (L n) p_is_listed := full_at n (by kernel_rfl)
theorem cl_is_listed_3 (n : Nat) (a0 : Av) (a1 : Av) (a2 : Av) : (L n).call "is_listed" 3 [a0, a1, a2] = (L n).full "is_listed" [a0, a1, a2] := call1 n (f := "is_listed") (ds := []) (k := 3) (by kernel_rfl) [a0, a1, a2] rfl
theorem cl_is_listed_2 (n : Nat) (a0 : Av) (a1 : Av) : (L n).call "is_listed" 2 [a0, a1] = (L n).full "is_listed" [a0, a1, .val .non] := call1 n (f := "is_listed") (ds := [.non]) (k := 2) (by kernel_rfl) [a0, a1] rfl
theorem cl_is_listed_1 (n : Nat) (a0 : Av) : (L n).call "is_listed" 1 [a0] = (L n).full "is_listed" [a0, .val (.int 0), .val .non] := call1 n (f := "is_listed") (ds := [(.int 0), .non]) (k := 1) (by kernel_rfl) [a0] rfl
theorem fl_is_ascending (n : Nat) : (L (n + 1)).full "is_ascending" = runD (L n) p_is_ascending := full_at n (by kernel_rfl)
theorem cl_is_ascending_1 (n : Nat) (a0 : Av) : (L n).call "is_ascending" 1 [a0] = (L n).full "is_ascending" [a0] := call1 n (f := "is_ascending") (ds := []) (k := 1) (by kernel_rfl) [a0] rfl
theorem fl_is_name (n : Nat) : (L (n + 1)).full "is_name" = runD (L n) p_is_name := full_at n (by kernel_rfl)
theorem cl_is_name_1 (n : Nat) (a0 : Av) : (L n).call "is_name" 1 [a0] = (L n).full "is_name" [a0] := call1 n (f := "is_name") (ds := []) (k := 1) (by kernel_rfl) [a0] rfl
theorem fl_fixed (n : Nat) : (L (n + 1)).full "fixed" = runD (L n) p_fixed := full_at n (by kernel_rfl)
theorem cl_fixed_1 (n : Nat) (a0 : Av) : (L n).call "fixed" 1 [a0] = (L n).full "fixed" [a0] := call1 n (f := "fixed") (ds := []) (k := 1) (by kernel_rfl) [a0] rfl
theorem fl_is_move_name (n : Nat) : (L (n + 1)).full "is_move_name" = runD (L n) p_is_move_name := full_at n (by kernel_rfl)
theorem cl_is_move_name_1 (n : Nat) (a0 : Av) : (L n).call "is_move_name" 1 [a0] = (L n).full "is_move_name" [a0] := call1 n (f := "is_move_name") (ds := []) (k := 1) (by kernel_rfl) [a0] rfl
theorem fl_is_pair (n : Nat) : (L (n + 1)).full "is_pair" = runD (L n) p_is_pair := full_at n (by kernel_rfl)
theorem cl_is_pair_2 (n : Nat) (a0 : Av) (a1 : Av) : (L n).call "is_pair" 2 [a0, a1] = (L n).full "is_pair" [a0, a1] := call1 n (f := "is_pair") (ds := []) (k := 2) (by kernel_rfl) [a0, a1] rfl
theorem fl_is_row (n : Nat) : (L (n + 1)).full "is_row" = runD (L n) p_is_row := full_at n (by kernel_rfl)
theorem cl_is_row_2 (n : Nat) (a0 : Av) (a1 : Av) : (L n).call "is_row" 2 [a0, a1] = (L n).full "is_row" [a0, a1] := call1 n (f := "is_row") (ds := []) (k := 2) (by kernel_rfl) [a0, a1] rfl
theorem fl__law_pen (n : Nat) : (L (n + 1)).full "_law_pen" = runD (L n) p__law_pen := full_at n (by kernel_rfl)
theorem cl__law_pen_1 (n : Nat) (a0 : Av) : (L n).call "_law_pen" 1 [a0] = (L n).full "_law_pen" [a0] := call1 n (f := "_law_pen") (ds := []) (k := 1) (by kernel_rfl) [a0] rfl
theorem fl__law_draw (n : Nat) : (L (n + 1)).full "_law_draw" = runD (L n) p__law_draw := full_at n (by kernel_rfl)
theorem cl__law_draw_2 (n : Nat) (a0 : Av) (a1 : Av) : (L n).call "_law_draw" 2 [a0, a1] = (L n).full "_law_draw" [a0, a1] := call1 n (f := "_law_draw") (ds := []) (k := 2) (by kernel_rfl) [a0, a1] rfl
theorem fl__law_pick (n : Nat) : (L (n + 1)).full "_law_pick" = runD (L n) p__law_pick := full_at n (by kernel_rfl)
theorem cl__law_pick_2 (n : Nat) (a0 : Av) (a1 : Av) : (L n).call "_law_pick" 2 [a0, a1] = (L n).full "_law_pick" [a0, a1] := call1 n (f := "_law_pick") (ds := []) (k := 2) (by kernel_rfl) [a0, a1] rfl
theorem fl__law_mixed (n : Nat) : (L (n + 1)).full "_law_mixed" = runD (L n) p__law_mixed := full_at n (by kernel_rfl)
theorem cl__law_mixed_2 (n : Nat) (a0 : Av) (a1 : Av) : (L n).call "_law_mixed" 2 [a0, a1] = (L n).full "_law_mixed" [a0, a1] := call1 n (f := "_law_mixed") (ds := []) (k := 2) (by kernel_rfl) [a0, a1] rfl
theorem fl__law_m_steps (n : Nat) : (L (n + 1)).full "_law_m_steps" = runD (L n) p__law_m_steps := full_at n (by kernel_rfl)
theorem cl__law_m_steps_1 (n : Nat) (a0 : Av) : (L n).call "_law_m_steps" 1 [a0] = (L n).full "_law_m_steps" [a0] := call1 n (f := "_law_m_steps") (ds := []) (k := 1) (by kernel_rfl) [a0] rfl
theorem fl__law_m_free (n : Nat) : (L (n + 1)).full "_law_m_free" = runD (L n) p__law_m_free := full_at n (by kernel_rfl)
theorem cl__law_m_free_3 (n : Nat) (a0 : Av) (a1 : Av) (a2 : Av) : (L n).call "_law_m_free" 3 [a0, a1, a2] = (L n).full "_law_m_free" [a0, a1, a2] := call1 n (f := "_law_m_free") (ds := []) (k := 3) (by kernel_rfl) [a0, a1, a2] rfl
theorem fl__law_m_listed (n : Nat) : (L (n + 1)).full "_law_m_listed" = runD (L n) p__law_m_listed := full_at n (by kernel_rfl)
theorem cl__law_m_listed_1 (n : Nat) (a0 : Av) : (L n).call "_law_m_listed" 1 [a0] = (L n).full "_law_m_listed" [a0] := call1 n (f := "_law_m_listed") (ds := []) (k := 1) (by kernel_rfl) [a0] rfl
theorem fl__law_wrong_rows (n : Nat) : (L (n + 1)).full "_law_wrong_rows" = runD (L n) p__law_wrong_rows := full_at n (by kernel_rfl)
theorem cl__law_wrong_rows_2 (n : Nat) (a0 : Av) (a1 : Av) : (L n).call "_law_wrong_rows" 2 [a0, a1] = (L n).full "_law_wrong_rows" [a0, a1] := call1 n (f := "_law_wrong_rows") (ds := []) (k := 2) (by kernel_rfl) [a0, a1] rfl
theorem fl_law (n : Nat) : (L (n + 1)).full "law" = runD (L n) p_law := full_at n (by kernel_rfl)
theorem cl_law_1 (n : Nat) (a0 : Av) : (L n).call "law" 1 [a0] = (L n).full "law" [a0] := call1 n (f := "law") (ds := []) (k := 1) (by kernel_rfl) [a0] rfl
theorem fl_Machine___init__ (n : Nat) : (L (n + 1)).full "Machine.__init__" = runD (L n) p_Machine___init__ := full_at n (by kernel_rfl)
theorem cl_Machine___init___2 (n : Nat) (a0 : Av) (a1 : Av) : (L n).call "Machine.__init__" 2 [a0, a1] = (L n).full "Machine.__init__" [a0, a1] := call1 n (f := "Machine.__init__") (ds := []) (k := 2) (by kernel_rfl) [a0, a1] rfl
theorem fl_Machine___eq__ (n : Nat) : (L (n + 1)).full "Machine.__eq__" = runD (L n) p_Machine___eq__ := full_at n (by kernel_rfl)
theorem cl_Machine___eq___2 (n : Nat) (a0 : Av) (a1 : Av) : (L n).call "Machine.__eq__" 2 [a0, a1] = (L n).full "Machine.__eq__" [a0, a1] := call1 n (f := "Machine.__eq__") (ds := []) (k := 2) (by kernel_rfl) [a0, a1] rfl
theorem fl_Machine___len__ (n : Nat) : (L (n + 1)).full "Machine.__len__" = runD (L n) p_Machine___len__ := full_at n (by kernel_rfl)
theorem cl_Machine___len___1 (n : Nat) (a0 : Av) : (L n).call "Machine.__len__" 1 [a0] = (L n).full "Machine.__len__" [a0] := call1 n (f := "Machine.__len__") (ds := []) (k := 1) (by kernel_rfl) [a0] rfl
theorem gl_LETTERS (n : Nat) : gloM (L n) "LETTERS" = pure (.val (.str "abcdefghijklmnopqrstuvwxyz")) := glo1 n (by kernel_rfl)
theorem gl_LONGEST (n : Nat) : gloM (L n) "LONGEST" = pure (.val (.int 8)) := glo1 n (by kernel_rfl)
theorem gl_PASS (n : Nat) : gloM (L n) "PASS" = pure (.val (.str "pass")) := glo1 n (by kernel_rfl)
theorem gl_WORDS (n : Nat) : gloM (L n) "WORDS" = pure (.val (.tup [(.str "end"), (.str "loop"), (.str "me"), (.str "none"), (.str "on"), (.str "or"), (.str "pass"), (.str "they"), (.str "times")])) := glo1 n (by kernel_rfl)
theorem gl_ME (n : Nat) : gloM (L n) "ME" = pure (.val (.str "me")) := glo1 n (by kernel_rfl)
theorem gl_THEY (n : Nat) : gloM (L n) "THEY" = pure (.val (.str "they")) := glo1 n (by kernel_rfl)
theorem gl_MOST_MOVES (n : Nat) : gloM (L n) "MOST_MOVES" = pure (.val (.int 7)) := glo1 n (by kernel_rfl)
theorem gl_MOST_STANDS (n : Nat) : gloM (L n) "MOST_STANDS" = pure (.val (.int 2000)) := glo1 n (by kernel_rfl)
end LW

namespace LW
open PySem PySem.Spec L2
/-- kinds whose values isinstance may ask -/
def kindOf : Wv → Option Kn
  | .non => some (.bt "NoneType")
  | .bl _ => some (.bt "bool")
  | .int _ => some (.bt "int")
  | .str _ => some (.bt "str")
  | .tup _ => some (.bt "tuple")
  | .lst _ => some (.bt "list")
  | .kls _ => some (.bt "list")
  | .dct _ _ => some (.bt "dict")
  | .ins c _ _ => if c = "Machine" then some (.own "Machine") else none
  | _ => none
theorem knA_kind {n : Nat} {M : Mem} {v : Wv} {k : Kn} (hk : kindOf v = some k) : knA (L n) M (Av.val v) = some k := by
  cases v <;> first
    | exact hk
    | (simp [kindOf] at hk; done)
    | skip
  rename_i c ns xs
  simp only [kindOf] at hk
  split at hk
  · rename_i h
    subst h
    cases hk
    show (if (L n).icl "Machine" = true then some (Kn.own "Machine") else none) = _
    rw [L_icl]
    rfl
  · cases hk
theorem isi_ty (n : Nat) {v : Wv} {k : Kn} {t : String} {r : Bool} (hk : kindOf v = some k) (hr : pk.g0.kit k (.bt t) = some r) : biA (L n) "isinstance" [Av.val v, Av.val (.ty t)] = (pure (vB r) : Mw Av) := by
  funext M
  show (match isiA (L n) M (Av.val v) (Av.val (.ty t)) with
      | some k => Out.ok (Av.val (.bl k)) M
      | none => .no) = _
  have : isiA (L n) M (Av.val v) (Av.val (.ty t)) = some r := by
    unfold isiA
    rw [knA_kind hk]
    show (L n).kit k (.bt t) = some r
    rw [L_kit]
    exact hr
  rw [this]
  rfl
theorem isi_2 (n : Nat) {v : Wv} {k : Kn} {t u : String} {r s : Bool} (hk : kindOf v = some k) (hr : pk.g0.kit k (.bt t) = some r) (hs : pk.g0.kit k (.bt u) = some s) : biA (L n) "isinstance" [Av.val v, Av.val (.tup [.ty t, .ty u])] = (pure (vB (r || s)) : Mw Av) := by
  funext M
  show (match isiA (L n) M (Av.val v) (Av.val (.tup [.ty t, .ty u])) with
      | some k => Out.ok (Av.val (.bl k)) M
      | none => .no) = _
  have : isiA (L n) M (Av.val v) (Av.val (.tup [.ty t, .ty u])) = some (r || s) := by
    unfold isiA
    rw [knA_kind hk]
    show anyKit (L n) k [.ty t, .ty u] = _
    unfold anyKit
    show (match (L n).kit k (.bt t) with
      | some true => some true
      | some false => anyKit (L n) k [.ty u]
      | none => none) = _
    rw [L_kit, hr]
    cases r with
    | true => rfl
    | false =>
      show anyKit (L n) k [.ty u] = _
      unfold anyKit
      show (match (L n).kit k (.bt u) with
        | some true => some true
        | some false => some false
        | none => none) = _
      rw [L_kit, hs]
      cases s <;> rfl
  rw [this]
  rfl
def isInt : Wv → Bool
  | .int _ => true
  | _ => false
def isBl : Wv → Bool
  | .bl _ => true
  | _ => false
def isStr : Wv → Bool
  | .str _ => true
  | _ => false
def isSeq : Wv → Bool
  | .tup _ => true
  | .lst _ => true
  | .kls _ => true
  | _ => false
theorem isi_int (n : Nat) {v : Wv} {k : Kn} (hk : kindOf v = some k) : biA (L n) "isinstance" [Av.val v, Av.val (.ty "int")] = (pure (vB (isInt v || isBl v)) : Mw Av) := by
  refine isi_ty n hk ?_
  cases v <;> simp only [kindOf] at hk <;> first
    | (cases hk; done)
    | (cases hk; rfl)
    | (split at hk <;> cases hk; rfl)
theorem isi_bl (n : Nat) {v : Wv} {k : Kn} (hk : kindOf v = some k) : biA (L n) "isinstance" [Av.val v, Av.val (.ty "bool")] = (pure (vB (isBl v)) : Mw Av) := by
  refine isi_ty n hk ?_
  cases v <;> simp only [kindOf] at hk <;> first
    | (cases hk; done)
    | (cases hk; rfl)
    | (split at hk <;> cases hk; rfl)
theorem isi_str (n : Nat) {v : Wv} {k : Kn} (hk : kindOf v = some k) : biA (L n) "isinstance" [Av.val v, Av.val (.ty "str")] = (pure (vB (isStr v)) : Mw Av) := by
  refine isi_ty n hk ?_
  cases v <;> simp only [kindOf] at hk <;> first
    | (cases hk; done)
    | (cases hk; rfl)
    | (split at hk <;> cases hk; rfl)
theorem isi_seq (n : Nat) {v : Wv} {k : Kn} (hk : kindOf v = some k) : biA (L n) "isinstance" [Av.val v, Av.val (.tup [.ty "list", .ty "tuple"])] = (pure (vB (isSeq v)) : Mw Av) := by
  have : isSeq v = ((match v with | .lst _ => true | .kls _ => true | _ => false) || (match v with | .tup _ => true | _ => false)) := by cases v <;> rfl
  rw [this]
  refine isi_2 n hk ?_ ?_ <;> cases v <;> simp only [kindOf] at hk <;> first
    | (cases hk; done)
    | (cases hk; rfl)
    | (split at hk <;> cases hk; rfl)
theorem is_integer_eq (n : Nat) {v : Wv} {k : Kn} (hk : kindOf v = some k) : (L (n + 1)).full "is_integer" [Av.val v] = (pure (vB (isInt v)) : Mw Av) := by
  rw [fl_is_integer]
  refine runD_pure fun m => ?_
  unfold p_is_integer
  simp (implicitDefEqProofs := false) only [mw_bind_pure, List.map, List.length, List.replicate, List.append, List.cons_append, List.nil_append, Nat.add_sub_cancel, Nat.reduceSub, Nat.sub_self, Nat.zero_add, Nat.reduceAdd, List.set, thenS_cons, thenS_nil, thenS_nx, thenS_rt, thenS_bind, thenS_ite, bind_ite, mw_pure_bind, mw_assoc, es_ret, es_ife, es_asg, es_rais, es_fld, es_sub, es_ex, es_par, es_pass, es_retN, ev_andF, ev_andT, evAnd_2, evAnd_1, evTAnd_0, evTAnd_1, evOr_1, evOr_2, evTOr_0, evTOr_1, ev_orF, ev_orT, ev_bi, ev_var, varM_cons0, varM_consS, ev_typ, ev_con, ev_notF, ev_notT, evL_0, evL_1, post_false, post_bl, asB_bl, blV_eq, truM_bl, retA_val, ev_cmp, ev_chain, ev_call, ev_ix', ev_attr', ev_bin', ev_sl, ev_tup, ev_lst, ev_ife, ev_glo, ev_make, ev_makek, ev_heard, wv_int, wv_bl, wv_str, wv_non, mw_ite, evO_0, evO_1, intO_int, cmp_isI, cmp_isN, cmp_geI, cmp_leI, cmp_ltI, cmp_gtI, bin_add, bin_sub, newT_0, newL_0, newT_1, newL_1, newT_2, newL_2, newT_3, newL_3, newT_4, newL_4, newT_5, newL_5, isi_int n hk, isi_bl n hk, mw_pure_bind, truM_bl, retA_val, mw_ite]
  cases v <;> rfl
theorem kind_int (i : Int) : kindOf (.int i) = some (.bt "int") := rfl
def isWithin (v : Wv) (lo hi : Int) : Bool := match v with
  | .int i => decide (lo ≤ i) && decide (i ≤ hi)
  | _ => false
theorem is_within_eq (n : Nat) {v : Wv} {k : Kn} (hk : kindOf v = some k) (lo hi : Int) : (L (n + 2)).full "is_within" [Av.val v, vI lo, vI hi] = (pure (vB (isWithin v lo hi)) : Mw Av) := by
  rw [fl_is_within]
  refine runD_pure fun m => ?_
  unfold p_is_within
  simp (implicitDefEqProofs := false) only [mw_bind_pure, List.map, List.length, List.replicate, List.append, List.cons_append, List.nil_append, Nat.add_sub_cancel, Nat.reduceSub, Nat.sub_self, Nat.zero_add, Nat.reduceAdd, List.set, thenS_cons, thenS_nil, thenS_nx, thenS_rt, thenS_bind, thenS_ite, bind_ite, mw_pure_bind, mw_assoc, es_ret, es_ife, es_asg, es_rais, es_fld, es_sub, es_ex, es_par, es_pass, es_retN, ev_andF, ev_andT, evAnd_2, evAnd_1, evTAnd_0, evTAnd_1, evOr_1, evOr_2, evTOr_0, evTOr_1, ev_orF, ev_orT, ev_bi, ev_var, varM_cons0, varM_consS, ev_typ, ev_con, ev_notF, ev_notT, evL_0, evL_1, post_false, post_bl, asB_bl, blV_eq, truM_bl, retA_val, ev_cmp, ev_chain, ev_call, ev_ix', ev_attr', ev_bin', ev_sl, ev_tup, ev_lst, ev_ife, ev_glo, ev_make, ev_makek, ev_heard, wv_int, wv_bl, wv_str, wv_non, mw_ite, evO_0, evO_1, intO_int, cmp_isI, cmp_isN, cmp_geI, cmp_leI, cmp_ltI, cmp_gtI, bin_add, bin_sub, newT_0, newL_0, newT_1, newL_1, newT_2, newL_2, newT_3, newL_3, newT_4, newL_4, newT_5, newL_5, cl_is_integer_1, is_integer_eq n hk]
  cases hv : isInt v with
  | false =>
    simp only [Bool.not_false, if_true]
    cases v <;> first | rfl | simp [isInt] at hv
  | true =>
    cases v <;> simp [isInt] at hv
    rename_i i
    simp (implicitDefEqProofs := false) only [mw_bind_pure, List.map, List.length, List.replicate, List.append, List.cons_append, List.nil_append, Nat.add_sub_cancel, Nat.reduceSub, Nat.sub_self, Nat.zero_add, Nat.reduceAdd, List.set, thenS_cons, thenS_nil, thenS_nx, thenS_rt, thenS_bind, thenS_ite, bind_ite, mw_pure_bind, mw_assoc, es_ret, es_ife, es_asg, es_rais, es_fld, es_sub, es_ex, es_par, es_pass, es_retN, ev_andF, ev_andT, evAnd_2, evAnd_1, evTAnd_0, evTAnd_1, evOr_1, evOr_2, evTOr_0, evTOr_1, ev_orF, ev_orT, ev_bi, ev_var, varM_cons0, varM_consS, ev_typ, ev_con, ev_notF, ev_notT, evL_0, evL_1, post_false, post_bl, asB_bl, blV_eq, truM_bl, retA_val, ev_cmp, ev_chain, ev_call, ev_ix', ev_attr', ev_bin', ev_sl, ev_tup, ev_lst, ev_ife, ev_glo, ev_make, ev_makek, ev_heard, wv_int, wv_bl, wv_str, wv_non, mw_ite, evO_0, evO_1, intO_int, cmp_isI, cmp_isN, cmp_geI, cmp_leI, cmp_ltI, cmp_gtI, bin_add, bin_sub, newT_0, newL_0, newT_1, newL_1, newT_2, newL_2, newT_3, newL_3, newT_4, newL_4, newT_5, newL_5, Bool.not_true, Bool.false_eq_true, if_false]
    by_cases h1 : lo ≤ i <;> simp [isWithin, h1]
def lenV : Wv → Option Nat
  | .tup xs => some xs.length
  | .lst xs => some xs.length
  | _ => none
def itemsV : Wv → List Wv
  | .tup xs => xs
  | .lst xs => xs
  | _ => []
def isListed (v : Wv) (lo hi : Nat) : Bool := match lenV v with
  | some k => decide (lo ≤ k) && decide (k ≤ hi)
  | none => false
theorem is_listed_eq (n : Nat) {v : Wv} {k : Kn} (hk : kindOf v = some k) (hkl : ∀ xs, v ≠ .kls xs) (lo hi : Nat) : (L (n + 1)).full "is_listed" [Av.val v, vI lo, vI hi] = (pure (vB (isListed v lo hi)) : Mw Av) := by
  rw [fl_is_listed]
  refine runD_pure fun m => ?_
  unfold p_is_listed
  simp (implicitDefEqProofs := false) only [mw_bind_pure, List.map, List.length, List.replicate, List.append, List.cons_append, List.nil_append, Nat.add_sub_cancel, Nat.reduceSub, Nat.sub_self, Nat.zero_add, Nat.reduceAdd, List.set, thenS_cons, thenS_nil, thenS_nx, thenS_rt, thenS_bind, thenS_ite, bind_ite, mw_pure_bind, mw_assoc, es_ret, es_ife, es_asg, es_rais, es_fld, es_sub, es_ex, es_par, es_pass, es_retN, ev_andF, ev_andT, evAnd_2, evAnd_1, evTAnd_0, evTAnd_1, evOr_1, evOr_2, evTOr_0, evTOr_1, ev_orF, ev_orT, ev_bi, ev_var, varM_cons0, varM_consS, ev_typ, ev_con, ev_notF, ev_notT, evL_0, evL_1, post_false, post_bl, asB_bl, blV_eq, truM_bl, retA_val, ev_cmp, ev_chain, ev_call, ev_ix', ev_attr', ev_bin', ev_sl, ev_tup, ev_lst, ev_ife, ev_glo, ev_make, ev_makek, ev_heard, wv_int, wv_bl, wv_str, wv_non, mw_ite, evO_0, evO_1, intO_int, cmp_isI, cmp_isN, cmp_geI, cmp_leI, cmp_ltI, cmp_gtI, bin_add, bin_sub, newT_0, newL_0, newT_1, newL_1, newT_2, newL_2, newT_3, newL_3, newT_4, newL_4, newT_5, newL_5, isi_seq n hk]
  cases v with
  | kls xs => exact absurd rfl (hkl _)
  | tup xs =>
    simp only [isSeq, if_true, mw_bind_pure, List.map, List.length, List.replicate, List.append, List.cons_append, List.nil_append, Nat.add_sub_cancel, Nat.reduceSub, Nat.sub_self, Nat.zero_add, Nat.reduceAdd, List.set, thenS_cons, thenS_nil, thenS_nx, thenS_rt, thenS_bind, thenS_ite, bind_ite, mw_pure_bind, mw_assoc, es_ret, es_ife, es_asg, es_rais, es_fld, es_sub, es_ex, es_par, es_pass, es_retN, ev_andF, ev_andT, evAnd_2, evAnd_1, evTAnd_0, evTAnd_1, evOr_1, evOr_2, evTOr_0, evTOr_1, ev_orF, ev_orT, ev_bi, ev_var, varM_cons0, varM_consS, ev_typ, ev_con, ev_notF, ev_notT, evL_0, evL_1, post_false, post_bl, asB_bl, blV_eq, truM_bl, retA_val, ev_cmp, ev_chain, ev_call, ev_ix', ev_attr', ev_bin', ev_sl, ev_tup, ev_lst, ev_ife, ev_glo, ev_make, ev_makek, ev_heard, wv_int, wv_bl, wv_str, wv_non, mw_ite, evO_0, evO_1, intO_int, cmp_isI, cmp_isN, cmp_geI, cmp_leI, cmp_ltI, cmp_gtI, bin_add, bin_sub, newT_0, newL_0, newT_1, newL_1, newT_2, newL_2, newT_3, newL_3, newT_4, newL_4, newT_5, newL_5, len_tup, Int.ofNat_le]
    by_cases h1 : lo ≤ xs.length <;> simp [isListed, lenV, h1]
  | lst xs =>
    simp only [isSeq, if_true, mw_bind_pure, List.map, List.length, List.replicate, List.append, List.cons_append, List.nil_append, Nat.add_sub_cancel, Nat.reduceSub, Nat.sub_self, Nat.zero_add, Nat.reduceAdd, List.set, thenS_cons, thenS_nil, thenS_nx, thenS_rt, thenS_bind, thenS_ite, bind_ite, mw_pure_bind, mw_assoc, es_ret, es_ife, es_asg, es_rais, es_fld, es_sub, es_ex, es_par, es_pass, es_retN, ev_andF, ev_andT, evAnd_2, evAnd_1, evTAnd_0, evTAnd_1, evOr_1, evOr_2, evTOr_0, evTOr_1, ev_orF, ev_orT, ev_bi, ev_var, varM_cons0, varM_consS, ev_typ, ev_con, ev_notF, ev_notT, evL_0, evL_1, post_false, post_bl, asB_bl, blV_eq, truM_bl, retA_val, ev_cmp, ev_chain, ev_call, ev_ix', ev_attr', ev_bin', ev_sl, ev_tup, ev_lst, ev_ife, ev_glo, ev_make, ev_makek, ev_heard, wv_int, wv_bl, wv_str, wv_non, mw_ite, evO_0, evO_1, intO_int, cmp_isI, cmp_isN, cmp_geI, cmp_leI, cmp_ltI, cmp_gtI, bin_add, bin_sub, newT_0, newL_0, newT_1, newL_1, newT_2, newL_2, newT_3, newL_3, newT_4, newL_4, newT_5, newL_5, len_lst, Int.ofNat_le]
    by_cases h1 : lo ≤ xs.length <;> simp [isListed, lenV, h1]
  | _ => simp [isSeq, mw_bind_pure, List.map, List.length, List.replicate, List.append, List.cons_append, List.nil_append, Nat.add_sub_cancel, Nat.reduceSub, Nat.sub_self, Nat.zero_add, Nat.reduceAdd, List.set, thenS_cons, thenS_nil, thenS_nx, thenS_rt, thenS_bind, thenS_ite, bind_ite, mw_pure_bind, mw_assoc, es_ret, es_ife, es_asg, es_rais, es_fld, es_sub, es_ex, es_par, es_pass, es_retN, ev_andF, ev_andT, evAnd_2, evAnd_1, evTAnd_0, evTAnd_1, evOr_1, evOr_2, evTOr_0, evTOr_1, ev_orF, ev_orT, ev_bi, ev_var, varM_cons0, varM_consS, ev_typ, ev_con, ev_notF, ev_notT, evL_0, evL_1, post_false, post_bl, asB_bl, blV_eq, truM_bl, retA_val, ev_cmp, ev_chain, ev_call, ev_ix', ev_attr', ev_bin', ev_sl, ev_tup, ev_lst, ev_ife, ev_glo, ev_make, ev_makek, ev_heard, wv_int, wv_bl, wv_str, wv_non, mw_ite, evO_0, evO_1, intO_int, cmp_isI, cmp_isN, cmp_geI, cmp_leI, cmp_ltI, cmp_gtI, bin_add, bin_sub, newT_0, newL_0, newT_1, newL_1, newT_2, newL_2, newT_3, newL_3, newT_4, newL_4, newT_5, newL_5, isListed, lenV]
/-! names -/
def isS (v : Wv) (s : Str) : Bool := match v with
  | .str x => x == s
  | _ => false
theorem toPy_ins {c : Str} {ns : List Str} {xs : List Wv} {d : PyData} (h : toPy (.ins c ns xs) = some d) : False := by simp [toPy] at h
theorem eqA_str {M : Mem} {v : Wv} {d : PyData} {s : Str} (h : toPy v = some d) (hd : SeqAt.shaped d = true) (hs : SeqAt.shaped (.str s) = true) : eqA M (.val v) (vS s) = some (isS v s) := by
  rw [eqA_py h rfl hd hs]
  cases v <;> simp only [toPy] at h <;> first
    | (cases h <;> rfl)
    | (split at h <;> cases h <;> rfl)
theorem cmpD {g : G} {o : CmpOp} {v : Wv} {b : Av} (h : ∀ c ns xs, v ≠ .ins c ns xs) : cmpA g o (.val v) b = fun M => Mw.of (dataC M (.val v) b o) M := by
  cases v <;> first
    | rfl
    | exact absurd rfl (h _ _ _)
theorem cmp_eqS {g : G} {v : Wv} {d : PyData} {s : Str} (h : toPy v = some d) (hd : SeqAt.shaped d = true) (hs : SeqAt.shaped (.str s) = true) : cmpA g .Eq (.val v) (vS s) = pure (isS v s) := by
  rw [cmpD (fun c ns xs e => by rw [e] at h; exact toPy_ins h)]
  funext M
  show Mw.of (eqK M (.val v) (vS s)) M = _
  have e := eqA_str (M := M) h hd hs
  rw [eqA_py h rfl hd hs] at e
  rw [eqK_py h rfl hd hs (by cases v <;> first | rfl | simp [tupI, lstI]), Option.some.inj e]
  rfl
theorem cmp_neS {g : G} {v : Wv} {d : PyData} {s : Str} (h : toPy v = some d) (hd : SeqAt.shaped d = true) (hs : SeqAt.shaped (.str s) = true) : cmpA g .NotEq (.val v) (vS s) = pure (!isS v s) := by
  rw [cmpD (fun c ns xs e => by rw [e] at h; exact toPy_ins h)]
  funext M
  show Mw.of (neK M (.val v) (vS s)) M = _
  have e := eqA_str (M := M) h hd hs
  rw [eqA_py h rfl hd hs] at e
  rw [neK_py h rfl hd hs, Option.some.inj e]
  rfl
def letS : Str := "abcdefghijklmnopqrstuvwxyz"
def letB (w : Wv) : Bool := match w with
  | .str z => !(Builtin.Str.occurrences letS z 0 letS.length 1).isEmpty
  | _ => false
def wordsL : List Wv := [.str "end", .str "loop", .str "me", .str "none", .str "on", .str "or", .str "pass", .str "they", .str "times"]
def isName (v : Wv) : Bool := match v with
  | .str x => decide (1 ≤ x.length) && decide (x.length ≤ 8) && !(wordsL.any fun y => eqFlat y (.str x)) && (charsW x).all letB
  | _ => false
theorem in_words {g : G} (x : Str) : cmpA g .In (vS x) (.val (.tup wordsL)) = pure (wordsL.any fun y => eqFlat y (.str x)) := by
  funext M
  show Mw.of (if flatW (.str x) = true ∧ wordsL.all flatW = true then some (wordsL.any fun y => eqFlat y (.str x)) else none) M = _
  rw [if_pos ⟨rfl, by decide⟩]
  rfl
theorem in_let {g : G} (c : Nat) : cmpA g .In (vS ⟨#[c]⟩) (vS letS) = pure (letB (.str ⟨#[c]⟩)) := rfl
theorem is_name_eq (n : Nat) {v : Wv} {k : Kn} (hk : kindOf v = some k) (hx : ∀ x, v = .str x → x.length ≤ sizeLine) : (L (n + 1)).full "is_name" [Av.val v] = (pure (vB (isName v)) : Mw Av) := by
  rw [fl_is_name]
  refine runD_pure fun m => ?_
  unfold p_is_name
  simp (implicitDefEqProofs := false) only [mw_bind_pure, List.map, List.length, List.replicate, List.append, List.cons_append, List.nil_append, Nat.add_sub_cancel, Nat.reduceSub, Nat.sub_self, Nat.zero_add, Nat.reduceAdd, List.set, thenS_cons, thenS_nil, thenS_nx, thenS_rt, thenS_bind, thenS_ite, bind_ite, mw_pure_bind, mw_assoc, es_ret, es_ife, es_asg, es_rais, es_fld, es_sub, es_ex, es_par, es_pass, es_retN, ev_andF, ev_andT, evAnd_2, evAnd_1, evTAnd_0, evTAnd_1, evOr_1, evOr_2, evTOr_0, evTOr_1, ev_orF, ev_orT, ev_bi, ev_var, varM_cons0, varM_consS, ev_typ, ev_con, ev_notF, ev_notT, evL_0, evL_1, post_false, post_bl, asB_bl, blV_eq, truM_bl, retA_val, ev_cmp, ev_chain, ev_call, ev_ix', ev_attr', ev_bin', ev_sl, ev_tup, ev_lst, ev_ife, ev_glo, ev_make, ev_makek, ev_heard, wv_int, wv_bl, wv_str, wv_non, mw_ite, evO_0, evO_1, intO_int, cmp_isI, cmp_isN, cmp_geI, cmp_leI, cmp_ltI, cmp_gtI, bin_add, bin_sub, newT_0, newL_0, newT_1, newL_1, newT_2, newL_2, newT_3, newL_3, newT_4, newL_4, newT_5, newL_5, isi_str n hk]
  cases hv : isStr v with
  | false =>
    simp only [Bool.not_false, if_true, mw_bind_pure, List.map, List.length, List.replicate, List.append, List.cons_append, List.nil_append, Nat.add_sub_cancel, Nat.reduceSub, Nat.sub_self, Nat.zero_add, Nat.reduceAdd, List.set, thenS_cons, thenS_nil, thenS_nx, thenS_rt, thenS_bind, thenS_ite, bind_ite, mw_pure_bind, mw_assoc, es_ret, es_ife, es_asg, es_rais, es_fld, es_sub, es_ex, es_par, es_pass, es_retN, ev_andF, ev_andT, evAnd_2, evAnd_1, evTAnd_0, evTAnd_1, evOr_1, evOr_2, evTOr_0, evTOr_1, ev_orF, ev_orT, ev_bi, ev_var, varM_cons0, varM_consS, ev_typ, ev_con, ev_notF, ev_notT, evL_0, evL_1, post_false, post_bl, asB_bl, blV_eq, truM_bl, retA_val, ev_cmp, ev_chain, ev_call, ev_ix', ev_attr', ev_bin', ev_sl, ev_tup, ev_lst, ev_ife, ev_glo, ev_make, ev_makek, ev_heard, wv_int, wv_bl, wv_str, wv_non, mw_ite, evO_0, evO_1, intO_int, cmp_isI, cmp_isN, cmp_geI, cmp_leI, cmp_ltI, cmp_gtI, bin_add, bin_sub, newT_0, newL_0, newT_1, newL_1, newT_2, newL_2, newT_3, newL_3, newT_4, newL_4, newT_5, newL_5]
    cases v <;> first | rfl | simp [isStr] at hv
  | true =>
    cases v <;> simp [isStr] at hv
    rename_i x
    have hl := hx x rfl
    have w : (Wv.tup [.str "end", .str "loop", .str "me", .str "none", .str "on", .str "or", .str "pass", .str "they", .str "times"]) = .tup wordsL := rfl
    simp (implicitDefEqProofs := false) only [mw_bind_pure, List.map, List.length, List.replicate, List.append, List.cons_append, List.nil_append, Nat.add_sub_cancel, Nat.reduceSub, Nat.sub_self, Nat.zero_add, Nat.reduceAdd, List.set, thenS_cons, thenS_nil, thenS_nx, thenS_rt, thenS_bind, thenS_ite, bind_ite, mw_pure_bind, mw_assoc, es_ret, es_ife, es_asg, es_rais, es_fld, es_sub, es_ex, es_par, es_pass, es_retN, ev_andF, ev_andT, evAnd_2, evAnd_1, evTAnd_0, evTAnd_1, evOr_1, evOr_2, evTOr_0, evTOr_1, ev_orF, ev_orT, ev_bi, ev_var, varM_cons0, varM_consS, ev_typ, ev_con, ev_notF, ev_notT, evL_0, evL_1, post_false, post_bl, asB_bl, blV_eq, truM_bl, retA_val, ev_cmp, ev_chain, ev_call, ev_ix', ev_attr', ev_bin', ev_sl, ev_tup, ev_lst, ev_ife, ev_glo, ev_make, ev_makek, ev_heard, wv_int, wv_bl, wv_str, wv_non, mw_ite, evO_0, evO_1, intO_int, cmp_isI, cmp_isN, cmp_geI, cmp_leI, cmp_ltI, cmp_gtI, bin_add, bin_sub, newT_0, newL_0, newT_1, newL_1, newT_2, newL_2, newT_3, newL_3, newT_4, newL_4, newT_5, newL_5, Bool.not_true, Bool.false_eq_true, if_false, len_str x hl, gl_LONGEST, gl_WORDS, w, in_words]
    have lc := lc_map (g := L n) (e := .cmp .In (.var 1) (.glo "LETTERS")) (i := 1) (its := [.var 0]) (k := .val) (own := [1]) (η := [some (vS x), none]) (ws := charsW x) (f := fun w => .bl (letB w)) (by simp (implicitDefEqProofs := false) only [mw_bind_pure, List.map, List.length, List.replicate, List.append, List.cons_append, List.nil_append, Nat.add_sub_cancel, Nat.reduceSub, Nat.sub_self, Nat.zero_add, Nat.reduceAdd, List.set, thenS_cons, thenS_nil, thenS_nx, thenS_rt, thenS_bind, thenS_ite, bind_ite, mw_pure_bind, mw_assoc, es_ret, es_ife, es_asg, es_rais, es_fld, es_sub, es_ex, es_par, es_pass, es_retN, ev_andF, ev_andT, evAnd_2, evAnd_1, evTAnd_0, evTAnd_1, evOr_1, evOr_2, evTOr_0, evTOr_1, ev_orF, ev_orT, ev_bi, ev_var, varM_cons0, varM_consS, ev_typ, ev_con, ev_notF, ev_notT, evL_0, evL_1, post_false, post_bl, asB_bl, blV_eq, truM_bl, retA_val, ev_cmp, ev_chain, ev_call, ev_ix', ev_attr', ev_bin', ev_sl, ev_tup, ev_lst, ev_ife, ev_glo, ev_make, ev_makek, ev_heard, wv_int, wv_bl, wv_str, wv_non, mw_ite, evO_0, evO_1, intO_int, cmp_isI, cmp_isN, cmp_geI, cmp_leI, cmp_ltI, cmp_gtI, bin_add, bin_sub, newT_0, newL_0, newT_1, newL_1, newT_2, newL_2, newT_3, newL_3, newT_4, newL_4, newT_5, newL_5, walk_str]) (by unfold charsW; simpa [Str.length] using hl) (fun w hw => by
      obtain ⟨c, _, rfl⟩ := List.mem_map.mp hw
      simp only [wipeE, mw_bind_pure, List.map, List.length, List.replicate, List.append, List.cons_append, List.nil_append, Nat.add_sub_cancel, Nat.reduceSub, Nat.sub_self, Nat.zero_add, Nat.reduceAdd, List.set, thenS_cons, thenS_nil, thenS_nx, thenS_rt, thenS_bind, thenS_ite, bind_ite, mw_pure_bind, mw_assoc, es_ret, es_ife, es_asg, es_rais, es_fld, es_sub, es_ex, es_par, es_pass, es_retN, ev_andF, ev_andT, evAnd_2, evAnd_1, evTAnd_0, evTAnd_1, evOr_1, evOr_2, evTOr_0, evTOr_1, ev_orF, ev_orT, ev_bi, ev_var, varM_cons0, varM_consS, ev_typ, ev_con, ev_notF, ev_notT, evL_0, evL_1, post_false, post_bl, asB_bl, blV_eq, truM_bl, retA_val, ev_cmp, ev_chain, ev_call, ev_ix', ev_attr', ev_bin', ev_sl, ev_tup, ev_lst, ev_ife, ev_glo, ev_make, ev_makek, ev_heard, wv_int, wv_bl, wv_str, wv_non, mw_ite, evO_0, evO_1, intO_int, cmp_isI, cmp_isN, cmp_geI, cmp_leI, cmp_ltI, cmp_gtI, bin_add, bin_sub, newT_0, newL_0, newT_1, newL_1, newT_2, newL_2, newT_3, newL_3, newT_4, newL_4, newT_5, newL_5, gl_LETTERS]
      exact congrArg (· >>= fun a => pure (vB a)) (in_let (g := L n) c))
    rw [lc]
    simp (implicitDefEqProofs := false) only [mw_bind_pure, List.map, List.length, List.replicate, List.append, List.cons_append, List.nil_append, Nat.add_sub_cancel, Nat.reduceSub, Nat.sub_self, Nat.zero_add, Nat.reduceAdd, List.set, thenS_cons, thenS_nil, thenS_nx, thenS_rt, thenS_bind, thenS_ite, bind_ite, mw_pure_bind, mw_assoc, es_ret, es_ife, es_asg, es_rais, es_fld, es_sub, es_ex, es_par, es_pass, es_retN, ev_andF, ev_andT, evAnd_2, evAnd_1, evTAnd_0, evTAnd_1, evOr_1, evOr_2, evTOr_0, evTOr_1, ev_orF, ev_orT, ev_bi, ev_var, varM_cons0, varM_consS, ev_typ, ev_con, ev_notF, ev_notT, evL_0, evL_1, post_false, post_bl, asB_bl, blV_eq, truM_bl, retA_val, ev_cmp, ev_chain, ev_call, ev_ix', ev_attr', ev_bin', ev_sl, ev_tup, ev_lst, ev_ife, ev_glo, ev_make, ev_makek, ev_heard, wv_int, wv_bl, wv_str, wv_non, mw_ite, evO_0, evO_1, intO_int, cmp_isI, cmp_isN, cmp_geI, cmp_leI, cmp_ltI, cmp_gtI, bin_add, bin_sub, newT_0, newL_0, newT_1, newL_1, newT_2, newL_2, newT_3, newL_3, newT_4, newL_4, newT_5, newL_5, all_map]
    have e1 : (1 ≤ (x.length : Int)) ↔ 1 ≤ x.length := by omega
    have e2 : ((x.length : Int) ≤ 8) ↔ x.length ≤ 8 := by omega
    show _ = pure (vB (decide (1 ≤ x.length) && decide (x.length ≤ 8) && !(wordsL.any fun y => eqFlat y (.str x)) && (charsW x).all letB))
    generalize (wordsL.any fun y => eqFlat y (.str x)) = b3
    cases b3 <;> by_cases h1 : 1 ≤ x.length <;> by_cases h2 : x.length ≤ 8 <;> simp [e1, e2, h1, h2, mw_bind_pure, List.map, List.length, List.replicate, List.append, List.cons_append, List.nil_append, Nat.add_sub_cancel, Nat.reduceSub, Nat.sub_self, Nat.zero_add, Nat.reduceAdd, List.set, thenS_cons, thenS_nil, thenS_nx, thenS_rt, thenS_bind, thenS_ite, bind_ite, mw_pure_bind, mw_assoc, es_ret, es_ife, es_asg, es_rais, es_fld, es_sub, es_ex, es_par, es_pass, es_retN, ev_andF, ev_andT, evAnd_2, evAnd_1, evTAnd_0, evTAnd_1, evOr_1, evOr_2, evTOr_0, evTOr_1, ev_orF, ev_orT, ev_bi, ev_var, varM_cons0, varM_consS, ev_typ, ev_con, ev_notF, ev_notT, evL_0, evL_1, post_false, post_bl, asB_bl, blV_eq, truM_bl, retA_val, ev_cmp, ev_chain, ev_call, ev_ix', ev_attr', ev_bin', ev_sl, ev_tup, ev_lst, ev_ife, ev_glo, ev_make, ev_makek, ev_heard, wv_int, wv_bl, wv_str, wv_non, mw_ite, evO_0, evO_1, intO_int, cmp_isI, cmp_isN, cmp_geI, cmp_leI, cmp_ltI, cmp_gtI, bin_add, bin_sub, newT_0, newL_0, newT_1, newL_1, newT_2, newL_2, newT_3, newL_3, newT_4, newL_4, newT_5, newL_5]
def isMove (v : Wv) : Bool := isName v || isS v "pass"
theorem shaped_str {x : Str} (h : PyData.strOk x = true) : SeqAt.shaped (.str x) = true := by simp [SeqAt.shaped, PyData.canLay0, PyData.depth, h]
theorem is_move_eq (n : Nat) {v : Wv} {k : Kn} (hk : kindOf v = some k) (hx : ∀ x, v = .str x → x.length ≤ sizeLine ∧ PyData.strOk x = true) : (L (n + 2)).full "is_move_name" [Av.val v] = (pure (vB (isMove v)) : Mw Av) := by
  rw [fl_is_move_name]
  refine runD_pure fun m => ?_
  unfold p_is_move_name
  simp (implicitDefEqProofs := false) only [mw_bind_pure, List.map, List.length, List.replicate, List.append, List.cons_append, List.nil_append, Nat.add_sub_cancel, Nat.reduceSub, Nat.sub_self, Nat.zero_add, Nat.reduceAdd, List.set, thenS_cons, thenS_nil, thenS_nx, thenS_rt, thenS_bind, thenS_ite, bind_ite, mw_pure_bind, mw_assoc, es_ret, es_ife, es_asg, es_rais, es_fld, es_sub, es_ex, es_par, es_pass, es_retN, ev_andF, ev_andT, evAnd_2, evAnd_1, evTAnd_0, evTAnd_1, evOr_1, evOr_2, evTOr_0, evTOr_1, ev_orF, ev_orT, ev_bi, ev_var, varM_cons0, varM_consS, ev_typ, ev_con, ev_notF, ev_notT, evL_0, evL_1, post_false, post_bl, asB_bl, blV_eq, truM_bl, retA_val, ev_cmp, ev_chain, ev_call, ev_ix', ev_attr', ev_bin', ev_sl, ev_tup, ev_lst, ev_ife, ev_glo, ev_make, ev_makek, ev_heard, wv_int, wv_bl, wv_str, wv_non, mw_ite, evO_0, evO_1, intO_int, cmp_isI, cmp_isN, cmp_geI, cmp_leI, cmp_ltI, cmp_gtI, bin_add, bin_sub, newT_0, newL_0, newT_1, newL_1, newT_2, newL_2, newT_3, newL_3, newT_4, newL_4, newT_5, newL_5, cl_is_name_1, is_name_eq n hk (fun x e => (hx x e).1), isi_str _ hk]
  unfold isMove
  cases h1 : isName v with
  | true => simp [mw_bind_pure, List.map, List.length, List.replicate, List.append, List.cons_append, List.nil_append, Nat.add_sub_cancel, Nat.reduceSub, Nat.sub_self, Nat.zero_add, Nat.reduceAdd, List.set, thenS_cons, thenS_nil, thenS_nx, thenS_rt, thenS_bind, thenS_ite, bind_ite, mw_pure_bind, mw_assoc, es_ret, es_ife, es_asg, es_rais, es_fld, es_sub, es_ex, es_par, es_pass, es_retN, ev_andF, ev_andT, evAnd_2, evAnd_1, evTAnd_0, evTAnd_1, evOr_1, evOr_2, evTOr_0, evTOr_1, ev_orF, ev_orT, ev_bi, ev_var, varM_cons0, varM_consS, ev_typ, ev_con, ev_notF, ev_notT, evL_0, evL_1, post_false, post_bl, asB_bl, blV_eq, truM_bl, retA_val, ev_cmp, ev_chain, ev_call, ev_ix', ev_attr', ev_bin', ev_sl, ev_tup, ev_lst, ev_ife, ev_glo, ev_make, ev_makek, ev_heard, wv_int, wv_bl, wv_str, wv_non, mw_ite, evO_0, evO_1, intO_int, cmp_isI, cmp_isN, cmp_geI, cmp_leI, cmp_ltI, cmp_gtI, bin_add, bin_sub, newT_0, newL_0, newT_1, newL_1, newT_2, newL_2, newT_3, newL_3, newT_4, newL_4, newT_5, newL_5]
  | false =>
    cases hv : isStr v with
    | false =>
      cases v <;> first | rfl | simp [isStr] at hv
    | true =>
      cases v <;> simp [isStr] at hv
      rename_i x
      simp (implicitDefEqProofs := false) only [mw_bind_pure, List.map, List.length, List.replicate, List.append, List.cons_append, List.nil_append, Nat.add_sub_cancel, Nat.reduceSub, Nat.sub_self, Nat.zero_add, Nat.reduceAdd, List.set, thenS_cons, thenS_nil, thenS_nx, thenS_rt, thenS_bind, thenS_ite, bind_ite, mw_pure_bind, mw_assoc, es_ret, es_ife, es_asg, es_rais, es_fld, es_sub, es_ex, es_par, es_pass, es_retN, ev_andF, ev_andT, evAnd_2, evAnd_1, evTAnd_0, evTAnd_1, evOr_1, evOr_2, evTOr_0, evTOr_1, ev_orF, ev_orT, ev_bi, ev_var, varM_cons0, varM_consS, ev_typ, ev_con, ev_notF, ev_notT, evL_0, evL_1, post_false, post_bl, asB_bl, blV_eq, truM_bl, retA_val, ev_cmp, ev_chain, ev_call, ev_ix', ev_attr', ev_bin', ev_sl, ev_tup, ev_lst, ev_ife, ev_glo, ev_make, ev_makek, ev_heard, wv_int, wv_bl, wv_str, wv_non, mw_ite, evO_0, evO_1, intO_int, cmp_isI, cmp_isN, cmp_geI, cmp_leI, cmp_ltI, cmp_gtI, bin_add, bin_sub, newT_0, newL_0, newT_1, newL_1, newT_2, newL_2, newT_3, newL_3, newT_4, newL_4, newT_5, newL_5, Bool.false_eq_true, if_false, if_true, gl_PASS, Bool.false_or, cmp_eqS (g := L (n + 1)) (s := "pass") (v := .str x) rfl (shaped_str (hx x rfl).2) (by decide +kernel)]
/-! pairs, rows -/
mutual
def okW : Wv → Bool
  | .non => true
  | .bl _ => true
  | .int _ => true
  | .str x => decide (x.length ≤ sizeLine) && PyData.strOk x
  | .tup xs => decide (xs.length ≤ sizeLine) && okL xs
  | .lst xs => decide (xs.length ≤ sizeLine) && okL xs
  | .dct _ _ => true
  | .ins c _ _ => decide (c = "Machine")
  | _ => false
def okL : List Wv → Bool
  | [] => true
  | w :: ws => okW w && okL ws
end
theorem okL_mem : ∀ {ws : List Wv}, okL ws = true → ∀ w ∈ ws, okW w = true
  | [], _, w, h => by cases h
  | x :: ws, h, w, hw => by
    simp only [okL, Bool.and_eq_true] at h
    rcases List.mem_cons.mp hw with e | hw
    · rw [e]; exact h.1
    · exact okL_mem h.2 w hw
theorem ok_kind {v : Wv} (h : okW v = true) : ∃ k, kindOf v = some k := by
  cases v <;> first
    | exact ⟨_, rfl⟩
    | (simp [okW] at h; done)
    | skip
  simp only [okW, decide_eq_true_eq] at h
  subst h
  exact ⟨_, rfl⟩
theorem ok_kls {v : Wv} (h : okW v = true) (xs : List Wv) : v ≠ .kls xs := fun e => by rw [e] at h; simp [okW] at h
theorem ok_str {v : Wv} (h : okW v = true) (x : Str) (e : v = .str x) : x.length ≤ sizeLine ∧ PyData.strOk x = true := by
  rw [e] at h
  simpa [okW] using h
def isPair (v : Wv) (m : Int) : Bool := isListed v 2 2 && (match itemsV v with
  | [a, b] => isMove a && isWithin b 0 (m - 1)
  | _ => false)
theorem two {α : Type} {xs : List α} (h : xs.length = 2) : ∃ a b, xs = [a, b] := by
  match xs, h with
  | [a, b], _ => exact ⟨a, b, rfl⟩
theorem is_pair_eq (n : Nat) {v : Wv} (hv : okW v = true) (m : Int) : (L (n + 3)).full "is_pair" [Av.val v, vI m] = (pure (vB (isPair v m)) : Mw Av) := by
  obtain ⟨k, hk⟩ := ok_kind hv
  rw [fl_is_pair]
  refine runD_pure fun j => ?_
  unfold p_is_pair
  have h1 := is_listed_eq (n + 1) hk (ok_kls hv) 2 2
  have h1' : (L (n + 1 + 1)).full "is_listed" [Av.val v, Av.val (.int 2), Av.val (.int 2)] = (pure (vB (isListed v 2 2)) : Mw Av) := h1
  simp (implicitDefEqProofs := false) only [mw_bind_pure, List.map, List.length, List.replicate, List.append, List.cons_append, List.nil_append, Nat.add_sub_cancel, Nat.reduceSub, Nat.sub_self, Nat.zero_add, Nat.reduceAdd, List.set, thenS_cons, thenS_nil, thenS_nx, thenS_rt, thenS_bind, thenS_ite, bind_ite, mw_pure_bind, mw_assoc, es_ret, es_ife, es_asg, es_rais, es_fld, es_sub, es_ex, es_par, es_pass, es_retN, ev_andF, ev_andT, evAnd_2, evAnd_1, evTAnd_0, evTAnd_1, evOr_1, evOr_2, evTOr_0, evTOr_1, ev_orF, ev_orT, ev_bi, ev_var, varM_cons0, varM_consS, ev_typ, ev_con, ev_notF, ev_notT, evL_0, evL_1, post_false, post_bl, asB_bl, blV_eq, truM_bl, retA_val, ev_cmp, ev_chain, ev_call, ev_ix', ev_attr', ev_bin', ev_sl, ev_tup, ev_lst, ev_ife, ev_glo, ev_make, ev_makek, ev_heard, wv_int, wv_bl, wv_str, wv_non, mw_ite, evO_0, evO_1, intO_int, cmp_isI, cmp_isN, cmp_geI, cmp_leI, cmp_ltI, cmp_gtI, bin_add, bin_sub, newT_0, newL_0, newT_1, newL_1, newT_2, newL_2, newT_3, newL_3, newT_4, newL_4, newT_5, newL_5, cl_is_listed_3, h1']
  unfold isPair
  cases hl : isListed v 2 2 with
  | false => simp [mw_bind_pure, List.map, List.length, List.replicate, List.append, List.cons_append, List.nil_append, Nat.add_sub_cancel, Nat.reduceSub, Nat.sub_self, Nat.zero_add, Nat.reduceAdd, List.set, thenS_cons, thenS_nil, thenS_nx, thenS_rt, thenS_bind, thenS_ite, bind_ite, mw_pure_bind, mw_assoc, es_ret, es_ife, es_asg, es_rais, es_fld, es_sub, es_ex, es_par, es_pass, es_retN, ev_andF, ev_andT, evAnd_2, evAnd_1, evTAnd_0, evTAnd_1, evOr_1, evOr_2, evTOr_0, evTOr_1, ev_orF, ev_orT, ev_bi, ev_var, varM_cons0, varM_consS, ev_typ, ev_con, ev_notF, ev_notT, evL_0, evL_1, post_false, post_bl, asB_bl, blV_eq, truM_bl, retA_val, ev_cmp, ev_chain, ev_call, ev_ix', ev_attr', ev_bin', ev_sl, ev_tup, ev_lst, ev_ife, ev_glo, ev_make, ev_makek, ev_heard, wv_int, wv_bl, wv_str, wv_non, mw_ite, evO_0, evO_1, intO_int, cmp_isI, cmp_isN, cmp_geI, cmp_leI, cmp_ltI, cmp_gtI, bin_add, bin_sub, newT_0, newL_0, newT_1, newL_1, newT_2, newL_2, newT_3, newL_3, newT_4, newL_4, newT_5, newL_5]
  | true =>
    simp (implicitDefEqProofs := false) only [mw_bind_pure, List.map, List.length, List.replicate, List.append, List.cons_append, List.nil_append, Nat.add_sub_cancel, Nat.reduceSub, Nat.sub_self, Nat.zero_add, Nat.reduceAdd, List.set, thenS_cons, thenS_nil, thenS_nx, thenS_rt, thenS_bind, thenS_ite, bind_ite, mw_pure_bind, mw_assoc, es_ret, es_ife, es_asg, es_rais, es_fld, es_sub, es_ex, es_par, es_pass, es_retN, ev_andF, ev_andT, evAnd_2, evAnd_1, evTAnd_0, evTAnd_1, evOr_1, evOr_2, evTOr_0, evTOr_1, ev_orF, ev_orT, ev_bi, ev_var, varM_cons0, varM_consS, ev_typ, ev_con, ev_notF, ev_notT, evL_0, evL_1, post_false, post_bl, asB_bl, blV_eq, truM_bl, retA_val, ev_cmp, ev_chain, ev_call, ev_ix', ev_attr', ev_bin', ev_sl, ev_tup, ev_lst, ev_ife, ev_glo, ev_make, ev_makek, ev_heard, wv_int, wv_bl, wv_str, wv_non, mw_ite, evO_0, evO_1, intO_int, cmp_isI, cmp_isN, cmp_geI, cmp_leI, cmp_ltI, cmp_gtI, bin_add, bin_sub, newT_0, newL_0, newT_1, newL_1, newT_2, newL_2, newT_3, newL_3, newT_4, newL_4, newT_5, newL_5, if_true, Bool.true_and]
    cases v with
    | tup xs =>
      obtain ⟨a, b, rfl⟩ := two (xs := xs) (by simp [isListed, lenV] at hl; omega)
      simp only [okW, okL, Bool.and_eq_true] at hv
      obtain ⟨ka, hka⟩ := ok_kind hv.2.1
      obtain ⟨kb, hkb⟩ := ok_kind hv.2.2.1
      have e1 := ix_tup [a, b] 0 (w := a) rfl
      have e2 := ix_tup [a, b] 1 (w := b) rfl
      have e3 := is_within_eq n hkb 0 (m - 1)
      simp (implicitDefEqProofs := false) only [mw_bind_pure, List.map, List.length, List.replicate, List.append, List.cons_append, List.nil_append, Nat.add_sub_cancel, Nat.reduceSub, Nat.sub_self, Nat.zero_add, Nat.reduceAdd, List.set, thenS_cons, thenS_nil, thenS_nx, thenS_rt, thenS_bind, thenS_ite, bind_ite, mw_pure_bind, mw_assoc, es_ret, es_ife, es_asg, es_rais, es_fld, es_sub, es_ex, es_par, es_pass, es_retN, ev_andF, ev_andT, evAnd_2, evAnd_1, evTAnd_0, evTAnd_1, evOr_1, evOr_2, evTOr_0, evTOr_1, ev_orF, ev_orT, ev_bi, ev_var, varM_cons0, varM_consS, ev_typ, ev_con, ev_notF, ev_notT, evL_0, evL_1, post_false, post_bl, asB_bl, blV_eq, truM_bl, retA_val, ev_cmp, ev_chain, ev_call, ev_ix', ev_attr', ev_bin', ev_sl, ev_tup, ev_lst, ev_ife, ev_glo, ev_make, ev_makek, ev_heard, wv_int, wv_bl, wv_str, wv_non, mw_ite, evO_0, evO_1, intO_int, cmp_isI, cmp_isN, cmp_geI, cmp_leI, cmp_ltI, cmp_gtI, bin_add, bin_sub, newT_0, newL_0, newT_1, newL_1, newT_2, newL_2, newT_3, newL_3, newT_4, newL_4, newT_5, newL_5, e1, e2, e3, cl_is_move_name_1, cl_is_within_3, is_move_eq n hka (ok_str hv.2.1), itemsV]
      cases isMove a <;> simp [mw_bind_pure, List.map, List.length, List.replicate, List.append, List.cons_append, List.nil_append, Nat.add_sub_cancel, Nat.reduceSub, Nat.sub_self, Nat.zero_add, Nat.reduceAdd, List.set, thenS_cons, thenS_nil, thenS_nx, thenS_rt, thenS_bind, thenS_ite, bind_ite, mw_pure_bind, mw_assoc, es_ret, es_ife, es_asg, es_rais, es_fld, es_sub, es_ex, es_par, es_pass, es_retN, ev_andF, ev_andT, evAnd_2, evAnd_1, evTAnd_0, evTAnd_1, evOr_1, evOr_2, evTOr_0, evTOr_1, ev_orF, ev_orT, ev_bi, ev_var, varM_cons0, varM_consS, ev_typ, ev_con, ev_notF, ev_notT, evL_0, evL_1, post_false, post_bl, asB_bl, blV_eq, truM_bl, retA_val, ev_cmp, ev_chain, ev_call, ev_ix', ev_attr', ev_bin', ev_sl, ev_tup, ev_lst, ev_ife, ev_glo, ev_make, ev_makek, ev_heard, wv_int, wv_bl, wv_str, wv_non, mw_ite, evO_0, evO_1, intO_int, cmp_isI, cmp_isN, cmp_geI, cmp_leI, cmp_ltI, cmp_gtI, bin_add, bin_sub, newT_0, newL_0, newT_1, newL_1, newT_2, newL_2, newT_3, newL_3, newT_4, newL_4, newT_5, newL_5]
    | lst xs =>
      obtain ⟨a, b, rfl⟩ := two (xs := xs) (by simp [isListed, lenV] at hl; omega)
      simp only [okW, okL, Bool.and_eq_true] at hv
      obtain ⟨ka, hka⟩ := ok_kind hv.2.1
      obtain ⟨kb, hkb⟩ := ok_kind hv.2.2.1
      have e1 := ix_lst [a, b] 0 (w := a) rfl
      have e2 := ix_lst [a, b] 1 (w := b) rfl
      have e3 := is_within_eq n hkb 0 (m - 1)
      simp (implicitDefEqProofs := false) only [mw_bind_pure, List.map, List.length, List.replicate, List.append, List.cons_append, List.nil_append, Nat.add_sub_cancel, Nat.reduceSub, Nat.sub_self, Nat.zero_add, Nat.reduceAdd, List.set, thenS_cons, thenS_nil, thenS_nx, thenS_rt, thenS_bind, thenS_ite, bind_ite, mw_pure_bind, mw_assoc, es_ret, es_ife, es_asg, es_rais, es_fld, es_sub, es_ex, es_par, es_pass, es_retN, ev_andF, ev_andT, evAnd_2, evAnd_1, evTAnd_0, evTAnd_1, evOr_1, evOr_2, evTOr_0, evTOr_1, ev_orF, ev_orT, ev_bi, ev_var, varM_cons0, varM_consS, ev_typ, ev_con, ev_notF, ev_notT, evL_0, evL_1, post_false, post_bl, asB_bl, blV_eq, truM_bl, retA_val, ev_cmp, ev_chain, ev_call, ev_ix', ev_attr', ev_bin', ev_sl, ev_tup, ev_lst, ev_ife, ev_glo, ev_make, ev_makek, ev_heard, wv_int, wv_bl, wv_str, wv_non, mw_ite, evO_0, evO_1, intO_int, cmp_isI, cmp_isN, cmp_geI, cmp_leI, cmp_ltI, cmp_gtI, bin_add, bin_sub, newT_0, newL_0, newT_1, newL_1, newT_2, newL_2, newT_3, newL_3, newT_4, newL_4, newT_5, newL_5, e1, e2, e3, cl_is_move_name_1, cl_is_within_3, is_move_eq n hka (ok_str hv.2.1), itemsV]
      cases isMove a <;> simp [mw_bind_pure, List.map, List.length, List.replicate, List.append, List.cons_append, List.nil_append, Nat.add_sub_cancel, Nat.reduceSub, Nat.sub_self, Nat.zero_add, Nat.reduceAdd, List.set, thenS_cons, thenS_nil, thenS_nx, thenS_rt, thenS_bind, thenS_ite, bind_ite, mw_pure_bind, mw_assoc, es_ret, es_ife, es_asg, es_rais, es_fld, es_sub, es_ex, es_par, es_pass, es_retN, ev_andF, ev_andT, evAnd_2, evAnd_1, evTAnd_0, evTAnd_1, evOr_1, evOr_2, evTOr_0, evTOr_1, ev_orF, ev_orT, ev_bi, ev_var, varM_cons0, varM_consS, ev_typ, ev_con, ev_notF, ev_notT, evL_0, evL_1, post_false, post_bl, asB_bl, blV_eq, truM_bl, retA_val, ev_cmp, ev_chain, ev_call, ev_ix', ev_attr', ev_bin', ev_sl, ev_tup, ev_lst, ev_ife, ev_glo, ev_make, ev_makek, ev_heard, wv_int, wv_bl, wv_str, wv_non, mw_ite, evO_0, evO_1, intO_int, cmp_isI, cmp_isN, cmp_geI, cmp_leI, cmp_ltI, cmp_gtI, bin_add, bin_sub, newT_0, newL_0, newT_1, newL_1, newT_2, newL_2, newT_3, newL_3, newT_4, newL_4, newT_5, newL_5]
    | _ => simp [isListed, lenV] at hl
def ascS (xs : List Str) : Bool := (xs.zip (xs.drop 1)).all fun p => decide (p.1.cps.toList < p.2.cps.toList)
def ascB (w : Wv) : Bool := match w with
  | .tup [.str a, .str b] => decide (a.cps.toList < b.cps.toList)
  | _ => false
theorem pairs_str (xs ys : List Str) : pairsW (xs.map .str) (ys.map .str) = (xs.zip ys).map fun p => .tup [.str p.1, .str p.2] := by
  unfold pairsW
  induction xs generalizing ys with
  | nil => rfl
  | cons x xs ih =>
    cases ys with
    | nil => rfl
    | cons y ys => simp only [List.map_cons, List.zipWith_cons_cons, List.zip_cons_cons, ih]
theorem is_asc_eq (n : Nat) (xs : List Str) (hl : xs.length ≤ sizeLine) : (L (n + 1)).full "is_ascending" [Av.val (.lst (xs.map .str))] = (pure (vB (ascS xs)) : Mw Av) := by
  rw [fl_is_ascending]
  refine runD_pure fun m => ?_
  unfold p_is_ascending
  have lc := lc_mapT (g := L n) (e := .cmp .Lt (.var 1) (.var 2)) (t := .tup [.name 1, .name 2]) (its := [.var 0, .sl (.var 0) (some (.con (.int 1))) none]) (k := .zip) (own := [1, 2]) (η := [some (Av.val (.lst (xs.map .str))), none, none]) (ws := pairsW (xs.map .str) ((xs.drop 1).map .str)) (f := fun w => .bl (ascB w))
    (by simp (implicitDefEqProofs := false) only [mw_bind_pure, List.map, List.length, List.replicate, List.append, List.cons_append, List.nil_append, Nat.add_sub_cancel, Nat.reduceSub, Nat.sub_self, Nat.zero_add, Nat.reduceAdd, List.set, thenS_cons, thenS_nil, thenS_nx, thenS_rt, thenS_bind, thenS_ite, bind_ite, mw_pure_bind, mw_assoc, es_ret, es_ife, es_asg, es_rais, es_fld, es_sub, es_ex, es_par, es_pass, es_retN, ev_andF, ev_andT, evAnd_2, evAnd_1, evTAnd_0, evTAnd_1, evOr_1, evOr_2, evTOr_0, evTOr_1, ev_orF, ev_orT, ev_bi, ev_var, varM_cons0, varM_consS, ev_typ, ev_con, ev_notF, ev_notT, evL_0, evL_1, post_false, post_bl, asB_bl, blV_eq, truM_bl, retA_val, ev_cmp, ev_chain, ev_call, ev_ix', ev_attr', ev_bin', ev_sl, ev_tup, ev_lst, ev_ife, ev_glo, ev_make, ev_makek, ev_heard, wv_int, wv_bl, wv_str, wv_non, mw_ite, evO_0, evO_1, intO_int, cmp_isI, cmp_isN, cmp_geI, cmp_leI, cmp_ltI, cmp_gtI, bin_add, bin_sub, newT_0, newL_0, newT_1, newL_1, newT_2, newL_2, newT_3, newL_3, newT_4, newL_4, newT_5, newL_5, sl1_lst, zip_lst, List.map_drop]) (by rw [pairs_str]; simp; omega) (fun w hw => by
      rw [pairs_str] at hw
      obtain ⟨p, _, rfl⟩ := List.mem_map.mp hw
      refine ⟨[some (Av.val (.lst (xs.map .str))), some (vS p.1), some (vS p.2)], rfl, ?_⟩
      simp (implicitDefEqProofs := false) only [mw_bind_pure, List.map, List.length, List.replicate, List.append, List.cons_append, List.nil_append, Nat.add_sub_cancel, Nat.reduceSub, Nat.sub_self, Nat.zero_add, Nat.reduceAdd, List.set, thenS_cons, thenS_nil, thenS_nx, thenS_rt, thenS_bind, thenS_ite, bind_ite, mw_pure_bind, mw_assoc, es_ret, es_ife, es_asg, es_rais, es_fld, es_sub, es_ex, es_par, es_pass, es_retN, ev_andF, ev_andT, evAnd_2, evAnd_1, evTAnd_0, evTAnd_1, evOr_1, evOr_2, evTOr_0, evTOr_1, ev_orF, ev_orT, ev_bi, ev_var, varM_cons0, varM_consS, ev_typ, ev_con, ev_notF, ev_notT, evL_0, evL_1, post_false, post_bl, asB_bl, blV_eq, truM_bl, retA_val, ev_cmp, ev_chain, ev_call, ev_ix', ev_attr', ev_bin', ev_sl, ev_tup, ev_lst, ev_ife, ev_glo, ev_make, ev_makek, ev_heard, wv_int, wv_bl, wv_str, wv_non, mw_ite, evO_0, evO_1, intO_int, cmp_isI, cmp_isN, cmp_geI, cmp_leI, cmp_ltI, cmp_gtI, bin_add, bin_sub, newT_0, newL_0, newT_1, newL_1, newT_2, newL_2, newT_3, newL_3, newT_4, newL_4, newT_5, newL_5, cmp_ltS, ascB])
  simp (implicitDefEqProofs := false) only [mw_bind_pure, List.map, List.length, List.replicate, List.append, List.cons_append, List.nil_append, Nat.add_sub_cancel, Nat.reduceSub, Nat.sub_self, Nat.zero_add, Nat.reduceAdd, List.set, thenS_cons, thenS_nil, thenS_nx, thenS_rt, thenS_bind, thenS_ite, bind_ite, mw_pure_bind, mw_assoc, es_ret, es_ife, es_asg, es_rais, es_fld, es_sub, es_ex, es_par, es_pass, es_retN, ev_andF, ev_andT, evAnd_2, evAnd_1, evTAnd_0, evTAnd_1, evOr_1, evOr_2, evTOr_0, evTOr_1, ev_orF, ev_orT, ev_bi, ev_var, varM_cons0, varM_consS, ev_typ, ev_con, ev_notF, ev_notT, evL_0, evL_1, post_false, post_bl, asB_bl, blV_eq, truM_bl, retA_val, ev_cmp, ev_chain, ev_call, ev_ix', ev_attr', ev_bin', ev_sl, ev_tup, ev_lst, ev_ife, ev_glo, ev_make, ev_makek, ev_heard, wv_int, wv_bl, wv_str, wv_non, mw_ite, evO_0, evO_1, intO_int, cmp_isI, cmp_isN, cmp_geI, cmp_leI, cmp_ltI, cmp_gtI, bin_add, bin_sub, newT_0, newL_0, newT_1, newL_1, newT_2, newL_2, newT_3, newL_3, newT_4, newL_4, newT_5, newL_5, lc, all_map]
  rw [pairs_str, List.all_map]
  rfl
def nameOf (w : Wv) : Str := match itemsV w with
  | .str s :: _ => s
  | _ => ""
def isRow (v : Wv) (m : Int) : Bool := isListed v 2 3 && (match itemsV v with
  | .str s :: r => if s = "me" then decide (r.length = 2) && isPair (.tup r) m else decide (s = "they") && (match r with
    | [w] => isListed w 1 7 && ((itemsV w).all (fun p => isPair p m) && ascS ((itemsV w).map nameOf))
    | _ => false)
  | _ => false)
theorem isMove_str {v : Wv} (h : isMove v = true) : ∃ s, v = .str s := by
  cases v <;> first
    | exact ⟨_, rfl⟩
    | simp [isMove, isName, isS] at h
theorem isPair_name {p : Wv} {m : Int} (h : isPair p m = true) : ∃ b, itemsV p = [.str (nameOf p), b] := by
  unfold isPair at h
  simp only [Bool.and_eq_true] at h
  obtain ⟨_, h⟩ := h
  split at h
  · rename_i a b e
    simp only [Bool.and_eq_true] at h
    obtain ⟨s, rfl⟩ := isMove_str h.1
    exact ⟨b, by unfold nameOf; rw [e]⟩
  · cases h
theorem isPair_items (a b : List Wv) (m : Int) (h : a = b) : isPair (.lst a) m = isPair (.tup b) m := by
  subst h
  rfl
theorem row_they (n : Nat) {v b : Wv} (hix : ixM (.val v) (vI 1) = pure (.val b)) (ob : okW b = true) (hl : isListed b 1 7 = true) (m : Int) :
    evAnd (L (n + 3)) [.bi "all" [.lc false (.call "is_pair" [.var 2, .var 1]) (.name 2) .val [.ix (.var 0) (.con (.int 1))] [] [2]], .call "is_ascending" [.lc false (.ix (.var 2) (.con (.int 0))) (.name 2) .val [.ix (.var 0) (.con (.int 1))] [] [2]]] [some (Av.val v), some (vI m), none] =
      (pure (vB ((itemsV b).all (fun p => isPair p m) && ascS ((itemsV b).map nameOf))) : Mw Av) := by
  have hb : itA .val [Av.val b] = pure (itemsV b) := by
    cases b <;> first
      | rfl
      | (simp [isListed, lenV] at hl; done)
  have hlen : (itemsV b).length ≤ 7 := by
    cases b <;> simp [isListed, lenV, itemsV] at hl ⊢ <;> omega
  have hok : okL (itemsV b) = true := by
    cases b <;> simp [itemsV, okW, okL] at ob ⊢ <;> exact ob.2
  have hs : (itemsV b).length ≤ sizeLine := by rw [show sizeLine = 16777216 from by decide]; omega
  have lc1 := lc_map (g := L (n + 3)) (e := .call "is_pair" [.var 2, .var 1]) (i := 2) (its := [.ix (.var 0) (.con (.int 1))]) (k := .val) (own := [2]) (η := [some (Av.val v), some (vI m), none]) (ws := itemsV b) (f := fun w => .bl (isPair w m))
    (by simp (implicitDefEqProofs := false) only [mw_bind_pure, List.map, List.length, List.replicate, List.append, List.cons_append, List.nil_append, Nat.add_sub_cancel, Nat.reduceSub, Nat.sub_self, Nat.zero_add, Nat.reduceAdd, List.set, thenS_cons, thenS_nil, thenS_nx, thenS_rt, thenS_bind, thenS_ite, bind_ite, mw_pure_bind, mw_assoc, es_ret, es_ife, es_asg, es_rais, es_fld, es_sub, es_ex, es_par, es_pass, es_retN, ev_andF, ev_andT, evAnd_2, evAnd_1, evTAnd_0, evTAnd_1, evOr_1, evOr_2, evTOr_0, evTOr_1, ev_orF, ev_orT, ev_bi, ev_var, varM_cons0, varM_consS, ev_typ, ev_con, ev_notF, ev_notT, evL_0, evL_1, post_false, post_bl, asB_bl, blV_eq, truM_bl, retA_val, ev_cmp, ev_chain, ev_call, ev_ix', ev_attr', ev_bin', ev_sl, ev_tup, ev_lst, ev_ife, ev_glo, ev_make, ev_makek, ev_heard, wv_int, wv_bl, wv_str, wv_non, mw_ite, evO_0, evO_1, intO_int, cmp_isI, cmp_isN, cmp_geI, cmp_leI, cmp_ltI, cmp_gtI, bin_add, bin_sub, newT_0, newL_0, newT_1, newL_1, newT_2, newL_2, newT_3, newL_3, newT_4, newL_4, newT_5, newL_5, hix, hb]) hs (fun w hw => by simp only [wipeE, mw_bind_pure, List.map, List.length, List.replicate, List.append, List.cons_append, List.nil_append, Nat.add_sub_cancel, Nat.reduceSub, Nat.sub_self, Nat.zero_add, Nat.reduceAdd, List.set, thenS_cons, thenS_nil, thenS_nx, thenS_rt, thenS_bind, thenS_ite, bind_ite, mw_pure_bind, mw_assoc, es_ret, es_ife, es_asg, es_rais, es_fld, es_sub, es_ex, es_par, es_pass, es_retN, ev_andF, ev_andT, evAnd_2, evAnd_1, evTAnd_0, evTAnd_1, evOr_1, evOr_2, evTOr_0, evTOr_1, ev_orF, ev_orT, ev_bi, ev_var, varM_cons0, varM_consS, ev_typ, ev_con, ev_notF, ev_notT, evL_0, evL_1, post_false, post_bl, asB_bl, blV_eq, truM_bl, retA_val, ev_cmp, ev_chain, ev_call, ev_ix', ev_attr', ev_bin', ev_sl, ev_tup, ev_lst, ev_ife, ev_glo, ev_make, ev_makek, ev_heard, wv_int, wv_bl, wv_str, wv_non, mw_ite, evO_0, evO_1, intO_int, cmp_isI, cmp_isN, cmp_geI, cmp_leI, cmp_ltI, cmp_gtI, bin_add, bin_sub, newT_0, newL_0, newT_1, newL_1, newT_2, newL_2, newT_3, newL_3, newT_4, newL_4, newT_5, newL_5, cl_is_pair_2, is_pair_eq n (okL_mem hok w hw)])
  simp (implicitDefEqProofs := false) only [mw_bind_pure, List.map, List.length, List.replicate, List.append, List.cons_append, List.nil_append, Nat.add_sub_cancel, Nat.reduceSub, Nat.sub_self, Nat.zero_add, Nat.reduceAdd, List.set, thenS_cons, thenS_nil, thenS_nx, thenS_rt, thenS_bind, thenS_ite, bind_ite, mw_pure_bind, mw_assoc, es_ret, es_ife, es_asg, es_rais, es_fld, es_sub, es_ex, es_par, es_pass, es_retN, ev_andF, ev_andT, evAnd_2, evAnd_1, evTAnd_0, evTAnd_1, evOr_1, evOr_2, evTOr_0, evTOr_1, ev_orF, ev_orT, ev_bi, ev_var, varM_cons0, varM_consS, ev_typ, ev_con, ev_notF, ev_notT, evL_0, evL_1, post_false, post_bl, asB_bl, blV_eq, truM_bl, retA_val, ev_cmp, ev_chain, ev_call, ev_ix', ev_attr', ev_bin', ev_sl, ev_tup, ev_lst, ev_ife, ev_glo, ev_make, ev_makek, ev_heard, wv_int, wv_bl, wv_str, wv_non, mw_ite, evO_0, evO_1, intO_int, cmp_isI, cmp_isN, cmp_geI, cmp_leI, cmp_ltI, cmp_gtI, bin_add, bin_sub, newT_0, newL_0, newT_1, newL_1, newT_2, newL_2, newT_3, newL_3, newT_4, newL_4, newT_5, newL_5, lc1, all_map]
  cases ha : (itemsV b).all (fun p => isPair p m) with
  | false => simp [mw_bind_pure, List.map, List.length, List.replicate, List.append, List.cons_append, List.nil_append, Nat.add_sub_cancel, Nat.reduceSub, Nat.sub_self, Nat.zero_add, Nat.reduceAdd, List.set, thenS_cons, thenS_nil, thenS_nx, thenS_rt, thenS_bind, thenS_ite, bind_ite, mw_pure_bind, mw_assoc, es_ret, es_ife, es_asg, es_rais, es_fld, es_sub, es_ex, es_par, es_pass, es_retN, ev_andF, ev_andT, evAnd_2, evAnd_1, evTAnd_0, evTAnd_1, evOr_1, evOr_2, evTOr_0, evTOr_1, ev_orF, ev_orT, ev_bi, ev_var, varM_cons0, varM_consS, ev_typ, ev_con, ev_notF, ev_notT, evL_0, evL_1, post_false, post_bl, asB_bl, blV_eq, truM_bl, retA_val, ev_cmp, ev_chain, ev_call, ev_ix', ev_attr', ev_bin', ev_sl, ev_tup, ev_lst, ev_ife, ev_glo, ev_make, ev_makek, ev_heard, wv_int, wv_bl, wv_str, wv_non, mw_ite, evO_0, evO_1, intO_int, cmp_isI, cmp_isN, cmp_geI, cmp_leI, cmp_ltI, cmp_gtI, bin_add, bin_sub, newT_0, newL_0, newT_1, newL_1, newT_2, newL_2, newT_3, newL_3, newT_4, newL_4, newT_5, newL_5]
  | true =>
    have lc2 := lc_map (g := L (n + 3)) (e := .ix (.var 2) (.con (.int 0))) (i := 2) (its := [.ix (.var 0) (.con (.int 1))]) (k := .val) (own := [2]) (η := [some (Av.val v), some (vI m), none]) (ws := itemsV b) (f := fun w => .str (nameOf w))
      (by simp (implicitDefEqProofs := false) only [mw_bind_pure, List.map, List.length, List.replicate, List.append, List.cons_append, List.nil_append, Nat.add_sub_cancel, Nat.reduceSub, Nat.sub_self, Nat.zero_add, Nat.reduceAdd, List.set, thenS_cons, thenS_nil, thenS_nx, thenS_rt, thenS_bind, thenS_ite, bind_ite, mw_pure_bind, mw_assoc, es_ret, es_ife, es_asg, es_rais, es_fld, es_sub, es_ex, es_par, es_pass, es_retN, ev_andF, ev_andT, evAnd_2, evAnd_1, evTAnd_0, evTAnd_1, evOr_1, evOr_2, evTOr_0, evTOr_1, ev_orF, ev_orT, ev_bi, ev_var, varM_cons0, varM_consS, ev_typ, ev_con, ev_notF, ev_notT, evL_0, evL_1, post_false, post_bl, asB_bl, blV_eq, truM_bl, retA_val, ev_cmp, ev_chain, ev_call, ev_ix', ev_attr', ev_bin', ev_sl, ev_tup, ev_lst, ev_ife, ev_glo, ev_make, ev_makek, ev_heard, wv_int, wv_bl, wv_str, wv_non, mw_ite, evO_0, evO_1, intO_int, cmp_isI, cmp_isN, cmp_geI, cmp_leI, cmp_ltI, cmp_gtI, bin_add, bin_sub, newT_0, newL_0, newT_1, newL_1, newT_2, newL_2, newT_3, newL_3, newT_4, newL_4, newT_5, newL_5, hix, hb]) hs (fun w hw => by
        obtain ⟨c, e⟩ := isPair_name (List.all_eq_true.mp ha w hw)
        simp only [wipeE, mw_bind_pure, List.map, List.length, List.replicate, List.append, List.cons_append, List.nil_append, Nat.add_sub_cancel, Nat.reduceSub, Nat.sub_self, Nat.zero_add, Nat.reduceAdd, List.set, thenS_cons, thenS_nil, thenS_nx, thenS_rt, thenS_bind, thenS_ite, bind_ite, mw_pure_bind, mw_assoc, es_ret, es_ife, es_asg, es_rais, es_fld, es_sub, es_ex, es_par, es_pass, es_retN, ev_andF, ev_andT, evAnd_2, evAnd_1, evTAnd_0, evTAnd_1, evOr_1, evOr_2, evTOr_0, evTOr_1, ev_orF, ev_orT, ev_bi, ev_var, varM_cons0, varM_consS, ev_typ, ev_con, ev_notF, ev_notT, evL_0, evL_1, post_false, post_bl, asB_bl, blV_eq, truM_bl, retA_val, ev_cmp, ev_chain, ev_call, ev_ix', ev_attr', ev_bin', ev_sl, ev_tup, ev_lst, ev_ife, ev_glo, ev_make, ev_makek, ev_heard, wv_int, wv_bl, wv_str, wv_non, mw_ite, evO_0, evO_1, intO_int, cmp_isI, cmp_isN, cmp_geI, cmp_leI, cmp_ltI, cmp_gtI, bin_add, bin_sub, newT_0, newL_0, newT_1, newL_1, newT_2, newL_2, newT_3, newL_3, newT_4, newL_4, newT_5, newL_5]
        cases w <;> simp [itemsV] at e
        · rename_i ys
          rw [e]
          exact ix_tup _ 0 rfl
        · rename_i ys
          rw [e]
          exact ix_lst _ 0 rfl)
    have e2 : (itemsV b).map (fun w => Wv.str (nameOf w)) = ((itemsV b).map nameOf).map .str := by simp
    have as := is_asc_eq (n + 2) ((itemsV b).map nameOf) (by simpa using hs)
    simp (implicitDefEqProofs := false) only [mw_bind_pure, List.map, List.length, List.replicate, List.append, List.cons_append, List.nil_append, Nat.add_sub_cancel, Nat.reduceSub, Nat.sub_self, Nat.zero_add, Nat.reduceAdd, List.set, thenS_cons, thenS_nil, thenS_nx, thenS_rt, thenS_bind, thenS_ite, bind_ite, mw_pure_bind, mw_assoc, es_ret, es_ife, es_asg, es_rais, es_fld, es_sub, es_ex, es_par, es_pass, es_retN, ev_andF, ev_andT, evAnd_2, evAnd_1, evTAnd_0, evTAnd_1, evOr_1, evOr_2, evTOr_0, evTOr_1, ev_orF, ev_orT, ev_bi, ev_var, varM_cons0, varM_consS, ev_typ, ev_con, ev_notF, ev_notT, evL_0, evL_1, post_false, post_bl, asB_bl, blV_eq, truM_bl, retA_val, ev_cmp, ev_chain, ev_call, ev_ix', ev_attr', ev_bin', ev_sl, ev_tup, ev_lst, ev_ife, ev_glo, ev_make, ev_makek, ev_heard, wv_int, wv_bl, wv_str, wv_non, mw_ite, evO_0, evO_1, intO_int, cmp_isI, cmp_isN, cmp_geI, cmp_leI, cmp_ltI, cmp_gtI, bin_add, bin_sub, newT_0, newL_0, newT_1, newL_1, newT_2, newL_2, newT_3, newL_3, newT_4, newL_4, newT_5, newL_5, if_true, lc2, cl_is_ascending_1, e2, as, Bool.true_and]
theorem is_row_eq (n : Nat) {v : Wv} (hv : okW v = true) (m : Int) : (L (n + 4)).full "is_row" [Av.val v, vI m] = (pure (vB (isRow v m)) : Mw Av) := by
  obtain ⟨k, hk⟩ := ok_kind hv
  rw [fl_is_row]
  refine runD_pure fun j => ?_
  have h1 : (L (n + 3)).full "is_listed" [Av.val v, Av.val (.int 2), Av.val (.int 3)] = (pure (vB (isListed v 2 3)) : Mw Av) := is_listed_eq (n + 2) hk (ok_kls hv) 2 3
  unfold p_is_row
  simp (implicitDefEqProofs := false) only [mw_bind_pure, List.map, List.length, List.replicate, List.append, List.cons_append, List.nil_append, Nat.add_sub_cancel, Nat.reduceSub, Nat.sub_self, Nat.zero_add, Nat.reduceAdd, List.set, thenS_cons, thenS_nil, thenS_nx, thenS_rt, thenS_bind, thenS_ite, bind_ite, mw_pure_bind, mw_assoc, es_ret, es_ife, es_asg, es_rais, es_fld, es_sub, es_ex, es_par, es_pass, es_retN, ev_andF, ev_andT, evAnd_2, evAnd_1, evTAnd_0, evTAnd_1, evOr_1, evOr_2, evTOr_0, evTOr_1, ev_orF, ev_orT, ev_bi, ev_var, varM_cons0, varM_consS, ev_typ, ev_con, ev_notF, ev_notT, evL_0, evL_1, post_false, post_bl, asB_bl, blV_eq, truM_bl, retA_val, ev_cmp, ev_chain, ev_call, ev_ix', ev_attr', ev_bin', ev_sl, ev_tup, ev_lst, ev_ife, ev_glo, ev_make, ev_makek, ev_heard, wv_int, wv_bl, wv_str, wv_non, mw_ite, evO_0, evO_1, intO_int, cmp_isI, cmp_isN, cmp_geI, cmp_leI, cmp_ltI, cmp_gtI, bin_add, bin_sub, newT_0, newL_0, newT_1, newL_1, newT_2, newL_2, newT_3, newL_3, newT_4, newL_4, newT_5, newL_5, cl_is_listed_3, h1]
  unfold isRow
  cases hl : isListed v 2 3 with
  | false => simp [mw_bind_pure, List.map, List.length, List.replicate, List.append, List.cons_append, List.nil_append, Nat.add_sub_cancel, Nat.reduceSub, Nat.sub_self, Nat.zero_add, Nat.reduceAdd, List.set, thenS_cons, thenS_nil, thenS_nx, thenS_rt, thenS_bind, thenS_ite, bind_ite, mw_pure_bind, mw_assoc, es_ret, es_ife, es_asg, es_rais, es_fld, es_sub, es_ex, es_par, es_pass, es_retN, ev_andF, ev_andT, evAnd_2, evAnd_1, evTAnd_0, evTAnd_1, evOr_1, evOr_2, evTOr_0, evTOr_1, ev_orF, ev_orT, ev_bi, ev_var, varM_cons0, varM_consS, ev_typ, ev_con, ev_notF, ev_notT, evL_0, evL_1, post_false, post_bl, asB_bl, blV_eq, truM_bl, retA_val, ev_cmp, ev_chain, ev_call, ev_ix', ev_attr', ev_bin', ev_sl, ev_tup, ev_lst, ev_ife, ev_glo, ev_make, ev_makek, ev_heard, wv_int, wv_bl, wv_str, wv_non, mw_ite, evO_0, evO_1, intO_int, cmp_isI, cmp_isN, cmp_geI, cmp_leI, cmp_ltI, cmp_gtI, bin_add, bin_sub, newT_0, newL_0, newT_1, newL_1, newT_2, newL_2, newT_3, newL_3, newT_4, newL_4, newT_5, newL_5]
  | true =>
    cases v with
    | tup xs =>
      simp only [okW, Bool.and_eq_true, decide_eq_true_eq] at hv
      have hx : xs.length = 2 ∨ xs.length = 3 := by simp [isListed, lenV] at hl; omega
      rcases hx with hx | hx
      · obtain ⟨a, b, rfl⟩ := two hx
        simp only [okL, Bool.and_eq_true] at hv
        obtain ⟨_, oa, ob, _⟩ := hv
        obtain ⟨ka, hka⟩ := ok_kind oa
        obtain ⟨kb, hkb⟩ := ok_kind ob
        have e0 := ix_tup [a, b] 0 (w := a) rfl
        have e1 := ix_tup [a, b] 1 (w := b) rfl
        have h2 : (L (n + 3)).full "is_listed" [Av.val b, Av.val (.int 1), Av.val (.int 7)] = (pure (vB (isListed b 1 7)) : Mw Av) := is_listed_eq (n + 2) hkb (ok_kls ob) 1 7
        simp (implicitDefEqProofs := false) only [mw_bind_pure, List.map, List.length, List.replicate, List.append, List.cons_append, List.nil_append, Nat.add_sub_cancel, Nat.reduceSub, Nat.sub_self, Nat.zero_add, Nat.reduceAdd, List.set, thenS_cons, thenS_nil, thenS_nx, thenS_rt, thenS_bind, thenS_ite, bind_ite, mw_pure_bind, mw_assoc, es_ret, es_ife, es_asg, es_rais, es_fld, es_sub, es_ex, es_par, es_pass, es_retN, ev_andF, ev_andT, evAnd_2, evAnd_1, evTAnd_0, evTAnd_1, evOr_1, evOr_2, evTOr_0, evTOr_1, ev_orF, ev_orT, ev_bi, ev_var, varM_cons0, varM_consS, ev_typ, ev_con, ev_notF, ev_notT, evL_0, evL_1, post_false, post_bl, asB_bl, blV_eq, truM_bl, retA_val, ev_cmp, ev_chain, ev_call, ev_ix', ev_attr', ev_bin', ev_sl, ev_tup, ev_lst, ev_ife, ev_glo, ev_make, ev_makek, ev_heard, wv_int, wv_bl, wv_str, wv_non, mw_ite, evO_0, evO_1, intO_int, cmp_isI, cmp_isN, cmp_geI, cmp_leI, cmp_ltI, cmp_gtI, bin_add, bin_sub, newT_0, newL_0, newT_1, newL_1, newT_2, newL_2, newT_3, newL_3, newT_4, newL_4, newT_5, newL_5, e0, isi_str _ hka]
        cases hs : isStr a with
        | false => cases a <;> first | (simp [isStr] at hs; done) | simp [mw_bind_pure, List.map, List.length, List.replicate, List.append, List.cons_append, List.nil_append, Nat.add_sub_cancel, Nat.reduceSub, Nat.sub_self, Nat.zero_add, Nat.reduceAdd, List.set, thenS_cons, thenS_nil, thenS_nx, thenS_rt, thenS_bind, thenS_ite, bind_ite, mw_pure_bind, mw_assoc, es_ret, es_ife, es_asg, es_rais, es_fld, es_sub, es_ex, es_par, es_pass, es_retN, ev_andF, ev_andT, evAnd_2, evAnd_1, evTAnd_0, evTAnd_1, evOr_1, evOr_2, evTOr_0, evTOr_1, ev_orF, ev_orT, ev_bi, ev_var, varM_cons0, varM_consS, ev_typ, ev_con, ev_notF, ev_notT, evL_0, evL_1, post_false, post_bl, asB_bl, blV_eq, truM_bl, retA_val, ev_cmp, ev_chain, ev_call, ev_ix', ev_attr', ev_bin', ev_sl, ev_tup, ev_lst, ev_ife, ev_glo, ev_make, ev_makek, ev_heard, wv_int, wv_bl, wv_str, wv_non, mw_ite, evO_0, evO_1, intO_int, cmp_isI, cmp_isN, cmp_geI, cmp_leI, cmp_ltI, cmp_gtI, bin_add, bin_sub, newT_0, newL_0, newT_1, newL_1, newT_2, newL_2, newT_3, newL_3, newT_4, newL_4, newT_5, newL_5, itemsV]
        | true =>
          obtain ⟨s, rfl⟩ : ∃ s, a = .str s := by cases a <;> first | exact ⟨_, rfl⟩ | simp [isStr] at hs
          have hs2 := shaped_str (ok_str oa s rfl).2
          have q1 := cmp_eqS (g := L (n + 3)) (s := "me") (v := .str s) rfl hs2 (by decide +kernel)
          have q2 := cmp_neS (g := L (n + 3)) (s := "they") (v := .str s) rfl hs2 (by decide +kernel)
          simp (implicitDefEqProofs := false) only [mw_bind_pure, List.map, List.length, List.replicate, List.append, List.cons_append, List.nil_append, Nat.add_sub_cancel, Nat.reduceSub, Nat.sub_self, Nat.zero_add, Nat.reduceAdd, List.set, thenS_cons, thenS_nil, thenS_nx, thenS_rt, thenS_bind, thenS_ite, bind_ite, mw_pure_bind, mw_assoc, es_ret, es_ife, es_asg, es_rais, es_fld, es_sub, es_ex, es_par, es_pass, es_retN, ev_andF, ev_andT, evAnd_2, evAnd_1, evTAnd_0, evTAnd_1, evOr_1, evOr_2, evTOr_0, evTOr_1, ev_orF, ev_orT, ev_bi, ev_var, varM_cons0, varM_consS, ev_typ, ev_con, ev_notF, ev_notT, evL_0, evL_1, post_false, post_bl, asB_bl, blV_eq, truM_bl, retA_val, ev_cmp, ev_chain, ev_call, ev_ix', ev_attr', ev_bin', ev_sl, ev_tup, ev_lst, ev_ife, ev_glo, ev_make, ev_makek, ev_heard, wv_int, wv_bl, wv_str, wv_non, mw_ite, evO_0, evO_1, intO_int, cmp_isI, cmp_isN, cmp_geI, cmp_leI, cmp_ltI, cmp_gtI, bin_add, bin_sub, newT_0, newL_0, newT_1, newL_1, newT_2, newL_2, newT_3, newL_3, newT_4, newL_4, newT_5, newL_5, gl_ME, gl_THEY, gl_MOST_MOVES, q1, q2, isS, Bool.not_true, Bool.false_eq_true, if_false, itemsV, beq_iff_eq]
          by_cases z1 : s = "me"
          · simp [z1, mw_bind_pure, List.map, List.length, List.replicate, List.append, List.cons_append, List.nil_append, Nat.add_sub_cancel, Nat.reduceSub, Nat.sub_self, Nat.zero_add, Nat.reduceAdd, List.set, thenS_cons, thenS_nil, thenS_nx, thenS_rt, thenS_bind, thenS_ite, bind_ite, mw_pure_bind, mw_assoc, es_ret, es_ife, es_asg, es_rais, es_fld, es_sub, es_ex, es_par, es_pass, es_retN, ev_andF, ev_andT, evAnd_2, evAnd_1, evTAnd_0, evTAnd_1, evOr_1, evOr_2, evTOr_0, evTOr_1, ev_orF, ev_orT, ev_bi, ev_var, varM_cons0, varM_consS, ev_typ, ev_con, ev_notF, ev_notT, evL_0, evL_1, post_false, post_bl, asB_bl, blV_eq, truM_bl, retA_val, ev_cmp, ev_chain, ev_call, ev_ix', ev_attr', ev_bin', ev_sl, ev_tup, ev_lst, ev_ife, ev_glo, ev_make, ev_makek, ev_heard, wv_int, wv_bl, wv_str, wv_non, mw_ite, evO_0, evO_1, intO_int, cmp_isI, cmp_isN, cmp_geI, cmp_leI, cmp_ltI, cmp_gtI, bin_add, bin_sub, newT_0, newL_0, newT_1, newL_1, newT_2, newL_2, newT_3, newL_3, newT_4, newL_4, newT_5, newL_5, len_tup, cmp_eqI]
          · by_cases z2 : s = "they"
            · subst z2
              have ne : ¬ (("they" : Str) = "me") := by decide
              have l2 : biA (L (n + 3)) "len" [Av.val (.tup [.str "they", b])] = pure (vI 2) := len_tup _
              simp (implicitDefEqProofs := false) only [mw_bind_pure, List.map, List.length, List.replicate, List.append, List.cons_append, List.nil_append, Nat.add_sub_cancel, Nat.reduceSub, Nat.sub_self, Nat.zero_add, Nat.reduceAdd, List.set, thenS_cons, thenS_nil, thenS_nx, thenS_rt, thenS_bind, thenS_ite, bind_ite, mw_pure_bind, mw_assoc, es_ret, es_ife, es_asg, es_rais, es_fld, es_sub, es_ex, es_par, es_pass, es_retN, ev_andF, ev_andT, evAnd_2, evAnd_1, evTAnd_0, evTAnd_1, evOr_1, evOr_2, evTOr_0, evTOr_1, ev_orF, ev_orT, ev_bi, ev_var, varM_cons0, varM_consS, ev_typ, ev_con, ev_notF, ev_notT, evL_0, evL_1, post_false, post_bl, asB_bl, blV_eq, truM_bl, retA_val, ev_cmp, ev_chain, ev_call, ev_ix', ev_attr', ev_bin', ev_sl, ev_tup, ev_lst, ev_ife, ev_glo, ev_make, ev_makek, ev_heard, wv_int, wv_bl, wv_str, wv_non, mw_ite, evO_0, evO_1, intO_int, cmp_isI, cmp_isN, cmp_geI, cmp_leI, cmp_ltI, cmp_gtI, bin_add, bin_sub, newT_0, newL_0, newT_1, newL_1, newT_2, newL_2, newT_3, newL_3, newT_4, newL_4, newT_5, newL_5, ne, if_false, decide_true, Bool.not_true, beq_self_eq_true, Bool.false_eq_true, l2, cmp_neI, e1, cl_is_listed_3, h2, Bool.true_and]
              cases hb : isListed b 1 7 with
              | false => simp [mw_bind_pure, List.map, List.length, List.replicate, List.append, List.cons_append, List.nil_append, Nat.add_sub_cancel, Nat.reduceSub, Nat.sub_self, Nat.zero_add, Nat.reduceAdd, List.set, thenS_cons, thenS_nil, thenS_nx, thenS_rt, thenS_bind, thenS_ite, bind_ite, mw_pure_bind, mw_assoc, es_ret, es_ife, es_asg, es_rais, es_fld, es_sub, es_ex, es_par, es_pass, es_retN, ev_andF, ev_andT, evAnd_2, evAnd_1, evTAnd_0, evTAnd_1, evOr_1, evOr_2, evTOr_0, evTOr_1, ev_orF, ev_orT, ev_bi, ev_var, varM_cons0, varM_consS, ev_typ, ev_con, ev_notF, ev_notT, evL_0, evL_1, post_false, post_bl, asB_bl, blV_eq, truM_bl, retA_val, ev_cmp, ev_chain, ev_call, ev_ix', ev_attr', ev_bin', ev_sl, ev_tup, ev_lst, ev_ife, ev_glo, ev_make, ev_makek, ev_heard, wv_int, wv_bl, wv_str, wv_non, mw_ite, evO_0, evO_1, intO_int, cmp_isI, cmp_isN, cmp_geI, cmp_leI, cmp_ltI, cmp_gtI, bin_add, bin_sub, newT_0, newL_0, newT_1, newL_1, newT_2, newL_2, newT_3, newL_3, newT_4, newL_4, newT_5, newL_5]
              | true =>
                have th := congrArg (· >>= retA j) (row_they n (v := .tup [.str "they", b]) e1 ob hb m)
                simp (implicitDefEqProofs := false) only [mw_bind_pure, List.map, List.length, List.replicate, List.append, List.cons_append, List.nil_append, Nat.add_sub_cancel, Nat.reduceSub, Nat.sub_self, Nat.zero_add, Nat.reduceAdd, List.set, thenS_cons, thenS_nil, thenS_nx, thenS_rt, thenS_bind, thenS_ite, bind_ite, mw_pure_bind, mw_assoc, es_ret, es_ife, es_asg, es_rais, es_fld, es_sub, es_ex, es_par, es_pass, es_retN, ev_andF, ev_andT, evAnd_2, evAnd_1, evTAnd_0, evTAnd_1, evOr_1, evOr_2, evTOr_0, evTOr_1, ev_orF, ev_orT, ev_bi, ev_var, varM_cons0, varM_consS, ev_typ, ev_con, ev_notF, ev_notT, evL_0, evL_1, post_false, post_bl, asB_bl, blV_eq, truM_bl, retA_val, ev_cmp, ev_chain, ev_call, ev_ix', ev_attr', ev_bin', ev_sl, ev_tup, ev_lst, ev_ife, ev_glo, ev_make, ev_makek, ev_heard, wv_int, wv_bl, wv_str, wv_non, mw_ite, evO_0, evO_1, intO_int, cmp_isI, cmp_isN, cmp_geI, cmp_leI, cmp_ltI, cmp_gtI, bin_add, bin_sub, newT_0, newL_0, newT_1, newL_1, newT_2, newL_2, newT_3, newL_3, newT_4, newL_4, newT_5, newL_5, Bool.not_true, Bool.false_eq_true, if_false, Bool.true_and]
                simp (implicitDefEqProofs := false) only [mw_bind_pure, List.map, List.length, List.replicate, List.append, List.cons_append, List.nil_append, Nat.add_sub_cancel, Nat.reduceSub, Nat.sub_self, Nat.zero_add, Nat.reduceAdd, List.set, thenS_cons, thenS_nil, thenS_nx, thenS_rt, thenS_bind, thenS_ite, bind_ite, mw_pure_bind, mw_assoc, es_ret, es_ife, es_asg, es_rais, es_fld, es_sub, es_ex, es_par, es_pass, es_retN, ev_andF, ev_andT, evAnd_2, evAnd_1, evTAnd_0, evTAnd_1, evOr_1, evOr_2, evTOr_0, evTOr_1, ev_orF, ev_orT, ev_bi, ev_var, varM_cons0, varM_consS, ev_typ, ev_con, ev_notF, ev_notT, evL_0, evL_1, post_false, post_bl, asB_bl, blV_eq, truM_bl, retA_val, ev_cmp, ev_chain, ev_call, ev_ix', ev_attr', ev_bin', ev_sl, ev_tup, ev_lst, ev_ife, ev_glo, ev_make, ev_makek, ev_heard, wv_int, wv_bl, wv_str, wv_non, mw_ite, evO_0, evO_1, intO_int, cmp_isI, cmp_isN, cmp_geI, cmp_leI, cmp_ltI, cmp_gtI, bin_add, bin_sub, newT_0, newL_0, newT_1, newL_1, newT_2, newL_2, newT_3, newL_3, newT_4, newL_4, newT_5, newL_5] at th
                exact th
            · simp [z1, z2, mw_bind_pure, List.map, List.length, List.replicate, List.append, List.cons_append, List.nil_append, Nat.add_sub_cancel, Nat.reduceSub, Nat.sub_self, Nat.zero_add, Nat.reduceAdd, List.set, thenS_cons, thenS_nil, thenS_nx, thenS_rt, thenS_bind, thenS_ite, bind_ite, mw_pure_bind, mw_assoc, es_ret, es_ife, es_asg, es_rais, es_fld, es_sub, es_ex, es_par, es_pass, es_retN, ev_andF, ev_andT, evAnd_2, evAnd_1, evTAnd_0, evTAnd_1, evOr_1, evOr_2, evTOr_0, evTOr_1, ev_orF, ev_orT, ev_bi, ev_var, varM_cons0, varM_consS, ev_typ, ev_con, ev_notF, ev_notT, evL_0, evL_1, post_false, post_bl, asB_bl, blV_eq, truM_bl, retA_val, ev_cmp, ev_chain, ev_call, ev_ix', ev_attr', ev_bin', ev_sl, ev_tup, ev_lst, ev_ife, ev_glo, ev_make, ev_makek, ev_heard, wv_int, wv_bl, wv_str, wv_non, mw_ite, evO_0, evO_1, intO_int, cmp_isI, cmp_isN, cmp_geI, cmp_leI, cmp_ltI, cmp_gtI, bin_add, bin_sub, newT_0, newL_0, newT_1, newL_1, newT_2, newL_2, newT_3, newL_3, newT_4, newL_4, newT_5, newL_5]
      · obtain ⟨a, b, d, rfl⟩ : ∃ a b d, xs = [a, b, d] := by
          match xs, hx with
          | [a, b, d], _ => exact ⟨a, b, d, rfl⟩
        have hv0 : okW (.tup [b, d]) = true := by
          simp only [okL, Bool.and_eq_true] at hv
          simp only [okW, okL, Bool.and_eq_true, decide_eq_true_eq]
          exact ⟨by rw [show sizeLine = 16777216 from by decide]; simp, hv.2.2.1, hv.2.2.2.1, trivial⟩
        have hv1 : okW (.lst [b, d]) = true := hv0
        simp only [okL, Bool.and_eq_true] at hv
        obtain ⟨_, oa, ob, od, _⟩ := hv
        obtain ⟨ka, hka⟩ := ok_kind oa
        have e0 := ix_tup [a, b, d] 0 (w := a) rfl
        have es := sl1_tup [a, b, d]
        have hp : (L (n + 3)).full "is_pair" [Av.val (.tup [b, d]), vI m] = (pure (vB (isPair (.tup [b, d]) m)) : Mw Av) := is_pair_eq n hv0 m
        simp (implicitDefEqProofs := false) only [mw_bind_pure, List.map, List.length, List.replicate, List.append, List.cons_append, List.nil_append, Nat.add_sub_cancel, Nat.reduceSub, Nat.sub_self, Nat.zero_add, Nat.reduceAdd, List.set, thenS_cons, thenS_nil, thenS_nx, thenS_rt, thenS_bind, thenS_ite, bind_ite, mw_pure_bind, mw_assoc, es_ret, es_ife, es_asg, es_rais, es_fld, es_sub, es_ex, es_par, es_pass, es_retN, ev_andF, ev_andT, evAnd_2, evAnd_1, evTAnd_0, evTAnd_1, evOr_1, evOr_2, evTOr_0, evTOr_1, ev_orF, ev_orT, ev_bi, ev_var, varM_cons0, varM_consS, ev_typ, ev_con, ev_notF, ev_notT, evL_0, evL_1, post_false, post_bl, asB_bl, blV_eq, truM_bl, retA_val, ev_cmp, ev_chain, ev_call, ev_ix', ev_attr', ev_bin', ev_sl, ev_tup, ev_lst, ev_ife, ev_glo, ev_make, ev_makek, ev_heard, wv_int, wv_bl, wv_str, wv_non, mw_ite, evO_0, evO_1, intO_int, cmp_isI, cmp_isN, cmp_geI, cmp_leI, cmp_ltI, cmp_gtI, bin_add, bin_sub, newT_0, newL_0, newT_1, newL_1, newT_2, newL_2, newT_3, newL_3, newT_4, newL_4, newT_5, newL_5, e0, isi_str _ hka]
        cases hs : isStr a with
        | false => cases a <;> first | (simp [isStr] at hs; done) | simp [mw_bind_pure, List.map, List.length, List.replicate, List.append, List.cons_append, List.nil_append, Nat.add_sub_cancel, Nat.reduceSub, Nat.sub_self, Nat.zero_add, Nat.reduceAdd, List.set, thenS_cons, thenS_nil, thenS_nx, thenS_rt, thenS_bind, thenS_ite, bind_ite, mw_pure_bind, mw_assoc, es_ret, es_ife, es_asg, es_rais, es_fld, es_sub, es_ex, es_par, es_pass, es_retN, ev_andF, ev_andT, evAnd_2, evAnd_1, evTAnd_0, evTAnd_1, evOr_1, evOr_2, evTOr_0, evTOr_1, ev_orF, ev_orT, ev_bi, ev_var, varM_cons0, varM_consS, ev_typ, ev_con, ev_notF, ev_notT, evL_0, evL_1, post_false, post_bl, asB_bl, blV_eq, truM_bl, retA_val, ev_cmp, ev_chain, ev_call, ev_ix', ev_attr', ev_bin', ev_sl, ev_tup, ev_lst, ev_ife, ev_glo, ev_make, ev_makek, ev_heard, wv_int, wv_bl, wv_str, wv_non, mw_ite, evO_0, evO_1, intO_int, cmp_isI, cmp_isN, cmp_geI, cmp_leI, cmp_ltI, cmp_gtI, bin_add, bin_sub, newT_0, newL_0, newT_1, newL_1, newT_2, newL_2, newT_3, newL_3, newT_4, newL_4, newT_5, newL_5, itemsV]
        | true =>
          obtain ⟨s, rfl⟩ : ∃ s, a = .str s := by cases a <;> first | exact ⟨_, rfl⟩ | simp [isStr] at hs
          have hs2 := shaped_str (ok_str oa s rfl).2
          have q1 := cmp_eqS (g := L (n + 3)) (s := "me") (v := .str s) rfl hs2 (by decide +kernel)
          have q2 := cmp_neS (g := L (n + 3)) (s := "they") (v := .str s) rfl hs2 (by decide +kernel)
          have l3 : biA (L (n + 3)) "len" [Av.val (.tup [.str s, b, d])] = pure (vI 3) := len_tup _
          simp (implicitDefEqProofs := false) only [mw_bind_pure, List.map, List.length, List.replicate, List.append, List.cons_append, List.nil_append, Nat.add_sub_cancel, Nat.reduceSub, Nat.sub_self, Nat.zero_add, Nat.reduceAdd, List.set, thenS_cons, thenS_nil, thenS_nx, thenS_rt, thenS_bind, thenS_ite, bind_ite, mw_pure_bind, mw_assoc, es_ret, es_ife, es_asg, es_rais, es_fld, es_sub, es_ex, es_par, es_pass, es_retN, ev_andF, ev_andT, evAnd_2, evAnd_1, evTAnd_0, evTAnd_1, evOr_1, evOr_2, evTOr_0, evTOr_1, ev_orF, ev_orT, ev_bi, ev_var, varM_cons0, varM_consS, ev_typ, ev_con, ev_notF, ev_notT, evL_0, evL_1, post_false, post_bl, asB_bl, blV_eq, truM_bl, retA_val, ev_cmp, ev_chain, ev_call, ev_ix', ev_attr', ev_bin', ev_sl, ev_tup, ev_lst, ev_ife, ev_glo, ev_make, ev_makek, ev_heard, wv_int, wv_bl, wv_str, wv_non, mw_ite, evO_0, evO_1, intO_int, cmp_isI, cmp_isN, cmp_geI, cmp_leI, cmp_ltI, cmp_gtI, bin_add, bin_sub, newT_0, newL_0, newT_1, newL_1, newT_2, newL_2, newT_3, newL_3, newT_4, newL_4, newT_5, newL_5, gl_ME, gl_THEY, gl_MOST_MOVES, q1, q2, isS, Bool.not_true, Bool.false_eq_true, if_false, itemsV, beq_iff_eq]
          by_cases z1 : s = "me"
          · subst z1
            simp (implicitDefEqProofs := false) only [mw_bind_pure, List.map, List.length, List.replicate, List.append, List.cons_append, List.nil_append, Nat.add_sub_cancel, Nat.reduceSub, Nat.sub_self, Nat.zero_add, Nat.reduceAdd, List.set, thenS_cons, thenS_nil, thenS_nx, thenS_rt, thenS_bind, thenS_ite, bind_ite, mw_pure_bind, mw_assoc, es_ret, es_ife, es_asg, es_rais, es_fld, es_sub, es_ex, es_par, es_pass, es_retN, ev_andF, ev_andT, evAnd_2, evAnd_1, evTAnd_0, evTAnd_1, evOr_1, evOr_2, evTOr_0, evTOr_1, ev_orF, ev_orT, ev_bi, ev_var, varM_cons0, varM_consS, ev_typ, ev_con, ev_notF, ev_notT, evL_0, evL_1, post_false, post_bl, asB_bl, blV_eq, truM_bl, retA_val, ev_cmp, ev_chain, ev_call, ev_ix', ev_attr', ev_bin', ev_sl, ev_tup, ev_lst, ev_ife, ev_glo, ev_make, ev_makek, ev_heard, wv_int, wv_bl, wv_str, wv_non, mw_ite, evO_0, evO_1, intO_int, cmp_isI, cmp_isN, cmp_geI, cmp_leI, cmp_ltI, cmp_gtI, bin_add, bin_sub, newT_0, newL_0, newT_1, newL_1, newT_2, newL_2, newT_3, newL_3, newT_4, newL_4, newT_5, newL_5, if_true, l3, cmp_eqI, es, cl_is_pair_2, List.drop, hp, beq_self_eq_true, decide_true, Bool.true_and, List.length]
          · by_cases z2 : s = "they"
            · subst z2
              have ne : ¬ (("they" : Str) = "me") := by decide
              simp (implicitDefEqProofs := false) only [mw_bind_pure, List.map, List.length, List.replicate, List.append, List.cons_append, List.nil_append, Nat.add_sub_cancel, Nat.reduceSub, Nat.sub_self, Nat.zero_add, Nat.reduceAdd, List.set, thenS_cons, thenS_nil, thenS_nx, thenS_rt, thenS_bind, thenS_ite, bind_ite, mw_pure_bind, mw_assoc, es_ret, es_ife, es_asg, es_rais, es_fld, es_sub, es_ex, es_par, es_pass, es_retN, ev_andF, ev_andT, evAnd_2, evAnd_1, evTAnd_0, evTAnd_1, evOr_1, evOr_2, evTOr_0, evTOr_1, ev_orF, ev_orT, ev_bi, ev_var, varM_cons0, varM_consS, ev_typ, ev_con, ev_notF, ev_notT, evL_0, evL_1, post_false, post_bl, asB_bl, blV_eq, truM_bl, retA_val, ev_cmp, ev_chain, ev_call, ev_ix', ev_attr', ev_bin', ev_sl, ev_tup, ev_lst, ev_ife, ev_glo, ev_make, ev_makek, ev_heard, wv_int, wv_bl, wv_str, wv_non, mw_ite, evO_0, evO_1, intO_int, cmp_isI, cmp_isN, cmp_geI, cmp_leI, cmp_ltI, cmp_gtI, bin_add, bin_sub, newT_0, newL_0, newT_1, newL_1, newT_2, newL_2, newT_3, newL_3, newT_4, newL_4, newT_5, newL_5, ne, if_false, decide_true, Bool.not_true, beq_self_eq_true, Bool.false_eq_true, l3, cmp_neI, Bool.true_and]
              simp [mw_bind_pure, List.map, List.length, List.replicate, List.append, List.cons_append, List.nil_append, Nat.add_sub_cancel, Nat.reduceSub, Nat.sub_self, Nat.zero_add, Nat.reduceAdd, List.set, thenS_cons, thenS_nil, thenS_nx, thenS_rt, thenS_bind, thenS_ite, bind_ite, mw_pure_bind, mw_assoc, es_ret, es_ife, es_asg, es_rais, es_fld, es_sub, es_ex, es_par, es_pass, es_retN, ev_andF, ev_andT, evAnd_2, evAnd_1, evTAnd_0, evTAnd_1, evOr_1, evOr_2, evTOr_0, evTOr_1, ev_orF, ev_orT, ev_bi, ev_var, varM_cons0, varM_consS, ev_typ, ev_con, ev_notF, ev_notT, evL_0, evL_1, post_false, post_bl, asB_bl, blV_eq, truM_bl, retA_val, ev_cmp, ev_chain, ev_call, ev_ix', ev_attr', ev_bin', ev_sl, ev_tup, ev_lst, ev_ife, ev_glo, ev_make, ev_makek, ev_heard, wv_int, wv_bl, wv_str, wv_non, mw_ite, evO_0, evO_1, intO_int, cmp_isI, cmp_isN, cmp_geI, cmp_leI, cmp_ltI, cmp_gtI, bin_add, bin_sub, newT_0, newL_0, newT_1, newL_1, newT_2, newL_2, newT_3, newL_3, newT_4, newL_4, newT_5, newL_5]
            · simp [z1, z2, mw_bind_pure, List.map, List.length, List.replicate, List.append, List.cons_append, List.nil_append, Nat.add_sub_cancel, Nat.reduceSub, Nat.sub_self, Nat.zero_add, Nat.reduceAdd, List.set, thenS_cons, thenS_nil, thenS_nx, thenS_rt, thenS_bind, thenS_ite, bind_ite, mw_pure_bind, mw_assoc, es_ret, es_ife, es_asg, es_rais, es_fld, es_sub, es_ex, es_par, es_pass, es_retN, ev_andF, ev_andT, evAnd_2, evAnd_1, evTAnd_0, evTAnd_1, evOr_1, evOr_2, evTOr_0, evTOr_1, ev_orF, ev_orT, ev_bi, ev_var, varM_cons0, varM_consS, ev_typ, ev_con, ev_notF, ev_notT, evL_0, evL_1, post_false, post_bl, asB_bl, blV_eq, truM_bl, retA_val, ev_cmp, ev_chain, ev_call, ev_ix', ev_attr', ev_bin', ev_sl, ev_tup, ev_lst, ev_ife, ev_glo, ev_make, ev_makek, ev_heard, wv_int, wv_bl, wv_str, wv_non, mw_ite, evO_0, evO_1, intO_int, cmp_isI, cmp_isN, cmp_geI, cmp_leI, cmp_ltI, cmp_gtI, bin_add, bin_sub, newT_0, newL_0, newT_1, newL_1, newT_2, newL_2, newT_3, newL_3, newT_4, newL_4, newT_5, newL_5]
    | lst xs =>
      simp only [okW, Bool.and_eq_true, decide_eq_true_eq] at hv
      have hx : xs.length = 2 ∨ xs.length = 3 := by simp [isListed, lenV] at hl; omega
      rcases hx with hx | hx
      · obtain ⟨a, b, rfl⟩ := two hx
        simp only [okL, Bool.and_eq_true] at hv
        obtain ⟨_, oa, ob, _⟩ := hv
        obtain ⟨ka, hka⟩ := ok_kind oa
        obtain ⟨kb, hkb⟩ := ok_kind ob
        have e0 := ix_lst [a, b] 0 (w := a) rfl
        have e1 := ix_lst [a, b] 1 (w := b) rfl
        have h2 : (L (n + 3)).full "is_listed" [Av.val b, Av.val (.int 1), Av.val (.int 7)] = (pure (vB (isListed b 1 7)) : Mw Av) := is_listed_eq (n + 2) hkb (ok_kls ob) 1 7
        simp (implicitDefEqProofs := false) only [mw_bind_pure, List.map, List.length, List.replicate, List.append, List.cons_append, List.nil_append, Nat.add_sub_cancel, Nat.reduceSub, Nat.sub_self, Nat.zero_add, Nat.reduceAdd, List.set, thenS_cons, thenS_nil, thenS_nx, thenS_rt, thenS_bind, thenS_ite, bind_ite, mw_pure_bind, mw_assoc, es_ret, es_ife, es_asg, es_rais, es_fld, es_sub, es_ex, es_par, es_pass, es_retN, ev_andF, ev_andT, evAnd_2, evAnd_1, evTAnd_0, evTAnd_1, evOr_1, evOr_2, evTOr_0, evTOr_1, ev_orF, ev_orT, ev_bi, ev_var, varM_cons0, varM_consS, ev_typ, ev_con, ev_notF, ev_notT, evL_0, evL_1, post_false, post_bl, asB_bl, blV_eq, truM_bl, retA_val, ev_cmp, ev_chain, ev_call, ev_ix', ev_attr', ev_bin', ev_sl, ev_tup, ev_lst, ev_ife, ev_glo, ev_make, ev_makek, ev_heard, wv_int, wv_bl, wv_str, wv_non, mw_ite, evO_0, evO_1, intO_int, cmp_isI, cmp_isN, cmp_geI, cmp_leI, cmp_ltI, cmp_gtI, bin_add, bin_sub, newT_0, newL_0, newT_1, newL_1, newT_2, newL_2, newT_3, newL_3, newT_4, newL_4, newT_5, newL_5, e0, isi_str _ hka]
        cases hs : isStr a with
        | false => cases a <;> first | (simp [isStr] at hs; done) | simp [mw_bind_pure, List.map, List.length, List.replicate, List.append, List.cons_append, List.nil_append, Nat.add_sub_cancel, Nat.reduceSub, Nat.sub_self, Nat.zero_add, Nat.reduceAdd, List.set, thenS_cons, thenS_nil, thenS_nx, thenS_rt, thenS_bind, thenS_ite, bind_ite, mw_pure_bind, mw_assoc, es_ret, es_ife, es_asg, es_rais, es_fld, es_sub, es_ex, es_par, es_pass, es_retN, ev_andF, ev_andT, evAnd_2, evAnd_1, evTAnd_0, evTAnd_1, evOr_1, evOr_2, evTOr_0, evTOr_1, ev_orF, ev_orT, ev_bi, ev_var, varM_cons0, varM_consS, ev_typ, ev_con, ev_notF, ev_notT, evL_0, evL_1, post_false, post_bl, asB_bl, blV_eq, truM_bl, retA_val, ev_cmp, ev_chain, ev_call, ev_ix', ev_attr', ev_bin', ev_sl, ev_tup, ev_lst, ev_ife, ev_glo, ev_make, ev_makek, ev_heard, wv_int, wv_bl, wv_str, wv_non, mw_ite, evO_0, evO_1, intO_int, cmp_isI, cmp_isN, cmp_geI, cmp_leI, cmp_ltI, cmp_gtI, bin_add, bin_sub, newT_0, newL_0, newT_1, newL_1, newT_2, newL_2, newT_3, newL_3, newT_4, newL_4, newT_5, newL_5, itemsV]
        | true =>
          obtain ⟨s, rfl⟩ : ∃ s, a = .str s := by cases a <;> first | exact ⟨_, rfl⟩ | simp [isStr] at hs
          have hs2 := shaped_str (ok_str oa s rfl).2
          have q1 := cmp_eqS (g := L (n + 3)) (s := "me") (v := .str s) rfl hs2 (by decide +kernel)
          have q2 := cmp_neS (g := L (n + 3)) (s := "they") (v := .str s) rfl hs2 (by decide +kernel)
          simp (implicitDefEqProofs := false) only [mw_bind_pure, List.map, List.length, List.replicate, List.append, List.cons_append, List.nil_append, Nat.add_sub_cancel, Nat.reduceSub, Nat.sub_self, Nat.zero_add, Nat.reduceAdd, List.set, thenS_cons, thenS_nil, thenS_nx, thenS_rt, thenS_bind, thenS_ite, bind_ite, mw_pure_bind, mw_assoc, es_ret, es_ife, es_asg, es_rais, es_fld, es_sub, es_ex, es_par, es_pass, es_retN, ev_andF, ev_andT, evAnd_2, evAnd_1, evTAnd_0, evTAnd_1, evOr_1, evOr_2, evTOr_0, evTOr_1, ev_orF, ev_orT, ev_bi, ev_var, varM_cons0, varM_consS, ev_typ, ev_con, ev_notF, ev_notT, evL_0, evL_1, post_false, post_bl, asB_bl, blV_eq, truM_bl, retA_val, ev_cmp, ev_chain, ev_call, ev_ix', ev_attr', ev_bin', ev_sl, ev_tup, ev_lst, ev_ife, ev_glo, ev_make, ev_makek, ev_heard, wv_int, wv_bl, wv_str, wv_non, mw_ite, evO_0, evO_1, intO_int, cmp_isI, cmp_isN, cmp_geI, cmp_leI, cmp_ltI, cmp_gtI, bin_add, bin_sub, newT_0, newL_0, newT_1, newL_1, newT_2, newL_2, newT_3, newL_3, newT_4, newL_4, newT_5, newL_5, gl_ME, gl_THEY, gl_MOST_MOVES, q1, q2, isS, Bool.not_true, Bool.false_eq_true, if_false, itemsV, beq_iff_eq]
          by_cases z1 : s = "me"
          · simp [z1, mw_bind_pure, List.map, List.length, List.replicate, List.append, List.cons_append, List.nil_append, Nat.add_sub_cancel, Nat.reduceSub, Nat.sub_self, Nat.zero_add, Nat.reduceAdd, List.set, thenS_cons, thenS_nil, thenS_nx, thenS_rt, thenS_bind, thenS_ite, bind_ite, mw_pure_bind, mw_assoc, es_ret, es_ife, es_asg, es_rais, es_fld, es_sub, es_ex, es_par, es_pass, es_retN, ev_andF, ev_andT, evAnd_2, evAnd_1, evTAnd_0, evTAnd_1, evOr_1, evOr_2, evTOr_0, evTOr_1, ev_orF, ev_orT, ev_bi, ev_var, varM_cons0, varM_consS, ev_typ, ev_con, ev_notF, ev_notT, evL_0, evL_1, post_false, post_bl, asB_bl, blV_eq, truM_bl, retA_val, ev_cmp, ev_chain, ev_call, ev_ix', ev_attr', ev_bin', ev_sl, ev_tup, ev_lst, ev_ife, ev_glo, ev_make, ev_makek, ev_heard, wv_int, wv_bl, wv_str, wv_non, mw_ite, evO_0, evO_1, intO_int, cmp_isI, cmp_isN, cmp_geI, cmp_leI, cmp_ltI, cmp_gtI, bin_add, bin_sub, newT_0, newL_0, newT_1, newL_1, newT_2, newL_2, newT_3, newL_3, newT_4, newL_4, newT_5, newL_5, len_lst, cmp_eqI]
          · by_cases z2 : s = "they"
            · subst z2
              have ne : ¬ (("they" : Str) = "me") := by decide
              have l2 : biA (L (n + 3)) "len" [Av.val (.lst [.str "they", b])] = pure (vI 2) := len_lst _
              simp (implicitDefEqProofs := false) only [mw_bind_pure, List.map, List.length, List.replicate, List.append, List.cons_append, List.nil_append, Nat.add_sub_cancel, Nat.reduceSub, Nat.sub_self, Nat.zero_add, Nat.reduceAdd, List.set, thenS_cons, thenS_nil, thenS_nx, thenS_rt, thenS_bind, thenS_ite, bind_ite, mw_pure_bind, mw_assoc, es_ret, es_ife, es_asg, es_rais, es_fld, es_sub, es_ex, es_par, es_pass, es_retN, ev_andF, ev_andT, evAnd_2, evAnd_1, evTAnd_0, evTAnd_1, evOr_1, evOr_2, evTOr_0, evTOr_1, ev_orF, ev_orT, ev_bi, ev_var, varM_cons0, varM_consS, ev_typ, ev_con, ev_notF, ev_notT, evL_0, evL_1, post_false, post_bl, asB_bl, blV_eq, truM_bl, retA_val, ev_cmp, ev_chain, ev_call, ev_ix', ev_attr', ev_bin', ev_sl, ev_tup, ev_lst, ev_ife, ev_glo, ev_make, ev_makek, ev_heard, wv_int, wv_bl, wv_str, wv_non, mw_ite, evO_0, evO_1, intO_int, cmp_isI, cmp_isN, cmp_geI, cmp_leI, cmp_ltI, cmp_gtI, bin_add, bin_sub, newT_0, newL_0, newT_1, newL_1, newT_2, newL_2, newT_3, newL_3, newT_4, newL_4, newT_5, newL_5, ne, if_false, decide_true, Bool.not_true, beq_self_eq_true, Bool.false_eq_true, l2, cmp_neI, e1, cl_is_listed_3, h2, Bool.true_and]
              cases hb : isListed b 1 7 with
              | false => simp [mw_bind_pure, List.map, List.length, List.replicate, List.append, List.cons_append, List.nil_append, Nat.add_sub_cancel, Nat.reduceSub, Nat.sub_self, Nat.zero_add, Nat.reduceAdd, List.set, thenS_cons, thenS_nil, thenS_nx, thenS_rt, thenS_bind, thenS_ite, bind_ite, mw_pure_bind, mw_assoc, es_ret, es_ife, es_asg, es_rais, es_fld, es_sub, es_ex, es_par, es_pass, es_retN, ev_andF, ev_andT, evAnd_2, evAnd_1, evTAnd_0, evTAnd_1, evOr_1, evOr_2, evTOr_0, evTOr_1, ev_orF, ev_orT, ev_bi, ev_var, varM_cons0, varM_consS, ev_typ, ev_con, ev_notF, ev_notT, evL_0, evL_1, post_false, post_bl, asB_bl, blV_eq, truM_bl, retA_val, ev_cmp, ev_chain, ev_call, ev_ix', ev_attr', ev_bin', ev_sl, ev_tup, ev_lst, ev_ife, ev_glo, ev_make, ev_makek, ev_heard, wv_int, wv_bl, wv_str, wv_non, mw_ite, evO_0, evO_1, intO_int, cmp_isI, cmp_isN, cmp_geI, cmp_leI, cmp_ltI, cmp_gtI, bin_add, bin_sub, newT_0, newL_0, newT_1, newL_1, newT_2, newL_2, newT_3, newL_3, newT_4, newL_4, newT_5, newL_5]
              | true =>
                have th := congrArg (· >>= retA j) (row_they n (v := .lst [.str "they", b]) e1 ob hb m)
                simp (implicitDefEqProofs := false) only [mw_bind_pure, List.map, List.length, List.replicate, List.append, List.cons_append, List.nil_append, Nat.add_sub_cancel, Nat.reduceSub, Nat.sub_self, Nat.zero_add, Nat.reduceAdd, List.set, thenS_cons, thenS_nil, thenS_nx, thenS_rt, thenS_bind, thenS_ite, bind_ite, mw_pure_bind, mw_assoc, es_ret, es_ife, es_asg, es_rais, es_fld, es_sub, es_ex, es_par, es_pass, es_retN, ev_andF, ev_andT, evAnd_2, evAnd_1, evTAnd_0, evTAnd_1, evOr_1, evOr_2, evTOr_0, evTOr_1, ev_orF, ev_orT, ev_bi, ev_var, varM_cons0, varM_consS, ev_typ, ev_con, ev_notF, ev_notT, evL_0, evL_1, post_false, post_bl, asB_bl, blV_eq, truM_bl, retA_val, ev_cmp, ev_chain, ev_call, ev_ix', ev_attr', ev_bin', ev_sl, ev_tup, ev_lst, ev_ife, ev_glo, ev_make, ev_makek, ev_heard, wv_int, wv_bl, wv_str, wv_non, mw_ite, evO_0, evO_1, intO_int, cmp_isI, cmp_isN, cmp_geI, cmp_leI, cmp_ltI, cmp_gtI, bin_add, bin_sub, newT_0, newL_0, newT_1, newL_1, newT_2, newL_2, newT_3, newL_3, newT_4, newL_4, newT_5, newL_5, Bool.not_true, Bool.false_eq_true, if_false, Bool.true_and]
                simp (implicitDefEqProofs := false) only [mw_bind_pure, List.map, List.length, List.replicate, List.append, List.cons_append, List.nil_append, Nat.add_sub_cancel, Nat.reduceSub, Nat.sub_self, Nat.zero_add, Nat.reduceAdd, List.set, thenS_cons, thenS_nil, thenS_nx, thenS_rt, thenS_bind, thenS_ite, bind_ite, mw_pure_bind, mw_assoc, es_ret, es_ife, es_asg, es_rais, es_fld, es_sub, es_ex, es_par, es_pass, es_retN, ev_andF, ev_andT, evAnd_2, evAnd_1, evTAnd_0, evTAnd_1, evOr_1, evOr_2, evTOr_0, evTOr_1, ev_orF, ev_orT, ev_bi, ev_var, varM_cons0, varM_consS, ev_typ, ev_con, ev_notF, ev_notT, evL_0, evL_1, post_false, post_bl, asB_bl, blV_eq, truM_bl, retA_val, ev_cmp, ev_chain, ev_call, ev_ix', ev_attr', ev_bin', ev_sl, ev_tup, ev_lst, ev_ife, ev_glo, ev_make, ev_makek, ev_heard, wv_int, wv_bl, wv_str, wv_non, mw_ite, evO_0, evO_1, intO_int, cmp_isI, cmp_isN, cmp_geI, cmp_leI, cmp_ltI, cmp_gtI, bin_add, bin_sub, newT_0, newL_0, newT_1, newL_1, newT_2, newL_2, newT_3, newL_3, newT_4, newL_4, newT_5, newL_5] at th
                exact th
            · simp [z1, z2, mw_bind_pure, List.map, List.length, List.replicate, List.append, List.cons_append, List.nil_append, Nat.add_sub_cancel, Nat.reduceSub, Nat.sub_self, Nat.zero_add, Nat.reduceAdd, List.set, thenS_cons, thenS_nil, thenS_nx, thenS_rt, thenS_bind, thenS_ite, bind_ite, mw_pure_bind, mw_assoc, es_ret, es_ife, es_asg, es_rais, es_fld, es_sub, es_ex, es_par, es_pass, es_retN, ev_andF, ev_andT, evAnd_2, evAnd_1, evTAnd_0, evTAnd_1, evOr_1, evOr_2, evTOr_0, evTOr_1, ev_orF, ev_orT, ev_bi, ev_var, varM_cons0, varM_consS, ev_typ, ev_con, ev_notF, ev_notT, evL_0, evL_1, post_false, post_bl, asB_bl, blV_eq, truM_bl, retA_val, ev_cmp, ev_chain, ev_call, ev_ix', ev_attr', ev_bin', ev_sl, ev_tup, ev_lst, ev_ife, ev_glo, ev_make, ev_makek, ev_heard, wv_int, wv_bl, wv_str, wv_non, mw_ite, evO_0, evO_1, intO_int, cmp_isI, cmp_isN, cmp_geI, cmp_leI, cmp_ltI, cmp_gtI, bin_add, bin_sub, newT_0, newL_0, newT_1, newL_1, newT_2, newL_2, newT_3, newL_3, newT_4, newL_4, newT_5, newL_5]
      · obtain ⟨a, b, d, rfl⟩ : ∃ a b d, xs = [a, b, d] := by
          match xs, hx with
          | [a, b, d], _ => exact ⟨a, b, d, rfl⟩
        have hv0 : okW (.tup [b, d]) = true := by
          simp only [okL, Bool.and_eq_true] at hv
          simp only [okW, okL, Bool.and_eq_true, decide_eq_true_eq]
          exact ⟨by rw [show sizeLine = 16777216 from by decide]; simp, hv.2.2.1, hv.2.2.2.1, trivial⟩
        have hv1 : okW (.lst [b, d]) = true := hv0
        simp only [okL, Bool.and_eq_true] at hv
        obtain ⟨_, oa, ob, od, _⟩ := hv
        obtain ⟨ka, hka⟩ := ok_kind oa
        have e0 := ix_lst [a, b, d] 0 (w := a) rfl
        have es := sl1_lst [a, b, d]
        have hp : (L (n + 3)).full "is_pair" [Av.val (.lst [b, d]), vI m] = (pure (vB (isPair (.tup [b, d]) m)) : Mw Av) := is_pair_eq n hv1 m
        simp (implicitDefEqProofs := false) only [mw_bind_pure, List.map, List.length, List.replicate, List.append, List.cons_append, List.nil_append, Nat.add_sub_cancel, Nat.reduceSub, Nat.sub_self, Nat.zero_add, Nat.reduceAdd, List.set, thenS_cons, thenS_nil, thenS_nx, thenS_rt, thenS_bind, thenS_ite, bind_ite, mw_pure_bind, mw_assoc, es_ret, es_ife, es_asg, es_rais, es_fld, es_sub, es_ex, es_par, es_pass, es_retN, ev_andF, ev_andT, evAnd_2, evAnd_1, evTAnd_0, evTAnd_1, evOr_1, evOr_2, evTOr_0, evTOr_1, ev_orF, ev_orT, ev_bi, ev_var, varM_cons0, varM_consS, ev_typ, ev_con, ev_notF, ev_notT, evL_0, evL_1, post_false, post_bl, asB_bl, blV_eq, truM_bl, retA_val, ev_cmp, ev_chain, ev_call, ev_ix', ev_attr', ev_bin', ev_sl, ev_tup, ev_lst, ev_ife, ev_glo, ev_make, ev_makek, ev_heard, wv_int, wv_bl, wv_str, wv_non, mw_ite, evO_0, evO_1, intO_int, cmp_isI, cmp_isN, cmp_geI, cmp_leI, cmp_ltI, cmp_gtI, bin_add, bin_sub, newT_0, newL_0, newT_1, newL_1, newT_2, newL_2, newT_3, newL_3, newT_4, newL_4, newT_5, newL_5, e0, isi_str _ hka]
        cases hs : isStr a with
        | false => cases a <;> first | (simp [isStr] at hs; done) | simp [mw_bind_pure, List.map, List.length, List.replicate, List.append, List.cons_append, List.nil_append, Nat.add_sub_cancel, Nat.reduceSub, Nat.sub_self, Nat.zero_add, Nat.reduceAdd, List.set, thenS_cons, thenS_nil, thenS_nx, thenS_rt, thenS_bind, thenS_ite, bind_ite, mw_pure_bind, mw_assoc, es_ret, es_ife, es_asg, es_rais, es_fld, es_sub, es_ex, es_par, es_pass, es_retN, ev_andF, ev_andT, evAnd_2, evAnd_1, evTAnd_0, evTAnd_1, evOr_1, evOr_2, evTOr_0, evTOr_1, ev_orF, ev_orT, ev_bi, ev_var, varM_cons0, varM_consS, ev_typ, ev_con, ev_notF, ev_notT, evL_0, evL_1, post_false, post_bl, asB_bl, blV_eq, truM_bl, retA_val, ev_cmp, ev_chain, ev_call, ev_ix', ev_attr', ev_bin', ev_sl, ev_tup, ev_lst, ev_ife, ev_glo, ev_make, ev_makek, ev_heard, wv_int, wv_bl, wv_str, wv_non, mw_ite, evO_0, evO_1, intO_int, cmp_isI, cmp_isN, cmp_geI, cmp_leI, cmp_ltI, cmp_gtI, bin_add, bin_sub, newT_0, newL_0, newT_1, newL_1, newT_2, newL_2, newT_3, newL_3, newT_4, newL_4, newT_5, newL_5, itemsV]
        | true =>
          obtain ⟨s, rfl⟩ : ∃ s, a = .str s := by cases a <;> first | exact ⟨_, rfl⟩ | simp [isStr] at hs
          have hs2 := shaped_str (ok_str oa s rfl).2
          have q1 := cmp_eqS (g := L (n + 3)) (s := "me") (v := .str s) rfl hs2 (by decide +kernel)
          have q2 := cmp_neS (g := L (n + 3)) (s := "they") (v := .str s) rfl hs2 (by decide +kernel)
          have l3 : biA (L (n + 3)) "len" [Av.val (.lst [.str s, b, d])] = pure (vI 3) := len_lst _
          simp (implicitDefEqProofs := false) only [mw_bind_pure, List.map, List.length, List.replicate, List.append, List.cons_append, List.nil_append, Nat.add_sub_cancel, Nat.reduceSub, Nat.sub_self, Nat.zero_add, Nat.reduceAdd, List.set, thenS_cons, thenS_nil, thenS_nx, thenS_rt, thenS_bind, thenS_ite, bind_ite, mw_pure_bind, mw_assoc, es_ret, es_ife, es_asg, es_rais, es_fld, es_sub, es_ex, es_par, es_pass, es_retN, ev_andF, ev_andT, evAnd_2, evAnd_1, evTAnd_0, evTAnd_1, evOr_1, evOr_2, evTOr_0, evTOr_1, ev_orF, ev_orT, ev_bi, ev_var, varM_cons0, varM_consS, ev_typ, ev_con, ev_notF, ev_notT, evL_0, evL_1, post_false, post_bl, asB_bl, blV_eq, truM_bl, retA_val, ev_cmp, ev_chain, ev_call, ev_ix', ev_attr', ev_bin', ev_sl, ev_tup, ev_lst, ev_ife, ev_glo, ev_make, ev_makek, ev_heard, wv_int, wv_bl, wv_str, wv_non, mw_ite, evO_0, evO_1, intO_int, cmp_isI, cmp_isN, cmp_geI, cmp_leI, cmp_ltI, cmp_gtI, bin_add, bin_sub, newT_0, newL_0, newT_1, newL_1, newT_2, newL_2, newT_3, newL_3, newT_4, newL_4, newT_5, newL_5, gl_ME, gl_THEY, gl_MOST_MOVES, q1, q2, isS, Bool.not_true, Bool.false_eq_true, if_false, itemsV, beq_iff_eq]
          by_cases z1 : s = "me"
          · subst z1
            simp (implicitDefEqProofs := false) only [mw_bind_pure, List.map, List.length, List.replicate, List.append, List.cons_append, List.nil_append, Nat.add_sub_cancel, Nat.reduceSub, Nat.sub_self, Nat.zero_add, Nat.reduceAdd, List.set, thenS_cons, thenS_nil, thenS_nx, thenS_rt, thenS_bind, thenS_ite, bind_ite, mw_pure_bind, mw_assoc, es_ret, es_ife, es_asg, es_rais, es_fld, es_sub, es_ex, es_par, es_pass, es_retN, ev_andF, ev_andT, evAnd_2, evAnd_1, evTAnd_0, evTAnd_1, evOr_1, evOr_2, evTOr_0, evTOr_1, ev_orF, ev_orT, ev_bi, ev_var, varM_cons0, varM_consS, ev_typ, ev_con, ev_notF, ev_notT, evL_0, evL_1, post_false, post_bl, asB_bl, blV_eq, truM_bl, retA_val, ev_cmp, ev_chain, ev_call, ev_ix', ev_attr', ev_bin', ev_sl, ev_tup, ev_lst, ev_ife, ev_glo, ev_make, ev_makek, ev_heard, wv_int, wv_bl, wv_str, wv_non, mw_ite, evO_0, evO_1, intO_int, cmp_isI, cmp_isN, cmp_geI, cmp_leI, cmp_ltI, cmp_gtI, bin_add, bin_sub, newT_0, newL_0, newT_1, newL_1, newT_2, newL_2, newT_3, newL_3, newT_4, newL_4, newT_5, newL_5, if_true, l3, cmp_eqI, es, cl_is_pair_2, List.drop, hp, beq_self_eq_true, decide_true, Bool.true_and, List.length]
          · by_cases z2 : s = "they"
            · subst z2
              have ne : ¬ (("they" : Str) = "me") := by decide
              simp (implicitDefEqProofs := false) only [mw_bind_pure, List.map, List.length, List.replicate, List.append, List.cons_append, List.nil_append, Nat.add_sub_cancel, Nat.reduceSub, Nat.sub_self, Nat.zero_add, Nat.reduceAdd, List.set, thenS_cons, thenS_nil, thenS_nx, thenS_rt, thenS_bind, thenS_ite, bind_ite, mw_pure_bind, mw_assoc, es_ret, es_ife, es_asg, es_rais, es_fld, es_sub, es_ex, es_par, es_pass, es_retN, ev_andF, ev_andT, evAnd_2, evAnd_1, evTAnd_0, evTAnd_1, evOr_1, evOr_2, evTOr_0, evTOr_1, ev_orF, ev_orT, ev_bi, ev_var, varM_cons0, varM_consS, ev_typ, ev_con, ev_notF, ev_notT, evL_0, evL_1, post_false, post_bl, asB_bl, blV_eq, truM_bl, retA_val, ev_cmp, ev_chain, ev_call, ev_ix', ev_attr', ev_bin', ev_sl, ev_tup, ev_lst, ev_ife, ev_glo, ev_make, ev_makek, ev_heard, wv_int, wv_bl, wv_str, wv_non, mw_ite, evO_0, evO_1, intO_int, cmp_isI, cmp_isN, cmp_geI, cmp_leI, cmp_ltI, cmp_gtI, bin_add, bin_sub, newT_0, newL_0, newT_1, newL_1, newT_2, newL_2, newT_3, newL_3, newT_4, newL_4, newT_5, newL_5, ne, if_false, decide_true, Bool.not_true, beq_self_eq_true, Bool.false_eq_true, l3, cmp_neI, Bool.true_and]
              simp [mw_bind_pure, List.map, List.length, List.replicate, List.append, List.cons_append, List.nil_append, Nat.add_sub_cancel, Nat.reduceSub, Nat.sub_self, Nat.zero_add, Nat.reduceAdd, List.set, thenS_cons, thenS_nil, thenS_nx, thenS_rt, thenS_bind, thenS_ite, bind_ite, mw_pure_bind, mw_assoc, es_ret, es_ife, es_asg, es_rais, es_fld, es_sub, es_ex, es_par, es_pass, es_retN, ev_andF, ev_andT, evAnd_2, evAnd_1, evTAnd_0, evTAnd_1, evOr_1, evOr_2, evTOr_0, evTOr_1, ev_orF, ev_orT, ev_bi, ev_var, varM_cons0, varM_consS, ev_typ, ev_con, ev_notF, ev_notT, evL_0, evL_1, post_false, post_bl, asB_bl, blV_eq, truM_bl, retA_val, ev_cmp, ev_chain, ev_call, ev_ix', ev_attr', ev_bin', ev_sl, ev_tup, ev_lst, ev_ife, ev_glo, ev_make, ev_makek, ev_heard, wv_int, wv_bl, wv_str, wv_non, mw_ite, evO_0, evO_1, intO_int, cmp_isI, cmp_isN, cmp_geI, cmp_leI, cmp_ltI, cmp_gtI, bin_add, bin_sub, newT_0, newL_0, newT_1, newL_1, newT_2, newL_2, newT_3, newL_3, newT_4, newL_4, newT_5, newL_5]
            · simp [z1, z2, mw_bind_pure, List.map, List.length, List.replicate, List.append, List.cons_append, List.nil_append, Nat.add_sub_cancel, Nat.reduceSub, Nat.sub_self, Nat.zero_add, Nat.reduceAdd, List.set, thenS_cons, thenS_nil, thenS_nx, thenS_rt, thenS_bind, thenS_ite, bind_ite, mw_pure_bind, mw_assoc, es_ret, es_ife, es_asg, es_rais, es_fld, es_sub, es_ex, es_par, es_pass, es_retN, ev_andF, ev_andT, evAnd_2, evAnd_1, evTAnd_0, evTAnd_1, evOr_1, evOr_2, evTOr_0, evTOr_1, ev_orF, ev_orT, ev_bi, ev_var, varM_cons0, varM_consS, ev_typ, ev_con, ev_notF, ev_notT, evL_0, evL_1, post_false, post_bl, asB_bl, blV_eq, truM_bl, retA_val, ev_cmp, ev_chain, ev_call, ev_ix', ev_attr', ev_bin', ev_sl, ev_tup, ev_lst, ev_ife, ev_glo, ev_make, ev_makek, ev_heard, wv_int, wv_bl, wv_str, wv_non, mw_ite, evO_0, evO_1, intO_int, cmp_isI, cmp_isN, cmp_geI, cmp_leI, cmp_ltI, cmp_gtI, bin_add, bin_sub, newT_0, newL_0, newT_1, newL_1, newT_2, newL_2, newT_3, newL_3, newT_4, newL_4, newT_5, newL_5]
    | _ => simp [isListed, lenV] at hl
end LW

namespace LW
open PySem PySem.Spec L2
/-! fixed -/
mutual
def fixW : Wv → Wv
  | .tup xs => .tup (fixL xs)
  | .lst xs => .tup (fixL xs)
  | v => v
def fixL : List Wv → List Wv
  | [] => []
  | w :: ws => fixW w :: fixL ws
end
mutual
def depW : Wv → Nat
  | .tup xs => depL xs + 1
  | .lst xs => depL xs + 1
  | _ => 0
def depL : List Wv → Nat
  | [] => 0
  | w :: ws => max (depW w) (depL ws)
end
theorem fixL_map : ∀ ws, fixL ws = ws.map fixW
  | [] => by simp [fixL]
  | w :: ws => by simp [fixL, fixL_map ws]
theorem depL_mem : ∀ {ws : List Wv} {d : Nat}, depL ws ≤ d → ∀ w ∈ ws, depW w ≤ d
  | [], _, _, w, h => by cases h
  | x :: ws, d, h, w, hw => by
    simp only [depL] at h
    rcases List.mem_cons.mp hw with e | hw
    · rw [e]; omega
    · exact depL_mem (by omega) w hw
theorem tuple_lst {g : G} (xs : List Wv) : biA g "tuple" [.val (.lst xs)] = pure (.val (.tup xs)) := by
  funext M
  show (match itemsA M (.val (.lst xs)) with
    | some xs => newT xs M
    | none => .no) = _
  have : itemsA M (.val (.lst xs)) = some (xs.map Av.val) := rfl
  rw [this]
  dsimp only
  rw [newT_vals]
theorem fixed_eq : ∀ (d n : Nat) {v : Wv}, okW v = true → depW v ≤ d → (L (n + d + 1)).full "fixed" [Av.val v] = (pure (Av.val (fixW v)) : Mw Av)
  | d, n, v, hv, hd => by
    obtain ⟨k, hk⟩ := ok_kind hv
    rw [fl_fixed]
    refine runD_pure fun m => ?_
    unfold p_fixed
    simp only [mw_bind_pure, List.map, List.length, List.replicate, List.append, List.cons_append, List.nil_append, Nat.add_sub_cancel, Nat.reduceSub, Nat.sub_self, Nat.zero_add, Nat.reduceAdd, List.set, thenS_cons, thenS_nil, thenS_nx, thenS_rt, thenS_bind, thenS_ite, bind_ite, mw_pure_bind, mw_assoc, es_ret, es_ife, es_asg, es_rais, es_fld, es_retN, ev_andF, ev_andT, evAnd_2, evAnd_1, evTAnd_0, evTAnd_1, evOr_1, evOr_2, evTOr_0, evTOr_1, ev_orF, ev_orT, ev_bi, ev_var, varM_cons0, varM_consS, ev_typ, ev_con, ev_notF, ev_notT, evL_0, evL_1, post_false, post_bl, asB_bl, blV_eq, truM_bl, retA_val, ev_cmp, ev_chain, ev_call, ev_ix', ev_attr', ev_bin', ev_sl, ev_tup, ev_lst, ev_ife, ev_glo, ev_make, ev_makek, ev_heard, wv_int, wv_bl, wv_str, wv_non, mw_ite, evO_0, evO_1, intO_int, cmp_isI, cmp_isN, cmp_geI, cmp_leI, cmp_ltI, cmp_gtI, bin_add, bin_sub, newT_0, newL_0, newT_1, newL_1, newT_2, newL_2, newT_3, newL_3, newT_4, newL_4, newT_5, newL_5, isi_seq _ hk]
    have step : ∀ (v : Wv) (xs : List Wv), itA .val [Av.val v] = pure xs → okL xs = true → xs.length ≤ sizeLine → depL xs + 1 ≤ d →
        evE (L (n + d)) (.lc false (.call "fixed" [.var 1]) (.name 1) .val [.var 0] [] [1]) false [some (Av.val v), none] = pure (.val (.lst (xs.map fixW))) := fun v xs hit hok hl hdx => by
      cases d with
      | zero => omega
      | succ d =>
        refine lc_map (ws := xs) (f := fixW) (by simp only [mw_bind_pure, List.map, List.length, List.replicate, List.append, List.cons_append, List.nil_append, Nat.add_sub_cancel, Nat.reduceSub, Nat.sub_self, Nat.zero_add, Nat.reduceAdd, List.set, thenS_cons, thenS_nil, thenS_nx, thenS_rt, thenS_bind, thenS_ite, bind_ite, mw_pure_bind, mw_assoc, es_ret, es_ife, es_asg, es_rais, es_fld, es_retN, ev_andF, ev_andT, evAnd_2, evAnd_1, evTAnd_0, evTAnd_1, evOr_1, evOr_2, evTOr_0, evTOr_1, ev_orF, ev_orT, ev_bi, ev_var, varM_cons0, varM_consS, ev_typ, ev_con, ev_notF, ev_notT, evL_0, evL_1, post_false, post_bl, asB_bl, blV_eq, truM_bl, retA_val, ev_cmp, ev_chain, ev_call, ev_ix', ev_attr', ev_bin', ev_sl, ev_tup, ev_lst, ev_ife, ev_glo, ev_make, ev_makek, ev_heard, wv_int, wv_bl, wv_str, wv_non, mw_ite, evO_0, evO_1, intO_int, cmp_isI, cmp_isN, cmp_geI, cmp_leI, cmp_ltI, cmp_gtI, bin_add, bin_sub, newT_0, newL_0, newT_1, newL_1, newT_2, newL_2, newT_3, newL_3, newT_4, newL_4, newT_5, newL_5, hit]) hl fun w hw => ?_
        have ih := fixed_eq d n (okL_mem hok w hw) (depL_mem (d := d) (by omega) w hw)
        have e : n + (d + 1) = n + d + 1 := by omega
        simp only [wipeE, mw_bind_pure, List.map, List.length, List.replicate, List.append, List.cons_append, List.nil_append, Nat.add_sub_cancel, Nat.reduceSub, Nat.sub_self, Nat.zero_add, Nat.reduceAdd, List.set, thenS_cons, thenS_nil, thenS_nx, thenS_rt, thenS_bind, thenS_ite, bind_ite, mw_pure_bind, mw_assoc, es_ret, es_ife, es_asg, es_rais, es_fld, es_retN, ev_andF, ev_andT, evAnd_2, evAnd_1, evTAnd_0, evTAnd_1, evOr_1, evOr_2, evTOr_0, evTOr_1, ev_orF, ev_orT, ev_bi, ev_var, varM_cons0, varM_consS, ev_typ, ev_con, ev_notF, ev_notT, evL_0, evL_1, post_false, post_bl, asB_bl, blV_eq, truM_bl, retA_val, ev_cmp, ev_chain, ev_call, ev_ix', ev_attr', ev_bin', ev_sl, ev_tup, ev_lst, ev_ife, ev_glo, ev_make, ev_makek, ev_heard, wv_int, wv_bl, wv_str, wv_non, mw_ite, evO_0, evO_1, intO_int, cmp_isI, cmp_isN, cmp_geI, cmp_leI, cmp_ltI, cmp_gtI, bin_add, bin_sub, newT_0, newL_0, newT_1, newL_1, newT_2, newL_2, newT_3, newL_3, newT_4, newL_4, newT_5, newL_5, cl_fixed_1, e, ih]
    cases v with
    | tup xs =>
      simp only [okW, Bool.and_eq_true, decide_eq_true_eq] at hv
      simp only [depW] at hd
      have := step (.tup xs) xs rfl hv.2 hv.1 hd
      simp only [mw_bind_pure, List.map, List.length, List.replicate, List.append, List.cons_append, List.nil_append, Nat.add_sub_cancel, Nat.reduceSub, Nat.sub_self, Nat.zero_add, Nat.reduceAdd, List.set, thenS_cons, thenS_nil, thenS_nx, thenS_rt, thenS_bind, thenS_ite, bind_ite, mw_pure_bind, mw_assoc, es_ret, es_ife, es_asg, es_rais, es_fld, es_retN, ev_andF, ev_andT, evAnd_2, evAnd_1, evTAnd_0, evTAnd_1, evOr_1, evOr_2, evTOr_0, evTOr_1, ev_orF, ev_orT, ev_bi, ev_var, varM_cons0, varM_consS, ev_typ, ev_con, ev_notF, ev_notT, evL_0, evL_1, post_false, post_bl, asB_bl, blV_eq, truM_bl, retA_val, ev_cmp, ev_chain, ev_call, ev_ix', ev_attr', ev_bin', ev_sl, ev_tup, ev_lst, ev_ife, ev_glo, ev_make, ev_makek, ev_heard, wv_int, wv_bl, wv_str, wv_non, mw_ite, evO_0, evO_1, intO_int, cmp_isI, cmp_isN, cmp_geI, cmp_leI, cmp_ltI, cmp_gtI, bin_add, bin_sub, newT_0, newL_0, newT_1, newL_1, newT_2, newL_2, newT_3, newL_3, newT_4, newL_4, newT_5, newL_5, isSeq, if_true, this, tuple_lst, fixW, fixL_map]
    | lst xs =>
      simp only [okW, Bool.and_eq_true, decide_eq_true_eq] at hv
      simp only [depW] at hd
      have := step (.lst xs) xs rfl hv.2 hv.1 hd
      simp only [mw_bind_pure, List.map, List.length, List.replicate, List.append, List.cons_append, List.nil_append, Nat.add_sub_cancel, Nat.reduceSub, Nat.sub_self, Nat.zero_add, Nat.reduceAdd, List.set, thenS_cons, thenS_nil, thenS_nx, thenS_rt, thenS_bind, thenS_ite, bind_ite, mw_pure_bind, mw_assoc, es_ret, es_ife, es_asg, es_rais, es_fld, es_retN, ev_andF, ev_andT, evAnd_2, evAnd_1, evTAnd_0, evTAnd_1, evOr_1, evOr_2, evTOr_0, evTOr_1, ev_orF, ev_orT, ev_bi, ev_var, varM_cons0, varM_consS, ev_typ, ev_con, ev_notF, ev_notT, evL_0, evL_1, post_false, post_bl, asB_bl, blV_eq, truM_bl, retA_val, ev_cmp, ev_chain, ev_call, ev_ix', ev_attr', ev_bin', ev_sl, ev_tup, ev_lst, ev_ife, ev_glo, ev_make, ev_makek, ev_heard, wv_int, wv_bl, wv_str, wv_non, mw_ite, evO_0, evO_1, intO_int, cmp_isI, cmp_isN, cmp_geI, cmp_leI, cmp_ltI, cmp_gtI, bin_add, bin_sub, newT_0, newL_0, newT_1, newL_1, newT_2, newL_2, newT_3, newL_3, newT_4, newL_4, newT_5, newL_5, isSeq, if_true, this, tuple_lst, fixW, fixL_map]
    | kls xs => simp [okW] at hv
    | _ => simp [mw_bind_pure, List.map, List.length, List.replicate, List.append, List.cons_append, List.nil_append, Nat.add_sub_cancel, Nat.reduceSub, Nat.sub_self, Nat.zero_add, Nat.reduceAdd, List.set, thenS_cons, thenS_nil, thenS_nx, thenS_rt, thenS_bind, thenS_ite, bind_ite, mw_pure_bind, mw_assoc, es_ret, es_ife, es_asg, es_rais, es_fld, es_retN, ev_andF, ev_andT, evAnd_2, evAnd_1, evTAnd_0, evTAnd_1, evOr_1, evOr_2, evTOr_0, evTOr_1, ev_orF, ev_orT, ev_bi, ev_var, varM_cons0, varM_consS, ev_typ, ev_con, ev_notF, ev_notT, evL_0, evL_1, post_false, post_bl, asB_bl, blV_eq, truM_bl, retA_val, ev_cmp, ev_chain, ev_call, ev_ix', ev_attr', ev_bin', ev_sl, ev_tup, ev_lst, ev_ife, ev_glo, ev_make, ev_makek, ev_heard, wv_int, wv_bl, wv_str, wv_non, mw_ite, evO_0, evO_1, intO_int, cmp_isI, cmp_isN, cmp_geI, cmp_leI, cmp_ltI, cmp_gtI, bin_add, bin_sub, newT_0, newL_0, newT_1, newL_1, newT_2, newL_2, newT_3, newL_3, newT_4, newL_4, newT_5, newL_5, isSeq, fixW]
/-! Machine -/
def isMach (v : Wv) : Bool := isListed v 1 2000 && (itemsV v).all fun r => isRow r (itemsV v).length
abbrev machV (rows : Wv) : Wv := .ins "Machine" ["rows"] [fixW rows]
abbrev badM : Wv := .exc "BadMachine" ["part"] [.str "rows"]
abbrev exM (e : Wv) : Mw Av := fun M => .ex e M
theorem chkL_app : ∀ (M N : Mem), chkL M (M ++ N) = true
  | [], _ => rfl
  | k :: r, N => by simp [chkL, chkL_app r N]
theorem chkL_app2 {a b : Cell} (h : pureC b = true) : ∀ (M : Mem), chkL (M ++ [a]) (M ++ [b]) = true
  | [] => by simp [chkL, h]
  | k :: r => by simp [chkL, chkL_app2 h r]
theorem raisM_bad (n : Nat) : raisM (L (n + 1)) "BadMachine" [vS "rows"] = fun M => .ex badM M := by
  funext M
  rfl
theorem thenS_ex (e : Wv) (k : Ev → Mw Av) : thenS (fun M => .ex e M) k = exM e := rfl
theorem init_body (n : Nat) {rows : Wv} (hr : okW rows = true) (hd : depW rows ≤ n + 4) (j : Nat) (a : Av) :
    thenS (evSs (L (n + 5)) j p_Machine___init__.body [some a, some (.val rows), none]) nonK = (if isMach rows = true then (setF (L (n + 5)) a "rows" (.val (fixW rows)) >>= fun _ => pure (.val .non)) else exM badM) := by
  obtain ⟨k, hk⟩ := ok_kind hr
  have h1 : (L (n + 5)).full "is_listed" [Av.val rows, Av.val (.int 1), Av.val (.int 2000)] = (pure (vB (isListed rows 1 2000)) : Mw Av) := is_listed_eq (n + 4) hk (ok_kls hr) 1 2000
  unfold p_Machine___init__ isMach
  simp only [mw_bind_pure, List.map, List.length, List.replicate, List.append, List.cons_append, List.nil_append, Nat.add_sub_cancel, Nat.reduceSub, Nat.sub_self, Nat.zero_add, Nat.reduceAdd, List.set, thenS_cons, thenS_nil, thenS_nx, thenS_rt, thenS_bind, thenS_ite, bind_ite, mw_pure_bind, mw_assoc, es_ret, es_ife, es_asg, es_rais, es_fld, es_retN, ev_andF, ev_andT, evAnd_2, evAnd_1, evTAnd_0, evTAnd_1, evOr_1, evOr_2, evTOr_0, evTOr_1, ev_orF, ev_orT, ev_bi, ev_var, varM_cons0, varM_consS, ev_typ, ev_con, ev_notF, ev_notT, evL_0, evL_1, post_false, post_bl, asB_bl, blV_eq, truM_bl, retA_val, ev_cmp, ev_chain, ev_call, ev_ix', ev_attr', ev_bin', ev_sl, ev_tup, ev_lst, ev_ife, ev_glo, ev_make, ev_makek, ev_heard, wv_int, wv_bl, wv_str, wv_non, mw_ite, evO_0, evO_1, intO_int, cmp_isI, cmp_isN, cmp_geI, cmp_leI, cmp_ltI, cmp_gtI, bin_add, bin_sub, newT_0, newL_0, newT_1, newL_1, newT_2, newL_2, newT_3, newL_3, newT_4, newL_4, newT_5, newL_5, cl_is_listed_3, gl_MOST_STANDS, h1]
  cases hl : isListed rows 1 2000 with
  | false =>
    simp only [mw_bind_pure, List.map, List.length, List.replicate, List.append, List.cons_append, List.nil_append, Nat.add_sub_cancel, Nat.reduceSub, Nat.sub_self, Nat.zero_add, Nat.reduceAdd, List.set, thenS_cons, thenS_nil, thenS_nx, thenS_rt, thenS_bind, thenS_ite, bind_ite, mw_pure_bind, mw_assoc, es_ret, es_ife, es_asg, es_rais, es_fld, es_retN, ev_andF, ev_andT, evAnd_2, evAnd_1, evTAnd_0, evTAnd_1, evOr_1, evOr_2, evTOr_0, evTOr_1, ev_orF, ev_orT, ev_bi, ev_var, varM_cons0, varM_consS, ev_typ, ev_con, ev_notF, ev_notT, evL_0, evL_1, post_false, post_bl, asB_bl, blV_eq, truM_bl, retA_val, ev_cmp, ev_chain, ev_call, ev_ix', ev_attr', ev_bin', ev_sl, ev_tup, ev_lst, ev_ife, ev_glo, ev_make, ev_makek, ev_heard, wv_int, wv_bl, wv_str, wv_non, mw_ite, evO_0, evO_1, intO_int, cmp_isI, cmp_isN, cmp_geI, cmp_leI, cmp_ltI, cmp_gtI, bin_add, bin_sub, newT_0, newL_0, newT_1, newL_1, newT_2, newL_2, newT_3, newL_3, newT_4, newL_4, newT_5, newL_5, Bool.not_false, if_true, Bool.false_and, Bool.false_eq_true, if_false]
    have := raisM_bad (n + 4)
    simp only [mw_bind_pure, List.map, List.length, List.replicate, List.append, List.cons_append, List.nil_append, Nat.add_sub_cancel, Nat.reduceSub, Nat.sub_self, Nat.zero_add, Nat.reduceAdd, List.set, thenS_cons, thenS_nil, thenS_nx, thenS_rt, thenS_bind, thenS_ite, bind_ite, mw_pure_bind, mw_assoc, es_ret, es_ife, es_asg, es_rais, es_fld, es_retN, ev_andF, ev_andT, evAnd_2, evAnd_1, evTAnd_0, evTAnd_1, evOr_1, evOr_2, evTOr_0, evTOr_1, ev_orF, ev_orT, ev_bi, ev_var, varM_cons0, varM_consS, ev_typ, ev_con, ev_notF, ev_notT, evL_0, evL_1, post_false, post_bl, asB_bl, blV_eq, truM_bl, retA_val, ev_cmp, ev_chain, ev_call, ev_ix', ev_attr', ev_bin', ev_sl, ev_tup, ev_lst, ev_ife, ev_glo, ev_make, ev_makek, ev_heard, wv_int, wv_bl, wv_str, wv_non, mw_ite, evO_0, evO_1, intO_int, cmp_isI, cmp_isN, cmp_geI, cmp_leI, cmp_ltI, cmp_gtI, bin_add, bin_sub, newT_0, newL_0, newT_1, newL_1, newT_2, newL_2, newT_3, newL_3, newT_4, newL_4, newT_5, newL_5, this, thenS_ex]
  | true =>
    have hit : itA .val [Av.val rows] = pure (itemsV rows) := by
      cases rows <;> first
        | rfl
        | (simp [isListed, lenV] at hl; done)
    have hok : okL (itemsV rows) = true ∧ (itemsV rows).length ≤ sizeLine := by
      cases rows <;> simp [itemsV, okW, okL] at hr ⊢ <;> exact ⟨hr.2, hr.1⟩
    have hlen : biA (L (n + 5)) "len" [Av.val rows] = pure (vI (itemsV rows).length) := by
      cases rows <;> first
        | exact len_tup _
        | exact len_lst _
        | (simp [isListed, lenV] at hl; done)
    have lc := lc_map (g := L (n + 5)) (e := .call "is_row" [.var 2, .bi "len" [.var 1]]) (i := 2) (its := [.var 1]) (k := .val) (own := [2]) (η := [some a, some (.val rows), none]) (ws := itemsV rows) (f := fun w => .bl (isRow w (itemsV rows).length))
      (by simp only [mw_bind_pure, List.map, List.length, List.replicate, List.append, List.cons_append, List.nil_append, Nat.add_sub_cancel, Nat.reduceSub, Nat.sub_self, Nat.zero_add, Nat.reduceAdd, List.set, thenS_cons, thenS_nil, thenS_nx, thenS_rt, thenS_bind, thenS_ite, bind_ite, mw_pure_bind, mw_assoc, es_ret, es_ife, es_asg, es_rais, es_fld, es_retN, ev_andF, ev_andT, evAnd_2, evAnd_1, evTAnd_0, evTAnd_1, evOr_1, evOr_2, evTOr_0, evTOr_1, ev_orF, ev_orT, ev_bi, ev_var, varM_cons0, varM_consS, ev_typ, ev_con, ev_notF, ev_notT, evL_0, evL_1, post_false, post_bl, asB_bl, blV_eq, truM_bl, retA_val, ev_cmp, ev_chain, ev_call, ev_ix', ev_attr', ev_bin', ev_sl, ev_tup, ev_lst, ev_ife, ev_glo, ev_make, ev_makek, ev_heard, wv_int, wv_bl, wv_str, wv_non, mw_ite, evO_0, evO_1, intO_int, cmp_isI, cmp_isN, cmp_geI, cmp_leI, cmp_ltI, cmp_gtI, bin_add, bin_sub, newT_0, newL_0, newT_1, newL_1, newT_2, newL_2, newT_3, newL_3, newT_4, newL_4, newT_5, newL_5, hit]) hok.2 (fun w hw => by simp only [wipeE, mw_bind_pure, List.map, List.length, List.replicate, List.append, List.cons_append, List.nil_append, Nat.add_sub_cancel, Nat.reduceSub, Nat.sub_self, Nat.zero_add, Nat.reduceAdd, List.set, thenS_cons, thenS_nil, thenS_nx, thenS_rt, thenS_bind, thenS_ite, bind_ite, mw_pure_bind, mw_assoc, es_ret, es_ife, es_asg, es_rais, es_fld, es_retN, ev_andF, ev_andT, evAnd_2, evAnd_1, evTAnd_0, evTAnd_1, evOr_1, evOr_2, evTOr_0, evTOr_1, ev_orF, ev_orT, ev_bi, ev_var, varM_cons0, varM_consS, ev_typ, ev_con, ev_notF, ev_notT, evL_0, evL_1, post_false, post_bl, asB_bl, blV_eq, truM_bl, retA_val, ev_cmp, ev_chain, ev_call, ev_ix', ev_attr', ev_bin', ev_sl, ev_tup, ev_lst, ev_ife, ev_glo, ev_make, ev_makek, ev_heard, wv_int, wv_bl, wv_str, wv_non, mw_ite, evO_0, evO_1, intO_int, cmp_isI, cmp_isN, cmp_geI, cmp_leI, cmp_ltI, cmp_gtI, bin_add, bin_sub, newT_0, newL_0, newT_1, newL_1, newT_2, newL_2, newT_3, newL_3, newT_4, newL_4, newT_5, newL_5, hlen, cl_is_row_2, is_row_eq (n + 1) (okL_mem hok.1 w hw)])
    simp only [mw_bind_pure, List.map, List.length, List.replicate, List.append, List.cons_append, List.nil_append, Nat.add_sub_cancel, Nat.reduceSub, Nat.sub_self, Nat.zero_add, Nat.reduceAdd, List.set, thenS_cons, thenS_nil, thenS_nx, thenS_rt, thenS_bind, thenS_ite, bind_ite, mw_pure_bind, mw_assoc, es_ret, es_ife, es_asg, es_rais, es_fld, es_retN, ev_andF, ev_andT, evAnd_2, evAnd_1, evTAnd_0, evTAnd_1, evOr_1, evOr_2, evTOr_0, evTOr_1, ev_orF, ev_orT, ev_bi, ev_var, varM_cons0, varM_consS, ev_typ, ev_con, ev_notF, ev_notT, evL_0, evL_1, post_false, post_bl, asB_bl, blV_eq, truM_bl, retA_val, ev_cmp, ev_chain, ev_call, ev_ix', ev_attr', ev_bin', ev_sl, ev_tup, ev_lst, ev_ife, ev_glo, ev_make, ev_makek, ev_heard, wv_int, wv_bl, wv_str, wv_non, mw_ite, evO_0, evO_1, intO_int, cmp_isI, cmp_isN, cmp_geI, cmp_leI, cmp_ltI, cmp_gtI, bin_add, bin_sub, newT_0, newL_0, newT_1, newL_1, newT_2, newL_2, newT_3, newL_3, newT_4, newL_4, newT_5, newL_5, Bool.not_true, Bool.false_eq_true, if_false, lc, all_map, Bool.true_and]
    cases ha : (itemsV rows).all (fun r => isRow r (itemsV rows).length) with
    | false =>
      have := raisM_bad (n + 4)
      simp only [mw_bind_pure, List.map, List.length, List.replicate, List.append, List.cons_append, List.nil_append, Nat.add_sub_cancel, Nat.reduceSub, Nat.sub_self, Nat.zero_add, Nat.reduceAdd, List.set, thenS_cons, thenS_nil, thenS_nx, thenS_rt, thenS_bind, thenS_ite, bind_ite, mw_pure_bind, mw_assoc, es_ret, es_ife, es_asg, es_rais, es_fld, es_retN, ev_andF, ev_andT, evAnd_2, evAnd_1, evTAnd_0, evTAnd_1, evOr_1, evOr_2, evTOr_0, evTOr_1, ev_orF, ev_orT, ev_bi, ev_var, varM_cons0, varM_consS, ev_typ, ev_con, ev_notF, ev_notT, evL_0, evL_1, post_false, post_bl, asB_bl, blV_eq, truM_bl, retA_val, ev_cmp, ev_chain, ev_call, ev_ix', ev_attr', ev_bin', ev_sl, ev_tup, ev_lst, ev_ife, ev_glo, ev_make, ev_makek, ev_heard, wv_int, wv_bl, wv_str, wv_non, mw_ite, evO_0, evO_1, intO_int, cmp_isI, cmp_isN, cmp_geI, cmp_leI, cmp_ltI, cmp_gtI, bin_add, bin_sub, newT_0, newL_0, newT_1, newL_1, newT_2, newL_2, newT_3, newL_3, newT_4, newL_4, newT_5, newL_5, Bool.not_false, if_true, Bool.false_eq_true, if_false, this, thenS_ex]
    | true =>
      have fx := fixed_eq (n + 4) 0 hr hd
      have e : 0 + (n + 4) + 1 = n + 5 := by omega
      rw [e] at fx
      simp only [mw_bind_pure, List.map, List.length, List.replicate, List.append, List.cons_append, List.nil_append, Nat.add_sub_cancel, Nat.reduceSub, Nat.sub_self, Nat.zero_add, Nat.reduceAdd, List.set, thenS_cons, thenS_nil, thenS_nx, thenS_rt, thenS_bind, thenS_ite, bind_ite, mw_pure_bind, mw_assoc, es_ret, es_ife, es_asg, es_rais, es_fld, es_retN, ev_andF, ev_andT, evAnd_2, evAnd_1, evTAnd_0, evTAnd_1, evOr_1, evOr_2, evTOr_0, evTOr_1, ev_orF, ev_orT, ev_bi, ev_var, varM_cons0, varM_consS, ev_typ, ev_con, ev_notF, ev_notT, evL_0, evL_1, post_false, post_bl, asB_bl, blV_eq, truM_bl, retA_val, ev_cmp, ev_chain, ev_call, ev_ix', ev_attr', ev_bin', ev_sl, ev_tup, ev_lst, ev_ife, ev_glo, ev_make, ev_makek, ev_heard, wv_int, wv_bl, wv_str, wv_non, mw_ite, evO_0, evO_1, intO_int, cmp_isI, cmp_isN, cmp_geI, cmp_leI, cmp_ltI, cmp_gtI, bin_add, bin_sub, newT_0, newL_0, newT_1, newL_1, newT_2, newL_2, newT_3, newL_3, newT_4, newL_4, newT_5, newL_5, Bool.not_true, Bool.false_eq_true, if_false, if_true, cl_fixed_1, fx]
theorem exf_mach (n : Nat) : (L n).exf "Machine" = none := by rw [L_exf]; kernel_rfl
theorem setF_new (n : Nat) (M : Mem) (v : Av) : setF (L n) (.ref M.length) "rows" v (M ++ [.ins "Machine" [] []]) = .ok () (M ++ [.ins "Machine" ["rows"] [v]]) := by
  show (match (M ++ [Cell.ins "Machine" [] []])[M.length]? with
    | some (.ins c ns xs) => if (L n).fld c "rows" = true ∧ ns.length < 1000 ∧ ns.length = xs.length then Out.ok () ((M ++ [Cell.ins "Machine" [] []]).set M.length (.ins c (putFA "rows" v ns xs).1 (putFA "rows" v ns xs).2)) else .no
    | _ => .no) = _
  have e1 : (M ++ [Cell.ins "Machine" [] []])[M.length]? = some (Cell.ins "Machine" [] []) := by simp
  rw [e1]
  dsimp only
  have e2 : (L n).fld "Machine" "rows" = true := by rw [L_fld]; kernel_rfl
  rw [if_pos ⟨e2, by simp, rfl⟩]
  simp [putFA]
theorem make_eq (n : Nat) {rows : Wv} (hr : okW rows = true) (hd : depW rows ≤ n + 4) : makeA (L (n + 6)) "Machine" [.val rows] = (if isMach rows = true then pure (.val (machV rows)) else exM badM) := by
  funext M
  have hf : (L (n + 6)).full ("Machine" ++ ".__init__") [.ref M.length, .val rows] (M ++ [.ins "Machine" [] []]) = (if isMach rows = true then .ok (.val .non) (M ++ [.ins "Machine" ["rows"] [.val (fixW rows)]]) else .ex badM (M ++ [.ins "Machine" [] []])) := by
    have e : (L (n + 6)).full ("Machine" ++ ".__init__") = runD (L (n + 5)) p_Machine___init__ := fl_Machine___init__ (n + 5)
    rw [e, runD_eq]
    show finA false _ (thenS (evSs (L (n + 5)) _ p_Machine___init__.body [some (.ref M.length), some (.val rows), none]) nonK _) = _
    rw [init_body n hr hd]
    split
    · show finA false _ (Mw.bind (setF (L (n + 5)) (.ref M.length) "rows" (.val (fixW rows))) (fun _ => pure (.val .non)) _) = _
      unfold Mw.bind
      rw [setF_new]
      show finA false _ (.ok (.val .non) (M ++ [.ins "Machine" ["rows"] [.val (fixW rows)]])) = _
      unfold finA
      dsimp only
      rw [if_neg (by simp), if_pos (chkL_app2 (by simp [pureC, pures]) M)]
      have : (M ++ [Cell.ins "Machine" [] []]).length = (M ++ [Cell.ins "Machine" ["rows"] [.val (fixW rows)]]).length := by simp
      rw [this, List.take_length]
    · exact fin_ex
  unfold makeA
  rw [hf]
  split
  · rename_i M' h
    split at h
    · rename_i hm
      have h : Out.ok (Av.val .non) (M ++ [Cell.ins "Machine" ["rows"] [.val (fixW rows)]]) = Out.ok (Av.val .non) M' := h
      cases h
      rw [if_pos hm]
      have e1 : (M ++ [Cell.ins "Machine" ["rows"] [.val (fixW rows)]])[M.length]? = some (Cell.ins "Machine" ["rows"] [.val (fixW rows)]) := by simp
      rw [e1]
      dsimp only
      rw [if_pos ⟨rfl, chkL_app _ _, by simp⟩]
      simp [pures]
      rfl
    · cases h
  · rename_i h1 h2
    split at h2
    · cases h2
      first
        | exact (h1 rfl).elim
        | exact (h1 _ rfl).elim
        | exact (h1 _ rfl rfl).elim
    · cases h2
  · rename_i e M' h
    split at h
    · cases h
    · rename_i hm
      cases h
      rw [if_neg hm, if_pos (chkL_app _ _)]
      simp
  · rename_i h
    split at h <;> cases h
theorem new_eq (n : Nat) {rows : Wv} (hr : okW rows = true) (hd : depW rows ≤ n + 4) : newA (L (n + 6)) "Machine" 1 [.val rows] = (if isMach rows = true then pure (.val (machV rows)) else exM badM) := by
  rw [← make_eq n hr hd]
  unfold newA
  rw [exf_mach]
  dsimp only
  have e : (L (n + 6)).dfl ("Machine" ++ ".__init__") (1 + 1) = some [] := by rw [L_dfl]; kernel_rfl
  rw [e]
  rfl
/-! what is heard -/
theorem L_hrd (n : Nat) : (L (n + 1)).hrd = runH (L n) p_hrd := rfl
theorem heard_bad (n : Nat) : heardM (L (n + 2)) (exM badM) = pure (.val (.tup [.str "machine", .str "rows"])) := by
  funext M
  show (if (L (n + 2)).xcl "BadMachine" = true then finA false M ((L (n + 2)).hrd M.length (.val badM) (.val .non) M) else .no) = _
  have e1 : (L (n + 2)).xcl "BadMachine" = true := by rw [L_xcl]; kernel_rfl
  have e2 : (L (n + 2)).hrd M.length (.val badM) (.val .non) M = .ok (.val (.tup [.str "machine", .str "rows"])) M := by kernel_rfl
  rw [if_pos e1, e2]
  exact fin_pure
theorem heard_ok (n : Nat) (w : Wv) : heardM (L (n + 2)) (pure (.val w)) = pure (.val (.lst [w])) := by
  funext M
  show finA false M ((L (n + 2)).hrd M.length (.val .non) (.val w) M) = _
  have e2 : (L (n + 2)).hrd M.length (.val .non) (.val w) M = .ok (.val (.lst [w])) M := by kernel_rfl
  rw [e2]
  exact fin_pure
theorem heard_mach (n : Nat) (rows : Wv) : heardM (L (n + 2)) (if isMach rows = true then pure (.val (machV rows)) else exM badM) = pure (.val (if isMach rows = true then .lst [machV rows] else .tup [.str "machine", .str "rows"])) := by
  split
  · exact heard_ok n _
  · exact heard_bad n
end LW

namespace LW
open PySem PySem.Spec L2
/-! draws -/
theorem set_self {M : Mem} {p : Nat} {c : Cell} (h : M[p]? = some c) : M.set p c = M := by
  apply List.ext_getElem?
  intro i
  by_cases hi : p = i
  · subst hi
    rw [List.getElem?_set_self (List.getElem?_eq_some_iff.mp h).1, h]
  · rw [List.getElem?_set_ne hi]
theorem set_set' {M : Mem} {p : Nat} {c d : Cell} : (M.set p c).set p d = M.set p d := by simp
theorem get_set {M : Mem} {p : Nat} {c : Cell} (h : p < M.length) : (M.set p c)[p]? = some c := by simp [h]
theorem fmod_rng {a b : Int} (h : 0 < b) : 0 ≤ a.fmod b ∧ a.fmod b < b := ⟨Int.fmod_nonneg_of_pos a h, Int.fmod_lt_of_pos a h⟩
/-- what a draw gives -/
def Dr (many : Int) (M : Mem) (p k : Nat) (w : Av) (M' : Mem) : Prop := ∃ r cells pa rest, w = vI r ∧ 0 ≤ r ∧ r < many ∧ M' = M.set p (penC cells pa rest) ∧ Pen p k M'
def drawTail : List PSt := p__law_draw.body.drop 6
theorem cells_ix {cells : List Int} {i : Int} {c : Int} (h : atI cells i = some c) : ixM (.val (.lst (cells.map .int))) (vI i) = pure (vI c) := ix_lst _ _ (atI_map Wv.int cells i h)
theorem draw_tail (n : Nat) {p k : Nat} {M : Mem} {cells : List Int} {pa rest cell : Int} (hp : M[p]? = some (penC cells (pa + 1) rest)) (q1 : 0 ≤ pa) (q2 : pa + 1 + (k : Int) ≤ 1048576) (q3 : 0 ≤ rest) {many : Int} (h1 : 1 ≤ many) (h2 : many < 1073741824) (j : Nat) :
    Tr (thenS (evSs (L n) j drawTail [some (.ref p), some (vI many), none, some (vI pa), some (vI cell), none]) nonK) M (Dr many M p k) := by
  have hl : p < M.length := (List.getElem?_eq_some_iff.mp hp).1
  have hm : many ≠ 0 := by omega
  have hma : many.natAbs < 1073741824 := by omega
  have e : drawTail = [
    .ife (.and [.cmp .Lt (.var 3) (.bi "len" [.ix (.var 0) (.con (.int 0))]), .cmp .GtE (.bi "abs" [.var 4]) (.bin .Pow (.con (.int 10)) (.con (.int 18)))]) [.asg (.name 2) (.bin .Add (.bin .Mult (.con (.int 2)) (.bin .Sub (.bi "abs" [.var 4]) (.bin .Pow (.con (.int 10)) (.con (.int 18))))) (.bi "int" [.cmp .Lt (.var 4) (.con (.int 0))])), .sub (.var 0) (.con (.int 2)) (.bin .FloorDiv (.bi "int" [.var 2]) (.var 1)), .ret (.bin .Mod (.bi "int" [.var 2]) (.var 1))] [],
    .asg (.name 5) (.bin .Mod (.bi "int" [.bin .Pow (.bin .Add (.bin .Add (.bin .Mod (.bi "int" [.var 4]) (.con (.int 2147483579))) (.bin .Mult (.con (.int 34463)) (.var 3))) (.con (.int 6651))) (.con (.int 5))]) (.con (.int 2147483587))),
    .asg (.name 5) (.bin .Mod (.bi "int" [.bin .Pow (.bin .Add (.bin .Add (.bin .Mult (.var 5) (.bin .Add (.bin .Mult (.con (.int 2)) (.var 3)) (.con (.int 6651)))) (.bin .Mult (.bin .Mult (.con (.int 34463)) (.var 3)) (.var 3))) (.con (.int 71861))) (.con (.int 3))]) (.con (.int 2147483563))),
    .ret (.bin .Mod (.bi "int" [.bin .FloorDiv (.var 5) (.con (.int 64))]) (.var 1))] := rfl
  rw [e]
  have pow18 : binM .Pow (vI 10) (vI 18) = pure (vI (10 ^ 18)) := pow_ok (by decide) (by decide) (by decide)
  have m0 := fmod_rng (a := cell) (b := 2147483579) (by decide)
  generalize hx0 : cell.fmod 2147483579 = x0 at m0
  have p0 : binM .Pow (vI (x0 + 34463 * pa + 6651)) (vI 5) = pure (vI ((x0 + 34463 * pa + 6651) ^ 5)) := pow_ok (by decide) (by decide) (by omega)
  have m1 := fmod_rng (a := (x0 + 34463 * pa + 6651) ^ 5) (b := 2147483587) (by decide)
  generalize hx1 : ((x0 + 34463 * pa + 6651) ^ 5).fmod 2147483587 = x1 at m1
  have b1 : x1 * (2 * pa + 6651) ≤ 2147483587 * 2103805 := Int.mul_le_mul (by omega) (by omega) (by omega) (by decide)
  have b1' : 0 ≤ x1 * (2 * pa + 6651) := Int.mul_nonneg m1.1 (by omega)
  have b2 : 34463 * pa * pa ≤ 36137074688 * 1048576 := Int.mul_le_mul (by omega) (by omega) (by omega) (by decide)
  have b2' : 0 ≤ 34463 * pa * pa := Int.mul_nonneg (by omega) q1
  have p1 : binM .Pow (vI (x1 * (2 * pa + 6651) + 34463 * pa * pa + 71861)) (vI 3) = pure (vI ((x1 * (2 * pa + 6651) + 34463 * pa * pa + 71861) ^ 3)) := pow_ok (by decide) (by decide) (by omega)
  have mu1 : binM .Mult (vI x1) (vI (2 * pa + 6651)) = pure (vI (x1 * (2 * pa + 6651))) := mul_ok (.inl (by omega))
  have mu2 : binM .Mult (vI (34463 * pa)) (vI pa) = pure (vI (34463 * pa * pa)) := mul_ok (.inr (by omega))
  have mu3 : ∀ z : Int, binM .Mult (vI 34463) (vI z) = pure (vI (34463 * z)) := fun z => mul_ok (.inl (by decide))
  have mu4 : ∀ z : Int, binM .Mult (vI 2) (vI z) = pure (vI (2 * z)) := fun z => mul_ok (.inl (by decide))
  have md0 : binM .Mod (vI cell) (vI 2147483579) = pure (vI x0) := by rw [mod_ok (by decide), hx0]
  have md1 : binM .Mod (vI ((x0 + 34463 * pa + 6651) ^ 5)) (vI 2147483587) = pure (vI x1) := by rw [mod_ok (by decide), hx1]
  have md2 : ∀ z : Int, binM .Mod (vI z) (vI 2147483563) = pure (vI (z.fmod 2147483563)) := fun z => mod_ok (by decide)
  have dv : ∀ z : Int, binM .FloorDiv (vI z) (vI 64) = pure (vI (z.fdiv 64)) := fun z => div_ok (by decide) (by decide)
  have fin : ∀ z : Int, Tr (pure (vI (z.fmod many)) : Mw Av) M (Dr many M p k) := fun z => by
    have f := fmod_rng (a := z) (b := many) (by omega)
    exact Tr.pure ⟨_, cells, pa + 1, rest, rfl, f.1, f.2, (set_self hp).symm, ⟨cells, pa + 1, rest, hp, by omega, by omega, q3⟩⟩
  simp (implicitDefEqProofs := false) only [mw_bind_pure, List.map, List.length, List.replicate, List.append, List.cons_append, List.nil_append, Nat.add_sub_cancel, Nat.reduceSub, Nat.sub_self, Nat.zero_add, Nat.reduceAdd, List.set, thenS_cons, thenS_nil, thenS_nx, thenS_rt, thenS_bind, thenS_ite, bind_ite, mw_pure_bind, mw_assoc, es_ret, es_ife, es_asg, es_rais, es_fld, es_sub, es_ex, es_par, es_pass, es_retN, ev_andF, ev_andT, evAnd_2, evAnd_1, evTAnd_0, evTAnd_1, evOr_1, evOr_2, evTOr_0, evTOr_1, ev_orF, ev_orT, ev_bi, ev_var, varM_cons0, varM_consS, ev_typ, ev_con, ev_notF, ev_notT, evL_0, evL_1, post_false, post_bl, asB_bl, blV_eq, truM_bl, retA_val, ev_cmp, ev_chain, ev_call, ev_ix', ev_attr', ev_bin', ev_sl, ev_tup, ev_lst, ev_ife, ev_glo, ev_make, ev_makek, ev_heard, wv_int, wv_bl, wv_str, wv_non, mw_ite, evO_0, evO_1, intO_int, cmp_isI, cmp_isN, cmp_geI, cmp_leI, cmp_ltI, cmp_gtI, bin_add, bin_sub, newT_0, newL_0, newT_1, newL_1, newT_2, newL_2, newT_3, newL_3, newT_4, newL_4, newT_5, newL_5]
  refine Tr.bind (Tr.ix hp (a := .val (.lst (cells.map .int))) rfl ?_)
  simp (implicitDefEqProofs := false) only [mw_bind_pure, List.map, List.length, List.replicate, List.append, List.cons_append, List.nil_append, Nat.add_sub_cancel, Nat.reduceSub, Nat.sub_self, Nat.zero_add, Nat.reduceAdd, List.set, thenS_cons, thenS_nil, thenS_nx, thenS_rt, thenS_bind, thenS_ite, bind_ite, mw_pure_bind, mw_assoc, es_ret, es_ife, es_asg, es_rais, es_fld, es_sub, es_ex, es_par, es_pass, es_retN, ev_andF, ev_andT, evAnd_2, evAnd_1, evTAnd_0, evTAnd_1, evOr_1, evOr_2, evTOr_0, evTOr_1, ev_orF, ev_orT, ev_bi, ev_var, varM_cons0, varM_consS, ev_typ, ev_con, ev_notF, ev_notT, evL_0, evL_1, post_false, post_bl, asB_bl, blV_eq, truM_bl, retA_val, ev_cmp, ev_chain, ev_call, ev_ix', ev_attr', ev_bin', ev_sl, ev_tup, ev_lst, ev_ife, ev_glo, ev_make, ev_makek, ev_heard, wv_int, wv_bl, wv_str, wv_non, mw_ite, evO_0, evO_1, intO_int, cmp_isI, cmp_isN, cmp_geI, cmp_leI, cmp_ltI, cmp_gtI, bin_add, bin_sub, newT_0, newL_0, newT_1, newL_1, newT_2, newL_2, newT_3, newL_3, newT_4, newL_4, newT_5, newL_5, len_lst, List.length_map, abs_int, pow18, int_int, int_bl, mu1, mu2, mu3, mu4, md0, md1, md2, dv, p0, p1, mod_ok hm, div_ok hm hma, ite_bool]
  refine Tr.ite (fun z => Tr.ite (fun z2 => ?_) fun z2 => ?_) fun z => ?_
  · refine Tr.bind (Tr.setA hp (j := 2) (k := 2) rfl ?_)
    have f := fmod_rng (a := 2 * ((if cell < 0 then -cell else cell) - 10 ^ 18) + if decide (cell < 0) = true then 1 else 0) (b := many) (by omega)
    refine Tr.pure ⟨_, cells, pa + 1, _, rfl, f.1, f.2, rfl, Pen.set hl (by omega) (by omega) (Int.fdiv_nonneg ?_ (by omega))⟩
    simp only [decide_eq_true_eq] at z2
    have : (0 : Int) ≤ (if decide (cell < 0) = true then 1 else 0) := by split <;> decide
    generalize (if decide (cell < 0) = true then (1 : Int) else 0) = y at this ⊢
    generalize (if cell < 0 then -cell else cell) = y2 at z2 ⊢
    omega
  · exact fin _
  · exact fin _
theorem atI_some {α : Type} {xs : List α} {i : Int} (h0 : 0 ≤ i) (h1 : i < xs.length) : ∃ x, atI xs i = some x := by
  unfold atI ixN
  rw [if_pos h0, if_pos h1]
  have : i.toNat < xs.length := by omega
  exact ⟨xs[i.toNat], by simp [this]⟩
theorem draw_body (n : Nat) {p k : Nat} {M : Mem} (hP : Pen p (k + 1) M) {many : Int} (h1 : 1 ≤ many) (h2 : many < 1073741824) (j : Nat) :
    Tr (thenS (evSs (L n) j p__law_draw.body [some (.ref p), some (vI many), none, none, none, none]) nonK) M (Dr many M p k) := by
  obtain ⟨cells, pa, rest, hp, q1, q2, q3⟩ := hP
  have hl : p < M.length := (List.getElem?_eq_some_iff.mp hp).1
  have hm : many ≠ 0 := by omega
  have hma : many.natAbs < 1073741824 := by omega
  have eb : p__law_draw.body = p__law_draw.body.take 6 ++ drawTail := rfl
  rw [eb, thenS_app]
  unfold p__law_draw
  simp (implicitDefEqProofs := false) only [mw_bind_pure, List.map, List.length, List.replicate, List.append, List.cons_append, List.nil_append, Nat.add_sub_cancel, Nat.reduceSub, Nat.sub_self, Nat.zero_add, Nat.reduceAdd, List.set, thenS_cons, thenS_nil, thenS_nx, thenS_rt, thenS_bind, thenS_ite, bind_ite, mw_pure_bind, mw_assoc, es_ret, es_ife, es_asg, es_rais, es_fld, es_sub, es_ex, es_par, es_pass, es_retN, ev_andF, ev_andT, evAnd_2, evAnd_1, evTAnd_0, evTAnd_1, evOr_1, evOr_2, evTOr_0, evTOr_1, ev_orF, ev_orT, ev_bi, ev_var, varM_cons0, varM_consS, ev_typ, ev_con, ev_notF, ev_notT, evL_0, evL_1, post_false, post_bl, asB_bl, blV_eq, truM_bl, retA_val, ev_cmp, ev_chain, ev_call, ev_ix', ev_attr', ev_bin', ev_sl, ev_tup, ev_lst, ev_ife, ev_glo, ev_make, ev_makek, ev_heard, wv_int, wv_bl, wv_str, wv_non, mw_ite, evO_0, evO_1, intO_int, cmp_isI, cmp_isN, cmp_geI, cmp_leI, cmp_ltI, cmp_gtI, bin_add, bin_sub, newT_0, newL_0, newT_1, newL_1, newT_2, newL_2, newT_3, newL_3, newT_4, newL_4, newT_5, newL_5, bin_add, List.take]
  refine Tr.ite (fun z => ?_) fun z => ?_
  · exact Tr.pure ⟨0, cells, pa, rest, rfl, by omega, by omega, (set_self hp).symm, ⟨cells, pa, rest, hp, q1, by omega, q3⟩⟩
  refine Tr.bind (Tr.ix hp (a := vI rest) rfl ?_)
  simp (implicitDefEqProofs := false) only [mw_bind_pure, List.map, List.length, List.replicate, List.append, List.cons_append, List.nil_append, Nat.add_sub_cancel, Nat.reduceSub, Nat.sub_self, Nat.zero_add, Nat.reduceAdd, List.set, thenS_cons, thenS_nil, thenS_nx, thenS_rt, thenS_bind, thenS_ite, bind_ite, mw_pure_bind, mw_assoc, es_ret, es_ife, es_asg, es_rais, es_fld, es_sub, es_ex, es_par, es_pass, es_retN, ev_andF, ev_andT, evAnd_2, evAnd_1, evTAnd_0, evTAnd_1, evOr_1, evOr_2, evTOr_0, evTOr_1, ev_orF, ev_orT, ev_bi, ev_var, varM_cons0, varM_consS, ev_typ, ev_con, ev_notF, ev_notT, evL_0, evL_1, post_false, post_bl, asB_bl, blV_eq, truM_bl, retA_val, ev_cmp, ev_chain, ev_call, ev_ix', ev_attr', ev_bin', ev_sl, ev_tup, ev_lst, ev_ife, ev_glo, ev_make, ev_makek, ev_heard, wv_int, wv_bl, wv_str, wv_non, mw_ite, evO_0, evO_1, intO_int, cmp_isI, cmp_isN, cmp_geI, cmp_leI, cmp_ltI, cmp_gtI, bin_add, bin_sub, newT_0, newL_0, newT_1, newL_1, newT_2, newL_2, newT_3, newL_3, newT_4, newL_4, newT_5, newL_5]
  refine Tr.ite (fun z => ?_) fun z => ?_
  · refine Tr.bind (Tr.ix hp (a := vI rest) rfl ?_)
    simp (implicitDefEqProofs := false) only [mw_bind_pure, List.map, List.length, List.replicate, List.append, List.cons_append, List.nil_append, Nat.add_sub_cancel, Nat.reduceSub, Nat.sub_self, Nat.zero_add, Nat.reduceAdd, List.set, thenS_cons, thenS_nil, thenS_nx, thenS_rt, thenS_bind, thenS_ite, bind_ite, mw_pure_bind, mw_assoc, es_ret, es_ife, es_asg, es_rais, es_fld, es_sub, es_ex, es_par, es_pass, es_retN, ev_andF, ev_andT, evAnd_2, evAnd_1, evTAnd_0, evTAnd_1, evOr_1, evOr_2, evTOr_0, evTOr_1, ev_orF, ev_orT, ev_bi, ev_var, varM_cons0, varM_consS, ev_typ, ev_con, ev_notF, ev_notT, evL_0, evL_1, post_false, post_bl, asB_bl, blV_eq, truM_bl, retA_val, ev_cmp, ev_chain, ev_call, ev_ix', ev_attr', ev_bin', ev_sl, ev_tup, ev_lst, ev_ife, ev_glo, ev_make, ev_makek, ev_heard, wv_int, wv_bl, wv_str, wv_non, mw_ite, evO_0, evO_1, intO_int, cmp_isI, cmp_isN, cmp_geI, cmp_leI, cmp_ltI, cmp_gtI, bin_add, bin_sub, newT_0, newL_0, newT_1, newL_1, newT_2, newL_2, newT_3, newL_3, newT_4, newL_4, newT_5, newL_5, int_int, div_ok hm hma]
    refine Tr.bind (Tr.setA hp (j := 2) (k := 2) rfl ?_)
    simp (implicitDefEqProofs := false) only [mw_bind_pure, List.map, List.length, List.replicate, List.append, List.cons_append, List.nil_append, Nat.add_sub_cancel, Nat.reduceSub, Nat.sub_self, Nat.zero_add, Nat.reduceAdd, List.set, thenS_cons, thenS_nil, thenS_nx, thenS_rt, thenS_bind, thenS_ite, bind_ite, mw_pure_bind, mw_assoc, es_ret, es_ife, es_asg, es_rais, es_fld, es_sub, es_ex, es_par, es_pass, es_retN, ev_andF, ev_andT, evAnd_2, evAnd_1, evTAnd_0, evTAnd_1, evOr_1, evOr_2, evTOr_0, evTOr_1, ev_orF, ev_orT, ev_bi, ev_var, varM_cons0, varM_consS, ev_typ, ev_con, ev_notF, ev_notT, evL_0, evL_1, post_false, post_bl, asB_bl, blV_eq, truM_bl, retA_val, ev_cmp, ev_chain, ev_call, ev_ix', ev_attr', ev_bin', ev_sl, ev_tup, ev_lst, ev_ife, ev_glo, ev_make, ev_makek, ev_heard, wv_int, wv_bl, wv_str, wv_non, mw_ite, evO_0, evO_1, intO_int, cmp_isI, cmp_isN, cmp_geI, cmp_leI, cmp_ltI, cmp_gtI, bin_add, bin_sub, newT_0, newL_0, newT_1, newL_1, newT_2, newL_2, newT_3, newL_3, newT_4, newL_4, newT_5, newL_5, int_int, mod_ok hm]
    have f := fmod_rng (a := rest) (b := many) (by omega)
    exact Tr.pure ⟨_, cells, pa, _, rfl, f.1, f.2, rfl, Pen.set hl q1 (by omega) (Int.fdiv_nonneg (by omega) (by omega))⟩
  refine Tr.bind (Tr.ix hp (a := vI pa) rfl ?_)
  simp (implicitDefEqProofs := false) only [mw_bind_pure, List.map, List.length, List.replicate, List.append, List.cons_append, List.nil_append, Nat.add_sub_cancel, Nat.reduceSub, Nat.sub_self, Nat.zero_add, Nat.reduceAdd, List.set, thenS_cons, thenS_nil, thenS_nx, thenS_rt, thenS_bind, thenS_ite, bind_ite, mw_pure_bind, mw_assoc, es_ret, es_ife, es_asg, es_rais, es_fld, es_sub, es_ex, es_par, es_pass, es_retN, ev_andF, ev_andT, evAnd_2, evAnd_1, evTAnd_0, evTAnd_1, evOr_1, evOr_2, evTOr_0, evTOr_1, ev_orF, ev_orT, ev_bi, ev_var, varM_cons0, varM_consS, ev_typ, ev_con, ev_notF, ev_notT, evL_0, evL_1, post_false, post_bl, asB_bl, blV_eq, truM_bl, retA_val, ev_cmp, ev_chain, ev_call, ev_ix', ev_attr', ev_bin', ev_sl, ev_tup, ev_lst, ev_ife, ev_glo, ev_make, ev_makek, ev_heard, wv_int, wv_bl, wv_str, wv_non, mw_ite, evO_0, evO_1, intO_int, cmp_isI, cmp_isN, cmp_geI, cmp_leI, cmp_ltI, cmp_gtI, bin_add, bin_sub, newT_0, newL_0, newT_1, newL_1, newT_2, newL_2, newT_3, newL_3, newT_4, newL_4, newT_5, newL_5, bin_add]
  refine Tr.bind (Tr.setA hp (j := 1) (k := 1) rfl ?_)
  have hp2 : (M.set p (penC cells (pa + 1) rest))[p]? = some (penC cells (pa + 1) rest) := get_set hl
  have hs1 : M.set p (.lst ([Av.val (.lst (cells.map .int)), vI pa, vI rest].set 1 (vI (pa + 1)))) = M.set p (penC cells (pa + 1) rest) := rfl
  rw [hs1]
  have mu : binM .Mult (vI 71861) (vI pa) = pure (vI (71861 * pa)) := mul_ok (.inl (by decide))
  simp (implicitDefEqProofs := false) only [mw_bind_pure, List.map, List.length, List.replicate, List.append, List.cons_append, List.nil_append, Nat.add_sub_cancel, Nat.reduceSub, Nat.sub_self, Nat.zero_add, Nat.reduceAdd, List.set, thenS_cons, thenS_nil, thenS_nx, thenS_rt, thenS_bind, thenS_ite, bind_ite, mw_pure_bind, mw_assoc, es_ret, es_ife, es_asg, es_rais, es_fld, es_sub, es_ex, es_par, es_pass, es_retN, ev_andF, ev_andT, evAnd_2, evAnd_1, evTAnd_0, evTAnd_1, evOr_1, evOr_2, evTOr_0, evTOr_1, ev_orF, ev_orT, ev_bi, ev_var, varM_cons0, varM_consS, ev_typ, ev_con, ev_notF, ev_notT, evL_0, evL_1, post_false, post_bl, asB_bl, blV_eq, truM_bl, retA_val, ev_cmp, ev_chain, ev_call, ev_ix', ev_attr', ev_bin', ev_sl, ev_tup, ev_lst, ev_ife, ev_glo, ev_make, ev_makek, ev_heard, wv_int, wv_bl, wv_str, wv_non, mw_ite, evO_0, evO_1, intO_int, cmp_isI, cmp_isN, cmp_geI, cmp_leI, cmp_ltI, cmp_gtI, bin_add, bin_sub, newT_0, newL_0, newT_1, newL_1, newT_2, newL_2, newT_3, newL_3, newT_4, newL_4, newT_5, newL_5, bin_add, mu]
  refine Tr.bind (Tr.ix hp2 (a := .val (.lst (cells.map .int))) rfl ?_)
  simp (implicitDefEqProofs := false) only [mw_bind_pure, List.map, List.length, List.replicate, List.append, List.cons_append, List.nil_append, Nat.add_sub_cancel, Nat.reduceSub, Nat.sub_self, Nat.zero_add, Nat.reduceAdd, List.set, thenS_cons, thenS_nil, thenS_nx, thenS_rt, thenS_bind, thenS_ite, bind_ite, mw_pure_bind, mw_assoc, es_ret, es_ife, es_asg, es_rais, es_fld, es_sub, es_ex, es_par, es_pass, es_retN, ev_andF, ev_andT, evAnd_2, evAnd_1, evTAnd_0, evTAnd_1, evOr_1, evOr_2, evTOr_0, evTOr_1, ev_orF, ev_orT, ev_bi, ev_var, varM_cons0, varM_consS, ev_typ, ev_con, ev_notF, ev_notT, evL_0, evL_1, post_false, post_bl, asB_bl, blV_eq, truM_bl, retA_val, ev_cmp, ev_chain, ev_call, ev_ix', ev_attr', ev_bin', ev_sl, ev_tup, ev_lst, ev_ife, ev_glo, ev_make, ev_makek, ev_heard, wv_int, wv_bl, wv_str, wv_non, mw_ite, evO_0, evO_1, intO_int, cmp_isI, cmp_isN, cmp_geI, cmp_leI, cmp_ltI, cmp_gtI, bin_add, bin_sub, newT_0, newL_0, newT_1, newL_1, newT_2, newL_2, newT_3, newL_3, newT_4, newL_4, newT_5, newL_5, ne_nil]
  have tail : ∀ cell, Tr (thenS (evSs (L n) j drawTail [some (.ref p), some (vI many), none, some (vI pa), some (vI cell), none]) nonK) (M.set p (penC cells (pa + 1) rest)) (Dr many M p k) := fun cell => (draw_tail n hp2 q1 (by omega) q3 h1 h2 j).mono fun w M' ⟨r, c1, c2, c3, e1, e2, e3, e4, e5⟩ => ⟨r, c1, c2, c3, e1, e2, e3, by rw [e4, set_set'], e5⟩
  refine Tr.ite (fun z2 => ?_) fun z2 => ?_
  · refine Tr.bind (Tr.ix hp2 (a := .val (.lst (cells.map .int))) rfl ?_)
    simp (implicitDefEqProofs := false) only [mw_bind_pure, List.map, List.length, List.replicate, List.append, List.cons_append, List.nil_append, Nat.add_sub_cancel, Nat.reduceSub, Nat.sub_self, Nat.zero_add, Nat.reduceAdd, List.set, thenS_cons, thenS_nil, thenS_nx, thenS_rt, thenS_bind, thenS_ite, bind_ite, mw_pure_bind, mw_assoc, es_ret, es_ife, es_asg, es_rais, es_fld, es_sub, es_ex, es_par, es_pass, es_retN, ev_andF, ev_andT, evAnd_2, evAnd_1, evTAnd_0, evTAnd_1, evOr_1, evOr_2, evTOr_0, evTOr_1, ev_orF, ev_orT, ev_bi, ev_var, varM_cons0, varM_consS, ev_typ, ev_con, ev_notF, ev_notT, evL_0, evL_1, post_false, post_bl, asB_bl, blV_eq, truM_bl, retA_val, ev_cmp, ev_chain, ev_call, ev_ix', ev_attr', ev_bin', ev_sl, ev_tup, ev_lst, ev_ife, ev_glo, ev_make, ev_makek, ev_heard, wv_int, wv_bl, wv_str, wv_non, mw_ite, evO_0, evO_1, intO_int, cmp_isI, cmp_isN, cmp_geI, cmp_leI, cmp_ltI, cmp_gtI, bin_add, bin_sub, newT_0, newL_0, newT_1, newL_1, newT_2, newL_2, newT_3, newL_3, newT_4, newL_4, newT_5, newL_5, int_int]
    refine Tr.bind (Tr.ix hp2 (a := .val (.lst (cells.map .int))) rfl ?_)
    have hc : cells ≠ [] := by intro e; rw [e] at z2; simp at z2
    have hcl : 0 < cells.length := List.length_pos_iff.mpr hc
    have hm2 : (cells.length : Int) ≠ 0 := by omega
    have f := fmod_rng (a := pa) (b := cells.length) (by omega)
    obtain ⟨c, hcc⟩ := atI_some (xs := cells) f.1 f.2
    simp (implicitDefEqProofs := false) only [mw_bind_pure, List.map, List.length, List.replicate, List.append, List.cons_append, List.nil_append, Nat.add_sub_cancel, Nat.reduceSub, Nat.sub_self, Nat.zero_add, Nat.reduceAdd, List.set, thenS_cons, thenS_nil, thenS_nx, thenS_rt, thenS_bind, thenS_ite, bind_ite, mw_pure_bind, mw_assoc, es_ret, es_ife, es_asg, es_rais, es_fld, es_sub, es_ex, es_par, es_pass, es_retN, ev_andF, ev_andT, evAnd_2, evAnd_1, evTAnd_0, evTAnd_1, evOr_1, evOr_2, evTOr_0, evTOr_1, ev_orF, ev_orT, ev_bi, ev_var, varM_cons0, varM_consS, ev_typ, ev_con, ev_notF, ev_notT, evL_0, evL_1, post_false, post_bl, asB_bl, blV_eq, truM_bl, retA_val, ev_cmp, ev_chain, ev_call, ev_ix', ev_attr', ev_bin', ev_sl, ev_tup, ev_lst, ev_ife, ev_glo, ev_make, ev_makek, ev_heard, wv_int, wv_bl, wv_str, wv_non, mw_ite, evO_0, evO_1, intO_int, cmp_isI, cmp_isN, cmp_geI, cmp_leI, cmp_ltI, cmp_gtI, bin_add, bin_sub, newT_0, newL_0, newT_1, newL_1, newT_2, newL_2, newT_3, newL_3, newT_4, newL_4, newT_5, newL_5, len_lst, List.length_map, mod_ok hm2, cells_ix hcc]
    exact tail c
  · exact tail _
theorem draw_tr (n : Nat) {p k : Nat} {M : Mem} (hP : Pen p (k + 1) M) {many : Int} (h1 : 1 ≤ many) (h2 : many < 1073741824) : Tr ((L (n + 1)).full "_law_draw" [.ref p, vI many]) M (Dr many M p k) := by
  rw [fl__law_draw, runD_eq]
  obtain ⟨a, M', e, r, cells, pa, rest, rfl, e2, e3, rfl, e5⟩ := (draw_body n hP h1 h2 M.length).get
  have hl := hP.lt
  refine Tr.of (a := vI r) (M' := M.set p (penC cells pa rest)) ?_ ⟨r, cells, pa, rest, rfl, e2, e3, rfl, e5⟩
  show finA false M (thenS (evSs (L n) M.length p__law_draw.body [some (.ref p), some (vI many), none, none, none, none]) nonK M) = _
  rw [e]
  have := fin_set (k := false) rfl (c := penC cells pa rest) penC_pure (M := M) (N := []) (p := p) hl (w := .int r)
  rw [List.append_nil] at this
  exact this
end LW

namespace LW
open PySem PySem.Spec L2
/-- a value of a sort, the pen drawn from -/
def Vp (S : Wv → Prop) (M : Mem) (p k : Nat) (a : Av) (M' : Mem) : Prop := ∃ w cells pa rest, a = .val w ∧ S w ∧ M' = M.set p (penC cells pa rest) ∧ Pen p k M'
/-- .. cells of one's own behind -/
def Vq (S : Wv → Prop) (M : Mem) (p k : Nat) (a : Av) (M' : Mem) : Prop := ∃ w cells pa rest N, a = .val w ∧ S w ∧ M' = M.set p (penC cells pa rest) ++ N ∧ Pen p k (M.set p (penC cells pa rest))
theorem run_Vp {g : G} {d : PDef} {as : List Av} {S : Wv → Prop} {M : Mem} {p k : Nat} (hk : d.keep = false) (hp : p < M.length) (h : Tr (thenS (evSs g M.length d.body (as.map some ++ List.replicate (d.slots - as.length) none)) nonK) M (Vq S M p k)) : Tr (runD g d as) M (Vp S M p k) := by
  obtain ⟨a, M', e, w, cells, pa, rest, N, rfl, hS, rfl, hP⟩ := h.get
  rw [runD_eq]
  refine Tr.of (a := .val w) (M' := M.set p (penC cells pa rest)) ?_ ⟨w, cells, pa, rest, rfl, hS, rfl, hP⟩
  show finA d.keep M (thenS (evSs g M.length d.body _) nonK M) = _
  rw [e]
  exact fin_set hk penC_pure hp
theorem Vq_of {S : Wv → Prop} {M M2 : Mem} {p k : Nat} {w : Wv} (hS : S w) {cells : List Int} {pa rest : Int} (e : M2 = M.set p (penC cells pa rest)) (hP : Pen p k M2) : Vq S M p k (.val w) M2 := ⟨w, cells, pa, rest, [], rfl, hS, by rw [e, List.append_nil], by rw [← e]; exact hP⟩
theorem pick_tr (n : Nat) {p k : Nat} {M : Mem} (hP : Pen p (k + 1) M) {ws : List Wv} (h0 : ws ≠ []) (h1 : ws.length < 1000000) : Tr ((L (n + 2)).full "_law_pick" [.ref p, .val (.lst ws)]) M (Vp (fun w => w ∈ ws) M p k) := by
  rw [fl__law_pick]
  refine run_Vp rfl hP.lt ?_
  unfold p__law_pick
  have hl : 0 < ws.length := List.length_pos_iff.mpr h0
  simp (implicitDefEqProofs := false) only [mw_bind_pure, List.map, List.length, List.replicate, List.append, List.cons_append, List.nil_append, Nat.add_sub_cancel, Nat.reduceSub, Nat.sub_self, Nat.zero_add, Nat.reduceAdd, List.set, thenS_cons, thenS_nil, thenS_nx, thenS_rt, thenS_bind, thenS_ite, bind_ite, mw_pure_bind, mw_assoc, es_ret, es_ife, es_asg, es_rais, es_fld, es_sub, es_ex, es_par, es_pass, es_retN, ev_andF, ev_andT, evAnd_2, evAnd_1, evTAnd_0, evTAnd_1, evOr_1, evOr_2, evTOr_0, evTOr_1, ev_orF, ev_orT, ev_bi, ev_var, varM_cons0, varM_consS, ev_typ, ev_con, ev_notF, ev_notT, evL_0, evL_1, post_false, post_bl, asB_bl, blV_eq, truM_bl, retA_val, ev_cmp, ev_chain, ev_call, ev_ix', ev_attr', ev_bin', ev_sl, ev_tup, ev_lst, ev_ife, ev_glo, ev_make, ev_makek, ev_heard, wv_int, wv_bl, wv_str, wv_non, mw_ite, evO_0, evO_1, intO_int, cmp_isI, cmp_isN, cmp_geI, cmp_leI, cmp_ltI, cmp_gtI, bin_add, bin_sub, newT_0, newL_0, newT_1, newL_1, newT_2, newL_2, newT_3, newL_3, newT_4, newL_4, newT_5, newL_5, len_lst, cl__law_draw_2]
  refine Tr.bind ((draw_tr n hP (many := ws.length) (by omega) (by omega)).mono ?_)
  rintro a M' ⟨r, cells, pa, rest, rfl, h2, h3, rfl, h5⟩
  obtain ⟨w, hw⟩ := atI_some (xs := ws) h2 h3
  have hm : w ∈ ws := by
    unfold atI at hw
    cases q : ixN ws.length r with
    | none => rw [q] at hw; cases hw
    | some j => rw [q] at hw; exact List.mem_of_getElem? hw
  simp (implicitDefEqProofs := false) only [mw_bind_pure, List.map, List.length, List.replicate, List.append, List.cons_append, List.nil_append, Nat.add_sub_cancel, Nat.reduceSub, Nat.sub_self, Nat.zero_add, Nat.reduceAdd, List.set, thenS_cons, thenS_nil, thenS_nx, thenS_rt, thenS_bind, thenS_ite, bind_ite, mw_pure_bind, mw_assoc, es_ret, es_ife, es_asg, es_rais, es_fld, es_sub, es_ex, es_par, es_pass, es_retN, ev_andF, ev_andT, evAnd_2, evAnd_1, evTAnd_0, evTAnd_1, evOr_1, evOr_2, evTOr_0, evTOr_1, ev_orF, ev_orT, ev_bi, ev_var, varM_cons0, varM_consS, ev_typ, ev_con, ev_notF, ev_notT, evL_0, evL_1, post_false, post_bl, asB_bl, blV_eq, truM_bl, retA_val, ev_cmp, ev_chain, ev_call, ev_ix', ev_attr', ev_bin', ev_sl, ev_tup, ev_lst, ev_ife, ev_glo, ev_make, ev_makek, ev_heard, wv_int, wv_bl, wv_str, wv_non, mw_ite, evO_0, evO_1, intO_int, cmp_isI, cmp_isN, cmp_geI, cmp_leI, cmp_ltI, cmp_gtI, bin_add, bin_sub, newT_0, newL_0, newT_1, newL_1, newT_2, newL_2, newT_3, newL_3, newT_4, newL_4, newT_5, newL_5, ix_lst _ _ hw]
  exact Tr.pure (Vq_of hm rfl h5)
/-! lists under way -/
section
variable {g : G} {M : Mem} {i : Nat} {xs : List Av}
theorem lstI_ref (h : M[i]? = some (.lst xs)) : lstI M (.ref i) = some xs := by
  show (match M[i]? with
    | some (.lst xs) => some xs
    | _ => none) = _
  rw [h]
theorem Tr.len {Q : Av → Mem → Prop} (h : M[i]? = some (.lst xs)) (q : Q (vI xs.length) M) : Tr (biA g "len" [.ref i]) M Q := by
  refine Tr.of (a := vI xs.length) (M' := M) ?_ q
  show lenL (.ref i) M = _
  unfold lenL
  rw [lstI_ref h]
theorem Tr.chk {Q : Unit → Mem → Prop} (h : M[i]? = some (.lst xs)) (q : Q () M) : Tr (chkM (.ref i)) M Q := by
  refine Tr.of (a := ()) (M' := M) ?_ q
  show (match M[i]? with
    | some (.lst _) => Out.ok () M
    | _ => .no) = _
  rw [h]
theorem Tr.app {Q : Av → Mem → Prop} {a : Av} (h : M[i]? = some (.lst xs)) (hl : xs.length < sizeLine) (q : Q (.val .non) (M.set i (.lst (xs ++ [a])))) : Tr (methA "append" (.ref i) [a]) M Q := by
  refine Tr.of (a := .val .non) (M' := M.set i (.lst (xs ++ [a]))) ?_ q
  show (match M[i]? with
      | some (.lst xs) => if xs.length < sizeLine then Out.ok (Av.val .non) (M.set i (.lst (xs ++ [a]))) else .no
      | _ => .no) = _
  rw [h]
  dsimp only
  rw [if_pos hl]
theorem Tr.pop {Q : Av → Mem → Prop} {j : Int} {k : Nat} {a : Av} (h : M[i]? = some (.lst xs)) (hj : ixN xs.length j = some k) (hb : -(2 ^ 63) ≤ j ∧ j < 2 ^ 63) (ha : xs[k]? = some a) (q : Q a (M.set i (.lst (xs.eraseIdx k)))) : Tr (methA "pop" (.ref i) [vI j]) M Q := by
  refine Tr.of (a := a) (M' := M.set i (.lst (xs.eraseIdx k))) ?_ q
  show (match M[i]? with
      | some (.lst xs) => (match ixN xs.length j with
        | some k => if -(2 ^ 63) ≤ j ∧ j < 2 ^ 63 then (match xs[k]? with
          | some a => Out.ok a (M.set i (.lst (xs.eraseIdx k)))
          | none => .no) else .no
        | none => .no)
      | _ => .no) = _
  rw [h]
  dsimp only
  rw [hj]
  dsimp only
  rw [if_pos hb, ha]
theorem Tr.newL {Q : Av → Mem → Prop} {as : List Av} (q : Q (.ref M.length) (M ++ [.lst as])) : Tr (LW.newL true as) M Q := Tr.of (a := .ref M.length) (M' := M ++ [.lst as]) rfl q
theorem Tr.list {Q : Av → Mem → Prop} {ws : List Wv} (q : Q (.ref M.length) (M ++ [.lst (ws.map .val)])) : Tr (biA g "list!" [.val (.lst ws)]) M Q := Tr.of (a := .ref M.length) (M' := M ++ [.lst (ws.map .val)]) rfl q
/-- a list of texts is not empty -/
theorem Tr.neNil {Q : Bool → Mem → Prop} {xs : List Str} (h : M[i]? = some (.lst (xs.map fun x => vS x))) (hs : ∀ x ∈ xs, PyData.strOk x = true) (q : Q (!xs.isEmpty) M) : Tr (cmpA g .NotEq (.ref i) (.val (.lst []))) M Q := by
  refine Tr.of (a := !xs.isEmpty) (M' := M) ?_ q
  show Mw.of ((eqA M (.ref i) (.val (.lst []))).map not) M = _
  have e1 : toPyA M (.ref i) = some (.list (xs.map .str)) := by
    show (match M[i]? with
      | some (.lst xs) => (match pures xs with
        | some ws => toPy (.lst ws)
        | none => none)
      | _ => none) = _
    rw [h]
    dsimp only
    have : (xs.map fun x => vS x) = (xs.map Wv.str).map Av.val := by simp
    rw [this, pures_vals]
    have : toPyL (xs.map Wv.str) = some (xs.map .str) := by
      clear h hs q this
      induction xs with
      | nil => rfl
      | cons x xs ih => simp [toPyL, toPy, ih]
    simp [toPy, this]
  have sh : SeqAt.shaped (.list (xs.map .str)) = true := by
    have l : ∀ xs : List Str, (∀ x ∈ xs, PyData.strOk x = true) → PyData.canLayAll0 (xs.map .str) = true ∧ PyData.depthAll (xs.map .str) = 0 := fun xs => by
      induction xs with
      | nil => intro _; exact ⟨rfl, rfl⟩
      | cons x xs ih =>
        intro hx
        obtain ⟨h1, h2⟩ := ih fun y hy => hx y (List.mem_cons_of_mem _ hy)
        simp [PyData.canLayAll0, PyData.canLay0, PyData.depthAll, PyData.depth, h1, h2, hx x List.mem_cons_self]
    obtain ⟨h1, h2⟩ := l xs hs
    simp [SeqAt.shaped, PyData.canLay0, PyData.depth, h1, h2]
  unfold eqA
  rw [e1]
  have e2 : toPyA M (.val (.lst [])) = some (.list []) := rfl
  rw [e2]
  dsimp only
  rw [if_pos ⟨sh, by decide +kernel⟩]
  cases xs <;> rfl
end
section
variable {g : G} {M : Mem}
theorem Tr.thenS {x : Mw (Fl × Ev)} {kk : Ev → Mw Av} {Q : Av → Mem → Prop} (h : Tr x M fun r M1 => (∃ η1, r = (.nx, η1) ∧ Tr (kk η1) M1 Q) ∨ (∃ a η1, r = (.rt a, η1) ∧ Q a M1)) : Tr (LW.thenS x kk) M Q := by
  obtain ⟨r, M1, e, h⟩ := h.get
  rcases h with ⟨η1, rfl, h⟩ | ⟨a, η1, rfl, h⟩
  · obtain ⟨b, M2, e2, h⟩ := h.get
    refine Tr.of (a := b) (M' := M2) ?_ h
    unfold LW.thenS
    rw [e]
    exact e2
  · refine Tr.of (a := a) (M' := M1) ?_ h
    unfold LW.thenS
    rw [e]
theorem es_whl {n : Nat} (t : PX) (b : List PSt) (η : Ev) : evS g n (.whl t b) η = whileW (evT g t) (evSs g n b) g.fuel η := rfl
theorem Tr.whl {test : Ev → Mw Bool} {body : Ev → Mw (Fl × Ev)} {n : Nat} {η : Ev} {Q : Fl × Ev → Mem → Prop} (h : Tr (test η) M fun b M1 => (b = true → Tr (body η) M1 fun r M2 => ∃ η2, r = (.nx, η2) ∧ Tr (whileW test body n η2) M2 Q) ∧ (b = false → Q (.nx, η) M1)) : Tr (whileW test body (n + 1) η) M Q := by
  obtain ⟨b, M1, e, h1, h2⟩ := h.get
  cases b with
  | false =>
    refine Tr.of (a := (.nx, η)) (M' := M1) ?_ (h2 rfl)
    unfold whileW
    rw [e]
  | true =>
    obtain ⟨r, M2, e2, η2, rfl, h3⟩ := (h1 rfl).get
    obtain ⟨r, M3, e3, h4⟩ := h3.get
    refine Tr.of (a := r) (M' := M3) ?_ h4
    unfold whileW
    rw [e]
    dsimp only
    rw [e2]
    exact e3
theorem es_fr {n : Nat} (t : PT) (k : ItK) (its : List PX) (b : List PSt) (η : Ev) : evS g n (.fr t k its b) η = ((evL g its η >>= itA k) >>= fun ws => forW (evSs g n b) t ws η) := rfl
theorem Tr.forNil {body : Ev → Mw (Fl × Ev)} {t : PT} {η : Ev} {Q : Fl × Ev → Mem → Prop} (h : Q (.nx, η) M) : Tr (forW body t [] η) M Q := Tr.of (a := (.nx, η)) (M' := M) rfl h
theorem Tr.forCons {body : Ev → Mw (Fl × Ev)} {i : Nat} {w : Wv} {r : List Wv} {η : Ev} {Q : Fl × Ev → Mem → Prop} (h : Tr (body (η.set i (some (.val w)))) M fun x M1 => (∃ η2, x = (.nx, η2) ∧ Tr (forW body (.name i) r η2) M1 Q) ∨ (∃ a η2, x = (.rt a, η2) ∧ Q (.rt a, η2) M1)) : Tr (forW body (.name i) (w :: r) η) M Q := by
  obtain ⟨x, M1, e, h⟩ := h.get
  have e0 : forW body (.name i) (w :: r) η M = (match body (η.set i (some (.val w))) M with
      | .ok (.nx, η2) M' => forW body (.name i) r η2 M'
      | .ok (.ct, η2) M' => forW body (.name i) r η2 M'
      | .ok (.bk, η2) M' => .ok (.nx, η2) M'
      | .ok (.rt a, η2) M' => .ok (.rt a, η2) M'
      | .ex e M' => .ex e M'
      | .no => .no) := rfl
  rcases h with ⟨η2, rfl, h⟩ | ⟨a, η2, rfl, h⟩
  · obtain ⟨y, M2, e2, h⟩ := h.get
    refine Tr.of (a := y) (M' := M2) ?_ h
    rw [e0, e]
    exact e2
  · refine Tr.of (a := (.rt a, η2)) (M' := M1) ?_ h
    rw [e0, e]
end
theorem erase_map {α β : Type} (f : α → β) : ∀ (l : List α) (k : Nat), (l.map f).eraseIdx k = (l.eraseIdx k).map f
  | [], _ => rfl
  | x :: l, 0 => rfl
  | x :: l, k + 1 => by simp [erase_map f l k]
theorem erase_perm {α : Type} : ∀ (l : List α) (k : Nat) (h : k < l.length), (l[k] :: l.eraseIdx k).Perm l
  | [], k, h => by simp at h
  | x :: l, 0, h => by simp
  | x :: l, k + 1, h => by
    simp only [List.getElem_cons_succ, List.eraseIdx_cons_succ]
    exact (List.Perm.swap x _ _).trans ((erase_perm l k (by simpa using h)).cons x)
abbrev cS (l : List Str) : Cell := .lst (l.map fun x => vS x)
theorem get_a {B : Mem} {c d : Cell} : (B ++ [c, d])[B.length]? = some c := by simp
theorem get_b {B : Mem} {c d : Cell} : (B ++ [c, d])[B.length + 1]? = some d := by
  rw [List.getElem?_append_right (by omega)]
  simp
theorem set_a {B : Mem} {c d e : Cell} : (B ++ [c, d]).set B.length e = B ++ [e, d] := by
  rw [List.set_append_right _ _ (Nat.le_refl _)]
  simp
theorem set_b {B : Mem} {c d e : Cell} : (B ++ [c, d]).set (B.length + 1) e = B ++ [c, e] := by
  rw [List.set_append_right _ _ (by omega)]
  simp
theorem set_p {B N : Mem} {p : Nat} {c : Cell} (h : p < B.length) : (B ++ N).set p c = B.set p c ++ N := List.set_append_left _ _ h
theorem Pen.app {B N : Mem} {p k : Nat} (h : Pen p k B) : Pen p k (B ++ N) := by
  obtain ⟨a, b, c, e, r⟩ := h
  exact ⟨a, b, c, by rw [List.getElem?_append_left (List.getElem?_eq_some_iff.mp e).1]; exact e, r⟩
theorem Pen.unapp {B N : Mem} {p k : Nat} (hp : p < B.length) (h : Pen p k (B ++ N)) : Pen p k B := by
  obtain ⟨a, b, c, e, r⟩ := h
  rw [List.getElem?_append_left hp] at e
  exact ⟨a, b, c, e, r⟩
theorem mixed_loop (n j : Nat) {p k : Nat} (ns : Av) : ∀ (fuel : Nat) (l f : List Str) (B : Mem), l.length < fuel → f.length + l.length < 1000 → (∀ x ∈ l, PyData.strOk x = true) → Pen p (l.length + k) B →
    Tr (whileW (evT (L (n + 1)) (.cmp .NotEq (.var 2) (.lst false []))) (evSs (L (n + 1)) j [.ex (.meth "append" (.var 3) [.meth "pop" (.var 2) [.call "_law_draw" [.var 0, .bi "len" [.var 2]]]])]) fuel [some (.ref p), some ns, some (.ref B.length), some (.ref (B.length + 1))]) (B ++ [cS l, cS f])
      fun r M' => ∃ cells pa rest f', r = (.nx, [some (.ref p), some ns, some (.ref B.length), some (.ref (B.length + 1))]) ∧ M' = B.set p (penC cells pa rest) ++ [cS [], cS f'] ∧ f'.Perm (l ++ f) ∧ Pen p k (B.set p (penC cells pa rest))
  | 0, l, f, B, h, _, _, _ => by omega
  | fuel + 1, l, f, B, h, hf, hs, hP => by
    have hpl := hP.lt
    refine Tr.whl ?_
    simp (implicitDefEqProofs := false) only [mw_bind_pure, List.map, List.length, List.replicate, List.append, List.cons_append, List.nil_append, Nat.add_sub_cancel, Nat.reduceSub, Nat.sub_self, Nat.zero_add, Nat.reduceAdd, List.set, thenS_cons, thenS_nil, thenS_nx, thenS_rt, thenS_bind, thenS_ite, bind_ite, mw_pure_bind, mw_assoc, es_ret, es_ife, es_asg, es_rais, es_fld, es_sub, es_ex, es_par, es_pass, es_retN, ev_andF, ev_andT, evAnd_2, evAnd_1, evTAnd_0, evTAnd_1, evOr_1, evOr_2, evTOr_0, evTOr_1, ev_orF, ev_orT, ev_bi, ev_var, varM_cons0, varM_consS, ev_typ, ev_con, ev_notF, ev_notT, evL_0, evL_1, post_false, post_bl, asB_bl, blV_eq, truM_bl, retA_val, ev_cmp, ev_chain, ev_call, ev_ix', ev_attr', ev_bin', ev_sl, ev_tup, ev_lst, ev_ife, ev_glo, ev_make, ev_makek, ev_heard, wv_int, wv_bl, wv_str, wv_non, mw_ite, evO_0, evO_1, intO_int, cmp_isI, cmp_isN, cmp_geI, cmp_leI, cmp_ltI, cmp_gtI, bin_add, bin_sub, newT_0, newL_0, newT_1, newL_1, newT_2, newL_2, newT_3, newL_3, newT_4, newL_4, newT_5, newL_5, evT]
    refine Tr.neNil get_a hs ⟨fun z => ?_, fun z => ?_⟩
    · have hne : l ≠ [] := by intro e; rw [e] at z; simp at z
      have hlen : 0 < l.length := List.length_pos_iff.mpr hne
      simp (implicitDefEqProofs := false) only [mw_bind_pure, List.map, List.length, List.replicate, List.append, List.cons_append, List.nil_append, Nat.add_sub_cancel, Nat.reduceSub, Nat.sub_self, Nat.zero_add, Nat.reduceAdd, List.set, thenS_cons, thenS_nil, thenS_nx, thenS_rt, thenS_bind, thenS_ite, bind_ite, mw_pure_bind, mw_assoc, es_ret, es_ife, es_asg, es_rais, es_fld, es_sub, es_ex, es_par, es_pass, es_retN, ev_andF, ev_andT, evAnd_2, evAnd_1, evTAnd_0, evTAnd_1, evOr_1, evOr_2, evTOr_0, evTOr_1, ev_orF, ev_orT, ev_bi, ev_var, varM_cons0, varM_consS, ev_typ, ev_con, ev_notF, ev_notT, evL_0, evL_1, post_false, post_bl, asB_bl, blV_eq, truM_bl, retA_val, ev_cmp, ev_chain, ev_call, ev_ix', ev_attr', ev_bin', ev_sl, ev_tup, ev_lst, ev_ife, ev_glo, ev_make, ev_makek, ev_heard, wv_int, wv_bl, wv_str, wv_non, mw_ite, evO_0, evO_1, intO_int, cmp_isI, cmp_isN, cmp_geI, cmp_leI, cmp_ltI, cmp_gtI, bin_add, bin_sub, newT_0, newL_0, newT_1, newL_1, newT_2, newL_2, newT_3, newL_3, newT_4, newL_4, newT_5, newL_5, es_cons, es_nil, ev_meth, nxS_bind, nxS_nx, cl__law_draw_2]
      refine Tr.bind (Tr.chk get_b (Tr.bind (Tr.chk get_a (Tr.bind (Tr.len get_a ?_)))))
      simp (implicitDefEqProofs := false) only [mw_bind_pure, List.map, List.length, List.replicate, List.append, List.cons_append, List.nil_append, Nat.add_sub_cancel, Nat.reduceSub, Nat.sub_self, Nat.zero_add, Nat.reduceAdd, List.set, thenS_cons, thenS_nil, thenS_nx, thenS_rt, thenS_bind, thenS_ite, bind_ite, mw_pure_bind, mw_assoc, es_ret, es_ife, es_asg, es_rais, es_fld, es_sub, es_ex, es_par, es_pass, es_retN, ev_andF, ev_andT, evAnd_2, evAnd_1, evTAnd_0, evTAnd_1, evOr_1, evOr_2, evTOr_0, evTOr_1, ev_orF, ev_orT, ev_bi, ev_var, varM_cons0, varM_consS, ev_typ, ev_con, ev_notF, ev_notT, evL_0, evL_1, post_false, post_bl, asB_bl, blV_eq, truM_bl, retA_val, ev_cmp, ev_chain, ev_call, ev_ix', ev_attr', ev_bin', ev_sl, ev_tup, ev_lst, ev_ife, ev_glo, ev_make, ev_makek, ev_heard, wv_int, wv_bl, wv_str, wv_non, mw_ite, evO_0, evO_1, intO_int, cmp_isI, cmp_isN, cmp_geI, cmp_leI, cmp_ltI, cmp_gtI, bin_add, bin_sub, newT_0, newL_0, newT_1, newL_1, newT_2, newL_2, newT_3, newL_3, newT_4, newL_4, newT_5, newL_5, cl__law_draw_2, List.length_map]
      have hP1 : Pen p (l.length - 1 + k + 1) (B ++ [cS l, cS f]) := (hP.mono (by omega)).app
      refine Tr.bind ((draw_tr n hP1 (many := l.length) (by omega) (by omega)).mono ?_)
      rintro a M1 ⟨r, cells, pa, rest, rfl, h2, h3, rfl, h5⟩
      rw [set_p hpl] at h5 ⊢
      have hB : (B.set p (penC cells pa rest)).length = B.length := by simp
      have hri : r.toNat < l.length := by omega
      have hix : ixN (l.map fun x => vS x).length r = some r.toNat := by
        unfold ixN
        simp only [List.length_map]
        rw [if_pos h2, if_pos h3]
      rw [← hB]
      refine Tr.bind (Tr.pop get_a hix (by omega) (a := vS l[r.toNat]) (by simp [hri]) ?_)
      rw [set_a]
      refine Tr.bind (Tr.app get_b (by rw [show sizeLine = 16777216 from by decide]; simp; omega) ?_)
      rw [set_b]
      refine Tr.pure ⟨_, rfl, ?_⟩
      have e1 : (l.map fun x => vS x).eraseIdx r.toNat = (l.eraseIdx r.toNat).map fun x => vS x := erase_map _ _ _
      have e2 : (f.map fun x => vS x) ++ [vS l[r.toNat]] = (f ++ [l[r.toNat]]).map fun x => vS x := by simp
      rw [e1, e2]
      have el : (l.eraseIdx r.toNat).length = l.length - 1 := by rw [List.length_eraseIdx]; simp [hri]
      have ih := mixed_loop n j ns fuel (l.eraseIdx r.toNat) (f ++ [l[r.toNat]]) (B.set p (penC cells pa rest)) (by omega) (by simp; omega) (fun x hx => hs x (List.mem_of_mem_eraseIdx hx)) (by rw [el]; exact h5.unapp (by simpa using hpl))
      refine ih.mono ?_
      rintro r2 M2 ⟨c2, p2, r2', f', rfl, rfl, hf', hP2⟩
      refine ⟨c2, p2, r2', f', rfl, by rw [set_set'], ?_, by rw [set_set'] at hP2; exact hP2⟩
      refine hf'.trans ?_
      have q := erase_perm l r.toNat hri
      have : (l.eraseIdx r.toNat ++ (f ++ [l[r.toNat]])).Perm (l[r.toNat] :: l.eraseIdx r.toNat ++ f) := by
        rw [← List.append_assoc]
        refine (List.perm_append_comm).trans ?_
        simp
      exact this.trans (q.append_right f)
    · have hl : l = [] := by cases l <;> simp at z ⊢
      subst hl
      obtain ⟨cells, pa, rest, e, q⟩ := hP
      refine ⟨cells, pa, rest, f, trivial, by rw [set_self e], by simp, ?_⟩
      rw [set_self e]
      exact ⟨cells, pa, rest, e, q.1, by simp at q; omega, q.2.2⟩
theorem mixed_tr (n : Nat) {p k : Nat} {M : Mem} {ws : List Str} (hP : Pen p (ws.length + k) M) (hl : ws.length < 90) (hs : ∀ x ∈ ws, PyData.strOk x = true) : Tr ((L (n + 2)).full "_law_mixed" [.ref p, .val (.lst (ws.map .str))]) M (Vp (fun w => ∃ f : List Str, w = .lst (f.map .str) ∧ f.Perm ws) M p k) := by
  rw [fl__law_mixed]
  refine run_Vp rfl hP.lt ?_
  unfold p__law_mixed
  simp (implicitDefEqProofs := false) only [mw_bind_pure, List.map, List.length, List.replicate, List.append, List.cons_append, List.nil_append, Nat.add_sub_cancel, Nat.reduceSub, Nat.sub_self, Nat.zero_add, Nat.reduceAdd, List.set, thenS_cons, thenS_nil, thenS_nx, thenS_rt, thenS_bind, thenS_ite, bind_ite, mw_pure_bind, mw_assoc, es_ret, es_ife, es_asg, es_rais, es_fld, es_sub, es_ex, es_par, es_pass, es_retN, ev_andF, ev_andT, evAnd_2, evAnd_1, evTAnd_0, evTAnd_1, evOr_1, evOr_2, evTOr_0, evTOr_1, ev_orF, ev_orT, ev_bi, ev_var, varM_cons0, varM_consS, ev_typ, ev_con, ev_notF, ev_notT, evL_0, evL_1, post_false, post_bl, asB_bl, blV_eq, truM_bl, retA_val, ev_cmp, ev_chain, ev_call, ev_ix', ev_attr', ev_bin', ev_sl, ev_tup, ev_lst, ev_ife, ev_glo, ev_make, ev_makek, ev_heard, wv_int, wv_bl, wv_str, wv_non, mw_ite, evO_0, evO_1, intO_int, cmp_isI, cmp_isN, cmp_geI, cmp_leI, cmp_ltI, cmp_gtI, bin_add, bin_sub, newT_0, newL_0, newT_1, newL_1, newT_2, newL_2, newT_3, newL_3, newT_4, newL_4, newT_5, newL_5]
  refine Tr.bind (Tr.list (Tr.bind (Tr.newL ?_)))
  simp (implicitDefEqProofs := false) only [mw_bind_pure, List.map, List.length, List.replicate, List.append, List.cons_append, List.nil_append, Nat.add_sub_cancel, Nat.reduceSub, Nat.sub_self, Nat.zero_add, Nat.reduceAdd, List.set, thenS_cons, thenS_nil, thenS_nx, thenS_rt, thenS_bind, thenS_ite, bind_ite, mw_pure_bind, mw_assoc, es_ret, es_ife, es_asg, es_rais, es_fld, es_sub, es_ex, es_par, es_pass, es_retN, ev_andF, ev_andT, evAnd_2, evAnd_1, evTAnd_0, evTAnd_1, evOr_1, evOr_2, evTOr_0, evTOr_1, ev_orF, ev_orT, ev_bi, ev_var, varM_cons0, varM_consS, ev_typ, ev_con, ev_notF, ev_notT, evL_0, evL_1, post_false, post_bl, asB_bl, blV_eq, truM_bl, retA_val, ev_cmp, ev_chain, ev_call, ev_ix', ev_attr', ev_bin', ev_sl, ev_tup, ev_lst, ev_ife, ev_glo, ev_make, ev_makek, ev_heard, wv_int, wv_bl, wv_str, wv_non, mw_ite, evO_0, evO_1, intO_int, cmp_isI, cmp_isN, cmp_geI, cmp_leI, cmp_ltI, cmp_gtI, bin_add, bin_sub, newT_0, newL_0, newT_1, newL_1, newT_2, newL_2, newT_3, newL_3, newT_4, newL_4, newT_5, newL_5, es_whl]
  refine Tr.thenS ?_
  have hfu : (L (n + 1)).fuel = 100 := by rw [L_fuel]; rfl
  rw [hfu]
  have eM : M ++ [Cell.lst ((ws.map Wv.str).map Av.val)] ++ [Cell.lst []] = M ++ [cS ws, cS []] := by simp
  have eL : (M ++ [Cell.lst ((ws.map Wv.str).map Av.val)]).length = M.length + 1 := by simp
  rw [eM, eL]
  refine (mixed_loop n M.length (.val (.lst (ws.map .str))) 100 ws [] M (by omega) (by simp; omega) hs hP).mono ?_
  rintro r M' ⟨cells, pa, rest, f', rfl, rfl, hf, hP2⟩
  refine .inl ⟨_, rfl, ?_⟩
  simp (implicitDefEqProofs := false) only [mw_bind_pure, List.map, List.length, List.replicate, List.append, List.cons_append, List.nil_append, Nat.add_sub_cancel, Nat.reduceSub, Nat.sub_self, Nat.zero_add, Nat.reduceAdd, List.set, thenS_cons, thenS_nil, thenS_nx, thenS_rt, thenS_bind, thenS_ite, bind_ite, mw_pure_bind, mw_assoc, es_ret, es_ife, es_asg, es_rais, es_fld, es_sub, es_ex, es_par, es_pass, es_retN, ev_andF, ev_andT, evAnd_2, evAnd_1, evTAnd_0, evTAnd_1, evOr_1, evOr_2, evTOr_0, evTOr_1, ev_orF, ev_orT, ev_bi, ev_var, varM_cons0, varM_consS, ev_typ, ev_con, ev_notF, ev_notT, evL_0, evL_1, post_false, post_bl, asB_bl, blV_eq, truM_bl, retA_val, ev_cmp, ev_chain, ev_call, ev_ix', ev_attr', ev_bin', ev_sl, ev_tup, ev_lst, ev_ife, ev_glo, ev_make, ev_makek, ev_heard, wv_int, wv_bl, wv_str, wv_non, mw_ite, evO_0, evO_1, intO_int, cmp_isI, cmp_isN, cmp_geI, cmp_leI, cmp_ltI, cmp_gtI, bin_add, bin_sub, newT_0, newL_0, newT_1, newL_1, newT_2, newL_2, newT_3, newL_3, newT_4, newL_4, newT_5, newL_5]
  have hpl := hP.lt
  have eB : (M.set p (penC cells pa rest)).length = M.length := by simp
  have hb : (M.set p (penC cells pa rest) ++ [cS [], cS f'])[M.length + 1]? = some (cS f') := by
    have := get_b (B := M.set p (penC cells pa rest)) (c := cS []) (d := cS f')
    rw [eB] at this
    exact this
  refine Tr.of (a := .val (.lst (f'.map .str))) (M' := (M.set p (penC cells pa rest) ++ [cS [], cS f']).set (M.length + 1) .dead) ?_ ⟨_, cells, pa, rest, [cS [], .dead], rfl, ⟨f', rfl, by simpa using hf⟩, ?_, hP2⟩
  · show (if M.length + 1 < M.length then Out.ok (Av.ref (M.length + 1)) _ else match (M.set p (penC cells pa rest) ++ [cS [], cS f'])[M.length + 1]? with
      | some (.lst xs) => (match pures xs with
        | some ws => .ok (.val (.lst ws)) ((M.set p (penC cells pa rest) ++ [cS [], cS f']).set (M.length + 1) .dead)
        | none => .no)
      | some (.dct ks xs) => (match pures xs with
        | some ws => .ok (.val (.dct ks ws)) ((M.set p (penC cells pa rest) ++ [cS [], cS f']).set (M.length + 1) .dead)
        | none => .no)
      | _ => .no) = _
    rw [if_neg (by omega), hb]
    dsimp only
    have : (f'.map fun x => vS x) = (f'.map Wv.str).map Av.val := by simp
    rw [this, pures_vals]
  · have := set_b (B := M.set p (penC cells pa rest)) (c := cS []) (d := cS f') (e := .dead)
    rw [eB] at this
    exact this
end LW

namespace LW
open PySem PySem.Spec L2
/-! sorted -/
theorem ins_perm (x : Str) : ∀ xs, (insS x xs).Perm (x :: xs)
  | [] => .refl _
  | y :: r => by
    unfold insS
    split
    · exact .refl _
    · exact ((ins_perm x r).cons y).trans (.swap x y r)
theorem sort_perm : ∀ xs, (sortS xs).Perm xs
  | [] => .refl _
  | x :: r => by
    unfold sortS
    exact (ins_perm x _).trans ((sort_perm r).cons x)
/-- neighbours stand in order -/
def ordS : List Str → Prop
  | [] => True
  | [_] => True
  | a :: b :: r => leS a b = true ∧ ordS (b :: r)
theorem leS_tot {a b : Str} (h : ¬ leS a b = true) : leS b a = true := by
  unfold leS at *
  simp only [decide_eq_true_eq] at *
  rcases List.le_total a.cps.toList b.cps.toList with z | z
  · exact absurd z h
  · exact z
theorem ins_head (x y : Str) (r : List Str) : ∃ z t, insS x (y :: r) = z :: t ∧ (z = x ∨ z = y) := by
  unfold insS
  split
  · exact ⟨x, _, rfl, .inl rfl⟩
  · exact ⟨y, _, rfl, .inr rfl⟩
theorem ins_ord (x : Str) : ∀ xs, ordS xs → ordS (insS x xs)
  | [], _ => True.intro
  | [y], _ => by
    unfold insS
    split
    · rename_i h
      exact ⟨h, True.intro⟩
    · rename_i h
      exact ⟨leS_tot h, True.intro⟩
  | y :: z :: r, ho => by
    unfold insS
    split
    · rename_i h
      exact ⟨h, ho⟩
    · rename_i h
      have ih := ins_ord x (z :: r) ho.2
      obtain ⟨w, t, e, hw⟩ := ins_head x z r
      rw [e] at ih ⊢
      refine ⟨?_, ih⟩
      rcases hw with rfl | rfl
      · exact leS_tot h
      · exact ho.1
theorem sort_ord : ∀ xs, ordS (sortS xs)
  | [] => True.intro
  | x :: r => by
    unfold sortS
    exact ins_ord x _ (sort_ord r)
theorem str_ext {a b : Str} (h : a.cps.toList = b.cps.toList) : a = b := by
  obtain ⟨⟨a⟩⟩ := a
  obtain ⟨⟨b⟩⟩ := b
  have h : a = b := h
  rw [h]
theorem asc_of : ∀ xs : List Str, ordS xs → xs.Nodup → ascS xs = true
  | [], _, _ => rfl
  | [_], _, _ => rfl
  | a :: b :: r, ho, nd => by
    have ih := asc_of (b :: r) ho.2 (List.nodup_cons.mp nd).2
    unfold ascS at ih ⊢
    simp only [List.drop_succ_cons, List.drop_zero, List.zip_cons_cons, List.all_cons, Bool.and_eq_true, decide_eq_true_eq] at ih ⊢
    refine ⟨?_, ih⟩
    have hab : a ≠ b := fun e => by
      have := (List.nodup_cons.mp nd).1
      rw [e] at this
      simp at this
    have hle := ho.1
    unfold leS at hle
    simp only [decide_eq_true_eq] at hle
    rcases List.le_iff_lt_or_eq.mp hle with z | z
    · exact z
    · exact absurd (str_ext z) hab
/-! rows that are drawn -/
def pairW (q : Str × Int) : Wv := .tup [.str q.1, .int q.2]
/-- names that may be moves -/
def nameOk (x : Str) : Bool := isMove (.str x) && decide (x.length ≤ 8) && PyData.strOk x
inductive RowOK (many : Int) : Wv → Prop
  | me (x : Str) (t : Int) (hx : nameOk x = true) (h0 : 0 ≤ t) (h1 : t < many) : RowOK many (.tup [.str "me", .str x, .int t])
  | they (ps : List (Str × Int)) (hl : 1 ≤ ps.length) (hm : ps.length ≤ 7) (hn : ∀ q ∈ ps, nameOk q.1 = true ∧ 0 ≤ q.2 ∧ q.2 < many) (ha : ascS (ps.map (·.1)) = true) : RowOK many (.tup [.str "they", .tup (ps.map pairW)])
theorem Tr.noX {α : Type} {x : Mw α} {M : Mem} {Q : α → Mem → Prop} (h : Tr x M Q) : Tr (LW.noX x) M Q := by
  obtain ⟨a, M1, e, h⟩ := h.get
  refine Tr.of (a := a) (M' := M1) ?_ h
  unfold LW.noX
  rw [e]
/-- the pairs of a row -/
theorem pairs_tr (n : Nat) {p k : Nat} {many : Int} (h1 : 1 ≤ many) (h2 : many < 1000000) (η : Ev) (hη : ∀ w : Wv, ∃ η1, putT (.name 6) (.val w) η = some η1 ∧ varM η1 0 = pure (.ref p) ∧ varM η1 1 = pure (vI many) ∧ varM η1 6 = pure (.val w)) :
    ∀ (ws : List Str) (acc : List (Str × Int)) (M : Mem), acc.length + ws.length < 1000 → Pen p (ws.length + k) M →
      Tr (overW (lcB (.name 6) η (evIfs (L (n + 2)) []) (evE (L (n + 2)) (.tup [.var 6, .call "_law_draw" [.var 0, .var 1]]) false)) (ws.map .str) (acc.map fun q => .val (pairW q))) M
        fun as M' => ∃ cells pa rest, ∃ rs : List (Str × Int), as = ((acc ++ rs).map fun q => .val (pairW q)) ∧ rs.map (·.1) = ws ∧ (∀ q ∈ rs, 0 ≤ q.2 ∧ q.2 < many) ∧ M' = M.set p (penC cells pa rest) ∧ Pen p k M'
  | [], acc, M, _, hP => by
    obtain ⟨cells, pa, rest, e, q⟩ := hP
    exact Tr.of (a := acc.map fun q => Av.val (pairW q)) (M' := M) rfl ⟨cells, pa, rest, [], by simp, rfl, (fun q h => by cases h), (set_self e).symm, ⟨cells, pa, rest, e, q.1, by simp at q; omega, q.2.2⟩⟩
  | x :: ws, acc, M, hl, hP => by
    obtain ⟨η1, e1, v0, v1, v6⟩ := hη (.str x)
    have hP1 : Pen p (ws.length + k + 1) M := hP.mono (by simp; omega)
    have step : Tr (lcB (.name 6) η (evIfs (L (n + 2)) []) (evE (L (n + 2)) (.tup [.var 6, .call "_law_draw" [.var 0, .var 1]]) false) (.str x) (acc.map fun q => .val (pairW q))) M
        fun as M' => ∃ cells pa rest t, as = ((acc ++ [(x, t)]).map fun q => .val (pairW q)) ∧ 0 ≤ t ∧ t < many ∧ M' = M.set p (penC cells pa rest) ∧ Pen p (ws.length + k) M' := by
      unfold lcB
      rw [e1]
      dsimp only
      rw [evIfs_0]
      refine Tr.bind (Tr.noX (Tr.pure ?_))
      rw [if_pos rfl]
      refine Tr.bind (Tr.noX ?_)
      simp (implicitDefEqProofs := false) only [mw_bind_pure, List.map, List.length, List.replicate, List.append, List.cons_append, List.nil_append, Nat.add_sub_cancel, Nat.reduceSub, Nat.sub_self, Nat.zero_add, Nat.reduceAdd, List.set, thenS_cons, thenS_nil, thenS_nx, thenS_rt, thenS_bind, thenS_ite, bind_ite, mw_pure_bind, mw_assoc, es_ret, es_ife, es_asg, es_rais, es_fld, es_sub, es_ex, es_par, es_pass, es_retN, ev_andF, ev_andT, evAnd_2, evAnd_1, evTAnd_0, evTAnd_1, evOr_1, evOr_2, evTOr_0, evTOr_1, ev_orF, ev_orT, ev_bi, ev_var, varM_cons0, varM_consS, ev_typ, ev_con, ev_notF, ev_notT, evL_0, evL_1, post_false, post_bl, asB_bl, blV_eq, truM_bl, retA_val, ev_cmp, ev_chain, ev_call, ev_ix', ev_attr', ev_bin', ev_sl, ev_tup, ev_lst, ev_ife, ev_glo, ev_make, ev_makek, ev_heard, wv_int, wv_bl, wv_str, wv_non, mw_ite, evO_0, evO_1, intO_int, cmp_isI, cmp_isN, cmp_geI, cmp_leI, cmp_ltI, cmp_gtI, bin_add, bin_sub, newT_0, newL_0, newT_1, newL_1, newT_2, newL_2, newT_3, newL_3, newT_4, newL_4, newT_5, newL_5, v0, v1, v6, cl__law_draw_2]
      refine Tr.bind ((draw_tr (n + 1) hP1 h1 (by omega)).mono ?_)
      rintro a M1 ⟨r, cells, pa, rest, rfl, h3, h4, rfl, h6⟩
      simp (implicitDefEqProofs := false) only [mw_bind_pure, List.map, List.length, List.replicate, List.append, List.cons_append, List.nil_append, Nat.add_sub_cancel, Nat.reduceSub, Nat.sub_self, Nat.zero_add, Nat.reduceAdd, List.set, thenS_cons, thenS_nil, thenS_nx, thenS_rt, thenS_bind, thenS_ite, bind_ite, mw_pure_bind, mw_assoc, es_ret, es_ife, es_asg, es_rais, es_fld, es_sub, es_ex, es_par, es_pass, es_retN, ev_andF, ev_andT, evAnd_2, evAnd_1, evTAnd_0, evTAnd_1, evOr_1, evOr_2, evTOr_0, evTOr_1, ev_orF, ev_orT, ev_bi, ev_var, varM_cons0, varM_consS, ev_typ, ev_con, ev_notF, ev_notT, evL_0, evL_1, post_false, post_bl, asB_bl, blV_eq, truM_bl, retA_val, ev_cmp, ev_chain, ev_call, ev_ix', ev_attr', ev_bin', ev_sl, ev_tup, ev_lst, ev_ife, ev_glo, ev_make, ev_makek, ev_heard, wv_int, wv_bl, wv_str, wv_non, mw_ite, evO_0, evO_1, intO_int, cmp_isI, cmp_isN, cmp_geI, cmp_leI, cmp_ltI, cmp_gtI, bin_add, bin_sub, newT_0, newL_0, newT_1, newL_1, newT_2, newL_2, newT_3, newL_3, newT_4, newL_4, newT_5, newL_5]
      refine Tr.pure ?_
      rw [if_pos (by rw [show sizeLine = 16777216 from by decide]; simp; simp at hl; omega)]
      exact Tr.pure ⟨cells, pa, rest, r, by simp [pairW], h3, h4, rfl, h6⟩
    obtain ⟨as, M1, e, cells, pa, rest, t, rfl, h3, h4, rfl, h6⟩ := step.get
    have ih := pairs_tr n h1 h2 η hη ws (acc ++ [(x, t)]) _ (by simp at hl ⊢; omega) h6
    obtain ⟨as2, M2, e2, c2, p2, r2, rs, rfl, h7, h8, rfl, h9⟩ := ih.get
    refine Tr.of (a := (acc ++ [(x, t)] ++ rs).map fun q => Av.val (pairW q)) (M' := (M.set p (penC cells pa rest)).set p (penC c2 p2 r2)) ?_ ⟨c2, p2, r2, (x, t) :: rs, by simp, by simp [h7], fun q hq => ?_, by rw [set_set'], h9⟩
    · rw [List.map_cons, overW]
      simp only [e]
      exact e2
    · rcases List.mem_cons.mp hq with rfl | hq
      · exact ⟨h3, h4⟩
      · exact h8 q hq
def freeB : List PSt := [.ife (.cmp .Eq (.call "_law_draw" [.var 0, .con (.int 2)]) (.con (.int 0))) [.ex (.meth "append" (.var 3) [.tup [.con (.str "me"), .call "_law_pick" [.var 0, .var 2], .call "_law_draw" [.var 0, .var 1]]])] [.asg (.name 5) (.bi "sorted" [.sl (.call "_law_mixed" [.var 0, .var 2]) none (some (.bin .Add (.con (.int 1)) (.call "_law_draw" [.var 0, .bi "min" [.con (.int 3), .bi "len" [.var 2]]])))]), .ex (.meth "append" (.var 3) [.tup [.con (.str "they"), .bi "tuple" [.lc false (.tup [.var 6, .call "_law_draw" [.var 0, .var 1]]) (.name 6) .val [.var 5] [] [6]]]])]]
theorem free_body : p__law_m_free.body = [.asg (.name 3) (.lst true []), .fr (.name 4) .range1 [.var 1] freeB, .ret (.bi "tuple" [.var 3])] := rfl
/-- names to draw from -/
structure Names (ns : List Str) : Prop where
  len : 1 ≤ ns.length ∧ ns.length ≤ 4
  nd : ns.Nodup
  ok : ∀ x ∈ ns, nameOk x = true
theorem Names.str {ns : List Str} (h : Names ns) : ∀ x ∈ ns, PyData.strOk x = true := fun x hx => by
  have := h.ok x hx
  simp only [nameOk, Bool.and_eq_true] at this
  exact this.2
theorem tuple_vals {g : G} (xs : List Wv) : biA g "tuple" [.val (.lst xs)] = pure (.val (.tup xs)) := tuple_lst xs
theorem sorted_eq {g : G} (xs : List Str) (hl : xs.length < 64) : biA g "sorted" [.val (.lst (xs.map .str))] = pure (.val (.lst ((sortS xs).map .str))) := by
  funext M
  have e1 : (lstI M (Av.val (.lst (xs.map .str)))).bind pures = some (xs.map .str) := by
    show pures ((xs.map Wv.str).map Av.val) = _
    exact pures_vals _
  have e2 : allStr (xs.map .str) = some xs := by
    clear e1 hl
    induction xs with
    | nil => rfl
    | cons x xs ih => simp [allStr, ih]
  show (match (lstI M (Av.val (.lst (xs.map .str)))).bind pures with
    | some ws => (match allStr ws with
      | some xs => if xs.length < 64 then Out.ok (Av.val (.lst ((sortS xs).map .str))) M else .no
      | none => (match allInt ws with
        | some xs => .ok (Av.val (.lst ((sortZ xs).map .int))) M
        | none => .no))
    | none => .no) = _
  rw [e1]
  dsimp only
  rw [e2]
  dsimp only
  rw [if_pos hl]
  rfl
theorem cutT {α : Type} (xs : List α) (j : Int) (h : 0 ≤ j) : cutL xs none (some j) = xs.take j.toNat := by
  unfold cutL HT.sIx
  dsimp only
  rw [if_neg (by omega), Nat.sub_zero, List.drop_zero, ← List.take_take, List.take_length]
theorem slT_lst (xs : List Wv) (j : Int) (h : 0 ≤ j) : slM (.val (.lst xs)) none (some j) = pure (.val (.lst (xs.take j.toNat))) := by
  funext M
  show Mw.of (match lstI M (.val (.lst xs)) with
    | some xs => (match pures (cutL xs none (some j)) with
      | some ws => some (Av.val (.lst ws))
      | none => none)
    | none => none) M = _
  have : lstI M (.val (.lst xs)) = some (xs.map Av.val) := rfl
  rw [this]
  dsimp only
  rw [cutT _ _ h, ← List.map_take, pures_vals]
  rfl
abbrev cW (l : List Wv) : Cell := .lst (l.map Av.val)
theorem get_1 {B : Mem} {c : Cell} : (B ++ [c])[B.length]? = some c := by simp
theorem set_1 {B : Mem} {c d : Cell} : (B ++ [c]).set B.length d = B ++ [d] := by
  rw [List.set_append_right _ _ (Nat.le_refl _)]
  simp
theorem free_step (n j : Nat) {p k : Nat} {many : Int} (h1 : 1 ≤ many) (h2 : many < 1000000) {ns : List Str} (N : Names ns) {rows : List Wv} (hr : rows.length < 1000) {B : Mem} {s4 s5 : Option Av} (hP : Pen p (10 + k) B) :
    Tr (evSs (L (n + 3)) j freeB [some (.ref p), some (vI many), some (.val (.lst (ns.map .str))), some (.ref B.length), s4, s5, none]) (B ++ [cW rows])
      fun r M' => ∃ cells pa rest row s5', r = (.nx, [some (.ref p), some (vI many), some (.val (.lst (ns.map .str))), some (.ref B.length), s4, s5', none]) ∧ M' = B.set p (penC cells pa rest) ++ [cW (rows ++ [row])] ∧ RowOK many row ∧ Pen p k (B.set p (penC cells pa rest)) := by
  have hpl := hP.lt
  have big : sizeLine = 16777216 := by decide
  have hnl := N.len
  unfold freeB
  simp (implicitDefEqProofs := false) only [mw_bind_pure, List.map, List.length, List.replicate, List.append, List.cons_append, List.nil_append, Nat.add_sub_cancel, Nat.reduceSub, Nat.sub_self, Nat.zero_add, Nat.reduceAdd, List.set, thenS_cons, thenS_nil, thenS_nx, thenS_rt, thenS_bind, thenS_ite, bind_ite, mw_pure_bind, mw_assoc, es_ret, es_ife, es_asg, es_rais, es_fld, es_sub, es_ex, es_par, es_pass, es_retN, ev_andF, ev_andT, evAnd_2, evAnd_1, evTAnd_0, evTAnd_1, evOr_1, evOr_2, evTOr_0, evTOr_1, ev_orF, ev_orT, ev_bi, ev_var, varM_cons0, varM_consS, ev_typ, ev_con, ev_notF, ev_notT, evL_0, evL_1, post_false, post_bl, asB_bl, blV_eq, truM_bl, retA_val, ev_cmp, ev_chain, ev_call, ev_ix', ev_attr', ev_bin', ev_sl, ev_tup, ev_lst, ev_ife, ev_glo, ev_make, ev_makek, ev_heard, wv_int, wv_bl, wv_str, wv_non, mw_ite, evO_0, evO_1, intO_int, cmp_isI, cmp_isN, cmp_geI, cmp_leI, cmp_ltI, cmp_gtI, bin_add, bin_sub, newT_0, newL_0, newT_1, newL_1, newT_2, newL_2, newT_3, newL_3, newT_4, newL_4, newT_5, newL_5, es_cons, es_nil, nxS_bind, nxS_nx, nxS_ite, ev_meth, cl__law_draw_2]
  refine Tr.bind ((draw_tr (n + 2) (many := 2) (k := 9 + k) ((hP.mono (by omega)).app) (by decide) (by decide)).mono ?_)
  rintro a M1 ⟨r, cells, pa, rest, rfl, h3, h4, rfl, h6⟩
  rw [set_p hpl] at h6 ⊢
  have hB : (B.set p (penC cells pa rest)).length = B.length := by simp
  simp (implicitDefEqProofs := false) only [mw_bind_pure, List.map, List.length, List.replicate, List.append, List.cons_append, List.nil_append, Nat.add_sub_cancel, Nat.reduceSub, Nat.sub_self, Nat.zero_add, Nat.reduceAdd, List.set, thenS_cons, thenS_nil, thenS_nx, thenS_rt, thenS_bind, thenS_ite, bind_ite, mw_pure_bind, mw_assoc, es_ret, es_ife, es_asg, es_rais, es_fld, es_sub, es_ex, es_par, es_pass, es_retN, ev_andF, ev_andT, evAnd_2, evAnd_1, evTAnd_0, evTAnd_1, evOr_1, evOr_2, evTOr_0, evTOr_1, ev_orF, ev_orT, ev_bi, ev_var, varM_cons0, varM_consS, ev_typ, ev_con, ev_notF, ev_notT, evL_0, evL_1, post_false, post_bl, asB_bl, blV_eq, truM_bl, retA_val, ev_cmp, ev_chain, ev_call, ev_ix', ev_attr', ev_bin', ev_sl, ev_tup, ev_lst, ev_ife, ev_glo, ev_make, ev_makek, ev_heard, wv_int, wv_bl, wv_str, wv_non, mw_ite, evO_0, evO_1, intO_int, cmp_isI, cmp_isN, cmp_geI, cmp_leI, cmp_ltI, cmp_gtI, bin_add, bin_sub, newT_0, newL_0, newT_1, newL_1, newT_2, newL_2, newT_3, newL_3, newT_4, newL_4, newT_5, newL_5, cmp_eqI]
  refine Tr.ite (fun z => ?_) fun z => ?_
  · -- a row of mine
    rw [← hB]
    refine Tr.bind (Tr.chk get_1 ?_)
    simp only [cl__law_pick_2]
    have hne : ns.map Wv.str ≠ [] := by
      intro e
      have h0 : ns.length = 0 := by rw [← List.length_map (f := Wv.str), e]; rfl
      omega
    refine Tr.bind ((pick_tr (n + 1) (k := 8 + k) ((h6.unapp (by simpa using hpl)).mono (by omega) |>.app) hne (by simp; omega)).mono ?_)
    rintro a M2 ⟨w, c2, p2, r2, rfl, hw, rfl, h7⟩
    rw [set_p (by simpa using hpl), set_set'] at h7 ⊢
    obtain ⟨x, hx, rfl⟩ := List.mem_map.mp hw
    refine Tr.bind ((draw_tr (n + 2) (many := many) (k := 7 + k) ((h7.mono (by omega))) h1 (by omega)).mono ?_)
    rintro a M3 ⟨t, c3, p3, r3, rfl, h8, h9, rfl, h10⟩
    rw [set_p (by simpa using hpl), set_set'] at h10 ⊢
    simp (implicitDefEqProofs := false) only [mw_bind_pure, List.map, List.length, List.replicate, List.append, List.cons_append, List.nil_append, Nat.add_sub_cancel, Nat.reduceSub, Nat.sub_self, Nat.zero_add, Nat.reduceAdd, List.set, thenS_cons, thenS_nil, thenS_nx, thenS_rt, thenS_bind, thenS_ite, bind_ite, mw_pure_bind, mw_assoc, es_ret, es_ife, es_asg, es_rais, es_fld, es_sub, es_ex, es_par, es_pass, es_retN, ev_andF, ev_andT, evAnd_2, evAnd_1, evTAnd_0, evTAnd_1, evOr_1, evOr_2, evTOr_0, evTOr_1, ev_orF, ev_orT, ev_bi, ev_var, varM_cons0, varM_consS, ev_typ, ev_con, ev_notF, ev_notT, evL_0, evL_1, post_false, post_bl, asB_bl, blV_eq, truM_bl, retA_val, ev_cmp, ev_chain, ev_call, ev_ix', ev_attr', ev_bin', ev_sl, ev_tup, ev_lst, ev_ife, ev_glo, ev_make, ev_makek, ev_heard, wv_int, wv_bl, wv_str, wv_non, mw_ite, evO_0, evO_1, intO_int, cmp_isI, cmp_isN, cmp_geI, cmp_leI, cmp_ltI, cmp_gtI, bin_add, bin_sub, newT_0, newL_0, newT_1, newL_1, newT_2, newL_2, newT_3, newL_3, newT_4, newL_4, newT_5, newL_5]
    have hB2 : (B.set p (penC cells pa rest)).length = (B.set p (penC c3 p3 r3)).length := by simp
    rw [hB2]
    refine Tr.bind (Tr.app get_1 (by simp; omega) ?_)
    rw [set_1]
    refine Tr.pure ⟨c3, p3, r3, .tup [.str "me", .str x, .int t], s5, by simp [hB2], by simp, .me x t (N.ok x hx) h8 h9, (h10.unapp (by simpa using hpl)).mono (by omega)⟩
  · -- a row of theirs
    refine Tr.bind ?_
    simp only [cl__law_mixed_2]
    refine (mixed_tr (n + 1) (k := 5 + k) (h6.mono (by omega)) (by omega) N.str).mono ?_
    rintro a M2 ⟨w, c2, p2, r2, rfl, ⟨f, rfl, hf⟩, rfl, h7⟩
    rw [set_p (by simpa using hpl), set_set'] at h7 ⊢
    have hlm : (if (((ns.map Wv.str).length : Nat) : Int) < 3 then (((ns.map Wv.str).length : Nat) : Int) else 3) ≥ 1 := by
      simp only [List.length_map]
      split <;> omega
    have hlm2 : (if (((ns.map Wv.str).length : Nat) : Int) < 3 then (((ns.map Wv.str).length : Nat) : Int) else 3) ≤ 3 := by split <;> omega
    simp (implicitDefEqProofs := false) only [mw_bind_pure, List.map, List.length, List.replicate, List.append, List.cons_append, List.nil_append, Nat.add_sub_cancel, Nat.reduceSub, Nat.sub_self, Nat.zero_add, Nat.reduceAdd, List.set, thenS_cons, thenS_nil, thenS_nx, thenS_rt, thenS_bind, thenS_ite, bind_ite, mw_pure_bind, mw_assoc, es_ret, es_ife, es_asg, es_rais, es_fld, es_sub, es_ex, es_par, es_pass, es_retN, ev_andF, ev_andT, evAnd_2, evAnd_1, evTAnd_0, evTAnd_1, evOr_1, evOr_2, evTOr_0, evTOr_1, ev_orF, ev_orT, ev_bi, ev_var, varM_cons0, varM_consS, ev_typ, ev_con, ev_notF, ev_notT, evL_0, evL_1, post_false, post_bl, asB_bl, blV_eq, truM_bl, retA_val, ev_cmp, ev_chain, ev_call, ev_ix', ev_attr', ev_bin', ev_sl, ev_tup, ev_lst, ev_ife, ev_glo, ev_make, ev_makek, ev_heard, wv_int, wv_bl, wv_str, wv_non, mw_ite, evO_0, evO_1, intO_int, cmp_isI, cmp_isN, cmp_geI, cmp_leI, cmp_ltI, cmp_gtI, bin_add, bin_sub, newT_0, newL_0, newT_1, newL_1, newT_2, newL_2, newT_3, newL_3, newT_4, newL_4, newT_5, newL_5, len_lst, min_int, cl__law_draw_2]
    refine Tr.bind ((draw_tr (n + 2) (k := 4 + k) (h7.mono (by omega)) hlm (by omega)).mono ?_)
    rintro a M3 ⟨t, c3, p3, r3, rfl, h8, h9, rfl, h10⟩
    rw [set_p (by simpa using hpl), set_set'] at h10 ⊢
    have ht : 0 ≤ 1 + t := by omega
    have htk : ((f.map Wv.str).take (1 + t).toNat) = (f.take (1 + t).toNat).map .str := by rw [List.map_take]
    have hfl : f.length = ns.length := hf.length_eq
    have htl : 1 ≤ (f.take (1 + t).toNat).length ∧ (f.take (1 + t).toNat).length ≤ 3 := by
      rw [List.length_take]
      omega
    generalize hg : f.take (1 + t).toNat = fl at htk htl
    have hsl : (sortS fl).length = fl.length := (sort_perm fl).length_eq
    simp (implicitDefEqProofs := false) only [mw_bind_pure, List.map, List.length, List.replicate, List.append, List.cons_append, List.nil_append, Nat.add_sub_cancel, Nat.reduceSub, Nat.sub_self, Nat.zero_add, Nat.reduceAdd, List.set, thenS_cons, thenS_nil, thenS_nx, thenS_rt, thenS_bind, thenS_ite, bind_ite, mw_pure_bind, mw_assoc, es_ret, es_ife, es_asg, es_rais, es_fld, es_sub, es_ex, es_par, es_pass, es_retN, ev_andF, ev_andT, evAnd_2, evAnd_1, evTAnd_0, evTAnd_1, evOr_1, evOr_2, evTOr_0, evTOr_1, ev_orF, ev_orT, ev_bi, ev_var, varM_cons0, varM_consS, ev_typ, ev_con, ev_notF, ev_notT, evL_0, evL_1, post_false, post_bl, asB_bl, blV_eq, truM_bl, retA_val, ev_cmp, ev_chain, ev_call, ev_ix', ev_attr', ev_bin', ev_sl, ev_tup, ev_lst, ev_ife, ev_glo, ev_make, ev_makek, ev_heard, wv_int, wv_bl, wv_str, wv_non, mw_ite, evO_0, evO_1, intO_int, cmp_isI, cmp_isN, cmp_geI, cmp_leI, cmp_ltI, cmp_gtI, bin_add, bin_sub, newT_0, newL_0, newT_1, newL_1, newT_2, newL_2, newT_3, newL_3, newT_4, newL_4, newT_5, newL_5, bin_add, slT_lst _ _ ht, htk, sorted_eq fl (by omega)]
    have hB2 : (B.set p (penC cells pa rest)).length = (B.set p (penC c3 p3 r3)).length := by simp
    have hB3 : B.length = (B.set p (penC c3 p3 r3)).length := by simp
    rw [hB3]
    refine Tr.bind (Tr.chk get_1 ?_)
    simp (implicitDefEqProofs := false) only [mw_bind_pure, List.map, List.length, List.replicate, List.append, List.cons_append, List.nil_append, Nat.add_sub_cancel, Nat.reduceSub, Nat.sub_self, Nat.zero_add, Nat.reduceAdd, List.set, thenS_cons, thenS_nil, thenS_nx, thenS_rt, thenS_bind, thenS_ite, bind_ite, mw_pure_bind, mw_assoc, es_ret, es_ife, es_asg, es_rais, es_fld, es_sub, es_ex, es_par, es_pass, es_retN, ev_andF, ev_andT, evAnd_2, evAnd_1, evTAnd_0, evTAnd_1, evOr_1, evOr_2, evTOr_0, evTOr_1, ev_orF, ev_orT, ev_bi, ev_var, varM_cons0, varM_consS, ev_typ, ev_con, ev_notF, ev_notT, evL_0, evL_1, post_false, post_bl, asB_bl, blV_eq, truM_bl, retA_val, ev_cmp, ev_chain, ev_call, ev_ix', ev_attr', ev_bin', ev_sl, ev_tup, ev_lst, ev_ife, ev_glo, ev_make, ev_makek, ev_heard, wv_int, wv_bl, wv_str, wv_non, mw_ite, evO_0, evO_1, intO_int, cmp_isI, cmp_isN, cmp_geI, cmp_leI, cmp_ltI, cmp_gtI, bin_add, bin_sub, newT_0, newL_0, newT_1, newL_1, newT_2, newL_2, newT_3, newL_3, newT_4, newL_4, newT_5, newL_5, ev_lc, wipeE, walk_lst]
    have pt := pairs_tr (n + 1) (p := p) (k := 1 + k) h1 h2 [some (.ref p), some (vI many), some (.val (.lst (ns.map .str))), some (.ref (B.set p (penC c3 p3 r3)).length), s4, some (.val (.lst ((sortS fl).map .str))), none]
      (fun w => ⟨_, rfl, rfl, rfl, rfl⟩) (sortS fl) [] _ (by simp; omega) (h10.mono (by omega))
    refine Tr.bind (pt.mono ?_)
    rintro as M4 ⟨c4, p4, r4, ps, rfl, hp1, hp2, rfl, h11⟩
    rw [set_p (by simpa using hpl), set_set'] at h11 ⊢
    have ep : (([] ++ ps).map fun q => Av.val (pairW q)) = (ps.map pairW).map Av.val := by simp
    rw [ep, newL_vals]
    simp (implicitDefEqProofs := false) only [mw_bind_pure, List.map, List.length, List.replicate, List.append, List.cons_append, List.nil_append, Nat.add_sub_cancel, Nat.reduceSub, Nat.sub_self, Nat.zero_add, Nat.reduceAdd, List.set, thenS_cons, thenS_nil, thenS_nx, thenS_rt, thenS_bind, thenS_ite, bind_ite, mw_pure_bind, mw_assoc, es_ret, es_ife, es_asg, es_rais, es_fld, es_sub, es_ex, es_par, es_pass, es_retN, ev_andF, ev_andT, evAnd_2, evAnd_1, evTAnd_0, evTAnd_1, evOr_1, evOr_2, evTOr_0, evTOr_1, ev_orF, ev_orT, ev_bi, ev_var, varM_cons0, varM_consS, ev_typ, ev_con, ev_notF, ev_notT, evL_0, evL_1, post_false, post_bl, asB_bl, blV_eq, truM_bl, retA_val, ev_cmp, ev_chain, ev_call, ev_ix', ev_attr', ev_bin', ev_sl, ev_tup, ev_lst, ev_ife, ev_glo, ev_make, ev_makek, ev_heard, wv_int, wv_bl, wv_str, wv_non, mw_ite, evO_0, evO_1, intO_int, cmp_isI, cmp_isN, cmp_geI, cmp_leI, cmp_ltI, cmp_gtI, bin_add, bin_sub, newT_0, newL_0, newT_1, newL_1, newT_2, newL_2, newT_3, newL_3, newT_4, newL_4, newT_5, newL_5, tuple_vals]
    have hB4 : (B.set p (penC c3 p3 r3)).length = (B.set p (penC c4 p4 r4)).length := by simp
    rw [hB4]
    refine Tr.bind (Tr.app get_1 (by simp; omega) ?_)
    rw [set_1]
    have pl : ps.length = fl.length := by rw [← hsl, ← hp1]; simp
    have sub : ∀ q ∈ ps, q.1 ∈ ns := fun q hq => by
      have m1 : q.1 ∈ sortS fl := by rw [← hp1]; exact List.mem_map.mpr ⟨q, hq, rfl⟩
      have m2 : q.1 ∈ fl := (sort_perm fl).mem_iff.mp m1
      rw [← hg] at m2
      exact hf.mem_iff.mp (List.mem_of_mem_take m2)
    have nd : (sortS fl).Nodup := by
      refine (sort_perm fl).nodup_iff.mpr ?_
      rw [← hg]
      exact (hf.nodup_iff.mpr N.nd).sublist (List.take_sublist _ _)
    refine Tr.pure ⟨c4, p4, r4, .tup [.str "they", .tup (ps.map pairW)], some (.val (.lst ((sortS fl).map .str))), by simp [hB4], by simp, .they ps (by omega) (by omega) (fun q hq => ⟨N.ok _ (sub q hq), hp2 q hq⟩) (by rw [hp1]; exact asc_of _ (sort_ord fl) nd), (h11.unapp (by simpa using hpl)).mono (by omega)⟩
end LW

namespace LW
open PySem PySem.Spec L2
theorem free_loop (n j : Nat) {p k : Nat} {many : Int} (h1 : 1 ≤ many) (h2 : many < 1000000) {ns : List Str} (N : Names ns) : ∀ (ws rows : List Wv) (B : Mem) (s4 s5 : Option Av), rows.length + ws.length < 1000 → (∀ r ∈ rows, RowOK many r) → Pen p (10 * ws.length + k) B →
    Tr (forW (evSs (L (n + 3)) j freeB) (.name 4) ws [some (.ref p), some (vI many), some (.val (.lst (ns.map .str))), some (.ref B.length), s4, s5, none]) (B ++ [cW rows])
      fun r M' => ∃ cells pa rest rows' s4' s5', r = (.nx, [some (.ref p), some (vI many), some (.val (.lst (ns.map .str))), some (.ref B.length), s4', s5', none]) ∧ M' = B.set p (penC cells pa rest) ++ [cW rows'] ∧ rows'.length = rows.length + ws.length ∧ (∀ r ∈ rows', RowOK many r) ∧ Pen p k (B.set p (penC cells pa rest))
  | [], rows, B, s4, s5, hl, hr, hP => by
    obtain ⟨cells, pa, rest, e, q⟩ := hP
    refine Tr.forNil ⟨cells, pa, rest, rows, s4, s5, rfl, by rw [set_self e], rfl, hr, ?_⟩
    rw [set_self e]
    exact ⟨cells, pa, rest, e, q.1, by simp at q; omega, q.2.2⟩
  | w :: ws, rows, B, s4, s5, hl, hr, hP => by
    have hpl := hP.lt
    refine Tr.forCons ?_
    have st := free_step n j (k := 10 * ws.length + k) h1 h2 N (rows := rows) (by simp at hl; omega) (B := B) (s4 := some (.val w)) (s5 := s5) (hP.mono (by simp; omega))
    refine st.mono ?_
    rintro r M' ⟨cells, pa, rest, row, s5', rfl, rfl, hrow, hP2⟩
    refine .inl ⟨_, rfl, ?_⟩
    have hB : (B.set p (penC cells pa rest)).length = B.length := by simp
    have ih := free_loop n j h1 h2 N ws (rows ++ [row]) (B.set p (penC cells pa rest)) (some (.val w)) s5' (by simp at hl ⊢; omega) (fun r hr2 => by
      rcases List.mem_append.mp hr2 with z | z
      · exact hr r z
      · rw [List.mem_singleton.mp z]; exact hrow) hP2
    rw [hB] at ih
    refine ih.mono ?_
    rintro r2 M2 ⟨c2, p2, r2', rows', s4', s5'', rfl, rfl, hl2, hr2, hP3⟩
    exact ⟨c2, p2, r2', rows', s4', s5'', rfl, by rw [set_set'], by rw [hl2]; simp; omega, hr2, by rw [set_set'] at hP3; exact hP3⟩
theorem range_len (lo : Int) (m : Nat) : (rangeW lo m).length = m := by simp [rangeW]
theorem free_tr (n : Nat) {p k : Nat} {M : Mem} {m : Nat} (h1 : 1 ≤ m) (h2 : m < 90) {ns : List Str} (N : Names ns) (hP : Pen p (10 * m + k) M) : Tr ((L (n + 4)).full "_law_m_free" [.ref p, vI m, .val (.lst (ns.map .str))]) M (Vp (fun w => ∃ rows, w = .tup rows ∧ rows.length = m ∧ ∀ r ∈ rows, RowOK m r) M p k) := by
  rw [fl__law_m_free]
  have hpl := hP.lt
  refine run_Vp rfl hpl ?_
  rw [free_body]
  have hr : rangeA1 [vI (m : Int)] = pure (rangeW 0 m) := by
    funext M
    have h62 : -(2 ^ 62) ≤ (m : Int) ∧ (m : Int) < 2 ^ 62 := ⟨by omega, by omega⟩
    unfold rangeA1
    simp only [vI]
    rw [if_pos h62]
    simp
    rfl
  have hr2 : itA .range1 [vI (m : Int)] = pure (rangeW 0 m) := hr
  simp (implicitDefEqProofs := false) only [mw_bind_pure, List.map, List.length, List.replicate, List.append, List.cons_append, List.nil_append, Nat.add_sub_cancel, Nat.reduceSub, Nat.sub_self, Nat.zero_add, Nat.reduceAdd, List.set, thenS_cons, thenS_nil, thenS_nx, thenS_rt, thenS_bind, thenS_ite, bind_ite, mw_pure_bind, mw_assoc, es_ret, es_ife, es_asg, es_rais, es_fld, es_sub, es_ex, es_par, es_pass, es_retN, ev_andF, ev_andT, evAnd_2, evAnd_1, evTAnd_0, evTAnd_1, evOr_1, evOr_2, evTOr_0, evTOr_1, ev_orF, ev_orT, ev_bi, ev_var, varM_cons0, varM_consS, ev_typ, ev_con, ev_notF, ev_notT, evL_0, evL_1, post_false, post_bl, asB_bl, blV_eq, truM_bl, retA_val, ev_cmp, ev_chain, ev_call, ev_ix', ev_attr', ev_bin', ev_sl, ev_tup, ev_lst, ev_ife, ev_glo, ev_make, ev_makek, ev_heard, wv_int, wv_bl, wv_str, wv_non, mw_ite, evO_0, evO_1, intO_int, cmp_isI, cmp_isN, cmp_geI, cmp_leI, cmp_ltI, cmp_gtI, bin_add, bin_sub, newT_0, newL_0, newT_1, newL_1, newT_2, newL_2, newT_3, newL_3, newT_4, newL_4, newT_5, newL_5, p__law_m_free, es_fr, hr2]
  refine Tr.bind (Tr.newL ?_)
  refine Tr.thenS ?_
  have lp := free_loop n M.length (k := k) (p := p) (many := m) (by omega) (by omega) N (rangeW 0 m) [] M none none (by rw [range_len]; simp; omega) (fun r h => by cases h) (by rw [range_len]; exact hP)
  refine lp.mono ?_
  rintro r M' ⟨cells, pa, rest, rows, s4, s5, rfl, rfl, hl, hok, hP2⟩
  refine .inl ⟨_, rfl, ?_⟩
  have hB : (M.set p (penC cells pa rest)).length = M.length := by simp
  simp (implicitDefEqProofs := false) only [mw_bind_pure, List.map, List.length, List.replicate, List.append, List.cons_append, List.nil_append, Nat.add_sub_cancel, Nat.reduceSub, Nat.sub_self, Nat.zero_add, Nat.reduceAdd, List.set, thenS_cons, thenS_nil, thenS_nx, thenS_rt, thenS_bind, thenS_ite, bind_ite, mw_pure_bind, mw_assoc, es_ret, es_ife, es_asg, es_rais, es_fld, es_sub, es_ex, es_par, es_pass, es_retN, ev_andF, ev_andT, evAnd_2, evAnd_1, evTAnd_0, evTAnd_1, evOr_1, evOr_2, evTOr_0, evTOr_1, ev_orF, ev_orT, ev_bi, ev_var, varM_cons0, varM_consS, ev_typ, ev_con, ev_notF, ev_notT, evL_0, evL_1, post_false, post_bl, asB_bl, blV_eq, truM_bl, retA_val, ev_cmp, ev_chain, ev_call, ev_ix', ev_attr', ev_bin', ev_sl, ev_tup, ev_lst, ev_ife, ev_glo, ev_make, ev_makek, ev_heard, wv_int, wv_bl, wv_str, wv_non, mw_ite, evO_0, evO_1, intO_int, cmp_isI, cmp_isN, cmp_geI, cmp_leI, cmp_ltI, cmp_gtI, bin_add, bin_sub, newT_0, newL_0, newT_1, newL_1, newT_2, newL_2, newT_3, newL_3, newT_4, newL_4, newT_5, newL_5]
  have tp : Tr (biA (L (n + 3)) "tuple" [.ref M.length]) (M.set p (penC cells pa rest) ++ [cW rows]) fun a M' => a = .val (.tup rows) ∧ M' = M.set p (penC cells pa rest) ++ [cW rows] := by
    refine Tr.of (a := .val (.tup rows)) (M' := M.set p (penC cells pa rest) ++ [cW rows]) ?_ ⟨rfl, rfl⟩
    show (match itemsA (M.set p (penC cells pa rest) ++ [cW rows]) (.ref M.length) with
      | some xs => newT xs (M.set p (penC cells pa rest) ++ [cW rows])
      | none => .no) = _
    have g1 : (M.set p (penC cells pa rest) ++ [cW rows])[M.length]? = some (cW rows) := by
      have := get_1 (B := M.set p (penC cells pa rest)) (c := cW rows)
      rw [hB] at this
      exact this
    have : itemsA (M.set p (penC cells pa rest) ++ [cW rows]) (.ref M.length) = some (rows.map Av.val) := lstI_ref g1
    rw [this]
    dsimp only
    rw [newT_vals]
    rfl
  refine Tr.bind (tp.mono ?_)
  rintro a M2 ⟨rfl, rfl⟩
  simp (implicitDefEqProofs := false) only [mw_bind_pure, List.map, List.length, List.replicate, List.append, List.cons_append, List.nil_append, Nat.add_sub_cancel, Nat.reduceSub, Nat.sub_self, Nat.zero_add, Nat.reduceAdd, List.set, thenS_cons, thenS_nil, thenS_nx, thenS_rt, thenS_bind, thenS_ite, bind_ite, mw_pure_bind, mw_assoc, es_ret, es_ife, es_asg, es_rais, es_fld, es_sub, es_ex, es_par, es_pass, es_retN, ev_andF, ev_andT, evAnd_2, evAnd_1, evTAnd_0, evTAnd_1, evOr_1, evOr_2, evTOr_0, evTOr_1, ev_orF, ev_orT, ev_bi, ev_var, varM_cons0, varM_consS, ev_typ, ev_con, ev_notF, ev_notT, evL_0, evL_1, post_false, post_bl, asB_bl, blV_eq, truM_bl, retA_val, ev_cmp, ev_chain, ev_call, ev_ix', ev_attr', ev_bin', ev_sl, ev_tup, ev_lst, ev_ife, ev_glo, ev_make, ev_makek, ev_heard, wv_int, wv_bl, wv_str, wv_non, mw_ite, evO_0, evO_1, intO_int, cmp_isI, cmp_isN, cmp_geI, cmp_leI, cmp_ltI, cmp_gtI, bin_add, bin_sub, newT_0, newL_0, newT_1, newL_1, newT_2, newL_2, newT_3, newL_3, newT_4, newL_4, newT_5, newL_5]
  exact Tr.pure ⟨_, cells, pa, rest, [cW rows], rfl, ⟨rows, rfl, by rw [hl, range_len]; simp, hok⟩, rfl, hP2⟩
end LW

namespace LW
open PySem PySem.Spec L2
/-! what drawn rows are -/
def tgts : Wv → List Int
  | .tup [.str _, .str _, .int t] => [t]
  | .tup [.str _, .tup ps] => ps.map fun p => match p with
    | .tup [_, .int t] => t
    | _ => 0
  | _ => []
theorem big : sizeLine = 16777216 := by decide
theorem okT {xs : List Wv} (h : xs.length ≤ 1000) (h2 : okL xs = true) : okW (.tup xs) = true := by
  simp only [okW, Bool.and_eq_true, decide_eq_true_eq]
  exact ⟨by rw [big]; omega, h2⟩
theorem okC {w : Wv} {ws : List Wv} (h : okW w = true) (h2 : okL ws = true) : okL (w :: ws) = true := by
  simp only [okL, Bool.and_eq_true]
  exact ⟨h, h2⟩
theorem ok_me : okW (.str "me") = true := by decide +kernel
theorem ok_they : okW (.str "they") = true := by decide +kernel
theorem nameOk_ok {x : Str} (h : nameOk x = true) : isMove (.str x) = true ∧ okW (.str x) = true := by
  simp only [nameOk, Bool.and_eq_true, decide_eq_true_eq] at h
  obtain ⟨⟨h1, h2⟩, h3⟩ := h
  refine ⟨h1, ?_⟩
  simp only [okW, Bool.and_eq_true, decide_eq_true_eq]
  exact ⟨by rw [big]; omega, h3⟩
theorem okW_pair {q : Str × Int} (h : nameOk q.1 = true) : okW (pairW q) = true := by
  exact okT (by simp) (okC (nameOk_ok h).2 (okC rfl rfl))
theorem okL_pairs : ∀ (ps : List (Str × Int)), (∀ q ∈ ps, nameOk q.1 = true) → okL (ps.map pairW) = true
  | [], _ => rfl
  | q :: ps, h => by
    simp only [List.map_cons, okL, Bool.and_eq_true]
    exact ⟨okW_pair (h q List.mem_cons_self), okL_pairs ps fun r hr => h r (List.mem_cons_of_mem _ hr)⟩
theorem depL_pairs : ∀ (ps : List (Str × Int)), depL (ps.map pairW) ≤ 1
  | [] => by simp [depL]
  | q :: ps => by
    have := depL_pairs ps
    simp [depL, pairW, depW] at this ⊢
    omega
theorem fixL_pairs : ∀ (ps : List (Str × Int)), fixL (ps.map pairW) = ps.map pairW
  | [] => rfl
  | q :: ps => by simp [fixL, pairW, fixW, fixL_pairs ps]
theorem RowOK.okW {m : Int} {r : Wv} (h : RowOK m r) : LW.okW r = true := by
  cases h with
  | me x t hx h0 h1 => exact okT (by simp) (okC ok_me (okC (nameOk_ok hx).2 (okC rfl rfl)))
  | they ps hl hm hn ha => exact okT (by simp) (okC ok_they (okC (okT (by simp; omega) (okL_pairs ps fun q hq => (hn q hq).1)) rfl))
theorem RowOK.dep {m : Int} {r : Wv} (h : RowOK m r) : depW r ≤ 3 := by
  cases h with
  | me x t hx h0 h1 => simp [depW, depL]
  | they ps hl hm hn ha =>
    have := depL_pairs ps
    simp [depW, depL]
    omega
theorem RowOK.fix {m : Int} {r : Wv} (h : RowOK m r) : fixW r = r := by
  cases h with
  | me x t hx h0 h1 => simp [fixW, fixL]
  | they ps hl hm hn ha => simp [fixW, fixL, fixL_pairs]
theorem isPair_pair {q : Str × Int} {m : Int} (h : isMove (.str q.1) = true) (h0 : 0 ≤ q.2) : isPair (pairW q) m = decide (q.2 < m) := by
  simp only [isPair, pairW, isListed, lenV, itemsV, h, isWithin, List.length]
  by_cases z : q.2 < m
  · have : q.2 ≤ m - 1 := by omega
    simp [h0, z, this]
  · have : ¬ q.2 ≤ m - 1 := by omega
    simp [h0, z, this]
theorem RowOK.row {m m' : Int} {r : Wv} (h : RowOK m r) : isRow r m' = (tgts r).all fun t => decide (t < m') := by
  cases h with
  | me x t hx h0 h1 =>
    have hm := (nameOk_ok hx).1
    have hp := isPair_pair (q := (x, t)) (m := m') hm h0
    simp only [pairW] at hp
    simp [isRow, isListed, lenV, itemsV, tgts, hp]
  | they ps hl hm hn ha =>
    have e1 : ∀ ps : List (Str × Int), (∀ q ∈ ps, nameOk q.1 = true ∧ 0 ≤ q.2) → (ps.map pairW).all (fun p => isPair p m') = (ps.map (·.2)).all (fun t => decide (t < m')) := fun ps hps => by
      induction ps with
      | nil => rfl
      | cons q ps ih =>
        have h1 := hps q List.mem_cons_self
        simp only [List.map_cons, List.all_cons, isPair_pair (nameOk_ok h1.1).1 h1.2, ih fun r hr => hps r (List.mem_cons_of_mem _ hr)]
    have e2 : (ps.map pairW).map nameOf = ps.map (·.1) := by
      rw [List.map_map]
      rfl
    have e3 : tgts (.tup [.str "they", .tup (ps.map pairW)]) = ps.map (·.2) := by
      simp only [tgts, List.map_map]
      rfl
    have e4 : isListed (.tup (ps.map pairW)) 1 7 = true := by simp [isListed, lenV]; omega
    have ne : ¬ (("they" : Str) = "me") := by decide
    rw [e3, ← e1 ps fun q hq => ⟨(hn q hq).1, (hn q hq).2.1⟩]
    simp only [isRow, itemsV, if_neg ne, e4, e2, ha, Bool.and_true, Bool.true_and, decide_true]
    simp [isListed, lenV]
theorem RowOK.tgt {m : Int} {r : Wv} (h : RowOK m r) : ∀ t ∈ tgts r, 0 ≤ t ∧ t < m := by
  cases h with
  | me x t hx h0 h1 => simp [tgts]; exact ⟨h0, h1⟩
  | they ps hl hm hn ha =>
    have e3 : tgts (.tup [.str "they", .tup (ps.map pairW)]) = ps.map (·.2) := by
      simp only [tgts, List.map_map]
      rfl
    rw [e3]
    intro t ht
    obtain ⟨q, hq, rfl⟩ := List.mem_map.mp ht
    exact (hn q hq).2
theorem RowOK.isRow {m : Int} {r : Wv} (h : RowOK m r) : LW.isRow r m = true := by
  rw [h.row (m' := m)]
  exact List.all_eq_true.mpr fun t ht => decide_eq_true (h.tgt t ht).2
/-- the rows of a machine -/
structure RowsOK (m : Nat) (rows : List Wv) : Prop where
  len : rows.length = m
  rng : 1 ≤ m ∧ m ≤ 7
  row : ∀ r ∈ rows, RowOK m r
theorem okL_of : ∀ {ws : List Wv}, (∀ w ∈ ws, okW w = true) → okL ws = true
  | [], _ => rfl
  | w :: ws, h => by
    simp only [okL, Bool.and_eq_true]
    exact ⟨h w List.mem_cons_self, okL_of fun x hx => h x (List.mem_cons_of_mem _ hx)⟩
theorem depL_of {d : Nat} : ∀ {ws : List Wv}, (∀ w ∈ ws, depW w ≤ d) → depL ws ≤ d
  | [], _ => by simp [depL]
  | w :: ws, h => by
    have h1 := h w List.mem_cons_self
    have h2 := depL_of fun x hx => h x (List.mem_cons_of_mem _ hx)
    simp only [depL]
    omega
theorem fixL_of : ∀ {ws : List Wv}, (∀ w ∈ ws, fixW w = w) → fixL ws = ws
  | [], _ => rfl
  | w :: ws, h => by simp only [fixL, h w List.mem_cons_self, fixL_of fun x hx => h x (List.mem_cons_of_mem _ hx)]
theorem RowsOK.okW {m : Nat} {rows : List Wv} (h : RowsOK m rows) : LW.okW (.tup rows) = true := by
  simp only [LW.okW, Bool.and_eq_true, decide_eq_true_eq]
  exact ⟨by have := h.len; have := h.rng; rw [big]; omega, okL_of fun r hr => (h.row r hr).okW⟩
theorem RowsOK.dep {m : Nat} {rows : List Wv} (h : RowsOK m rows) : depW (.tup rows) ≤ 4 := by
  simp only [depW]
  have := depL_of fun r hr => (h.row r hr).dep
  omega
theorem RowsOK.fix {m : Nat} {rows : List Wv} (h : RowsOK m rows) : fixW (.tup rows) = .tup rows := by
  simp only [fixW, fixL_of fun r hr => (h.row r hr).fix]
theorem RowsOK.mach {m : Nat} {rows : List Wv} (h : RowsOK m rows) : isMach (.tup rows) = true := by
  have hl := h.len
  have hr := h.rng
  simp only [isMach, isListed, lenV, itemsV, Bool.and_eq_true, decide_eq_true_eq]
  refine ⟨⟨by omega, by omega⟩, List.all_eq_true.mpr fun r hr2 => ?_⟩
  rw [hl]
  exact (h.row r hr2).isRow
end LW

namespace LW
open PySem PySem.Spec L2
/-! machines compared -/
theorem gl_Machine (n : Nat) : gloM (L n) "Machine" = (pure (.val (.cls "Machine")) : Mw Av) := by
  unfold gloM
  rw [L_glob]
  kernel_rfl
abbrev insM (a : Wv) : Wv := .ins "Machine" ["rows"] [a]
theorem isi_cls (n : Nat) {v : Wv} {k : Kn} {t : Str} {r : Bool} (hk : kindOf v = some k) (hr : pk.g0.kit k (.own t) = some r) : biA (L n) "isinstance" [Av.val v, Av.val (.cls t)] = (pure (vB r) : Mw Av) := by
  funext M
  show (match isiA (L n) M (Av.val v) (Av.val (.cls t)) with
      | some k => Out.ok (Av.val (.bl k)) M
      | none => .no) = _
  have : isiA (L n) M (Av.val v) (Av.val (.cls t)) = some r := by
    unfold isiA
    rw [knA_kind hk]
    show (L n).kit k (.own t) = some r
    rw [L_kit]
    exact hr
  rw [this]
  rfl
theorem attr_rows (n : Nat) (a : Wv) : attrM (L n) "rows" (.val (insM a)) = pure (.val a) := by
  funext M
  show Mw.of (if (L n).fld "Machine" "rows" = true then (([("rows" : Str)].zip [a]).lookup ("rows" : Str)).map Av.val else none) M = _
  have : (L n).fld "Machine" "rows" = true := by rw [L_fld]; kernel_rfl
  rw [if_pos this]
  rfl
theorem eq_mach_call (n : Nat) {a b : Wv} {r : Bool} (h : cmpA (L n) .Eq (.val a) (.val b) = pure r) : (L (n + 1)).full "Machine.__eq__" [.val (insM a), .val (insM b)] = pure (vB r) := by
  rw [fl_Machine___eq__]
  refine runD_pure fun m => ?_
  unfold p_Machine___eq__
  have h1 := isi_cls n (v := insM b) (t := "Machine") (r := true) (k := .own "Machine") rfl (by kernel_rfl)
  simp (implicitDefEqProofs := false) only [mw_bind_pure, List.map, List.length, List.replicate, List.append, List.cons_append, List.nil_append, Nat.add_sub_cancel, Nat.reduceSub, Nat.sub_self, Nat.zero_add, Nat.reduceAdd, List.set, thenS_cons, thenS_nil, thenS_nx, thenS_rt, thenS_bind, thenS_ite, bind_ite, mw_pure_bind, mw_assoc, es_ret, es_ife, es_asg, es_rais, es_fld, es_sub, es_ex, es_par, es_pass, es_retN, ev_andF, ev_andT, evAnd_2, evAnd_1, evTAnd_0, evTAnd_1, evOr_1, evOr_2, evTOr_0, evTOr_1, ev_orF, ev_orT, ev_bi, ev_var, varM_cons0, varM_consS, ev_typ, ev_con, ev_notF, ev_notT, evL_0, evL_1, post_false, post_bl, asB_bl, blV_eq, truM_bl, retA_val, ev_cmp, ev_chain, ev_call, ev_ix', ev_attr', ev_bin', ev_sl, ev_tup, ev_lst, ev_ife, ev_glo, ev_make, ev_makek, ev_heard, wv_int, wv_bl, wv_str, wv_non, mw_ite, evO_0, evO_1, intO_int, cmp_isI, cmp_isN, cmp_geI, cmp_leI, cmp_ltI, cmp_gtI, bin_add, bin_sub, newT_0, newL_0, newT_1, newL_1, newT_2, newL_2, newT_3, newL_3, newT_4, newL_4, newT_5, newL_5, gl_Machine, h1, attr_rows, h, if_true]
theorem eq_mach_not (n : Nat) {a b : Wv} {k : Kn} (hk : kindOf b = some k) (hr : pk.g0.kit k (.own "Machine") = some false) : (L (n + 1)).full "Machine.__eq__" [.val (insM a), .val b] = pure (vB false) := by
  rw [fl_Machine___eq__]
  refine runD_pure fun m => ?_
  unfold p_Machine___eq__
  have h1 := isi_cls n (v := b) (t := "Machine") hk hr
  simp (implicitDefEqProofs := false) only [mw_bind_pure, List.map, List.length, List.replicate, List.append, List.cons_append, List.nil_append, Nat.add_sub_cancel, Nat.reduceSub, Nat.sub_self, Nat.zero_add, Nat.reduceAdd, List.set, thenS_cons, thenS_nil, thenS_nx, thenS_rt, thenS_bind, thenS_ite, bind_ite, mw_pure_bind, mw_assoc, es_ret, es_ife, es_asg, es_rais, es_fld, es_sub, es_ex, es_par, es_pass, es_retN, ev_andF, ev_andT, evAnd_2, evAnd_1, evTAnd_0, evTAnd_1, evOr_1, evOr_2, evTOr_0, evTOr_1, ev_orF, ev_orT, ev_bi, ev_var, varM_cons0, varM_consS, ev_typ, ev_con, ev_notF, ev_notT, evL_0, evL_1, post_false, post_bl, asB_bl, blV_eq, truM_bl, retA_val, ev_cmp, ev_chain, ev_call, ev_ix', ev_attr', ev_bin', ev_sl, ev_tup, ev_lst, ev_ife, ev_glo, ev_make, ev_makek, ev_heard, wv_int, wv_bl, wv_str, wv_non, mw_ite, evO_0, evO_1, intO_int, cmp_isI, cmp_isN, cmp_geI, cmp_leI, cmp_ltI, cmp_gtI, bin_add, bin_sub, newT_0, newL_0, newT_1, newL_1, newT_2, newL_2, newT_3, newL_3, newT_4, newL_4, newT_5, newL_5, gl_Machine, h1, Bool.false_eq_true, if_false]
theorem cmp_own (n : Nat) {o : CmpOp} {a b : Wv} {k : Kn} {r : Bool} (hk : kindOf b = some k) (hn : pk.g0.nf "Machine" k = true) (h : (L n).full "Machine.__eq__" [.val (insM a), .val b] = pure (vB r)) (ho : o = .Eq ∨ o = .NotEq) : cmpA (L n) o (.val (insM a)) (.val b) = pure (if o = .Eq then r else !r) := by
  funext M
  show ownC (L n) o "Machine" (.val (insM a)) (.val b) M = _
  unfold ownC
  rw [knA_kind hk]
  have h1 : (L n).mth "Machine" "__eq__" = true := by rw [L_mth]; kernel_rfl
  have h2 : (L n).nf "Machine" k = true := by rw [L_nf]; exact hn
  have h3 : (L n).mth "Machine" "!=" = true := by rw [L_mth]; kernel_rfl
  have h4 : (L n).call ("Machine" ++ ".__eq__") 2 [.val (insM a), .val b] = (L n).full "Machine.__eq__" [.val (insM a), .val b] := cl_Machine___eq___2 n _ _
  dsimp only
  rw [if_pos ⟨h1, h2⟩, h4, h]
  rcases ho with rfl | rfl
  · rfl
  · show (if CmpOp.NotEq = .Eq then Out.ok r M else if CmpOp.NotEq = .NotEq ∧ (L n).mth "Machine" "!=" = true then .ok (!r) M else .no) = _
    rw [if_neg (by decide), if_pos ⟨rfl, h3⟩]
    rfl
theorem cmp_mach (n : Nat) {o : CmpOp} {a b : Wv} {r : Bool} (h : cmpA (L n) .Eq (.val a) (.val b) = pure r) (ho : o = .Eq ∨ o = .NotEq) : cmpA (L (n + 1)) o (.val (insM a)) (.val (insM b)) = pure (if o = .Eq then r else !r) := cmp_own (n + 1) (k := .own "Machine") rfl (by kernel_rfl) (eq_mach_call n h) ho
theorem cmp_mach_tup (n : Nat) {a : Wv} {xs : List Wv} : cmpA (L (n + 1)) .Eq (.val (insM a)) (.val (.tup xs)) = pure false := cmp_own (n + 1) (k := .bt "tuple") rfl (by kernel_rfl) (eq_mach_not n (k := .bt "tuple") rfl (by kernel_rfl)) (.inl rfl)
theorem cmp_mach_int (n : Nat) {a : Wv} {i : Int} : cmpA (L (n + 1)) .Eq (.val (insM a)) (vI i) = pure false := cmp_own (n + 1) (k := .bt "int") rfl (by kernel_rfl) (eq_mach_not n (k := .bt "int") rfl (by kernel_rfl)) (.inl rfl)
theorem len_mach (n : Nat) {xs : List Wv} (h : xs.length < 2 ^ 62) : biA (L (n + 1)) "len" [.val (insM (.tup xs))] = pure (vI xs.length) := by
  have e : (L (n + 1)).full "Machine.__len__" [.val (insM (.tup xs))] = pure (vI xs.length) := by
    rw [fl_Machine___len__]
    refine runD_pure fun m => ?_
    unfold p_Machine___len__
    simp (implicitDefEqProofs := false) only [mw_bind_pure, List.map, List.length, List.replicate, List.append, List.cons_append, List.nil_append, Nat.add_sub_cancel, Nat.reduceSub, Nat.sub_self, Nat.zero_add, Nat.reduceAdd, List.set, thenS_cons, thenS_nil, thenS_nx, thenS_rt, thenS_bind, thenS_ite, bind_ite, mw_pure_bind, mw_assoc, es_ret, es_ife, es_asg, es_rais, es_fld, es_sub, es_ex, es_par, es_pass, es_retN, ev_andF, ev_andT, evAnd_2, evAnd_1, evTAnd_0, evTAnd_1, evOr_1, evOr_2, evTOr_0, evTOr_1, ev_orF, ev_orT, ev_bi, ev_var, varM_cons0, varM_consS, ev_typ, ev_con, ev_notF, ev_notT, evL_0, evL_1, post_false, post_bl, asB_bl, blV_eq, truM_bl, retA_val, ev_cmp, ev_chain, ev_call, ev_ix', ev_attr', ev_bin', ev_sl, ev_tup, ev_lst, ev_ife, ev_glo, ev_make, ev_makek, ev_heard, wv_int, wv_bl, wv_str, wv_non, mw_ite, evO_0, evO_1, intO_int, cmp_isI, cmp_isN, cmp_geI, cmp_leI, cmp_ltI, cmp_gtI, bin_add, bin_sub, newT_0, newL_0, newT_1, newL_1, newT_2, newL_2, newT_3, newL_3, newT_4, newL_4, newT_5, newL_5, attr_rows, len_tup]
  funext M
  have h1 : (L (n + 1)).mth "Machine" "__len__" = true := by rw [L_mth]; kernel_rfl
  have h4 : (L (n + 1)).call ("Machine" ++ ".__len__") 1 [.val (insM (.tup xs))] = (L (n + 1)).full "Machine.__len__" [.val (insM (.tup xs))] := cl_Machine___len___1 (n + 1) _
  show (if (L (n + 1)).mth "Machine" "__len__" = true then (match (L (n + 1)).call ("Machine" ++ ".__len__") 1 [.val (insM (.tup xs))] M with
    | .ok (.val (.int n)) M' => if 0 ≤ n ∧ n < 2 ^ 63 then Out.ok (Av.val (.int n)) M' else .no
    | _ => .no) else .no) = _
  rw [if_pos h1, h4, e]
  show (if 0 ≤ (xs.length : Int) ∧ (xs.length : Int) < 2 ^ 63 then Out.ok (vI xs.length) M else .no) = _
  rw [if_pos (by omega)]
  rfl
/-! listed -/
mutual
def lstW : Wv → Wv
  | .tup xs => .lst (lstL xs)
  | .lst xs => .lst (lstL xs)
  | v => v
def lstL : List Wv → List Wv
  | [] => []
  | w :: ws => lstW w :: lstL ws
end
theorem lstL_map : ∀ ws, lstL ws = ws.map lstW
  | [] => by simp [lstL]
  | w :: ws => by simp [lstL, lstL_map ws]
theorem lstL_len (ws : List Wv) : (lstL ws).length = ws.length := by rw [lstL_map]; simp
mutual
theorem fix_lst : ∀ w, fixW (lstW w) = fixW w
  | .tup xs => by simp only [lstW, fixW, fix_lstL xs]
  | .lst xs => by simp only [lstW, fixW, fix_lstL xs]
  | .non => rfl
  | .bl _ => rfl
  | .int _ => rfl
  | .str _ => rfl
  | .ty _ => rfl
  | .cls _ => rfl
  | .kls _ => rfl
  | .dct _ _ => rfl
  | .ins _ _ _ => rfl
  | .exc _ _ _ => rfl
theorem fix_lstL : ∀ ws, fixL (lstL ws) = fixL ws
  | [] => rfl
  | w :: ws => by simp only [lstL, fixL, fix_lst w, fix_lstL ws]
end
mutual
theorem dep_lst : ∀ w, depW (lstW w) = depW w
  | .tup xs => by simp only [lstW, depW, dep_lstL xs]
  | .lst xs => by simp only [lstW, depW, dep_lstL xs]
  | .non => rfl
  | .bl _ => rfl
  | .int _ => rfl
  | .str _ => rfl
  | .ty _ => rfl
  | .cls _ => rfl
  | .kls _ => rfl
  | .dct _ _ => rfl
  | .ins _ _ _ => rfl
  | .exc _ _ _ => rfl
theorem dep_lstL : ∀ ws, depL (lstL ws) = depL ws
  | [] => rfl
  | w :: ws => by simp only [lstL, depL, dep_lst w, dep_lstL ws]
end
mutual
theorem ok_lst : ∀ w, okW (lstW w) = okW w
  | .tup xs => by simp only [lstW, okW, ok_lstL xs, lstL_len]
  | .lst xs => by simp only [lstW, okW, ok_lstL xs, lstL_len]
  | .non => rfl
  | .bl _ => rfl
  | .int _ => rfl
  | .str _ => rfl
  | .ty _ => rfl
  | .cls _ => rfl
  | .kls _ => rfl
  | .dct _ _ => rfl
  | .ins _ _ _ => rfl
  | .exc _ _ _ => rfl
theorem ok_lstL : ∀ ws, okL (lstL ws) = okL ws
  | [] => rfl
  | w :: ws => by simp only [lstL, okL, ok_lst w, ok_lstL ws]
end
theorem listed_eq : ∀ (d n : Nat) {v : Wv}, okW v = true → depW v ≤ d → (L (n + d + 1)).full "_law_m_listed" [Av.val v] = (pure (Av.val (lstW v)) : Mw Av) := by
  intro d
  induction d with
  | zero =>
    intro n v hv hd
    obtain ⟨k, hk⟩ := ok_kind hv
    rw [fl__law_m_listed]
    refine runD_pure fun m => ?_
    unfold p__law_m_listed
    cases v with
    | tup xs => simp only [depW] at hd; omega
    | lst xs => simp only [depW] at hd; omega
    | kls xs => simp [okW] at hv
    | _ => simp [mw_bind_pure, List.map, List.length, List.replicate, List.append, List.cons_append, List.nil_append, Nat.add_sub_cancel, Nat.reduceSub, Nat.sub_self, Nat.zero_add, Nat.reduceAdd, List.set, thenS_cons, thenS_nil, thenS_nx, thenS_rt, thenS_bind, thenS_ite, bind_ite, mw_pure_bind, mw_assoc, es_ret, es_ife, es_asg, es_rais, es_fld, es_sub, es_ex, es_par, es_pass, es_retN, ev_andF, ev_andT, evAnd_2, evAnd_1, evTAnd_0, evTAnd_1, evOr_1, evOr_2, evTOr_0, evTOr_1, ev_orF, ev_orT, ev_bi, ev_var, varM_cons0, varM_consS, ev_typ, ev_con, ev_notF, ev_notT, evL_0, evL_1, post_false, post_bl, asB_bl, blV_eq, truM_bl, retA_val, ev_cmp, ev_chain, ev_call, ev_ix', ev_attr', ev_bin', ev_sl, ev_tup, ev_lst, ev_ife, ev_glo, ev_make, ev_makek, ev_heard, wv_int, wv_bl, wv_str, wv_non, mw_ite, evO_0, evO_1, intO_int, cmp_isI, cmp_isN, cmp_geI, cmp_leI, cmp_ltI, cmp_gtI, bin_add, bin_sub, newT_0, newL_0, newT_1, newL_1, newT_2, newL_2, newT_3, newL_3, newT_4, newL_4, newT_5, newL_5, isi_seq _ hk, isSeq, lstW]
  | succ d ih =>
    intro n v hv hd
    obtain ⟨k, hk⟩ := ok_kind hv
    rw [fl__law_m_listed]
    refine runD_pure fun m => ?_
    unfold p__law_m_listed
    have step : ∀ (v : Wv) (xs : List Wv), itA .val [Av.val v] = pure xs → okL xs = true → xs.length ≤ sizeLine → depL xs ≤ d →
        evE (L (n + (d + 1))) (.lc false (.call "_law_m_listed" [.var 1]) (.name 1) .val [.var 0] [] [1]) false [some (Av.val v), none] = pure (.val (.lst (xs.map lstW))) := fun v xs hit hok hl hdx => by
      refine lc_map (ws := xs) (f := lstW) (by simp (implicitDefEqProofs := false) only [mw_bind_pure, List.map, List.length, List.replicate, List.append, List.cons_append, List.nil_append, Nat.add_sub_cancel, Nat.reduceSub, Nat.sub_self, Nat.zero_add, Nat.reduceAdd, List.set, thenS_cons, thenS_nil, thenS_nx, thenS_rt, thenS_bind, thenS_ite, bind_ite, mw_pure_bind, mw_assoc, es_ret, es_ife, es_asg, es_rais, es_fld, es_sub, es_ex, es_par, es_pass, es_retN, ev_andF, ev_andT, evAnd_2, evAnd_1, evTAnd_0, evTAnd_1, evOr_1, evOr_2, evTOr_0, evTOr_1, ev_orF, ev_orT, ev_bi, ev_var, varM_cons0, varM_consS, ev_typ, ev_con, ev_notF, ev_notT, evL_0, evL_1, post_false, post_bl, asB_bl, blV_eq, truM_bl, retA_val, ev_cmp, ev_chain, ev_call, ev_ix', ev_attr', ev_bin', ev_sl, ev_tup, ev_lst, ev_ife, ev_glo, ev_make, ev_makek, ev_heard, wv_int, wv_bl, wv_str, wv_non, mw_ite, evO_0, evO_1, intO_int, cmp_isI, cmp_isN, cmp_geI, cmp_leI, cmp_ltI, cmp_gtI, bin_add, bin_sub, newT_0, newL_0, newT_1, newL_1, newT_2, newL_2, newT_3, newL_3, newT_4, newL_4, newT_5, newL_5, hit]) hl fun w hw => ?_
      have ih := ih n (okL_mem hok w hw) (depL_mem hdx w hw)
      have e : n + (d + 1) = n + d + 1 := by omega
      simp only [wipeE, mw_bind_pure, List.map, List.length, List.replicate, List.append, List.cons_append, List.nil_append, Nat.add_sub_cancel, Nat.reduceSub, Nat.sub_self, Nat.zero_add, Nat.reduceAdd, List.set, thenS_cons, thenS_nil, thenS_nx, thenS_rt, thenS_bind, thenS_ite, bind_ite, mw_pure_bind, mw_assoc, es_ret, es_ife, es_asg, es_rais, es_fld, es_sub, es_ex, es_par, es_pass, es_retN, ev_andF, ev_andT, evAnd_2, evAnd_1, evTAnd_0, evTAnd_1, evOr_1, evOr_2, evTOr_0, evTOr_1, ev_orF, ev_orT, ev_bi, ev_var, varM_cons0, varM_consS, ev_typ, ev_con, ev_notF, ev_notT, evL_0, evL_1, post_false, post_bl, asB_bl, blV_eq, truM_bl, retA_val, ev_cmp, ev_chain, ev_call, ev_ix', ev_attr', ev_bin', ev_sl, ev_tup, ev_lst, ev_ife, ev_glo, ev_make, ev_makek, ev_heard, wv_int, wv_bl, wv_str, wv_non, mw_ite, evO_0, evO_1, intO_int, cmp_isI, cmp_isN, cmp_geI, cmp_leI, cmp_ltI, cmp_gtI, bin_add, bin_sub, newT_0, newL_0, newT_1, newL_1, newT_2, newL_2, newT_3, newL_3, newT_4, newL_4, newT_5, newL_5, cl__law_m_listed_1, e, ih]
    cases v with
    | tup xs =>
      simp only [okW, Bool.and_eq_true, decide_eq_true_eq] at hv
      simp only [depW] at hd
      have := step (.tup xs) xs rfl hv.2 hv.1 (by omega)
      simp (implicitDefEqProofs := false) only [mw_bind_pure, List.map, List.length, List.replicate, List.append, List.cons_append, List.nil_append, Nat.add_sub_cancel, Nat.reduceSub, Nat.sub_self, Nat.zero_add, Nat.reduceAdd, List.set, thenS_cons, thenS_nil, thenS_nx, thenS_rt, thenS_bind, thenS_ite, bind_ite, mw_pure_bind, mw_assoc, es_ret, es_ife, es_asg, es_rais, es_fld, es_sub, es_ex, es_par, es_pass, es_retN, ev_andF, ev_andT, evAnd_2, evAnd_1, evTAnd_0, evTAnd_1, evOr_1, evOr_2, evTOr_0, evTOr_1, ev_orF, ev_orT, ev_bi, ev_var, varM_cons0, varM_consS, ev_typ, ev_con, ev_notF, ev_notT, evL_0, evL_1, post_false, post_bl, asB_bl, blV_eq, truM_bl, retA_val, ev_cmp, ev_chain, ev_call, ev_ix', ev_attr', ev_bin', ev_sl, ev_tup, ev_lst, ev_ife, ev_glo, ev_make, ev_makek, ev_heard, wv_int, wv_bl, wv_str, wv_non, mw_ite, evO_0, evO_1, intO_int, cmp_isI, cmp_isN, cmp_geI, cmp_leI, cmp_ltI, cmp_gtI, bin_add, bin_sub, newT_0, newL_0, newT_1, newL_1, newT_2, newL_2, newT_3, newL_3, newT_4, newL_4, newT_5, newL_5, isi_seq _ hk, isSeq, if_true, this, lstW, lstL_map]
    | lst xs =>
      simp only [okW, Bool.and_eq_true, decide_eq_true_eq] at hv
      simp only [depW] at hd
      have := step (.lst xs) xs rfl hv.2 hv.1 (by omega)
      simp (implicitDefEqProofs := false) only [mw_bind_pure, List.map, List.length, List.replicate, List.append, List.cons_append, List.nil_append, Nat.add_sub_cancel, Nat.reduceSub, Nat.sub_self, Nat.zero_add, Nat.reduceAdd, List.set, thenS_cons, thenS_nil, thenS_nx, thenS_rt, thenS_bind, thenS_ite, bind_ite, mw_pure_bind, mw_assoc, es_ret, es_ife, es_asg, es_rais, es_fld, es_sub, es_ex, es_par, es_pass, es_retN, ev_andF, ev_andT, evAnd_2, evAnd_1, evTAnd_0, evTAnd_1, evOr_1, evOr_2, evTOr_0, evTOr_1, ev_orF, ev_orT, ev_bi, ev_var, varM_cons0, varM_consS, ev_typ, ev_con, ev_notF, ev_notT, evL_0, evL_1, post_false, post_bl, asB_bl, blV_eq, truM_bl, retA_val, ev_cmp, ev_chain, ev_call, ev_ix', ev_attr', ev_bin', ev_sl, ev_tup, ev_lst, ev_ife, ev_glo, ev_make, ev_makek, ev_heard, wv_int, wv_bl, wv_str, wv_non, mw_ite, evO_0, evO_1, intO_int, cmp_isI, cmp_isN, cmp_geI, cmp_leI, cmp_ltI, cmp_gtI, bin_add, bin_sub, newT_0, newL_0, newT_1, newL_1, newT_2, newL_2, newT_3, newL_3, newT_4, newL_4, newT_5, newL_5, isi_seq _ hk, isSeq, if_true, this, lstW, lstL_map]
    | kls xs => simp [okW] at hv
    | _ => simp [mw_bind_pure, List.map, List.length, List.replicate, List.append, List.cons_append, List.nil_append, Nat.add_sub_cancel, Nat.reduceSub, Nat.sub_self, Nat.zero_add, Nat.reduceAdd, List.set, thenS_cons, thenS_nil, thenS_nx, thenS_rt, thenS_bind, thenS_ite, bind_ite, mw_pure_bind, mw_assoc, es_ret, es_ife, es_asg, es_rais, es_fld, es_sub, es_ex, es_par, es_pass, es_retN, ev_andF, ev_andT, evAnd_2, evAnd_1, evTAnd_0, evTAnd_1, evOr_1, evOr_2, evTOr_0, evTOr_1, ev_orF, ev_orT, ev_bi, ev_var, varM_cons0, varM_consS, ev_typ, ev_con, ev_notF, ev_notT, evL_0, evL_1, post_false, post_bl, asB_bl, blV_eq, truM_bl, retA_val, ev_cmp, ev_chain, ev_call, ev_ix', ev_attr', ev_bin', ev_sl, ev_tup, ev_lst, ev_ife, ev_glo, ev_make, ev_makek, ev_heard, wv_int, wv_bl, wv_str, wv_non, mw_ite, evO_0, evO_1, intO_int, cmp_isI, cmp_isN, cmp_geI, cmp_leI, cmp_ltI, cmp_gtI, bin_add, bin_sub, newT_0, newL_0, newT_1, newL_1, newT_2, newL_2, newT_3, newL_3, newT_4, newL_4, newT_5, newL_5, isi_seq _ hk, isSeq, lstW]
theorem isRow_lst {m : Int} {r : Wv} (h : RowOK m r) : isRow (lstW r) m = true := by
  cases h with
  | me x t hx h0 h1 =>
    have hm := (nameOk_ok hx).1
    have hp := isPair_pair (q := (x, t)) (m := m) hm h0
    simp only [pairW] at hp
    simp only [lstW, lstL]
    simp [isRow, isListed, lenV, itemsV, hp, h1]
  | they ps hl hm hn ha =>
    have ne : ¬ (("they" : Str) = "me") := by decide
    have e1 : ∀ ps : List (Str × Int), (∀ q ∈ ps, nameOk q.1 = true ∧ 0 ≤ q.2 ∧ q.2 < m) → (lstL (ps.map pairW)).all (fun p => isPair p m) = true := fun ps hps => by
      induction ps with
      | nil => rfl
      | cons q ps ih =>
        have h1 := hps q List.mem_cons_self
        have h2 := isPair_pair (m := m) (nameOk_ok h1.1).1 h1.2.1
        have h3 : isPair (lstW (pairW q)) m = isPair (pairW q) m := rfl
        simp only [List.map_cons, lstL, List.all_cons, h3, h2, ih fun r hr => hps r (List.mem_cons_of_mem _ hr), decide_eq_true h1.2.2, Bool.and_self]
    have e2 : (lstL (ps.map pairW)).map nameOf = ps.map (·.1) := by
      rw [lstL_map, List.map_map, List.map_map]
      rfl
    have e4 : isListed (.lst (lstL (ps.map pairW))) 1 7 = true := by simp [isListed, lenV, lstL_len]; omega
    simp only [lstW, lstL, isRow, itemsV, if_neg ne, e4, e1 ps hn, e2, ha, Bool.and_true, Bool.true_and, decide_true]
    simp [isListed, lenV]
theorem RowsOK.machL {m : Nat} {rows : List Wv} (h : RowsOK m rows) : isMach (lstW (.tup rows)) = true := by
  have hl := h.len
  have hr := h.rng
  simp only [lstW, isMach, isListed, lenV, itemsV, lstL_len, Bool.and_eq_true, decide_eq_true_eq]
  refine ⟨⟨by omega, by omega⟩, List.all_eq_true.mpr fun r hr2 => ?_⟩
  rw [hl]
  rw [lstL_map] at hr2
  obtain ⟨q, hq, rfl⟩ := List.mem_map.mp hr2
  exact isRow_lst (h.row q hq)
end LW

namespace LW
open PySem PySem.Spec L2
/-! drawn rows are small -/
theorem sm_int {i : Int} (h : i.natAbs < 10 ^ 12) : smW (.int i) = true := by
  simp only [smW, Bool.and_eq_true, decide_eq_true_eq]
  refine ⟨PyData.shown_int_le h, ?_⟩
  by_cases z : i.natAbs = 0
  · rw [z]; decide
  · rw [Nat.log2_lt z]
    exact Nat.lt_trans h (by decide)
theorem sm_name {x : Str} (h : nameOk x = true) : smW (.str x) = true := by
  simp only [nameOk, Bool.and_eq_true, decide_eq_true_eq] at h
  simp only [smW, Bool.and_eq_true, decide_eq_true_eq]
  exact ⟨h.2, by omega⟩
theorem sm_me : smW (.str "me") = true := by decide +kernel
theorem sm_they : smW (.str "they") = true := by decide +kernel
theorem smL_pairs {m : Int} (hm : m ≤ 7) : ∀ (ps : List (Str × Int)), (∀ q ∈ ps, nameOk q.1 = true ∧ 0 ≤ q.2 ∧ q.2 < m) → smL (ps.map pairW) = true
  | [], _ => rfl
  | q :: ps, h => by
    have h1 := h q List.mem_cons_self
    simp only [List.map_cons, smL, pairW, smW, smL_pairs hm ps fun r hr => h r (List.mem_cons_of_mem _ hr), Bool.and_true]
    have e1 := sm_name h1.1
    have e2 : smW (.int q.2) = true := sm_int (by omega)
    simp only [smW] at e1 e2
    rw [e1, e2]
    rfl
theorem szL_pairs : ∀ (ps : List (Str × Int)), szL (ps.map pairW) = 3 * ps.length
  | [] => rfl
  | q :: ps => by
    simp only [List.map_cons, szL, szL_pairs ps, pairW, szW, List.length_cons]
    omega
theorem dpL_pairs : ∀ (ps : List (Str × Int)), dpL (ps.map pairW) ≤ 1
  | [] => by simp [dpL]
  | q :: ps => by
    have := dpL_pairs ps
    simp [dpL, pairW, dpW] at this ⊢
    omega
theorem RowOK.sm {m : Int} (hm : m ≤ 7) {r : Wv} (h : RowOK m r) : smW r = true ∧ szW r ≤ 40 ∧ dpW r ≤ 3 := by
  cases h with
  | me x t hx h0 h1 =>
    refine ⟨?_, by simp [szW, szL], by simp [dpW, dpL]⟩
    simp only [smW, smL, Bool.and_true]
    have e1 := sm_name hx
    have e2 : smW (.int t) = true := sm_int (by omega)
    have e3 := sm_me
    simp only [smW] at e1 e2 e3
    rw [e1, e2, e3]
    rfl
  | they ps hl hm7 hn ha =>
    refine ⟨?_, ?_, ?_⟩
    · have e3 := sm_they
      simp only [smW] at e3
      simp only [smW, smL, smL_pairs hm ps hn, e3, Bool.and_true]
    · simp only [szW, szL, szL_pairs]; omega
    · have := dpL_pairs ps
      simp only [dpW, dpL]; omega
theorem smL_of : ∀ {ws : List Wv}, (∀ w ∈ ws, smW w = true ∧ szW w ≤ 40 ∧ dpW w ≤ 3) → smL ws = true ∧ szL ws ≤ 40 * ws.length ∧ dpL ws ≤ 3
  | [], _ => ⟨rfl, by simp [szL], by simp [dpL]⟩
  | w :: ws, h => by
    obtain ⟨h1, h2, h3⟩ := h w List.mem_cons_self
    obtain ⟨i1, i2, i3⟩ := smL_of fun x hx => h x (List.mem_cons_of_mem _ hx)
    refine ⟨by simp only [smL, h1, i1, Bool.and_self], ?_, ?_⟩
    · simp only [szL, List.length_cons]; omega
    · simp only [dpL]; omega
theorem RowsOK.sm {m : Nat} {rows : List Wv} (h : RowsOK m rows) : ∃ d, Sm (.tup rows) d ∧ dpW (.tup rows) ≤ 64 ∧ szW (.tup rows) ≤ 5000 := by
  have hl := h.len
  have hr := h.rng
  obtain ⟨h1, h2, h3⟩ := smL_of fun r hr2 => (h.row r hr2).sm (by omega)
  obtain ⟨d, hd⟩ := sm_py (.tup rows) (by simp only [smW]; exact h1)
  exact ⟨d, hd, by simp only [dpW]; omega, by simp only [szW]; omega⟩
theorem repr_rows {g : G} {m : Nat} {rows : List Wv} (h : RowsOK m rows) : ∃ x : Str, biA g "repr" [.val (.tup rows)] = pure (vS x) := by
  obtain ⟨d, hd, h1, h2⟩ := h.sm
  exact ⟨_, repr_tup hd h1 h2⟩
theorem cmp_rows {g : G} {m m2 : Nat} {rows others : List Wv} (h : RowsOK m rows) (h2 : RowsOK m2 others) : ∃ r, cmpA g .Eq (.val (.tup rows)) (.val (.tup others)) = pure r := by
  obtain ⟨d, hd, h1, _⟩ := h.sm
  obtain ⟨e, he, h3, _⟩ := h2.sm
  exact ⟨_, cmp_eqW hd he h1 h3 rfl⟩
theorem cmp_rows_self {g : G} {m : Nat} {rows : List Wv} (h : RowsOK m rows) : cmpA g .Eq (.val (.tup rows)) (.val (.tup rows)) = pure true := by
  obtain ⟨d, hd, h1, _⟩ := h.sm
  rw [cmp_eqW hd hd h1 h1 rfl, eqv_self d hd.lay]
end LW

namespace LW
open PySem PySem.Spec L2
/-! wrong rows -/
def wr0 : PSt := .asg (.name 2) (.call "_law_pick" [.var 0, .lst false [.con (.str "ada"), .con (.str "bo"), .con (.str "pass")]])
def wr1 : PSt := .asg (.name 3) (.lst false [.tup [.con (.str "me")], .tup [.con (.str "me"), .var 2], .tup [.con (.str "me"), .var 2, .var 1], .tup [.con (.str "me"), .var 2, .bin .Sub (.con (.int 0)) (.con (.int 1))], .tup [.con (.str "me"), .var 2, .con (.bl true)], .tup [.con (.str "me"), .var 2, .con (.str "0")], .tup [.con (.str "me"), .var 2, .con (.non)], .tup [.con (.str "me"), .con (.int 5), .con (.int 0)], .tup [.con (.str "me"), .tup [.con (.str "ada")], .con (.int 0)], .tup [.con (.str "me"), .var 2, .con (.int 0), .con (.int 0)]])
def wr2 : PSt := .asg (.name 3) (.bin .Add (.var 3) (.lc false (.tup [.con (.str "me"), .var 5, .con (.int 0)]) (.name 5) .val [.tup [.con (.str "end"), .con (.str "loop"), .con (.str "me"), .con (.str "none"), .con (.str "on"), .con (.str "or"), .con (.str "they"), .con (.str "times"), .con (.str ""), .con (.str "Ada"), .con (.str "ninelette"), .con (.str "a b"), .con (.str "ada\n"), .con (.str "a1")]] [] [5]))
def wr3 : PSt := .asg (.name 4) (.lst false [.tup [.con (.str "they")], .tup [.con (.str "they"), .tup []], .tup [.con (.str "they"), .dct false [] []], .tup [.con (.str "they"), .var 2, .con (.int 0)], .tup [.con (.str "they"), .var 2], .tup [.con (.str "they"), .tup [.tup [.var 2, .con (.int 0)], .tup [.var 2, .con (.int 0)]]], .tup [.con (.str "they"), .tup [.tup [.con (.str "bo"), .con (.int 0)], .tup [.con (.str "ada"), .con (.int 0)]]], .tup [.con (.str "they"), .tup [.tup [.var 2, .var 1]]]])
def wr4 : PSt := .asg (.name 4) (.bin .Add (.var 4) (.lst false [.tup [.con (.str "they"), .tup [.tup [.var 2]]], .tup [.con (.str "they"), .tup [.tup [.var 2, .con (.int 0), .con (.int 0)]]], .tup [.con (.str "they"), .tup [.tup [.var 2, .con (.bl true)]]], .tup [.con (.str "they"), .tup [.tup [.con (.str "they"), .con (.int 0)]]], .tup [.con (.str "they"), .tup [.var 2, .con (.int 0)]], .tup [.con (.str "they"), .tup [.tup [.var 2, .con (.int 0)]], .con (.int 0)]]))
def wr5 : PSt := .asg (.name 4) (.bin .Add (.var 4) (.lst false [.tup [.con (.str "they"), .bi "tuple" [.lc false (.tup [.bin .Add (.con (.str "a")) (.var 6), .con (.int 0)]) (.name 6) .val [.con (.str "abcdefgh")] [] [6]]], .tup [.con (.str "they"), .tup [.tup [.con (.str "ada"), .con (.int 0)], .con (.non)]], .tup [.con (.str "they"), .tup [.tup [.con (.int 5), .con (.int 0)]]]]))
def lastE : PX := .lst false [.con (.non), .con (.int 5), .con (.bl true), .con (.str "me"), .tup [], .dct false [] [], .lst false [], .tup [.con (.str "you"), .var 2, .con (.int 0)], .tup [.lst false [.con (.str "me")], .var 2, .con (.int 0)], .tup [.con (.non), .var 2, .con (.int 0)], .var 2]
def wr6 : PSt := .ret (.lst false [.call "_law_pick" [.var 0, .var 3], .call "_law_pick" [.var 0, .var 4], .call "_law_pick" [.var 0, lastE]])
theorem wr_body : p__law_wrong_rows.body = [wr0, wr1, wr2, wr3, wr4, wr5, wr6] := rfl
abbrev t2 (a b : Wv) : Wv := .tup [a, b]
abbrev t3 (a b c : Wv) : Wv := .tup [a, b, c]
abbrev me : Wv := .str "me"
abbrev th : Wv := .str "they"
abbrev z0 : Wv := .int 0
def mine1 (nm : Str) (m : Int) : List Wv := [.tup [me], t2 me (.str nm), t3 me (.str nm) (.int m), t3 me (.str nm) (.int (-1)), t3 me (.str nm) (.bl true), t3 me (.str nm) (.str "0"), t3 me (.str nm) .non, t3 me (.int 5) z0, t3 me (.tup [.str "ada"]) z0, .tup [me, .str nm, z0, z0]]
def mine2 : List Wv := [.str "end", .str "loop", .str "me", .str "none", .str "on", .str "or", .str "they", .str "times", .str "", .str "Ada", .str "ninelette", .str "a b", .str "ada\n", .str "a1"]
def mineL (nm : Str) (m : Int) : List Wv := mine1 nm m ++ mine2.map fun w => t3 me w z0
def some1 (nm : Str) (m : Int) : List Wv := [.tup [th], t2 th (.tup []), t2 th (.dct [] []), t3 th (.str nm) z0, t2 th (.str nm), t2 th (.tup [t2 (.str nm) z0, t2 (.str nm) z0]), t2 th (.tup [t2 (.str "bo") z0, t2 (.str "ada") z0]), t2 th (.tup [t2 (.str nm) (.int m)])]
def some2 (nm : Str) : List Wv := [t2 th (.tup [.tup [.str nm]]), t2 th (.tup [t3 (.str nm) z0 z0]), t2 th (.tup [t2 (.str nm) (.bl true)]), t2 th (.tup [t2 th z0]), t2 th (t2 (.str nm) z0), t3 th (.tup [t2 (.str nm) z0]) z0]
def some3 : List Wv := [t2 th (.tup ((charsW "abcdefgh").map fun w => t2 (match w with | .str x => .str ("a" ++ x) | w => w) z0)), t2 th (.tup [t2 (.str "ada") z0, .non]), t2 th (.tup [t2 (.int 5) z0])]
def someL (nm : Str) (m : Int) : List Wv := some1 nm m ++ some2 nm ++ some3
def lastL (nm : Str) : List Wv := [.non, .int 5, .bl true, .str "me", .tup [], .dct [] [], .lst [], t3 (.str "you") (.str nm) z0, t3 (.lst [.str "me"]) (.str nm) z0, t3 .non (.str nm) z0, .str nm]
abbrev E7 (p : Nat) (m : Int) (nm : Str) (a b : Option Av) : Ev := [some (.ref p), some (vI m), some (vS nm), a, b, none, none]
section
variable (n j p : Nat) (m : Int) (nm : Str)
theorem wr1_eq : evS (L n) j wr1 (E7 p m nm none none) = pure (.nx, E7 p m nm (some (.val (.lst (mine1 nm m)))) none) := by
  funext M
  kernel_rfl
theorem wr2_eq : evS (L n) j wr2 (E7 p m nm (some (.val (.lst (mine1 nm m)))) none) = pure (.nx, E7 p m nm (some (.val (.lst (mineL nm m)))) none) := by
  funext M
  kernel_rfl
theorem wr3_eq (a : Option Av) : evS (L n) j wr3 (E7 p m nm a none) = pure (.nx, E7 p m nm a (some (.val (.lst (some1 nm m))))) := by
  funext M
  kernel_rfl
theorem wr4_eq (a : Option Av) : evS (L n) j wr4 (E7 p m nm a (some (.val (.lst (some1 nm m))))) = pure (.nx, E7 p m nm a (some (.val (.lst (some1 nm m ++ some2 nm))))) := by
  funext M
  kernel_rfl
theorem wr5_eq (a : Option Av) : evS (L n) j wr5 (E7 p m nm a (some (.val (.lst (some1 nm m ++ some2 nm))))) = pure (.nx, E7 p m nm a (some (.val (.lst (someL nm m))))) := by
  funext M
  kernel_rfl
theorem last_eq (a b : Option Av) : evE (L n) lastE false (E7 p m nm a b) = pure (.val (.lst (lastL nm))) := by
  funext M
  kernel_rfl
end
def chk (m : Int) (w : Wv) : Bool := okW w && decide (depW w ≤ 4) && !isRow w m
structure Wrong (m : Int) (w : Wv) : Prop where
  ok : okW w = true
  dep : depW w ≤ 4
  row : isRow w m = false
theorem wrong_of {m : Int} {w : Wv} (h : chk m w = true) : Wrong m w := by
  simp only [chk, Bool.and_eq_true, decide_eq_true_eq, Bool.not_eq_true'] at h
  exact ⟨h.1.1, h.1.2, h.2⟩
def nmsL : List Str := ["ada", "bo", "pass"]
def msL : List Int := [1, 2, 3, 4, 5, 6, 7]
theorem all_wrong : (nmsL.all fun nm => msL.all fun m => ((mineL nm m).all (chk m) && (someL nm m).all (chk m)) && (lastL nm).all (chk m)) = true := by decide +kernel
theorem ms_mem {m : Int} (h1 : 1 ≤ m) (h2 : m ≤ 7) : m ∈ msL := by
  have : m = 1 ∨ m = 2 ∨ m = 3 ∨ m = 4 ∨ m = 5 ∨ m = 6 ∨ m = 7 := by omega
  unfold msL
  rcases this with h | h | h | h | h | h | h <;> subst h <;> simp
theorem wrong_all {nm : Str} {m : Int} (hn : nm ∈ nmsL) (h1 : 1 ≤ m) (h2 : m ≤ 7) : (∀ w ∈ mineL nm m, Wrong m w) ∧ (∀ w ∈ someL nm m, Wrong m w) ∧ (∀ w ∈ lastL nm, Wrong m w) := by
  have h := List.all_eq_true.mp (List.all_eq_true.mp all_wrong nm hn) m (ms_mem h1 h2)
  simp only [Bool.and_eq_true] at h
  exact ⟨fun w hw => wrong_of (List.all_eq_true.mp h.1.1 w hw), fun w hw => wrong_of (List.all_eq_true.mp h.1.2 w hw), fun w hw => wrong_of (List.all_eq_true.mp h.2 w hw)⟩
theorem wrong_tr (n : Nat) {p k : Nat} {M : Mem} {m : Int} (h1 : 1 ≤ m) (h2 : m ≤ 7) (hP : Pen p (k + 4) M) : Tr ((L (n + 3)).full "_law_wrong_rows" [.ref p, vI m]) M (Vp (fun w => ∃ ws, w = .lst ws ∧ ∀ x ∈ ws, Wrong m x) M p k) := by
  rw [fl__law_wrong_rows]
  have hpl := hP.lt
  refine run_Vp rfl hpl ?_
  rw [wr_body]
  simp (implicitDefEqProofs := false) only [mw_bind_pure, List.map, List.length, List.replicate, List.append, List.cons_append, List.nil_append, Nat.add_sub_cancel, Nat.reduceSub, Nat.sub_self, Nat.zero_add, Nat.reduceAdd, List.set, thenS_cons, thenS_nil, thenS_nx, thenS_rt, thenS_bind, thenS_ite, bind_ite, mw_pure_bind, mw_assoc, es_ret, es_ife, es_asg, es_rais, es_fld, es_sub, es_ex, es_par, es_pass, es_retN, ev_andF, ev_andT, evAnd_2, evAnd_1, evTAnd_0, evTAnd_1, evOr_1, evOr_2, evTOr_0, evTOr_1, ev_orF, ev_orT, ev_bi, ev_var, varM_cons0, varM_consS, ev_typ, ev_con, ev_notF, ev_notT, evL_0, evL_1, post_false, post_bl, asB_bl, blV_eq, truM_bl, retA_val, ev_cmp, ev_chain, ev_call, ev_ix', ev_attr', ev_bin', ev_sl, ev_tup, ev_lst, ev_ife, ev_glo, ev_make, ev_makek, ev_heard, wv_int, wv_bl, wv_str, wv_non, mw_ite, evO_0, evO_1, intO_int, cmp_isI, cmp_isN, cmp_geI, cmp_leI, cmp_ltI, cmp_gtI, bin_add, bin_sub, newT_0, newL_0, newT_1, newL_1, newT_2, newL_2, newT_3, newL_3, newT_4, newL_4, newT_5, newL_5, p__law_wrong_rows]
  unfold wr0
  simp (implicitDefEqProofs := false) only [mw_bind_pure, List.map, List.length, List.replicate, List.append, List.cons_append, List.nil_append, Nat.add_sub_cancel, Nat.reduceSub, Nat.sub_self, Nat.zero_add, Nat.reduceAdd, List.set, thenS_cons, thenS_nil, thenS_nx, thenS_rt, thenS_bind, thenS_ite, bind_ite, mw_pure_bind, mw_assoc, es_ret, es_ife, es_asg, es_rais, es_fld, es_sub, es_ex, es_par, es_pass, es_retN, ev_andF, ev_andT, evAnd_2, evAnd_1, evTAnd_0, evTAnd_1, evOr_1, evOr_2, evTOr_0, evTOr_1, ev_orF, ev_orT, ev_bi, ev_var, varM_cons0, varM_consS, ev_typ, ev_con, ev_notF, ev_notT, evL_0, evL_1, post_false, post_bl, asB_bl, blV_eq, truM_bl, retA_val, ev_cmp, ev_chain, ev_call, ev_ix', ev_attr', ev_bin', ev_sl, ev_tup, ev_lst, ev_ife, ev_glo, ev_make, ev_makek, ev_heard, wv_int, wv_bl, wv_str, wv_non, mw_ite, evO_0, evO_1, intO_int, cmp_isI, cmp_isN, cmp_geI, cmp_leI, cmp_ltI, cmp_gtI, bin_add, bin_sub, newT_0, newL_0, newT_1, newL_1, newT_2, newL_2, newT_3, newL_3, newT_4, newL_4, newT_5, newL_5, cl__law_pick_2]
  refine Tr.bind ((pick_tr n (k := k + 3) hP (ws := [.str "ada", .str "bo", .str "pass"]) (by simp) (by simp)).mono ?_)
  rintro a M1 ⟨w, cells, pa, rest, rfl, hw, rfl, hP1⟩
  obtain ⟨nm, rfl, hnm⟩ : ∃ nm, w = .str nm ∧ nm ∈ nmsL := by
    simp only [List.mem_cons, List.not_mem_nil, or_false] at hw
    rcases hw with rfl | rfl | rfl
    · exact ⟨_, rfl, by simp [nmsL]⟩
    · exact ⟨_, rfl, by simp [nmsL]⟩
    · exact ⟨_, rfl, by simp [nmsL]⟩
  obtain ⟨a1, a2, a3⟩ := wrong_all hnm h1 h2
  rw [wr1_eq, thenS_nx, wr2_eq, thenS_nx, wr3_eq, thenS_nx, wr4_eq, thenS_nx, wr5_eq, thenS_nx]
  unfold wr6
  simp (implicitDefEqProofs := false) only [mw_bind_pure, List.map, List.length, List.replicate, List.append, List.cons_append, List.nil_append, Nat.add_sub_cancel, Nat.reduceSub, Nat.sub_self, Nat.zero_add, Nat.reduceAdd, List.set, thenS_cons, thenS_nil, thenS_nx, thenS_rt, thenS_bind, thenS_ite, bind_ite, mw_pure_bind, mw_assoc, es_ret, es_ife, es_asg, es_rais, es_fld, es_sub, es_ex, es_par, es_pass, es_retN, ev_andF, ev_andT, evAnd_2, evAnd_1, evTAnd_0, evTAnd_1, evOr_1, evOr_2, evTOr_0, evTOr_1, ev_orF, ev_orT, ev_bi, ev_var, varM_cons0, varM_consS, ev_typ, ev_con, ev_notF, ev_notT, evL_0, evL_1, post_false, post_bl, asB_bl, blV_eq, truM_bl, retA_val, ev_cmp, ev_chain, ev_call, ev_ix', ev_attr', ev_bin', ev_sl, ev_tup, ev_lst, ev_ife, ev_glo, ev_make, ev_makek, ev_heard, wv_int, wv_bl, wv_str, wv_non, mw_ite, evO_0, evO_1, intO_int, cmp_isI, cmp_isN, cmp_geI, cmp_leI, cmp_ltI, cmp_gtI, bin_add, bin_sub, newT_0, newL_0, newT_1, newL_1, newT_2, newL_2, newT_3, newL_3, newT_4, newL_4, newT_5, newL_5, cl__law_pick_2, last_eq]
  have ne1 : mineL nm m ≠ [] := by simp [mineL, mine1]
  have ne2 : someL nm m ≠ [] := by simp [someL, some1]
  have ne3 : lastL nm ≠ [] := by simp [lastL]
  refine Tr.bind ((pick_tr n (k := k + 2) hP1 (ws := mineL nm m) ne1 (by simp [mineL, mine1, mine2])).mono ?_)
  rintro a M2 ⟨w1, c1, q1, r1, rfl, hw1, rfl, hP2⟩
  refine Tr.bind ((pick_tr n (k := k + 1) hP2 (ws := someL nm m) ne2 (by simp [someL, some1, some2, some3])).mono ?_)
  rintro a M3 ⟨w2, c2, q2, r2, rfl, hw2, rfl, hP3⟩
  refine Tr.bind ((pick_tr n (k := k) hP3 (ws := lastL nm) ne3 (by simp [lastL])).mono ?_)
  rintro a M4 ⟨w3, c3, q3, r3, rfl, hw3, rfl, hP4⟩
  simp (implicitDefEqProofs := false) only [mw_bind_pure, List.map, List.length, List.replicate, List.append, List.cons_append, List.nil_append, Nat.add_sub_cancel, Nat.reduceSub, Nat.sub_self, Nat.zero_add, Nat.reduceAdd, List.set, thenS_cons, thenS_nil, thenS_nx, thenS_rt, thenS_bind, thenS_ite, bind_ite, mw_pure_bind, mw_assoc, es_ret, es_ife, es_asg, es_rais, es_fld, es_sub, es_ex, es_par, es_pass, es_retN, ev_andF, ev_andT, evAnd_2, evAnd_1, evTAnd_0, evTAnd_1, evOr_1, evOr_2, evTOr_0, evTOr_1, ev_orF, ev_orT, ev_bi, ev_var, varM_cons0, varM_consS, ev_typ, ev_con, ev_notF, ev_notT, evL_0, evL_1, post_false, post_bl, asB_bl, blV_eq, truM_bl, retA_val, ev_cmp, ev_chain, ev_call, ev_ix', ev_attr', ev_bin', ev_sl, ev_tup, ev_lst, ev_ife, ev_glo, ev_make, ev_makek, ev_heard, wv_int, wv_bl, wv_str, wv_non, mw_ite, evO_0, evO_1, intO_int, cmp_isI, cmp_isN, cmp_geI, cmp_leI, cmp_ltI, cmp_gtI, bin_add, bin_sub, newT_0, newL_0, newT_1, newL_1, newT_2, newL_2, newT_3, newL_3, newT_4, newL_4, newT_5, newL_5]
  refine Tr.pure ⟨_, c3, q3, r3, [], rfl, ⟨_, rfl, ?_⟩, ?_, ?_⟩
  · intro x hx
    simp only [List.mem_cons, List.not_mem_nil, or_false] at hx
    rcases hx with rfl | rfl | rfl
    · exact a1 _ hw1
    · exact a2 _ hw2
    · exact a3 _ hw3
  · rw [set_set', set_set', set_set', List.append_nil]
  · rw [set_set', set_set', set_set'] at hP4
    exact hP4
end LW

namespace LW
open PySem PySem.Spec L2
section
variable {g : G}
theorem cmp_neB (a b : Bool) : cmpA g .NotEq (vB a) (vB b) = pure (!(a == b)) := by cases a <;> cases b <;> (funext M; kernel_rfl)
theorem cmp_eqB (a b : Bool) : cmpA g .Eq (vB a) (vB b) = pure (a == b) := by cases a <;> cases b <;> (funext M; kernel_rfl)
theorem bin_tup {xs ys : List Wv} (h : xs.length + ys.length ≤ 1000) : binM .Add (.val (.tup xs)) (.val (.tup ys)) = pure (.val (.tup (xs ++ ys))) := by
  funext M
  show Mw.of (if xs.length + ys.length ≤ sizeLine then some (Av.val (.tup (xs ++ ys))) else none) M = _
  rw [if_pos (by rw [big]; omega)]
  rfl
theorem bin_lst {xs ys : List Wv} (h : xs.length + ys.length ≤ 100000) : binM .Add (.val (.lst xs)) (.val (.lst ys)) = pure (.val (.lst (xs ++ ys))) := by
  funext M
  show Mw.of (match pures (xs.map Av.val ++ ys.map Av.val) with
      | some ws => if ws.length ≤ sizeLine then some (Av.val (.lst ws)) else none
      | none => none) M = _
  rw [← List.map_append, pures_vals]
  dsimp only
  rw [if_pos (by rw [big, List.length_append]; omega)]
  rfl
theorem sl_take {xs : List Wv} {i : Int} (h0 : 0 ≤ i) (h1 : i ≤ xs.length) : slM (.val (.tup xs)) none (some i) = pure (.val (.tup (xs.take i.toNat))) := by
  have : cutL xs none (some i) = xs.take i.toNat := by
    unfold cutL HT.sIx
    dsimp only
    rw [if_neg (by omega)]
    simp only [List.drop_zero, Nat.sub_zero]
    congr 1
    omega
  rw [← this]
  rfl
theorem sl_drop {xs : List Wv} {i : Int} (h0 : 0 ≤ i) (h1 : i ≤ xs.length) : slM (.val (.tup xs)) (some i) none = pure (.val (.tup (xs.drop i.toNat))) := by
  have : cutL xs (some i) none = xs.drop i.toNat := by
    unfold cutL HT.sIx
    dsimp only
    rw [if_neg (by omega)]
    have : min i.toNat xs.length = i.toNat := by omega
    rw [this]
    apply List.take_of_length_le
    simp
  rw [← this]
  rfl
theorem sl_init {xs : List Wv} : slM (.val (.tup xs)) none (some (-1)) = pure (.val (.tup xs.dropLast)) := by
  have : cutL xs none (some (-1)) = xs.dropLast := by
    unfold cutL HT.sIx
    dsimp only
    rw [if_pos (by omega)]
    simp only [List.drop_zero, Nat.sub_zero]
    rw [List.dropLast_eq_take]
    congr 1
    omega
  rw [← this]
  rfl
/-- a comprehension under a condition -/
theorem overW_filter {t : PT} {η : Ev} {ifs : Ev → Mw Bool} {me : Ev → Mw Av} {f : Wv → Bool} : ∀ (ws : List Wv) (acc : List Av), acc.length + ws.length ≤ sizeLine → (∀ w ∈ ws, ∃ η1, putT t (.val w) η = some η1 ∧ ifs η1 = pure (f w) ∧ me η1 = pure (.val w)) →
    overW (lcB t η ifs me) ws acc = pure (acc ++ (ws.filter f).map .val)
  | [], acc, _, _ => by
    funext M
    show Out.ok acc M = _
    simp
    rfl
  | w :: ws, acc, hl, h => by
    obtain ⟨η1, e1, e2, e3⟩ := h w List.mem_cons_self
    have hb : lcB t η ifs me w acc = pure (if f w = true then acc ++ [.val w] else acc) := by
      unfold lcB
      rw [e1]
      have e2' : noX (ifs η1) = pure (f w) := by rw [e2]; rfl
      have e3' : noX (me η1) = pure (.val w) := by rw [e3]; rfl
      dsimp only
      rw [e2', mw_pure_bind, e3', mw_pure_bind, if_pos (show acc.length < sizeLine by simp at hl; omega)]
      split <;> rfl
    funext M
    rw [overW]
    simp only [hb]
    show overW (lcB t η ifs me) ws (if f w = true then acc ++ [.val w] else acc) M = _
    rw [overW_filter ws _ (by split <;> (simp at hl ⊢; omega)) fun w' hw => h w' (List.mem_cons_of_mem _ hw)]
    cases hf : f w <;> simp [hf]
theorem lc_filter {e : PX} {t : PT} {its ifs : List PX} {k : ItK} {own : List Nat} {η : Ev} {ws : List Wv} {f : Wv → Bool} (hw : (evL g its η >>= itA k) = pure ws) (hl : ws.length ≤ sizeLine) (h : ∀ w ∈ ws, ∃ η1, putT t (.val w) (wipeE η own) = some η1 ∧ evIfs g ifs η1 = pure (f w) ∧ evE g e false η1 = pure (.val w)) :
    evE g (.lc false e t k its ifs own) false η = pure (.val (.lst (ws.filter f))) := by
  rw [ev_lc, hw, mw_pure_bind, overW_filter ws [] (by simpa using hl) h, mw_pure_bind, List.nil_append, post_false]
  exact newL_vals _
end
/-! the turns of a row -/
def stepsW : Wv → List Wv
  | .tup [.str _, .str x, .int t] => [.tup [.str x, .int t]]
  | .tup [.str _, .tup ps] => ps
  | _ => []
theorem list_tup {g : G} (xs : List Wv) : biA g "list" [.val (.tup xs)] = pure (.val (.lst xs)) := by
  funext M
  show (match itemsA M (.val (.tup xs)) with
    | some xs => newL false xs M
    | none => .no) = _
  have : itemsA M (.val (.tup xs)) = some (xs.map Av.val) := rfl
  rw [this]
  dsimp only
  rw [newL_vals]
theorem steps_eq (n : Nat) {m : Int} {r : Wv} (h : RowOK m r) : (L (n + 1)).full "_law_m_steps" [.val r] = pure (.val (.lst (stepsW r))) := by
  rw [fl__law_m_steps]
  refine runD_pure fun j => ?_
  unfold p__law_m_steps
  have hs : ∀ x : Str, cmpA (L n) .Eq (vS x) (vS "me") = (pure (x == "me") : Mw Bool) := fun x => rfl
  cases h with
  | me x t hx h0 h1 =>
    have i0 := ix_tup [.str "me", .str x, .int t] 0 rfl
    have i1 := ix_tup [.str "me", .str x, .int t] 1 rfl
    have i2 := ix_tup [.str "me", .str x, .int t] 2 rfl
    have e : (("me" : Str) == "me") = true := by decide
    simp (implicitDefEqProofs := false) only [mw_bind_pure, List.map, List.length, List.replicate, List.append, List.cons_append, List.nil_append, Nat.add_sub_cancel, Nat.reduceSub, Nat.sub_self, Nat.zero_add, Nat.reduceAdd, List.set, thenS_cons, thenS_nil, thenS_nx, thenS_rt, thenS_bind, thenS_ite, bind_ite, mw_pure_bind, mw_assoc, es_ret, es_ife, es_asg, es_rais, es_fld, es_sub, es_ex, es_par, es_pass, es_retN, ev_andF, ev_andT, evAnd_2, evAnd_1, evTAnd_0, evTAnd_1, evOr_1, evOr_2, evTOr_0, evTOr_1, ev_orF, ev_orT, ev_bi, ev_var, varM_cons0, varM_consS, ev_typ, ev_con, ev_notF, ev_notT, evL_0, evL_1, post_false, post_bl, asB_bl, blV_eq, truM_bl, retA_val, ev_cmp, ev_chain, ev_call, ev_ix', ev_attr', ev_bin', ev_sl, ev_tup, ev_lst, ev_ife, ev_glo, ev_make, ev_makek, ev_heard, wv_int, wv_bl, wv_str, wv_non, mw_ite, evO_0, evO_1, intO_int, cmp_isI, cmp_isN, cmp_geI, cmp_leI, cmp_ltI, cmp_gtI, bin_add, bin_sub, newT_0, newL_0, newT_1, newL_1, newT_2, newL_2, newT_3, newL_3, newT_4, newL_4, newT_5, newL_5, i0, i1, i2, hs, e, if_true, stepsW]
  | they ps hl hm hn ha =>
    have i0 := ix_tup [.str "they", .tup (ps.map pairW)] 0 rfl
    have i1 := ix_tup [.str "they", .tup (ps.map pairW)] 1 rfl
    have e : (("they" : Str) == "me") = false := by decide
    simp (implicitDefEqProofs := false) only [mw_bind_pure, List.map, List.length, List.replicate, List.append, List.cons_append, List.nil_append, Nat.add_sub_cancel, Nat.reduceSub, Nat.sub_self, Nat.zero_add, Nat.reduceAdd, List.set, thenS_cons, thenS_nil, thenS_nx, thenS_rt, thenS_bind, thenS_ite, bind_ite, mw_pure_bind, mw_assoc, es_ret, es_ife, es_asg, es_rais, es_fld, es_sub, es_ex, es_par, es_pass, es_retN, ev_andF, ev_andT, evAnd_2, evAnd_1, evTAnd_0, evTAnd_1, evOr_1, evOr_2, evTOr_0, evTOr_1, ev_orF, ev_orT, ev_bi, ev_var, varM_cons0, varM_consS, ev_typ, ev_con, ev_notF, ev_notT, evL_0, evL_1, post_false, post_bl, asB_bl, blV_eq, truM_bl, retA_val, ev_cmp, ev_chain, ev_call, ev_ix', ev_attr', ev_bin', ev_sl, ev_tup, ev_lst, ev_ife, ev_glo, ev_make, ev_makek, ev_heard, wv_int, wv_bl, wv_str, wv_non, mw_ite, evO_0, evO_1, intO_int, cmp_isI, cmp_isN, cmp_geI, cmp_leI, cmp_ltI, cmp_gtI, bin_add, bin_sub, newT_0, newL_0, newT_1, newL_1, newT_2, newL_2, newT_3, newL_3, newT_4, newL_4, newT_5, newL_5, i0, i1, hs, e, Bool.false_eq_true, if_false, stepsW, list_tup]
def tgtW : Wv → Wv
  | .tup [_, t] => t
  | w => w
theorem steps_two {m : Int} {r : Wv} (h : RowOK m r) : ∀ w ∈ stepsW r, ∃ a b, w = .tup [a, b] := by
  cases h with
  | me x t hx h0 h1 =>
    intro w hw
    simp only [stepsW, List.mem_singleton] at hw
    exact ⟨_, _, hw⟩
  | they ps hl hm hn ha =>
    intro w hw
    obtain ⟨q, _, rfl⟩ := List.mem_map.mp hw
    exact ⟨_, _, rfl⟩
theorem steps_tgt {m : Int} {r : Wv} (h : RowOK m r) : (stepsW r).map tgtW = (tgts r).map .int := by
  cases h with
  | me x t hx h0 h1 => rfl
  | they ps hl hm hn ha =>
    simp only [stepsW, tgts, List.map_map]
    rfl
theorem steps_len {m : Int} {r : Wv} (h : RowOK m r) : (stepsW r).length ≤ 7 := by
  cases h with
  | me x t hx h0 h1 => simp [stepsW]
  | they ps hl hm hn ha => simpa [stepsW] using hm
theorem in_ints {g : G} (i : Int) (ts : List Int) : cmpA g .In (vI i) (.val (.lst (ts.map .int))) = pure (ts.any fun t => t == i) := by
  funext M
  have e1 : seqA M (.val (.lst (ts.map .int))) = some (ts.map .int) := by
    show pures ((ts.map Wv.int).map Av.val) = _
    exact pures_vals _
  have e2 : (ts.map Wv.int).all flatW = true := by simp [flatW]
  have e3 : ((ts.map Wv.int).any fun y => eqFlat y (.int i)) = ts.any fun t => t == i := by
    rw [List.any_map]
    rfl
  have e4 : inA M (vI i) (.val (.lst (ts.map .int))) = some (ts.any fun t => t == i) := by
    unfold inA
    dsimp only
    rw [e1]
    dsimp only
    rw [if_pos ⟨rfl, e2⟩, e3]
  show Mw.of (inA M (vI i) (.val (.lst (ts.map .int)))) M = _
  rw [e4]
  rfl
end LW

namespace LW
open PySem PySem.Spec L2
/-! a turn of the law -/
def tu0 : PSt := .asg (.name 3) (.bin .Add (.con (.int 1)) (.call "_law_draw" [.var 1, .con (.int 7)]))
def tu1 : PSt := .asg (.name 4) (.call "_law_m_free" [.var 1, .var 3, .lst false [.con (.str "ada"), .con (.str "bo"), .con (.str "cut"), .con (.str "pass")]])
def tu2 : PSt := .par 5 6 (.make "Machine" [.var 4] [] []) (.call "_law_m_free" [.var 1, .var 3, .lst false [.con (.str "ada"), .con (.str "bo"), .con (.str "pass")]])
def tu3 : PSt := .ife (.or [.cmp .NotEq (.bi "repr" [.attr "rows" (.var 5)]) (.bi "repr" [.var 4]), .cmp .NotEq (.var 5) (.make "Machine" [] ["rows"] [.call "_law_m_listed" [.var 4]]), .cmp .NotEq (.bi "repr" [.attr "rows" (.make "Machine" [.call "_law_m_listed" [.var 4]] [] [])]) (.bi "repr" [.var 4]), .cmp .NotEq (.bi "len" [.var 5]) (.var 3)]) [.ret (.con (.bl false))] []
def tu4 : PSt := .ife (.or [.cmp .NotEq (.cmp .Eq (.var 5) (.make "Machine" [.var 6] [] [])) (.cmp .Eq (.var 4) (.var 6)), .cmp .Eq (.cmp .NotEq (.var 5) (.make "Machine" [.var 6] [] [])) (.cmp .Eq (.var 4) (.var 6)), .cmp .Eq (.var 5) (.var 4), .cmp .Eq (.var 5) (.con (.int 5))]) [.ret (.con (.bl false))] []
def tu5 : PSt := .asg (.name 7) (.call "_law_draw" [.var 1, .var 3])
def tu6 : PSt := .fr (.name 8) .val [.call "_law_wrong_rows" [.var 1, .var 3]] [.ife (.cmp .NotEq (.heard (.make "Machine" [.bin .Add (.bin .Add (.sl (.var 4) none (some (.var 7))) (.tup [.var 8])) (.sl (.var 4) (some (.bin .Add (.var 7) (.con (.int 1)))) none)] [] [])) (.tup [.con (.str "machine"), .con (.str "rows")])) [.ret (.con (.bl false))] []]
def tu7 : PSt := .asg (.name 9) (.lc false (.var 13) (.name 13) .val [.sl (.var 4) none (some (.neg (.con (.int 1))))] [.cmp .In (.bin .Sub (.var 3) (.con (.int 1))) (.lc false (.var 15) (.tup [.name 14, .name 15]) .val [.call "_law_m_steps" [.var 13]] [] [14, 15])] [13])
def tu8 : PSt := .ife (.and [.cmp .Gt (.var 3) (.con (.int 1)), .cmp .NotEq (.cmp .Eq (.heard (.make "Machine" [.sl (.var 4) none (some (.neg (.con (.int 1))))] [] [])) (.tup [.con (.str "machine"), .con (.str "rows")])) (.cmp .NotEq (.var 9) (.lst false []))]) [.ret (.con (.bl false))] []
def turnB : List PSt := [tu0, tu1, tu2, tu3, tu4, tu5, tu6, tu7, tu8]
def la0 : PSt := .asg (.name 10) (.call "_law_pick" [.var 1, .lst false [.con (.non), .con (.int 5), .con (.bl true), .con (.str "rows"), .tup [], .lst false [], .dct false [] [], .make "Machine" [.var 4] [] [], .tup [.tup []], .tup [.var 4]]])
def la1 : PSt := .asg (.name 11) (.lst false [.tup [.con (.str "they"), .lc false (.tup [.bin .Add (.con (.str "a")) (.var 16), .con (.int 0)]) (.name 16) .val [.con (.str "abcdefg")] [] [16]]])
def la2 : PSt := .asg (.name 12) (.lc false (.tup [.con (.str "me"), .con (.str "pass"), .bin .Mod (.bi "int" [.bin .Add (.var 7) (.con (.int 1))]) (.con (.int 2000))]) (.name 7) .range1 [.con (.int 2000)] [] [7])
def la3 : PSt := .ife (.or [.cmp .NotEq (.heard (.make "Machine" [.var 10] [] [])) (.tup [.con (.str "machine"), .con (.str "rows")]), .cmp .NotEq (.bi "len" [.ix (.ix (.attr "rows" (.make "Machine" [.var 11] [] [])) (.con (.int 0))) (.con (.int 1))]) (.con (.int 7)), .cmp .NotEq (.bi "len" [.make "Machine" [.var 12] [] []]) (.con (.int 2000))]) [.ret (.con (.bl false))] []
def la4 : PSt := .ret (.cmp .Eq (.heard (.make "Machine" [.bin .Add (.var 12) (.lst false [.tup [.con (.str "me"), .con (.str "pass"), .con (.int 0)]])] [] [])) (.tup [.con (.str "machine"), .con (.str "rows")]))
theorem law_body : p_law.body = [.asg (.name 1) (.call "_law_pen" [.var 0]), .fr (.name 2) .range1 [.con (.int 12)] turnB, la0, la1, la2, la3, la4] := rfl
theorem mem_init {α : Type} {l : List α} {x : α} (h : x ∈ l.dropLast) : x ∈ l := (List.dropLast_sublist l).subset h
theorem cmp_rows_all {m m2 : Nat} {rows others : List Wv} (h : RowsOK m rows) (h2 : RowsOK m2 others) : ∃ r, ∀ g : G, cmpA g .Eq (.val (.tup rows)) (.val (.tup others)) = pure r := by
  obtain ⟨d, hd, h1, _⟩ := h.sm
  obtain ⟨e, he, h3, _⟩ := h2.sm
  exact ⟨PyData.eqv d e, fun g => cmp_eqW hd he h1 h3 rfl⟩
abbrev Et (a0 : Av) (p : Nat) (s2 s3 s4 s5 s6 s7 s8 s9 : Option Av) : Ev := [some a0, some (.ref p), s2, s3, s4, s5, s6, s7, s8, s9, none, none, none, none, none, none, none]
abbrev RV (rows : List Wv) : Option Av := some (.val (.tup rows))
abbrev MV (rows : List Wv) : Option Av := some (.val (insM (.tup rows)))
abbrev refusal : Wv := .tup [.str "machine", .str "rows"]
theorem RowsOK.new {m : Nat} {rows : List Wv} (h : RowsOK m rows) : newA (L 12) "Machine" 1 [.val (.tup rows)] = pure (.val (insM (.tup rows))) := by
  have := new_eq 6 h.okW (by have := h.dep; omega)
  rw [h.mach, if_pos rfl] at this
  show newA (L (6 + 6)) "Machine" 1 [.val (.tup rows)] = _
  rw [this]
  show (pure (.val (.ins "Machine" ["rows"] [fixW (.tup rows)])) : Mw Av) = _
  rw [h.fix]
theorem RowsOK.newL {m : Nat} {rows : List Wv} (h : RowsOK m rows) : newA (L 12) "Machine" 1 [.val (lstW (.tup rows))] = pure (.val (insM (.tup rows))) := by
  have := new_eq 6 (rows := lstW (.tup rows)) (by rw [ok_lst]; exact h.okW) (by rw [dep_lst]; have := h.dep; omega)
  rw [h.machL, if_pos rfl] at this
  show newA (L (6 + 6)) "Machine" 1 [.val (lstW (.tup rows))] = _
  rw [this]
  show (pure (.val (.ins "Machine" ["rows"] [fixW (lstW (.tup rows))])) : Mw Av) = _
  rw [fix_lst, h.fix]
theorem newk_rows (w : Wv) : newkA (L 12) "Machine" 0 ["rows"] [] [.val w] = newA (L 12) "Machine" 1 [.val w] := by
  have e1 : newkA (L 12) "Machine" 0 ["rows"] [] [.val w] = makeA (L 12) "Machine" [.val w] := by
    unfold newkA
    rw [exf_mach]
    dsimp only
    have e : (L 12).kwo ("Machine" ++ ".__init__") (0 + 1) ["rows"] = some [.pos 0, .kw 0] := by rw [L_kwo]; kernel_rfl
    rw [e]
    rfl
  have e2 : newA (L 12) "Machine" 1 [.val w] = makeA (L 12) "Machine" [.val w] := by
    unfold newA
    rw [exf_mach]
    dsimp only
    have e : (L 12).dfl ("Machine" ++ ".__init__") (1 + 1) = some [] := by rw [L_dfl]; kernel_rfl
    rw [e]
    rfl
  rw [e1, e2]
theorem tu3_eq (j : Nat) {m : Nat} {rows : List Wv} (h : RowsOK m rows) (a0 : Av) (p : Nat) (s2 s6 s7 s8 s9 : Option Av) : evS (L 12) j tu3 (Et a0 p s2 (some (vI m)) (RV rows) (MV rows) s6 s7 s8 s9) = pure (.nx, Et a0 p s2 (some (vI m)) (RV rows) (MV rows) s6 s7 s8 s9) := by
  obtain ⟨x, hx⟩ := repr_rows (g := L 12) h
  have hl : (L 12).full "_law_m_listed" [.val (.tup rows)] = pure (.val (lstW (.tup rows))) := listed_eq 4 7 h.okW h.dep
  have hc : cmpA (L 12) .NotEq (.val (insM (.tup rows))) (.val (insM (.tup rows))) = pure false := cmp_mach 11 (cmp_rows_self h) (.inr rfl)
  have hn : biA (L 12) "len" [.val (insM (.tup rows))] = pure (vI rows.length) := len_mach 11 (by have := h.len; have := h.rng; omega)
  have hb : (x != x) = false := by simp
  have hi : (!((m : Int) == (m : Int))) = false := by simp
  unfold tu3
  simp (implicitDefEqProofs := false) only [mw_bind_pure, List.map, List.length, List.replicate, List.append, List.cons_append, List.nil_append, Nat.add_sub_cancel, Nat.reduceSub, Nat.sub_self, Nat.zero_add, Nat.reduceAdd, List.set, thenS_cons, thenS_nil, thenS_nx, thenS_rt, thenS_bind, thenS_ite, bind_ite, mw_pure_bind, mw_assoc, es_ret, es_ife, es_asg, es_rais, es_fld, es_sub, es_ex, es_par, es_pass, es_retN, ev_andF, ev_andT, evAnd_2, evAnd_1, evTAnd_0, evTAnd_1, evOr_1, evOr_2, evTOr_0, evTOr_1, ev_orF, ev_orT, ev_bi, ev_var, varM_cons0, varM_consS, ev_typ, ev_con, ev_notF, ev_notT, evL_0, evL_1, post_false, post_bl, asB_bl, blV_eq, truM_bl, retA_val, ev_cmp, ev_chain, ev_call, ev_ix', ev_attr', ev_bin', ev_sl, ev_tup, ev_lst, ev_ife, ev_glo, ev_make, ev_makek, ev_heard, wv_int, wv_bl, wv_str, wv_non, mw_ite, evO_0, evO_1, intO_int, cmp_isI, cmp_isN, cmp_geI, cmp_leI, cmp_ltI, cmp_gtI, bin_add, bin_sub, newT_0, newL_0, newT_1, newL_1, newT_2, newL_2, newT_3, newL_3, newT_4, newL_4, newT_5, newL_5, attr_rows, hx, cl__law_m_listed_1, hl, newk_rows, h.newL, hc, hn, h.len, cmp_neSS, cmp_neI, hb, hi, Bool.false_eq_true, if_false, es_nil]
theorem tu4_eq (j : Nat) {m m2 : Nat} {rows others : List Wv} (h : RowsOK m rows) (h2 : RowsOK m2 others) (a0 : Av) (p : Nat) (s2 s3 s7 s8 s9 : Option Av) : evS (L 12) j tu4 (Et a0 p s2 s3 (RV rows) (MV rows) (RV others) s7 s8 s9) = pure (.nx, Et a0 p s2 s3 (RV rows) (MV rows) (RV others) s7 s8 s9) := by
  obtain ⟨r', ha⟩ := cmp_rows_all h h2
  have hr := ha (L 12)
  have hr' := ha (L 11)
  have hc : cmpA (L 12) .Eq (.val (insM (.tup rows))) (.val (insM (.tup others))) = pure r' := cmp_mach 11 hr' (.inl rfl)
  have hd : cmpA (L 12) .NotEq (.val (insM (.tup rows))) (.val (insM (.tup others))) = pure (!r') := cmp_mach 11 hr' (.inr rfl)
  have ht : cmpA (L 12) .Eq (.val (insM (.tup rows))) (.val (.tup rows)) = pure false := cmp_mach_tup 11
  have hf : cmpA (L 12) .Eq (.val (insM (.tup rows))) (vI 5) = pure false := cmp_mach_int 11
  have hb : (!(r' == r')) = false := by simp
  have hb2 : ((!r') == r') = false := by cases r' <;> rfl
  unfold tu4
  simp (implicitDefEqProofs := false) only [mw_bind_pure, List.map, List.length, List.replicate, List.append, List.cons_append, List.nil_append, Nat.add_sub_cancel, Nat.reduceSub, Nat.sub_self, Nat.zero_add, Nat.reduceAdd, List.set, thenS_cons, thenS_nil, thenS_nx, thenS_rt, thenS_bind, thenS_ite, bind_ite, mw_pure_bind, mw_assoc, es_ret, es_ife, es_asg, es_rais, es_fld, es_sub, es_ex, es_par, es_pass, es_retN, ev_andF, ev_andT, evAnd_2, evAnd_1, evTAnd_0, evTAnd_1, evOr_1, evOr_2, evTOr_0, evTOr_1, ev_orF, ev_orT, ev_bi, ev_var, varM_cons0, varM_consS, ev_typ, ev_con, ev_notF, ev_notT, evL_0, evL_1, post_false, post_bl, asB_bl, blV_eq, truM_bl, retA_val, ev_cmp, ev_chain, ev_call, ev_ix', ev_attr', ev_bin', ev_sl, ev_tup, ev_lst, ev_ife, ev_glo, ev_make, ev_makek, ev_heard, wv_int, wv_bl, wv_str, wv_non, mw_ite, evO_0, evO_1, intO_int, cmp_isI, cmp_isN, cmp_geI, cmp_leI, cmp_ltI, cmp_gtI, bin_add, bin_sub, newT_0, newL_0, newT_1, newL_1, newT_2, newL_2, newT_3, newL_3, newT_4, newL_4, newT_5, newL_5, h2.new, hc, hd, hr, cmp_neB, cmp_eqB, hb, hb2, ht, hf, Bool.false_eq_true, if_false, es_nil]
/-! wrong rows are refused -/
def wb : List PSt := match tu6 with
  | .fr _ _ _ b => b
  | _ => []
theorem tu6_eq : tu6 = .fr (.name 8) .val [.call "_law_wrong_rows" [.var 1, .var 3]] wb := rfl
theorem cmp_refusal (n : Nat) : cmpA (L n) .NotEq (.val refusal) (.val refusal) = pure false := by
  funext M
  kernel_rfl
theorem cmp_refusal_eq (n : Nat) : cmpA (L n) .Eq (.val refusal) (.val refusal) = pure true := by
  funext M
  kernel_rfl
theorem wrong_rows {m : Nat} {rows : List Wv} (h : RowsOK m rows) {x : Wv} (hx : Wrong m x) {i : Nat} (hi : i < m) : newA (L 12) "Machine" 1 [.val (.tup (rows.take i ++ [x] ++ rows.drop (i + 1)))] = exM badM := by
  have hl := h.len
  have hr := h.rng
  have hm : ∀ w ∈ rows.take i ++ [x] ++ rows.drop (i + 1), w ∈ rows ∨ w = x := fun w hw => by
    simp only [List.mem_append, List.mem_singleton] at hw
    rcases hw with (hw | hw) | hw
    · exact .inl (List.mem_of_mem_take hw)
    · exact .inr hw
    · exact .inl (List.mem_of_mem_drop hw)
  have len : (rows.take i ++ [x] ++ rows.drop (i + 1)).length = m := by simp; omega
  have ok : okW (.tup (rows.take i ++ [x] ++ rows.drop (i + 1))) = true := okT (by rw [len]; omega) (okL_of fun w hw => by
    rcases hm w hw with z | rfl
    · exact (h.row w z).okW
    · exact hx.ok)
  have dep : depW (.tup (rows.take i ++ [x] ++ rows.drop (i + 1))) ≤ 5 := by
    simp only [depW]
    have := depL_of (d := 4) (ws := rows.take i ++ [x] ++ rows.drop (i + 1)) fun w hw => by
      rcases hm w hw with z | rfl
      · have := (h.row w z).dep; omega
      · exact hx.dep
    omega
  have bad : isMach (.tup (rows.take i ++ [x] ++ rows.drop (i + 1))) = false := by
    unfold isMach
    simp only [itemsV, len, List.all_append, List.all_cons, hx.row]
    simp
  have := new_eq 6 ok (by omega)
  rw [bad] at this
  exact this
theorem wrong_loop (j : Nat) {m : Nat} {rows : List Wv} (h : RowsOK m rows) {i : Nat} (hi : i < m) (a0 : Av) (p : Nat) (s2 s3 s5 s6 s9 : Option Av) (M : Mem) : ∀ (ws : List Wv), (∀ x ∈ ws, Wrong m x) → ∀ s8, Tr (forW (evSs (L 12) j wb) (.name 8) ws (Et a0 p s2 s3 (RV rows) s5 s6 (some (vI i)) s8 s9)) M fun r M' => M' = M ∧ ∃ s8', r = (.nx, Et a0 p s2 s3 (RV rows) s5 s6 (some (vI i)) s8' s9)
  | [], _, s8 => Tr.forNil ⟨rfl, s8, rfl⟩
  | w :: ws, hw, s8 => by
    refine Tr.forCons ?_
    have hl := h.len
    have hr := h.rng
    have e1 := sl_take (xs := rows) (i := i) (by omega) (by omega)
    have e2 := sl_drop (xs := rows) (i := (i : Int) + 1) (by omega) (by omega)
    have t1 : ((i : Int)).toNat = i := by omega
    have t2 : ((i : Int) + 1).toNat = i + 1 := by omega
    rw [t1] at e1
    rw [t2] at e2
    have b1 : binM .Add (.val (.tup (rows.take i))) (.val (.tup [w])) = pure (.val (.tup (rows.take i ++ [w]))) := bin_tup (by simp; omega)
    have b2 : binM .Add (.val (.tup (rows.take i ++ [w]))) (.val (.tup (rows.drop (i + 1)))) = pure (.val (.tup (rows.take i ++ [w] ++ rows.drop (i + 1)))) := bin_tup (by simp; omega)
    have hn := wrong_rows h (hw w List.mem_cons_self) hi
    have hh : heardM (L 12) (exM badM) = pure (.val refusal) := heard_bad 10
    have st : evSs (L 12) j wb ((Et a0 p s2 s3 (RV rows) s5 s6 (some (vI i)) s8 s9).set 8 (some (.val w))) = pure (.nx, Et a0 p s2 s3 (RV rows) s5 s6 (some (vI i)) (some (.val w)) s9) := by
      show evSs (L 12) j [_] _ = _
      simp (implicitDefEqProofs := false) only [mw_bind_pure, List.map, List.length, List.replicate, List.append, List.cons_append, List.nil_append, Nat.add_sub_cancel, Nat.reduceSub, Nat.sub_self, Nat.zero_add, Nat.reduceAdd, List.set, thenS_cons, thenS_nil, thenS_nx, thenS_rt, thenS_bind, thenS_ite, bind_ite, mw_pure_bind, mw_assoc, es_ret, es_ife, es_asg, es_rais, es_fld, es_sub, es_ex, es_par, es_pass, es_retN, ev_andF, ev_andT, evAnd_2, evAnd_1, evTAnd_0, evTAnd_1, evOr_1, evOr_2, evTOr_0, evTOr_1, ev_orF, ev_orT, ev_bi, ev_var, varM_cons0, varM_consS, ev_typ, ev_con, ev_notF, ev_notT, evL_0, evL_1, post_false, post_bl, asB_bl, blV_eq, truM_bl, retA_val, ev_cmp, ev_chain, ev_call, ev_ix', ev_attr', ev_bin', ev_sl, ev_tup, ev_lst, ev_ife, ev_glo, ev_make, ev_makek, ev_heard, wv_int, wv_bl, wv_str, wv_non, mw_ite, evO_0, evO_1, intO_int, cmp_isI, cmp_isN, cmp_geI, cmp_leI, cmp_ltI, cmp_gtI, bin_add, bin_sub, newT_0, newL_0, newT_1, newL_1, newT_2, newL_2, newT_3, newL_3, newT_4, newL_4, newT_5, newL_5, es_cons, es_nil, nxS_nx, e1, e2, b1, b2, hn, hh, cmp_refusal, Bool.false_eq_true, if_false]
    rw [st]
    exact Tr.pure (.inl ⟨_, rfl, wrong_loop j h hi a0 p s2 s3 s5 s6 s9 M ws (fun x hx => hw x (List.mem_cons_of_mem _ hx)) _⟩)
/-! the last row left out -/
def farW (m : Int) (rows : List Wv) : List Wv := rows.dropLast.filter fun r => (tgts r).any fun t => t == m - 1
theorem tu7_eq (j : Nat) {m : Nat} {rows : List Wv} (h : RowsOK m rows) (a0 : Av) (p : Nat) (s2 s5 s6 s7 s8 s9 : Option Av) : evS (L 12) j tu7 (Et a0 p s2 (some (vI m)) (RV rows) s5 s6 s7 s8 s9) = pure (.nx, Et a0 p s2 (some (vI m)) (RV rows) s5 s6 s7 s8 (some (.val (.lst (farW m rows))))) := by
  have hl := h.len
  have hr := h.rng
  unfold tu7
  simp (implicitDefEqProofs := false) only [mw_bind_pure, List.map, List.length, List.replicate, List.append, List.cons_append, List.nil_append, Nat.add_sub_cancel, Nat.reduceSub, Nat.sub_self, Nat.zero_add, Nat.reduceAdd, List.set, thenS_cons, thenS_nil, thenS_nx, thenS_rt, thenS_bind, thenS_ite, bind_ite, mw_pure_bind, mw_assoc, es_ret, es_ife, es_asg, es_rais, es_fld, es_sub, es_ex, es_par, es_pass, es_retN, ev_andF, ev_andT, evAnd_2, evAnd_1, evTAnd_0, evTAnd_1, evOr_1, evOr_2, evTOr_0, evTOr_1, ev_orF, ev_orT, ev_bi, ev_var, varM_cons0, varM_consS, ev_typ, ev_con, ev_notF, ev_notT, evL_0, evL_1, post_false, post_bl, asB_bl, blV_eq, truM_bl, retA_val, ev_cmp, ev_chain, ev_call, ev_ix', ev_attr', ev_bin', ev_sl, ev_tup, ev_lst, ev_ife, ev_glo, ev_make, ev_makek, ev_heard, wv_int, wv_bl, wv_str, wv_non, mw_ite, evO_0, evO_1, intO_int, cmp_isI, cmp_isN, cmp_geI, cmp_leI, cmp_ltI, cmp_gtI, bin_add, bin_sub, newT_0, newL_0, newT_1, newL_1, newT_2, newL_2, newT_3, newL_3, newT_4, newL_4, newT_5, newL_5]
  have key := lc_filter (g := L 12) (e := .var 13) (t := .name 13) (its := [.sl (.var 4) none (some (.neg (.con (.int 1))))]) (ifs := [.cmp .In (.bin .Sub (.var 3) (.con (.int 1))) (.lc false (.var 15) (.tup [.name 14, .name 15]) .val [.call "_law_m_steps" [.var 13]] [] [14, 15])]) (k := .val) (own := [13]) (η := Et a0 p s2 (some (vI m)) (RV rows) s5 s6 s7 s8 s9) (ws := rows.dropLast) (f := fun r => (tgts r).any fun t => t == (m : Int) - 1)
    (by simp (implicitDefEqProofs := false) only [mw_bind_pure, List.map, List.length, List.replicate, List.append, List.cons_append, List.nil_append, Nat.add_sub_cancel, Nat.reduceSub, Nat.sub_self, Nat.zero_add, Nat.reduceAdd, List.set, thenS_cons, thenS_nil, thenS_nx, thenS_rt, thenS_bind, thenS_ite, bind_ite, mw_pure_bind, mw_assoc, es_ret, es_ife, es_asg, es_rais, es_fld, es_sub, es_ex, es_par, es_pass, es_retN, ev_andF, ev_andT, evAnd_2, evAnd_1, evTAnd_0, evTAnd_1, evOr_1, evOr_2, evTOr_0, evTOr_1, ev_orF, ev_orT, ev_bi, ev_var, varM_cons0, varM_consS, ev_typ, ev_con, ev_notF, ev_notT, evL_0, evL_1, post_false, post_bl, asB_bl, blV_eq, truM_bl, retA_val, ev_cmp, ev_chain, ev_call, ev_ix', ev_attr', ev_bin', ev_sl, ev_tup, ev_lst, ev_ife, ev_glo, ev_make, ev_makek, ev_heard, wv_int, wv_bl, wv_str, wv_non, mw_ite, evO_0, evO_1, intO_int, cmp_isI, cmp_isN, cmp_geI, cmp_leI, cmp_ltI, cmp_gtI, bin_add, bin_sub, newT_0, newL_0, newT_1, newL_1, newT_2, newL_2, newT_3, newL_3, newT_4, newL_4, newT_5, newL_5, ev_neg, negM_int, sl_init, walk_tup]) (by simp; rw [big]; omega) (fun w hw => ?_)
  · rw [key]
    rfl
  · have hrow := h.row w (mem_init hw)
    refine ⟨_, rfl, ?_, rfl⟩
    have hst : (L 12).full "_law_m_steps" [.val w] = pure (.val (.lst (stepsW w))) := steps_eq 11 hrow
    have inner := lc_mapT (g := L 12) (e := .var 15) (t := .tup [.name 14, .name 15]) (its := [.call "_law_m_steps" [.var 13]]) (k := .val) (own := [14, 15]) (η := (wipeE (Et a0 p s2 (some (vI m)) (RV rows) s5 s6 s7 s8 s9) [13]).set 13 (some (.val w))) (ws := stepsW w) (f := tgtW)
      (by simp only [wipeE, mw_bind_pure, List.map, List.length, List.replicate, List.append, List.cons_append, List.nil_append, Nat.add_sub_cancel, Nat.reduceSub, Nat.sub_self, Nat.zero_add, Nat.reduceAdd, List.set, thenS_cons, thenS_nil, thenS_nx, thenS_rt, thenS_bind, thenS_ite, bind_ite, mw_pure_bind, mw_assoc, es_ret, es_ife, es_asg, es_rais, es_fld, es_sub, es_ex, es_par, es_pass, es_retN, ev_andF, ev_andT, evAnd_2, evAnd_1, evTAnd_0, evTAnd_1, evOr_1, evOr_2, evTOr_0, evTOr_1, ev_orF, ev_orT, ev_bi, ev_var, varM_cons0, varM_consS, ev_typ, ev_con, ev_notF, ev_notT, evL_0, evL_1, post_false, post_bl, asB_bl, blV_eq, truM_bl, retA_val, ev_cmp, ev_chain, ev_call, ev_ix', ev_attr', ev_bin', ev_sl, ev_tup, ev_lst, ev_ife, ev_glo, ev_make, ev_makek, ev_heard, wv_int, wv_bl, wv_str, wv_non, mw_ite, evO_0, evO_1, intO_int, cmp_isI, cmp_isN, cmp_geI, cmp_leI, cmp_ltI, cmp_gtI, bin_add, bin_sub, newT_0, newL_0, newT_1, newL_1, newT_2, newL_2, newT_3, newL_3, newT_4, newL_4, newT_5, newL_5, cl__law_m_steps_1, hst, walk_lst]) (by have := steps_len hrow; rw [big]; omega) (fun u hu => by
        obtain ⟨a, b, rfl⟩ := steps_two hrow u hu
        exact ⟨_, rfl, rfl⟩)
    rw [steps_tgt hrow] at inner
    have e3 : varM ((wipeE (Et a0 p s2 (some (vI m)) (RV rows) s5 s6 s7 s8 s9) [13]).set 13 (some (.val w))) 3 = pure (vI m) := rfl
    simp only [evIfs_1, evIfs_0, ev_cmp, ev_bin', ev_var, ev_con, post_false, e3, wv_int, mw_pure_bind, bin_sub, inner, in_ints, blV_eq, asB_bl, mw_ite, ite_bool]
theorem filt_empty {α : Type} (f : α → Bool) : ∀ l : List α, (l.filter f).isEmpty = l.all fun x => !f x
  | [] => rfl
  | x :: l => by
    have := filt_empty f l
    cases h : f x <;> simp [h, this]
theorem init_mach {m : Nat} {rows : List Wv} (h : RowsOK m rows) (hm : 1 < m) : isMach (.tup rows.dropLast) = (farW m rows).isEmpty := by
  have hl := h.len
  have hr := h.rng
  have len : rows.dropLast.length = m - 1 := by simp [hl]
  have e0 : isListed (.tup rows.dropLast) 1 2000 = true := by
    simp only [isListed, lenV, len, Bool.and_eq_true, decide_eq_true_eq]
    omega
  unfold isMach farW
  rw [e0, filt_empty, Bool.true_and]
  simp only [itemsV, len]
  have ec : ((m - 1 : Nat) : Int) = (m : Int) - 1 := by omega
  rw [ec]
  have : ∀ l : List Wv, (∀ r ∈ l, RowOK m r) → (l.all fun r => isRow r ((m : Int) - 1)) = l.all fun r => !((tgts r).any fun t => t == (m : Int) - 1) := fun l => by
    induction l with
    | nil => intro _; rfl
    | cons r l ih =>
      intro hl
      have hrow := hl r List.mem_cons_self
      have e1 : ∀ ts : List Int, (∀ t ∈ ts, 0 ≤ t ∧ t < m) → (ts.all fun t => decide (t < (m : Int) - 1)) = !(ts.any fun t => t == (m : Int) - 1) := fun ts => by
        induction ts with
        | nil => intro _; rfl
        | cons t ts ih2 =>
          intro ht
          have h1 := ht t List.mem_cons_self
          have e : decide (t < (m : Int) - 1) = !(t == (m : Int) - 1) := by
            by_cases z : t = (m : Int) - 1
            · subst z; simp
            · have : t < (m : Int) - 1 := by omega
              simp [z, this]
          simp only [List.all_cons, List.any_cons, Bool.not_or, ih2 fun t h => ht t (List.mem_cons_of_mem _ h), e]
      simp only [List.all_cons, hrow.row (m' := (m : Int) - 1), e1 _ hrow.tgt, ih fun x hx => hl x (List.mem_cons_of_mem _ hx)]
  exact this _ fun r hr => h.row r (mem_init hr)
theorem far_ne {g : G} {m : Nat} {rows : List Wv} (h : RowsOK m rows) : cmpA g .NotEq (.val (.lst (farW m rows))) (.val (.lst [])) = pure (!(farW m rows).isEmpty) := by
  have hr := h.rng
  obtain ⟨h1, h2, h3⟩ := smL_of (ws := farW m rows) fun r hr2 => (h.row r (mem_init (List.mem_filter.mp hr2).1)).sm (by omega)
  obtain ⟨d, hd⟩ := sm_py (.lst (farW m rows)) (by simp only [smW]; exact h1)
  obtain ⟨e, he⟩ := sm_py (.lst []) rfl
  rw [cmp_neW hd he (by simp only [dpW]; omega) (by simp [dpW, dpL])]
  have p1 := hd.py
  have p2 := he.py
  simp only [toPy, toPyL] at p1 p2
  cases p2
  cases hf : farW m rows with
  | nil =>
    rw [hf] at p1
    simp only [toPyL] at p1
    cases p1
    rfl
  | cons w ws =>
    rw [hf] at p1
    split at p1
    · rename_i ds hds
      cases p1
      simp only [toPyL] at hds
      split at hds
      · cases hds
        rfl
      · cases hds
    · cases p1
theorem tu8_eq (j : Nat) {m : Nat} {rows : List Wv} (h : RowsOK m rows) (a0 : Av) (p : Nat) (s2 s5 s6 s7 s8 : Option Av) : evS (L 12) j tu8 (Et a0 p s2 (some (vI m)) (RV rows) s5 s6 s7 s8 (some (.val (.lst (farW m rows))))) = pure (.nx, Et a0 p s2 (some (vI m)) (RV rows) s5 s6 s7 s8 (some (.val (.lst (farW m rows))))) := by
  have hl := h.len
  have hr := h.rng
  unfold tu8
  by_cases hm : 1 < m
  · have d1 : decide ((1 : Int) < (m : Int)) = true := by simp; omega
    have ok : okW (.tup rows.dropLast) = true := okT (by simp; omega) (okL_of fun w hw => (h.row w (mem_init hw)).okW)
    have dep : depW (.tup rows.dropLast) ≤ 10 := by
      simp only [depW]
      have := depL_of (d := 3) (ws := rows.dropLast) fun w hw => (h.row w (mem_init hw)).dep
      omega
    have hn : newA (L 12) "Machine" 1 [.val (.tup rows.dropLast)] = _ := new_eq 6 ok dep
    have hh : heardM (L 12) _ = _ := heard_mach 10 (.tup rows.dropLast)
    have hf := far_ne (g := L 12) h
    have hi := init_mach h hm
    have ec : cmpA (L 12) .Eq (.val (if isMach (.tup rows.dropLast) = true then .lst [machV (.tup rows.dropLast)] else .tup [.str "machine", .str "rows"])) (.val refusal) = pure (!isMach (.tup rows.dropLast)) := by
      cases isMach (.tup rows.dropLast) with
      | true => rfl
      | false => exact cmp_refusal_eq 12
    have hb : (!((!isMach (.tup rows.dropLast)) == (!(farW m rows).isEmpty))) = false := by rw [hi]; simp
    simp (implicitDefEqProofs := false) only [mw_bind_pure, List.map, List.length, List.replicate, List.append, List.cons_append, List.nil_append, Nat.add_sub_cancel, Nat.reduceSub, Nat.sub_self, Nat.zero_add, Nat.reduceAdd, List.set, thenS_cons, thenS_nil, thenS_nx, thenS_rt, thenS_bind, thenS_ite, bind_ite, mw_pure_bind, mw_assoc, es_ret, es_ife, es_asg, es_rais, es_fld, es_sub, es_ex, es_par, es_pass, es_retN, ev_andF, ev_andT, evAnd_2, evAnd_1, evTAnd_0, evTAnd_1, evOr_1, evOr_2, evTOr_0, evTOr_1, ev_orF, ev_orT, ev_bi, ev_var, varM_cons0, varM_consS, ev_typ, ev_con, ev_notF, ev_notT, evL_0, evL_1, post_false, post_bl, asB_bl, blV_eq, truM_bl, retA_val, ev_cmp, ev_chain, ev_call, ev_ix', ev_attr', ev_bin', ev_sl, ev_tup, ev_lst, ev_ife, ev_glo, ev_make, ev_makek, ev_heard, wv_int, wv_bl, wv_str, wv_non, mw_ite, evO_0, evO_1, intO_int, cmp_isI, cmp_isN, cmp_geI, cmp_leI, cmp_ltI, cmp_gtI, bin_add, bin_sub, newT_0, newL_0, newT_1, newL_1, newT_2, newL_2, newT_3, newL_3, newT_4, newL_4, newT_5, newL_5, d1, if_true, ev_neg, negM_int, sl_init, hn, hh, ec, hf, cmp_neB, hb, Bool.false_eq_true, if_false, es_nil]
  · have d1 : decide ((1 : Int) < (m : Int)) = false := by simp; omega
    simp (implicitDefEqProofs := false) only [mw_bind_pure, List.map, List.length, List.replicate, List.append, List.cons_append, List.nil_append, Nat.add_sub_cancel, Nat.reduceSub, Nat.sub_self, Nat.zero_add, Nat.reduceAdd, List.set, thenS_cons, thenS_nil, thenS_nx, thenS_rt, thenS_bind, thenS_ite, bind_ite, mw_pure_bind, mw_assoc, es_ret, es_ife, es_asg, es_rais, es_fld, es_sub, es_ex, es_par, es_pass, es_retN, ev_andF, ev_andT, evAnd_2, evAnd_1, evTAnd_0, evTAnd_1, evOr_1, evOr_2, evTOr_0, evTOr_1, ev_orF, ev_orT, ev_bi, ev_var, varM_cons0, varM_consS, ev_typ, ev_con, ev_notF, ev_notT, evL_0, evL_1, post_false, post_bl, asB_bl, blV_eq, truM_bl, retA_val, ev_cmp, ev_chain, ev_call, ev_ix', ev_attr', ev_bin', ev_sl, ev_tup, ev_lst, ev_ife, ev_glo, ev_make, ev_makek, ev_heard, wv_int, wv_bl, wv_str, wv_non, mw_ite, evO_0, evO_1, intO_int, cmp_isI, cmp_isN, cmp_geI, cmp_leI, cmp_ltI, cmp_gtI, bin_add, bin_sub, newT_0, newL_0, newT_1, newL_1, newT_2, newL_2, newT_3, newL_3, newT_4, newL_4, newT_5, newL_5, d1, Bool.false_eq_true, if_false, es_nil]
end LW

namespace LW
open PySem PySem.Spec L2
theorem Tr.nxS {M : Mem} {x : Mw (Fl × Ev)} {kk : Ev → Mw (Fl × Ev)} {Q : Fl × Ev → Mem → Prop} (h : Tr x M fun r M1 => ∃ η1, r = (.nx, η1) ∧ Tr (kk η1) M1 Q) : Tr (LW.nxS x kk) M Q := by
  obtain ⟨r, M1, e, η1, rfl, h⟩ := h.get
  obtain ⟨b, M2, e2, h⟩ := h.get
  refine Tr.of (a := b) (M' := M2) ?_ h
  unfold LW.nxS
  rw [e]
  exact e2
theorem names4 : Names ["ada", "bo", "cut", "pass"] := ⟨by decide, by decide, by decide +kernel⟩
theorem names3 : Names ["ada", "bo", "pass"] := ⟨by decide, by decide, by decide +kernel⟩
theorem turn_tr (j : Nat) {p k : Nat} {M : Mem} (hP : Pen p (200 + k) M) (a0 : Av) (s2 s3 s4 s5 s6 s7 s8 s9 : Option Av) : Tr (evSs (L 12) j turnB (Et a0 p s2 s3 s4 s5 s6 s7 s8 s9)) M
    fun r M' => ∃ m rows s3' s5' s6' s7' s8' s9', RowsOK m rows ∧ r = (.nx, Et a0 p s2 s3' (RV rows) s5' s6' s7' s8' s9') ∧ Pen p k M' := by
  unfold turnB
  rw [es_cons]
  unfold tu0
  simp (implicitDefEqProofs := false) only [mw_bind_pure, List.map, List.length, List.replicate, List.append, List.cons_append, List.nil_append, Nat.add_sub_cancel, Nat.reduceSub, Nat.sub_self, Nat.zero_add, Nat.reduceAdd, List.set, thenS_cons, thenS_nil, thenS_nx, thenS_rt, thenS_bind, thenS_ite, bind_ite, mw_pure_bind, mw_assoc, es_ret, es_ife, es_asg, es_rais, es_fld, es_sub, es_ex, es_par, es_pass, es_retN, ev_andF, ev_andT, evAnd_2, evAnd_1, evTAnd_0, evTAnd_1, evOr_1, evOr_2, evTOr_0, evTOr_1, ev_orF, ev_orT, ev_bi, ev_var, varM_cons0, varM_consS, ev_typ, ev_con, ev_notF, ev_notT, evL_0, evL_1, post_false, post_bl, asB_bl, blV_eq, truM_bl, retA_val, ev_cmp, ev_chain, ev_call, ev_ix', ev_attr', ev_bin', ev_sl, ev_tup, ev_lst, ev_ife, ev_glo, ev_make, ev_makek, ev_heard, wv_int, wv_bl, wv_str, wv_non, mw_ite, evO_0, evO_1, intO_int, cmp_isI, cmp_isN, cmp_geI, cmp_leI, cmp_ltI, cmp_gtI, bin_add, bin_sub, newT_0, newL_0, newT_1, newL_1, newT_2, newL_2, newT_3, newL_3, newT_4, newL_4, newT_5, newL_5, nxS_bind, cl__law_draw_2]
  refine Tr.bind ((draw_tr 11 (k := 190 + k) (hP.mono (by omega)) (many := 7) (by omega) (by omega)).mono ?_)
  rintro a M1 ⟨r1, _, _, _, rfl, h0, h1, -, P1⟩
  simp (implicitDefEqProofs := false) only [mw_bind_pure, List.map, List.length, List.replicate, List.append, List.cons_append, List.nil_append, Nat.add_sub_cancel, Nat.reduceSub, Nat.sub_self, Nat.zero_add, Nat.reduceAdd, List.set, thenS_cons, thenS_nil, thenS_nx, thenS_rt, thenS_bind, thenS_ite, bind_ite, mw_pure_bind, mw_assoc, es_ret, es_ife, es_asg, es_rais, es_fld, es_sub, es_ex, es_par, es_pass, es_retN, ev_andF, ev_andT, evAnd_2, evAnd_1, evTAnd_0, evTAnd_1, evOr_1, evOr_2, evTOr_0, evTOr_1, ev_orF, ev_orT, ev_bi, ev_var, varM_cons0, varM_consS, ev_typ, ev_con, ev_notF, ev_notT, evL_0, evL_1, post_false, post_bl, asB_bl, blV_eq, truM_bl, retA_val, ev_cmp, ev_chain, ev_call, ev_ix', ev_attr', ev_bin', ev_sl, ev_tup, ev_lst, ev_ife, ev_glo, ev_make, ev_makek, ev_heard, wv_int, wv_bl, wv_str, wv_non, mw_ite, evO_0, evO_1, intO_int, cmp_isI, cmp_isN, cmp_geI, cmp_leI, cmp_ltI, cmp_gtI, bin_add, bin_sub, newT_0, newL_0, newT_1, newL_1, newT_2, newL_2, newT_3, newL_3, newT_4, newL_4, newT_5, newL_5, nxS_nx]
  obtain ⟨m, hm⟩ : ∃ m : Nat, 1 + r1 = (m : Int) := ⟨(1 + r1).toNat, by omega⟩
  rw [hm]
  have m1 : 1 ≤ m ∧ m ≤ 7 := by omega
  rw [es_cons]
  unfold tu1
  simp (implicitDefEqProofs := false) only [mw_bind_pure, List.map, List.length, List.replicate, List.append, List.cons_append, List.nil_append, Nat.add_sub_cancel, Nat.reduceSub, Nat.sub_self, Nat.zero_add, Nat.reduceAdd, List.set, thenS_cons, thenS_nil, thenS_nx, thenS_rt, thenS_bind, thenS_ite, bind_ite, mw_pure_bind, mw_assoc, es_ret, es_ife, es_asg, es_rais, es_fld, es_sub, es_ex, es_par, es_pass, es_retN, ev_andF, ev_andT, evAnd_2, evAnd_1, evTAnd_0, evTAnd_1, evOr_1, evOr_2, evTOr_0, evTOr_1, ev_orF, ev_orT, ev_bi, ev_var, varM_cons0, varM_consS, ev_typ, ev_con, ev_notF, ev_notT, evL_0, evL_1, post_false, post_bl, asB_bl, blV_eq, truM_bl, retA_val, ev_cmp, ev_chain, ev_call, ev_ix', ev_attr', ev_bin', ev_sl, ev_tup, ev_lst, ev_ife, ev_glo, ev_make, ev_makek, ev_heard, wv_int, wv_bl, wv_str, wv_non, mw_ite, evO_0, evO_1, intO_int, cmp_isI, cmp_isN, cmp_geI, cmp_leI, cmp_ltI, cmp_gtI, bin_add, bin_sub, newT_0, newL_0, newT_1, newL_1, newT_2, newL_2, newT_3, newL_3, newT_4, newL_4, newT_5, newL_5, nxS_bind, cl__law_m_free_3]
  refine Tr.bind ((free_tr 8 (k := 120 + k) (m := m) m1.1 (by omega) names4 (P1.mono (by omega))).mono ?_)
  rintro a M2 ⟨w, _, _, _, rfl, ⟨rows, rfl, hl, hrow⟩, -, P2⟩
  have R : RowsOK m rows := ⟨hl, m1, hrow⟩
  simp (implicitDefEqProofs := false) only [mw_bind_pure, List.map, List.length, List.replicate, List.append, List.cons_append, List.nil_append, Nat.add_sub_cancel, Nat.reduceSub, Nat.sub_self, Nat.zero_add, Nat.reduceAdd, List.set, thenS_cons, thenS_nil, thenS_nx, thenS_rt, thenS_bind, thenS_ite, bind_ite, mw_pure_bind, mw_assoc, es_ret, es_ife, es_asg, es_rais, es_fld, es_sub, es_ex, es_par, es_pass, es_retN, ev_andF, ev_andT, evAnd_2, evAnd_1, evTAnd_0, evTAnd_1, evOr_1, evOr_2, evTOr_0, evTOr_1, ev_orF, ev_orT, ev_bi, ev_var, varM_cons0, varM_consS, ev_typ, ev_con, ev_notF, ev_notT, evL_0, evL_1, post_false, post_bl, asB_bl, blV_eq, truM_bl, retA_val, ev_cmp, ev_chain, ev_call, ev_ix', ev_attr', ev_bin', ev_sl, ev_tup, ev_lst, ev_ife, ev_glo, ev_make, ev_makek, ev_heard, wv_int, wv_bl, wv_str, wv_non, mw_ite, evO_0, evO_1, intO_int, cmp_isI, cmp_isN, cmp_geI, cmp_leI, cmp_ltI, cmp_gtI, bin_add, bin_sub, newT_0, newL_0, newT_1, newL_1, newT_2, newL_2, newT_3, newL_3, newT_4, newL_4, newT_5, newL_5, nxS_nx]
  rw [es_cons]
  unfold tu2
  simp (implicitDefEqProofs := false) only [mw_bind_pure, List.map, List.length, List.replicate, List.append, List.cons_append, List.nil_append, Nat.add_sub_cancel, Nat.reduceSub, Nat.sub_self, Nat.zero_add, Nat.reduceAdd, List.set, thenS_cons, thenS_nil, thenS_nx, thenS_rt, thenS_bind, thenS_ite, bind_ite, mw_pure_bind, mw_assoc, es_ret, es_ife, es_asg, es_rais, es_fld, es_sub, es_ex, es_par, es_pass, es_retN, ev_andF, ev_andT, evAnd_2, evAnd_1, evTAnd_0, evTAnd_1, evOr_1, evOr_2, evTOr_0, evTOr_1, ev_orF, ev_orT, ev_bi, ev_var, varM_cons0, varM_consS, ev_typ, ev_con, ev_notF, ev_notT, evL_0, evL_1, post_false, post_bl, asB_bl, blV_eq, truM_bl, retA_val, ev_cmp, ev_chain, ev_call, ev_ix', ev_attr', ev_bin', ev_sl, ev_tup, ev_lst, ev_ife, ev_glo, ev_make, ev_makek, ev_heard, wv_int, wv_bl, wv_str, wv_non, mw_ite, evO_0, evO_1, intO_int, cmp_isI, cmp_isN, cmp_geI, cmp_leI, cmp_ltI, cmp_gtI, bin_add, bin_sub, newT_0, newL_0, newT_1, newL_1, newT_2, newL_2, newT_3, newL_3, newT_4, newL_4, newT_5, newL_5, nxS_bind, cl__law_m_free_3, R.new]
  refine Tr.bind ((free_tr 8 (k := 50 + k) (m := m) m1.1 (by omega) names3 (P2.mono (by omega))).mono ?_)
  rintro a M3 ⟨w, _, _, _, rfl, ⟨others, rfl, hl2, hrow2⟩, -, P3⟩
  have R2 : RowsOK m others := ⟨hl2, m1, hrow2⟩
  simp (implicitDefEqProofs := false) only [mw_bind_pure, List.map, List.length, List.replicate, List.append, List.cons_append, List.nil_append, Nat.add_sub_cancel, Nat.reduceSub, Nat.sub_self, Nat.zero_add, Nat.reduceAdd, List.set, thenS_cons, thenS_nil, thenS_nx, thenS_rt, thenS_bind, thenS_ite, bind_ite, mw_pure_bind, mw_assoc, es_ret, es_ife, es_asg, es_rais, es_fld, es_sub, es_ex, es_par, es_pass, es_retN, ev_andF, ev_andT, evAnd_2, evAnd_1, evTAnd_0, evTAnd_1, evOr_1, evOr_2, evTOr_0, evTOr_1, ev_orF, ev_orT, ev_bi, ev_var, varM_cons0, varM_consS, ev_typ, ev_con, ev_notF, ev_notT, evL_0, evL_1, post_false, post_bl, asB_bl, blV_eq, truM_bl, retA_val, ev_cmp, ev_chain, ev_call, ev_ix', ev_attr', ev_bin', ev_sl, ev_tup, ev_lst, ev_ife, ev_glo, ev_make, ev_makek, ev_heard, wv_int, wv_bl, wv_str, wv_non, mw_ite, evO_0, evO_1, intO_int, cmp_isI, cmp_isN, cmp_geI, cmp_leI, cmp_ltI, cmp_gtI, bin_add, bin_sub, newT_0, newL_0, newT_1, newL_1, newT_2, newL_2, newT_3, newL_3, newT_4, newL_4, newT_5, newL_5, nxS_nx]
  rw [es_cons, tu3_eq j R, nxS_nx, es_cons, tu4_eq j R R2, nxS_nx, es_cons]
  unfold tu5
  simp (implicitDefEqProofs := false) only [mw_bind_pure, List.map, List.length, List.replicate, List.append, List.cons_append, List.nil_append, Nat.add_sub_cancel, Nat.reduceSub, Nat.sub_self, Nat.zero_add, Nat.reduceAdd, List.set, thenS_cons, thenS_nil, thenS_nx, thenS_rt, thenS_bind, thenS_ite, bind_ite, mw_pure_bind, mw_assoc, es_ret, es_ife, es_asg, es_rais, es_fld, es_sub, es_ex, es_par, es_pass, es_retN, ev_andF, ev_andT, evAnd_2, evAnd_1, evTAnd_0, evTAnd_1, evOr_1, evOr_2, evTOr_0, evTOr_1, ev_orF, ev_orT, ev_bi, ev_var, varM_cons0, varM_consS, ev_typ, ev_con, ev_notF, ev_notT, evL_0, evL_1, post_false, post_bl, asB_bl, blV_eq, truM_bl, retA_val, ev_cmp, ev_chain, ev_call, ev_ix', ev_attr', ev_bin', ev_sl, ev_tup, ev_lst, ev_ife, ev_glo, ev_make, ev_makek, ev_heard, wv_int, wv_bl, wv_str, wv_non, mw_ite, evO_0, evO_1, intO_int, cmp_isI, cmp_isN, cmp_geI, cmp_leI, cmp_ltI, cmp_gtI, bin_add, bin_sub, newT_0, newL_0, newT_1, newL_1, newT_2, newL_2, newT_3, newL_3, newT_4, newL_4, newT_5, newL_5, nxS_bind, cl__law_draw_2]
  refine Tr.bind ((draw_tr 11 (k := 40 + k) (P3.mono (by omega)) (many := m) (by omega) (by omega)).mono ?_)
  rintro a M4 ⟨r4, _, _, _, rfl, g0, g1, -, P4⟩
  simp (implicitDefEqProofs := false) only [mw_bind_pure, List.map, List.length, List.replicate, List.append, List.cons_append, List.nil_append, Nat.add_sub_cancel, Nat.reduceSub, Nat.sub_self, Nat.zero_add, Nat.reduceAdd, List.set, thenS_cons, thenS_nil, thenS_nx, thenS_rt, thenS_bind, thenS_ite, bind_ite, mw_pure_bind, mw_assoc, es_ret, es_ife, es_asg, es_rais, es_fld, es_sub, es_ex, es_par, es_pass, es_retN, ev_andF, ev_andT, evAnd_2, evAnd_1, evTAnd_0, evTAnd_1, evOr_1, evOr_2, evTOr_0, evTOr_1, ev_orF, ev_orT, ev_bi, ev_var, varM_cons0, varM_consS, ev_typ, ev_con, ev_notF, ev_notT, evL_0, evL_1, post_false, post_bl, asB_bl, blV_eq, truM_bl, retA_val, ev_cmp, ev_chain, ev_call, ev_ix', ev_attr', ev_bin', ev_sl, ev_tup, ev_lst, ev_ife, ev_glo, ev_make, ev_makek, ev_heard, wv_int, wv_bl, wv_str, wv_non, mw_ite, evO_0, evO_1, intO_int, cmp_isI, cmp_isN, cmp_geI, cmp_leI, cmp_ltI, cmp_gtI, bin_add, bin_sub, newT_0, newL_0, newT_1, newL_1, newT_2, newL_2, newT_3, newL_3, newT_4, newL_4, newT_5, newL_5, nxS_nx]
  obtain ⟨i, hi⟩ : ∃ i : Nat, r4 = (i : Int) := ⟨r4.toNat, by omega⟩
  subst hi
  rw [es_cons, tu6_eq, es_fr]
  simp (implicitDefEqProofs := false) only [mw_bind_pure, List.map, List.length, List.replicate, List.append, List.cons_append, List.nil_append, Nat.add_sub_cancel, Nat.reduceSub, Nat.sub_self, Nat.zero_add, Nat.reduceAdd, List.set, thenS_cons, thenS_nil, thenS_nx, thenS_rt, thenS_bind, thenS_ite, bind_ite, mw_pure_bind, mw_assoc, es_ret, es_ife, es_asg, es_rais, es_fld, es_sub, es_ex, es_par, es_pass, es_retN, ev_andF, ev_andT, evAnd_2, evAnd_1, evTAnd_0, evTAnd_1, evOr_1, evOr_2, evTOr_0, evTOr_1, ev_orF, ev_orT, ev_bi, ev_var, varM_cons0, varM_consS, ev_typ, ev_con, ev_notF, ev_notT, evL_0, evL_1, post_false, post_bl, asB_bl, blV_eq, truM_bl, retA_val, ev_cmp, ev_chain, ev_call, ev_ix', ev_attr', ev_bin', ev_sl, ev_tup, ev_lst, ev_ife, ev_glo, ev_make, ev_makek, ev_heard, wv_int, wv_bl, wv_str, wv_non, mw_ite, evO_0, evO_1, intO_int, cmp_isI, cmp_isN, cmp_geI, cmp_leI, cmp_ltI, cmp_gtI, bin_add, bin_sub, newT_0, newL_0, newT_1, newL_1, newT_2, newL_2, newT_3, newL_3, newT_4, newL_4, newT_5, newL_5, nxS_bind, cl__law_wrong_rows_2]
  refine Tr.bind ((wrong_tr 9 (k := k) (m := (m : Int)) (by omega) (by omega) (P4.mono (by omega))).mono ?_)
  rintro a M5 ⟨w, _, _, _, rfl, ⟨ws, rfl, hws⟩, -, P5⟩
  simp (implicitDefEqProofs := false) only [mw_bind_pure, List.map, List.length, List.replicate, List.append, List.cons_append, List.nil_append, Nat.add_sub_cancel, Nat.reduceSub, Nat.sub_self, Nat.zero_add, Nat.reduceAdd, List.set, thenS_cons, thenS_nil, thenS_nx, thenS_rt, thenS_bind, thenS_ite, bind_ite, mw_pure_bind, mw_assoc, es_ret, es_ife, es_asg, es_rais, es_fld, es_sub, es_ex, es_par, es_pass, es_retN, ev_andF, ev_andT, evAnd_2, evAnd_1, evTAnd_0, evTAnd_1, evOr_1, evOr_2, evTOr_0, evTOr_1, ev_orF, ev_orT, ev_bi, ev_var, varM_cons0, varM_consS, ev_typ, ev_con, ev_notF, ev_notT, evL_0, evL_1, post_false, post_bl, asB_bl, blV_eq, truM_bl, retA_val, ev_cmp, ev_chain, ev_call, ev_ix', ev_attr', ev_bin', ev_sl, ev_tup, ev_lst, ev_ife, ev_glo, ev_make, ev_makek, ev_heard, wv_int, wv_bl, wv_str, wv_non, mw_ite, evO_0, evO_1, intO_int, cmp_isI, cmp_isN, cmp_geI, cmp_leI, cmp_ltI, cmp_gtI, bin_add, bin_sub, newT_0, newL_0, newT_1, newL_1, newT_2, newL_2, newT_3, newL_3, newT_4, newL_4, newT_5, newL_5, walk_lst]
  refine Tr.nxS ((wrong_loop j R (i := i) (by omega) a0 p s2 (some (vI m)) (MV rows) (RV others) s9 M5 ws hws s8).mono ?_)
  rintro r M6 ⟨rfl, s8', rfl⟩
  refine ⟨_, rfl, ?_⟩
  rw [es_cons, tu7_eq j R, nxS_nx, es_cons, tu8_eq j R, nxS_nx, es_nil]
  exact Tr.pure ⟨m, rows, _, _, _, _, _, _, R, rfl, P5⟩
theorem turns_tr (j : Nat) {p k : Nat} (a0 : Av) : ∀ (ws : List Wv) {M : Mem}, Pen p (200 * ws.length + k) M → ∀ (s2 s3 s4 s5 s6 s7 s8 s9 : Option Av), (ws ≠ [] ∨ ∃ m rows, RowsOK m rows ∧ s4 = RV rows) →
    Tr (forW (evSs (L 12) j turnB) (.name 2) ws (Et a0 p s2 s3 s4 s5 s6 s7 s8 s9)) M
      fun r M' => ∃ m rows s2' s3' s5' s6' s7' s8' s9', RowsOK m rows ∧ r = (.nx, Et a0 p s2' s3' (RV rows) s5' s6' s7' s8' s9') ∧ Pen p k M'
  | [], M, hP, s2, s3, s4, s5, s6, s7, s8, s9, h => by
    rcases h with h | ⟨m, rows, h, rfl⟩
    · exact absurd rfl h
    · exact Tr.forNil ⟨m, rows, s2, s3, s5, s6, s7, s8, s9, h, rfl, hP.mono (by simp)⟩
  | w :: ws, M, hP, s2, s3, s4, s5, s6, s7, s8, s9, _ => by
    refine Tr.forCons ?_
    refine (turn_tr j (k := 200 * ws.length + k) (hP.mono (by simp; omega)) a0 (some (.val w)) s3 s4 s5 s6 s7 s8 s9).mono ?_
    rintro r M' ⟨m, rows, s3', s5', s6', s7', s8', s9', R, rfl, P⟩
    exact .inl ⟨_, rfl, turns_tr j a0 ws P _ _ _ _ _ _ _ _ (.inr ⟨m, rows, R, rfl⟩)⟩
/-! after the turns -/
abbrev Ef (a0 : Av) (p : Nat) (s2 s3 : Option Av) (rows : List Wv) (s5 s6 s7 s8 s9 s10 s11 s12 : Option Av) : Ev := [some a0, some (.ref p), s2, s3, RV rows, s5, s6, s7, s8, s9, s10, s11, s12, none, none, none, none]
def odds (rows : List Wv) : List Wv := [.non, .int 5, .bl true, .str "rows", .tup [], .lst [], .dct [] [], insM (.tup rows), .tup [.tup []], .tup [.tup rows]]
theorem row_rows {m : Nat} {rows : List Wv} (h : RowsOK m rows) (k : Int) : isRow (.tup rows) k = false := by
  unfold isRow
  cases rows with
  | nil => simp [itemsV]
  | cons r rows =>
    have := h.row r List.mem_cons_self
    cases this <;> simp [itemsV]
theorem bad_new {v : Wv} (h1 : okW v = true) (h2 : depW v ≤ 10) (h3 : isMach v = false) : newA (L 12) "Machine" 1 [.val v] = exM badM := by
  have := new_eq 6 h1 h2
  rw [h3] at this
  exact this
theorem odd_bad {m : Nat} {rows : List Wv} (h : RowsOK m rows) : ∀ w ∈ odds rows, newA (L 12) "Machine" 1 [.val w] = exM badM := by
  intro w hw
  have hr := h.rng
  simp only [odds, List.mem_cons, List.not_mem_nil, or_false] at hw
  rcases hw with rfl | rfl | rfl | rfl | rfl | rfl | rfl | rfl | rfl | rfl
  · exact bad_new rfl (by simp [depW]) rfl
  · exact bad_new rfl (by simp [depW]) rfl
  · exact bad_new rfl (by simp [depW]) rfl
  · exact bad_new (by decide +kernel) (by simp [depW]) rfl
  · exact bad_new (by decide +kernel) (by simp [depW, depL]) (by decide +kernel)
  · exact bad_new (by decide +kernel) (by simp [depW, depL]) (by decide +kernel)
  · exact bad_new rfl (by simp [depW]) rfl
  · exact bad_new (by simp only [okW]; decide) (by simp [depW]) rfl
  · exact bad_new (by decide +kernel) (by simp [depW, depL]) (by decide +kernel)
  · refine bad_new (okT (by simp) (okC h.okW rfl)) ?_ ?_
    · have := h.dep
      simp only [depW, depL] at this ⊢
      omega
    · unfold isMach
      simp [itemsV, row_rows h]
def sevenW : Wv := .lst [.tup [.str "they", .lst ((charsW "abcdefg").map fun w => t2 (match w with | .str x => .str ("a" ++ x) | w => w) z0)]]
def longL : List Wv := (rangeW 0 2000).map fun w => t3 me (.str "pass") (.int (match w with | .int i => (i + 1).fmod 2000 | _ => 0))
theorem la1_eq (j : Nat) (a0 : Av) (p : Nat) (s2 s3 : Option Av) (rows : List Wv) (s5 s6 s7 s8 s9 s10 : Option Av) : evS (L 12) j la1 (Ef a0 p s2 s3 rows s5 s6 s7 s8 s9 s10 none none) = pure (.nx, Ef a0 p s2 s3 rows s5 s6 s7 s8 s9 s10 (some (.val sevenW)) none) := by
  funext M
  kernel_rfl
theorem la2_eq (j : Nat) (a0 : Av) (p : Nat) (s2 s3 : Option Av) (rows : List Wv) (s5 s6 s7 s8 s9 s10 s11 : Option Av) : evS (L 12) j la2 (Ef a0 p s2 s3 rows s5 s6 s7 s8 s9 s10 s11 none) = pure (.nx, Ef a0 p s2 s3 rows s5 s6 s7 s8 s9 s10 s11 (some (.val (.lst longL)))) := by
  have h2000 : rangeA1 [vI 2000] = pure (rangeW 0 2000) := by
    funext M
    unfold rangeA1
    simp only [vI]
    rw [if_pos (by omega)]
    rfl
  have hr2 : itA .range1 [vI 2000] = pure (rangeW 0 2000) := h2000
  have key := lc_map (g := L 12) (e := .tup [.con (.str "me"), .con (.str "pass"), .bin .Mod (.bi "int" [.bin .Add (.var 7) (.con (.int 1))]) (.con (.int 2000))]) (i := 7) (its := [.con (.int 2000)]) (k := .range1) (own := [7]) (η := Ef a0 p s2 s3 rows s5 s6 s7 s8 s9 s10 s11 none) (ws := rangeW 0 2000) (f := fun w => t3 me (.str "pass") (.int (match w with | .int i => (i + 1).fmod 2000 | _ => 0)))
    (by simp (implicitDefEqProofs := false) only [mw_bind_pure, List.map, List.length, List.replicate, List.append, List.cons_append, List.nil_append, Nat.add_sub_cancel, Nat.reduceSub, Nat.sub_self, Nat.zero_add, Nat.reduceAdd, List.set, thenS_cons, thenS_nil, thenS_nx, thenS_rt, thenS_bind, thenS_ite, bind_ite, mw_pure_bind, mw_assoc, es_ret, es_ife, es_asg, es_rais, es_fld, es_sub, es_ex, es_par, es_pass, es_retN, ev_andF, ev_andT, evAnd_2, evAnd_1, evTAnd_0, evTAnd_1, evOr_1, evOr_2, evTOr_0, evTOr_1, ev_orF, ev_orT, ev_bi, ev_var, varM_cons0, varM_consS, ev_typ, ev_con, ev_notF, ev_notT, evL_0, evL_1, post_false, post_bl, asB_bl, blV_eq, truM_bl, retA_val, ev_cmp, ev_chain, ev_call, ev_ix', ev_attr', ev_bin', ev_sl, ev_tup, ev_lst, ev_ife, ev_glo, ev_make, ev_makek, ev_heard, wv_int, wv_bl, wv_str, wv_non, mw_ite, evO_0, evO_1, intO_int, cmp_isI, cmp_isN, cmp_geI, cmp_leI, cmp_ltI, cmp_gtI, bin_add, bin_sub, newT_0, newL_0, newT_1, newL_1, newT_2, newL_2, newT_3, newL_3, newT_4, newL_4, newT_5, newL_5, hr2]) (by rw [range_len, big]; omega) (fun w hw => by
      obtain ⟨i, rfl⟩ : ∃ i, w = .int i := by
        unfold rangeW at hw
        obtain ⟨i, _, rfl⟩ := List.mem_map.mp hw
        exact ⟨_, rfl⟩
      simp only [wipeE, mw_bind_pure, List.map, List.length, List.replicate, List.append, List.cons_append, List.nil_append, Nat.add_sub_cancel, Nat.reduceSub, Nat.sub_self, Nat.zero_add, Nat.reduceAdd, List.set, thenS_cons, thenS_nil, thenS_nx, thenS_rt, thenS_bind, thenS_ite, bind_ite, mw_pure_bind, mw_assoc, es_ret, es_ife, es_asg, es_rais, es_fld, es_sub, es_ex, es_par, es_pass, es_retN, ev_andF, ev_andT, evAnd_2, evAnd_1, evTAnd_0, evTAnd_1, evOr_1, evOr_2, evTOr_0, evTOr_1, ev_orF, ev_orT, ev_bi, ev_var, varM_cons0, varM_consS, ev_typ, ev_con, ev_notF, ev_notT, evL_0, evL_1, post_false, post_bl, asB_bl, blV_eq, truM_bl, retA_val, ev_cmp, ev_chain, ev_call, ev_ix', ev_attr', ev_bin', ev_sl, ev_tup, ev_lst, ev_ife, ev_glo, ev_make, ev_makek, ev_heard, wv_int, wv_bl, wv_str, wv_non, mw_ite, evO_0, evO_1, intO_int, cmp_isI, cmp_isN, cmp_geI, cmp_leI, cmp_ltI, cmp_gtI, bin_add, bin_sub, newT_0, newL_0, newT_1, newL_1, newT_2, newL_2, newT_3, newL_3, newT_4, newL_4, newT_5, newL_5, int_int, mod_ok (i := i + 1) (j := 2000) (by decide)])
  unfold la2
  simp only [es_asg, key, mw_pure_bind]
  rfl
theorem long_row {w : Wv} (h : w ∈ longL) : ∃ t : Int, w = t3 me (.str "pass") (.int t) ∧ 0 ≤ t ∧ t < 2000 := by
  unfold longL at h
  obtain ⟨i, _, rfl⟩ := List.mem_map.mp h
  refine ⟨_, rfl, ?_⟩
  cases i with
  | int i => exact ⟨Int.fmod_nonneg_of_pos _ (by decide), Int.fmod_lt_of_pos _ (by decide)⟩
  | _ => exact ⟨show (0 : Int) ≤ 0 by decide, show (0 : Int) < 2000 by decide⟩
theorem long_len : longL.length = 2000 := by simp [longL, range_len]
theorem ok_pass : okW (.str "pass") = true := by decide +kernel
theorem mv_pass : isMove (.str "pass") = true := by decide +kernel
theorem long_ok : okL longL = true := okL_of fun w hw => by
  obtain ⟨t, rfl, _⟩ := long_row hw
  exact okT (by simp) (okC ok_me (okC ok_pass (okC rfl rfl)))
theorem long_dep : depL longL ≤ 1 := depL_of fun w hw => by
  obtain ⟨t, rfl, _⟩ := long_row hw
  simp [depW, depL]
theorem long_mach : isMach (.lst longL) = true := by
  unfold isMach
  simp only [isListed, lenV, itemsV, long_len, Bool.and_eq_true, decide_eq_true_eq]
  refine ⟨by omega, List.all_eq_true.mpr fun w hw => ?_⟩
  obtain ⟨t, rfl, h0, h1⟩ := long_row hw
  have hp := isPair_pair (q := ("pass", t)) (m := 2000) mv_pass h0
  simp only [pairW] at hp
  have e : ((2000 : Nat) : Int) = 2000 := rfl
  simp [isRow, isListed, lenV, itemsV, hp, h1]
end LW

namespace LW
open PySem PySem.Spec L2
theorem sl_63 {w : Wv} {xs : List Wv} (hw : w = .kls xs ∨ w = .lst xs) (h : xs.length ≤ 63) : slM (.val w) none (some 63) = pure (.val (.lst xs)) := by
  have hc : cutL (xs.map Av.val) none (some 63) = xs.map Av.val := by
    unfold cutL HT.sIx
    dsimp only
    rw [if_neg (by omega)]
    simp only [List.drop_zero, Nat.sub_zero]
    apply List.take_of_length_le
    simp
    omega
  have key : ∀ M, Mw.of (match lstI M (.val w) with
    | some xs => (match pures (cutL xs none (some 63)) with
      | some ws => some (Av.val (.lst ws))
      | none => none)
    | none => none) M = (pure (.val (.lst xs)) : Mw Av) M := fun M => by
    have : lstI M (.val w) = some (xs.map Av.val) := by rcases hw with rfl | rfl <;> rfl
    rw [this]
    dsimp only
    rw [hc, pures_vals]
    rfl
  funext M
  rw [← key M]
  rcases hw with rfl | rfl <;> rfl
theorem pen_eq (n : Nat) {ns : List Int} (hl : ns.length ≤ 63) {w : Wv} (hw : w = .kls (ns.map .int) ∨ w = .lst (ns.map .int)) : (L (n + 1)).full "_law_pen" [.val w] [] = .ok (.ref 0) [penC ns 0 0] := by
  rw [fl__law_pen, runD_eq]
  have hs := sl_63 hw (by simpa using hl)
  have lc := lc_map (g := L n) (e := .bi "int" [.var 1]) (i := 1) (its := [.sl (.var 0) none (some (.con (.int 63)))]) (k := .val) (own := [1]) (η := [some (.val w), none]) (ws := ns.map .int) (f := id)
    (by simp (implicitDefEqProofs := false) only [mw_bind_pure, List.map, List.length, List.replicate, List.append, List.cons_append, List.nil_append, Nat.add_sub_cancel, Nat.reduceSub, Nat.sub_self, Nat.zero_add, Nat.reduceAdd, List.set, thenS_cons, thenS_nil, thenS_nx, thenS_rt, thenS_bind, thenS_ite, bind_ite, mw_pure_bind, mw_assoc, es_ret, es_ife, es_asg, es_rais, es_fld, es_sub, es_ex, es_par, es_pass, es_retN, ev_andF, ev_andT, evAnd_2, evAnd_1, evTAnd_0, evTAnd_1, evOr_1, evOr_2, evTOr_0, evTOr_1, ev_orF, ev_orT, ev_bi, ev_var, varM_cons0, varM_consS, ev_typ, ev_con, ev_notF, ev_notT, evL_0, evL_1, post_false, post_bl, asB_bl, blV_eq, truM_bl, retA_val, ev_cmp, ev_chain, ev_call, ev_ix', ev_attr', ev_bin', ev_sl, ev_tup, ev_lst, ev_ife, ev_glo, ev_make, ev_makek, ev_heard, wv_int, wv_bl, wv_str, wv_non, mw_ite, evO_0, evO_1, intO_int, cmp_isI, cmp_isN, cmp_geI, cmp_leI, cmp_ltI, cmp_gtI, bin_add, bin_sub, newT_0, newL_0, newT_1, newL_1, newT_2, newL_2, newT_3, newL_3, newT_4, newL_4, newT_5, newL_5, hs, walk_lst]) (by simp; rw [big]; omega) (fun u hu => by
      obtain ⟨i, _, rfl⟩ := List.mem_map.mp hu
      simp only [wipeE, mw_bind_pure, List.map, List.length, List.replicate, List.append, List.cons_append, List.nil_append, Nat.add_sub_cancel, Nat.reduceSub, Nat.sub_self, Nat.zero_add, Nat.reduceAdd, List.set, thenS_cons, thenS_nil, thenS_nx, thenS_rt, thenS_bind, thenS_ite, bind_ite, mw_pure_bind, mw_assoc, es_ret, es_ife, es_asg, es_rais, es_fld, es_sub, es_ex, es_par, es_pass, es_retN, ev_andF, ev_andT, evAnd_2, evAnd_1, evTAnd_0, evTAnd_1, evOr_1, evOr_2, evTOr_0, evTOr_1, ev_orF, ev_orT, ev_bi, ev_var, varM_cons0, varM_consS, ev_typ, ev_con, ev_notF, ev_notT, evL_0, evL_1, post_false, post_bl, asB_bl, blV_eq, truM_bl, retA_val, ev_cmp, ev_chain, ev_call, ev_ix', ev_attr', ev_bin', ev_sl, ev_tup, ev_lst, ev_ife, ev_glo, ev_make, ev_makek, ev_heard, wv_int, wv_bl, wv_str, wv_non, mw_ite, evO_0, evO_1, intO_int, cmp_isI, cmp_isN, cmp_geI, cmp_leI, cmp_ltI, cmp_gtI, bin_add, bin_sub, newT_0, newL_0, newT_1, newL_1, newT_2, newL_2, newT_3, newL_3, newT_4, newL_4, newT_5, newL_5, int_int]
      rfl)
  show finA true [] (thenS (evSs (L n) 0 p__law_pen.body [some (.val w), none]) nonK []) = _
  unfold p__law_pen
  rw [List.map_id] at lc
  simp (implicitDefEqProofs := false) only [mw_bind_pure, List.map, List.length, List.replicate, List.append, List.cons_append, List.nil_append, Nat.add_sub_cancel, Nat.reduceSub, Nat.sub_self, Nat.zero_add, Nat.reduceAdd, List.set, thenS_cons, thenS_nil, thenS_nx, thenS_rt, thenS_bind, thenS_ite, bind_ite, mw_pure_bind, mw_assoc, es_ret, es_ife, es_asg, es_rais, es_fld, es_sub, es_ex, es_par, es_pass, es_retN, ev_andF, ev_andT, evAnd_2, evAnd_1, evTAnd_0, evTAnd_1, evOr_1, evOr_2, evTOr_0, evTOr_1, ev_orF, ev_orT, ev_bi, ev_var, varM_cons0, varM_consS, ev_typ, ev_con, ev_notF, ev_notT, evL_0, evL_1, post_false, post_bl, asB_bl, blV_eq, truM_bl, retA_val, ev_cmp, ev_chain, ev_call, ev_ix', ev_attr', ev_bin', ev_sl, ev_tup, ev_lst, ev_ife, ev_glo, ev_make, ev_makek, ev_heard, wv_int, wv_bl, wv_str, wv_non, mw_ite, evO_0, evO_1, intO_int, cmp_isI, cmp_isN, cmp_geI, cmp_leI, cmp_ltI, cmp_gtI, bin_add, bin_sub, newT_0, newL_0, newT_1, newL_1, newT_2, newL_2, newT_3, newL_3, newT_4, newL_4, newT_5, newL_5, es_retk, lc]
  rfl
/-! the last lines -/
theorem seven_new : newA (L 12) "Machine" 1 [.val sevenW] = pure (.val (insM (fixW sevenW))) := by
  have := new_eq 6 (rows := sevenW) (by decide +kernel) (by decide +kernel)
  have e : isMach sevenW = true := by decide +kernel
  rw [e, if_pos rfl] at this
  exact this
def q7 : List Wv := (charsW "abcdefg").map fun w => t2 (match w with | .str x => .str ("a" ++ x) | w => w) z0
theorem seven_fix : fixW sevenW = .tup [.tup [.str "they", .tup q7]] := by kernel_rfl
theorem q7_len : q7.length = 7 := by kernel_rfl
theorem long_new : newA (L 12) "Machine" 1 [.val (.lst longL)] = pure (.val (insM (.tup (fixL longL)))) := by
  have hd : depW (.lst longL) ≤ 10 := by
    have := long_dep
    simp only [depW]
    omega
  have hk : okW (.lst longL) = true := by
    simp only [okW, Bool.and_eq_true, decide_eq_true_eq]
    exact ⟨by rw [long_len, big]; omega, long_ok⟩
  have := new_eq 6 (rows := .lst longL) hk hd
  rw [long_mach, if_pos rfl] at this
  exact this
theorem fixlong_len : (fixL longL).length = 2000 := by rw [fixL_map, List.length_map, long_len]
theorem more_new : newA (L 12) "Machine" 1 [.val (.lst (longL ++ [t3 me (.str "pass") z0]))] = exM badM := by
  have hl : (longL ++ [t3 me (.str "pass") z0]).length = 2001 := by rw [List.length_append, long_len]; rfl
  refine bad_new ?_ ?_ ?_
  · simp only [okW, Bool.and_eq_true, decide_eq_true_eq]
    refine ⟨by rw [hl, big]; omega, okL_of fun w hw => ?_⟩
    rcases List.mem_append.mp hw with z | z
    · exact okL_mem long_ok w z
    · rw [List.mem_singleton.mp z]
      exact okT (by simp) (okC ok_me (okC ok_pass (okC rfl rfl)))
  · simp only [depW]
    have := depL_of (d := 1) (ws := longL ++ [t3 me (.str "pass") z0]) fun w hw => by
      rcases List.mem_append.mp hw with z | z
      · exact depL_mem long_dep w z
      · rw [List.mem_singleton.mp z]
        simp [depW, depL]
    omega
  · unfold isMach
    simp only [isListed, lenV, hl]
    rfl
theorem la3_eq (j : Nat) (a0 : Av) (p : Nat) (s2 s3 : Option Av) (rows : List Wv) (s5 s6 s7 s8 s9 : Option Av) {o : Wv} (ho : newA (L 12) "Machine" 1 [.val o] = exM badM) : evS (L 12) j la3 (Ef a0 p s2 s3 rows s5 s6 s7 s8 s9 (some (.val o)) (some (.val sevenW)) (some (.val (.lst longL)))) = pure (.nx, Ef a0 p s2 s3 rows s5 s6 s7 s8 s9 (some (.val o)) (some (.val sevenW)) (some (.val (.lst longL)))) := by
  have hh : heardM (L 12) (exM badM) = pure (.val refusal) := heard_bad 10
  have i0 := ix_tup [.tup [.str "they", .tup q7]] 0 rfl
  have i1 := ix_tup [.str "they", .tup q7] 1 rfl
  have hn : biA (L 12) "len" [.val (insM (.tup (fixL longL)))] = pure (vI (fixL longL).length) := len_mach 11 (by rw [fixlong_len]; omega)
  have c7 : (!(((7 : Nat) : Int) == (7 : Int))) = false := by decide
  have c2 : (!(((2000 : Nat) : Int) == (2000 : Int))) = false := by decide
  unfold la3
  simp (implicitDefEqProofs := false) only [mw_bind_pure, List.map, List.length, List.replicate, List.append, List.cons_append, List.nil_append, Nat.add_sub_cancel, Nat.reduceSub, Nat.sub_self, Nat.zero_add, Nat.reduceAdd, List.set, thenS_cons, thenS_nil, thenS_nx, thenS_rt, thenS_bind, thenS_ite, bind_ite, mw_pure_bind, mw_assoc, es_ret, es_ife, es_asg, es_rais, es_fld, es_sub, es_ex, es_par, es_pass, es_retN, ev_andF, ev_andT, evAnd_2, evAnd_1, evTAnd_0, evTAnd_1, evOr_1, evOr_2, evTOr_0, evTOr_1, ev_orF, ev_orT, ev_bi, ev_var, varM_cons0, varM_consS, ev_typ, ev_con, ev_notF, ev_notT, evL_0, evL_1, post_false, post_bl, asB_bl, blV_eq, truM_bl, retA_val, ev_cmp, ev_chain, ev_call, ev_ix', ev_attr', ev_bin', ev_sl, ev_tup, ev_lst, ev_ife, ev_glo, ev_make, ev_makek, ev_heard, wv_int, wv_bl, wv_str, wv_non, mw_ite, evO_0, evO_1, intO_int, cmp_isI, cmp_isN, cmp_geI, cmp_leI, cmp_ltI, cmp_gtI, bin_add, bin_sub, newT_0, newL_0, newT_1, newL_1, newT_2, newL_2, newT_3, newL_3, newT_4, newL_4, newT_5, newL_5, ho, hh, cmp_refusal, seven_new, attr_rows, seven_fix, i0, i1, len_tup, q7_len, long_new, hn, fixlong_len, cmp_neI, c7, c2, Bool.false_eq_true, if_false, es_nil]
theorem la4_eq (j : Nat) (a0 : Av) (p : Nat) (s2 s3 : Option Av) (rows : List Wv) (s5 s6 s7 s8 s9 s10 s11 : Option Av) : evS (L 12) j la4 (Ef a0 p s2 s3 rows s5 s6 s7 s8 s9 s10 s11 (some (.val (.lst longL)))) = pure (.rt (vB true), Ef a0 p s2 s3 rows s5 s6 s7 s8 s9 s10 s11 (some (.val (.lst longL)))) := by
  have hh : heardM (L 12) (exM badM) = pure (.val refusal) := heard_bad 10
  have hb : binM .Add (.val (.lst longL)) (.val (.lst [t3 me (.str "pass") z0])) = pure (.val (.lst (longL ++ [t3 me (.str "pass") z0]))) := bin_lst (by rw [long_len]; simp)
  unfold la4
  simp (implicitDefEqProofs := false) only [mw_bind_pure, List.map, List.length, List.replicate, List.append, List.cons_append, List.nil_append, Nat.add_sub_cancel, Nat.reduceSub, Nat.sub_self, Nat.zero_add, Nat.reduceAdd, List.set, thenS_cons, thenS_nil, thenS_nx, thenS_rt, thenS_bind, thenS_ite, bind_ite, mw_pure_bind, mw_assoc, es_ret, es_ife, es_asg, es_rais, es_fld, es_sub, es_ex, es_par, es_pass, es_retN, ev_andF, ev_andT, evAnd_2, evAnd_1, evTAnd_0, evTAnd_1, evOr_1, evOr_2, evTOr_0, evTOr_1, ev_orF, ev_orT, ev_bi, ev_var, varM_cons0, varM_consS, ev_typ, ev_con, ev_notF, ev_notT, evL_0, evL_1, post_false, post_bl, asB_bl, blV_eq, truM_bl, retA_val, ev_cmp, ev_chain, ev_call, ev_ix', ev_attr', ev_bin', ev_sl, ev_tup, ev_lst, ev_ife, ev_glo, ev_make, ev_makek, ev_heard, wv_int, wv_bl, wv_str, wv_non, mw_ite, evO_0, evO_1, intO_int, cmp_isI, cmp_isN, cmp_geI, cmp_leI, cmp_ltI, cmp_gtI, bin_add, bin_sub, newT_0, newL_0, newT_1, newL_1, newT_2, newL_2, newT_3, newL_3, newT_4, newL_4, newT_5, newL_5, hb, more_new, hh, cmp_refusal_eq]
theorem law_plain (ns : List Int) (hl : ns.length ≤ 63) (w : Wv) (hw : w = .kls (ns.map .int) ∨ w = .lst (ns.map .int)) : ∃ M', (lvl pk.g0 pk.tab pk.hb 13).full "law" [.val w] [] = .ok (.val (.bl true)) M' := by
  have e : (lvl pk.g0 pk.tab pk.hb 13).full "law" = runD (L 12) p_law := fl_law 12
  rw [e, runD_eq]
  have T : Tr (thenS (evSs (L 12) 0 p_law.body ([Av.val w].map some ++ List.replicate (p_law.slots - [Av.val w].length) none)) nonK) [] fun a _ => a = vB true := by
    rw [law_body]
    have h12 : itA .range1 [vI 12] = pure (rangeW 0 12) := by
      funext M
      show rangeA1 [vI 12] M = _
      unfold rangeA1
      simp only [vI]
      rw [if_pos (by omega)]
      rfl
    simp (implicitDefEqProofs := false) only [mw_bind_pure, List.map, List.length, List.replicate, List.append, List.cons_append, List.nil_append, Nat.add_sub_cancel, Nat.reduceSub, Nat.sub_self, Nat.zero_add, Nat.reduceAdd, List.set, thenS_cons, thenS_nil, thenS_nx, thenS_rt, thenS_bind, thenS_ite, bind_ite, mw_pure_bind, mw_assoc, es_ret, es_ife, es_asg, es_rais, es_fld, es_sub, es_ex, es_par, es_pass, es_retN, ev_andF, ev_andT, evAnd_2, evAnd_1, evTAnd_0, evTAnd_1, evOr_1, evOr_2, evTOr_0, evTOr_1, ev_orF, ev_orT, ev_bi, ev_var, varM_cons0, varM_consS, ev_typ, ev_con, ev_notF, ev_notT, evL_0, evL_1, post_false, post_bl, asB_bl, blV_eq, truM_bl, retA_val, ev_cmp, ev_chain, ev_call, ev_ix', ev_attr', ev_bin', ev_sl, ev_tup, ev_lst, ev_ife, ev_glo, ev_make, ev_makek, ev_heard, wv_int, wv_bl, wv_str, wv_non, mw_ite, evO_0, evO_1, intO_int, cmp_isI, cmp_isN, cmp_geI, cmp_leI, cmp_ltI, cmp_gtI, bin_add, bin_sub, newT_0, newL_0, newT_1, newL_1, newT_2, newL_2, newT_3, newL_3, newT_4, newL_4, newT_5, newL_5, p_law, cl__law_pen_1, es_fr, h12]
    refine Tr.bind (Tr.of (pen_eq 11 hl hw) ?_)
    have hP : Pen 0 (200 * (rangeW 0 12).length + 10) [penC ns 0 0] := ⟨ns, 0, 0, rfl, by omega, by rw [range_len]; omega, by omega⟩
    refine Tr.thenS ((turns_tr 0 (p := 0) (k := 10) (.val w) (rangeW 0 12) hP none none none none none none none none (.inl (by simp [rangeW]))).mono ?_)
    rintro r M1 ⟨m, rows, s2, s3, s5, s6, s7, s8, s9, R, rfl, P⟩
    refine .inl ⟨_, rfl, ?_⟩
    unfold la0
    have n10 : LW.newL false [Av.val .non, Av.val (.int 5), Av.val (.bl true), Av.val (.str "rows"), Av.val (.tup []), Av.val (.lst []), Av.val (.dct [] []), Av.val (insM (.tup rows)), Av.val (.tup [.tup []]), Av.val (.tup [.tup rows])] = pure (.val (.lst (odds rows))) := newL_vals (odds rows)
    simp (implicitDefEqProofs := false) only [mw_bind_pure, List.map, List.length, List.replicate, List.append, List.cons_append, List.nil_append, Nat.add_sub_cancel, Nat.reduceSub, Nat.sub_self, Nat.zero_add, Nat.reduceAdd, List.set, thenS_cons, thenS_nil, thenS_nx, thenS_rt, thenS_bind, thenS_ite, bind_ite, mw_pure_bind, mw_assoc, es_ret, es_ife, es_asg, es_rais, es_fld, es_sub, es_ex, es_par, es_pass, es_retN, ev_andF, ev_andT, evAnd_2, evAnd_1, evTAnd_0, evTAnd_1, evOr_1, evOr_2, evTOr_0, evTOr_1, ev_orF, ev_orT, ev_bi, ev_var, varM_cons0, varM_consS, ev_typ, ev_con, ev_notF, ev_notT, evL_0, evL_1, post_false, post_bl, asB_bl, blV_eq, truM_bl, retA_val, ev_cmp, ev_chain, ev_call, ev_ix', ev_attr', ev_bin', ev_sl, ev_tup, ev_lst, ev_ife, ev_glo, ev_make, ev_makek, ev_heard, wv_int, wv_bl, wv_str, wv_non, mw_ite, evO_0, evO_1, intO_int, cmp_isI, cmp_isN, cmp_geI, cmp_leI, cmp_ltI, cmp_gtI, bin_add, bin_sub, newT_0, newL_0, newT_1, newL_1, newT_2, newL_2, newT_3, newL_3, newT_4, newL_4, newT_5, newL_5, cl__law_pick_2, ev_dct0, R.new, n10]
    refine Tr.bind ((pick_tr 10 (k := 0) (P.mono (by omega)) (ws := odds rows) (by simp [odds]) (by simp [odds])).mono ?_)
    rintro a M2 ⟨o, _, _, _, rfl, ho, -, -⟩
    rw [la1_eq, thenS_nx, la2_eq, thenS_nx, la3_eq _ _ _ _ _ _ _ _ _ _ _ (odd_bad R o ho), thenS_nx, la4_eq, thenS_rt]
    exact Tr.pure rfl
  obtain ⟨a, M', h, rfl⟩ := T.get
  show ∃ M2, finA false [] (thenS (evSs (L 12) 0 p_law.body ([Av.val w].map some ++ List.replicate (p_law.slots - [Av.val w].length) none)) nonK []) = .ok (.val (.bl true)) M2
  rw [h]
  refine ⟨[], ?_⟩
  unfold finA
  dsimp only
  rw [if_neg (by simp), if_pos (show chkL [] M' = true by cases M' <;> rfl)]
  rfl
end LW

theorem PySem.Challenge.cw_slowest_k25_machines_made_and_refused_holds : PySem.Challenge.rw_slowest_k25_machines_made_and_refused.Holds := by
  exact LW.holds_of fun ns hl _ w hw => LW.law_plain ns hl w hw
