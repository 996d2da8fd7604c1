import PyProof.Rows.All
import Wide.All
import OpenK.AllK
import Wide.FinOn
import PySem.Challenge.RW_camefrom_k56_texts_of_answers
import HandS.ForMost
import HandS.ForExc
import HandS.Star
import HandS.Conv
import HandS.Zip
import HandS.Flow
import KE.KDictKeyed
import HandS.More
import HandS.TupAny
import HandS.RaiseMore
import HandS.Style
import KE.KDictDisplayH
import KE.KDictCopyH
import KE.KDictSum
import PyProof.Draws
import PyProof.EnumMake
import HandS.Rev
import HandS.CallLocal
import HandS.NoneIn
import HandS.ExcCtx
import HandS.WordsExc
set_option Elab.async false
section
/-! DpA: values with tuples inline, cells, how they stand in the hand layer's heap. -/
set_option linter.all false
set_option autoImplicit false
set_option maxRecDepth 100000
namespace DP
open PySem PySem.Spec PyProof.Rows L2

def natsB : List Nat → List Nat → Bool
  | [], [] => true
  | a :: as, b :: bs => Nat.beq a b && natsB as bs
  | _, _ => false
theorem natsB_eq : ∀ as bs : List Nat, natsB as bs = decide (as = bs)
  | [], [] => by simp [natsB]
  | [], b :: bs => by simp [natsB]
  | a :: as, [] => by simp [natsB]
  | a :: as, b :: bs => by
    rw [natsB, natsB_eq as bs, show Nat.beq a b = decide (a = b) by rw [Bool.eq_iff_iff]; simp]
    simp
def strB (x y : Str) : Bool := natsB x.cps.toList y.cps.toList
theorem strB_dec (x y : Str) : strB x y = decide (x = y) := by
  unfold strB
  rw [natsB_eq]
  refine decide_eq_decide.mpr ⟨fun h => ?_, fun h => by rw [h]⟩
  cases x; cases y
  congr 1
  exact Array.ext' h
theorem strB_eq (x y : Str) : strB x y = (x == y) := by
  rw [strB_dec, Bool.eq_iff_iff]; simp
theorem strB_self (x : Str) : strB x x = true := by rw [strB_dec]; simp
/-- a value: tuples by what is in them; rl: a list that is only read (the script); loc: a cell; fn: a def or class of the module, by number -/
inductive U where
  | non | bl (b : Bool) | int (i : Int) | str (x : Str) | tup (xs : List U) | rl (xs : List U) | loc (n : Nat) | fn (g : Nat) | gd (ks : List Str) (us : List U)
  deriving Inhabited

/-- what a cell holds -/
inductive Cell where
  | lst (xs : List U)
  | dct (kvs : List (U × U))
  | ins (c : Nat) (fs : List (Nat × U))
  deriving Inhabited

mutual
def U.beq : U → U → Bool
  | .non, .non => true
  | .bl a, .bl b => a == b
  | .int a, .int b => a == b
  | .str a, .str b => strB a b
  | .tup a, .tup b => U.beqs a b
  | .rl a, .rl b => U.beqs a b
  | .loc a, .loc b => a == b
  | .fn a, .fn b => a == b
  | .gd k a, .gd l b => decide (k = l) && U.beqs a b
  | _, _ => false
def U.beqs : List U → List U → Bool
  | [], [] => true
  | a :: as, b :: bs => U.beq a b && U.beqs as bs
  | _, _ => false
end
mutual
theorem U.beq_eq : ∀ (a b : U), U.beq a b = true → a = b
  | .non, b, h => by cases b <;> simp_all [U.beq]
  | .bl _, b, h => by cases b <;> simp_all [U.beq]
  | .int _, b, h => by cases b <;> simp_all [U.beq]
  | .str _, b, h => by cases b <;> simp_all [U.beq, strB_dec]
  | .tup us, b, h => by
    cases b with
    | tup vs => rw [U.beqs_eq us vs (by simpa [U.beq] using h)]
    | _ => simp [U.beq] at h
  | .rl us, b, h => by
    cases b with
    | rl vs => rw [U.beqs_eq us vs (by simpa [U.beq] using h)]
    | _ => simp [U.beq] at h
  | .loc _, b, h => by cases b <;> simp_all [U.beq]
  | .fn _, b, h => by cases b <;> simp_all [U.beq]
  | .gd k us, b, h => by
    cases b with
    | gd l vs =>
      simp only [U.beq, Bool.and_eq_true, decide_eq_true_eq] at h
      rw [h.1, U.beqs_eq us vs h.2]
    | _ => simp [U.beq] at h
theorem U.beqs_eq : ∀ (a b : List U), U.beqs a b = true → a = b
  | [], b, h => by cases b <;> simp_all [U.beqs]
  | a :: as, b, h => by
    cases b with
    | nil => simp [U.beqs] at h
    | cons c cs =>
      simp only [U.beqs, Bool.and_eq_true] at h
      rw [U.beq_eq a c h.1, U.beqs_eq as cs h.2]
end
mutual
theorem U.beq_self : ∀ a : U, U.beq a a = true
  | .non => rfl
  | .bl _ => by simp [U.beq]
  | .int _ => by simp [U.beq]
  | .str _ => by simp [U.beq, strB_dec]
  | .tup us => by rw [U.beq]; exact U.beqs_self us
  | .rl us => by rw [U.beq]; exact U.beqs_self us
  | .loc _ => by simp [U.beq]
  | .fn _ => by simp [U.beq]
  | .gd k us => by rw [U.beq, U.beqs_self us]; simp
theorem U.beqs_self : ∀ a : List U, U.beqs a a = true
  | [] => rfl
  | a :: as => by rw [U.beqs, U.beq_self a, U.beqs_self as]; rfl
end
instance : DecidableEq U := fun a b => if h : U.beq a b = true then isTrue (U.beq_eq a b h) else isFalse fun e => h (e ▸ U.beq_self a)
instance : DecidableEq Cell
  | .lst a, .lst b => if h : a = b then isTrue (h ▸ rfl) else isFalse fun e => h (Cell.lst.inj e)
  | .dct a, .dct b => if h : a = b then isTrue (h ▸ rfl) else isFalse fun e => h (Cell.dct.inj e)
  | .ins a b, .ins c d => if h : a = c ∧ b = d then isTrue (by rw [h.1, h.2]) else isFalse fun e => h (Cell.ins.inj e)
  | .lst _, .dct _ => isFalse fun e => nomatch e
  | .lst _, .ins _ _ => isFalse fun e => nomatch e
  | .dct _, .lst _ => isFalse fun e => nomatch e
  | .dct _, .ins _ _ => isFalse fun e => nomatch e
  | .ins _ _, .lst _ => isFalse fun e => nomatch e
  | .ins _ _, .dct _ => isFalse fun e => nomatch e

abbrev Store := List Cell
abbrev Ev := List (Option U)

/-- the module's side: its written part, where defs and classes stand -/
structure Gb where
  P : Program
  w : World
  K : PySem.W.Frag
  mg : Str → Option Value
  base : Heap
  fa : Nat → Option Addr

variable {G : Gb}

/-- a list that stays: frozen, or the module's -/
def Rl (K : PySem.W.Frag) (H : Hp) (a : Addr) (vs : List V) : Prop := SqL K H a vs ∧ ∀ H' : Hp, (∀ b o u, H b = some (.frz o u) → H' b = some (.frz o u)) → SqL K H' a vs

/-- a dict of the module that is only read, by its texts -/
def GdOk (K : PySem.W.Frag) (d : Addr) (ks : List Str) (ws : List V) : Prop :=
  (∀ z : Str, z ∉ ks → PySem.W.nsIn K d z = some none) ∧ ∀ (i : Nat) (z : Str), ks[i]? = some z → ∃ (u0 : Value) (v0 : V), PySem.W.nsIn K d z = some (some u0) ∧ ws[i]? = some v0 ∧ RelV v0 u0
mutual
def RV (G : Gb) (φ : List Addr) (H : Hp) : U → V → Prop
  | .non, v => v = .non
  | .bl b, v => v = .bl b
  | .int i, v => v = .int i
  | .str x, v => v = .str x
  | .tup us, v => ∃ a vs, v = .ref a ∧ SqT G.K H a vs ∧ RVs G φ H us vs
  | .rl us, v => ∃ a vs, v = .ref a ∧ Rl G.K H a vs ∧ RVs G φ H us vs
  | .loc n, v => ∃ a, v = .ref a ∧ φ[n]? = some a
  | .fn g, v => ∃ a, v = .ref a ∧ G.fa g = some a
  | .gd ks us, v => ∃ d es n ws, v = .ref d ∧ KDict G.K G.w d es n ∧ RVs G φ H us ws ∧ GdOk G.K d ks ws
def RVs (G : Gb) (φ : List Addr) (H : Hp) : List U → List V → Prop
  | [], vs => vs = []
  | u :: us, vs => ∃ v r, vs = v :: r ∧ RV G φ H u v ∧ RVs G φ H us r
end

/-- what the heap keeps between: the tuples, what is frozen -/
structure Kp (K : PySem.W.Frag) (H H' : Hp) : Prop where
  tup : ∀ a vs, SqT K H a vs → SqT K H' a vs
  frz : ∀ b o u, H b = some (.frz o u) → H' b = some (.frz o u)
theorem Kp.refl {K} {H : Hp} : Kp K H H := ⟨fun _ _ h => h, fun _ _ _ h => h⟩
theorem Kp.trans {K} {H H1 H2 : Hp} (a : Kp K H H1) (b : Kp K H1 H2) : Kp K H H2 := ⟨fun x v h => b.tup x v (a.tup x v h), fun x o u h => b.frz x o u (a.frz x o u h)⟩
theorem Rl.kp {K} {H H' : Hp} {a : Addr} {vs : List V} (h : Rl K H a vs) (k : Kp K H H') : Rl K H' a vs := ⟨h.2 H' k.frz, fun H2 k2 => h.2 H2 fun b o u e => k2 b o u (k.frz b o u e)⟩

mutual
theorem RV.up {φ φ' : List Addr} {H H' : Hp} (k : Kp G.K H H') (hp : ∀ (n : Nat) (a : Addr), φ[n]? = some a → φ'[n]? = some a) : ∀ (u : U) (v : V), RV G φ H u v → RV G φ' H' u v
  | .non, v, h => by simpa [RV] using h
  | .bl b, v, h => by simpa [RV] using h
  | .int i, v, h => by simpa [RV] using h
  | .str x, v, h => by simpa [RV] using h
  | .tup us, v, h => by
    rw [RV] at h ⊢
    obtain ⟨a, vs, e, s, r⟩ := h
    exact ⟨a, vs, e, k.tup a vs s, RVs.up k hp us vs r⟩
  | .rl us, v, h => by
    rw [RV] at h ⊢
    obtain ⟨a, vs, e, s, r⟩ := h
    exact ⟨a, vs, e, s.kp k, RVs.up k hp us vs r⟩
  | .loc n, v, h => by
    rw [RV] at h ⊢
    obtain ⟨a, e, s⟩ := h
    exact ⟨a, e, hp n a s⟩
  | .fn g, v, h => by simpa [RV] using h
  | .gd ks us, v, h => by
    rw [RV] at h ⊢
    obtain ⟨d, es, n, ws, e, s, r, g⟩ := h
    exact ⟨d, es, n, ws, e, s, RVs.up k hp us ws r, g⟩
theorem RVs.up {φ φ' : List Addr} {H H' : Hp} (k : Kp G.K H H') (hp : ∀ (n : Nat) (a : Addr), φ[n]? = some a → φ'[n]? = some a) : ∀ (us : List U) (vs : List V), RVs G φ H us vs → RVs G φ' H' us vs
  | [], vs, h => by simpa [RVs] using h
  | u :: us, vs, h => by
    rw [RVs] at h ⊢
    obtain ⟨v, r, e, h1, h2⟩ := h
    exact ⟨v, r, e, RV.up k hp u v h1, RVs.up k hp us r h2⟩
end

theorem RVs.nil {φ : List Addr} {H : Hp} : RVs G φ H [] [] := by rw [RVs]
theorem RVs.cons {φ : List Addr} {H : Hp} {u : U} {us : List U} {v : V} {vs : List V} (h : RV G φ H u v) (t : RVs G φ H us vs) : RVs G φ H (u :: us) (v :: vs) := by rw [RVs]; exact ⟨v, vs, rfl, h, t⟩
theorem RVs.cons_inv {φ : List Addr} {H : Hp} {u : U} {us : List U} {vs : List V} (h : RVs G φ H (u :: us) vs) : ∃ v r, vs = v :: r ∧ RV G φ H u v ∧ RVs G φ H us r := by rw [RVs] at h; exact h
theorem RVs.nil_inv {φ : List Addr} {H : Hp} {vs : List V} (h : RVs G φ H [] vs) : vs = [] := by rw [RVs] at h; exact h
theorem RVs.length {φ : List Addr} {H : Hp} : ∀ {us : List U} {vs : List V}, RVs G φ H us vs → vs.length = us.length
  | [], vs, h => by rw [h.nil_inv]; rfl
  | u :: us, vs, h => by obtain ⟨v, r, rfl, _, h2⟩ := h.cons_inv; simp [RVs.length h2]
theorem RVs.append {φ : List Addr} {H : Hp} : ∀ {us us2 : List U} {vs vs2 : List V}, RVs G φ H us vs → RVs G φ H us2 vs2 → RVs G φ H (us ++ us2) (vs ++ vs2)
  | [], us2, vs, vs2, h, h2 => by rw [h.nil_inv]; exact h2
  | u :: us, us2, vs, vs2, h, h2 => by obtain ⟨v, r, rfl, h3, h4⟩ := h.cons_inv; exact .cons h3 (RVs.append h4 h2)
theorem RVs.get {φ : List Addr} {H : Hp} : ∀ {us : List U} {vs : List V} {i : Nat} {u : U}, RVs G φ H us vs → us[i]? = some u → ∃ v, vs[i]? = some v ∧ RV G φ H u v
  | [], _, _, _, _, e => by simp at e
  | u :: us, vs, 0, w, h, e => by obtain ⟨v, r, rfl, h3, h4⟩ := h.cons_inv; simp at e; subst e; exact ⟨v, rfl, h3⟩
  | u :: us, vs, i + 1, w, h, e => by obtain ⟨v, r, rfl, h3, h4⟩ := h.cons_inv; simp at e ⊢; exact RVs.get h4 e
theorem RVs.getV {φ : List Addr} {H : Hp} : ∀ {us : List U} {vs : List V} {i : Nat} {v : V}, RVs G φ H us vs → vs[i]? = some v → ∃ u, us[i]? = some u ∧ RV G φ H u v
  | [], vs, _, _, h, e => by rw [h.nil_inv] at e; simp at e
  | u :: us, vs, 0, w, h, e => by obtain ⟨v, r, rfl, h3, h4⟩ := h.cons_inv; simp at e; subst e; exact ⟨u, rfl, h3⟩
  | u :: us, vs, i + 1, w, h, e => by obtain ⟨v, r, rfl, h3, h4⟩ := h.cons_inv; simp at e ⊢; exact RVs.getV h4 e
theorem RVs.take {φ : List Addr} {H : Hp} : ∀ {us : List U} {vs : List V} (n : Nat), RVs G φ H us vs → RVs G φ H (us.take n) (vs.take n)
  | [], vs, n, h => by rw [h.nil_inv]; simp [RVs.nil]
  | u :: us, vs, 0, h => by simp [RVs.nil]
  | u :: us, vs, n + 1, h => by obtain ⟨v, r, rfl, h3, h4⟩ := h.cons_inv; simp; exact .cons h3 (RVs.take n h4)
theorem RVs.drop {φ : List Addr} {H : Hp} : ∀ {us : List U} {vs : List V} (n : Nat), RVs G φ H us vs → RVs G φ H (us.drop n) (vs.drop n)
  | [], vs, n, h => by rw [h.nil_inv]; simp [RVs.nil]
  | u :: us, vs, 0, h => by simpa using h
  | u :: us, vs, n + 1, h => by obtain ⟨v, r, rfl, h3, h4⟩ := h.cons_inv; simp; exact RVs.drop n h4
theorem RVs.set {φ : List Addr} {H : Hp} {u : U} {v : V} (q : RV G φ H u v) : ∀ {us : List U} {vs : List V} (n : Nat), RVs G φ H us vs → RVs G φ H (us.set n u) (vs.set n v)
  | [], vs, n, h => by rw [h.nil_inv]; simp [RVs.nil]
  | _ :: us, vs, 0, h => by obtain ⟨w, r, rfl, h3, h4⟩ := h.cons_inv; simp; exact .cons q h4
  | _ :: us, vs, n + 1, h => by obtain ⟨w, r, rfl, h3, h4⟩ := h.cons_inv; simp; exact .cons h3 (RVs.set q n h4)
theorem RVs.rev {φ : List Addr} {H : Hp} : ∀ {us : List U} {vs : List V}, RVs G φ H us vs → RVs G φ H us.reverse vs.reverse
  | [], vs, h => by rw [h.nil_inv]; exact RVs.nil
  | u :: us, vs, h => by obtain ⟨v, r, rfl, h3, h4⟩ := h.cons_inv; simp; exact (RVs.rev h4).append (.cons h3 .nil)
theorem RVs.strs {φ : List Addr} {H : Hp} : ∀ {xs : List Str} {vs : List V}, RVs G φ H (xs.map U.str) vs → vs = xs.map V.str
  | [], vs, h => h.nil_inv
  | x :: xs, vs, h => by obtain ⟨v, r, rfl, h3, h4⟩ := h.cons_inv; rw [RV] at h3; rw [h3, RVs.strs h4]; rfl
theorem RVs.ints {φ : List Addr} {H : Hp} : ∀ {xs : List Int} {vs : List V}, RVs G φ H (xs.map U.int) vs → vs = xs.map V.int
  | [], vs, h => h.nil_inv
  | x :: xs, vs, h => by obtain ⟨v, r, rfl, h3, h4⟩ := h.cons_inv; rw [RV] at h3; rw [h3, RVs.ints h4]; rfl
theorem RVs.of_ints {φ : List Addr} {H : Hp} : ∀ {xs : List Int}, RVs G φ H (xs.map U.int) (xs.map V.int)
  | [] => .nil
  | x :: xs => .cons (by rw [RV]) RVs.of_ints
theorem RVs.of_strs {φ : List Addr} {H : Hp} : ∀ {xs : List Str}, RVs G φ H (xs.map U.str) (xs.map V.str)
  | [] => .nil
  | x :: xs => .cons (by rw [RV]) RVs.of_strs


/-! ### keys of dicts -/
mutual
def nk : U → NestedKey
  | .non => .none
  | .bl b => .num (if b then 1 else 0)
  | .int i => .num i
  | .str x => .text x
  | .tup us => .tup (nks us)
  | .rl _ => .none
  | .loc _ => .none
  | .fn _ => .none
  | .gd _ _ => .none
def nks : List U → List NestedKey
  | [] => []
  | u :: us => nk u :: nks us
end
mutual
/-- what may be a key -/
def hk : U → Bool
  | .non => true
  | .bl _ => true
  | .int _ => true
  | .str _ => true
  | .tup us => hks us
  | .rl _ => false
  | .loc _ => false
  | .fn _ => false
  | .gd _ _ => false
def hks : List U → Bool
  | [] => true
  | u :: us => hk u && hks us
end
/-- may be a key, no deeper than 8 -/
def hkD (u : U) : Bool := hk u && decide ((nk u).depth ≤ 8)

/-- a dict's object with these entries -/
def DObj (a : Addr) (es : Array DictEntry) : HO := .ext fun h => ∃ o ep, h.get? a = some o ∧ o.ExactDict ∧ o.data = .dict es ep

structure EntR (G : Gb) (φ : List Addr) (H : Hp) (p : U × U) (e : DictEntry) : Prop where
  key : ∃ v, RV G φ H p.1 v ∧ RelV v e.key
  val : ∃ v, RV G φ H p.2 v ∧ RelV v e.val
  hash : e.hash = (nk p.1).hash G.w
  ok : hkD p.1 = true

/-- a cell and what stands for it -/
def RC (G : Gb) (φ : List Addr) (H : Hp) (a : Addr) : Cell → Prop
  | .lst us => ∃ vs, H a = some (.lst vs) ∧ RVs G φ H us vs
  | .dct kvs => ∃ es : Array DictEntry, H a = some (DObj a es) ∧ (a == sysModules) = false ∧ es.size ≤ sizeLine ∧ Paired (EntR G φ H) kvs es.toList ∧ (kvs.map fun p => nk p.1).Nodup
  | .ins _ _ => False

structure RepStore (G : Gb) (φ : List Addr) (μ : Store) (H : Hp) : Prop where
  len : φ.length = μ.length
  nd : φ.Nodup
  at_ : ∀ (n : Nat) (c : Cell) (a : Addr), μ[n]? = some c → φ[n]? = some a → RC G φ H a c

/-- how the places and the heap go on: new places were free, what has no place stays -/
structure Ext (φ φ' : List Addr) (H H' : Hp) : Prop where
  app : ∃ l, φ' = φ ++ l ∧ ∀ a ∈ l, H a = none ∧ a ∉ φ
  keep : ∀ a o, H a = some o → a ∉ φ → H' a = some o
  dom : ∀ a, H' a = none → H a = none

theorem Ext.refl {φ : List Addr} {H : Hp} : Ext φ φ H H := ⟨⟨[], by simp, fun _ h => by cases h⟩, fun _ _ h _ => h, fun _ h => h⟩
theorem Ext.trans {φ φ1 φ2 : List Addr} {H H1 H2 : Hp} (a : Ext φ φ1 H H1) (b : Ext φ1 φ2 H1 H2) : Ext φ φ2 H H2 := by
  obtain ⟨l, rfl, hl⟩ := a.app
  obtain ⟨m, rfl, hm⟩ := b.app
  refine ⟨⟨l ++ m, by simp, fun x hx => ?_⟩, fun x o e n => ?_, fun x e => a.dom x (b.dom x e)⟩
  · rcases List.mem_append.mp hx with h | h
    · exact hl x h
    · have := hm x h
      exact ⟨a.dom x this.1, fun z => this.2 (List.mem_append_left _ z)⟩
  · refine b.keep x o (a.keep x o e n) fun z => ?_
    rcases List.mem_append.mp z with h | h
    · exact n h
    · rw [(hl x h).1] at e; cases e
theorem Ext.get {φ φ' : List Addr} {H H' : Hp} (x : Ext φ φ' H H') (n : Nat) (a : Addr) (h : φ[n]? = some a) : φ'[n]? = some a := by
  obtain ⟨l, rfl, _⟩ := x.app
  rw [List.getElem?_append_left (List.getElem?_eq_some_iff.mp h).1]
  exact h
/-- no cell's object is a tuple or frozen -/
theorem RC.kind {φ : List Addr} {H : Hp} {a : Addr} {c : Cell} (h : RC G φ H a c) : (∃ vs, H a = some (.lst vs)) ∨ ∃ ψ, H a = some (.ext ψ) := by
  cases c with
  | lst us => obtain ⟨vs, e, _⟩ := h; exact .inl ⟨vs, e⟩
  | dct kvs => obtain ⟨es, e, _⟩ := h; exact .inr ⟨_, e⟩
  | ins _ _ => exact h.elim
theorem RepStore.ofMem {φ : List Addr} {μ : Store} {H : Hp} (s : RepStore G φ μ H) {a : Addr} (h : a ∈ φ) : ∃ c, RC G φ H a c := by
  obtain ⟨n, hn, e⟩ := List.getElem_of_mem h
  have hm : n < μ.length := by rw [← s.len]; exact hn
  exact ⟨μ[n], s.at_ n _ a (List.getElem?_eq_getElem hm) (by rw [List.getElem?_eq_getElem hn, e])⟩
theorem RepStore.kp {φ φ' : List Addr} {μ : Store} {H H' : Hp} (s : RepStore G φ μ H) (x : Ext φ φ' H H') : Kp G.K H H' := by
  refine ⟨fun a vs h => ?_, fun b o u e => ?_⟩
  · rcases h with (h | ⟨o, h⟩) | h
    · refine .inl (.inl (x.keep a _ h fun z => ?_))
      obtain ⟨c, hc⟩ := s.ofMem z
      rcases hc.kind with ⟨_, e⟩ | ⟨_, e⟩ <;> (rw [h] at e; cases e)
    · refine .inl (.inr ⟨o, x.keep a _ h fun z => ?_⟩)
      obtain ⟨c, hc⟩ := s.ofMem z
      rcases hc.kind with ⟨_, e⟩ | ⟨_, e⟩ <;> (rw [h] at e; cases e)
    · exact .inr h
  · refine x.keep b _ e fun z => ?_
    obtain ⟨c, hc⟩ := s.ofMem z
    rcases hc.kind with ⟨_, q⟩ | ⟨_, q⟩ <;> (rw [e] at q; cases q)
theorem RepStore.rv {φ φ' : List Addr} {μ : Store} {H H' : Hp} (s : RepStore G φ μ H) (x : Ext φ φ' H H') {u : U} {v : V} (h : RV G φ H u v) : RV G φ' H' u v := RV.up (s.kp x) x.get u v h
theorem RepStore.rvs {φ φ' : List Addr} {μ : Store} {H H' : Hp} (s : RepStore G φ μ H) (x : Ext φ φ' H H') {u : List U} {v : List V} (h : RVs G φ H u v) : RVs G φ' H' u v := RVs.up (s.kp x) x.get u v h

/-- a value just made: a list that has no place yet, or a value -/
inductive T where
  | u (u : U)
  | l (xs : List U)
  deriving Inhabited
def RT (G : Gb) (φ : List Addr) (H0 H : Hp) : T → V → Prop
  | .u u, v => RV G φ H u v
  | .l us, v => ∃ a vs, v = .ref a ∧ H a = some (.lst vs) ∧ RVs G φ H us vs ∧ a ∉ φ ∧ H0 a = none
theorem RT.base {φ : List Addr} {H00 H0 H : Hp} (d : ∀ a, H0 a = none → H00 a = none) : ∀ {t : T} {v : V}, RT G φ H0 H t v → RT G φ H00 H t v
  | .u _, _, h => h
  | .l _, _, ⟨a, vs, e, h1, h2, h3, h4⟩ => ⟨a, vs, e, h1, h2, h3, d a h4⟩
theorem RepStore.rt {φ φ' : List Addr} {μ : Store} {H0 H H' : Hp} (s : RepStore G φ μ H) (x : Ext φ φ' H H') : ∀ {t : T} {v : V}, RT G φ H0 H t v → RT G φ' H0 H' t v
  | .u _, _, h => s.rv x h
  | .l _, _, ⟨a, vs, e, h1, h2, h3, h4⟩ => by
    refine ⟨a, vs, e, x.keep a _ h1 h3, s.rvs x h2, fun z => ?_, h4⟩
    obtain ⟨l, rfl, hl⟩ := x.app
    rcases List.mem_append.mp z with h | h
    · exact h3 h
    · rw [(hl a h).1] at h1; cases h1

/-- an exception: its class, its arguments -/
structure Ex where
  cls : Nat
  args : List U
  deriving Inhabited
/-- what an expression comes to -/
inductive Res (α : Type) where
  | no
  | ok (a : α) (μ : Store)
  | ex (x : Ex) (μ : Store)
/-- where a statement ends -/
inductive Fl where
  | nx (ρ : Ev) | rt (u : U) | bk (ρ : Ev) | ct (ρ : Ev) | xx (x : Ex) (ρ : Ev)

structure RepS (G : Gb) (φ : List Addr) (ρ : Ev) (μ : Store) (σ : L2.St) (H : Hp) : Prop where
  st : RepStore G φ μ H
  len : ρ.length = σ.length
  env : ∀ (i : Nat) (u : U), ρ[i]? = some (some u) → ∃ v, σ[i]? = some (some v) ∧ RV G φ H u v
theorem RepS.up {φ φ' : List Addr} {ρ : Ev} {μ μ' : Store} {σ : L2.St} {H H' : Hp} (r : RepS G φ ρ μ σ H) (x : Ext φ φ' H H') (s' : RepStore G φ' μ' H') : RepS G φ' ρ μ' σ H' :=
  ⟨s', r.len, fun i u e => let ⟨v, h1, h2⟩ := r.env i u e; ⟨v, h1, r.st.rv x h2⟩⟩

/-- what is wanted of an exception: its class, its own dict, the slots, the heap -/
abbrev XW := Value → Option Addr → L2.St → Hp → Prop
abbrev RXT := Ex → Value → Option Addr → Hp → List Addr → Prop

/-- behind an expression: R tells how the outcome lies to what the model has -/
def Post {α β : Type} (G : Gb) (RX : RXT) (W : XW) (R : List Addr → Hp → Hp → α → β → Prop) (φ : List Addr) (σ : L2.St) (H : Hp) (Q : β → Hp → Prop) : Res α → Prop
  | .no => False
  | .ok t μ' => ∀ φ' H' v, Ext φ φ' H H' → RepStore G φ' μ' H' → R φ' H H' t v → Q v H'
  | .ex x μ' => ∀ φ' H' cls d, Ext φ φ' H H' → RepStore G φ' μ' H' → RX x cls d H' φ' → W cls d σ H'
def PostS (G : Gb) (RX : RXT) (W : XW) (φ : List Addr) (H : Hp) (D : Ends) : Res Fl → Prop
  | .no => False
  | .ok (.nx ρ') μ' => ∀ φ' σ' H', Ext φ φ' H H' → RepS G φ' ρ' μ' σ' H' → D.nx σ' H'
  | .ok (.rt u) μ' => ∀ φ' v H', Ext φ φ' H H' → RepStore G φ' μ' H' → RV G φ' H' u v → D.rt v H'
  | .ok (.bk ρ') μ' => ∀ φ' σ' H', Ext φ φ' H H' → RepS G φ' ρ' μ' σ' H' → D.bk σ' H'
  | .ok (.ct ρ') μ' => ∀ φ' σ' H', Ext φ φ' H H' → RepS G φ' ρ' μ' σ' H' → D.ct σ' H'
  | .ok (.xx x ρ') μ' => ∀ φ' σ' H' cls d, Ext φ φ' H H' → RepS G φ' ρ' μ' σ' H' → RX x cls d H' φ' → W cls d σ' H'
  | .ex _ _ => False

abbrev M (α : Type) := Ev → Store → Res α
def tM {α β : Type} (G : Gb) (RX : RXT) (W : XW) (R : List Addr → Hp → Hp → α → β → Prop) (m : M α) : L2.St → Hp → (β → Hp → Prop) → Prop := fun σ H Q => ∃ φ ρ μ, RepS G φ ρ μ σ H ∧ Post G RX W R φ σ H Q (m ρ μ)
def tSs (G : Gb) (RX : RXT) (W : XW) (m : M Fl) : TS := fun D σ H => ∃ φ ρ μ, RepS G φ ρ μ σ H ∧ PostS G RX W φ H D (m ρ μ)
/-- the relations: a value just made, a placed value, several, an answer -/
def rT (G : Gb) : List Addr → Hp → Hp → T → V → Prop := fun φ H0 H t v => RT G φ H0 H t v
def rU (G : Gb) : List Addr → Hp → Hp → U → V → Prop := fun φ _ H u v => RV G φ H u v
def rUs (G : Gb) : List Addr → Hp → Hp → List U → List V → Prop := fun φ _ H u v => RVs G φ H u v
def rB : List Addr → Hp → Hp → Bool → Bool → Prop := fun _ _ _ a b => a = b
/-- the relation looks no deeper when the beginning is moved back -/
def Bas {α β : Type} (R : List Addr → Hp → Hp → α → β → Prop) : Prop := ∀ φ H00 H0 H a b, (∀ x, H0 x = none → H00 x = none) → R φ H0 H a b → R φ H00 H a b
theorem bas_T : Bas (rT G) := fun _ _ _ _ _ _ d h => RT.base d h
theorem bas_U : Bas (rU G) := fun _ _ _ _ _ _ _ h => h
theorem bas_Us : Bas (rUs G) := fun _ _ _ _ _ _ _ h => h
theorem bas_B : Bas rB := fun _ _ _ _ _ _ _ h => h

section
variable {α β γ δ : Type} {RX : RXT} {W : XW} {R : List Addr → Hp → Hp → α → β → Prop} {R' : List Addr → Hp → Hp → γ → δ → Prop}
theorem Post.shift (hb : Bas R) {φ φ1 : List Addr} {σ : L2.St} {H H1 : Hp} {Q : β → Hp → Prop} (x : Ext φ φ1 H H1) : ∀ {r : Res α}, Post G RX W R φ σ H Q r → Post G RX W R φ1 σ H1 Q r
  | .no, h => h
  | .ok _ _, h => fun φ' H' v e s r => h φ' H' v (x.trans e) s (hb _ _ _ _ _ _ x.dom r)
  | .ex _ _, h => fun φ' H' c d e s r => h φ' H' c d (x.trans e) s r
def Res.bind (r : Res α) (k : α → Store → Res γ) : Res γ :=
  match r with
  | .no => .no
  | .ok a μ => k a μ
  | .ex x μ => .ex x μ
theorem Post.bind (hb : Bas R') {φ : List Addr} {ρ : Ev} {μ : Store} {σ : L2.St} {H : Hp} {Q : δ → Hp → Prop} {r : Res α} {k : α → Store → Res γ} (rep : RepS G φ ρ μ σ H) (h : Post G RX W R' φ σ H Q (r.bind k)) :
    Post G RX W R φ σ H (fun b H1 => ∃ a φ1 μ1, r = .ok a μ1 ∧ Ext φ φ1 H H1 ∧ RepS G φ1 ρ μ1 σ H1 ∧ R φ1 H H1 a b ∧ Post G RX W R' φ1 σ H1 Q (k a μ1)) r := by
  cases r with
  | no => exact h
  | ok a μ1 => exact fun φ' H' v e s q => ⟨a, φ', μ1, rfl, e, rep.up e s, q, Post.shift hb e h⟩
  | ex x μ1 => exact h
theorem Post.mono {φ : List Addr} {σ : L2.St} {H : Hp} {Q Q' : β → Hp → Prop} (hq : ∀ b H', Q b H' → Q' b H') : ∀ {r : Res α}, Post G RX W R φ σ H Q r → Post G RX W R φ σ H Q' r
  | .no, h => h
  | .ok _ _, h => fun φ' H' v e s r => hq _ _ (h φ' H' v e s r)
  | .ex _ _, h => h
theorem tM_bind (hb : Bas R') {φ : List Addr} {ρ : Ev} {μ : Store} {σ : L2.St} {H : Hp} {Q : δ → Hp → Prop} {m : M α} {k : α → Store → Res γ} {Q1 : β → Hp → Prop} (rep : RepS G φ ρ μ σ H) (h : Post G RX W R' φ σ H Q ((m ρ μ).bind k))
    (hq : ∀ a b φ1 μ1 H1, Ext φ φ1 H H1 → RepS G φ1 ρ μ1 σ H1 → R φ1 H H1 a b → Post G RX W R' φ1 σ H1 Q (k a μ1) → Q1 b H1) : tM G RX W R m σ H Q1 :=
  ⟨φ, ρ, μ, rep, (Post.bind hb rep h).mono fun b H' ⟨a, φ1, μ1, _, e, r, q, p⟩ => hq a b φ1 μ1 H' e r q p⟩
theorem PostS.shift {φ φ1 : List Addr} {H H1 : Hp} {D : Ends} (x : Ext φ φ1 H H1) : ∀ {r : Res Fl}, PostS G RX W φ H D r → PostS G RX W φ1 H1 D r
  | .no, h => h
  | .ok (.nx _) _, h => fun φ' σ' H' e r => h φ' σ' H' (x.trans e) r
  | .ok (.rt _) _, h => fun φ' v H' e s r => h φ' v H' (x.trans e) s r
  | .ok (.bk _) _, h => fun φ' σ' H' e r => h φ' σ' H' (x.trans e) r
  | .ok (.ct _) _, h => fun φ' σ' H' e r => h φ' σ' H' (x.trans e) r
  | .ok (.xx _ _) _, h => fun φ' σ' H' c d e r q => h φ' σ' H' c d (x.trans e) r q
  | .ex _ _, h => h
/-- an expression's outcome goes into a statement; an exception leaves with the slots as they are -/
def Res.bindS (r : Res α) (ρ : Ev) (k : α → Store → Res Fl) : Res Fl :=
  match r with
  | .no => .no
  | .ok a μ => k a μ
  | .ex x μ => .ok (.xx x ρ) μ
theorem tM_bindS {φ : List Addr} {ρ : Ev} {μ : Store} {σ : L2.St} {H : Hp} {D : Ends} {m : M α} {k : α → Store → Res Fl} {Q1 : β → Hp → Prop} (rep : RepS G φ ρ μ σ H) (h : PostS G RX W φ H D ((m ρ μ).bindS ρ k))
    (hq : ∀ a b φ1 μ1 H1, Ext φ φ1 H H1 → RepS G φ1 ρ μ1 σ H1 → R φ1 H H1 a b → PostS G RX W φ1 H1 D (k a μ1) → Q1 b H1) : tM G RX W R m σ H Q1 := by
  refine ⟨φ, ρ, μ, rep, ?_⟩
  cases q : m ρ μ with
  | no => rw [q] at h; exact h
  | ok a μ1 => rw [q] at h; exact fun φ' H' v e s r => hq a v φ' μ1 H' e (rep.up e s) r (PostS.shift e h)
  | ex x μ1 => rw [q] at h; exact fun φ' H' c d e s r => h φ' σ H' c d e (rep.up e s) r
end

/-! texts in a form that the kernel computes fast -/
def catQ (x y : Str) : Str := ⟨⟨x.cps.toList ++ y.cps.toList⟩⟩
theorem catQ_eq (x y : Str) : catQ x y = x ++ y := by
  show (Str.mk ⟨x.cps.toList ++ y.cps.toList⟩) = Str.mk (x.cps ++ y.cps)
  congr 1
  apply Array.ext'
  simp
def joinT (z : List Nat) : List Str → List Nat
  | [] => []
  | s :: ss => z ++ (s.cps.toList ++ joinT z ss)
def joinQ (z : Str) : List Str → Str
  | [] => ⟨⟨[]⟩⟩
  | s :: ss => ⟨⟨s.cps.toList ++ joinT z.cps.toList ss⟩⟩
theorem joinQ_eq (z : Str) (ss : List Str) : joinQ z ss = Txt.join z ss := by
  have key : ∀ (ss : List Str) (a : Array Nat), (ss.foldl (fun acc p => acc ++ z.cps ++ p.cps) a).toList = a.toList ++ joinT z.cps.toList ss := by
    intro ss
    induction ss with
    | nil => intro a; simp [joinT]
    | cons x xs ih => intro a; rw [List.foldl_cons, ih]; simp [joinT]
  cases ss with
  | nil => rfl
  | cons s ss =>
    show Str.mk _ = Str.mk (ss.foldl (fun acc p => acc ++ z.cps ++ p.cps) s.cps)
    congr 1
    apply Array.ext'
    rw [key]
def reprQ (x : Str) : Str := ⟨⟨reprQuote x :: (x.cps.toList.flatMap (Builtin.Str.reprChar (reprQuote x)) ++ [reprQuote x])⟩⟩
theorem reprQ_eq (x : Str) : reprQ x = reprText x := by
  have key : ∀ (l : List Nat) (a : Array Nat), (l.foldl (fun out c => out ++ (Builtin.Str.reprChar (reprQuote x) c).toArray) a).toList = a.toList ++ l.flatMap (Builtin.Str.reprChar (reprQuote x)) := by
    intro l
    induction l with
    | nil => intro a; simp
    | cons c r ih => intro a; rw [List.foldl_cons, ih]; simp
  unfold reprQ reprText
  congr 1
  apply Array.ext'
  rw [Array.toList_push, ← Array.foldl_toList, key]
  simp
end DP
end
section
/-! DpB: how cells are laid, written, kept; the list and tuple behind a value just made. -/
set_option linter.all false
set_option autoImplicit false
set_option maxRecDepth 100000
namespace DP
open PySem PySem.Spec PyProof.Rows L2
variable {G : Gb}

theorem paired_up {α β : Type} {F F' : α → β → Prop} (h : ∀ a b, F a b → F' a b) {l : List α} {m : List β} (p : Paired F l m) : Paired F' l m := Paired.mapP p h

theorem EntR.up {φ φ' : List Addr} {H H' : Hp} (k : Kp G.K H H') (hp : ∀ (n : Nat) (a : Addr), φ[n]? = some a → φ'[n]? = some a) {p : U × U} {e : DictEntry} (r : EntR G φ H p e) : EntR G φ' H' p e :=
  ⟨let ⟨v, h1, h2⟩ := r.key; ⟨v, RV.up k hp _ _ h1, h2⟩, let ⟨v, h1, h2⟩ := r.val; ⟨v, RV.up k hp _ _ h1, h2⟩, r.hash, r.ok⟩

theorem RC.up {φ φ' : List Addr} {H H' : Hp} (k : Kp G.K H H') (hp : ∀ (n : Nat) (a : Addr), φ[n]? = some a → φ'[n]? = some a) {a : Addr} {c : Cell} (h : RC G φ H a c) (e : H' a = H a) : RC G φ' H' a c := by
  cases c with
  | lst us => obtain ⟨vs, q, r⟩ := h; exact ⟨vs, e.trans q, RVs.up k hp _ _ r⟩
  | dct kvs => obtain ⟨es, q, h1, h2, r, nd⟩ := h; exact ⟨es, e.trans q, h1, h2, paired_up (fun _ _ z => z.up k hp) r, nd⟩
  | ins _ _ => exact h.elim

theorem RepStore.mem {φ : List Addr} {μ : Store} {H : Hp} (s : RepStore G φ μ H) {n : Nat} {a : Addr} (h : φ[n]? = some a) : ∃ c, μ[n]? = some c ∧ RC G φ H a c := by
  have hn : n < μ.length := by rw [← s.len]; exact (List.getElem?_eq_some_iff.mp h).1
  exact ⟨μ[n], List.getElem?_eq_getElem hn, s.at_ n _ a (List.getElem?_eq_getElem hn) h⟩
theorem RepStore.get {φ : List Addr} {μ : Store} {H : Hp} (s : RepStore G φ μ H) {n : Nat} {c : Cell} (h : μ[n]? = some c) : ∃ a, φ[n]? = some a ∧ RC G φ H a c := by
  have hn : n < φ.length := by rw [s.len]; exact (List.getElem?_eq_some_iff.mp h).1
  exact ⟨φ[n], List.getElem?_eq_getElem hn, s.at_ n c _ h (List.getElem?_eq_getElem hn)⟩

/-- the heap grew: what has a place is as it was -/
theorem RepStore.same {φ : List Addr} {μ : Store} {H H' : Hp} (s : RepStore G φ μ H) (x : Ext φ φ H H') (h : ∀ a ∈ φ, H' a = H a) : RepStore G φ μ H' :=
  ⟨s.len, s.nd, fun n c a e f => (s.at_ n c a e f).up (s.kp x) (fun _ _ z => z) (h a (List.mem_of_getElem? f))⟩
/-- a new object without a place -/
theorem Ext.new {φ : List Addr} {H : Hp} {p : Addr} {o : HO} (hp : H p = none) : Ext φ φ H (upd H p o) :=
  ⟨⟨[], by simp, fun _ h => by cases h⟩, fun a u e _ => by rw [upd_ne (ne_of_none e hp)]; exact e, fun a e => by
    by_cases h : a = p
    · rw [h]; exact hp
    · rw [upd_ne h] at e; exact e⟩
theorem RepStore.not_mem {φ : List Addr} {μ : Store} {H : Hp} (s : RepStore G φ μ H) {p : Addr} (hp : H p = none) : p ∉ φ := fun z => by
  obtain ⟨c, hc⟩ := s.ofMem z
  rcases hc.kind with ⟨_, e⟩ | ⟨_, e⟩ <;> (rw [hp] at e; cases e)
theorem RepStore.new {φ : List Addr} {μ : Store} {H : Hp} {p : Addr} {o : HO} (s : RepStore G φ μ H) (hp : H p = none) : RepStore G φ μ (upd H p o) :=
  s.same (Ext.new hp) fun a h => upd_ne fun z => s.not_mem hp (z ▸ h)
/-- a place for an object that had none -/
theorem RepStore.place {φ : List Addr} {μ : Store} {H : Hp} {a : Addr} {c : Cell} (s : RepStore G φ μ H) (ha : a ∉ φ) (r : RC G (φ ++ [a]) H a c) : RepStore G (φ ++ [a]) (μ ++ [c]) H := by
  refine ⟨by simp [s.len], ?_, fun n d b e f => ?_⟩
  · rw [List.nodup_append]; exact ⟨s.nd, by simp, fun x hx y hy => by simp at hy; subst hy; exact fun z => ha (z ▸ hx)⟩
  · rcases Nat.lt_or_ge n μ.length with h | h
    · rw [List.getElem?_append_left h] at e
      rw [List.getElem?_append_left (by rw [s.len]; exact h)] at f
      refine (s.at_ n d b e f).up Kp.refl (fun m z q => ?_) rfl
      rw [List.getElem?_append_left (List.getElem?_eq_some_iff.mp q).1]; exact q
    · rw [List.getElem?_append_right h] at e
      rw [List.getElem?_append_right (by rw [s.len]; exact h)] at f
      have h0 : n - μ.length = 0 := by
        have := (List.getElem?_eq_some_iff.mp e).1
        simp at this; omega
      rw [h0] at e
      rw [s.len, h0] at f
      simp at e f
      subst e; subst f; exact r
theorem Ext.place {φ : List Addr} {H H0 : Hp} {a : Addr} (ha : a ∉ φ) (hn : H a = none) : Ext φ (φ ++ [a]) H H :=
  ⟨⟨[a], rfl, fun b hb => by simp at hb; subst hb; exact ⟨hn, ha⟩⟩, fun _ _ e _ => e, fun _ e => e⟩
/-- .. where a later heap is looked at: the object came after H -/
theorem Ext.placed {φ φ1 : List Addr} {H H1 : Hp} {a : Addr} (x : Ext φ φ1 H H1) (ha : a ∉ φ1) (hn : H a = none) : Ext φ (φ1 ++ [a]) H H1 := by
  obtain ⟨l, rfl, hl⟩ := x.app
  exact ⟨⟨l ++ [a], by simp, fun b hb => by
    rcases List.mem_append.mp hb with h | h
    · exact hl b h
    · simp at h; subst h; exact ⟨hn, fun z => ha (List.mem_append_left _ z)⟩⟩, x.keep, x.dom⟩
/-- a cell is written -/
theorem Ext.write {φ : List Addr} {H : Hp} {a : Addr} {o : HO} (ha : a ∈ φ) : Ext φ φ H (upd H a o) :=
  ⟨⟨[], by simp, fun _ h => by cases h⟩, fun b u e hb => by rw [upd_ne (fun z : b = a => hb (by rw [z]; exact ha))]; exact e, fun b e => by
    by_cases h : b = a
    · subst h; rw [upd_same] at e; cases e
    · rw [upd_ne h] at e; exact e⟩
theorem RepStore.write {φ : List Addr} {μ : Store} {H : Hp} {n : Nat} {a : Addr} {c : Cell} {o : HO} (s : RepStore G φ μ H) (ha : φ[n]? = some a) (r : RC G φ (upd H a o) a c) : RepStore G φ (μ.set n c) (upd H a o) := by
  have hm : a ∈ φ := List.mem_of_getElem? ha
  have x : Ext φ φ H (upd H a o) := Ext.write hm
  refine ⟨by simp [s.len], s.nd, fun m d b e f => ?_⟩
  by_cases h : m = n
  · subst h
    rw [ha] at f; cases f
    rw [List.getElem?_set_self (by rw [← s.len]; exact (List.getElem?_eq_some_iff.mp ha).1)] at e
    cases e; exact r
  · rw [List.getElem?_set_ne (Ne.symm h)] at e
    refine (s.at_ m d b e f).up (s.kp x) (fun _ _ z => z) (upd_ne fun z => h ?_)
    subst z
    obtain ⟨h1, e1⟩ := List.getElem?_eq_some_iff.mp ha
    obtain ⟨h2, e2⟩ := List.getElem?_eq_some_iff.mp f
    exact (List.getElem_inj s.nd).mp (e2.trans e1.symm)

/-! ### the list, the tuple behind a value -/
def T.lstOf (μ : Store) : T → Option (List U)
  | .l xs => some xs
  | .u (.loc n) => match μ[n]? with | some (.lst xs) => some xs | _ => none
  | .u (.rl xs) => some xs
  | _ => none
def T.tupOf : T → Option (List U)
  | .u (.tup xs) => some xs
  | _ => none
/-- a list that may be joined with another: not the script -/
def T.lstM (μ : Store) : T → Option (List U)
  | .l xs => some xs
  | .u (.loc n) => match μ[n]? with | some (.lst xs) => some xs | _ => none
  | _ => none

theorem lstM_of {φ : List Addr} {μ : Store} {H0 H : Hp} {t : T} {us : List U} {v : V} (s : RepStore G φ μ H) (e : t.lstM μ = some us) (r : RT G φ H0 H t v) : ∃ a vs, v = .ref a ∧ H a = some (.lst vs) ∧ RVs G φ H us vs := by
  cases t with
  | l xs =>
    simp only [T.lstM, Option.some.injEq] at e; subst e
    obtain ⟨a, vs, e1, h1, h2, _⟩ := r
    exact ⟨a, vs, e1, h1, h2⟩
  | u u =>
    cases u with
    | loc n =>
      simp only [T.lstM] at e
      split at e
      · rename_i xs hx
        simp only [Option.some.injEq] at e; subst e
        simp only [RT, RV] at r
        obtain ⟨a, e1, h1⟩ := r
        obtain ⟨vs, h2, h3⟩ := s.at_ n _ a hx h1
        exact ⟨a, vs, e1, h2, h3⟩
      · cases e
    | _ => simp only [T.lstM] at e; cases e
theorem lstOf_of {φ : List Addr} {μ : Store} {H0 H : Hp} {t : T} {us : List U} {v : V} (s : RepStore G φ μ H) (e : t.lstOf μ = some us) (r : RT G φ H0 H t v) : ∃ a vs, v = .ref a ∧ SqL G.K H a vs ∧ RVs G φ H us vs := by
  by_cases h : t.lstM μ = some us
  · obtain ⟨a, vs, e1, h1, h2⟩ := lstM_of s h r
    exact ⟨a, vs, e1, SqL.of h1, h2⟩
  · cases t with
    | l xs => exact (h e).elim
    | u u =>
      cases u with
      | rl xs =>
        simp only [T.lstOf, Option.some.injEq] at e; subst e
        simp only [RT, RV] at r
        obtain ⟨a, vs, e1, h1, h2⟩ := r
        exact ⟨a, vs, e1, h1.1, h2⟩
      | loc n => exact (h e).elim
      | _ => simp only [T.lstOf] at e; cases e
theorem tupOf_of {φ : List Addr} {H0 H : Hp} {t : T} {us : List U} {v : V} (e : t.tupOf = some us) (r : RT G φ H0 H t v) : ∃ a vs, v = .ref a ∧ SqT G.K H a vs ∧ RVs G φ H us vs := by
  cases t with
  | l xs => simp only [T.tupOf] at e; cases e
  | u u =>
    cases u with
    | tup xs => simp only [T.tupOf, Option.some.injEq] at e; subst e; simpa only [RT, RV] using r
    | _ => simp only [T.tupOf] at e; cases e

/-! ### operations by values -/
/-- a binary rule: from the values just made to the value just made -/
def rOp (G : Gb) (f : T → T → Store → Option T) : R2 := fun x y H Q => ∃ φ μ H0 t1 t2 t, RepStore G φ μ H ∧ RT G φ H0 H t1 x ∧ RT G φ H0 H t2 y ∧ f t1 t2 μ = some t ∧
  ∀ φ' H' v, Ext φ φ' H H' → RepStore G φ' μ H' → RT G φ' H H' t v → Q v H'
theorem fin_val {φ : List Addr} {μ : Store} {H : Hp} {Q : VK} {t : T} {v : V} (s : RepStore G φ μ H) (r : RT G φ H H t v) (h : ∀ φ' H' v, Ext φ φ' H H' → RepStore G φ' μ H' → RT G φ' H H' t v → Q v H') : Q v H := h φ H v Ext.refl s r
theorem fin_tup {φ : List Addr} {μ : Store} {H : Hp} {Q : VK} {us : List U} {vs : List V} {p : Addr} (s : RepStore G φ μ H) (r : RVs G φ H us vs) (hp : H p = none) (h : ∀ φ' H' v, Ext φ φ' H H' → RepStore G φ' μ H' → RT G φ' H H' (.u (.tup us)) v → Q v H') : Q (.ref p) (upd H p (.tup vs)) := by
  have x : Ext φ φ H (upd H p (.tup vs)) := Ext.new hp
  refine h φ _ _ x (s.new hp) ?_
  rw [RT, RV]
  exact ⟨p, vs, rfl, SqT.of upd_same, s.rvs x r⟩
theorem fin_lst {φ : List Addr} {μ : Store} {H : Hp} {Q : VK} {us : List U} {vs : List V} {p : Addr} (s : RepStore G φ μ H) (r : RVs G φ H us vs) (hp : H p = none) (h : ∀ φ' H' v, Ext φ φ' H H' → RepStore G φ' μ H' → RT G φ' H H' (.l us) v → Q v H') : Q (.ref p) (upd H p (.lst vs)) := by
  have x : Ext φ φ H (upd H p (.lst vs)) := Ext.new hp
  exact h φ _ _ x (s.new hp) ⟨p, vs, rfl, upd_same, s.rvs x r, s.not_mem hp, hp⟩

def i63 (k : Int) : Bool := decide (-(2 ^ 63) ≤ k) && decide (k < 2 ^ 63)
def i64 (k : Int) : Bool := decide (-(2 ^ 64) < k) && decide (k < 2 ^ 64)
/-- x + y -/
def addT (t1 t2 : T) (μ : Store) : Option T :=
  match t1, t2 with
  | .u (.int i), .u (.int j) => some (.u (.int (i + j)))
  | .u (.str x), .u (.str y) => if x.length + y.length ≤ sizeLine then some (.u (.str (catQ x y))) else none
  | .u (.tup xs), .u (.tup ys) => if xs.length + ys.length ≤ sizeLine then some (.u (.tup (xs ++ ys))) else none
  | a, b => match a.lstM μ, b.lstM μ with
    | some xs, some ys => if xs.length + ys.length ≤ sizeLine then some (.l (xs ++ ys)) else none
    | _, _ => none

theorem addT_ok {X : Cx} (hK : X.K = G.K) : OpR X (binaryOp .Add) (rOp G addT) := by
  intro pins s σ H x y v u Q I rx ry ⟨φ, μ, H0, t1, t2, t, S, r1, r2, e, h⟩
  unfold addT at e
  split at e
  · rename_i i j
    simp only [Option.some.injEq] at e; subst e
    simp only [RT, RV] at r1 r2
    exact op_add pins s σ H x y v u Q I rx ry ⟨i, j, r1, r2, fin_val S (by simp [RT, RV]) h⟩
  · rename_i a b
    split at e
    · rename_i hz
      simp only [Option.some.injEq] at e; subst e
      simp only [RT, RV] at r1 r2
      exact op_add_str pins s σ H x y v u Q I rx ry ⟨a, b, r1, r2, hz, fin_val S (by simp [RT, RV, catQ_eq]) h⟩
    · cases e
  · rename_i xs ys
    split at e
    · rename_i hz
      simp only [Option.some.injEq] at e; subst e
      simp only [RT, RV] at r1 r2
      obtain ⟨a, vs, rfl, h1, h2⟩ := r1
      obtain ⟨b, ws, rfl, h3, h4⟩ := r2
      have n1 := h2.length
      have n2 := h4.length
      refine op_catA pins s σ H _ _ v u Q I rx ry ⟨a, b, vs, ws, rfl, rfl, hK ▸ h1, hK ▸ h3, by omega, fun z => ?_, fun _ z => ?_, fun _ z p hp => ?_⟩
      · subst z
        have : xs = [] := List.eq_nil_of_length_eq_zero n1.symm
        subst this
        refine fin_val S ?_ h
        rw [RT, RV]; exact ⟨b, ws, rfl, h3, by simpa using h4⟩
      · subst z
        have : ys = [] := List.eq_nil_of_length_eq_zero n2.symm
        subst this
        refine fin_val S ?_ h
        rw [RT, RV]; exact ⟨a, vs, rfl, h1, by simpa using h2⟩
      · exact fin_tup S (h2.append h4) hp h
    · cases e
  · rename_i hno1 hno2 hno3
    split at e
    · rename_i xs ys e1 e2
      split at e
      · rename_i hz
        simp only [Option.some.injEq] at e; subst e
        obtain ⟨a, vs, rfl, h1, h2⟩ := lstM_of S e1 r1
        obtain ⟨b, ws, rfl, h3, h4⟩ := lstM_of S e2 r2
        have n1 := h2.length
        have n2 := h4.length
        exact op_cat pins s σ H _ _ v u Q I rx ry ⟨a, b, vs, ws, rfl, rfl, h1, h3, by omega, fun p hp => fin_lst S (h2.append h4) hp h⟩
      · cases e
    · cases e

def subT (t1 t2 : T) (_ : Store) : Option T :=
  match t1, t2 with
  | .u (.int i), .u (.int j) => some (.u (.int (i - j)))
  | _, _ => none
theorem subT_ok {X : Cx} : OpR X (binaryOp .Sub) (rOp G subT) := by
  intro pins s σ H x y v u Q I rx ry ⟨φ, μ, H0, t1, t2, t, S, r1, r2, e, h⟩
  unfold subT at e
  split at e
  · rename_i i j
    simp only [Option.some.injEq] at e; subst e
    simp only [RT, RV] at r1 r2
    exact op_sub pins s σ H x y v u Q I rx ry ⟨i, j, r1, r2, fin_val S (by simp [RT, RV]) h⟩
  · cases e
theorem cmul_of {i j : Int} (h : (i64 i || i64 j) = true) : CMul i j := by
  simp only [Bool.or_eq_true, i64, Bool.and_eq_true, decide_eq_true_eq] at h
  exact h
theorem rvs_rep {φ : List Addr} {H : Hp} {us : List U} {vs : List V} (h : RVs G φ H us vs) : ∀ k : Nat, RVs G φ H (List.replicate k us).flatten (List.replicate k vs).flatten
  | 0 => .nil
  | k + 1 => by simp only [List.replicate_succ, List.flatten_cons]; exact h.append (rvs_rep h k)
/-- x * y -/
def mulT (t1 t2 : T) (μ : Store) : Option T :=
  match t1, t2 with
  | .u (.int i), .u (.int j) => if i64 i || i64 j then some (.u (.int (i * j))) else none
  | a, .u (.int k) => match a.lstM μ with
    | some xs => if i63 k && decide (xs.length * k.toNat ≤ sizeLine) then some (.l (List.replicate k.toNat xs).flatten) else none
    | none => none
  | _, _ => none
theorem mulT_ok {X : Cx} : OpR X (binaryOp .Mult) (rOp G mulT) := by
  intro pins s σ H x y v u Q I rx ry ⟨φ, μ, H0, t1, t2, t, S, r1, r2, e, h⟩
  unfold mulT at e
  split at e
  · rename_i i j
    split at e
    · rename_i hz
      simp only [Option.some.injEq] at e; subst e
      simp only [RT, RV] at r1 r2
      exact op_mul pins s σ H x y v u Q I rx ry ⟨i, j, r1, r2, cmul_of hz, fin_val S (by simp [RT, RV]) h⟩
    · cases e
  · rename_i k hno
    split at e
    · rename_i xs e1
      split at e
      · rename_i hz
        simp only [Option.some.injEq] at e; subst e
        simp only [i63, Bool.and_eq_true, decide_eq_true_eq] at hz
        obtain ⟨a, vs, rfl, h1, h2⟩ := lstM_of S e1 r1
        simp only [RT, RV] at r2
        have n1 := h2.length
        exact op_rep pins s σ H _ _ v u Q I rx ry ⟨a, k, vs, rfl, r2, h1, hz.1.1, hz.1.2, by rw [n1]; exact hz.2, fun p hp => fin_lst S (rvs_rep h2 _) hp h⟩
      · cases e
    · cases e
  · cases e
def modT (t1 t2 : T) (_ : Store) : Option T :=
  match t1, t2 with
  | .u (.int i), .u (.int j) => if 0 < j then some (.u (.int (i % j))) else none
  | _, _ => none
theorem modT_ok {X : Cx} : OpR X (binaryOp .Mod) (rOp G modT) := by
  intro pins s σ H x y v u Q I rx ry ⟨φ, μ, H0, t1, t2, t, S, r1, r2, e, h⟩
  unfold modT at e
  split at e
  · rename_i i j
    split at e
    · rename_i hz
      simp only [Option.some.injEq] at e; subst e
      simp only [RT, RV] at r1 r2
      exact op_mod pins s σ H x y v u Q I rx ry ⟨i, j, r1, r2, hz, fin_val S (by simp [RT, RV]) h⟩
    · cases e
  · cases e
def divT (t1 t2 : T) (_ : Store) : Option T :=
  match t1, t2 with
  | .u (.int i), .u (.int j) => if 0 < j ∧ j < 1073741824 then some (.u (.int (i / j))) else none
  | _, _ => none
theorem divT_ok {X : Cx} : OpR X (binaryOp .FloorDiv) (rOp G divT) := by
  intro pins s σ H x y v u Q I rx ry ⟨φ, μ, H0, t1, t2, t, S, r1, r2, e, h⟩
  unfold divT at e
  split at e
  · rename_i i j
    split at e
    · rename_i hz
      simp only [Option.some.injEq] at e; subst e
      simp only [RT, RV] at r1 r2
      exact op_fdiv pins s σ H x y v u Q I rx ry ⟨i, j, r1, r2, hz, fin_val S (by simp [RT, RV]) h⟩
    · cases e
  · cases e
def binT : Operator → T → T → Store → Option T
  | .Add => addT
  | .Sub => subT
  | .Mult => mulT
  | .Mod => modT
  | .FloorDiv => divT
  | _ => fun _ _ _ => none
theorem binT_ok {X : Cx} (hK : X.K = G.K) (op : Operator) : OpR X (binaryOp op) (rOp G (binT op)) := by
  cases op with
  | Add => exact addT_ok hK
  | Sub => exact subT_ok
  | Mult => exact mulT_ok
  | Mod => exact modT_ok
  | FloorDiv => exact divT_ok
  | _ => exact fun _ _ _ _ _ _ _ _ _ _ _ _ ⟨_, _, _, _, _, _, _, _, _, e, _⟩ => by simp only [binT] at e; cases e
end DP
end
section
/-! DpC: comparisons, places, slices, calls of built-in things, by values just made. -/
set_option linter.all false
set_option autoImplicit false
set_option maxRecDepth 100000
namespace DP
open PySem PySem.Spec PyProof.Rows L2
variable {G : Gb}

/-! ### data -/
mutual
def pd : U → PyData
  | .non => .none
  | .bl b => .bool b
  | .int i => .int i
  | .str x => .str x
  | .tup us => .tuple (pds us)
  | .rl us => .list (pds us)
  | .loc _ => .none
  | .fn _ => .none
  | .gd _ _ => .none
def pds : List U → List PyData
  | [] => []
  | u :: us => pd u :: pds us
end
mutual
/-- plain data, tuples at most so deep -/
def dOk : Nat → U → Bool
  | _, .non => true
  | _, .bl _ => true
  | _, .int _ => true
  | _, .str x => PyData.strOk x
  | 0, .tup _ => false
  | n + 1, .tup us => dOks n us
  | _, .rl _ => false
  | _, .loc _ => false
  | _, .fn _ => false
  | _, .gd _ _ => false
def dOks : Nat → List U → Bool
  | _, [] => true
  | n, u :: us => dOk n u && dOks n us
end
mutual
def eqU : U → U → Bool
  | .non, .non => true
  | .bl a, .bl b => a == b
  | .bl a, .int j => (if a then 1 else 0) == j
  | .int i, .bl b => i == (if b then 1 else 0)
  | .int i, .int j => i == j
  | .str x, .str y => strB x y
  | .tup xs, .tup ys => eqUs xs ys
  | _, _ => false
def eqUs : List U → List U → Bool
  | [], [] => true
  | x :: xs, y :: ys => eqU x y && eqUs xs ys
  | _, _ => false
end
mutual
theorem eqU_eqv : ∀ {n m : Nat} (a b : U), dOk n a = true → dOk m b = true → PyData.eqv (pd a) (pd b) = eqU a b
  | n, m, .non, b, _, h => by cases b <;> simp_all [pd, eqU, PyData.eqv, dOk]
  | n, m, .bl x, b, _, h => by cases b <;> simp_all [pd, eqU, PyData.eqv, dOk]
  | n, m, .int x, b, _, h => by cases b <;> simp_all [pd, eqU, PyData.eqv, dOk]
  | n, m, .str x, b, _, h => by cases b <;> simp_all [pd, eqU, PyData.eqv, dOk, strB_eq]
  | 0, m, .tup us, b, h0, h => by simp [dOk] at h0
  | n + 1, m, .tup us, b, h0, h => by
    cases b with
    | tup vs =>
      cases m with
      | zero => simp [dOk] at h
      | succ m => simp only [pd, eqU, PyData.eqv]; exact eqUs_eqv us vs (by simpa [dOk] using h0) (by simpa [dOk] using h)
    | _ => simp_all [pd, eqU, PyData.eqv, dOk]
  | n, m, .rl us, b, h, _ => by simp [dOk] at h
  | n, m, .loc us, b, h, _ => by simp [dOk] at h
  | n, m, .fn us, b, h, _ => by simp [dOk] at h
  | n, m, .gd _ us, b, h, _ => by simp [dOk] at h
theorem eqUs_eqv : ∀ {n m : Nat} (a b : List U), dOks n a = true → dOks m b = true → PyData.eqvAll (pds a) (pds b) = eqUs a b
  | n, m, [], b, _, h => by cases b <;> simp [pds, eqUs, PyData.eqvAll]
  | n, m, x :: xs, b, h0, h => by
    cases b with
    | nil => simp [pds, eqUs, PyData.eqvAll]
    | cons y ys =>
      simp only [dOks, Bool.and_eq_true] at h0 h
      simp only [pds, eqUs, PyData.eqvAll]
      rw [eqU_eqv x y h0.1 h.1, eqUs_eqv xs ys h0.2 h.2]
end
mutual
theorem dOk_lay : ∀ {n : Nat} (a : U), dOk n a = true → (pd a).canLay0 = true ∧ (pd a).depth ≤ n
  | n, .non, _ => by simp [pd, PyData.canLay0, PyData.depth]
  | n, .bl _, _ => by simp [pd, PyData.canLay0, PyData.depth]
  | n, .int _, _ => by simp [pd, PyData.canLay0, PyData.depth]
  | n, .str _, h => by simp only [dOk] at h; simp [pd, PyData.canLay0, PyData.depth, h]
  | 0, .tup us, h => by simp [dOk] at h
  | n + 1, .tup us, h => by
    have := dOks_lay us (by simpa [dOk] using h)
    simp only [pd, PyData.canLay0, PyData.depth]
    exact ⟨this.1, by omega⟩
  | n, .rl _, h => by simp [dOk] at h
  | n, .loc _, h => by simp [dOk] at h
  | n, .fn _, h => by simp [dOk] at h
  | n, .gd _ _, h => by simp [dOk] at h
theorem dOks_lay : ∀ {n : Nat} (a : List U), dOks n a = true → PyData.canLayAll0 (pds a) = true ∧ PyData.depthAll (pds a) ≤ n
  | n, [], _ => by simp [pds, PyData.canLayAll0, PyData.depthAll]
  | n, x :: xs, h => by
    simp only [dOks, Bool.and_eq_true] at h
    have h1 := dOk_lay x h.1
    have h2 := dOks_lay xs h.2
    simp only [pds, PyData.canLayAll0, PyData.depthAll, Bool.and_eq_true]
    exact ⟨⟨h1.1, h2.1⟩, by omega⟩
end
mutual
theorem dOk_dp {φ : List Addr} {H : Hp} : ∀ {n : Nat} (a : U) (v : V), dOk n a = true → RV G φ H a v → Dp G.K H v (pd a)
  | n, .non, v, _, r => by rw [RV] at r; subst r; exact .non
  | n, .bl _, v, _, r => by rw [RV] at r; subst r; exact .bl _
  | n, .int _, v, _, r => by rw [RV] at r; subst r; exact .int _
  | n, .str _, v, _, r => by rw [RV] at r; subst r; exact .str _
  | 0, .tup us, v, h, _ => by simp [dOk] at h
  | n + 1, .tup us, v, h, r => by
    rw [RV] at r
    obtain ⟨a, vs, rfl, h1, h2⟩ := r
    rw [pd]
    exact .tup h1 (dOks_dp us vs (by simpa [dOk] using h) h2)
  | n, .rl _, v, h, _ => by simp [dOk] at h
  | n, .loc _, v, h, _ => by simp [dOk] at h
  | n, .fn _, v, h, _ => by simp [dOk] at h
  | n, .gd _ _, v, h, _ => by simp [dOk] at h
theorem dOks_dp {φ : List Addr} {H : Hp} : ∀ {n : Nat} (a : List U) (v : List V), dOks n a = true → RVs G φ H a v → DpAll G.K H v (pds a)
  | n, [], v, _, r => by rw [r.nil_inv]; exact .nil
  | n, x :: xs, v, h, r => by
    simp only [dOks, Bool.and_eq_true] at h
    obtain ⟨w, ws, rfl, h1, h2⟩ := r.cons_inv
    exact .cons (dOk_dp x w h.1 h1) (dOks_dp xs ws h.2 h2)
end
/-- what == looks at -/
inductive QT where
  | u (u : U)
  | l (us : List U)
def T.q (μ : Store) (t : T) : Option QT :=
  match t.lstOf μ with
  | some us => if dOks 50 us then some (.l us) else none
  | none => match t with
    | T.u w => if dOk 50 w then some (QT.u w) else none
    | T.l _ => none
def QT.pd : QT → PyData
  | .u w => DP.pd w
  | .l us => .list (pds us)
def eqQ : QT → QT → Bool
  | .u a, .u b => eqU a b
  | .l a, .l b => eqUs a b
  | _, _ => false
theorem q_dp {φ : List Addr} {μ : Store} {H0 H : Hp} {t : T} {q : QT} {v : V} (s : RepStore G φ μ H) (e : t.q μ = some q) (r : RT G φ H0 H t v) :
    Dp G.K H v q.pd ∧ SeqAt.shaped q.pd = true ∧ ((∃ us, q = .l us ∧ dOks 50 us = true) ∨ ∃ u, q = .u u ∧ dOk 50 u = true) := by
  unfold T.q at e
  split at e
  · rename_i us hl
    split at e
    · rename_i hd
      simp only [Option.some.injEq] at e; subst e
      obtain ⟨a, vs, rfl, h1, h2⟩ := lstOf_of s hl r
      refine ⟨.lst h1 (dOks_dp us vs hd h2), ?_, .inl ⟨us, rfl, hd⟩⟩
      have := dOks_lay us hd
      simp only [QT.pd, SeqAt.shaped, PyData.canLay0, PyData.depth, Bool.and_eq_true, decide_eq_true_eq]
      exact ⟨this.1, by omega⟩
    · cases e
  · split at e
    · rename_i u hl
      split at e
      · rename_i hd
        simp only [Option.some.injEq] at e; subst e
        refine ⟨dOk_dp u v hd r, ?_, .inr ⟨u, rfl, hd⟩⟩
        have := dOk_lay u hd
        simp only [QT.pd, SeqAt.shaped, Bool.and_eq_true, decide_eq_true_eq]
        exact ⟨this.1, decide_eq_true (Nat.le_trans this.2 (show (50 : Nat) ≤ 64 by decide))⟩
      · cases e
    · cases e
theorem eqQ_eqv {a b : QT} (ha : (∃ us, a = .l us ∧ dOks 50 us = true) ∨ ∃ u, a = .u u ∧ dOk 50 u = true) (hb : (∃ us, b = .l us ∧ dOks 50 us = true) ∨ ∃ u, b = .u u ∧ dOk 50 u = true) : PyData.eqv a.pd b.pd = eqQ a b := by
  rcases ha with ⟨xs, rfl, h1⟩ | ⟨x, rfl, h1⟩ <;> rcases hb with ⟨ys, rfl, h2⟩ | ⟨y, rfl, h2⟩
  · simp only [QT.pd, PyData.eqv, eqQ]; exact eqUs_eqv xs ys h1 h2
  · simp only [QT.pd, eqQ]; cases y <;> simp_all [pd, PyData.eqv, dOk]
  · simp only [QT.pd, eqQ]; cases x <;> simp_all [pd, PyData.eqv, dOk]
  · simp only [QT.pd, eqQ]; exact eqU_eqv x y h1 h2

/-! ### comparisons: the answer, a Bool -/
def rCmp (G : Gb) (f : T → T → Store → Option Bool) : R2 := fun x y H Q => ∃ φ μ H0 t1 t2 b, RepStore G φ μ H ∧ RT G φ H0 H t1 x ∧ RT G φ H0 H t2 y ∧ f t1 t2 μ = some b ∧ Q (.bl b) H

/-- plain values that == parts without looking further -/
def scU : T → T → Option Bool
  | .u (.non), .u (.non) => some true
  | .u (.bl a), .u (.bl b) => some (a == b)
  | .u (.int a), .u (.int b) => some (a == b)
  | .u (.str a), .u (.str b) => some (strB a b)
  | .u (.non), .u (.str _) => some false
  | .u (.str _), .u (.non) => some false
  | .u (.int _), .u (.str _) => some false
  | .u (.str _), .u (.int _) => some false
  | .u (.non), .u (.int _) => some false
  | .u (.int _), .u (.non) => some false
  | _, _ => none
theorem scU_ok {φ : List Addr} {H0 H : Hp} {t1 t2 : T} {x y : V} {b : Bool} (e : scU t1 t2 = some b) (r1 : RT G φ H0 H t1 x) (r2 : RT G φ H0 H t2 y) : scal x y = true ∧ decide (x = y) = b := by
  unfold scU at e
  split at e <;> first
    | (cases e; done)
    | (simp only [Option.some.injEq] at e; subst e; simp only [RT, RV] at r1 r2; subst r1; subst r2; exact ⟨rfl, by first | rfl | exact dec_int | exact dec_bl | (rw [strB_eq]; exact dec_str) | simp⟩)
def eqT (t1 t2 : T) (μ : Store) : Option Bool :=
  match scU t1 t2 with
  | some b => some b
  | none => match t1.q μ, t2.q μ with
    | some a, some b => some (eqQ a b)
    | _, _ => none
theorem eqT_ok {X : Cx} (hK : X.K = G.K) (hu : X.A.units + 64 < cLine) : OpR X (compareOp .Eq) (rCmp G eqT) := by
  intro pins s σ H x y v u Q I rx ry ⟨φ, μ, H0, t1, t2, b, S, r1, r2, e, h⟩
  unfold eqT at e
  split at e
  · rename_i b' e0
    simp only [Option.some.injEq] at e; subst e
    obtain ⟨q1, q2⟩ := scU_ok e0 r1 r2
    exact op_eq pins s σ H x y v u Q I rx ry ⟨q1, by rw [q2]; exact h⟩
  · split at e
    · rename_i a c e1 e2
      simp only [Option.some.injEq] at e; subst e
      obtain ⟨d1, s1, c1⟩ := q_dp S e1 r1
      obtain ⟨d2, s2, c2⟩ := q_dp S e2 r2
      exact op_eqD hu pins s σ H x y v u Q I rx ry ⟨a.pd, c.pd, hK ▸ d1, hK ▸ d2, s1, s2, by rw [eqQ_eqv c1 c2]; exact h⟩
    · cases e
def neT (t1 t2 : T) (μ : Store) : Option Bool :=
  match scU t1 t2 with
  | some b => some (!b)
  | none => match t1.q μ, t2.q μ with
    | some a, some b => some (!eqQ a b)
    | _, _ => none
theorem neT_ok {X : Cx} (hK : X.K = G.K) (hu : X.A.units + 64 < cLine) : OpR X (compareOp .NotEq) (rCmp G neT) := by
  intro pins s σ H x y v u Q I rx ry ⟨φ, μ, H0, t1, t2, b, S, r1, r2, e, h⟩
  unfold neT at e
  split at e
  · rename_i b' e0
    simp only [Option.some.injEq] at e; subst e
    obtain ⟨q1, q2⟩ := scU_ok e0 r1 r2
    exact op_ne pins s σ H x y v u Q I rx ry ⟨q1, by rw [q2]; exact h⟩
  · split at e
    · rename_i a c e1 e2
      simp only [Option.some.injEq] at e; subst e
      obtain ⟨d1, s1, c1⟩ := q_dp S e1 r1
      obtain ⟨d2, s2, c2⟩ := q_dp S e2 r2
      exact op_neD hu pins s σ H x y v u Q I rx ry ⟨a.pd, c.pd, hK ▸ d1, hK ▸ d2, s1, s2, by rw [eqQ_eqv c1 c2]; exact h⟩
    · cases e
/-- two whole numbers -/
def intsT (f : Int → Int → Bool) (t1 t2 : T) (_ : Store) : Option Bool :=
  match t1, t2 with
  | .u (.int i), .u (.int j) => some (f i j)
  | _, _ => none
theorem intsT_ok {X : Cx} {op : CmpOp} {f : Int → Int → Bool} (hop : OpR X (compareOp op) (rI0 fun i j => .bl (f i j))) : OpR X (compareOp op) (rCmp G (intsT f)) := by
  intro pins s σ H x y v u Q I rx ry ⟨φ, μ, H0, t1, t2, b, S, r1, r2, e, h⟩
  unfold intsT at e
  split at e
  · rename_i i j
    simp only [Option.some.injEq] at e; subst e
    simp only [RT, RV] at r1 r2
    exact hop pins s σ H x y v u Q I rx ry ⟨i, j, r1, r2, h⟩
  · cases e
def isNon : T → Bool
  | .u .non => true
  | _ => false
def isT (neg : Bool) (t1 t2 : T) (_ : Store) : Option Bool :=
  match t2 with
  | .u .non => some (if neg then !isNon t1 else isNon t1)
  | _ => none
theorem rt_non {φ : List Addr} {H0 H : Hp} {t : T} {v : V} (r : RT G φ H0 H t v) : decide (v = V.non) = isNon t := by
  cases t with
  | l us => obtain ⟨a, vs, rfl, _⟩ := r; rfl
  | u u =>
    cases u with
    | non => simp only [RT, RV] at r; subst r; rfl
    | bl b => simp only [RT, RV] at r; subst r; rfl
    | int b => simp only [RT, RV] at r; subst r; rfl
    | str b => simp only [RT, RV] at r; subst r; rfl
    | gd k b => simp only [RT, RV] at r; obtain ⟨a, es, n, vs, rfl, _⟩ := r; rfl
    | tup b => simp only [RT, RV] at r; obtain ⟨a, vs, rfl, _⟩ := r; rfl
    | rl b => simp only [RT, RV] at r; obtain ⟨a, vs, rfl, _⟩ := r; rfl
    | loc b => simp only [RT, RV] at r; obtain ⟨a, rfl, _⟩ := r; rfl
    | fn b => simp only [RT, RV] at r; obtain ⟨a, rfl, _⟩ := r; rfl
theorem isT_ok {X : Cx} : OpR X (compareOp .Is) (rCmp G (isT false)) := by
  intro pins s σ H x y v u Q I rx ry ⟨φ, μ, H0, t1, t2, b, S, r1, r2, e, h⟩
  unfold isT at e
  split at e
  · simp only [RT, RV] at r2
    refine op_isN pins s σ H x y v u Q I rx ry ⟨r2, ?_⟩
    rw [rt_non r1]
    simp only [Option.some.injEq] at e; subst e; simpa using h
  · cases e
theorem isnT_ok {X : Cx} : OpR X (compareOp .IsNot) (rCmp G (isT true)) := by
  intro pins s σ H x y v u Q I rx ry ⟨φ, μ, H0, t1, t2, b, S, r1, r2, e, h⟩
  unfold isT at e
  split at e
  · simp only [RT, RV] at r2
    refine op_notN pins s σ H x y v u Q I rx ry ⟨r2, ?_⟩
    rw [rt_non r1]
    simp only [Option.some.injEq] at e; subst e; simpa using h
  · cases e
/-! in -/
def flU : U → Bool
  | .non => true
  | .bl _ => true
  | .int _ => true
  | .str _ => true
  | _ => false
theorem rv_flat {φ : List Addr} {H : Hp} {u : U} {v : V} (r : RV G φ H u v) (h : flU u = true) : flatV v = true := by
  cases u <;> simp only [RV] at r <;> first | (subst r; rfl) | (simp [flU] at h)
theorem rvs_flat {φ : List Addr} {H : Hp} : ∀ {us : List U} {vs : List V}, RVs G φ H us vs → us.all flU = true → vs.all flatV = true
  | [], vs, r, _ => by rw [r.nil_inv]; rfl
  | u :: us, vs, r, h => by
    obtain ⟨v, w, rfl, h1, h2⟩ := r.cons_inv
    simp only [List.all_cons, Bool.and_eq_true] at h ⊢
    exact ⟨rv_flat h1 h.1, rvs_flat h2 h.2⟩
theorem rv_eqV {φ : List Addr} {H : Hp} {u w : U} {v z : V} (r : RV G φ H u v) (r' : RV G φ H w z) (h : flU u = true) (h' : flU w = true) : eqV v z = eqU u w := by
  cases u <;> first | (simp [flU] at h; done) | (cases w <;> first | (simp [flU] at h'; done) | (simp only [RV] at r r'; subst r; subst r'; first | rfl | (simp only [eqU, strB_eq]; rfl)))
theorem rvs_inV {φ : List Addr} {H : Hp} {u : U} {v : V} (r : RV G φ H u v) (h : flU u = true) : ∀ {us : List U} {vs : List V}, RVs G φ H us vs → us.all flU = true → inV v vs = us.any fun w => eqU w u
  | [], vs, q, _ => by rw [q.nil_inv]; rfl
  | w :: us, vs, q, h' => by
    obtain ⟨z, zs, rfl, h1, h2⟩ := q.cons_inv
    simp only [List.all_cons, Bool.and_eq_true] at h'
    have := rvs_inV r h h2 h'.2
    unfold inV at this ⊢
    simp only [List.any_cons]
    rw [this, rv_eqV h1 r h'.1 h]
/-- the items that «in» looks at -/
def T.seqOf (μ : Store) (t : T) : Option (List U) :=
  match t.lstOf μ with
  | some us => some us
  | none => t.tupOf
theorem seqOf_of {φ : List Addr} {μ : Store} {H0 H : Hp} {t : T} {us : List U} {v : V} (s : RepStore G φ μ H) (e : t.seqOf μ = some us) (r : RT G φ H0 H t v) : ∃ a vs, v = .ref a ∧ (SqL G.K H a vs ∨ SqT G.K H a vs) ∧ RVs G φ H us vs := by
  unfold T.seqOf at e
  split at e
  · rename_i ws h
    simp only [Option.some.injEq] at e; subst e
    obtain ⟨a, vs, e1, h1, h2⟩ := lstOf_of s h r
    exact ⟨a, vs, e1, .inl h1, h2⟩
  · obtain ⟨a, vs, e1, h1, h2⟩ := tupOf_of e r
    exact ⟨a, vs, e1, .inr h1, h2⟩
/-- x in y -/
def inT (neg : Bool) (t1 t2 : T) (μ : Store) : Option Bool :=
  match t1, t2 with
  | .u (.str x), .u (.str z) => some (if neg then !(!(Builtin.Str.occurrences z x 0 z.length 1).isEmpty) else !(Builtin.Str.occurrences z x 0 z.length 1).isEmpty)
  | .u x, t => match t.seqOf μ with
    | some us => if flU x && us.all flU then some (if neg then !(us.any fun w => eqU w x) else us.any fun w => eqU w x) else none
    | none => none
  | _, _ => none
theorem inT_ok {X : Cx} (hK : X.K = G.K) : OpR X (compareOp .In) (rCmp G (inT false)) := by
  intro pins s σ H x y v u Q I rx ry ⟨φ, μ, H0, t1, t2, b, S, r1, r2, e, h⟩
  unfold inT at e
  split at e
  · rename_i a z
    simp only [Option.some.injEq, Bool.false_eq_true, if_false] at e; subst e
    simp only [RT, RV] at r1 r2
    exact op_in_str pins s σ H x y v u Q I rx ry ⟨a, z, r1, r2, h⟩
  · rename_i a t hno
    split at e
    · rename_i us hs
      split at e
      · rename_i hf
        simp only [Option.some.injEq, Bool.false_eq_true, if_false] at e; subst e
        simp only [Bool.and_eq_true] at hf
        obtain ⟨p, vs, rfl, h1, h2⟩ := seqOf_of S hs r2
        refine op_in_seq pins s σ H x _ v u Q I rx ry ⟨p, vs, rfl, hK ▸ h1, rv_flat r1 hf.1, rvs_flat h2 hf.2, ?_⟩
        rw [rvs_inV r1 hf.1 h2 hf.2]
        simpa using h
      · cases e
    · cases e
  · cases e
theorem ninT_ok {X : Cx} (hK : X.K = G.K) : OpR X (compareOp .NotIn) (rCmp G (inT true)) := by
  intro pins s σ H x y v u Q I rx ry ⟨φ, μ, H0, t1, t2, b, S, r1, r2, e, h⟩
  unfold inT at e
  split at e
  · rename_i a z
    simp only [Option.some.injEq, if_true] at e; subst e
    simp only [RT, RV] at r1 r2
    exact op_notIn_str pins s σ H x y v u Q I rx ry ⟨a, z, r1, r2, h⟩
  · rename_i a t hno
    split at e
    · rename_i us hs
      split at e
      · rename_i hf
        simp only [Option.some.injEq, if_true] at e; subst e
        simp only [Bool.and_eq_true] at hf
        obtain ⟨p, vs, rfl, h1, h2⟩ := seqOf_of S hs r2
        refine op_notIn_seq pins s σ H x _ v u Q I rx ry ⟨p, vs, rfl, hK ▸ h1, rv_flat r1 hf.1, rvs_flat h2 hf.2, ?_⟩
        rw [rvs_inV r1 hf.1 h2 hf.2]
        simpa using h
      · cases e
    · cases e
  · cases e
def cmpT : CmpOp → T → T → Store → Option Bool
  | .Eq => eqT
  | .NotEq => neT
  | .Lt => intsT fun i j => decide (i < j)
  | .LtE => intsT fun i j => decide (i ≤ j)
  | .Gt => intsT fun i j => decide (j < i)
  | .GtE => intsT fun i j => decide (j ≤ i)
  | .Is => isT false
  | .IsNot => isT true
  | .In => inT false
  | .NotIn => inT true
theorem cmpT_ok {X : Cx} (hK : X.K = G.K) (hu : X.A.units + 64 < cLine) (op : CmpOp) : OpR X (compareOp op) (rCmp G (cmpT op)) := by
  cases op with
  | Eq => exact eqT_ok hK hu
  | NotEq => exact neT_ok hK hu
  | Lt => exact intsT_ok op_lt
  | LtE => exact intsT_ok op_le
  | Gt => exact intsT_ok op_gt
  | GtE => exact intsT_ok op_ge
  | Is => exact isT_ok
  | IsNot => exact isnT_ok
  | In => exact inT_ok hK
  | NotIn => exact ninT_ok hK

/-! ### truth, length, places, slices -/
def truT (μ : Store) : T → Option Bool
  | .u .non => some false
  | .u (.bl b) => some b
  | .u (.int i) => some (i != 0)
  | .u (.str x) => if x.length ≤ sizeLine then some ((x.length : Int) != 0) else none
  | t => match t.seqOf μ with
    | some us => some (!us.isEmpty)
    | none => none
theorem isEmpty_rvs {φ : List Addr} {H : Hp} {us : List U} {vs : List V} (h : RVs G φ H us vs) : vs.isEmpty = us.isEmpty := by
  have := h.length
  cases us <;> cases vs <;> simp_all
theorem truT_ok {φ : List Addr} {μ : Store} {H0 H : Hp} {t : T} {v : V} {b : Bool} (s : RepStore G φ μ H) (e : truT μ t = some b) (r : RT G φ H0 H t v) : TruV G.K v H b := by
  unfold truT at e
  split at e
  · simp only [Option.some.injEq] at e; subst e; simp only [RT, RV] at r; subst r; rfl
  · simp only [Option.some.injEq] at e; subst e; simp only [RT, RV] at r; subst r; rfl
  · simp only [Option.some.injEq] at e; subst e; simp only [RT, RV] at r; subst r; rfl
  · split at e
    · rename_i h; simp only [Option.some.injEq] at e; subst e; simp only [RT, RV] at r; subst r; exact ⟨h, rfl⟩
    · cases e
  · split at e
    · rename_i us h
      simp only [Option.some.injEq] at e; subst e
      obtain ⟨a, vs, rfl, h1, h2⟩ := seqOf_of s h r
      rcases h1 with h1 | h1
      · exact .inl ⟨vs, h1, by rw [isEmpty_rvs h2]⟩
      · exact .inr (.inl ⟨vs, h1, by rw [isEmpty_rvs h2]⟩)
    · cases e
def lenT (μ : Store) : T → Option Nat
  | .u (.str x) => if x.length ≤ sizeLine then some x.length else none
  | t => (t.seqOf μ).map (·.length)
theorem lenT_ok {φ : List Addr} {μ : Store} {H0 H : Hp} {t : T} {v : V} {n : Nat} (s : RepStore G φ μ H) (e : lenT μ t = some n) (r : RT G φ H0 H t v) : LenV G.K v H n := by
  unfold lenT at e
  split at e
  · split at e
    · rename_i h; simp only [Option.some.injEq] at e; subst e; simp only [RT, RV] at r; subst r; exact ⟨h, rfl⟩
    · cases e
  · cases h : T.seqOf μ t with
    | none => rw [h] at e; cases e
    | some us =>
      rw [h] at e
      simp only [Option.map_some, Option.some.injEq] at e; subst e
      obtain ⟨a, vs, rfl, h1, h2⟩ := seqOf_of s h r
      rcases h1 with h1 | h1
      · exact .inl ⟨vs, h1, h2.length.symm⟩
      · exact .inr ⟨vs, h1, h2.length.symm⟩
/-- x[i] -/
def ixT (t1 t2 : T) (μ : Store) : Option T :=
  match t1, t2 with
  | .u (.str z), .u (.int i) => if z.length ≤ sizeLine then (atI z.cps.toList i).map fun c => .u (.str ⟨#[c]⟩) else none
  | t, .u (.int i) => match t.seqOf μ with
    | some us => (atI us i).map .u
    | none => none
  | _, _ => none
theorem ixN_len {α β : Type} {xs : List α} {ys : List β} (h : xs.length = ys.length) {i : Int} {v : α} (e : atI xs i = some v) : ∃ j, ixN xs.length i = some j ∧ xs[j]? = some v ∧ ixN ys.length i = some j := by
  unfold atI at e
  cases q : ixN xs.length i with
  | none => rw [q] at e; cases e
  | some j => rw [q] at e; exact ⟨j, rfl, e, by rw [← h]; exact q⟩
theorem rvs_at {φ : List Addr} {H : Hp} {us : List U} {vs : List V} (h : RVs G φ H us vs) {i : Int} {u : U} (e : atI us i = some u) : ∃ v, atI vs i = some v ∧ RV G φ H u v := by
  obtain ⟨j, h1, h2, h3⟩ := ixN_len (ys := vs) h.length.symm e
  obtain ⟨v, h4, h5⟩ := h.get h2
  exact ⟨v, by unfold atI; rw [h3]; exact h4, h5⟩
theorem ixT_ok {X : Cx} (hK : X.K = G.K) : IxR X (rOp G ixT) := by
  intro value slice pins s σ H x y v u Q I rx ry ⟨φ, μ, H0, t1, t2, t, S, r1, r2, e, h⟩ hs
  unfold ixT at e
  split at e
  · rename_i z i
    split at e
    · rename_i hz
      cases q : atI z.cps.toList i with
      | none => rw [q] at e; cases e
      | some c =>
        rw [q] at e
        simp only [Option.map_some, Option.some.injEq] at e; subst e
        simp only [RT, RV] at r1 r2
        exact ix_str value slice pins s σ H x y v u Q I rx ry ⟨z, i, c, r1, r2, hz, q, fin_val S (by simp [RT, RV]) h⟩ hs
    · cases e
  · rename_i i hno
    split at e
    · rename_i us hq
      cases q : atI us i with
      | none => rw [q] at e; cases e
      | some c =>
        rw [q] at e
        simp only [Option.map_some, Option.some.injEq] at e; subst e
        obtain ⟨a, vs, rfl, h1, h2⟩ := seqOf_of S hq r1
        simp only [RT, RV] at r2
        obtain ⟨w, h3, h4⟩ := rvs_at h2 q
        rcases h1 with h1 | h1
        · exact ix_list value slice pins s σ H _ y v u Q I rx ry ⟨a, vs, i, w, rfl, r2, hK ▸ h1, h3, fin_val S (by simpa only [RT] using h4) h⟩ hs
        · exact ix_tup value slice pins s σ H _ y v u Q I rx ry ⟨a, vs, i, w, rfl, r2, hK ▸ h1, h3, fin_val S (by simpa only [RT] using h4) h⟩ hs
    · cases e
  · cases e
end DP
end
section
/-! DpE: the compact syntax and its evaluator. -/
set_option linter.all false
set_option autoImplicit false
set_option maxRecDepth 100000
namespace DP
open PySem L2

/-- built-in calls of one value -/
inductive B1 where
  | len | tuple | list | int | abs | str | repr | bool | all | any | sum
  deriving DecidableEq
/-- of two -/
inductive B2 where
  | max | min
  deriving DecidableEq
/-- methods -/
inductive Mt where
  | append | pop | popAt | extend | join | get | setdefault
  deriving DecidableEq

/-- a target: a slot, or several targets -/
inductive Tg where
  | nm (i : Nat)
  | tp (ts : List Tg)

mutual
inductive Sx where
  | var (i : Nat)
  | cst (u : U)
  | gl (x : Nat) (u : U)
  | tup (es : List Sx)
  | lst (es : List Sx)
  | sts (tp : Bool) (es : List (Bool × Sx))
  | dsp (es : List (Sx × Sx))
  | bin (op : Operator) (a b : Sx)
  | cmp (op : CmpOp) (a b : Sx)
  | chn (op op' : CmpOp) (a b c : Sx)
  | bop (op : BoolOp) (e : Sx) (es : List Sx)
  | no (a : Sx)
  | ite (c a b : Sx)
  | ix (a i : Sx)
  | slc (a : Sx) (lo hi : Option Sx)
  | rev (a : Sx)
  | mkd (a : Sx)
  | neg (k : Int)
  | call (f : Nat) (es : List Sx)
  | calv (i : Nat) (fs : List Nat) (es : List Sx)
  | b1 (b : B1) (a : Sx)
  | b2 (b : B2) (a c : Sx)
  | mt (m : Mt) (o : Sx) (es : List Sx)
  | mt1 (m : Mt) (o a : Sx)
  | lc (vs : List Nat) (elt : Sx) (tg : Tg) (it : It') (ifs : List Sx)
/-- what a loop goes over -/
inductive It' where
  | pl (e : Sx)
  | rg1 (e : Sx)
  | rg2 (a b : Sx)
  | enm (e : Sx)
  | zp (a b : Sx)
end

inductive Ss where
  | ex (e : Sx)
  | asg (tg : Tg) (e : Sx)
  | asx (a i e : Sx)
  | aug (i : Nat) (op : Operator) (e : Sx)
  | par2 (i j : Nat) (es : List Sx)
  | par3 (i j l : Nat) (es : List Sx)
  | ret (e : Sx)
  | ret0
  | ifs (c : Sx) (a b : List Ss)
  | whl (c : Sx) (b : List Ss)
  | for' (tg : Tg) (it : It') (b : List Ss)
  | brk | cnt | pass

/-- what a callee does: its number, the placed arguments -/
abbrev Calls := Nat → List U → Store → Res U

/-- a value just made gets its place -/
def plc (t : T) (μ : Store) : U × Store :=
  match t with
  | .u u => (u, μ)
  | .l xs => (.loc μ.length, μ ++ [.lst xs])
def placed (r : Res T) : Res U := r.bind fun t μ => .ok (plc t μ).1 (plc t μ).2

def opt (o : Option T) (μ : Store) : Res T :=
  match o with
  | some t => .ok t μ
  | none => .no
def optB (o : Option Bool) (μ : Store) : Res Bool :=
  match o with
  | some t => .ok t μ
  | none => .no

mutual
def asgT : Tg → U → Store → Ev → Option Ev
  | .nm i, u, _, ρ => if i < ρ.length then some (ρ.set i (some u)) else none
  | .tp ts, u, μ, ρ => match (T.u u).seqOf μ with
    | some us => asgTs ts us μ ρ
    | none => none
def asgTs : List Tg → List U → Store → Ev → Option Ev
  | [], [], _, ρ => some ρ
  | t :: ts, u :: us, μ, ρ => match asgT t u μ ρ with
    | some ρ' => asgTs ts us μ ρ'
    | none => none
  | _, _, _, _ => none
end
mutual
/-- the slots of a target -/
def tgIx : Tg → List Nat
  | .nm i => [i]
  | .tp ts => tgIxs ts
def tgIxs : List Tg → List Nat
  | [] => []
  | t :: ts => tgIx t ++ tgIxs ts
end
def wipeE (ρ : Ev) : List Nat → Ev
  | [] => ρ
  | v :: vs => (wipeE ρ vs).set v none

/-- dict: find, put -/
def kEq (a b : U) : Bool := decide (nk a = nk b)
def dGet (kvs : List (U × U)) (k : U) : Option U := (kvs.find? fun p => kEq p.1 k).map (·.2)
def dPut (kvs : List (U × U)) (k v : U) : List (U × U) :=
  if (dGet kvs k).isSome then kvs.map fun p => if kEq p.1 k then (p.1, v) else p else kvs ++ [(k, v)]
def T.dctOf (μ : Store) : T → Option (Nat × List (U × U))
  | .u (.loc n) => match μ[n]? with | some (.dct kvs) => some (n, kvs) | _ => none
  | _ => none

/-- in a module's dict -/
def gdAt (ks : List Str) (us : List U) (z : Str) : Option U := (ks.findIdx? fun y => decide (y = z)).bind fun i => us[i]?
/-- x[i], a dict's too -/
def ixD (t1 t2 : T) (μ : Store) : Option T :=
  match t1.dctOf μ, t2 with
  | some (_, kvs), .u k => if hkD k then (dGet kvs k).map .u else none
  | none, .u (.str z) => match t1 with
    | .u (.gd ks us) => (gdAt ks us z).map .u
    | t1 => ixT t1 (.u (.str z)) μ
  | _, _ => ixT t1 t2 μ
/-- x in y, a dict too -/
def inD (neg : Bool) (t1 t2 : T) (μ : Store) : Option Bool :=
  match t2.dctOf μ, t1 with
  | some (_, kvs), .u k => if hkD k then some (if neg then !(dGet kvs k).isSome else (dGet kvs k).isSome) else none
  | none, .u (.str z) => match t2 with
    | .u (.gd ks _) => some (if neg then !ks.contains z else ks.contains z)
    | t2 => inT neg (.u (.str z)) t2 μ
  | _, _ => inT neg t1 t2 μ
def cmpD : CmpOp → T → T → Store → Option Bool
  | .In => inD false
  | .NotIn => inD true
  | op => cmpT op
def cutU (xs : List U) (lo hi : Option Int) : List U := (xs.drop (HT.sIx xs.length 0 lo)).take (HT.sIx xs.length xs.length hi - HT.sIx xs.length 0 lo)
/-- x[lo:hi] -/
def slT (t : T) (lo hi : Option Int) (μ : Store) : Option T :=
  match t with
  | .u (.str z) => if z.length ≤ sizeLine then some (.u (.str (cutS z lo hi))) else none
  | .u (.tup us) => some (.u (.tup (cutU us lo hi)))
  | t => match t.lstOf μ with
    | some us => some (.l (cutU us lo hi))
    | none => none
/-- x[::-1] -/
def revT (t : T) (μ : Store) : Option T :=
  match t.lstOf μ with
    | some us => some (.l us.reverse)
    | none => none
def strsOf : List U → Option (List Str)
  | [] => some []
  | .str x :: r => (strsOf r).map (x :: ·)
  | _ => none
def blsOf : List U → Option (List Bool)
  | [] => some []
  | .bl x :: r => (blsOf r).map (x :: ·)
  | _ => none
def intsOf : List U → Option (List Int)
  | [] => some []
  | .int x :: r => (intsOf r).map (x :: ·)
  | _ => none
/-- a list of pairs as a dict -/
def dOfs : List U → List (U × U) → Option (List (U × U))
  | [], acc => some acc
  | .tup [k, v] :: r, acc => if hkD k then dOfs r (dPut acc k v) else none
  | _, _ => none
def strT : T → Option T
  | .u (.str x) => some (.u (.str x))
  | .u (.int i) => if i.natAbs.log2 < 1920 then some (.u (.str (Str.ofString (toString i)))) else none
  | _ => none
def reprT : T → Option T
  | .u (.str x) => if (reprQ x).length ≤ sizeLine then some (.u (.str (reprQ x))) else none
  | .u (.int i) => if i.natAbs.log2 < 1920 then some (.u (.str (Str.ofString (toString i)))) else none
  | .u (.bl b) => some (.u (.str (if b then "True" else "False")))
  | .u .non => some (.u (.str "None"))
  | _ => none
def b1T (b : B1) (t : T) (μ : Store) : Option T :=
  match b with
  | .len => match t.dctOf μ with
    | some (_, kvs) => some (.u (.int kvs.length))
    | none => (lenT μ t).map fun n => .u (.int n)
  | .tuple => match t.seqOf μ with
    | some us => some (.u (.tup us))
    | none => match t.dctOf μ with
      | some (_, kvs) => some (.u (.tup (kvs.map (·.1))))
      | none => none
  | .list => (t.seqOf μ).map .l
  | .int => match t with
    | .u (.int i) => some (.u (.int i))
    | .u (.bl b) => some (.u (.int (if b then 1 else 0)))
    | _ => none
  | .abs => match t with
    | .u (.int i) => some (.u (.int (if i < 0 then -i else i)))
    | _ => none
  | .bool => match t with
    | .u (.int i) => some (.u (.bl (i != 0)))
    | .u (.bl b) => some (.u (.bl b))
    | _ => none
  | .str => strT t
  | .all => match t.lstOf μ with
    | some us => (blsOf us).map fun bs => .u (.bl (bs.all id))
    | none => none
  | .any => match t.lstOf μ with
    | some us => (blsOf us).map fun bs => .u (.bl (bs.any id))
    | none => none
  | .sum => match t.lstOf μ with
    | some us => (intsOf us).map fun ns => .u (.int ns.sum)
    | none => none
  | .repr => reprT t
def b2T (b : B2) (t1 t2 : T) : Option T :=
  match b, t1, t2 with
  | .max, .u (.int i), .u (.int j) => some (.u (.int (if j > i then j else i)))
  | .min, .u (.int i), .u (.int j) => some (.u (.int (if j < i then j else i)))
  | _, _, _ => none
/-- a list's method -/
def mtL (m : Mt) (n : Nat) (xs : List U) (us : List U) (μ : Store) : Res T :=
  match m with
  | .append => match us with
    | [u] => if xs.length < sizeLine then .ok (.u .non) (μ.set n (.lst (xs ++ [u]))) else .no
    | _ => .no
  | .pop => match us with
    | [] => match xs[xs.length - 1]? with
      | some u => .ok (.u u) (μ.set n (.lst xs.dropLast))
      | none => .no
    | _ => .no
  | .popAt => match us with
    | [.int i] => if i63 i then match seqIndex? i xs.length with
        | some k => match xs[k]? with
          | some u => .ok (.u u) (μ.set n (.lst (xs.eraseIdx k)))
          | none => .no
        | none => .no
      else .no
    | _ => .no
  | _ => .no
/-- a dict's -/
def mtDc (m : Mt) (n : Nat) (kvs : List (U × U)) (us : List U) (μ : Store) : Res T :=
  match m with
  | .get => match us with
    | [k, d] => if hkD k then .ok (.u ((dGet kvs k).getD d)) μ else .no
    | _ => .no
  | .setdefault => match us with
    | [k, d] => if hkD k then if kvs.length < sizeLine then match dGet kvs k with
        | some u => .ok (.u u) μ
        | none => .ok (.u d) (μ.set n (.dct (dPut kvs k d)))
      else .no else .no
    | _ => .no
  | _ => .no
/-- a method of what stands at a cell: the answer, the store behind -/
def mtT (m : Mt) (t : T) (us : List U) (μ : Store) : Res T :=
  match t with
  | .u (.loc n) => match μ[n]? with
    | some (.lst xs) => mtL m n xs us μ
    | some (.dct kvs) => mtDc m n kvs us μ
    | _ => .no
  | _ => .no
/-- the receiver is of the method's type -/
def tyT (m : Mt) (t : T) (μ : Store) : Bool :=
  match t with
  | .u (.str _) => match m with
    | .join => true
    | _ => false
  | .u (.loc n) => match μ[n]? with
    | some (.lst _) => match m with
      | .append => true
      | .pop => true
      | .popAt => true
      | .extend => true
      | _ => false
    | some (.dct _) => match m with
      | .get => true
      | .setdefault => true
      | _ => false
    | _ => false
  | _ => false
/-- methods whose one argument is looked at as it was just made -/
def mt1T (m : Mt) (t a : T) (μ : Store) : Res T :=
  match t with
  | .u (.str z) => match m with
    | .join => match a.seqOf μ with
      | some us => match strsOf us with
        | some ys => if (ys.map (·.length)).sum + ys.length * z.length ≤ 16777216 then .ok (.u (.str (joinQ z ys))) μ else .no
        | none => .no
      | none => .no
    | _ => .no
  | .u (.loc n) => match m with
    | .extend => match μ[n]? with
      | some (.lst xs) => match a.lstM μ with
        | some zs => if xs.length + zs.length ≤ sizeLine then .ok (.u .non) (μ.set n (.lst (xs ++ zs))) else .no
        | none => .no
      | _ => .no
    | _ => .no
  | _ => .no
/-- a loop's items: what they are, and which cell must stay as it is -/
structure Itm where
  us : List U
  keep : List (Nat × List U) := []
def Itm.ok (x : Itm) (μ : Store) : Bool := x.keep.all fun p => decide (μ[p.1]? = some (.lst p.2))
def itmOf (t : T) (μ : Store) : Option Itm :=
  match t with
  | .u (.loc n) => match μ[n]? with
    | some (.lst xs) => some ⟨xs, [(n, xs)]⟩
    | _ => none
  | t => (t.seqOf μ).map fun us => ⟨us, []⟩
def pairsE : Nat → List U → List U
  | _, [] => []
  | n, u :: us => .tup [.int (n : Nat), u] :: pairsE (n + 1) us
/-- enumerate of it -/
def enmOf (t : T) (μ : Store) : Option Itm := (itmOf t μ).map fun i => ⟨pairsE 0 i.us, i.keep⟩
def zipOf (a b : T) (μ : Store) : Option Itm :=
  if a.tupOf.isSome = b.tupOf.isSome then
    match itmOf a μ, itmOf b μ with
    | some i, some j => some ⟨(i.us.zip j.us).map fun p => .tup [p.1, p.2], i.keep ++ j.keep⟩
    | _, _ => none
  else none
def noEx {α : Type} : Res α → Res α
  | .ok a μ => .ok a μ
  | _ => .no
def lcLoop (tg : Tg) (x : Itm) (ρ : Ev) (ft : Ev → Store → Res Bool) (fe : Ev → Store → Res T) : List U → Store → List U → Res T
  | [], μ, acc => if x.ok μ then .ok (.l acc) μ else .no
  | u :: us, μ, acc => if x.ok μ then
      match asgT tg u μ ρ with
      | none => .no
      | some ρ' => (ft ρ' μ).bind fun b μ1 =>
        if b then (placed (fe ρ' μ1)).bind fun y μ2 => if acc.length < sizeLine then lcLoop tg x ρ ft fe us μ2 (acc ++ [y]) else .no
        else lcLoop tg x ρ ft fe us μ1 acc
    else .no
/-- whole numbers lo, lo + 1, .. -/
def rgU (lo : Int) (n : Nat) : List U := (List.range n).map fun i => U.int (lo + (i : Nat))
def i62 (k : Int) : Bool := decide (-(2 ^ 62) ≤ k) && decide (k < 2 ^ 62)

/-- an expression's two readings: its value, its test -/
structure VB where
  v : Ev → Store → Res T
  b : Ev → Store → Res Bool
def VB.of (v : Ev → Store → Res T) : VB := ⟨v, fun ρ μ => (v ρ μ).bind fun x μ1 => optB (truT μ1 x) μ1⟩
def evs : List VB → Ev → Store → Res (List U)
  | [], _, μ => .ok [] μ
  | e :: es, ρ, μ => (placed (e.v ρ μ)).bind fun u μ1 => (evs es ρ μ1).bind fun us μ2 => .ok (u :: us) μ2
def evd : List (VB × VB) → Ev → Store → Res (List (U × U))
  | [], _, μ => .ok [] μ
  | (k, v) :: es, ρ, μ => (placed (k.v ρ μ)).bind fun u μ1 => (placed (v.v ρ μ1)).bind fun w μ2 => (evd es ρ μ2).bind fun r μ3 => if hkD u then .ok ((u, w) :: r) μ3 else .no
/-- items, some with a star -/
def evst : List (Bool × VB) → Ev → Store → Res (List U)
  | [], _, μ => .ok [] μ
  | (false, e) :: es, ρ, μ => (placed (e.v ρ μ)).bind fun u μ1 => (evst es ρ μ1).bind fun us μ2 => .ok (u :: us) μ2
  | (true, e) :: es, ρ, μ => (e.v ρ μ).bind fun t μ1 => match t.seqOf μ1 with
    | some xs => (evst es ρ μ1).bind fun us μ2 => .ok (xs ++ us) μ2
    | none => .no
def evO : Option VB → Ev → Store → Res (Option Int)
  | none, _, μ => .ok none μ
  | some e, ρ, μ => (e.v ρ μ).bind fun x μ1 => match x with
    | .u (.int i) => .ok (some i) μ1
    | _ => .no
def evV (op : BoolOp) : VB → List VB → Ev → Store → Res T
  | e, [], ρ, μ => e.v ρ μ
  | e, f :: es, ρ, μ => (e.v ρ μ).bind fun x μ1 => match x, op with
    | .u (.bl true), .And => evV op f es ρ μ1
    | .u (.bl false), .And => .ok (.u (.bl false)) μ1
    | .u (.bl false), .Or => evV op f es ρ μ1
    | .u (.bl true), .Or => .ok (.u (.bl true)) μ1
    | _, _ => .no
def evAll (op : BoolOp) : VB → List VB → Ev → Store → Res Bool
  | e, [], ρ, μ => e.b ρ μ
  | e, f :: es, ρ, μ => (e.b ρ μ).bind fun b μ1 => match b, op with
    | true, .And => evAll op f es ρ μ1
    | false, .And => .ok false μ1
    | false, .Or => evAll op f es ρ μ1
    | true, .Or => .ok true μ1
def evIfs : List VB → Ev → Store → Res Bool
  | [], _, μ => .ok true μ
  | [e], ρ, μ => e.b ρ μ
  | _, _, _ => .no

mutual
def vb (C : Calls) : Sx → VB
  | .var i => .of fun ρ μ => match ρ[i]? with
    | some (some u) => .ok (.u u) μ
    | _ => .no
  | .cst u => .of fun _ μ => .ok (.u u) μ
  | .gl _ u => .of fun _ μ => .ok (.u u) μ
  | .neg k => .of fun _ μ => .ok (.u (.int (-k))) μ
  | .tup es => .of fun ρ μ => (evs (vbs C es) ρ μ).bind fun us μ1 => if us.length ≤ sizeLine then .ok (.u (.tup us)) μ1 else .no
  | .lst es => .of fun ρ μ => (evs (vbs C es) ρ μ).bind fun us μ1 => if us.length ≤ sizeLine then .ok (.l us) μ1 else .no
  | .sts tp es => .of fun ρ μ => (evst (vbst C es) ρ μ).bind fun us μ1 => if us.length ≤ sizeLine then .ok (if tp then .u (.tup us) else .l us) μ1 else .no
  | .dsp es => .of fun ρ μ => (evd (vbd C es) ρ μ).bind fun kvs μ1 => .ok (.u (.loc μ1.length)) (μ1 ++ [.dct (kvs.foldl (fun a p => dPut a p.1 p.2) [])])
  | .bin op a b => .of fun ρ μ => ((vb C a).v ρ μ).bind fun x μ1 => ((vb C b).v ρ μ1).bind fun y μ2 => opt (binT op x y μ2) μ2
  | .cmp op a b => ⟨fun ρ μ => ((vb C a).v ρ μ).bind fun x μ1 => ((vb C b).v ρ μ1).bind fun y μ2 => opt ((cmpD op x y μ2).map fun b => .u (.bl b)) μ2,
      fun ρ μ => ((vb C a).v ρ μ).bind fun x μ1 => ((vb C b).v ρ μ1).bind fun y μ2 => optB (cmpD op x y μ2) μ2⟩
  | .chn op op' a b c => ⟨fun ρ μ => ((vb C a).v ρ μ).bind fun x μ1 => ((vb C b).v ρ μ1).bind fun y μ2 => (optB (cmpT op x y μ2) μ2).bind fun t μ3 =>
      if t then ((vb C c).v ρ μ3).bind fun z μ4 => opt ((cmpT op' y z μ4).map fun b => .u (.bl b)) μ4 else .ok (.u (.bl false)) μ3,
      fun ρ μ => ((vb C a).v ρ μ).bind fun x μ1 => ((vb C b).v ρ μ1).bind fun y μ2 => (optB (cmpT op x y μ2) μ2).bind fun t μ3 =>
      if t then ((vb C c).v ρ μ3).bind fun z μ4 => optB (cmpT op' y z μ4) μ4 else .ok false μ3⟩
  | .bop op e es => ⟨evV op (vb C e) (vbs C es), evAll op (vb C e) (vbs C es)⟩
  | .no a => ⟨fun ρ μ => ((vb C a).v ρ μ).bind fun x μ1 => match x with
      | .u (.bl b) => .ok (.u (.bl !b)) μ1
      | _ => .no,
      fun ρ μ => ((vb C a).b ρ μ).bind fun b μ1 => .ok (!b) μ1⟩
  | .ite c a b => ⟨fun ρ μ => ((vb C c).b ρ μ).bind fun t μ1 => if t then (vb C a).v ρ μ1 else (vb C b).v ρ μ1,
      fun ρ μ => ((vb C c).b ρ μ).bind fun t μ1 => if t then (vb C a).b ρ μ1 else (vb C b).b ρ μ1⟩
  | .ix a i => .of fun ρ μ => ((vb C a).v ρ μ).bind fun x μ1 => ((vb C i).v ρ μ1).bind fun y μ2 => opt (ixD x y μ2) μ2
  | .slc a lo hi => .of fun ρ μ => ((vb C a).v ρ μ).bind fun x μ1 => (evO (vbo C lo) ρ μ1).bind fun l μ2 => (evO (vbo C hi) ρ μ2).bind fun h μ3 => opt (slT x l h μ3) μ3
  | .mkd a => .of fun ρ μ => ((vb C a).v ρ μ).bind fun x μ1 => match x.lstOf μ1 with
    | some us => match dOfs us [] with
      | some kvs => .ok (.u (.loc μ1.length)) (μ1 ++ [.dct kvs])
      | none => .no
    | none => .no
  | .rev a => .of fun ρ μ => ((vb C a).v ρ μ).bind fun x μ1 => opt (revT x μ1) μ1
  | .call f es => .of fun ρ μ => (evs (vbs C es) ρ μ).bind fun us μ1 => (C f us μ1).bind fun u μ2 => .ok (.u u) μ2
  | .calv i fs es => .of fun ρ μ => match ρ[i]? with
    | some (some (.fn f)) => if fs.contains f then (evs (vbs C es) ρ μ).bind fun us μ1 => (C f us μ1).bind fun u μ2 => .ok (.u u) μ2 else .no
    | _ => .no
  | .b1 b a => .of fun ρ μ => ((vb C a).v ρ μ).bind fun x μ1 => opt (b1T b x μ1) μ1
  | .b2 b a c => .of fun ρ μ => ((vb C a).v ρ μ).bind fun x μ1 => ((vb C c).v ρ μ1).bind fun y μ2 => opt (b2T b x y) μ2
  | .mt m o es => .of fun ρ μ => ((vb C o).v ρ μ).bind fun x μ1 => if tyT m x μ1 then (evs (vbs C es) ρ μ1).bind fun us μ2 => mtT m x us μ2 else .no
  | .mt1 m o a => .of fun ρ μ => ((vb C o).v ρ μ).bind fun x μ1 => if tyT m x μ1 then ((vb C a).v ρ μ1).bind fun y μ2 => mt1T m x y μ2 else .no
  | .lc vs elt tg it ifs => .of fun ρ μ => (evI C it ρ μ).bind fun x μ1 => noEx (lcLoop tg x (wipeE ρ vs) (evIfs (vbs C ifs)) (vb C elt).v x.us μ1 [])
def vbs (C : Calls) : List Sx → List VB
  | [] => []
  | e :: es => vb C e :: vbs C es
def vbd (C : Calls) : List (Sx × Sx) → List (VB × VB)
  | [] => []
  | (k, v) :: es => (vb C k, vb C v) :: vbd C es
def vbst (C : Calls) : List (Bool × Sx) → List (Bool × VB)
  | [] => []
  | (b, e) :: es => (b, vb C e) :: vbst C es
def vbo (C : Calls) : Option Sx → Option VB
  | none => none
  | some e => some (vb C e)
def evI (C : Calls) : It' → Ev → Store → Res Itm
  | .pl e, ρ, μ => ((vb C e).v ρ μ).bind fun x μ1 => match itmOf x μ1 with
    | some i => .ok i μ1
    | none => .no
  | .rg1 e, ρ, μ => ((vb C e).v ρ μ).bind fun x μ1 => match x with
    | .u (.int j) => if i62 j then .ok ⟨rgU 0 j.toNat, []⟩ μ1 else .no
    | _ => .no
  | .rg2 a b, ρ, μ => ((vb C a).v ρ μ).bind fun x μ1 => ((vb C b).v ρ μ1).bind fun y μ2 => match x, y with
    | .u (.int i), .u (.int j) => if i62 i && i62 j then .ok ⟨rgU i (j - i).toNat, []⟩ μ2 else .no
    | _, _ => .no
  | .enm e, ρ, μ => ((vb C e).v ρ μ).bind fun x μ1 => match enmOf x μ1 with
    | some i => .ok i μ1
    | none => .no
  | .zp a b, ρ, μ => ((vb C a).v ρ μ).bind fun x μ1 => ((vb C b).v ρ μ1).bind fun y μ2 => match zipOf x y μ2 with
    | some i => .ok i μ2
    | none => .no
end

/-! ### statements -/
def toPlc (tg : Tg) (t : T) (ρ : Ev) (μ : Store) : Res Fl :=
  match asgT tg (plc t μ).1 (plc t μ).2 ρ with
  | some ρ' => .ok (.nx ρ') (plc t μ).2
  | none => .no
/-- behind a loop's body -/
def lapE (r : Res Fl) (f : Ev → Store → Res Fl) : Res Fl :=
  match r with
  | .ok (.nx ρ) μ => f ρ μ
  | .ok (.ct ρ) μ => f ρ μ
  | .ok (.bk ρ) μ => .ok (.nx ρ) μ
  | r => r
/-- one statement, then the rest -/
def seqE (r : Res Fl) (f : Ev → Store → Res Fl) : Res Fl :=
  match r with
  | .ok (.nx ρ) μ => f ρ μ
  | r => r
def forL (tg : Tg) (x : Itm) (body : Ev → Store → Res Fl) : List U → Ev → Store → Res Fl
  | [], ρ, μ => if x.ok μ then .ok (.nx ρ) μ else .no
  | u :: us, ρ, μ => if x.ok μ then
      match asgT tg u μ ρ with
      | none => .no
      | some ρ1 => lapE (body ρ1 μ) (forL tg x body us)
    else .no
/-- laps of a while: at most n of them -/
def whlL (c : Ev → Store → Res Bool) (body : Ev → Store → Res Fl) : Nat → Ev → Store → Res Fl
  | 0, _, _ => .no
  | n + 1, ρ, μ => (c ρ μ).bindS ρ fun b μ1 => if b then lapE (body ρ μ1) (whlL c body n) else .ok (.nx ρ) μ1
/-- so many laps at most -/
def whlN : Nat := 100000
def whl (c : Ev → Store → Res Bool) (body : Ev → Store → Res Fl) (ρ : Ev) (μ : Store) : Res Fl := whlL c body whlN ρ μ
def setAll : List Nat → List U → Ev → Option Ev
  | [], [], ρ => some ρ
  | i :: is, u :: us, ρ => if i < ρ.length then setAll is us (ρ.set i (some u)) else none
  | _, _, _ => none
def asxT (a i : T) (u : U) (μ : Store) : Option Store :=
  match a, i with
  | .u (.loc n), .u k => match μ[n]? with
    | some (.lst xs) => match k with
      | .int j => (ixN xs.length j).map fun m => μ.set n (.lst (xs.set m u))
      | _ => none
    | some (.dct kvs) => if hkD k = true ∧ kvs.length < sizeLine then some (μ.set n (.dct (dPut kvs k u))) else none
    | _ => none
  | _, _ => none
def ipT (op : Operator) (x y : T) (μ : Store) : Option T :=
  match op, x, y with
  | .Add, .u (.int i), .u (.int j) => some (.u (.int (i + j)))
  | .Sub, .u (.int i), .u (.int j) => some (.u (.int (i - j)))
  | _, _, _ => none
mutual
def ex (C : Calls) : Ss → Ev → Store → Res Fl
  | .ex e, ρ, μ => ((vb C e).v ρ μ).bindS ρ fun _ μ1 => .ok (.nx ρ) μ1
  | .asg tg e, ρ, μ => ((vb C e).v ρ μ).bindS ρ fun t μ1 => toPlc tg t ρ μ1
  | .asx a i e, ρ, μ => (placed ((vb C e).v ρ μ)).bindS ρ fun u μ1 => ((vb C a).v ρ μ1).bindS ρ fun x μ2 => ((vb C i).v ρ μ2).bindS ρ fun y μ3 => match asxT x y u μ3 with
    | some μ4 => .ok (.nx ρ) μ4
    | none => .no
  | .aug i op e, ρ, μ => match ρ[i]? with
    | some (some x) => ((vb C e).v ρ μ).bindS ρ fun y μ1 => match ipT op (.u x) y μ1 with
      | some t => match t with
        | .u z => .ok (.nx (ρ.set i (some z))) μ1
        | _ => .no
      | none => .no
    | _ => .no
  | .par2 i j es, ρ, μ => (evs (vbs C es) ρ μ).bindS ρ fun us μ1 => match setAll [i, j] us ρ with
    | some ρ' => .ok (.nx ρ') μ1
    | none => .no
  | .par3 i j l es, ρ, μ => (evs (vbs C es) ρ μ).bindS ρ fun us μ1 => match setAll [i, j, l] us ρ with
    | some ρ' => .ok (.nx ρ') μ1
    | none => .no
  | .ret e, ρ, μ => (placed ((vb C e).v ρ μ)).bindS ρ fun u μ1 => .ok (.rt u) μ1
  | .ret0, _, μ => .ok (.rt .non) μ
  | .ifs c a b, ρ, μ => ((vb C c).b ρ μ).bindS ρ fun t μ1 => if t then exs C a ρ μ1 else exs C b ρ μ1
  | .whl c b, ρ, μ => whl (vb C c).b (exs C b) ρ μ
  | .for' tg it b, ρ, μ => (evI C it ρ μ).bindS ρ fun x μ1 => forL tg x (exs C b) x.us ρ μ1
  | .brk, ρ, μ => .ok (.bk ρ) μ
  | .cnt, ρ, μ => .ok (.ct ρ) μ
  | .pass, ρ, μ => .ok (.nx ρ) μ
def exs (C : Calls) : List Ss → Ev → Store → Res Fl
  | [], ρ, μ => .ok (.nx ρ) μ
  | s :: ss, ρ, μ => seqE (ex C s ρ μ) (exs C ss)
end

/-! ### defs -/
mutual
def uLt (n : Nat) : U → Bool
  | .tup us => uLts n us
  | .rl us => uLts n us
  | .loc m => decide (m < n)
  | .gd _ us => uLts n us
  | _ => true
def uLts (n : Nat) : List U → Bool
  | [] => true
  | u :: us => uLt n u && uLts n us
end
def cLt (n : Nat) : Cell → Bool
  | .lst us => uLts n us
  | .dct kvs => kvs.all fun p => uLt n p.1 && uLt n p.2
  | .ins _ fs => fs.all fun p => uLt n p.2
def cln (μ0 μ1 : Store) : Bool := (List.range μ0.length).all fun i => decide (μ1[i]? = μ0[i]?) || match μ1[i]? with
  | some c => cLt μ0.length c
  | none => false
/-- what is left of the store behind a call: cells that nobody has any more are gone -/
def gc (μ0 : Store) (u : U) (μ1 : Store) : U × Store :=
  if cln μ0 μ1 = true then
    if uLt μ0.length u then (u, μ1.take μ0.length)
    else match u with
      | .loc l => match μ1[l]? with
        | some c => if cLt μ0.length c then (.loc μ0.length, μ1.take μ0.length ++ [c]) else (u, μ1)
        | none => (u, μ1)
      | _ => (u, μ1)
  else (u, μ1)
structure Fd where
  pars : Nat
  slots : Nat
  body : List Ss
def evF (F : Nat → Option Fd) : Nat → Calls
  | 0, _, _, _ => .no
  | k + 1, f, us, μ => match F f with
    | none => .no
    | some fd => if us.length = fd.pars then
        match exs (evF F k) fd.body (us.map some ++ List.replicate (fd.slots - fd.pars) none) μ with
        | .ok (.nx _) μ1 => .ok (gc μ .non μ1).1 (gc μ .non μ1).2
        | .ok (.rt u) μ1 => .ok (gc μ u μ1).1 (gc μ u μ1).2
        | .ok (.xx x _) μ1 => .ex x μ1
        | _ => .no
      else .no
end DP
end
section
/-! DpF: which text a compact text stands for; the context. -/
set_option linter.all false
set_option autoImplicit false
set_option maxRecDepth 100000
namespace DP
open PySem PySem.Spec PyProof.Rows L2

/-- the module's names: defs by number, constants -/
structure Gt where
  ft : List (Str × Nat)
  gt : List (Str × U)
/-- a body's names: slots, scope; st: which captured names it may store -/
structure Stt where
  N : List Str
  sc : Scope
  st : Str → Bool

def visB (sc : Scope) (x : Str) : Bool := match sc.names.lookup x with
  | some .local => true
  | some .cell => true
  | some .free => true
  | _ => false
def glB (sc : Scope) (x : Str) : Bool := match sc.names.lookup x with
  | some .globalImplicit => true
  | _ => false
def stB (S : Stt) (x : Str) : Bool := match S.sc.names.lookup x with
  | some .local => true
  | some .cell => S.st x
  | _ => false
def b1N : B1 → Str
  | .len => "len" | .tuple => "tuple" | .list => "list" | .int => "int" | .abs => "abs" | .str => "str" | .repr => "repr" | .bool => "bool" | .all => "all" | .any => "any"
  | .sum => "sum"
def b2N : B2 → Str
  | .max => "max" | .min => "min"
def mtN : Mt → Str
  | .append => "append" | .pop => "pop" | .popAt => "pop" | .extend => "extend" | .join => "join" | .get => "get" | .setdefault => "setdefault"
def isCallE : Expr → Bool
  | .Call .. => true
  | _ => false
def blkS (S : Stt) (scope : Scope) : Stt := ⟨S.N, relS scope S.sc, fun x => match scope.names.lookup x with | some .cell => true | _ => false⟩

mutual
def mT (S : Stt) : Tg → Expr → Bool
  | .nm i, .Name x _ => decide (S.N[i]? = some x) && stB S x
  | .tp ts, .Tuple es _ _ => mTs S ts es
  | _, _ => false
def mTs (S : Stt) : List Tg → List Expr → Bool
  | [], [] => true
  | t :: ts, e :: es => mT S t e && mTs S ts es
  | _, _ => false
end

def isTupE : Expr → Bool
  | .Tuple .. => true
  | _ => false
/-- an enumerate or a zip goes into a tuple of targets -/
def tgIt : It' → Expr → Bool
  | .enm _, t => isTupE t
  | .zp _ _, t => isTupE t
  | _, _ => true
def isSetE : Expr → Bool
  | .Set .. => true
  | _ => false
mutual
def mE (Γ : Gt) : Stt → Sx → Expr → Bool
  | S, .var i, .Name x _ => decide (S.N[i]? = some x) && visB S.sc x
  | _, .cst .non, .Constant .none _ _ => true
  | _, .cst (.bl b), .Constant (.bool c) _ _ => b == c
  | _, .cst (.int i), .Constant (.int j) _ _ => i == j
  | _, .cst (.str x), .Constant (.str y) _ _ => decide (x = y)
  | S, .gl j u, .Name x _ => decide (Γ.gt[j]? = some (x, u)) && glB S.sc x
  | _, .neg k, .UnaryOp .USub (.Constant (.int j) _ _) _ => j == k
  | S, .tup es, .Tuple xs _ _ => mEs Γ S es xs
  | S, .lst es, .List xs _ => mEs Γ S es xs
  | S, .sts true es, .Tuple xs _ _ => mEst Γ S es xs
  | S, .sts false es, .List xs _ => mEst Γ S es xs
  | S, .dsp es, .Dict ks vs _ => mEd Γ S es ks vs && decide (ks.length ≤ 15)
  | S, .bin op a b, .BinOp l o r _ => decide (op = o) && mE Γ S a l && mE Γ S b r
  | S, .cmp op a b, .Compare l [o] [r] _ => decide (op = o) && mE Γ S a l && mE Γ S b r
  | S, .chn op op' a b c, .Compare l [o, o'] [r, z] _ => decide (op = o) && decide (op' = o') && mE Γ S a l && mE Γ S b r && mE Γ S c z
  | S, .bop op e es, .BoolOp o (x :: xs) _ => decide (op = o) && mE Γ S e x && mEs Γ S es xs
  | S, .no a, .UnaryOp .Not x _ => mE Γ S a x
  | S, .ite c a b, .IfExp t x y _ => mE Γ S c t && mE Γ S a x && mE Γ S b y
  | S, .ix a i, .Subscript x y _ => mE Γ S a x && mE Γ S i y
  | S, .slc a lo hi, .Subscript x (.Slice l h none _) _ => mE Γ S a x && mEo Γ S lo l && mEo Γ S hi h
  | S, .rev a, .Subscript x (.Slice none none (some (.UnaryOp .USub (.Constant (.int 1) _ _) _)) _) _ => mE Γ S a x
  | S, .mkd a, .Call (.Name x _) [e] [] _ => decide (x = ("dict" : Str)) && glB S.sc x && mE Γ S a e
  | S, .call f es, .Call (.Name x _) xs [] _ => decide (Γ.ft[f]? = some (x, xs.length)) && glB S.sc x && mEs Γ S es xs
  | S, .calv i fs es, .Call (.Name x _) xs [] _ => decide (S.N[i]? = some x) && visB S.sc x && !xs.isEmpty && (fs.all fun f => match Γ.ft[f]? with | some p => p.2 == xs.length | none => false) && mEs Γ S es xs
  | S, .b1 b a, .Call (.Name x _) [e] [] _ => decide (x = b1N b) && glB S.sc x && mE Γ S a e
  | S, .b2 b a c, .Call (.Name x _) [e, f] [] _ => decide (x = b2N b) && glB S.sc x && mE Γ S a e && mE Γ S c f
  | S, .mt m o es, .Call (.Attribute x a p) xs [] q => decide (a = mtN m) && !isCallE x && (p.endLine == q.line) && decide (xs.length < 30) && mE Γ S o x && mEs Γ S es xs
  | S, .mt1 m o a, .Call (.Attribute x n p) [e] [] q => decide (n = mtN m) && !isCallE x && (p.endLine == q.line) && mE Γ S o x && mE Γ S a e
  | S, .lc vs elt tg it ifs, .ListComp e [⟨t, i, fs, 0⟩] scope _ =>
    blkC S.N S.sc scope (vs.map fun i => (S.N.getD i Str.empty, i)) && mI Γ S it i && tgIt it t && mT (blkS S scope) tg t && (tgIx tg).all (fun i => vs.contains i) && mEs Γ (blkS S scope) ifs fs && mE Γ (blkS S scope) elt e
  | _, _, _ => false
def mEs (Γ : Gt) : Stt → List Sx → List Expr → Bool
  | _, [], [] => true
  | S, e :: es, x :: xs => mE Γ S e x && mEs Γ S es xs
  | _, _, _ => false
def mEd (Γ : Gt) : Stt → List (Sx × Sx) → List (Option Expr) → List Expr → Bool
  | _, [], [], [] => true
  | S, (k, v) :: es, some x :: xs, y :: ys => mE Γ S k x && mE Γ S v y && mEd Γ S es xs ys
  | _, _, _, _ => false
def mEst (Γ : Gt) : Stt → List (Bool × Sx) → List Expr → Bool
  | _, [], [] => true
  | S, (b, e) :: es, x :: xs => (match b, x with
    | true, .Starred y _ => mE Γ S e y
    | false, y => mE Γ S e y
    | _, _ => false) && mEst Γ S es xs
  | _, _, _ => false
def mEo (Γ : Gt) : Stt → Option Sx → Option Expr → Bool
  | _, none, none => true
  | S, some e, some x => mE Γ S e x
  | _, _, _ => false
def mI (Γ : Gt) : Stt → It' → Expr → Bool
  | S, .pl e, x => mE Γ S e x
  | S, .rg1 e, .Call (.Name x _) [a] [] _ => decide (x = ("range" : Str)) && glB S.sc x && mE Γ S e a
  | S, .rg2 e f, .Call (.Name x _) [a, b] [] _ => decide (x = ("range" : Str)) && glB S.sc x && mE Γ S e a && mE Γ S f b
  | S, .enm e, .Call (.Name x _) [a] [] _ => decide (x = ("enumerate" : Str)) && glB S.sc x && mE Γ S e a
  | S, .zp e f, .Call (.Name x _) [a, b] [] _ => decide (x = ("zip" : Str)) && glB S.sc x && mE Γ S e a && mE Γ S f b
  | _, _, _ => false
end

/-- assignments of two or three names at once, stored from the right -/
def swpB (S : Stt) (ts vs : List Expr) : Option (List Str) :=
  if !(ts.length == 2 || ts.length == 3) || vs.length != ts.length then none
  else if vs.any fun | .Starred .. => true | _ => false then none
  else
    let line := (ts.head?.map (·.pos.line)).getD 0
    let names := ts.filterMap fun
      | .Name id pos => if S.sc.names.lookup id == some .local && pos.line == line then some id else none
      | _ => none
    if names.length != ts.length || names.eraseDups.length != names.length then none
    else if vs.all (foldedForSure 8) then none
    else if vs.all (constantsAlone 8) then some []
    else some names
/-- a list comprehension, dropped or stored -/
def isLcE : Expr → Bool
  | .ListComp .. => true
  | .SetComp .. => true
  | .DictComp .. => true
  | _ => false

def par2C (S : Stt) (i j : Nat) (t : Expr) (vs : List Expr) : Bool :=
  match t with
  | .Tuple [.Name x px, .Name y py] _ _ => decide (S.N[i]? = some x) && decide (S.N[j]? = some y) && decide (i ≠ j) && decide (S.sc.names.lookup x = some .local) && decide (S.sc.names.lookup y = some .local) &&
    decide (swpB S [.Name x px, .Name y py] vs = some [x, y]) && decide (vs.length = 2)
  | _ => false
def par3C (S : Stt) (i j l : Nat) (t : Expr) (vs : List Expr) : Bool :=
  match t with
  | .Tuple [.Name x px, .Name y py, .Name z pz] _ _ => decide (S.N[i]? = some x) && decide (S.N[j]? = some y) && decide (S.N[l]? = some z) && decide (i ≠ j) && decide (i ≠ l) && decide (j ≠ l) && decide (S.sc.names.lookup x = some .local) && decide (S.sc.names.lookup y = some .local) && decide (S.sc.names.lookup z = some .local) &&
    decide (swpB S [.Name x px, .Name y py, .Name z pz] vs = some [x, y, z]) && decide (vs.length = 3)
  | _ => false
/-- how a value may go into a target at all -/
def asgC (S : Stt) (t y : Expr) : Bool :=
  match t with
  | .Name x p => match y with
    | .ListComp _ _ scope pos => !(decide (S.sc.names.lookup x = some .local) && (p.line == pos.line)) || !(scope.names.any fun (n, k) => n == x && (k == .local || k == .cell))
    | _ => !isLcE y
  | .Tuple ts _ _ => match y with
    | .Tuple vs _ _ => (swpB S ts vs).isNone
    | _ => true
  | _ => false
mutual
def mS (Γ : Gt) (S : Stt) : Ss → Stmt → Bool
  | .ex e, .Expr x _ => !isLcE x && mE Γ S e x
  | .asg tg e, .Assign [t] y _ => mE Γ S e y && mT S tg t && asgC S t y
  | .asx a i e, .Assign [t] z _ => mE Γ S e z && !isLcE z && match t with
    | .Subscript x y _ => mE Γ S a x && mE Γ S i y
    | _ => false
  | .aug i op e, .AugAssign (.Name x _) o y _ => decide (op = o) && decide (S.N[i]? = some x) && stB S x && mE Γ S e y
  | .par2 i j es, .Assign [t] (.Tuple vs _ _) _ => par2C S i j t vs && mEs Γ S es vs
  | .par3 i j l es, .Assign [t] (.Tuple vs _ _) _ => par3C S i j l t vs && mEs Γ S es vs
  | .ret e, .Return (some x) _ => mE Γ S e x
  | .ret0, .Return none _ => true
  | .ifs c a b, .If x y z _ => mE Γ S c x && mSs Γ S a y && mSs Γ S b z
  | .whl c b, .While x y [] _ => mE Γ S c x && mSs Γ S b y
  | .for' tg it b, .For t i y [] _ => mI Γ S it i && tgIt it t && mT S tg t && mSs Γ S b y
  | .brk, .Break _ => true
  | .cnt, .Continue _ => true
  | .pass, .Pass _ => true
  | _, _ => false
def mSs (Γ : Gt) (S : Stt) : List Ss → List Stmt → Bool
  | [], [] => true
  | s :: ss, x :: xs => mS Γ S s x && mSs Γ S ss xs
  | _, _ => false
end

/-! ### the context -/
/-- what a def's call comes to, told as a promise -/
def spC (G : Gb) (RX : RXT) (n : Nat) (m : List U → Store → Res U) : Sp := fun vs H Q E => vs.length = n ∧ ∃ φ μ us, RepStore G φ μ H ∧ RVs G φ H us vs ∧ Post G RX (fun c d _ H' => E c d H') (rU G) φ [] H Q (m us μ)

def bnames : List Str := ["len", "tuple", "list", "int", "abs", "str", "repr", "bool", "all", "any", "sum", "dict", "max", "min", "sorted", "range", "enumerate", "zip"]

structure XOk (G : Gb) (Γ : Gt) (S : Stt) (RX : RXT) (W : XW) (C : Calls) (k : Nat) (X : Cx) : Prop where
  prog : X.prog = G.P
  w : X.w = G.w
  K : X.K = G.K
  mg : X.mg = G.mg
  base : X.base = G.base
  N : X.N = S.N
  nd : S.N.Nodup
  dbg : ∀ x ∈ S.N, (x == ("__debug__" : Str)) = false ∧ (x == ("__classdict__" : Str)) = false
  sc : X.env.scope = S.sc
  kind : S.sc.kind = .function
  st : ∀ x, S.st x = true → X.fn x = true
  calm : X.calm = true
  room : Room k X.A
  tk : Takes X W
  pass : PassesOwn (model X.prog X.w) X.A X.env X.xe
  fns : ∀ (f : Nat) (x : Str) (n : Nat), Γ.ft[f]? = some (x, n) → (x == ("__debug__" : Str)) = false ∧ ∃ a fd ps, ps.length = n ∧ G.mg x = some (.ref a) ∧ G.fa f = some a ∧ PySem.W.keepIn G.K (.ref a) = true ∧ Binds G.K fd ps [] ∧
    FnOk G.P G.w G.K G.mg G.base (L2.CX G.P G.w) k a fd ps (spC G RX ps.length (C f))
  gls : ∀ (j : Nat) (x : Str) (u : U), Γ.gt[j]? = some (x, u) → (x == ("__debug__" : Str)) = false ∧ ∃ v val, G.mg x = some val ∧ RelV v val ∧ ∀ φ H, RV G φ H u v
  bls : ∀ x ∈ bnames, G.mg x = none
end DP
end
section
/-! DpG: the expressions' rules, one a construct. -/
set_option linter.all false
set_option autoImplicit false
set_option maxRecDepth 100000
namespace DP
open PySem PySem.Spec PyProof.Rows L2

section
variable {G : Gb} {Γ : Gt} {S : Stt} {RX : RXT} {W : XW} {C : Calls} {k : Nat} {X : Cx} {e : Expr}

theorem weakE {t t' : TE} (h : PE X e t) (w : ∀ σ H Q, t' σ H Q → t σ H Q) : PE X e t' := ⟨fun pins s σ H Q I q => h.run pins s σ H Q I (w σ H Q q)⟩
theorem weakT {t t' : TT} (h : PT X e t) (w : ∀ σ H Q, t' σ H Q → t σ H Q) : PT X e t' := ⟨fun pins s σ H Q I q => h.run pins s σ H Q I (w σ H Q q)⟩
theorem weakA {es : List Expr} {t t' : TA} (h : PA X es t) (w : ∀ σ H Q, t' σ H Q → t σ H Q) : PA X es t' := ⟨fun pos pins s σ H Q I q => h.run pos pins s σ H Q I (w σ H Q q)⟩

/-- not shifted -/
theorem tM_bind0 {α β γ δ : Type} {R : List Addr → Hp → Hp → α → β → Prop} {R' : List Addr → Hp → Hp → γ → δ → Prop} {φ : List Addr} {ρ : Ev} {μ : Store} {σ : L2.St} {H : Hp} {Q : δ → Hp → Prop} {m : M α} {k : α → Store → Res γ} {Q1 : β → Hp → Prop}
    (rep : RepS G φ ρ μ σ H) (h : Post G RX W R' φ σ H Q ((m ρ μ).bind k))
    (hq : ∀ a b φ1 μ1 H1, Ext φ φ1 H H1 → RepS G φ1 ρ μ1 σ H1 → R φ1 H H1 a b → Post G RX W R' φ σ H Q (k a μ1) → Q1 b H1) : tM G RX W R m σ H Q1 := by
  refine ⟨φ, ρ, μ, rep, ?_⟩
  cases q : m ρ μ with
  | no => rw [q] at h; exact h
  | ok a μ1 => rw [q] at h; exact fun φ' H' v x s r => hq a v φ' μ1 H' x (rep.up x s) r h
  | ex x μ1 => rw [q] at h; exact h
theorem bind_assoc' {α β γ : Type} (r : Res α) (f : α → Store → Res β) (g : β → Store → Res γ) : (r.bind f).bind g = r.bind fun a μ => (f a μ).bind g := by
  cases r <;> rfl
/-- a value just made gets its place -/
theorem placed_ok {φ φ1 : List Addr} {μ1 : Store} {ρ : Ev} {σ : L2.St} {H H1 : Hp} {t : T} {v : V} (x : Ext φ φ1 H H1) (s : RepS G φ1 ρ μ1 σ H1) (r : RT G φ1 H H1 t v) :
    ∃ φ2, Ext φ φ2 H H1 ∧ RepS G φ2 ρ (plc t μ1).2 σ H1 ∧ RV G φ2 H1 (plc t μ1).1 v := by
  cases t with
  | u w => exact ⟨φ1, x, s, r⟩
  | l us =>
    obtain ⟨a, vs, rfl, h1, h2, h3, h4⟩ := r
    have up : ∀ (n : Nat) (b : Addr), φ1[n]? = some b → (φ1 ++ [a])[n]? = some b := fun n b e => by
      rw [List.getElem?_append_left (List.getElem?_eq_some_iff.mp e).1]; exact e
    have h2' : RVs G (φ1 ++ [a]) H1 us vs := RVs.up Kp.refl up _ _ h2
    refine ⟨φ1 ++ [a], x.placed h3 h4, ⟨s.st.place h3 ⟨vs, h1, h2'⟩, s.len, fun i u e => ?_⟩, ?_⟩
    · obtain ⟨w, e1, e2⟩ := s.env i u e
      exact ⟨w, e1, RV.up Kp.refl up _ _ e2⟩
    · show RV G (φ1 ++ [a]) H1 (.loc μ1.length) (.ref a)
      rw [RV]
      exact ⟨a, rfl, by rw [← s.st.len]; simp⟩

/-! values and tests -/
structure PB (G : Gb) (RX : RXT) (W : XW) (X : Cx) (e : Expr) (m : VB) : Prop where
  v : PE X e (tM G RX W (rT G) m.v)
  b : PT X e (tM G RX W rB m.b)
theorem optB_ok {φ : List Addr} {μ : Store} {σ : L2.St} {H : Hp} {Q : Bool → Hp → Prop} {o : Option Bool} (s : RepStore G φ μ H) (h : Post G RX W rB φ σ H Q (optB o μ)) : ∃ b, o = some b ∧ Q b H := by
  cases o with
  | none => exact h.elim
  | some b => exact ⟨b, rfl, h φ H b Ext.refl s rfl⟩
theorem opt_ok {φ : List Addr} {μ : Store} {σ : L2.St} {H : Hp} {Q : VK} {o : Option T} (h : Post G RX W (rT G) φ σ H Q (opt o μ)) : ∃ t, o = some t ∧ ∀ φ' H' v, Ext φ φ' H H' → RepStore G φ' μ H' → RT G φ' H H' t v → Q v H' := by
  cases o with
  | none => exact h.elim
  | some b => exact ⟨b, rfl, h⟩
theorem pt_of (x : XOk G Γ S RX W C k X) {m : Ev → Store → Res T} (h : PE X e (tM G RX W (rT G) m)) (he : ∀ whole, isTrue e X.env whole = (do let v ← whole; standAt e.pos; holding [v] (truthy v))) : PT X e (tM G RX W rB (VB.of m).b) := by
  refine weakT (pt_truth h he) fun σ H Q ⟨φ, ρ, μ, rep, p⟩ => ?_
  refine tM_bind bas_B rep p fun t v φ1 μ1 H1 _ r1 q h1 => ?_
  obtain ⟨b, e1, e2⟩ := optB_ok r1.st h1
  exact ⟨b, x.K ▸ truT_ok r1.st e1 q, e2⟩
theorem pb_of (x : XOk G Γ S RX W C k X) {m : Ev → Store → Res T} (h : PE X e (tM G RX W (rT G) m)) (he : ∀ whole, isTrue e X.env whole = (do let v ← whole; standAt e.pos; holding [v] (truthy v))) : PB G RX W X e (VB.of m) := ⟨h, pt_of x h he⟩

theorem vis_of {sc : Scope} {x : Str} (h : visB sc x = true) : Vis sc x := by
  unfold visB at h
  split at h
  · rename_i e; exact .inl e
  · rename_i e; exact .inr (.inl e)
  · rename_i e; exact .inr (.inr e)
  · cases h
theorem gl_of {S : Stt} {x : Str} (hs : X.env.scope = S.sc) (h : glB S.sc x = true) : Gl X x := by
  unfold glB at h
  split at h
  · rename_i e
    show X.env.scope.names.lookup x = _
    rw [hs]; exact e
  · cases h
theorem memN {S : Stt} {i : Nat} {x : Str} (h : S.N[i]? = some x) : x ∈ S.N := List.mem_of_getElem? h

/-- what holds of every expression that is matched -/
def plainX : Expr → Bool
  | .Starred .. => false
  | .Slice .. => false
  | .Set .. => false
  | _ => true
theorem mE_plain {s : Sx} (h : mE Γ S s e = true) : plainX e = true := by
  cases e <;> first | rfl | (cases s <;> simp [mE] at h)
theorem starEach_of (h : plainX e = true) (es : List Expr) (env : Env) : starEach (e :: es) env = (false, eval e env) :: starEach es env := by
  cases e <;> first | rfl | (simp [plainX] at h)
theorem marks_of (h : plainX e = true) (op : CmpOp) : behindInMarks op e = false := by
  cases e <;> first | rfl | (simp [plainX] at h)
theorem plainIx_of (h : plainX e = true) : PlainIx e := by
  cases e <;> first | exact fun _ _ => rfl | (simp [plainX] at h)
theorem folded_of (h : plainX e = true) (env : Env) : ∀ x, foldedSetIterable e env x = pure x := by
  cases e <;> first | exact fun _ => rfl | (simp [plainX] at h)
theorem stars_of : ∀ {ss : List Sx} {es : List Expr} (env : Env), mEs Γ S ss es = true → (∀ x ∈ starEach es env, x.1 = false) ∧ (starEach es env).length = es.length
  | [], [], _, _ => ⟨fun _ h => (by cases h), rfl⟩
  | s :: ss, e :: es, env, h => by
    simp only [mEs, Bool.and_eq_true] at h
    rw [starEach_of (mE_plain h.1)]
    obtain ⟨h1, h2⟩ := stars_of env h.2
    refine ⟨fun x hx => ?_, by simp [h2]⟩
    rcases List.mem_cons.mp hx with rfl | hx
    · rfl
    · exact h1 x hx
  | [], _ :: _, _, h => by simp [mEs] at h
  | _ :: _, [], _, h => by simp [mEs] at h
theorem back_of {ss : List Sx} {es : List Expr} (env : Env) (pos : Pos) (h : mEs Γ S ss es = true) : (backTo pos (starEach es env)).any (·.1) = false := by
  rw [List.any_eq_false]
  intro x hx
  obtain ⟨y, hy, rfl⟩ := List.mem_map.mp hx
  have := (stars_of env h).1 y hy
  simp only [this, Bool.false_eq_true, not_false_iff]

/-! ### the constructs -/
theorem r_var (x : XOk G Γ S RX W C k X) {i : Nat} {n : Str} {p : Pos} (h1 : S.N[i]? = some n) (h2 : visB S.sc n = true) : PB G RX W X (.Name n p) (vb C (.var i)) := by
  refine pb_of x (weakE (pe_var (i := i) (by rw [x.N]; exact h1) (by rw [x.sc]; exact vis_of h2) (x.dbg n (memN h1)).1 (x.dbg n (memN h1)).2) fun σ H Q ⟨φ, ρ, μ, rep, q⟩ => ?_) fun _ => rfl
  dsimp only at q
  split at q
  · rename_i u hu
    obtain ⟨v, e1, e2⟩ := rep.env i u hu
    exact ⟨v, e1, q φ H v Ext.refl rep.st e2⟩
  · exact q.elim
theorem tC_ok {u : U} {v : V} (hv : ∀ φ H, RV G φ H u v) {σ : L2.St} {H : Hp} {Q : VK} (h : tM G RX W (rT G) (fun _ μ => .ok (.u u) μ) σ H Q) : Q v H := by
  obtain ⟨φ, ρ, μ, rep, p⟩ := h
  exact p φ H v Ext.refl rep.st (hv φ H)
theorem r_gl (x : XOk G Γ S RX W C k X) {j : Nat} {n : Str} {u : U} {p : Pos} (h1 : Γ.gt[j]? = some (n, u)) (h2 : glB S.sc n = true) : PB G RX W X (.Name n p) (vb C (.gl j u)) := by
  obtain ⟨hd, v, val, hm, hr, hv⟩ := x.gls j n u h1
  exact pb_of x (weakE (pe_glob (gl_of x.sc h2) (by rw [x.mg]; exact hm) hr hd) fun σ H Q h => tC_ok hv h) fun _ => rfl
theorem r_cst (x : XOk G Γ S RX W C k X) {c : Const} {u : U} {v : V} {j : Nat} {p : Pos} (hc : PE X (.Constant c j p) (tC v)) (hv : ∀ φ H, RV G φ H u v) : PB G RX W X (.Constant c j p) (vb C (.cst u)) :=
  pb_of x (weakE hc fun σ H Q h => tC_ok hv h) fun _ => rfl
theorem r_neg (x : XOk G Γ S RX W C k X) {i : Int} {j : Nat} {p q : Pos} : PB G RX W X (.UnaryOp .USub (.Constant (.int i) j p) q) (vb C (.neg i)) :=
  pb_of x (weakE (pe_un un_neg (pe_int (i := i) (j := j) (pos := p))) fun σ H Q h => ⟨i, rfl, tC_ok (fun _ _ => by rw [RV]) h⟩) fun _ => rfl

/-- arguments, each placed -/
theorem pa_cons' {es : List Expr} {m : VB} {ms : List VB} (pl : plainX e = true) (h1 : PE X e (tM G RX W (rT G) m.v)) (h2 : PA X es (tM G RX W (rUs G) (evs ms))) : PA X (e :: es) (tM G RX W (rUs G) (evs (m :: ms))) := by
  refine weakA (pa_cons h1 h2 (starEach_of pl es X.env)) fun σ H Q ⟨φ, ρ, μ, rep, p⟩ => ?_
  have p' : Post G RX W (rUs G) φ σ H Q ((m.v ρ μ).bind fun t μ1 => (evs ms ρ (plc t μ1).2).bind fun us μ2 => .ok ((plc t μ1).1 :: us) μ2) := by
    have e : evs (m :: ms) ρ μ = (m.v ρ μ).bind fun t μ1 => (evs ms ρ (plc t μ1).2).bind fun us μ2 => .ok ((plc t μ1).1 :: us) μ2 := by
      simp only [evs, placed]
      cases m.v ρ μ <;> rfl
    rw [← e]; exact p
  refine tM_bind0 rep p' fun t v φ1 μ1 H1 x1 r1 q h3 => ?_
  obtain ⟨φ2, x2, r2, q2⟩ := placed_ok x1 r1 q
  refine tM_bind bas_Us r2 (Post.shift bas_Us x2 h3) fun us vs φ3 μ3 H3 x3 r3 q3 h4 => ?_
  exact h4 φ3 H3 _ Ext.refl r3.st (RVs.cons (r2.st.rv x3 q2) q3)
theorem pa_nil' : PA X [] (tM G RX W (rUs G) (evs [])) := by
  refine weakA pa_nil fun σ H Q ⟨φ, ρ, μ, rep, p⟩ => ?_
  exact p φ H [] Ext.refl rep.st RVs.nil

theorem r_tup (x : XOk G Γ S RX W C k X) {es : List Expr} {ms : List VB} {j : Nat} {p : Pos} (h : PA X es (tM G RX W (rUs G) (evs ms))) :
    PE X (.Tuple es j p) (tM G RX W (rT G) fun ρ μ => (evs ms ρ μ).bind fun us μ1 => if us.length ≤ sizeLine then .ok (.u (.tup us)) μ1 else .no) := by
  refine weakE (pe_tup h) fun σ H Q ⟨φ, ρ, μ, rep, p⟩ => ?_
  refine tM_bind bas_T rep p fun us vs φ1 μ1 H1 x1 r1 q h1 => ?_
  split at h1
  · rename_i hz
    exact ⟨by rw [RVs.length q]; exact hz, fun a ha => fin_tup r1.st q ha h1⟩
  · exact h1.elim
theorem r_lst (x : XOk G Γ S RX W C k X) {es : List Expr} {ms : List VB} {p : Pos} (h : PA X es (tM G RX W (rUs G) (evs ms))) :
    PE X (.List es p) (tM G RX W (rT G) fun ρ μ => (evs ms ρ μ).bind fun us μ1 => if us.length ≤ sizeLine then .ok (.l us) μ1 else .no) := by
  refine weakE (pe_lst h) fun σ H Q ⟨φ, ρ, μ, rep, p⟩ => ?_
  refine tM_bind bas_T rep p fun us vs φ1 μ1 H1 x1 r1 q h1 => ?_
  split at h1
  · rename_i hz
    exact ⟨by rw [RVs.length q]; exact hz, fun a ha => fin_lst r1.st q ha h1⟩
  · exact h1.elim
/-- two values, then an operation -/
theorem two_ok {ma mb : Ev → Store → Res T} {α β : Type} {R : List Addr → Hp → Hp → α → β → Prop} (hb : Bas R) {f : T → T → Store → Res α} {ta tb : TE} {σ : L2.St} {H : Hp} {Q : β → Hp → Prop} {Q2 : V → V → Hp → Prop}
    (h : tM G RX W R (fun ρ μ => (ma ρ μ).bind fun x μ1 => (mb ρ μ1).bind fun y μ2 => f x y μ2) σ H Q)
    (hq : ∀ t1 t2 x y φ μ H0 H2, RepStore G φ μ H2 → RT G φ H0 H2 t1 x → RT G φ H0 H2 t2 y → Post G RX W R φ σ H2 Q (f t1 t2 μ) → Q2 x y H2) :
    tM G RX W (rT G) ma σ H fun x H1 => tM G RX W (rT G) mb σ H1 fun y H2 => Q2 x y H2 := by
  obtain ⟨φ, ρ, μ, rep, p⟩ := h
  refine tM_bind hb rep p fun t1 v1 φ1 μ1 H1 x1 r1 q1 h1 => ?_
  refine tM_bind hb r1 h1 fun t2 v2 φ2 μ2 H2 x2 r2 q2 h2 => ?_
  exact hq t1 t2 v1 v2 φ2 μ2 H H2 r2.st (r1.st.rt x2 q1) (RT.base x1.dom q2) h2
theorem r_bin (x : XOk G Γ S RX W C k X) {a b : Expr} {ma mb : Ev → Store → Res T} {op : Operator} {p : Pos} (ha : PE X a (tM G RX W (rT G) ma)) (hb : PE X b (tM G RX W (rT G) mb)) :
    PE X (.BinOp a op b p) (tM G RX W (rT G) fun ρ μ => (ma ρ μ).bind fun x μ1 => (mb ρ μ1).bind fun y μ2 => opt (binT op x y μ2) μ2) := by
  refine weakE (pe_op (binT_ok (G := G) x.K op) ha hb) fun σ H Q h => ?_
  refine two_ok (ta := tM G RX W (rT G) ma) (tb := tM G RX W (rT G) mb) bas_T h fun t1 t2 v1 v2 φ μ H0 H2 s q1 q2 h2 => ?_
  obtain ⟨t, e1, e2⟩ := opt_ok h2
  exact ⟨φ, μ, H0, t1, t2, t, s, q1, q2, e1, e2⟩
theorem r_cmp {a b : Expr} {ma mb : Ev → Store → Res T} {op : CmpOp} {f : T → T → Store → Option Bool} {p : Pos} (ho : OpR X (compareOp op) (rCmp G f)) (pl : plainX b = true) (ha : PE X a (tM G RX W (rT G) ma)) (hb : PE X b (tM G RX W (rT G) mb)) :
    PB G RX W X (.Compare a [op] [b] p) ⟨fun ρ μ => (ma ρ μ).bind fun x μ1 => (mb ρ μ1).bind fun y μ2 => opt ((f x y μ2).map fun b => .u (.bl b)) μ2,
      fun ρ μ => (ma ρ μ).bind fun x μ1 => (mb ρ μ1).bind fun y μ2 => optB (f x y μ2) μ2⟩ := by
  refine ⟨weakE (pe_cmpR ho ha hb (marks_of pl op)) fun σ H Q h => ?_, weakT (pt_cmpR ho ha hb (marks_of pl op)) fun σ H Q h => ?_⟩
  · refine two_ok (ta := tM G RX W (rT G) ma) (tb := tM G RX W (rT G) mb) bas_T h fun t1 t2 v1 v2 φ μ H0 H2 s q1 q2 h2 => ?_
    obtain ⟨t, e1, e2⟩ := opt_ok h2
    cases q : f t1 t2 μ with
    | none => rw [q] at e1; cases e1
    | some b =>
      rw [q] at e1
      simp only [Option.map_some, Option.some.injEq] at e1; subst e1
      exact ⟨φ, μ, H0, t1, t2, b, s, q1, q2, q, fin_val s (by simp [RT, RV]) e2⟩
  · refine two_ok (ta := tM G RX W (rT G) ma) (tb := tM G RX W (rT G) mb) bas_B h fun t1 t2 v1 v2 φ μ H0 H2 s q1 q2 h2 => ?_
    obtain ⟨b, e1, e2⟩ := optB_ok s h2
    exact ⟨φ, μ, H0, t1, t2, b, s, q1, q2, e1, ⟨b, rfl, e2⟩⟩
theorem r_no {a : Expr} {m : VB} {p : Pos} (h : PB G RX W X a m) : PB G RX W X (.UnaryOp .Not a p) ⟨fun ρ μ => (m.v ρ μ).bind fun x μ1 => match x with
      | .u (.bl b) => .ok (.u (.bl !b)) μ1
      | _ => .no,
      fun ρ μ => (m.b ρ μ).bind fun b μ1 => .ok (!b) μ1⟩ := by
  refine ⟨weakE (pe_not h.v) fun σ H Q ⟨φ, ρ, μ, rep, p⟩ => ?_, weakT (pt_not h.b) fun σ H Q ⟨φ, ρ, μ, rep, p⟩ => ?_⟩
  · refine tM_bind bas_T rep p fun t v φ1 μ1 H1 _ r1 q h1 => ?_
    split at h1
    · rename_i b
      have q' : RT G φ1 H H1 (.u (.bl b)) v := q
      simp only [RT, RV] at q'
      exact ⟨b, q', h1 φ1 H1 _ Ext.refl r1.st (by simp [rT, RT, RV])⟩
    · exact h1.elim
  · refine tM_bind bas_B rep p fun t v φ1 μ1 H1 _ r1 q h1 => ?_
    have q' : t = v := q
    subst q'
    exact h1 φ1 H1 _ Ext.refl r1.st rfl
theorem pt_ifExp {c a b : Expr} {tc ta tb : TT} {p : Pos} (hc : PT X c tc) (ha : PT X a ta) (hb : PT X b tb) : PT X (.IfExp c a b p) (fun σ H Q => tc σ H fun k H1 => if k = true then ta σ H1 Q else tb σ H1 Q) := by
  refine ⟨fun pins s σ H Q I h => ?_⟩
  refine isTrue_IfExp (thn (hc.run pins s σ H _ I h) fun d s1 ⟨H1, I1, q1⟩ => ?_)
  cases d with
  | true => exact ha.run pins s1 σ H1 Q I1 q1
  | false => exact hb.run pins s1 σ H1 Q I1 q1
theorem r_ite {c a b : Expr} {mc ma mb : VB} {p : Pos} (hc : PB G RX W X c mc) (ha : PB G RX W X a ma) (hb : PB G RX W X b mb) : PB G RX W X (.IfExp c a b p)
    ⟨fun ρ μ => (mc.b ρ μ).bind fun t μ1 => if t then ma.v ρ μ1 else mb.v ρ μ1, fun ρ μ => (mc.b ρ μ).bind fun t μ1 => if t then ma.b ρ μ1 else mb.b ρ μ1⟩ := by
  refine ⟨weakE (pe_ifExp hc.b ha.v hb.v) fun σ H Q ⟨φ, ρ, μ, rep, p⟩ => ?_, weakT (pt_ifExp hc.b ha.b hb.b) fun σ H Q ⟨φ, ρ, μ, rep, p⟩ => ?_⟩
  · refine tM_bind bas_T rep p fun t v φ1 μ1 H1 _ r1 q h1 => ?_
    have q' : t = v := q
    subst q'
    split
    · rename_i e; rw [if_pos e] at h1; exact ⟨φ1, ρ, μ1, r1, h1⟩
    · rename_i e; rw [if_neg e] at h1; exact ⟨φ1, ρ, μ1, r1, h1⟩
  · refine tM_bind bas_B rep p fun t v φ1 μ1 H1 _ r1 q h1 => ?_
    have q' : t = v := q
    subst q'
    split
    · rename_i e; rw [if_pos e] at h1; exact ⟨φ1, ρ, μ1, r1, h1⟩
    · rename_i e; rw [if_neg e] at h1; exact ⟨φ1, ρ, μ1, r1, h1⟩
end
end DP
end
section
/-! DpH: more constructs: and, or, chains, places, slices, calls. -/
set_option linter.all false
set_option autoImplicit false
set_option maxRecDepth 100000
namespace DP
open PySem PySem.Spec PyProof.Rows L2

section
variable {G : Gb} {Γ : Gt} {S : Stt} {RX : RXT} {W : XW} {C : Calls} {k : Nat} {X : Cx} {e : Expr}

def PBs (G : Gb) (RX : RXT) (W : XW) (X : Cx) : List Expr → List VB → Prop
  | [], [] => True
  | e :: es, m :: ms => plainX e = true ∧ PB G RX W X e m ∧ PBs G RX W X es ms
  | _, _ => False
theorem pa_of : ∀ {es : List Expr} {ms : List VB}, PBs G RX W X es ms → PA X es (tM G RX W (rUs G) (evs ms))
  | [], [], _ => pa_nil'
  | e :: es, m :: ms, h => pa_cons' h.1 h.2.1.v (pa_of h.2.2)
  | [], _ :: _, h => h.elim
  | _ :: _, [], h => h.elim

theorem bop_v {op : BoolOp} {p : Pos} : ∀ {es : List Expr} {ms : List VB} {e : Expr} {m : VB}, PB G RX W X e m → PBs G RX W X es ms → PE X (.BoolOp op (e :: es) p) (tM G RX W (rT G) (evV op m ms))
  | [], [], e, m, h, _ => pe_one h.v
  | f :: es, n :: ms, e, m, h, t => by
    have ih := bop_v (op := op) (p := p) t.2.1 t.2.2
    cases op with
    | And =>
      refine weakE (pe_and h.v ih) fun σ H Q ⟨φ, ρ, μ, rep, q⟩ => ?_
      refine tM_bind bas_T rep q fun t v φ1 μ1 H1 _ r1 q1 h1 => ?_
      split at h1
      · have q' : RT G φ1 H H1 (.u (.bl true)) v := q1
        simp only [RT, RV] at q'
        exact ⟨true, q', φ1, ρ, μ1, r1, h1⟩
      · have q' : RT G φ1 H H1 (.u (.bl false)) v := q1
        simp only [RT, RV] at q'
        exact ⟨false, q', h1 φ1 H1 _ Ext.refl r1.st (by simp [rT, RT, RV])⟩
      · rename_i e; cases e
      · rename_i e; cases e
      · exact h1.elim
    | Or =>
      refine weakE (pe_or h.v ih) fun σ H Q ⟨φ, ρ, μ, rep, q⟩ => ?_
      refine tM_bind bas_T rep q fun t v φ1 μ1 H1 _ r1 q1 h1 => ?_
      split at h1
      · rename_i e; cases e
      · rename_i e; cases e
      · have q' : RT G φ1 H H1 (.u (.bl false)) v := q1
        simp only [RT, RV] at q'
        exact ⟨false, q', φ1, ρ, μ1, r1, h1⟩
      · have q' : RT G φ1 H H1 (.u (.bl true)) v := q1
        simp only [RT, RV] at q'
        exact ⟨true, q', h1 φ1 H1 _ Ext.refl r1.st (by simp [rT, RT, RV])⟩
      · exact h1.elim
  | [], _ :: _, _, _, _, h => h.elim
  | _ :: _, [], _, _, _, h => h.elim
theorem weakW {t t' : TT} (h : PW X e t) (w : ∀ σ H Q, t' σ H Q → t σ H Q) : PW X e t' := ⟨fun wh pins s σ H Q I q => h.run wh pins s σ H Q I (w σ H Q q)⟩
theorem bop_b {op : BoolOp} {p : Pos} : ∀ {es : List Expr} {ms : List VB} {e : Expr} {m : VB}, PB G RX W X e m → PBs G RX W X es ms → PW X (.BoolOp op (e :: es) p) (tM G RX W rB (evAll op m ms))
  | [], [], e, m, h, _ => by
    cases op with
    | And => exact pw_and1 h.b
    | Or => exact pw_or1 h.b
  | f :: es, n :: ms, e, m, h, t => by
    have ih := bop_b (op := op) (p := p) t.2.1 t.2.2
    cases op with
    | And =>
      refine weakW (pw_and h.b ih) fun σ H Q ⟨φ, ρ, μ, rep, q⟩ => ?_
      refine tM_bind bas_B rep q fun t v φ1 μ1 H1 _ r1 q1 h1 => ?_
      have q' : t = v := q1
      subst q'
      cases t with
      | true => exact ⟨φ1, ρ, μ1, r1, h1⟩
      | false => exact h1 φ1 H1 _ Ext.refl r1.st rfl
    | Or =>
      refine weakW (pw_or h.b ih) fun σ H Q ⟨φ, ρ, μ, rep, q⟩ => ?_
      refine tM_bind bas_B rep q fun t v φ1 μ1 H1 _ r1 q1 h1 => ?_
      have q' : t = v := q1
      subst q'
      cases t with
      | true => exact h1 φ1 H1 _ Ext.refl r1.st rfl
      | false => exact ⟨φ1, ρ, μ1, r1, h1⟩
  | [], _ :: _, _, _, _, h => h.elim
  | _ :: _, [], _, _, _, h => h.elim
theorem r_bop {op : BoolOp} {p : Pos} {es : List Expr} {ms : List VB} {m : VB} (h : PB G RX W X e m) (hs : PBs G RX W X es ms) : PB G RX W X (.BoolOp op (e :: es) p) ⟨evV op m ms, evAll op m ms⟩ := ⟨bop_v h hs, (bop_b h hs).pt⟩

/-- a < b < c -/
theorem r_chn {a b c : Expr} {ma mb mc : Ev → Store → Res T} {op op' : CmpOp} {f f' : T → T → Store → Option Bool} {p : Pos} (ho : OpR X (compareOp op) (rCmp G f)) (ho' : OpR X (compareOp op') (rCmp G f')) (pl : plainX c = true)
    (ha : PE X a (tM G RX W (rT G) ma)) (hb : PE X b (tM G RX W (rT G) mb)) (hc : PE X c (tM G RX W (rT G) mc)) :
    PB G RX W X (.Compare a [op, op'] [b, c] p) ⟨fun ρ μ => (ma ρ μ).bind fun x μ1 => (mb ρ μ1).bind fun y μ2 => (optB (f x y μ2) μ2).bind fun t μ3 =>
      if t then (mc ρ μ3).bind fun z μ4 => opt ((f' y z μ4).map fun b => .u (.bl b)) μ4 else .ok (.u (.bl false)) μ3,
      fun ρ μ => (ma ρ μ).bind fun x μ1 => (mb ρ μ1).bind fun y μ2 => (optB (f x y μ2) μ2).bind fun t μ3 =>
      if t then (mc ρ μ3).bind fun z μ4 => optB (f' y z μ4) μ4 else .ok false μ3⟩ := by
  have hm : lastMarks [op, op'] [b, c] = false := marks_of pl op'
  refine ⟨weakE (pe_chain ho ho' ha hb hc hm) fun σ H Q ⟨φ, ρ, μ, rep, q⟩ => ?_, weakT (pt_chain ho ho' ha hb hc hm) fun σ H Q ⟨φ, ρ, μ, rep, q⟩ => ?_⟩
  · refine tM_bind bas_T rep q fun t1 v1 φ1 μ1 H1 x1 r1 q1 h1 => ?_
    refine tM_bind bas_T r1 h1 fun t2 v2 φ2 μ2 H2 x2 r2 q2 h2 => ?_
    have q1' : RT G φ2 H H2 t1 v1 := r1.st.rt x2 q1
    have q2' : RT G φ2 H H2 t2 v2 := RT.base x1.dom q2
    cases e1 : f t1 t2 μ2 with
    | none => rw [e1] at h2; exact h2.elim
    | some t =>
      rw [e1] at h2
      refine ⟨φ2, μ2, H, t1, t2, t, r2.st, q1', q2', e1, t, rfl, ?_⟩
      cases t with
      | false => exact h2 φ2 H2 _ Ext.refl r2.st (by simp [rT, RT, RV])
      | true =>
        refine tM_bind bas_T r2 h2 fun t3 v3 φ3 μ3 H3 x3 r3 q3 h3 => ?_
        obtain ⟨t, e3, e4⟩ := opt_ok h3
        cases e5 : f' t2 t3 μ3 with
        | none => rw [e5] at e3; cases e3
        | some d =>
          rw [e5] at e3
          simp only [Option.map_some, Option.some.injEq] at e3; subst e3
          exact ⟨φ3, μ3, H, t2, t3, d, r3.st, r2.st.rt x3 q2', RT.base (x1.trans x2).dom q3, e5, fin_val r3.st (by simp [RT, RV]) e4⟩
  · refine tM_bind bas_B rep q fun t1 v1 φ1 μ1 H1 x1 r1 q1 h1 => ?_
    refine tM_bind bas_B r1 h1 fun t2 v2 φ2 μ2 H2 x2 r2 q2 h2 => ?_
    have q1' : RT G φ2 H H2 t1 v1 := r1.st.rt x2 q1
    have q2' : RT G φ2 H H2 t2 v2 := RT.base x1.dom q2
    cases e1 : f t1 t2 μ2 with
    | none => rw [e1] at h2; exact h2.elim
    | some t =>
      rw [e1] at h2
      refine ⟨φ2, μ2, H, t1, t2, t, r2.st, q1', q2', e1, t, rfl, ?_⟩
      cases t with
      | false => exact ⟨false, rfl, h2 φ2 H2 _ Ext.refl r2.st rfl⟩
      | true =>
        refine tM_bind bas_B r2 h2 fun t3 v3 φ3 μ3 H3 x3 r3 q3 h3 => ?_
        obtain ⟨d, e3, e4⟩ := optB_ok r3.st h3
        exact ⟨φ3, μ3, H, t2, t3, d, r3.st, r2.st.rt x3 q2', RT.base (x1.trans x2).dom q3, e3, ⟨d, rfl, e4⟩⟩

/-- a[i] -/
theorem r_ix {a b : Expr} {ma mb : Ev → Store → Res T} {f : T → T → Store → Option T} {p : Pos} (ho : IxR X (rOp G f)) (pl : plainX b = true) (ha : PE X a (tM G RX W (rT G) ma)) (hb : PE X b (tM G RX W (rT G) mb)) :
    PE X (.Subscript a b p) (tM G RX W (rT G) fun ρ μ => (ma ρ μ).bind fun x μ1 => (mb ρ μ1).bind fun y μ2 => opt (f x y μ2) μ2) := by
  refine weakE (pe_ix ho ha hb (plainIx_of pl)) fun σ H Q h => ?_
  refine two_ok (ta := tM G RX W (rT G) ma) (tb := tM G RX W (rT G) mb) bas_T h fun t1 t2 v1 v2 φ μ H0 H2 s q1 q2 h2 => ?_
  obtain ⟨t, e1, e2⟩ := opt_ok h2
  exact ⟨φ, μ, H0, t1, t2, t, s, q1, q2, e1, e2⟩

/-- slices -/
def rO : List Addr → Hp → Hp → Option Int → Option Int → Prop := fun _ _ _ a b => a = b
theorem bas_O : Bas rO := fun _ _ _ _ _ _ _ h => h
theorem po_of {o : Option Expr} {m : Option VB} (h : match o, m with | none, none => True | some e, some m => PE X e (tM G RX W (rT G) m.v) | _, _ => False) : PO X o (tM G RX W rO (evO m)) := by
  cases o with
  | none =>
    cases m with
    | none => exact ⟨fun pins s σ H Q I ⟨φ, ρ, μ, rep, q⟩ => (po_none (X := X)).run pins s σ H Q I (q φ H _ Ext.refl rep.st rfl)⟩
    | some m => exact h.elim
  | some e =>
    cases m with
    | none => exact h.elim
    | some m =>
      refine ⟨fun pins s σ H Q I ⟨φ, ρ, μ, rep, q⟩ => (po_some h).run pins s σ H Q I ?_⟩
      refine tM_bind bas_O rep q fun t v φ1 μ1 H1 _ r1 q1 h1 => ?_
      split at h1
      · rename_i i
        have q' : RT G φ1 H H1 (.u (.int i)) v := q1
        simp only [RT, RV] at q'
        exact ⟨i, q', h1 φ1 H1 _ Ext.refl r1.st rfl⟩
      · exact h1.elim
theorem rvs_cut {φ : List Addr} {H : Hp} {us : List U} {vs : List V} (h : RVs G φ H us vs) (lo hi : Option Int) : RVs G φ H (cutU us lo hi) (cutV vs lo hi) := by
  unfold cutU cutV
  rw [h.length]
  exact (h.drop _).take _
def rSl (G : Gb) : V → Option Int → Option Int → Hp → VK → Prop := fun x lo hi H Q => ∃ φ μ H0 t r, RepStore G φ μ H ∧ RT G φ H0 H t x ∧ slT t lo hi μ = some r ∧ ∀ φ' H' v, Ext φ φ' H H' → RepStore G φ' μ H' → RT G φ' H H' r v → Q v H'
theorem slT_ok (hK : X.K = G.K) : SlR X (rSl G) := by
  intro pins s σ H x v vl vu lo hi sl Q I rx hsl p1 p2 ⟨φ, μ, H0, t, r, S, r1, e, h⟩
  unfold slT at e
  split at e
  · rename_i z
    split at e
    · rename_i hz
      simp only [Option.some.injEq] at e; subst e
      simp only [RT, RV] at r1
      exact sl_str pins s σ H x v vl vu lo hi sl Q I rx hsl p1 p2 ⟨z, r1, hz, fin_val S (by simp [RT, RV]) h⟩
    · cases e
  · rename_i us
    cases e
    simp only [RT, RV] at r1
    obtain ⟨a, vs, rfl, h1, h2⟩ := r1
    refine sl_tupA pins s σ H _ v vl vu lo hi sl Q I rx hsl p1 p2 ⟨a, vs, rfl, hK ▸ h1, fun hw => ?_, fun _ q hq => fin_tup S (rvs_cut h2 lo hi) hq h⟩
    refine fin_val S ?_ h
    have hc : cutU us lo hi = us := by
      rw [h2.length] at hw
      unfold cutU
      rw [hw.1, hw.2]; simp
    rw [hc, RT, RV]
    exact ⟨a, vs, rfl, h1, h2⟩
  · split at e
    · rename_i us hq
      simp only [Option.some.injEq] at e; subst e
      obtain ⟨a, vs, rfl, h1, h2⟩ := lstOf_of S hq r1
      exact sl_list pins s σ H _ v vl vu lo hi sl Q I rx hsl p1 p2 ⟨a, vs, rfl, hK ▸ h1, fun q hq => fin_lst S (rvs_cut h2 lo hi) hq h⟩
    · cases e
theorem r_slc (x : XOk G Γ S RX W C k X) {a : Expr} {l h : Option Expr} {ma : Ev → Store → Res T} {ml mh : Option VB} {p q : Pos} (ha : PE X a (tM G RX W (rT G) ma)) (hl : PO X l (tM G RX W rO (evO ml))) (hh : PO X h (tM G RX W rO (evO mh))) :
    PE X (.Subscript a (.Slice l h none q) p) (tM G RX W (rT G) fun ρ μ => (ma ρ μ).bind fun x μ1 => (evO ml ρ μ1).bind fun l μ2 => (evO mh ρ μ2).bind fun h μ3 => opt (slT x l h μ3) μ3) := by
  refine weakE (pe_slice (slT_ok (G := G) x.K) ha hl hh) fun σ H Q ⟨φ, ρ, μ, rep, q⟩ => ?_
  refine tM_bind bas_T rep q fun t1 v1 φ1 μ1 H1 x1 r1 q1 h1 => ?_
  refine tM_bind bas_T r1 h1 fun t2 v2 φ2 μ2 H2 x2 r2 q2 h2 => ?_
  refine tM_bind bas_T r2 h2 fun t3 v3 φ3 μ3 H3 x3 r3 q3 h3 => ?_
  have e2 : t2 = v2 := q2
  have e3 : t3 = v3 := q3
  subst e2; subst e3
  obtain ⟨t, e4, e5⟩ := opt_ok h3
  exact ⟨φ3, μ3, H, t1, t, r3.st, r2.st.rt x3 (r1.st.rt x2 q1), e4, e5⟩

/-- items with stars -/
def PBst (G : Gb) (RX : RXT) (W : XW) (X : Cx) : List Expr → List (Bool × VB) → Prop
  | [], [] => True
  | e :: es, (b, m) :: ms => (match b, e with
    | true, .Starred y _ => PB G RX W X y m
    | false, y => plainX y = true ∧ PB G RX W X y m
    | _, _ => False) ∧ PBst G RX W X es ms
  | _, _ => False
theorem past_of (x : XOk G Γ S RX W C k X) : ∀ {es : List Expr} {ms : List (Bool × VB)}, PBst G RX W X es ms → PA X es (tM G RX W (rUs G) (evst ms))
  | [], [], _ => weakA pa_nil fun σ H Q ⟨φ, ρ, μ, rep, p⟩ => p φ H [] Ext.refl rep.st RVs.nil
  | e :: es, (false, m) :: ms, h => by
    obtain ⟨⟨pl, hm⟩, ht⟩ := h
    refine weakA (pa_cons hm.v (past_of x ht) (starEach_of pl es X.env)) fun σ H Q ⟨φ, ρ, μ, rep, p⟩ => ?_
    have p' : Post G RX W (rUs G) φ σ H Q ((m.v ρ μ).bind fun t μ1 => (evst ms ρ (plc t μ1).2).bind fun us μ2 => .ok ((plc t μ1).1 :: us) μ2) := by
      have e : evst ((false, m) :: ms) ρ μ = (m.v ρ μ).bind fun t μ1 => (evst ms ρ (plc t μ1).2).bind fun us μ2 => .ok ((plc t μ1).1 :: us) μ2 := by
        simp only [evst, placed]
        cases m.v ρ μ <;> rfl
      rw [← e]; exact p
    refine tM_bind0 rep p' fun t v φ1 μ1 H1 x1 r1 q h3 => ?_
    obtain ⟨φ2, x2, r2, q2⟩ := placed_ok x1 r1 q
    refine tM_bind bas_Us r2 (Post.shift bas_Us x2 h3) fun us vs φ3 μ3 H3 x3 r3 q3 h4 => ?_
    exact h4 φ3 H3 _ Ext.refl r3.st (RVs.cons (r2.st.rv x3 q2) q3)
  | e :: es, (true, m) :: ms, h => by
    cases e <;> first | (simp [PBst] at h; done) | skip
    rename_i y q
    obtain ⟨hm, ht⟩ := h
    refine weakA (StX.pa_star hm.v (past_of x ht)) fun σ H Q ⟨φ, ρ, μ, rep, p⟩ => ?_
    simp only [evst] at p
    refine tM_bind bas_Us rep p fun t v φ1 μ1 H1 x1 r1 q1 h3 => ?_
    split at h3
    · rename_i xs hx
      obtain ⟨a, vs, rfl, h4, h5⟩ := seqOf_of r1.st hx q1
      refine ⟨a, vs, rfl, x.K ▸ h4.symm, ?_⟩
      refine tM_bind bas_Us r1 h3 fun us ws φ2 μ2 H2 x2 r2 q2 h6 => ?_
      exact h6 φ2 H2 _ Ext.refl r2.st ((r1.st.rvs x2 h5).append q2)
    · exact h3.elim
  | [], _ :: _, h => h.elim
  | _ :: _, [], h => h.elim
theorem r_sts (x : XOk G Γ S RX W C k X) {es : List Expr} {ms : List (Bool × VB)} {j : Nat} {p : Pos} (h : PBst G RX W X es ms) :
    PE X (.Tuple es j p) (tM G RX W (rT G) fun ρ μ => (evst ms ρ μ).bind fun us μ1 => if us.length ≤ sizeLine then .ok (if true then .u (.tup us) else .l us) μ1 else .no) ∧
    PE X (.List es p) (tM G RX W (rT G) fun ρ μ => (evst ms ρ μ).bind fun us μ1 => if us.length ≤ sizeLine then .ok (if false then .u (.tup us) else .l us) μ1 else .no) := by
  constructor
  · refine weakE (pe_tup (past_of x h)) fun σ H Q ⟨φ, ρ, μ, rep, p⟩ => ?_
    refine tM_bind bas_T rep p fun us vs φ1 μ1 H1 x1 r1 q h1 => ?_
    split at h1
    · rename_i hz
      exact ⟨by rw [RVs.length q]; exact hz, fun a ha => fin_tup r1.st q ha h1⟩
    · exact h1.elim
  · refine weakE (pe_lst (past_of x h)) fun σ H Q ⟨φ, ρ, μ, rep, p⟩ => ?_
    refine tM_bind bas_T rep p fun us vs φ1 μ1 H1 x1 r1 q h1 => ?_
    split at h1
    · rename_i hz
      exact ⟨by rw [RVs.length q]; exact hz, fun a ha => fin_lst r1.st q ha h1⟩
    · exact h1.elim

/-! ### calls of the text's own defs -/
theorem call_post {f : Nat} {ps : List Str} {φ : List Addr} {ρ : Ev} {μ : Store} {σ : L2.St} {H : Hp} {Q : VK} {us : List U} {vs : List V}
    (hl : vs.length = ps.length) (r : RepS G φ ρ μ σ H) (q : RVs G φ H us vs) (p : Post G RX W (rT G) φ σ H Q ((C f us μ).bind fun u μ2 => .ok (.u u) μ2)) : spC G RX ps.length (C f) vs H Q (fun c d H' => W c d σ H') := by
  refine ⟨hl, φ, μ, us, r.st, q, ?_⟩
  cases e : C f us μ with
  | no => rw [e] at p; exact p
  | ok u μ1 => rw [e] at p; exact fun φ' H' v x s z => p φ' H' v x s z
  | ex z μ1 => rw [e] at p; exact p
end
end DP
end
section
/-! DpI: calls, built-in calls, methods. -/
set_option linter.all false
set_option autoImplicit false
set_option maxRecDepth 100000
namespace DP
open PySem PySem.Spec PyProof.Rows L2

section
variable {G : Gb} {Γ : Gt} {S : Stt} {RX : RXT} {W : XW} {C : Calls} {k : Nat} {X : Cx} {e : Expr}

theorem fn_at (x : XOk G Γ S RX W C k X) {f : Nat} {n : Str} {ar : Nat} (h : Γ.ft[f]? = some (n, ar)) : (n == ("__debug__" : Str)) = false ∧ ∃ a fd ps, ps.length = ar ∧ X.mg n = some (.ref a) ∧ G.fa f = some a ∧ PySem.W.keepIn X.K (.ref a) = true ∧ Binds X.K fd ps [] ∧
    FnOk X.prog X.w X.K X.mg X.base (L2.CX X.prog X.w) k a fd ps (spC G RX ps.length (C f)) := by
  obtain ⟨h0, a, fd, ps, hl, h1, h2, h3, h4, h5⟩ := x.fns f n ar h
  refine ⟨h0, a, fd, ps, hl, ?_, h2, ?_, ?_, ?_⟩
  · rw [x.mg]; exact h1
  · rw [x.K]; exact h3
  · rw [x.K]; exact h4
  · rw [x.prog, x.w, x.K, x.mg, x.base]; exact h5
theorem run_call (x : XOk G Γ S RX W C k X) {f : Nat} {a : Addr} {fd : FuncData} {ps : List Str} (hb : Binds X.K fd ps []) (F : FnOk X.prog X.w X.K X.mg X.base (L2.CX X.prog X.w) k a fd ps (spC G RX ps.length (C f)))
    {pins : List (Addr × Obj)} {σ : L2.St} {H : Hp} {s : Shared} {Q : VK} {us : List Value} {vs : List V} {φ : List Addr} {ρ : Ev} {μ : Store} {ws : List U} (I : Inv X pins σ H s) (r : Vals vs us) (rep : RepS G φ ρ μ σ H) (q : RVs G φ H ws vs)
    (p : Post G RX W (rT G) φ σ H Q ((C f ws μ).bind fun u μ2 => .ok (.u u) μ2)) (hl : vs.length = ps.length) : wpAny (model X.prog X.w) X.A (call (.ref a) us) (EP X pins σ Q) X.xe s :=
  run_fnS (E := fun σ => WE W σ) F x.room hb (passAt x.tk σ) I r (call_post hl rep q p)
theorem vals_len {φ : List Addr} {H : Hp} {us : List U} {vs : List V} (q : RVs G φ H us vs) : vs.length = us.length := q.length

theorem PBs.len : ∀ {es : List Expr} {ms : List VB}, PBs G RX W X es ms → ms.length = es.length
  | [], [], _ => rfl
  | _ :: _, _ :: _, h => by simp [PBs.len h.2.2]
  | [], _ :: _, h => h.elim
  | _ :: _, [], h => h.elim
theorem evs_len : ∀ {ms : List VB} {ρ : Ev} {μ : Store} {us : List U} {μ1 : Store}, evs ms ρ μ = .ok us μ1 → us.length = ms.length
  | [], ρ, μ, us, μ1, e => by simp only [evs, Res.ok.injEq] at e; rw [← e.1]; rfl
  | m :: ms, ρ, μ, us, μ1, e => by
    simp only [evs] at e
    cases e1 : placed (m.v ρ μ) with
    | no => rw [e1] at e; cases e
    | ex _ _ => rw [e1] at e; cases e
    | ok u μ2 =>
      rw [e1] at e
      simp only [Res.bind] at e
      cases e2 : evs ms ρ μ2 with
      | no => rw [e2] at e; cases e
      | ex _ _ => rw [e2] at e; cases e
      | ok us' μ3 =>
        rw [e2] at e
        simp only [Res.ok.injEq] at e
        rw [← e.1]; simp [evs_len e2]
/-- f(..) -/
theorem r_call (x : XOk G Γ S RX W C k X) {f : Nat} {n : Str} {es : List Expr} {ms : List VB} {p q : Pos} (h1 : Γ.ft[f]? = some (n, es.length)) (h2 : glB S.sc n = true) (h : PBs G RX W X es ms) (hst : (backTo q (starEach es X.env)).any (·.1) = false) :
    PE X (.Call (.Name n p) es [] q) (tM G RX W (rT G) fun ρ μ => (evs ms ρ μ).bind fun us μ1 => (C f us μ1).bind fun u μ2 => .ok (.u u) μ2) := by
  obtain ⟨hd, a, fd, ps, hps, hm, hfa, hk, hb, F⟩ := fn_at x h1
  cases es with
  | nil =>
    cases ms with
    | cons _ _ => exact h.elim
    | nil =>
      refine ⟨fun pins s σ H Q I ⟨φ, ρ, μ, rep, pp⟩ => ?_⟩
      refine wpAny_Call_Name_kw (ld_glob I (gl_of x.sc h2) hm ?_ hd)
      exact PySem.W.callWith_K0 I.kIn hk (run_call x hb F (us := []) (vs := []) I .nil rep .nil pp (by rw [hps]; rfl))
  | cons e es =>
    refine ⟨fun pins s σ H Q I ⟨φ, ρ, μ, rep, pp⟩ => ?_⟩
    cases ms with
    | nil => exact h.elim
    | cons m ms =>
    refine wpAny_Call_Name_kw (ld_glob I (gl_of x.sc h2) hm ?_ hd)
    have hA := pa_of h
    have hp : (backTo q (starEach es X.env)).any (·.1) = false := by
      rw [starEach_of h.1] at hst
      simpa [backTo] using hst
    refine PySem.W.callWith_K (h₀ := X.base) I.ok.mod.kin hk (thn (hA.run q pins s σ H (fun vs H1 => ∃ φ1 μ1 us, RepS G φ1 ρ μ1 σ H1 ∧ RVs G φ1 H1 us vs ∧ us.length = (m :: ms).length ∧ Post G RX W (rT G) φ1 σ H1 Q ((C f us μ1).bind fun u μ2 => .ok (.u u) μ2)) I ?_)
      fun us s1 ⟨vs, H1, I1, r, φ1, μ1, ws, r1, q1, l1, p1⟩ => ⟨I1.kIn, run_call x hb F I1 r r1 q1 p1 (by rw [q1.length, l1, hps, h.len])⟩) (starEach_of h.1 es X.env) hp
    refine ⟨φ, ρ, μ, rep, (Post.bind bas_T rep pp).mono fun b H' ⟨a, φ1, μ1, e1, _, r, q, pz⟩ => ⟨φ1, μ1, a, r, q, evs_len e1, pz⟩⟩

/-! ### built-in calls -/
def rB1 (G : Gb) (f : T → Store → Option T) : List V → Hp → VK → Prop := fun xs H Q => ∃ x φ μ H0 t r, xs = [x] ∧ RepStore G φ μ H ∧ RT G φ H0 H t x ∧ f t μ = some r ∧ ∀ φ' H' v, Ext φ φ' H H' → RepStore G φ' μ H' → RT G φ' H H' r v → Q v H'
theorem one_ok {ma : Ev → Store → Res T} {f : T → Store → Option T} {σ : L2.St} {H : Hp} {Q : VK} (h : tM G RX W (rT G) (fun ρ μ => (ma ρ μ).bind fun x μ1 => opt (f x μ1) μ1) σ H Q) : tCons (tM G RX W (rT G) ma) tNil σ H (fun xs H1 => rB1 G f xs H1 Q) := by
  obtain ⟨φ, ρ, μ, rep, p⟩ := h
  refine tM_bind bas_T rep p fun t v φ1 μ1 H1 x1 r1 q1 h1 => ?_
  obtain ⟨r, e1, e2⟩ := opt_ok h1
  exact ⟨v, φ1, μ1, H, t, r, rfl, r1.st, q1, e1, e2⟩
theorem r_b1B (x : XOk G Γ S RX W C k X) {n : Str} {id : String} {a : Expr} {ma : Ev → Store → Res T} {f : T → Store → Option T} {p q : Pos} (hc : CallR X (.builtin id) (rB1 G f)) (h2 : glB S.sc n = true) (hn : n ∈ bnames) (hv : bootBuiltins n = some (.builtin id)) (h0 : n ≠ "__name__" ∧ (n == ("__debug__" : Str)) = false)
    (pl : plainX a = true) (ha : PE X a (tM G RX W (rT G) ma)) : PE X (.Call (.Name n p) [a] [] q) (tM G RX W (rT G) fun ρ μ => (ma ρ μ).bind fun x μ1 => opt (f x μ1) μ1) :=
  weakE (pe_callB hc (gl_of x.sc h2) (by rw [x.mg]; exact x.bls n hn) hv (pa_cons ha pa_nil (starEach_of pl [] X.env)) h0.1 h0.2 (starEach_of pl [] X.env)) fun σ H Q h => one_ok h
theorem r_b1T (x : XOk G Γ S RX W C k X) {n : Str} {id : String} {a : Expr} {ma : Ev → Store → Res T} {f : T → Store → Option T} {p q : Pos} (hc : CallR X (.type id) (rB1 G f)) (h2 : glB S.sc n = true) (hn : n ∈ bnames) (hv : bootBuiltins n = some (.type id)) (h0 : n ≠ "__name__" ∧ (n == ("__debug__" : Str)) = false)
    (pl : plainX a = true) (ha : PE X a (tM G RX W (rT G) ma)) : PE X (.Call (.Name n p) [a] [] q) (tM G RX W (rT G) fun ρ μ => (ma ρ μ).bind fun x μ1 => opt (f x μ1) μ1) :=
  weakE (pe_callTy hc (gl_of x.sc h2) (by rw [x.mg]; exact x.bls n hn) hv (pa_cons ha pa_nil (starEach_of pl [] X.env)) h0.1 h0.2 (starEach_of pl [] X.env)) fun σ H Q h => one_ok h
theorem callR_imp {f : Value} {r r' : List V → Hp → VK → Prop} (h : CallR X f r) (w : ∀ xs H Q, r' xs H Q → r xs H Q) : CallR X f r' := fun pins s σ H xs us Q I r q => h pins s σ H xs us Q I r (w xs H Q q)
theorem callR_or {f : Value} {r r' : List V → Hp → VK → Prop} (h : CallR X f r) (h' : CallR X f r') : CallR X f (fun xs H Q => r xs H Q ∨ r' xs H Q) := fun pins s σ H xs us Q I rv q => q.elim (h pins s σ H xs us Q I rv) (h' pins s σ H xs us Q I rv)

theorem c_abs : CallR X (.builtin "abs") (rB1 G fun t μ => b1T .abs t μ) := by
  refine callR_imp call_abs fun xs H Q ⟨x, φ, μ, H0, t, r, e, s, q, e1, h⟩ => ?_
  simp only [b1T] at e1
  split at e1
  · rename_i i
    simp only [Option.some.injEq] at e1; subst e1
    simp only [RT, RV] at q
    exact ⟨i, by rw [e, q], fin_val s (by simp [RT, RV]) h⟩
  · cases e1
theorem c_int : CallR X (.type "int") (rB1 G fun t μ => b1T .int t μ) := by
  refine callR_imp call_int1 fun xs H Q ⟨x, φ, μ, H0, t, r, e, s, q, e1, h⟩ => ?_
  simp only [b1T] at e1
  split at e1
  · rename_i i
    simp only [Option.some.injEq] at e1; subst e1
    simp only [RT, RV] at q
    exact .inl ⟨i, by rw [e, q], fin_val s (by simp [RT, RV]) h⟩
  · rename_i b
    simp only [Option.some.injEq] at e1; subst e1
    simp only [RT, RV] at q
    exact .inr ⟨b, by rw [e, q], fin_val s (by simp [RT, RV]) h⟩
  · cases e1
theorem c_bool : CallR X (.type "bool") (rB1 G fun t μ => b1T .bool t μ) := by
  refine callR_imp call_bool1 fun xs H Q ⟨x, φ, μ, H0, t, r, e, s, q, e1, h⟩ => ?_
  simp only [b1T] at e1
  split at e1
  · rename_i i
    simp only [Option.some.injEq] at e1; subst e1
    simp only [RT, RV] at q
    exact .inl ⟨i, by rw [e, q], fin_val s (by simp [RT, RV]) h⟩
  · rename_i b
    simp only [Option.some.injEq] at e1; subst e1
    simp only [RT, RV] at q
    exact .inr ⟨b, by rw [e, q], fin_val s (by simp [RT, RV]) h⟩
  · cases e1
theorem c_str : CallR X (.type "str") (rB1 G fun t μ => b1T .str t μ) := by
  refine callR_imp (callR_or call_str_int SkE.call_str_str) fun xs H Q ⟨x, φ, μ, H0, t, r, e, s, q, e1, h⟩ => ?_
  simp only [b1T, strT] at e1
  split at e1
  · rename_i z
    simp only [Option.some.injEq] at e1; subst e1
    simp only [RT, RV] at q
    exact .inr ⟨z, by rw [e, q], fin_val s (by simp [RT, RV]) h⟩
  · rename_i i
    split at e1
    · rename_i hz
      simp only [Option.some.injEq] at e1; subst e1
      simp only [RT, RV] at q
      exact .inl ⟨i, by rw [e, q], hz, fin_val s (by simp only [RT, RV]) h⟩
    · cases e1
  · cases e1
theorem bls_of {φ : List Addr} {H : Hp} : ∀ {us : List U} {vs : List V} {bs : List Bool}, blsOf us = some bs → RVs G φ H us vs → vs = bs.map V.bl
  | [], vs, bs, e, r => by simp only [blsOf, Option.some.injEq] at e; subst e; exact r.nil_inv
  | u :: us, vs, bs, e, r => by
    obtain ⟨v, w, rfl, h1, h2⟩ := r.cons_inv
    cases u <;> simp only [blsOf] at e <;> first | (cases e; done) | skip
    rename_i b
    cases q : blsOf us with
    | none => rw [q] at e; cases e
    | some bs' =>
      rw [q] at e
      simp only [Option.map_some, Option.some.injEq] at e; subst e
      rw [RV] at h1
      rw [h1, bls_of q h2]; rfl
theorem ints_of {φ : List Addr} {H : Hp} : ∀ {us : List U} {vs : List V} {bs : List Int}, intsOf us = some bs → RVs G φ H us vs → vs = bs.map V.int
  | [], vs, bs, e, r => by simp only [intsOf, Option.some.injEq] at e; subst e; exact r.nil_inv
  | u :: us, vs, bs, e, r => by
    obtain ⟨v, w, rfl, h1, h2⟩ := r.cons_inv
    cases u <;> simp only [intsOf] at e <;> first | (cases e; done) | skip
    rename_i b
    cases q : intsOf us with
    | none => rw [q] at e; cases e
    | some bs' =>
      rw [q] at e
      simp only [Option.map_some, Option.some.injEq] at e; subst e
      rw [RV] at h1
      rw [h1, ints_of q h2]; rfl
theorem strs_of {φ : List Addr} {H : Hp} : ∀ {us : List U} {vs : List V} {bs : List Str}, strsOf us = some bs → RVs G φ H us vs → vs = bs.map V.str
  | [], vs, bs, e, r => by simp only [strsOf, Option.some.injEq] at e; subst e; exact r.nil_inv
  | u :: us, vs, bs, e, r => by
    obtain ⟨v, w, rfl, h1, h2⟩ := r.cons_inv
    cases u <;> simp only [strsOf] at e <;> first | (cases e; done) | skip
    rename_i b
    cases q : strsOf us with
    | none => rw [q] at e; cases e
    | some bs' =>
      rw [q] at e
      simp only [Option.map_some, Option.some.injEq] at e; subst e
      rw [RV] at h1
      rw [h1, strs_of q h2]; rfl
theorem c_all (x : XOk G Γ S RX W C k X) : CallR X (.builtin "all") (rB1 G fun t μ => b1T .all t μ) := by
  refine callR_imp (cr_all x.calm) fun xs H Q ⟨v, φ, μ, H0, t, r, e, s, q, e1, h⟩ => ?_
  simp only [b1T] at e1
  split at e1
  · rename_i us hq
    cases hb : blsOf us with
    | none => rw [hb] at e1; cases e1
    | some bs =>
      rw [hb] at e1
      simp only [Option.map_some, Option.some.injEq] at e1; subst e1
      obtain ⟨a, vs, rfl, h1, h2⟩ := lstOf_of s hq q
      exact ⟨a, bs, e, by rw [x.K, ← bls_of hb h2]; exact h1, fin_val s (by simp [RT, RV]) h⟩
  · cases e1
theorem c_any (x : XOk G Γ S RX W C k X) : CallR X (.builtin "any") (rB1 G fun t μ => b1T .any t μ) := by
  refine callR_imp (cr_any x.calm) fun xs H Q ⟨v, φ, μ, H0, t, r, e, s, q, e1, h⟩ => ?_
  simp only [b1T] at e1
  split at e1
  · rename_i us hq
    cases hb : blsOf us with
    | none => rw [hb] at e1; cases e1
    | some bs =>
      rw [hb] at e1
      simp only [Option.map_some, Option.some.injEq] at e1; subst e1
      obtain ⟨a, vs, rfl, h1, h2⟩ := lstOf_of s hq q
      exact ⟨a, bs, e, by rw [x.K, ← bls_of hb h2]; exact h1, fin_val s (by simp [RT, RV]) h⟩
  · cases e1
theorem c_sum (x : XOk G Γ S RX W C k X) : CallR X (.builtin "sum") (rB1 G fun t μ => b1T .sum t μ) := by
  refine callR_imp (cr_sum x.calm) fun xs H Q ⟨v, φ, μ, H0, t, r, e, s, q, e1, h⟩ => ?_
  simp only [b1T] at e1
  split at e1
  · rename_i us hq
    cases hb : intsOf us with
    | none => rw [hb] at e1; cases e1
    | some bs =>
      rw [hb] at e1
      simp only [Option.map_some, Option.some.injEq] at e1; subst e1
      obtain ⟨a, vs, rfl, h1, h2⟩ := lstOf_of s hq q
      exact ⟨a, bs, e, by rw [x.K, ← ints_of hb h2]; exact h1, fin_val s (by simp [RT, RV]) h⟩
  · cases e1
theorem r_b2 (x : XOk G Γ S RX W C k X) {n : Str} {b : B2} {a c : Expr} {ma mc : Ev → Store → Res T} {p q : Pos} (hn : n = b2N b) (h2 : glB S.sc n = true) (pa : plainX a = true) (pc : plainX c = true)
    (ha : PE X a (tM G RX W (rT G) ma)) (hc : PE X c (tM G RX W (rT G) mc)) : PE X (.Call (.Name n p) [a, c] [] q) (tM G RX W (rT G) fun ρ μ => (ma ρ μ).bind fun x μ1 => (mc ρ μ1).bind fun y μ2 => opt (b2T b x y) μ2) := by
  have key : ∀ (id : String) (r : List V → Hp → VK → Prop), CallR X (.builtin id) r → bootBuiltins n = some (.builtin id) → n ∈ bnames → n ≠ "__name__" → (n == ("__debug__" : Str)) = false →
      (∀ t1 t2 v1 v2 φ μ H0 H2 Q t, RepStore G φ μ H2 → RT G φ H0 H2 t1 v1 → RT G φ H0 H2 t2 v2 → b2T b t1 t2 = some t → (∀ φ' H' v, Ext φ φ' H2 H' → RepStore G φ' μ H' → RT G φ' H2 H' t v → Q v H') → r [v1, v2] H2 Q) →
      PE X (.Call (.Name n p) [a, c] [] q) (tM G RX W (rT G) fun ρ μ => (ma ρ μ).bind fun x μ1 => (mc ρ μ1).bind fun y μ2 => opt (b2T b x y) μ2) := by
    intro id r hr hv hb h0 h00 hw
    refine weakE (pe_callB hr (gl_of x.sc h2) (by rw [x.mg]; exact x.bls n hb) hv (pa_cons ha (pa_cons hc pa_nil (starEach_of pc [] X.env)) (starEach_of pa [c] X.env)) h0 h00 (starEach_of pa [c] X.env) (by rw [starEach_of pc]; rfl)) fun σ H Q h => ?_
    refine two_ok (ta := tM G RX W (rT G) ma) (tb := tM G RX W (rT G) mc) (f := fun x y μ2 => opt (b2T b x y) μ2) bas_T h fun t1 t2 v1 v2 φ μ H0 H2 s q1 q2 hh => ?_
    obtain ⟨t, e1, e2⟩ := opt_ok hh
    exact hw t1 t2 v1 v2 φ μ H0 H2 Q t s q1 q2 e1 e2
  cases b with
  | max =>
    subst hn
    refine key "max" _ (call_max2 x.calm) (by decide +kernel) (by decide +kernel) (by decide +kernel) (by decide +kernel) fun t1 t2 v1 v2 φ μ H0 H2 Q t s q1 q2 e h => ?_
    unfold b2T at e
    split at e
    · rename_i i j _
      simp only [Option.some.injEq] at e; subst e
      simp only [RT, RV] at q1 q2
      exact ⟨i, j, by rw [q1, q2], fin_val s (by simp [RT, RV]) h⟩
    · exact absurd (by assumption : B2.max = B2.min) (by decide)
    · cases e
  | min =>
    subst hn
    refine key "min" _ (call_min2 x.calm) (by decide +kernel) (by decide +kernel) (by decide +kernel) (by decide +kernel) fun t1 t2 v1 v2 φ μ H0 H2 Q t s q1 q2 e h => ?_
    unfold b2T at e
    split at e
    · exact absurd (by assumption : B2.min = B2.max) (by decide)
    · rename_i i j _
      simp only [Option.some.injEq] at e; subst e
      simp only [RT, RV] at q1 q2
      exact ⟨i, j, by rw [q1, q2], fin_val s (by simp [RT, RV]) h⟩
    · cases e
end
end DP
end
section
/-! DpD: dicts whose keys are any plain data: whole numbers, texts, None, tuples of such. -/
set_option linter.all false
set_option autoImplicit false
set_option maxRecDepth 100000
namespace DP
open PySem PySem.Spec PyProof.Rows L2

/-- the keys of a dict's entries -/
structure Ents (w : World) (h : Heap) (ks : List NestedKey) (es : Array DictEntry) : Prop where
  len : es.size = ks.length
  at_ : ∀ (i : Nat) (e : DictEntry), es[i]? = some e → ∃ k', ks[i]? = some k' ∧ NestedIs h k' e.key ∧ k'.depth ≤ 8 ∧ e.hash = k'.hash w
  nd : ks.Nodup

section
variable {prog : Program} {w : World} {A : Around} {E : Value → Shared → Prop} {s : Shared} {d : Addr} {o : Obj} {es : Array DictEntry} {ep : Nat} {ks : List NestedKey} {k : NestedKey} {key : Value}

theorem uniq_ix {i j : Nat} (nd : ks.Nodup) (h1 : ks[i]? = some k) (h2 : ks[j]? = some k) : i = j := by
  obtain ⟨a1, e1⟩ := List.getElem?_eq_some_iff.mp h1
  obtain ⟨a2, e2⟩ := List.getElem?_eq_some_iff.mp h2
  exact (List.getElem_inj nd).mp (e1.trans e2.symm)
theorem eq_ask {a b : Value} {x y : NestedKey} {Q : Bool → Shared → Prop} (hu : A.units + 8 < cLine) (ha : NestedIs s.heap x a) (hb : NestedIs s.heap y b) (hx : x.depth ≤ 8) (h : Q (decide (x = y)) s) : wpAny (model prog w) A (eqBool a b) Q E s := by
  refine eqAt_key x y A s a b ha hb ?_ prog w E Q ?_
  · have : min x.depth y.depth ≤ x.depth := Nat.min_le_left _ _
    omega
  · rw [← NestedKey.decide_eq]; exact h

/-- the walk where all keys are carried by value -/
theorem walk_plain {Q : Option Nat → Shared → Prop} (hu : A.units + 8 < cLine) (hkey : NestedIs s.heap k key) (ho : s.heap.get? d = some o) (hd : o.data = .dict es ep) (he : Ents w s.heap ks es) (hash : Int) (hh : hash = k.hash w)
    (hn : (∀ i : Nat, ks[i]? ≠ some k) → Q none s) (hs : ∀ i : Nat, ks[i]? = some k → Q (some i) s) (ps : List Nat) (hp : ∀ i : Nat, ks[i]? = some k → i ∈ ps) : wpAny (model prog w) A (dictWalkPlain d key hash es ps) Q E s := by
  unfold dictWalkPlain
  refine wpAny_bind ?_
  refine wpAny_forIn_list _ (fun rest r s' => s' = s ∧ r = (none, ()) ∧ ∀ i : Nat, ks[i]? = some k → i ∈ rest) _ ?_ ?_ _ _ ⟨rfl, rfl, hp⟩
  · rintro x rest r s' ⟨rfl, rfl, hr⟩
    have skip : ks[x]? ≠ some k → ∀ i : Nat, ks[i]? = some k → i ∈ rest := fun hx i hi => by
      rcases List.mem_cons.mp (hr i hi) with e | e
      · subst e; exact absurd hi hx
      · exact e
    split
    · rename_i e hx
      obtain ⟨k', h1, h2, h3, h4⟩ := he.at_ x e hx
      by_cases hc : (e.hash == hash) = true
      · rw [if_pos hc]
        refine wpAny_bind (wpAny_dictEpoch ho hd (wpAny_bind (eq_ask hu h2 hkey h3 (wpAny_bind (wpAny_dictEpoch ho hd ?_)))))
        simp only [bne_self_eq_false, Bool.false_eq_true, if_false]
        by_cases hk : k' = k
        · subst hk
          simp only [decide_true, if_true]
          exact wpAny_bind (wpAny_rule (wpAny_pure (wpAny_pure (hs x h1))))
        · simp only [hk, decide_false, Bool.false_eq_true, if_false]
          exact wpAny_bind (wpAny_rule (wpAny_pure ⟨rfl, rfl, skip fun z => hk (Option.some.inj (h1.symm.trans z))⟩))
      · rw [if_neg hc]
        refine wpAny_pure ⟨rfl, rfl, skip fun z => hc ?_⟩
        rw [h1] at z
        cases z
        rw [h4, hh]; exact beq_self_eq_true _
    · rename_i hx
      refine wpAny_pure ⟨rfl, rfl, skip fun z => ?_⟩
      have := (List.getElem?_eq_some_iff.mp z).1
      rw [← he.len] at this
      exact hx es[x] (Array.getElem?_eq_getElem this)
  · rintro r s' ⟨rfl, rfl, hr⟩
    exact wpAny_pure (hn fun i hi => nomatch hr i hi)

theorem mem_places {hash : Int} (he : Ents w s.heap ks es) (hh : hash = k.hash w) {i : Nat} (hi : ks[i]? = some k) : i ∈ placesWithHash es.size (fun i => es[i]?.map (·.hash)) hash := by
  have h1 : i < es.size := by rw [he.len]; exact (List.getElem?_eq_some_iff.mp hi).1
  obtain ⟨k', h2, _, _, h5⟩ := he.at_ i es[i] (Array.getElem?_eq_getElem h1)
  rw [hi] at h2; cases h2
  unfold placesWithHash
  refine List.mem_filter.mpr ⟨List.mem_range.mpr h1, ?_⟩
  show (Option.map (fun x => x.hash) es[i]? == some hash) = true
  rw [Array.getElem?_eq_getElem h1, Option.map_some, h5, hh]
  exact beq_self_eq_true _

theorem may_tell {stored : List Value} {Q : Bool → Shared → Prop} (hkey : NestedIs s.heap k key) (hdep : k.depth ≤ 8) (hst : ∀ v ∈ stored, ∃ k' : NestedKey, NestedIs s.heap k' v ∧ k'.depth ≤ 8) (h : Q false s) : wpAny (model prog w) A (tableMayTell key stored) Q E s := by
  unfold tableMayTell
  split
  · exact wpAny_pure h
  · refine wpAny_bind (quiet_key (prog := prog) (w := w) k key 8 s hkey hdep A E _ ?_)
    simp only [Bool.not_true, Bool.false_eq_true, if_false]
    refine wpAny_bind ?_
    refine wpAny_forIn_list _ (fun rest r s' => s' = s ∧ r = (none, ()) ∧ ∀ v ∈ rest, ∃ k' : NestedKey, NestedIs s.heap k' v ∧ k'.depth ≤ 8) _ ?_ ?_ _ _ ⟨rfl, rfl, hst⟩
    · rintro x rest r s' ⟨rfl, rfl, hr⟩
      obtain ⟨k', h1, h2⟩ := hr x List.mem_cons_self
      refine wpAny_bind (quiet_key (prog := prog) (w := w) k' x 8 s' h1 h2 A E _ ?_)
      simp only [Bool.not_true, Bool.false_eq_true, if_false]
      exact wpAny_pure ⟨rfl, rfl, fun v hv => hr v (List.mem_cons_of_mem _ hv)⟩
    · rintro r s' ⟨rfl, rfl, _⟩
      exact wpAny_pure h

theorem found_text {x : Str} {t : Tok} {Q : Option Nat → Shared → Prop} (hu : A.units + 8 < cLine) (ho : s.heap.get? d = some o) (hd : o.data = .dict es ep) (he : Ents w s.heap ks es) (hx : (es.all fun e => isExactStrKey e.key) = true)
    (hn : (∀ i : Nat, ks[i]? ≠ some (.text x)) → Q none s) (hs : ∀ i : Nat, ks[i]? = some (.text x) → Q (some i) s) : wpAny (model prog w) A (foundByValue d (.str x t) es x) Q E s := by
  have hkey : NestedIs s.heap (.text x) (.str x t) := .text x t
  have isx : ∀ (i : Nat) (e : DictEntry), es[i]? = some e → (e.key.isStr x = true ↔ ks[i]? = some (.text x)) := fun i e hi => by
    obtain ⟨k', h1, h2, h3, h4⟩ := he.at_ i e hi
    have hex : isExactStrKey e.key = true := by
      rw [Array.all_eq_true'] at hx
      exact hx e (Array.mem_of_getElem? hi)
    rw [h1]
    cases k' with
    | text y =>
      cases q : e.key <;> rw [q] at h2 hex <;> first | (simp [isExactStrKey] at hex; done) | skip
      rename_i z u
      cases h2
      simp [Value.isStr]
    | none => cases q : e.key <;> rw [q] at h2 hex <;> first | (simp [isExactStrKey] at hex; done) | cases h2
    | num _ => cases q : e.key <;> rw [q] at h2 hex <;> first | (simp [isExactStrKey] at hex; done) | cases h2
    | tup _ => cases q : e.key <;> rw [q] at h2 hex <;> first | (simp [isExactStrKey] at hex; done) | cases h2
  unfold foundByValue
  cases q : es.findIdx? fun e => e.key.isStr x with
  | none =>
    dsimp only
    refine wpAny_pure (hn fun i hi => ?_)
    have hl : i < es.size := by rw [he.len]; exact (List.getElem?_eq_some_iff.mp hi).1
    rw [Array.findIdx?_eq_none_iff] at q
    have := q es[i] (Array.getElem_mem hl)
    rw [(isx i es[i] (Array.getElem?_eq_getElem hl)).mpr hi] at this
    cases this
  | some i =>
    obtain ⟨hl, h1, _⟩ := Array.findIdx?_eq_some_iff_getElem.mp q
    have hi := (isx i es[i] (Array.getElem?_eq_getElem hl)).mp h1
    obtain ⟨k', g1, g2, g3, g4⟩ := he.at_ i es[i] (Array.getElem?_eq_getElem hl)
    rw [hi] at g1; cases g1
    dsimp only
    rw [Array.getElem?_eq_getElem hl]
    dsimp only
    refine wpAny_bind (wpAny_dictEpoch ho hd (wpAny_bind (eq_ask hu g2 hkey g3 (wpAny_bind (wpAny_dictEpoch ho hd ?_)))))
    simp only [bne_self_eq_false, Bool.false_eq_true, if_false, decide_true, if_true]
    exact wpAny_bind (wpAny_rule (wpAny_pure (hs i hi)))

theorem find_ok {Q : Option Nat → Shared → Prop} (hu : A.units + 8 < cLine) (hkey : NestedIs s.heap k key) (hdep : k.depth ≤ 8) (ho : s.heap.get? d = some o) (hd : o.data = .dict es ep) (he : Ents w s.heap ks es)
    (hn : (∀ i : Nat, ks[i]? ≠ some k) → Q none s) (hs : ∀ i : Nat, ks[i]? = some k → Q (some i) s) : wpAny (model prog w) A (dictFind d key (k.hash w)) Q E s := by
  have hst : ∀ v ∈ (placesWithHash es.size (fun i => es[i]?.map (·.hash)) (k.hash w)).filterMap (fun i => es[i]?.map (·.key)), ∃ k' : NestedKey, NestedIs s.heap k' v ∧ k'.depth ≤ 8 := fun v hv => by
    obtain ⟨i, _, hi⟩ := List.mem_filterMap.mp hv
    cases hei : es[i]? with
    | none => rw [hei] at hi; cases hi
    | some e =>
      rw [hei] at hi
      simp only [Option.map_some, Option.some.injEq] at hi
      subst hi
      obtain ⟨k', _, h2, h3, _⟩ := he.at_ i e hei
      exact ⟨k', h2, h3⟩
  have hnd : (placesWithHash es.size (fun i => es[i]?.map (·.hash)) (k.hash w)).Nodup := (List.filter_sublist).nodup List.nodup_range
  have hmem : ∀ i : Nat, ks[i]? = some k → i ∈ placesWithHash es.size (fun i => es[i]?.map (·.hash)) (k.hash w) := fun i hi => mem_places he rfl hi
  have hplain := walk_plain (prog := prog) (E := E) (Q := Q) hu hkey ho hd he (k.hash w) rfl hn hs (placesWithHash es.size (fun i => es[i]?.map (·.hash)) (k.hash w)) hmem
  have htell : ∀ (Q : Bool → Shared → Prop), Q false s → wpAny (model prog w) A (tableMayTell key ((placesWithHash es.size (fun i => es[i]?.map (·.hash)) (k.hash w)).filterMap (fun i => es[i]?.map (·.key)))) Q E s := fun Q h => may_tell hkey hdep hst h
  have hold : ∀ (a : Addr), key = .ref a → ¬ (es.any fun e => e.key == key && e.hash != k.hash w) = true := fun a ha hc => by
    rw [← Array.any_toList, List.any_eq_true] at hc
    obtain ⟨e, hin, hc⟩ := hc
    obtain ⟨i, hi, rfl⟩ := List.getElem_of_mem hin
    have hi' : i < es.size := by simpa using hi
    obtain ⟨k', h1, h2, h3, h4⟩ := he.at_ i es[i] (Array.getElem?_eq_getElem hi')
    simp only [Array.getElem_toList, Bool.and_eq_true, beq_iff_eq, bne_iff_ne, ne_eq] at hc
    rw [hc.1] at h2
    rw [h4, NestedIs.inj _ _ _ h2 hkey] at hc
    exact hc.2 rfl
  unfold dictFind
  try with_reducible refine wpAny_holding ?_
  refine wpAny_bind (wpAny_dictEntries ho hd ?_)
  generalize placesWithHash es.size (fun i => es[i]?.map (·.hash)) (k.hash w) = P at *
  have hno : ∀ b : Bool, ¬ ((false && b) = true) := fun b z => by cases b <;> exact Bool.false_ne_true z
  cases key
  case str x t =>
    obtain rfl : k = .text x := by cases hkey; rfl
    by_cases hx : (es.all fun e => isExactStrKey e.key) = true
    · dsimp only
      rw [if_pos hx]
      exact found_text hu ho hd he hx hn hs
    · dsimp only
      rw [if_neg hx]
      by_cases hc : ((Value.str x t :: (List.filterMap (fun i => Option.map (fun x : DictEntry => x.key) es[i]?) P)).all carriedByValue) = true
      · rw [if_pos hc]; exact hplain
      · rw [if_neg hc]
        by_cases h1 : ((List.filterMap (fun i => Option.map (fun x : DictEntry => x.key) es[i]?) P) == [Value.str x t]) = true
        · rw [if_pos h1]
          refine wpAny_bind (wpAny_pure ?_)
          rw [if_neg (hno _)]
          refine wpAny_bind ?_
          refine wpAny_forIn_list _ (fun (rest : List Nat) (r : Option (Option Nat) × Option Nat) s' => s' = s ∧ r.1 = none ∧ rest.Nodup ∧ ((r.2 = none ∧ ∀ i : Nat, ks[i]? = some (.text x) → i ∈ rest) ∨ ∃ j : Nat, r.2 = some j ∧ ks[j]? = some (.text x) ∧ j ∉ rest)) _ ?_ ?_ _ _ ⟨rfl, rfl, hnd, .inl ⟨rfl, hmem⟩⟩
          · rintro i rest ⟨r1, r2⟩ s' ⟨rfl, h1, hnd', hinv⟩
            have h1' : r1 = none := h1
            subst h1'
            have hnd2 := (List.nodup_cons.mp hnd').2
            have hni := (List.nodup_cons.mp hnd').1
            have keep : ks[i]? ≠ some (.text x) → ((r2 = none ∧ ∀ i : Nat, ks[i]? = some (.text x) → i ∈ rest) ∨ ∃ j : Nat, r2 = some j ∧ ks[j]? = some (.text x) ∧ j ∉ rest) := fun hx => by
              rcases hinv with ⟨hr, hm⟩ | ⟨j, hr, hj, hjn⟩
              · exact .inl ⟨hr, fun j hj => by
                  rcases List.mem_cons.mp (hm j hj) with e | e
                  · rw [e] at hj; exact absurd hj hx
                  · exact e⟩
              · exact .inr ⟨j, hr, hj, fun z => hjn (List.mem_cons_of_mem _ z)⟩
            dsimp only
            cases hx : es[i]? with
            | some e =>
              obtain ⟨k', g1, g2, g3, g4⟩ := he.at_ i e hx
              dsimp only
              by_cases hh : (e.hash == (NestedKey.hash w (.text x))) = true
              · rw [if_pos hh]
                refine wpAny_bind (wpAny_dictEpoch ho hd (wpAny_bind (eq_ask hu g2 hkey g3 (wpAny_bind (wpAny_dictEpoch ho hd ?_)))))
                rw [if_neg (fun z => by rw [bne_self_eq_false] at z; exact Bool.false_ne_true z)]
                by_cases hk : k' = (.text x)
                · rw [decide_eq_true hk, if_pos rfl]
                  rcases hinv with ⟨hr, hm⟩ | ⟨j, hr, hj, hjn⟩
                  · have hr' : r2 = none := hr
                    subst hr'
                    rw [if_neg (show ¬ ((none : Option Nat).isSome = true) from Bool.false_ne_true)]
                    refine wpAny_bind (wpAny_rule ?_)
                    by_cases hl : (List.filterMap (fun i => Option.map (fun x : DictEntry => x.key) es[i]?) P).length < 2
                    · rw [if_pos hl]
                      exact wpAny_pure (wpAny_pure (hs i (by rw [g1, hk])))
                    · rw [if_neg hl]
                      exact wpAny_pure ⟨rfl, rfl, hnd2, .inr ⟨i, rfl, by rw [g1, hk], hni⟩⟩
                  · have := uniq_ix he.nd hj (by rw [g1, hk])
                    subst this
                    exact absurd List.mem_cons_self hjn
                · rw [decide_eq_false hk, if_neg Bool.false_ne_true]
                  refine wpAny_bind (wpAny_rule ?_)
                  rw [if_neg (hno _)]
                  exact wpAny_pure ⟨rfl, rfl, hnd2, keep fun z => hk (by rw [g1] at z; exact Option.some.inj z)⟩
              · rw [if_neg hh]
                refine wpAny_pure ⟨rfl, rfl, hnd2, keep fun z => hh ?_⟩
                rw [g1] at z
                cases z
                rw [g4]; exact beq_self_eq_true _
            | none =>
              dsimp only
              refine wpAny_pure ⟨rfl, rfl, hnd2, keep fun z => ?_⟩
              have := (List.getElem?_eq_some_iff.mp z).1
              rw [← he.len] at this
              rw [Array.getElem?_eq_getElem this] at hx; cases hx
          · rintro ⟨r1, r2⟩ s' ⟨rfl, h1, _, hinv⟩
            have h1' : r1 = none := h1
            subst h1'
            dsimp only
            rcases hinv with ⟨hr, hm⟩ | ⟨j, hr, hj, _⟩
            · have hr' : r2 = none := hr
              subst hr'
              exact wpAny_pure (hn fun i hi => nomatch hm i hi)
            · have hr' : r2 = some j := hr
              subst hr'
              exact wpAny_pure (hs j hj)
        · rw [if_neg h1]
          refine wpAny_bind (htell _ ?_)
          rw [if_neg (hno _)]
          refine wpAny_bind ?_
          refine wpAny_forIn_list _ (fun (rest : List Nat) (r : Option (Option Nat) × Option Nat) s' => s' = s ∧ r.1 = none ∧ rest.Nodup ∧ ((r.2 = none ∧ ∀ i : Nat, ks[i]? = some (.text x) → i ∈ rest) ∨ ∃ j : Nat, r.2 = some j ∧ ks[j]? = some (.text x) ∧ j ∉ rest)) _ ?_ ?_ _ _ ⟨rfl, rfl, hnd, .inl ⟨rfl, hmem⟩⟩
          · rintro i rest ⟨r1, r2⟩ s' ⟨rfl, h1, hnd', hinv⟩
            have h1' : r1 = none := h1
            subst h1'
            have hnd2 := (List.nodup_cons.mp hnd').2
            have hni := (List.nodup_cons.mp hnd').1
            have keep : ks[i]? ≠ some (.text x) → ((r2 = none ∧ ∀ i : Nat, ks[i]? = some (.text x) → i ∈ rest) ∨ ∃ j : Nat, r2 = some j ∧ ks[j]? = some (.text x) ∧ j ∉ rest) := fun hx => by
              rcases hinv with ⟨hr, hm⟩ | ⟨j, hr, hj, hjn⟩
              · exact .inl ⟨hr, fun j hj => by
                  rcases List.mem_cons.mp (hm j hj) with e | e
                  · rw [e] at hj; exact absurd hj hx
                  · exact e⟩
              · exact .inr ⟨j, hr, hj, fun z => hjn (List.mem_cons_of_mem _ z)⟩
            dsimp only
            cases hx : es[i]? with
            | some e =>
              obtain ⟨k', g1, g2, g3, g4⟩ := he.at_ i e hx
              dsimp only
              by_cases hh : (e.hash == (NestedKey.hash w (.text x))) = true
              · rw [if_pos hh]
                refine wpAny_bind (wpAny_dictEpoch ho hd (wpAny_bind (eq_ask hu g2 hkey g3 (wpAny_bind (wpAny_dictEpoch ho hd ?_)))))
                rw [if_neg (fun z => by rw [bne_self_eq_false] at z; exact Bool.false_ne_true z)]
                by_cases hk : k' = (.text x)
                · rw [decide_eq_true hk, if_pos rfl]
                  rcases hinv with ⟨hr, hm⟩ | ⟨j, hr, hj, hjn⟩
                  · have hr' : r2 = none := hr
                    subst hr'
                    rw [if_neg (show ¬ ((none : Option Nat).isSome = true) from Bool.false_ne_true)]
                    refine wpAny_bind (wpAny_rule ?_)
                    by_cases hl : (List.filterMap (fun i => Option.map (fun x : DictEntry => x.key) es[i]?) P).length < 2
                    · rw [if_pos hl]
                      exact wpAny_pure (wpAny_pure (hs i (by rw [g1, hk])))
                    · rw [if_neg hl]
                      exact wpAny_pure ⟨rfl, rfl, hnd2, .inr ⟨i, rfl, by rw [g1, hk], hni⟩⟩
                  · have := uniq_ix he.nd hj (by rw [g1, hk])
                    subst this
                    exact absurd List.mem_cons_self hjn
                · rw [decide_eq_false hk, if_neg Bool.false_ne_true]
                  refine wpAny_bind (wpAny_rule ?_)
                  rw [if_neg (hno _)]
                  exact wpAny_pure ⟨rfl, rfl, hnd2, keep fun z => hk (by rw [g1] at z; exact Option.some.inj z)⟩
              · rw [if_neg hh]
                refine wpAny_pure ⟨rfl, rfl, hnd2, keep fun z => hh ?_⟩
                rw [g1] at z
                cases z
                rw [g4]; exact beq_self_eq_true _
            | none =>
              dsimp only
              refine wpAny_pure ⟨rfl, rfl, hnd2, keep fun z => ?_⟩
              have := (List.getElem?_eq_some_iff.mp z).1
              rw [← he.len] at this
              rw [Array.getElem?_eq_getElem this] at hx; cases hx
          · rintro ⟨r1, r2⟩ s' ⟨rfl, h1, _, hinv⟩
            have h1' : r1 = none := h1
            subst h1'
            dsimp only
            rcases hinv with ⟨hr, hm⟩ | ⟨j, hr, hj, _⟩
            · have hr' : r2 = none := hr
              subst hr'
              exact wpAny_pure (hn fun i hi => nomatch hm i hi)
            · have hr' : r2 = some j := hr
              subst hr'
              exact wpAny_pure (hs j hj)
  case ref a =>
    dsimp only
    rw [if_neg (show ¬ ((Value.ref a :: (List.filterMap (fun i => Option.map (fun x : DictEntry => x.key) es[i]?) P)).all carriedByValue) = true from fun z => absurd z Bool.false_ne_true), if_neg (hold a rfl)]
    by_cases h1 : ((List.filterMap (fun i => Option.map (fun x : DictEntry => x.key) es[i]?) P) == [Value.ref a]) = true
    · rw [if_pos h1]
      refine wpAny_bind (wpAny_pure ?_)
      rw [if_neg (hno _)]
      refine wpAny_bind ?_
      refine wpAny_forIn_list _ (fun (rest : List Nat) (r : Option (Option Nat) × Option Nat) s' => s' = s ∧ r.1 = none ∧ rest.Nodup ∧ ((r.2 = none ∧ ∀ i : Nat, ks[i]? = some k → i ∈ rest) ∨ ∃ j : Nat, r.2 = some j ∧ ks[j]? = some k ∧ j ∉ rest)) _ ?_ ?_ _ _ ⟨rfl, rfl, hnd, .inl ⟨rfl, hmem⟩⟩
      · rintro i rest ⟨r1, r2⟩ s' ⟨rfl, h1, hnd', hinv⟩
        have h1' : r1 = none := h1
        subst h1'
        have hnd2 := (List.nodup_cons.mp hnd').2
        have hni := (List.nodup_cons.mp hnd').1
        have keep : ks[i]? ≠ some k → ((r2 = none ∧ ∀ i : Nat, ks[i]? = some k → i ∈ rest) ∨ ∃ j : Nat, r2 = some j ∧ ks[j]? = some k ∧ j ∉ rest) := fun hx => by
          rcases hinv with ⟨hr, hm⟩ | ⟨j, hr, hj, hjn⟩
          · exact .inl ⟨hr, fun j hj => by
              rcases List.mem_cons.mp (hm j hj) with e | e
              · rw [e] at hj; exact absurd hj hx
              · exact e⟩
          · exact .inr ⟨j, hr, hj, fun z => hjn (List.mem_cons_of_mem _ z)⟩
        dsimp only
        cases hx : es[i]? with
        | some e =>
          obtain ⟨k', g1, g2, g3, g4⟩ := he.at_ i e hx
          dsimp only
          by_cases hh : (e.hash == (NestedKey.hash w k)) = true
          · rw [if_pos hh]
            refine wpAny_bind (wpAny_dictEpoch ho hd (wpAny_bind (eq_ask hu g2 hkey g3 (wpAny_bind (wpAny_dictEpoch ho hd ?_)))))
            rw [if_neg (fun z => by rw [bne_self_eq_false] at z; exact Bool.false_ne_true z)]
            by_cases hk : k' = k
            · rw [decide_eq_true hk, if_pos rfl]
              rcases hinv with ⟨hr, hm⟩ | ⟨j, hr, hj, hjn⟩
              · have hr' : r2 = none := hr
                subst hr'
                rw [if_neg (show ¬ ((none : Option Nat).isSome = true) from Bool.false_ne_true)]
                refine wpAny_bind (wpAny_rule ?_)
                by_cases hl : (List.filterMap (fun i => Option.map (fun x : DictEntry => x.key) es[i]?) P).length < 2
                · rw [if_pos hl]
                  exact wpAny_pure (wpAny_pure (hs i (by rw [g1, hk])))
                · rw [if_neg hl]
                  exact wpAny_pure ⟨rfl, rfl, hnd2, .inr ⟨i, rfl, by rw [g1, hk], hni⟩⟩
              · have := uniq_ix he.nd hj (by rw [g1, hk])
                subst this
                exact absurd List.mem_cons_self hjn
            · rw [decide_eq_false hk, if_neg Bool.false_ne_true]
              refine wpAny_bind (wpAny_rule ?_)
              rw [if_neg (hno _)]
              exact wpAny_pure ⟨rfl, rfl, hnd2, keep fun z => hk (by rw [g1] at z; exact Option.some.inj z)⟩
          · rw [if_neg hh]
            refine wpAny_pure ⟨rfl, rfl, hnd2, keep fun z => hh ?_⟩
            rw [g1] at z
            cases z
            rw [g4]; exact beq_self_eq_true _
        | none =>
          dsimp only
          refine wpAny_pure ⟨rfl, rfl, hnd2, keep fun z => ?_⟩
          have := (List.getElem?_eq_some_iff.mp z).1
          rw [← he.len] at this
          rw [Array.getElem?_eq_getElem this] at hx; cases hx
      · rintro ⟨r1, r2⟩ s' ⟨rfl, h1, _, hinv⟩
        have h1' : r1 = none := h1
        subst h1'
        dsimp only
        rcases hinv with ⟨hr, hm⟩ | ⟨j, hr, hj, _⟩
        · have hr' : r2 = none := hr
          subst hr'
          exact wpAny_pure (hn fun i hi => nomatch hm i hi)
        · have hr' : r2 = some j := hr
          subst hr'
          exact wpAny_pure (hs j hj)
    · rw [if_neg h1]
      refine wpAny_bind (htell _ ?_)
      rw [if_neg (hno _)]
      refine wpAny_bind ?_
      refine wpAny_forIn_list _ (fun (rest : List Nat) (r : Option (Option Nat) × Option Nat) s' => s' = s ∧ r.1 = none ∧ rest.Nodup ∧ ((r.2 = none ∧ ∀ i : Nat, ks[i]? = some k → i ∈ rest) ∨ ∃ j : Nat, r.2 = some j ∧ ks[j]? = some k ∧ j ∉ rest)) _ ?_ ?_ _ _ ⟨rfl, rfl, hnd, .inl ⟨rfl, hmem⟩⟩
      · rintro i rest ⟨r1, r2⟩ s' ⟨rfl, h1, hnd', hinv⟩
        have h1' : r1 = none := h1
        subst h1'
        have hnd2 := (List.nodup_cons.mp hnd').2
        have hni := (List.nodup_cons.mp hnd').1
        have keep : ks[i]? ≠ some k → ((r2 = none ∧ ∀ i : Nat, ks[i]? = some k → i ∈ rest) ∨ ∃ j : Nat, r2 = some j ∧ ks[j]? = some k ∧ j ∉ rest) := fun hx => by
          rcases hinv with ⟨hr, hm⟩ | ⟨j, hr, hj, hjn⟩
          · exact .inl ⟨hr, fun j hj => by
              rcases List.mem_cons.mp (hm j hj) with e | e
              · rw [e] at hj; exact absurd hj hx
              · exact e⟩
          · exact .inr ⟨j, hr, hj, fun z => hjn (List.mem_cons_of_mem _ z)⟩
        dsimp only
        cases hx : es[i]? with
        | some e =>
          obtain ⟨k', g1, g2, g3, g4⟩ := he.at_ i e hx
          dsimp only
          by_cases hh : (e.hash == (NestedKey.hash w k)) = true
          · rw [if_pos hh]
            refine wpAny_bind (wpAny_dictEpoch ho hd (wpAny_bind (eq_ask hu g2 hkey g3 (wpAny_bind (wpAny_dictEpoch ho hd ?_)))))
            rw [if_neg (fun z => by rw [bne_self_eq_false] at z; exact Bool.false_ne_true z)]
            by_cases hk : k' = k
            · rw [decide_eq_true hk, if_pos rfl]
              rcases hinv with ⟨hr, hm⟩ | ⟨j, hr, hj, hjn⟩
              · have hr' : r2 = none := hr
                subst hr'
                rw [if_neg (show ¬ ((none : Option Nat).isSome = true) from Bool.false_ne_true)]
                refine wpAny_bind (wpAny_rule ?_)
                by_cases hl : (List.filterMap (fun i => Option.map (fun x : DictEntry => x.key) es[i]?) P).length < 2
                · rw [if_pos hl]
                  exact wpAny_pure (wpAny_pure (hs i (by rw [g1, hk])))
                · rw [if_neg hl]
                  exact wpAny_pure ⟨rfl, rfl, hnd2, .inr ⟨i, rfl, by rw [g1, hk], hni⟩⟩
              · have := uniq_ix he.nd hj (by rw [g1, hk])
                subst this
                exact absurd List.mem_cons_self hjn
            · rw [decide_eq_false hk, if_neg Bool.false_ne_true]
              refine wpAny_bind (wpAny_rule ?_)
              rw [if_neg (hno _)]
              exact wpAny_pure ⟨rfl, rfl, hnd2, keep fun z => hk (by rw [g1] at z; exact Option.some.inj z)⟩
          · rw [if_neg hh]
            refine wpAny_pure ⟨rfl, rfl, hnd2, keep fun z => hh ?_⟩
            rw [g1] at z
            cases z
            rw [g4]; exact beq_self_eq_true _
        | none =>
          dsimp only
          refine wpAny_pure ⟨rfl, rfl, hnd2, keep fun z => ?_⟩
          have := (List.getElem?_eq_some_iff.mp z).1
          rw [← he.len] at this
          rw [Array.getElem?_eq_getElem this] at hx; cases hx
      · rintro ⟨r1, r2⟩ s' ⟨rfl, h1, _, hinv⟩
        have h1' : r1 = none := h1
        subst h1'
        dsimp only
        rcases hinv with ⟨hr, hm⟩ | ⟨j, hr, hj, _⟩
        · have hr' : r2 = none := hr
          subst hr'
          exact wpAny_pure (hn fun i hi => nomatch hm i hi)
        · have hr' : r2 = some j := hr
          subst hr'
          exact wpAny_pure (hs j hj)
  case none =>
       dsimp only
       by_cases hc : ((Value.none :: (List.filterMap (fun i => Option.map (fun x : DictEntry => x.key) es[i]?) P)).all carriedByValue) = true
       · rw [if_pos hc]; exact hplain
       · rw [if_neg hc]
         by_cases h1 : ((List.filterMap (fun i => Option.map (fun x : DictEntry => x.key) es[i]?) P) == [Value.none]) = true
         · rw [if_pos h1]
           refine wpAny_bind (wpAny_pure ?_)
           rw [if_neg (hno _)]
           refine wpAny_bind ?_
           refine wpAny_forIn_list _ (fun (rest : List Nat) (r : Option (Option Nat) × Option Nat) s' => s' = s ∧ r.1 = none ∧ rest.Nodup ∧ ((r.2 = none ∧ ∀ i : Nat, ks[i]? = some k → i ∈ rest) ∨ ∃ j : Nat, r.2 = some j ∧ ks[j]? = some k ∧ j ∉ rest)) _ ?_ ?_ _ _ ⟨rfl, rfl, hnd, .inl ⟨rfl, hmem⟩⟩
           · rintro i rest ⟨r1, r2⟩ s' ⟨rfl, h1, hnd', hinv⟩
             have h1' : r1 = none := h1
             subst h1'
             have hnd2 := (List.nodup_cons.mp hnd').2
             have hni := (List.nodup_cons.mp hnd').1
             have keep : ks[i]? ≠ some k → ((r2 = none ∧ ∀ i : Nat, ks[i]? = some k → i ∈ rest) ∨ ∃ j : Nat, r2 = some j ∧ ks[j]? = some k ∧ j ∉ rest) := fun hx => by
               rcases hinv with ⟨hr, hm⟩ | ⟨j, hr, hj, hjn⟩
               · exact .inl ⟨hr, fun j hj => by
                   rcases List.mem_cons.mp (hm j hj) with e | e
                   · rw [e] at hj; exact absurd hj hx
                   · exact e⟩
               · exact .inr ⟨j, hr, hj, fun z => hjn (List.mem_cons_of_mem _ z)⟩
             dsimp only
             cases hx : es[i]? with
             | some e =>
               obtain ⟨k', g1, g2, g3, g4⟩ := he.at_ i e hx
               dsimp only
               by_cases hh : (e.hash == (NestedKey.hash w k)) = true
               · rw [if_pos hh]
                 refine wpAny_bind (wpAny_dictEpoch ho hd (wpAny_bind (eq_ask hu g2 hkey g3 (wpAny_bind (wpAny_dictEpoch ho hd ?_)))))
                 rw [if_neg (fun z => by rw [bne_self_eq_false] at z; exact Bool.false_ne_true z)]
                 by_cases hk : k' = k
                 · rw [decide_eq_true hk, if_pos rfl]
                   rcases hinv with ⟨hr, hm⟩ | ⟨j, hr, hj, hjn⟩
                   · have hr' : r2 = none := hr
                     subst hr'
                     rw [if_neg (show ¬ ((none : Option Nat).isSome = true) from Bool.false_ne_true)]
                     refine wpAny_bind (wpAny_rule ?_)
                     by_cases hl : (List.filterMap (fun i => Option.map (fun x : DictEntry => x.key) es[i]?) P).length < 2
                     · rw [if_pos hl]
                       exact wpAny_pure (wpAny_pure (hs i (by rw [g1, hk])))
                     · rw [if_neg hl]
                       exact wpAny_pure ⟨rfl, rfl, hnd2, .inr ⟨i, rfl, by rw [g1, hk], hni⟩⟩
                   · have := uniq_ix he.nd hj (by rw [g1, hk])
                     subst this
                     exact absurd List.mem_cons_self hjn
                 · rw [decide_eq_false hk, if_neg Bool.false_ne_true]
                   refine wpAny_bind (wpAny_rule ?_)
                   rw [if_neg (hno _)]
                   exact wpAny_pure ⟨rfl, rfl, hnd2, keep fun z => hk (by rw [g1] at z; exact Option.some.inj z)⟩
               · rw [if_neg hh]
                 refine wpAny_pure ⟨rfl, rfl, hnd2, keep fun z => hh ?_⟩
                 rw [g1] at z
                 cases z
                 rw [g4]; exact beq_self_eq_true _
             | none =>
               dsimp only
               refine wpAny_pure ⟨rfl, rfl, hnd2, keep fun z => ?_⟩
               have := (List.getElem?_eq_some_iff.mp z).1
               rw [← he.len] at this
               rw [Array.getElem?_eq_getElem this] at hx; cases hx
           · rintro ⟨r1, r2⟩ s' ⟨rfl, h1, _, hinv⟩
             have h1' : r1 = none := h1
             subst h1'
             dsimp only
             rcases hinv with ⟨hr, hm⟩ | ⟨j, hr, hj, _⟩
             · have hr' : r2 = none := hr
               subst hr'
               exact wpAny_pure (hn fun i hi => nomatch hm i hi)
             · have hr' : r2 = some j := hr
               subst hr'
               exact wpAny_pure (hs j hj)
         · rw [if_neg h1]
           refine wpAny_bind (htell _ ?_)
           rw [if_neg (hno _)]
           refine wpAny_bind ?_
           refine wpAny_forIn_list _ (fun (rest : List Nat) (r : Option (Option Nat) × Option Nat) s' => s' = s ∧ r.1 = none ∧ rest.Nodup ∧ ((r.2 = none ∧ ∀ i : Nat, ks[i]? = some k → i ∈ rest) ∨ ∃ j : Nat, r.2 = some j ∧ ks[j]? = some k ∧ j ∉ rest)) _ ?_ ?_ _ _ ⟨rfl, rfl, hnd, .inl ⟨rfl, hmem⟩⟩
           · rintro i rest ⟨r1, r2⟩ s' ⟨rfl, h1, hnd', hinv⟩
             have h1' : r1 = none := h1
             subst h1'
             have hnd2 := (List.nodup_cons.mp hnd').2
             have hni := (List.nodup_cons.mp hnd').1
             have keep : ks[i]? ≠ some k → ((r2 = none ∧ ∀ i : Nat, ks[i]? = some k → i ∈ rest) ∨ ∃ j : Nat, r2 = some j ∧ ks[j]? = some k ∧ j ∉ rest) := fun hx => by
               rcases hinv with ⟨hr, hm⟩ | ⟨j, hr, hj, hjn⟩
               · exact .inl ⟨hr, fun j hj => by
                   rcases List.mem_cons.mp (hm j hj) with e | e
                   · rw [e] at hj; exact absurd hj hx
                   · exact e⟩
               · exact .inr ⟨j, hr, hj, fun z => hjn (List.mem_cons_of_mem _ z)⟩
             dsimp only
             cases hx : es[i]? with
             | some e =>
               obtain ⟨k', g1, g2, g3, g4⟩ := he.at_ i e hx
               dsimp only
               by_cases hh : (e.hash == (NestedKey.hash w k)) = true
               · rw [if_pos hh]
                 refine wpAny_bind (wpAny_dictEpoch ho hd (wpAny_bind (eq_ask hu g2 hkey g3 (wpAny_bind (wpAny_dictEpoch ho hd ?_)))))
                 rw [if_neg (fun z => by rw [bne_self_eq_false] at z; exact Bool.false_ne_true z)]
                 by_cases hk : k' = k
                 · rw [decide_eq_true hk, if_pos rfl]
                   rcases hinv with ⟨hr, hm⟩ | ⟨j, hr, hj, hjn⟩
                   · have hr' : r2 = none := hr
                     subst hr'
                     rw [if_neg (show ¬ ((none : Option Nat).isSome = true) from Bool.false_ne_true)]
                     refine wpAny_bind (wpAny_rule ?_)
                     by_cases hl : (List.filterMap (fun i => Option.map (fun x : DictEntry => x.key) es[i]?) P).length < 2
                     · rw [if_pos hl]
                       exact wpAny_pure (wpAny_pure (hs i (by rw [g1, hk])))
                     · rw [if_neg hl]
                       exact wpAny_pure ⟨rfl, rfl, hnd2, .inr ⟨i, rfl, by rw [g1, hk], hni⟩⟩
                   · have := uniq_ix he.nd hj (by rw [g1, hk])
                     subst this
                     exact absurd List.mem_cons_self hjn
                 · rw [decide_eq_false hk, if_neg Bool.false_ne_true]
                   refine wpAny_bind (wpAny_rule ?_)
                   rw [if_neg (hno _)]
                   exact wpAny_pure ⟨rfl, rfl, hnd2, keep fun z => hk (by rw [g1] at z; exact Option.some.inj z)⟩
               · rw [if_neg hh]
                 refine wpAny_pure ⟨rfl, rfl, hnd2, keep fun z => hh ?_⟩
                 rw [g1] at z
                 cases z
                 rw [g4]; exact beq_self_eq_true _
             | none =>
               dsimp only
               refine wpAny_pure ⟨rfl, rfl, hnd2, keep fun z => ?_⟩
               have := (List.getElem?_eq_some_iff.mp z).1
               rw [← he.len] at this
               rw [Array.getElem?_eq_getElem this] at hx; cases hx
           · rintro ⟨r1, r2⟩ s' ⟨rfl, h1, _, hinv⟩
             have h1' : r1 = none := h1
             subst h1'
             dsimp only
             rcases hinv with ⟨hr, hm⟩ | ⟨j, hr, hj, _⟩
             · have hr' : r2 = none := hr
               subst hr'
               exact wpAny_pure (hn fun i hi => nomatch hm i hi)
             · have hr' : r2 = some j := hr
               subst hr'
               exact wpAny_pure (hs j hj)
  case bool b =>
       dsimp only
       by_cases hc : ((Value.bool b :: (List.filterMap (fun i => Option.map (fun x : DictEntry => x.key) es[i]?) P)).all carriedByValue) = true
       · rw [if_pos hc]; exact hplain
       · rw [if_neg hc]
         by_cases h1 : ((List.filterMap (fun i => Option.map (fun x : DictEntry => x.key) es[i]?) P) == [Value.bool b]) = true
         · rw [if_pos h1]
           refine wpAny_bind (wpAny_pure ?_)
           rw [if_neg (hno _)]
           refine wpAny_bind ?_
           refine wpAny_forIn_list _ (fun (rest : List Nat) (r : Option (Option Nat) × Option Nat) s' => s' = s ∧ r.1 = none ∧ rest.Nodup ∧ ((r.2 = none ∧ ∀ i : Nat, ks[i]? = some k → i ∈ rest) ∨ ∃ j : Nat, r.2 = some j ∧ ks[j]? = some k ∧ j ∉ rest)) _ ?_ ?_ _ _ ⟨rfl, rfl, hnd, .inl ⟨rfl, hmem⟩⟩
           · rintro i rest ⟨r1, r2⟩ s' ⟨rfl, h1, hnd', hinv⟩
             have h1' : r1 = none := h1
             subst h1'
             have hnd2 := (List.nodup_cons.mp hnd').2
             have hni := (List.nodup_cons.mp hnd').1
             have keep : ks[i]? ≠ some k → ((r2 = none ∧ ∀ i : Nat, ks[i]? = some k → i ∈ rest) ∨ ∃ j : Nat, r2 = some j ∧ ks[j]? = some k ∧ j ∉ rest) := fun hx => by
               rcases hinv with ⟨hr, hm⟩ | ⟨j, hr, hj, hjn⟩
               · exact .inl ⟨hr, fun j hj => by
                   rcases List.mem_cons.mp (hm j hj) with e | e
                   · rw [e] at hj; exact absurd hj hx
                   · exact e⟩
               · exact .inr ⟨j, hr, hj, fun z => hjn (List.mem_cons_of_mem _ z)⟩
             dsimp only
             cases hx : es[i]? with
             | some e =>
               obtain ⟨k', g1, g2, g3, g4⟩ := he.at_ i e hx
               dsimp only
               by_cases hh : (e.hash == (NestedKey.hash w k)) = true
               · rw [if_pos hh]
                 refine wpAny_bind (wpAny_dictEpoch ho hd (wpAny_bind (eq_ask hu g2 hkey g3 (wpAny_bind (wpAny_dictEpoch ho hd ?_)))))
                 rw [if_neg (fun z => by rw [bne_self_eq_false] at z; exact Bool.false_ne_true z)]
                 by_cases hk : k' = k
                 · rw [decide_eq_true hk, if_pos rfl]
                   rcases hinv with ⟨hr, hm⟩ | ⟨j, hr, hj, hjn⟩
                   · have hr' : r2 = none := hr
                     subst hr'
                     rw [if_neg (show ¬ ((none : Option Nat).isSome = true) from Bool.false_ne_true)]
                     refine wpAny_bind (wpAny_rule ?_)
                     by_cases hl : (List.filterMap (fun i => Option.map (fun x : DictEntry => x.key) es[i]?) P).length < 2
                     · rw [if_pos hl]
                       exact wpAny_pure (wpAny_pure (hs i (by rw [g1, hk])))
                     · rw [if_neg hl]
                       exact wpAny_pure ⟨rfl, rfl, hnd2, .inr ⟨i, rfl, by rw [g1, hk], hni⟩⟩
                   · have := uniq_ix he.nd hj (by rw [g1, hk])
                     subst this
                     exact absurd List.mem_cons_self hjn
                 · rw [decide_eq_false hk, if_neg Bool.false_ne_true]
                   refine wpAny_bind (wpAny_rule ?_)
                   rw [if_neg (hno _)]
                   exact wpAny_pure ⟨rfl, rfl, hnd2, keep fun z => hk (by rw [g1] at z; exact Option.some.inj z)⟩
               · rw [if_neg hh]
                 refine wpAny_pure ⟨rfl, rfl, hnd2, keep fun z => hh ?_⟩
                 rw [g1] at z
                 cases z
                 rw [g4]; exact beq_self_eq_true _
             | none =>
               dsimp only
               refine wpAny_pure ⟨rfl, rfl, hnd2, keep fun z => ?_⟩
               have := (List.getElem?_eq_some_iff.mp z).1
               rw [← he.len] at this
               rw [Array.getElem?_eq_getElem this] at hx; cases hx
           · rintro ⟨r1, r2⟩ s' ⟨rfl, h1, _, hinv⟩
             have h1' : r1 = none := h1
             subst h1'
             dsimp only
             rcases hinv with ⟨hr, hm⟩ | ⟨j, hr, hj, _⟩
             · have hr' : r2 = none := hr
               subst hr'
               exact wpAny_pure (hn fun i hi => nomatch hm i hi)
             · have hr' : r2 = some j := hr
               subst hr'
               exact wpAny_pure (hs j hj)
         · rw [if_neg h1]
           refine wpAny_bind (htell _ ?_)
           rw [if_neg (hno _)]
           refine wpAny_bind ?_
           refine wpAny_forIn_list _ (fun (rest : List Nat) (r : Option (Option Nat) × Option Nat) s' => s' = s ∧ r.1 = none ∧ rest.Nodup ∧ ((r.2 = none ∧ ∀ i : Nat, ks[i]? = some k → i ∈ rest) ∨ ∃ j : Nat, r.2 = some j ∧ ks[j]? = some k ∧ j ∉ rest)) _ ?_ ?_ _ _ ⟨rfl, rfl, hnd, .inl ⟨rfl, hmem⟩⟩
           · rintro i rest ⟨r1, r2⟩ s' ⟨rfl, h1, hnd', hinv⟩
             have h1' : r1 = none := h1
             subst h1'
             have hnd2 := (List.nodup_cons.mp hnd').2
             have hni := (List.nodup_cons.mp hnd').1
             have keep : ks[i]? ≠ some k → ((r2 = none ∧ ∀ i : Nat, ks[i]? = some k → i ∈ rest) ∨ ∃ j : Nat, r2 = some j ∧ ks[j]? = some k ∧ j ∉ rest) := fun hx => by
               rcases hinv with ⟨hr, hm⟩ | ⟨j, hr, hj, hjn⟩
               · exact .inl ⟨hr, fun j hj => by
                   rcases List.mem_cons.mp (hm j hj) with e | e
                   · rw [e] at hj; exact absurd hj hx
                   · exact e⟩
               · exact .inr ⟨j, hr, hj, fun z => hjn (List.mem_cons_of_mem _ z)⟩
             dsimp only
             cases hx : es[i]? with
             | some e =>
               obtain ⟨k', g1, g2, g3, g4⟩ := he.at_ i e hx
               dsimp only
               by_cases hh : (e.hash == (NestedKey.hash w k)) = true
               · rw [if_pos hh]
                 refine wpAny_bind (wpAny_dictEpoch ho hd (wpAny_bind (eq_ask hu g2 hkey g3 (wpAny_bind (wpAny_dictEpoch ho hd ?_)))))
                 rw [if_neg (fun z => by rw [bne_self_eq_false] at z; exact Bool.false_ne_true z)]
                 by_cases hk : k' = k
                 · rw [decide_eq_true hk, if_pos rfl]
                   rcases hinv with ⟨hr, hm⟩ | ⟨j, hr, hj, hjn⟩
                   · have hr' : r2 = none := hr
                     subst hr'
                     rw [if_neg (show ¬ ((none : Option Nat).isSome = true) from Bool.false_ne_true)]
                     refine wpAny_bind (wpAny_rule ?_)
                     by_cases hl : (List.filterMap (fun i => Option.map (fun x : DictEntry => x.key) es[i]?) P).length < 2
                     · rw [if_pos hl]
                       exact wpAny_pure (wpAny_pure (hs i (by rw [g1, hk])))
                     · rw [if_neg hl]
                       exact wpAny_pure ⟨rfl, rfl, hnd2, .inr ⟨i, rfl, by rw [g1, hk], hni⟩⟩
                   · have := uniq_ix he.nd hj (by rw [g1, hk])
                     subst this
                     exact absurd List.mem_cons_self hjn
                 · rw [decide_eq_false hk, if_neg Bool.false_ne_true]
                   refine wpAny_bind (wpAny_rule ?_)
                   rw [if_neg (hno _)]
                   exact wpAny_pure ⟨rfl, rfl, hnd2, keep fun z => hk (by rw [g1] at z; exact Option.some.inj z)⟩
               · rw [if_neg hh]
                 refine wpAny_pure ⟨rfl, rfl, hnd2, keep fun z => hh ?_⟩
                 rw [g1] at z
                 cases z
                 rw [g4]; exact beq_self_eq_true _
             | none =>
               dsimp only
               refine wpAny_pure ⟨rfl, rfl, hnd2, keep fun z => ?_⟩
               have := (List.getElem?_eq_some_iff.mp z).1
               rw [← he.len] at this
               rw [Array.getElem?_eq_getElem this] at hx; cases hx
           · rintro ⟨r1, r2⟩ s' ⟨rfl, h1, _, hinv⟩
             have h1' : r1 = none := h1
             subst h1'
             dsimp only
             rcases hinv with ⟨hr, hm⟩ | ⟨j, hr, hj, _⟩
             · have hr' : r2 = none := hr
               subst hr'
               exact wpAny_pure (hn fun i hi => nomatch hm i hi)
             · have hr' : r2 = some j := hr
               subst hr'
               exact wpAny_pure (hs j hj)
  case int i0 t =>
       dsimp only
       by_cases hc : ((Value.int i0 t :: (List.filterMap (fun i => Option.map (fun x : DictEntry => x.key) es[i]?) P)).all carriedByValue) = true
       · rw [if_pos hc]; exact hplain
       · rw [if_neg hc]
         by_cases h1 : ((List.filterMap (fun i => Option.map (fun x : DictEntry => x.key) es[i]?) P) == [Value.int i0 t]) = true
         · rw [if_pos h1]
           refine wpAny_bind (wpAny_pure ?_)
           rw [if_neg (hno _)]
           refine wpAny_bind ?_
           refine wpAny_forIn_list _ (fun (rest : List Nat) (r : Option (Option Nat) × Option Nat) s' => s' = s ∧ r.1 = none ∧ rest.Nodup ∧ ((r.2 = none ∧ ∀ i : Nat, ks[i]? = some k → i ∈ rest) ∨ ∃ j : Nat, r.2 = some j ∧ ks[j]? = some k ∧ j ∉ rest)) _ ?_ ?_ _ _ ⟨rfl, rfl, hnd, .inl ⟨rfl, hmem⟩⟩
           · rintro i rest ⟨r1, r2⟩ s' ⟨rfl, h1, hnd', hinv⟩
             have h1' : r1 = none := h1
             subst h1'
             have hnd2 := (List.nodup_cons.mp hnd').2
             have hni := (List.nodup_cons.mp hnd').1
             have keep : ks[i]? ≠ some k → ((r2 = none ∧ ∀ i : Nat, ks[i]? = some k → i ∈ rest) ∨ ∃ j : Nat, r2 = some j ∧ ks[j]? = some k ∧ j ∉ rest) := fun hx => by
               rcases hinv with ⟨hr, hm⟩ | ⟨j, hr, hj, hjn⟩
               · exact .inl ⟨hr, fun j hj => by
                   rcases List.mem_cons.mp (hm j hj) with e | e
                   · rw [e] at hj; exact absurd hj hx
                   · exact e⟩
               · exact .inr ⟨j, hr, hj, fun z => hjn (List.mem_cons_of_mem _ z)⟩
             dsimp only
             cases hx : es[i]? with
             | some e =>
               obtain ⟨k', g1, g2, g3, g4⟩ := he.at_ i e hx
               dsimp only
               by_cases hh : (e.hash == (NestedKey.hash w k)) = true
               · rw [if_pos hh]
                 refine wpAny_bind (wpAny_dictEpoch ho hd (wpAny_bind (eq_ask hu g2 hkey g3 (wpAny_bind (wpAny_dictEpoch ho hd ?_)))))
                 rw [if_neg (fun z => by rw [bne_self_eq_false] at z; exact Bool.false_ne_true z)]
                 by_cases hk : k' = k
                 · rw [decide_eq_true hk, if_pos rfl]
                   rcases hinv with ⟨hr, hm⟩ | ⟨j, hr, hj, hjn⟩
                   · have hr' : r2 = none := hr
                     subst hr'
                     rw [if_neg (show ¬ ((none : Option Nat).isSome = true) from Bool.false_ne_true)]
                     refine wpAny_bind (wpAny_rule ?_)
                     by_cases hl : (List.filterMap (fun i => Option.map (fun x : DictEntry => x.key) es[i]?) P).length < 2
                     · rw [if_pos hl]
                       exact wpAny_pure (wpAny_pure (hs i (by rw [g1, hk])))
                     · rw [if_neg hl]
                       exact wpAny_pure ⟨rfl, rfl, hnd2, .inr ⟨i, rfl, by rw [g1, hk], hni⟩⟩
                   · have := uniq_ix he.nd hj (by rw [g1, hk])
                     subst this
                     exact absurd List.mem_cons_self hjn
                 · rw [decide_eq_false hk, if_neg Bool.false_ne_true]
                   refine wpAny_bind (wpAny_rule ?_)
                   rw [if_neg (hno _)]
                   exact wpAny_pure ⟨rfl, rfl, hnd2, keep fun z => hk (by rw [g1] at z; exact Option.some.inj z)⟩
               · rw [if_neg hh]
                 refine wpAny_pure ⟨rfl, rfl, hnd2, keep fun z => hh ?_⟩
                 rw [g1] at z
                 cases z
                 rw [g4]; exact beq_self_eq_true _
             | none =>
               dsimp only
               refine wpAny_pure ⟨rfl, rfl, hnd2, keep fun z => ?_⟩
               have := (List.getElem?_eq_some_iff.mp z).1
               rw [← he.len] at this
               rw [Array.getElem?_eq_getElem this] at hx; cases hx
           · rintro ⟨r1, r2⟩ s' ⟨rfl, h1, _, hinv⟩
             have h1' : r1 = none := h1
             subst h1'
             dsimp only
             rcases hinv with ⟨hr, hm⟩ | ⟨j, hr, hj, _⟩
             · have hr' : r2 = none := hr
               subst hr'
               exact wpAny_pure (hn fun i hi => nomatch hm i hi)
             · have hr' : r2 = some j := hr
               subst hr'
               exact wpAny_pure (hs j hj)
         · rw [if_neg h1]
           refine wpAny_bind (htell _ ?_)
           rw [if_neg (hno _)]
           refine wpAny_bind ?_
           refine wpAny_forIn_list _ (fun (rest : List Nat) (r : Option (Option Nat) × Option Nat) s' => s' = s ∧ r.1 = none ∧ rest.Nodup ∧ ((r.2 = none ∧ ∀ i : Nat, ks[i]? = some k → i ∈ rest) ∨ ∃ j : Nat, r.2 = some j ∧ ks[j]? = some k ∧ j ∉ rest)) _ ?_ ?_ _ _ ⟨rfl, rfl, hnd, .inl ⟨rfl, hmem⟩⟩
           · rintro i rest ⟨r1, r2⟩ s' ⟨rfl, h1, hnd', hinv⟩
             have h1' : r1 = none := h1
             subst h1'
             have hnd2 := (List.nodup_cons.mp hnd').2
             have hni := (List.nodup_cons.mp hnd').1
             have keep : ks[i]? ≠ some k → ((r2 = none ∧ ∀ i : Nat, ks[i]? = some k → i ∈ rest) ∨ ∃ j : Nat, r2 = some j ∧ ks[j]? = some k ∧ j ∉ rest) := fun hx => by
               rcases hinv with ⟨hr, hm⟩ | ⟨j, hr, hj, hjn⟩
               · exact .inl ⟨hr, fun j hj => by
                   rcases List.mem_cons.mp (hm j hj) with e | e
                   · rw [e] at hj; exact absurd hj hx
                   · exact e⟩
               · exact .inr ⟨j, hr, hj, fun z => hjn (List.mem_cons_of_mem _ z)⟩
             dsimp only
             cases hx : es[i]? with
             | some e =>
               obtain ⟨k', g1, g2, g3, g4⟩ := he.at_ i e hx
               dsimp only
               by_cases hh : (e.hash == (NestedKey.hash w k)) = true
               · rw [if_pos hh]
                 refine wpAny_bind (wpAny_dictEpoch ho hd (wpAny_bind (eq_ask hu g2 hkey g3 (wpAny_bind (wpAny_dictEpoch ho hd ?_)))))
                 rw [if_neg (fun z => by rw [bne_self_eq_false] at z; exact Bool.false_ne_true z)]
                 by_cases hk : k' = k
                 · rw [decide_eq_true hk, if_pos rfl]
                   rcases hinv with ⟨hr, hm⟩ | ⟨j, hr, hj, hjn⟩
                   · have hr' : r2 = none := hr
                     subst hr'
                     rw [if_neg (show ¬ ((none : Option Nat).isSome = true) from Bool.false_ne_true)]
                     refine wpAny_bind (wpAny_rule ?_)
                     by_cases hl : (List.filterMap (fun i => Option.map (fun x : DictEntry => x.key) es[i]?) P).length < 2
                     · rw [if_pos hl]
                       exact wpAny_pure (wpAny_pure (hs i (by rw [g1, hk])))
                     · rw [if_neg hl]
                       exact wpAny_pure ⟨rfl, rfl, hnd2, .inr ⟨i, rfl, by rw [g1, hk], hni⟩⟩
                   · have := uniq_ix he.nd hj (by rw [g1, hk])
                     subst this
                     exact absurd List.mem_cons_self hjn
                 · rw [decide_eq_false hk, if_neg Bool.false_ne_true]
                   refine wpAny_bind (wpAny_rule ?_)
                   rw [if_neg (hno _)]
                   exact wpAny_pure ⟨rfl, rfl, hnd2, keep fun z => hk (by rw [g1] at z; exact Option.some.inj z)⟩
               · rw [if_neg hh]
                 refine wpAny_pure ⟨rfl, rfl, hnd2, keep fun z => hh ?_⟩
                 rw [g1] at z
                 cases z
                 rw [g4]; exact beq_self_eq_true _
             | none =>
               dsimp only
               refine wpAny_pure ⟨rfl, rfl, hnd2, keep fun z => ?_⟩
               have := (List.getElem?_eq_some_iff.mp z).1
               rw [← he.len] at this
               rw [Array.getElem?_eq_getElem this] at hx; cases hx
           · rintro ⟨r1, r2⟩ s' ⟨rfl, h1, _, hinv⟩
             have h1' : r1 = none := h1
             subst h1'
             dsimp only
             rcases hinv with ⟨hr, hm⟩ | ⟨j, hr, hj, _⟩
             · have hr' : r2 = none := hr
               subst hr'
               exact wpAny_pure (hn fun i hi => nomatch hm i hi)
             · have hr' : r2 = some j := hr
               subst hr'
               exact wpAny_pure (hs j hj)
  all_goals (cases hkey)

/-! ### get and set, on entries -/
/-- a dict's entries at d -/
def RawD (h : Heap) (d : Addr) (es : Array DictEntry) : Prop := ∃ o ep, h.get? d = some o ∧ o.ExactDict ∧ o.data = .dict es ep
theorem get_raw {Q : Option Value → Shared → Prop} (hu : A.units + 8 < cLine) (hkey : NestedIs s.heap k key) (hdep : k.depth ≤ 8) (r : RawD s.heap d es) (he : Ents w s.heap ks es)
    (hn : (∀ i : Nat, ks[i]? ≠ some k) → Q none { s with toks := s.toks + k.draws }) (hs : ∀ (i : Nat) (e : DictEntry), ks[i]? = some k → es[i]? = some e → Q (some e.val) { s with toks := s.toks + k.draws }) : wpAny (model prog w) A (dictGet d key) Q E s := by
  obtain ⟨o, ep, ho, hx, hd⟩ := r
  unfold dictGet
  try with_reducible refine wpAny_holding ?_
  refine wpAny_bind (pyHash_key k key A s _ hkey (by omega) (wpAny_bind (find_ok (s := { s with toks := s.toks + k.draws }) hu hkey hdep ho hd he ?_ ?_)))
  · intro h
    exact wpAny_pure (hn h)
  · intro i hi
    refine wpAny_bind (wpAny_dictEntries (s := { s with toks := s.toks + k.draws }) ho hd ?_)
    have hl : i < es.size := by rw [he.len]; exact (List.getElem?_eq_some_iff.mp hi).1
    rw [Array.getElem?_eq_getElem hl]
    exact wpAny_pure (hs i _ hi (Array.getElem?_eq_getElem hl))
theorem set_raw {v : Value} {Q : Unit → Shared → Prop} (hu : A.units + 8 < cLine) (hkey : NestedIs s.heap k key) (hdep : k.depth ≤ 8) (r : RawD s.heap d es) (he : Ents w s.heap ks es) (hz : es.size ≤ sizeLine)
    (hn : (∀ i : Nat, ks[i]? ≠ some k) → ∀ h', RawD h' d (es.push ⟨k.hash w, key, v⟩) → Heap.SameBut d s.heap h' → Q () { s with heap := h', toks := s.toks + k.draws })
    (hs : ∀ i : Nat, ks[i]? = some k → ∀ h', RawD h' d (es.modify i fun e => { e with val := v }) → Heap.SameBut d s.heap h' → Q () { s with heap := h', toks := s.toks + k.draws }) : wpAny (model prog w) A (dictSet d key v) Q E s := by
  obtain ⟨o, ep, ho, hx, hd⟩ := r
  unfold dictSet
  try with_reducible refine wpAny_holding ?_
  refine wpAny_bind (pyHash_key k key A s _ hkey (by omega) ?_)
  unfold dictSetHashed
  try with_reducible refine wpAny_holding ?_
  refine wpAny_bind (find_ok (s := { s with toks := s.toks + k.draws }) hu hkey hdep ho hd he ?_ ?_)
  · intro h
    exact wpAny_bind (wpAny_rule (wpAny_updateDictKeys (hz := hz) (s := { s with toks := s.toks + k.draws }) ho hd (hn h _ ⟨_, ep + 1, Heap.get?_update_self _ ho (Obj.isFreed_of_dict (Obj.data_mapDictKeys hd _)), hx.mapDictKeys _, Obj.data_mapDictKeys hd _⟩ (Heap.SameBut.update ..))))
  · intro i hi
    exact wpAny_bind (wpAny_rule (wpAny_bind (wpAny_updateDict (s := { s with toks := s.toks + k.draws }) ho hd (wpAny_point (hs i hi _ ⟨_, ep, Heap.get?_update_self _ ho (Obj.isFreed_of_dict (Obj.data_mapDict hd _)), hx.mapDict _, Obj.data_mapDict hd _⟩ (Heap.SameBut.update ..))))))
end

/-! ### the same on values -/
theorem paired_get {α β : Type} {F : α → β → Prop} : ∀ {l : List α} {m : List β}, Paired F l m → ∀ (i : Nat) (a : α), l[i]? = some a → ∃ b, m[i]? = some b ∧ F a b
  | _, _, .nil, i, a, h => by simp at h
  | _, _, .cons r t, 0, a, h => by simp at h; subst h; exact ⟨_, rfl, r⟩
  | _, _, .cons r t, i + 1, a, h => by simp at h ⊢; exact paired_get t i a h
theorem paired_getR {α β : Type} {F : α → β → Prop} : ∀ {l : List α} {m : List β}, Paired F l m → ∀ (i : Nat) (b : β), m[i]? = some b → ∃ a, l[i]? = some a ∧ F a b
  | _, _, .nil, i, a, h => by simp at h
  | _, _, .cons r t, 0, a, h => by simp at h; subst h; exact ⟨_, rfl, r⟩
  | _, _, .cons r t, i + 1, a, h => by simp at h ⊢; exact paired_getR t i a h
theorem paired_of {α β : Type} {F : α → β → Prop} : ∀ {l : List α} {m : List β}, l.length = m.length → (∀ (i : Nat) (a : α) (b : β), l[i]? = some a → m[i]? = some b → F a b) → Paired F l m
  | [], [], _, _ => .nil
  | a :: l, b :: m, h, f => .cons (f 0 a b rfl rfl) (paired_of (by simpa using h) fun i x y e1 e2 => f (i + 1) x y (by simpa using e1) (by simpa using e2))
  | [], _ :: _, h, _ => by simp at h
  | _ :: _, [], h, _ => by simp at h
section
variable {G : Gb} {Γ : Gt} {S : Stt} {RX : RXT} {W : XW} {C : Calls} {k : Nat} {X : Cx} {pins : List (Addr × Obj)} {σ : L2.St} {H : Hp} {s : Shared}
mutual
/-- a key's value -/
theorem nested_of (I : Inv X pins σ H s) (hK : X.K = G.K) {φ : List Addr} : ∀ {u : U} {v : V} {val : Value}, hk u = true → RV G φ H u v → RelV v val → NestedIs s.heap (nk u) val
  | .non, v, val, _, r, q => by rw [RV] at r; subst r; cases q; exact .none
  | .bl b, v, val, _, r, q => by rw [RV] at r; subst r; cases q; exact .bool rfl
  | .int i, v, val, _, r, q => by rw [RV] at r; subst r; obtain ⟨t, rfl⟩ := q; exact .int i t
  | .str i, v, val, _, r, q => by rw [RV] at r; subst r; obtain ⟨t, rfl⟩ := q; exact .text i t
  | .tup us, v, val, h, r, q => by
    rw [RV] at r
    obtain ⟨a, vs, rfl, h1, h2⟩ := r
    cases q
    obtain ⟨its, rv, ⟨o, e1, e2, n, e3⟩, _⟩ := I.tuple (hK ▸ h1)
    rw [hk] at h
    exact .tup e1 e2 e3 (by simpa using nested_all I hK h h2 rv)
  | .rl _, _, _, h, _, _ => by simp [hk] at h
  | .loc _, _, _, h, _, _ => by simp [hk] at h
  | .fn _, _, _, h, _, _ => by simp [hk] at h
  | .gd _ _, _, _, h, _, _ => by simp [hk] at h
theorem nested_all (I : Inv X pins σ H s) (hK : X.K = G.K) {φ : List Addr} : ∀ {us : List U} {vs : List V} {vals : List Value}, hks us = true → RVs G φ H us vs → Vals vs vals → NestedAll s.heap (nks us) vals
  | [], vs, vals, _, r, q => by rw [r.nil_inv] at q; cases q; exact .nil
  | u :: us, vs, vals, h, r, q => by
    obtain ⟨v, vr, rfl, h1, h2⟩ := r.cons_inv
    rw [hks, Bool.and_eq_true] at h
    cases q with
    | cons q qs => exact .cons (nested_of I hK h.1 h1 q) (nested_all I hK h.2 h2 qs)
end
theorem hkD_of {u : U} (h : hkD u = true) : hk u = true ∧ (nk u).depth ≤ 8 := by simpa [hkD] using h
theorem raw_of (I : Inv X pins σ H s) {d : Addr} {es : Array DictEntry} (e : H d = some (DObj d es)) : RawD s.heap d es := (I.hok d _ e).1
theorem ents_of (I : Inv X pins σ H s) (hK : X.K = G.K) (hw : X.w = G.w) {φ : List Addr} {kvs : List (U × U)} {es : Array DictEntry} (p : Paired (EntR G φ H) kvs es.toList) (nd : (kvs.map fun p => nk p.1).Nodup) : Ents X.w s.heap (kvs.map fun p => nk p.1) es := by
  refine ⟨by rw [List.length_map, p.length]; simp, fun i e h => ?_, nd⟩
  obtain ⟨q, h1, h2⟩ := paired_getR p i e (by rw [Array.getElem?_toList]; exact h)
  obtain ⟨v, h3, h4⟩ := h2.key
  obtain ⟨h5, h6⟩ := hkD_of h2.ok
  exact ⟨nk q.1, by rw [List.getElem?_map, h1]; rfl, nested_of I hK h5 h3 h4, h6, by rw [h2.hash, hw]⟩
theorem dGet_none {kvs : List (U × U)} {u : U} (h : ∀ i : Nat, (kvs.map fun p => nk p.1)[i]? ≠ some (nk u)) : dGet kvs u = none := by
  unfold dGet
  rw [Option.map_eq_none_iff, List.find?_eq_none]
  intro p hp
  obtain ⟨i, hi, e⟩ := List.getElem_of_mem hp
  intro z
  have z' : nk p.1 = nk u := by simpa [kEq] using z
  refine h i ?_
  rw [List.getElem?_map, List.getElem?_eq_getElem hi, e]
  exact congrArg some z'
theorem dGet_at {kvs : List (U × U)} {u : U} {p : U × U} {i : Nat} (nd : (kvs.map fun p => nk p.1).Nodup) (h : kvs[i]? = some p) (hp : nk p.1 = nk u) : dGet kvs u = some p.2 := by
  induction kvs generalizing i with
  | nil => simp at h
  | cons q l ih =>
    unfold dGet
    rw [List.map_cons, List.nodup_cons] at nd
    cases i with
    | zero =>
      simp at h; subst h
      rw [List.find?_cons_of_pos (by simp [kEq, hp])]; rfl
    | succ i =>
      simp at h
      rw [List.find?_cons_of_neg]
      · exact ih nd.2 h
      · intro z
        have z' : nk q.1 = nk u := by simpa [kEq] using z
        refine nd.1 ?_
        rw [z', ← hp]
        exact List.mem_map.mpr ⟨p, List.mem_of_getElem? h, rfl⟩
theorem kp_ext {K : PySem.W.Frag} {d : Addr} {ψ ψ' : Heap → Prop} (h : H d = some (.ext ψ)) : Kp K H (upd H d (.ext ψ')) := by
  refine ⟨fun a vs h1 => ?_, fun b o u e => ?_⟩
  · rcases h1 with (h1 | ⟨o, h1⟩) | h1
    · refine .inl (.inl ?_)
      rw [upd_ne (fun z => by rw [z, h] at h1; cases h1)]; exact h1
    · refine .inl (.inr ⟨o, ?_⟩)
      rw [upd_ne (fun z => by rw [z, h] at h1; cases h1)]; exact h1
    · exact .inr h1
  · rw [upd_ne (fun z => by rw [z, h] at e; cases e)]; exact e
theorem dobj_ok {P : Program} {w : World} {H' : Hp} {h : Heap} {d : Addr} {es : Array DictEntry} (r : RawD h d es) : ObjOk P w H' h d (DObj d es) := by
  obtain ⟨o, ep, ho, hx, hd⟩ := r
  exact ⟨⟨o, ep, ho, hx, hd⟩, ⟨o, ho⟩, fun h1 h2 ⟨o, ep, a, b, c⟩ kk => ⟨o, ep, kk o a, b, c⟩⟩

/-- what a look into a dict finds -/
theorem d_look {Q : Option Value → Shared → Prop} {A : Around} {E : Value → Shared → Prop} (hu : A.units + 8 < cLine) (I : Inv X pins σ H s) (hK : X.K = G.K) (hw : X.w = G.w) {φ : List Addr} {d : Addr} {kvs : List (U × U)} {u : U} {y : V} {val : Value} (rc : RC G φ H d (.dct kvs)) (hu2 : hkD u = true) (r : RV G φ H u y) (q : RelV y val)
    (hn : dGet kvs u = none → ∀ t, Q none { s with toks := t }) (hs : ∀ w v vv, dGet kvs u = some w → RV G φ H w v → RelV v vv → ∀ t, Q (some vv) { s with toks := t }) : wpAny (model X.prog X.w) A (dictGet d val) Q E s := by
  obtain ⟨es, h1, h2, h3, h4, h5⟩ := rc
  obtain ⟨g1, g2⟩ := hkD_of hu2
  refine get_raw hu (nested_of I hK g1 r q) g2 (raw_of I h1) (ents_of I hK hw h4 h5) (fun h => hn (dGet_none h) _) fun i e hi he => ?_
  rw [List.getElem?_map] at hi
  cases hp : kvs[i]? with
  | none => rw [hp] at hi; cases hi
  | some p =>
    rw [hp] at hi
    obtain ⟨e', e1, e2⟩ := paired_get h4 i p hp
    rw [Array.getElem?_toList, he] at e1
    cases e1
    obtain ⟨v, f1, f2⟩ := e2.val
    exact hs p.2 v e.val (dGet_at h5 hp (by simpa using hi)) f1 f2 _
theorem dPut_len (kvs : List (U × U)) (u w : U) : (dPut kvs u w).length ≤ kvs.length + 1 := by
  unfold dPut; split <;> simp
theorem rc_push {φ : List Addr} {d : Addr} {kvs : List (U × U)} {u w : U} {y z : V} {val vz : Value} {es : Array DictEntry} (hw : X.w = G.w) (h1 : H d = some (DObj d es)) (h2 : (d == sysModules) = false) (h4 : Paired (EntR G φ H) kvs es.toList) (h5 : (kvs.map fun p => nk p.1).Nodup) (hu2 : hkD u = true) (hl : kvs.length < sizeLine)
    (r : RV G φ H u y) (q : RelV y val) (r2 : RV G φ H w z) (q2 : RelV z vz) (h : ∀ i : Nat, (kvs.map fun p => nk p.1)[i]? ≠ some (nk u)) : RC G φ (upd H d (DObj d (es.push ⟨(nk u).hash X.w, val, vz⟩))) d (.dct (dPut kvs u w)) := by
  have hlen : kvs.length = es.size := by rw [h4.length]; simp
  have up : ∀ es', ∀ {p : U × U} {e : DictEntry}, EntR G φ H p e → EntR G φ (upd H d (DObj d es')) p e := fun es' p e r => r.up (kp_ext h1) (fun _ _ z => z)
  refine ⟨_, upd_same, h2, by rw [Array.size_push, ← hlen]; exact hl, ?_, ?_⟩
  · rw [Array.toList_push]
    unfold dPut
    rw [dGet_none h, if_neg (by simp)]
    refine paired_of (by simp [h4.length]) fun i a b e1 e2 => ?_
    by_cases hi : i < kvs.length
    · rw [List.getElem?_append_left hi] at e1
      rw [List.getElem?_append_left (by rw [← h4.length]; exact hi)] at e2
      obtain ⟨b', f1, f2⟩ := paired_get h4 i a e1
      rw [e2] at f1; cases f1
      exact up _ f2
    · rw [List.getElem?_append_right (by omega)] at e1
      rw [List.getElem?_append_right (by rw [← h4.length]; omega)] at e2
      rw [← h4.length] at e2
      have hi0 : i - kvs.length = 0 := by
        have := (List.getElem?_eq_some_iff.mp e1).1
        simp at this; omega
      rw [hi0] at e1 e2
      simp at e1 e2
      subst e1 e2
      exact ⟨⟨y, RV.up (kp_ext h1) (fun _ _ z => z) _ _ r, q⟩, ⟨z, RV.up (kp_ext h1) (fun _ _ z => z) _ _ r2, q2⟩, by rw [hw], hu2⟩
  · unfold dPut
    rw [dGet_none h, if_neg (by simp), List.map_append, List.nodup_append]
    refine ⟨h5, by simp, fun a ha b hb => ?_⟩
    simp only [List.map_cons, List.map_nil, List.mem_singleton] at hb
    subst hb
    obtain ⟨i, hi, e⟩ := List.getElem_of_mem ha
    exact fun z => h i (by rw [List.getElem?_eq_getElem hi, e, z])
/-- .. and a store leaves -/
theorem d_store {Q : Unit → Shared → Prop} {A : Around} {E : Value → Shared → Prop} (hu : A.units + 8 < cLine) (I : Inv X pins σ H s) (hK : X.K = G.K) (hw : X.w = G.w) {φ : List Addr} {d : Addr} {kvs : List (U × U)} {u w : U} {y z : V} {val vz : Value} (rc : RC G φ H d (.dct kvs)) (hu2 : hkD u = true) (hl : kvs.length < sizeLine)
    (r : RV G φ H u y) (q : RelV y val) (r2 : RV G φ H w z) (q2 : RelV z vz) (hq : ∀ es' h' t, Inv X pins σ (upd H d (DObj d es')) { s with heap := h', toks := t } → Kp G.K H (upd H d (DObj d es')) → RC G φ (upd H d (DObj d es')) d (.dct (dPut kvs u w)) → Heap.SameBut d s.heap h' → Q () { s with heap := h', toks := t }) : wpAny (model X.prog X.w) A (dictSet d val vz) Q E s := by
  obtain ⟨es, h1, h2, h3, h4, h5⟩ := rc
  obtain ⟨g1, g2⟩ := hkD_of hu2
  have hlen : kvs.length = es.size := by rw [h4.length]; simp
  have inv : ∀ es' h', RawD h' d es' → Heap.SameBut d s.heap h' → Inv X pins σ (upd H d (DObj d es')) { s with heap := h', toks := s.toks + (nk u).draws } := fun es' h' rw' hs' =>
    I.write (by rw [h1]; exact True.intro) (.inl rfl) (fun b ob hb e => (hs'.2 b hb).trans e) (let ⟨o, _, e, _⟩ := rw'; ⟨o, e⟩) (dobj_ok rw')
  have up : ∀ es', ∀ {p : U × U} {e : DictEntry}, EntR G φ H p e → EntR G φ (upd H d (DObj d es')) p e := fun es' p e r => r.up (kp_ext h1) (fun _ _ z => z)
  refine set_raw hu (nested_of I hK g1 r q) g2 (raw_of I h1) (ents_of I hK hw h4 h5) h3 (fun h h' rw' hs' => ?_) fun i hi h' rw' hs' => ?_
  · exact hq _ h' _ (inv _ h' rw' hs') (kp_ext h1) (rc_push hw h1 h2 h4 h5 hu2 hl r q r2 q2 h) hs'
  · rw [List.getElem?_map] at hi
    cases hp : kvs[i]? with
    | none => rw [hp] at hi; cases hi
    | some p =>
      rw [hp] at hi
      have hpk : nk p.1 = nk u := by simpa using hi
      have hput : dPut kvs u w = kvs.map fun p => if kEq p.1 u then (p.1, w) else p := by
        unfold dPut
        rw [dGet_at h5 hp hpk]
        exact if_pos rfl
      have hkeys : (dPut kvs u w).map (fun p => nk p.1) = kvs.map fun p => nk p.1 := by
        rw [hput, List.map_map]
        refine List.map_congr_left fun p _ => ?_
        show nk (if kEq p.1 u then (p.1, w) else p).1 = nk p.1
        split <;> rfl
      refine hq _ h' _ (inv _ h' rw' hs') (kp_ext h1) ⟨_, upd_same, h2, by rw [Array.size_modify]; exact h3, ?_, by rw [hkeys]; exact h5⟩ hs'
      rw [hput]
      refine paired_of (by simp [hlen]) fun j a b e1 e2 => ?_
      rw [List.getElem?_map] at e1
      rw [Array.getElem?_toList, Array.getElem?_modify] at e2
      cases hj : kvs[j]? with
      | none => rw [hj] at e1; cases e1
      | some pj =>
        rw [hj] at e1
        obtain ⟨e', f1, f2⟩ := paired_get h4 j pj hj
        rw [Array.getElem?_toList] at f1
        rw [f1] at e2
        simp only [Option.map_some, Option.some.injEq] at e1
        by_cases hij : i = j
        · subst hij
          rw [hp] at hj; cases hj
          rw [if_pos rfl] at e2
          simp only [Option.map_some, Option.some.injEq] at e2
          subst e1 e2
          rw [if_pos (by simp [kEq, hpk])]
          exact ⟨(up _ f2).key, ⟨z, RV.up (kp_ext h1) (fun _ _ z => z) _ _ r2, q2⟩, f2.hash, f2.ok⟩
        · rw [if_neg hij] at e2
          simp only [Option.some.injEq] at e2
          subst e2
          have : kEq pj.1 u = false := by
            cases hz : kEq pj.1 u with
            | false => rfl
            | true =>
              have z' : nk pj.1 = nk u := by simpa [kEq] using hz
              have := uniq_ix (k := nk u) h5 (by rw [List.getElem?_map, hp]; exact congrArg some hpk) (by rw [List.getElem?_map, hj]; exact congrArg some z')
              exact absurd this hij
          rw [this] at e1
          simp only [Bool.false_eq_true, if_false] at e1
          subst e1
          exact up _ f2
/-- .. and a default -/
theorem d_default {Q : Value → Shared → Prop} {A : Around} {E : Value → Shared → Prop} (hu : A.units + 8 < cLine) (I : Inv X pins σ H s) (hK : X.K = G.K) (hw : X.w = G.w) {φ : List Addr} {d : Addr} {kvs : List (U × U)} {u w : U} {y z : V} {val vz : Value} (rc : RC G φ H d (.dct kvs)) (hu2 : hkD u = true) (hl : kvs.length < sizeLine)
    (r : RV G φ H u y) (q : RelV y val) (r2 : RV G φ H w z) (q2 : RelV z vz) (hs : ∀ w v vv, dGet kvs u = some w → RV G φ H w v → RelV v vv → ∀ t, Q vv { s with toks := t })
    (hn : dGet kvs u = none → ∀ es' h' t, Inv X pins σ (upd H d (DObj d es')) { s with heap := h', toks := t } → RC G φ (upd H d (DObj d es')) d (.dct (dPut kvs u w)) → Q vz { s with heap := h', toks := t }) : wpAny (model X.prog X.w) A (dictSetDefault d val vz) Q E s := by
  obtain ⟨es, h1, h2, h3, h4, h5⟩ := rc
  obtain ⟨g1, g2⟩ := hkD_of hu2
  obtain ⟨o, ep, ho, hx, hd⟩ := raw_of I h1
  have he := ents_of I hK hw h4 h5
  have hkey := nested_of I hK g1 r q
  have hlen : kvs.length = es.size := by rw [h4.length]; simp
  unfold dictSetDefault
  try with_reducible refine wpAny_holding ?_
  refine wpAny_bind (pyHash_key (nk u) val A s _ hkey (by omega) ?_)
  refine wpAny_bind (find_ok (s := { s with toks := s.toks + (nk u).draws }) hu hkey g2 ho hd he ?_ ?_)
  · intro h
    refine wpAny_bind (wpAny_rule (wpAny_bind (wpAny_updateDictKeys (hz := h3) (s := { s with toks := s.toks + (nk u).draws }) ho hd (wpAny_pure ?_))))
    have rw' : RawD (s.heap.update d (Obj.mapDictKeys (fun x => x.push ⟨(nk u).hash X.w, val, vz⟩))) d (es.push ⟨(nk u).hash X.w, val, vz⟩) := ⟨_, ep + 1, Heap.get?_update_self _ ho (Obj.isFreed_of_dict (Obj.data_mapDictKeys hd _)), hx.mapDictKeys _, Obj.data_mapDictKeys hd _⟩
    have hs' : Heap.SameBut d s.heap (s.heap.update d (Obj.mapDictKeys (fun x => x.push ⟨(nk u).hash X.w, val, vz⟩))) := Heap.SameBut.update ..
    exact hn (dGet_none h) _ _ _ (I.write (by rw [h1]; exact True.intro) (.inl rfl) (fun b ob hb e => (hs'.2 b hb).trans e) (let ⟨o, _, e, _⟩ := rw'; ⟨o, e⟩) (dobj_ok rw')) (rc_push hw h1 h2 h4 h5 hu2 hl r q r2 q2 h)
  · intro i hi
    refine wpAny_bind (wpAny_dictEntries (s := { s with toks := s.toks + (nk u).draws }) ho hd ?_)
    rw [List.getElem?_map] at hi
    cases hp : kvs[i]? with
    | none => rw [hp] at hi; cases hi
    | some p =>
      rw [hp] at hi
      obtain ⟨e', e1, e2⟩ := paired_get h4 i p hp
      rw [Array.getElem?_toList] at e1
      rw [e1]
      obtain ⟨v, f1, f2⟩ := e2.val
      exact wpAny_bind (wpAny_rule (wpAny_pure (hs p.2 v e'.val (dGet_at h5 hp (by simpa using hi)) f1 f2 _)))
end
end DP
end
section
/-! DpU: dict(a list of pairs), tuple(a dict). -/
set_option linter.all false
set_option autoImplicit false
set_option maxRecDepth 100000
namespace DP
open PySem PySem.Spec PyProof.Rows L2
section
variable {G : Gb} {X : Cx} {pins : List (Addr × Obj)} {σ : L2.St}
theorem pairs_loop {φ : List Addr} {A : Around} {R : Result → Shared → Prop} {D l It : Addr} {res : Value} (hh : A.handled = none) (hu : A.in1.units + 8 < cLine) (hK : X.K = G.K) (hw : X.w = G.w) (hDl : D ≠ l) (hDI : D ≠ It) (hlI : l ≠ It) (us : List U) (kvs : List (U × U)) (hlen : us.length ≤ sizeLine) :
    ∀ (rest : List U) (i : Nat) (acc : List (U × U)) (ix : Int) (t : Tok) (H : Hp) (s : Shared) (vs : List V), us.drop i = rest → dOfs rest acc = some kvs → acc.length ≤ i → Inv X pins σ H s → RC G φ H D (.dct acc) → FpOk X pins H It → s.heap.IsListIter It l i → SqL X.K H l vs → RVs G φ H us vs →
      (∀ es' h' t', Inv X pins σ (upd H D (DObj D es')) { s with heap := h', toks := t' } → Kp G.K H (upd H D (DObj D es')) → RC G φ (upd H D (DObj D es')) D (.dct kvs) → R (.ok (.ret res)) { s with heap := h', toks := t' }) →
      codeAny (model X.prog X.w) A (.builtin "dict.update.loop" ⟨[.ref D, .ref It, .int ix t, res], []⟩) R s
  | [], i, acc, ix, t, H, s, vs, hd, he, hl, I, rc, f, hit, hq, rv, hR => by
    obtain ⟨its, r, pl, hz⟩ := I.list hq
    simp only [dOfs, Option.some.injEq] at he
    subst he
    have hi : us.length ≤ i := List.drop_eq_nil_iff.mp hd
    refine codeAny_builtin ud_entry ?_
    rw [Around.under_plainId ud_plain _]
    show wpAny _ A.in1 (pyNext (.ref It) >>= _) _ _ s
    refine wpAny_bind (wpAny_pyNext_list_end (A := A.in1) hh hit pl.isList (Array.getElem?_eq_none (by simp; rw [← r.length, rv.length]; exact hi)) fun h' hx => ?_)
    show wpAny _ A.in1 (Builtin.Dict.addKeywords D [] >>= _) _ _ _
    refine wpAny_bind (wpAny_pure (wpAny_pure ?_))
    obtain ⟨es, h1, _⟩ := id rc
    have e : upd H D (DObj D es) = H := funext fun b => by
      by_cases z : b = D
      · rw [z, upd_same, h1]
      · rw [upd_ne z]
    obtain ⟨f0, f1, f2, f3, f4, f5⟩ := f
    have I' : Inv X pins σ H { s with heap := h', toks := s.toks } := I.turned (t' := s.toks) (fun b o hb q => hx b o hb q) f0 f1 f3 f4 f5
    exact hR es h' s.toks (by rw [e]; exact I') (by rw [e]; exact Kp.refl) (by rw [e]; exact rc)
  | x :: rest, i, acc, ix, t, H, s, vs, hd, he, hl, I, rc, f, hit, hq, rv, hR => by
    obtain ⟨its, r, pl, hz⟩ := I.list hq
    have hi : i < us.length := by
      rcases Nat.lt_or_ge i us.length with h | h
      · exact h
      · rw [List.drop_eq_nil_of_le h] at hd; cases hd
    rw [List.drop_eq_getElem_cons hi] at hd
    have hx : us[i]? = some x := by rw [List.getElem?_eq_getElem hi]; exact congrArg some (List.cons.inj hd).1
    have hd' := (List.cons.inj hd).2
    obtain ⟨y, hy, ry⟩ := rv.get hx
    obtain ⟨val, hval, rval⟩ := r.get hy
    obtain ⟨k, v, hxk, hk⟩ : ∃ k v, x = .tup [k, v] ∧ (if hkD k then dOfs rest (dPut acc k v) else none) = some kvs := by
      cases x with
      | tup ws =>
        rcases ws with _ | ⟨k, _ | ⟨v, _ | ⟨_, _⟩⟩⟩ <;> first | (simp [dOfs] at he; done) | exact ⟨k, v, rfl, by simpa [dOfs] using he⟩
      | _ => simp [dOfs] at he
    subst hxk
    split at hk
    rotate_left
    · cases hk
    rename_i hkd
    rw [RV] at ry
    obtain ⟨b, ws, rfl, hb, rws⟩ := ry
    cases rval
    obtain ⟨kx, w1, rfl, rk, rws'⟩ := rws.cons_inv
    obtain ⟨vx, w2, rfl, rvv, rws''⟩ := rws'.cons_inv
    rw [rws''.nil_inv] at hb
    refine codeAny_builtin ud_entry ?_
    rw [Around.under_plainId ud_plain _]
    show wpAny _ A.in1 (pyNext (.ref It) >>= _) _ _ s
    refine wpAny_bind (wpAny_pyNext_list_item (x := .ref b) hit pl.isList (by simpa using hval) fun h1 hit1 hs1 => ?_)
    obtain ⟨f0, f1, f2, f3, f4, f5⟩ := id f
    have I1 : Inv X pins σ H { s with heap := h1, toks := s.toks } := I.turned (t' := s.toks) (fun c o hc q => (hs1.2 c hc).trans q) f0 f1 f3 f4 f5
    obtain ⟨itp, rp, ⟨o, ho, hc, n, hdt⟩, _⟩ := I1.tuple (hK ▸ hb)
    obtain ⟨ku, vu, rfl, rku, rvu⟩ := vals2 rp
    show wpAny _ A.in1 (holding [Value.ref b] _ >>= _) _ _ _
    refine wpAny_bind (wpAny_holding ?_)
    refine wpAny_bind (wpAny_tryCatch ?_)
    unfold Builtin.Dict.pairItems
    refine wpAny_bind (wpAny_typeOf (T := "tuple") ⟨o, ho, hc⟩ ?_)
    rw [if_pos (by first | decide | rfl | simp)]
    refine wpAny_bind (wpAny_seqItems ho hdt (wpAny_pure ?_))
    show wpAny _ A.in1 (holding [ku, vu] (dictSet D ku vu)) _ _ _
    refine wpAny_holding (d_store hu I1 hK hw rc hkd (by omega) rk rku rvv rvu fun es1 h2 t2 I2 kp2 rc2 sb2 => ?_)
    refine wpAny_pure ⟨plainId_quiet ud_plain _, ?_⟩
    obtain ⟨o2, ho2, r2⟩ := hit1
    refine pairs_loop hh hu hK hw hDl hDI hlI us kvs hlen rest (i + 1) (dPut acc k v) (ix + 1) 0 (upd H D (DObj D es1)) _ vs hd' hk (by have := dPut_len acc k v; omega) I2 rc2 ?_ ⟨o2, (sb2.2 It (Ne.symm hDI)).trans ho2, r2⟩ ?_ (RVs.up kp2 (fun _ _ z => z) _ _ rv) fun es' h' t' I' kp' rc' => ?_
    · refine ⟨?_, f1, f2, f3, f4, f5⟩
      rw [upd_ne (Ne.symm hDI)]; exact f0
    · rcases hq with (hq | ⟨oq, hq⟩) | hq
      · exact .inl (.inl (by rw [upd_ne (Ne.symm hDl)]; exact hq))
      · exact .inl (.inr ⟨oq, by rw [upd_ne (Ne.symm hDl)]; exact hq⟩)
      · exact .inr hq
    · rw [upd_upd] at I' kp' rc'
      exact hR es' h' t' I' (kp2.trans kp') rc'

/-- dict(l) -/
theorem call_mkd {φ : List Addr} {l : Addr} {vs : List V} {us : List U} {kvs : List (U × U)} {H : Hp} {s : Shared} {Q : Value → Shared → Prop} {E : Value → Shared → Prop} (hh : X.A.handled = none) (hu : X.A.units + 12 < cLine) (hK : X.K = G.K) (hw : X.w = G.w) (I : Inv X pins σ H s) (hq : SqL X.K H l vs) (rv : RVs G φ H us vs) (he : dOfs us [] = some kvs)
    (h : ∀ D es' h' t', H D = none → Inv X pins σ (upd H D (DObj D es')) { s with heap := h', toks := t' } → RC G φ (upd H D (DObj D es')) D (.dct kvs) → Q (.ref D) { s with heap := h', toks := t' }) :
    wpAny (model X.prog X.w) X.A (call (.type "dict") [.ref l]) Q E s := by
  obtain ⟨its, r, pl, hz⟩ := I.list hq
  obtain ⟨ol, nl, hl, hc, hd, hdat⟩ := id pl
  have hD : H s.heap.objs.size = none := I.hok.fresh (Nat.le_refl _)
  have hDs : (s.heap.objs.size == sysModules) = false := by
    have hb := I.big
    rw [beq_eq_false_iff_ne]
    exact fun z => absurd hb (by rw [← z]; exact Nat.lt_irrefl _)
  have rw0 : RawD (s.heap.push { cls := .type "dict", data := .dict #[] }) s.heap.objs.size #[] := ⟨_, 0, Heap.get?_push_size _ rfl, ⟨rfl, rfl, rfl⟩, rfl⟩
  have k0 : ∀ b o, s.heap.get? b = some o → (s.heap.push { cls := .type "dict", data := .dict #[] }).get? b = some o := fun b o e => Heap.get?_push_of_some _ e
  have I1 := I.laid (a := s.heap.objs.size) (o := DObj s.heap.objs.size #[]) (h' := s.heap.push { cls := .type "dict", data := .dict #[] }) (t' := s.toks) k0 (Nat.le_refl _) (dobj_ok rw0)
  have hlt : l < s.heap.objs.size := Heap.lt_size hl
  have kp0 : Kp G.K H (upd H s.heap.objs.size (DObj s.heap.objs.size #[])) := by
    refine ⟨fun a vs h => ?_, fun b o u e => ?_⟩
    · rcases h with (h | ⟨o, h⟩) | h
      · exact .inl (.inl (by rw [upd_ne (ne_of_none h hD)]; exact h))
      · exact .inl (.inr ⟨o, by rw [upd_ne (ne_of_none h hD)]; exact h⟩)
      · exact .inr h
    · rw [upd_ne (ne_of_none e hD)]; exact e
  refine callType_codes (Q₁ := fun obj s₁ => obj = .ref s.heap.objs.size ∧ s₁ = { s with heap := s.heap.push { cls := .type "dict", data := .dict #[] } }) PySem.F.kt_called_dict (PySem.F.kt_typeCall_dict_1 _) PySem.F.entry_dict_init (kt_code_dict_new _ ⟨rfl, rfl⟩) ?_
  rintro obj s₁ ⟨rfl, rfl⟩
  have hT : ({ s with heap := s.heap.push { cls := .type "dict", data := .dict #[] } } : Shared).TypeIs (.ref s.heap.objs.size) "dict" := ⟨_, Heap.get?_push_size _ rfl, rfl⟩
  refine ⟨hT, PySem.F.args_dict_init_2 _ _, ?_⟩
  unfold Builtin.«dict.__init__»
  refine wpAny_bind ?_
  unfold Builtin.Dict.selfAndRest
  refine wpAny_bind (wpAny_notOrdered_dict hT ?_)
  show wpAny _ _ (pure (s.heap.objs.size, [Value.ref l])) _ _ _
  refine wpAny_pure ?_
  show wpAny _ _ (Builtin.Dict.updateFrom "dict.__init__" s.heap.objs.size (.ref l) [] .none) _ _ _
  unfold Builtin.Dict.updateFrom
  refine wpAny_bind (wpAny_typeOf (T := "list") ⟨ol, k0 _ _ hl, hc⟩ ?_)
  rw [if_pos (by first | decide | rfl | simp)]
  refine wpAny_bind (miss_list (k0 _ _ hl) hc hdat hd hh fun h1 tk1 hk1 => ?_)
  rw [if_pos (show (none : Option Value).isNone = true from rfl)]
  refine wpAny_bind (wpAny_rule ?_)
  have I2 : Inv X pins σ (upd H s.heap.objs.size (DObj s.heap.objs.size #[])) { s with heap := h1, toks := tk1 } := I1.kept (t' := tk1) hk1
  have hl1 : h1.IsList l its.toArray := ⟨ol, hk1 _ _ (k0 _ _ hl), hc, nl, hdat⟩
  refine wpAny_bind (wpAny_pyIter_list hl1 ?_)
  have k2 : ∀ b o, h1.get? b = some o → (h1.push { cls := .type "list_iterator", data := .fields #[.ref l, .int 0 0] }).get? b = some o := fun b o e => Heap.get?_push_of_some _ e
  have I3 : Inv X pins σ (upd H s.heap.objs.size (DObj s.heap.objs.size #[])) { s with heap := h1.push { cls := .type "list_iterator", data := .fields #[.ref l, .int 0 0] }, toks := tk1 } := I2.kept (t' := tk1) k2
  have hS1 : s.heap.objs.size < h1.objs.size := Heap.lt_size (hk1 _ _ (Heap.get?_push_size _ rfl : (s.heap.push { cls := .type "dict", data := .dict #[] }).get? s.heap.objs.size = some { cls := .type "dict", data := .dict #[] }))
  have hq1 : SqL X.K (upd H s.heap.objs.size (DObj s.heap.objs.size #[])) l vs := by
    rcases hq with (hq | ⟨oq, hq⟩) | hq
    · exact .inl (.inl (by rw [upd_ne (ne_of_none hq hD)]; exact hq))
    · exact .inl (.inr ⟨oq, by rw [upd_ne (ne_of_none hq hD)]; exact hq⟩)
    · exact .inr hq
  have key := pairs_loop (G := G) (X := X) (pins := pins) (σ := σ) (φ := φ) (A := X.A.in1) (R := wants (fun r s₂ => r = .none ∧ Q (.ref s.heap.objs.size) s₂) E) (D := s.heap.objs.size) (l := l) (It := h1.objs.size) (res := Value.none) hh (by simp only [Around.in1_units]; omega) hK hw
    (Nat.ne_of_gt hlt) (Nat.ne_of_lt hS1) (Nat.ne_of_lt (Nat.lt_trans hlt hS1)) us kvs (by rw [← rv.length]; exact hz) us 0 [] 0 0 _ _ vs rfl he (Nat.zero_le _) I3 ⟨#[], upd_same, hDs, Nat.zero_le _, .nil, List.nodup_nil⟩ (I2.fpOk (Nat.le_refl _) (I2.hok.fresh (Nat.le_refl _)))
    ⟨_, Heap.get?_push_size _ rfl, rfl, rfl⟩ hq1 (RVs.up kp0 (fun _ _ z => z) _ _ rv) fun es' h' t' I' kp' rc' => ⟨rfl, h s.heap.objs.size es' h' t' hD (by rw [upd_upd] at I'; exact I') (by rw [upd_upd] at rc'; exact rc')⟩
  first
    | exact wpAny_pure ⟨plainId_quiet ud_plain _, key⟩
    | exact wpAny_bind (wpAny_pure (wpAny_pure ⟨plainId_quiet ud_plain _, key⟩))
end
section
variable {prog : Program} {w : World} {A : Around} {E : Value → Shared → Prop} {s : Shared} {d : Addr} {o : Obj} {es : Array DictEntry} {ep : Nat}
theorem tuple_new_dict {Q₁ : Value → Shared → Prop} (hh : A.handled = none) (lo : (d == sysModules) = false) (ho : s.heap.get? d = some o) (hx : o.ExactDict) (hd : o.data = .dict es ep) (hz : es.size ≤ sizeLine)
    (h : ∀ (h' : Heap) (tk : Nat) (acc : Array Value), (∀ b o, s.heap.get? b = some o → h'.get? b = some o) → ItemsOf (fun i v => ∃ en : DictEntry, es[i]? = some en ∧ v = en.key) acc es.size →
      Q₁ (.ref h'.objs.size) { s with heap := h'.push { cls := .type "tuple", data := .seq acc }, toks := tk }) :
    codeAny (model prog w) A (.call (.builtin "tuple.__new__") ⟨[.type "tuple", .ref d], []⟩) (wants Q₁ E) s := by
  refine codeAny_of_tree ?_
  show wpAny _ A.in1 (do checkBuiltinCall "tuple.__new__" ⟨[.type "tuple", .ref d], []⟩; again (.builtin "tuple.__new__" ⟨[.type "tuple", .ref d], []⟩)) _ _ s
  refine wpAny_bind (wpAny_of_eq (F.newCall_tuple_1 _) (wpAny_pure ⟨plainId_quiet F.plain_tuple_new _, codeAny_builtin F.entry_tuple_new ?_⟩))
  rw [Around.under_plainId F.plain_tuple_new _]
  have hsub := sub_tuple_self
  have hinit := init_tuple_lookup
  have hmh := madeHere_tuple
  have hT : s.TypeIs (.ref d) "dict" := ⟨_, ho, hx.1⟩
  have hh1 : A.in1.handled = none := hh
  wp_walk using wpAny_typeOf hT, PySem.W.kdu_collect (kdl_raw (o := o) (es := es) (ep := ep) lo hx hd) hh1 ho hz
  intro h' tk acc hk hacc
  show wpAny _ _ (Builtin.Tuple.tupleExact acc.toList.toArray >>= fun v => ret v) _ _ _
  unfold Builtin.Tuple.tupleExact
  refine wpAny_bind (wpAny_newObj_type ?_ (by show acc.toList.toArray.size ≤ sizeLine; simp only [Array.toArray_toList]; rw [hacc.1]; exact hz))
  refine wpAny_pure ?_
  have e : acc.toList.toArray = acc := by simp
  rw [e]
  exact h h' tk acc hk hacc
theorem call_tuple_dict {Q : Value → Shared → Prop} (hh : A.handled = none) (lo : (d == sysModules) = false) (ho : s.heap.get? d = some o) (hx : o.ExactDict) (hd : o.data = .dict es ep) (hz : es.size ≤ sizeLine)
    (hQ : ∀ (h' : Heap) (tk : Nat) (acc : Array Value), (∀ b o, s.heap.get? b = some o → h'.get? b = some o) → ItemsOf (fun i v => ∃ en : DictEntry, es[i]? = some en ∧ v = en.key) acc es.size →
      Q (.ref h'.objs.size) { s with heap := h'.push { cls := .type "tuple", data := .seq acc }, toks := tk }) :
    wpAny (model prog w) A (call (.type "tuple") [.ref d]) Q E s := by
  refine callType_codes (Q₁ := fun obj s₁ => s₁.TypeIs obj "tuple" ∧ Q obj s₁) F.called_tuple (F.typeCall_tuple_1 _) F.entry_object_init
    (tuple_new_dict (A := A.in1) hh lo ho hx hd hz fun h' tk acc hk hacc => ⟨⟨_, Heap.get?_push_size _ rfl, rfl⟩, hQ h' tk acc hk hacc⟩) fun obj s₁ h₁ => ?_
  exact ⟨h₁.1, F.args_object_init_2 obj _, object_init_meets F.called_tuple.init.lookup F.called_tuple.made (by decide) prog w A.in1 _ s₁ ⟨h₁.1, rfl, h₁.2⟩⟩
end
end DP
end
section
/-! DpE2: the dicts' rules. -/
set_option linter.all false
set_option autoImplicit false
set_option maxRecDepth 100000
namespace DP
open PySem PySem.Spec PyProof.Rows L2
theorem Ext.off {φ φ' : List Addr} {H H' : Hp} {D : Addr} {o : HO} (x : Ext φ φ' H H') (h : H D = none) : Ext φ φ' H (upd H' D o) :=
  ⟨x.app, fun a u e n => by rw [upd_ne (ne_of_none e h)]; exact x.keep a u e n, fun a e => by
    by_cases z : a = D
    · rw [z]; exact h
    · rw [upd_ne z] at e; exact x.dom a e⟩
theorem Ext.notIn {φ φ' : List Addr} {H H' : Hp} {D : Addr} {o : HO} (x : Ext φ φ' H H') (h : H D = some o) (n : D ∉ φ) : D ∉ φ' := fun z => by
  obtain ⟨l, rfl, hl⟩ := x.app
  rcases List.mem_append.mp z with z | z
  · exact n z
  · rw [(hl D z).1] at h; cases h
section
variable {G : Gb} {Γ : Gt} {S : Stt} {RX : RXT} {W : XW} {C : Calls} {k : Nat} {X : Cx} {e : Expr}
theorem hu8 (x : XOk G Γ S RX W C k X) : X.A.in1.units + 8 < cLine ∧ X.A.units + 8 < cLine := by
  have := x.room.un
  rw [Around.in1_units]
  constructor <;> omega
theorem d_ty {pins : List (Addr × Obj)} {σ : L2.St} {H : Hp} {s : Shared} {d : Addr} {es : Array DictEntry} (I : Inv X pins σ H s) (h : H d = some (DObj d es)) : s.TypeIs (.ref d) "dict" ∧ ∀ a, Value.ref d = .ref a → ∃ ob, s.heap.get? a = some ob ∧ ob.dict = none := by
  obtain ⟨o, ep, ho, hx, hd⟩ := raw_of I h
  refine ⟨⟨o, ho, hx.1⟩, fun a e => ?_⟩
  cases e
  exact ⟨o, ho, hx.2.1⟩
def PEd (G : Gb) (RX : RXT) (W : XW) (X : Cx) : List (Option Expr) → List Expr → List (VB × VB) → Prop
  | [], [], [] => True
  | some a :: as, b :: bs, (m, n) :: ms => PE X a (tM G RX W (rT G) m.v) ∧ PE X b (tM G RX W (rT G) n.v) ∧ PEd G RX W X as bs ms
  | _, _, _ => False
def rDlen : List V → Hp → VK → Prop := fun xs H Q => ∃ d es, xs = [.ref d] ∧ H d = some (DObj d es) ∧ (d == sysModules) = false ∧ es.size ≤ sizeLine ∧ Q (.int es.size) H
theorem d_len (x : XOk G Γ S RX W C k X) : CallR X (.builtin "len") rDlen := by
  intro pins s σ H xs us Q I rv ⟨d, es, ex, h1, h2, h3, q⟩
  subst ex
  obtain ⟨u, rfl, ru⟩ := vals1 rv
  cases ru
  obtain ⟨o, ep, ho, hx, hd⟩ := raw_of I h1
  have hT : s.TypeIs (.ref d) "dict" := (d_ty I h1).1
  refine Calls.call_function_entry PySem.kind_len PySem.plain_len PySem.entry_len (PySem.args_len1 _) ?_
  unfold Builtin.«len»
  refine wpAny_bind (m := oneArg "len" _) (wpAny_pure ?_)
  refine wpAny_bind (m := callSpecial? (.ref d) (Str.ofString "__len__")) (wpAny_callSpecial?_slot (name := Str.ofString "__len__") hT PySem.F.slot_dict_len (call_len_raw h2 ⟨o, ho, hx, hd⟩ ?_))
  show wpAny _ _ _ _ _ { s with toks := s.toks + 1 }
  refine wpAny_bind (wpAny_holding (wpAny_pure ?_))
  refine wpAny_bind (wpAny_letGo ?_)
  have hz : (es.size : Int) < 2 ^ 63 := by rw [sizeLine_eq] at h3; omega
  show wpAny _ _ (if ((es.size : Nat) : Int) < 0 then _ else _) _ _ _
  rw [if_neg (by omega)]
  show wpAny _ _ (if ((es.size : Nat) : Int) ≥ 2 ^ 63 then _ else _) _ _ _
  rw [if_neg (by omega)]
  exact wpAny_bind (wpAny_mkInt (wpAny_pure ⟨_, rfl, .int es.size, H, I.tok _, ⟨_, rfl⟩, q⟩))
def rDtup : List V → Hp → VK → Prop := fun xs H Q => ∃ d es vs, xs = [.ref d] ∧ H d = some (DObj d es) ∧ (d == sysModules) = false ∧ es.size ≤ sizeLine ∧ Vals vs (es.toList.map (·.key)) ∧ ∀ l, H l = none → Q (.ref l) (upd H l (.tup vs))
theorem d_tuple (x : XOk G Γ S RX W C k X) : CallR X (.type "tuple") rDtup := by
  intro pins s σ H xs us Q I rv ⟨d, es, vs, ex, h1, h2, h3, hv, q⟩
  subst ex
  obtain ⟨u, rfl, ru⟩ := vals1 rv
  cases ru
  obtain ⟨o, ep, ho, hx, hd⟩ := raw_of I h1
  refine call_tuple_dict (I.ok.hd x.calm) h2 ho hx hd h3 fun h' tk acc hk hacc => ?_
  have hF := I.kept (t' := tk) hk
  have e1 : acc.toList = es.toList.map (·.key) := by
    apply List.ext_getElem?
    intro j
    rw [List.getElem?_map, Array.getElem?_toList, Array.getElem?_toList]
    cases hj : acc[j]? with
    | none =>
      have : acc.size ≤ j := by simpa using hj
      rw [Array.getElem?_eq_none (by rw [← hacc.1]; exact this)]; rfl
    | some v =>
      obtain ⟨en, hen, hv⟩ := hacc.2 j v hj
      rw [hen, hv]; rfl
  have hvl : vs.length = es.size := by rw [hv.length]; simp
  refine ⟨.ref h'.objs.size, _, hF.laid (t' := tk) (o := .tup vs) (fun _ _ q => Heap.get?_push_of_some _ q) (Nat.le_refl _) ⟨by rw [hvl]; exact h3, acc.toList, by rw [e1]; exact hv, ?_⟩, rfl, q _ (hF.hok.fresh (Nat.le_refl _))⟩
  have e2 : acc.toList.toArray = acc := by simp
  rw [e2]
  exact ⟨_, Heap.get?_push_size _ rfl, rfl, _, rfl⟩
def rMkd (G : Gb) : List V → Hp → VK → Prop := fun xs H Q => ∃ φ l vs us kvs, xs = [.ref l] ∧ SqL G.K H l vs ∧ RVs G φ H us vs ∧ dOfs us [] = some kvs ∧ ∀ D es', H D = none → RC G φ (upd H D (DObj D es')) D (.dct kvs) → Q (.ref D) (upd H D (DObj D es'))
theorem c_mkd (x : XOk G Γ S RX W C k X) : CallR X (.type "dict") (rMkd G) := by
  intro pins s σ H xs us Q I rv ⟨φ, l, vs, ws, kvs, ex, hq, r, he, q⟩
  subst ex
  obtain ⟨u, rfl, ru⟩ := vals1 rv
  cases ru
  have := x.room.un
  exact call_mkd (I.ok.hd x.calm) (by omega) x.K x.w I (x.K ▸ hq) r he fun D es' h' t' hD I' rc' => ⟨.ref D, _, I', rfl, q D es' hD rc'⟩
theorem r_mkd (x : XOk G Γ S RX W C k X) {a : Expr} {ma : Ev → Store → Res T} {p q : Pos} (h2 : glB S.sc "dict" = true) (pl : plainX a = true) (ha : PE X a (tM G RX W (rT G) ma)) :
    PE X (.Call (.Name "dict" p) [a] [] q) (tM G RX W (rT G) fun ρ μ => (ma ρ μ).bind fun x μ1 => match x.lstOf μ1 with
    | some us => match dOfs us [] with
      | some kvs => .ok (.u (.loc μ1.length)) (μ1 ++ [.dct kvs])
      | none => .no
    | none => .no) := by
  refine weakE (pe_callTy (c_mkd x) (gl_of x.sc h2) (by rw [x.mg]; exact x.bls _ (by decide +kernel)) (by decide +kernel) (pa_cons ha pa_nil (starEach_of pl [] X.env)) (by decide +kernel) (by decide +kernel) (starEach_of pl [] X.env)) fun σ H Q ⟨φ, ρ, μ, rep, pp⟩ => ?_
  refine tM_bind bas_T rep pp fun t v φ1 μ1 H1 x1 r1 q1 h1 => ?_
  split at h1
  · rename_i us hu
    split at h1
    · rename_i kvs hk
      obtain ⟨l, vs, rfl, h3, h4⟩ := lstOf_of r1.st hu q1
      refine ⟨φ1, l, vs, us, kvs, rfl, h3, h4, hk, fun D es' hD rc => ?_⟩
      have hφ := r1.st.not_mem hD
      have up : ∀ (n : Nat) (b : Addr), φ1[n]? = some b → (φ1 ++ [D])[n]? = some b := fun n b e => by
        rw [List.getElem?_append_left (List.getElem?_eq_some_iff.mp e).1]; exact e
      refine h1 (φ1 ++ [D]) _ _ ((Ext.new hD).placed hφ hD) ((r1.st.new hD).place hφ (rc.up Kp.refl up rfl)) ?_
      show RV G (φ1 ++ [D]) (upd H1 D (DObj D es')) (.loc μ1.length) (.ref D)
      rw [RV]
      exact ⟨D, rfl, by rw [← r1.st.len]; simp⟩
    · exact h1.elim
  · exact h1.elim
def rDix (G : Gb) : R2 := fun x y H Q => ∃ d φ kvs u w, x = .ref d ∧ RC G φ H d (.dct kvs) ∧ RV G φ H u y ∧ hkD u = true ∧ dGet kvs u = some w ∧ ∀ v, RV G φ H w v → Q v H
theorem d_ix (x : XOk G Γ S RX W C k X) : IxR X (rDix G) := by
  intro value slice pins s σ H a b v u Q I ra rb ⟨d, φ, kvs, key, w, ea, rc, rk, hk, hg, q⟩ hs
  subst ea
  cases ra
  obtain ⟨es, h1, h2, h3, h4, h5⟩ := id rc
  obtain ⟨o, ep, ho, hx, hd⟩ := raw_of I h1
  have hT : s.TypeIs (.ref d) "dict" := (d_ty I h1).1
  have goal : wpAny (model X.prog X.w) X.A (getItem (.ref d) u) (EP X pins σ Q) X.xe s := by
    unfold getItem
    try with_reducible refine wpAny_holding ?_
    refine wpAny_bind (wpAny_sequenceKey hT (by decide) ?_)
    refine wpAny_bind (wpAny_callSpecial?_slot (name := Str.ofString "__getitem__") hT PySem.F.slot_dict_getitem
      (wpAny_call_entry PySem.F.slot_dict_getitem hT PySem.F.entry_dict_getitem ?_ (PySem.F.args_dict_getitem_2 _ _)))
    show wpAny _ _ (dictGet d u >>= _) _ _ s
    refine wpAny_bind (d_look (hu8 x).1 I x.K x.w rc hk rk rb (fun z => by rw [hg] at z; cases z) fun w' v' vv e1 e2 e3 t => ?_)
    rw [hg] at e1; cases e1
    exact wpAny_pure ⟨vv, rfl, wpAny_pure ⟨v', H, I.tok _, e3, q v' e2⟩⟩
  exact tail_any hT PySem.F.slot_dict_getitem.lookup goal hs
def rDin (G : Gb) (neg : Bool) : R2 := fun x y H Q => ∃ d φ kvs u, y = .ref d ∧ RC G φ H d (.dct kvs) ∧ RV G φ H u x ∧ hkD u = true ∧ Q (.bl (if neg then !(dGet kvs u).isSome else (dGet kvs u).isSome)) H
theorem d_has (x : XOk G Γ S RX W C k X) {pins : List (Addr × Obj)} {σ : L2.St} {H : Hp} {s : Shared} {d : Addr} {φ : List Addr} {kvs : List (U × U)} {key : U} {y : V} {u : Value} {Q : Bool → Shared → Prop} (I : Inv X pins σ H s) (rc : RC G φ H d (.dct kvs)) (hk : hkD key = true) (rk : RV G φ H key y) (rb : RelV y u)
    (q : ∀ t, Q (dGet kvs key).isSome { s with toks := t }) : wpAny (model X.prog X.w) X.A (contains (.ref d) u) Q X.xe s := by
  obtain ⟨es, h1, h2, h3, h4, h5⟩ := id rc
  have hT : s.TypeIs (.ref d) "dict" := (d_ty I h1).1
  refine wpAny_contains_slot hT PySem.F.slot_dict_contains ?_
  refine call_meetsIn PySem.F.slot_dict_contains hT PySem.F.entry_dict_contains (PySem.F.args_dict_contains_2 _ _) (S := fun A' R s' => A' = X.A ∧ s' = s ∧ ∀ t, R (.ok (.ret (.bool (dGet kvs key).isSome))) { s with toks := t }) (fun A' R s' hS => ?_) ⟨rfl, rfl, fun t => wpAny_truthy_bool (q t)⟩
  obtain ⟨rfl, rfl, hq⟩ := hS
  show wpAny _ _ (dictGet d u >>= _) _ _ _
  refine wpAny_bind (d_look (hu8 x).1 I x.K x.w rc hk rk rb (fun hn t => ?_) fun w' v' vv e1 e2 e3 t => ?_)
  · have := hq t
    rw [hn] at this
    show wpAny _ _ (Builtin.Dict.pendingKey? d u >>= _) _ _ _
    exact wpAny_bind (wpAny_pendingKey_other h2 (wpAny_pure this))
  · have := hq t
    rw [e1] at this
    show wpAny _ _ (ret (.bool true)) _ _ _
    exact wpAny_pure this
theorem d_in (x : XOk G Γ S RX W C k X) (neg : Bool) : OpR X (compareOp (if neg then .NotIn else .In)) (rDin G neg) := by
  intro pins s σ H a b v u Q I ra rb ⟨d, φ, kvs, key, eb, rc, rk, hk, q⟩
  subst eb
  cases rb
  cases neg with
  | false =>
    show wpAny _ _ (do return Value.bool (← contains (Value.ref d) v) : Sem Value) _ _ s
    exact wpAny_bind (d_has x I rc hk rk ra fun t => wpAny_pure ⟨.bl _, H, I.tok _, rfl, q⟩)
  | true =>
    show wpAny _ _ (do return Value.bool (!(← contains (Value.ref d) v)) : Sem Value) _ _ s
    exact wpAny_bind (d_has x I rc hk rk ra fun t => wpAny_pure ⟨.bl _, H, I.tok _, rfl, q⟩)
def rDset (G : Gb) : V → V → V → Hp → (Hp → Prop) → Prop := fun o i v H Q => ∃ d φ kvs u w, o = .ref d ∧ d ∈ φ ∧ RC G φ H d (.dct kvs) ∧ RV G φ H u i ∧ RV G φ H w v ∧ hkD u = true ∧ kvs.length < sizeLine ∧ ∀ es', RC G φ (upd H d (DObj d es')) d (.dct (dPut kvs u w)) → Q (upd H d (DObj d es'))
theorem d_set (x : XOk G Γ S RX W C k X) : PSet X (rDset G) := by
  intro pins s σ H o i v ov iv u Q I ro ri rv ⟨d, φ, kvs, key, w, eo, hd, rc, rk, rw', hk, hl, q⟩
  subst eo
  cases ro
  obtain ⟨es, h1, h2, h3, h4, h5⟩ := id rc
  have hT : s.TypeIs (.ref d) "dict" := (d_ty I h1).1
  unfold setItem
  try with_reducible refine wpAny_holding ?_
  refine wpAny_bind (wpAny_sequenceKey hT (by decide) ?_)
  refine wpAny_bind (wpAny_callSpecial?_slot (name := Str.ofString "__setitem__") hT PySem.F.slot_dict_setitem
    (wpAny_call_entry PySem.F.slot_dict_setitem hT PySem.F.entry_dict_setitem ?_ (PySem.F.args_dict_setitem_3 _ _ _)))
  show wpAny _ _ (Builtin.Dict.notOrdered "__setitem__" ⟨[.ref d, iv, u], []⟩ >>= _) _ _ s
  refine wpAny_bind (wpAny_notOrdered_dict hT ?_)
  show wpAny _ _ (dictSet d iv u >>= _) _ _ s
  exact wpAny_bind (d_store (hu8 x).1 I x.K x.w rc hk hl rk ri rw' rv fun es' h' t I' _ rc' _ => wpAny_pure ⟨.none, rfl, wpAny_pure ⟨_, I', q es' rc'⟩⟩)
def rDget (G : Gb) : V → List V → Hp → VK → Prop := fun x xs H Q => ∃ d φ kvs u y df b, x = .ref d ∧ xs = [y, b] ∧ RC G φ H d (.dct kvs) ∧ RV G φ H u y ∧ RV G φ H df b ∧ hkD u = true ∧ ∀ v, RV G φ H ((dGet kvs u).getD df) v → Q v H
theorem d_get (x : XOk G Γ S RX W C k X) : MtR X "dict.get" (rDget G) := by
  intro pins s σ H o xs v us Q I ro rxs ⟨d, φ, kvs, key, y, df, b, eo, exs, rc, rk, rd, hk, q⟩
  subst eo exs
  cases ro
  obtain ⟨iv, dv, rfl, ri, rb⟩ := vals2 rxs
  obtain ⟨es, h1, h2, h3, h4, h5⟩ := id rc
  have hT : s.TypeIs (.ref d) "dict" := (d_ty I h1).1
  refine wpAny_call_entry PySem.F.slot_dict_get hT PySem.F.entry_dict_get ?_ (PySem.F.args_dict_get_3 _ _ _)
  show wpAny _ _ (dictGet d iv >>= _) _ _ s
  refine wpAny_bind (d_look (hu8 x).1 I x.K x.w rc hk rk ri (fun hn t => ?_) fun w' v' vv e1 e2 e3 t => ?_)
  · show wpAny _ _ (Builtin.Dict.missed d iv >>= _) _ _ _
    rw [hn] at q
    exact wpAny_bind (wpAny_missed_other h2 (wpAny_pure ⟨dv, rfl, b, H, I.tok _, rb, q b rd⟩))
  · rw [e1] at q
    exact wpAny_pure ⟨vv, rfl, v', H, I.tok _, e3, q v' e2⟩
def rDsetd (G : Gb) : V → List V → Hp → VK → Prop := fun x xs H Q => ∃ d φ kvs u y df b, x = .ref d ∧ xs = [y, b] ∧ d ∈ φ ∧ RC G φ H d (.dct kvs) ∧ RV G φ H u y ∧ RV G φ H df b ∧ hkD u = true ∧ kvs.length < sizeLine ∧
  ((∃ w, dGet kvs u = some w ∧ ∀ v, RV G φ H w v → Q v H) ∨ (dGet kvs u = none ∧ ∀ es', RC G φ (upd H d (DObj d es')) d (.dct (dPut kvs u df)) → Q b (upd H d (DObj d es'))))
theorem d_setd (x : XOk G Γ S RX W C k X) : MtR X "dict.setdefault" (rDsetd G) := by
  intro pins s σ H o xs v us Q I ro rxs ⟨d, φ, kvs, key, y, df, b, eo, exs, hd, rc, rk, rd, hk, hl, q⟩
  subst eo exs
  cases ro
  obtain ⟨iv, dv, rfl, ri, rb⟩ := vals2 rxs
  obtain ⟨es, h1, h2, h3, h4, h5⟩ := id rc
  have hT : s.TypeIs (.ref d) "dict" := (d_ty I h1).1
  refine wpAny_call_entry PySem.F.slot_dict_setdefault hT PySem.F.entry_dict_setdefault ?_ (PySem.F.args_dict_setdefault_3 _ _ _)
  unfold Builtin.«dict.setdefault»
  refine wpAny_bind ?_
  unfold Builtin.Dict.keyAndDefault
  refine wpAny_bind (wpAny_notOrdered_dict hT ?_)
  show wpAny _ _ (pure (d, iv, some dv)) _ _ s
  refine wpAny_pure ?_
  show wpAny _ _ (if (d == sysModules) = true then _ else (dictSetDefault d iv dv >>= _)) _ _ s
  rw [if_neg (by rw [h2]; exact Bool.false_ne_true)]
  refine wpAny_bind (d_default (hu8 x).1 I x.K x.w rc hk hl rk ri rd rb (fun w' v' vv e1 e2 e3 t => ?_) fun hn es' h' t I' rc' => ?_)
  · rcases q with ⟨w, e, q⟩ | ⟨e, _⟩
    · rw [e] at e1; cases e1
      exact wpAny_pure ⟨vv, rfl, v', H, I.tok _, e3, q v' e2⟩
    · rw [e] at e1; cases e1
  · rcases q with ⟨w, e, _⟩ | ⟨_, q⟩
    · rw [e] at hn; cases hn
    · exact wpAny_pure ⟨dv, rfl, b, _, I', rb, q es' rc'⟩

/-! a display -/
def rPs (G : Gb) : List Addr → Hp → Hp → List (U × U) → List (V × V) → Prop := fun φ _ H a b => Paired (fun p q => RV G φ H p.1 q.1 ∧ RV G φ H p.2 q.2) a b
theorem bas_Ps : Bas (rPs G) := fun _ _ _ _ _ _ _ h => h
theorem rPs_up {φ φ' : List Addr} {H H' H0 H0' : Hp} (kp : Kp G.K H H') (hp : ∀ (n : Nat) (a : Addr), φ[n]? = some a → φ'[n]? = some a) {a : List (U × U)} {b : List (V × V)} (h : rPs G φ H0 H a b) : rPs G φ' H0' H' a b :=
  Paired.mapP h fun _ _ z => ⟨RV.up kp hp _ _ z.1, RV.up kp hp _ _ z.2⟩
/-- a step whose outcome is told from farther back -/
theorem tM_bindX {α β γ δ : Type} {R : List Addr → Hp → Hp → α → β → Prop} {R' : List Addr → Hp → Hp → γ → δ → Prop} {φ0 φ : List Addr} {ρ : Ev} {μ : Store} {σ : L2.St} {H0 H : Hp} {Q : δ → Hp → Prop} {m : M α} {kk : α → Store → Res γ} {Q1 : β → Hp → Prop}
    (rep : RepS G φ ρ μ σ H) (x0 : Ext φ0 φ H0 H) (h : Post G RX W R' φ0 σ H0 Q ((m ρ μ).bind kk))
    (hq : ∀ a b φ1 μ1 H1, Ext φ φ1 H H1 → RepS G φ1 ρ μ1 σ H1 → R φ1 H H1 a b → Post G RX W R' φ0 σ H0 Q (kk a μ1) → Q1 b H1) : tM G RX W R m σ H Q1 := by
  refine ⟨φ, ρ, μ, rep, ?_⟩
  cases q : m ρ μ with
  | no => rw [q] at h; exact h
  | ok a μ1 => rw [q] at h; exact fun φ' H' v x s r => hq a v φ' μ1 H' x (rep.up x s) r h
  | ex x μ1 => rw [q] at h; exact fun φ' H' c d x s r => h φ' H' c d (x0.trans x) s r
def trsOf (G : Gb) (RX : RXT) (W : XW) (ms : List (VB × VB)) : List (TE × TE) := ms.map fun p => (tM G RX W (rT G) p.1.v, tM G RX W (rT G) p.2.v)
theorem placed_bind {β : Type} (r : Res T) (f : U → Store → Res β) : (placed r).bind f = r.bind fun t μ => f (plc t μ).1 (plc t μ).2 := by
  unfold placed; cases r <;> rfl
theorem pairs_t : ∀ (ms : List (VB × VB)) {σ : L2.St} {H : Hp} {Q : List (V × V) → Hp → Prop}, tM G RX W (rPs G) (evd ms) σ H Q → tPairs (trsOf G RX W ms) σ H Q
  | [], σ, H, Q, ⟨φ, ρ, μ, rep, p⟩ => p φ H [] Ext.refl rep.st .nil
  | (a, b) :: ms, σ, H, Q, ⟨φ, ρ, μ, rep, p⟩ => by
    simp only [evd, placed_bind] at p
    refine tM_bind0 rep p fun t v φ1 μ1 H1 x1 r1 q1 h1 => ?_
    obtain ⟨φ2, x2, r2, q2⟩ := placed_ok x1 r1 q1
    refine tM_bindX r2 x2 h1 fun t' v' φ3 μ3 H3 x3 r3 q3 h3 => ?_
    obtain ⟨φ4, x4, r4, q4⟩ := placed_ok x3 r3 q3
    refine pairs_t ms (tM_bindX r4 (x2.trans x4) h3 fun kvs ps φ5 μ5 H5 x5 r5 q5 h5 => ?_)
    split at h5
    · exact h5 φ5 H5 _ (x2.trans (x4.trans x5)) r5.st (.cons ⟨r2.st.rv (x4.trans x5) q2, r4.st.rv x5 q4⟩ q5)
    · exact h5.elim
theorem pps_of {pos : Pos} : ∀ {ks : List (Option Expr)} {vs : List Expr} {ms : List (VB × VB)}, PEd G RX W X ks vs ms → PPs X pos ks vs (trsOf G RX W ms)
  | [], [], [], _ => pps_nil
  | some a :: as, b :: bs, (m, n) :: ms, h => pps_cons h.1 h.2.1 (pps_of h.2.2)
  | none :: _, _, _, h => by simp [PEd] at h
  | some _ :: _, [], _, h => by simp [PEd] at h
  | some _ :: _, _ :: _, [], h => by simp [PEd] at h
  | [], _ :: _, _, h => by simp [PEd] at h
  | [], [], _ :: _, h => by simp [PEd] at h

def putAll (acc kvs : List (U × U)) : List (U × U) := kvs.foldl (fun a p => dPut a p.1 p.2) acc
theorem store_all (hu : X.A.units + 8 < cLine) (hK : X.K = G.K) (hw : X.w = G.w) {pins : List (Addr × Obj)} {σ : L2.St} {D : Addr} {φ : List Addr} {E : Value → Shared → Prop} : ∀ (kvs : List (U × U)) (ps : List (V × V)) (vs : List (Value × Value)) (acc : List (U × U)) (H : Hp) (s : Shared) (Q : PUnit → Shared → Prop) (H0 : Hp),
    Inv X pins σ H s → RC G φ H D (.dct acc) → rPs G φ H0 H kvs ps → VV ps vs → (kvs.all fun p => hkD p.1) = true → acc.length + kvs.length ≤ sizeLine →
    (∀ es' h' t, Inv X pins σ (upd H D (DObj D es')) { s with heap := h', toks := t } → Kp G.K H (upd H D (DObj D es')) → RC G φ (upd H D (DObj D es')) D (.dct (putAll acc kvs)) → Q PUnit.unit { s with heap := h', toks := t }) →
    wpAny (model X.prog X.w) X.A (forIn vs PUnit.unit fun (x : Value × Value) (_ : PUnit) => (do dictSet D x.1 x.2; pure (ForInStep.yield PUnit.unit) : Sem (ForInStep PUnit))) Q E s
  | [], ps, vs, acc, H, s, Q, H0, I, rc, r, q, _, _, hq => by
    cases r
    cases q
    rw [List.forIn_nil]
    obtain ⟨es, h1, _⟩ := id rc
    have e : upd H D (DObj D es) = H := funext fun b => by
      by_cases z : b = D
      · rw [z, upd_same, h1]
      · rw [upd_ne z]
    refine wpAny_pure (hq es s.heap s.toks (by rw [e]; exact I) (by rw [e]; exact Kp.refl) (by rw [e]; exact rc))
  | p :: kvs, ps, vs, acc, H, s, Q, H0, I, rc, r, q, hk, hl, hq => by
    cases r with
    | cons r1 r2 =>
      cases q with
      | cons q1 q2 =>
        rename_i a ps' b vs'
        simp only [List.all_cons, Bool.and_eq_true] at hk
        rw [List.length_cons] at hl
        rw [List.forIn_cons]
        refine wpAny_bind (wpAny_bind (d_store hu I hK hw rc hk.1 (by omega) r1.1 q1.1 r1.2 q1.2 fun es1 h1 t1 I1 kp1 rc1 _ => wpAny_pure ?_))
        refine store_all hu hK hw kvs ps' vs' (dPut acc p.1 p.2) _ _ Q H0 I1 rc1 (rPs_up (H0 := H0) kp1 (fun _ _ z => z) r2) q2 hk.2 (by have := dPut_len acc p.1 p.2; omega) fun es' h' t I' kp' rc' => ?_
        rw [upd_upd] at I' kp' rc'
        exact hq es' h' t I' (kp1.trans kp') rc'
theorem evd_keys : ∀ {ms : List (VB × VB)} {ρ : Ev} {μ μ1 : Store} {kvs : List (U × U)}, evd ms ρ μ = .ok kvs μ1 → (kvs.all fun p => hkD p.1) = true ∧ kvs.length = ms.length
  | [], ρ, μ, μ1, kvs, h => by simp only [evd, Res.ok.injEq] at h; rw [← h.1]; exact ⟨rfl, rfl⟩
  | (a, b) :: ms, ρ, μ, μ1, kvs, h => by
    simp only [evd, placed_bind] at h
    cases h1 : a.v ρ μ with
    | no => rw [h1] at h; cases h
    | ex _ _ => rw [h1] at h; cases h
    | ok t μ2 =>
      rw [h1] at h
      simp only [Res.bind] at h
      cases h2 : b.v ρ (plc t μ2).2 with
      | no => rw [h2] at h; cases h
      | ex _ _ => rw [h2] at h; cases h
      | ok t' μ3 =>
        rw [h2] at h
        simp only [] at h
        cases h3 : evd ms ρ (plc t' μ3).2 with
        | no => rw [h3] at h; cases h
        | ex _ _ => rw [h3] at h; cases h
        | ok r μ4 =>
          rw [h3] at h
          simp only [] at h
          split at h
          · rename_i hk
            cases h
            obtain ⟨g1, g2⟩ := evd_keys h3
            exact ⟨by simp only [List.all_cons, hk, g1]; rfl, by simp [g2]⟩
          · cases h
theorem PEd.len : ∀ {ks : List (Option Expr)} {vs : List Expr} {ms : List (VB × VB)}, PEd G RX W X ks vs ms → ks.all (·.isSome) = true ∧ ks.length = vs.length ∧ ms.length = ks.length
  | [], [], [], _ => ⟨rfl, rfl, rfl⟩
  | some a :: as, b :: bs, (m, n) :: ms, h => by
    obtain ⟨h1, h2, h3⟩ := PEd.len h.2.2
    exact ⟨by simp only [List.all_cons, h1]; rfl, by simp [h2], by simp [h3]⟩
  | none :: _, _, _, h => by simp [PEd] at h
  | some _ :: _, [], _, h => by simp [PEd] at h
  | some _ :: _, _ :: _, [], h => by simp [PEd] at h
  | [], _ :: _, _, h => by simp [PEd] at h
  | [], [], _ :: _, h => by simp [PEd] at h
theorem r_dsp (x : XOk G Γ S RX W C k X) {ks : List (Option Expr)} {vs : List Expr} {ms : List (VB × VB)} {p : Pos} (hl : ks.length ≤ 15) (h : PEd G RX W X ks vs ms) :
    PE X (.Dict ks vs p) (tM G RX W (rT G) fun ρ μ => (evd ms ρ μ).bind fun kvs μ1 => .ok (.u (.loc μ1.length)) (μ1 ++ [.dct (kvs.foldl (fun a p => dPut a p.1 p.2) [])])) := by
  refine ⟨fun pins s σ H Q I ⟨φ, ρ, μ, rep, pp⟩ => ?_⟩
  have hD : H s.heap.objs.size = none := I.hok.fresh (Nat.le_refl _)
  have hDs : (s.heap.objs.size == sysModules) = false := by
    have hb := I.big
    rw [beq_eq_false_iff_ne]
    exact fun z => absurd hb (by rw [← z]; exact Nat.lt_irrefl _)
  have rw0 : RawD (s.heap.push { cls := .type "dict", data := .dict #[] }) s.heap.objs.size #[] := ⟨_, 0, Heap.get?_push_size _ rfl, ⟨rfl, rfl, rfl⟩, rfl⟩
  have I1 := I.laid (a := s.heap.objs.size) (o := DObj s.heap.objs.size #[]) (h' := s.heap.push { cls := .type "dict", data := .dict #[] }) (t' := s.toks) (fun _ _ q => Heap.get?_push_of_some _ q) (Nat.le_refl _) (dobj_ok rw0)
  have hφ : s.heap.objs.size ∉ φ := rep.st.not_mem hD
  obtain ⟨g1, g2, g3⟩ := h.len
  cases ks with
  | nil =>
    cases vs with
    | cons _ _ => simp at g2
    | nil =>
      cases ms with
      | cons _ _ => simp at g3
      | nil =>
        refine wpAny_Dict_empty ⟨.ref s.heap.objs.size, _, I1, rfl, ?_⟩
        have rc0 : RC G (φ ++ [s.heap.objs.size]) (upd H s.heap.objs.size (DObj s.heap.objs.size #[])) s.heap.objs.size (.dct []) := ⟨#[], upd_same, hDs, Nat.zero_le _, .nil, List.nodup_nil⟩
        exact pp (φ ++ [s.heap.objs.size]) _ _ ((Ext.new hD).placed hφ hD) ((rep.st.new hD).place hφ rc0) (by
          show RV G (φ ++ [s.heap.objs.size]) (upd H s.heap.objs.size (DObj s.heap.objs.size #[])) (.loc μ.length) (.ref s.heap.objs.size)
          rw [RV]
          exact ⟨s.heap.objs.size, rfl, by rw [← rep.st.len]; simp⟩)
  | cons k0 ks' =>
    have hn := pairTrees_length (k0 :: ks') vs X.env p g1 g2
    have h0 : pairTrees (k0 :: ks') vs X.env p ≠ [] := fun z => by rw [z] at hn; simp at hn
    rw [arm_eval_Dict, zip_pairTrees _ _ _ _ g1 g2, dictDisplay_pairs _ h0 (by rw [hn]; omega)]
    refine wpAny_bind (wpAny_standAt (wpAny_bind ?_))
    unfold subDict
    refine wpAny_bind (wpAny_alloc ?_)
    refine wpAny_bind (wpAny_holding ?_)
    rw [if_pos (by rw [hn]; exact hl)]
    have rep1 : RepS G φ ρ μ σ (upd H s.heap.objs.size (DObj s.heap.objs.size #[])) := rep.up (Ext.new hD) (rep.st.new hD)
    refine wpAny_bind (thn ((pps_of h).run pins _ σ _ (fun ps H2 => ∃ φ2 μ2 kvs, Ext φ φ2 (upd H s.heap.objs.size (DObj s.heap.objs.size #[])) H2 ∧ RepS G φ2 ρ μ2 σ H2 ∧ rPs G φ2 H2 H2 kvs ps ∧ (kvs.all fun p => hkD p.1) = true ∧ kvs.length ≤ 15 ∧
      Post G RX W (rT G) φ σ H Q (.ok (.u (.loc μ2.length)) (μ2 ++ [.dct (putAll [] kvs)]))) I1 (pairs_t ms ⟨φ, ρ, μ, rep1, ?_⟩)) fun ws s2 ⟨ps, H2, I2, rel, φ2, μ2, kvs, x2, r2, q2, hk2, hl2, p2⟩ => ?_)
    · dsimp only at pp
      cases q : evd ms ρ μ with
      | no => rw [q] at pp; exact pp
      | ex z μ1 => rw [q] at pp; exact fun φ' H' c d xx s' r => pp φ' H' c d ((Ext.new hD).trans xx) s' r
      | ok kvs μ1 =>
        rw [q] at pp
        obtain ⟨e1, e2⟩ := evd_keys q
        exact fun φ' H' v xx s' r => ⟨φ', μ1, kvs, xx, rep1.up xx s', r, e1, by rw [e2, g3]; exact hl, pp⟩
    · have hD2 : H2 s.heap.objs.size = some (DObj s.heap.objs.size #[]) := x2.keep _ _ upd_same hφ
      have hφ2 := x2.notIn (o := DObj s.heap.objs.size #[]) upd_same hφ
      refine wpAny_holding ?_
      refine wpAny_bind (store_all (hu8 x).2 x.K x.w kvs ps ws [] H2 s2 _ H2 I2 ⟨#[], hD2, hDs, Nat.zero_le _, .nil, List.nodup_nil⟩ q2 rel hk2 (by rw [sizeLine_eq]; simp; omega) fun es' h' t I' kp' rc' => wpAny_pure (wpAny_pure (wpAny_pure ⟨.ref s.heap.objs.size, _, I', rfl, ?_⟩)))
      have up : ∀ (n : Nat) (b : Addr), φ2[n]? = some b → (φ2 ++ [s.heap.objs.size])[n]? = some b := fun n b e => by
        rw [List.getElem?_append_left (List.getElem?_eq_some_iff.mp e).1]; exact e
      have x3 : Ext φ φ2 H (upd H2 s.heap.objs.size (DObj s.heap.objs.size es')) := ((Ext.new hD).trans x2).off hD
      have s3 : RepStore G φ2 μ2 (upd H2 s.heap.objs.size (DObj s.heap.objs.size es')) := ⟨r2.st.len, r2.st.nd, fun n c a e f => (r2.st.at_ n c a e f).up kp' (fun _ _ z => z) (upd_ne fun z => hφ2 (z ▸ List.mem_of_getElem? f))⟩
      refine p2 (φ2 ++ [s.heap.objs.size]) _ _ (x3.placed hφ2 hD) (s3.place hφ2 (rc'.up Kp.refl up rfl)) ?_
      show RV G (φ2 ++ [s.heap.objs.size]) (upd H2 s.heap.objs.size (DObj s.heap.objs.size es')) (.loc μ2.length) (.ref s.heap.objs.size)
      rw [RV]
      exact ⟨s.heap.objs.size, rfl, by rw [← r2.st.len]; simp⟩
end
end DP
end
section
/-! DpJ: len, tuple, list; places of a dict; methods; calls of a slot's def. -/
set_option linter.all false
set_option autoImplicit false
set_option maxRecDepth 100000
namespace DP
open PySem PySem.Spec PyProof.Rows L2

section
variable {G : Gb} {Γ : Gt} {S : Stt} {RX : RXT} {W : XW} {C : Calls} {k : Nat} {X : Cx} {e : Expr}

theorem dctOf_of {φ : List Addr} {μ : Store} {H0 H : Hp} {t : T} {v : V} {n : Nat} {kvs : List (U × U)} (s : RepStore G φ μ H) (e : t.dctOf μ = some (n, kvs)) (r : RT G φ H0 H t v) : ∃ a, v = .ref a ∧ φ[n]? = some a ∧ μ[n]? = some (.dct kvs) ∧ RC G φ H a (.dct kvs) := by
  unfold T.dctOf at e
  split at e
  · rename_i m
    split at e
    · rename_i kv hm
      simp only [Option.some.injEq, Prod.mk.injEq] at e
      obtain ⟨rfl, rfl⟩ := e
      obtain ⟨a, h1, h2⟩ := s.get hm
      simp only [RT, RV] at r
      obtain ⟨b, rfl, h3⟩ := r
      rw [h1] at h3; cases h3
      exact ⟨a, rfl, h1, hm, h2⟩
    · cases e
  · cases e
theorem keys_vals {φ : List Addr} {H : Hp} : ∀ {kvs : List (U × U)} {es : List DictEntry}, Paired (EntR G φ H) kvs es → ∃ vs, RVs G φ H (kvs.map (·.1)) vs ∧ Vals vs (es.map (·.key))
  | [], _, p => by cases p; exact ⟨[], .nil, .nil⟩
  | x :: kvs, _, p => by
    cases p with
    | cons r t =>
      obtain ⟨vs, h1, h2⟩ := keys_vals t
      obtain ⟨v, h3, h4⟩ := r.key
      exact ⟨v :: vs, .cons h3 h1, .cons h4 h2⟩

theorem c_len (x : XOk G Γ S RX W C k X) : CallR X (.builtin "len") (rB1 G fun t μ => b1T .len t μ) := by
  refine callR_imp (callR_or call_len (d_len x)) fun xs H Q ⟨v, φ, μ, H0, t, r, e, s, q, e1, h⟩ => ?_
  simp only [b1T] at e1
  split at e1
  · rename_i n kvs hd
    simp only [Option.some.injEq] at e1; subst e1
    obtain ⟨a, rfl, _, _, es, h1, h2, h3, h4, _⟩ := dctOf_of s hd q
    refine .inr ⟨a, es, e, h1, h2, h3, ?_⟩
    have : kvs.length = es.size := by rw [h4.length]; simp
    rw [← this]
    exact fin_val s (by simp [RT, RV]) h
  · cases hl : lenT μ t with
    | none => rw [hl] at e1; cases e1
    | some n =>
      rw [hl] at e1
      cases e1
      exact .inl ⟨v, n, e, x.K ▸ lenT_ok s hl q, fin_val s (by simp [RT, RV]) h⟩
theorem c_tuple (x : XOk G Γ S RX W C k X) : CallR X (.type "tuple") (rB1 G fun t μ => b1T .tuple t μ) := by
  refine callR_imp (callR_or call_tuple_of (d_tuple x)) fun xs H Q ⟨v, φ, μ, H0, t, r, e, s, q, e1, h⟩ => ?_
  simp only [b1T] at e1
  split at e1
  · rename_i us hs
    simp only [Option.some.injEq] at e1; subst e1
    unfold T.seqOf at hs
    split at hs
    · rename_i ws hl
      simp only [Option.some.injEq] at hs; subst hs
      obtain ⟨a, vs, rfl, h1, h2⟩ := lstOf_of s hl q
      exact .inl ⟨a, vs, e, .inl ⟨x.K ▸ h1, fun l hl => fin_tup s h2 hl h⟩⟩
    · obtain ⟨a, vs, rfl, h1, h2⟩ := tupOf_of hs q
      exact .inl ⟨a, vs, e, .inr ⟨x.K ▸ h1, fin_val s (by rw [RT, RV]; exact ⟨a, vs, rfl, h1, h2⟩) h⟩⟩
  · split at e1
    · rename_i n kvs hd
      cases e1
      obtain ⟨a, rfl, _, _, es, h1, h2, h3, h4, _⟩ := dctOf_of s hd q
      obtain ⟨vs, h5, h6⟩ := keys_vals h4
      exact .inr ⟨a, es, vs, e, h1, h2, h3, h6, fun l hl => fin_tup s h5 hl h⟩
    · cases e1
theorem c_list (x : XOk G Γ S RX W C k X) : CallR X (.type "list") (rB1 G fun t μ => b1T .list t μ) := by
  refine callR_imp call_list_of fun xs H Q ⟨v, φ, μ, H0, t, r, e, s, q, e1, h⟩ => ?_
  simp only [b1T] at e1
  cases hs : t.seqOf μ with
  | none => rw [hs] at e1; cases e1
  | some us =>
    rw [hs] at e1
    simp only [Option.map_some, Option.some.injEq] at e1; subst e1
    obtain ⟨a, vs, rfl, h1, h2⟩ := seqOf_of s hs q
    exact ⟨a, vs, e, x.K ▸ h1, fun l hl => fin_lst s h2 hl h⟩

theorem c_repr : CallR X (.builtin "repr") (rB1 G fun t μ => b1T .repr t μ) := by
  intro pins s σ H xs us Q I rv ⟨x, φ, μ, H0, t, r, e, st, q, e1, h⟩
  subst e
  obtain ⟨u, rfl, ru⟩ := vals1 rv
  simp only [b1T] at e1
  unfold reprT at e1
  split at e1
  · split at e1
    · rename_i z hz
      cases e1
      simp only [RT, RV] at q; subst q
      obtain ⟨t, rfl⟩ := ru
      rw [reprQ_eq] at hz h
      exact PySem.P.repr_of_str ⟨.str _, H, I.tok _, ⟨_, rfl⟩, fin_val st (by simp only [RT, RV]) h⟩ hz
    · cases e1
  · split at e1
    · rename_i i hz
      cases e1
      simp only [RT, RV] at q; subst q
      obtain ⟨t, rfl⟩ := ru
      exact PySem.P.repr_of_int hz ⟨.str _, H, I.tok _, ⟨_, rfl⟩, fin_val st (by simp only [RT, RV]) h⟩
    · cases e1
  · cases e1
    simp only [RT, RV] at q; subst q
    cases ru
    exact PySem.P.repr_of_bool ⟨.str _, H, I.tok _, ⟨_, rfl⟩, fin_val st (by simp only [RT, RV]) h⟩
  · cases e1
    simp only [RT, RV] at q; subst q
    cases ru
    exact PySem.P.repr_of_none ⟨.str _, H, I.tok _, ⟨_, rfl⟩, fin_val st (by simp only [RT, RV]) h⟩
  · cases e1

/-- a one-value built-in call -/
theorem r_b1 (x : XOk G Γ S RX W C k X) {n : Str} {b : B1} {a : Expr} {ma : Ev → Store → Res T} {p q : Pos} (hn : n = b1N b) (h2 : glB S.sc n = true) (pl : plainX a = true) (ha : PE X a (tM G RX W (rT G) ma)) :
    PE X (.Call (.Name n p) [a] [] q) (tM G RX W (rT G) fun ρ μ => (ma ρ μ).bind fun x μ1 => opt (b1T b x μ1) μ1) := by
  subst hn
  cases b with
  | len => exact r_b1B x (c_len x) h2 (by decide +kernel) (by decide +kernel) (by decide +kernel) pl ha
  | tuple => exact r_b1T x (c_tuple x) h2 (by decide +kernel) (by decide +kernel) (by decide +kernel) pl ha
  | list => exact r_b1T x (c_list x) h2 (by decide +kernel) (by decide +kernel) (by decide +kernel) pl ha
  | int => exact r_b1T x c_int h2 (by decide +kernel) (by decide +kernel) (by decide +kernel) pl ha
  | abs => exact r_b1B x c_abs h2 (by decide +kernel) (by decide +kernel) (by decide +kernel) pl ha
  | str => exact r_b1T x c_str h2 (by decide +kernel) (by decide +kernel) (by decide +kernel) pl ha
  | bool => exact r_b1T x c_bool h2 (by decide +kernel) (by decide +kernel) (by decide +kernel) pl ha
  | all => exact r_b1B x (c_all x) h2 (by decide +kernel) (by decide +kernel) (by decide +kernel) pl ha
  | any => exact r_b1B x (c_any x) h2 (by decide +kernel) (by decide +kernel) (by decide +kernel) pl ha
  | sum => exact r_b1B x (c_sum x) h2 (by decide +kernel) (by decide +kernel) (by decide +kernel) pl ha
  | repr => exact r_b1B x c_repr h2 (by decide +kernel) (by decide +kernel) (by decide +kernel) pl ha

/-! places -/
theorem ixD_ok (x : XOk G Γ S RX W C k X) : IxR X (rOp G ixD) := by
  intro value slice pins s σ H a b v u Q I ra rb ⟨φ, μ, H0, t1, t2, t, st, r1, r2, e, h⟩ hs
  unfold ixD at e
  split at e
  · rename_i n kvs key hd
    split at e
    · rename_i hk
      cases hg : dGet kvs key with
      | none => rw [hg] at e; cases e
      | some w =>
        rw [hg] at e
        simp only [Option.map_some, Option.some.injEq] at e; subst e
        obtain ⟨d, rfl, _, _, h4⟩ := dctOf_of st hd r1
        simp only [RT] at r2
        exact d_ix x value slice pins s σ H _ b v u Q I ra rb ⟨d, φ, kvs, key, w, rfl, h4, r2, hk, hg, fun z rz => h φ H z Ext.refl st rz⟩ hs
    · cases e
  · split at e
    · rename_i z _ ks us _
      unfold gdAt at e
      cases hi : ks.findIdx? (fun y => decide (y = z)) with
      | none => rw [hi] at e; cases e
      | some i =>
        rw [hi] at e
        simp only [Option.bind_some] at e
        cases hu : us[i]? with
        | none => rw [hu] at e; cases e
        | some w =>
          rw [hu] at e
          simp only [Option.map_some, Option.some.injEq] at e; subst e
          simp only [RT, RV] at r1 r2
          obtain ⟨d, es, n, ws, rfl, ⟨g1, g2⟩, g3, g4⟩ := r1
          have hz : ks[i]? = some z := by
            obtain ⟨hl, hp, _⟩ := List.findIdx?_eq_some_iff_getElem.mp hi
            rw [List.getElem?_eq_getElem hl, of_decide_eq_true hp]
          obtain ⟨u0, v0, f1, f2, f3⟩ := g4.2 i z hz
          obtain ⟨v0', f4, f5⟩ := g3.get hu
          rw [f2] at f4; cases f4
          refine ix_kdict value slice pins s σ H _ b v u Q I ra rb ⟨d, z, v0, rfl, r2, ⟨es, n, u0, by rw [x.K]; exact g1, by rw [x.w]; exact g2, by rw [x.K]; exact f1, f3⟩, h φ H v0 Ext.refl st f5⟩ hs
    · exact ixT_ok x.K value slice pins s σ H a b v u Q I ra rb ⟨φ, μ, H0, _, _, t, st, r1, r2, e, h⟩ hs
  · exact ixT_ok x.K value slice pins s σ H a b v u Q I ra rb ⟨φ, μ, H0, _, _, t, st, r1, r2, e, h⟩ hs
theorem inD_ok (x : XOk G Γ S RX W C k X) (neg : Bool) : OpR X (compareOp (if neg then .NotIn else .In)) (rCmp G (inD neg)) := by
  intro pins s σ H a b v u Q I ra rb ⟨φ, μ, H0, t1, t2, t, st, r1, r2, e, h⟩
  have hu : X.A.units + 64 < cLine := by have := x.room.un; omega
  have hc := cmpT_ok (G := G) x.K hu (if neg then .NotIn else .In)
  unfold inD at e
  split at e
  · rename_i n kvs key hd
    split at e
    · rename_i hk
      cases e
      obtain ⟨d, rfl, _, _, h4⟩ := dctOf_of st hd r2
      simp only [RT] at r1
      exact d_in x neg pins s σ H a _ v u Q I ra rb ⟨d, φ, kvs, key, rfl, h4, r1, hk, h⟩
    · cases e
  · split at e
    · rename_i z _ ks us _
      cases e
      simp only [RT, RV] at r1 r2
      obtain ⟨d, es, n, ws, rfl, D, g3, g4⟩ := r2
      have D' : KDict X.K X.w d es n := by rw [x.K, x.w]; exact D
      have hr : ∃ r, PySem.W.nsIn X.K d z = some r ∧ r.isSome = ks.contains z := by
        rw [x.K]
        by_cases hz : z ∈ ks
        · obtain ⟨i, hi, hz'⟩ := List.getElem_of_mem hz
          obtain ⟨u0, v0, f1, _, _⟩ := g4.2 i z (by rw [List.getElem?_eq_getElem hi, hz'])
          exact ⟨some u0, f1, by simp [hz]⟩
        · exact ⟨none, g4.1 z hz, by simp [hz]⟩
      obtain ⟨r, f1, f2⟩ := hr
      cases neg with
      | false => exact op_in_kd D' pins s σ H a _ v u Q I ra rb ⟨z, r, r1, rfl, f1, by rw [f2]; exact h⟩
      | true => exact op_notIn_kd D' pins s σ H a _ v u Q I ra rb ⟨z, r, r1, rfl, f1, by rw [f2]; exact h⟩
    · refine hc pins s σ H a b v u Q I ra rb ⟨φ, μ, H0, _, _, t, st, r1, r2, ?_, h⟩
      cases neg <;> exact e
  · refine hc pins s σ H a b v u Q I ra rb ⟨φ, μ, H0, _, _, t, st, r1, r2, ?_, h⟩
    cases neg <;> exact e
theorem cmpD_ok (x : XOk G Γ S RX W C k X) (op : CmpOp) : OpR X (compareOp op) (rCmp G (cmpD op)) := by
  have hu : X.A.units + 64 < cLine := by have := x.room.un; omega
  cases op with
  | In => exact inD_ok x false
  | NotIn => exact inD_ok x true
  | _ => exact cmpT_ok x.K hu _
theorem r_rev (x : XOk G Γ S RX W C k X) {a : Expr} {ma : Ev → Store → Res T} {kk : Nat} {p1 p2 p3 pos : Pos} (ha : PE X a (tM G RX W (rT G) ma)) :
    PE X (.Subscript a (.Slice none none (some (.UnaryOp .USub (.Constant (.int 1) kk p1) p2)) p3) pos) (tM G RX W (rT G) fun ρ μ => (ma ρ μ).bind fun x μ1 => opt (revT x μ1) μ1) := by
  refine weakE (pe_revL ha) fun σ H Q ⟨φ, ρ, μ, rep, p⟩ => ?_
  refine tM_bind bas_T rep p fun t v φ1 μ1 H1 _ r1 q h1 => ?_
  obtain ⟨r, e1, e2⟩ := opt_ok h1
  unfold revT at e1
  split at e1
  · rename_i us hq
    cases e1
    obtain ⟨b, vs, rfl, h3, h4⟩ := lstOf_of r1.st hq q
    exact ⟨b, vs, rfl, x.K ▸ h3, fun l hl => fin_lst r1.st h4.rev hl e2⟩
  · cases e1

/-! methods -/
def tyD (K : PySem.W.Frag) (T : String) (x : V) (H : Hp) : Prop := tyV K T x H ∨ (T = "dict" ∧ ∃ d es, x = .ref d ∧ H d = some (DObj d es))
theorem tyD_is {pins : List (Addr × Obj)} {σ : L2.St} {H : Hp} {s : Shared} {T : String} {x : V} {v : Value} (I : Inv X pins σ H s) (r : RelV x v) (ty : tyD X.K T x H) :
    s.TypeIs v T ∧ ∀ a, v = .ref a → ∃ ob, s.heap.get? a = some ob ∧ ob.dict = none := by
  rcases ty with ty | ⟨rfl, d, es, rfl, h⟩
  · exact tyV_is I r ty
  · cases r
    exact d_ty I h
def rMt (X : Cx) (name : Str) (x : V) (H : Hp) (k : (List V → Hp → VK → Prop) → Prop) : Prop := ∃ T id r, PlainAttrs T ∧ Slot T name id ∧ typeOf (.builtin id) = pure (.type "method_descriptor") ∧ MtR X id r ∧ tyD X.K T x H ∧ k (fun xs H2 Q => r x xs H2 Q)
theorem pe_mt0 {o : Expr} {name : Str} {apos cpos : Pos} {to : TE} (ho : PE X o to) (hbase : attributeBase o name X.env (eval o X.env) = eval o X.env) (hline : (apos.endLine == cpos.line) = true) :
    PE X (.Call (.Attribute o name apos) [] [] cpos) (fun σ H Q => to σ H fun x H1 => rMt X name x H1 fun r => r [] H1 Q) := by
  refine ⟨fun pins s σ H Q I h => ?_⟩
  refine wpAny_Call_method0_late hbase hline (thn (ho.run pins s σ H _ I h) fun v s1 ⟨x, H1, I1, r1, T, id, r, pa, slot, hty, hm, ty, q1⟩ => ?_)
  obtain ⟨h1, h2⟩ := tyD_is I1 r1 ty
  exact ⟨T, id, pa, slot, hty, h1, h2, Calls.callWith_builtin rfl (PySem.evalArgs_none (hm pins s1 σ H1 x [] v [] Q I1 r1 .nil q1))⟩
theorem pe_mt {o e : Expr} {es : List Expr} {name : Str} {apos cpos : Pos} {to : TE} {t : TA} (ho : PE X o to) (ha : PA X (e :: es) t) (hbase : attributeBase o name X.env (eval o X.env) = eval o X.env)
    (hfew : ((backTo cpos (starEach (e :: es) X.env)).all (fun x => !x.1) && (backToKw cpos (keywordEach [] X.env)).all (fun x => x.1.isSome)
      && decide ((e :: es).length + ([] : List Keyword).length + (if ([] : List Keyword).isEmpty then 0 else 1) < 30)) = true)
    (hline : (apos.endLine == cpos.line) = true) (hs : starEach (e :: es) X.env = (false, eval e X.env) :: starEach es X.env) (hplain : (backTo cpos (starEach es X.env)).any (·.1) = false) :
    PE X (.Call (.Attribute o name apos) (e :: es) [] cpos) (fun σ H Q => to σ H fun x H1 => rMt X name x H1 fun r => t σ H1 fun xs H2 => r xs H2 Q) := by
  refine ⟨fun pins s σ H Q I h => ?_⟩
  refine wpAny_Call_method_late hbase hfew hline rfl (thn (ho.run pins s σ H _ I h) fun v s1 ⟨x, H1, I1, r1, T, id, r, pa, slot, hty, hm, ty, q1⟩ => ?_)
  obtain ⟨h1, h2⟩ := tyD_is I1 r1 ty
  refine ⟨T, id, pa, slot, hty, h1, h2, ?_⟩
  have hA := ha.run cpos pins s1 σ H1 _ I1 q1
  rw [hs] at hA ⊢
  refine Calls.callWith_builtin (by show (false || (backTo cpos (starEach es X.env)).any (·.1)) = false; rw [hplain]; rfl) (Calls.evalArgs_plain ?_)
  exact thn hA fun us s2 ⟨vs, H2, I2, r2, q2⟩ => hm pins s2 σ H2 x vs v us Q I2 r1 r2 q2

theorem mt_rule (x : XOk G Γ S RX W C k X) {φ1 : List Addr} {μ1 : Store} {H0 H1 : Hp} {m : Mt} {t : T} {v : V} (s : RepStore G φ1 μ1 H1) (r : RT G φ1 H0 H1 t v) (ty : tyT m t μ1 = true) (σ : L2.St) :
    ∃ T id r, PlainAttrs T ∧ Slot T (mtN m) id ∧ typeOf (.builtin id) = pure (.type "method_descriptor") ∧ MtR X id r ∧ tyD X.K T v H1 ∧
      (∀ φ2 μ2 H2 us vs Q, RepStore G φ2 μ2 H2 → RT G φ2 H0 H2 t v → RVs G φ2 H2 us vs → Post G RX W (rT G) φ2 σ H2 Q (mtT m t us μ2) → r v vs H2 Q) ∧
      (∀ φ2 μ2 H2 a y Q, RepStore G φ2 μ2 H2 → RT G φ2 H0 H2 t v → RT G φ2 H0 H2 a y → Post G RX W (rT G) φ2 σ H2 Q (mt1T m t a μ2) → r v [y] H2 Q) := by
  unfold tyT at ty
  split at ty
  · rename_i z
    simp only [RT, RV] at r; subst r
    cases m <;> first | (cases ty; done) | skip
    refine ⟨"str", "str.join", _, PySem.F.plainAttrs_str, PySem.F.slot_str_join, PySem.F.type_str_join, mt_join, .inl rfl, fun φ2 μ2 H2 us vs Q _ _ _ p => p.elim, fun φ2 μ2 H2 a y Q s2 r2 q p => ?_⟩
    simp only [mt1T] at p
    split at p
    · rename_i us hq
      split at p
      · rename_i ys hy
        split at p
        · rename_i hz
          obtain ⟨b, vs, rfl, h3, h4⟩ := seqOf_of s2 hq q
          rw [strs_of hy h4] at h3
          rw [joinQ_eq] at p
          exact ⟨z, b, ys, rfl, rfl, x.K ▸ h3, hz, fin_val s2 (by simp only [RT, RV]) p⟩
        · exact p.elim
      · exact p.elim
    · exact p.elim
  · rename_i n
    split at ty
    · rename_i xs hx
      obtain ⟨a, ha, xv, hxv, _⟩ := s.get hx
      simp only [RT, RV] at r
      obtain ⟨b, rfl, hb⟩ := r
      rw [ha] at hb; cases hb
      have tl : tyD X.K "list" (.ref a) H1 := .inl (.inl ⟨rfl, xv, .inl (.inl hxv)⟩)
      have at2 : ∀ {φ2 μ2 H2} {ys : List U}, RepStore G φ2 μ2 H2 → RT G φ2 H0 H2 (.u (.loc n)) (.ref a) → μ2[n]? = some (.lst ys) → φ2[n]? = some a ∧ ∃ vs, H2 a = some (.lst vs) ∧ RVs G φ2 H2 ys vs := by
        intro φ2 μ2 H2 ys s2 r2 e
        obtain ⟨b, h1, h2⟩ := s2.get e
        simp only [RT, RV] at r2
        obtain ⟨c, e3, h3⟩ := r2
        cases e3
        rw [h1] at h3; cases h3
        exact ⟨h1, h2⟩
      have fw : ∀ {φ2 μ2 H2} {Q : VK} {ys : List U} {ws : List V} {zs : List U} {t : T} {y : V}, RepStore G φ2 μ2 H2 → φ2[n]? = some a → μ2[n]? = some (.lst ys) → RVs G φ2 H2 zs ws → (∀ φ' H', Ext φ2 φ' H2 H' → RepStore G φ' (μ2.set n (.lst zs)) H' → RT G φ' H2 H' t y) →
          Post G RX W (rT G) φ2 σ H2 Q (.ok t (μ2.set n (.lst zs))) → Q y (upd H2 a (.lst ws)) := by
        intro φ2 μ2 H2 Q ys ws zs t y s2 h1 h2 h3 h4 p
        have xx : Ext φ2 φ2 H2 (upd H2 a (.lst ws)) := Ext.write (List.mem_of_getElem? h1)
        have sw : RepStore G φ2 (μ2.set n (.lst zs)) (upd H2 a (.lst ws)) := s2.write h1 ⟨ws, upd_same, s2.rvs xx h3⟩
        exact p φ2 _ y xx sw (h4 φ2 _ xx sw)
      cases m <;> first | (cases ty; done) | skip
      · refine ⟨"list", "list.append", _, PySem.F.plainAttrs_list, PySem.F.slot_list_append, PySem.F.type_list_append, mt_append, tl, fun φ2 μ2 H2 us vs Q s2 r2 q p => ?_, fun φ2 μ2 H2 a y Q _ _ _ p => p.elim⟩
        simp only [mtT] at p
        split at p
        · rename_i ys hy
          obtain ⟨h1, ws, h2, h3⟩ := at2 s2 r2 hy
          simp only [mtL] at p
          split at p
          · rename_i u
            split at p
            · rename_i hz
              obtain ⟨y, r', rfl, h4, h5⟩ := q.cons_inv
              rw [h5.nil_inv]
              exact ⟨a, ws, y, rfl, rfl, h2, by rw [h3.length]; exact hz, fw s2 h1 hy (h3.append (.cons h4 .nil)) (fun _ _ _ _ => by simp only [RT, RV]) p⟩
            · exact p.elim
          · exact p.elim
        · exact p.elim
        · exact p.elim
      · refine ⟨"list", "list.pop", _, PySem.F.plainAttrs_list, PySem.F.slot_list_pop, PySem.F.type_list_pop, mt_pop, tl, fun φ2 μ2 H2 us vs Q s2 r2 q p => ?_, fun φ2 μ2 H2 a y Q _ _ _ p => p.elim⟩
        simp only [mtT] at p
        split at p
        · rename_i ys hy
          obtain ⟨h1, ws, h2, h3⟩ := at2 s2 r2 hy
          simp only [mtL] at p
          split at p
          · split at p
            · rename_i u hu
              rw [q.nil_inv]
              obtain ⟨y, h4, h5⟩ := h3.get hu
              refine ⟨a, ws, y, rfl, rfl, h2, by rw [h3.length]; exact h4, fw s2 h1 hy (zs := ys.dropLast) ?_ (t := .u u) (fun φ' H' xx _ => s2.rv xx h5) p⟩
              rw [List.dropLast_eq_take, List.dropLast_eq_take, h3.length]; exact h3.take _
            · exact p.elim
          · exact p.elim
        · exact p.elim
        · exact p.elim
      · refine ⟨"list", "list.pop", _, PySem.F.plainAttrs_list, PySem.F.slot_list_pop, PySem.F.type_list_pop, mt_popAt, tl, fun φ2 μ2 H2 us vs Q s2 r2 q p => ?_, fun φ2 μ2 H2 a y Q _ _ _ p => p.elim⟩
        simp only [mtT] at p
        split at p
        · rename_i ys hy
          obtain ⟨h1, ws, h2, h3⟩ := at2 s2 r2 hy
          simp only [mtL] at p
          split at p
          · rename_i i
            split at p
            · rename_i hi
              split at p
              · rename_i j hj
                split at p
                · rename_i u hu
                  obtain ⟨y0, r', rfl, h4, h5⟩ := q.cons_inv
                  rw [h5.nil_inv]
                  simp only [RV] at h4; subst h4
                  obtain ⟨y, h6, h7⟩ := h3.get hu
                  simp only [i63, Bool.and_eq_true, decide_eq_true_eq] at hi
                  refine ⟨a, ws, i, j, y, rfl, rfl, h2, hi.1, hi.2, by rw [h3.length]; exact hj, h6, fw s2 h1 hy (zs := ys.eraseIdx j) ?_ (t := .u u) (fun φ' H' xx _ => s2.rv xx h7) p⟩
                  rw [List.eraseIdx_eq_take_drop_succ, List.eraseIdx_eq_take_drop_succ]; exact (h3.take _).append (h3.drop _)
                · exact p.elim
              · exact p.elim
            · exact p.elim
          · exact p.elim
        · exact p.elim
        · exact p.elim
      · refine ⟨"list", "list.extend", _, PySem.F.plainAttrs_list, PySem.F.slot_list_extend, PySem.F.type_list_extend, mt_extend, tl, fun φ2 μ2 H2 us vs Q s2 r2 q p => ?_, fun φ2 μ2 H2 t y Q s2 r2 q p => ?_⟩
        · simp only [mtT] at p
          split at p <;> exact p.elim
        · simp only [mt1T] at p
          split at p
          · rename_i ys hy
            obtain ⟨h1, ws, h2, h3⟩ := at2 s2 r2 hy
            split at p
            · rename_i zs hzs
              split at p
              · rename_i hz
                obtain ⟨b, xs', rfl, h4, h5⟩ := lstM_of s2 hzs q
                exact ⟨a, b, ws, xs', rfl, rfl, h2, h4, by rw [h3.length, h5.length]; exact hz, fw s2 h1 hy (h3.append h5) (fun _ _ _ _ => by simp only [RT, RV]) p⟩
              · exact p.elim
            · exact p.elim
          · exact p.elim
    · rename_i kvs hx
      obtain ⟨a, ha, es, hes, h2, h3, h4, h5⟩ := s.get hx
      simp only [RT, RV] at r
      obtain ⟨b, rfl, hb⟩ := r
      rw [ha] at hb; cases hb
      have tl : tyD X.K "dict" (.ref a) H1 := .inr ⟨rfl, a, es, rfl, hes⟩
      have at2 : ∀ {φ2 μ2 H2} {ys : List (U × U)}, RepStore G φ2 μ2 H2 → RT G φ2 H0 H2 (.u (.loc n)) (.ref a) → μ2[n]? = some (.dct ys) → φ2[n]? = some a ∧ RC G φ2 H2 a (.dct ys) := by
        intro φ2 μ2 H2 ys s2 r2 e
        obtain ⟨b, h1, h2⟩ := s2.get e
        simp only [RT, RV] at r2
        obtain ⟨c, e3, h3⟩ := r2
        cases e3
        rw [h1] at h3; cases h3
        exact ⟨h1, h2⟩
      cases m <;> first | (cases ty; done) | skip
      · refine ⟨"dict", "dict.get", _, PySem.F.plainAttrs_dict, PySem.F.slot_dict_get, PySem.F.type_dict_get, d_get x, tl, fun φ2 μ2 H2 us vs Q s2 r2 q p => ?_, fun φ2 μ2 H2 a y Q _ _ _ p => p.elim⟩
        simp only [mtT] at p
        split at p
        · exact p.elim
        · rename_i ys hy
          obtain ⟨h1, h2⟩ := at2 s2 r2 hy
          simp only [mtDc] at p
          split at p
          · rename_i key df
            split at p
            · rename_i hk
              obtain ⟨y, r', rfl, h6, h7⟩ := q.cons_inv
              obtain ⟨z, r'', rfl, h8, h9⟩ := h7.cons_inv
              rw [h9.nil_inv]
              exact ⟨a, φ2, ys, key, y, df, z, rfl, rfl, h2, h6, h8, hk, fun v rv => p φ2 H2 v Ext.refl s2 rv⟩
            · exact p.elim
          · exact p.elim
        · exact p.elim
      · refine ⟨"dict", "dict.setdefault", _, PySem.F.plainAttrs_dict, PySem.F.slot_dict_setdefault, PySem.F.type_dict_setdefault, d_setd x, tl, fun φ2 μ2 H2 us vs Q s2 r2 q p => ?_, fun φ2 μ2 H2 a y Q _ _ _ p => p.elim⟩
        simp only [mtT] at p
        split at p
        · exact p.elim
        · rename_i ys hy
          obtain ⟨h1, h2⟩ := at2 s2 r2 hy
          simp only [mtDc] at p
          split at p
          · rename_i key df
            split at p
            · rename_i hk
              split at p
              · rename_i hz
                obtain ⟨y, r', rfl, h6, h7⟩ := q.cons_inv
                obtain ⟨z, r'', rfl, h8, h9⟩ := h7.cons_inv
                rw [h9.nil_inv]
                refine ⟨a, φ2, ys, key, y, df, z, rfl, rfl, List.mem_of_getElem? h1, h2, h6, h8, hk, hz, ?_⟩
                split at p
                · rename_i u hu
                  exact .inl ⟨u, hu, fun v rv => p φ2 H2 v Ext.refl s2 rv⟩
                · rename_i hu
                  refine .inr ⟨hu, fun es' rc => ?_⟩
                  have xx : Ext φ2 φ2 H2 (upd H2 a (DObj a es')) := Ext.write (List.mem_of_getElem? h1)
                  exact p φ2 _ _ xx (s2.write h1 rc) (s2.rv xx h8)
              · exact p.elim
            · exact p.elim
          · exact p.elim
        · exact p.elim
    · cases ty
  · cases ty
end
end DP
end
section
/-! DpT: enumerate of a tuple. -/
set_option linter.all false
set_option autoImplicit false
set_option maxRecDepth 100000
namespace DP
open PySem PySem.Spec PyProof.Rows L2
open Sem (wp)
/-- a tuple's iterator, one item at a time -/
theorem draws_tup {prog : Program} {w : World} {A : Around} (hh : A.handled = none) (it l : Addr) (hne : l ≠ it) (items : Array Value) :
    Draws prog w A it [it, l] items.size (fun i v => items[i]? = some v) (fun i h => h.IsTupleIter it l i ∧ h.IsTuple l items) where
  live := fun _ _ st => let ⟨o, ho, _⟩ := st.1; ⟨o, ho⟩
  frame := fun _ _ _ st hk => ⟨let ⟨o, ho, r⟩ := st.1; ⟨o, hk it (by simp) o ho, r⟩, let ⟨o, ho, r⟩ := st.2; ⟨o, hk l (by simp) o ho, r⟩⟩
  item := fun i s Q E hi st hQ => by
    refine RZ.nextOf_tuple_item st.1 st.2 (x := items[i]) (by simp [hi]) fun h' hit' hs' => ?_
    exact hQ _ h' s.toks (by simp [hi]) ⟨hit', st.2.extBut hs'.extBut hne⟩ hs'
  done := fun s Q E st hE => RZ.nextOf_tuple_end hh st.1 st.2 (by simp) hE
/-- the tuple at a as it stands at each turn, each item in a new pair -/
def IteT (K : PySem.W.Frag) (a : Addr) : It :=
  ⟨fun i H => ∃ (xs : List V) (x : V), SqT K H a xs ∧ xs[i]? = some x, fun i H v H' => ∃ T x, v = .ref T ∧ H T = none ∧ H' = upd H T (.tup [.int (i : Nat), x]) ∧ ∀ xs, SqT K H a xs → xs[i]? = some x, fun i H => ∃ xs : List V, SqT K H a xs ∧ xs.length = i⟩
theorem apart_of {h : Heap} {a e it : Addr} {i : Int} {old : Value} {items : Array Value} (ht : h.IsTuple a items) (he : IsEnum h e it i old) : e ≠ a := fun z => by
  obtain ⟨o, ho, hc, _⟩ := ht
  rw [← z, he] at ho
  cases ho
  have hc' : Value.type "enumerate" = Value.type "tuple" := hc
  injection hc' with z'
  exact absurd z' (by decide)
theorem apart_it {h : Heap} {a b it : Addr} {i : Nat} {items : Array Value} (ht : h.IsTuple a items) (hi : h.IsTupleIter it b i) : a ≠ it := fun z => by
  obtain ⟨o, ho, hc, _⟩ := ht
  obtain ⟨o', ho', hc', _⟩ := hi
  rw [← z, ho] at ho'
  cases ho'
  rw [hc] at hc'
  injection hc' with z'
  exact absurd z' (by decide)
theorem turn_enumT {P : Program} {w : World} {K : PySem.W.Frag} {elts : List Expr} {kk : Nat} {tpos : Pos} (a e it : Addr) :
    Turn P w K (.Tuple elts kk tpos) (IteT K a) [e, it] e (fun i h => (∃ old, IsEnum h e it ((i : Nat) : Int) old) ∧ h.IsTupleIter it a i ∧ e ≠ it) where
  mem := by simp
  obj := fun i h st b hb => by
    obtain ⟨⟨old, he⟩, ⟨o, ho, hc, hd⟩, _⟩ := st
    have e' : b = e ∨ b = it := by simpa using hb
    rcases e' with z | z
    · rw [z]; exact ⟨_, he, fun v q => nomatch q⟩
    · rw [z]; exact ⟨o, ho, fun v q => by rw [hd] at q; cases q⟩
  keep := fun i h h' st k => let ⟨⟨old, he⟩, ⟨o, ho, r⟩, hne⟩ := st; ⟨⟨old, k e (by simp) _ he⟩, ⟨o, k it (by simp) o ho, r⟩, hne⟩
  item := by
    intro X hP hw hK hc i pins s σ H E I hf st hg
    subst hP hw hK
    obtain ⟨⟨old, he⟩, hit, hne⟩ := st
    obtain ⟨xs, x, hq, hx⟩ := hg
    obtain ⟨its, rv, p, hz⟩ := I.tuple hq
    have p' : s.heap.IsTuple a its.toArray := p
    obtain ⟨u, hu, ru⟩ := rv.get hx
    have hel : e < s.heap.objs.size := Heap.lt_size he
    have hil : it < s.heap.objs.size := by obtain ⟨_, q, _⟩ := hit; exact Heap.lt_size q
    have hlt : i < its.toArray.size := by
      have := (List.getElem?_eq_some_iff.mp hu).1
      simpa using this
    refine wpAny_pyNext_enum_itemD (draws_tup (A := X.A.in1) (I.ok.hd hc) it a (apart_it p' hit) its.toArray) he ⟨hit, p'⟩ hlt hne (by
      intro z
      have e' : e = it ∨ e = a := by simpa using z
      rcases e' with z | z
      · exact hne z
      · exact apart_of p' he z) fun x0 h' tk hx0 ho hit' hT hsz hk => ?_
    have hxu : x0 = u := by
      have : its[i]? = some x0 := by simpa using hx0
      rw [hu] at this; exact (Option.some.inj this).symm
    subst hxu
    refine ⟨_, rfl, wpAny_letOwnedTupleGo_enum (s := { s with heap := h', toks := tk + 1 }) ho fun h'' he' sb => ?_⟩
    have hT2 : h''.get? s.heap.objs.size = some { cls := .type "tuple", data := .seq #[.int i tk, x0] } := (sb.2 _ (Nat.ne_of_gt hel)).trans hT
    have new : ObjOk X.prog X.w (upd H s.heap.objs.size (.tup [.int (i : Nat), x])) h'' s.heap.objs.size (.tup [.int (i : Nat), x]) :=
      ⟨by show 2 ≤ sizeLine; decide, [.int i tk, x0], .cons ⟨_, rfl⟩ (.cons ru .nil), ⟨_, hT2, rfl, _, rfl⟩⟩
    have I1 : Inv X pins σ (upd H s.heap.objs.size (.tup [.int (i : Nat), x])) { s with heap := h'', toks := tk + 1 } :=
      I.turnedNew (ch := [e, it]) (fun b ob hb q => (sb.2 b (fun z => hb (by simp [z]))).trans (hk b ob (fun z => hb (by simp [z])) (fun z => hb (by simp [z])) q)) hf (Nat.le_refl _) new
    refine ⟨.ref s.heap.objs.size, _, I1, rfl, ⟨_, x, rfl, I.hok.fresh (Nat.le_refl _), rfl, fun ys hy => by rw [I.tuple_inj hy hq]; exact hx⟩, ⟨⟨x0, ?_⟩, ?_, hne⟩, fun b hb => ?_⟩
    · have e1 : ((i + 1 : Nat) : Int) = (i : Int) + 1 := by omega
      rw [e1]; exact he'
    · obtain ⟨o, ho2, r⟩ := hit'.1
      exact ⟨o, (sb.2 it (Ne.symm hne)).trans ho2, r⟩
    · have hb' : b < s.heap.objs.size := by
        have e' : b = e ∨ b = it := by simpa using hb
        rcases e' with z | z
        · rw [z]; exact hel
        · rw [z]; exact hil
      rw [upd_ne (Nat.ne_of_lt hb')]
      exact (hf b hb).1
  done := by
    intro X hP hw hK hc i pins s σ H E I hf st hg
    subst hP hw hK
    obtain ⟨⟨old, he⟩, hit, hne⟩ := st
    obtain ⟨xs, hq, hx⟩ := hg
    obtain ⟨its, rv, p, hz⟩ := I.tuple hq
    have p' : s.heap.IsTuple a its.toArray := p
    obtain ⟨f0, f1, f2, f3, f4, f5⟩ := hf it (by simp)
    have hl := rv.length
    subst hx
    have hn : xs.length = its.toArray.size := by simp [hl]
    exact wpAny_pyNext_enum_endD (draws_tup (A := X.A.in1) (I.ok.hd hc) it a (apart_it p' hit) its.toArray) he ⟨hn ▸ hit, p'⟩ fun h' eb => ⟨rfl, I.turned (t' := s.toks) (fun b o hb q => eb b o hb q) f0 f1 f3 f4 f5⟩
  self := fun A i s Q E st h => let ⟨⟨_, he⟩, _⟩ := st; wpAny_pyIter_enum he h
theorem enum_newT (l : Addr) (items : Array Value) :
    Meets (Builtin.«enumerate.__new__» ⟨[.type "enumerate", .ref l], []⟩) (fun _ R s => s.heap.IsTuple l items ∧
      R (.ok (.ret (.ref (s.heap.push { cls := .type "tuple_iterator", data := .fields #[.ref l, .int 0 0] }).objs.size)))
        { s with heap := (s.heap.push { cls := .type "tuple_iterator", data := .fields #[.ref l, .int 0 0] }).push { cls := .type "enumerate", data := .fields #[.none, .bool false, .ref s.heap.objs.size, rawInt 0, .none, .none] } }) :=
  .of_wp fun prog w A R s h => by
    obtain ⟨hp, g, d, tk, os⟩ := s; obtain ⟨hl, h⟩ := h
    have hsub := sub_enumerate
    obtain ⟨o, ho, hc, hdat⟩ := id hl
    wp_walk using AutoSeq1.wpAny_loadPart' ho
    refine wpAny_stack_any fun st => wpAny_pure ?_
    split
    · rename_i c _ _ _ _ _
      cases (c == Value.type "enumerate")
      · wp_walk using AutoSeq1.wpAny_loadPart' ho, wpAny_pyIter_tuple hl
        exact ⟨_, rfl, h⟩
      · wp_walk using AutoSeq1.wpAny_loadPart' ho, wpAny_pyIter_tuple hl
        exact ⟨_, rfl, h⟩
    · wp_walk using AutoSeq1.wpAny_loadPart' ho, wpAny_pyIter_tuple hl
      exact ⟨_, rfl, h⟩
theorem call_enumT {prog : Program} {w : World} {A : Around} {E : Value → Shared → Prop} {s : Shared} {l : Addr} {items : Array Value} {Q : Value → Shared → Prop} (hL : s.heap.IsTuple l items)
    (h : ∀ h', IsEnum h' (s.heap.objs.size + 1) s.heap.objs.size 0 .none → h'.IsTupleIter s.heap.objs.size l 0 → (∀ b o, s.heap.get? b = some o → h'.get? b = some o) → Q (.ref (s.heap.objs.size + 1)) { s with heap := h' }) :
    wpAny (model prog w) A (call (.type "enumerate") [.ref l]) Q E s := by
  refine callType_new F.called_enumerate (by decide) (F.typeCall_enumerate_1 _) (F.newCall_enumerate_1 _) (fun obj => F.args_object_init_2 obj _) F.entry_enumerate_new
    (enum_newT l items) ⟨hL, ?_⟩
  have hz : (s.heap.push { cls := .type "tuple_iterator", data := .fields #[.ref l, .int 0 0] }).objs.size = s.heap.objs.size + 1 := Heap.size_push ..
  show _ ∧ _
  rw [hz]
  have he : IsEnum ((s.heap.push { cls := .type "tuple_iterator", data := .fields #[.ref l, .int 0 0] }).push
      { cls := .type "enumerate", data := .fields #[.none, .bool false, .ref s.heap.objs.size, rawInt 0, .none, .none] }) (s.heap.objs.size + 1) s.heap.objs.size 0 .none := by
    have := Heap.get?_push_size (s.heap.push { cls := .type "tuple_iterator", data := .fields #[.ref l, .int 0 0] })
      (o := { cls := .type "enumerate", data := .fields #[.none, .bool false, .ref s.heap.objs.size, rawInt 0, .none, .none] }) rfl
    rw [hz] at this; exact this
  exact ⟨⟨_, he, rfl⟩, h _ he ⟨_, Heap.get?_push_of_some _ (Heap.get?_push_size _ rfl), rfl, rfl⟩ fun b o x => Heap.get?_push_of_some _ (Heap.get?_push_of_some _ x)⟩
def iEnumA (K : PySem.W.Frag) (ta : TA) : TI := fun σ H R => ta σ H fun vs H1 => ∃ a xs, vs = [.ref a] ∧ ((SqL K H1 a xs ∧ R (Ite K a) H1) ∨ (SqT K H1 a xs ∧ R (IteT K a) H1))
theorem pi_enumA {X : Cx} {e : Expr} {ta : TA} {p pos tpos : Pos} {elts : List Expr} {kk : Nat} (hg : Gl X "enumerate") (hm : X.mg "enumerate" = none) (ha : PA X [e] ta) (hs : starEach [e] X.env = [(false, eval e X.env)]) :
    PI X (.Tuple elts kk tpos) (.Call (.Name "enumerate" p) [e] [] pos) (iEnumA X.K ta) := by
  refine ⟨fun pins s σ H R I h => ?_⟩
  refine Call_ (ld_blt I hg hm boot_enumerate (PyProof.Rows.callWith_type1 (thn (ha.run pos pins s σ H _ I h) fun us s1 ⟨vs, H1, I1, r1, q1⟩ => ?_) hs rfl))
  obtain ⟨a, xs, ex, q⟩ := q1
  subst ex
  obtain ⟨u, rfl, r⟩ := vals1 r1
  cases r
  have fpk : ∀ (h' : Heap), ∀ b ∈ [s1.heap.objs.size + 1, s1.heap.objs.size], FpOk X pins H1 b := fun h' b hb => by
    have e' : b = s1.heap.objs.size + 1 ∨ b = s1.heap.objs.size := by simpa using hb
    have hle : s1.heap.objs.size ≤ b := by
      rcases e' with z | z
      · rw [z]; exact Nat.le_add_right _ _
      · rw [z]; exact Nat.le_refl _
    exact I1.fpOk hle (I1.hok.fresh hle)
  rcases q with ⟨hq, q⟩ | ⟨hq, q⟩
  · obtain ⟨its, rv, p', hz⟩ := I1.list hq
    refine call_enumerate_list p'.isList fun h' he hit hsz hk => wpAny_pyIter_enum he ?_
    have I2 : Inv X pins σ H1 { s1 with heap := h' } := I1.kept (t' := s1.toks) hk
    exact ⟨s1.heap.objs.size + 1, [s1.heap.objs.size + 1, s1.heap.objs.size], _, _, H1, rfl, I2, turn_enum a (s1.heap.objs.size + 1) s1.heap.objs.size, ⟨⟨.none, he⟩, hit, Nat.succ_ne_self _⟩, fpk h', q⟩
  · obtain ⟨its, rv, p', hz⟩ := I1.tuple hq
    refine call_enumT (show s1.heap.IsTuple a its.toArray from p') fun h' he hit hk => wpAny_pyIter_enum he ?_
    have I2 : Inv X pins σ H1 { s1 with heap := h' } := I1.kept (t' := s1.toks) hk
    exact ⟨s1.heap.objs.size + 1, [s1.heap.objs.size + 1, s1.heap.objs.size], _, _, H1, rfl, I2, turn_enumT a (s1.heap.objs.size + 1) s1.heap.objs.size, ⟨⟨.none, he⟩, hit, Nat.succ_ne_self _⟩, fpk h', q⟩
end DP
end
section
/-! DpK: methods' calls, calls of a slot's def, what a loop goes over. -/
set_option linter.all false
set_option autoImplicit false
set_option maxRecDepth 100000
namespace DP
open PySem PySem.Spec PyProof.Rows L2

section
variable {G : Gb} {Γ : Gt} {S : Stt} {RX : RXT} {W : XW} {C : Calls} {k : Nat} {X : Cx} {e : Expr}

theorem base_of {o : Expr} (h : isCallE o = false) (name : Str) (env : Env) : attributeBase o name env (eval o env) = eval o env := by
  cases o <;> first | rfl | (simp [isCallE] at h)
theorem few_of {e : Expr} {es : List Expr} {p : Pos} (env : Env) (h : ∀ x ∈ starEach (e :: es) env, x.1 = false) (hl : (e :: es).length < 30) :
    ((backTo p (starEach (e :: es) env)).all (fun x => !x.1) && (backToKw p (keywordEach [] env)).all (fun x => x.1.isSome)
      && decide ((e :: es).length + ([] : List Keyword).length + (if ([] : List Keyword).isEmpty then 0 else 1) < 30)) = true := by
  have h1 : (backTo p (starEach (e :: es) env)).all (fun x => !x.1) = true := by
    rw [List.all_eq_true]
    intro x hx
    obtain ⟨y, hy, rfl⟩ := List.mem_map.mp hx
    simp [h y hy]
  rw [h1]
  have h2 : (backToKw p (keywordEach [] env)).all (fun x => x.1.isSome) = true := by
    simp [keywordEach, backToKw]
  rw [h2]
  simpa using hl
theorem r_mt (x : XOk G Γ S RX W C k X) {m : Mt} {o : Expr} {es : List Expr} {mo : Ev → Store → Res T} {ms : List VB} {p q : Pos} (ho : PE X o (tM G RX W (rT G) mo)) (h : PBs G RX W X es ms)
    (hc : isCallE o = false) (hl : (p.endLine == q.line) = true) (hst : ∀ x ∈ starEach es X.env, x.1 = false) (hlen : es.length < 30) :
    PE X (.Call (.Attribute o (mtN m) p) es [] q) (tM G RX W (rT G) fun ρ μ => (mo ρ μ).bind fun x μ1 => if tyT m x μ1 then (evs ms ρ μ1).bind fun us μ2 => mtT m x us μ2 else .no) := by
  have step : ∀ (σ : L2.St) (H : Hp) (Q : VK), tM G RX W (rT G) (fun ρ μ => (mo ρ μ).bind fun x μ1 => if tyT m x μ1 then (evs ms ρ μ1).bind fun us μ2 => mtT m x us μ2 else .no) σ H Q →
      tM G RX W (rT G) mo σ H fun v H1 => rMt X (mtN m) v H1 fun r => tM G RX W (rUs G) (evs ms) σ H1 fun vs H2 => r vs H2 Q := by
    rintro σ H Q ⟨φ, ρ, μ, rep, pp⟩
    refine tM_bind bas_T rep pp fun t v φ1 μ1 H1 x1 r1 q1 h1 => ?_
    split at h1
    · rename_i ty
      obtain ⟨TT, id, r, f1, f2, f3, f4, f5, f6, _⟩ := mt_rule x r1.st q1 ty σ
      refine ⟨TT, id, r, f1, f2, f3, f4, f5, ?_⟩
      refine tM_bind bas_T r1 h1 fun us vs φ2 μ2 H2 x2 r2 q2 h2 => ?_
      exact f6 φ2 μ2 H2 us vs Q r2.st (r1.st.rt x2 q1) q2 h2
    · exact h1.elim
  cases es with
  | nil =>
    refine weakE (pe_mt0 ho (base_of hc _ _) hl) fun σ H Q hh => ?_
    obtain ⟨φ, ρ, μ, rep, hh'⟩ := step σ H Q hh
    refine ⟨φ, ρ, μ, rep, hh'.mono fun v H1 ⟨TT, id, r, f1, f2, f3, f4, f5, φ1, ρ1, μ1, rep1, f6⟩ => ⟨TT, id, r, f1, f2, f3, f4, f5, ?_⟩⟩
    cases ms with
    | nil => exact f6 φ1 H1 [] Ext.refl rep1.st RVs.nil
    | cons _ _ => exact h.elim
  | cons e es =>
    cases ms with
    | nil => exact h.elim
    | cons m1 ms =>
      have hs := starEach_of h.1 es X.env
      have hpl : (backTo q (starEach es X.env)).any (·.1) = false := by
        rw [List.any_eq_false]
        intro y hy
        obtain ⟨z, hz, rfl⟩ := List.mem_map.mp hy
        have := hst z (by rw [hs]; exact List.mem_cons_of_mem _ hz)
        simp [this]
      exact weakE (pe_mt ho (pa_of h) (base_of hc _ _) (few_of X.env hst hlen) hl hs hpl) step
theorem r_mt1 (x : XOk G Γ S RX W C k X) {m : Mt} {o a : Expr} {mo ma : Ev → Store → Res T} {p q : Pos} (ho : PE X o (tM G RX W (rT G) mo)) (pa : plainX a = true) (ha : PE X a (tM G RX W (rT G) ma))
    (hc : isCallE o = false) (hl : (p.endLine == q.line) = true) :
    PE X (.Call (.Attribute o (mtN m) p) [a] [] q) (tM G RX W (rT G) fun ρ μ => (mo ρ μ).bind fun x μ1 => if tyT m x μ1 then (ma ρ μ1).bind fun y μ2 => mt1T m x y μ2 else .no) := by
  have hs := starEach_of pa [] X.env
  have hst : ∀ x ∈ starEach [a] X.env, x.1 = false := by
    rw [hs]; intro y hy
    rcases List.mem_cons.mp hy with rfl | hy
    · rfl
    · cases hy
  refine weakE (pe_mt ho (pa_cons ha pa_nil hs) (base_of hc _ _) (few_of X.env hst (by simp)) hl hs (by rfl)) fun σ H Q ⟨φ, ρ, μ, rep, pp⟩ => ?_
  refine tM_bind bas_T rep pp fun t v φ1 μ1 H1 x1 r1 q1 h1 => ?_
  split at h1
  · rename_i ty
    obtain ⟨TT, id, r, f1, f2, f3, f4, f5, _, f6⟩ := mt_rule (H0 := H) x r1.st q1 ty σ
    refine ⟨TT, id, r, f1, f2, f3, f4, f5, ?_⟩
    refine tM_bind bas_T r1 h1 fun b y φ2 μ2 H2 x2 r2 q2 h2 => ?_
    exact f6 φ2 μ2 H2 b y Q r2.st (r1.st.rt x2 q1) (RT.base x1.dom q2) h2
  · exact h1.elim

/-! what a loop goes over -/
def rI (G : Gb) : List Addr → Hp → Hp → Itm → It → Prop := fun φ _ H x J => ∀ (i : Nat) φ2 μ2 H2, Ext φ φ2 H H2 → RepStore G φ2 μ2 H2 → x.ok μ2 = true →
  (x.us.length = i → J.stop i H2) ∧ ∀ u, x.us[i]? = some u → J.go i H2 ∧ ∀ v H3, J.yld i H2 v H3 → Ext φ2 φ2 H2 H3 ∧ RepStore G φ2 μ2 H3 ∧ RV G φ2 H3 u v
theorem bas_I : Bas (rI G) := fun _ _ _ _ _ _ _ h => h

/-- a list or a tuple, by what comes -/
def iSeq (K : PySem.W.Frag) (tl : TE) : TI := fun σ H R => tl σ H fun x H1 => ∃ a, x = .ref a ∧ (((∃ xs, SqL K H1 a xs) ∧ R (Itl K a) H1) ∨ ((∃ xs, SqT K H1 a xs) ∧ R (Itt K a) H1))
theorem pi_seqA {tg l : Expr} {tl : TE} (hl : PE X l tl) : PI X tg l (iSeq X.K tl) := by
  refine ⟨fun pins s σ H R I h => ?_⟩
  refine thn (hl.run pins s σ H _ I h) fun v s1 ⟨x, H1, I1, r1, a, ea, q1⟩ => ?_
  subst ea
  cases r1
  rcases q1 with ⟨⟨xs, hq⟩, q⟩ | ⟨⟨xs, hq⟩, q⟩
  · obtain ⟨its, rv, pl, hz⟩ := I1.list hq
    exact wpAny_pyIter_list pl.isList (pi_one (tk := s1.toks) I1 _ (turn_list a _) ⟨_, Heap.get?_push_size _ rfl, rfl, rfl⟩ q)
  · obtain ⟨its, rv, pl, hz⟩ := I1.tuple hq
    exact wpAny_pyIter_tuple (show s1.heap.IsTuple a its.toArray from pl) (pi_one (tk := s1.toks) I1 _ (turn_tuple a _) ⟨_, Heap.get?_push_size _ rfl, rfl, rfl⟩ q)

theorem Itm.seq_ok {φ : List Addr} {μ : Store} {H0 H : Hp} {t : T} {v : V} {x : Itm} (s : RepStore G φ μ H) (e : itmOf t μ = some x) (r : RT G φ H0 H t v) :
    ∃ a, v = .ref a ∧ ((t.tupOf = none ∧ (∃ xs, SqL G.K H a xs) ∧ ∀ φ2 μ2 H2, Ext φ φ2 H H2 → RepStore G φ2 μ2 H2 → x.ok μ2 = true → ∃ ys, SqL G.K H2 a ys ∧ RVs G φ2 H2 x.us ys) ∨
      (t.tupOf.isSome = true ∧ (∃ xs, SqT G.K H a xs) ∧ ∀ φ2 μ2 H2, Ext φ φ2 H H2 → RepStore G φ2 μ2 H2 → ∃ ys, SqT G.K H2 a ys ∧ RVs G φ2 H2 x.us ys)) := by
  have other : (∀ n, t ≠ .u (.loc n)) → (t.seqOf μ).map (fun us => (⟨us, []⟩ : Itm)) = some x → ∃ a, v = .ref a ∧ ((t.tupOf = none ∧ (∃ xs, SqL G.K H a xs) ∧ ∀ φ2 μ2 H2, Ext φ φ2 H H2 → RepStore G φ2 μ2 H2 → x.ok μ2 = true → ∃ ys, SqL G.K H2 a ys ∧ RVs G φ2 H2 x.us ys) ∨
      (t.tupOf.isSome = true ∧ (∃ xs, SqT G.K H a xs) ∧ ∀ φ2 μ2 H2, Ext φ φ2 H H2 → RepStore G φ2 μ2 H2 → ∃ ys, SqT G.K H2 a ys ∧ RVs G φ2 H2 x.us ys)) := by
    intro hn e
    cases t with
    | l us =>
      have : x = ⟨us, []⟩ := by cases e; rfl
      subst this
      obtain ⟨a, vs, rfl, h1, h2, h3, h4⟩ := r
      exact ⟨a, rfl, .inl ⟨rfl, ⟨vs, .inl (.inl h1)⟩, fun φ2 μ2 H2 xx s2 _ => ⟨vs, .inl (.inl (xx.keep a _ h1 h3)), s.rvs xx h2⟩⟩⟩
    | u u =>
      cases u with
      | loc n => exact absurd rfl (hn n)
      | tup us =>
        have : x = ⟨us, []⟩ := by cases e; rfl
        subst this
        simp only [RT, RV] at r
        obtain ⟨a, vs, rfl, h1, h2⟩ := r
        exact ⟨a, rfl, .inr ⟨rfl, ⟨vs, h1⟩, fun φ2 μ2 H2 xx s2 => ⟨vs, (s.kp xx).tup a vs h1, s.rvs xx h2⟩⟩⟩
      | rl us =>
        have : x = ⟨us, []⟩ := by cases e; rfl
        subst this
        simp only [RT, RV] at r
        obtain ⟨a, vs, rfl, h1, h2⟩ := r
        exact ⟨a, rfl, .inl ⟨rfl, ⟨vs, h1.1⟩, fun φ2 μ2 H2 xx s2 _ => ⟨vs, (h1.kp (s.kp xx)).1, s.rvs xx h2⟩⟩⟩
      | _ => cases e
  unfold itmOf at e
  split at e
  · rename_i n
    split at e
    · rename_i xs hx
      cases e
      obtain ⟨a, h1, vs, h2, h3⟩ := s.get hx
      simp only [RT, RV] at r
      obtain ⟨b, rfl, h4⟩ := r
      rw [h1] at h4; cases h4
      refine ⟨a, rfl, .inl ⟨rfl, ⟨vs, .inl (.inl h2)⟩, fun φ2 μ2 H2 xx s2 ok => ?_⟩⟩
      have hk : μ2[n]? = some (.lst xs) := by simpa [Itm.ok] using ok
      obtain ⟨b, h5, ws, h6, h7⟩ := s2.get hk
      rw [xx.get n a h1] at h5; cases h5
      exact ⟨ws, .inl (.inl h6), h7⟩
    · cases e
  · rename_i hn
    exact other hn e
theorem r_pl (x : XOk G Γ S RX W C k X) {tg a : Expr} {ma : Ev → Store → Res T} (ha : PE X a (tM G RX W (rT G) ma)) :
    PI X tg a (tM G RX W (rI G) fun ρ μ => (ma ρ μ).bind fun x μ1 => match itmOf x μ1 with | some i => .ok i μ1 | none => .no) := by
  refine ⟨fun pins s σ H R I ⟨φ, ρ, μ, rep, pp⟩ => (pi_seqA ha).run pins s σ H R I ?_⟩
  refine tM_bind bas_I rep pp fun t v φ1 μ1 H1 x1 r1 q1 h1 => ?_
  split at h1
  · rename_i i hi
    obtain ⟨b, rfl, hq⟩ := Itm.seq_ok r1.st hi q1
    refine ⟨b, rfl, ?_⟩
    rw [x.K]
    rcases hq with ⟨_, h2, h3⟩ | ⟨_, h2, h3⟩
    · refine .inl ⟨h2, h1 φ1 H1 _ Ext.refl r1.st fun j φ2 μ2 H2 xx s2 ok => ?_⟩
      obtain ⟨ys, h4, h5⟩ := h3 φ2 μ2 H2 xx s2 ok
      refine ⟨fun hl => ⟨ys, h4, by rw [h5.length]; exact Nat.le_of_eq hl⟩, fun u hu => ?_⟩
      obtain ⟨y, h6, h7⟩ := h5.get hu
      refine ⟨⟨ys, y, h4, h6⟩, fun v H3 ⟨h8, h9⟩ => ?_⟩
      subst h8
      have := h9 ys h4
      rw [h6] at this; cases this
      exact ⟨Ext.refl, s2, h7⟩
    · refine .inr ⟨h2, h1 φ1 H1 _ Ext.refl r1.st fun j φ2 μ2 H2 xx s2 ok => ?_⟩
      obtain ⟨ys, h4, h5⟩ := h3 φ2 μ2 H2 xx s2
      refine ⟨fun hl => ⟨ys, h4, by rw [h5.length]; exact Nat.le_of_eq hl⟩, fun u hu => ?_⟩
      obtain ⟨y, h6, h7⟩ := h5.get hu
      refine ⟨⟨ys, y, h4, h6⟩, fun v H3 ⟨h8, h9⟩ => ?_⟩
      subst h8
      have := h9 ys h4
      rw [h6] at this; cases this
      exact ⟨Ext.refl, s2, h7⟩
  · exact h1.elim
theorem rg_get {lo : Int} {n i : Nat} {u : U} (h : (rgU lo n)[i]? = some u) : i < n ∧ u = .int (lo + i) := by
  unfold rgU at h
  rw [List.getElem?_map] at h
  cases q : (List.range n)[i]? with
  | none => rw [q] at h; cases h
  | some j =>
    rw [q] at h
    obtain ⟨h1, h2⟩ := List.getElem?_eq_some_iff.mp q
    simp only [List.length_range] at h1
    rw [List.getElem_range] at h2
    subst h2
    cases h; exact ⟨h1, rfl⟩
theorem rI_rg {φ : List Addr} {H : Hp} (lo : Int) (n : Nat) : rI G φ H H ⟨rgU lo n, []⟩ (Itr lo n) := fun i φ2 μ2 H2 xx s2 _ =>
  ⟨fun hl => by
    have hl' : n = i := by simpa [rgU] using hl
    exact Nat.le_of_eq hl', fun u hu => by
    obtain ⟨h1, rfl⟩ := rg_get hu
    refine ⟨h1, fun v H3 ⟨h2, h3⟩ => ?_⟩
    subst h2 h3
    exact ⟨Ext.refl, s2, by rw [RV]⟩⟩
theorem i62_of {j : Int} (h : i62 j = true) : -(2 ^ 62) ≤ j ∧ j < 2 ^ 62 := by simpa [i62] using h
theorem r_rg1 (x : XOk G Γ S RX W C k X) {tg a : Expr} {ma : Ev → Store → Res T} {p q : Pos} (h2 : glB S.sc "range" = true) (pa : plainX a = true) (ha : PE X a (tM G RX W (rT G) ma)) :
    PI X tg (.Call (.Name "range" p) [a] [] q) (tM G RX W (rI G) fun ρ μ => (ma ρ μ).bind fun x μ1 => match x with
      | .u (.int j) => if i62 j then .ok ⟨rgU 0 j.toNat, []⟩ μ1 else .no
      | _ => .no) := by
  have hs : starEach [a] X.env = [(false, eval a X.env)] := starEach_of pa [] X.env
  refine ⟨fun pins s σ H R I ⟨φ, ρ, μ, rep, pp⟩ => (pi_range1 (gl_of x.sc h2) (by rw [x.mg]; exact x.bls _ (by decide +kernel)) (pa_cons ha pa_nil hs) hs).run pins s σ H R I ?_⟩
  refine tM_bind bas_I rep pp fun t v φ1 μ1 H1 x1 r1 q1 h1 => ?_
  split at h1
  · rename_i j
    split at h1
    · rename_i hj
      have hj := i62_of hj
      have q' : RT G φ1 H H1 (.u (.int j)) v := q1
      simp only [RT, RV] at q'
      exact ⟨j, by rw [q'], hj.1, hj.2, h1 φ1 H1 _ Ext.refl r1.st (rI_rg 0 j.toNat)⟩
    · exact h1.elim
  · exact h1.elim
theorem r_rg2 (x : XOk G Γ S RX W C k X) {tg a b : Expr} {ma mb : Ev → Store → Res T} {p q : Pos} (h2 : glB S.sc "range" = true) (pa : plainX a = true) (pb : plainX b = true) (ha : PE X a (tM G RX W (rT G) ma)) (hb : PE X b (tM G RX W (rT G) mb)) :
    PI X tg (.Call (.Name "range" p) [a, b] [] q) (tM G RX W (rI G) fun ρ μ => (ma ρ μ).bind fun x μ1 => (mb ρ μ1).bind fun y μ2 => match x, y with
      | .u (.int i), .u (.int j) => if i62 i && i62 j then .ok ⟨rgU i (j - i).toNat, []⟩ μ2 else .no
      | _, _ => .no) := by
  have hs2 : starEach [b] X.env = [(false, eval b X.env)] := starEach_of pb [] X.env
  have hs : starEach [a, b] X.env = [(false, eval a X.env), (false, eval b X.env)] := by rw [starEach_of pa [b] X.env, hs2]
  refine ⟨fun pins s σ H R I ⟨φ, ρ, μ, rep, pp⟩ => (pi_range2 (gl_of x.sc h2) (by rw [x.mg]; exact x.bls _ (by decide +kernel)) (pa_cons ha (pa_cons hb pa_nil hs2) (starEach_of pa [b] X.env)) hs hs2).run pins s σ H R I ?_⟩
  refine tM_bind bas_I rep pp fun t v φ1 μ1 H1 x1 r1 q1 h1 => ?_
  refine tM_bind bas_I r1 h1 fun t2 v2 φ2 μ2 H2 x2 r2 q2 h2 => ?_
  split at h2
  · rename_i i j
    split at h2
    · rename_i hij
      simp only [Bool.and_eq_true] at hij
      have hi := i62_of hij.1
      have hj := i62_of hij.2
      have q' : RT G φ1 H H1 (.u (.int i)) v := q1
      have q2' : RT G φ2 H1 H2 (.u (.int j)) v2 := q2
      simp only [RT, RV] at q' q2'
      exact ⟨i, j, by rw [q', q2'], ⟨hi.1, hi.2, hj.1, hj.2⟩, h2 φ2 H2 _ Ext.refl r2.st (rI_rg i (j - i).toNat)⟩
    · exact h2.elim
  · exact h2.elim

theorem pairsE_get : ∀ {us : List U} {n i : Nat} {w : U}, (pairsE n us)[i]? = some w → ∃ u, us[i]? = some u ∧ w = .tup [.int (n + i : Nat), u]
  | [], _, _, _, h => by simp [pairsE] at h
  | u :: us, n, 0, w, h => by simp only [pairsE, List.getElem?_cons_zero, Option.some.injEq] at h; exact ⟨u, rfl, h.symm⟩
  | u :: us, n, i + 1, w, h => by
    simp only [pairsE, List.getElem?_cons_succ] at h ⊢
    obtain ⟨v, h1, h2⟩ := pairsE_get h
    exact ⟨v, h1, by rw [h2, show n + 1 + i = n + (i + 1) by omega]⟩
theorem pairsE_len : ∀ (us : List U) (n : Nat), (pairsE n us).length = us.length
  | [], _ => rfl
  | u :: us, n => by simp [pairsE, pairsE_len us]
theorem new_pair {φ : List Addr} {μ : Store} {H : Hp} {p : Addr} {a b : U} {x y : V} (s : RepStore G φ μ H) (hp : H p = none) (r1 : RV G φ H a x) (r2 : RV G φ H b y) :
    Ext φ φ H (upd H p (.tup [x, y])) ∧ RepStore G φ μ (upd H p (.tup [x, y])) ∧ RV G φ (upd H p (.tup [x, y])) (.tup [a, b]) (.ref p) := by
  have xx : Ext φ φ H (upd H p (.tup [x, y])) := Ext.new hp
  refine ⟨xx, s.new hp, ?_⟩
  rw [RV]
  exact ⟨p, [x, y], rfl, .inl (.inl upd_same), .cons (s.rv xx r1) (.cons (s.rv xx r2) .nil)⟩

theorem Itm.seqL {φ : List Addr} {μ : Store} {H0 H : Hp} {t : T} {v : V} {x : Itm} (s : RepStore G φ μ H) (e : itmOf t μ = some x) (r : RT G φ H0 H t v) (h : t.tupOf = none) :
    ∃ a, v = .ref a ∧ (∃ xs, SqL G.K H a xs) ∧ ∀ φ2 μ2 H2, Ext φ φ2 H H2 → RepStore G φ2 μ2 H2 → x.ok μ2 = true → ∃ ys, SqL G.K H2 a ys ∧ RVs G φ2 H2 x.us ys := by
  obtain ⟨a, h1, ⟨_, h2⟩ | ⟨h2, _⟩⟩ := Itm.seq_ok s e r
  · exact ⟨a, h1, h2⟩
  · rw [h] at h2; cases h2
theorem Itm.seqT {φ : List Addr} {μ : Store} {H0 H : Hp} {t : T} {v : V} {x : Itm} (s : RepStore G φ μ H) (e : itmOf t μ = some x) (r : RT G φ H0 H t v) (h : t.tupOf.isSome = true) :
    ∃ a, v = .ref a ∧ (∃ xs, SqT G.K H a xs) ∧ ∀ φ2 μ2 H2, Ext φ φ2 H H2 → RepStore G φ2 μ2 H2 → ∃ ys, SqT G.K H2 a ys ∧ RVs G φ2 H2 x.us ys := by
  obtain ⟨a, h1, ⟨h2, _⟩ | ⟨_, h2⟩⟩ := Itm.seq_ok s e r
  · rw [h2] at h; cases h
  · exact ⟨a, h1, h2⟩
theorem r_enm (x : XOk G Γ S RX W C k X) {a : Expr} {es : List Expr} {j : Nat} {tp : Pos} {ma : Ev → Store → Res T} {p q : Pos} (h2 : glB S.sc "enumerate" = true) (pa : plainX a = true) (ha : PE X a (tM G RX W (rT G) ma)) :
    PI X (.Tuple es j tp) (.Call (.Name "enumerate" p) [a] [] q) (tM G RX W (rI G) fun ρ μ => (ma ρ μ).bind fun x μ1 => match enmOf x μ1 with | some i => .ok i μ1 | none => .no) := by
  have hs : starEach [a] X.env = [(false, eval a X.env)] := starEach_of pa [] X.env
  refine ⟨fun pins s σ H R I ⟨φ, ρ, μ, rep, pp⟩ => (pi_enumA (gl_of x.sc h2) (by rw [x.mg]; exact x.bls _ (by decide +kernel)) (pa_cons ha pa_nil hs) hs).run pins s σ H R I ?_⟩
  refine tM_bind bas_I rep pp fun t v φ1 μ1 H1 x1 r1 q1 h1 => ?_
  split at h1
  · rename_i i hi
    unfold enmOf at hi
    cases hm : itmOf t μ1 with
    | none => rw [hm] at hi; cases hi
    | some i0 =>
      rw [hm] at hi; cases hi
      obtain ⟨b, rfl, hq⟩ := Itm.seq_ok r1.st hm q1
      rw [x.K]
      rcases hq with ⟨_, ⟨xs, hx⟩, h3⟩ | ⟨_, ⟨xs, hx⟩, h3⟩
      · refine ⟨b, xs, rfl, .inl ⟨hx, h1 φ1 H1 _ Ext.refl r1.st fun j φ2 μ2 H2 xx s2 ok => ?_⟩⟩
        obtain ⟨ys, h4, h5⟩ := h3 φ2 μ2 H2 xx s2 ok
        refine ⟨fun hl => ⟨ys, h4, by rw [h5.length]; have : (pairsE 0 i0.us).length = j := hl; rw [pairsE_len] at this; omega⟩, fun u hu => ?_⟩
        obtain ⟨w, hw, rfl⟩ := pairsE_get hu
        obtain ⟨y, h6, h7⟩ := h5.get hw
        refine ⟨⟨ys, y, h4, h6⟩, fun v H3 ⟨TT, z, e1, e2, e3, e4⟩ => ?_⟩
        subst e1 e3
        have := e4 ys h4
        rw [h6] at this; cases this
        exact new_pair (a := .int (0 + j : Nat)) (x := .int (j : Nat)) s2 e2 (by rw [RV, Nat.zero_add]) h7
      · refine ⟨b, xs, rfl, .inr ⟨hx, h1 φ1 H1 _ Ext.refl r1.st fun j φ2 μ2 H2 xx s2 ok => ?_⟩⟩
        obtain ⟨ys, h4, h5⟩ := h3 φ2 μ2 H2 xx s2
        refine ⟨fun hl => ⟨ys, h4, by rw [h5.length]; have : (pairsE 0 i0.us).length = j := hl; rw [pairsE_len] at this; omega⟩, fun u hu => ?_⟩
        obtain ⟨w, hw, rfl⟩ := pairsE_get hu
        obtain ⟨y, h6, h7⟩ := h5.get hw
        refine ⟨⟨ys, y, h4, h6⟩, fun v H3 ⟨TT, z, e1, e2, e3, e4⟩ => ?_⟩
        subst e1 e3
        have := e4 ys h4
        rw [h6] at this; cases this
        exact new_pair (a := .int (0 + j : Nat)) (x := .int (j : Nat)) s2 e2 (by rw [RV, Nat.zero_add]) h7
  · exact h1.elim
theorem zipU_get {us ws : List U} {i : Nat} {u : U} (h : ((us.zip ws).map fun p => U.tup [p.1, p.2])[i]? = some u) : ∃ a b, us[i]? = some a ∧ ws[i]? = some b ∧ u = .tup [a, b] := by
  rw [List.getElem?_map] at h
  cases q : (us.zip ws)[i]? with
  | none => rw [q] at h; cases h
  | some p =>
    rw [q] at h
    cases h
    have := List.getElem?_zip_eq_some.mp q
    exact ⟨p.1, p.2, this.1, this.2, rfl⟩
theorem r_zp (x : XOk G Γ S RX W C k X) {a b : Expr} {es : List Expr} {j : Nat} {tp : Pos} {ma mb : Ev → Store → Res T} {p q : Pos} (h2 : glB S.sc "zip" = true) (pa : plainX a = true) (pb : plainX b = true) (ha : PE X a (tM G RX W (rT G) ma)) (hb : PE X b (tM G RX W (rT G) mb)) :
    PI X (.Tuple es j tp) (.Call (.Name "zip" p) [a, b] [] q) (tM G RX W (rI G) fun ρ μ => (ma ρ μ).bind fun x μ1 => (mb ρ μ1).bind fun y μ2 => match zipOf x y μ2 with | some i => .ok i μ2 | none => .no) := by
  have hs2 : starEach [b] X.env = [(false, eval b X.env)] := starEach_of pb [] X.env
  have hs := starEach_of pa [b] X.env
  refine ⟨fun pins s σ H R I ⟨φ, ρ, μ, rep, pp⟩ => (RZ.pi_zipA (gl_of x.sc h2) (by rw [x.mg]; exact x.bls _ (by decide +kernel)) (pa_cons ha (pa_cons hb pa_nil hs2) hs) hs (by rw [hs2]; rfl)).run pins s σ H R I ?_⟩
  refine tM_bind bas_I rep pp fun t v φ1 μ1 H1 x1 r1 q1 h1 => ?_
  refine tM_bind bas_I r1 h1 fun t2 v2 φ2 μ2 H2 x2 r2 q2 h2 => ?_
  have q1' : RT G φ2 H H2 t v := r1.st.rt x2 q1
  split at h2
  · rename_i i hi
    unfold zipOf at hi
    split at hi
    · rename_i he
      split at hi
      · rename_i i1 i2 e1 e2
        cases hi
        cases ht : t.tupOf with
        | none =>
          have ht2 : t2.tupOf = none := by rw [ht] at he; simpa using he.symm
          obtain ⟨c, rfl, ⟨xs, hx⟩, h3⟩ := Itm.seqL r2.st e1 q1' ht
          obtain ⟨d, rfl, ⟨ys, hy⟩, h4⟩ := Itm.seqL r2.st e2 q2 ht2
          rw [x.K]
          refine ⟨c, d, xs, ys, rfl, .inl ⟨hx, hy, h2 φ2 H2 _ Ext.refl r2.st fun j φ3 μ3 H3 xx s3 ok => ?_⟩⟩
          have ok1 : i1.ok μ3 = true ∧ i2.ok μ3 = true := by simpa [Itm.ok, List.all_append] using ok
          obtain ⟨xs', h5, h6⟩ := h3 φ3 μ3 H3 xx s3 ok1.1
          obtain ⟨ys', h7, h8⟩ := h4 φ3 μ3 H3 xx s3 ok1.2
          refine ⟨fun hl => ⟨xs', ys', h5, h7, ?_⟩, fun u hu => ?_⟩
          · rw [h6.length, h8.length]
            have hl' := hl
            simp only [List.length_map, List.length_zip] at hl'
            omega
          · obtain ⟨u1, u2, g1, g2, rfl⟩ := zipU_get hu
            obtain ⟨y1, g3, g4⟩ := h6.get g1
            obtain ⟨y2, g5, g6⟩ := h8.get g2
            refine ⟨⟨xs', ys', y1, y2, h5, h7, g3, g5⟩, fun v H3 ⟨TT, z1, z2, f1, f2, f3, f4, f5⟩ => ?_⟩
            subst f1 f3
            have k1 := f4 xs' h5
            have k2 := f5 ys' h7
            rw [g3] at k1; rw [g5] at k2
            cases k1; cases k2
            exact new_pair s3 f2 g4 g6
        | some _ =>
          have ht1 : t.tupOf.isSome = true := by rw [ht]; rfl
          have ht2 : t2.tupOf.isSome = true := by rw [← he]; exact ht1
          obtain ⟨c, rfl, ⟨xs, hx⟩, h3⟩ := Itm.seqT r2.st e1 q1' ht1
          obtain ⟨d, rfl, ⟨ys, hy⟩, h4⟩ := Itm.seqT r2.st e2 q2 ht2
          rw [x.K]
          refine ⟨c, d, xs, ys, rfl, .inr ⟨hx, hy, h2 φ2 H2 _ Ext.refl r2.st fun j φ3 μ3 H3 xx s3 ok => ?_⟩⟩
          obtain ⟨xs', h5, h6⟩ := h3 φ3 μ3 H3 xx s3
          obtain ⟨ys', h7, h8⟩ := h4 φ3 μ3 H3 xx s3
          refine ⟨fun hl => ⟨xs', ys', h5, h7, ?_⟩, fun u hu => ?_⟩
          · rw [h6.length, h8.length]
            have hl' := hl
            simp only [List.length_map, List.length_zip] at hl'
            omega
          · obtain ⟨u1, u2, g1, g2, rfl⟩ := zipU_get hu
            obtain ⟨y1, g3, g4⟩ := h6.get g1
            obtain ⟨y2, g5, g6⟩ := h8.get g2
            refine ⟨⟨xs', ys', y1, y2, h5, h7, g3, g5⟩, fun v H3 ⟨TT, z1, z2, f1, f2, f3, f4, f5⟩ => ?_⟩
            subst f1 f3
            have k1 := f4 xs' h5
            have k2 := f5 ys' h7
            rw [g3] at k1; rw [g5] at k2
            cases k1; cases k2
            exact new_pair s3 f2 g4 g6
      · cases hi
    · cases hi
  · exact h2.elim
end
end DP
end
section
/-! DpL: targets, calls of a slot's def, list comprehensions. -/
set_option linter.all false
set_option autoImplicit false
set_option maxRecDepth 100000
namespace DP
open PySem PySem.Spec PyProof.Rows L2

section
variable {G : Gb} {Γ : Gt} {S : Stt} {RX : RXT} {W : XW} {C : Calls} {k : Nat} {X : Cx} {e : Expr}

/-- g(..), the def in a slot -/
theorem r_calv (x : XOk G Γ S RX W C k X) {i : Nat} {n : Str} {fs : List Nat} {es : List Expr} {ms : List VB} {p q : Pos} (h1 : S.N[i]? = some n) (h2 : visB S.sc n = true) (hne : es ≠ []) (hfs : ∀ f ∈ fs, ∃ y, Γ.ft[f]? = some (y, es.length)) (h : PBs G RX W X es ms)
    (hst : (backTo q (starEach es X.env)).any (·.1) = false) :
    PE X (.Call (.Name n p) es [] q) (tM G RX W (rT G) fun ρ μ => match ρ[i]? with
      | some (some (.fn f)) => if fs.contains f then (evs ms ρ μ).bind fun us μ1 => (C f us μ1).bind fun u μ2 => .ok (.u u) μ2 else .no
      | _ => .no) := by
  cases es with
  | nil => exact absurd rfl hne
  | cons e es =>
    refine ⟨fun pins s σ H Q I ⟨φ, ρ, μ, rep, pp⟩ => ?_⟩
    dsimp only at pp
    split at pp
    · rename_i f hf
      split at pp
      · rename_i hc
        obtain ⟨y, hy⟩ := hfs f (by simpa using hc)
        obtain ⟨hd, a, fd, ps, hps, hm, hfa, hk, hb, F⟩ := fn_at x hy
        obtain ⟨v, e1, e2⟩ := rep.env i _ hf
        rw [RV] at e2
        obtain ⟨b, rfl, e3⟩ := e2
        rw [hfa] at e3; cases e3
        refine wpAny_Call_Name_kw (thn ((pe_var (pos := p) (by rw [x.N]; exact h1) (by rw [x.sc]; exact vis_of h2) (x.dbg n (memN h1)).1 (x.dbg n (memN h1)).2).run pins s σ H (fun v H1 => v = .ref a ∧ H1 = H) I ⟨.ref a, e1, rfl, rfl⟩) fun u s1 ⟨v, H1, I1, r1, q1⟩ => ?_)
        obtain ⟨rfl, rfl⟩ := q1
        cases r1
        cases ms with
        | nil => exact h.elim
        | cons m ms =>
          have hA := pa_of h
          have hp : (backTo q (starEach es X.env)).any (·.1) = false := by
            rw [starEach_of h.1] at hst
            simpa [backTo] using hst
          refine PySem.W.callWith_K (h₀ := X.base) I1.ok.mod.kin hk (thn (hA.run q pins s1 σ _ (fun vs H1 => ∃ φ1 μ1 us, RepS G φ1 ρ μ1 σ H1 ∧ RVs G φ1 H1 us vs ∧ us.length = (m :: ms).length ∧ Post G RX W (rT G) φ1 σ H1 Q ((C f us μ1).bind fun u μ2 => .ok (.u u) μ2)) I1 ?_)
            fun us s1 ⟨vs, H1, I1, r, φ1, μ1, ws, r1, q1, l1, p1⟩ => ⟨I1.kIn, run_call x hb F I1 r r1 q1 p1 (by rw [q1.length, l1, hps, h.len])⟩) (starEach_of h.1 es X.env) hp
          exact ⟨φ, ρ, μ, rep, (Post.bind bas_T rep pp).mono fun b H' ⟨a, φ1, μ1, e1, _, r, q, pz⟩ => ⟨φ1, μ1, a, r, q, evs_len e1, pz⟩⟩
      · exact pp.elim
    · exact pp.elim

/-! targets -/
def tG (G : Gb) (tg : Tg) : TG := fun v σ H Q => ∃ φ ρ μ u ρ', RepS G φ ρ μ σ H ∧ RV G φ H u v ∧ asgT tg u μ ρ = some ρ' ∧ ∀ σ', RepS G φ ρ' μ σ' H → (∀ i, i ∉ tgIx tg → σ'[i]? = σ[i]?) → Q σ' H
def tGs (G : Gb) (ts : List Tg) : TGs := fun vs σ H Q => ∃ φ ρ μ us ρ', RepS G φ ρ μ σ H ∧ RVs G φ H us vs ∧ asgTs ts us μ ρ = some ρ' ∧ ∀ σ', RepS G φ ρ' μ σ' H → (∀ i, i ∉ tgIxs ts → σ'[i]? = σ[i]?) → Q σ' H
theorem RepS.set {φ : List Addr} {ρ : Ev} {μ : Store} {σ : L2.St} {H : Hp} {i : Nat} {u : U} {v : V} (r : RepS G φ ρ μ σ H) (h : RV G φ H u v) : RepS G φ (ρ.set i (some u)) μ (σ.set i (some v)) H := by
  refine ⟨r.st, by simp [r.len], fun j w e => ?_⟩
  rw [List.getElem?_set] at e ⊢
  split at e
  · rename_i hij
    split at e
    · rename_i hl
      cases e
      rw [if_pos hij, if_pos (by rw [← r.len]; exact hl)]
      exact ⟨v, rfl, h⟩
    · cases e
  · rename_i hij
    rw [if_neg hij]
    exact r.env j w e
theorem gather_of : ∀ {ts : List Tg} {es : List Expr} (env : Env), mTs S ts es = true → (assignEach es env).length = es.length ∧ (assignEach es env).findIdx? (·.1) = none ∧ (assignEach es env).map (·.2) = es.map fun t => assign t env
  | [], [], _, _ => ⟨rfl, rfl, rfl⟩
  | t :: ts, e :: es, env, h => by
    simp only [mTs, Bool.and_eq_true] at h
    obtain ⟨h1, h2, h3⟩ := gather_of env h.2
    have : assignEach (e :: es) env = (false, assign e env) :: assignEach es env := by
      cases t <;> cases e <;> first | rfl | (have h0 := h.1; simp [mT] at h0)
    rw [this]
    refine ⟨by simp [h1], ?_, by simp [h3]⟩
    rw [List.findIdx?_cons, h2]; rfl
  | [], _ :: _, _, h => by simp [mTs] at h
  | _ :: _, [], _, h => by simp [mTs] at h
theorem weakG {t : Expr} {a b : TG} (h : PG X t a) (w : ∀ v σ H Q, b v σ H Q → a v σ H Q) : PG X t b := ⟨fun pins s σ H v u Q I r q => h.run pins s σ H v u Q I r (w v σ H Q q)⟩
theorem weakGs {t : List Expr} {a b : TGs} (h : PGs X t a) (w : ∀ v σ H Q, b v σ H Q → a v σ H Q) : PGs X t b := ⟨fun pins s σ H v u Q I r q => h.run pins s σ H v u Q I r (w v σ H Q q)⟩
theorem mTs_len : ∀ {ts : List Tg} {es : List Expr}, mTs S ts es = true → ts.length = es.length
  | [], [], _ => rfl
  | t :: ts, e :: es, h => by simp only [mTs, Bool.and_eq_true] at h; simp [mTs_len h.2]
  | [], _ :: _, h => by simp [mTs] at h
  | _ :: _, [], h => by simp [mTs] at h
theorem asgTs_len : ∀ {ts : List Tg} {us : List U} {μ : Store} {ρ ρ' : Ev}, asgTs ts us μ ρ = some ρ' → ts.length = us.length
  | [], [], _, _, _, _ => rfl
  | t :: ts, u :: us, μ, ρ, ρ', h => by
    simp only [asgTs] at h
    split at h
    · simp [asgTs_len h]
    · cases h
  | [], _ :: _, _, _, _, h => by simp [asgTs] at h
  | _ :: _, [], _, _, _, h => by simp [asgTs] at h
mutual
theorem pg_of (x : XOk G Γ S RX W C k X) : ∀ {tg : Tg} {t : Expr}, mT S tg t = true → PG X t (tG G tg)
  | .nm i, t, h => by
    cases t <;> first | (simp [mT] at h; done) | skip
    rename_i n p
    simp only [mT, Bool.and_eq_true, decide_eq_true_eq] at h
    have hl : Loc X.env.scope n ∧ (X.fn n = true ∨ X.env.scope.names.lookup n = some .local) := by
      have h2 := h.2
      unfold stB at h2
      rw [x.sc]
      split at h2
      · rename_i e; exact ⟨.inl e, .inr e⟩
      · rename_i e; exact ⟨.inr e, .inl (x.st n h2)⟩
      · cases h2
    refine weakG (pg_name (by rw [x.N]; exact x.nd) (by rw [x.N]; exact h.1) hl.1 hl.2) fun v σ H Q ⟨φ, ρ, μ, u, ρ', r, q, e, k⟩ => ?_
    simp only [asgT] at e
    split at e
    · cases e
      exact k _ (r.set q) fun j hj => by
        rw [List.getElem?_set, if_neg (fun z => hj (by simp [tgIx, z]))]
    · cases e
  | .tp ts, t, h => by
    cases t <;> first | (simp [mT] at h; done) | skip
    rename_i es j p
    simp only [mT] at h
    obtain ⟨h1, h2, h3⟩ := gather_of X.env h
    have hs := pgs_of x h
    refine ⟨fun pins s σ H v u Q I r ⟨φ, ρ, μ, w, ρ', rp, q, e, kk⟩ => ?_⟩
    simp only [asgT] at e
    split at e
    · rename_i us hus
      have q' : RT G φ H H (.u w) v := q
      obtain ⟨a, vs, rfl, h4, h5⟩ := seqOf_of rp.st hus q'
      have hl : vs.length = es.length := by rw [h5.length, ← asgTs_len e, mTs_len h]
      rcases h4 with h4 | h4
      · exact (pg_unl (pos := p) (k := j) x.calm hs h1 h2).run pins s σ H _ u Q I r ⟨a, vs, rfl, x.K ▸ h4, hl, φ, ρ, μ, us, ρ', rp, h5, e, kk⟩
      · exact (pg_tup (pos := p) (k := j) x.calm hs h1 h2).run pins s σ H _ u Q I r ⟨a, vs, rfl, x.K ▸ h4, hl, φ, ρ, μ, us, ρ', rp, h5, e, kk⟩
    · cases e
theorem pgs_of (x : XOk G Γ S RX W C k X) : ∀ {ts : List Tg} {es : List Expr}, mTs S ts es = true → PGs X es (tGs G ts)
  | [], [], _ => weakGs pgs_nil fun vs σ H Q ⟨φ, ρ, μ, us, ρ', r, q, e, k⟩ => by
    cases us with
    | nil => simp only [asgTs, Option.some.injEq] at e; subst e; exact ⟨q.nil_inv, k σ r fun _ _ => rfl⟩
    | cons _ _ => simp [asgTs] at e
  | t :: ts, e :: es, h => by
    have hh := h
    simp only [mTs, Bool.and_eq_true] at h
    have g := (gather_of X.env hh).2.2
    have g2 := (gather_of X.env h.2).2.2
    refine weakGs (pgs_cons (pg_of x h.1) (pgs_of x h.2) (by rw [g, g2]; rfl)) fun vs σ H Q ⟨φ, ρ, μ, us, ρ', r, q, e, k⟩ => ?_
    cases us with
    | nil => simp [asgTs] at e
    | cons u us =>
      obtain ⟨v, vr, rfl, q1, q2⟩ := q.cons_inv
      simp only [asgTs] at e
      split at e
      · rename_i ρ1 h1
        refine ⟨v, vr, rfl, φ, ρ, μ, u, ρ1, r, q1, h1, fun σ1 r1 k1 => ⟨φ, ρ1, μ, us, ρ', r1, q2, e, fun σ2 r2 k2 => k σ2 r2 fun i hi => ?_⟩⟩
        simp only [tgIxs, List.mem_append, not_or] at hi
        rw [k2 i hi.2, k1 i hi.1]
      · cases e
  | [], _ :: _, h => by simp [mTs] at h
  | _ :: _, [], h => by simp [mTs] at h
end
end
end DP
end
section
/-! DpM: list comprehensions. -/
set_option linter.all false
set_option autoImplicit false
set_option maxRecDepth 100000
namespace DP
open PySem PySem.Spec PyProof.Rows L2

/-- no exception leaves a block -/
def WF : XW := fun _ _ _ _ => False
section
variable {G : Gb} {Γ : Gt} {S : Stt} {RX : RXT} {W : XW} {C : Calls} {k : Nat} {X : Cx} {e : Expr}

theorem blk_ok (x : XOk G Γ S RX W C k X) {scope : Scope} {own : List (Str × Nat)} (hb : blkC S.N S.sc scope own = true) (s : Shared) (H : Hp) (D : Addr) (cl : List (Str × Addr)) (fp : List Addr) :
    XOk G Γ (blkS S scope) RX WF C k (X.blk s H scope (compEnvC scope cl D X.env) fp) where
  prog := x.prog
  w := x.w
  K := x.K
  mg := x.mg
  base := x.base
  N := x.N
  nd := x.nd
  dbg := x.dbg
  sc := by
    show relabel scope X.env = relS scope S.sc
    rw [← x.sc]; rfl
  kind := by
    have : scope.kind = .function := by
      simp only [blkC, Bool.and_eq_true] at hb
      have h1 := hb.1.1.1
      split at h1
      · assumption
      · cases h1
    exact this
  st := fun y hy => by
    show (scope.names.lookup y == some .cell) = true
    have hy' : (match scope.names.lookup y with | some .cell => true | _ => false) = true := hy
    split at hy'
    · rename_i e; rw [e]; rfl
    · cases hy'
  calm := x.calm
  room := x.room
  tk := fun u s' ⟨_, _, _, _, _, _, _, _, _, _, _, _, _, _, _, _, w⟩ => w.elim
  pass := PassesOwn.never
  fns := x.fns
  gls := x.gls
  bls := x.bls

theorem wipeE_len (ρ : Ev) : ∀ vs : List Nat, (wipeE ρ vs).length = ρ.length
  | [] => rfl
  | v :: vs => by simp [wipeE, wipeE_len ρ vs]
theorem RepS.wipe {φ : List Addr} {ρ : Ev} {μ : Store} {σ : L2.St} {H : Hp} (r : RepS G φ ρ μ σ H) : ∀ vs : List Nat, RepS G φ (wipeE ρ vs) μ (L2.wipe σ vs) H
  | [] => r
  | v :: vs => by
    have ih := r.wipe vs
    refine ⟨ih.st, by simp [wipeE, L2.wipe, ih.len], fun i u e => ?_⟩
    simp only [wipeE, L2.wipe, List.getElem?_set] at e ⊢
    split at e
    · split at e
      · cases e
      · cases e
    · rename_i hne
      rw [if_neg hne]
      exact ih.env i u e
theorem wipe_get (σ : L2.St) : ∀ (vs : List Nat) (i : Nat), (L2.wipe σ vs)[i]? = if i ∈ vs then (if i < σ.length then some none else none) else σ[i]?
  | [], i => by simp [L2.wipe]
  | v :: vs, i => by
    simp only [L2.wipe, List.getElem?_set, wipe_get σ vs i, wipe_length, List.mem_cons]
    by_cases h : v = i
    · subst h; simp
    · have h' : ¬ i = v := fun z => h z.symm
      simp [h, h']
theorem wipe_eq {σ σ2 : L2.St} {vs : List Nat} (hl : σ2.length = σ.length) (h : ∀ i, i ∉ vs → σ2[i]? = (L2.wipe σ vs)[i]?) : L2.wipe σ2 vs = L2.wipe σ vs := by
  apply List.ext_getElem?
  intro i
  rw [wipe_get, wipe_get]
  split
  · rw [hl]
  · rename_i hi
    rw [h i hi, wipe_get, if_neg hi]

mutual
theorem asgT_len : ∀ {tg : Tg} {u : U} {μ : Store} {ρ ρ' : Ev}, asgT tg u μ ρ = some ρ' → ρ'.length = ρ.length
  | .nm i, u, μ, ρ, ρ', h => by
    simp only [asgT] at h
    split at h
    · cases h; simp
    · cases h
  | .tp ts, u, μ, ρ, ρ', h => by
    simp only [asgT] at h
    split at h
    · exact asgTs_lenE h
    · cases h
theorem asgTs_lenE : ∀ {ts : List Tg} {us : List U} {μ : Store} {ρ ρ' : Ev}, asgTs ts us μ ρ = some ρ' → ρ'.length = ρ.length
  | [], [], _, _, _, h => by simp only [asgTs, Option.some.injEq] at h; rw [h]
  | t :: ts, u :: us, μ, ρ, ρ', h => by
    simp only [asgTs] at h
    split at h
    · rename_i ρ1 h1
      rw [asgTs_lenE h, asgT_len h1]
    · cases h
  | [], _ :: _, _, _, _, h => by simp [asgTs] at h
  | _ :: _, [], _, _, _, h => by simp [asgTs] at h
end
/-- the new list is not a place: writing it leaves the rest -/
theorem RepStore.off {φ : List Addr} {μ : Store} {H : Hp} {D : Addr} {ws ws' : List V} (s : RepStore G φ μ H) (hD : H D = some (.lst ws)) (hn : D ∉ φ) : RepStore G φ μ (upd H D (.lst ws')) ∧ Kp G.K H (upd H D (.lst ws')) := by
  have k : Kp G.K H (upd H D (.lst ws')) := by
    refine ⟨fun a vs h => ?_, fun b o u e => ?_⟩
    · rcases h with (h | ⟨o, h⟩) | h
      · refine .inl (.inl ?_)
        rw [upd_ne (fun z => by rw [z, hD] at h; cases h)]; exact h
      · refine .inl (.inr ⟨o, ?_⟩)
        rw [upd_ne (fun z => by rw [z, hD] at h; cases h)]; exact h
      · exact .inr h
    · rw [upd_ne (fun z => by rw [z, hD] at e; cases e)]; exact e
  exact ⟨⟨s.len, s.nd, fun n c a e f => (s.at_ n c a e f).up k (fun _ _ z => z) (upd_ne fun z => hn (z ▸ List.mem_of_getElem? f))⟩, k⟩

theorem noEx_bind {α β : Type} (r : Res α) (f : α → Store → Res β) : noEx (r.bind f) = (noEx r).bind fun a μ => noEx (f a μ) := by
  cases r <;> rfl
/-- a step within a block -/
theorem tM_bindN {α β γ δ : Type} {R : List Addr → Hp → Hp → α → β → Prop} {R' : List Addr → Hp → Hp → γ → δ → Prop} {φ0 φ : List Addr} {ρ : Ev} {μ : Store} {σ σ0 : L2.St} {H0 H : Hp} {Q : δ → Hp → Prop} {m : M α} {kk : α → Store → Res γ} {Q1 : β → Hp → Prop}
    (rep : RepS G φ ρ μ σ H) (h : Post G RX W R' φ0 σ0 H0 Q (noEx ((m ρ μ).bind kk)))
    (hq : ∀ a b φ1 μ1 H1, Ext φ φ1 H H1 → RepS G φ1 ρ μ1 σ H1 → R φ1 H H1 a b → Post G RX W R' φ0 σ0 H0 Q (noEx (kk a μ1)) → Q1 b H1) : tM G RX WF R m σ H Q1 := by
  refine ⟨φ, ρ, μ, rep, ?_⟩
  cases q : m ρ μ with
  | no => rw [q] at h; exact h
  | ok a μ1 => rw [q] at h; exact fun φ' H' v x s r => hq a v φ' μ1 H' x (rep.up x s) r h
  | ex x μ1 => rw [q] at h; exact h.elim

/-- the turns of a list comprehension -/
theorem lc_turns {vs : List Nat} {tg : Tg} {x : Itm} {J : It} {φ1 : List Addr} {ρ : Ev} {μ1 : Store} {σ : L2.St} {H1 : Hp} {Q : VK} {D : Addr} {ft : Ev → Store → Res Bool} {fe : Ev → Store → Res T}
    (rep : RepS G φ1 ρ μ1 σ H1) (hJ : rI G φ1 H1 H1 x J) (hD : H1 D = none) (htg : ∀ i ∈ tgIx tg, i ∈ vs)
    (p : Post G RX W (rT G) φ1 σ H1 Q (noEx (lcLoop tg x (wipeE ρ vs) ft fe x.us μ1 []))) :
    ∃ W' : Nat → Nat → Hp → Prop, (∃ m, W' 0 m (upd H1 D (.lst []))) ∧ ∀ i m H, W' i m H →
      (J.stop i H ∧ Q (.ref D) H) ∨ (J.go i H ∧ ∃ Nx : Hp → Prop, (∀ H', Nx H' → ∃ m', m' < m ∧ W' (i + 1) m' H') ∧ ∀ v H', J.yld i H v H' → tG G tg v (L2.wipe σ vs) H' fun σ2 H2 => L2.wipe σ2 vs = L2.wipe σ vs ∧ tM G RX WF rB ft σ2 H2 fun b H3 =>
        if b = true then tM G RX WF (rT G) fe σ2 H3 fun y H4 => ∃ acc, H4 D = some (.lst acc) ∧ acc.length < sizeLine ∧ Nx (upd H4 D (.lst (acc ++ [y]))) else Nx H3) := by
  have r1 := rep.wipe vs
  have hDφ : D ∉ φ1 := rep.st.not_mem hD
  let I : Nat → Hp → Prop := fun i Hc => ∃ φ2 μ2 acc ws, Ext φ1 φ2 H1 Hc ∧ RepStore G φ2 μ2 Hc ∧ Hc D = some (.lst ws) ∧ D ∉ φ2 ∧ RVs G φ2 Hc acc ws ∧ i ≤ x.us.length ∧ Post G RX W (rT G) φ1 σ H1 Q (noEx (lcLoop tg x (wipeE ρ vs) ft fe (x.us.drop i) μ2 acc))
  refine ⟨fun i m Hc => m = x.us.length - i ∧ I i Hc, ⟨x.us.length, by simp, φ1, μ1, [], [], Ext.new hD, rep.st.new hD, upd_same, hDφ, .nil, Nat.zero_le _, p⟩, ?_⟩
  rintro i m Hc ⟨rfl, φ2, μ2, acc, ws, x2, s2, h1, h2, h3, hi, pp⟩
  by_cases hlt : i < x.us.length
  · refine .inr ?_
    have hd : x.us.drop i = x.us[i] :: x.us.drop (i + 1) := by rw [List.drop_eq_getElem_cons hlt]
    rw [hd] at pp
    simp only [lcLoop] at pp
    split at pp
    · rename_i hok
      obtain ⟨_, hj⟩ := hJ i φ2 μ2 Hc x2 s2 hok
      obtain ⟨g1, g2⟩ := hj x.us[i] (List.getElem?_eq_getElem hlt)
      refine ⟨g1, fun Hn => I (i + 1) Hn, fun H' hh => ⟨x.us.length - (i + 1), by omega, rfl, hh⟩, fun v Hy hy => ?_⟩
      obtain ⟨xy, sy, ry⟩ := g2 v Hy hy
      have x3 := x2.trans xy
      have hDy : Hy D = some (.lst ws) := xy.keep D _ h1 h2
      have ry1 : RepS G φ2 (wipeE ρ vs) μ2 (L2.wipe σ vs) Hy := by
        have := r1.up x3 sy
        exact this
      split at pp
      · exact pp.elim
      · rename_i ρ' hρ
        refine ⟨φ2, wipeE ρ vs, μ2, x.us[i], ρ', ry1, ry, hρ, fun σ2 r2 kp => ⟨?_, ?_⟩⟩
        · refine wipe_eq ?_ fun j hj => kp j fun z => hj (htg j z)
          rw [← r2.len, asgT_len hρ, wipeE_len, rep.len]
        · refine tM_bindN r2 pp fun b b' φ3 μ3 H3 x4 r3 q3 p3 => ?_
          have : b = b' := q3
          subst this
          have hD3 : H3 D = some (.lst ws) := x4.keep D _ hDy h2
          have hn3 : D ∉ φ3 := x4.notIn hDy h2
          have rv3 : RVs G φ3 H3 acc ws := sy.rvs x4 (s2.rvs xy h3)
          split
          · rename_i hb
            rw [if_pos hb] at p3
            have p3' : Post G RX W (rT G) φ1 σ H1 Q (noEx ((fe ρ' μ3).bind fun t μ4 => if acc.length < sizeLine then lcLoop tg x (wipeE ρ vs) ft fe (x.us.drop (i + 1)) (plc t μ4).2 (acc ++ [(plc t μ4).1]) else .no)) := by
              have e : ((placed (fe ρ' μ3)).bind fun y μ2 => if acc.length < sizeLine then lcLoop tg x (wipeE ρ vs) ft fe (x.us.drop (i + 1)) μ2 (acc ++ [y]) else .no) = (fe ρ' μ3).bind fun t μ4 => if acc.length < sizeLine then lcLoop tg x (wipeE ρ vs) ft fe (x.us.drop (i + 1)) (plc t μ4).2 (acc ++ [(plc t μ4).1]) else .no := by
                unfold placed; cases fe ρ' μ3 <;> rfl
              rw [← e]; exact p3
            refine tM_bindN r3 p3' fun t y φ4 μ4 H4 x5 r4 q4 p4 => ?_
            have hD4 : H4 D = some (.lst ws) := x5.keep D _ hD3 hn3
            split at p4
            · rename_i hz
              obtain ⟨φ5, x6, r5, q5⟩ := placed_ok x5 r4 q4
              have hn5 := x6.notIn hD3 hn3
              refine ⟨ws, hD4, by rw [h3.length]; exact hz, ?_⟩
              obtain ⟨s6, k6⟩ := r5.st.off (ws' := ws ++ [y]) hD4 hn5
              refine ⟨φ5, (plc t μ4).2, acc ++ [(plc t μ4).1], ws ++ [y], ((x3.trans x4).trans x6).off hD, s6, upd_same, hn5, ?_, hlt, p4⟩
              exact (RVs.up k6 (fun _ _ z => z) _ _ (r3.st.rvs x6 rv3)).append (.cons (RV.up k6 (fun _ _ z => z) _ _ q5) .nil)
            · exact p4.elim
          · rename_i hb
            rw [if_neg hb] at p3
            exact ⟨φ3, μ3, acc, ws, x3.trans x4, r3.st, hD3, hn3, rv3, hlt, p3⟩
    · exact pp.elim
  · refine .inl ?_
    have hle : x.us.length ≤ i := by omega
    rw [List.drop_eq_nil_of_le hle] at pp
    simp only [lcLoop] at pp
    split at pp
    · rename_i hok
      obtain ⟨hj, _⟩ := hJ i φ2 μ2 Hc x2 s2 hok
      exact ⟨hj (by omega), pp φ2 Hc (.ref D) x2 s2 ⟨D, ws, rfl, h1, h3, h2, hD⟩⟩
    · exact pp.elim

theorem pts_of {fs : List Expr} {ms : List VB} (h : PBs G RX WF X fs ms) : PTs X fs (tM G RX WF rB (evIfs ms)) := by
  cases fs with
  | nil =>
    cases ms with
    | nil =>
      refine ⟨fun pins s σ H Q I ⟨φ, ρ, μ, rep, p⟩ => pts_nil.run pins s σ H Q I (p φ H true Ext.refl rep.st rfl)⟩
    | cons _ _ => exact h.elim
  | cons f fs =>
    cases ms with
    | nil => exact h.elim
    | cons m ms =>
      cases fs with
      | nil =>
        cases ms with
        | nil => exact pts_one h.2.1.b
        | cons _ _ => exact h.2.2.elim
      | cons _ _ =>
        cases ms with
        | nil => exact h.2.2.elim
        | cons _ _ => exact ⟨fun pins s σ H Q I ⟨φ, ρ, μ, rep, p⟩ => p.elim⟩

/-- what tLc asks of the whole -/
theorem lc_of {vs : List Nat} {tg : Tg} {mi : M Itm} {ft : Ev → Store → Res Bool} {fe : Ev → Store → Res T} (htg : ∀ i ∈ tgIx tg, i ∈ vs) (σ : L2.St) (H : Hp) (Q : VK)
    (h : tM G RX W (rT G) (fun ρ μ => (mi ρ μ).bind fun x μ1 => noEx (lcLoop tg x (wipeE ρ vs) ft fe x.us μ1 [])) σ H Q) :
    tLc (tM G RX W (rI G) mi) (tG G tg) (tM G RX WF rB ft) (tM G RX WF (rT G) fe) vs σ H Q := by
  obtain ⟨φ, ρ, μ, rep, p⟩ := h
  refine tM_bind bas_T rep p fun x J φ1 μ1 H1 _ r1 q1 h1 D hD => ?_
  exact lc_turns r1 q1 hD htg h1
theorem r_lc (x : XOk G Γ S RX W C k X) {scope : Scope} {vs : List Nat} {elt t it : Expr} {fs : List Expr} {p : Pos} {tg : Tg} {mi : M Itm} {ms : List VB} {me : VB}
    (hb : blkC S.N S.sc scope (vs.map fun i => (S.N.getD i Str.empty, i)) = true) (hit : plainX it = true) (hi : PI X t it (tM G RX W (rI G) mi)) (ht : mT (blkS S scope) tg t = true) (htg : (tgIx tg).all (fun i => vs.contains i) = true)
    (hf : ∀ s H D cl fp, PBs G RX WF (X.blk s H scope (compEnvC scope cl D X.env) fp) fs ms) (he : ∀ s H D cl fp, PB G RX WF (X.blk s H scope (compEnvC scope cl D X.env) fp) elt me) :
    PE X (.ListComp elt [⟨t, it, fs, 0⟩] scope p) (tM G RX W (rT G) fun ρ μ => (mi ρ μ).bind fun x μ1 => noEx (lcLoop tg x (wipeE ρ vs) (evIfs ms) me.v x.us μ1 [])) := by
  have hv : (vs.map fun i => (S.N.getD i Str.empty, i)).map (·.2) = vs := by rw [List.map_map]; exact (List.map_congr_left fun _ _ => rfl).trans (List.map_id vs)
  have ok : BlkOk X.N X.env.scope scope (vs.map fun i => (S.N.getD i Str.empty, i)) := by
    rw [x.N, x.sc]; exact blkOk_by hb
  refine weakE (pe_lc (x.calm) (by rw [x.N]; exact x.nd) hi ok (fun s H D cl fp => pg_of (blk_ok x hb s H D cl fp) ht) (fun s H D cl fp => pts_of (hf s H D cl fp)) (fun s H D cl fp => (he s H D cl fp).v) (folded_of hit X.env)) fun σ H Q h => ?_
  rw [hv]
  exact lc_of (fun i hi => by simpa using List.all_eq_true.mp htg i hi) σ H Q h
end
end DP
end
section
/-! DpN: every expression is what its compact text comes to. -/
set_option linter.all false
set_option autoImplicit false
set_option maxRecDepth 100000
namespace DP
open PySem PySem.Spec PyProof.Rows L2

section
variable {G : Gb} {Γ : Gt} {RX : RXT} {C : Calls} {k : Nat}

theorem mEs_len {S : Stt} : ∀ {es : List Sx} {xs : List Expr}, mEs Γ S es xs = true → es.length = xs.length
  | [], [], _ => rfl
  | e :: es, x :: xs, h => by simp only [mEs, Bool.and_eq_true] at h; simp [mEs_len h.2]
  | [], _ :: _, h => by simp [mEs] at h
  | _ :: _, [], h => by simp [mEs] at h
theorem tE_of {X : Cx} {e : Expr} {W : XW} {m : Ev → Store → Res T} {t : TE} (h : PE X e t) (w : ∀ σ H Q, tM G RX W (rT G) m σ H Q → t σ H Q) : PE X e (tM G RX W (rT G) m) := weakE h w

mutual
theorem ex_ok : ∀ (e : Sx) {S : Stt} {W : XW} {X : Cx} {x : Expr}, XOk G Γ S RX W C k X → mE Γ S e x = true → PB G RX W X x (vb C e)
  | .var i, S, W, X, x, ok, h => by
    cases x <;> first | (simp [mE] at h; done) | skip
    simp only [mE, Bool.and_eq_true, decide_eq_true_eq] at h
    exact r_var ok h.1 h.2
  | .cst u, S, W, X, x, ok, h => by
    cases x <;> first | (cases u <;> (simp [mE] at h; done)) | skip
    rename_i c j p
    cases u with
    | non => cases c <;> first | (simp [mE] at h; done) | exact r_cst ok pe_non (fun _ _ => by rw [RV])
    | bl b =>
      cases c <;> first | (simp [mE] at h; done) | skip
      simp only [mE, beq_iff_eq] at h; subst h
      exact r_cst ok pe_bl (fun _ _ => by rw [RV])
    | int b =>
      cases c <;> first | (simp [mE] at h; done) | skip
      simp only [mE, beq_iff_eq] at h; subst h
      exact r_cst ok pe_int (fun _ _ => by rw [RV])
    | str b =>
      cases c <;> first | (simp [mE] at h; done) | skip
      simp only [mE, decide_eq_true_eq] at h; subst h
      exact r_cst ok pe_str (fun _ _ => by rw [RV])
    | _ => cases c <;> (simp [mE] at h; done)
  | .gl j u, S, W, X, x, ok, h => by
    cases x <;> first | (simp [mE] at h; done) | skip
    simp only [mE, Bool.and_eq_true, decide_eq_true_eq] at h
    exact r_gl ok h.1 h.2
  | .neg i, S, W, X, x, ok, h => by
    cases x <;> first | (simp [mE] at h; done) | skip
    rename_i op y p
    cases op <;> first | (simp [mE] at h; done) | skip
    cases y <;> first | (simp [mE] at h; done) | skip
    rename_i c j q
    cases c <;> first | (simp [mE] at h; done) | skip
    simp only [mE, beq_iff_eq] at h; subst h
    exact r_neg ok
  | .tup es, S, W, X, x, ok, h => by
    cases x <;> first | (simp [mE] at h; done) | skip
    simp only [mE] at h
    exact pb_of ok (r_tup ok (pa_of (exs_ok es ok h))) fun _ => rfl
  | .lst es, S, W, X, x, ok, h => by
    cases x <;> first | (simp [mE] at h; done) | skip
    simp only [mE] at h
    exact pb_of ok (r_lst ok (pa_of (exs_ok es ok h))) fun _ => rfl
  | .sts true es, S, W, X, x, ok, h => by
    cases x <;> first | (simp [mE] at h; done) | skip
    rename_i xs j p
    simp only [mE] at h
    exact pb_of ok (r_sts (j := j) (p := p) ok (exst_ok es ok h)).1 fun _ => rfl
  | .sts false es, S, W, X, x, ok, h => by
    cases x <;> first | (simp [mE] at h; done) | skip
    simp only [mE] at h
    exact pb_of ok (r_sts (j := 0) ok (exst_ok es ok h)).2 fun _ => rfl
  | .dsp es, S, W, X, x, ok, h => by
    cases x <;> first | (simp [mE] at h; done) | skip
    simp only [mE, Bool.and_eq_true, decide_eq_true_eq] at h
    exact pb_of ok (r_dsp ok h.2 (exd_ok es ok h.1)) fun _ => rfl
  | .bin op a b, S, W, X, x, ok, h => by
    cases x <;> first | (simp [mE] at h; done) | skip
    simp only [mE, Bool.and_eq_true, decide_eq_true_eq] at h
    obtain ⟨⟨rfl, h1⟩, h2⟩ := h
    exact pb_of ok (r_bin ok (ex_ok a ok h1).v (ex_ok b ok h2).v) fun _ => rfl
  | .cmp op a b, S, W, X, x, ok, h => by
    cases x <;> first | (simp [mE] at h; done) | skip
    rename_i l os rs p
    rcases os with _ | ⟨o, _ | ⟨o', os⟩⟩ <;> rcases rs with _ | ⟨r, _ | ⟨r', rs⟩⟩ <;> first | (simp [mE] at h; done) | skip
    simp only [mE, Bool.and_eq_true, decide_eq_true_eq] at h
    obtain ⟨⟨rfl, h1⟩, h2⟩ := h
    exact r_cmp (cmpD_ok ok op) (mE_plain h2) (ex_ok a ok h1).v (ex_ok b ok h2).v
  | .chn op op' a b c, S, W, X, x, ok, h => by
    cases x <;> first | (simp [mE] at h; done) | skip
    rename_i l os rs p
    rcases os with _ | ⟨o, _ | ⟨o', _ | ⟨o'', os⟩⟩⟩ <;> rcases rs with _ | ⟨r, _ | ⟨r', _ | ⟨r'', rs⟩⟩⟩ <;> first | (simp [mE] at h; done) | skip
    simp only [mE, Bool.and_eq_true, decide_eq_true_eq] at h
    obtain ⟨⟨⟨⟨rfl, rfl⟩, h1⟩, h2⟩, h3⟩ := h
    have hu : X.A.units + 64 < cLine := by have := ok.room.un; omega
    exact r_chn (cmpT_ok ok.K hu op) (cmpT_ok ok.K hu op') (mE_plain h3) (ex_ok a ok h1).v (ex_ok b ok h2).v (ex_ok c ok h3).v
  | .bop op e es, S, W, X, x, ok, h => by
    cases x <;> first | (simp [mE] at h; done) | skip
    rename_i o xs p
    cases xs <;> first | (simp [mE] at h; done) | skip
    simp only [mE, Bool.and_eq_true, decide_eq_true_eq] at h
    obtain ⟨⟨rfl, h1⟩, h2⟩ := h
    exact r_bop (ex_ok e ok h1) (exs_ok es ok h2)
  | .no a, S, W, X, x, ok, h => by
    cases x <;> first | (simp [mE] at h; done) | skip
    rename_i op y p
    cases op <;> first | (simp [mE] at h; done) | skip
    simp only [mE] at h
    exact r_no (ex_ok a ok h)
  | .ite c a b, S, W, X, x, ok, h => by
    cases x <;> first | (simp [mE] at h; done) | skip
    simp only [mE, Bool.and_eq_true] at h
    exact r_ite (ex_ok c ok h.1.1) (ex_ok a ok h.1.2) (ex_ok b ok h.2)
  | .ix a i, S, W, X, x, ok, h => by
    cases x <;> first | (simp [mE] at h; done) | skip
    simp only [mE, Bool.and_eq_true] at h
    exact pb_of ok (r_ix (ixD_ok ok) (mE_plain h.2) (ex_ok a ok h.1).v (ex_ok i ok h.2).v) fun _ => rfl
  | .slc a lo hi, S, W, X, x, ok, h => by
    cases x <;> first | (simp [mE] at h; done) | skip
    rename_i y z p
    cases z <;> first | (simp [mE] at h; done) | skip
    rename_i l hh st q
    cases st <;> first | (simp [mE] at h; done) | skip
    simp only [mE, Bool.and_eq_true] at h
    exact pb_of ok (r_slc ok (ex_ok a ok h.1.1).v (po_of (exo_ok lo ok h.1.2)) (po_of (exo_ok hi ok h.2))) fun _ => rfl
  | .rev a, S, W, X, x, ok, h => by
    cases x <;> first | (simp [mE] at h; done) | skip
    rename_i y z p
    cases z <;> first | (simp [mE] at h; done) | skip
    rename_i l hh st q
    cases l <;> cases hh <;> cases st <;> first | (simp [mE] at h; done) | skip
    rename_i u
    cases u <;> first | (simp [mE] at h; done) | skip
    rename_i op w r
    cases op <;> cases w <;> first | (simp [mE] at h; done) | skip
    rename_i c _ _
    cases c <;> first | (simp [mE] at h; done) | skip
    rename_i n
    by_cases hn : n = 1
    · subst hn
      simp only [mE] at h
      exact pb_of ok (r_rev ok (ex_ok a ok h).v) fun _ => rfl
    · simp [mE, hn] at h
  | .mkd a, S, W, X, x, ok, h => by
    cases x <;> first | (simp [mE] at h; done) | skip
    rename_i g xs ks p
    cases g <;> first | (simp [mE] at h; done) | skip
    rcases xs with _ | ⟨y, _ | ⟨y', ys⟩⟩ <;> cases ks <;> first | (simp [mE] at h; done) | skip
    simp only [mE, Bool.and_eq_true, decide_eq_true_eq] at h
    obtain ⟨⟨rfl, h1⟩, h2⟩ := h
    exact pb_of ok (r_mkd ok h1 (mE_plain h2) (ex_ok a ok h2).v) fun _ => rfl
  | .call f es, S, W, X, x, ok, h => by
    cases x <;> first | (simp [mE] at h; done) | skip
    rename_i g xs ks p
    cases g <;> first | (simp [mE] at h; done) | skip
    cases ks <;> first | (simp [mE] at h; done) | skip
    simp only [mE, Bool.and_eq_true, decide_eq_true_eq] at h
    exact pb_of ok (r_call ok h.1.1 h.1.2 (exs_ok es ok h.2) (back_of X.env p h.2)) fun _ => rfl
  | .calv i fs es, S, W, X, x, ok, h => by
    cases x <;> first | (simp [mE] at h; done) | skip
    rename_i g xs ks p
    cases g <;> first | (simp [mE] at h; done) | skip
    cases ks <;> first | (simp [mE] at h; done) | skip
    simp only [mE, Bool.and_eq_true, decide_eq_true_eq] at h
    obtain ⟨⟨⟨⟨h1, h2⟩, h3⟩, h4⟩, h5⟩ := h
    refine pb_of ok (r_calv ok h1 h2 (fun z => by rw [z] at h3; simp at h3) (fun f hf => ?_) (exs_ok es ok h5) (back_of X.env p h5)) fun _ => rfl
    have := List.all_eq_true.mp h4 f hf
    split at this
    · rename_i q hq
      exact ⟨q.1, by rw [hq]; simp only [beq_iff_eq] at this; rw [← this]⟩
    · cases this
  | .b1 b a, S, W, X, x, ok, h => by
    cases x <;> first | (simp [mE] at h; done) | skip
    rename_i g xs ks p
    cases g <;> first | (simp [mE] at h; done) | skip
    rcases xs with _ | ⟨y, _ | ⟨y', ys⟩⟩ <;> cases ks <;> first | (simp [mE] at h; done) | skip
    simp only [mE, Bool.and_eq_true, decide_eq_true_eq] at h
    exact pb_of ok (r_b1 ok h.1.1 h.1.2 (mE_plain h.2) (ex_ok a ok h.2).v) fun _ => rfl
  | .b2 b a c, S, W, X, x, ok, h => by
    cases x <;> first | (simp [mE] at h; done) | skip
    rename_i g xs ks p
    cases g <;> first | (simp [mE] at h; done) | skip
    rcases xs with _ | ⟨y, _ | ⟨y', _ | ⟨y'', ys⟩⟩⟩ <;> cases ks <;> first | (simp [mE] at h; done) | skip
    simp only [mE, Bool.and_eq_true, decide_eq_true_eq] at h
    exact pb_of ok (r_b2 ok h.1.1.1 h.1.1.2 (mE_plain h.1.2) (mE_plain h.2) (ex_ok a ok h.1.2).v (ex_ok c ok h.2).v) fun _ => rfl
  | .mt m o es, S, W, X, x, ok, h => by
    cases x <;> first | (simp [mE] at h; done) | skip
    rename_i g xs ks q
    cases g <;> first | (simp [mE] at h; done) | skip
    cases ks <;> first | (simp [mE] at h; done) | skip
    simp only [mE, Bool.and_eq_true, decide_eq_true_eq, Bool.not_eq_true'] at h
    obtain ⟨⟨⟨⟨⟨rfl, h1⟩, h2⟩, h3⟩, h4⟩, h5⟩ := h
    exact pb_of ok (r_mt ok (ex_ok o ok h4).v (exs_ok es ok h5) h1 h2 (stars_of X.env h5).1 h3) fun _ => rfl
  | .mt1 m o a, S, W, X, x, ok, h => by
    cases x <;> first | (simp [mE] at h; done) | skip
    rename_i g xs ks q
    cases g <;> first | (simp [mE] at h; done) | skip
    rcases xs with _ | ⟨y, _ | ⟨y', ys⟩⟩ <;> cases ks <;> first | (simp [mE] at h; done) | skip
    simp only [mE, Bool.and_eq_true, decide_eq_true_eq, Bool.not_eq_true'] at h
    obtain ⟨⟨⟨⟨rfl, h1⟩, h2⟩, h3⟩, h4⟩ := h
    exact pb_of ok (r_mt1 ok (ex_ok o ok h3).v (mE_plain h4) (ex_ok a ok h4).v h1 h2) fun _ => rfl
  | .lc vs elt tg it ifs, S, W, X, x, ok, h => by
    cases x <;> first | (simp [mE] at h; done) | skip
    rename_i y gs scope p
    rcases gs with _ | ⟨⟨t, i, fs, n⟩, _ | ⟨g', gs⟩⟩ <;> first | (simp [mE] at h; done) | skip
    by_cases hn : n = 0
    rotate_left
    · simp [mE, hn] at h
    subst hn
    simp only [mE, Bool.and_eq_true] at h
    obtain ⟨⟨⟨⟨⟨⟨hb, h1⟩, h2⟩, h3⟩, h4⟩, h5⟩, h6⟩ := h
    obtain ⟨g1, g2⟩ := it_ok it ok h1 h2
    exact pb_of ok (r_lc ok hb g1 g2 h3 h4 (fun s H D cl fp => exs_ok ifs (blk_ok ok hb s H D cl fp) h5) (fun s H D cl fp => ex_ok elt (blk_ok ok hb s H D cl fp) h6)) fun _ => rfl
theorem exs_ok : ∀ (es : List Sx) {S : Stt} {W : XW} {X : Cx} {xs : List Expr}, XOk G Γ S RX W C k X → mEs Γ S es xs = true → PBs G RX W X xs (vbs C es)
  | [], S, W, X, [], ok, h => trivial
  | e :: es, S, W, X, x :: xs, ok, h => by
    simp only [mEs, Bool.and_eq_true] at h
    exact ⟨mE_plain h.1, ex_ok e ok h.1, exs_ok es ok h.2⟩
  | [], _, _, _, _ :: _, _, h => by simp [mEs] at h
  | _ :: _, _, _, _, [], _, h => by simp [mEs] at h
theorem exd_ok : ∀ (es : List (Sx × Sx)) {S : Stt} {W : XW} {X : Cx} {xs : List (Option Expr)} {ys : List Expr}, XOk G Γ S RX W C k X → mEd Γ S es xs ys = true → PEd G RX W X xs ys (vbd C es)
  | [], S, W, X, [], [], ok, h => trivial
  | (a, b) :: es, S, W, X, some x :: xs, y :: ys, ok, h => by
    simp only [mEd, Bool.and_eq_true] at h
    exact ⟨(ex_ok a ok h.1.1).v, (ex_ok b ok h.1.2).v, exd_ok es ok h.2⟩
  | [], _, _, _, _ :: _, _, _, h => by simp [mEd] at h
  | [], _, _, _, [], _ :: _, _, h => by simp [mEd] at h
  | (_, _) :: _, _, _, _, [], _, _, h => by simp [mEd] at h
  | (_, _) :: _, _, _, _, none :: _, _, _, h => by simp [mEd] at h
  | (_, _) :: _, _, _, _, some _ :: _, [], _, h => by simp [mEd] at h
theorem exst_ok : ∀ (es : List (Bool × Sx)) {S : Stt} {W : XW} {X : Cx} {xs : List Expr}, XOk G Γ S RX W C k X → mEst Γ S es xs = true → PBst G RX W X xs (vbst C es)
  | [], S, W, X, [], ok, h => trivial
  | (false, e) :: es, S, W, X, x :: xs, ok, h => by
    simp only [mEst, Bool.and_eq_true] at h
    exact ⟨⟨mE_plain h.1, ex_ok e ok h.1⟩, exst_ok es ok h.2⟩
  | (true, e) :: es, S, W, X, x :: xs, ok, h => by
    simp only [mEst, Bool.and_eq_true] at h
    obtain ⟨h1, h2⟩ := h
    cases x <;> first | (simp at h1; done) | skip
    exact ⟨ex_ok e ok h1, exst_ok es ok h2⟩
  | [], _, _, _, _ :: _, _, h => by simp [mEst] at h
  | (_, _) :: _, _, _, _, [], _, h => by simp [mEst] at h
theorem exo_ok : ∀ (o : Option Sx) {S : Stt} {W : XW} {X : Cx} {x : Option Expr}, XOk G Γ S RX W C k X → mEo Γ S o x = true → (match x, vbo C o with | none, none => True | some e, some m => PE X e (tM G RX W (rT G) m.v) | _, _ => False)
  | none, S, W, X, none, ok, h => trivial
  | some e, S, W, X, some x, ok, h => (ex_ok e ok (by simpa [mEo] using h)).v
  | none, _, _, _, some _, _, h => by simp [mEo] at h
  | some _, _, _, _, none, _, h => by simp [mEo] at h
theorem it_ok : ∀ (it : It') {S : Stt} {W : XW} {X : Cx} {x t : Expr}, XOk G Γ S RX W C k X → mI Γ S it x = true → tgIt it t = true → plainX x = true ∧ PI X t x (tM G RX W (rI G) (evI C it))
  | .pl e, S, W, X, x, t, ok, h, ht => by
    simp only [mI] at h
    exact ⟨mE_plain h, r_pl ok (ex_ok e ok h).v⟩
  | .rg1 e, S, W, X, x, t, ok, h, ht => by
    cases x <;> first | (simp [mI] at h; done) | skip
    rename_i g xs ks p
    cases g <;> first | (simp [mI] at h; done) | skip
    rcases xs with _ | ⟨y, _ | ⟨y', ys⟩⟩ <;> cases ks <;> first | (simp [mI] at h; done) | skip
    simp only [mI, Bool.and_eq_true, decide_eq_true_eq] at h
    obtain ⟨⟨rfl, h1⟩, h2⟩ := h
    exact ⟨rfl, r_rg1 ok h1 (mE_plain h2) (ex_ok e ok h2).v⟩
  | .rg2 e f, S, W, X, x, t, ok, h, ht => by
    cases x <;> first | (simp [mI] at h; done) | skip
    rename_i g xs ks p
    cases g <;> first | (simp [mI] at h; done) | skip
    rcases xs with _ | ⟨y, _ | ⟨y', _ | ⟨y'', ys⟩⟩⟩ <;> cases ks <;> first | (simp [mI] at h; done) | skip
    simp only [mI, Bool.and_eq_true, decide_eq_true_eq] at h
    obtain ⟨⟨⟨rfl, h1⟩, h2⟩, h3⟩ := h
    exact ⟨rfl, r_rg2 ok h1 (mE_plain h2) (mE_plain h3) (ex_ok e ok h2).v (ex_ok f ok h3).v⟩
  | .enm e, S, W, X, x, t, ok, h, ht => by
    cases t <;> first | (simp [tgIt, isTupE] at ht; done) | skip
    cases x <;> first | (simp [mI] at h; done) | skip
    rename_i g xs ks p
    cases g <;> first | (simp [mI] at h; done) | skip
    rcases xs with _ | ⟨y, _ | ⟨y', ys⟩⟩ <;> cases ks <;> first | (simp [mI] at h; done) | skip
    simp only [mI, Bool.and_eq_true, decide_eq_true_eq] at h
    obtain ⟨⟨rfl, h1⟩, h2⟩ := h
    exact ⟨rfl, r_enm ok h1 (mE_plain h2) (ex_ok e ok h2).v⟩
  | .zp e f, S, W, X, x, t, ok, h, ht => by
    cases t <;> first | (simp [tgIt, isTupE] at ht; done) | skip
    cases x <;> first | (simp [mI] at h; done) | skip
    rename_i g xs ks p
    cases g <;> first | (simp [mI] at h; done) | skip
    rcases xs with _ | ⟨y, _ | ⟨y', _ | ⟨y'', ys⟩⟩⟩ <;> cases ks <;> first | (simp [mI] at h; done) | skip
    simp only [mI, Bool.and_eq_true, decide_eq_true_eq] at h
    obtain ⟨⟨⟨rfl, h1⟩, h2⟩, h3⟩ := h
    exact ⟨rfl, r_zp ok h1 (mE_plain h2) (mE_plain h3) (ex_ok e ok h2).v (ex_ok f ok h3).v⟩
end
end
end DP
end
section
/-! DpO: every statement is what its compact text comes to. -/
set_option linter.all false
set_option autoImplicit false
set_option maxRecDepth 100000
namespace DP
open PySem PySem.Spec PyProof.Rows L2

section
variable {G : Gb} {Γ : Gt} {RX : RXT} {C : Calls} {k : Nat} {S : Stt} {W : XW} {X : Cx}

theorem weakS {st : Stmt} {t t' : TS} (h : PS X st t) (w : ∀ D σ H, t' D σ H → t D σ H) : PS X st t' := ⟨fun pins s σ H D I q => h.run pins s σ H D I (w D σ H q)⟩
theorem weakSs {st : List Stmt} {t t' : TS} (h : PSs X st t) (w : ∀ D σ H, t' D σ H → t D σ H) : PSs X st t' := ⟨fun pins s σ H D I q => h.run pins s σ H D I (w D σ H q)⟩

/-- what a body is to reach: the rest -/
def Nx (G : Gb) (RX : RXT) (W : XW) (φ : List Addr) (H : Hp) (D : Ends) (f : Ev → Store → Res Fl) : L2.St → Hp → Prop := fun σ' H' => ∃ φ' ρ' μ', Ext φ φ' H H' ∧ RepS G φ' ρ' μ' σ' H' ∧ PostS G RX W φ' H' D (f ρ' μ')
theorem lap_ok {φ : List Addr} {H : Hp} {D : Ends} {f : Ev → Store → Res Fl} : ∀ {r : Res Fl}, PostS G RX W φ H D (lapE r f) → PostS G RX W φ H { D with nx := Nx G RX W φ H D f, ct := Nx G RX W φ H D f, bk := D.nx } r
  | .no, h => h
  | .ex _ _, h => h
  | .ok (.nx ρ) μ, h => fun φ' σ' H' x r => ⟨φ', ρ, μ, x, r, PostS.shift x h⟩
  | .ok (.ct ρ) μ, h => fun φ' σ' H' x r => ⟨φ', ρ, μ, x, r, PostS.shift x h⟩
  | .ok (.bk ρ) μ, h => h
  | .ok (.rt u) μ, h => h
  | .ok (.xx z ρ) μ, h => h
theorem seq_ok {φ : List Addr} {H : Hp} {D : Ends} {f : Ev → Store → Res Fl} : ∀ {r : Res Fl}, PostS G RX W φ H D (seqE r f) → PostS G RX W φ H { D with nx := Nx G RX W φ H D f } r
  | .no, h => h
  | .ex _ _, h => h
  | .ok (.nx ρ) μ, h => fun φ' σ' H' x r => ⟨φ', ρ, μ, x, r, PostS.shift x h⟩
  | .ok (.ct ρ) μ, h => h
  | .ok (.bk ρ) μ, h => h
  | .ok (.rt u) μ, h => h
  | .ok (.xx z ρ) μ, h => h

theorem s_seq {st : Stmt} {rest : List Stmt} {m : M Fl} {f : M Fl} (h1 : PS X st (tSs G RX W m)) (h2 : PSs X rest (tSs G RX W f)) : PSs X (st :: rest) (tSs G RX W fun ρ μ => seqE (m ρ μ) f) := by
  refine weakSs (pss_cons h1 h2) fun D σ H ⟨φ, ρ, μ, rep, p⟩ => ⟨φ, ρ, μ, rep, ?_⟩
  have := seq_ok p
  cases q : m ρ μ with
  | no => rw [q] at this; exact this
  | ex _ _ => rw [q] at this; exact this
  | ok a μ1 =>
    rw [q] at this
    cases a with
    | nx ρ1 => exact fun φ' σ' H' x r => let ⟨φ2, ρ2, μ2, _, r2, p2⟩ := this φ' σ' H' x r; ⟨φ2, ρ2, μ2, r2, p2⟩
    | _ => exact this
theorem s_nil : PSs X [] (tSs G RX W fun ρ μ => .ok (.nx ρ) μ) := weakSs pss_nil fun D σ H ⟨φ, ρ, μ, rep, p⟩ => p φ σ H Ext.refl rep

/-- a while -/
theorem s_whl (x : XOk G Γ S RX W C k X) {c : Expr} {body : List Stmt} {mc : M Bool} {mb : M Fl} {p : Pos} (hc : PT X c (tM G RX W rB mc)) (hb : PSs X body (tSs G RX W mb)) : PS X (.While c body [] p) (tSs G RX W (whl mc mb)) := by
  refine weakS (ps_while x.pass hc hb) fun D σ H ⟨φ, ρ, μ, rep, pp⟩ => ?_
  refine ⟨fun m σ H => ∃ φ ρ μ, RepS G φ ρ μ σ H ∧ PostS G RX W φ H D (whlL mc mb m ρ μ), ?_, ?_⟩
  · exact ⟨whlN, φ, ρ, μ, rep, pp⟩
  · rintro m σ H ⟨φ, ρ, μ, rep, pp⟩
    cases m with
    | zero => exact pp.elim
    | succ n =>
      simp only [whlL] at pp
      refine tM_bindS rep pp fun b b' φ1 μ1 H1 x1 r1 q1 h1 => ?_
      have : b = b' := q1
      subst this
      cases b with
      | false => exact h1 φ1 σ H1 Ext.refl r1
      | true =>
        refine ⟨Nx G RX W φ1 H1 D (whlL mc mb n), fun σ' H' ⟨φ', ρ', μ', _, r', p'⟩ => ⟨n, Nat.lt_succ_self n, φ', ρ', μ', r', p'⟩, ?_⟩
        exact ⟨φ1, ρ, μ1, r1, lap_ok h1⟩

/-- a for -/
theorem s_for (x : XOk G Γ S RX W C k X) {t it : Expr} {body : List Stmt} {tg : Tg} {mi : M Itm} {mb : M Fl} {p : Pos} (hit : plainX it = true) (hi : PI X t it (tM G RX W (rI G) mi)) (hg : PG X t (tG G tg)) (hb : PSs X body (tSs G RX W mb)) :
    PS X (.For t it body [] p) (tSs G RX W fun ρ μ => (mi ρ μ).bindS ρ fun x μ1 => forL tg x mb x.us ρ μ1) := by
  refine weakS (ps_for x.pass x.calm hi hg hb (folded_of hit X.env)) fun D σ H ⟨φ, ρ, μ, rep, pp⟩ => ?_
  refine tM_bindS rep pp fun y J φ1 μ1 H1 x1 r1 hJ h1 => ?_
  refine ⟨fun i m σ Hc => m = y.us.length - i ∧ i ≤ y.us.length ∧ ∃ φ2 ρ2 μ2, Ext φ1 φ2 H1 Hc ∧ RepS G φ2 ρ2 μ2 σ Hc ∧ PostS G RX W φ2 Hc D (forL tg y mb (y.us.drop i) ρ2 μ2), ⟨y.us.length, by simp, Nat.zero_le _, φ1, ρ, μ1, Ext.refl, r1, h1⟩, ?_⟩
  rintro i m σ Hc ⟨rfl, hi, φ2, ρ2, μ2, x2, r2, pp⟩
  by_cases hlt : i < y.us.length
  · refine .inr ?_
    rw [List.drop_eq_getElem_cons hlt] at pp
    simp only [forL] at pp
    split at pp
    · rename_i hok
      obtain ⟨_, hj⟩ := hJ i φ2 μ2 Hc x2 r2.st hok
      obtain ⟨g1, g2⟩ := hj y.us[i] (List.getElem?_eq_getElem hlt)
      refine ⟨g1, fun σ' H' => ∃ φ3 ρ3 μ3, Ext φ1 φ3 H1 H' ∧ RepS G φ3 ρ3 μ3 σ' H' ∧ PostS G RX W φ3 H' D (forL tg y mb (y.us.drop (i + 1)) ρ3 μ3), fun σ' H' hh => ⟨y.us.length - (i + 1), by omega, rfl, hlt, hh⟩, fun v Hy hy => ?_⟩
      obtain ⟨xy, sy, ry⟩ := g2 v Hy hy
      split at pp
      · exact pp.elim
      · rename_i ρ' hρ
        refine ⟨φ2, ρ2, μ2, y.us[i], ρ', r2.up xy sy, ry, hρ, fun σ2 r3 _ => ⟨φ2, ρ', μ2, r3, ?_⟩⟩
        have := lap_ok (PostS.shift xy pp)
        cases q : mb ρ' μ2 with
        | no => rw [q] at this; exact this
        | ex _ _ => rw [q] at this; exact this
        | ok a μ3 =>
          rw [q] at this
          cases a with
          | nx ρ3 => exact fun φ' σ' H' xx r => let ⟨φ4, ρ4, μ4, x4, r4, p4⟩ := this φ' σ' H' xx r; ⟨φ4, ρ4, μ4, (x2.trans xy).trans x4, r4, p4⟩
          | ct ρ3 => exact fun φ' σ' H' xx r => let ⟨φ4, ρ4, μ4, x4, r4, p4⟩ := this φ' σ' H' xx r; ⟨φ4, ρ4, μ4, (x2.trans xy).trans x4, r4, p4⟩
          | _ => exact this
    · exact pp.elim
  · refine .inl ?_
    have hle : y.us.length ≤ i := by omega
    rw [List.drop_eq_nil_of_le hle] at pp
    simp only [forL] at pp
    split at pp
    · rename_i hok
      obtain ⟨hj, _⟩ := hJ i φ2 μ2 Hc x2 r2.st hok
      exact ⟨hj (by omega), pp φ2 σ Hc Ext.refl r2⟩
    · exact pp.elim
theorem s_if {c : Expr} {a b : List Stmt} {mc : M Bool} {ma mb : M Fl} {p : Pos} (hc : PT X c (tM G RX W rB mc)) (ha : PSs X a (tSs G RX W ma)) (hb : PSs X b (tSs G RX W mb)) :
    PS X (.If c a b p) (tSs G RX W fun ρ μ => (mc ρ μ).bindS ρ fun t μ1 => if t then ma ρ μ1 else mb ρ μ1) := by
  refine weakS (ps_if hc ha hb) fun D σ H ⟨φ, ρ, μ, rep, pp⟩ => ?_
  refine tM_bindS rep pp fun b b' φ1 μ1 H1 x1 r1 q1 h1 => ?_
  have : b = b' := q1
  subst this
  cases b with
  | true => exact ⟨φ1, ρ, μ1, r1, h1⟩
  | false => exact ⟨φ1, ρ, μ1, r1, h1⟩
theorem tM_placedS {φ : List Addr} {ρ : Ev} {μ : Store} {σ : L2.St} {H : Hp} {D : Ends} {m : M T} {kk : U → Store → Res Fl} {Q1 : VK} (rep : RepS G φ ρ μ σ H) (h : PostS G RX W φ H D ((placed (m ρ μ)).bindS ρ kk))
    (hq : ∀ u v φ1 μ1 H1, Ext φ φ1 H H1 → RepS G φ1 ρ μ1 σ H1 → RV G φ1 H1 u v → PostS G RX W φ1 H1 D (kk u μ1) → Q1 v H1) : tM G RX W (rT G) m σ H Q1 := by
  have e : ((placed (m ρ μ)).bindS ρ kk) = (m ρ μ).bindS ρ fun t μ1 => kk (plc t μ1).1 (plc t μ1).2 := by
    unfold placed; cases m ρ μ <;> rfl
  rw [e] at h
  refine ⟨φ, ρ, μ, rep, ?_⟩
  cases q : m ρ μ with
  | no => rw [q] at h; exact h
  | ex x μ1 => rw [q] at h; exact fun φ' H' c d e s r => h φ' σ H' c d e (rep.up e s) r
  | ok t μ1 =>
    rw [q] at h
    intro φ' H' v x s r
    obtain ⟨φ2, x2, r2, q2⟩ := placed_ok x (rep.up x s) r
    exact hq _ v φ2 _ H' x2 r2 q2 (PostS.shift x2 h)
theorem s_ret {e : Expr} {m : M T} {p : Pos} (he : PE X e (tM G RX W (rT G) m)) : PS X (.Return (some e) p) (tSs G RX W fun ρ μ => (placed (m ρ μ)).bindS ρ fun u μ1 => .ok (.rt u) μ1) := by
  refine weakS (ps_ret he) fun D σ H ⟨φ, ρ, μ, rep, pp⟩ => ?_
  exact tM_placedS rep pp fun u v φ1 μ1 H1 x1 r1 q1 h1 => h1 φ1 v H1 Ext.refl r1.st q1
theorem s_asg {e t : Expr} {m : M T} {tg : Tg} {p : Pos} (he : PE X e (tM G RX W (rT G) m)) (hg : PG X t (tG G tg)) (hs : swapsWithSole [t] e p.line X.env = pure false) (hw : swappedStores [t] e X.env = pure none)
    (h1 : (assignEach [t] X.env).map (·.2) = [assign t X.env]) : PS X (.Assign [t] e p) (tSs G RX W fun ρ μ => (m ρ μ).bindS ρ fun t μ1 => toPlc tg t ρ μ1) := by
  refine weakS (ps_asg he hg hs hw h1) fun D σ H ⟨φ, ρ, μ, rep, pp⟩ => ?_
  have e : ((m ρ μ).bindS ρ fun t μ1 => toPlc tg t ρ μ1) = (placed (m ρ μ)).bindS ρ fun u μ1 => match asgT tg u μ1 ρ with | some ρ' => .ok (.nx ρ') μ1 | none => .no := by
    unfold placed; cases m ρ μ <;> rfl
  dsimp only at pp
  rw [e] at pp
  refine tM_placedS rep pp fun u v φ1 μ1 H1 x1 r1 q1 h2 => ?_
  split at h2
  · rename_i ρ' hρ
    exact ⟨φ1, ρ, μ1, u, ρ', r1, q1, hρ, fun σ' r' _ => h2 φ1 σ' H1 Ext.refl r'⟩
  · exact h2.elim

/-- name = [..] on one line -/
theorem s_setLc (x : XOk G Γ S RX W C k X) {i : Nat} {y : Str} {py : Pos} {scope : Scope} {vs : List Nat} {elt t it : Expr} {fs : List Expr} {p q : Pos} {tg : Tg} {mi : M Itm} {ms : List VB} {me : VB}
    (hy : S.N[i]? = some y) (hyl : S.sc.names.lookup y = some .local) (hsw : swapsWith (.ListComp elt [⟨t, it, fs, 0⟩] scope p) (some (.Name y py)) q.line X.env = pure true)
    (hb : blkC S.N S.sc scope (vs.map fun i => (S.N.getD i Str.empty, i)) = true) (hit : plainX it = true) (hi : PI X t it (tM G RX W (rI G) mi)) (ht : mT (blkS S scope) tg t = true) (htg : (tgIx tg).all (fun i => vs.contains i) = true)
    (hf : ∀ s H D cl fp, PBs G RX WF (X.blk s H scope (compEnvC scope cl D X.env) fp) fs ms) (he : ∀ s H D cl fp, PB G RX WF (X.blk s H scope (compEnvC scope cl D X.env) fp) elt me) :
    PS X (.Assign [.Name y py] (.ListComp elt [⟨t, it, fs, 0⟩] scope p) q) (tSs G RX W fun ρ μ => ((mi ρ μ).bind fun x μ1 => noEx (lcLoop tg x (wipeE ρ vs) (evIfs ms) me.v x.us μ1 [])).bindS ρ fun t μ1 => toPlc (.nm i) t ρ μ1) := by
  have hv : (vs.map fun i => (S.N.getD i Str.empty, i)).map (·.2) = vs := by rw [List.map_map]; exact (List.map_congr_left fun _ _ => rfl).trans (List.map_id vs)
  have ok : BlkOk X.N X.env.scope scope (vs.map fun i => (S.N.getD i Str.empty, i)) := by
    rw [x.N, x.sc]; exact blkOk_by hb
  refine weakS (ps_setLc x.calm (by rw [x.N]; exact x.nd) (by rw [x.N]; exact hy) (by rw [x.sc]; exact hyl) hsw hi ok (fun s H D cl fp => pg_of (blk_ok x hb s H D cl fp) ht) (fun s H D cl fp => pts_of (hf s H D cl fp)) (fun s H D cl fp => (he s H D cl fp).v) (folded_of hit X.env)) fun D σ H ⟨φ, ρ, μ, rep, pp⟩ => ?_
  rw [hv]
  refine lc_of (fun i hi => by simpa using List.all_eq_true.mp htg i hi) σ H _ ?_
  have e : ∀ r : Res T, (r.bindS ρ fun t μ1 => toPlc (.nm i) t ρ μ1) = (placed r).bindS ρ fun u μ1 => if i < ρ.length then .ok (.nx (ρ.set i (some u))) μ1 else .no := by
    intro r
    unfold placed; cases r with
    | ok a μ =>
      show toPlc (.nm i) a ρ μ = _
      simp only [toPlc, asgT, Res.bind, Res.bindS]
      split <;> rename_i h <;> split at h <;> simp_all
    | _ => rfl
  dsimp only at pp
  rw [e] at pp
  refine tM_placedS rep pp fun u v φ1 μ1 H1 x1 r1 q1 h2 => ?_
  split at h2
  · exact h2 φ1 _ H1 Ext.refl (r1.set q1)
  · exact h2.elim
theorem s_expr {e : Expr} {m : M T} {p : Pos} (he : PE X e (tM G RX W (rT G) m)) (hs : swapsWith e none p.line X.env = pure false) : PS X (.Expr e p) (tSs G RX W fun ρ μ => (m ρ μ).bindS ρ fun _ μ1 => .ok (.nx ρ) μ1) := by
  refine weakS (ps_expr he hs) fun D σ H ⟨φ, ρ, μ, rep, pp⟩ => ?_
  exact tM_bindS rep pp fun t v φ1 μ1 H1 x1 r1 q1 h1 => h1 φ1 σ H1 Ext.refl r1
/-- what is stored at a place -/
def rSetU (G : Gb) : TSet := fun o i v H Q => ∃ φ μ H0 t1 t2 u μ', RepStore G φ μ H ∧ RT G φ H0 H t1 o ∧ RT G φ H0 H t2 i ∧ RV G φ H u v ∧ asxT t1 t2 u μ = some μ' ∧ ∀ H', Ext φ φ H H' → RepStore G φ μ' H' → Q H'
theorem set_okU (x : XOk G Γ S RX W C k X) : PSet X (rSetU G) := by
  intro pins s σ H o i v ov iv u Q I ro ri rv ⟨φ, μ, H0, t1, t2, w, μ', st, q1, q2, q3, e, h⟩
  unfold asxT at e
  split at e
  · rename_i n key
    split at e
    · rename_i xs hx
      obtain ⟨a, ha, ws, h1, h2⟩ := st.get hx
      simp only [RT, RV] at q1
      obtain ⟨b, rfl, hb⟩ := q1
      rw [ha] at hb; cases hb
      split at e
      · rename_i j
        simp only [RT, RV] at q2
        cases hm : ixN xs.length j with
        | none => rw [hm] at e; cases e
        | some m =>
          rw [hm] at e; cases e
          have xx : Ext φ φ H (upd H a (.lst (ws.set m v))) := Ext.write (List.mem_of_getElem? ha)
          exact set_list pins s σ H _ i v ov iv u Q I ro ri rv ⟨a, ws, j, m, rfl, q2, h1, by rw [h2.length]; exact hm, h _ xx (st.write ha ⟨ws.set m v, upd_same, (st.rvs xx h2).set (st.rv xx q3) m⟩)⟩
      · cases e
    · rename_i kvs hx
      obtain ⟨a, ha, rc⟩ := st.get hx
      simp only [RT, RV] at q1
      obtain ⟨b, rfl, hb⟩ := q1
      rw [ha] at hb; cases hb
      split at e
      · rename_i hk
        cases e
        simp only [RT] at q2
        exact d_set x pins s σ H _ i v ov iv u Q I ro ri rv ⟨a, φ, kvs, key, w, rfl, List.mem_of_getElem? ha, rc, q2, q3, hk.1, hk.2, fun es' rc' => h _ (Ext.write (List.mem_of_getElem? ha)) (st.write ha rc')⟩
      · cases e
    · cases e
  · cases e
theorem s_asx (x : XOk G Γ S RX W C k X) {a i e : Expr} {ma mi me : M T} {p q : Pos} (ha : PE X a (tM G RX W (rT G) ma)) (pi : plainX i = true) (hi : PE X i (tM G RX W (rT G) mi)) (he : PE X e (tM G RX W (rT G) me)) (hs : swapsWithSole [.Subscript a i p] e q.line X.env = pure false) (hw : swappedStores [.Subscript a i p] e X.env = pure none) :
    PS X (.Assign [.Subscript a i p] e q) (tSs G RX W fun ρ μ => (placed (me ρ μ)).bindS ρ fun u μ1 => (ma ρ μ1).bindS ρ fun x μ2 => (mi ρ μ2).bindS ρ fun y μ3 => match asxT x y u μ3 with
    | some μ4 => .ok (.nx ρ) μ4
    | none => .no) := by
  have hg : PG X (.Subscript a i p) (gSub (tM G RX W (rT G) ma) (tM G RX W (rT G) mi) (rSetU G)) := pg_sub ha hi (set_okU x) (by cases i <;> first | (intro _; rfl) | (simp [plainX] at pi))
  refine weakS (ps_asg he hg hs hw) fun D σ H ⟨φ, ρ, μ, rep, pp⟩ => ?_
  refine tM_placedS rep pp fun u v φ1 μ1 H1 x1 r1 q1 h1 => ?_
  refine tM_bindS r1 h1 fun t1 o φ2 μ2 H2 x2 r2 q2 h2 => ?_
  refine tM_bindS r2 h2 fun t2 j φ3 μ3 H3 x3 r3 q3 h3 => ?_
  split at h3
  · rename_i μ4 hm
    exact ⟨φ3, μ3, H1, t1, t2, u, μ4, r3.st, r2.st.rt x3 q2, RT.base x2.dom q3, r2.st.rv x3 (r1.st.rv x2 q1), hm, fun H' xx s' => h3 φ3 σ H' xx (r3.up xx s')⟩
  · exact h3.elim
/-- x op= e -/
def rIp (G : Gb) (op : Operator) : TIp := fun x y H Q => ∃ φ μ H0 t1 t2 u, RepStore G φ μ H ∧ RT G φ H0 H t1 x ∧ RT G φ H0 H t2 y ∧ ipT op t1 t2 μ = some (.u u) ∧ ∀ v, RV G φ H u v → Q v H
theorem ip_ok (op : Operator) : PIp X op (rIp G op) := by
  intro pins s σ H x y v u Q I rx ry ⟨φ, μ, H0, t1, t2, w, st, q1, q2, e, h⟩
  unfold ipT at e
  split at e
  · cases e
    simp only [RT, RV] at q1 q2
    exact ip_add pins s σ H x y v u Q I rx ry ⟨_, _, q1, q2, h _ (by simp only [RV])⟩
  · cases e
    simp only [RT, RV] at q1 q2
    exact ip_sub pins s σ H x y v u Q I rx ry ⟨_, _, q1, q2, h _ (by simp only [RV])⟩
  · cases e
theorem s_aug (x : XOk G Γ S RX W C k X) {i : Nat} {n : Str} {op : Operator} {e : Expr} {m : M T} {p q : Pos} (hi : S.N[i]? = some n) (hl : stB S n = true) (he : PE X e (tM G RX W (rT G) m)) :
    PS X (.AugAssign (.Name n p) op e q) (tSs G RX W fun ρ μ => match ρ[i]? with
    | some (some x) => (m ρ μ).bindS ρ fun y μ1 => match ipT op (.u x) y μ1 with
      | some t => match t with
        | .u z => .ok (.nx (ρ.set i (some z))) μ1
        | _ => .no
      | none => .no
    | _ => .no) := by
  have hl : Loc X.env.scope n ∧ (X.fn n = true ∨ X.env.scope.names.lookup n = some .local) := by
    unfold stB at hl
    rw [x.sc]
    split at hl
    · rename_i e; exact ⟨.inl e, .inr e⟩
    · rename_i e; exact ⟨.inr e, .inl (x.st n hl)⟩
    · cases hl
  refine weakS (ps_aug (by rw [x.N]; exact x.nd) (by rw [x.N]; exact hi) hl.1 he (ip_ok (G := G) op) hl.2) fun D σ H ⟨φ, ρ, μ, rep, pp⟩ => ?_
  dsimp only at pp
  split at pp
  · rename_i w hw
    obtain ⟨v, e1, e2⟩ := rep.env i w hw
    refine ⟨v, e1, tM_bindS rep pp fun t y φ1 μ1 H1 x1 r1 q1 h1 => ?_⟩
    split at h1
    · rename_i t' ht
      split at h1
      · rename_i z
        exact ⟨φ1, μ1, H, .u w, t, z, r1.st, rep.st.rv x1 e2, q1, ht, fun v' rv => h1 φ1 _ H1 Ext.refl (r1.set rv)⟩
      · exact h1.elim
    · exact h1.elim
  · exact pp.elim
theorem s_par2 (x : XOk G Γ S RX W C k X) {i j : Nat} {a b : Str} {es : List Expr} {ms : List VB} {pa pb pt p2 q : Pos} {k1 k2 : Nat} (hi : S.N[i]? = some a) (hj : S.N[j]? = some b) (hij : i ≠ j) (la : S.sc.names.lookup a = some .local) (lb : S.sc.names.lookup b = some .local)
    (hw : swappedStores [.Tuple [.Name a pa, .Name b pb] k1 pt] (.Tuple es k2 p2) X.env = pure (some [a, b])) (hl : es.length = 2) (h : PBs G RX W X es ms) :
    PS X (.Assign [.Tuple [.Name a pa, .Name b pb] k1 pt] (.Tuple es k2 p2) q) (tSs G RX W fun ρ μ => (evs ms ρ μ).bindS ρ fun us μ1 => match setAll [i, j] us ρ with
    | some ρ' => .ok (.nx ρ') μ1
    | none => .no) := by
  rcases es with _ | ⟨e1, _ | ⟨e2, _ | ⟨e3, es⟩⟩⟩ <;> first | (simp at hl; done) | skip
  refine weakS (ps_par x.calm (by rw [x.N]; exact x.nd) (by rw [x.N]; exact hi) (by rw [x.N]; exact hj) hij (by rw [x.sc]; exact la) (by rw [x.sc]; exact lb) (pa_of h) hw) fun D σ H ⟨φ, ρ, μ, rep, pp⟩ => ?_
  refine tM_bindS rep pp fun us vs φ1 μ1 H1 x1 r1 q1 h1 => ?_
  rcases us with _ | ⟨u1, _ | ⟨u2, _ | ⟨u3, us⟩⟩⟩
  · exact h1.elim
  · simp only [setAll] at h1; split at h1 <;> first | exact h1.elim | skip
    rename_i h; split at h <;> cases h
  · obtain ⟨v1, r', rfl, g1, g2⟩ := RVs.cons_inv q1
    obtain ⟨v2, r'', rfl, g3, g4⟩ := RVs.cons_inv g2
    rw [g4.nil_inv]
    refine ⟨v1, v2, rfl, ?_⟩
    simp only [setAll] at h1
    split at h1
    · rename_i ρ' hh
      split at hh
      · split at hh
        · cases hh
          exact h1 φ1 _ H1 Ext.refl ((r1.set g1).set g3)
        · cases hh
      · cases hh
    · exact h1.elim
  · simp only [setAll] at h1; split at h1 <;> first | exact h1.elim | skip
    rename_i h; split at h <;> first | (cases h; done) | skip
    split at h <;> cases h
theorem s_par3 (x : XOk G Γ S RX W C k X) {i j l : Nat} {a b c : Str} {es : List Expr} {ms : List VB} {pa pb pc pt p2 q : Pos} {k1 k2 : Nat} (hi : S.N[i]? = some a) (hj : S.N[j]? = some b) (hll : S.N[l]? = some c) (hij : i ≠ j) (hil : i ≠ l) (hjl : j ≠ l) (la : S.sc.names.lookup a = some .local) (lb : S.sc.names.lookup b = some .local) (lc : S.sc.names.lookup c = some .local)
    (hw : swappedStores [.Tuple [.Name a pa, .Name b pb, .Name c pc] k1 pt] (.Tuple es k2 p2) X.env = pure (some [a, b, c])) (hl : es.length = 3) (h : PBs G RX W X es ms) :
    PS X (.Assign [.Tuple [.Name a pa, .Name b pb, .Name c pc] k1 pt] (.Tuple es k2 p2) q) (tSs G RX W fun ρ μ => (evs ms ρ μ).bindS ρ fun us μ1 => match setAll [i, j, l] us ρ with
    | some ρ' => .ok (.nx ρ') μ1
    | none => .no) := by
  rcases es with _ | ⟨e1, _ | ⟨e2, _ | ⟨e3, _ | ⟨e4, es⟩⟩⟩⟩ <;> first | (simp at hl; done) | skip
  refine weakS (ps_par3 x.calm (by rw [x.N]; exact x.nd) (by rw [x.N]; exact hi) (by rw [x.N]; exact hj) (by rw [x.N]; exact hll) hij hil hjl (by rw [x.sc]; exact la) (by rw [x.sc]; exact lb) (by rw [x.sc]; exact lc) (pa_of h) hw) fun D σ H ⟨φ, ρ, μ, rep, pp⟩ => ?_
  refine tM_bindS rep pp fun us vs φ1 μ1 H1 x1 r1 q1 h1 => ?_
  have key : ∀ u1 u2 u3, us = [u1, u2, u3] → ∃ u v w, vs = [u, v, w] ∧ D.nx (((σ.set i (some u)).set j (some v)).set l (some w)) H1 := by
    rintro u1 u2 u3 rfl
    obtain ⟨v1, r', rfl, g1, g2⟩ := RVs.cons_inv q1
    obtain ⟨v2, r'', rfl, g3, g4⟩ := RVs.cons_inv g2
    obtain ⟨v3, r3, rfl, g5, g6⟩ := RVs.cons_inv g4
    rw [g6.nil_inv]
    refine ⟨v1, v2, v3, rfl, ?_⟩
    simp only [setAll] at h1
    split at h1
    · rename_i ρ' hh
      split at hh
      · split at hh
        · split at hh
          · cases hh
            exact h1 φ1 _ H1 Ext.refl (((r1.set g1).set g3).set g5)
          · cases hh
        · cases hh
      · cases hh
    · exact h1.elim
  have hsl : ∀ {is : List Nat} {us : List U} {ρ ρ' : Ev}, setAll is us ρ = some ρ' → us.length = is.length := fun {is} => by
    induction is with
    | nil => intro us ρ ρ' hh; cases us with
      | nil => rfl
      | cons _ _ => simp [setAll] at hh
    | cons a is ih => intro us ρ ρ' hh; cases us with
      | nil => simp [setAll] at hh
      | cons u us =>
        simp only [setAll] at hh
        split at hh
        · simp [ih hh]
        · cases hh
  cases q : setAll [i, j, l] us ρ with
  | none => simp only [q] at h1; exact h1.elim
  | some ρ' =>
    have := hsl q
    rcases us with _ | ⟨u1, _ | ⟨u2, _ | ⟨u3, _ | ⟨u4, us⟩⟩⟩⟩ <;> first | (simp at this; done) | skip
    exact key u1 u2 u3 rfl
end
end DP
end
section
/-! DpP: a body is what its compact text comes to. -/
set_option linter.all false
set_option autoImplicit false
set_option maxRecDepth 100000
namespace DP
open PySem PySem.Spec PyProof.Rows L2

section
variable {G : Gb} {Γ : Gt} {RX : RXT} {C : Calls} {k : Nat} {S : Stt} {W : XW} {X : Cx}

theorem swp_eq (x : XOk G Γ S RX W C k X) {ts vs : List Expr} {a b : Nat} {c d : Pos} : (swpB S ts vs = none → swappedStores [.Tuple ts a c] (.Tuple vs b d) X.env = pure none) ∧
    ∀ n ns, swpB S ts vs = some (n :: ns) → swappedStores [.Tuple ts a c] (.Tuple vs b d) X.env = pure (some (n :: ns)) := by
  have hb : (X.env.blockKind != .function) = false := by
    unfold Env.blockKind
    rw [x.sc, x.kind]; rfl
  have hk : ∀ id, X.env.kindOf id = S.sc.names.lookup id := fun id => by
    show X.env.scope.names.lookup id = _
    rw [x.sc]
  unfold swpB swappedStores
  dsimp only
  rw [hb]
  simp only [Bool.or_false, hk]
  constructor
  · intro h
    split
    · rfl
    · rename_i g1
      split at h
      · rename_i g; exact absurd g g1
      · clear g1
        split
        · rfl
        · rename_i g2
          split at h
          · rename_i g; exact absurd g g2
          · clear g2
            split
            · rfl
            · rename_i g3
              split at h
              · rename_i g; exact absurd g g3
              · clear g3
                split
                · rfl
                · rename_i g4
                  split at h
                  · rename_i g; exact absurd g g4
                  · clear g4
                    split at h <;> first | (cases h; done) | skip
  · intro n ns h
    split at h
    · cases h
    · rename_i g1
      split
      · rename_i g; exact absurd g g1
      · clear g1
        split at h
        · cases h
        · rename_i g2
          split
          · rename_i g; exact absurd g g2
          · clear g2
            split at h
            · cases h
            · rename_i g3
              split
              · rename_i g; exact absurd g g3
              · clear g3
                split at h
                · cases h
                · rename_i g4
                  split
                  · rename_i g; exact absurd g g4
                  · clear g4
                    split at h
                    · cases h
                    · rename_i g5
                      split
                      · rename_i g; exact absurd g g5
                      · clear g5
                        exact congrArg (fun z => (pure (some z) : Sem (Option (List Str)))) (Option.some.inj h)
theorem sw_false {e : Expr} (h : isLcE e = false) (t : Option Expr) (l : Nat) (env : Env) : swapsWith e t l env = pure false := by
  cases e <;> first | rfl | (simp [isLcE] at h)

theorem sw_lc (x : XOk G Γ S RX W C k X) {elt : Expr} {gs : List Comprehension} {scope : Scope} {pos py : Pos} {y : Str} {l : Nat} (h : (decide (S.sc.names.lookup y = some .local) && (py.line == pos.line)) = false) : swapsWith (.ListComp elt gs scope pos) (some (.Name y py)) l X.env = pure false := by
  have hk : X.env.kindOf y = S.sc.names.lookup y := by
    show X.env.scope.names.lookup y = _
    rw [x.sc]
  show (pure (X.env.blockKind == .function && X.env.kindOf y == some .local && py.line == pos.line && !(scope.names.any fun (n, k) => n == y && (k == .local || k == .cell))) : Sem Bool) = pure false
  rw [hk]
  congr 1
  cases h1 : decide (S.sc.names.lookup y = some .local) with
  | false =>
    have : (S.sc.names.lookup y == some .local) = false := by
      rw [beq_eq_false_iff_ne]
      exact of_decide_eq_false h1
    rw [this]; simp
  | true =>
    rw [h1] at h
    simp only [Bool.true_and] at h
    rw [h]; simp
theorem sw_sole {e : Expr} (h : isLcE e = false) (t : Expr) (l : Nat) (env : Env) : swapsWithSole [t] e l env = pure false := sw_false h (some t) l env
theorem sw_tupT (e : Expr) (ts : List Expr) (k : Nat) (q : Pos) (l : Nat) (env : Env) : swapsWithSole [.Tuple ts k q] e l env = pure false := by
  cases e <;> rfl
theorem weakM {st : Stmt} {m m' : M Fl} (h : PS X st (tSs G RX W m)) (e : m = m') : PS X st (tSs G RX W m') := e ▸ h
theorem mTs_one {tg : Tg} {t : Expr} (h : mT S tg t = true) : mTs S [tg] [t] = true := by simp [mTs, h]
theorem mE_lc_inv {e : Sx} {elt : Expr} {gs : List Comprehension} {scope : Scope} {pos : Pos} (h : mE Γ S e (.ListComp elt gs scope pos) = true) : ∃ vs el tg it ifs, e = .lc vs el tg it ifs := by
  cases e <;> first | exact ⟨_, _, _, _, _, rfl⟩ | (simp [mE] at h; done) | (rename_i u; cases u <;> simp [mE] at h)
mutual
theorem st_ok : ∀ (s : Ss) {S : Stt} {X : Cx} {x : Stmt}, XOk G Γ S RX W C k X → mS Γ S s x = true → PS X x (tSs G RX W (ex C s))
  | .ex e, S, X, x, ok, h => by
    cases x <;> first | (simp [mS] at h; done) | skip
    simp only [mS, Bool.and_eq_true, Bool.not_eq_true'] at h
    exact s_expr (ex_ok e ok h.2).v (sw_false h.1 _ _ _)
  | .asg tg e, S, X, x, ok, h => by
    cases x <;> first | (simp [mS] at h; done) | skip
    rename_i ts y p
    rcases ts with _ | ⟨t, _ | ⟨t', ts⟩⟩ <;> first | (simp [mS] at h; done) | skip
    simp only [mS, Bool.and_eq_true] at h
    obtain ⟨⟨h1, h2⟩, h3⟩ := h
    have hg := pg_of ok h2
    have ha : (assignEach [t] X.env).map (·.2) = [assign t X.env] := (gather_of X.env (mTs_one h2)).2.2
    unfold asgC at h3
    split at h3
    · rename_i n py
      split at h3
      · rename_i elt gs scope pos
        cases hc : (decide (S.sc.names.lookup n = some .local) && (py.line == pos.line)) with
        | false => exact s_asg (ex_ok e ok h1).v hg (sw_lc (l := p.line) ok hc) rfl ha
        | true =>
          rw [hc] at h3
          simp only [Bool.not_true, Bool.false_or, Bool.not_eq_true'] at h3
          simp only [Bool.and_eq_true, decide_eq_true_eq] at hc
          obtain ⟨vs, el, tg', it, ifs, rfl⟩ := mE_lc_inv h1
          cases tg with
          | tp _ => simp [mT] at h2
          | nm i =>
          rcases gs with _ | ⟨⟨t, ii, fs, nn⟩, _ | ⟨g', gs⟩⟩ <;> first | (simp [mE] at h1; done) | skip
          by_cases hn : nn = 0
          rotate_left
          · simp [mE, hn] at h1
          subst hn
          simp only [mE, Bool.and_eq_true] at h1
          obtain ⟨⟨⟨⟨⟨⟨hb, k1⟩, k2⟩, k3⟩, k4⟩, k5⟩, k6⟩ := h1
          obtain ⟨g1, g2⟩ := it_ok it ok k1 k2
          simp only [mT, Bool.and_eq_true, decide_eq_true_eq] at h2
          exact s_setLc ok h2.1 hc.1 (sw_true (by rw [ok.sc]; exact ok.kind) (by rw [ok.sc]; exact hc.1) hc.2 h3) hb g1 g2 k3 k4 (fun s H D cl fp => exs_ok ifs (blk_ok ok hb s H D cl fp) k5) (fun s H D cl fp => ex_ok el (blk_ok ok hb s H D cl fp) k6)
      · simp only [Bool.not_eq_true'] at h3
        exact s_asg (ex_ok e ok h1).v hg (sw_sole h3 (.Name n py) p.line X.env) rfl ha
    · rename_i ts kk q
      split at h3
      · rename_i vs _ _
        exact s_asg (ex_ok e ok h1).v hg rfl ((swp_eq ok).1 (by simpa using h3)) ha
      · rename_i hne
        refine s_asg (ex_ok e ok h1).v hg (sw_tupT y ts kk q p.line X.env) ?_ ha
        cases y <;> first | rfl | (exact absurd rfl (hne _ _ _))
    · cases h3
  | .asx a i e, S, X, x, ok, h => by
    cases x <;> first | (simp [mS] at h; done) | skip
    rename_i ts y p
    rcases ts with _ | ⟨t, _ | ⟨t', ts⟩⟩ <;> first | (simp [mS] at h; done) | skip
    simp only [mS, Bool.and_eq_true, Bool.not_eq_true'] at h
    obtain ⟨⟨h3, h4⟩, h5⟩ := h
    split at h5
    · rename_i b j q
      simp only [Bool.and_eq_true] at h5
      exact s_asx ok (ex_ok a ok h5.1).v (mE_plain h5.2) (ex_ok i ok h5.2).v (ex_ok e ok h3).v (sw_sole h4 (.Subscript b j q) p.line X.env) rfl
    · cases h5
  | .aug i op e, S, X, x, ok, h => by
    cases x <;> first | (simp [mS] at h; done) | skip
    rename_i t o y p
    cases t <;> first | (simp [mS] at h; done) | skip
    simp only [mS, Bool.and_eq_true, decide_eq_true_eq] at h
    obtain ⟨⟨⟨rfl, h2⟩, h3⟩, h4⟩ := h
    exact s_aug ok h2 h3 (ex_ok e ok h4).v
  | .par2 i j es, S, X, x, ok, h => by
    cases x <;> first | (simp [mS] at h; done) | skip
    rename_i ts y p
    rcases ts with _ | ⟨t, _ | ⟨t', ts⟩⟩ <;> first | (simp [mS] at h; done) | skip
    cases y <;> first | (simp [mS] at h; done) | skip
    rename_i vs _ _
    simp only [mS, Bool.and_eq_true] at h
    obtain ⟨h0, h8⟩ := h
    unfold par2C at h0
    split at h0
    · simp only [Bool.and_eq_true, decide_eq_true_eq] at h0
      obtain ⟨⟨⟨⟨⟨⟨h1, h2⟩, h3⟩, h4⟩, h5⟩, h6⟩, h7⟩ := h0
      exact s_par2 ok h1 h2 h3 h4 h5 ((swp_eq ok).2 _ _ h6) h7 (exs_ok es ok h8)
    · cases h0
  | .par3 i j l es, S, X, x, ok, h => by
    cases x <;> first | (simp [mS] at h; done) | skip
    rename_i ts y p
    rcases ts with _ | ⟨t, _ | ⟨t', ts⟩⟩ <;> first | (simp [mS] at h; done) | skip
    cases y <;> first | (simp [mS] at h; done) | skip
    rename_i vs _ _
    simp only [mS, Bool.and_eq_true] at h
    obtain ⟨h0, h8⟩ := h
    unfold par3C at h0
    split at h0
    · simp only [Bool.and_eq_true, decide_eq_true_eq] at h0
      obtain ⟨⟨⟨⟨⟨⟨⟨⟨⟨⟨h1, h2⟩, h2'⟩, h3⟩, h3'⟩, h3''⟩, h4⟩, h5⟩, h5'⟩, h6⟩, h7⟩ := h0
      exact s_par3 ok h1 h2 h2' h3 h3' h3'' h4 h5 h5' ((swp_eq ok).2 _ _ h6) h7 (exs_ok es ok h8)
    · cases h0
  | .ret e, S, X, x, ok, h => by
    cases x <;> first | (simp [mS] at h; done) | skip
    rename_i o p
    cases o <;> first | (simp [mS] at h; done) | skip
    simp only [mS] at h
    exact s_ret (ex_ok e ok h).v
  | .ret0, S, X, x, ok, h => by
    cases x <;> first | (simp [mS] at h; done) | skip
    rename_i o p
    cases o <;> first | (simp [mS] at h; done) | skip
    refine weakS ps_retN fun D σ H ⟨φ, ρ, μ, rep, pp⟩ => pp φ .non H Ext.refl rep.st (by rw [RV])
  | .ifs c a b, S, X, x, ok, h => by
    cases x <;> first | (simp [mS] at h; done) | skip
    simp only [mS, Bool.and_eq_true] at h
    exact s_if (ex_ok c ok h.1.1).b (sts_ok a ok h.1.2) (sts_ok b ok h.2)
  | .whl c b, S, X, x, ok, h => by
    cases x <;> first | (simp [mS] at h; done) | skip
    rename_i e bd els p
    cases els <;> first | (simp [mS] at h; done) | skip
    simp only [mS, Bool.and_eq_true] at h
    exact s_whl ok (ex_ok c ok h.1).b (sts_ok b ok h.2)
  | .for' tg it b, S, X, x, ok, h => by
    cases x <;> first | (simp [mS] at h; done) | skip
    rename_i t i bd els p
    cases els <;> first | (simp [mS] at h; done) | skip
    simp only [mS, Bool.and_eq_true] at h
    obtain ⟨⟨⟨h1, h2⟩, h3⟩, h4⟩ := h
    obtain ⟨g1, g2⟩ := it_ok it ok h1 h2
    exact s_for ok g1 g2 (pg_of ok h3) (sts_ok b ok h4)
  | .brk, S, X, x, ok, h => by
    cases x <;> first | (simp [mS] at h; done) | skip
    exact weakS ps_break fun D σ H ⟨φ, ρ, μ, rep, pp⟩ => pp φ σ H Ext.refl rep
  | .cnt, S, X, x, ok, h => by
    cases x <;> first | (simp [mS] at h; done) | skip
    exact weakS ps_continue fun D σ H ⟨φ, ρ, μ, rep, pp⟩ => pp φ σ H Ext.refl rep
  | .pass, S, X, x, ok, h => by
    cases x <;> first | (simp [mS] at h; done) | skip
    exact weakS ps_pass fun D σ H ⟨φ, ρ, μ, rep, pp⟩ => pp φ σ H Ext.refl rep
theorem sts_ok : ∀ (ss : List Ss) {S : Stt} {X : Cx} {xs : List Stmt}, XOk G Γ S RX W C k X → mSs Γ S ss xs = true → PSs X xs (tSs G RX W (exs C ss))
  | [], S, X, [], ok, h => s_nil
  | s :: ss, S, X, x :: xs, ok, h => by
    simp only [mSs, Bool.and_eq_true] at h
    exact s_seq (st_ok s ok h.1) (sts_ok ss ok h.2)
  | [], _, _, _ :: _, _, h => by simp [mSs] at h
  | _ :: _, _, _, [], _, h => by simp [mSs] at h
end
end
end DP
end
section
/-! DpQ: what is left behind a call; every def does what its compact body does. -/
set_option linter.all false
set_option autoImplicit false
set_option maxRecDepth 100000
namespace DP
open PySem PySem.Spec PyProof.Rows L2
variable {G : Gb}

mutual
theorem RV.lt {φ : List Addr} {H : Hp} : ∀ {u : U} {v : V}, RV G φ H u v → uLt φ.length u = true
  | .non, _, _ => rfl
  | .bl _, _, _ => rfl
  | .int _, _, _ => rfl
  | .str _, _, _ => rfl
  | .tup us, v, h => by
    rw [RV] at h
    obtain ⟨a, vs, _, _, r⟩ := h
    rw [uLt]; exact RVs.lt r
  | .rl us, v, h => by
    rw [RV] at h
    obtain ⟨a, vs, _, _, r⟩ := h
    rw [uLt]; exact RVs.lt r
  | .loc n, v, h => by
    rw [RV] at h
    obtain ⟨a, _, e⟩ := h
    rw [uLt]; exact decide_eq_true (List.getElem?_eq_some_iff.mp e).1
  | .fn _, _, _ => rfl
  | .gd ks us, v, h => by
    rw [RV] at h
    obtain ⟨d, es, n, ws, _, _, r, _⟩ := h
    rw [uLt]; exact RVs.lt r
theorem RVs.lt {φ : List Addr} {H : Hp} : ∀ {us : List U} {vs : List V}, RVs G φ H us vs → uLts φ.length us = true
  | [], _, _ => rfl
  | u :: us, vs, h => by
    obtain ⟨v, r, rfl, h1, h2⟩ := h.cons_inv
    rw [uLts, RV.lt h1, RVs.lt h2]; rfl
end
mutual
/-- back to fewer places -/
theorem RV.less {φ l : List Addr} {H : Hp} : ∀ {u : U} {v : V}, uLt φ.length u = true → RV G (φ ++ l) H u v → RV G φ H u v
  | .non, _, _, h => by rw [RV] at h ⊢; exact h
  | .bl _, _, _, h => by rw [RV] at h ⊢; exact h
  | .int _, _, _, h => by rw [RV] at h ⊢; exact h
  | .str _, _, _, h => by rw [RV] at h ⊢; exact h
  | .tup us, v, q, h => by
    rw [RV] at h ⊢
    rw [uLt] at q
    obtain ⟨a, vs, e, s, r⟩ := h
    exact ⟨a, vs, e, s, RVs.less q r⟩
  | .rl us, v, q, h => by
    rw [RV] at h ⊢
    rw [uLt] at q
    obtain ⟨a, vs, e, s, r⟩ := h
    exact ⟨a, vs, e, s, RVs.less q r⟩
  | .loc n, v, q, h => by
    rw [RV] at h ⊢
    rw [uLt] at q
    obtain ⟨a, e, s⟩ := h
    exact ⟨a, e, by rw [List.getElem?_append_left (of_decide_eq_true q)] at s; exact s⟩
  | .fn _, _, _, h => by rw [RV] at h ⊢; exact h
  | .gd ks us, v, q, h => by
    rw [RV] at h ⊢
    rw [uLt] at q
    obtain ⟨d, es, n, ws, e, s, r, g⟩ := h
    exact ⟨d, es, n, ws, e, s, RVs.less q r, g⟩
theorem RVs.less {φ l : List Addr} {H : Hp} : ∀ {us : List U} {vs : List V}, uLts φ.length us = true → RVs G (φ ++ l) H us vs → RVs G φ H us vs
  | [], _, _, h => by rw [h.nil_inv]; exact .nil
  | u :: us, vs, q, h => by
    rw [uLts, Bool.and_eq_true] at q
    obtain ⟨v, r, rfl, h1, h2⟩ := h.cons_inv
    exact .cons (RV.less q.1 h1) (RVs.less q.2 h2)
end
theorem pair_all {α β : Type} {F : α → β → Prop} {p : α → Bool} (h : ∀ a b, F a b → p a = true) : ∀ {l : List α} {m : List β}, Paired F l m → l.all p = true
  | [], _, _ => rfl
  | _ :: _, _, .cons r t => by rw [List.all_cons, h _ _ r, pair_all h t]; rfl
theorem pair_less {φ l : List Addr} {H : Hp} : ∀ {kvs : List (U × U)} {es : List DictEntry}, (kvs.all fun p => uLt φ.length p.1 && uLt φ.length p.2) = true → Paired (EntR G (φ ++ l) H) kvs es → Paired (EntR G φ H) kvs es
  | [], _, _, p => by cases p; exact .nil
  | x :: kvs, _, q, p => by
    cases p with
    | cons r t =>
      simp only [List.all_cons, Bool.and_eq_true] at q
      refine .cons ⟨?_, ?_, r.hash, r.ok⟩ (pair_less (by simpa using q.2) t)
      · obtain ⟨v, h1, h2⟩ := r.key; exact ⟨v, RV.less q.1.1 h1, h2⟩
      · obtain ⟨v, h1, h2⟩ := r.val; exact ⟨v, RV.less q.1.2 h1, h2⟩
theorem RC.lt {φ : List Addr} {H : Hp} {a : Addr} {c : Cell} (h : RC G φ H a c) : cLt φ.length c = true := by
  cases c with
  | lst us => obtain ⟨vs, _, r⟩ := h; exact RVs.lt r
  | dct kvs =>
    obtain ⟨es, _, _, _, r, _⟩ := h
    exact pair_all (fun p e q => by
      obtain ⟨v, h1, _⟩ := q.key
      obtain ⟨w, h2, _⟩ := q.val
      rw [RV.lt h1, RV.lt h2]; rfl) r
  | ins _ _ => exact h.elim
theorem RC.less {φ l : List Addr} {H : Hp} {a : Addr} {c : Cell} (q : cLt φ.length c = true) (h : RC G (φ ++ l) H a c) : RC G φ H a c := by
  cases c with
  | lst us => obtain ⟨vs, e, r⟩ := h; exact ⟨vs, e, RVs.less q r⟩
  | dct kvs => obtain ⟨es, e, h1, h2, r, nd⟩ := h; exact ⟨es, e, h1, h2, pair_less q r, nd⟩
  | ins _ _ => exact h.elim

/-- what is left behind a call stands -/
theorem gc_ok {φ φ' : List Addr} {μ0 μ1 : Store} {H H' : Hp} {u : U} {v : V} (s0 : RepStore G φ μ0 H) (x : Ext φ φ' H H') (s1 : RepStore G φ' μ1 H') (r : RV G φ' H' u v) :
    ∃ φ2, Ext φ φ2 H H' ∧ RepStore G φ2 (gc μ0 u μ1).2 H' ∧ RV G φ2 H' (gc μ0 u μ1).1 v := by
  unfold gc
  split
  rotate_left
  · exact ⟨φ', x, s1, r⟩
  · rename_i hc
    obtain ⟨l, rfl, hl⟩ := x.app
    have hlen : φ.length = μ0.length := s0.len
    have hle : φ.length ≤ μ1.length := by rw [← s1.len]; simp
    have x0 : Ext φ φ H H' := ⟨⟨[], by simp, fun _ z => by cases z⟩, x.keep, x.dom⟩
    have cells : ∀ (n : Nat) (c : Cell) (a : Addr), (μ1.take μ0.length)[n]? = some c → φ[n]? = some a → cLt φ.length c = true ∧ RC G (φ ++ l) H' a c := by
      intro n c a e f
      have hn : n < φ.length := (List.getElem?_eq_some_iff.mp f).1
      rw [List.getElem?_take, if_pos (by omega)] at e
      have f' : (φ ++ l)[n]? = some a := by rw [List.getElem?_append_left hn]; exact f
      refine ⟨?_, s1.at_ n c a e f'⟩
      unfold cln at hc
      have := List.all_eq_true.mp hc n (List.mem_range.mpr (by omega))
      rw [e] at this
      simp only [Bool.or_eq_true, decide_eq_true_eq] at this
      rcases this with this | this
      · exact RC.lt (s0.at_ n c a this.symm f)
      · rw [hlen]; exact this
    have s2 : RepStore G φ (μ1.take μ0.length) H' := ⟨by simp; omega, s0.nd, fun n c a e f => let ⟨h1, h2⟩ := cells n c a e f; h2.less h1⟩
    split
    · rename_i hu
      exact ⟨φ, x0, s2, RV.less (by rw [hlen]; exact hu) r⟩
    · rename_i hu
      split
      · rename_i n
        split
        · rename_i c hn
          split
          · rename_i hcl
            obtain ⟨a, ha, rc⟩ := s1.get hn
            rw [RV] at r
            obtain ⟨b, rfl, hb⟩ := r
            rw [ha] at hb; cases hb
            have hge : φ.length ≤ n := by
              rw [uLt, decide_eq_true_eq] at hu
              omega
            have hal : a ∈ l := by
              rw [List.getElem?_append_right hge] at ha
              exact List.mem_of_getElem? ha
            obtain ⟨h1, h2⟩ := hl a hal
            have up : ∀ (m : Nat) (b : Addr), φ[m]? = some b → (φ ++ [a])[m]? = some b := fun m b e => by
              rw [List.getElem?_append_left (List.getElem?_eq_some_iff.mp e).1]; exact e
            have x3 : Ext φ (φ ++ [a]) H H' := ⟨⟨[a], rfl, fun b hb => by
              rw [List.mem_singleton.mp hb]; exact ⟨h1, h2⟩⟩, x.keep, x.dom⟩
            refine ⟨φ ++ [a], x3, s2.place h2 ?_, ?_⟩
            · exact (RC.less (by rw [hlen]; exact hcl) rc).up Kp.refl up rfl
            · rw [RV]
              exact ⟨a, rfl, by rw [← hlen]; simp⟩
          · exact ⟨φ ++ l, x, s1, r⟩
        · exact ⟨φ ++ l, x, s1, r⟩
      · exact ⟨φ ++ l, x, s1, r⟩

/-- a def of the text: where it stands, what its compact body is -/
structure DefOk (G : Gb) (Γ : Gt) (F : Nat → Option Fd) (f : Nat) (x : Str) (n : Nat) : Prop where
  dbg : (x == ("__debug__" : Str)) = false
  ex : ∃ a fd ps st N d, G.mg x = some (.ref a) ∧ G.fa f = some a ∧ Fun G.K x x st a fd ∧ Binds G.K fd ps [] ∧ ps.length = n ∧ F f = some d ∧ d.pars = n ∧ FnScope N ps (defScope st) ∧ N.length = d.slots ∧
    (∀ y ∈ N, (y == ("__debug__" : Str)) = false ∧ (y == ("__classdict__" : Str)) = false) ∧ mSs Γ ⟨N, defScope st, fun _ => true⟩ d.body (defBody st) = true

theorem start_rep {φ : List Addr} {μ : Store} {H : Hp} {us : List U} {vs : List V} (s : RepStore G φ μ H) (r : RVs G φ H us vs) (N : List Str) (n : Nat) (hn : n = N.length - vs.length) : RepS G φ (us.map some ++ List.replicate n none) μ (L2.start N vs) H := by
  refine ⟨s, by simp [L2.start, r.length, hn], fun i u e => ?_⟩
  unfold L2.start
  by_cases h : i < us.length
  · rw [List.getElem?_append_left (by simpa using h), List.getElem?_map] at e
    rw [List.getElem?_append_left (by simpa [r.length] using h), List.getElem?_map]
    cases q : us[i]? with
    | none => rw [q] at e; cases e
    | some w =>
      rw [q] at e; cases e
      obtain ⟨v, h1, h2⟩ := r.get q
      exact ⟨v, by rw [h1]; rfl, h2⟩
  · rw [List.getElem?_append_right (by simpa using Nat.le_of_not_lt h), List.getElem?_replicate] at e
    split at e <;> cases e

/-- one def, where all keep their promise one call deeper -/
theorem fn_step {Γ : Gt} {F : Nat → Option Fd} {RX : RXT} (dbgs : ∀ (f : Nat) (x : Str) (n : Nat), Γ.ft[f]? = some (x, n) → (x == ("__debug__" : Str)) = false)
    (gls : ∀ (j : Nat) (x : Str) (u : U), Γ.gt[j]? = some (x, u) → (x == ("__debug__" : Str)) = false ∧ ∃ v val, G.mg x = some val ∧ RelV v val ∧ ∀ φ H, RV G φ H u v) (bls : ∀ x ∈ bnames, G.mg x = none) {k f : Nat}
    (ih : ∀ (f : Nat) (x : Str) (n : Nat), Γ.ft[f]? = some (x, n) → ∃ a fd ps, ps.length = n ∧ G.mg x = some (.ref a) ∧ G.fa f = some a ∧ PySem.W.keepIn G.K (.ref a) = true ∧ Binds G.K fd ps [] ∧
      FnOk G.P G.w G.K G.mg G.base (L2.CX G.P G.w) k a fd ps (spC G RX ps.length (evF F k f)))
    {x : Str} {n : Nat} {a : Addr} {fd : FuncData} {ps N : List Str} {st : Stmt} {d : Fd} (h3 : Fun G.K x x st a fd) (h5 : ps.length = n) (h6 : F f = some d) (h7 : d.pars = n) (h8 : FnScope N ps (defScope st)) (h9 : N.length = d.slots)
    (h10 : ∀ y ∈ N, (y == ("__debug__" : Str)) = false ∧ (y == ("__classdict__" : Str)) = false) (h11 : mSs Γ ⟨N, defScope st, fun _ => true⟩ d.body (defBody st) = true) :
    FnOk G.P G.w G.K G.mg G.base (L2.CX G.P G.w) (k + 1) a fd ps (spC G RX ps.length (evF F (k + 1) f)) := by
  refine Fun.okX h3 h8 (fun vs H Q E h => h.1) fun cdv A outer s H vs Q E hr ⟨hl, φ, μ, us, st0, rv, p⟩ => ?_
  have X0 : XOk G Γ ⟨N, defScope st, fun _ => true⟩ RX (fun c d _ H' => E c d H') (evF F k) k (cxOf (L2.CX G.P G.w) G.P G.w G.K G.mg G.base N x (defScope st) a cdv A outer s H E) :=
    { prog := rfl, w := rfl, K := rfl, mg := rfl, base := rfl, N := rfl, nd := h8.nd, dbg := h10, sc := rfl, kind := h8.kind, st := fun _ _ => rfl, calm := rfl, room := hr,
      tk := takes_of rfl rfl rfl rfl
      pass := passes_of rfl
      fns := fun f x n hf => ⟨dbgs f x n hf, let ⟨a, fd, ps, q⟩ := ih f x n hf; ⟨a, fd, ps, q⟩⟩
      gls := gls, bls := bls }
  refine ⟨_, sts_ok d.body X0 h11, φ, us.map some ++ List.replicate (d.slots - d.pars) none, μ, start_rep st0 rv N _ (by rw [h9, h7, hl, h5]), ?_⟩
  simp only [evF, h6] at p
  rw [if_pos (by rw [← rv.length, hl, h7, h5])] at p
  split at p
  · rename_i ρ1 μ1 hq
    rw [hq]
    intro φ' σ' H' xx r'
    obtain ⟨φ2, x2, s2, r2⟩ := gc_ok (u := .non) (v := .non) st0 xx r'.st (by rw [RV])
    exact p φ2 H' _ x2 s2 r2
  · rename_i u μ1 hq
    rw [hq]
    intro φ' v H' xx s' r'
    obtain ⟨φ2, x2, s2, r2⟩ := gc_ok st0 xx s' r'
    exact p φ2 H' _ x2 s2 r2
  · rename_i z ρ1 μ1 hq
    rw [hq]
    intro φ' σ' H' c dd xx r' q
    exact p φ' H' c dd xx r'.st q
  · exact p.elim
theorem fns_ok {Γ : Gt} {F : Nat → Option Fd} {RX : RXT} (defs : ∀ (f : Nat) (x : Str) (n : Nat), Γ.ft[f]? = some (x, n) → DefOk G Γ F f x n)
    (gls : ∀ (j : Nat) (x : Str) (u : U), Γ.gt[j]? = some (x, u) → (x == ("__debug__" : Str)) = false ∧ ∃ v val, G.mg x = some val ∧ RelV v val ∧ ∀ φ H, RV G φ H u v) (bls : ∀ x ∈ bnames, G.mg x = none) :
    ∀ (k f : Nat) (x : Str) (n : Nat), Γ.ft[f]? = some (x, n) → ∃ a fd ps, ps.length = n ∧ G.mg x = some (.ref a) ∧ G.fa f = some a ∧ PySem.W.keepIn G.K (.ref a) = true ∧ Binds G.K fd ps [] ∧
      FnOk G.P G.w G.K G.mg G.base (L2.CX G.P G.w) k a fd ps (spC G RX ps.length (evF F k f)) := by
  intro k
  induction k with
  | zero =>
    intro f x n hf
    obtain ⟨dbg, a, fd, ps, st, N, d, h1, h2, h3, h4, h5, h6, h7, h8, h9, h10, h11⟩ := defs f x n hf
    refine ⟨a, fd, ps, h5, h1, h2, h3.kp, h4, ⟨fun vs H Q E h => h.1, fun A outer s H args us vs Q E hr e0 hb hv hsp => ?_⟩⟩
    obtain ⟨_, φ, μ, ws, _, _, p⟩ := hsp
    exact p.elim
  | succ k ih =>
    intro f x n hf
    obtain ⟨dbg, a, fd, ps, st, N, d, h1, h2, h3, h4, h5, h6, h7, h8, h9, h10, h11⟩ := defs f x n hf
    exact ⟨a, fd, ps, h5, h1, h2, h3.kp, h4, fn_step (fun f x n hf => (defs f x n hf).dbg) gls bls ih h3 h5 h6 h7 h8 h9 h10 h11⟩
end DP
end
section
/-! DpV: from what the top has written to the law. -/
set_option linter.all false
set_option autoImplicit false
set_option maxRecDepth 100000
namespace DP
open PySem PySem.Spec PyProof.Rows L2

/-- a def as the top has left it -/
def DF (K : PySem.W.Frag) (x : Str) (st : Stmt) : Prop := ∃ (a : Addr) (oc : Value) (od an : Option Addr) (osl : Array (Option Value)) (kV doc pm cdv ct : Value), PySem.W.nsIn K mainGlobals x = some (some (.ref a)) ∧
  K.lookup a = some ⟨oc, od, .func (PySem.W.fnOf x x (defArgs st) (defBody st) (defScope st) .none kV doc pm an cdv ct), osl⟩ ∧ PySem.W.codeIn K cdv x = true ∧ PySem.W.keepIn K (.ref a) = true
/-- where the defs stand -/
def faOf (Γ : Gt) (mg : Str → Option Value) (f : Nat) : Option Addr := match Γ.ft[f]? with
  | some p => match mg p.1 with
    | some (.ref a) => some a
    | _ => none
  | none => none
theorem defOk_of {G : Gb} {Γ : Gt} {F : Nat → Option Fd} {f : Nat} {x : Str} {n : Nat} {h : Heap} {st : Stmt} {N ps : List Str} {d : Fd} (hK : G.K.In h) (hN : h.Ns mainGlobals G.mg) (hfa : G.fa = faOf Γ G.mg) (hf : Γ.ft[f]? = some (x, n)) (df : DF G.K x st) (dbg : (x == ("__debug__" : Str)) = false)
    (hps : ps.length = n) (hF : F f = some d) (hd : d.pars = n) (S : FnScope N ps (defScope st)) (hs : N.length = d.slots) (hy : ∀ y ∈ N, (y == ("__debug__" : Str)) = false ∧ (y == ("__classdict__" : Str)) = false) (hm : mSs Γ ⟨N, defScope st, fun _ => true⟩ d.body (defBody st) = true)
    (hb : ∀ (kV doc pm : Value) (an : Option Addr) (cdv ct : Value) (us : List Value), us.length = ps.length → bindArgs (PySem.W.fnOf x x (defArgs st) (defBody st) (defScope st) .none kV doc pm an cdv ct) ⟨us, []⟩ = pure (ps.zip us)) : DefOk G Γ F f x n := by
  obtain ⟨a, oc, od, an, osl, kV, doc, pm, cdv, ct, e1, e2, e3, e4⟩ := df
  have hm1 := PySem.W.mg_of hK hN e1
  have Fn := fun_mk (st := st) e2 e3 e4
  exact ⟨dbg, a, _, ps, st, N, d, hm1, by rw [hfa]; unfold faOf; rw [hf]; dsimp only; rw [hm1], Fn, Fn.binds hb, hps, hF, hd, S, hs, hy, hm⟩
/-- a constant of the module -/
theorem gl_str {G : Gb} {h : Heap} (hK : G.K.In h) (hN : h.Ns mainGlobals G.mg) {x z : Str} {t : Tok} (e : PySem.W.nsIn G.K mainGlobals x = some (some (.str z t))) : ∃ v val, G.mg x = some val ∧ RelV v val ∧ ∀ φ H, RV G φ H (.str z) v :=
  ⟨.str z, _, PySem.W.mg_of hK hN e, ⟨t, rfl⟩, fun _ _ => by rw [RV]⟩
theorem gl_int {G : Gb} {h : Heap} (hK : G.K.In h) (hN : h.Ns mainGlobals G.mg) {x : Str} {i : Int} {t : Tok} (e : PySem.W.nsIn G.K mainGlobals x = some (some (.int i t))) : ∃ v val, G.mg x = some val ∧ RelV v val ∧ ∀ φ H, RV G φ H (.int i) v :=
  ⟨.int i, _, PySem.W.mg_of hK hN e, ⟨t, rfl⟩, fun _ _ => by rw [RV]⟩
/-- values as they stand in the module, told of a value of ours -/
def Sta (G : Gb) (u : U) (val : Value) : Prop := ∃ v, RelV v val ∧ ∀ φ H, RV G φ H u v
def Stas (G : Gb) : List U → List Value → Prop
  | [], [] => True
  | u :: us, v :: vs => Sta G u v ∧ Stas G us vs
  | _, _ => False
theorem Stas.get {G : Gb} : ∀ {us : List U} {vals : List Value}, Stas G us vals → ∃ vs, Vals vs vals ∧ ∀ φ H, RVs G φ H us vs
  | [], [], _ => ⟨[], .nil, fun _ _ => .nil⟩
  | u :: us, v :: vals, h => by
    obtain ⟨⟨w, h1, h2⟩, h3⟩ := h
    obtain ⟨ws, h4, h5⟩ := Stas.get h3
    exact ⟨w :: ws, .cons h1 h4, fun φ H => .cons (h2 φ H) (h5 φ H)⟩
  | [], _ :: _, h => h.elim
  | _ :: _, [], h => h.elim
theorem sta_str {G : Gb} {z : Str} {t : Tok} : Sta G (.str z) (.str z t) := ⟨.str z, ⟨t, rfl⟩, fun _ _ => by rw [RV]⟩
theorem sta_int {G : Gb} {z : Int} {t : Tok} : Sta G (.int z) (.int z t) := ⟨.int z, ⟨t, rfl⟩, fun _ _ => by rw [RV]⟩
theorem sta_fn {G : Gb} {f : Nat} {a : Addr} (h : G.fa f = some a) : Sta G (.fn f) (.ref a) := ⟨.ref a, rfl, fun _ _ => by rw [RV]; exact ⟨a, rfl, h⟩⟩
theorem sta_tup {G : Gb} {us : List U} {a : Addr} {o : Obj} {its : Array Value} {n : Nat} (h1 : G.K.lookup a = some o) (h2 : o.cls = .type "tuple") (h3 : o.data = .seq its n) (h4 : its.size ≤ sizeLine) (h : Stas G us its.toList) : Sta G (.tup us) (.ref a) := by
  obtain ⟨vs, h5, h6⟩ := h.get
  exact ⟨.ref a, rfl, fun φ H => by rw [RV]; exact ⟨a, vs, rfl, .inr ⟨o, its, n, h1, h2, h3, h4, h5⟩, h6 φ H⟩⟩
theorem gl_sta {G : Gb} {h : Heap} (hK : G.K.In h) (hN : h.Ns mainGlobals G.mg) {x : Str} {u : U} {val : Value} (e : PySem.W.nsIn G.K mainGlobals x = some (some val)) (s : Sta G u val) : ∃ v val, G.mg x = some val ∧ RelV v val ∧ ∀ φ H, RV G φ H u v :=
  let ⟨v, h1, h2⟩ := s; ⟨v, val, PySem.W.mg_of hK hN e, h1, h2⟩
/-- what the law's script comes to -/
def scriptU (ns : List Int) : U := .rl (ns.map .int)
/-- the law's promise: True comes out -/
theorem law_sp {G : Gb} {RX : RXT} {m : List U → Store → Res U} {H : Hp} {a : Addr} {ns : List Int} (ho : Only H) (hq : SqL G.K H a (ns.map V.int)) (hs : Rl G.K H a (ns.map V.int)) (hm : ∃ μ, m [scriptU ns] [] = .ok (.bl true) μ) :
    spC G RX 1 m [.ref a] H (fun v _ => v = .bl true) (fun _ _ _ => False) := by
  obtain ⟨μ, hm⟩ := hm
  refine ⟨rfl, [], [], [scriptU ns], ⟨rfl, List.nodup_nil, fun n c a e => by simp at e⟩, .cons ?_ .nil, ?_⟩
  · rw [scriptU, RV]; exact ⟨a, _, rfl, hs, RVs.of_ints⟩
  · rw [hm]
    intro φ' H' v _ _ r
    have r' : RV G φ' H' (.bl true) v := r
    rw [RV] at r'; exact r'
theorem rl_of {K : PySem.W.Frag} {H : Hp} {a : Addr} {vs : List V} (ho : Only H) (h : SqL K H a vs) : Rl K H a vs := by
  refine ⟨h, fun H' k => ?_⟩
  rcases h with (h | ⟨o, h⟩) | h
  · rcases ho a with e | ⟨_, _, e⟩ <;> (rw [h] at e; cases e)
  · exact .inl (.inr ⟨o, k a o _ h⟩)
  · exact .inr h
/-- the law's promise in the form that the head wants -/
def spL (K : PySem.W.Frag) (m : Nat) : Sp := fun vs H Q _ => ∃ (a : Addr) (ns : List Int), vs = [.ref a] ∧ ns.length ≤ m ∧ Only H ∧ SqL K H a (ns.map V.int) ∧ ∀ H', Q (.bl true) H'
theorem law_imp {G : Gb} {RX : RXT} {m : List U → Store → Res U} {M k : Nat} {a : Addr} {fd : FuncData} {ps : List Str} {CX : CXT} (F : FnOk G.P G.w G.K G.mg G.base CX k a fd ps (spC G RX ps.length m)) (hps : ps.length = 1) (hm : ∀ ns : List Int, ns.length ≤ M → ∃ μ, m [scriptU ns] [] = .ok (.bl true) μ) :
    FnOk G.P G.w G.K G.mg G.base CX k a fd ps (spL G.K M) := by
  refine F.imp fun vs H Q E ⟨b, ns, hv, hl, ho, hq, q⟩ => ?_
  subst hv
  obtain ⟨μ, hm⟩ := hm ns hl
  refine ⟨by rw [hps]; rfl, [], [], [scriptU ns], ⟨rfl, List.nodup_nil, fun n c a e => by simp at e⟩, .cons ?_ .nil, ?_⟩
  · rw [scriptU, RV]; exact ⟨b, _, rfl, rl_of ho hq, RVs.of_ints⟩
  · rw [hm]
    intro φ' H' v _ _ r
    have r' : RV G φ' H' (.bl true) v := r
    rw [RV] at r'; subst r'
    exact q H'
/-- the law's def, from all -/
theorem law_of {P : Program} {w : World} {K : PySem.W.Frag} {mg : Str → Option Value} {Γ : Gt} {F : Nat → Option Fd} {h : Heap} {f M k : Nat} {x : Str} {st : Stmt} {N : List Str} {d : Fd} {fa : Addr} (hK : K.In h) (hN : h.Ns mainGlobals mg)
    (defs : ∀ G : Gb, G.K = K → G.mg = mg → G.fa = faOf Γ mg → ∀ (f : Nat) (x : Str) (n : Nat), Γ.ft[f]? = some (x, n) → DefOk G Γ F f x n)
    (gls : ∀ G : Gb, G.K = K → G.w = w → G.mg = mg → G.fa = faOf Γ mg → ∀ (j : Nat) (x : Str) (u : U), Γ.gt[j]? = some (x, u) → (x == ("__debug__" : Str)) = false ∧ ∃ v val, mg x = some val ∧ RelV v val ∧ ∀ φ H, RV G φ H u v)
    (bls : ∀ x ∈ bnames, PySem.W.nsIn K mainGlobals x = some none) (df : DF K x st) (hfa : mg x = some (.ref fa)) (hF : F f = some d) (hd : d.pars = 1) (S : FnScope N ["script"] (defScope st)) (hs : N.length = d.slots)
    (hy : ∀ y ∈ N, (y == ("__debug__" : Str)) = false ∧ (y == ("__classdict__" : Str)) = false) (hm : mSs Γ ⟨N, defScope st, fun _ => true⟩ d.body (defBody st) = true)
    (hb : ∀ (kV doc pm : Value) (an : Option Addr) (cdv ct : Value) (v : Value), bindArgs (PySem.W.fnOf x x (defArgs st) (defBody st) (defScope st) .none kV doc pm an cdv ct) ⟨[v], []⟩ = pure [(("script" : Str), v)])
    (law : ∀ ns : List Int, ns.length ≤ M → ∃ μ, evF F (k + 1) f [scriptU ns] [] = .ok (.bl true) μ) :
    ∃ fd : FuncData, (∀ (s : Shared) (v : Value), BindsTo s fd ⟨[v], []⟩ [("script", v)]) ∧ ∀ base : Heap, K.In base → base.Ns mainGlobals mg → FnOk P w K mg base (L2.CX P w) (k + 1) fa fd ["script"] (spL K M) := by
  obtain ⟨a, oc, od, an, osl, kV, doc, pm, cdv, ct, e1, e2, e3, e4⟩ := df
  have hm1 := PySem.W.mg_of hK hN e1
  rw [hm1] at hfa; cases hfa
  refine ⟨_, fun s v => .of_eq (hb kV doc pm an cdv ct v), fun base hKb hNb => ?_⟩
  let G : Gb := ⟨P, w, K, mg, base, faOf Γ mg⟩
  have dfs := defs G rfl rfl rfl
  have gl := gls G rfl rfl rfl rfl
  have bl : ∀ x ∈ bnames, mg x = none := fun x hx => PySem.W.mg_none_of hK hN (bls x hx)
  exact law_imp (G := G) (RX := fun _ _ _ _ _ => False) (fn_step (G := G) (fun f x n hf => (dfs f x n hf).dbg) gl bl (fns_ok dfs gl bl k) (fun_mk (st := st) e2 e3 e4) (n := 1) rfl hF hd S hs hy hm) rfl law
/-! what stands in the module, by the written part alone -/
def isGd : U → Bool
  | .gd _ _ => true
  | _ => false
mutual
def StK (K : PySem.W.Frag) (Γ : Gt) (P : Params) : U → Value → Prop
  | .non, v => v = .none
  | .bl b, v => v = .bool b
  | .int i, v => ∃ t, v = .int i t
  | .str z, v => ∃ t, v = .str z t
  | .tup us, v => ∃ (a : Addr) (o : Obj) (its : Array Value) (n : Nat), v = .ref a ∧ K.lookup a = some o ∧ o.cls = .type "tuple" ∧ o.data = .seq its n ∧ its.size ≤ sizeLine ∧ StKs K Γ P us its.toList
  | .rl _, _ => False
  | .loc _, _ => False
  | .fn f, v => ∃ (x : Str) (m : Nat) (a : Addr), v = .ref a ∧ Γ.ft[f]? = some (x, m) ∧ PySem.W.nsIn K mainGlobals x = some (some (.ref a))
  | .gd ks us, v => ∃ (d : Addr) (es : Array DictEntry) (n : Nat), v = .ref d ∧ K.lookup d = some ⟨.type "dict", none, .dict es n, #[]⟩ ∧ (d == sysModules) = false ∧ ks.Nodup ∧ StE P ks es.toList ∧ StKs K Γ P us (es.toList.map (·.val))
def StKs (K : PySem.W.Frag) (Γ : Gt) (P : Params) : List U → List Value → Prop
  | [], vs => vs = []
  | u :: us, vs => ∃ v r, vs = v :: r ∧ StK K Γ P u v ∧ StKs K Γ P us r
def StE (P : Params) : List Str → List DictEntry → Prop
  | [], es => es = []
  | k :: ks, es => ∃ e r t, es = e :: r ∧ e.key = .str k t ∧ e.hash = PyData.keyHash P k ∧ StE P ks r
end
theorem StE.keys {P : Params} : ∀ {ks : List Str} {es : List DictEntry}, StE P ks es → PySem.W.KeysLit P es ∧ ks.length = es.length ∧ ∀ (i : Nat) (z : Str), ks[i]? = some z → ∃ e t, es[i]? = some e ∧ e.key = .str z t
  | [], es, h => by rw [StE] at h; subst h; exact ⟨trivial, rfl, fun i z e => by simp at e⟩
  | k :: ks, es, h => by
    rw [StE] at h
    obtain ⟨e, r, t, rfl, h1, h2, h3⟩ := h
    obtain ⟨g1, g2, g3⟩ := h3.keys
    refine ⟨⟨⟨k, t, h1, h2⟩, g1⟩, by simp [g2], fun i z hz => ?_⟩
    cases i with
    | zero => simp at hz; subst hz; exact ⟨e, t, rfl, h1⟩
    | succ i =>
      obtain ⟨e', t', q1, q2⟩ := g3 i z (by simpa using hz)
      exact ⟨e', t', by simpa using q1, q2⟩
theorem ns_find {K : PySem.W.Frag} {P : Params} {d : Addr} {es : Array DictEntry} {n : Nat} {ks : List Str} (hl : K.lookup d = some ⟨.type "dict", none, .dict es n, #[]⟩) (nd : ks.Nodup) (h : StE P ks es.toList) :
    (∀ z : Str, z ∉ ks → PySem.W.nsIn K d z = some none) ∧ ∀ (i : Nat) (z : Str), ks[i]? = some z → ∃ e, es.toList[i]? = some e ∧ PySem.W.nsIn K d z = some (some e.val) := by
  obtain ⟨g1, g2, g3⟩ := h.keys
  have nr : es.toList.any (·.refKey) = false := by
    rw [List.any_eq_false]
    intro e he
    obtain ⟨x, t, h1, _⟩ := g1.all e he
    unfold DictEntry.refKey
    rw [h1]; exact Bool.false_ne_true
  have isk : ∀ (i : Nat) (e : DictEntry) (z : Str), es.toList[i]? = some e → (e.key.isStr z = true ↔ ks[i]? = some z) := fun i e z he => by
    have hi : i < ks.length := by rw [g2]; exact (List.getElem?_eq_some_iff.mp he).1
    obtain ⟨e', t, h1, h2⟩ := g3 i ks[i] (List.getElem?_eq_getElem hi)
    rw [he] at h1; cases h1
    rw [h2, List.getElem?_eq_getElem hi]
    simp [Value.isStr]
  constructor
  · intro z hz
    unfold PySem.W.nsIn
    rw [hl]
    dsimp only
    have : es.toList.find? (·.key.isStr z) = none := by
      rw [List.find?_eq_none]
      intro e he hk
      obtain ⟨i, hi, e1⟩ := List.getElem_of_mem he
      have := (isk i e z (by rw [List.getElem?_eq_getElem hi, e1])).mp hk
      exact hz (List.mem_of_getElem? this)
    rw [this, nr]; rfl
  · intro i z hz
    obtain ⟨e, t, he, hk⟩ := g3 i z hz
    refine ⟨e, he, ?_⟩
    unfold PySem.W.nsIn
    rw [hl]
    dsimp only
    have : es.toList.find? (·.key.isStr z) = some e := by
      rw [List.find?_eq_some_iff_getElem]
      obtain ⟨hi, e1⟩ := List.getElem?_eq_some_iff.mp he
      refine ⟨(isk i e z he).mpr hz, i, hi, e1, fun j hj => ?_⟩
      have hj' : j < es.toList.length := by omega
      cases q : (es.toList[j]).key.isStr z with
      | false => rfl
      | true =>
        have := (isk j _ z (List.getElem?_eq_getElem hj')).mp q
        obtain ⟨a1, b1⟩ := List.getElem?_eq_some_iff.mp this
        obtain ⟨a2, b2⟩ := List.getElem?_eq_some_iff.mp hz
        have := (List.getElem_inj nd).mp (b1.trans b2.symm)
        omega
    rw [this]
mutual
theorem sta_of {G : Gb} {Γ : Gt} {h : Heap} (hK : G.K.In h) (hN : h.Ns mainGlobals G.mg) (hfa : G.fa = faOf Γ G.mg) : ∀ {u : U} {val : Value}, StK G.K Γ G.w.params u val → Sta G u val
  | .non, v, h => by rw [StK] at h; subst h; exact ⟨.non, rfl, fun _ _ => by rw [RV]⟩
  | .bl b, v, h => by rw [StK] at h; subst h; exact ⟨.bl b, rfl, fun _ _ => by rw [RV]⟩
  | .int i, v, h => by rw [StK] at h; obtain ⟨t, rfl⟩ := h; exact sta_int
  | .str z, v, h => by rw [StK] at h; obtain ⟨t, rfl⟩ := h; exact sta_str
  | .tup us, v, h => by
    rw [StK] at h
    obtain ⟨a, o, its, n, rfl, h1, h2, h3, h4, h5⟩ := h
    exact sta_tup h1 h2 h3 h4 (stas_of hK hN hfa h5)
  | .rl _, v, h => by rw [StK] at h; exact h.elim
  | .loc _, v, h => by rw [StK] at h; exact h.elim
  | .fn f, v, h => by
    rw [StK] at h
    obtain ⟨x, m, a, rfl, h1, h2⟩ := h
    refine sta_fn ?_
    rw [hfa]; unfold faOf; rw [h1]; dsimp only; rw [PySem.W.mg_of hK hN h2]
  | .gd ks us, v, h => by
    rw [StK] at h
    obtain ⟨d, es, n, rfl, h1, h2, h3, h4, h5⟩ := h
    obtain ⟨ws, g1, g2⟩ := (stas_of hK hN hfa h5).get
    obtain ⟨k1, k2, k3⟩ := h4.keys
    obtain ⟨f1, f2⟩ := ns_find h1 h3 h4
    refine ⟨.ref d, rfl, fun φ H => ?_⟩
    rw [RV]
    refine ⟨d, es, n, ws, rfl, ⟨h1, k1, h2⟩, g2 φ H, f1, fun i z hz => ?_⟩
    obtain ⟨e, he, hn⟩ := f2 i z hz
    have hm : (es.toList.map (·.val))[i]? = some e.val := by rw [List.getElem?_map, he]; rfl
    obtain ⟨v0, hv0, rv0⟩ := paired_getR g1 i _ hm
    exact ⟨e.val, v0, hn, hv0, rv0⟩
theorem stas_of {G : Gb} {Γ : Gt} {h : Heap} (hK : G.K.In h) (hN : h.Ns mainGlobals G.mg) (hfa : G.fa = faOf Γ G.mg) : ∀ {us : List U} {vals : List Value}, StKs G.K Γ G.w.params us vals → Stas G us vals
  | [], vs, h => by rw [StKs] at h; subst h; exact trivial
  | u :: us, vs, h => by
    rw [StKs] at h
    obtain ⟨v, r, rfl, h1, h2⟩ := h
    exact ⟨sta_of hK hN hfa h1, stas_of hK hN hfa h2⟩
end
/-- a constant as the top has left it -/
def GF (K : PySem.W.Frag) (Γ : Gt) (P : Params) (x : Str) (u : U) : Prop := ∃ val, PySem.W.nsIn K mainGlobals x = some (some val) ∧ StK K Γ P u val
theorem gl_of' {G : Gb} {Γ : Gt} {h : Heap} {x : Str} {u : U} (hK : G.K.In h) (hN : h.Ns mainGlobals G.mg) (hfa : G.fa = faOf Γ G.mg) (g : GF G.K Γ G.w.params x u) : ∃ v val, G.mg x = some val ∧ RelV v val ∧ ∀ φ H, RV G φ H u v :=
  let ⟨_, e, s⟩ := g; gl_sta hK hN e (sta_of hK hN hfa s)
section
variable {K : PySem.W.Frag} {Γ : Gt} {P : Params}
theorem DF.mk' {x : Str} {st : Stmt} {a : Addr} {oc : Value} {od an : Option Addr} {osl : Array (Option Value)} {kV doc pm cdv ct : Value} (e1 : PySem.W.nsIn K mainGlobals x = some (some (.ref a)))
    (e2 : K.lookup a = some ⟨oc, od, .func (PySem.W.fnOf x x (defArgs st) (defBody st) (defScope st) .none kV doc pm an cdv ct), osl⟩) (e3 : PySem.W.codeIn K cdv x = true) (e4 : PySem.W.keepIn K (.ref a) = true) : DF K x st :=
  ⟨a, oc, od, an, osl, kV, doc, pm, cdv, ct, e1, e2, e3, e4⟩
theorem StKs.nil' : StKs K Γ P [] [] := by rw [StKs]
theorem StKs.cons' {u : U} {us : List U} {v : Value} {vs : List Value} (h : StK K Γ P u v) (t : StKs K Γ P us vs) : StKs K Γ P (u :: us) (v :: vs) := by rw [StKs]; exact ⟨v, vs, rfl, h, t⟩
theorem StE.nil' : StE P [] [] := by rw [StE]
theorem StE.cons' {k : Str} {ks : List Str} {t : Tok} {v : Value} {es : List DictEntry} (h : StE P ks es) : StE P (k :: ks) (⟨PyData.keyHash P k, .str k t, v⟩ :: es) := by rw [StE]; exact ⟨_, es, t, rfl, rfl, rfl, h⟩
theorem StK.str' {z : Str} {t : Tok} : StK K Γ P (.str z) (.str z t) := by rw [StK]; exact ⟨t, rfl⟩
theorem StK.int' {z : Int} {t : Tok} : StK K Γ P (.int z) (.int z t) := by rw [StK]; exact ⟨t, rfl⟩
theorem StK.fn' {f : Nat} {x : Str} {m : Nat} {a : Addr} (h : Γ.ft[f]? = some (x, m)) (e : PySem.W.nsIn K mainGlobals x = some (some (.ref a))) : StK K Γ P (.fn f) (.ref a) := by rw [StK]; exact ⟨x, m, a, rfl, h, e⟩
theorem StK.tup' {us : List U} {a : Addr} {o : Obj} {its : Array Value} {n : Nat} (h1 : K.lookup a = some o) (h2 : o.cls = .type "tuple") (h3 : o.data = .seq its n) (h4 : its.size ≤ sizeLine) (h : StKs K Γ P us its.toList) : StK K Γ P (.tup us) (.ref a) := by
  rw [StK]; exact ⟨a, o, its, n, rfl, h1, h2, h3, h4, h⟩
theorem StK.gd' {ks : List Str} {us : List U} {d : Addr} {es : Array DictEntry} {n : Nat} (h1 : K.lookup d = some ⟨.type "dict", none, .dict es n, #[]⟩) (h2 : (d == sysModules) = false) (h3 : ks.Nodup) (h4 : StE P ks es.toList) (h5 : StKs K Γ P us (es.toList.map (·.val))) : StK K Γ P (.gd ks us) (.ref d) := by
  rw [StK]; exact ⟨d, es, n, rfl, h1, h2, h3, h4, h5⟩
theorem GF.mk' {x : Str} {u : U} {val : Value} (e : PySem.W.nsIn K mainGlobals x = some (some val)) (h : StK K Γ P u val) : GF K Γ P x u := ⟨val, e, h⟩
end
end DP
end
section
/-! DpW: plain lemmas about the evaluator: laps, what is left behind a call, the draws. -/
set_option linter.all false
set_option autoImplicit false
set_option maxRecDepth 100000
namespace DP
open PySem L2

/-! ### laps -/
theorem bindS_mono {α : Type} {r : Res α} {ρ : Ev} {f g : α → Store → Res Fl} (h : ∀ a μ, f a μ ≠ .no → g a μ = f a μ) : r.bindS ρ f ≠ .no → r.bindS ρ g = r.bindS ρ f := by
  cases r with
  | no => intro z; exact absurd rfl z
  | ok a μ => intro z; exact h a μ z
  | ex x μ => intro _; rfl
theorem lapE_mono {r : Res Fl} {f g : Ev → Store → Res Fl} (h : ∀ a μ, f a μ ≠ .no → g a μ = f a μ) : lapE r f ≠ .no → lapE r g = lapE r f := by
  intro z
  unfold lapE at z ⊢
  split <;> first | rfl | (apply h; exact z)
theorem whlL_succ {c : M Bool} {body : M Fl} : ∀ (n : Nat) (ρ : Ev) (μ : Store), whlL c body n ρ μ ≠ .no → whlL c body (n + 1) ρ μ = whlL c body n ρ μ
  | 0, ρ, μ, h => absurd rfl h
  | n + 1, ρ, μ, h => by
    rw [whlL, whlL]
    rw [whlL] at h
    refine bindS_mono (fun b μ1 hb => ?_) h
    cases b with
    | false => rfl
    | true => exact lapE_mono (fun ρ2 μ2 h2 => whlL_succ n ρ2 μ2 h2) hb
theorem whlL_le {c : M Bool} {body : M Fl} {n m : Nat} {ρ : Ev} {μ : Store} (h : whlL c body n ρ μ ≠ .no) (hm : n ≤ m) : whlL c body m ρ μ = whlL c body n ρ μ := by
  induction hm with
  | refl => rfl
  | step hm ih => rw [whlL_succ _ _ _ (by rw [ih]; exact h), ih]
/-- a while that some number of laps ends -/
theorem whl_eq {c : M Bool} {body : M Fl} {n : Nat} {ρ : Ev} {μ : Store} {r : Res Fl} (hn : n ≤ whlN) (h : whlL c body n ρ μ = r) (hr : r ≠ .no) : whl c body ρ μ = r := by
  unfold whl
  rw [whlL_le (by rw [h]; exact hr) hn, h]

/-! ### behind a call -/
theorem cln_app (μ l : Store) : cln μ (μ ++ l) = true := by
  unfold cln
  rw [List.all_eq_true]
  intro i hi
  have hi' : i < μ.length := List.mem_range.mp hi
  rw [List.getElem?_append_left hi']
  simp
theorem gc_app {μ l : Store} {u : U} (h : uLt μ.length u = true) : gc μ u (μ ++ l) = (u, μ) := by
  unfold gc
  rw [if_pos (cln_app μ l), if_pos h, List.take_left]
theorem gc_app' {μ μ1 l : Store} {u : U} (e : μ1 = μ ++ l) (h : uLt μ.length u = true) : gc μ u μ1 = (u, μ) := by rw [e]; exact gc_app h
theorem gc_self {μ : Store} {u : U} (h : uLt μ.length u = true) : gc μ u μ = (u, μ) := by
  have := gc_app (μ := μ) (l := []) h
  simpa using this
end DP
end
section
/-! DpX: the draws: what _law_pick answers lies below its bound. -/
set_option linter.all false
set_option autoImplicit false
set_option maxRecDepth 100000
namespace DP
open PySem L2
/-- the source of draws -/
def srcD (c : Nat) (l m t : Int) : List (U × U) := [(.str "cells", .loc c), (.str "left", .int l), (.str "mixed", .int m), (.str "turn", .int t)]
theorem g_cells {c : Nat} {l m t : Int} : dGet (srcD c l m t) (.str "cells") = some (.loc c) := rfl
theorem g_left {c : Nat} {l m t : Int} : dGet (srcD c l m t) (.str "left") = some (.int l) := rfl
theorem g_mixed {c : Nat} {l m t : Int} : dGet (srcD c l m t) (.str "mixed") = some (.int m) := rfl
theorem g_turn {c : Nat} {l m t : Int} : dGet (srcD c l m t) (.str "turn") = some (.int t) := rfl
theorem p_left {c : Nat} {l m t x : Int} : dPut (srcD c l m t) (.str "left") (.int x) = srcD c x m t := rfl
theorem p_mixed {c : Nat} {l m t x : Int} : dPut (srcD c l m t) (.str "mixed") (.int x) = srcD c l x t := rfl
theorem p_turn {c : Nat} {l m t x : Int} : dPut (srcD c l m t) (.str "turn") (.int x) = srcD c l m x := rfl
theorem k_cells : hkD (.str "cells") = true := by decide +kernel
theorem k_left : hkD (.str "left") = true := by decide +kernel
theorem k_mixed : hkD (.str "mixed") = true := by decide +kernel
theorem k_turn : hkD (.str "turn") = true := by decide +kernel
/-- the source stands at p, its cells at c -/
structure Src (μ : Store) (p c : Nat) : Prop where
  ne : p ≠ c
  ex : ∃ (xs : List Int) (l m t : Int), μ[p]? = some (.dct (srcD c l m t)) ∧ μ[c]? = some (.lst (xs.map .int)) ∧ xs.length < whlN
/-- all else is as it was -/
def Off (p c : Nat) (μ μ' : Store) : Prop := μ'.length = μ.length ∧ ∀ i, i ≠ p → i ≠ c → μ'[i]? = μ[i]?
theorem Off.refl {p c : Nat} {μ : Store} : Off p c μ μ := ⟨rfl, fun _ _ _ => rfl⟩
theorem Off.trans {p c : Nat} {μ μ1 μ2 : Store} (a : Off p c μ μ1) (b : Off p c μ1 μ2) : Off p c μ μ2 := ⟨b.1.trans a.1, fun i h1 h2 => (b.2 i h1 h2).trans (a.2 i h1 h2)⟩
theorem Off.setP {p c : Nat} {μ : Store} {x : Cell} : Off p c μ (μ.set p x) := ⟨by simp, fun i h1 h2 => by rw [List.getElem?_set, if_neg (fun z => h1 z.symm)]⟩
theorem Off.setC {p c : Nat} {μ : Store} {x : Cell} : Off p c μ (μ.set c x) := ⟨by simp, fun i h1 h2 => by rw [List.getElem?_set, if_neg (fun z => h2 z.symm)]⟩
theorem set_at {μ : Store} {p : Nat} {x y : Cell} (h : μ[p]? = some y) : (μ.set p x)[p]? = some x := by
  rw [List.getElem?_set, if_pos rfl, if_pos (List.getElem?_eq_some_iff.mp h).1]
theorem set_off {μ : Store} {p c : Nat} {x : Cell} (h : p ≠ c) : (μ.set p x)[c]? = μ[c]? := by rw [List.getElem?_set, if_neg h]

/-- reading a field of the source -/
theorem ix_src {C : Calls} {ρ : Ev} {μ : Store} {p c i : Nat} {l m t : Int} {k : Str} {v : U} (hi : ρ[i]? = some (some (.loc p))) (h : μ[p]? = some (.dct (srcD c l m t))) (hk : hkD (.str k) = true) (hg : dGet (srcD c l m t) (.str k) = some v) :
    (vb C (.ix (.var i) (.cst (.str k)))).v ρ μ = .ok (.u v) μ := by
  simp only [vb, VB.of, hi, Res.bind, ixD, T.dctOf, h, hk, hg, opt, if_true, Option.map_some]
/-- writing one -/
theorem ex_set {C : Calls} {ρ : Ev} {μ μ1 : Store} {p c i : Nat} {l m t : Int} {k : Str} {e : Sx} {u : U} (hi : ρ[i]? = some (some (.loc p))) (he : (vb C e).v ρ μ = .ok (.u u) μ1) (h : μ1[p]? = some (.dct (srcD c l m t))) (hk : hkD (.str k) = true) :
    ex C (.asx (.var i) (.cst (.str k)) e) ρ μ = .ok (.nx ρ) (μ1.set p (.dct (dPut (srcD c l m t) (.str k) u))) := by
  have hl : (srcD c l m t).length < sizeLine := by show 4 < sizeLine; decide
  simp only [ex, he, placed, plc, Res.bind, Res.bindS, vb, VB.of, hi, asxT, h]
  rw [if_pos ⟨hk, hl⟩]
theorem v_cst {C : Calls} {ρ : Ev} {μ : Store} {u : U} : (vb C (.cst u)).v ρ μ = .ok (.u u) μ := rfl
theorem v_var {C : Calls} {ρ : Ev} {μ : Store} {i : Nat} {u : U} (h : ρ[i]? = some (some u)) : (vb C (.var i)).v ρ μ = .ok (.u u) μ := by
  simp only [vb, VB.of, h]
theorem b_bop {C : Calls} {op : BoolOp} {e : Sx} {es : List Sx} : (vb C (.bop op e es)).b = evAll op (vb C e) (vbs C es) := by rw [vb]
def pickC : Sx := .bop .And (.cmp .Gt (.var 1) (.cst (.int 1))) [(.cmp .Lt (.ix (.var 0) (.cst (.str "left"))) (.cst (.int 2))), (.cmp .Gt (.b1 .len (.ix (.var 0) (.cst (.str "cells")))) (.cst (.int 0)))]
def pickB : List Ss := [(.asx (.var 0) (.cst (.str "left")) (.mt .pop (.ix (.var 0) (.cst (.str "cells"))) []))]
theorem pick_cond {C : Calls} {p c : Nat} {many l m t : Int} {a b : Option U} {xs : List U} {μ : Store} (hp : μ[p]? = some (.dct (srcD c l m t))) (hc : μ[c]? = some (.lst xs)) :
    (vb C pickC).b [some (.loc p), some (.int many), a, b] μ = .ok (decide (many > 1) && (decide (l < 2) && decide ((xs.length : Int) > 0))) μ := by
  have h1 : (vb C (.ix (.var 0) (.cst (.str "left")))).v [some (.loc p), some (.int many), a, b] μ = .ok (.u (.int l)) μ := ix_src rfl hp k_left g_left
  have h2 : (vb C (.ix (.var 0) (.cst (.str "cells")))).v [some (.loc p), some (.int many), a, b] μ = .ok (.u (.loc c)) μ := ix_src rfl hp k_cells g_cells
  have h3 : (vb C (.b1 .len (.ix (.var 0) (.cst (.str "cells"))))).v [some (.loc p), some (.int many), a, b] μ = .ok (.u (.int xs.length)) μ := by
    show ((vb C (.ix (.var 0) (.cst (.str "cells")))).v _ μ).bind _ = _
    rw [h2]
    simp only [Res.bind, b1T, T.dctOf, hc, lenT, T.seqOf, T.lstOf, Option.map_some, opt]
    rfl
  have b1 : (vb C (.cmp .Gt (.var 1) (.cst (.int 1)))).b [some (.loc p), some (.int many), a, b] μ = .ok (decide (many > 1)) μ := rfl
  have b2 : (vb C (.cmp .Lt (.ix (.var 0) (.cst (.str "left"))) (.cst (.int 2)))).b [some (.loc p), some (.int many), a, b] μ = .ok (decide (l < 2)) μ := by
    show ((vb C (.ix (.var 0) (.cst (.str "left")))).v _ μ).bind _ = _
    rw [h1]; rfl
  have b3 : (vb C (.cmp .Gt (.b1 .len (.ix (.var 0) (.cst (.str "cells")))) (.cst (.int 0)))).b [some (.loc p), some (.int many), a, b] μ = .ok (decide ((xs.length : Int) > 0)) μ := by
    show ((vb C (.b1 .len (.ix (.var 0) (.cst (.str "cells"))))).v _ μ).bind _ = _
    rw [h3]; rfl
  have e : (vb C pickC).b = evAll .And (vb C (.cmp .Gt (.var 1) (.cst (.int 1)))) (vbs C [(.cmp .Lt (.ix (.var 0) (.cst (.str "left"))) (.cst (.int 2))), (.cmp .Gt (.b1 .len (.ix (.var 0) (.cst (.str "cells")))) (.cst (.int 0)))]) := by
    exact b_bop
  rw [e]
  simp only [vbs]
  rw [evAll, b1]
  simp only [Res.bind]
  rw [evAll, b2]
  simp only [Res.bind]
  rw [evAll, b3]
  cases decide (many > 1) <;> cases decide (l < 2) <;> rfl
/-- the laps of the first while -/
theorem pick_while {C : Calls} {p c : Nat} {many : Int} {a b : Option U} (hne : p ≠ c) : ∀ (n : Nat) (xs : List Int) (l m t : Int) (μ : Store), xs.length = n → μ[p]? = some (.dct (srcD c l m t)) → μ[c]? = some (.lst (xs.map .int)) →
    ∃ (k : Nat) (l' : Int) (xs' : List Int) (μ' : Store), k ≤ n + 1 ∧ whlL (vb C pickC).b (exs C pickB) k [some (.loc p), some (.int many), a, b] μ = .ok (.nx [some (.loc p), some (.int many), a, b]) μ' ∧ μ'[p]? = some (.dct (srcD c l' m t)) ∧ μ'[c]? = some (.lst (xs'.map .int)) ∧ xs'.length ≤ n ∧ Off p c μ μ' := by
  intro n
  induction n with
  | zero =>
    intro xs l m t μ hx hp hc
    have : xs = [] := List.eq_nil_of_length_eq_zero hx
    subst this
    refine ⟨1, l, [], μ, Nat.le_refl _, ?_, hp, hc, Nat.le_refl _, Off.refl⟩
    rw [whlL, pick_cond hp hc]
    simp [Res.bindS]
  | succ n ih =>
    intro xs l m t μ hx hp hc
    cases hb : decide (many > 1) && (decide (l < 2) && decide (((xs.map U.int).length : Int) > 0)) with
    | false =>
      refine ⟨1, l, xs, μ, by omega, ?_, hp, hc, by omega, Off.refl⟩
      rw [whlL, pick_cond hp hc, hb]
      rfl
    | true =>
      have hlast : ∃ x, (xs.map U.int)[(xs.map U.int).length - 1]? = some (.int x) := by
        have hl : xs.length - 1 < xs.length := by omega
        exact ⟨xs[xs.length - 1], by rw [List.length_map, List.getElem?_map, List.getElem?_eq_getElem hl]; rfl⟩
      obtain ⟨x, hlast⟩ := hlast
      have hpop : (vb C (.mt .pop (.ix (.var 0) (.cst (.str "cells"))) [])).v [some (.loc p), some (.int many), a, b] μ = .ok (.u (.int x)) (μ.set c (.lst (xs.map U.int).dropLast)) := by
        show ((vb C (.ix (.var 0) (.cst (.str "cells")))).v _ μ).bind _ = _
        rw [ix_src (i := 0) rfl hp k_cells g_cells]
        simp only [Res.bind, tyT, hc, if_true, vbs, evs, mtT, mtL, hlast]
      have hp' : (μ.set c (.lst (xs.map U.int).dropLast))[p]? = some (.dct (srcD c l m t)) := by rw [set_off (Ne.symm hne)]; exact hp
      have hst := ex_set (C := C) (ρ := [some (.loc p), some (.int many), a, b]) (i := 0) rfl hpop hp' k_left
      rw [p_left] at hst
      have hp2 := set_at (x := .dct (srcD c x m t)) hp'
      have hc2 : ((μ.set c (.lst (xs.map U.int).dropLast)).set p (.dct (srcD c x m t)))[c]? = some (.lst (xs.dropLast.map .int)) := by
        rw [set_off hne, set_at hc, List.map_dropLast]
      obtain ⟨k, l', xs', μ', h0, h1, h2, h3, h4, h5⟩ := ih xs.dropLast x m t _ (by simp [hx]) hp2 hc2
      refine ⟨k + 1, l', xs', μ', by omega, ?_, h2, h3, by omega, (Off.setC.trans Off.setP).trans h5⟩
      rw [whlL, pick_cond hp hc, hb]
      show lapE (seqE (ex C (.asx (.var 0) (.cst (.str "left")) (.mt .pop (.ix (.var 0) (.cst (.str "cells"))) [])) _ μ) _) _ = _
      rw [hst]
      exact h1
def pickR : List Ss := [(.asg (.nm 2) (.ix (.var 0) (.cst (.str "left")))), (.ifs (.bop .Or (.cmp .Lt (.var 1) (.cst (.int 2))) [(.cmp .Gt (.var 2) (.cst (.int 1)))]) [(.asx (.var 0) (.cst (.str "left")) (.bin .FloorDiv (.var 2) (.b2 .max (.cst (.int 1)) (.var 1)))), (.ret (.bin .Mod (.b1 .int (.var 2)) (.b2 .max (.cst (.int 1)) (.var 1))))] []), (.asx (.var 0) (.cst (.str "turn")) (.bin .Add (.ix (.var 0) (.cst (.str "turn"))) (.cst (.int 1)))), (.asg (.nm 3) (.bin .Mod (.b1 .int (.bin .Add (.ix (.var 0) (.cst (.str "mixed"))) (.bin .Mult (.ix (.var 0) (.cst (.str "turn"))) (.cst (.int 104729))))) (.cst (.int 998244353)))), (.asg (.nm 3) (.bin .Mod (.b1 .int (.bin .Add (.bin .Mult (.var 3) (.var 3)) (.bin .Mult (.ix (.var 0) (.cst (.str "turn"))) (.cst (.int 17))))) (.cst (.int 2147483647)))), (.asx (.var 0) (.cst (.str "mixed")) (.var 3)), (.ret (.bin .Mod (.b1 .int (.bin .FloorDiv (.var 3) (.cst (.int 16)))) (.var 1)))]
/-- the def _law_pick -/
def pickFd : Fd := ⟨2, 4, .whl pickC pickB :: pickR⟩
theorem gc_len {μ μ1 : Store} {u : U} (h : μ1.length = μ.length) (hu : uLt μ.length u = true) : gc μ u μ1 = (u, μ1) := by
  unfold gc
  by_cases hc : cln μ μ1 = true
  · rw [if_pos hc, if_pos hu, ← h, List.take_length]
  · rw [if_neg hc]
theorem v_bin {C : Calls} {op : Operator} {a b : Sx} {ρ : Ev} {μ μ1 μ2 : Store} {x y t : T} (h1 : (vb C a).v ρ μ = .ok x μ1) (h2 : (vb C b).v ρ μ1 = .ok y μ2) (h3 : binT op x y μ2 = some t) : (vb C (.bin op a b)).v ρ μ = .ok t μ2 := by
  simp only [vb, VB.of, h1, h2, h3, Res.bind, opt]
theorem v_b1 {C : Calls} {o : B1} {a : Sx} {ρ : Ev} {μ μ1 : Store} {x t : T} (h1 : (vb C a).v ρ μ = .ok x μ1) (h3 : b1T o x μ1 = some t) : (vb C (.b1 o a)).v ρ μ = .ok t μ1 := by
  simp only [vb, VB.of, h1, h3, Res.bind, opt]
theorem v_b2 {C : Calls} {o : B2} {a b : Sx} {ρ : Ev} {μ μ1 μ2 : Store} {x y t : T} (h1 : (vb C a).v ρ μ = .ok x μ1) (h2 : (vb C b).v ρ μ1 = .ok y μ2) (h3 : b2T o x y = some t) : (vb C (.b2 o a b)).v ρ μ = .ok t μ2 := by
  simp only [vb, VB.of, h1, h2, h3, Res.bind, opt]
theorem ex_asg {C : Calls} {i : Nat} {e : Sx} {ρ : Ev} {μ μ1 : Store} {u : U} (h : (vb C e).v ρ μ = .ok (.u u) μ1) (hi : i < ρ.length) : ex C (.asg (.nm i) e) ρ μ = .ok (.nx (ρ.set i (some u))) μ1 := by
  simp only [ex, h, Res.bindS, toPlc, plc, asgT]
  rw [if_pos hi]
theorem ex_ret {C : Calls} {e : Sx} {ρ : Ev} {μ μ1 : Store} {u : U} (h : (vb C e).v ρ μ = .ok (.u u) μ1) : ex C (.ret e) ρ μ = .ok (.rt u) μ1 := by
  simp only [ex, h, placed, plc, Res.bind, Res.bindS]
theorem exs_cons {C : Calls} {st : Ss} {ss : List Ss} {ρ ρ1 : Ev} {μ μ1 : Store} (h : ex C st ρ μ = .ok (.nx ρ1) μ1) : exs C (st :: ss) ρ μ = exs C ss ρ1 μ1 := by
  rw [exs, h]; rfl
theorem exs_rt {C : Calls} {st : Ss} {ss : List Ss} {ρ : Ev} {μ μ1 : Store} {u : U} (h : ex C st ρ μ = .ok (.rt u) μ1) : exs C (st :: ss) ρ μ = .ok (.rt u) μ1 := by
  rw [exs, h]; rfl
theorem max_of {many : Int} (h : 1 ≤ many) : (if many > 1 then many else 1) = many := by split <;> omega
theorem pick_rest {C : Calls} {p c : Nat} {many l m t : Int} {xs : List Int} {μ : Store} (hne : p ≠ c) (hp : μ[p]? = some (.dct (srcD c l m t))) (hc : μ[c]? = some (.lst (xs.map .int))) (h1 : 1 ≤ many) (h2 : many < 1073741824) :
    ∃ (r l' m' t' : Int) (μ' : Store), exs C pickR [some (.loc p), some (.int many), none, none] μ = .ok (.rt (.int r)) μ' ∧ 0 ≤ r ∧ r < many ∧ μ'[p]? = some (.dct (srcD c l' m' t')) ∧ μ'[c]? = some (.lst (xs.map .int)) ∧ Off p c μ μ' := by
  have s1 := ex_asg (C := C) (i := 2) (ρ := [some (.loc p), some (.int many), none, none]) (ix_src (i := 0) (C := C) rfl hp k_left g_left) (by simp)
  have vmax : ∀ (a b : Option U) (μ : Store), (vb C (.b2 .max (.cst (.int 1)) (.var 1))).v [some (.loc p), some (.int many), a, b] μ = .ok (.u (.int many)) μ := fun a b μ => by
    refine v_b2 v_cst (v_var rfl) ?_
    show some (T.u (.int (if many > 1 then many else 1))) = _
    rw [max_of h1]
  have hb : (vb C (.bop .Or (.cmp .Lt (.var 1) (.cst (.int 2))) [(.cmp .Gt (.var 2) (.cst (.int 1)))])).b [some (.loc p), some (.int many), some (.int l), none] μ = .ok (decide (many < 2) || decide (l > 1)) μ := by
    rw [b_bop]
    simp only [vbs]
    have b1 : (vb C (.cmp .Lt (.var 1) (.cst (.int 2)))).b [some (.loc p), some (.int many), some (.int l), none] μ = .ok (decide (many < 2)) μ := rfl
    have b2 : (vb C (.cmp .Gt (.var 2) (.cst (.int 1)))).b [some (.loc p), some (.int many), some (.int l), none] μ = .ok (decide (l > 1)) μ := rfl
    rw [evAll, b1]
    simp only [Res.bind]
    cases decide (many < 2) with
    | true => rfl
    | false => simp only [evAll, b2, Bool.false_or]
  unfold pickR
  rw [exs_cons s1]
  show ∃ r l' m' t' μ', exs C (_ :: _) [some (.loc p), some (.int many), some (.int l), none] μ = _ ∧ _
  cases hd : (decide (many < 2) || decide (l > 1)) with
  | true =>
    have d1 : (vb C (.bin .FloorDiv (.var 2) (.b2 .max (.cst (.int 1)) (.var 1)))).v [some (.loc p), some (.int many), some (.int l), none] μ = .ok (.u (.int (l / many))) μ := by
      refine v_bin (v_var rfl) (vmax _ _ μ) ?_
      show (if 0 < many ∧ many < 1073741824 then _ else _) = _
      rw [if_pos ⟨by omega, h2⟩]
    have s2 := ex_set (C := C) (ρ := [some (.loc p), some (.int many), some (.int l), none]) (i := 0) rfl d1 hp k_left
    rw [p_left] at s2
    have d2 : ∀ μ : Store, (vb C (.bin .Mod (.b1 .int (.var 2)) (.b2 .max (.cst (.int 1)) (.var 1)))).v [some (.loc p), some (.int many), some (.int l), none] μ = .ok (.u (.int (l % many))) μ := fun μ => by
      refine v_bin (v_b1 (v_var rfl) rfl) (vmax _ _ μ) ?_
      show (if 0 < many then _ else _) = _
      rw [if_pos (by omega)]
    refine ⟨l % many, l / many, m, t, μ.set p (.dct (srcD c (l / many) m t)), ?_, Int.emod_nonneg _ (by omega), Int.emod_lt_of_pos _ (by omega), set_at hp, by rw [set_off hne]; exact hc, Off.setP⟩
    refine exs_rt ?_
    rw [ex, hb]
    simp only [Res.bindS, hd, if_true]
    rw [exs_cons s2, exs_rt (ex_ret (d2 _))]
  | false =>
    have s2 : ex C (.ifs (.bop .Or (.cmp .Lt (.var 1) (.cst (.int 2))) [(.cmp .Gt (.var 2) (.cst (.int 1)))]) [(.asx (.var 0) (.cst (.str "left")) (.bin .FloorDiv (.var 2) (.b2 .max (.cst (.int 1)) (.var 1)))), (.ret (.bin .Mod (.b1 .int (.var 2)) (.b2 .max (.cst (.int 1)) (.var 1))))] []) [some (.loc p), some (.int many), some (.int l), none] μ = .ok (.nx [some (.loc p), some (.int many), some (.int l), none]) μ := by
      rw [ex, hb]
      simp only [Res.bindS, hd, Bool.false_eq_true, if_false]
      rw [exs]
    rw [exs_cons s2]
    have s3 := ex_set (C := C) (ρ := [some (.loc p), some (.int many), some (.int l), none]) (i := 0) (u := .int (t + 1)) (e := .bin .Add (.ix (.var 0) (.cst (.str "turn"))) (.cst (.int 1))) rfl (v_bin (ix_src (i := 0) rfl hp k_turn g_turn) v_cst rfl) hp k_turn
    rw [p_turn] at s3
    rw [exs_cons s3]
    have hp1 := set_at (x := .dct (srcD c l m (t + 1))) hp
    have e4 : (vb C (.bin .Mod (.b1 .int (.bin .Add (.ix (.var 0) (.cst (.str "mixed"))) (.bin .Mult (.ix (.var 0) (.cst (.str "turn"))) (.cst (.int 104729))))) (.cst (.int 998244353)))).v [some (.loc p), some (.int many), some (.int l), none] (μ.set p (.dct (srcD c l m (t + 1)))) = .ok (.u (.int ((m + (t + 1) * 104729) % 998244353))) (μ.set p (.dct (srcD c l m (t + 1)))) := by
      refine v_bin (v_b1 (v_bin (ix_src (i := 0) rfl hp1 k_mixed g_mixed) (v_bin (ix_src (i := 0) rfl hp1 k_turn g_turn) v_cst (t := .u (.int ((t + 1) * 104729))) ?_) rfl) rfl) v_cst rfl
      show (if i64 (t + 1) || i64 104729 then _ else _) = _
      rw [show i64 104729 = true from by decide, Bool.or_true, if_pos rfl]
    have s4 := ex_asg (C := C) (i := 3) e4 (by simp)
    rw [exs_cons s4]
    show ∃ r l' m' t' μ', exs C (_ :: _) [some (.loc p), some (.int many), some (.int l), some (.int ((m + (t + 1) * 104729) % 998244353))] _ = _ ∧ _
    generalize hm1 : (m + (t + 1) * 104729) % 998244353 = m1
    have hm1b : 0 ≤ m1 ∧ m1 < 998244353 := by rw [← hm1]; exact ⟨Int.emod_nonneg _ (by decide), Int.emod_lt_of_pos _ (by decide)⟩
    have e5 : (vb C (.bin .Mod (.b1 .int (.bin .Add (.bin .Mult (.var 3) (.var 3)) (.bin .Mult (.ix (.var 0) (.cst (.str "turn"))) (.cst (.int 17))))) (.cst (.int 2147483647)))).v [some (.loc p), some (.int many), some (.int l), some (.int m1)] (μ.set p (.dct (srcD c l m (t + 1)))) = .ok (.u (.int ((m1 * m1 + (t + 1) * 17) % 2147483647))) (μ.set p (.dct (srcD c l m (t + 1)))) := by
      refine v_bin (v_b1 (v_bin (v_bin (v_var rfl) (v_var rfl) (t := .u (.int (m1 * m1))) ?_) (v_bin (ix_src (i := 0) rfl hp1 k_turn g_turn) v_cst (t := .u (.int ((t + 1) * 17))) ?_) rfl) rfl) v_cst rfl
      · show (if i64 m1 || i64 m1 then _ else _) = _
        rw [if_pos]
        have : i64 m1 = true := by
          simp only [i64, Bool.and_eq_true, decide_eq_true_eq]
          constructor <;> omega
        rw [this]; rfl
      · show (if i64 (t + 1) || i64 17 then _ else _) = _
        rw [show i64 17 = true from by decide, Bool.or_true, if_pos rfl]
    have s5 := ex_asg (C := C) (i := 3) e5 (by simp)
    rw [exs_cons s5]
    show ∃ r l' m' t' μ', exs C (_ :: _) [some (.loc p), some (.int many), some (.int l), some (.int ((m1 * m1 + (t + 1) * 17) % 2147483647))] _ = _ ∧ _
    generalize (m1 * m1 + (t + 1) * 17) % 2147483647 = m2
    have s6 := ex_set (C := C) (ρ := [some (.loc p), some (.int many), some (.int l), some (.int m2)]) (i := 0) (e := .var 3) rfl (v_var rfl) hp1 k_mixed
    rw [p_mixed] at s6
    rw [exs_cons s6]
    refine ⟨m2 / 16 % many, l, m2, t + 1, _, ?_, Int.emod_nonneg _ (by omega), Int.emod_lt_of_pos _ (by omega), set_at hp1, by rw [set_off hne, set_off hne]; exact hc, Off.setP.trans Off.setP⟩
    refine exs_rt (ex_ret (v_bin (v_b1 (v_bin (v_var rfl) v_cst (t := .u (.int (m2 / 16))) rfl) rfl) (v_var rfl) ?_))
    show (if 0 < many then _ else _) = _
    rw [if_pos (by omega)]
/-- THE CONTRACT of _law_pick -/
theorem pick_ok {F : Nat → Option Fd} {f k : Nat} (hF : F f = some pickFd) {μ : Store} {p c : Nat} (s : Src μ p c) {many : Int} (h1 : 1 ≤ many) (h2 : many < 1073741824) :
    ∃ (r : Int) (μ' : Store), evF F (k + 1) f [.loc p, .int many] μ = .ok (.int r) μ' ∧ 0 ≤ r ∧ r < many ∧ Src μ' p c ∧ Off p c μ μ' := by
  obtain ⟨hne, xs, l, m, t, hp, hc, hz⟩ := s
  obtain ⟨n, l1, xs1, μ1, g0, g1, g2, g3, g4, g5⟩ := pick_while (C := evF F k) (many := many) (a := none) (b := none) hne xs.length xs l m t μ rfl hp hc
  obtain ⟨r, l2, m2, t2, μ2, q1, q2, q3, q4, q5, q6⟩ := pick_rest (C := evF F k) hne g2 g3 h1 h2
  refine ⟨r, μ2, ?_, q2, q3, ⟨hne, xs1, l2, m2, t2, q4, q5, by omega⟩, g5.trans q6⟩
  have hb : exs (evF F k) pickFd.body [some (.loc p), some (.int many), none, none] μ = .ok (.rt (.int r)) μ2 := by
    show exs (evF F k) (.whl pickC pickB :: pickR) _ μ = _
    rw [exs_cons (ρ1 := [some (.loc p), some (.int many), none, none]) (μ1 := μ1)]
    · exact q1
    · rw [ex]
      exact whl_eq (by omega) g1 (fun z => by cases z)
  simp only [evF, hF]
  show (match exs (evF F k) pickFd.body [some (.loc p), some (.int many), none, none] μ with | .ok (.nx _) μ1 => _ | .ok (.rt u) μ1 => _ | .ok (.xx x _) μ1 => _ | _ => _) = _
  rw [hb]
  show Res.ok (gc μ (.int r) μ2).1 (gc μ (.int r) μ2).2 = _
  rw [gc_len (g5.trans q6).1 rfl]
end DP
end
section
/-! DpY: plain lemmas about calls, comprehensions, joins. -/
set_option linter.all false
set_option autoImplicit false
set_option maxRecDepth 100000
namespace DP
open PySem L2

theorem evF_eq {F : Nat → Option Fd} {f k : Nat} {fd : Fd} {us : List U} {μ μ1 l : Store} {u : U} {ρ : Ev} (hF : F f = some fd) (hn : us.length = fd.pars) (hρ : ρ = us.map some ++ List.replicate (fd.slots - fd.pars) none) (hb : exs (evF F k) fd.body ρ μ = .ok (.rt u) μ1) (hμ : μ1 = μ ++ l) (hu : uLt μ.length u = true) :
    evF F (k + 1) f us μ = .ok u μ := by
  subst hρ
  simp only [evF, hF]
  rw [if_pos hn, hb]
  show Res.ok (gc μ u μ1).1 (gc μ u μ1).2 = _
  rw [gc_app' hμ hu]
/-- one statement that returns -/
theorem exs_one {C : Calls} {e : Sx} {ρ : Ev} {μ μ1 : Store} {u : U} (h : (vb C e).v ρ μ = .ok (.u u) μ1) : exs C [.ret e] ρ μ = .ok (.rt u) μ1 := exs_rt (ex_ret h)
/-- a comprehension whose items leave the store as it is -/
theorem lc_pure {tg : Tg} {x : Itm} {ρ : Ev} {fe : Ev → Store → Res T} {g : U → U} {μ : Store} (hx : x.ok μ = true) : ∀ (us : List U) (acc : List U), (∀ u ∈ us, ∃ ρ', asgT tg u μ ρ = some ρ' ∧ fe ρ' μ = .ok (.u (g u)) μ) → acc.length + us.length ≤ sizeLine →
    lcLoop tg x ρ (evIfs []) fe us μ acc = .ok (.l (acc ++ us.map g)) μ
  | [], acc, _, _ => by rw [lcLoop, if_pos hx]; simp
  | u :: us, acc, h, hl => by
    obtain ⟨ρ', h1, h2⟩ := h u List.mem_cons_self
    rw [List.length_cons] at hl
    rw [lcLoop, if_pos hx, h1]
    simp only [evIfs, Res.bind, if_true, placed, h2, plc]
    rw [if_pos (by omega), lc_pure hx us _ (fun v hv => h v (List.mem_cons_of_mem _ hv)) (by simp; omega)]
    simp
theorem v_lc {C : Calls} {vs : List Nat} {elt : Sx} {tg : Tg} {e : Sx} {ρ : Ev} {μ μ1 : Store} {t : T} {x : Itm} {g : U → U} (he : (vb C e).v ρ μ = .ok t μ1) (hx : itmOf t μ1 = some x) (ok : x.ok μ1 = true)
    (h : ∀ u ∈ x.us, ∃ ρ', asgT tg u μ1 (wipeE ρ vs) = some ρ' ∧ (vb C elt).v ρ' μ1 = .ok (.u (g u)) μ1) (hl : x.us.length ≤ sizeLine) : (vb C (.lc vs elt tg (.pl e) [])).v ρ μ = .ok (.l (x.us.map g)) μ1 := by
  have := lc_pure (tg := tg) (x := x) (ρ := wipeE ρ vs) (fe := (vb C elt).v) (g := g) ok x.us [] h (by simpa using hl)
  rw [vb]
  simp only [VB.of, evI, he, Res.bind, hx, vbs]
  rw [this]
  simp [noEx]
theorem strsOf_map : ∀ ss : List Str, strsOf (ss.map U.str) = some ss
  | [] => rfl
  | s :: ss => by simp [strsOf, strsOf_map ss]
/-- room for a join -/
def JoinFit (z : Str) (ss : List Str) : Prop := (ss.map (·.length)).sum + ss.length * z.length ≤ 16777216
theorem v_join {C : Calls} {z : Str} {a : Sx} {ρ : Ev} {μ μ1 : Store} {t : T} {ss : List Str} (h : (vb C a).v ρ μ = .ok t μ1) (hs : t.seqOf μ1 = some (ss.map U.str)) (hz : JoinFit z ss) :
    (vb C (.mt1 .join (.cst (.str z)) a)).v ρ μ = .ok (.u (.str (Txt.join z ss))) μ1 := by
  rw [vb]
  simp only [VB.of, v_cst, Res.bind, tyT, if_true, h, mt1T, hs, strsOf_map, joinQ_eq]
  exact if_pos hz
/-- a plain text or a small number, as str() tells it -/
def txU : U → Option Str
  | .str x => some x
  | .int i => if i.natAbs.log2 < 1920 then some (Str.ofString (toString i)) else none
  | _ => none
def txs : List U → Option (List Str)
  | [] => some []
  | u :: us => match txU u, txs us with
    | some x, some xs => some (x :: xs)
    | _, _ => none
theorem txs_all : ∀ {us : List U} {ss : List Str}, txs us = some ss → (∀ u ∈ us, ∃ x, txU u = some x) ∧ us.map (fun u => U.str ((txU u).getD Str.empty)) = ss.map U.str
  | [], ss, h => by simp only [txs, Option.some.injEq] at h; subst h; exact ⟨(fun _ h => nomatch h), rfl⟩
  | u :: us, ss, h => by
    simp only [txs] at h
    split at h
    · rename_i x xs h1 h2
      cases h
      obtain ⟨g1, g2⟩ := txs_all h2
      refine ⟨fun v hv => ?_, by simp [h1, g2]⟩
      rcases List.mem_cons.mp hv with rfl | hv
      · exact ⟨x, h1⟩
      · exact g1 v hv
    · cases h
theorem v_str {C : Calls} {a : Sx} {ρ : Ev} {μ μ1 : Store} {u : U} {x : Str} (h : (vb C a).v ρ μ = .ok (.u u) μ1) (hx : txU u = some x) : (vb C (.b1 .str a)).v ρ μ = .ok (.u (.str x)) μ1 := by
  refine v_b1 h ?_
  cases u <;> simp only [txU] at hx <;> first | (cases hx; done) | skip
  · rename_i i
    split at hx
    · rename_i hz
      cases hx
      show strT (.u (.int i)) = _
      simp only [strT]; rw [if_pos hz]
    · cases hx
  · cases hx; rfl
theorem v_call {C : Calls} {f : Nat} {es : List Sx} {ρ : Ev} {μ μ1 μ2 : Store} {us : List U} {u : U} (h : evs (vbs C es) ρ μ = .ok us μ1) (hc : C f us μ1 = .ok u μ2) : (vb C (.call f es)).v ρ μ = .ok (.u u) μ2 := by
  rw [vb]
  simp only [VB.of, h, hc, Res.bind]
theorem evs_u {C : Calls} {e : Sx} {es : List Sx} {ρ : Ev} {μ μ1 μ2 : Store} {u : U} {us : List U} (h : (vb C e).v ρ μ = .ok (.u u) μ1) (t : evs (vbs C es) ρ μ1 = .ok us μ2) : evs (vbs C (e :: es)) ρ μ = .ok (u :: us) μ2 := by
  simp only [vbs, evs, placed, h, Res.bind, plc, t]
theorem evs_l {C : Calls} {e : Sx} {es : List Sx} {ρ : Ev} {μ μ1 μ2 : Store} {xs us : List U} (h : (vb C e).v ρ μ = .ok (.l xs) μ1) (t : evs (vbs C es) ρ (μ1 ++ [.lst xs]) = .ok us μ2) : evs (vbs C (e :: es)) ρ μ = .ok (.loc μ1.length :: us) μ2 := by
  simp only [vbs, evs, placed, h, Res.bind, plc, t]
theorem evs_nil {C : Calls} {ρ : Ev} {μ : Store} : evs (vbs C []) ρ μ = .ok [] μ := rfl
theorem v_ite {C : Calls} {c a b : Sx} {ρ : Ev} {μ μ1 : Store} {t : Bool} {r : Res T} (h : (vb C c).b ρ μ = .ok t μ1) (hr : (if t then (vb C a).v ρ μ1 else (vb C b).v ρ μ1) = r) : (vb C (.ite c a b)).v ρ μ = r := by
  rw [vb]
  simp only [h, Res.bind]
  exact hr
theorem eqUs_nil (us : List U) : eqUs us [] = us.isEmpty := by cases us <;> rfl
/-- e != () -/
theorem b_neNil {C : Calls} {a : Sx} {ρ : Ev} {μ μ1 : Store} {us : List U} (h : (vb C a).v ρ μ = .ok (.u (.tup us)) μ1) (hd : dOk 50 (.tup us) = true) : (vb C (.cmp .NotEq a (.tup []))).b ρ μ = .ok (!us.isEmpty) μ1 := by
  have h2 : (vb C (.tup [])).v ρ μ1 = .ok (.u (.tup [])) μ1 := by
    rw [vb]; simp only [VB.of, vbs, evs, Res.bind]
    exact if_pos (Nat.zero_le _)
  rw [vb]
  simp only [h, h2, Res.bind]
  show optB (neT (.u (.tup us)) (.u (.tup [])) μ1) μ1 = _
  have e : neT (.u (.tup us)) (.u (.tup [])) μ1 = some (!us.isEmpty) := by
    unfold neT
    show (match (T.u (.tup us)).q μ1, (T.u (.tup [])).q μ1 with | some a, some b => some (!eqQ a b) | _, _ => none) = _
    have q1 : (T.u (.tup us)).q μ1 = some (.u (.tup us)) := by
      show (if dOk 50 (.tup us) then some (QT.u (.tup us)) else none) = _
      rw [if_pos hd]
    have q2 : (T.u (.tup [])).q μ1 = some (.u (.tup [])) := rfl
    rw [q1, q2]
    show some (!eqUs us []) = _
    rw [eqUs_nil]
  rw [e]; rfl
/-- e is None -/
theorem b_isNon {C : Calls} {a : Sx} {ρ : Ev} {μ μ1 : Store} {u : U} (h : (vb C a).v ρ μ = .ok (.u u) μ1) : (vb C (.cmp .Is a (.cst .non))).b ρ μ = .ok (isNon (.u u)) μ1 := by
  rw [vb]
  simp only [h, v_cst, Res.bind]
  rfl
/-- the store grows by what was made on the way -/
theorem len_app (μ l : Store) : (μ ++ l).length = μ.length + l.length := List.length_append
theorem at_new {μ : Store} {c : Cell} : (μ ++ [c])[μ.length]? = some c := by simp
end DP
end
section
/-! DpZ: the evaluator moved behind other cells: what it does on a store it does behind any store. (in work) -/
set_option linter.all false
set_option autoImplicit false
set_option maxRecDepth 100000
namespace DP
open PySem L2

mutual
/-- cells counted from d on -/
def sh (d : Nat) : U → U
  | .non => .non
  | .bl b => .bl b
  | .int i => .int i
  | .str x => .str x
  | .tup us => .tup (shs d us)
  | .rl us => .rl (shs d us)
  | .loc n => .loc (d + n)
  | .fn g => .fn g
  | .gd ks us => .gd ks (shs d us)
def shs (d : Nat) : List U → List U
  | [] => []
  | u :: us => sh d u :: shs d us
end
theorem shs_map (d : Nat) : ∀ us : List U, shs d us = us.map (sh d)
  | [] => rfl
  | u :: us => by rw [shs, shs_map d us]; rfl
mutual
theorem sh_nk (d : Nat) : ∀ u : U, nk (sh d u) = nk u
  | .non => rfl
  | .bl b => rfl
  | .int i => rfl
  | .str x => rfl
  | .tup us => by rw [sh, nk, nk, shs_nk d us]
  | .rl us => rfl
  | .loc n => rfl
  | .fn g => rfl
  | .gd ks us => rfl
theorem shs_nk (d : Nat) : ∀ us : List U, nks (shs d us) = nks us
  | [] => rfl
  | u :: us => by rw [shs, nks, nks, sh_nk d u, shs_nk d us]
end
mutual
theorem sh_hk (d : Nat) : ∀ u : U, hk (sh d u) = hk u
  | .non => rfl
  | .bl b => rfl
  | .int i => rfl
  | .str x => rfl
  | .tup us => by rw [sh, hk, hk, shs_hk d us]
  | .rl us => rfl
  | .loc n => rfl
  | .fn g => rfl
  | .gd ks us => rfl
theorem shs_hk (d : Nat) : ∀ us : List U, hks (shs d us) = hks us
  | [] => rfl
  | u :: us => by rw [shs, hks, hks, sh_hk d u, shs_hk d us]
end
theorem sh_hkD (d : Nat) (u : U) : hkD (sh d u) = hkD u := by unfold hkD; rw [sh_hk, sh_nk]
mutual
theorem sh_inj (d : Nat) : ∀ {u v : U}, sh d u = sh d v → u = v
  | .non, v, h => by cases v <;> simp_all [sh]
  | .bl b, v, h => by cases v <;> simp_all [sh]
  | .int i, v, h => by cases v <;> simp_all [sh]
  | .str x, v, h => by cases v <;> simp_all [sh]
  | .tup us, v, h => by
    cases v with
    | tup vs => simp only [sh, U.tup.injEq] at h; rw [shs_inj d h]
    | _ => simp [sh] at h
  | .rl us, v, h => by
    cases v with
    | rl vs => simp only [sh, U.rl.injEq] at h; rw [shs_inj d h]
    | _ => simp [sh] at h
  | .loc n, v, h => by
    cases v with
    | loc m => simp only [sh, U.loc.injEq] at h; rw [show n = m by omega]
    | _ => simp [sh] at h
  | .fn g, v, h => by cases v <;> simp_all [sh]
  | .gd ks us, v, h => by
    cases v with
    | gd ls vs => simp only [sh, U.gd.injEq] at h; rw [h.1, shs_inj d h.2]
    | _ => simp [sh] at h
theorem shs_inj (d : Nat) : ∀ {us vs : List U}, shs d us = shs d vs → us = vs
  | [], vs, h => by cases vs <;> simp_all [shs]
  | u :: us, vs, h => by
    cases vs with
    | nil => simp [shs] at h
    | cons v vs => simp only [shs, List.cons.injEq] at h; rw [sh_inj d h.1, shs_inj d h.2]
end
mutual
/-- data has no cells -/
theorem sh_d (d : Nat) : ∀ {n : Nat} {u : U}, dOk n u = true → sh d u = u
  | n, .non, _ => rfl
  | n, .bl b, _ => rfl
  | n, .int i, _ => rfl
  | n, .str x, _ => rfl
  | 0, .tup us, h => by simp [dOk] at h
  | n + 1, .tup us, h => by rw [sh, shs_d d (n := n) (by simpa [dOk] using h)]
  | n, .rl us, h => by simp [dOk] at h
  | n, .loc m, h => by simp [dOk] at h
  | n, .fn g, h => rfl
  | n, .gd ks us, h => by simp [dOk] at h
theorem shs_d (d : Nat) : ∀ {n : Nat} {us : List U}, dOks n us = true → shs d us = us
  | n, [], _ => rfl
  | n, u :: us, h => by
    simp only [dOks, Bool.and_eq_true] at h
    rw [shs, sh_d d h.1, shs_d d h.2]
end
def shC (d : Nat) : Cell → Cell
  | .lst us => .lst (shs d us)
  | .dct kvs => .dct (kvs.map fun p => (sh d p.1, sh d p.2))
  | .ins c fs => .ins c (fs.map fun p => (p.1, sh d p.2))
def shT (d : Nat) : T → T
  | .u u => .u (sh d u)
  | .l us => .l (shs d us)
def shE (d : Nat) (ρ : Ev) : Ev := ρ.map (Option.map (sh d))
/-- a store behind another -/
def shM (μ0 μ : Store) : Store := μ0 ++ μ.map (shC μ0.length)
def shX (d : Nat) (x : Ex) : Ex := ⟨x.cls, shs d x.args⟩
def shR {α : Type} (μ0 : Store) (s : α → α) : Res α → Res α
  | .no => .no
  | .ok a μ => .ok (s a) (shM μ0 μ)
  | .ex x μ => .ex (shX μ0.length x) (shM μ0 μ)
theorem shM_at (μ0 μ : Store) (n : Nat) : (shM μ0 μ)[μ0.length + n]? = μ[n]?.map (shC μ0.length) := by
  unfold shM
  rw [List.getElem?_append_right (Nat.le_add_right _ _), Nat.add_sub_cancel_left, List.getElem?_map]
theorem shM_len (μ0 μ : Store) : (shM μ0 μ).length = μ0.length + μ.length := by simp [shM]
theorem shM_app (μ0 μ : Store) (c : Cell) : shM μ0 (μ ++ [c]) = shM μ0 μ ++ [shC μ0.length c] := by simp [shM]
theorem shM_set (μ0 μ : Store) (n : Nat) (c : Cell) : shM μ0 (μ.set n c) = (shM μ0 μ).set (μ0.length + n) (shC μ0.length c) := by
  unfold shM
  rw [List.map_set, List.set_append, if_neg (by omega), Nat.add_sub_cancel_left]
theorem sh_plc (μ0 : Store) (t : T) (μ : Store) : plc (shT μ0.length t) (shM μ0 μ) = (sh μ0.length (plc t μ).1, shM μ0 (plc t μ).2) := by
  cases t with
  | u u => rfl
  | l us =>
    show (U.loc (shM μ0 μ).length, shM μ0 μ ++ [.lst (shs μ0.length us)]) = (U.loc (μ0.length + μ.length), shM μ0 (μ ++ [.lst us]))
    rw [shM_len, shM_app]; rfl
theorem sh_lstOf (μ0 μ : Store) (t : T) : (shT μ0.length t).lstOf (shM μ0 μ) = (t.lstOf μ).map (shs μ0.length) := by
  cases t with
  | l us => rfl
  | u u =>
    cases u with
    | loc n =>
      show (match (shM μ0 μ)[μ0.length + n]? with | some (.lst xs) => some xs | _ => none) = _
      rw [shM_at]
      show _ = Option.map _ (match μ[n]? with | some (.lst xs) => some xs | _ => none)
      cases μ[n]? with
      | none => rfl
      | some c => cases c <;> rfl
    | _ => rfl
theorem sh_lstM (μ0 μ : Store) (t : T) : (shT μ0.length t).lstM (shM μ0 μ) = (t.lstM μ).map (shs μ0.length) := by
  cases t with
  | l us => rfl
  | u u =>
    cases u with
    | loc n =>
      show (match (shM μ0 μ)[μ0.length + n]? with | some (.lst xs) => some xs | _ => none) = _
      rw [shM_at]
      show _ = Option.map _ (match μ[n]? with | some (.lst xs) => some xs | _ => none)
      cases μ[n]? with
      | none => rfl
      | some c => cases c <;> rfl
    | _ => rfl
theorem sh_tupOf (d : Nat) (t : T) : (shT d t).tupOf = t.tupOf.map (shs d) := by
  cases t with
  | l us => rfl
  | u u => cases u <;> rfl
theorem sh_seqOf (μ0 μ : Store) (t : T) : (shT μ0.length t).seqOf (shM μ0 μ) = (t.seqOf μ).map (shs μ0.length) := by
  unfold T.seqOf
  rw [sh_lstOf, sh_tupOf]
  cases t.lstOf μ <;> rfl

theorem shs_len (d : Nat) (us : List U) : (shs d us).length = us.length := by rw [shs_map]; simp
theorem shs_app (d : Nat) (us vs : List U) : shs d (us ++ vs) = shs d us ++ shs d vs := by simp [shs_map]
def spA : T → T → Bool
  | .u (.int _), .u (.int _) => true
  | .u (.str _), .u (.str _) => true
  | .u (.tup _), .u (.tup _) => true
  | _, _ => false
def catO (x y : Option (List U)) : Option T := match x, y with
  | some xs, some ys => if xs.length + ys.length ≤ sizeLine then some (.l (xs ++ ys)) else none
  | _, _ => none
theorem addT_no (μ : Store) (a b : T) (h : spA a b = false) : addT a b μ = catO (a.lstM μ) (b.lstM μ) := by
  cases a with
  | l xs => cases b <;> rfl
  | u a => cases b with
    | l ys => cases a <;> rfl
    | u b => cases a <;> cases b <;> first | rfl | (simp [spA] at h)
theorem spA_sh (d : Nat) (a b : T) : spA (shT d a) (shT d b) = spA a b := by
  cases a with
  | l xs => cases b <;> rfl
  | u a => cases b with
    | l ys => cases a <;> rfl
    | u b => cases a <;> cases b <;> rfl
theorem sh_catO (d : Nat) (x y : Option (List U)) : catO (x.map (shs d)) (y.map (shs d)) = (catO x y).map (shT d) := by
  cases x with
  | none => rfl
  | some xs => cases y with
    | none => rfl
    | some ys =>
      simp only [catO, Option.map_some, shs_len]
      split
      · simp [shT, shs_app]
      · rfl
theorem sh_addT (μ0 μ : Store) (t1 t2 : T) : addT (shT μ0.length t1) (shT μ0.length t2) (shM μ0 μ) = (addT t1 t2 μ).map (shT μ0.length) := by
  cases h : spA t1 t2 with
  | false => rw [addT_no _ _ _ h, addT_no _ _ _ (by rw [spA_sh]; exact h), sh_lstM, sh_lstM, sh_catO]
  | true =>
    cases t1 with
    | l xs => simp [spA] at h
    | u a => cases t2 with
      | l ys => cases a <;> simp [spA] at h
      | u b =>
        cases a <;> cases b <;> first
          | (simp [spA] at h; done)
          | rfl
          | (simp only [addT, shT, sh, shs_len]; split <;> simp [shT, sh, shs_app])
theorem sh_subT (μ0 μ : Store) (t1 t2 : T) : subT (shT μ0.length t1) (shT μ0.length t2) (shM μ0 μ) = (subT t1 t2 μ).map (shT μ0.length) := by
  cases t1 with
  | l xs => cases t2 <;> rfl
  | u a => cases t2 with
    | l ys => cases a <;> rfl
    | u b => cases a <;> cases b <;> rfl
theorem sh_modT (μ0 μ : Store) (t1 t2 : T) : modT (shT μ0.length t1) (shT μ0.length t2) (shM μ0 μ) = (modT t1 t2 μ).map (shT μ0.length) := by
  cases t1 with
  | l xs => cases t2 <;> rfl
  | u a => cases t2 with
    | l ys => cases a <;> rfl
    | u b => cases a <;> cases b <;> first | rfl | (simp only [modT, shT, sh]; split <;> rfl)
theorem sh_divT (μ0 μ : Store) (t1 t2 : T) : divT (shT μ0.length t1) (shT μ0.length t2) (shM μ0 μ) = (divT t1 t2 μ).map (shT μ0.length) := by
  cases t1 with
  | l xs => cases t2 <;> rfl
  | u a => cases t2 with
    | l ys => cases a <;> rfl
    | u b => cases a <;> cases b <;> first | rfl | (simp only [divT, shT, sh]; split <;> rfl)
theorem shs_flat (d : Nat) (n : Nat) (xs : List U) : shs d (List.replicate n xs).flatten = (List.replicate n (shs d xs)).flatten := by
  induction n with
  | zero => rfl
  | succ n ih => rw [List.replicate_succ, List.flatten_cons, shs_app, ih, List.replicate_succ, List.flatten_cons]
theorem sh_mulT (μ0 μ : Store) (t1 t2 : T) : mulT (shT μ0.length t1) (shT μ0.length t2) (shM μ0 μ) = (mulT t1 t2 μ).map (shT μ0.length) := by
  have key : ∀ (a : T) (k : Int), (match (shT μ0.length a).lstM (shM μ0 μ) with
      | some xs => if i63 k && decide (xs.length * k.toNat ≤ sizeLine) then some (T.l (List.replicate k.toNat xs).flatten) else none
      | none => none) = Option.map (shT μ0.length) (match a.lstM μ with
      | some xs => if i63 k && decide (xs.length * k.toNat ≤ sizeLine) then some (T.l (List.replicate k.toNat xs).flatten) else none
      | none => none) := fun a k => by
    rw [sh_lstM]
    cases a.lstM μ with
    | none => rfl
    | some xs =>
      simp only [Option.map_some, shs_len]
      split
      · simp [shT, shs_flat]
      · rfl
  cases t2 with
  | l ys => cases t1 with
    | l xs => rfl
    | u a => cases a <;> rfl
  | u b =>
    cases b with
    | int k =>
      cases t1 with
      | l xs => exact key (.l xs) k
      | u a =>
        cases a with
        | int j => simp only [mulT, shT, sh]; split <;> rfl
        | loc n => exact key (.u (.loc n)) k
        | _ => rfl
    | _ => cases t1 with
      | l xs => rfl
      | u a => cases a <;> rfl
theorem sh_binT (op : Operator) (μ0 μ : Store) (t1 t2 : T) : binT op (shT μ0.length t1) (shT μ0.length t2) (shM μ0 μ) = (binT op t1 t2 μ).map (shT μ0.length) := by
  cases op <;> first | exact sh_addT μ0 μ t1 t2 | exact sh_subT μ0 μ t1 t2 | exact sh_mulT μ0 μ t1 t2 | exact sh_modT μ0 μ t1 t2 | exact sh_divT μ0 μ t1 t2 | rfl
/-! comparisons -/
mutual
theorem sh_dOk (d : Nat) : ∀ (n : Nat) (u : U), dOk n (sh d u) = dOk n u
  | n, .non => by cases n <;> rfl
  | n, .bl b => by cases n <;> rfl
  | n, .int i => by cases n <;> rfl
  | n, .str x => by cases n <;> rfl
  | 0, .tup us => rfl
  | n + 1, .tup us => by rw [sh, dOk, dOk, shs_dOk d n us]
  | n, .rl us => by cases n <;> rfl
  | n, .loc m => by cases n <;> rfl
  | n, .fn g => by cases n <;> rfl
  | n, .gd ks us => by cases n <;> rfl
theorem shs_dOk (d : Nat) : ∀ (n : Nat) (us : List U), dOks n (shs d us) = dOks n us
  | n, [] => rfl
  | n, u :: us => by rw [shs, dOks, dOks, sh_dOk d n u, shs_dOk d n us]
end
theorem sh_q (μ0 μ : Store) (t : T) : (shT μ0.length t).q (shM μ0 μ) = t.q μ := by
  unfold T.q
  rw [sh_lstOf]
  cases t.lstOf μ with
  | some us =>
    simp only [Option.map_some]
    rw [shs_dOk]
    split
    · rename_i h; rw [shs_d _ h]
    · rfl
  | none =>
    simp only [Option.map_none]
    cases t with
    | l us => rfl
    | u w =>
      show (if dOk 50 (sh μ0.length w) then some (QT.u (sh μ0.length w)) else none) = if dOk 50 w then some (QT.u w) else none
      rw [sh_dOk]
      split
      · rename_i h; rw [sh_d _ h]
      · rfl
theorem sh_scU (d : Nat) (t1 t2 : T) : scU (shT d t1) (shT d t2) = scU t1 t2 := by
  cases t1 with
  | l xs => cases t2 <;> rfl
  | u a => cases t2 with
    | l ys => cases a <;> rfl
    | u b => cases a <;> cases b <;> rfl
theorem sh_eqT (μ0 μ : Store) (t1 t2 : T) : eqT (shT μ0.length t1) (shT μ0.length t2) (shM μ0 μ) = eqT t1 t2 μ := by
  unfold eqT; rw [sh_scU, sh_q, sh_q]
theorem sh_neT (μ0 μ : Store) (t1 t2 : T) : neT (shT μ0.length t1) (shT μ0.length t2) (shM μ0 μ) = neT t1 t2 μ := by
  unfold neT; rw [sh_scU, sh_q, sh_q]
theorem sh_intsT (f : Int → Int → Bool) (μ0 μ : Store) (t1 t2 : T) : intsT f (shT μ0.length t1) (shT μ0.length t2) (shM μ0 μ) = intsT f t1 t2 μ := by
  cases t1 with
  | l xs => cases t2 <;> rfl
  | u a => cases t2 with
    | l ys => cases a <;> rfl
    | u b => cases a <;> cases b <;> rfl
theorem sh_isNon (d : Nat) (t : T) : isNon (shT d t) = isNon t := by
  cases t with
  | l xs => rfl
  | u a => cases a <;> rfl
theorem sh_isT (neg : Bool) (μ0 μ : Store) (t1 t2 : T) : isT neg (shT μ0.length t1) (shT μ0.length t2) (shM μ0 μ) = isT neg t1 t2 μ := by
  unfold isT
  cases t2 with
  | l xs => rfl
  | u a =>
    cases a with
    | non =>
      show some (if neg then !isNon (shT μ0.length t1) else isNon (shT μ0.length t1)) = _
      rw [sh_isNon]
    | _ => rfl
theorem sh_flU (d : Nat) (u : U) : flU (sh d u) = flU u := by cases u <;> rfl
theorem sh_fl (d : Nat) {u : U} (h : flU u = true) : sh d u = u := by cases u <;> first | rfl | (simp [flU] at h)
theorem shs_fl (d : Nat) : ∀ {us : List U}, us.all flU = true → shs d us = us
  | [], _ => rfl
  | u :: us, h => by
    simp only [List.all_cons, Bool.and_eq_true] at h
    rw [shs, sh_fl d h.1, shs_fl d h.2]
theorem shs_all (d : Nat) (us : List U) : (shs d us).all flU = us.all flU := by
  rw [shs_map, List.all_map]
  congr 1; funext u; exact sh_flU d u
def inO (neg : Bool) (x : U) : Option (List U) → Option Bool
  | some us => if flU x && us.all flU then some (if neg then !(us.any fun w => eqU w x) else us.any fun w => eqU w x) else none
  | none => none
def twoS : T → T → Bool
  | .u (.str _), .u (.str _) => true
  | _, _ => false
theorem inT_no (neg : Bool) (μ : Store) (x : U) (t : T) (h : twoS (.u x) t = false) : inT neg (.u x) t μ = inO neg x (t.seqOf μ) := by
  cases x <;> cases t <;> first | rfl | skip
  all_goals rename_i b
  all_goals cases b <;> first | rfl | (simp [twoS] at h)
theorem sh_inO (neg : Bool) (d : Nat) (x : U) (o : Option (List U)) : inO neg (sh d x) (o.map (shs d)) = inO neg x o := by
  cases o with
  | none => rfl
  | some us =>
    simp only [inO, Option.map_some]
    rw [sh_flU, shs_all]
    cases h : flU x && us.all flU with
    | false => rfl
    | true =>
      simp only [Bool.and_eq_true] at h
      rw [sh_fl _ h.1, shs_fl _ h.2]
theorem sh_twoS (d : Nat) (a b : T) : twoS (shT d a) (shT d b) = twoS a b := by
  cases a with
  | l xs => cases b <;> rfl
  | u a => cases b with
    | l ys => cases a <;> rfl
    | u b => cases a <;> cases b <;> rfl
theorem sh_inT (neg : Bool) (μ0 μ : Store) (t1 t2 : T) : inT neg (shT μ0.length t1) (shT μ0.length t2) (shM μ0 μ) = inT neg t1 t2 μ := by
  cases t1 with
  | l xs => cases t2 <;> rfl
  | u a =>
    cases h : twoS (.u a) t2 with
    | false =>
      rw [inT_no _ _ _ _ h, ← sh_inO neg μ0.length, ← sh_seqOf]
      exact inT_no _ _ _ _ (by rw [← sh_twoS μ0.length] at h; exact h)
    | true =>
      cases a <;> first | (simp [twoS] at h; done) | skip
      cases t2 with
      | l ys => simp [twoS] at h
      | u b => cases b <;> first | rfl | (simp [twoS] at h)
theorem sh_cmpT (op : CmpOp) (μ0 μ : Store) (t1 t2 : T) : cmpT op (shT μ0.length t1) (shT μ0.length t2) (shM μ0 μ) = cmpT op t1 t2 μ := by
  cases op <;> first | exact sh_eqT μ0 μ t1 t2 | exact sh_neT μ0 μ t1 t2 | exact sh_intsT _ μ0 μ t1 t2 | exact sh_isT _ μ0 μ t1 t2 | exact sh_inT _ μ0 μ t1 t2
theorem shs_empty (d : Nat) (us : List U) : (shs d us).isEmpty = us.isEmpty := by cases us <;> rfl
theorem sh_truT (μ0 μ : Store) (t : T) : truT (shM μ0 μ) (shT μ0.length t) = truT μ t := by
  have key : ∀ t : T, (match (shT μ0.length t).seqOf (shM μ0 μ) with | some us => some (!us.isEmpty) | none => none) = (match t.seqOf μ with | some us => some (!us.isEmpty) | none => none) := fun t => by
    rw [sh_seqOf]
    cases t.seqOf μ with
    | none => rfl
    | some us => simp only [Option.map_some]; rw [shs_empty]
  cases t with
  | l us => exact key (.l us)
  | u a =>
    cases a with
    | non => rfl
    | bl b => rfl
    | int b => rfl
    | str b => rfl
    | tup us => exact key (.u (.tup us))
    | rl us => exact key (.u (.rl us))
    | loc n => exact key (.u (.loc n))
    | fn g => rfl
    | gd ks us => rfl
theorem sh_lenT (μ0 μ : Store) (t : T) : lenT (shM μ0 μ) (shT μ0.length t) = lenT μ t := by
  have key : ∀ t : T, ((shT μ0.length t).seqOf (shM μ0 μ)).map (·.length) = (t.seqOf μ).map (·.length) := fun t => by
    rw [sh_seqOf]
    cases t.seqOf μ with
    | none => rfl
    | some us => simp only [Option.map_some]; rw [shs_len]
  cases t with
  | l us => exact key (.l us)
  | u a =>
    cases a with
    | str b => rfl
    | non => rfl
    | bl b => rfl
    | int b => rfl
    | tup us => exact key (.u (.tup us))
    | rl us => exact key (.u (.rl us))
    | loc n => exact key (.u (.loc n))
    | fn g => rfl
    | gd ks us => rfl
theorem shs_get (d : Nat) (us : List U) (i : Nat) : (shs d us)[i]? = us[i]?.map (sh d) := by rw [shs_map, List.getElem?_map]
theorem sh_atI (d : Nat) (us : List U) (i : Int) : atI (shs d us) i = (atI us i).map (sh d) := by
  unfold atI
  rw [shs_len]
  cases ixN us.length i with
  | none => rfl
  | some j => simp only [Option.bind_some]; rw [shs_get]
theorem sh_ixT (μ0 μ : Store) (t1 t2 : T) : ixT (shT μ0.length t1) (shT μ0.length t2) (shM μ0 μ) = (ixT t1 t2 μ).map (shT μ0.length) := by
  have key : ∀ (t : T) (i : Int), (match (shT μ0.length t).seqOf (shM μ0 μ) with | some us => (atI us i).map T.u | none => none) = Option.map (shT μ0.length) (match t.seqOf μ with | some us => (atI us i).map T.u | none => none) := fun t i => by
    rw [sh_seqOf]
    cases t.seqOf μ with
    | none => rfl
    | some us =>
      simp only [Option.map_some]
      rw [sh_atI]
      cases atI us i <;> rfl
  cases t2 with
  | l ys => cases t1 with
    | l xs => rfl
    | u a => cases a <;> rfl
  | u b =>
    cases b with
    | int i =>
      cases t1 with
      | l xs => exact key (.l xs) i
      | u a =>
        cases a with
        | str z =>
          simp only [ixT, shT, sh]
          split
          · cases atI z.cps.toList i <;> rfl
          · rfl
        | non => exact key (.u .non) i
        | bl b => exact key (.u (.bl b)) i
        | int b => exact key (.u (.int b)) i
        | tup us => exact key (.u (.tup us)) i
        | rl us => exact key (.u (.rl us)) i
        | loc n => exact key (.u (.loc n)) i
        | fn g => exact key (.u (.fn g)) i
        | gd ks us => exact key (.u (.gd ks us)) i
    | _ => cases t1 with
      | l xs => rfl
      | u a => cases a <;> rfl
/-! dicts -/
def shP (d : Nat) (kvs : List (U × U)) : List (U × U) := kvs.map fun p => (sh d p.1, sh d p.2)
theorem sh_kEq (d : Nat) (a b : U) : kEq (sh d a) (sh d b) = kEq a b := by unfold kEq; rw [sh_nk, sh_nk]
theorem sh_dGet (d : Nat) (k : U) : ∀ kvs : List (U × U), dGet (shP d kvs) (sh d k) = (dGet kvs k).map (sh d)
  | [] => rfl
  | p :: kvs => by
    have ih := sh_dGet d k kvs
    unfold dGet shP at ih ⊢
    rw [List.map_cons, List.find?_cons, List.find?_cons]
    simp only [sh_kEq]
    cases kEq p.1 k with
    | true => rfl
    | false => exact ih
theorem sh_dPut (d : Nat) (kvs : List (U × U)) (k v : U) : dPut (shP d kvs) (sh d k) (sh d v) = shP d (dPut kvs k v) := by
  unfold dPut
  rw [sh_dGet, Option.isSome_map]
  split
  · unfold shP
    rw [List.map_map, List.map_map]
    refine List.map_congr_left fun p _ => ?_
    simp only [Function.comp, sh_kEq]
    split <;> rfl
  · simp [shP]
theorem sh_dctOf (μ0 μ : Store) (t : T) : (shT μ0.length t).dctOf (shM μ0 μ) = (t.dctOf μ).map fun p => (μ0.length + p.1, shP μ0.length p.2) := by
  cases t with
  | l us => rfl
  | u u =>
    cases u with
    | loc n =>
      show (match (shM μ0 μ)[μ0.length + n]? with | some (.dct kvs) => some (μ0.length + n, kvs) | _ => none) = _
      rw [shM_at]
      show _ = Option.map _ (match μ[n]? with | some (.dct kvs) => some (n, kvs) | _ => none)
      cases μ[n]? with
      | none => rfl
      | some c => cases c <;> rfl
    | _ => rfl
/-- text in a module's dict -/
def gdO (t1 : T) (z : Str) (μ : Store) : Option T := match t1 with
  | .u (.gd ks us) => (gdAt ks us z).map .u
  | t1 => ixT t1 (.u (.str z)) μ
theorem sh_gdO (μ0 μ : Store) (t1 : T) (z : Str) : gdO (shT μ0.length t1) z (shM μ0 μ) = (gdO t1 z μ).map (shT μ0.length) := by
  cases t1 with
  | l xs => exact sh_ixT μ0 μ (.l xs) (.u (.str z))
  | u a =>
    cases a with
    | gd ks us =>
      show (gdAt ks (shs μ0.length us) z).map T.u = Option.map _ ((gdAt ks us z).map T.u)
      unfold gdAt
      cases ks.findIdx? (fun y => decide (y = z)) with
      | none => rfl
      | some i =>
        simp only [Option.bind_some]
        rw [shs_get]
        cases us[i]? <;> rfl
    | non => exact sh_ixT μ0 μ (.u .non) (.u (.str z))
    | bl b => exact sh_ixT μ0 μ (.u (.bl b)) (.u (.str z))
    | int b => exact sh_ixT μ0 μ (.u (.int b)) (.u (.str z))
    | str b => exact sh_ixT μ0 μ (.u (.str b)) (.u (.str z))
    | tup us => exact sh_ixT μ0 μ (.u (.tup us)) (.u (.str z))
    | rl us => exact sh_ixT μ0 μ (.u (.rl us)) (.u (.str z))
    | loc n => exact sh_ixT μ0 μ (.u (.loc n)) (.u (.str z))
    | fn g => exact sh_ixT μ0 μ (.u (.fn g)) (.u (.str z))
def isStrT : T → Option Str
  | .u (.str z) => some z
  | _ => none
theorem isStr_sh (d : Nat) (t : T) : isStrT (shT d t) = isStrT t := by
  cases t with
  | l xs => rfl
  | u a => cases a <;> rfl
theorem ixD_some {t1 t2 : T} {μ : Store} {n : Nat} {kvs : List (U × U)} (h : t1.dctOf μ = some (n, kvs)) : ixD t1 t2 μ = match t2 with
    | .u k => if hkD k then (dGet kvs k).map .u else none
    | .l _ => ixT t1 t2 μ := by
  unfold ixD; rw [h]
  cases t2 with
  | l xs => rfl
  | u a => rfl
theorem ixD_none {t1 t2 : T} {μ : Store} (h : t1.dctOf μ = none) : ixD t1 t2 μ = match isStrT t2 with
    | some z => gdO t1 z μ
    | none => ixT t1 t2 μ := by
  unfold ixD; rw [h]
  cases t2 with
  | l xs => rfl
  | u a => cases a <;> rfl
theorem sh_ixD (μ0 μ : Store) (t1 t2 : T) : ixD (shT μ0.length t1) (shT μ0.length t2) (shM μ0 μ) = (ixD t1 t2 μ).map (shT μ0.length) := by
  cases h : t1.dctOf μ with
  | none =>
    rw [ixD_none h, ixD_none (by rw [sh_dctOf, h]; rfl), isStr_sh]
    cases isStrT t2 with
    | some z => exact sh_gdO μ0 μ t1 z
    | none => exact sh_ixT μ0 μ t1 t2
  | some p =>
    obtain ⟨n, kvs⟩ := p
    rw [ixD_some h, ixD_some (by rw [sh_dctOf, h]; rfl)]
    cases t2 with
    | l xs => exact sh_ixT μ0 μ t1 (.l xs)
    | u k =>
      show (if hkD (sh μ0.length k) then (dGet (shP μ0.length kvs) (sh μ0.length k)).map T.u else none) = Option.map _ (if hkD k then (dGet kvs k).map T.u else none)
      rw [sh_hkD, sh_dGet]
      split
      · cases dGet kvs k <;> rfl
      · rfl
def gdI (neg : Bool) (t2 : T) (z : Str) (μ : Store) : Option Bool := match t2 with
  | .u (.gd ks _) => some (if neg then !ks.contains z else ks.contains z)
  | t2 => inT neg (.u (.str z)) t2 μ
theorem sh_gdI (neg : Bool) (μ0 μ : Store) (t2 : T) (z : Str) : gdI neg (shT μ0.length t2) z (shM μ0 μ) = gdI neg t2 z μ := by
  cases t2 with
  | l xs => exact sh_inT neg μ0 μ (.u (.str z)) (.l xs)
  | u a =>
    cases a with
    | gd ks us => rfl
    | non => exact sh_inT neg μ0 μ (.u (.str z)) (.u .non)
    | bl b => exact sh_inT neg μ0 μ (.u (.str z)) (.u (.bl b))
    | int b => exact sh_inT neg μ0 μ (.u (.str z)) (.u (.int b))
    | str b => exact sh_inT neg μ0 μ (.u (.str z)) (.u (.str b))
    | tup us => exact sh_inT neg μ0 μ (.u (.str z)) (.u (.tup us))
    | rl us => exact sh_inT neg μ0 μ (.u (.str z)) (.u (.rl us))
    | loc n => exact sh_inT neg μ0 μ (.u (.str z)) (.u (.loc n))
    | fn g => exact sh_inT neg μ0 μ (.u (.str z)) (.u (.fn g))
theorem inD_some {neg : Bool} {t1 t2 : T} {μ : Store} {n : Nat} {kvs : List (U × U)} (h : t2.dctOf μ = some (n, kvs)) : inD neg t1 t2 μ = match t1 with
    | .u k => if hkD k then some (if neg then !(dGet kvs k).isSome else (dGet kvs k).isSome) else none
    | .l _ => inT neg t1 t2 μ := by
  unfold inD; rw [h]
  cases t1 with
  | l xs => rfl
  | u a => rfl
theorem inD_none {neg : Bool} {t1 t2 : T} {μ : Store} (h : t2.dctOf μ = none) : inD neg t1 t2 μ = match isStrT t1 with
    | some z => gdI neg t2 z μ
    | none => inT neg t1 t2 μ := by
  unfold inD; rw [h]
  cases t1 with
  | l xs => rfl
  | u a => cases a <;> rfl
theorem sh_inD (neg : Bool) (μ0 μ : Store) (t1 t2 : T) : inD neg (shT μ0.length t1) (shT μ0.length t2) (shM μ0 μ) = inD neg t1 t2 μ := by
  cases h : t2.dctOf μ with
  | none =>
    rw [inD_none h, inD_none (by rw [sh_dctOf, h]; rfl), isStr_sh]
    cases isStrT t1 with
    | some z => exact sh_gdI neg μ0 μ t2 z
    | none => exact sh_inT neg μ0 μ t1 t2
  | some p =>
    obtain ⟨n, kvs⟩ := p
    rw [inD_some h, inD_some (by rw [sh_dctOf, h]; rfl)]
    cases t1 with
    | l xs => exact sh_inT neg μ0 μ (.l xs) t2
    | u k =>
      show (if hkD (sh μ0.length k) then some (if neg then !(dGet (shP μ0.length kvs) (sh μ0.length k)).isSome else (dGet (shP μ0.length kvs) (sh μ0.length k)).isSome) else none) = _
      rw [sh_hkD, sh_dGet, Option.isSome_map]
theorem sh_cmpD (op : CmpOp) (μ0 μ : Store) (t1 t2 : T) : cmpD op (shT μ0.length t1) (shT μ0.length t2) (shM μ0 μ) = cmpD op t1 t2 μ := by
  cases op with
  | In => exact sh_inD false μ0 μ t1 t2
  | NotIn => exact sh_inD true μ0 μ t1 t2
  | Eq => exact sh_cmpT .Eq μ0 μ t1 t2
  | NotEq => exact sh_cmpT .NotEq μ0 μ t1 t2
  | Lt => exact sh_cmpT .Lt μ0 μ t1 t2
  | LtE => exact sh_cmpT .LtE μ0 μ t1 t2
  | Gt => exact sh_cmpT .Gt μ0 μ t1 t2
  | GtE => exact sh_cmpT .GtE μ0 μ t1 t2
  | Is => exact sh_cmpT .Is μ0 μ t1 t2
  | IsNot => exact sh_cmpT .IsNot μ0 μ t1 t2
/-! slices, built-in calls -/
theorem sh_cutU (d : Nat) (us : List U) (lo hi : Option Int) : cutU (shs d us) lo hi = shs d (cutU us lo hi) := by
  unfold cutU
  rw [shs_len, shs_map, shs_map, List.map_take, List.map_drop]
theorem sh_slT (μ0 μ : Store) (t : T) (lo hi : Option Int) : slT (shT μ0.length t) lo hi (shM μ0 μ) = (slT t lo hi μ).map (shT μ0.length) := by
  have key : ∀ t : T, (match (shT μ0.length t).lstOf (shM μ0 μ) with | some us => some (T.l (cutU us lo hi)) | none => none) = Option.map (shT μ0.length) (match t.lstOf μ with | some us => some (T.l (cutU us lo hi)) | none => none) := fun t => by
    rw [sh_lstOf]
    cases t.lstOf μ with
    | none => rfl
    | some us => simp only [Option.map_some]; rw [sh_cutU]; rfl
  cases t with
  | l xs => exact key (.l xs)
  | u a =>
    cases a with
    | str z => simp only [slT, shT, sh]; split <;> rfl
    | tup us =>
      show some (T.u (.tup (cutU (shs μ0.length us) lo hi))) = _
      rw [sh_cutU]; rfl
    | non => rfl
    | bl b => rfl
    | int b => rfl
    | rl us => exact key (.u (.rl us))
    | loc n => exact key (.u (.loc n))
    | fn g => rfl
    | gd ks us => rfl
theorem sh_revT (μ0 μ : Store) (t : T) : revT (shT μ0.length t) (shM μ0 μ) = (revT t μ).map (shT μ0.length) := by
  unfold revT
  rw [sh_lstOf]
  cases t.lstOf μ with
  | none => rfl
  | some us =>
    show some (T.l (shs μ0.length us).reverse) = some (T.l (shs μ0.length us.reverse))
    rw [shs_map, shs_map, List.map_reverse]
theorem sh_strsOf (d : Nat) : ∀ us : List U, strsOf (shs d us) = strsOf us
  | [] => rfl
  | u :: us => by
    have ih := sh_strsOf d us
    cases u <;> simp only [shs, sh, strsOf]
    rw [ih]
theorem sh_blsOf (d : Nat) : ∀ us : List U, blsOf (shs d us) = blsOf us
  | [] => rfl
  | u :: us => by
    have ih := sh_blsOf d us
    cases u <;> simp only [shs, sh, blsOf]
    rw [ih]
theorem sh_intsOf (d : Nat) : ∀ us : List U, intsOf (shs d us) = intsOf us
  | [] => rfl
  | u :: us => by
    have ih := sh_intsOf d us
    cases u <;> simp only [shs, sh, intsOf]
    rw [ih]
theorem sh_strT (d : Nat) (t : T) : strT (shT d t) = (strT t).map (shT d) := by
  cases t with
  | l xs => rfl
  | u a => cases a <;> first | rfl | (simp only [strT, shT, sh]; split <;> rfl)
theorem sh_reprT (d : Nat) (t : T) : reprT (shT d t) = (reprT t).map (shT d) := by
  cases t with
  | l xs => rfl
  | u a => cases a <;> first | rfl | (simp only [reprT, shT, sh]; split <;> rfl)
theorem shP_len (d : Nat) (kvs : List (U × U)) : (shP d kvs).length = kvs.length := by simp [shP]
theorem sh_b1T (b : B1) (μ0 μ : Store) (t : T) : b1T b (shT μ0.length t) (shM μ0 μ) = (b1T b t μ).map (shT μ0.length) := by
  cases b with
  | len =>
    simp only [b1T]
    rw [sh_dctOf]
    cases t.dctOf μ with
    | some p =>
      simp only [Option.map_some]
      rw [shP_len]; rfl
    | none =>
      simp only [Option.map_none]
      rw [sh_lenT]
      cases lenT μ t <;> rfl
  | tuple =>
    simp only [b1T]
    rw [sh_seqOf, sh_dctOf]
    cases t.seqOf μ with
    | some us => rfl
    | none =>
      simp only [Option.map_none]
      cases t.dctOf μ with
      | none => rfl
      | some p =>
        show some (T.u (.tup ((shP μ0.length p.2).map (·.1)))) = some (T.u (.tup (shs μ0.length (p.2.map (·.1)))))
        rw [shs_map, shP, List.map_map, List.map_map]; rfl
  | list =>
    simp only [b1T]
    rw [sh_seqOf]
    cases t.seqOf μ <;> rfl
  | int => cases t with
    | l xs => rfl
    | u a => cases a <;> rfl
  | abs => cases t with
    | l xs => rfl
    | u a => cases a <;> rfl
  | bool => cases t with
    | l xs => rfl
    | u a => cases a <;> rfl
  | str => exact sh_strT μ0.length t
  | repr => exact sh_reprT μ0.length t
  | all =>
    simp only [b1T]
    rw [sh_lstOf]
    cases t.lstOf μ with
    | none => rfl
    | some us =>
      simp only [Option.map_some]
      rw [sh_blsOf]
      cases blsOf us <;> rfl
  | any =>
    simp only [b1T]
    rw [sh_lstOf]
    cases t.lstOf μ with
    | none => rfl
    | some us =>
      simp only [Option.map_some]
      rw [sh_blsOf]
      cases blsOf us <;> rfl
  | sum =>
    simp only [b1T]
    rw [sh_lstOf]
    cases t.lstOf μ with
    | none => rfl
    | some us =>
      simp only [Option.map_some]
      rw [sh_intsOf]
      cases intsOf us <;> rfl
theorem sh_b2T (b : B2) (d : Nat) (t1 t2 : T) : b2T b (shT d t1) (shT d t2) = (b2T b t1 t2).map (shT d) := by
  cases b <;> cases t1 <;> cases t2 <;> first
    | rfl
    | (rename_i a c; cases a <;> cases c <;> rfl)
    | (rename_i a c; cases a <;> rfl)
    | (rename_i a c; cases c <;> rfl)
/-! methods -/
theorem shs_set (d : Nat) (us : List U) (n : Nat) (u : U) : shs d (us.set n u) = (shs d us).set n (sh d u) := by rw [shs_map, shs_map, List.map_set]
theorem sh_tyT (m : Mt) (μ0 μ : Store) (t : T) : tyT m (shT μ0.length t) (shM μ0 μ) = tyT m t μ := by
  cases t with
  | l xs => rfl
  | u a =>
    cases a with
    | loc n =>
      show (match (shM μ0 μ)[μ0.length + n]? with | some (.lst _) => _ | some (.dct _) => _ | _ => _) = _
      rw [shM_at]
      simp only [tyT]
      cases μ[n]? with
      | none => rfl
      | some c => cases c <;> rfl
    | _ => rfl
theorem sh_mtL (m : Mt) (μ0 μ : Store) (n : Nat) (xs us : List U) : mtL m (μ0.length + n) (shs μ0.length xs) (shs μ0.length us) (shM μ0 μ) = shR μ0 (shT μ0.length) (mtL m n xs us μ) := by
  cases m with
  | append =>
    rcases us with _ | ⟨u, _ | ⟨v, us⟩⟩ <;> simp only [mtL, shs, shs_len] <;> first | rfl | skip
    split
    · simp only [shR, shT, sh, shM_set, shC]
      rw [shs_app]; rfl
    · rfl
  | pop =>
    rcases us with _ | ⟨u, us⟩ <;> simp only [mtL, shs, shs_len, shs_get] <;> first | rfl | skip
    cases xs[xs.length - 1]? with
    | none => rfl
    | some u =>
      simp only [Option.map_some, shR, shT, shM_set, shC]
      rw [show shs μ0.length xs.dropLast = (shs μ0.length xs).dropLast by rw [shs_map, shs_map, List.map_dropLast]]
  | popAt =>
    rcases us with _ | ⟨u, _ | ⟨v, us⟩⟩
    · rfl
    · cases u with
      | int i =>
        simp only [mtL, shs, sh, shs_len]
        split
        · cases seqIndex? i xs.length with
          | none => rfl
          | some k =>
            simp only [shs_get]
            cases xs[k]? with
            | none => rfl
            | some u =>
              simp only [Option.map_some, shR, shT, shM_set, shC]
              rw [show shs μ0.length (xs.eraseIdx k) = (shs μ0.length xs).eraseIdx k by rw [shs_map, shs_map, List.eraseIdx_eq_take_drop_succ, List.eraseIdx_eq_take_drop_succ, List.map_append, List.map_take, List.map_drop]]
        · rfl
      | _ => rfl
    · cases u <;> rfl
  | _ => rfl
theorem sh_mtDc (m : Mt) (μ0 μ : Store) (n : Nat) (kvs : List (U × U)) (us : List U) : mtDc m (μ0.length + n) (shP μ0.length kvs) (shs μ0.length us) (shM μ0 μ) = shR μ0 (shT μ0.length) (mtDc m n kvs us μ) := by
  cases m with
  | get =>
    rcases us with _ | ⟨k, _ | ⟨v, _ | ⟨w, us⟩⟩⟩ <;> simp only [mtDc, shs, sh_hkD, sh_dGet] <;> first | rfl | skip
    split
    · simp only [shR, shT]
      cases dGet kvs k <;> rfl
    · rfl
  | setdefault =>
    rcases us with _ | ⟨k, _ | ⟨v, _ | ⟨w, us⟩⟩⟩ <;> simp only [mtDc, shs, sh_hkD, sh_dGet, shP_len] <;> first | rfl | skip
    split
    · split
      · cases h : dGet kvs k with
        | some u => rfl
        | none =>
          simp only [Option.map_none, shR, shT, shM_set, shC]
          rw [sh_dPut]; rfl
      · rfl
    · rfl
  | _ => rfl
theorem sh_mtT (m : Mt) (μ0 μ : Store) (t : T) (us : List U) : mtT m (shT μ0.length t) (shs μ0.length us) (shM μ0 μ) = shR μ0 (shT μ0.length) (mtT m t us μ) := by
  cases t with
  | l xs => rfl
  | u a =>
    cases a with
    | loc n =>
      show (match (shM μ0 μ)[μ0.length + n]? with | some (.lst xs) => mtL m (μ0.length + n) xs (shs μ0.length us) (shM μ0 μ) | some (.dct kvs) => mtDc m (μ0.length + n) kvs (shs μ0.length us) (shM μ0 μ) | _ => .no) = shR μ0 _ (match μ[n]? with | some (.lst xs) => mtL m n xs us μ | some (.dct kvs) => mtDc m n kvs us μ | _ => .no)
      rw [shM_at]
      cases μ[n]? with
      | none => rfl
      | some c =>
        cases c with
        | lst xs => exact sh_mtL m μ0 μ n xs us
        | dct kvs => exact sh_mtDc m μ0 μ n kvs us
        | ins _ _ => rfl
    | _ => rfl
theorem sh_mt1T (m : Mt) (μ0 μ : Store) (t a : T) : mt1T m (shT μ0.length t) (shT μ0.length a) (shM μ0 μ) = shR μ0 (shT μ0.length) (mt1T m t a μ) := by
  cases t with
  | l xs => rfl
  | u w =>
    cases w with
    | str z =>
      cases m with
      | join =>
        simp only [mt1T, shT, sh]
        rw [show ((match a with | .u u => T.u (sh μ0.length u) | .l us => T.l (shs μ0.length us)) : T) = shT μ0.length a from by cases a <;> rfl, sh_seqOf]
        cases a.seqOf μ with
        | none => rfl
        | some us =>
          simp only [Option.map_some]
          rw [sh_strsOf]
          cases strsOf us with
          | none => rfl
          | some ys => simp only []; split <;> rfl
      | _ => rfl
    | loc n =>
      cases m with
      | extend =>
        show (match (shM μ0 μ)[μ0.length + n]? with | some (.lst xs) => (match (shT μ0.length a).lstM (shM μ0 μ) with | some zs => if xs.length + zs.length ≤ sizeLine then Res.ok (T.u .non) ((shM μ0 μ).set (μ0.length + n) (.lst (xs ++ zs))) else .no | none => .no) | _ => .no) = shR μ0 _ (match μ[n]? with | some (.lst xs) => (match a.lstM μ with | some zs => if xs.length + zs.length ≤ sizeLine then Res.ok (T.u .non) (μ.set n (.lst (xs ++ zs))) else .no | none => .no) | _ => .no)
        rw [shM_at, sh_lstM]
        cases μ[n]? with
        | none => rfl
        | some c =>
          cases c with
          | lst xs =>
            cases a.lstM μ with
            | none => rfl
            | some zs =>
              simp only [Option.map_some, shC, shs_len]
              split
              · simp only [shR, shM_set, shC, shs_app]; rfl
              · rfl
          | _ => rfl
      | _ => rfl
    | _ => rfl
/-! targets, what a loop goes over -/
theorem shE_get (d : Nat) (ρ : Ev) (i : Nat) : (shE d ρ)[i]? = ρ[i]?.map (Option.map (sh d)) := by unfold shE; rw [List.getElem?_map]
theorem shE_len (d : Nat) (ρ : Ev) : (shE d ρ).length = ρ.length := by simp [shE]
theorem shE_set (d : Nat) (ρ : Ev) (i : Nat) (u : U) : shE d (ρ.set i (some u)) = (shE d ρ).set i (some (sh d u)) := by unfold shE; rw [List.map_set]; rfl
theorem shE_wipe (d : Nat) (ρ : Ev) : ∀ vs : List Nat, shE d (wipeE ρ vs) = wipeE (shE d ρ) vs
  | [] => rfl
  | v :: vs => by
    have ih := shE_wipe d ρ vs
    simp only [wipeE]
    rw [← ih]
    unfold shE; rw [List.map_set]; rfl
mutual
theorem sh_asgT (μ0 μ : Store) : ∀ (tg : Tg) (u : U) (ρ : Ev), asgT tg (sh μ0.length u) (shM μ0 μ) (shE μ0.length ρ) = (asgT tg u μ ρ).map (shE μ0.length)
  | .nm i, u, ρ => by
    simp only [asgT, shE_len]
    split
    · simp only [Option.map_some, shE_set]
    · rfl
  | .tp ts, u, ρ => by
    simp only [asgT]
    rw [show (T.u (sh μ0.length u)) = shT μ0.length (.u u) from rfl, sh_seqOf]
    cases (T.u u).seqOf μ with
    | none => rfl
    | some us => exact sh_asgTs μ0 μ ts us ρ
theorem sh_asgTs (μ0 μ : Store) : ∀ (ts : List Tg) (us : List U) (ρ : Ev), asgTs ts (shs μ0.length us) (shM μ0 μ) (shE μ0.length ρ) = (asgTs ts us μ ρ).map (shE μ0.length)
  | [], [], ρ => rfl
  | t :: ts, u :: us, ρ => by
    simp only [asgTs, shs]
    rw [sh_asgT μ0 μ t u ρ]
    cases asgT t u μ ρ with
    | none => rfl
    | some ρ' => exact sh_asgTs μ0 μ ts us ρ'
  | [], u :: us, ρ => rfl
  | t :: ts, [], ρ => rfl
end
def shI (d : Nat) (x : Itm) : Itm := ⟨shs d x.us, x.keep.map fun p => (d + p.1, shs d p.2)⟩
theorem sh_itmOf (μ0 μ : Store) (t : T) : itmOf (shT μ0.length t) (shM μ0 μ) = (itmOf t μ).map (shI μ0.length) := by
  have key : ∀ t : T, ((shT μ0.length t).seqOf (shM μ0 μ)).map (fun us => (⟨us, []⟩ : Itm)) = Option.map (shI μ0.length) ((t.seqOf μ).map fun us => (⟨us, []⟩ : Itm)) := fun t => by
    rw [sh_seqOf]
    cases t.seqOf μ <;> rfl
  cases t with
  | l us => exact key (.l us)
  | u a =>
    cases a with
    | loc n =>
      show (match (shM μ0 μ)[μ0.length + n]? with | some (.lst xs) => some (⟨xs, [(μ0.length + n, xs)]⟩ : Itm) | _ => none) = _
      rw [shM_at]
      show _ = Option.map _ (match μ[n]? with | some (.lst xs) => some (⟨xs, [(n, xs)]⟩ : Itm) | _ => none)
      cases μ[n]? with
      | none => rfl
      | some c => cases c <;> rfl
    | non => exact key (.u .non)
    | bl b => exact key (.u (.bl b))
    | int b => exact key (.u (.int b))
    | str b => exact key (.u (.str b))
    | tup us => exact key (.u (.tup us))
    | rl us => exact key (.u (.rl us))
    | fn g => exact key (.u (.fn g))
    | gd ks us => exact key (.u (.gd ks us))
theorem sh_pairsE (d : Nat) : ∀ (n : Nat) (us : List U), pairsE n (shs d us) = shs d (pairsE n us)
  | n, [] => rfl
  | n, u :: us => by
    simp only [shs, pairsE, sh]
    rw [sh_pairsE d (n + 1) us]
theorem sh_enmOf (μ0 μ : Store) (t : T) : enmOf (shT μ0.length t) (shM μ0 μ) = (enmOf t μ).map (shI μ0.length) := by
  unfold enmOf
  rw [sh_itmOf]
  cases itmOf t μ with
  | none => rfl
  | some i =>
    simp only [Option.map_some, shI]
    rw [sh_pairsE]
theorem sh_zipOf (μ0 μ : Store) (a b : T) : zipOf (shT μ0.length a) (shT μ0.length b) (shM μ0 μ) = (zipOf a b μ).map (shI μ0.length) := by
  unfold zipOf
  rw [sh_tupOf, sh_tupOf, Option.isSome_map, Option.isSome_map, sh_itmOf, sh_itmOf]
  split
  · cases itmOf a μ with
    | none => rfl
    | some i =>
      cases itmOf b μ with
      | none => rfl
      | some j =>
        simp only [Option.map_some, shI, List.map_append]
        rw [show (((shs μ0.length i.us).zip (shs μ0.length j.us)).map fun p => U.tup [p.1, p.2]) = shs μ0.length ((i.us.zip j.us).map fun p => U.tup [p.1, p.2]) from by
          rw [shs_map, shs_map, shs_map, List.zip_map, List.map_map, List.map_map]; rfl]
  · rfl
theorem shC_inj {d : Nat} {xs : List U} {c : Cell} (h : shC d c = .lst (shs d xs)) : c = .lst xs := by
  cases c with
  | lst ys => simp only [shC, Cell.lst.injEq] at h; rw [shs_inj d h]
  | dct _ => simp [shC] at h
  | ins _ _ => simp [shC] at h
theorem sh_itmOk (μ0 μ : Store) (x : Itm) : (shI μ0.length x).ok (shM μ0 μ) = x.ok μ := by
  unfold Itm.ok shI
  rw [List.all_map]
  congr 1
  funext p
  simp only [Function.comp, shM_at]
  cases h : μ[p.1]? with
  | none => rfl
  | some c =>
    simp only [Option.map_some, Option.some.injEq]
    by_cases hc : c = .lst p.2
    · rw [decide_eq_true hc, hc]; exact decide_eq_true rfl
    · rw [decide_eq_false hc]; exact decide_eq_false fun z => hc (shC_inj z)
/-! the evaluator's pieces -/
theorem shR_bind {α β : Type} {μ0 : Store} {s : α → α} {s' : β → β} {r : Res α} {k k' : α → Store → Res β} (h : ∀ a μ, k' (s a) (shM μ0 μ) = shR μ0 s' (k a μ)) : (shR μ0 s r).bind k' = shR μ0 s' (r.bind k) := by
  cases r with
  | no => rfl
  | ok a μ => exact h a μ
  | ex x μ => rfl
theorem shR_opt {μ0 μ : Store} {o : Option T} : opt (o.map (shT μ0.length)) (shM μ0 μ) = shR μ0 (shT μ0.length) (opt o μ) := by cases o <;> rfl
theorem shR_optB {μ0 μ : Store} {o : Option Bool} : optB o (shM μ0 μ) = shR μ0 id (optB o μ) := by cases o <;> rfl
theorem shR_placed {μ0 : Store} {r : Res T} : placed (shR μ0 (shT μ0.length) r) = shR μ0 (sh μ0.length) (placed r) := by
  cases r with
  | no => rfl
  | ok t μ =>
    show Res.ok (plc (shT μ0.length t) (shM μ0 μ)).1 (plc (shT μ0.length t) (shM μ0 μ)).2 = _
    rw [sh_plc]; rfl
  | ex x μ => rfl
/-- an expression's readings, moved -/
structure ShV (m : VB) : Prop where
  v : ∀ (μ0 : Store) (ρ : Ev) (μ : Store), m.v (shE μ0.length ρ) (shM μ0 μ) = shR μ0 (shT μ0.length) (m.v ρ μ)
  b : ∀ (μ0 : Store) (ρ : Ev) (μ : Store), m.b (shE μ0.length ρ) (shM μ0 μ) = shR μ0 id (m.b ρ μ)
theorem ShV.of {v : Ev → Store → Res T} (h : ∀ (μ0 : Store) (ρ : Ev) (μ : Store), v (shE μ0.length ρ) (shM μ0 μ) = shR μ0 (shT μ0.length) (v ρ μ)) : ShV (VB.of v) := by
  refine ⟨h, fun μ0 ρ μ => ?_⟩
  show (v _ _).bind _ = shR μ0 id ((v ρ μ).bind _)
  rw [h]
  exact shR_bind fun t μ1 => by rw [sh_truT]; exact shR_optB
theorem sh_evs : ∀ {ms : List VB}, (∀ m ∈ ms, ShV m) → ∀ (μ0 : Store) (ρ : Ev) (μ : Store), evs ms (shE μ0.length ρ) (shM μ0 μ) = shR μ0 (shs μ0.length) (evs ms ρ μ)
  | [], _, μ0, ρ, μ => rfl
  | m :: ms, h, μ0, ρ, μ => by
    simp only [evs]
    rw [(h m List.mem_cons_self).v, shR_placed]
    refine shR_bind fun u μ1 => ?_
    rw [sh_evs (fun m hm => h m (List.mem_cons_of_mem _ hm))]
    exact shR_bind fun us μ2 => rfl
theorem sh_evst : ∀ {ms : List (Bool × VB)}, (∀ m ∈ ms, ShV m.2) → ∀ (μ0 : Store) (ρ : Ev) (μ : Store), evst ms (shE μ0.length ρ) (shM μ0 μ) = shR μ0 (shs μ0.length) (evst ms ρ μ)
  | [], _, μ0, ρ, μ => rfl
  | (false, m) :: ms, h, μ0, ρ, μ => by
    simp only [evst]
    rw [(h (false, m) List.mem_cons_self).v, shR_placed]
    refine shR_bind fun u μ1 => ?_
    rw [sh_evst (fun m hm => h m (List.mem_cons_of_mem _ hm))]
    exact shR_bind fun us μ2 => rfl
  | (true, m) :: ms, h, μ0, ρ, μ => by
    simp only [evst]
    rw [(h (true, m) List.mem_cons_self).v]
    refine shR_bind fun t μ1 => ?_
    rw [sh_seqOf]
    cases t.seqOf μ1 with
    | none => rfl
    | some xs =>
      simp only [Option.map_some]
      rw [sh_evst (fun m hm => h m (List.mem_cons_of_mem _ hm))]
      refine shR_bind fun us μ2 => ?_
      simp only [shR, shs_app]
theorem sh_evd : ∀ {ms : List (VB × VB)}, (∀ m ∈ ms, ShV m.1 ∧ ShV m.2) → ∀ (μ0 : Store) (ρ : Ev) (μ : Store), evd ms (shE μ0.length ρ) (shM μ0 μ) = shR μ0 (shP μ0.length) (evd ms ρ μ)
  | [], _, μ0, ρ, μ => rfl
  | (a, b) :: ms, h, μ0, ρ, μ => by
    simp only [evd]
    rw [(h (a, b) List.mem_cons_self).1.v, shR_placed]
    refine shR_bind fun u μ1 => ?_
    rw [(h (a, b) List.mem_cons_self).2.v, shR_placed]
    refine shR_bind fun w μ2 => ?_
    rw [sh_evd (fun m hm => h m (List.mem_cons_of_mem _ hm))]
    refine shR_bind fun r μ3 => ?_
    rw [sh_hkD]
    split <;> rfl
theorem sh_evO {o : Option VB} (h : ∀ m, o = some m → ShV m) (μ0 : Store) (ρ : Ev) (μ : Store) : evO o (shE μ0.length ρ) (shM μ0 μ) = shR μ0 id (evO o ρ μ) := by
  cases o with
  | none => rfl
  | some m =>
    simp only [evO]
    rw [(h m rfl).v]
    refine shR_bind fun t μ1 => ?_
    cases t with
    | l xs => rfl
    | u a => cases a <;> rfl
theorem sh_evAll (op : BoolOp) : ∀ {m : VB} {ms : List VB}, ShV m → (∀ m ∈ ms, ShV m) → ∀ (μ0 : Store) (ρ : Ev) (μ : Store), evAll op m ms (shE μ0.length ρ) (shM μ0 μ) = shR μ0 id (evAll op m ms ρ μ)
  | m, [], h, _, μ0, ρ, μ => h.b μ0 ρ μ
  | m, n :: ms, h, hs, μ0, ρ, μ => by
    simp only [evAll]
    rw [h.b]
    refine shR_bind fun t μ1 => ?_
    have ih := sh_evAll op (hs n List.mem_cons_self) (fun m hm => hs m (List.mem_cons_of_mem _ hm)) μ0 ρ μ1
    cases t <;> cases op <;> first | exact ih | rfl
theorem sh_evV (op : BoolOp) : ∀ {m : VB} {ms : List VB}, ShV m → (∀ m ∈ ms, ShV m) → ∀ (μ0 : Store) (ρ : Ev) (μ : Store), evV op m ms (shE μ0.length ρ) (shM μ0 μ) = shR μ0 (shT μ0.length) (evV op m ms ρ μ)
  | m, [], h, _, μ0, ρ, μ => h.v μ0 ρ μ
  | m, n :: ms, h, hs, μ0, ρ, μ => by
    simp only [evV]
    rw [h.v]
    refine shR_bind fun t μ1 => ?_
    have ih := sh_evV op (hs n List.mem_cons_self) (fun m hm => hs m (List.mem_cons_of_mem _ hm)) μ0 ρ μ1
    cases t with
    | l xs => rfl
    | u a =>
      cases a with
      | bl b => cases b <;> cases op <;> first | exact ih | rfl
      | _ => rfl
theorem sh_evIfs {ms : List VB} (h : ∀ m ∈ ms, ShV m) (μ0 : Store) (ρ : Ev) (μ : Store) : evIfs ms (shE μ0.length ρ) (shM μ0 μ) = shR μ0 id (evIfs ms ρ μ) := by
  rcases ms with _ | ⟨m, _ | ⟨n, ms⟩⟩
  · rfl
  · exact (h m List.mem_cons_self).b μ0 ρ μ
  · rfl
theorem shR_noEx {α : Type} {μ0 : Store} {s : α → α} {r : Res α} : noEx (shR μ0 s r) = shR μ0 s (noEx r) := by cases r <;> rfl
theorem sh_lcLoop {tg : Tg} {x : Itm} {ft : Ev → Store → Res Bool} {fe : Ev → Store → Res T} (ht : ∀ (μ0 : Store) (ρ : Ev) (μ : Store), ft (shE μ0.length ρ) (shM μ0 μ) = shR μ0 id (ft ρ μ)) (he : ∀ (μ0 : Store) (ρ : Ev) (μ : Store), fe (shE μ0.length ρ) (shM μ0 μ) = shR μ0 (shT μ0.length) (fe ρ μ)) :
    ∀ (us : List U) (μ0 : Store) (ρ : Ev) (μ : Store) (acc : List U), lcLoop tg (shI μ0.length x) (shE μ0.length ρ) ft fe (shs μ0.length us) (shM μ0 μ) (shs μ0.length acc) = shR μ0 (shT μ0.length) (lcLoop tg x ρ ft fe us μ acc)
  | [], μ0, ρ, μ, acc => by
    simp only [shs, lcLoop, sh_itmOk]
    split <;> rfl
  | u :: us, μ0, ρ, μ, acc => by
    simp only [shs, lcLoop, sh_itmOk]
    split
    · rw [sh_asgT]
      cases asgT tg u μ ρ with
      | none => rfl
      | some ρ' =>
        simp only [Option.map_some]
        rw [ht]
        refine shR_bind fun b μ1 => ?_
        cases b with
        | false => exact sh_lcLoop ht he us μ0 ρ μ1 acc
        | true =>
          simp only [id, if_true]
          rw [he, shR_placed]
          refine shR_bind fun y μ2 => ?_
          rw [shs_len]
          split
          · rw [show shs μ0.length acc ++ [sh μ0.length y] = shs μ0.length (acc ++ [y]) from by rw [shs_app]; rfl]
            exact sh_lcLoop ht he us μ0 ρ μ2 (acc ++ [y])
          · rfl
    · rfl
mutual
theorem sh_cl (d : Nat) : ∀ {u : U}, uLt 0 u = true → sh d u = u
  | .non, _ => rfl
  | .bl b, _ => rfl
  | .int i, _ => rfl
  | .str x, _ => rfl
  | .tup us, h => by rw [uLt] at h; rw [sh, shs_cl d h]
  | .rl us, h => by rw [uLt] at h; rw [sh, shs_cl d h]
  | .loc n, h => by simp [uLt] at h
  | .fn g, _ => rfl
  | .gd ks us, h => by rw [uLt] at h; rw [sh, shs_cl d h]
theorem shs_cl (d : Nat) : ∀ {us : List U}, uLts 0 us = true → shs d us = us
  | [], _ => rfl
  | u :: us, h => by
    rw [uLts, Bool.and_eq_true] at h
    rw [shs, sh_cl d h.1, shs_cl d h.2]
end
end DP
end
section
/-! DpZ2: the evaluator moved behind other cells, to the end. -/
set_option linter.all false
set_option autoImplicit false
set_option maxRecDepth 100000
namespace DP
open PySem L2

mutual
/-- the constants of a text have no cells -/
def clX : Sx → Bool
  | .var _ => true
  | .cst u => uLt 0 u
  | .gl _ u => uLt 0 u
  | .neg _ => true
  | .tup es => clXs es
  | .lst es => clXs es
  | .sts _ es => clXb es
  | .dsp es => clXd es
  | .bin _ a b => clX a && clX b
  | .cmp _ a b => clX a && clX b
  | .chn _ _ a b c => clX a && clX b && clX c
  | .bop _ e es => clX e && clXs es
  | .no a => clX a
  | .ite c a b => clX c && clX a && clX b
  | .ix a i => clX a && clX i
  | .slc a lo hi => clX a && clXo lo && clXo hi
  | .mkd a => clX a
  | .rev a => clX a
  | .call _ es => clXs es
  | .calv _ _ es => clXs es
  | .b1 _ a => clX a
  | .b2 _ a c => clX a && clX c
  | .mt _ o es => clX o && clXs es
  | .mt1 _ o a => clX o && clX a
  | .lc _ elt _ it ifs => clI it && clXs ifs && clX elt
def clXs : List Sx → Bool
  | [] => true
  | e :: es => clX e && clXs es
def clXd : List (Sx × Sx) → Bool
  | [] => true
  | (k, v) :: es => clX k && clX v && clXd es
def clXb : List (Bool × Sx) → Bool
  | [] => true
  | (_, e) :: es => clX e && clXb es
def clXo : Option Sx → Bool
  | none => true
  | some e => clX e
def clI : It' → Bool
  | .pl e => clX e
  | .rg1 e => clX e
  | .rg2 a b => clX a && clX b
  | .enm e => clX e
  | .zp a b => clX a && clX b
end
mutual
def clS : Ss → Bool
  | .ex e => clX e
  | .asg _ e => clX e
  | .asx a i e => clX a && clX i && clX e
  | .aug _ _ e => clX e
  | .par2 _ _ es => clXs es
  | .par3 _ _ _ es => clXs es
  | .ret e => clX e
  | .ret0 => true
  | .ifs c a b => clX c && clSs a && clSs b
  | .whl c b => clX c && clSs b
  | .for' _ it b => clI it && clSs b
  | .brk => true
  | .cnt => true
  | .pass => true
def clSs : List Ss → Bool
  | [] => true
  | s :: ss => clS s && clSs ss
end
def ShK (C : Calls) : Prop := ∀ (f : Nat) (us : List U) (μ0 μ : Store), C f (shs μ0.length us) (shM μ0 μ) = shR μ0 (sh μ0.length) (C f us μ)

theorem sh_dOfs (d : Nat) : ∀ (us : List U) (acc : List (U × U)), dOfs (shs d us) (shP d acc) = (dOfs us acc).map (shP d)
  | [], acc => rfl
  | u :: us, acc => by
    cases u with
    | tup ws =>
      rcases ws with _ | ⟨k, _ | ⟨v, _ | ⟨w, ws⟩⟩⟩
      · rfl
      · rfl
      · simp only [shs, sh, dOfs, sh_hkD]
        split
        · rw [sh_dPut]; exact sh_dOfs d us (dPut acc k v)
        · rfl
      · rfl
    | _ => rfl
theorem sh_rgU (d : Nat) (lo : Int) (n : Nat) : shs d (rgU lo n) = rgU lo n := by
  rw [shs_map]; unfold rgU; rw [List.map_map]; rfl
theorem sh_asxT (μ0 μ : Store) (a i : T) (u : U) : asxT (shT μ0.length a) (shT μ0.length i) (sh μ0.length u) (shM μ0 μ) = (asxT a i u μ).map (shM μ0) := by
  cases a with
  | l xs => rfl
  | u w =>
    cases w with
    | loc n =>
      cases i with
      | l ys => rfl
      | u k =>
        show (match (shM μ0 μ)[μ0.length + n]? with
          | some (.lst xs) => match sh μ0.length k with
            | .int j => (ixN xs.length j).map fun m => (shM μ0 μ).set (μ0.length + n) (.lst (xs.set m (sh μ0.length u)))
            | _ => none
          | some (.dct kvs) => if hkD (sh μ0.length k) = true ∧ kvs.length < sizeLine then some ((shM μ0 μ).set (μ0.length + n) (.dct (dPut kvs (sh μ0.length k) (sh μ0.length u)))) else none
          | _ => none) = Option.map _ (match μ[n]? with
          | some (.lst xs) => match k with
            | .int j => (ixN xs.length j).map fun m => μ.set n (.lst (xs.set m u))
            | _ => none
          | some (.dct kvs) => if hkD k = true ∧ kvs.length < sizeLine then some (μ.set n (.dct (dPut kvs k u))) else none
          | _ => none)
        rw [shM_at]
        cases μ[n]? with
        | none => rfl
        | some c =>
          cases c with
          | lst xs =>
            cases k with
            | int j =>
              simp only [Option.map_some, shC, sh, shs_len]
              cases ixN xs.length j with
              | none => rfl
              | some m => simp only [Option.map_some, shM_set, shC, shs_set]
            | _ => rfl
          | dct kvs =>
            simp only [Option.map_some, shC, sh_hkD, List.length_map]
            split
            · simp only [Option.map_some, shM_set, shC]
              rw [show (kvs.map fun p => (sh μ0.length p.1, sh μ0.length p.2)) = shP μ0.length kvs from rfl, sh_dPut]; rfl
            · rfl
          | ins _ _ => rfl
    | _ => rfl
theorem sh_ipT (op : Operator) (d : Nat) (x y : T) (μ μ' : Store) : ipT op (shT d x) (shT d y) μ' = (ipT op x y μ).map (shT d) := by
  cases op <;> cases x <;> cases y <;> first
    | rfl
    | (rename_i a c; cases a <;> cases c <;> rfl)
    | (rename_i a c; cases a <;> rfl)
    | (rename_i a c; cases c <;> rfl)
theorem shE_var (d : Nat) (ρ : Ev) (i : Nat) (μ0 μ : Store) (hd : d = μ0.length) : (match (shE d ρ)[i]? with | some (some u) => Res.ok (T.u u) (shM μ0 μ) | _ => .no) = shR μ0 (shT d) (match ρ[i]? with | some (some u) => Res.ok (T.u u) μ | _ => .no) := by
  rw [shE_get]
  cases ρ[i]? with
  | none => rfl
  | some o => cases o <;> rfl
theorem shR_len {μ0 μ : Store} {us : List U} {a b : T} (h : a = shT μ0.length b) : (if (shs μ0.length us).length ≤ sizeLine then Res.ok a (shM μ0 μ) else .no) = shR μ0 (shT μ0.length) (if us.length ≤ sizeLine then Res.ok b μ else .no) := by
  rw [shs_len, h]; split <;> rfl
theorem shP_foldl (d : Nat) : ∀ (kvs acc : List (U × U)), (shP d kvs).foldl (fun a p => dPut a p.1 p.2) (shP d acc) = shP d (kvs.foldl (fun a p => dPut a p.1 p.2) acc)
  | [], acc => rfl
  | p :: kvs, acc => by
    rw [show shP d (p :: kvs) = (sh d p.1, sh d p.2) :: shP d kvs from rfl, List.foldl_cons, List.foldl_cons]
    dsimp only
    rw [sh_dPut]
    exact shP_foldl d kvs (dPut acc p.1 p.2)
theorem shR_call {C : Calls} (hC : ShK C) (f : Nat) (us : List U) (μ0 μ : Store) : ((C f (shs μ0.length us) (shM μ0 μ)).bind fun u μ2 => Res.ok (T.u u) μ2) = shR μ0 (shT μ0.length) ((C f us μ).bind fun u μ2 => .ok (.u u) μ2) := by
  rw [hC]; exact shR_bind fun u μ2 => rfl
section
variable {C : Calls} (hC : ShK C)
include hC
mutual
theorem sh_vb : ∀ (e : Sx), clX e = true → ShV (vb C e)
  | .var i, _ => .of fun μ0 ρ μ => shE_var _ ρ i μ0 μ rfl
  | .cst u, h => .of fun μ0 ρ μ => by simp only [shR, shT]; rw [sh_cl μ0.length (u := u) (by simpa [clX] using h)]
  | .gl x u, h => .of fun μ0 ρ μ => by simp only [shR, shT]; rw [sh_cl μ0.length (u := u) (by simpa [clX] using h)]
  | .neg k, _ => .of fun μ0 ρ μ => rfl
  | .tup es, h => .of fun μ0 ρ μ => by
    rw [sh_evs (sh_vbs es (by simpa [clX] using h))]
    exact shR_bind fun us μ1 => shR_len rfl
  | .lst es, h => .of fun μ0 ρ μ => by
    rw [sh_evs (sh_vbs es (by simpa [clX] using h))]
    exact shR_bind fun us μ1 => shR_len rfl
  | .sts tp es, h => .of fun μ0 ρ μ => by
    rw [sh_evst (sh_vbst es (by simpa [clX] using h))]
    exact shR_bind fun us μ1 => shR_len (by cases tp <;> rfl)
  | .dsp es, h => .of fun μ0 ρ μ => by
    rw [sh_evd (sh_vbd es (by simpa [clX] using h))]
    refine shR_bind fun kvs μ1 => ?_
    simp only [shR, shT, sh, shM_len, shM_app, shC]
    rw [show ([] : List (U × U)) = shP μ0.length [] from rfl, shP_foldl]; rfl
  | .bin op a b, h => .of fun μ0 ρ μ => by
    simp only [clX, Bool.and_eq_true] at h
    rw [(sh_vb a h.1).v]
    refine shR_bind fun x μ1 => ?_
    rw [(sh_vb b h.2).v]
    refine shR_bind fun y μ2 => ?_
    rw [sh_binT]; exact shR_opt
  | .cmp op a b, h => by
    simp only [clX, Bool.and_eq_true] at h
    refine ⟨fun μ0 ρ μ => ?_, fun μ0 ρ μ => ?_⟩
    · simp only [vb]
      rw [(sh_vb a h.1).v]
      refine shR_bind fun x μ1 => ?_
      rw [(sh_vb b h.2).v]
      refine shR_bind fun y μ2 => ?_
      rw [sh_cmpD]; cases cmpD op x y μ2 <;> rfl
    · simp only [vb]
      rw [(sh_vb a h.1).v]
      refine shR_bind fun x μ1 => ?_
      rw [(sh_vb b h.2).v]
      refine shR_bind fun y μ2 => ?_
      rw [sh_cmpD]; exact shR_optB
  | .chn op op' a b c, h => by
    simp only [clX, Bool.and_eq_true] at h
    refine ⟨fun μ0 ρ μ => ?_, fun μ0 ρ μ => ?_⟩
    · simp only [vb]
      rw [(sh_vb a h.1.1).v]
      refine shR_bind fun x μ1 => ?_
      rw [(sh_vb b h.1.2).v]
      refine shR_bind fun y μ2 => ?_
      rw [sh_cmpT, shR_optB]
      refine shR_bind fun t μ3 => ?_
      cases t with
      | false => rfl
      | true =>
        simp only [id, if_true]
        rw [(sh_vb c h.2).v]
        refine shR_bind fun z μ4 => ?_
        rw [sh_cmpT]; cases cmpT op' y z μ4 <;> rfl
    · simp only [vb]
      rw [(sh_vb a h.1.1).v]
      refine shR_bind fun x μ1 => ?_
      rw [(sh_vb b h.1.2).v]
      refine shR_bind fun y μ2 => ?_
      rw [sh_cmpT, shR_optB]
      refine shR_bind fun t μ3 => ?_
      cases t with
      | false => rfl
      | true =>
        simp only [id, if_true]
        rw [(sh_vb c h.2).v]
        refine shR_bind fun z μ4 => ?_
        rw [sh_cmpT]; exact shR_optB
  | .bop op e es, h => by
    simp only [clX, Bool.and_eq_true] at h
    exact ⟨fun μ0 ρ μ => sh_evV op (sh_vb e h.1) (sh_vbs es h.2) μ0 ρ μ, fun μ0 ρ μ => sh_evAll op (sh_vb e h.1) (sh_vbs es h.2) μ0 ρ μ⟩
  | .no a, h => by
    rw [clX] at h
    refine ⟨fun μ0 ρ μ => ?_, fun μ0 ρ μ => ?_⟩
    · simp only [vb]
      rw [(sh_vb a h).v]
      refine shR_bind fun x μ1 => ?_
      cases x with
      | l xs => rfl
      | u w => cases w <;> rfl
    · simp only [vb]
      rw [(sh_vb a h).b]
      exact shR_bind fun x μ1 => rfl
  | .ite c a b, h => by
    simp only [clX, Bool.and_eq_true] at h
    refine ⟨fun μ0 ρ μ => ?_, fun μ0 ρ μ => ?_⟩
    · simp only [vb]
      rw [(sh_vb c h.1.1).b]
      refine shR_bind fun t μ1 => ?_
      cases t with
      | true => exact (sh_vb a h.1.2).v μ0 ρ μ1
      | false => exact (sh_vb b h.2).v μ0 ρ μ1
    · simp only [vb]
      rw [(sh_vb c h.1.1).b]
      refine shR_bind fun t μ1 => ?_
      cases t with
      | true => exact (sh_vb a h.1.2).b μ0 ρ μ1
      | false => exact (sh_vb b h.2).b μ0 ρ μ1
  | .ix a i, h => .of fun μ0 ρ μ => by
    simp only [clX, Bool.and_eq_true] at h
    rw [(sh_vb a h.1).v]
    refine shR_bind fun x μ1 => ?_
    rw [(sh_vb i h.2).v]
    refine shR_bind fun y μ2 => ?_
    rw [sh_ixD]; exact shR_opt
  | .slc a lo hi, h => .of fun μ0 ρ μ => by
    simp only [clX, Bool.and_eq_true] at h
    rw [(sh_vb a h.1.1).v]
    refine shR_bind fun x μ1 => ?_
    rw [sh_evO (sh_vbo lo h.1.2)]
    refine shR_bind fun l μ2 => ?_
    rw [sh_evO (sh_vbo hi h.2)]
    refine shR_bind fun h μ3 => ?_
    simp only [id]
    rw [sh_slT]; exact shR_opt
  | .mkd a, h => .of fun μ0 ρ μ => by
    rw [(sh_vb a (by simpa [clX] using h)).v]
    refine shR_bind fun x μ1 => ?_
    rw [sh_lstOf]
    cases x.lstOf μ1 with
    | none => rfl
    | some us =>
      simp only [Option.map_some]
      rw [show dOfs (shs μ0.length us) [] = (dOfs us []).map (shP μ0.length) from sh_dOfs μ0.length us []]
      cases dOfs us [] with
      | none => rfl
      | some kvs =>
        simp only [Option.map_some, shR, shT, sh, shM_len, shM_app, shC]; rfl
  | .rev a, h => .of fun μ0 ρ μ => by
    rw [(sh_vb a (by simpa [clX] using h)).v]
    refine shR_bind fun x μ1 => ?_
    rw [sh_revT]; exact shR_opt
  | .call f es, h => .of fun μ0 ρ μ => by
    rw [sh_evs (sh_vbs es (by simpa [clX] using h))]
    exact shR_bind fun us μ1 => shR_call hC f us μ0 μ1
  | .calv i fs es, h => .of fun μ0 ρ μ => by
    rw [shE_get]
    cases ρ[i]? with
    | none => rfl
    | some o =>
      cases o with
      | none => rfl
      | some u =>
        cases u with
        | fn f =>
          simp only [Option.map_some, sh]
          split
          · rw [sh_evs (sh_vbs es (by simpa [clX] using h))]
            exact shR_bind fun us μ1 => shR_call hC f us μ0 μ1
          · rfl
        | _ => rfl
  | .b1 b a, h => .of fun μ0 ρ μ => by
    rw [(sh_vb a (by simpa [clX] using h)).v]
    refine shR_bind fun x μ1 => ?_
    rw [sh_b1T]; exact shR_opt
  | .b2 b a c, h => .of fun μ0 ρ μ => by
    simp only [clX, Bool.and_eq_true] at h
    rw [(sh_vb a h.1).v]
    refine shR_bind fun x μ1 => ?_
    rw [(sh_vb c h.2).v]
    refine shR_bind fun y μ2 => ?_
    rw [sh_b2T]; exact shR_opt
  | .mt m o es, h => .of fun μ0 ρ μ => by
    simp only [clX, Bool.and_eq_true] at h
    rw [(sh_vb o h.1).v]
    refine shR_bind fun x μ1 => ?_
    rw [sh_tyT]
    split
    · rw [sh_evs (sh_vbs es h.2)]
      exact shR_bind fun us μ2 => sh_mtT m μ0 μ2 x us
    · rfl
  | .mt1 m o a, h => .of fun μ0 ρ μ => by
    simp only [clX, Bool.and_eq_true] at h
    rw [(sh_vb o h.1).v]
    refine shR_bind fun x μ1 => ?_
    rw [sh_tyT]
    split
    · rw [(sh_vb a h.2).v]
      exact shR_bind fun y μ2 => sh_mt1T m μ0 μ2 x y
    · rfl
  | .lc vs elt tg it ifs, h => .of fun μ0 ρ μ => by
    simp only [clX, Bool.and_eq_true] at h
    rw [sh_evI it h.1.1]
    refine shR_bind fun x μ1 => ?_
    rw [← shE_wipe]
    rw [show (([] : List U)) = shs μ0.length [] from rfl]
    rw [show (shI μ0.length x).us = shs μ0.length x.us from rfl]
    rw [sh_lcLoop (fun μ0 ρ μ => sh_evIfs (sh_vbs ifs h.1.2) μ0 ρ μ) (sh_vb elt h.2).v, shR_noEx]; rfl
theorem sh_vbs : ∀ (es : List Sx), clXs es = true → ∀ m ∈ vbs C es, ShV m
  | [], _, m, hm => by simp [vbs] at hm
  | e :: es, h, m, hm => by
    simp only [clXs, Bool.and_eq_true] at h
    simp only [vbs, List.mem_cons] at hm
    rcases hm with rfl | hm
    · exact sh_vb e h.1
    · exact sh_vbs es h.2 m hm
theorem sh_vbd : ∀ (es : List (Sx × Sx)), clXd es = true → ∀ m ∈ vbd C es, ShV m.1 ∧ ShV m.2
  | [], _, m, hm => by simp [vbd] at hm
  | (k, v) :: es, h, m, hm => by
    simp only [clXd, Bool.and_eq_true] at h
    simp only [vbd, List.mem_cons] at hm
    rcases hm with rfl | hm
    · exact ⟨sh_vb k h.1.1, sh_vb v h.1.2⟩
    · exact sh_vbd es h.2 m hm
theorem sh_vbst : ∀ (es : List (Bool × Sx)), clXb es = true → ∀ m ∈ vbst C es, ShV m.2
  | [], _, m, hm => by simp [vbst] at hm
  | (b, e) :: es, h, m, hm => by
    simp only [clXb, Bool.and_eq_true] at h
    simp only [vbst, List.mem_cons] at hm
    rcases hm with rfl | hm
    · exact sh_vb e h.1
    · exact sh_vbst es h.2 m hm
theorem sh_vbo : ∀ (o : Option Sx), clXo o = true → ∀ m, vbo C o = some m → ShV m
  | none, _, m, hm => by simp [vbo] at hm
  | some e, h, m, hm => by
    simp only [vbo, Option.some.injEq] at hm
    rw [← hm]; exact sh_vb e (by simpa [clXo] using h)
theorem sh_evI : ∀ (it : It'), clI it = true → ∀ (μ0 : Store) (ρ : Ev) (μ : Store), evI C it (shE μ0.length ρ) (shM μ0 μ) = shR μ0 (shI μ0.length) (evI C it ρ μ)
  | .pl e, h, μ0, ρ, μ => by
    simp only [evI]
    rw [(sh_vb e (by simpa [clI] using h)).v]
    refine shR_bind fun x μ1 => ?_
    rw [sh_itmOf]; cases itmOf x μ1 <;> rfl
  | .rg1 e, h, μ0, ρ, μ => by
    simp only [evI]
    rw [(sh_vb e (by simpa [clI] using h)).v]
    refine shR_bind fun x μ1 => ?_
    cases x with
    | l xs => rfl
    | u w =>
      cases w with
      | int j =>
        simp only [shT, sh]
        split
        · simp only [shR, shI]; rw [sh_rgU]; rfl
        · rfl
      | _ => rfl
  | .rg2 a b, h, μ0, ρ, μ => by
    simp only [clI, Bool.and_eq_true] at h
    simp only [evI]
    rw [(sh_vb a h.1).v]
    refine shR_bind fun x μ1 => ?_
    rw [(sh_vb b h.2).v]
    refine shR_bind fun y μ2 => ?_
    cases x with
    | l xs => rfl
    | u w =>
      cases w with
      | int i =>
        cases y with
        | l ys => rfl
        | u z =>
          cases z with
          | int j =>
            simp only [shT, sh]
            split
            · simp only [shR, shI]; rw [sh_rgU]; rfl
            · rfl
          | _ => rfl
      | _ => rfl
  | .enm e, h, μ0, ρ, μ => by
    simp only [evI]
    rw [(sh_vb e (by simpa [clI] using h)).v]
    refine shR_bind fun x μ1 => ?_
    rw [sh_enmOf]; cases enmOf x μ1 <;> rfl
  | .zp a b, h, μ0, ρ, μ => by
    simp only [clI, Bool.and_eq_true] at h
    simp only [evI]
    rw [(sh_vb a h.1).v]
    refine shR_bind fun x μ1 => ?_
    rw [(sh_vb b h.2).v]
    refine shR_bind fun y μ2 => ?_
    rw [sh_zipOf]; cases zipOf x y μ2 <;> rfl
end
end
end DP
end
section
/-! DpZ3: the evaluator moved behind other cells: statements, calls. -/
set_option linter.all false
set_option autoImplicit false
set_option maxRecDepth 100000
namespace DP
open PySem L2

def shF (d : Nat) : Fl → Fl
  | .nx ρ => .nx (shE d ρ)
  | .rt u => .rt (sh d u)
  | .bk ρ => .bk (shE d ρ)
  | .ct ρ => .ct (shE d ρ)
  | .xx x ρ => .xx (shX d x) (shE d ρ)
theorem shR_bindS {α : Type} {μ0 : Store} {s : α → α} {r : Res α} {ρ : Ev} {k k' : α → Store → Res Fl} (h : ∀ a μ, k' (s a) (shM μ0 μ) = shR μ0 (shF μ0.length) (k a μ)) : (shR μ0 s r).bindS (shE μ0.length ρ) k' = shR μ0 (shF μ0.length) (r.bindS ρ k) := by
  cases r with
  | no => rfl
  | ok a μ => exact h a μ
  | ex x μ => rfl
theorem sh_toPlc (tg : Tg) (μ0 : Store) (t : T) (ρ : Ev) (μ : Store) : toPlc tg (shT μ0.length t) (shE μ0.length ρ) (shM μ0 μ) = shR μ0 (shF μ0.length) (toPlc tg t ρ μ) := by
  unfold toPlc
  rw [sh_plc]
  dsimp only
  rw [sh_asgT]
  cases asgT tg (plc t μ).1 (plc t μ).2 ρ <;> rfl
theorem sh_setAll (d : Nat) : ∀ (is : List Nat) (us : List U) (ρ : Ev), setAll is (shs d us) (shE d ρ) = (setAll is us ρ).map (shE d)
  | [], [], ρ => rfl
  | [], u :: us, ρ => rfl
  | i :: is, [], ρ => rfl
  | i :: is, u :: us, ρ => by
    simp only [shs, setAll, shE_len]
    split
    · rw [← shE_set]; exact sh_setAll d is us _
    · rfl
def ShB (f : Ev → Store → Res Fl) : Prop := ∀ (μ0 : Store) (ρ : Ev) (μ : Store), f (shE μ0.length ρ) (shM μ0 μ) = shR μ0 (shF μ0.length) (f ρ μ)
theorem sh_seqE {μ0 : Store} {r : Res Fl} {f : Ev → Store → Res Fl} (hf : ShB f) : seqE (shR μ0 (shF μ0.length) r) f = shR μ0 (shF μ0.length) (seqE r f) := by
  cases r with
  | no => rfl
  | ex x μ => rfl
  | ok a μ => cases a <;> first | exact hf μ0 _ μ | rfl
theorem sh_lapE {μ0 : Store} {r : Res Fl} {f f' : Ev → Store → Res Fl} (hf : ∀ (ρ : Ev) (μ : Store), f' (shE μ0.length ρ) (shM μ0 μ) = shR μ0 (shF μ0.length) (f ρ μ)) : lapE (shR μ0 (shF μ0.length) r) f' = shR μ0 (shF μ0.length) (lapE r f) := by
  cases r with
  | no => rfl
  | ex x μ => rfl
  | ok a μ => cases a <;> first | exact hf _ μ | rfl
theorem sh_forL {tg : Tg} {x : Itm} {body : Ev → Store → Res Fl} (hb : ShB body) (μ0 : Store) : ∀ (us : List U) (ρ : Ev) (μ : Store), forL tg (shI μ0.length x) body (shs μ0.length us) (shE μ0.length ρ) (shM μ0 μ) = shR μ0 (shF μ0.length) (forL tg x body us ρ μ)
  | [], ρ, μ => by
    simp only [shs, forL, sh_itmOk]
    split <;> rfl
  | u :: us, ρ, μ => by
    simp only [shs, forL, sh_itmOk]
    split
    · rw [sh_asgT]
      cases asgT tg u μ ρ with
      | none => rfl
      | some ρ1 =>
        simp only [Option.map_some]
        rw [hb]
        exact sh_lapE fun ρ μ => sh_forL hb μ0 us ρ μ
    · rfl
theorem sh_whlL {c : Ev → Store → Res Bool} {body : Ev → Store → Res Fl} (hc : ∀ (μ0 : Store) (ρ : Ev) (μ : Store), c (shE μ0.length ρ) (shM μ0 μ) = shR μ0 id (c ρ μ)) (hb : ShB body) : ∀ (n : Nat), ShB (whlL c body n)
  | 0 => fun μ0 ρ μ => rfl
  | n + 1 => fun μ0 ρ μ => by
    simp only [whlL]
    rw [hc]
    refine shR_bindS fun b μ1 => ?_
    cases b with
    | false => rfl
    | true =>
      simp only [id, if_true]
      rw [hb]
      exact sh_lapE fun ρ μ => sh_whlL hc hb n μ0 ρ μ
section
variable {C : Calls} (hC : ShK C)
include hC
mutual
theorem sh_ex : ∀ (s : Ss), clS s = true → ShB (ex C s)
  | .ex e, h => fun μ0 ρ μ => by
    simp only [ex]
    rw [(sh_vb hC e (by simpa [clS] using h)).v]
    exact shR_bindS fun t μ1 => rfl
  | .asg tg e, h => fun μ0 ρ μ => by
    simp only [ex]
    rw [(sh_vb hC e (by simpa [clS] using h)).v]
    exact shR_bindS fun t μ1 => sh_toPlc tg μ0 t ρ μ1
  | .asx a i e, h => fun μ0 ρ μ => by
    simp only [clS, Bool.and_eq_true] at h
    simp only [ex]
    rw [(sh_vb hC e h.2).v, shR_placed]
    refine shR_bindS fun u μ1 => ?_
    rw [(sh_vb hC a h.1.1).v]
    refine shR_bindS fun x μ2 => ?_
    rw [(sh_vb hC i h.1.2).v]
    refine shR_bindS fun y μ3 => ?_
    rw [sh_asxT]
    cases asxT x y u μ3 <;> rfl
  | .aug i op e, h => fun μ0 ρ μ => by
    simp only [ex]
    rw [shE_get]
    cases ρ[i]? with
    | none => rfl
    | some o =>
      cases o with
      | none => rfl
      | some x =>
        simp only [Option.map_some]
        rw [(sh_vb hC e (by simpa [clS] using h)).v]
        refine shR_bindS fun y μ1 => ?_
        rw [show T.u (sh μ0.length x) = shT μ0.length (.u x) from rfl, sh_ipT op μ0.length (.u x) y μ1]
        cases ipT op (.u x) y μ1 with
        | none => rfl
        | some t =>
          cases t with
          | l xs => rfl
          | u z => simp only [Option.map_some, shT, shR, shF]; rw [shE_set]
  | .par2 i j es, h => fun μ0 ρ μ => by
    simp only [ex]
    rw [sh_evs (sh_vbs hC es (by simpa [clS] using h))]
    refine shR_bindS fun us μ1 => ?_
    rw [sh_setAll]
    cases setAll [i, j] us ρ <;> rfl
  | .par3 i j l es, h => fun μ0 ρ μ => by
    simp only [ex]
    rw [sh_evs (sh_vbs hC es (by simpa [clS] using h))]
    refine shR_bindS fun us μ1 => ?_
    rw [sh_setAll]
    cases setAll [i, j, l] us ρ <;> rfl
  | .ret e, h => fun μ0 ρ μ => by
    simp only [ex]
    rw [(sh_vb hC e (by simpa [clS] using h)).v, shR_placed]
    exact shR_bindS fun u μ1 => rfl
  | .ret0, h => fun μ0 ρ μ => rfl
  | .ifs c a b, h => fun μ0 ρ μ => by
    simp only [clS, Bool.and_eq_true] at h
    simp only [ex]
    rw [(sh_vb hC c h.1.1).b]
    refine shR_bindS fun t μ1 => ?_
    cases t with
    | true => exact sh_exs a h.1.2 μ0 ρ μ1
    | false => exact sh_exs b h.2 μ0 ρ μ1
  | .whl c b, h => fun μ0 ρ μ => by
    simp only [clS, Bool.and_eq_true] at h
    simp only [ex, whl]
    exact sh_whlL (sh_vb hC c h.1).b (sh_exs b h.2) whlN μ0 ρ μ
  | .for' tg it b, h => fun μ0 ρ μ => by
    simp only [clS, Bool.and_eq_true] at h
    simp only [ex]
    rw [sh_evI hC it h.1]
    exact shR_bindS fun x μ1 => sh_forL (sh_exs b h.2) μ0 x.us ρ μ1
  | .brk, h => fun μ0 ρ μ => rfl
  | .cnt, h => fun μ0 ρ μ => rfl
  | .pass, h => fun μ0 ρ μ => rfl
theorem sh_exs : ∀ (ss : List Ss), clSs ss = true → ShB (exs C ss)
  | [], h => fun μ0 ρ μ => rfl
  | s :: ss, h => fun μ0 ρ μ => by
    simp only [clSs, Bool.and_eq_true] at h
    simp only [exs]
    rw [sh_ex s h.1]
    exact sh_seqE (sh_exs ss h.2)
end
end
/-! what a call leaves -/
mutual
theorem uLt_sh (d n : Nat) : ∀ u : U, uLt (d + n) (sh d u) = uLt n u
  | .non => rfl
  | .bl _ => rfl
  | .int _ => rfl
  | .str _ => rfl
  | .tup us => by rw [sh, uLt, uLt, uLts_sh d n us]
  | .rl us => by rw [sh, uLt, uLt, uLts_sh d n us]
  | .loc m => by rw [sh, uLt, uLt]; exact decide_eq_decide.mpr (by omega)
  | .fn _ => rfl
  | .gd ks us => by rw [sh, uLt, uLt, uLts_sh d n us]
theorem uLts_sh (d n : Nat) : ∀ us : List U, uLts (d + n) (shs d us) = uLts n us
  | [] => rfl
  | u :: us => by rw [shs, uLts, uLts, uLt_sh d n u, uLts_sh d n us]
end
theorem cLt_sh (d n : Nat) (c : Cell) : cLt (d + n) (shC d c) = cLt n c := by
  cases c with
  | lst us => exact uLts_sh d n us
  | dct kvs =>
    simp only [shC, cLt, List.all_map]
    congr 1; funext p
    simp only [Function.comp, uLt_sh]
  | ins x fs =>
    simp only [shC, cLt, List.all_map]
    congr 1; funext p
    simp only [Function.comp, uLt_sh]
theorem shP_inj {d : Nat} : ∀ {xs ys : List (U × U)}, xs.map (fun p => (sh d p.1, sh d p.2)) = ys.map (fun p => (sh d p.1, sh d p.2)) → xs = ys
  | [], ys, h => by cases ys <;> simp_all
  | x :: xs, ys, h => by
    cases ys with
    | nil => simp at h
    | cons y ys =>
      simp only [List.map_cons, List.cons.injEq, Prod.mk.injEq] at h
      rw [shP_inj h.2, Prod.ext (sh_inj d h.1.1) (sh_inj d h.1.2)]
theorem shN_inj {d : Nat} : ∀ {xs ys : List (Nat × U)}, xs.map (fun p => (p.1, sh d p.2)) = ys.map (fun p => (p.1, sh d p.2)) → xs = ys
  | [], ys, h => by cases ys <;> simp_all
  | x :: xs, ys, h => by
    cases ys with
    | nil => simp at h
    | cons y ys =>
      simp only [List.map_cons, List.cons.injEq, Prod.mk.injEq] at h
      rw [shN_inj h.2, Prod.ext h.1.1 (sh_inj d h.1.2)]
theorem shC_inj' {d : Nat} {c c' : Cell} (h : shC d c = shC d c') : c = c' := by
  cases c <;> cases c' <;> simp only [shC, Cell.lst.injEq, Cell.dct.injEq, Cell.ins.injEq, reduceCtorEq] at h
  · rw [shs_inj d h]
  · rw [shP_inj h]
  · rw [h.1, shN_inj h.2]
theorem shM_lo {μ0 μ : Store} {i : Nat} (h : i < μ0.length) : (shM μ0 μ)[i]? = μ0[i]? := by
  unfold shM; rw [List.getElem?_append_left h]
theorem shM_take (μ0 μ : Store) (n : Nat) : (shM μ0 μ).take (μ0.length + n) = shM μ0 (μ.take n) := by
  unfold shM
  rw [List.take_length_add_append, List.map_take]
theorem sh_cln (μ0 μ1 μ2 : Store) : cln (shM μ0 μ1) (shM μ0 μ2) = cln μ1 μ2 := by
  have key : ∀ j : Nat, (decide ((shM μ0 μ2)[μ0.length + j]? = (shM μ0 μ1)[μ0.length + j]?) || match (shM μ0 μ2)[μ0.length + j]? with | some c => cLt (shM μ0 μ1).length c | none => false) = (decide (μ2[j]? = μ1[j]?) || match μ2[j]? with | some c => cLt μ1.length c | none => false) := fun j => by
    rw [shM_at, shM_at, shM_len]
    have e1 : decide (Option.map (shC μ0.length) μ2[j]? = Option.map (shC μ0.length) μ1[j]?) = decide (μ2[j]? = μ1[j]?) := decide_eq_decide.mpr ⟨fun h => by
      revert h
      cases μ2[j]? <;> cases μ1[j]? <;> intro h <;> simp_all
      exact shC_inj' h, fun h => by rw [h]⟩
    rw [e1]
    cases μ2[j]? with
    | none => rfl
    | some c => simp only [Option.map_some]; rw [cLt_sh]
  rw [Bool.eq_iff_iff]
  unfold cln
  rw [List.all_eq_true, List.all_eq_true]
  constructor
  · intro h j hj
    rw [List.mem_range] at hj
    have := h (μ0.length + j) (by rw [List.mem_range, shM_len]; omega)
    exact (key j).symm.trans this
  · intro h i hi
    rw [List.mem_range, shM_len] at hi
    by_cases hl : i < μ0.length
    · rw [shM_lo hl, shM_lo hl, decide_eq_true rfl]; rfl
    · have := h (i - μ0.length) (by rw [List.mem_range]; omega)
      have e := (key (i - μ0.length)).trans this
      rw [show μ0.length + (i - μ0.length) = i by omega] at e
      exact e
theorem sh_gc (μ0 μ1 μ2 : Store) (u : U) : gc (shM μ0 μ1) (sh μ0.length u) (shM μ0 μ2) = (sh μ0.length (gc μ1 u μ2).1, shM μ0 (gc μ1 u μ2).2) := by
  unfold gc
  rw [sh_cln, shM_len, uLt_sh]
  split
  · split
    · simp only [shM_take]
    · cases u with
      | loc l =>
        simp only [sh, shM_at]
        cases μ2[l]? with
        | none => rfl
        | some c =>
          simp only [Option.map_some, cLt_sh]
          split
          · simp only [shM_take, sh, shM_app]
          · rfl
      | _ => rfl
  · rfl
theorem shE_args (d : Nat) (us : List U) (n : Nat) : shE d (us.map some ++ List.replicate n none) = (shs d us).map some ++ List.replicate n none := by
  unfold shE
  rw [List.map_append, List.map_map, List.map_replicate, shs_map, List.map_map]; rfl
/-- the frame: what a call does, it does behind any cells -/
theorem sh_evF {F : Nat → Option Fd} (hF : ∀ f fd, F f = some fd → clSs fd.body = true) : ∀ (k : Nat), ShK (evF F k)
  | 0 => fun f us μ0 μ => rfl
  | k + 1 => fun f us μ0 μ => by
    simp only [evF]
    cases hf : F f with
    | none => rfl
    | some fd =>
      dsimp only
      rw [shs_len]
      split
      · rw [← shE_args, sh_exs (sh_evF hF k) fd.body (hF f fd hf)]
        cases exs (evF F k) fd.body (us.map some ++ List.replicate (fd.slots - fd.pars) none) μ with
        | no => rfl
        | ex x μ1 => rfl
        | ok a μ1 =>
          cases a with
          | nx ρ =>
            simp only [shR, shF]
            rw [show (U.non) = sh μ0.length .non from rfl, sh_gc]; rfl
          | rt u =>
            simp only [shR, shF]
            rw [sh_gc]
          | bk ρ => rfl
          | ct ρ => rfl
          | xx x ρ => rfl
      · rfl
/-- a call of plain values on an empty store that leaves a plain value says what it does on every store -/
theorem evF_any {F : Nat → Option Fd} (hF : ∀ f fd, F f = some fd → clSs fd.body = true) {k f : Nat} {us : List U} {u : U} (hu : uLts 0 us = true) (hv : uLt 0 u = true) (h : evF F k f us [] = .ok u []) (μ : Store) : evF F k f us μ = .ok u μ := by
  have := sh_evF hF k f us μ []
  rw [h, shs_cl μ.length hu] at this
  simpa [shM, shR, sh_cl μ.length hv] using this
end DP
end
section
/-! DpR: what changes when something is drawn; rules for the evaluator's constructs. -/
set_option linter.all false
set_option autoImplicit false
set_option maxRecDepth 100000
namespace DP
open PySem L2
/-- all that stood but the source is as it was; the store may have grown -/
def Gro (p c : Nat) (μ μ' : Store) : Prop := μ.length ≤ μ'.length ∧ ∀ i, i < μ.length → i ≠ p → i ≠ c → μ'[i]? = μ[i]?
section
variable {p c : Nat} {μ μ1 μ2 : Store}
theorem Gro.refl : Gro p c μ μ := ⟨Nat.le_refl _, fun _ _ _ _ => rfl⟩
theorem Gro.trans (a : Gro p c μ μ1) (b : Gro p c μ1 μ2) : Gro p c μ μ2 := ⟨Nat.le_trans a.1 b.1, fun i h1 h2 h3 => (b.2 i (Nat.lt_of_lt_of_le h1 a.1) h2 h3).trans (a.2 i h1 h2 h3)⟩
theorem Off.gro (a : Off p c μ μ1) : Gro p c μ μ1 := ⟨Nat.le_of_eq a.1.symm, fun i _ h2 h3 => a.2 i h2 h3⟩
theorem Gro.app {l : Store} : Gro p c μ (μ ++ l) := ⟨by simp, fun i h _ _ => List.getElem?_append_left h⟩
theorem Gro.set {f : Nat} {x : Cell} (a : Gro p c μ μ1) (h : μ.length ≤ f) : Gro p c μ (μ1.set f x) := ⟨by simpa using a.1, fun i h1 h2 h3 => by rw [List.getElem?_set, if_neg (by omega)]; exact a.2 i h1 h2 h3⟩
theorem Gro.keep {n : Nat} {x : Cell} (a : Gro p c μ μ1) (h : μ[n]? = some x) (hp : n ≠ p) (hc : n ≠ c) : μ1[n]? = some x := by rw [a.2 n (List.getElem?_eq_some_iff.mp h).1 hp hc, h]
theorem Src.lt1 (s : Src μ p c) : p < μ.length := by obtain ⟨_, _, _, _, _, h, _⟩ := s; exact (List.getElem?_eq_some_iff.mp h).1
theorem Src.lt2 (s : Src μ p c) : c < μ.length := by obtain ⟨_, _, _, _, _, _, h, _⟩ := s; exact (List.getElem?_eq_some_iff.mp h).1
theorem Src.app {l : Store} (s : Src μ p c) : Src (μ ++ l) p c := by
  have l1 := s.lt1
  have l2 := s.lt2
  obtain ⟨h, xs, l, m, t, h1, h2, h3⟩ := s
  exact ⟨h, xs, l, m, t, by rw [List.getElem?_append_left l1]; exact h1, by rw [List.getElem?_append_left l2]; exact h2, h3⟩
theorem Src.set {f : Nat} {x : Cell} (s : Src μ p c) (hp : f ≠ p) (hc : f ≠ c) : Src (μ.set f x) p c := by
  obtain ⟨h, xs, l, m, t, h1, h2, h3⟩ := s
  exact ⟨h, xs, l, m, t, by rw [List.getElem?_set, if_neg hp]; exact h1, by rw [List.getElem?_set, if_neg hc]; exact h2, h3⟩
theorem Src.take {n : Nat} (s : Src μ p c) (hp : p < n) (hc : c < n) : Src (μ.take n) p c := by
  obtain ⟨h, xs, l, m, t, h1, h2, h3⟩ := s
  exact ⟨h, xs, l, m, t, by rw [List.getElem?_take, if_pos hp]; exact h1, by rw [List.getElem?_take, if_pos hc]; exact h2, h3⟩
theorem uLts_ints (n : Nat) : ∀ xs : List Int, uLts n (xs.map U.int) = true
  | [] => rfl
  | x :: xs => by rw [List.map_cons, uLts, uLts_ints n xs]; rfl
theorem Src.cln (s0 : Src μ p c) (s : Src μ1 p c) (g : Gro p c μ μ1) : cln μ μ1 = true := by
  unfold DP.cln
  rw [List.all_eq_true]
  intro i hi
  have hi' : i < μ.length := List.mem_range.mp hi
  by_cases e1 : i = p
  · subst e1
    have l2 := s0.lt2
    obtain ⟨_, xs, l, m, t, h1, _⟩ := s
    rw [h1]
    simp [cLt, srcD, uLt, l2]
  · by_cases e2 : i = c
    · subst e2
      obtain ⟨_, xs, l, m, t, _, h2, _⟩ := s
      rw [h2]
      simp only [cLt, uLts_ints, Bool.or_true]
    · rw [g.2 i hi' e1 e2]; simp
theorem Gro.take (g : Gro p c μ μ1) : Off p c μ (μ1.take μ.length) ∨ True := .inr trivial
end
theorem off_take {p c : Nat} {μ μ1 : Store} (g : Gro p c μ μ1) : (μ1.take μ.length).length = μ.length ∧ ∀ i, i < μ.length → i ≠ p → i ≠ c → (μ1.take μ.length)[i]? = μ[i]? := by
  refine ⟨by rw [List.length_take]; exact Nat.min_eq_left g.1, fun i h1 h2 h3 => ?_⟩
  rw [List.getElem?_take, if_pos h1]; exact g.2 i h1 h2 h3
theorem gro_take {p c : Nat} {μ μ1 : Store} (g : Gro p c μ μ1) : Gro p c μ (μ1.take μ.length) := ⟨Nat.le_of_eq (off_take g).1.symm, (off_take g).2⟩
/-- a call that draws and answers a value without cells of its own -/
theorem evF_src {F : Nat → Option Fd} {f k p c : Nat} {fd : Fd} {us : List U} {μ μ1 : Store} {u : U} {ρ : Ev} (hF : F f = some fd) (hn : us.length = fd.pars) (hρ : ρ = us.map some ++ List.replicate (fd.slots - fd.pars) none) (hb : exs (evF F k) fd.body ρ μ = .ok (.rt u) μ1) (s0 : Src μ p c) (s : Src μ1 p c) (g : Gro p c μ μ1) (hu : uLt μ.length u = true) :
    evF F (k + 1) f us μ = .ok u (μ1.take μ.length) ∧ Src (μ1.take μ.length) p c ∧ Gro p c μ (μ1.take μ.length) := by
  subst hρ
  refine ⟨?_, s.take s0.lt1 s0.lt2, gro_take g⟩
  simp only [evF, hF]
  rw [if_pos hn, hb]
  show Res.ok (gc μ u μ1).1 (gc μ u μ1).2 = _
  unfold gc
  rw [if_pos (s0.cln s g), if_pos hu]
/-- a call that draws and answers a list just made -/
theorem evF_srcL {F : Nat → Option Fd} {f k p c n : Nat} {fd : Fd} {us xs : List U} {μ μ1 : Store} {ρ : Ev} (hF : F f = some fd) (hn : us.length = fd.pars) (hρ : ρ = us.map some ++ List.replicate (fd.slots - fd.pars) none) (hb : exs (evF F k) fd.body ρ μ = .ok (.rt (.loc n)) μ1) (s0 : Src μ p c) (s : Src μ1 p c) (g : Gro p c μ μ1) (hl : μ.length ≤ n) (hx : μ1[n]? = some (.lst xs)) (hu : uLts μ.length xs = true) :
    evF F (k + 1) f us μ = .ok (.loc μ.length) (μ1.take μ.length ++ [.lst xs]) ∧ Src (μ1.take μ.length ++ [.lst xs]) p c ∧ Gro p c μ (μ1.take μ.length ++ [.lst xs]) := by
  subst hρ
  refine ⟨?_, (s.take s0.lt1 s0.lt2).app, (gro_take g).trans Gro.app⟩
  simp only [evF, hF]
  rw [if_pos hn, hb]
  show Res.ok (gc μ (.loc n) μ1).1 (gc μ (.loc n) μ1).2 = _
  unfold gc
  rw [if_pos (s0.cln s g), if_neg (by rw [uLt, decide_eq_true_eq]; omega)]
  simp only [hx]
  rw [if_pos (show cLt μ.length (.lst xs) = true from hu)]

/-! ### rules -/
section
variable {C : Calls} {ρ : Ev} {μ μ1 μ2 μ3 : Store}
theorem v_tup {es : List Sx} {us : List U} (h : evs (vbs C es) ρ μ = .ok us μ1) (hl : us.length ≤ sizeLine) : (vb C (.tup es)).v ρ μ = .ok (.u (.tup us)) μ1 := by
  rw [vb]; simp only [VB.of, h, Res.bind]; exact if_pos hl
theorem v_lst {es : List Sx} {us : List U} (h : evs (vbs C es) ρ μ = .ok us μ1) (hl : us.length ≤ sizeLine) : (vb C (.lst es)).v ρ μ = .ok (.l us) μ1 := by
  rw [vb]; simp only [VB.of, h, Res.bind]; exact if_pos hl
theorem v_gl {x : Nat} {u : U} : (vb C (.gl x u)).v ρ μ = .ok (.u u) μ := rfl
theorem v_ix {a i : Sx} {x y t : T} (h1 : (vb C a).v ρ μ = .ok x μ1) (h2 : (vb C i).v ρ μ1 = .ok y μ2) (h3 : ixD x y μ2 = some t) : (vb C (.ix a i)).v ρ μ = .ok t μ2 := by
  rw [vb]; simp only [VB.of, h1, h2, h3, Res.bind, opt]
theorem v_cmp {op : CmpOp} {a b : Sx} {x y : T} {t : Bool} (h1 : (vb C a).v ρ μ = .ok x μ1) (h2 : (vb C b).v ρ μ1 = .ok y μ2) (h3 : cmpD op x y μ2 = some t) : (vb C (.cmp op a b)).v ρ μ = .ok (.u (.bl t)) μ2 := by
  rw [vb]; simp only [h1, h2, h3, Res.bind, opt, Option.map_some]
theorem b_cmp {op : CmpOp} {a b : Sx} {x y : T} {t : Bool} (h1 : (vb C a).v ρ μ = .ok x μ1) (h2 : (vb C b).v ρ μ1 = .ok y μ2) (h3 : cmpD op x y μ2 = some t) : (vb C (.cmp op a b)).b ρ μ = .ok t μ2 := by
  rw [vb]; simp only [h1, h2, h3, Res.bind, optB]
theorem b_var {i : Nat} {u : U} {t : Bool} (h : ρ[i]? = some (some u)) (ht : truT μ (.u u) = some t) : (vb C (.var i)).b ρ μ = .ok t μ := by
  rw [vb]; simp only [VB.of, h, Res.bind, ht, optB]
theorem evO_none : evO (vbo C none) ρ μ = .ok none μ := rfl
theorem evO_some {e : Sx} {i : Int} (h : (vb C e).v ρ μ = .ok (.u (.int i)) μ1) : evO (vbo C (some e)) ρ μ = .ok (some i) μ1 := by
  simp only [vbo, evO, h, Res.bind]
theorem v_slc {a : Sx} {lo hi : Option Sx} {x t : T} {l h : Option Int} (h1 : (vb C a).v ρ μ = .ok x μ1) (h2 : evO (vbo C lo) ρ μ1 = .ok l μ2) (h3 : evO (vbo C hi) ρ μ2 = .ok h μ3) (h4 : slT x l h μ3 = some t) : (vb C (.slc a lo hi)).v ρ μ = .ok t μ3 := by
  rw [vb]; simp only [VB.of, h1, h2, h3, h4, Res.bind, opt]
theorem v_append {o e : Sx} {n : Nat} {xs : List U} {u : U} (h1 : (vb C o).v ρ μ = .ok (.u (.loc n)) μ1) (h2 : (vb C e).v ρ μ1 = .ok (.u u) μ2) (ht : μ1[n]? = some (.lst xs)) (hn : μ2[n]? = some (.lst xs)) (hl : xs.length < sizeLine) :
    (vb C (.mt .append o [e])).v ρ μ = .ok (.u .non) (μ2.set n (.lst (xs ++ [u]))) := by
  rw [vb]; simp only [VB.of, h1, Res.bind, tyT, ht, if_true, vbs, evs, placed, h2, plc, mtT, hn, mtL]; rw [if_pos hl]
theorem ex_ex {e : Sx} {t : T} (h : (vb C e).v ρ μ = .ok t μ1) : ex C (.ex e) ρ μ = .ok (.nx ρ) μ1 := by
  simp only [ex, h, Res.bindS]
theorem ex_asgL {i : Nat} {e : Sx} {xs : List U} (h : (vb C e).v ρ μ = .ok (.l xs) μ1) (hi : i < ρ.length) : ex C (.asg (.nm i) e) ρ μ = .ok (.nx (ρ.set i (some (.loc μ1.length)))) (μ1 ++ [.lst xs]) := by
  simp only [ex, h, Res.bindS, toPlc, plc, asgT]
  rw [if_pos hi]
theorem ex_asgT {ts : List Tg} {e : Sx} {u : U} {ρ' : Ev} (h : (vb C e).v ρ μ = .ok (.u u) μ1) (hi : asgT (.tp ts) u μ1 ρ = some ρ') : ex C (.asg (.tp ts) e) ρ μ = .ok (.nx ρ') μ1 := by
  simp only [ex, h, Res.bindS, toPlc, plc, hi]
theorem ex_ret_l {e : Sx} {xs : List U} (h : (vb C e).v ρ μ = .ok (.l xs) μ1) : ex C (.ret e) ρ μ = .ok (.rt (.loc μ1.length)) (μ1 ++ [.lst xs]) := by
  simp only [ex, h, placed, plc, Res.bind, Res.bindS]
theorem ex_ifs {e : Sx} {a b : List Ss} {t : Bool} (h : (vb C e).b ρ μ = .ok t μ1) : ex C (.ifs e a b) ρ μ = if t then exs C a ρ μ1 else exs C b ρ μ1 := by
  simp only [ex, h, Res.bindS]
theorem ex_par2 {i j : Nat} {es : List Sx} {us : List U} {ρ' : Ev} (h : evs (vbs C es) ρ μ = .ok us μ1) (h2 : setAll [i, j] us ρ = some ρ') : ex C (.par2 i j es) ρ μ = .ok (.nx ρ') μ1 := by
  simp only [ex, h, Res.bindS, h2]
theorem ex_par3 {i j l : Nat} {es : List Sx} {us : List U} {ρ' : Ev} (h : evs (vbs C es) ρ μ = .ok us μ1) (h2 : setAll [i, j, l] us ρ = some ρ') : ex C (.par3 i j l es) ρ μ = .ok (.nx ρ') μ1 := by
  simp only [ex, h, Res.bindS, h2]
theorem exs_ifs_f {e : Sx} {a : List Ss} {ss : List Ss} (h : (vb C e).b ρ μ = .ok false μ1) : exs C (.ifs e a [] :: ss) ρ μ = exs C ss ρ μ1 := by
  rw [exs, ex_ifs h]; rfl
theorem exs_ifs_t {e : Sx} {a b : List Ss} {ss : List Ss} {u : U} (h : (vb C e).b ρ μ = .ok true μ1) (h2 : exs C a ρ μ1 = .ok (.rt u) μ2) : exs C (.ifs e a b :: ss) ρ μ = .ok (.rt u) μ2 := by
  rw [exs, ex_ifs h]; simp only [if_true, h2]; rfl
theorem exs_nil : exs C [] ρ μ = .ok (.nx ρ) μ := rfl
theorem exs_app {ss tt : List Ss} : exs C (ss ++ tt) ρ μ = seqE (exs C ss ρ μ) (exs C tt) := by
  induction ss generalizing ρ μ with
  | nil => rfl
  | cons s ss ih =>
    rw [List.cons_append, exs, exs]
    cases ex C s ρ μ with
    | no => rfl
    | ex x m => rfl
    | ok a m => cases a <;> first | exact ih | rfl
theorem exs_app' {ss tt : List Ss} {ρ1 : Ev} (h : exs C ss ρ μ = .ok (.nx ρ1) μ1) : exs C (ss ++ tt) ρ μ = exs C tt ρ1 μ1 := by rw [exs_app, h]; rfl
theorem v_rg {vs : List Nat} {elt e : Sx} {tg : Tg} {j : Int} {r : Res T} (he : (vb C e).v ρ μ = .ok (.u (.int j)) μ1) (hj : i62 j = true) (h : noEx (lcLoop tg ⟨rgU 0 j.toNat, []⟩ (wipeE ρ vs) (evIfs []) (vb C elt).v (rgU 0 j.toNat) μ1 []) = r) : (vb C (.lc vs elt tg (.rg1 e) [])).v ρ μ = r := by
  rw [vb]; simp only [VB.of, evI, he, Res.bind, hj, if_true, vbs]; exact h
end
/-- a comprehension that draws -/
theorem lc_draw {tg : Tg} {us0 : List U} {ρ : Ev} {fe : Ev → Store → Res T} {S : U → Prop} {p c : Nat} : ∀ (us : List U) (μ : Store) (acc : List U), (∀ u ∈ us, ∀ μ', Src μ' p c → Gro p c μ μ' → ∃ ρ' v μ'', asgT tg u μ' ρ = some ρ' ∧ fe ρ' μ' = .ok (.u v) μ'' ∧ S v ∧ Src μ'' p c ∧ Gro p c μ' μ'') → Src μ p c → acc.length + us.length ≤ sizeLine →
    ∃ vs μ', lcLoop tg ⟨us0, []⟩ ρ (evIfs []) fe us μ acc = .ok (.l (acc ++ vs)) μ' ∧ vs.length = us.length ∧ (∀ v ∈ vs, S v) ∧ Src μ' p c ∧ Gro p c μ μ'
  | [], μ, acc, _, s, _ => ⟨[], μ, by rw [lcLoop]; simp [Itm.ok], rfl, (fun _ h => nomatch h), s, Gro.refl⟩
  | u :: us, μ, acc, h, s, hl => by
    obtain ⟨ρ', v, μ1, h1, h2, h3, h4, h5⟩ := h u List.mem_cons_self μ s Gro.refl
    rw [List.length_cons] at hl
    obtain ⟨vs, μ2, g1, g2, g3, g4, g5⟩ := lc_draw us μ1 (acc ++ [v]) (fun w hw μ' s' g' => h w (List.mem_cons_of_mem _ hw) μ' s' (h5.trans g')) h4 (by simp; omega)
    refine ⟨v :: vs, μ2, ?_, by simp [g2], ?_, g4, h5.trans g5⟩
    · rw [lcLoop, if_pos (by simp [Itm.ok]), h1]
      simp only [evIfs, Res.bind, if_true, placed, h2, plc]
      rw [if_pos (by omega), g1]
      simp
    · intro w hw
      rcases List.mem_cons.mp hw with rfl | hw
      · exact h3
      · exact g3 w hw

/-! ### the draws -/
/-- _law_of, the picks being def pk -/
def ofFd (pk : Nat) : Fd := ⟨2, 2, [(.ret (.ix (.var 1) (.call pk [(.var 0), (.b1 .len (.var 1))])))]⟩
theorem atI_nat {α : Type} {xs : List α} {r : Int} (h0 : 0 ≤ r) (h1 : r < xs.length) : ∃ v, atI xs r = some v ∧ v ∈ xs := by
  have hn : r.toNat < xs.length := by omega
  refine ⟨xs[r.toNat], ?_, List.getElem_mem hn⟩
  have e : ixN xs.length r = some r.toNat := by
    unfold ixN
    rw [if_pos h0, if_pos h1]
  unfold atI
  rw [e]
  exact List.getElem?_eq_getElem hn
mutual
theorem uLt_le {n m : Nat} (hm : n ≤ m) : ∀ {u : U}, uLt n u = true → uLt m u = true
  | .non, _ => rfl
  | .bl _, _ => rfl
  | .int _, _ => rfl
  | .str _, _ => rfl
  | .tup us, h => by rw [uLt] at h ⊢; exact uLts_le hm h
  | .rl us, h => by rw [uLt] at h ⊢; exact uLts_le hm h
  | .loc _, h => by rw [uLt, decide_eq_true_eq] at h ⊢; omega
  | .fn _, _ => rfl
  | .gd ks us, h => by rw [uLt] at h ⊢; exact uLts_le hm h
theorem uLts_le {n m : Nat} (hm : n ≤ m) : ∀ {us : List U}, uLts n us = true → uLts m us = true
  | [], _ => rfl
  | u :: us, h => by
    simp only [uLts, Bool.and_eq_true] at h ⊢
    exact ⟨uLt_le hm h.1, uLts_le hm h.2⟩
end
theorem uLts_mem {n : Nat} : ∀ {xs : List U} {v : U}, uLts n xs = true → v ∈ xs → uLt n v = true
  | x :: xs, v, h, hv => by
    simp only [uLts, Bool.and_eq_true] at h
    rcases List.mem_cons.mp hv with rfl | hv
    · exact h.1
    · exact uLts_mem h.2 hv
theorem of_ok {F : Nat → Option Fd} {pk f k p c n : Nat} (hP : F pk = some pickFd) (hF : F f = some (ofFd pk)) {μ : Store} {xs : List U} (s : Src μ p c) (hn : μ[n]? = some (.lst xs)) (hp : n ≠ p) (hc : n ≠ c) (h0 : 0 < xs.length) (hl : xs.length < 1073741824) (cl : uLts μ.length xs = true) :
    ∃ v μ', evF F (k + 2) f [.loc p, .loc n] μ = .ok v μ' ∧ v ∈ xs ∧ Src μ' p c ∧ Gro p c μ μ' := by
  have hlen : (vb (evF F (k + 1)) (.b1 .len (.var 1))).v [some (.loc p), some (.loc n)] μ = .ok (.u (.int xs.length)) μ := by
    refine v_b1 (v_var rfl) ?_
    simp only [b1T, T.dctOf, hn, lenT, T.seqOf, T.lstOf]; rfl
  obtain ⟨r, μ1, g1, g2, g3, g4, g5⟩ := pick_ok (F := F) (f := pk) (k := k) hP s (many := xs.length) (by omega) (by omega)
  have hcall : (vb (evF F (k + 1)) (.call pk [(.var 0), (.b1 .len (.var 1))])).v [some (.loc p), some (.loc n)] μ = .ok (.u (.int r)) μ1 := v_call (evs_u (v_var rfl) (evs_u hlen evs_nil)) g1
  have hn1 := g5.gro.keep hn hp hc
  obtain ⟨v, q1, q2⟩ := atI_nat g2 g3
  have hb : exs (evF F (k + 1)) (ofFd pk).body [some (.loc p), some (.loc n)] μ = .ok (.rt v) μ1 := by
    refine exs_one (v_ix (v_var rfl) hcall ?_)
    show ixD (.u (.loc n)) (.u (.int r)) μ1 = _
    simp only [ixD, T.dctOf, hn1]
    simp only [ixT, T.seqOf, T.lstOf, hn1, q1]
    rfl
  obtain ⟨e1, e2, e3⟩ := evF_src (us := [.loc p, .loc n]) (fd := ofFd pk) hF rfl rfl hb s g4 g5.gro (uLts_mem cl q2)
  exact ⟨v, _, e1, q2, e2, e3⟩
/-- _law_of called with a list just made -/
theorem v_of {F : Nat → Option Fd} {pk f k p c : Nat} (hP : F pk = some pickFd) (hF : F f = some (ofFd pk)) {ρ : Ev} {μ : Store} {es e : Sx} {xs : List U} {μ1 : Store} (h1 : (vb (evF F (k + 2)) e).v ρ μ = .ok (.u (.loc p)) μ) (h2 : (vb (evF F (k + 2)) es).v ρ μ = .ok (.l xs) μ1) (s : Src μ1 p c) (g : Gro p c μ μ1) (h0 : 0 < xs.length) (hl : xs.length < 1073741824) (cl : uLts μ1.length xs = true) :
    ∃ v μ', (vb (evF F (k + 2)) (.call f [e, es])).v ρ μ = .ok (.u v) μ' ∧ v ∈ xs ∧ Src μ' p c ∧ Gro p c μ μ' := by
  have hp := s.lt1
  have hc := s.lt2
  obtain ⟨v, μ2, q1, q2, q3, q4⟩ := of_ok (k := k) hP hF (s.app (l := [.lst xs])) (n := μ1.length) (xs := xs) at_new (by omega) (by omega) h0 hl (by
    rw [List.length_append]
    exact uLts_le (Nat.le_add_right _ _) cl)
  exact ⟨v, μ2, v_call (evs_u h1 (evs_l h2 evs_nil)) q1, q2, q3, g.trans (Gro.app.trans q4)⟩
/-- _law_pick called with a number -/
theorem v_pick {F : Nat → Option Fd} {pk k p c : Nat} (hP : F pk = some pickFd) {ρ : Ev} {μ μ1 : Store} {e a : Sx} {many : Int} (h1 : (vb (evF F (k + 1)) e).v ρ μ = .ok (.u (.loc p)) μ) (h2 : (vb (evF F (k + 1)) a).v ρ μ = .ok (.u (.int many)) μ1) (s : Src μ1 p c) (g : Gro p c μ μ1) (m1 : 1 ≤ many) (m2 : many < 1073741824) :
    ∃ (r : Int) (μ' : Store), (vb (evF F (k + 1)) (.call pk [e, a])).v ρ μ = .ok (.u (.int r)) μ' ∧ 0 ≤ r ∧ r < many ∧ Src μ' p c ∧ Gro p c μ μ' := by
  obtain ⟨r, μ2, q1, q2, q3, q4, q5⟩ := pick_ok (F := F) (f := pk) (k := k) hP s m1 m2
  exact ⟨r, μ2, v_call (evs_u h1 (evs_u h2 evs_nil)) q1, q2, q3, q4, g.trans q5.gro⟩
end DP
end
section
/-! DpS: texts joined by a loop; the source made; dicts as constants. -/
set_option linter.all false
set_option autoImplicit false
set_option maxRecDepth 100000
namespace DP
open PySem L2
/-- _law_joined(texts, between) -/
def joinedFd : Fd := ⟨2, 5, [(.asg (.nm 2) (.cst (.str ""))), (.for' (.tp [(.nm 3), (.nm 4)]) (.enm (.var 0)) [(.asg (.nm 2) (.bin .Add (.bin .Add (.var 2) (.ite (.cmp .Gt (.var 3) (.cst (.int 0))) (.var 1) (.cst (.str "")))) (.b1 .str (.var 4))))]), (.ret (.var 2))]⟩
def joinedB : List Ss := [(.asg (.nm 2) (.bin .Add (.bin .Add (.var 2) (.ite (.cmp .Gt (.var 3) (.cst (.int 0))) (.var 1) (.cst (.str "")))) (.b1 .str (.var 4))))]
def glue1 (z a s : Str) : Str := a ++ z ++ s
theorem str_len (a b : Str) : (a ++ b).length = a.length + b.length := by
  show (a.cps ++ b.cps).size = _
  rw [Array.size_append]; rfl
theorem v_adds {C : Calls} {a b : Sx} {ρ : Ev} {μ μ1 μ2 : Store} {x y : Str} (h1 : (vb C a).v ρ μ = .ok (.u (.str x)) μ1) (h2 : (vb C b).v ρ μ1 = .ok (.u (.str y)) μ2) (h3 : x.length + y.length ≤ sizeLine) : (vb C (.bin .Add a b)).v ρ μ = .ok (.u (.str (x ++ y))) μ2 := by
  refine v_bin h1 h2 ?_
  show (if x.length + y.length ≤ sizeLine then _ else _) = _
  rw [if_pos h3, catQ_eq]
theorem v_addi {C : Calls} {a b : Sx} {ρ : Ev} {μ μ1 μ2 : Store} {x y : Int} (h1 : (vb C a).v ρ μ = .ok (.u (.int x)) μ1) (h2 : (vb C b).v ρ μ1 = .ok (.u (.int y)) μ2) : (vb C (.bin .Add a b)).v ρ μ = .ok (.u (.int (x + y))) μ2 := v_bin h1 h2 rfl
theorem str_nil_app (a : Str) : ("" : Str) ++ a = a := by
  show Str.mk ((("" : Str)).cps ++ a.cps) = a
  have : (("" : Str)).cps = #[] := rfl
  rw [this]; simp
theorem str_app_nil (a : Str) : a ++ ("" : Str) = a := by
  show Str.mk (a.cps ++ (("" : Str)).cps) = a
  have : (("" : Str)).cps = #[] := rfl
  rw [this]; simp
theorem joined_loop {C : Calls} {t : U} {z : Str} {us0 : List U} {kp : List (Nat × List U)} {μ : Store} (ok : (Itm.mk us0 kp).ok μ = true) : ∀ (us : List U) (ss : List Str) (n : Nat) (a : Str) (o3 o4 : Option U), 0 < n → txs us = some ss → a.length + (ss.map (·.length)).sum + ss.length * z.length ≤ sizeLine →
    ∃ o3' o4', forL (.tp [(.nm 3), (.nm 4)]) ⟨us0, kp⟩ (exs C joinedB) (pairsE n us) [some t, some (.str z), some (.str a), o3, o4] μ = .ok (.nx [some t, some (.str z), some (.str (ss.foldl (glue1 z) a)), o3', o4']) μ
  | [], ss, n, a, o3, o4, _, h, _ => by
    simp only [txs, Option.some.injEq] at h; subst h
    refine ⟨o3, o4, ?_⟩
    rw [pairsE, forL]; simp only [ok, if_true]; rfl
  | u :: us, ss, n, a, o3, o4, hn, h, hl => by
    simp only [txs] at h
    split at h
    · rename_i x xs h1 h2
      cases h
      simp only [List.map_cons, List.sum_cons, List.length_cons, Nat.succ_mul] at hl
      have e1 : (vb C (.bin .Add (.bin .Add (.var 2) (.ite (.cmp .Gt (.var 3) (.cst (.int 0))) (.var 1) (.cst (.str "")))) (.b1 .str (.var 4)))).v [some t, some (.str z), some (.str a), some (.int n), some u] μ = .ok (.u (.str (glue1 z a x))) μ := by
        refine v_adds (v_adds (v_var rfl) (v_ite (t := true) (b_cmp (v_var rfl) v_cst ?_) (v_var rfl)) ?_) (v_str (v_var rfl) h1) ?_
        · show some (decide ((0 : Int) < (n : Int))) = some true
          rw [decide_eq_true (by omega)]
        · omega
        · rw [str_len]; omega
      obtain ⟨o3', o4', ih⟩ := joined_loop (C := C) (t := t) (z := z) ok us xs (n + 1) (glue1 z a x) (some (.int n)) (some u) (by omega) h2 (by
        unfold glue1; rw [str_len, str_len]; omega)
      refine ⟨o3', o4', ?_⟩
      rw [pairsE, forL]
      simp only [ok, if_true]
      have ea : asgT (.tp [(.nm 3), (.nm 4)]) (.tup [.int n, u]) μ [some t, some (.str z), some (.str a), o3, o4] = some [some t, some (.str z), some (.str a), some (.int n), some u] := rfl
      rw [ea]
      have eb : exs C joinedB [some t, some (.str z), some (.str a), some (.int n), some u] μ = .ok (.nx [some t, some (.str z), some (.str (glue1 z a x)), some (.int n), some u]) μ := by
        unfold joinedB
        rw [exs_cons (ex_asg e1 (by simp))]; rfl
      dsimp only
      rw [eb]
      exact ih
    · cases h
theorem glued_eq (z : Str) (s : Str) : ∀ ss : List Str, Txt.join z (s :: ss) = ss.foldl (glue1 z) s := by
  have key : ∀ (ss : List Str) (a : Str), (Str.mk (ss.foldl (fun acc p => acc ++ z.cps ++ p.cps) a.cps)) = ss.foldl (glue1 z) a := by
    intro ss
    induction ss with
    | nil => intro a; rfl
    | cons x xs ih => intro a; exact ih (glue1 z a x)
  intro ss
  exact key ss s
/-- what the loop comes to: the texts joined -/
theorem joined_ok {F : Nat → Option Fd} {f k : Nat} (hF : F f = some joinedFd) {t : U} {z : Str} {x : Itm} {μ : Store} {ss : List Str} (hi : itmOf (.u t) μ = some x) (ok : x.ok μ = true) (h : txs x.us = some ss) (hl : (ss.map (·.length)).sum + ss.length * z.length ≤ sizeLine) :
    evF F (k + 1) f [t, .str z] μ = .ok (.str (Txt.join z ss)) μ := by
  obtain ⟨us, kp⟩ := x
  have hen : enmOf (.u t) μ = some ⟨pairsE 0 us, kp⟩ := by unfold enmOf; rw [hi]; rfl
  have start : ∀ {r : Res Fl}, forL (.tp [(.nm 3), (.nm 4)]) ⟨pairsE 0 us, kp⟩ (exs (evF F k) joinedB) (pairsE 0 us) [some t, some (.str z), some (.str ""), none, none] μ = r → exs (evF F k) joinedFd.body [some t, some (.str z), none, none, none] μ = seqE r (exs (evF F k) [(.ret (.var 2))]) := by
    intro r hr
    show exs (evF F k) (_ :: _) _ μ = _
    rw [exs_cons (ex_asg v_cst (by simp))]
    show seqE (ex (evF F k) (.for' (.tp [(.nm 3), (.nm 4)]) (.enm (.var 0)) joinedB) [some t, some (.str z), some (.str ""), none, none] μ) _ = _
    rw [ex]
    have e : evI (evF F k) (.enm (.var 0)) [some t, some (.str z), some (.str ""), none, none] μ = .ok ⟨pairsE 0 us, kp⟩ μ := by
      simp only [evI]
      rw [v_var (u := t) rfl]
      simp only [Res.bind, hen]
    rw [e]
    simp only [Res.bindS]
    rw [hr]
  have ok' : (Itm.mk (pairsE 0 us) kp).ok μ = true := ok
  cases us with
  | nil =>
    simp only [txs, Option.some.injEq] at h; subst h
    refine evF_eq (l := []) hF rfl rfl (start (r := .ok (.nx [some t, some (.str z), some (.str ""), none, none]) μ) ?_) (by simp [plc]) rfl
    rw [pairsE, forL]; simp only [pairsE] at ok'; rw [if_pos ok']
  | cons u us =>
    simp only [txs] at h
    split at h
    · rename_i x xs h1 h2
      cases h
      simp only [List.map_cons, List.sum_cons, List.length_cons, Nat.succ_mul] at hl
      obtain ⟨o3', o4', q⟩ := joined_loop (C := evF F k) (t := t) (z := z) ok' us xs 1 x (some (.int 0)) (some u) (by omega) h2 (by omega)
      rw [glued_eq]
      refine evF_eq (l := []) hF rfl rfl (start (r := .ok (.nx [some t, some (.str z), some (.str (xs.foldl (glue1 z) x)), o3', o4']) μ) ?_) (by simp [plc]) rfl
      rw [pairsE, forL]
      rw [pairsE] at ok' q
      rw [if_pos ok']
      have ea : asgT (.tp [(.nm 3), (.nm 4)]) (.tup [.int (0 : Nat), u]) μ [some t, some (.str z), some (.str ""), none, none] = some [some t, some (.str z), some (.str ""), some (.int 0), some u] := rfl
      rw [ea]
      have e1 : (vb (evF F k) (.bin .Add (.bin .Add (.var 2) (.ite (.cmp .Gt (.var 3) (.cst (.int 0))) (.var 1) (.cst (.str "")))) (.b1 .str (.var 4)))).v [some t, some (.str z), some (.str ""), some (.int 0), some u] μ = .ok (.u (.str x)) μ := by
        have := v_adds (C := evF F k) (a := .bin .Add (.var 2) (.ite (.cmp .Gt (.var 3) (.cst (.int 0))) (.var 1) (.cst (.str "")))) (b := .b1 .str (.var 4)) (ρ := [some t, some (.str z), some (.str ""), some (.int 0), some u]) (μ := μ) (v_adds (x := "") (y := "") (v_var rfl) (v_ite (t := false) (b_cmp (v_var rfl) v_cst rfl) v_cst) (by decide)) (v_str (v_var rfl) h1) (by rw [str_len]; show 0 + 0 + x.length ≤ _; omega)
        rw [this, str_nil_app, str_nil_app]
      have eb : exs (evF F k) joinedB [some t, some (.str z), some (.str ""), some (.int 0), some u] μ = .ok (.nx [some t, some (.str z), some (.str x), some (.int 0), some u]) μ := by
        unfold joinedB
        rw [exs_cons (ex_asg e1 (by simp))]; rfl
      dsimp only
      rw [eb]
      exact q
    · cases h
/-! the source -/
def sourceFd : Fd := ⟨1, 3, [(.asg (.nm 1) (.cst (.int 11))), (.for' (.nm 2) (.pl (.var 0)) [(.asg (.nm 1) (.bin .Mod (.b1 .int (.bin .Add (.bin .Add (.bin .Mult (.var 1) (.cst (.int 69069))) (.bin .Mult (.var 2) (.cst (.int 31)))) (.cst (.int 5)))) (.cst (.int 2147483629))))]), (.ret (.dsp [((.cst (.str "cells")), (.rev (.lc [2] (.b1 .abs (.var 2)) (.nm 2) (.pl (.var 0)) []))), ((.cst (.str "left")), (.cst (.int 1))), ((.cst (.str "mixed")), (.var 1)), ((.cst (.str "turn")), (.cst (.int 0)))]))]⟩
def sourceB : List Ss := [(.asg (.nm 1) (.bin .Mod (.b1 .int (.bin .Add (.bin .Add (.bin .Mult (.var 1) (.cst (.int 69069))) (.bin .Mult (.var 2) (.cst (.int 31)))) (.cst (.int 5)))) (.cst (.int 2147483629))))]
theorem source_loop {C : Calls} {t : U} {us0 : List U} : ∀ (ns : List Int) (m : Int) (o : Option U), ∃ m' o', forL (.nm 2) ⟨us0, []⟩ (exs C sourceB) (ns.map .int) [some t, some (.int m), o] [] = .ok (.nx [some t, some (.int m'), o']) []
  | [], m, o => ⟨m, o, rfl⟩
  | n :: ns, m, o => by
    obtain ⟨m', o', ih⟩ := source_loop (C := C) (t := t) (us0 := us0) ns ((m * 69069 + n * 31 + 5) % 2147483629) (some (.int n))
    refine ⟨m', o', ?_⟩
    rw [List.map_cons, forL, if_pos (by rfl)]
    have ea : asgT (.nm 2) (.int n) [] [some t, some (.int m), o] = some [some t, some (.int m), some (.int n)] := rfl
    rw [ea]
    have hi : ∀ (i j : Int), i64 j = true → binT .Mult (.u (.int i)) (.u (.int j)) [] = some (.u (.int (i * j))) := fun i j h => by
      show (if i64 i || i64 j then _ else _) = _
      rw [h, Bool.or_true]; rfl
    have e1 : (vb C (.bin .Mod (.b1 .int (.bin .Add (.bin .Add (.bin .Mult (.var 1) (.cst (.int 69069))) (.bin .Mult (.var 2) (.cst (.int 31)))) (.cst (.int 5)))) (.cst (.int 2147483629)))).v [some t, some (.int m), some (.int n)] [] = .ok (.u (.int ((m * 69069 + n * 31 + 5) % 2147483629))) [] :=
      v_bin (v_b1 (v_addi (v_addi (v_bin (v_var rfl) v_cst (hi _ _ (by decide))) (v_bin (v_var rfl) v_cst (hi _ _ (by decide)))) v_cst) rfl) v_cst rfl
    have eb : exs C sourceB [some t, some (.int m), some (.int n)] [] = .ok (.nx [some t, some (.int ((m * 69069 + n * 31 + 5) % 2147483629)), some (.int n)]) [] := by
      unfold sourceB
      rw [exs_cons (ex_asg e1 (by simp))]; rfl
    dsimp only
    rw [eb]
    exact ih
theorem source_ok {F : Nat → Option Fd} {f k : Nat} (hF : F f = some sourceFd) (ns : List Int) (hl : ns.length ≤ 63) : ∃ μ, evF F (k + 1) f [scriptU ns] [] = .ok (.loc 1) μ ∧ Src μ 1 0 ∧ μ.length = 2 := by
  obtain ⟨m', o', h⟩ := source_loop (C := evF F k) (t := scriptU ns) (us0 := ns.map .int) ns 11 none
  have hlc : (vb (evF F k) (.lc [2] (.b1 .abs (.var 2)) (.nm 2) (.pl (.var 0)) [])).v [some (scriptU ns), some (.int m'), o'] [] = .ok (.l ((ns.map U.int).map fun u => match u with | .int i => .int (if i < 0 then -i else i) | u => u)) [] := by
    refine v_lc (x := ⟨ns.map .int, []⟩) (v_var rfl) rfl rfl (fun u hu => ?_) (by simp; exact Nat.le_trans hl (by decide))
    obtain ⟨i, _, rfl⟩ := List.mem_map.mp hu
    exact ⟨_, rfl, v_b1 (v_var rfl) rfl⟩
  have hmap : ((ns.map U.int).map fun u => match u with | .int i => U.int (if i < 0 then -i else i) | u => u) = (ns.map fun i => if i < 0 then -i else i).map U.int := by
    rw [List.map_map, List.map_map]; rfl
  rw [hmap] at hlc
  refine ⟨[.lst ((ns.map fun i => if i < 0 then -i else i).reverse.map .int), .dct (srcD 0 1 m' 0)], ?_, ⟨by decide, _, 1, m', 0, rfl, rfl, ?_⟩, rfl⟩
  rotate_left
  · simp; exact Nat.lt_of_le_of_lt hl (by decide)
  have hb : exs (evF F k) sourceFd.body [some (scriptU ns), none, none] [] = .ok (.rt (.loc 1)) [.lst ((ns.map fun i => if i < 0 then -i else i).reverse.map .int), .dct (srcD 0 1 m' 0)] := by
    show exs (evF F k) (_ :: _) _ [] = _
    rw [exs_cons (ex_asg v_cst (by simp))]
    have e1 : ex (evF F k) (.for' (.nm 2) (.pl (.var 0)) sourceB) [some (scriptU ns), some (.int 11), none] [] = .ok (.nx [some (scriptU ns), some (.int m'), o']) [] := by
      rw [ex]
      show (Res.ok (⟨ns.map .int, []⟩ : Itm) []).bindS _ _ = _
      exact h
    refine (exs_cons e1).trans ?_
    refine exs_rt (ex_ret ?_)
    have hr : (vb (evF F k) (.rev (.lc [2] (.b1 .abs (.var 2)) (.nm 2) (.pl (.var 0)) []))).v [some (scriptU ns), some (.int m'), o'] [] = .ok (.l ((ns.map fun i => if i < 0 then -i else i).reverse.map .int)) [] := by
      rw [vb]; simp only [VB.of, hlc, Res.bind, revT, T.lstOf, opt, List.map_reverse]
    rw [vb]
    simp only [VB.of, vbd, evd, v_cst, placed, plc, Res.bind, hr]
    rw [v_var (u := .int m') rfl]
    have k1 : hkD (.str "cells") = true := k_cells
    simp only [k_cells, k_left, k_mixed, k_turn, if_true, Res.bind, plc]
    rfl
  simp only [evF, hF]
  rw [if_pos (show [scriptU ns].length = sourceFd.pars from rfl)]
  show (match exs (evF F k) sourceFd.body [some (scriptU ns), none, none] [] with | .ok (.nx _) μ1 => _ | .ok (.rt u) μ1 => _ | .ok (.xx x _) μ1 => _ | _ => _) = _
  rw [hb]
  rfl
end DP
end
section
/-! DpMo: what is told with fewer slots set, with calls that tell less, is told with more. -/
set_option linter.all false
set_option autoImplicit false
set_option maxRecDepth 100000
namespace DP
open PySem L2
def leE (ρ ρ' : Ev) : Prop := ρ.length = ρ'.length ∧ ∀ (i : Nat) (u : U), ρ[i]? = some (some u) → ρ'[i]? = some (some u)
theorem leE.refl {ρ : Ev} : leE ρ ρ := ⟨rfl, fun _ _ h => h⟩
theorem leE.trans {ρ ρ1 ρ2 : Ev} (a : leE ρ ρ1) (b : leE ρ1 ρ2) : leE ρ ρ2 := ⟨a.1.trans b.1, fun i u h => b.2 i u (a.2 i u h)⟩
theorem leE.nil : leE [] [] := .refl
theorem leE.skip {ρ ρ' : Ev} {o : Option U} (h : leE ρ ρ') : leE (none :: ρ) (o :: ρ') := ⟨by simp [h.1], fun i u e => by
  cases i with
  | zero => simp at e
  | succ i => exact h.2 i u (by simpa using e)⟩
theorem leE.same {ρ ρ' : Ev} {a b : U} (e : a = b) (h : leE ρ ρ') : leE (some a :: ρ) (some b :: ρ') := ⟨by simp [h.1], fun i u q => by
  cases i with
  | zero => simp at q ⊢; rw [← e]; exact q
  | succ i => exact h.2 i u (by simpa using q)⟩
theorem leE.set {ρ ρ' : Ev} (h : leE ρ ρ') (i : Nat) (u : U) : leE (ρ.set i (some u)) (ρ'.set i (some u)) := by
  refine ⟨by simp [h.1], fun j v e => ?_⟩
  rw [List.getElem?_set] at e ⊢
  by_cases hij : i = j
  · subst hij
    simp only [if_true] at e ⊢
    rw [← h.1]; exact e
  · rw [if_neg hij] at e ⊢; exact h.2 j v e
theorem leE.unset {ρ ρ' : Ev} (h : leE ρ ρ') (i : Nat) : leE (ρ.set i none) (ρ'.set i none) := by
  refine ⟨by simp [h.1], fun j v e => ?_⟩
  rw [List.getElem?_set] at e ⊢
  by_cases hij : i = j
  · subst hij
    simp only [if_true] at e ⊢
    split at e <;> simp at e
  · rw [if_neg hij] at e ⊢; exact h.2 j v e
theorem leE.wipe {ρ ρ' : Ev} (h : leE ρ ρ') : ∀ vs : List Nat, leE (wipeE ρ vs) (wipeE ρ' vs)
  | [] => h
  | v :: vs => by rw [wipeE, wipeE]; exact (h.wipe vs).unset v
mutual
theorem leE.asgT : ∀ (tg : Tg) (u : U) (μ : Store) {ρ ρ' ρ1 : Ev}, leE ρ ρ' → asgT tg u μ ρ = some ρ1 → ∃ ρ1', DP.asgT tg u μ ρ' = some ρ1' ∧ leE ρ1 ρ1'
  | .nm i, u, μ, ρ, ρ', ρ1, h, e => by
    rw [DP.asgT] at e ⊢
    split at e
    · rename_i hi
      cases e
      exact ⟨_, if_pos (h.1 ▸ hi), h.set i u⟩
    · cases e
  | .tp ts, u, μ, ρ, ρ', ρ1, h, e => by
    rw [DP.asgT] at e ⊢
    split at e
    · exact leE.asgTs ts _ μ h e
    · cases e
theorem leE.asgTs : ∀ (ts : List Tg) (us : List U) (μ : Store) {ρ ρ' ρ1 : Ev}, leE ρ ρ' → asgTs ts us μ ρ = some ρ1 → ∃ ρ1', DP.asgTs ts us μ ρ' = some ρ1' ∧ leE ρ1 ρ1'
  | [], [], μ, ρ, ρ', ρ1, h, e => by rw [DP.asgTs] at e ⊢; cases e; exact ⟨_, rfl, h⟩
  | t :: ts, u :: us, μ, ρ, ρ', ρ1, h, e => by
    rw [DP.asgTs] at e ⊢
    split at e
    · rename_i ρ2 e2
      obtain ⟨ρ2', q1, q2⟩ := leE.asgT t u μ h e2
      rw [q1]
      exact leE.asgTs ts us μ q2 e
    · cases e
  | [], _ :: _, μ, ρ, ρ', ρ1, h, e => by simp [DP.asgTs] at e
  | _ :: _, [], μ, ρ, ρ', ρ1, h, e => by simp [DP.asgTs] at e
end
theorem leE.setAll : ∀ (is : List Nat) (us : List U) {ρ ρ' ρ1 : Ev}, leE ρ ρ' → setAll is us ρ = some ρ1 → ∃ ρ1', DP.setAll is us ρ' = some ρ1' ∧ leE ρ1 ρ1'
  | [], [], ρ, ρ', ρ1, h, e => by rw [DP.setAll] at e ⊢; cases e; exact ⟨_, rfl, h⟩
  | i :: is, u :: us, ρ, ρ', ρ1, h, e => by
    rw [DP.setAll] at e ⊢
    split at e
    · rename_i hi
      rw [if_pos (h.1 ▸ hi)]
      exact leE.setAll is us (h.set i u) e
    · cases e
  | [], _ :: _, ρ, ρ', ρ1, h, e => by simp [DP.setAll] at e
  | _ :: _, [], ρ, ρ', ρ1, h, e => by simp [DP.setAll] at e

/-- tells less -/
def LeR {α : Type} (r r' : Res α) : Prop := r = .no ∨ r' = r
theorem LeR.refl {α : Type} {r : Res α} : LeR r r := .inr rfl
theorem LeR.no {α : Type} {r : Res α} : LeR .no r := .inl rfl
theorem LeR.bind {α β : Type} {r r' : Res α} {k k' : α → Store → Res β} (h : LeR r r') (hk : ∀ a μ, LeR (k a μ) (k' a μ)) : LeR (r.bind k) (r'.bind k') := by
  rcases h with rfl | rfl
  · exact .no
  · cases r' with
    | no => exact .no
    | ok a μ => exact hk a μ
    | ex x μ => exact .refl
theorem LeR.placed {r r' : Res T} (h : LeR r r') : LeR (DP.placed r) (DP.placed r') := h.bind fun _ _ => .refl
theorem LeR.noEx {α : Type} {r r' : Res α} (h : LeR r r') : LeR (DP.noEx r) (DP.noEx r') := by
  rcases h with rfl | rfl
  · exact .no
  · exact .refl
theorem LeR.eq {α : Type} {r r' : Res α} (h : LeR r r') {a : α} {μ : Store} (e : r = .ok a μ) : r' = .ok a μ := by
  rcases h with rfl | rfl
  · cases e
  · exact e
structure LeV (m m' : VB) : Prop where
  v : ∀ (ρ ρ' : Ev) (μ : Store), leE ρ ρ' → LeR (m.v ρ μ) (m'.v ρ' μ)
  b : ∀ (ρ ρ' : Ev) (μ : Store), leE ρ ρ' → LeR (m.b ρ μ) (m'.b ρ' μ)
theorem LeV.of {f f' : Ev → Store → Res T} (h : ∀ (ρ ρ' : Ev) (μ : Store), leE ρ ρ' → LeR (f ρ μ) (f' ρ' μ)) : LeV (.of f) (.of f') :=
  ⟨h, fun ρ ρ' μ l => (h ρ ρ' μ l).bind fun _ _ => .refl⟩
inductive All2 {α : Type} (R : α → α → Prop) : List α → List α → Prop where
  | nil : All2 R [] []
  | cons {a b : α} {as bs : List α} : R a b → All2 R as bs → All2 R (a :: as) (b :: bs)
abbrev LeVs := All2 LeV
theorem le_evs {ms ms' : List VB} (h : LeVs ms ms') : ∀ (ρ ρ' : Ev) (μ : Store), leE ρ ρ' → LeR (evs ms ρ μ) (evs ms' ρ' μ) := by
  induction h with
  | nil => exact fun _ _ _ _ => .refl
  | cons a _ ih => exact fun ρ ρ' μ l => (a.v ρ ρ' μ l).placed.bind fun u μ1 => (ih ρ ρ' μ1 l).bind fun _ _ => .refl
theorem le_evd {ms ms' : List (VB × VB)} (h : All2 (fun a b => LeV a.1 b.1 ∧ LeV a.2 b.2) ms ms') : ∀ (ρ ρ' : Ev) (μ : Store), leE ρ ρ' → LeR (evd ms ρ μ) (evd ms' ρ' μ) := by
  induction h with
  | nil => exact fun _ _ _ _ => .refl
  | @cons x y _ _ a _ ih =>
    obtain ⟨k, v⟩ := x
    obtain ⟨k', v'⟩ := y
    exact fun ρ ρ' μ l => (a.1.v ρ ρ' μ l).placed.bind fun u μ1 => (a.2.v ρ ρ' μ1 l).placed.bind fun w μ2 => (ih ρ ρ' μ2 l).bind fun _ _ => .refl
theorem le_evst {ms ms' : List (Bool × VB)} (h : All2 (fun a b => a.1 = b.1 ∧ LeV a.2 b.2) ms ms') : ∀ (ρ ρ' : Ev) (μ : Store), leE ρ ρ' → LeR (evst ms ρ μ) (evst ms' ρ' μ) := by
  induction h with
  | nil => exact fun _ _ _ _ => .refl
  | @cons x y _ _ a _ ih =>
    obtain ⟨k, v⟩ := x
    obtain ⟨k', v'⟩ := y
    obtain ⟨e, a⟩ := a
    dsimp only at e a
    subst e
    intro ρ ρ' μ l
    cases k with
    | false => exact (a.v ρ ρ' μ l).placed.bind fun u μ1 => (ih ρ ρ' μ1 l).bind fun _ _ => .refl
    | true =>
      refine (a.v ρ ρ' μ l).bind fun t μ1 => ?_
      cases t.seqOf μ1 with
      | none => exact .refl
      | some xs => exact (ih ρ ρ' μ1 l).bind fun _ _ => .refl
inductive LeO : Option VB → Option VB → Prop where
  | none : LeO none none
  | some {a b : VB} : LeV a b → LeO (some a) (some b)
theorem le_evO {o o' : Option VB} (h : LeO o o') (ρ ρ' : Ev) (μ : Store) (l : leE ρ ρ') : LeR (evO o ρ μ) (evO o' ρ' μ) := by
  cases h with
  | none => exact .refl
  | some a => exact (a.v ρ ρ' μ l).bind fun _ _ => .refl
theorem le_evV (op : BoolOp) {ms ms' : List VB} (h : LeVs ms ms') : ∀ {m m' : VB}, LeV m m' → ∀ (ρ ρ' : Ev) (μ : Store), leE ρ ρ' → LeR (evV op m ms ρ μ) (evV op m' ms' ρ' μ) := by
  induction h with
  | nil => exact fun a ρ ρ' μ l => by rw [evV, evV]; exact a.v ρ ρ' μ l
  | cons b _ ih =>
    intro m m' a ρ ρ' μ l
    rw [evV, evV]
    refine (a.v ρ ρ' μ l).bind fun x μ1 => ?_
    split <;> first | exact ih b ρ ρ' μ1 l | exact .refl
theorem le_evAll (op : BoolOp) {ms ms' : List VB} (h : LeVs ms ms') : ∀ {m m' : VB}, LeV m m' → ∀ (ρ ρ' : Ev) (μ : Store), leE ρ ρ' → LeR (evAll op m ms ρ μ) (evAll op m' ms' ρ' μ) := by
  induction h with
  | nil => exact fun a ρ ρ' μ l => by rw [evAll, evAll]; exact a.b ρ ρ' μ l
  | cons b _ ih =>
    intro m m' a ρ ρ' μ l
    rw [evAll, evAll]
    refine (a.b ρ ρ' μ l).bind fun x μ1 => ?_
    split <;> first | exact ih b ρ ρ' μ1 l | exact .refl
theorem le_evIfs {ms ms' : List VB} (h : LeVs ms ms') (ρ ρ' : Ev) (μ : Store) (l : leE ρ ρ') : LeR (evIfs ms ρ μ) (evIfs ms' ρ' μ) := by
  cases h with
  | nil => exact .refl
  | cons a t => cases t with
    | nil => exact a.b ρ ρ' μ l
    | cons => exact .no
theorem le_lcLoop {tg : Tg} {x : Itm} {ft ft' : Ev → Store → Res Bool} {fe fe' : Ev → Store → Res T} (ht : ∀ (ρ ρ' : Ev) (μ : Store), leE ρ ρ' → LeR (ft ρ μ) (ft' ρ' μ)) (he : ∀ (ρ ρ' : Ev) (μ : Store), leE ρ ρ' → LeR (fe ρ μ) (fe' ρ' μ)) {ρ ρ' : Ev} (l : leE ρ ρ') :
    ∀ (us : List U) (μ : Store) (acc : List U), LeR (lcLoop tg x ρ ft fe us μ acc) (lcLoop tg x ρ' ft' fe' us μ acc)
  | [], μ, acc => .refl
  | u :: us, μ, acc => by
    rw [lcLoop, lcLoop]
    split
    · cases e : asgT tg u μ ρ with
      | none => exact .no
      | some ρ1 =>
        obtain ⟨ρ1', q1, q2⟩ := leE.asgT tg u μ l e
        rw [q1]
        refine (ht ρ1 ρ1' μ q2).bind fun b μ1 => ?_
        cases b with
        | true =>
          refine (he ρ1 ρ1' μ1 q2).placed.bind fun y μ2 => ?_
          split
          · exact le_lcLoop ht he l us μ2 _
          · exact .no
        | false => exact le_lcLoop ht he l us μ1 acc
    · exact .no
def LeC (C C' : Calls) : Prop := ∀ (f : Nat) (us : List U) (μ : Store), LeR (C f us μ) (C' f us μ)
section
variable {C C' : Calls} (hC : LeC C C')
include hC
mutual
theorem le_vb : ∀ (e : Sx), LeV (vb C e) (vb C' e)
  | .var i => .of fun ρ ρ' μ l => by
    cases e : ρ[i]? with
    | none => exact .no
    | some o =>
      cases o with
      | none => exact .no
      | some u => rw [l.2 i u e]; exact .refl
  | .cst u => .of fun _ _ _ _ => .refl
  | .gl x u => .of fun _ _ _ _ => .refl
  | .neg k => .of fun _ _ _ _ => .refl
  | .tup es => .of fun ρ ρ' μ l => (le_evs (le_vbs es) ρ ρ' μ l).bind fun _ _ => .refl
  | .lst es => .of fun ρ ρ' μ l => (le_evs (le_vbs es) ρ ρ' μ l).bind fun _ _ => .refl
  | .sts tp es => .of fun ρ ρ' μ l => (le_evst (le_vbst es) ρ ρ' μ l).bind fun _ _ => .refl
  | .dsp es => .of fun ρ ρ' μ l => (le_evd (le_vbd es) ρ ρ' μ l).bind fun _ _ => .refl
  | .bin op a b => .of fun ρ ρ' μ l => ((le_vb a).v ρ ρ' μ l).bind fun x μ1 => ((le_vb b).v ρ ρ' μ1 l).bind fun _ _ => .refl
  | .cmp op a b => by
    rw [vb, vb]
    exact ⟨fun ρ ρ' μ l => ((le_vb a).v ρ ρ' μ l).bind fun x μ1 => ((le_vb b).v ρ ρ' μ1 l).bind fun _ _ => .refl,
      fun ρ ρ' μ l => ((le_vb a).v ρ ρ' μ l).bind fun x μ1 => ((le_vb b).v ρ ρ' μ1 l).bind fun _ _ => .refl⟩
  | .chn op op' a b c => by
    rw [vb, vb]
    refine ⟨fun ρ ρ' μ l => ((le_vb a).v ρ ρ' μ l).bind fun x μ1 => ((le_vb b).v ρ ρ' μ1 l).bind fun y μ2 => LeR.refl.bind fun t μ3 => ?_,
      fun ρ ρ' μ l => ((le_vb a).v ρ ρ' μ l).bind fun x μ1 => ((le_vb b).v ρ ρ' μ1 l).bind fun y μ2 => LeR.refl.bind fun t μ3 => ?_⟩
    · split
      · exact ((le_vb c).v ρ ρ' μ3 l).bind fun _ _ => .refl
      · exact .refl
    · split
      · exact ((le_vb c).v ρ ρ' μ3 l).bind fun _ _ => .refl
      · exact .refl
  | .bop op e es => by
    rw [vb, vb]
    exact ⟨fun ρ ρ' μ l => le_evV op (le_vbs es) (le_vb e) ρ ρ' μ l, fun ρ ρ' μ l => le_evAll op (le_vbs es) (le_vb e) ρ ρ' μ l⟩
  | .no a => by
    rw [vb, vb]
    exact ⟨fun ρ ρ' μ l => ((le_vb a).v ρ ρ' μ l).bind fun _ _ => .refl, fun ρ ρ' μ l => ((le_vb a).b ρ ρ' μ l).bind fun _ _ => .refl⟩
  | .ite c a b => by
    rw [vb, vb]
    refine ⟨fun ρ ρ' μ l => ((le_vb c).b ρ ρ' μ l).bind fun t μ1 => ?_, fun ρ ρ' μ l => ((le_vb c).b ρ ρ' μ l).bind fun t μ1 => ?_⟩
    · split
      · exact (le_vb a).v ρ ρ' μ1 l
      · exact (le_vb b).v ρ ρ' μ1 l
    · split
      · exact (le_vb a).b ρ ρ' μ1 l
      · exact (le_vb b).b ρ ρ' μ1 l
  | .ix a i => .of fun ρ ρ' μ l => ((le_vb a).v ρ ρ' μ l).bind fun x μ1 => ((le_vb i).v ρ ρ' μ1 l).bind fun _ _ => .refl
  | .slc a lo hi => .of fun ρ ρ' μ l => ((le_vb a).v ρ ρ' μ l).bind fun x μ1 => (le_evO (le_vbo lo) ρ ρ' μ1 l).bind fun _ μ2 => (le_evO (le_vbo hi) ρ ρ' μ2 l).bind fun _ _ => .refl
  | .mkd a => .of fun ρ ρ' μ l => ((le_vb a).v ρ ρ' μ l).bind fun _ _ => .refl
  | .rev a => .of fun ρ ρ' μ l => ((le_vb a).v ρ ρ' μ l).bind fun _ _ => .refl
  | .call f es => .of fun ρ ρ' μ l => (le_evs (le_vbs es) ρ ρ' μ l).bind fun us μ1 => (hC f us μ1).bind fun _ _ => .refl
  | .calv i fs es => .of fun ρ ρ' μ l => by
    cases e : ρ[i]? with
    | none => exact .no
    | some o =>
      cases o with
      | none => exact .no
      | some u =>
        rw [l.2 i u e]
        cases u with
        | fn f =>
          dsimp only
          split
          · exact (le_evs (le_vbs es) ρ ρ' μ l).bind fun us μ1 => (hC f us μ1).bind fun _ _ => .refl
          · exact .no
        | _ => exact .no
  | .b1 b a => .of fun ρ ρ' μ l => ((le_vb a).v ρ ρ' μ l).bind fun _ _ => .refl
  | .b2 b a c => .of fun ρ ρ' μ l => ((le_vb a).v ρ ρ' μ l).bind fun x μ1 => ((le_vb c).v ρ ρ' μ1 l).bind fun _ _ => .refl
  | .mt m o es => .of fun ρ ρ' μ l => ((le_vb o).v ρ ρ' μ l).bind fun x μ1 => by
    split
    · exact (le_evs (le_vbs es) ρ ρ' μ1 l).bind fun _ _ => .refl
    · exact .no
  | .mt1 m o a => .of fun ρ ρ' μ l => ((le_vb o).v ρ ρ' μ l).bind fun x μ1 => by
    split
    · exact ((le_vb a).v ρ ρ' μ1 l).bind fun _ _ => .refl
    · exact .no
  | .lc vs elt tg it ifs => .of fun ρ ρ' μ l => (le_evI it ρ ρ' μ l).bind fun x μ1 => (le_lcLoop (fun ρ ρ' μ l => le_evIfs (le_vbs ifs) ρ ρ' μ l) (le_vb elt).v (l.wipe vs) x.us μ1 []).noEx
theorem le_vbs : ∀ (es : List Sx), LeVs (vbs C es) (vbs C' es)
  | [] => by rw [vbs, vbs]; exact .nil
  | e :: es => by rw [vbs, vbs]; exact .cons (le_vb e) (le_vbs es)
theorem le_vbd : ∀ (es : List (Sx × Sx)), All2 (fun a b => LeV a.1 b.1 ∧ LeV a.2 b.2) (vbd C es) (vbd C' es)
  | [] => by rw [vbd, vbd]; exact .nil
  | (k, v) :: es => by rw [vbd, vbd]; exact .cons ⟨le_vb k, le_vb v⟩ (le_vbd es)
theorem le_vbst : ∀ (es : List (Bool × Sx)), All2 (fun a b => a.1 = b.1 ∧ LeV a.2 b.2) (vbst C es) (vbst C' es)
  | [] => by rw [vbst, vbst]; exact .nil
  | (b, e) :: es => by rw [vbst, vbst]; exact .cons ⟨rfl, le_vb e⟩ (le_vbst es)
theorem le_vbo : ∀ (o : Option Sx), LeO (vbo C o) (vbo C' o)
  | none => by rw [vbo, vbo]; exact .none
  | some e => by rw [vbo, vbo]; exact .some (le_vb e)
theorem le_evI : ∀ (it : It') (ρ ρ' : Ev) (μ : Store), leE ρ ρ' → LeR (evI C it ρ μ) (evI C' it ρ' μ)
  | .pl e, ρ, ρ', μ, l => by simp only [evI]; exact ((le_vb e).v ρ ρ' μ l).bind fun _ _ => .refl
  | .rg1 e, ρ, ρ', μ, l => by simp only [evI]; exact ((le_vb e).v ρ ρ' μ l).bind fun _ _ => .refl
  | .rg2 a b, ρ, ρ', μ, l => by simp only [evI]; exact ((le_vb a).v ρ ρ' μ l).bind fun x μ1 => ((le_vb b).v ρ ρ' μ1 l).bind fun _ _ => .refl
  | .enm e, ρ, ρ', μ, l => by simp only [evI]; exact ((le_vb e).v ρ ρ' μ l).bind fun _ _ => .refl
  | .zp a b, ρ, ρ', μ, l => by simp only [evI]; exact ((le_vb a).v ρ ρ' μ l).bind fun x μ1 => ((le_vb b).v ρ ρ' μ1 l).bind fun _ _ => .refl
end
end
/-! statements -/
inductive LeL : Fl → Fl → Prop where
  | nx {ρ ρ' : Ev} : leE ρ ρ' → LeL (.nx ρ) (.nx ρ')
  | rt {u : U} : LeL (.rt u) (.rt u)
  | bk {ρ ρ' : Ev} : leE ρ ρ' → LeL (.bk ρ) (.bk ρ')
  | ct {ρ ρ' : Ev} : leE ρ ρ' → LeL (.ct ρ) (.ct ρ')
  | xx {x : Ex} {ρ ρ' : Ev} : leE ρ ρ' → LeL (.xx x ρ) (.xx x ρ')
inductive LeF : Res Fl → Res Fl → Prop where
  | no {r : Res Fl} : LeF .no r
  | ok {a b : Fl} {μ : Store} : LeL a b → LeF (.ok a μ) (.ok b μ)
  | ex {x : Ex} {μ : Store} : LeF (.ex x μ) (.ex x μ)
theorem LeF.bindS {α : Type} {r r' : Res α} {ρ ρ' : Ev} {k k' : α → Store → Res Fl} (h : LeR r r') (l : leE ρ ρ') (hk : ∀ a μ, LeF (k a μ) (k' a μ)) : LeF (r.bindS ρ k) (r'.bindS ρ' k') := by
  rcases h with rfl | rfl
  · exact .no
  · cases r' with
    | no => exact .no
    | ok a μ => exact hk a μ
    | ex x μ => exact .ok (.xx l)
def LeB (f f' : Ev → Store → Res Fl) : Prop := ∀ (ρ ρ' : Ev) (μ : Store), leE ρ ρ' → LeF (f ρ μ) (f' ρ' μ)
theorem LeF.seq {r r' : Res Fl} {f f' : Ev → Store → Res Fl} (h : LeF r r') (hf : LeB f f') : LeF (seqE r f) (seqE r' f') := by
  cases h with
  | no => exact .no
  | ex => exact .ex
  | ok l => cases l with
    | nx l => exact hf _ _ _ l
    | rt => exact .ok .rt
    | bk l => exact .ok (.bk l)
    | ct l => exact .ok (.ct l)
    | xx l => exact .ok (.xx l)
theorem LeF.lap {r r' : Res Fl} {f f' : Ev → Store → Res Fl} (h : LeF r r') (hf : LeB f f') : LeF (lapE r f) (lapE r' f') := by
  cases h with
  | no => exact .no
  | ex => exact .ex
  | ok l => cases l with
    | nx l => exact hf _ _ _ l
    | rt => exact .ok .rt
    | bk l => exact .ok (.nx l)
    | ct l => exact hf _ _ _ l
    | xx l => exact .ok (.xx l)
theorem le_toPlc (tg : Tg) (t : T) {ρ ρ' : Ev} (μ : Store) (l : leE ρ ρ') : LeF (toPlc tg t ρ μ) (toPlc tg t ρ' μ) := by
  unfold toPlc
  cases e : asgT tg (plc t μ).1 (plc t μ).2 ρ with
  | none => exact .no
  | some ρ1 =>
    obtain ⟨ρ1', q1, q2⟩ := leE.asgT tg _ _ l e
    rw [q1]; exact .ok (.nx q2)
theorem le_forL {tg : Tg} {x : Itm} {body body' : Ev → Store → Res Fl} (hb : LeB body body') : ∀ (us : List U), LeB (forL tg x body us) (forL tg x body' us)
  | [], ρ, ρ', μ, l => by
    rw [forL, forL]
    split
    · exact .ok (.nx l)
    · exact .no
  | u :: us, ρ, ρ', μ, l => by
    rw [forL, forL]
    split
    · cases e : asgT tg u μ ρ with
      | none => exact .no
      | some ρ1 =>
        obtain ⟨ρ1', q1, q2⟩ := leE.asgT tg u μ l e
        rw [q1]
        exact (hb ρ1 ρ1' μ q2).lap (le_forL hb us)
    · exact .no
theorem le_whlL {c c' : Ev → Store → Res Bool} {body body' : Ev → Store → Res Fl} (hc : ∀ (ρ ρ' : Ev) (μ : Store), leE ρ ρ' → LeR (c ρ μ) (c' ρ' μ)) (hb : LeB body body') : ∀ n, LeB (whlL c body n) (whlL c' body' n)
  | 0, ρ, ρ', μ, l => .no
  | n + 1, ρ, ρ', μ, l => by
    rw [whlL, whlL]
    refine LeF.bindS (hc ρ ρ' μ l) l fun b μ1 => ?_
    cases b with
    | true => exact (hb ρ ρ' μ1 l).lap (le_whlL hc hb n)
    | false => exact .ok (.nx l)
section
variable {C C' : Calls} (hC : LeC C C')
include hC
mutual
theorem le_ex : ∀ (s : Ss), LeB (ex C s) (ex C' s)
  | .ex e => fun ρ ρ' μ l => by rw [ex, ex]; exact LeF.bindS ((le_vb hC e).v ρ ρ' μ l) l fun _ _ => .ok (.nx l)
  | .asg tg e => fun ρ ρ' μ l => by rw [ex, ex]; exact LeF.bindS ((le_vb hC e).v ρ ρ' μ l) l fun t μ1 => le_toPlc tg t μ1 l
  | .asx a i e => fun ρ ρ' μ l => by
    rw [ex, ex]
    refine LeF.bindS ((le_vb hC e).v ρ ρ' μ l).placed l fun u μ1 => LeF.bindS ((le_vb hC a).v ρ ρ' μ1 l) l fun x μ2 => LeF.bindS ((le_vb hC i).v ρ ρ' μ2 l) l fun y μ3 => ?_
    split
    · exact .ok (.nx l)
    · exact .no
  | .aug i op e => fun ρ ρ' μ l => by
    rw [ex, ex]
    cases e1 : ρ[i]? with
    | none => exact .no
    | some o =>
      cases o with
      | none => exact .no
      | some x =>
        rw [l.2 i x e1]
        refine LeF.bindS ((le_vb hC e).v ρ ρ' μ l) l fun y μ1 => ?_
        cases ipT op (.u x) y μ1 with
        | none => exact .no
        | some t => cases t with
          | u z => exact .ok (.nx (l.set i z))
          | l xs => exact .no
  | .par2 i j es => fun ρ ρ' μ l => by
    rw [ex, ex]
    refine LeF.bindS (le_evs (le_vbs hC es) ρ ρ' μ l) l fun us μ1 => ?_
    cases e : setAll [i, j] us ρ with
    | none => exact .no
    | some ρ1 =>
      obtain ⟨ρ1', q1, q2⟩ := leE.setAll _ _ l e
      rw [q1]; exact .ok (.nx q2)
  | .par3 i j k es => fun ρ ρ' μ l => by
    rw [ex, ex]
    refine LeF.bindS (le_evs (le_vbs hC es) ρ ρ' μ l) l fun us μ1 => ?_
    cases e : setAll [i, j, k] us ρ with
    | none => exact .no
    | some ρ1 =>
      obtain ⟨ρ1', q1, q2⟩ := leE.setAll _ _ l e
      rw [q1]; exact .ok (.nx q2)
  | .ret e => fun ρ ρ' μ l => by rw [ex, ex]; exact LeF.bindS ((le_vb hC e).v ρ ρ' μ l).placed l fun _ _ => .ok .rt
  | .ret0 => fun ρ ρ' μ l => by rw [ex, ex]; exact .ok .rt
  | .ifs c a b => fun ρ ρ' μ l => by
    rw [ex, ex]
    refine LeF.bindS ((le_vb hC c).b ρ ρ' μ l) l fun t μ1 => ?_
    split
    · exact le_exs a ρ ρ' μ1 l
    · exact le_exs b ρ ρ' μ1 l
  | .whl c b => fun ρ ρ' μ l => by rw [ex, ex]; exact le_whlL (le_vb hC c).b (le_exs b) whlN ρ ρ' μ l
  | .for' tg it b => fun ρ ρ' μ l => by
    rw [ex, ex]
    exact LeF.bindS (le_evI hC it ρ ρ' μ l) l fun x μ1 => le_forL (le_exs b) x.us ρ ρ' μ1 l
  | .brk => fun ρ ρ' μ l => by rw [ex, ex]; exact .ok (.bk l)
  | .cnt => fun ρ ρ' μ l => by rw [ex, ex]; exact .ok (.ct l)
  | .pass => fun ρ ρ' μ l => by rw [ex, ex]; exact .ok (.nx l)
theorem le_exs : ∀ (ss : List Ss), LeB (exs C ss) (exs C' ss)
  | [] => fun ρ ρ' μ l => by rw [exs, exs]; exact .ok (.nx l)
  | s :: ss => fun ρ ρ' μ l => by rw [exs, exs]; exact (le_ex s ρ ρ' μ l).seq (le_exs ss)
end
end
/-- more depth tells no less -/
theorem le_evF {F : Nat → Option Fd} : ∀ (k : Nat), LeC (evF F k) (evF F (k + 1))
  | 0 => fun f us μ => .no
  | k + 1 => fun f us μ => by
    rw [evF, evF]
    cases F f with
    | none => exact .no
    | some fd =>
      dsimp only
      split
      · have := le_exs (le_evF (F := F) k) fd.body (us.map some ++ List.replicate (fd.slots - fd.pars) none) (us.map some ++ List.replicate (fd.slots - fd.pars) none) μ leE.refl
        generalize exs (evF F k) fd.body _ μ = r at this ⊢
        generalize exs (evF F (k + 1)) fd.body _ μ = r' at this ⊢
        cases this with
        | no => exact .no
        | ex => exact .no
        | ok l => cases l with
          | nx l => exact .refl
          | rt => exact .refl
          | bk l => exact .no
          | ct l => exact .no
          | xx l => exact .refl
      · exact .no
theorem LeC.trans {C C1 C2 : Calls} (a : LeC C C1) (b : LeC C1 C2) : LeC C C2 := fun f us μ => by
  rcases a f us μ with h | h
  · exact .inl h
  · rcases b f us μ with h2 | h2
    · rw [h2] at h
      exact .inl h.symm
    · exact .inr (h2.trans h)
theorem le_evF' {F : Nat → Option Fd} {k : Nat} : ∀ (n : Nat), LeC (evF F k) (evF F (k + n))
  | 0 => fun f us μ => .refl
  | n + 1 => (le_evF' n).trans (le_evF (k + n))
theorem evF_le {F : Nat → Option Fd} {k l f : Nat} {us : List U} {μ μ1 : Store} {u : U} (h : evF F k f us μ = .ok u μ1) (hl : k ≤ l) : evF F l f us μ = .ok u μ1 := by
  have h2 := le_evF' (F := F) (k := k) (l - k) f us μ
  have e : k + (l - k) = l := by omega
  rw [e] at h2
  exact h2.eq h
/-- a stretch of statements that the kernel has computed on few slots and a small store, where it returns a value -/
theorem exs_anyR {C : Calls} (hC : ShK C) {ss : List Ss} (hs : clSs ss = true) {ρ0 ρ : Ev} {u : U} {ls l : Store} (h : exs C ss ρ0 ls = .ok (.rt u) l) (hu : uLt 0 u = true) (μ : Store) (he : leE (shE μ.length ρ0) ρ) : exs C ss ρ (shM μ ls) = .ok (.rt u) (shM μ l) := by
  have h1 := sh_exs hC ss hs μ ρ0 ls
  rw [h] at h1
  have h2 := le_exs (C := C) (C' := C) (fun f us μ => .refl) ss _ _ (shM μ ls) he
  rw [h1] at h2
  simp only [shR, shF, sh_cl μ.length hu] at h2
  generalize exs C ss ρ (shM μ ls) = r at h2
  cases h2 with
  | ok l => cases l; rfl
/-- where it goes on -/
theorem exs_anyN {C : Calls} (hC : ShK C) {ss : List Ss} (hs : clSs ss = true) {ρ0 ρ1 ρ : Ev} {ls l : Store} (h : exs C ss ρ0 ls = .ok (.nx ρ1) l) (μ : Store) (he : leE (shE μ.length ρ0) ρ) : ∃ ρ', exs C ss ρ (shM μ ls) = .ok (.nx ρ') (shM μ l) ∧ leE (shE μ.length ρ1) ρ' := by
  have h1 := sh_exs hC ss hs μ ρ0 ls
  rw [h] at h1
  have h2 := le_exs (C := C) (C' := C) (fun f us μ => .refl) ss _ _ (shM μ ls) he
  rw [h1] at h2
  simp only [shR, shF] at h2
  generalize exs C ss ρ (shM μ ls) = r at h2
  cases h2 with
  | ok l => cases l with
    | nx l => exact ⟨_, rfl, l⟩
theorem shM_nil (μ : Store) : shM μ [] = μ := by simp [shM]
/-- an expression -/
theorem v_any {C : Calls} (hC : ShK C) {e : Sx} (hs : clX e = true) {ρ0 ρ : Ev} {t : T} {ls l : Store} (h : (vb C e).v ρ0 ls = .ok t l) (μ : Store) (he : leE (shE μ.length ρ0) ρ) : (vb C e).v ρ (shM μ ls) = .ok (shT μ.length t) (shM μ l) := by
  have h1 := (sh_vb hC e hs).v μ ρ0 ls
  rw [h] at h1
  have h2 := (le_vb (C := C) (C' := C) (fun f us μ => .refl) e).v _ _ (shM μ ls) he
  rw [h1] at h2
  exact h2.eq rfl
end DP
end
section
/-! DpKp: slots that a stretch does not assign stay as they are. -/
set_option linter.all false
set_option autoImplicit false
set_option maxRecDepth 100000
namespace DP
open PySem L2
mutual
/-- a stretch assigns these slots alone -/
def asS (A : Nat → Bool) : Ss → Bool
  | .ex _ => true
  | .asg tg _ => (tgIx tg).all A
  | .asx _ _ _ => true
  | .aug i _ _ => A i
  | .par2 i j _ => A i && A j
  | .par3 i j l _ => A i && A j && A l
  | .ret _ => true
  | .ret0 => true
  | .ifs _ a b => asSs A a && asSs A b
  | .whl _ b => asSs A b
  | .for' tg _ b => (tgIx tg).all A && asSs A b
  | .brk => true
  | .cnt => true
  | .pass => true
def asSs (A : Nat → Bool) : List Ss → Bool
  | [] => true
  | s :: ss => asS A s && asSs A ss
end
def kpE (A : Nat → Bool) (ρ ρ' : Ev) : Prop := ρ'.length = ρ.length ∧ ∀ i, A i = false → ρ'[i]? = ρ[i]?
section
variable {A : Nat → Bool}
theorem kpE.refl {ρ : Ev} : kpE A ρ ρ := ⟨rfl, fun _ _ => rfl⟩
theorem kpE.trans {ρ ρ1 ρ2 : Ev} (a : kpE A ρ ρ1) (b : kpE A ρ1 ρ2) : kpE A ρ ρ2 := ⟨b.1.trans a.1, fun i h => (b.2 i h).trans (a.2 i h)⟩
theorem kpE.set {ρ : Ev} {i : Nat} {v : Option U} (h : A i = true) : kpE A ρ (ρ.set i v) := ⟨by simp, fun j hj => by
  rw [List.getElem?_set, if_neg]
  intro e; subst e; rw [h] at hj; cases hj⟩
mutual
theorem kp_asgT : ∀ (tg : Tg) (u : U) (μ : Store) {ρ ρ1 : Ev}, (tgIx tg).all A = true → asgT tg u μ ρ = some ρ1 → kpE A ρ ρ1
  | .nm i, u, μ, ρ, ρ1, h, e => by
    rw [asgT] at e
    split at e
    · cases e; exact kpE.set (by simpa [tgIx] using h)
    · cases e
  | .tp ts, u, μ, ρ, ρ1, h, e => by
    rw [asgT] at e
    split at e
    · exact kp_asgTs ts _ μ (by simpa [tgIx] using h) e
    · cases e
theorem kp_asgTs : ∀ (ts : List Tg) (us : List U) (μ : Store) {ρ ρ1 : Ev}, (tgIxs ts).all A = true → asgTs ts us μ ρ = some ρ1 → kpE A ρ ρ1
  | [], [], μ, ρ, ρ1, h, e => by rw [asgTs] at e; cases e; exact .refl
  | t :: ts, u :: us, μ, ρ, ρ1, h, e => by
    rw [asgTs] at e
    rw [tgIxs, List.all_append, Bool.and_eq_true] at h
    split at e
    · rename_i ρ2 e2
      exact (kp_asgT t u μ h.1 e2).trans (kp_asgTs ts us μ h.2 e)
    · cases e
  | [], _ :: _, μ, ρ, ρ1, h, e => by simp [asgTs] at e
  | _ :: _, [], μ, ρ, ρ1, h, e => by simp [asgTs] at e
end
theorem kp_setAll : ∀ (is : List Nat) (us : List U) {ρ ρ1 : Ev}, is.all A = true → setAll is us ρ = some ρ1 → kpE A ρ ρ1
  | [], [], ρ, ρ1, h, e => by rw [setAll] at e; cases e; exact .refl
  | i :: is, u :: us, ρ, ρ1, h, e => by
    rw [setAll] at e
    rw [List.all_cons, Bool.and_eq_true] at h
    split at e
    · exact (kpE.set h.1).trans (kp_setAll is us h.2 e)
    · cases e
  | [], _ :: _, ρ, ρ1, h, e => by simp [setAll] at e
  | _ :: _, [], ρ, ρ1, h, e => by simp [setAll] at e
def kpF (A : Nat → Bool) (ρ : Ev) : Res Fl → Prop
  | .ok (.nx ρ') _ => kpE A ρ ρ'
  | .ok (.bk ρ') _ => kpE A ρ ρ'
  | .ok (.ct ρ') _ => kpE A ρ ρ'
  | .ok (.xx _ ρ') _ => kpE A ρ ρ'
  | _ => True
theorem kpF.up {ρ ρ1 : Ev} (a : kpE A ρ ρ1) : ∀ {r : Res Fl}, kpF A ρ1 r → kpF A ρ r
  | .no, _ => trivial
  | .ex _ _, _ => trivial
  | .ok (.nx _) _, h => a.trans h
  | .ok (.bk _) _, h => a.trans h
  | .ok (.ct _) _, h => a.trans h
  | .ok (.xx _ _) _, h => a.trans h
  | .ok (.rt _) _, _ => trivial
theorem kpF.bindS {α : Type} {r : Res α} {ρ : Ev} {k : α → Store → Res Fl} (h : ∀ a μ, kpF A ρ (k a μ)) : kpF A ρ (r.bindS ρ k) := by
  cases r with
  | no => trivial
  | ok a μ => exact h a μ
  | ex x μ => exact kpE.refl
def KpB (A : Nat → Bool) (f : Ev → Store → Res Fl) : Prop := ∀ ρ μ, kpF A ρ (f ρ μ)
theorem kpF.seq {ρ : Ev} {r : Res Fl} {f : Ev → Store → Res Fl} (h : kpF A ρ r) (hf : KpB A f) : kpF A ρ (seqE r f) := by
  cases r with
  | no => trivial
  | ex => trivial
  | ok a μ => cases a with
    | nx ρ' => exact (hf ρ' μ).up h
    | rt => trivial
    | bk => exact h
    | ct => exact h
    | xx => exact h
theorem kpF.lap {ρ : Ev} {r : Res Fl} {f : Ev → Store → Res Fl} (h : kpF A ρ r) (hf : KpB A f) : kpF A ρ (lapE r f) := by
  cases r with
  | no => trivial
  | ex => trivial
  | ok a μ => cases a with
    | nx ρ' => exact (hf ρ' μ).up h
    | rt => trivial
    | bk => exact h
    | ct ρ' => exact (hf ρ' μ).up h
    | xx => exact h
theorem kp_forL {tg : Tg} {x : Itm} {body : Ev → Store → Res Fl} (ht : (tgIx tg).all A = true) (hb : KpB A body) : ∀ us, KpB A (forL tg x body us)
  | [], ρ, μ => by
    rw [forL]; split
    · exact kpE.refl
    · trivial
  | u :: us, ρ, μ => by
    rw [forL]; split
    · cases e : asgT tg u μ ρ with
      | none => trivial
      | some ρ1 => exact kpF.up (kp_asgT tg u μ ht e) ((hb ρ1 μ).lap (kp_forL ht hb us))
    · trivial
theorem kp_whlL {c : Ev → Store → Res Bool} {body : Ev → Store → Res Fl} (hb : KpB A body) : ∀ n, KpB A (whlL c body n)
  | 0, ρ, μ => trivial
  | n + 1, ρ, μ => by
    rw [whlL]
    refine kpF.bindS fun b μ1 => ?_
    cases b with
    | true => exact (hb ρ μ1).lap (kp_whlL hb n)
    | false => exact kpE.refl
variable {C : Calls}
mutual
theorem kp_ex : ∀ (s : Ss), asS A s = true → KpB A (ex C s)
  | .ex e, h => fun ρ μ => by rw [ex]; exact kpF.bindS fun _ _ => kpE.refl
  | .asg tg e, h => fun ρ μ => by
    rw [ex]
    refine kpF.bindS fun t μ1 => ?_
    unfold toPlc
    split
    · rename_i ρ' e1; exact kp_asgT tg _ _ (by simpa [asS] using h) e1
    · trivial
  | .asx a i e, h => fun ρ μ => by
    rw [ex]
    refine kpF.bindS fun u μ1 => kpF.bindS fun x μ2 => kpF.bindS fun y μ3 => ?_
    split
    · exact kpE.refl
    · trivial
  | .aug i op e, h => fun ρ μ => by
    rw [ex]
    split
    · refine kpF.bindS fun y μ1 => ?_
      split
      · split
        · exact kpE.set (by simpa [asS] using h)
        · trivial
      · trivial
    · trivial
  | .par2 i j es, h => fun ρ μ => by
    rw [ex]
    refine kpF.bindS fun us μ1 => ?_
    split
    · rename_i ρ' e1; exact kp_setAll _ _ (by simpa [asS] using h) e1
    · trivial
  | .par3 i j l es, h => fun ρ μ => by
    rw [ex]
    refine kpF.bindS fun us μ1 => ?_
    split
    · rename_i ρ' e1; exact kp_setAll _ _ (by simpa [asS, and_assoc] using h) e1
    · trivial
  | .ret e, h => fun ρ μ => by rw [ex]; exact kpF.bindS fun _ _ => trivial
  | .ret0, h => fun ρ μ => by rw [ex]; trivial
  | .ifs c a b, h => fun ρ μ => by
    rw [asS, Bool.and_eq_true] at h
    rw [ex]
    refine kpF.bindS fun t μ1 => ?_
    split
    · exact kp_exs a h.1 ρ μ1
    · exact kp_exs b h.2 ρ μ1
  | .whl c b, h => fun ρ μ => by
    rw [asS] at h
    rw [ex]; exact kp_whlL (kp_exs b h) whlN ρ μ
  | .for' tg it b, h => fun ρ μ => by
    rw [asS, Bool.and_eq_true] at h
    rw [ex]; exact kpF.bindS fun x μ1 => kp_forL h.1 (kp_exs b h.2) x.us ρ μ1
  | .brk, h => fun ρ μ => by rw [ex]; exact kpE.refl
  | .cnt, h => fun ρ μ => by rw [ex]; exact kpE.refl
  | .pass, h => fun ρ μ => by rw [ex]; exact kpE.refl
theorem kp_exs : ∀ (ss : List Ss), asSs A ss = true → KpB A (exs C ss)
  | [], h => fun ρ μ => by rw [exs]; exact kpE.refl
  | s :: ss, h => fun ρ μ => by
    rw [asSs, Bool.and_eq_true] at h
    rw [exs]; exact (kp_ex s h.1 ρ μ).seq (kp_exs ss h.2)
end
end
end DP
end
section
set_option linter.all false
set_option maxRecDepth 100000
namespace K56
open PySem L2 DP
def top (i : Nat) : Stmt := PySem.Challenge.pw_camefrom_k56_texts_of_answers.main.body.getD i (.Pass ⟨0, 0, 0, 0⟩)
def gam : Gt := ⟨[("blanks", 1), ("commas", 1), ("semicolons", 1), ("truth_text", 1), ("row_text", 1), ("writing_text", 1), ("signs_text", 1), ("pieces_text", 1), ("blocks_text", 1), ("rows_text", 1), ("table_text", 1), ("lot_text", 1), ("misfit_text", 1), ("pair_text", 2), ("told_text", 2), ("answer_text", 2), ("_law_source", 1), ("_law_pick", 2), ("_law_of", 2), ("_law_row", 3), ("_law_joined", 2), ("_law_signs_text", 1), ("_law_letters_text", 1), ("_law_listed", 1), ("_law_at_text", 1), ("_law_piece", 1), ("_law_tables", 0), ("_law_table", 1), ("_law_lot", 1), ("_law_misfit", 1), ("_law_some", 1), ("law", 1)],
  [("NONE", (.str "none")), ("NOTHING", (.str "nothing")), ("SIDES", (.gd ["L", "R"] [(.str "left"), (.str "right")])), ("TRUTHS", (.tup [(.str "alike"), (.str "within"), (.str "kept"), (.str "once")])), ("NUMBERS", (.tup [(.str "goes"), (.str "crossed"), (.str "many")])), ("LOTS", (.tup [(.str "domain"), (.str "silent"), (.str "from")])), ("WRITINGS", (.tup [(.str "writes"), (.str "hears")])), ("MAKERS", (.gd ["piece", "blocks", "table", "fits", "at"] [(.fn 6), (.fn 8), (.fn 10), (.fn 12), (.fn 7)]))]⟩
def n0 : List Str := ["some", "one"]
def d0 : Fd := ⟨1, 2, [(.ret (.mt1 .join (.cst (.str " ")) (.lc [1] (.b1 .str (.var 1)) (.nm 1) (.pl (.var 0)) [])))]⟩
theorem m0 : mSs gam ⟨n0, defScope (top 8), fun _ => true⟩ d0.body (defBody (top 8)) = true := by decide +kernel
def n1 : List Str := ["some"]
def d1 : Fd := ⟨1, 1, [(.ret (.ite (.cmp .Gt (.b1 .len (.var 0)) (.cst (.int 0))) (.mt1 .join (.cst (.str ", ")) (.var 0)) (.gl 0 (.str "none"))))]⟩
theorem m1 : mSs gam ⟨n1, defScope (top 9), fun _ => true⟩ d1.body (defBody (top 9)) = true := by decide +kernel
def n2 : List Str := ["some"]
def d2 : Fd := ⟨1, 1, [(.ret (.ite (.cmp .Gt (.b1 .len (.var 0)) (.cst (.int 0))) (.mt1 .join (.cst (.str "; ")) (.var 0)) (.gl 0 (.str "none"))))]⟩
theorem m2 : mSs gam ⟨n2, defScope (top 10), fun _ => true⟩ d2.body (defBody (top 10)) = true := by decide +kernel
def n3 : List Str := ["told"]
def d3 : Fd := ⟨1, 1, [(.ret (.ite (.var 0) (.cst (.str "yes")) (.cst (.str "no"))))]⟩
theorem m3 : mSs gam ⟨n3, defScope (top 11), fun _ => true⟩ d3.body (defBody (top 11)) = true := by decide +kernel
def n4 : List Str := ["row"]
def d4 : Fd := ⟨1, 1, [(.ret (.ite (.cmp .NotEq (.var 0) (.tup [])) (.call 0 [(.var 0)]) (.gl 1 (.str "nothing"))))]⟩
theorem m4 : mSs gam ⟨n4, defScope (top 12), fun _ => true⟩ d4.body (defBody (top 12)) = true := by decide +kernel
def n5 : List Str := ["writing", "pair"]
def d5 : Fd := ⟨1, 2, [(.ifs (.cmp .Is (.var 0) (.cst .non)) [(.ret (.gl 0 (.str "none")))] []), (.ret (.ite (.cmp .NotEq (.var 0) (.tup [])) (.call 1 [(.lc [1] (.call 0 [(.var 1)]) (.nm 1) (.pl (.var 0)) [])]) (.gl 1 (.str "nothing"))))]⟩
theorem m5 : mSs gam ⟨n5, defScope (top 13), fun _ => true⟩ d5.body (defBody (top 13)) = true := by decide +kernel
def n6 : List Str := ["piece", "sign"]
def d6 : Fd := ⟨1, 2, [(.ifs (.cmp .Is (.var 0) (.cst .non)) [(.ret (.gl 0 (.str "none")))] []), (.ret (.ite (.cmp .NotEq (.var 0) (.tup [])) (.call 0 [(.lc [1] (.ite (.cmp .In (.var 1) (.gl 2 (.gd ["L", "R"] [(.str "left"), (.str "right")]))) (.ix (.gl 2 (.gd ["L", "R"] [(.str "left"), (.str "right")])) (.var 1)) (.var 1)) (.nm 1) (.pl (.var 0)) [])]) (.cst (.str "-"))))]⟩
theorem m6 : mSs gam ⟨n6, defScope (top 14), fun _ => true⟩ d6.body (defBody (top 14)) = true := by decide +kernel
def n7 : List Str := ["pieces", "piece"]
def d7 : Fd := ⟨1, 2, [(.ret (.call 1 [(.lc [1] (.call 6 [(.var 1)]) (.nm 1) (.pl (.var 0)) [])]))]⟩
theorem m7 : mSs gam ⟨n7, defScope (top 15), fun _ => true⟩ d7.body (defBody (top 15)) = true := by decide +kernel
def n8 : List Str := ["blocks", "side", "letters"]
def d8 : Fd := ⟨1, 3, [(.ret (.call 2 [(.lc [1, 2] (.bin .Add (.bin .Add (.ix (.gl 2 (.gd ["L", "R"] [(.str "left"), (.str "right")])) (.var 1)) (.cst (.str ": "))) (.call 5 [(.var 2)])) (.tp [(.nm 1), (.nm 2)]) (.pl (.var 0)) [])]))]⟩
theorem m8 : mSs gam ⟨n8, defScope (top 16), fun _ => true⟩ d8.body (defBody (top 16)) = true := by decide +kernel
def n9 : List Str := ["rows", "row"]
def d9 : Fd := ⟨1, 2, [(.ret (.call 1 [(.lc [1] (.call 0 [(.var 1)]) (.nm 1) (.pl (.var 0)) [])]))]⟩
theorem m9 : mSs gam ⟨n9, defScope (top 17), fun _ => true⟩ d9.body (defBody (top 17)) = true := by decide +kernel
def n10 : List Str := ["table", "found", "by_letters", "sides", "row", "firsts", "lasts", "k", "piece"]
def d10 : Fd := ⟨1, 9, [(.asg (.nm 1) (.lst [])), (.for' (.nm 2) (.pl (.ix (.var 0) (.cst (.int 2)))) [(.for' (.nm 4) (.pl (.var 2)) [(.ex (.mt1 .extend (.var 1) (.lc [8] (.call 6 [(.var 8)]) (.nm 8) (.pl (.var 4)) [])))])]), (.asg (.tp [(.nm 5), (.nm 6)]) (.lc [7] (.lc [8] (.call 6 [(.var 8)]) (.nm 8) (.pl (.ix (.var 0) (.var 7))) []) (.nm 7) (.pl (.tup [(.cst (.int 3)), (.cst (.int 4))])) [])), (.asg (.nm 3) (.lst [(.bin .Add (.cst (.str "left ")) (.call 9 [(.ix (.var 0) (.cst (.int 0)))])), (.bin .Add (.cst (.str "right ")) (.call 9 [(.ix (.var 0) (.cst (.int 1)))])), (.bin .Add (.cst (.str "pieces ")) (.call 1 [(.var 1)]))])), (.ret (.call 2 [(.sts false [(true, (.var 3)), (false, (.bin .Add (.cst (.str "first ")) (.call 1 [(.var 5)]))), (false, (.bin .Add (.cst (.str "last ")) (.call 1 [(.var 6)])))])]))]⟩
theorem m10 : mSs gam ⟨n10, defScope (top 18), fun _ => true⟩ d10.body (defBody (top 18)) = true := by decide +kernel
def n11 : List Str := ["lot", "k", "row"]
def d11 : Fd := ⟨1, 3, [(.ret (.call 2 [(.lc [1, 2] (.bin .Add (.bin .Add (.call 3 [(.ix (.ix (.var 0) (.cst (.int 0))) (.var 1))]) (.cst (.str " "))) (.call 0 [(.var 2)])) (.tp [(.nm 1), (.nm 2)]) (.enm (.ix (.var 0) (.cst (.int 1)))) [])]))]⟩
theorem m11 : mSs gam ⟨n11, defScope (top 19), fun _ => true⟩ d11.body (defBody (top 19)) = true := by decide +kernel
def n12 : List Str := ["misfit", "places", "turns", "at", "one"]
def d12 : Fd := ⟨1, 5, [(.ifs (.cmp .Is (.var 0) (.cst .non)) [(.ret (.cst (.str "yes")))] []), (.ifs (.cmp .Eq (.ix (.var 0) (.cst (.int 0))) (.cst (.str "piece"))) [(.ret (.bin .Add (.cst (.str "no: piece ")) (.call 0 [(.ix (.var 0) (.cst (.int 1)))])))] []), (.par2 1 2 [(.lc [3] (.call 0 [(.var 3)]) (.nm 3) (.pl (.slc (.var 0) (some (.cst (.int 1))) (some (.cst (.int 3))))) []), (.lc [4] (.call 6 [(.var 4)]) (.nm 4) (.pl (.slc (.var 0) (some (.cst (.int 3))) none)) [])]), (.ret (.bin .Add (.bin .Add (.bin .Add (.cst (.str "no: cut ")) (.call 1 [(.var 1)])) (.cst (.str ": "))) (.call 1 [(.var 2)])))]⟩
theorem m12 : mSs gam ⟨n12, defScope (top 20), fun _ => true⟩ d12.body (defBody (top 20)) = true := by decide +kernel
def n13 : List Str := ["word", "told"]
def d13 : Fd := ⟨2, 2, [(.ifs (.cmp .Is (.var 1) (.cst .non)) [(.ret (.gl 0 (.str "none")))] []), (.ifs (.cmp .Eq (.var 0) (.cst (.str "parts"))) [(.ret (.bin .Add (.bin .Add (.call 4 [(.ix (.var 1) (.cst (.int 0)))]) (.cst (.str " at "))) (.b1 .str (.ix (.var 1) (.cst (.int 1))))))] []), (.ret (.bin .Add (.bin .Add (.b1 .str (.ix (.var 1) (.cst (.int 0)))) (.cst (.str ": "))) (.call 4 [(.ix (.var 1) (.cst (.int 1)))])))]⟩
theorem m13 : mSs gam ⟨n13, defScope (top 21), fun _ => true⟩ d13.body (defBody (top 21)) = true := by decide +kernel
def n14 : List Str := ["word", "told"]
def d14 : Fd := ⟨2, 2, [(.ifs (.cmp .In (.var 0) (.gl 3 (.tup [(.str "alike"), (.str "within"), (.str "kept"), (.str "once")]))) [(.ret (.call 3 [(.var 1)]))] []), (.ifs (.cmp .In (.var 0) (.gl 4 (.tup [(.str "goes"), (.str "crossed"), (.str "many")]))) [(.ret (.call 0 [(.var 1)]))] []), (.ifs (.cmp .In (.var 0) (.gl 5 (.tup [(.str "domain"), (.str "silent"), (.str "from")]))) [(.ret (.call 11 [(.var 1)]))] []), (.ifs (.cmp .In (.var 0) (.gl 6 (.tup [(.str "writes"), (.str "hears")]))) [(.ret (.call 5 [(.var 1)]))] []), (.ret (.ite (.cmp .Is (.var 1) (.cst .non)) (.gl 0 (.str "none")) (.b1 .str (.var 1))))]⟩
theorem m14 : mSs gam ⟨n14, defScope (top 22), fun _ => true⟩ d14.body (defBody (top 22)) = true := by decide +kernel
def n15 : List Str := ["item", "answer", "word", "told", "make"]
def d15 : Fd := ⟨2, 5, [(.ifs (.cmp .NotEq (.ix (.var 1) (.cst (.int 0))) (.cst (.str "told"))) [(.ret (.call 0 [(.var 1)]))] []), (.par2 2 3 [(.ix (.var 0) (.cst (.int 0))), (.ix (.var 1) (.cst (.int 1)))]), (.ifs (.cmp .In (.var 2) (.tup [(.cst (.str "parts")), (.cst (.str "crosses"))])) [(.ret (.call 13 [(.var 2), (.var 3)]))] []), (.ifs (.cmp .In (.var 2) (.gl 7 (.gd ["piece", "blocks", "table", "fits", "at"] [(.fn 6), (.fn 8), (.fn 10), (.fn 12), (.fn 7)]))) [(.asg (.nm 4) (.ix (.gl 7 (.gd ["piece", "blocks", "table", "fits", "at"] [(.fn 6), (.fn 8), (.fn 10), (.fn 12), (.fn 7)])) (.var 2))), (.ret (.calv 4 [6, 8, 10, 12, 7] [(.var 3)]))] []), (.ret (.call 14 [(.var 2), (.var 3)]))]⟩
theorem m15 : mSs gam ⟨n15, defScope (top 24), fun _ => true⟩ d15.body (defBody (top 24)) = true := by decide +kernel
def n16 : List Str := ["script", "mixed", "cell"]
def d16 : Fd := ⟨1, 3, [(.asg (.nm 1) (.cst (.int 11))), (.for' (.nm 2) (.pl (.var 0)) [(.asg (.nm 1) (.bin .Mod (.b1 .int (.bin .Add (.bin .Add (.bin .Mult (.var 1) (.cst (.int 69069))) (.bin .Mult (.var 2) (.cst (.int 31)))) (.cst (.int 5)))) (.cst (.int 2147483629))))]), (.ret (.dsp [((.cst (.str "cells")), (.rev (.lc [2] (.b1 .abs (.var 2)) (.nm 2) (.pl (.var 0)) []))), ((.cst (.str "left")), (.cst (.int 1))), ((.cst (.str "mixed")), (.var 1)), ((.cst (.str "turn")), (.cst (.int 0)))]))]⟩
theorem m16 : mSs gam ⟨n16, defScope (top 26), fun _ => true⟩ d16.body (defBody (top 26)) = true := by decide +kernel
def n17 : List Str := ["source", "many", "left", "mixed"]
def d17 : Fd := ⟨2, 4, [(.whl (.bop .And (.cmp .Gt (.var 1) (.cst (.int 1))) [(.cmp .Lt (.ix (.var 0) (.cst (.str "left"))) (.cst (.int 2))), (.cmp .Gt (.b1 .len (.ix (.var 0) (.cst (.str "cells")))) (.cst (.int 0)))]) [(.asx (.var 0) (.cst (.str "left")) (.mt .pop (.ix (.var 0) (.cst (.str "cells"))) []))]), (.asg (.nm 2) (.ix (.var 0) (.cst (.str "left")))), (.ifs (.bop .Or (.cmp .Lt (.var 1) (.cst (.int 2))) [(.cmp .Gt (.var 2) (.cst (.int 1)))]) [(.asx (.var 0) (.cst (.str "left")) (.bin .FloorDiv (.var 2) (.b2 .max (.cst (.int 1)) (.var 1)))), (.ret (.bin .Mod (.b1 .int (.var 2)) (.b2 .max (.cst (.int 1)) (.var 1))))] []), (.asx (.var 0) (.cst (.str "turn")) (.bin .Add (.ix (.var 0) (.cst (.str "turn"))) (.cst (.int 1)))), (.asg (.nm 3) (.bin .Mod (.b1 .int (.bin .Add (.ix (.var 0) (.cst (.str "mixed"))) (.bin .Mult (.ix (.var 0) (.cst (.str "turn"))) (.cst (.int 104729))))) (.cst (.int 998244353)))), (.asg (.nm 3) (.bin .Mod (.b1 .int (.bin .Add (.bin .Mult (.var 3) (.var 3)) (.bin .Mult (.ix (.var 0) (.cst (.str "turn"))) (.cst (.int 17))))) (.cst (.int 2147483647)))), (.asx (.var 0) (.cst (.str "mixed")) (.var 3)), (.ret (.bin .Mod (.b1 .int (.bin .FloorDiv (.var 3) (.cst (.int 16)))) (.var 1)))]⟩
theorem m17 : mSs gam ⟨n17, defScope (top 27), fun _ => true⟩ d17.body (defBody (top 27)) = true := by decide +kernel
def n18 : List Str := ["source", "some"]
def d18 : Fd := ⟨2, 2, [(.ret (.ix (.var 1) (.call 17 [(.var 0), (.b1 .len (.var 1))])))]⟩
theorem m18 : mSs gam ⟨n18, defScope (top 28), fun _ => true⟩ d18.body (defBody (top 28)) = true := by decide +kernel
def n19 : List Str := ["source", "some", "most", "k"]
def d19 : Fd := ⟨3, 4, [(.ret (.b1 .tuple (.lc [3] (.call 18 [(.var 0), (.var 1)]) (.nm 3) (.rg1 (.call 17 [(.var 0), (.bin .Add (.var 2) (.cst (.int 1)))])) [])))]⟩
theorem m19 : mSs gam ⟨n19, defScope (top 29), fun _ => true⟩ d19.body (defBody (top 29)) = true := by decide +kernel
def n20 : List Str := ["texts", "between", "found", "k", "text"]
def d20 : Fd := ⟨2, 5, [(.asg (.nm 2) (.cst (.str ""))), (.for' (.tp [(.nm 3), (.nm 4)]) (.enm (.var 0)) [(.asg (.nm 2) (.bin .Add (.bin .Add (.var 2) (.ite (.cmp .Gt (.var 3) (.cst (.int 0))) (.var 1) (.cst (.str "")))) (.b1 .str (.var 4))))]), (.ret (.var 2))]⟩
theorem m20 : mSs gam ⟨n20, defScope (top 30), fun _ => true⟩ d20.body (defBody (top 30)) = true := by decide +kernel
def n21 : List Str := ["signs", "words", "sign"]
def d21 : Fd := ⟨1, 3, [(.ifs (.cmp .Is (.var 0) (.cst .non)) [(.ret (.cst (.str "none")))] []), (.asg (.nm 1) (.lc [2] (.mt .get (.dsp [((.cst (.str "L")), (.cst (.str "left"))), ((.cst (.str "R")), (.cst (.str "right")))]) [(.var 2), (.var 2)]) (.nm 2) (.pl (.var 0)) [])), (.ret (.ite (.cmp .NotEq (.var 1) (.lst [])) (.call 20 [(.var 1), (.cst (.str " "))]) (.cst (.str "-"))))]⟩
theorem m21 : mSs gam ⟨n21, defScope (top 31), fun _ => true⟩ d21.body (defBody (top 31)) = true := by decide +kernel
def n22 : List Str := ["pairs", "letter", "place"]
def d22 : Fd := ⟨1, 3, [(.ret (.call 20 [(.lc [1, 2] (.bin .Add (.bin .Add (.var 1) (.cst (.str " "))) (.b1 .str (.var 2))) (.tp [(.nm 1), (.nm 2)]) (.pl (.var 0)) []), (.cst (.str ", "))]))]⟩
theorem m22 : mSs gam ⟨n22, defScope (top 32), fun _ => true⟩ d22.body (defBody (top 32)) = true := by decide +kernel
def n23 : List Str := ["texts"]
def d23 : Fd := ⟨1, 1, [(.ret (.ite (.cmp .NotEq (.var 0) (.lst [])) (.call 20 [(.var 0), (.cst (.str ", "))]) (.cst (.str "none"))))]⟩
theorem m23 : mSs gam ⟨n23, defScope (top 33), fun _ => true⟩ d23.body (defBody (top 33)) = true := by decide +kernel
def n24 : List Str := ["at"]
def d24 : Fd := ⟨1, 1, [(.ret (.call 20 [(.var 0), (.cst (.str " "))]))]⟩
theorem m24 : mSs gam ⟨n24, defScope (top 34), fun _ => true⟩ d24.body (defBody (top 34)) = true := by decide +kernel
def n25 : List Str := ["source"]
def d25 : Fd := ⟨1, 1, [(.ret (.call 18 [(.var 0), (.lst [(.tup []), (.tup [(.cst (.str "L"))]), (.tup [(.cst (.str "x")), (.cst (.str "R"))]), (.tup [(.cst (.str "L")), (.cst (.str "y")), (.cst (.str "x")), (.cst (.str "R"))]), (.tup [(.cst (.str "y"))]), (.tup [(.cst (.str "R")), (.cst (.str "x")), (.cst (.str "L"))])])]))]⟩
theorem m25 : mSs gam ⟨n25, defScope (top 35), fun _ => true⟩ d25.body (defBody (top 35)) = true := by decide +kernel
def n26 : List Str := ["found", "tables", "heads", "amid", "behind", "pieces", "steps", "rims"]
def d26 : Fd := ⟨0, 8, [(.asg (.tp [(.nm 6), (.nm 7)]) (.tup [(.tup [(.tup [(.cst (.int 1))]), (.tup [(.cst (.int 1))])]), (.tup [(.tup [(.tup []), (.tup [(.cst (.str "R"))])]), (.tup [(.tup []), (.tup [(.cst (.str "L"))])])])])), (.asg (.nm 0) (.lst [(.tup [(.tup [(.tup [(.tup [(.cst (.str "x"))]), (.tup [(.cst (.str "x")), (.cst (.str "R"))])])]), (.tup [(.tup [(.tup [(.cst (.str "L")), (.cst (.str "x"))]), (.tup [(.cst (.str "L")), (.cst (.str "x")), (.cst (.str "R"))])])])])])), (.ex (.mt .append (.var 0) [(.tup [(.tup [(.tup [(.tup [(.cst (.str "x"))]), (.tup [(.cst (.str "R")), (.cst (.str "x"))])])]), (.tup [(.tup [(.tup [(.cst (.str "x")), (.cst (.str "L"))]), (.tup [(.cst (.str "R")), (.cst (.str "x")), (.cst (.str "L"))])])])])])), (.ex (.mt .append (.var 0) [(.tup [(.tup [(.tup [(.tup [(.cst (.str "x")), (.cst (.str "x"))]), (.tup [(.cst (.str "x")), (.cst (.str "R")), (.cst (.str "x")), (.cst (.str "R"))])])]), (.tup [(.tup [(.tup [(.cst (.str "L")), (.cst (.str "x")), (.cst (.str "L")), (.cst (.str "x"))]), (.tup [(.cst (.str "L")), (.cst (.str "x")), (.cst (.str "R")), (.cst (.str "L")), (.cst (.str "x")), (.cst (.str "R"))])])])])])), (.asg (.nm 1) (.lc [5] (.tup [(.var 6), (.var 6), (.var 5), (.ix (.var 7) (.cst (.int 0))), (.ix (.var 7) (.cst (.int 1)))]) (.nm 5) (.pl (.var 0)) [])), (.ex (.mt .append (.var 1) [(.tup [(.tup [(.tup [(.cst (.int 0))])]), (.tup [(.tup [(.cst (.int 0))])]), (.tup [(.tup [(.tup [(.tup [])])])]), (.tup [(.tup [])]), (.tup [(.tup [])])])])), (.ex (.mt .append (.var 1) [(.tup [(.tup [(.tup [(.cst (.int 0))])]), (.tup [(.tup [(.cst (.int 0))])]), (.tup [(.tup [(.tup [(.cst .non)])])]), (.tup [(.cst .non)]), (.tup [(.cst .non)])])])), (.asg (.nm 2) (.lst [(.tup [(.tup [(.cst (.str "x")), (.cst (.str "x"))]), (.tup [(.cst (.str "x")), (.cst (.str "R")), (.cst (.str "x"))])]), (.tup [(.tup [(.cst (.str "y"))]), (.tup [(.cst (.str "y")), (.cst (.str "R"))])])])), (.asg (.nm 3) (.lst [(.tup [(.tup [(.cst (.str "L")), (.cst (.str "x")), (.cst (.str "x")), (.cst (.str "L"))]), (.tup [(.cst (.str "L")), (.cst (.str "x")), (.cst (.str "R")), (.cst (.str "x")), (.cst (.str "L"))])]), (.tup [(.tup [(.cst (.str "L")), (.cst (.str "y")), (.cst (.str "L"))]), (.tup [(.cst (.str "L")), (.cst (.str "y")), (.cst (.str "R")), (.cst (.str "L"))])])])), (.asg (.nm 4) (.lst [(.tup [(.tup [(.cst (.str "L")), (.cst (.str "x")), (.cst (.str "x"))]), (.tup [(.cst (.str "L")), (.cst (.str "x")), (.cst (.str "R")), (.cst (.str "x"))])]), (.tup [(.tup [(.cst (.str "L")), (.cst (.str "y"))]), (.tup [(.cst (.str "L")), (.cst (.str "y")), (.cst (.str "R"))])])])), (.asg (.nm 5) (.tup [(.b1 .tuple (.var 2)), (.b1 .tuple (.var 3)), (.b1 .tuple (.var 4))])), (.ret (.bin .Add (.var 1) (.lst [(.tup [(.tup [(.tup [(.cst (.int 1)), (.cst (.int 2))]), (.tup [(.cst (.int 1)), (.cst (.int 1))]), (.tup [(.cst (.int 1)), (.cst (.int 2))])]), (.tup [(.tup [(.cst (.int 1)), (.cst (.int 1))]), (.tup [(.cst (.int 1)), (.cst (.int 1))])]), (.var 5), (.tup [(.tup []), (.tup [(.cst (.str "R"))])]), (.tup [(.tup []), (.tup [(.cst (.str "L"))]), (.tup [(.cst (.str "L"))])])])])))]⟩
theorem m26 : mSs gam ⟨n26, defScope (top 36), fun _ => true⟩ d26.body (defBody (top 36)) = true := by decide +kernel
def n27 : List Str := ["source", "rows", "told", "table", "texts", "row", "word", "side", "piece"]
def d27 : Fd := ⟨1, 9, [(.par2 3 4 [(.call 18 [(.var 0), (.call 26 [])]), (.lst [])]), (.for' (.nm 1) (.pl (.ix (.var 3) (.cst (.int 2)))) [(.for' (.nm 5) (.pl (.var 1)) [(.asg (.nm 4) (.bin .Add (.var 4) (.lc [8] (.call 21 [(.var 8)]) (.nm 8) (.pl (.var 5)) [])))])]), (.asg (.nm 2) (.lc [7] (.call 23 [(.lc [5] (.call 20 [(.var 5), (.cst (.str " "))]) (.nm 5) (.pl (.var 7)) [])]) (.nm 7) (.pl (.slc (.var 3) none (some (.cst (.int 2))))) [])), (.asg (.nm 2) (.lst [(.bin .Add (.cst (.str "left ")) (.ix (.var 2) (.cst (.int 0)))), (.bin .Add (.cst (.str "right ")) (.ix (.var 2) (.cst (.int 1)))), (.bin .Add (.cst (.str "pieces ")) (.call 23 [(.var 4)]))])), (.for' (.tp [(.nm 6), (.nm 5)]) (.zp (.tup [(.cst (.str "first ")), (.cst (.str "last "))]) (.slc (.var 3) (some (.cst (.int 3))) none)) [(.ex (.mt .append (.var 2) [(.bin .Add (.var 6) (.call 23 [(.lc [8] (.call 21 [(.var 8)]) (.nm 8) (.pl (.var 5)) [])]))]))]), (.ret (.tup [(.var 3), (.call 20 [(.var 2), (.cst (.str "; "))])]))]⟩
theorem m27 : mSs gam ⟨n27, defScope (top 37), fun _ => true⟩ d27.body (defBody (top 37)) = true := by decide +kernel
def n28 : List Str := ["source", "some", "told", "yes", "steps", "mode"]
def d28 : Fd := ⟨1, 6, [(.asg (.nm 1) (.lst [(.tup [(.tup [(.cst (.bl true))]), (.tup [(.tup [(.cst (.int 0)), (.cst (.int 0))])])]), (.tup [(.tup [(.cst (.bl true)), (.cst (.bl false))]), (.tup [(.tup [(.cst (.int 1)), (.cst (.int 1))]), (.tup [(.cst (.int 1)), (.cst (.int 1))])])]), (.tup [(.tup [(.cst (.bl false)), (.cst (.bl true))]), (.tup [(.tup [(.cst (.int 1))]), (.tup [(.cst (.int 0))])])]), (.tup [(.tup [(.cst (.bl false))]), (.tup [(.tup [(.cst (.int 0))])])])])), (.asg (.tp [(.nm 3), (.nm 4)]) (.call 18 [(.var 0), (.bin .Add (.var 1) (.lst [(.tup [(.tup [(.cst (.bl false)), (.cst (.bl false)), (.cst (.bl false)), (.cst (.bl true))]), (.tup [(.tup [(.cst (.int 1)), (.cst (.int 2))]), (.tup [(.cst (.int 2)), (.cst (.int 3))]), (.tup [(.cst (.int 2)), (.cst (.int 2))]), (.tup [(.cst (.int 2)), (.cst (.int 2))])])])]))])), (.asg (.nm 2) (.lc [5] (.bin .Add (.ite (.ix (.var 3) (.var 5)) (.cst (.str "yes ")) (.cst (.str "no "))) (.call 20 [(.ix (.var 4) (.var 5)), (.cst (.str " "))])) (.nm 5) (.rg1 (.b1 .len (.var 3))) [])), (.ret (.tup [(.tup [(.var 3), (.var 4)]), (.call 20 [(.var 2), (.cst (.str "; "))])]))]⟩
theorem m28 : mSs gam ⟨n28, defScope (top 38), fun _ => true⟩ d28.body (defBody (top 38)) = true := by decide +kernel
def n29 : List Str := ["source", "way", "some", "told", "text", "one", "other", "turns", "late"]
def d29 : Fd := ⟨1, 9, [(.asg (.nm 1) (.call 17 [(.var 0), (.cst (.int 3))])), (.ifs (.cmp .Eq (.var 1) (.cst (.int 0))) [(.ret (.tup [(.cst .non), (.cst (.str "yes"))]))] []), (.ifs (.cmp .Eq (.var 1) (.cst (.int 1))) [(.asg (.nm 5) (.call 18 [(.var 0), (.lst [(.tup [(.cst (.str "first")), (.cst (.int 1))]), (.tup [(.cst (.str "last")), (.cst (.int 0))]), (.tup [(.cst (.str "inner")), (.cst (.int 0)), (.cst (.int 1)), (.cst (.int 2))])])])), (.ret (.tup [(.tup [(.cst (.str "piece")), (.var 5)]), (.bin .Add (.cst (.str "no: piece ")) (.call 24 [(.var 5)]))]))] []), (.asg (.nm 2) (.lst [(.tup [(.tup [(.cst (.str "inner")), (.cst (.int 0)), (.cst (.int 0)), (.cst (.int 0))]), (.tup [(.cst (.str "last")), (.cst (.int 1))]), (.tup [(.cst (.str "L"))]), (.tup [])]), (.tup [(.tup [(.cst (.str "first")), (.cst (.int 1))]), (.tup [(.cst (.str "inner")), (.cst (.int 0)), (.cst (.int 0)), (.cst (.int 0))]), (.cst .non), (.tup [(.cst (.str "R"))])])])), (.asg (.nm 2) (.bin .Add (.var 2) (.lst [(.tup [(.tup [(.cst (.str "first")), (.cst (.int 0))]), (.tup [(.cst (.str "last")), (.cst (.int 0))]), (.tup [(.cst (.str "L"))]), (.tup [(.cst (.str "L")), (.cst (.str "R"))])]), (.tup [(.tup [(.cst (.str "inner")), (.cst (.int 1)), (.cst (.int 0)), (.cst (.int 1))]), (.tup [(.cst (.str "inner")), (.cst (.int 2)), (.cst (.int 1)), (.cst (.int 1))]), (.tup []), (.cst .non)])]))), (.asg (.tp [(.nm 5), (.nm 6), (.nm 7), (.nm 8)]) (.call 18 [(.var 0), (.var 2)])), (.asg (.nm 3) (.lst [(.call 21 [(.var 7)]), (.call 21 [(.var 8)])])), (.asg (.nm 4) (.bin .Add (.bin .Add (.bin .Add (.bin .Add (.bin .Add (.cst (.str "no: cut ")) (.call 24 [(.var 5)])) (.cst (.str ", "))) (.call 24 [(.var 6)])) (.cst (.str ": "))) (.call 20 [(.var 3), (.cst (.str ", "))]))), (.ret (.tup [(.tup [(.cst (.str "cut")), (.var 5), (.var 6), (.var 7), (.var 8)]), (.var 4)]))]⟩
theorem m29 : mSs gam ⟨n29, defScope (top 39), fun _ => true⟩ d29.body (defBody (top 39)) = true := by decide +kernel
def n30 : List Str := ["source", "pairs", "writing", "text", "found", "piece", "some", "sides", "told", "ask", "numbers", "letters", "place", "again", "blocks", "words", "table", "lot", "misfit", "is_so", "number", "word", "row", "k", "late", "one"]
def d30 : Fd := ⟨1, 26, [(.asg (.nm 1) (.b1 .tuple (.lc [23] (.tup [(.call 18 [(.var 0), (.lst [(.cst (.str "x")), (.cst (.str "y"))])]), (.call 17 [(.var 0), (.cst (.int 5))])]) (.nm 23) (.rg1 (.bin .Add (.cst (.int 1)) (.call 17 [(.var 0), (.cst (.int 3))]))) []))), (.asg (.nm 2) (.call 18 [(.var 0), (.lst [(.cst .non), (.tup []), (.var 1), (.var 1)])])), (.asg (.nm 3) (.ite (.cmp .Is (.var 2) (.cst .non)) (.cst (.str "none")) (.ite (.cmp .NotEq (.var 2) (.tup [])) (.call 22 [(.var 2)]) (.cst (.str "nothing"))))), (.asg (.nm 4) (.lst [(.tup [(.tup [(.cst (.str "writes")), (.cst (.str "p")), (.cst (.str "r"))]), (.var 2), (.var 3)]), (.tup [(.tup [(.cst (.str "hears")), (.cst (.str "t"))]), (.var 2), (.var 3)])])), (.asg (.nm 5) (.call 25 [(.var 0)])), (.asg (.nm 6) (.bin .Add (.lc [23] (.call 25 [(.var 0)]) (.nm 23) (.rg1 (.call 17 [(.var 0), (.cst (.int 4))])) []) (.bin .Mult (.lst [(.cst .non)]) (.b1 .int (.cmp .Eq (.call 17 [(.var 0), (.cst (.int 3))]) (.cst (.int 0))))))), (.asg (.nm 6) (.b1 .tuple (.mkd (.lc [25] (.tup [(.var 25), (.cst (.int 0))]) (.nm 25) (.pl (.var 6)) [])))), (.ex (.mt .append (.var 4) [(.tup [(.tup [(.cst (.str "piece")), (.cst (.str "p")), (.cst (.str "r")), (.cst (.int 1))]), (.var 5), (.call 21 [(.var 5)])])])), (.ex (.mt .append (.var 4) [(.tup [(.tup [(.cst (.str "at")), (.cst (.str "p")), (.cst (.str "a"))]), (.var 6), (.call 23 [(.lc [25] (.call 21 [(.var 25)]) (.nm 25) (.pl (.var 6)) [])])])])), (.asg (.nm 7) (.lst [(.tup [(.cst (.str "L")), (.slc (.tup [(.tup [(.cst (.str "x")), (.cst (.int 0))]), (.tup [(.cst (.str "y")), (.cst (.int 1))])]) none (some (.bin .Add (.cst (.int 1)) (.call 17 [(.var 0), (.cst (.int 2))]))))]), (.tup [(.cst (.str "R")), (.slc (.tup [(.tup [(.cst (.str "y")), (.cst (.int 3))]), (.tup [(.cst (.str "x")), (.cst (.int 2))])]) (some (.call 17 [(.var 0), (.cst (.int 2))])) none)])])), (.asg (.nm 7) (.ite (.cmp .Eq (.call 17 [(.var 0), (.cst (.int 2))]) (.cst (.int 0))) (.var 7) (.rev (.var 7)))), (.asg (.tp [(.nm 14), (.nm 15)]) (.tup [(.slc (.var 7) none (some (.bin .Add (.cst (.int 1)) (.call 17 [(.var 0), (.cst (.int 2))])))), (.dsp [((.cst (.str "L")), (.cst (.str "left: "))), ((.cst (.str "R")), (.cst (.str "right: ")))])])), (.asg (.nm 8) (.lc [11, 24] (.bin .Add (.ix (.var 15) (.var 24)) (.call 22 [(.var 11)])) (.tp [(.nm 24), (.nm 11)]) (.pl (.var 14)) [])), (.ex (.mt .append (.var 4) [(.tup [(.tup [(.cst (.str "blocks")), (.cst (.str "p")), (.cst (.str "r")), (.cst (.int 1))]), (.b1 .tuple (.var 14)), (.call 20 [(.var 8), (.cst (.str "; "))])])])), (.par3 16 17 18 [(.call 27 [(.var 0)]), (.call 28 [(.var 0)]), (.call 29 [(.var 0)])]), (.asg (.nm 4) (.bin .Add (.var 4) (.lst [(.tup [(.tup [(.cst (.str "table")), (.cst (.str "p"))]), (.ix (.var 16) (.cst (.int 0))), (.ix (.var 16) (.cst (.int 1)))]), (.tup [(.tup [(.cst (.str "fits")), (.cst (.str "w"))]), (.ix (.var 18) (.cst (.int 0))), (.ix (.var 18) (.cst (.int 1)))])]))), (.asg (.nm 4) (.bin .Add (.var 4) (.lst [(.tup [(.tup [(.call 18 [(.var 0), (.lst [(.cst (.str "domain")), (.cst (.str "silent"))])]), (.cst (.str "p"))]), (.ix (.var 17) (.cst (.int 0))), (.ix (.var 17) (.cst (.int 1)))])]))), (.ex (.mt .append (.var 4) [(.tup [(.tup [(.cst (.str "from")), (.cst (.str "p")), (.tup [(.cst (.str "x"))])]), (.ix (.var 17) (.cst (.int 0))), (.ix (.var 17) (.cst (.int 1)))])])), (.par2 19 20 [(.cmp .Eq (.call 17 [(.var 0), (.cst (.int 2))]) (.cst (.int 0))), (.call 17 [(.var 0), (.cst (.int 40))])]), (.for' (.nm 9) (.pl (.tup [(.tup [(.cst (.str "alike")), (.cst (.str "p")), (.cst (.str "q"))]), (.tup [(.cst (.str "kept")), (.cst (.str "k"))]), (.tup [(.cst (.str "once")), (.cst (.str "p"))])])) [(.ex (.mt .append (.var 4) [(.tup [(.var 9), (.var 19), (.ite (.var 19) (.cst (.str "yes")) (.cst (.str "no")))])]))]), (.for' (.nm 9) (.pl (.tup [(.tup [(.cst (.str "left")), (.cst (.str "p")), (.cst (.str "r"))]), (.tup [(.cst (.str "right")), (.cst (.str "p")), (.cst (.str "r"))]), (.tup [(.cst (.str "stores")), (.cst (.str "p"))]), (.tup [(.cst (.str "where")), (.cst (.str "t"))])])) [(.ex (.mt .append (.var 4) [(.tup [(.var 9), (.var 20), (.b1 .str (.var 20))])]))]), (.for' (.tp [(.nm 9), (.nm 6)]) (.pl (.tup [(.tup [(.tup [(.cst (.str "goes")), (.cst (.str "p")), (.cst (.str "r"))]), (.lst [(.tup [(.cst (.int 2)), (.cst (.int 2)), (.cst (.int 2))]), (.tup [(.cst (.int 1))]), (.tup [(.cst (.int 0)), (.cst (.int 0))]), (.tup [(.cst (.int 3)), (.cst (.int 3)), (.cst (.int 1))])])]), (.tup [(.tup [(.cst (.str "many")), (.cst (.str "p"))]), (.lst [(.tup [(.cst (.int 3)), (.cst (.int 2))]), (.tup [(.cst (.int 1)), (.cst (.int 1))])])])])) [(.asg (.nm 10) (.call 18 [(.var 0), (.var 6)])), (.ex (.mt .append (.var 4) [(.tup [(.var 9), (.var 10), (.call 20 [(.var 10), (.cst (.str " "))])])]))]), (.asg (.nm 10) (.call 18 [(.var 0), (.lst [(.tup [(.cst (.int 1)), (.cst (.int 1)), (.cst (.int 0))]), (.tup [(.cst (.int 1)), (.cst (.int 2)), (.cst (.int 0))]), (.tup [(.cst (.int 0))]), (.tup [(.cst (.int 12)), (.cst (.int 7))])])])), (.ex (.mt .append (.var 4) [(.tup [(.tup [(.cst (.str "crossed")), (.cst (.str "p")), (.cst (.str "r"))]), (.var 10), (.call 20 [(.var 10), (.cst (.str " "))])])])), (.par2 21 22 [(.call 18 [(.var 0), (.lst [(.cst (.str "both")), (.cst (.str "sequence")), (.cst (.str "turned")), (.cst (.str "neither"))])]), (.call 19 [(.var 0), (.lst [(.cst (.str "a")), (.cst (.str "b"))]), (.cst (.int 4))])]), (.asg (.nm 11) (.ite (.cmp .NotEq (.var 22) (.tup [])) (.call 20 [(.var 22), (.cst (.str " "))]) (.cst (.str "nothing")))), (.asg (.nm 12) (.call 17 [(.var 0), (.bin .Add (.b1 .len (.var 22)) (.cst (.int 2)))])), (.ex (.mt .append (.var 4) [(.tup [(.tup [(.cst (.str "sequence")), (.cst (.str "p"))]), (.var 21), (.var 21)])])), (.ex (.mt .append (.var 4) [(.tup [(.tup [(.cst (.str "parts")), (.cst (.str "p")), (.cst (.str "q"))]), (.tup [(.var 22), (.var 12)]), (.bin .Add (.bin .Add (.var 11) (.cst (.str " at "))) (.b1 .str (.var 12)))])])), (.ex (.mt .append (.var 4) [(.tup [(.tup [(.cst (.str "crosses")), (.cst (.str "p"))]), (.tup [(.var 20), (.var 22)]), (.bin .Add (.bin .Add (.b1 .str (.var 20)) (.cst (.str ": "))) (.var 11))])])), (.ex (.mt .append (.var 4) [(.tup [(.tup [(.cst (.str "parts")), (.cst (.str "p")), (.cst (.str "q"))]), (.cst .non), (.cst (.str "none"))])])), (.asg (.nm 13) (.cst (.str "sheet s: reads a, writes x;\nwalker p of s: left l0 a l0, right r0 a r0, "))), (.asg (.nm 13) (.bin .Add (.var 13) (.cst (.str "none l0 a r0, none first r0, none last l0;\n")))), (.ret (.bin .Add (.var 4) (.lst [(.tup [(.tup [(.cst (.str "crosses")), (.cst (.str "p"))]), (.cst .non), (.cst (.str "none"))]), (.tup [(.tup [(.cst (.str "again")), (.cst (.str "p"))]), (.var 13), (.var 13)])])))]⟩
theorem m30 : mSs gam ⟨n30, defScope (top 40), fun _ => true⟩ d30.body (defBody (top 40)) = true := by decide +kernel
def n31 : List Str := ["script", "source", "ask", "value", "text", "number", "some", "answer", "late"]
def d31 : Fd := ⟨1, 9, [(.asg (.nm 1) (.call 16 [(.var 0)])), (.for' (.tp [(.nm 2), (.nm 3), (.nm 4)]) (.pl (.call 30 [(.var 1)])) [(.ifs (.cmp .NotEq (.b1 .repr (.call 15 [(.var 2), (.tup [(.cst (.str "told")), (.var 3)])])) (.b1 .repr (.var 4))) [(.ret (.cst (.bl false)))] []), (.ifs (.cmp .NotEq (.ix (.var 2) (.cst (.int 1))) (.cst (.str "p"))) [.cnt] []), (.asg (.nm 5) (.ite (.cmp .Eq (.ix (.var 2) (.cst (.int 0))) (.cst (.str "goes"))) (.cst (.int 2)) (.call 18 [(.var 1), (.lst [(.cst (.int 0)), (.cst (.int 1)), (.cst (.int 3)), (.cst (.int 4))])]))), (.asg (.nm 6) (.lst [(.tup [(.tup [(.cst (.str "great")), (.cst (.str "p")), (.var 5)]), (.bin .Add (.cst (.str "great p ")) (.b1 .str (.var 5)))])])), (.ifs (.cmp .In (.ix (.var 2) (.cst (.int 0))) (.tup [(.cst (.str "goes")), (.cst (.str "crossed")), (.cst (.str "piece")), (.cst (.str "blocks"))])) [(.ex (.mt .append (.var 6) [(.tup [(.tup [(.cst (.str "refused")), (.cst (.str "round")), (.cst (.int 0))]), (.cst (.str "refused round 0"))])]))] []), (.ifs (.cmp .NotEq (.ix (.var 2) (.cst (.int 0))) (.cst (.str "goes"))) [(.ex (.mt .append (.var 6) [(.tup [(.tup [(.cst (.str "refused")), (.cst (.str "misfit")), (.cst (.int 0))]), (.cst (.str "refused misfit 0"))])]))] []), (.asg (.tp [(.nm 7), (.nm 8)]) (.call 18 [(.var 1), (.var 6)])), (.ifs (.cmp .NotEq (.b1 .repr (.call 15 [(.var 2), (.var 7)])) (.b1 .repr (.var 8))) [(.ret (.cst (.bl false)))] [])]), (.for' (.nm 2) (.pl (.tup [(.tup [(.cst (.str "grow")), (.cst (.str "t")), (.cst (.str "p"))]), (.tup [(.cst (.str "feed")), (.cst (.str "t")), (.cst (.str "a"))]), (.tup [(.cst (.str "back")), (.cst (.str "t"))])])) [(.ifs (.cmp .NotEq (.call 15 [(.var 2), (.tup [(.cst (.str "done"))])]) (.cst (.str "done"))) [(.ret (.cst (.bl false)))] [])]), (.ret (.cmp .Eq (.call 15 [(.tup [(.cst (.str "back")), (.cst (.str "t"))]), (.tup [(.cst (.str "refused")), (.cst (.str "none"))])]) (.cst (.str "refused none"))))]⟩
theorem m31 : mSs gam ⟨n31, defScope (top 41), fun _ => true⟩ d31.body (defBody (top 41)) = true := by decide +kernel
def fds : List Fd := [d0, d1, d2, d3, d4, d5, d6, d7, d8, d9, d10, d11, d12, d13, d14, d15, d16, d17, d18, d19, d20, d21, d22, d23, d24, d25, d26, d27, d28, d29, d30, d31]
def fdF (i : Nat) : Option Fd := fds[i]?
theorem o0 {G : Gb} {h : Heap} (hK : G.K.In h) (hN : h.Ns mainGlobals G.mg) (hfa : G.fa = faOf gam G.mg) (df : DF G.K "blanks" (top 8)) : DefOk G gam fdF 0 "blanks" 1 :=
  defOk_of (N := n0) (ps := ["some"]) hK hN hfa rfl df (by decide +kernel) rfl rfl rfl ⟨rfl, rfl, rfl, by decide +kernel, rfl, by decide +kernel, by decide +kernel⟩ rfl (by decide +kernel) m0 fun _ _ _ _ _ _ us hl => match us, hl with | [_], _ => rfl
theorem o1 {G : Gb} {h : Heap} (hK : G.K.In h) (hN : h.Ns mainGlobals G.mg) (hfa : G.fa = faOf gam G.mg) (df : DF G.K "commas" (top 9)) : DefOk G gam fdF 1 "commas" 1 :=
  defOk_of (N := n1) (ps := ["some"]) hK hN hfa rfl df (by decide +kernel) rfl rfl rfl ⟨rfl, rfl, rfl, by decide +kernel, rfl, by decide +kernel, by decide +kernel⟩ rfl (by decide +kernel) m1 fun _ _ _ _ _ _ us hl => match us, hl with | [_], _ => rfl
theorem o2 {G : Gb} {h : Heap} (hK : G.K.In h) (hN : h.Ns mainGlobals G.mg) (hfa : G.fa = faOf gam G.mg) (df : DF G.K "semicolons" (top 10)) : DefOk G gam fdF 2 "semicolons" 1 :=
  defOk_of (N := n2) (ps := ["some"]) hK hN hfa rfl df (by decide +kernel) rfl rfl rfl ⟨rfl, rfl, rfl, by decide +kernel, rfl, by decide +kernel, by decide +kernel⟩ rfl (by decide +kernel) m2 fun _ _ _ _ _ _ us hl => match us, hl with | [_], _ => rfl
theorem o3 {G : Gb} {h : Heap} (hK : G.K.In h) (hN : h.Ns mainGlobals G.mg) (hfa : G.fa = faOf gam G.mg) (df : DF G.K "truth_text" (top 11)) : DefOk G gam fdF 3 "truth_text" 1 :=
  defOk_of (N := n3) (ps := ["told"]) hK hN hfa rfl df (by decide +kernel) rfl rfl rfl ⟨rfl, rfl, rfl, by decide +kernel, rfl, by decide +kernel, by decide +kernel⟩ rfl (by decide +kernel) m3 fun _ _ _ _ _ _ us hl => match us, hl with | [_], _ => rfl
theorem o4 {G : Gb} {h : Heap} (hK : G.K.In h) (hN : h.Ns mainGlobals G.mg) (hfa : G.fa = faOf gam G.mg) (df : DF G.K "row_text" (top 12)) : DefOk G gam fdF 4 "row_text" 1 :=
  defOk_of (N := n4) (ps := ["row"]) hK hN hfa rfl df (by decide +kernel) rfl rfl rfl ⟨rfl, rfl, rfl, by decide +kernel, rfl, by decide +kernel, by decide +kernel⟩ rfl (by decide +kernel) m4 fun _ _ _ _ _ _ us hl => match us, hl with | [_], _ => rfl
theorem o5 {G : Gb} {h : Heap} (hK : G.K.In h) (hN : h.Ns mainGlobals G.mg) (hfa : G.fa = faOf gam G.mg) (df : DF G.K "writing_text" (top 13)) : DefOk G gam fdF 5 "writing_text" 1 :=
  defOk_of (N := n5) (ps := ["writing"]) hK hN hfa rfl df (by decide +kernel) rfl rfl rfl ⟨rfl, rfl, rfl, by decide +kernel, rfl, by decide +kernel, by decide +kernel⟩ rfl (by decide +kernel) m5 fun _ _ _ _ _ _ us hl => match us, hl with | [_], _ => rfl
theorem o6 {G : Gb} {h : Heap} (hK : G.K.In h) (hN : h.Ns mainGlobals G.mg) (hfa : G.fa = faOf gam G.mg) (df : DF G.K "signs_text" (top 14)) : DefOk G gam fdF 6 "signs_text" 1 :=
  defOk_of (N := n6) (ps := ["piece"]) hK hN hfa rfl df (by decide +kernel) rfl rfl rfl ⟨rfl, rfl, rfl, by decide +kernel, rfl, by decide +kernel, by decide +kernel⟩ rfl (by decide +kernel) m6 fun _ _ _ _ _ _ us hl => match us, hl with | [_], _ => rfl
theorem o7 {G : Gb} {h : Heap} (hK : G.K.In h) (hN : h.Ns mainGlobals G.mg) (hfa : G.fa = faOf gam G.mg) (df : DF G.K "pieces_text" (top 15)) : DefOk G gam fdF 7 "pieces_text" 1 :=
  defOk_of (N := n7) (ps := ["pieces"]) hK hN hfa rfl df (by decide +kernel) rfl rfl rfl ⟨rfl, rfl, rfl, by decide +kernel, rfl, by decide +kernel, by decide +kernel⟩ rfl (by decide +kernel) m7 fun _ _ _ _ _ _ us hl => match us, hl with | [_], _ => rfl
theorem o8 {G : Gb} {h : Heap} (hK : G.K.In h) (hN : h.Ns mainGlobals G.mg) (hfa : G.fa = faOf gam G.mg) (df : DF G.K "blocks_text" (top 16)) : DefOk G gam fdF 8 "blocks_text" 1 :=
  defOk_of (N := n8) (ps := ["blocks"]) hK hN hfa rfl df (by decide +kernel) rfl rfl rfl ⟨rfl, rfl, rfl, by decide +kernel, rfl, by decide +kernel, by decide +kernel⟩ rfl (by decide +kernel) m8 fun _ _ _ _ _ _ us hl => match us, hl with | [_], _ => rfl
theorem o9 {G : Gb} {h : Heap} (hK : G.K.In h) (hN : h.Ns mainGlobals G.mg) (hfa : G.fa = faOf gam G.mg) (df : DF G.K "rows_text" (top 17)) : DefOk G gam fdF 9 "rows_text" 1 :=
  defOk_of (N := n9) (ps := ["rows"]) hK hN hfa rfl df (by decide +kernel) rfl rfl rfl ⟨rfl, rfl, rfl, by decide +kernel, rfl, by decide +kernel, by decide +kernel⟩ rfl (by decide +kernel) m9 fun _ _ _ _ _ _ us hl => match us, hl with | [_], _ => rfl
theorem o10 {G : Gb} {h : Heap} (hK : G.K.In h) (hN : h.Ns mainGlobals G.mg) (hfa : G.fa = faOf gam G.mg) (df : DF G.K "table_text" (top 18)) : DefOk G gam fdF 10 "table_text" 1 :=
  defOk_of (N := n10) (ps := ["table"]) hK hN hfa rfl df (by decide +kernel) rfl rfl rfl ⟨rfl, rfl, rfl, by decide +kernel, rfl, by decide +kernel, by decide +kernel⟩ rfl (by decide +kernel) m10 fun _ _ _ _ _ _ us hl => match us, hl with | [_], _ => rfl
theorem o11 {G : Gb} {h : Heap} (hK : G.K.In h) (hN : h.Ns mainGlobals G.mg) (hfa : G.fa = faOf gam G.mg) (df : DF G.K "lot_text" (top 19)) : DefOk G gam fdF 11 "lot_text" 1 :=
  defOk_of (N := n11) (ps := ["lot"]) hK hN hfa rfl df (by decide +kernel) rfl rfl rfl ⟨rfl, rfl, rfl, by decide +kernel, rfl, by decide +kernel, by decide +kernel⟩ rfl (by decide +kernel) m11 fun _ _ _ _ _ _ us hl => match us, hl with | [_], _ => rfl
theorem o12 {G : Gb} {h : Heap} (hK : G.K.In h) (hN : h.Ns mainGlobals G.mg) (hfa : G.fa = faOf gam G.mg) (df : DF G.K "misfit_text" (top 20)) : DefOk G gam fdF 12 "misfit_text" 1 :=
  defOk_of (N := n12) (ps := ["misfit"]) hK hN hfa rfl df (by decide +kernel) rfl rfl rfl ⟨rfl, rfl, rfl, by decide +kernel, rfl, by decide +kernel, by decide +kernel⟩ rfl (by decide +kernel) m12 fun _ _ _ _ _ _ us hl => match us, hl with | [_], _ => rfl
theorem o13 {G : Gb} {h : Heap} (hK : G.K.In h) (hN : h.Ns mainGlobals G.mg) (hfa : G.fa = faOf gam G.mg) (df : DF G.K "pair_text" (top 21)) : DefOk G gam fdF 13 "pair_text" 2 :=
  defOk_of (N := n13) (ps := ["word", "told"]) hK hN hfa rfl df (by decide +kernel) rfl rfl rfl ⟨rfl, rfl, rfl, by decide +kernel, rfl, by decide +kernel, by decide +kernel⟩ rfl (by decide +kernel) m13 fun _ _ _ _ _ _ us hl => match us, hl with | [_, _], _ => rfl
theorem o14 {G : Gb} {h : Heap} (hK : G.K.In h) (hN : h.Ns mainGlobals G.mg) (hfa : G.fa = faOf gam G.mg) (df : DF G.K "told_text" (top 22)) : DefOk G gam fdF 14 "told_text" 2 :=
  defOk_of (N := n14) (ps := ["word", "told"]) hK hN hfa rfl df (by decide +kernel) rfl rfl rfl ⟨rfl, rfl, rfl, by decide +kernel, rfl, by decide +kernel, by decide +kernel⟩ rfl (by decide +kernel) m14 fun _ _ _ _ _ _ us hl => match us, hl with | [_, _], _ => rfl
theorem o15 {G : Gb} {h : Heap} (hK : G.K.In h) (hN : h.Ns mainGlobals G.mg) (hfa : G.fa = faOf gam G.mg) (df : DF G.K "answer_text" (top 24)) : DefOk G gam fdF 15 "answer_text" 2 :=
  defOk_of (N := n15) (ps := ["item", "answer"]) hK hN hfa rfl df (by decide +kernel) rfl rfl rfl ⟨rfl, rfl, rfl, by decide +kernel, rfl, by decide +kernel, by decide +kernel⟩ rfl (by decide +kernel) m15 fun _ _ _ _ _ _ us hl => match us, hl with | [_, _], _ => rfl
theorem o16 {G : Gb} {h : Heap} (hK : G.K.In h) (hN : h.Ns mainGlobals G.mg) (hfa : G.fa = faOf gam G.mg) (df : DF G.K "_law_source" (top 26)) : DefOk G gam fdF 16 "_law_source" 1 :=
  defOk_of (N := n16) (ps := ["script"]) hK hN hfa rfl df (by decide +kernel) rfl rfl rfl ⟨rfl, rfl, rfl, by decide +kernel, rfl, by decide +kernel, by decide +kernel⟩ rfl (by decide +kernel) m16 fun _ _ _ _ _ _ us hl => match us, hl with | [_], _ => rfl
theorem o17 {G : Gb} {h : Heap} (hK : G.K.In h) (hN : h.Ns mainGlobals G.mg) (hfa : G.fa = faOf gam G.mg) (df : DF G.K "_law_pick" (top 27)) : DefOk G gam fdF 17 "_law_pick" 2 :=
  defOk_of (N := n17) (ps := ["source", "many"]) hK hN hfa rfl df (by decide +kernel) rfl rfl rfl ⟨rfl, rfl, rfl, by decide +kernel, rfl, by decide +kernel, by decide +kernel⟩ rfl (by decide +kernel) m17 fun _ _ _ _ _ _ us hl => match us, hl with | [_, _], _ => rfl
theorem o18 {G : Gb} {h : Heap} (hK : G.K.In h) (hN : h.Ns mainGlobals G.mg) (hfa : G.fa = faOf gam G.mg) (df : DF G.K "_law_of" (top 28)) : DefOk G gam fdF 18 "_law_of" 2 :=
  defOk_of (N := n18) (ps := ["source", "some"]) hK hN hfa rfl df (by decide +kernel) rfl rfl rfl ⟨rfl, rfl, rfl, by decide +kernel, rfl, by decide +kernel, by decide +kernel⟩ rfl (by decide +kernel) m18 fun _ _ _ _ _ _ us hl => match us, hl with | [_, _], _ => rfl
theorem o19 {G : Gb} {h : Heap} (hK : G.K.In h) (hN : h.Ns mainGlobals G.mg) (hfa : G.fa = faOf gam G.mg) (df : DF G.K "_law_row" (top 29)) : DefOk G gam fdF 19 "_law_row" 3 :=
  defOk_of (N := n19) (ps := ["source", "some", "most"]) hK hN hfa rfl df (by decide +kernel) rfl rfl rfl ⟨rfl, rfl, rfl, by decide +kernel, rfl, by decide +kernel, by decide +kernel⟩ rfl (by decide +kernel) m19 fun _ _ _ _ _ _ us hl => match us, hl with | [_, _, _], _ => rfl
theorem o20 {G : Gb} {h : Heap} (hK : G.K.In h) (hN : h.Ns mainGlobals G.mg) (hfa : G.fa = faOf gam G.mg) (df : DF G.K "_law_joined" (top 30)) : DefOk G gam fdF 20 "_law_joined" 2 :=
  defOk_of (N := n20) (ps := ["texts", "between"]) hK hN hfa rfl df (by decide +kernel) rfl rfl rfl ⟨rfl, rfl, rfl, by decide +kernel, rfl, by decide +kernel, by decide +kernel⟩ rfl (by decide +kernel) m20 fun _ _ _ _ _ _ us hl => match us, hl with | [_, _], _ => rfl
theorem o21 {G : Gb} {h : Heap} (hK : G.K.In h) (hN : h.Ns mainGlobals G.mg) (hfa : G.fa = faOf gam G.mg) (df : DF G.K "_law_signs_text" (top 31)) : DefOk G gam fdF 21 "_law_signs_text" 1 :=
  defOk_of (N := n21) (ps := ["signs"]) hK hN hfa rfl df (by decide +kernel) rfl rfl rfl ⟨rfl, rfl, rfl, by decide +kernel, rfl, by decide +kernel, by decide +kernel⟩ rfl (by decide +kernel) m21 fun _ _ _ _ _ _ us hl => match us, hl with | [_], _ => rfl
theorem o22 {G : Gb} {h : Heap} (hK : G.K.In h) (hN : h.Ns mainGlobals G.mg) (hfa : G.fa = faOf gam G.mg) (df : DF G.K "_law_letters_text" (top 32)) : DefOk G gam fdF 22 "_law_letters_text" 1 :=
  defOk_of (N := n22) (ps := ["pairs"]) hK hN hfa rfl df (by decide +kernel) rfl rfl rfl ⟨rfl, rfl, rfl, by decide +kernel, rfl, by decide +kernel, by decide +kernel⟩ rfl (by decide +kernel) m22 fun _ _ _ _ _ _ us hl => match us, hl with | [_], _ => rfl
theorem o23 {G : Gb} {h : Heap} (hK : G.K.In h) (hN : h.Ns mainGlobals G.mg) (hfa : G.fa = faOf gam G.mg) (df : DF G.K "_law_listed" (top 33)) : DefOk G gam fdF 23 "_law_listed" 1 :=
  defOk_of (N := n23) (ps := ["texts"]) hK hN hfa rfl df (by decide +kernel) rfl rfl rfl ⟨rfl, rfl, rfl, by decide +kernel, rfl, by decide +kernel, by decide +kernel⟩ rfl (by decide +kernel) m23 fun _ _ _ _ _ _ us hl => match us, hl with | [_], _ => rfl
theorem o24 {G : Gb} {h : Heap} (hK : G.K.In h) (hN : h.Ns mainGlobals G.mg) (hfa : G.fa = faOf gam G.mg) (df : DF G.K "_law_at_text" (top 34)) : DefOk G gam fdF 24 "_law_at_text" 1 :=
  defOk_of (N := n24) (ps := ["at"]) hK hN hfa rfl df (by decide +kernel) rfl rfl rfl ⟨rfl, rfl, rfl, by decide +kernel, rfl, by decide +kernel, by decide +kernel⟩ rfl (by decide +kernel) m24 fun _ _ _ _ _ _ us hl => match us, hl with | [_], _ => rfl
theorem o25 {G : Gb} {h : Heap} (hK : G.K.In h) (hN : h.Ns mainGlobals G.mg) (hfa : G.fa = faOf gam G.mg) (df : DF G.K "_law_piece" (top 35)) : DefOk G gam fdF 25 "_law_piece" 1 :=
  defOk_of (N := n25) (ps := ["source"]) hK hN hfa rfl df (by decide +kernel) rfl rfl rfl ⟨rfl, rfl, rfl, by decide +kernel, rfl, by decide +kernel, by decide +kernel⟩ rfl (by decide +kernel) m25 fun _ _ _ _ _ _ us hl => match us, hl with | [_], _ => rfl
theorem o26 {G : Gb} {h : Heap} (hK : G.K.In h) (hN : h.Ns mainGlobals G.mg) (hfa : G.fa = faOf gam G.mg) (df : DF G.K "_law_tables" (top 36)) : DefOk G gam fdF 26 "_law_tables" 0 :=
  defOk_of (N := n26) (ps := []) hK hN hfa rfl df (by decide +kernel) rfl rfl rfl ⟨rfl, rfl, rfl, by decide +kernel, rfl, by decide +kernel, by decide +kernel⟩ rfl (by decide +kernel) m26 fun _ _ _ _ _ _ us hl => match us, hl with | [], _ => rfl
theorem o27 {G : Gb} {h : Heap} (hK : G.K.In h) (hN : h.Ns mainGlobals G.mg) (hfa : G.fa = faOf gam G.mg) (df : DF G.K "_law_table" (top 37)) : DefOk G gam fdF 27 "_law_table" 1 :=
  defOk_of (N := n27) (ps := ["source"]) hK hN hfa rfl df (by decide +kernel) rfl rfl rfl ⟨rfl, rfl, rfl, by decide +kernel, rfl, by decide +kernel, by decide +kernel⟩ rfl (by decide +kernel) m27 fun _ _ _ _ _ _ us hl => match us, hl with | [_], _ => rfl
theorem o28 {G : Gb} {h : Heap} (hK : G.K.In h) (hN : h.Ns mainGlobals G.mg) (hfa : G.fa = faOf gam G.mg) (df : DF G.K "_law_lot" (top 38)) : DefOk G gam fdF 28 "_law_lot" 1 :=
  defOk_of (N := n28) (ps := ["source"]) hK hN hfa rfl df (by decide +kernel) rfl rfl rfl ⟨rfl, rfl, rfl, by decide +kernel, rfl, by decide +kernel, by decide +kernel⟩ rfl (by decide +kernel) m28 fun _ _ _ _ _ _ us hl => match us, hl with | [_], _ => rfl
theorem o29 {G : Gb} {h : Heap} (hK : G.K.In h) (hN : h.Ns mainGlobals G.mg) (hfa : G.fa = faOf gam G.mg) (df : DF G.K "_law_misfit" (top 39)) : DefOk G gam fdF 29 "_law_misfit" 1 :=
  defOk_of (N := n29) (ps := ["source"]) hK hN hfa rfl df (by decide +kernel) rfl rfl rfl ⟨rfl, rfl, rfl, by decide +kernel, rfl, by decide +kernel, by decide +kernel⟩ rfl (by decide +kernel) m29 fun _ _ _ _ _ _ us hl => match us, hl with | [_], _ => rfl
theorem o30 {G : Gb} {h : Heap} (hK : G.K.In h) (hN : h.Ns mainGlobals G.mg) (hfa : G.fa = faOf gam G.mg) (df : DF G.K "_law_some" (top 40)) : DefOk G gam fdF 30 "_law_some" 1 :=
  defOk_of (N := n30) (ps := ["source"]) hK hN hfa rfl df (by decide +kernel) rfl rfl rfl ⟨rfl, rfl, rfl, by decide +kernel, rfl, by decide +kernel, by decide +kernel⟩ rfl (by decide +kernel) m30 fun _ _ _ _ _ _ us hl => match us, hl with | [_], _ => rfl
theorem o31 {G : Gb} {h : Heap} (hK : G.K.In h) (hN : h.Ns mainGlobals G.mg) (hfa : G.fa = faOf gam G.mg) (df : DF G.K "law" (top 41)) : DefOk G gam fdF 31 "law" 1 :=
  defOk_of (N := n31) (ps := ["script"]) hK hN hfa rfl df (by decide +kernel) rfl rfl rfl ⟨rfl, rfl, rfl, by decide +kernel, rfl, by decide +kernel, by decide +kernel⟩ rfl (by decide +kernel) m31 fun _ _ _ _ _ _ us hl => match us, hl with | [_], _ => rfl
theorem defs {G : Gb} {h : Heap} (hK : G.K.In h) (hN : h.Ns mainGlobals G.mg) (hfa : G.fa = faOf gam G.mg) (f0 : DF G.K "blanks" (top 8)) (f1 : DF G.K "commas" (top 9)) (f2 : DF G.K "semicolons" (top 10)) (f3 : DF G.K "truth_text" (top 11)) (f4 : DF G.K "row_text" (top 12)) (f5 : DF G.K "writing_text" (top 13)) (f6 : DF G.K "signs_text" (top 14)) (f7 : DF G.K "pieces_text" (top 15)) (f8 : DF G.K "blocks_text" (top 16)) (f9 : DF G.K "rows_text" (top 17)) (f10 : DF G.K "table_text" (top 18)) (f11 : DF G.K "lot_text" (top 19)) (f12 : DF G.K "misfit_text" (top 20)) (f13 : DF G.K "pair_text" (top 21)) (f14 : DF G.K "told_text" (top 22)) (f15 : DF G.K "answer_text" (top 24)) (f16 : DF G.K "_law_source" (top 26)) (f17 : DF G.K "_law_pick" (top 27)) (f18 : DF G.K "_law_of" (top 28)) (f19 : DF G.K "_law_row" (top 29)) (f20 : DF G.K "_law_joined" (top 30)) (f21 : DF G.K "_law_signs_text" (top 31)) (f22 : DF G.K "_law_letters_text" (top 32)) (f23 : DF G.K "_law_listed" (top 33)) (f24 : DF G.K "_law_at_text" (top 34)) (f25 : DF G.K "_law_piece" (top 35)) (f26 : DF G.K "_law_tables" (top 36)) (f27 : DF G.K "_law_table" (top 37)) (f28 : DF G.K "_law_lot" (top 38)) (f29 : DF G.K "_law_misfit" (top 39)) (f30 : DF G.K "_law_some" (top 40)) (f31 : DF G.K "law" (top 41)) : ∀ (f : Nat) (x : Str) (n : Nat), gam.ft[f]? = some (x, n) → DefOk G gam fdF f x n
  | 0, x, n, e => by obtain ⟨e1, e2⟩ := Prod.mk.inj (Option.some.inj (show some (("blanks" : Str), 1) = some (x, n) from e)); subst e1 e2; exact o0 hK hN hfa f0
  | 1, x, n, e => by obtain ⟨e1, e2⟩ := Prod.mk.inj (Option.some.inj (show some (("commas" : Str), 1) = some (x, n) from e)); subst e1 e2; exact o1 hK hN hfa f1
  | 2, x, n, e => by obtain ⟨e1, e2⟩ := Prod.mk.inj (Option.some.inj (show some (("semicolons" : Str), 1) = some (x, n) from e)); subst e1 e2; exact o2 hK hN hfa f2
  | 3, x, n, e => by obtain ⟨e1, e2⟩ := Prod.mk.inj (Option.some.inj (show some (("truth_text" : Str), 1) = some (x, n) from e)); subst e1 e2; exact o3 hK hN hfa f3
  | 4, x, n, e => by obtain ⟨e1, e2⟩ := Prod.mk.inj (Option.some.inj (show some (("row_text" : Str), 1) = some (x, n) from e)); subst e1 e2; exact o4 hK hN hfa f4
  | 5, x, n, e => by obtain ⟨e1, e2⟩ := Prod.mk.inj (Option.some.inj (show some (("writing_text" : Str), 1) = some (x, n) from e)); subst e1 e2; exact o5 hK hN hfa f5
  | 6, x, n, e => by obtain ⟨e1, e2⟩ := Prod.mk.inj (Option.some.inj (show some (("signs_text" : Str), 1) = some (x, n) from e)); subst e1 e2; exact o6 hK hN hfa f6
  | 7, x, n, e => by obtain ⟨e1, e2⟩ := Prod.mk.inj (Option.some.inj (show some (("pieces_text" : Str), 1) = some (x, n) from e)); subst e1 e2; exact o7 hK hN hfa f7
  | 8, x, n, e => by obtain ⟨e1, e2⟩ := Prod.mk.inj (Option.some.inj (show some (("blocks_text" : Str), 1) = some (x, n) from e)); subst e1 e2; exact o8 hK hN hfa f8
  | 9, x, n, e => by obtain ⟨e1, e2⟩ := Prod.mk.inj (Option.some.inj (show some (("rows_text" : Str), 1) = some (x, n) from e)); subst e1 e2; exact o9 hK hN hfa f9
  | 10, x, n, e => by obtain ⟨e1, e2⟩ := Prod.mk.inj (Option.some.inj (show some (("table_text" : Str), 1) = some (x, n) from e)); subst e1 e2; exact o10 hK hN hfa f10
  | 11, x, n, e => by obtain ⟨e1, e2⟩ := Prod.mk.inj (Option.some.inj (show some (("lot_text" : Str), 1) = some (x, n) from e)); subst e1 e2; exact o11 hK hN hfa f11
  | 12, x, n, e => by obtain ⟨e1, e2⟩ := Prod.mk.inj (Option.some.inj (show some (("misfit_text" : Str), 1) = some (x, n) from e)); subst e1 e2; exact o12 hK hN hfa f12
  | 13, x, n, e => by obtain ⟨e1, e2⟩ := Prod.mk.inj (Option.some.inj (show some (("pair_text" : Str), 2) = some (x, n) from e)); subst e1 e2; exact o13 hK hN hfa f13
  | 14, x, n, e => by obtain ⟨e1, e2⟩ := Prod.mk.inj (Option.some.inj (show some (("told_text" : Str), 2) = some (x, n) from e)); subst e1 e2; exact o14 hK hN hfa f14
  | 15, x, n, e => by obtain ⟨e1, e2⟩ := Prod.mk.inj (Option.some.inj (show some (("answer_text" : Str), 2) = some (x, n) from e)); subst e1 e2; exact o15 hK hN hfa f15
  | 16, x, n, e => by obtain ⟨e1, e2⟩ := Prod.mk.inj (Option.some.inj (show some (("_law_source" : Str), 1) = some (x, n) from e)); subst e1 e2; exact o16 hK hN hfa f16
  | 17, x, n, e => by obtain ⟨e1, e2⟩ := Prod.mk.inj (Option.some.inj (show some (("_law_pick" : Str), 2) = some (x, n) from e)); subst e1 e2; exact o17 hK hN hfa f17
  | 18, x, n, e => by obtain ⟨e1, e2⟩ := Prod.mk.inj (Option.some.inj (show some (("_law_of" : Str), 2) = some (x, n) from e)); subst e1 e2; exact o18 hK hN hfa f18
  | 19, x, n, e => by obtain ⟨e1, e2⟩ := Prod.mk.inj (Option.some.inj (show some (("_law_row" : Str), 3) = some (x, n) from e)); subst e1 e2; exact o19 hK hN hfa f19
  | 20, x, n, e => by obtain ⟨e1, e2⟩ := Prod.mk.inj (Option.some.inj (show some (("_law_joined" : Str), 2) = some (x, n) from e)); subst e1 e2; exact o20 hK hN hfa f20
  | 21, x, n, e => by obtain ⟨e1, e2⟩ := Prod.mk.inj (Option.some.inj (show some (("_law_signs_text" : Str), 1) = some (x, n) from e)); subst e1 e2; exact o21 hK hN hfa f21
  | 22, x, n, e => by obtain ⟨e1, e2⟩ := Prod.mk.inj (Option.some.inj (show some (("_law_letters_text" : Str), 1) = some (x, n) from e)); subst e1 e2; exact o22 hK hN hfa f22
  | 23, x, n, e => by obtain ⟨e1, e2⟩ := Prod.mk.inj (Option.some.inj (show some (("_law_listed" : Str), 1) = some (x, n) from e)); subst e1 e2; exact o23 hK hN hfa f23
  | 24, x, n, e => by obtain ⟨e1, e2⟩ := Prod.mk.inj (Option.some.inj (show some (("_law_at_text" : Str), 1) = some (x, n) from e)); subst e1 e2; exact o24 hK hN hfa f24
  | 25, x, n, e => by obtain ⟨e1, e2⟩ := Prod.mk.inj (Option.some.inj (show some (("_law_piece" : Str), 1) = some (x, n) from e)); subst e1 e2; exact o25 hK hN hfa f25
  | 26, x, n, e => by obtain ⟨e1, e2⟩ := Prod.mk.inj (Option.some.inj (show some (("_law_tables" : Str), 0) = some (x, n) from e)); subst e1 e2; exact o26 hK hN hfa f26
  | 27, x, n, e => by obtain ⟨e1, e2⟩ := Prod.mk.inj (Option.some.inj (show some (("_law_table" : Str), 1) = some (x, n) from e)); subst e1 e2; exact o27 hK hN hfa f27
  | 28, x, n, e => by obtain ⟨e1, e2⟩ := Prod.mk.inj (Option.some.inj (show some (("_law_lot" : Str), 1) = some (x, n) from e)); subst e1 e2; exact o28 hK hN hfa f28
  | 29, x, n, e => by obtain ⟨e1, e2⟩ := Prod.mk.inj (Option.some.inj (show some (("_law_misfit" : Str), 1) = some (x, n) from e)); subst e1 e2; exact o29 hK hN hfa f29
  | 30, x, n, e => by obtain ⟨e1, e2⟩ := Prod.mk.inj (Option.some.inj (show some (("_law_some" : Str), 1) = some (x, n) from e)); subst e1 e2; exact o30 hK hN hfa f30
  | 31, x, n, e => by obtain ⟨e1, e2⟩ := Prod.mk.inj (Option.some.inj (show some (("law" : Str), 1) = some (x, n) from e)); subst e1 e2; exact o31 hK hN hfa f31
  | f + 32, x, n, e => by cases (show (none : Option (Str × Nat)) = some (x, n) from e)
theorem gls {G : Gb} {h : Heap} (hK : G.K.In h) (hN : h.Ns mainGlobals G.mg) (hfa : G.fa = faOf gam G.mg) (g0 : GF G.K gam G.w.params "NONE" (.str "none")) (g1 : GF G.K gam G.w.params "NOTHING" (.str "nothing")) (g2 : GF G.K gam G.w.params "SIDES" (.gd ["L", "R"] [(.str "left"), (.str "right")])) (g3 : GF G.K gam G.w.params "TRUTHS" (.tup [(.str "alike"), (.str "within"), (.str "kept"), (.str "once")])) (g4 : GF G.K gam G.w.params "NUMBERS" (.tup [(.str "goes"), (.str "crossed"), (.str "many")])) (g5 : GF G.K gam G.w.params "LOTS" (.tup [(.str "domain"), (.str "silent"), (.str "from")])) (g6 : GF G.K gam G.w.params "WRITINGS" (.tup [(.str "writes"), (.str "hears")])) (g7 : GF G.K gam G.w.params "MAKERS" (.gd ["piece", "blocks", "table", "fits", "at"] [(.fn 6), (.fn 8), (.fn 10), (.fn 12), (.fn 7)])) : ∀ (j : Nat) (x : Str) (u : U), gam.gt[j]? = some (x, u) → (x == ("__debug__" : Str)) = false ∧ ∃ v val, G.mg x = some val ∧ RelV v val ∧ ∀ φ H, RV G φ H u v
  | 0, x, u, e => by obtain ⟨e1, e2⟩ := Prod.mk.inj (Option.some.inj (show some (("NONE" : Str), ((.str "none") : U)) = some (x, u) from e)); subst e1 e2; exact ⟨by decide +kernel, gl_of' hK hN hfa g0⟩
  | 1, x, u, e => by obtain ⟨e1, e2⟩ := Prod.mk.inj (Option.some.inj (show some (("NOTHING" : Str), ((.str "nothing") : U)) = some (x, u) from e)); subst e1 e2; exact ⟨by decide +kernel, gl_of' hK hN hfa g1⟩
  | 2, x, u, e => by obtain ⟨e1, e2⟩ := Prod.mk.inj (Option.some.inj (show some (("SIDES" : Str), ((.gd ["L", "R"] [(.str "left"), (.str "right")]) : U)) = some (x, u) from e)); subst e1 e2; exact ⟨by decide +kernel, gl_of' hK hN hfa g2⟩
  | 3, x, u, e => by obtain ⟨e1, e2⟩ := Prod.mk.inj (Option.some.inj (show some (("TRUTHS" : Str), ((.tup [(.str "alike"), (.str "within"), (.str "kept"), (.str "once")]) : U)) = some (x, u) from e)); subst e1 e2; exact ⟨by decide +kernel, gl_of' hK hN hfa g3⟩
  | 4, x, u, e => by obtain ⟨e1, e2⟩ := Prod.mk.inj (Option.some.inj (show some (("NUMBERS" : Str), ((.tup [(.str "goes"), (.str "crossed"), (.str "many")]) : U)) = some (x, u) from e)); subst e1 e2; exact ⟨by decide +kernel, gl_of' hK hN hfa g4⟩
  | 5, x, u, e => by obtain ⟨e1, e2⟩ := Prod.mk.inj (Option.some.inj (show some (("LOTS" : Str), ((.tup [(.str "domain"), (.str "silent"), (.str "from")]) : U)) = some (x, u) from e)); subst e1 e2; exact ⟨by decide +kernel, gl_of' hK hN hfa g5⟩
  | 6, x, u, e => by obtain ⟨e1, e2⟩ := Prod.mk.inj (Option.some.inj (show some (("WRITINGS" : Str), ((.tup [(.str "writes"), (.str "hears")]) : U)) = some (x, u) from e)); subst e1 e2; exact ⟨by decide +kernel, gl_of' hK hN hfa g6⟩
  | 7, x, u, e => by obtain ⟨e1, e2⟩ := Prod.mk.inj (Option.some.inj (show some (("MAKERS" : Str), ((.gd ["piece", "blocks", "table", "fits", "at"] [(.fn 6), (.fn 8), (.fn 10), (.fn 12), (.fn 7)]) : U)) = some (x, u) from e)); subst e1 e2; exact ⟨by decide +kernel, gl_of' hK hN hfa g7⟩
  | j + 8, x, u, e => by cases (show (none : Option (Str × U)) = some (x, u) from e)
def BlN (K : PySem.W.Frag) : Prop := PySem.W.nsIn K mainGlobals "len" = some none ∧ PySem.W.nsIn K mainGlobals "tuple" = some none ∧ PySem.W.nsIn K mainGlobals "list" = some none ∧ PySem.W.nsIn K mainGlobals "int" = some none ∧ PySem.W.nsIn K mainGlobals "abs" = some none ∧ PySem.W.nsIn K mainGlobals "str" = some none ∧ PySem.W.nsIn K mainGlobals "repr" = some none ∧ PySem.W.nsIn K mainGlobals "bool" = some none ∧ PySem.W.nsIn K mainGlobals "all" = some none ∧ PySem.W.nsIn K mainGlobals "any" = some none ∧ PySem.W.nsIn K mainGlobals "sum" = some none ∧ PySem.W.nsIn K mainGlobals "dict" = some none ∧ PySem.W.nsIn K mainGlobals "max" = some none ∧ PySem.W.nsIn K mainGlobals "min" = some none ∧ PySem.W.nsIn K mainGlobals "sorted" = some none ∧ PySem.W.nsIn K mainGlobals "range" = some none ∧ PySem.W.nsIn K mainGlobals "enumerate" = some none ∧ PySem.W.nsIn K mainGlobals "zip" = some none
theorem bls {K : PySem.W.Frag} (b : BlN K) : ∀ x ∈ bnames, PySem.W.nsIn K mainGlobals x = some none := by
  obtain ⟨b0, b1, b2, b3, b4, b5, b6, b7, b8, b9, b10, b11, b12, b13, b14, b15, b16, b17⟩ := b
  intro x hx
  simp only [bnames, List.mem_cons, List.not_mem_nil, or_false] at hx
  rcases hx with rfl | rfl | rfl | rfl | rfl | rfl | rfl | rfl | rfl | rfl | rfl | rfl | rfl | rfl | rfl | rfl | rfl | rfl <;> assumption
/-- the law, from what the top has left and what the compact law answers -/
theorem all {Pr : Program} {w : World} {K : PySem.W.Frag} {mg : Str → Option Value} {h : Heap} {fa : Addr} {k : Nat} (hK : K.In h) (hN : h.Ns mainGlobals mg) (hfa : mg "law" = some (.ref fa)) (law : ∀ ns : List Int, ns.length ≤ 63 → ∃ μ, evF fdF (k + 1) 31 [scriptU ns] [] = .ok (.bl true) μ) (b : BlN K) (f0 : DF K "blanks" (top 8)) (f1 : DF K "commas" (top 9)) (f2 : DF K "semicolons" (top 10)) (f3 : DF K "truth_text" (top 11)) (f4 : DF K "row_text" (top 12)) (f5 : DF K "writing_text" (top 13)) (f6 : DF K "signs_text" (top 14)) (f7 : DF K "pieces_text" (top 15)) (f8 : DF K "blocks_text" (top 16)) (f9 : DF K "rows_text" (top 17)) (f10 : DF K "table_text" (top 18)) (f11 : DF K "lot_text" (top 19)) (f12 : DF K "misfit_text" (top 20)) (f13 : DF K "pair_text" (top 21)) (f14 : DF K "told_text" (top 22)) (f15 : DF K "answer_text" (top 24)) (f16 : DF K "_law_source" (top 26)) (f17 : DF K "_law_pick" (top 27)) (f18 : DF K "_law_of" (top 28)) (f19 : DF K "_law_row" (top 29)) (f20 : DF K "_law_joined" (top 30)) (f21 : DF K "_law_signs_text" (top 31)) (f22 : DF K "_law_letters_text" (top 32)) (f23 : DF K "_law_listed" (top 33)) (f24 : DF K "_law_at_text" (top 34)) (f25 : DF K "_law_piece" (top 35)) (f26 : DF K "_law_tables" (top 36)) (f27 : DF K "_law_table" (top 37)) (f28 : DF K "_law_lot" (top 38)) (f29 : DF K "_law_misfit" (top 39)) (f30 : DF K "_law_some" (top 40)) (f31 : DF K "law" (top 41)) (g0 : GF K gam w.params "NONE" (.str "none")) (g1 : GF K gam w.params "NOTHING" (.str "nothing")) (g2 : GF K gam w.params "SIDES" (.gd ["L", "R"] [(.str "left"), (.str "right")])) (g3 : GF K gam w.params "TRUTHS" (.tup [(.str "alike"), (.str "within"), (.str "kept"), (.str "once")])) (g4 : GF K gam w.params "NUMBERS" (.tup [(.str "goes"), (.str "crossed"), (.str "many")])) (g5 : GF K gam w.params "LOTS" (.tup [(.str "domain"), (.str "silent"), (.str "from")])) (g6 : GF K gam w.params "WRITINGS" (.tup [(.str "writes"), (.str "hears")])) (g7 : GF K gam w.params "MAKERS" (.gd ["piece", "blocks", "table", "fits", "at"] [(.fn 6), (.fn 8), (.fn 10), (.fn 12), (.fn 7)])) :
    ∃ fd : FuncData, (∀ (s : Shared) (v : Value), BindsTo s fd ⟨[v], []⟩ [("script", v)]) ∧ ∀ base : Heap, K.In base → base.Ns mainGlobals mg → FnOk Pr w K mg base (L2.CX Pr w) (k + 1) fa fd ["script"] (spL K 63) :=
  law_of (d := d31) (N := n31) hK hN (fun G e1 e2 e3 => by subst e1 e2; exact defs hK hN e3 f0 f1 f2 f3 f4 f5 f6 f7 f8 f9 f10 f11 f12 f13 f14 f15 f16 f17 f18 f19 f20 f21 f22 f23 f24 f25 f26 f27 f28 f29 f30 f31) (fun G e1 e2 e3 e4 => by subst e1 e2 e3; exact gls hK hN e4 g0 g1 g2 g3 g4 g5 g6 g7) (bls b) f31 hfa rfl rfl ⟨rfl, rfl, rfl, by decide +kernel, rfl, by decide +kernel, by decide +kernel⟩ rfl (by decide +kernel) m31 (fun _ _ _ _ _ _ _ => rfl) law
end K56
end
section
set_option linter.all false
set_option maxRecDepth 100000
namespace K56
open PySem L2 DP
theorem clos : ∀ (f : Nat) (fd : Fd), fdF f = some fd → clSs fd.body = true := by
  intro f fd h
  have : fds.all (fun fd => clSs fd.body) = true := by decide +kernel
  exact List.all_eq_true.mp this fd (List.mem_of_getElem? h)
/-- a call of plain values that the kernel has computed -/
def isOk (r : Res U) (t : U) : Bool := match r with
  | .ok u [] => decide (u = t) && uLt 0 u
  | _ => false
theorem isOk_any {k f : Nat} {us : List U} {t : U} (hu : uLts 0 us = true) (h : isOk (evF fdF k f us []) t = true) (μ : Store) : evF fdF k f us μ = .ok t μ := by
  unfold isOk at h
  split at h
  · rename_i u hr
    simp only [Bool.and_eq_true, decide_eq_true_eq] at h
    obtain ⟨rfl, h2⟩ := h
    exact evF_any clos hu h2 hr μ
  · cases h
theorem f17 : fdF 17 = some pickFd := rfl
theorem f18 : fdF 18 = some (ofFd 17) := rfl
theorem f20 : fdF 20 = some joinedFd := rfl
theorem f16 : fdF 16 = some sourceFd := rfl
variable {k : Nat} {μ : Store}
theorem blanks_ok {t : U} {us : List U} {x : Itm} {ss : List Str} (hi : itmOf (.u t) μ = some x) (hx : x.us = us) (ok : x.ok μ = true) (h : txs us = some ss) (hz : JoinFit " " ss) (hl : us.length ≤ sizeLine) : evF fdF (k + 1) 0 [t] μ = .ok (.str (Txt.join " " ss)) μ := by
  obtain ⟨h1, h2⟩ := txs_all h
  refine evF_eq (fd := d0) (l := []) rfl rfl rfl (exs_one (v_join (ss := ss) (v_lc (x := x) (g := fun u => .str ((txU u).getD Str.empty)) (v_var rfl) hi ok (fun u hu => ?_) (by rw [hx]; exact hl)) ?_ hz)) (by simp) rfl
  · obtain ⟨y, hy⟩ := h1 u (hx ▸ hu)
    refine ⟨_, rfl, ?_⟩
    rw [hy]
    exact v_str (v_var rfl) hy
  · rw [hx, h2]; rfl
theorem blanks_tup {us : List U} {ss : List Str} (h : txs us = some ss) (hz : JoinFit " " ss) (hl : us.length ≤ sizeLine) : evF fdF (k + 1) 0 [.tup us] μ = .ok (.str (Txt.join " " ss)) μ := blanks_ok (x := ⟨us, []⟩) rfl rfl rfl h hz hl
def listed (z : Str) (ss : List Str) : Str := if ss.length > 0 then Txt.join z ss else "none"
theorem commas_ok {n : Nat} {ss : List Str} (hn : μ[n]? = some (.lst (ss.map .str))) (hz : JoinFit ", " ss) : evF fdF (k + 1) 1 [.loc n] μ = .ok (.str (listed ", " ss)) μ := by
  have hlen : (vb (evF fdF k) (.b1 .len (.var 0))).v [some (.loc n)] μ = .ok (.u (.int ss.length)) μ := by
    refine v_b1 (v_var rfl) ?_
    simp only [b1T, T.dctOf, hn, lenT, T.seqOf, T.lstOf]
    simp
  refine evF_eq (fd := d1) (l := []) (μ1 := μ) rfl rfl rfl (exs_one (v_ite (t := decide ((ss.length : Int) > 0)) (b_cmp hlen v_cst rfl) ?_)) (by simp) rfl
  unfold listed
  by_cases h : ss.length > 0
  · have h' : (ss.length : Int) > 0 := by omega
    rw [if_pos (decide_eq_true h'), if_pos h]
    exact v_join (v_var rfl) (by simp only [T.seqOf, T.lstOf, hn]) hz
  · have h' : ¬ (ss.length : Int) > 0 := by omega
    rw [if_neg (by simpa using h'), if_neg h]
    rfl
/-- commas called with a list just made -/
theorem v_commas {ρ : Ev} {e : Sx} {μ1 : Store} {ss : List Str} (h : (vb (evF fdF (k + 1)) e).v ρ μ = .ok (.l (ss.map .str)) μ1) (hz : JoinFit ", " ss) : (vb (evF fdF (k + 1)) (.call 1 [e])).v ρ μ = .ok (.u (.str (listed ", " ss))) (μ1 ++ [.lst (ss.map .str)]) :=
  v_call (evs_l h evs_nil) (commas_ok at_new hz)
/-- items told of by texts -/
def Told (C : Calls) (f : Nat) (S : U → Option Str) : Prop := ∀ (u : U) (t : Str) (μ : Store), S u = some t → C f [u] μ = .ok (.str t) μ
def mapS (S : U → Option Str) : List U → Option (List Str)
  | [] => some []
  | u :: us => match S u, mapS S us with
    | some x, some xs => some (x :: xs)
    | _, _ => none
theorem mapS_all {S : U → Option Str} : ∀ {us : List U} {ss : List Str}, mapS S us = some ss → (∀ u ∈ us, ∃ x, S u = some x) ∧ us.map (fun u => U.str ((S u).getD Str.empty)) = ss.map U.str
  | [], ss, h => by simp only [mapS, Option.some.injEq] at h; subst h; exact ⟨(fun _ h => nomatch h), rfl⟩
  | u :: us, ss, h => by
    simp only [mapS] at h
    split at h
    · rename_i x xs h1 h2
      cases h
      obtain ⟨g1, g2⟩ := mapS_all h2
      refine ⟨fun v hv => ?_, by simp [h1, g2]⟩
      rcases List.mem_cons.mp hv with rfl | hv
      · exact ⟨x, h1⟩
      · exact g1 v hv
    · cases h
/-- [f(x) for x in some] -/
theorem v_lcf {C : Calls} {f i j : Nat} {S : U → Option Str} (hC : Told C f S) {ρ : Ev} {us : List U} {ss : List Str} {x : Itm} {t : U} (h0 : ρ[j]? = some (some t)) (hi : itmOf (.u t) μ = some x) (ok : x.ok μ = true) (hx : x.us = us) (h : mapS S us = some ss) (hl : us.length ≤ sizeLine) (hr : i < ρ.length) :
    (vb C (.lc [i] (.call f [.var i]) (.nm i) (.pl (.var j)) [])).v ρ μ = .ok (.l (ss.map .str)) μ := by
  obtain ⟨h1, h2⟩ := mapS_all h
  rw [← h2, ← hx]
  refine v_lc (x := x) (g := fun u => .str ((S u).getD Str.empty)) (v_var h0) hi ok (fun u hu => ?_) (by rw [hx]; exact hl)
  obtain ⟨y, hy⟩ := h1 u (hx ▸ hu)
  refine ⟨(wipeE ρ [i]).set i (some u), by simp [asgT, wipeE, hr], ?_⟩
  rw [hy]
  refine v_call (evs_u (v_var (u := u) (by simp [wipeE, hr])) evs_nil) (hC u y μ hy)
/-! ### the asks whose answers are many -/
/-- a letter with its place -/
def prS : U → Option Str
  | .tup us => (txs us).map fun ss => Txt.join " " ss
  | _ => none
def prOk (u : U) : Bool := match u with
  | .tup us => match txs us with
    | some ss => decide ((ss.map (·.length)).sum + ss.length * 1 ≤ 1000) && decide (us.length ≤ 10)
    | none => false
  | _ => false
theorem told0 : Told (evF fdF (k + 1)) 0 (fun u => if prOk u then prS u else none) := by
  intro u t μ h
  dsimp only at h
  split at h
  · rename_i hp
    cases u <;> simp only [prOk] at hp <;> first | (cases hp; done) | skip
    rename_i us
    split at hp
    · rename_i ss hs
      simp only [Bool.and_eq_true, decide_eq_true_eq] at hp
      simp only [prS, hs, Option.map_some, Option.some.injEq] at h
      subst h
      exact blanks_tup hs (by unfold JoinFit; show _ + _ * 1 ≤ _; omega) (Nat.le_trans hp.2 (by decide))
    · cases hp
  · cases h
theorem join_len (z : Str) : ∀ (ss : List Str), (Txt.join z ss).length ≤ (ss.map (·.length)).sum + ss.length * z.length
  | [] => Nat.zero_le _
  | s :: ss => by
    rw [glued_eq]
    have key : ∀ (ss : List Str) (a : Str), (ss.foldl (glue1 z) a).length = a.length + (ss.map (·.length)).sum + ss.length * z.length := by
      intro ss
      induction ss with
      | nil => intro a; simp
      | cons x xs ih =>
        intro a
        rw [List.foldl_cons, ih, glue1, str_len, str_len]
        simp only [List.map_cons, List.sum_cons, List.length_cons, Nat.succ_mul]
        omega
    rw [key]
    simp only [List.map_cons, List.sum_cons, List.length_cons, Nat.succ_mul]
    omega
/-- writing_text of letters with places -/
theorem writing_ok {u : U} {us : List U} {ss : List Str} (h : mapS (fun u => if prOk u then prS u else none) (u :: us) = some ss) (hz : JoinFit ", " ss) (hd : dOk 50 (.tup (u :: us)) = true) (hl : (u :: us).length ≤ sizeLine) :
    evF fdF (k + 2) 5 [.tup (u :: us)] μ = .ok (.str (Txt.join ", " ss)) μ := by
  have hlen : 0 < ss.length := by
    cases ss with
    | nil => obtain ⟨_, h2⟩ := mapS_all h; simp at h2
    | cons => simp
  have e : Txt.join ", " ss = listed ", " ss := by unfold listed; rw [if_pos hlen]
  rw [e]
  refine evF_eq (fd := d5) (l := [.lst (ss.map .str)]) (μ1 := μ ++ [.lst (ss.map .str)]) rfl rfl rfl ?_ rfl rfl
  show exs _ (_ :: _) [some (.tup (u :: us)), none] μ = _
  rw [exs, ex_ifs (b_isNon (u := .tup (u :: us)) (v_var rfl))]
  show exs _ [_] [some (.tup (u :: us)), none] μ = _
  refine exs_one (v_ite (t := true) (b_neNil (v_var rfl) hd) ?_)
  exact v_commas (v_lcf (j := 0) (i := 1) told0 rfl rfl rfl rfl h hl (by simp)) hz
/-! answer_text -/
theorem ix0 {a : U} {r : List U} : ixD (.u (.tup (a :: r))) (.u (.int 0)) μ = some (.u a) := by
  show (atI (a :: r) 0).map T.u = _
  unfold atI ixN
  rw [if_pos (by decide), if_pos (by simp)]
  rfl
def mak : U := .gd ["piece", "blocks", "table", "fits", "at"] [(.fn 6), (.fn 8), (.fn 10), (.fn 12), (.fn 7)]
theorem b_told {C : Calls} {a : U} {o2 o3 o4 : Option U} {r : List U} {t : Str} : (vb C (.cmp .NotEq (.ix (.var 1) (.cst (.int 0))) (.cst (.str "told")))).b [some a, some (.tup (.str t :: r)), o2, o3, o4] μ = .ok (!(strB t "told")) μ := by
  refine b_cmp (v_ix (t := .u (.str t)) (v_var rfl) v_cst ix0) v_cst ?_
  show neT (.u (.str t)) (.u (.str "told")) μ = _
  rfl
/-- asks beside pairs and makers -/
theorem ans14 {w t : Str} {r : List U} {v : U} (h1 : cmpD .In (.u (.str w)) (.u (.tup [.str "parts", .str "crosses"])) μ = some false) (h2 : cmpD .In (.u (.str w)) (.u (.gd ["piece", "blocks", "table", "fits", "at"] [(.fn 6), (.fn 8), (.fn 10), (.fn 12), (.fn 7)])) μ = some false) (h : evF fdF k 14 [.str w, v] μ = .ok (.str t) μ) :
    evF fdF (k + 1) 15 [.tup (.str w :: r), .tup [.str "told", v]] μ = .ok (.str t) μ := by
  refine evF_eq (fd := d15) (l := []) (μ1 := μ) rfl rfl rfl ?_ (by simp) rfl
  show exs _ (_ :: _ :: _ :: _ :: _) [some (.tup (.str w :: r)), some (.tup [.str "told", v]), none, none, none] μ = _
  rw [exs, ex_ifs b_told]
  show exs _ (_ :: _) [some (.tup (.str w :: r)), some (.tup [.str "told", v]), none, none, none] μ = _
  rw [exs_cons (ex_par2 (us := [.str w, v]) (ρ' := [some (.tup (.str w :: r)), some (.tup [.str "told", v]), some (.str w), some v, none]) (evs_u (v_ix (v_var rfl) v_cst ix0) (evs_u (v_ix (v_var rfl) v_cst rfl) evs_nil)) rfl)]
  rw [exs, ex_ifs (t := false) (b_cmp (v_var rfl) (v_tup (evs_u v_cst (evs_u v_cst evs_nil)) (by decide)) h1)]
  show exs _ (_ :: _) _ μ = _
  rw [exs, ex_ifs (t := false) (b_cmp (v_var rfl) v_gl h2)]
  exact exs_one (v_call (evs_u (v_var rfl) (evs_u (v_var rfl) evs_nil)) h)
theorem ansPair {w t : Str} {r : List U} {v : U} (h1 : cmpD .In (.u (.str w)) (.u (.tup [.str "parts", .str "crosses"])) μ = some true) (h : evF fdF k 13 [.str w, v] μ = .ok (.str t) μ) :
    evF fdF (k + 1) 15 [.tup (.str w :: r), .tup [.str "told", v]] μ = .ok (.str t) μ := by
  refine evF_eq (fd := d15) (l := []) (μ1 := μ) rfl rfl rfl ?_ (by simp) rfl
  show exs _ (_ :: _ :: _ :: _ :: _) [some (.tup (.str w :: r)), some (.tup [.str "told", v]), none, none, none] μ = _
  rw [exs, ex_ifs b_told]
  show exs _ (_ :: _) [some (.tup (.str w :: r)), some (.tup [.str "told", v]), none, none, none] μ = _
  rw [exs_cons (ex_par2 (us := [.str w, v]) (ρ' := [some (.tup (.str w :: r)), some (.tup [.str "told", v]), some (.str w), some v, none]) (evs_u (v_ix (v_var rfl) v_cst ix0) (evs_u (v_ix (v_var rfl) v_cst rfl) evs_nil)) rfl)]
  rw [exs, ex_ifs (t := true) (b_cmp (v_var rfl) (v_tup (evs_u v_cst (evs_u v_cst evs_nil)) (by decide)) h1)]
  simp only [if_true]
  rw [exs_one (v_call (evs_u (v_var rfl) (evs_u (v_var rfl) evs_nil)) h)]
  rfl
theorem told14_w {w t : Str} {v : U} (h1 : cmpD .In (.u (.str w)) (.u (.tup [(.str "alike"), (.str "within"), (.str "kept"), (.str "once")])) μ = some false) (h2 : cmpD .In (.u (.str w)) (.u (.tup [(.str "goes"), (.str "crossed"), (.str "many")])) μ = some false) (h3 : cmpD .In (.u (.str w)) (.u (.tup [(.str "domain"), (.str "silent"), (.str "from")])) μ = some false) (h4 : cmpD .In (.u (.str w)) (.u (.tup [(.str "writes"), (.str "hears")])) μ = some true) (h : evF fdF k 5 [v] μ = .ok (.str t) μ) :
    evF fdF (k + 1) 14 [.str w, v] μ = .ok (.str t) μ := by
  refine evF_eq (fd := d14) (l := []) (μ1 := μ) rfl rfl rfl ?_ (by simp) rfl
  show exs _ (_ :: _ :: _ :: _ :: _) [some (.str w), some v] μ = _
  rw [exs, ex_ifs (t := false) (b_cmp (v_var rfl) v_gl h1)]
  show exs _ (_ :: _) _ μ = _
  rw [exs, ex_ifs (t := false) (b_cmp (v_var rfl) v_gl h2)]
  show exs _ (_ :: _) _ μ = _
  rw [exs, ex_ifs (t := false) (b_cmp (v_var rfl) v_gl h3)]
  show exs _ (_ :: _) _ μ = _
  rw [exs, ex_ifs (t := true) (b_cmp (v_var rfl) v_gl h4)]
  simp only [if_true]
  rw [exs_one (v_call (evs_u (v_var rfl) evs_nil) h)]
  rfl
/-- pieces_text -/
theorem pieces_ok {us : List U} {ss : List Str} {S : U → Option Str} (hS : Told (evF fdF k) 6 S) (hS1 : Told (evF fdF k) 6 S) (h : mapS S us = some ss) (hz : JoinFit ", " ss) (hl : us.length ≤ sizeLine) (hk : ∃ j, k = j + 1) :
    evF fdF (k + 1) 7 [.tup us] μ = .ok (.str (listed ", " ss)) μ := by
  obtain ⟨j, rfl⟩ := hk
  refine evF_eq (fd := d7) (l := [.lst (ss.map .str)]) (μ1 := μ ++ [.lst (ss.map .str)]) rfl rfl rfl ?_ rfl rfl
  exact exs_one (v_commas (v_lcf (j := 0) (i := 1) hS rfl rfl rfl rfl h hl (by simp [d7])) hz)
theorem v_calv {C : Calls} {i f : Nat} {fs : List Nat} {es : List Sx} {ρ : Ev} {μ1 μ2 : Store} {us : List U} {u : U} (h0 : ρ[i]? = some (some (.fn f))) (hf : fs.contains f = true) (h : evs (vbs C es) ρ μ = .ok us μ1) (hc : C f us μ1 = .ok u μ2) : (vb C (.calv i fs es)).v ρ μ = .ok (.u u) μ2 := by
  rw [vb]
  simp only [VB.of, h0, hf, if_true, h, hc, Res.bind]
/-- at -/
theorem ansAt {t : Str} {r : List U} {v : U} (h : evF fdF k 7 [v] μ = .ok (.str t) μ) :
    evF fdF (k + 1) 15 [.tup (.str "at" :: r), .tup [.str "told", v]] μ = .ok (.str t) μ := by
  refine evF_eq (fd := d15) (l := []) (μ1 := μ) rfl rfl rfl ?_ (by simp) rfl
  show exs _ (_ :: _ :: _ :: _ :: _) [some (.tup (.str "at" :: r)), some (.tup [.str "told", v]), none, none, none] μ = _
  rw [exs, ex_ifs b_told]
  show exs _ (_ :: _) [some (.tup (.str "at" :: r)), some (.tup [.str "told", v]), none, none, none] μ = _
  rw [exs_cons (ex_par2 (us := [.str "at", v]) (ρ' := [some (.tup (.str "at" :: r)), some (.tup [.str "told", v]), some (.str "at"), some v, none]) (evs_u (v_ix (v_var rfl) v_cst ix0) (evs_u (v_ix (v_var rfl) v_cst rfl) evs_nil)) rfl)]
  rw [exs, ex_ifs (t := false) (b_cmp (v_var rfl) (v_tup (evs_u v_cst (evs_u v_cst evs_nil)) (by decide)) rfl)]
  show exs _ (_ :: _) _ μ = _
  rw [exs, ex_ifs (t := true) (b_cmp (v_var rfl) v_gl rfl)]
  simp only [if_true]
  rw [exs_cons (ex_asg (u := .fn 7) (v_ix v_gl (v_var rfl) rfl) (by simp))]
  rw [exs_one (v_calv (f := 7) rfl rfl (evs_u (v_var rfl) evs_nil) h)]
  rfl
/-- row_text -/
theorem row_ok {us : List U} {ss : List Str} (h : txs us = some ss) (hz : JoinFit " " ss) (hl : us.length ≤ sizeLine) (hd : dOk 50 (.tup us) = true) : evF fdF (k + 2) 4 [.tup us] μ = .ok (.str (if us.isEmpty then "nothing" else Txt.join " " ss)) μ := by
  refine evF_eq (fd := d4) (l := []) (μ1 := μ) rfl rfl rfl (exs_one (v_ite (b_neNil (v_var rfl) hd) ?_)) (by simp) rfl
  cases us with
  | nil => rfl
  | cons u us => exact v_call (evs_u (v_var rfl) evs_nil) (blanks_tup h hz hl)
theorem parts_ok {a t : Str} {row : U} {n : Int} (hr : evF fdF k 4 [row] μ = .ok (.str a) μ) (hn : txU (.int n) = some t) (hl : a.length + 4 + t.length ≤ sizeLine) : evF fdF (k + 1) 13 [.str "parts", .tup [row, .int n]] μ = .ok (.str (a ++ " at " ++ t)) μ := by
  have e2 : ((" at " : Str)).length = 4 := by decide
  refine evF_eq (fd := d13) (l := []) (μ1 := μ) (ρ := [some (.str "parts"), some (.tup [row, .int n])]) rfl rfl rfl ((exs_ifs_f (b_isNon (u := .tup [row, .int n]) (v_var rfl))).trans (exs_ifs_t (b_cmp (v_var rfl) v_cst rfl) (exs_one ?_))) (by simp) rfl
  exact v_adds (v_adds (v_call (evs_u (v_ix (v_var rfl) v_cst rfl) evs_nil) hr) v_cst (by omega)) (v_str (v_ix (t := .u (.int n)) (v_var rfl) v_cst rfl) hn) (by rw [str_len]; omega)
theorem crosses_ok {a t : Str} {row : U} {n : Int} (hr : evF fdF k 4 [row] μ = .ok (.str a) μ) (hn : txU (.int n) = some t) (hl : a.length + 4 + t.length ≤ sizeLine) : evF fdF (k + 1) 13 [.str "crosses", .tup [.int n, row]] μ = .ok (.str (t ++ ": " ++ a)) μ := by
  have e2 : ((": " : Str)).length = 2 := by decide
  refine evF_eq (fd := d13) (l := []) (μ1 := μ) (ρ := [some (.str "crosses"), some (.tup [.int n, row])]) rfl rfl rfl ((exs_ifs_f (b_isNon (u := .tup [.int n, row]) (v_var rfl))).trans ((exs_ifs_f (b_cmp (v_var rfl) v_cst rfl)).trans (exs_one ?_))) (by simp) rfl
  exact v_adds (v_adds (v_str (v_ix (t := .u (.int n)) (v_var rfl) v_cst rfl) hn) v_cst (by omega)) (v_call (evs_u (v_ix (v_var rfl) v_cst rfl) evs_nil) hr) (by rw [str_len]; omega)
end K56
end
section
set_option linter.all false
set_option maxRecDepth 100000
namespace K56
open PySem L2 DP
theorem shk (k : Nat) : ShK (evF fdF k) := sh_evF clos k
/-! small texts -/
def Sm (n : Nat) (s : Str) : Prop := s.length ≤ n ∧ ∀ c ∈ s.cps.toList, c < 16 ^ 8
theorem Sm.app {n m : Nat} {a b : Str} (h : Sm n a) (g : Sm m b) : Sm (n + m) (a ++ b) := by
  refine ⟨by rw [str_len]; exact Nat.add_le_add h.1 g.1, fun c hc => ?_⟩
  have e : (a ++ b).cps.toList = a.cps.toList ++ b.cps.toList := by
    show (a.cps ++ b.cps).toList = _
    simp
  rw [e] at hc
  rcases List.mem_append.mp hc with q | q
  · exact h.2 c q
  · exact g.2 c q
theorem Sm.le {n m : Nat} {a : Str} (h : Sm n a) (l : n ≤ m) : Sm m a := ⟨Nat.le_trans h.1 l, h.2⟩
def smB (n : Nat) (s : Str) : Bool := decide (s.length ≤ n) && s.cps.toList.all fun c => decide (c < 16 ^ 8)
theorem sm_of {n : Nat} {s : Str} (h : smB n s = true) : Sm n s := by
  simp only [smB, Bool.and_eq_true, decide_eq_true_eq, List.all_eq_true] at h
  exact h
theorem Sm.repr {n : Nat} {s : Str} (h : Sm n s) (hn : n ≤ 100000) : (reprText s).length ≤ sizeLine := by
  have := PySem.StrLaws.reprText_len s h.2
  have h1 := h.1
  have : (reprText s).length ≤ 10 * 100000 + 2 := by omega
  exact Nat.le_trans this (by decide)
/-! ### what is good: the answer's text is told -/
def Good (ask v t : U) : Prop := ∃ s, t = .str s ∧ (∀ μ, evF fdF 15 15 [ask, .tup [.str "told", v]] μ = .ok (.str s) μ) ∧ (reprText s).length ≤ sizeLine ∧ uLts 0 [ask, v] = true
def gdB (ask v t : U) : Bool := match t with
  | .str s => isOk (evF fdF 15 15 [ask, .tup [.str "told", v]] []) (.str s) && (smB 100000 s && uLts 0 [ask, v])
  | _ => false
theorem good_of {ask v t : U} (h : gdB ask v t = true) : Good ask v t := by
  unfold gdB at h
  split at h
  · rename_i s
    simp only [Bool.and_eq_true] at h
    refine ⟨s, rfl, isOk_any ?_ h.1, (sm_of h.2.1).repr (Nat.le_refl _), h.2.2⟩
    have := h.2.2
    simp only [uLts, uLt, Bool.and_true, Bool.and_eq_true, true_and] at this ⊢
    exact this
  · cases h
/-! ### menus -/
def pcs : List U := [.tup [], .tup [.str "L"], .tup [.str "x", .str "R"], .tup [.str "L", .str "y", .str "x", .str "R"], .tup [.str "y"], .tup [.str "R", .str "x", .str "L"]]
section
variable {p c : Nat}
theorem piece_ok {k : Nat} {μ : Store} (s : Src μ p c) : ∃ v μ', evF fdF (k + 3) 25 [.loc p] μ = .ok v μ' ∧ v ∈ pcs ∧ Src μ' p c ∧ Gro p c μ μ' := by
  obtain ⟨v, μ1, h1, h2, h3, h4⟩ := v_of (k := k) f17 f18 (ρ := [some (.loc p)]) (μ := μ) (e := .var 0) (es := .lst [(.tup []), (.tup [(.cst (.str "L"))]), (.tup [(.cst (.str "x")), (.cst (.str "R"))]), (.tup [(.cst (.str "L")), (.cst (.str "y")), (.cst (.str "x")), (.cst (.str "R"))]), (.tup [(.cst (.str "y"))]), (.tup [(.cst (.str "R")), (.cst (.str "x")), (.cst (.str "L"))])]) (xs := pcs) (v_var rfl) rfl s Gro.refl (by decide) (by decide) (uLts_le (Nat.zero_le _) (by decide))
  obtain ⟨e1, e2, e3⟩ := evF_src (us := [.loc p]) (fd := d25) (f := 25) rfl rfl rfl (exs_one h1) s h3 h4 (uLt_le (Nat.zero_le _) (uLts_mem (xs := pcs) (by decide) h2))
  exact ⟨v, _, e1, h2, e2, e3⟩
end
/-! a call without cells that answers a list just made -/
theorem evF_mk {k f : Nat} {us xs : List U} (hu : uLts 0 us = true) (hx : uLts 0 xs = true) (h : evF fdF k f us [] = .ok (.loc 0) [.lst xs]) (μ : Store) : evF fdF k f us μ = .ok (.loc μ.length) (μ ++ [.lst xs]) := by
  have := shk k f us μ []
  rw [h, shs_cl μ.length hu, shM_nil] at this
  simpa [shM, shR, sh, shC, shs_cl μ.length hx] using this
def lstRes (r : Res U) : Option (List U) := match r with
  | .ok (.loc 0) [.lst xs] => some xs
  | _ => none
theorem lstRes_eq {r : Res U} {xs : List U} (h : lstRes r = some xs) : r = .ok (.loc 0) [.lst xs] := by
  unfold lstRes at h
  split at h
  · cases h; rfl
  · cases h
def tabs : List U := (lstRes (evF fdF 13 26 [] [])).getD []
theorem tabs_ok : evF fdF 13 26 [] [] = .ok (.loc 0) [.lst tabs] := by
  refine lstRes_eq ?_
  unfold tabs
  have : (lstRes (evF fdF 13 26 [] [])).isSome = true := by decide +kernel
  rw [Option.isSome_iff_exists] at this
  obtain ⟨xs, h⟩ := this
  rw [h]; rfl
theorem tabs_cl : uLts 0 tabs = true ∧ tabs.length = 6 := by decide +kernel
def rest27 : List Ss := d27.body.drop 1
def askT : U := .tup [.str "table", .str "p"]
def chkT (t : U) : Bool := match exs (evF fdF 13) rest27 [none, none, none, some t, some (.loc 0), none, none, none, none] [.lst []] with
  | .ok (.rt (.tup [t', s])) _ => decide (t' = t) && gdB askT t s
  | _ => false
theorem chkT_all : tabs.all chkT = true := by decide +kernel
theorem chkT_eq {t : U} (h : chkT t = true) : ∃ s l, exs (evF fdF 13) rest27 [none, none, none, some t, some (.loc 0), none, none, none, none] [.lst []] = .ok (.rt (.tup [t, s])) l ∧ Good askT t s := by
  unfold chkT at h
  split at h
  · rename_i t' s l hr
    simp only [Bool.and_eq_true, decide_eq_true_eq] at h
    obtain ⟨rfl, h⟩ := h
    exact ⟨s, l, hr, good_of h⟩
  · cases h
theorem Good.cl {a v t : U} (h : Good a v t) : uLt 0 v = true ∧ uLt 0 t = true ∧ uLt 0 a = true := by
  obtain ⟨s, rfl, _, _, h⟩ := h
  simp only [uLts, Bool.and_true, Bool.and_eq_true] at h
  exact ⟨h.2, rfl, h.1⟩
theorem table_ok {p c : Nat} {μ : Store} (s : Src μ p c) : ∃ v μ', evF fdF 14 27 [.loc p] μ = .ok v μ' ∧ (∃ t x, v = .tup [t, x] ∧ Good askT t x) ∧ Src μ' p c ∧ Gro p c μ μ' := by
  have hp := s.lt1
  have hc := s.lt2
  obtain ⟨t, μ1, h1, h2, h3, h4⟩ := of_ok (k := 11) f17 f18 (s.app (l := [.lst tabs])) (n := μ.length) (xs := tabs) at_new (by omega) (by omega) (by rw [tabs_cl.2]; decide) (by rw [tabs_cl.2]; decide) (uLts_le (Nat.zero_le _) tabs_cl.1)
  obtain ⟨x, l, q1, q2⟩ := chkT_eq (List.all_eq_true.mp chkT_all t h2)
  have ht : uLt 0 t = true := uLts_mem tabs_cl.1 h2
  have hb : exs (evF fdF 13) d27.body [some (.loc p), none, none, none, none, none, none, none, none] μ = .ok (.rt (.tup [t, x])) (shM μ1 l) := by
    have e1 : evs (vbs (evF fdF 13) [.call 18 [.var 0, .call 26 []], .lst []]) [some (.loc p), none, none, none, none, none, none, none, none] μ = .ok [t, .loc μ1.length] (μ1 ++ [.lst []]) :=
      evs_u (v_call (evs_u (v_var rfl) (evs_u (v_call evs_nil (evF_mk rfl tabs_cl.1 tabs_ok μ)) evs_nil)) h1) (evs_l (v_lst evs_nil (by decide)) evs_nil)
    refine (exs_cons (ex_par2 e1 rfl)).trans ?_
    have := exs_anyR (shk 13) (ss := rest27) (by decide +kernel) q1 (by simp only [uLt, uLts, ht, q2.cl.2.1]; rfl) μ1 (ρ := [some (.loc p), none, none, some t, some (.loc μ1.length), none, none, none, none])
      (.skip (.skip (.skip (.same (sh_cl _ ht) (.same rfl (.skip (.skip (.skip (.skip .nil)))))))))
    exact this
  have g : Gro p c μ (shM μ1 l) := (Gro.app.trans h4).trans Gro.app
  obtain ⟨e1, e2, e3⟩ := evF_src (us := [.loc p]) (fd := d27) (f := 27) rfl rfl rfl hb s h3.app g (uLt_le (Nat.zero_le _) (by simp only [uLt, uLts, ht, q2.cl.2.1]; rfl))
  exact ⟨_, _, e1, ⟨t, x, rfl, q2⟩, e2, e3⟩
end K56
end
section
set_option linter.all false
set_option maxRecDepth 100000
namespace K56
open PySem L2 DP
/-! lots -/
def lots4 : List U := [.tup [.tup [.bl true], .tup [.tup [.int 0, .int 0]]], .tup [.tup [.bl true, .bl false], .tup [.tup [.int 1, .int 1], .tup [.int 1, .int 1]]], .tup [.tup [.bl false, .bl true], .tup [.tup [.int 1], .tup [.int 0]]], .tup [.tup [.bl false], .tup [.tup [.int 0]]]]
def lot5 : U := .tup [.tup [.bl false, .bl false, .bl false, .bl true], .tup [.tup [.int 1, .int 2], .tup [.int 2, .int 3], .tup [.int 2, .int 2], .tup [.int 2, .int 2]]]
def lots : List U := lots4 ++ [lot5]
def rest28 : List Ss := d28.body.drop 2
def askD : U := .tup [.str "domain", .str "p"]
def askS : U := .tup [.str "silent", .str "p"]
def askF : U := .tup [.str "from", .str "p", .tup [.str "x"]]
def chkL (t : U) : Bool := match t with
  | .tup [y, st] => match exs (evF fdF 13) rest28 [none, none, none, some y, some st, none] [] with
    | .ok (.rt (.tup [.tup [y', st'], s])) _ => decide (y' = y) && (decide (st' = st) && (gdB askD t s && (gdB askS t s && gdB askF t s)))
    | _ => false
  | _ => false
theorem chkL_all : lots.all chkL = true := by decide +kernel
theorem chkL_eq {t : U} (h : chkL t = true) : ∃ y st s l, t = .tup [y, st] ∧ exs (evF fdF 13) rest28 [none, none, none, some y, some st, none] [] = .ok (.rt (.tup [t, s])) l ∧ Good askD t s ∧ Good askS t s ∧ Good askF t s := by
  unfold chkL at h
  split at h
  · rename_i y st
    split at h
    · rename_i y' st' s l hr
      simp only [Bool.and_eq_true, decide_eq_true_eq] at h
      obtain ⟨rfl, rfl, h1, h2, h3⟩ := h
      exact ⟨_, _, s, l, rfl, hr, good_of h1, good_of h2, good_of h3⟩
    · cases h
  · cases h
theorem lot_ok {p c : Nat} {μ : Store} (s : Src μ p c) : ∃ v μ', evF fdF 14 28 [.loc p] μ = .ok v μ' ∧ (∃ t x, v = .tup [t, x] ∧ Good askD t x ∧ Good askS t x ∧ Good askF t x) ∧ Src μ' p c ∧ Gro p c μ μ' := by
  have hp := s.lt1
  have hc := s.lt2
  have hsum : ∀ μ' : Store, addT (.u (.loc μ.length)) (.l [lot5]) (μ ++ [.lst lots4]) = some (.l lots) := fun _ => by
    simp only [addT, T.lstM, at_new]; rfl
  have hsm : (vb (evF fdF 13) (.bin .Add (.var 1) (.lst [(.tup [(.tup [(.cst (.bl false)), (.cst (.bl false)), (.cst (.bl false)), (.cst (.bl true))]), (.tup [(.tup [(.cst (.int 1)), (.cst (.int 2))]), (.tup [(.cst (.int 2)), (.cst (.int 3))]), (.tup [(.cst (.int 2)), (.cst (.int 2))]), (.tup [(.cst (.int 2)), (.cst (.int 2))])])])]))).v [some (.loc p), some (.loc μ.length), none, none, none, none] (μ ++ [.lst lots4]) = .ok (.l lots) (μ ++ [.lst lots4]) := by
    refine v_bin (x := .u (.loc μ.length)) (y := .l [lot5]) (μ1 := μ ++ [.lst lots4]) (v_var rfl) ?_ ?_
    · rfl
    · exact hsum μ
  obtain ⟨t, μ1, h1, h2, h3, h4⟩ := v_of (k := 11) f17 f18 (e := .var 0) (v_var rfl) hsm s.app Gro.refl (by decide) (by decide) (uLts_le (Nat.zero_le _) (by decide))
  obtain ⟨y, st, x, l, rfl, q1, q2, q3, q4⟩ := chkL_eq (List.all_eq_true.mp chkL_all t h2)
  have cl := q2.cl.1
  have cl2 := cl
  simp only [uLt, uLts, Bool.and_true, Bool.and_eq_true] at cl2
  have hb : exs (evF fdF 13) d28.body [some (.loc p), none, none, none, none, none] μ = .ok (.rt (.tup [.tup [y, st], x])) (shM μ1 l) := by
    refine (exs_cons (ex_asgL (xs := lots4) rfl (by simp))).trans ?_
    refine (exs_cons (ex_asgT (ρ' := [some (.loc p), some (.loc μ.length), none, some y, some st, none]) h1 rfl)).trans ?_
    have := exs_anyR (shk 13) (ss := rest28) (by decide +kernel) q1 (by simp only [uLt, uLts, cl2.1, cl2.2, q2.cl.2.1]; rfl) μ1 (ρ := [some (.loc p), some (.loc μ.length), none, some y, some st, none])
      (.skip (.skip (.skip (.same (sh_cl _ cl2.1) (.same (sh_cl _ cl2.2) (.skip .nil))))))
    rw [shM_nil] at this
    exact this
  have g : Gro p c μ (shM μ1 l) := (Gro.app.trans h4).trans Gro.app
  obtain ⟨e1, e2, e3⟩ := evF_src (us := [.loc p]) (fd := d28) (f := 28) rfl rfl rfl hb s h3.app g (uLt_le (Nat.zero_le _) (by simp only [uLt, uLts, cl2.1, cl2.2, q2.cl.2.1]; rfl))
  exact ⟨_, _, e1, ⟨_, x, rfl, q2, q3, q4⟩, e2, e3⟩
/-! misfits -/
def askW : U := .tup [.str "fits", .str "w"]
def mis1 : List U := [.tup [.str "first", .int 1], .tup [.str "last", .int 0], .tup [.str "inner", .int 0, .int 1, .int 2]]
def mis2 : List U := [.tup [.tup [.str "inner", .int 0, .int 0, .int 0], .tup [.str "last", .int 1], .tup [.str "L"], .tup []], .tup [.tup [.str "first", .int 1], .tup [.str "inner", .int 0, .int 0, .int 0], .non, .tup [.str "R"]]]
def mis3 : List U := [.tup [.tup [.str "first", .int 0], .tup [.str "last", .int 0], .tup [.str "L"], .tup [.str "L", .str "R"]], .tup [.tup [.str "inner", .int 1, .int 0, .int 1], .tup [.str "inner", .int 2, .int 1, .int 1], .tup [], .non]]
def chkM1 (t : U) : Bool := match exs (evF fdF 13) [(.ret (.tup [(.tup [(.cst (.str "piece")), (.var 5)]), (.bin .Add (.cst (.str "no: piece ")) (.call 24 [(.var 5)]))]))] [none, none, none, none, none, some t, none, none, none] [] with
  | .ok (.rt (.tup [m, s])) _ => gdB askW m s
  | _ => false
theorem chkM1_all : mis1.all chkM1 = true := by decide +kernel
theorem chkM1_eq {t : U} (h : chkM1 t = true) : ∃ m s l, exs (evF fdF 13) [(.ret (.tup [(.tup [(.cst (.str "piece")), (.var 5)]), (.bin .Add (.cst (.str "no: piece ")) (.call 24 [(.var 5)]))]))] [none, none, none, none, none, some t, none, none, none] [] = .ok (.rt (.tup [m, s])) l ∧ Good askW m s := by
  unfold chkM1 at h
  split at h
  · rename_i m s l hr
    exact ⟨m, s, l, hr, good_of h⟩
  · cases h
def rest29 : List Ss := d29.body.drop 6
def chkM2 (t : U) : Bool := match t with
  | .tup [a, b, e, g] => match exs (evF fdF 13) rest29 [none, none, none, none, none, some a, some b, some e, some g] [] with
    | .ok (.rt (.tup [m, s])) _ => uLt 0 t && gdB askW m s
    | _ => false
  | _ => false
theorem chkM2_all : (mis2 ++ mis3).all chkM2 = true := by decide +kernel
theorem chkM2_eq {t : U} (h : chkM2 t = true) : ∃ a b e g m s l, t = .tup [a, b, e, g] ∧ exs (evF fdF 13) rest29 [none, none, none, none, none, some a, some b, some e, some g] [] = .ok (.rt (.tup [m, s])) l ∧ uLt 0 t = true ∧ Good askW m s := by
  unfold chkM2 at h
  split at h
  · rename_i a b e g
    split at h
    · rename_i m s l hr
      simp only [Bool.and_eq_true] at h
      exact ⟨a, b, e, g, m, s, l, rfl, hr, h.1, good_of h.2⟩
    · cases h
  · cases h
theorem mis0 : Good askW .non (.str "yes") := good_of (by decide +kernel)
theorem misfit_ok {p c : Nat} {μ : Store} (s : Src μ p c) : ∃ v μ', evF fdF 14 29 [.loc p] μ = .ok v μ' ∧ (∃ t x, v = .tup [t, x] ∧ Good askW t x) ∧ Src μ' p c ∧ Gro p c μ μ' := by
  have hp := s.lt1
  have hc := s.lt2
  obtain ⟨r, μ1, h1, r0, r3, h3, h4⟩ := v_pick (pk := 17) (k := 12) f17 (ρ := [some (.loc p), none, none, none, none, none, none, none, none]) (μ := μ) (e := .var 0) (a := .cst (.int 3)) (v_var rfl) v_cst s Gro.refl (by decide) (by decide)
  have first : ∀ {X : Res Fl}, exs (evF fdF 13) (d29.body.drop 1) [some (.loc p), some (.int r), none, none, none, none, none, none, none] μ1 = X → exs (evF fdF 13) d29.body [some (.loc p), none, none, none, none, none, none, none, none] μ = X := fun {X} hX => (exs_cons (ex_asg h1 (by simp))).trans hX
  have key : ∃ m x μ2, exs (evF fdF 13) d29.body [some (.loc p), none, none, none, none, none, none, none, none] μ = .ok (.rt (.tup [m, x])) μ2 ∧ Good askW m x ∧ Src μ2 p c ∧ Gro p c μ μ2 := by
    rcases (show r = 0 ∨ r = 1 ∨ r = 2 by omega) with rfl | rfl | rfl
    · exact ⟨.non, .str "yes", μ1, first (exs_ifs_t (b_cmp (v_var rfl) v_cst rfl) (exs_one rfl)), mis0, h3, h4⟩
    · obtain ⟨t, μ2, q1, q2, q3, q4⟩ := v_of (k := 11) f17 f18 (ρ := [some (.loc p), some (.int 1), none, none, none, none, none, none, none]) (μ := μ1) (e := .var 0) (es := .lst [(.tup [(.cst (.str "first")), (.cst (.int 1))]), (.tup [(.cst (.str "last")), (.cst (.int 0))]), (.tup [(.cst (.str "inner")), (.cst (.int 0)), (.cst (.int 1)), (.cst (.int 2))])]) (xs := mis1) (v_var rfl) rfl h3 Gro.refl (by decide) (by decide) (uLts_le (Nat.zero_le _) (by decide))
      obtain ⟨m, x, l, g1, g2⟩ := chkM1_eq (List.all_eq_true.mp chkM1_all t q2)
      have ht : uLt 0 t = true := uLts_mem (by decide) q2
      refine ⟨m, x, shM μ2 l, first ?_, g2, q3.app, (h4.trans q4).trans Gro.app⟩
      refine (exs_ifs_f (b_cmp (v_var rfl) v_cst rfl)).trans (exs_ifs_t (b_cmp (v_var rfl) v_cst rfl) ?_)
      refine (exs_cons (ex_asg q1 (by simp))).trans ?_
      have := exs_anyR (shk 13) (by decide +kernel) g1 (by simp only [uLt, uLts, g2.cl.1, g2.cl.2.1]; rfl) μ2 (ρ := [some (.loc p), some (.int 1), none, none, none, some t, none, none, none])
        (.skip (.skip (.skip (.skip (.skip (.same (sh_cl _ ht) (.skip (.skip (.skip .nil)))))))))
      rw [shM_nil] at this
      exact this
    · have e2 : exs (evF fdF 13) (d29.body.drop 1) [some (.loc p), some (.int 2), none, none, none, none, none, none, none] μ1 = exs (evF fdF 13) (d29.body.drop 5) [some (.loc p), some (.int 2), some (.loc (μ1.length + 1)), none, none, none, none, none, none] (μ1 ++ [.lst mis2] ++ [.lst (mis2 ++ mis3)]) := by
        refine (exs_ifs_f (b_cmp (v_var rfl) v_cst rfl)).trans ((exs_ifs_f (b_cmp (v_var rfl) v_cst rfl)).trans ?_)
        refine (exs_cons (ex_asgL (xs := mis2) rfl (by simp))).trans ?_
        have hs : (vb (evF fdF 13) (.bin .Add (.var 2) (.lst [(.tup [(.tup [(.cst (.str "first")), (.cst (.int 0))]), (.tup [(.cst (.str "last")), (.cst (.int 0))]), (.tup [(.cst (.str "L"))]), (.tup [(.cst (.str "L")), (.cst (.str "R"))])]), (.tup [(.tup [(.cst (.str "inner")), (.cst (.int 1)), (.cst (.int 0)), (.cst (.int 1))]), (.tup [(.cst (.str "inner")), (.cst (.int 2)), (.cst (.int 1)), (.cst (.int 1))]), (.tup []), (.cst .non)])]))).v [some (.loc p), some (.int 2), some (.loc μ1.length), none, none, none, none, none, none] (μ1 ++ [.lst mis2]) = .ok (.l (mis2 ++ mis3)) (μ1 ++ [.lst mis2]) := by
          refine v_bin (x := .u (.loc μ1.length)) (y := .l mis3) (μ1 := μ1 ++ [.lst mis2]) (v_var rfl) ?_ ?_
          · rfl
          · show addT (.u (.loc μ1.length)) (.l mis3) (μ1 ++ [.lst mis2]) = _
            simp only [addT, T.lstM, at_new]; rfl
        refine (exs_cons (ex_asgL hs (by simp))).trans ?_
        rw [len_app]; rfl
      have s2 : Src (μ1 ++ [.lst mis2] ++ [.lst (mis2 ++ mis3)]) p c := h3.app.app
      have hp1 := h3.lt1
      have hc1 := h3.lt2
      obtain ⟨t, μ2, q1, q2, q3, q4⟩ := of_ok (k := 11) f17 f18 s2 (n := μ1.length + 1) (xs := mis2 ++ mis3) (by simp) (by omega) (by omega) (by decide) (by decide) (uLts_le (Nat.zero_le _) (by decide))
      obtain ⟨a, b, e, g, m, x, l, rfl, g1, cl, g2⟩ := chkM2_eq (List.all_eq_true.mp chkM2_all t q2)
      simp only [uLt, uLts, Bool.and_true, Bool.and_eq_true] at cl
      refine ⟨m, x, shM μ2 l, first (e2.trans ?_), g2, q3.app, ((h4.trans (Gro.app.trans Gro.app)).trans q4).trans Gro.app⟩
      refine (exs_cons (ex_asgT (ρ' := [some (.loc p), some (.int 2), some (.loc (μ1.length + 1)), none, none, some a, some b, some e, some g]) (v_call (evs_u (v_var rfl) (evs_u (v_var rfl) evs_nil)) q1) rfl)).trans ?_
      have := exs_anyR (shk 13) (ss := rest29) (by decide +kernel) g1 (by simp only [uLt, uLts, g2.cl.1, g2.cl.2.1]; rfl) μ2 (ρ := [some (.loc p), some (.int 2), some (.loc (μ1.length + 1)), none, none, some a, some b, some e, some g])
        (.skip (.skip (.skip (.skip (.skip (.same (sh_cl _ cl.1) (.same (sh_cl _ cl.2.1) (.same (sh_cl _ cl.2.2.1) (.same (sh_cl _ cl.2.2.2) .nil)))))))))
      rw [shM_nil] at this
      exact this
  obtain ⟨m, x, μ2, hb, hg, s2, g2⟩ := key
  obtain ⟨e1, e2, e3⟩ := evF_src (us := [.loc p]) (fd := d29) (f := 29) rfl rfl rfl hb s s2 g2 (uLt_le (Nat.zero_le _) (by simp only [uLt, uLts, hg.cl.1, hg.cl.2.1]; rfl))
  exact ⟨_, _, e1, ⟨m, x, rfl, hg⟩, e2, e3⟩
end K56
end
section
set_option linter.all false
set_option maxRecDepth 100000
namespace K56
open PySem L2 DP
theorem sm_foldl {n : Nat} {z : Str} {k : Nat} (hz : Sm k z) : ∀ (ss : List Str) (a : Str) (m : Nat), (∀ s ∈ ss, Sm n s) → Sm m a → Sm (m + ss.length * (k + n)) (ss.foldl (glue1 z) a)
  | [], a, m, _, h => by simpa using h
  | s :: ss, a, m, hs, h => by
    rw [List.foldl_cons]
    have := sm_foldl hz ss (glue1 z a s) (m + k + n) (fun t ht => hs t (List.mem_cons_of_mem _ ht)) ((h.app hz).app (hs s List.mem_cons_self))
    refine this.le ?_
    rw [List.length_cons, Nat.succ_mul]; omega
theorem Sm.join {n k : Nat} {z : Str} (hz : Sm k z) {ss : List Str} (h : ∀ s ∈ ss, Sm n s) : Sm (n + ss.length * (k + n)) (Txt.join z ss) := by
  cases ss with
  | nil => exact (show Sm 0 (Txt.join z []) from ⟨Nat.zero_le _, fun c hc => by simp [Txt.join, Builtin.Str.glued] at hc; exact absurd hc (by simp [Str.empty])⟩).le (Nat.zero_le _)
  | cons s ss =>
    rw [glued_eq]
    exact (sm_foldl hz ss s n (fun t ht => h t (List.mem_cons_of_mem _ ht)) (h s List.mem_cons_self)).le (by rw [List.length_cons, Nat.succ_mul]; omega)
theorem sum_le {n : Nat} : ∀ {ss : List Str}, (∀ s ∈ ss, s.length ≤ n) → (ss.map (·.length)).sum ≤ ss.length * n
  | [], _ => by simp
  | s :: ss, h => by
    have := sum_le (fun t ht => h t (List.mem_cons_of_mem _ ht))
    have := h s List.mem_cons_self
    simp only [List.map_cons, List.sum_cons, List.length_cons, Nat.succ_mul]; omega
theorem fit_of {n : Nat} {z : Str} {ss : List Str} (h : ∀ s ∈ ss, Sm n s) (hn : n ≤ 100) (hl : ss.length ≤ 10) (hz : z.length ≤ 2) : JoinFit z ss := by
  unfold JoinFit
  have h1 := sum_le fun s hs => (h s hs).1
  have h2 : ss.length * n ≤ 10 * 100 := Nat.mul_le_mul hl hn
  have h3 : ss.length * z.length ≤ 10 * 2 := Nat.mul_le_mul hl hz
  omega
theorem txs_strs : ∀ ss : List Str, txs (ss.map .str) = some ss
  | [] => rfl
  | s :: ss => by simp [txs, txU, txs_strs ss]
theorem num_ok : ∀ n : Nat, n < 40 → (match txU (.int (n : Int)) with | some s => smB 2 s | none => false) = true := by decide +kernel
theorem num_tx {i : Int} (h0 : 0 ≤ i) (h1 : i < 40) : ∃ s, txU (.int i) = some s ∧ Sm 2 s := by
  have := num_ok i.toNat (by omega)
  rw [show ((i.toNat : Nat) : Int) = i by omega] at this
  split at this
  · rename_i s hs; exact ⟨s, hs, sm_of this⟩
  · cases this
/-! letters with places -/
structure Pr (u : U) (t : Str) : Prop where
  ex : ∃ a i s, u = .tup [.str a, .int i] ∧ txU (.int i) = some s ∧ t = a ++ " " ++ s ∧ Sm 1 a ∧ Sm 2 s ∧ PyData.strOk a = true
theorem Pr.sm {u : U} {t : Str} (h : Pr u t) : Sm 4 t := by
  obtain ⟨a, i, s, _, _, rfl, h1, h2, _⟩ := h.ex
  exact ((h1.app (sm_of (n := 1) (by decide))).app h2).le (by omega)
theorem Pr.prS {u : U} {t : Str} (h : Pr u t) : (if prOk u then prS u else none) = some t := by
  obtain ⟨a, i, s, rfl, e, rfl, h1, h2, _⟩ := h.ex
  have ht : txs [.str a, .int i] = some [a, s] := by simp only [txs, txU] at e ⊢; rw [e]
  have hk : prOk (.tup [.str a, .int i]) = true := by
    simp only [prOk, ht, List.map_cons, List.map_nil, List.sum_cons, List.sum_nil, List.length_cons, List.length_nil]
    have := h1.1
    have := h2.1
    simp; omega
  rw [if_pos hk]
  simp only [K56.prS, ht, Option.map_some]
  rw [glued_eq]; rfl
inductive Prs : List U → List Str → Prop where
  | nil : Prs [] []
  | cons {u : U} {t : Str} {us : List U} {ts : List Str} : Pr u t → Prs us ts → Prs (u :: us) (t :: ts)
theorem Prs.mapS {us : List U} {ts : List Str} (h : Prs us ts) : mapS (fun u => if prOk u then prS u else none) us = some ts := by
  induction h with
  | nil => rfl
  | cons a _ ih => rw [K56.mapS, ih, a.prS]
theorem Prs.sm {us : List U} {ts : List Str} (h : Prs us ts) : ∀ t ∈ ts, Sm 4 t := by
  induction h with
  | nil => exact fun _ h => nomatch h
  | cons a _ ih =>
    intro t ht
    rcases List.mem_cons.mp ht with rfl | ht
    · exact a.sm
    · exact ih t ht
theorem Prs.len {us : List U} {ts : List Str} (h : Prs us ts) : ts.length = us.length := by
  induction h with
  | nil => rfl
  | cons a _ ih => simp [ih]
theorem Prs.mem {us : List U} {ts : List Str} (h : Prs us ts) : ∀ u ∈ us, ∃ t, Pr u t := by
  induction h with
  | nil => exact fun _ h => nomatch h
  | cons a _ ih =>
    intro t ht
    rcases List.mem_cons.mp ht with rfl | ht
    · exact ⟨_, a⟩
    · exact ih t ht
theorem Pr.cl {u : U} {t : Str} (h : Pr u t) : uLt 0 u = true ∧ dOk 49 u = true := by
  obtain ⟨a, i, s, rfl, _, _, _, _, q⟩ := h.ex
  exact ⟨rfl, by simp only [dOk, dOks, q]; rfl⟩
theorem uLts_of {n : Nat} : ∀ {us : List U}, (∀ u ∈ us, uLt n u = true) → uLts n us = true
  | [], _ => rfl
  | u :: us, h => by rw [uLts, h u List.mem_cons_self, uLts_of fun v hv => h v (List.mem_cons_of_mem _ hv)]; rfl
theorem dOks_of {n : Nat} : ∀ {us : List U}, (∀ u ∈ us, dOk n u = true) → dOks n us = true
  | [], _ => rfl
  | u :: us, h => by rw [dOks, h u List.mem_cons_self, dOks_of fun v hv => h v (List.mem_cons_of_mem _ hv)]; rfl
theorem Prs.dOk {us : List U} {ts : List Str} (h : Prs us ts) : DP.dOk 50 (.tup us) = true := by
  rw [DP.dOk]; exact dOks_of fun u hu => let ⟨_, q⟩ := h.mem u hu; q.cl.2
/-- the law's text of letters with places -/
theorem letters_ok {k : Nat} {μ : Store} {us : List U} {ts : List Str} (h : Prs us ts) (hl : us.length ≤ 10) : evF fdF (k + 2) 22 [.tup us] μ = .ok (.str (Txt.join ", " ts)) μ := by
  have hm : us.map (fun u => U.str ((if prOk u then prS u else none).getD Str.empty)) = ts.map U.str := (mapS_all h.mapS).2
  have e1 : (vb (evF fdF (k + 1)) (.lc [1, 2] (.bin .Add (.bin .Add (.var 1) (.cst (.str " "))) (.b1 .str (.var 2))) (.tp [(.nm 1), (.nm 2)]) (.pl (.var 0)) [])).v [some (.tup us), none, none] μ = .ok (.l (ts.map .str)) μ := by
    rw [← hm]
    refine v_lc (x := ⟨us, []⟩) (g := fun u => U.str ((if prOk u then prS u else none).getD Str.empty)) (v_var rfl) rfl rfl (fun u hu => ?_) (Nat.le_trans hl (by decide))
    obtain ⟨t, q⟩ := h.mem u hu
    rw [q.prS]
    obtain ⟨a, i, s, rfl, e, rfl, s1, s2, _⟩ := q.ex
    refine ⟨[some (.tup us), some (.str a), some (.int i)], rfl, ?_⟩
    have g1 := s1.1
    have g2 := s2.1
    have g3 : ((" " : Str)).length = 1 := by decide
    have g4 : 10 ≤ sizeLine := by decide
    exact v_adds (v_adds (v_var rfl) v_cst (by omega)) (v_str (v_var rfl) e) (by rw [str_len]; omega)
  have hsum := sum_le fun s hs => (h.sm s hs).1
  have hlen := h.len
  refine evF_eq (fd := d22) (l := [.lst (ts.map .str)]) (μ1 := μ ++ [.lst (ts.map .str)]) rfl rfl rfl (exs_one (v_call (evs_l e1 (evs_u v_cst evs_nil)) ?_)) rfl rfl
  refine joined_ok f20 (x := ⟨ts.map .str, [(μ.length, ts.map .str)]⟩) (by simp only [itmOf, at_new]) (by simp [Itm.ok]) (txs_strs ts) ?_
  have : ts.length * 4 ≤ 10 * 4 := Nat.mul_le_mul (by omega) (Nat.le_refl _)
  have g3 : ((", " : Str)).length = 2 := by decide
  have g4 : 100 ≤ sizeLine := by decide
  rw [g3]; omega
theorem good_w {r : List U} {w : Str} (hw : w = "writes" ∨ w = "hears") (hr : uLts 0 r = true) {us : List U} {ts : List Str} (h : Prs us ts) (h0 : us ≠ []) (hl : us.length ≤ 10) : Good (.tup (.str w :: r)) (.tup us) (.str (Txt.join ", " ts)) := by
  have hsm := Sm.join (z := ", ") (k := 2) (sm_of (by decide)) h.sm
  have hlen := h.len
  refine ⟨_, rfl, fun μ => ?_, hsm.repr ?_, ?_⟩
  · have h5 : evF fdF (13) 5 [.tup us] μ = .ok (.str (Txt.join ", " ts)) μ := by
      cases us with
      | nil => exact absurd rfl h0
      | cons u us => exact writing_ok (k := 11) h.mapS (fit_of h.sm (by omega) (by omega) (by decide)) h.dOk (Nat.le_trans hl (by decide))
    rcases hw with rfl | rfl
    · exact ans14 rfl rfl (told14_w rfl rfl rfl rfl h5)
    · exact ans14 rfl rfl (told14_w rfl rfl rfl rfl h5)
  · have : ts.length * (2 + 4) ≤ 10 * (2 + 4) := Nat.mul_le_mul (by omega) (Nat.le_refl _)
    omega
  · simp only [uLts, uLt, hr, uLts_of fun u hu => (let ⟨_, q⟩ := h.mem u hu; q.cl.1)]; rfl
/-! rows -/
theorem good_p {us : List U} {ss : List Str} (h : us = ss.map .str) (hs : ∀ s ∈ ss, Sm 1 s) (ho : ∀ s ∈ ss, PyData.strOk s = true) (hl : ss.length ≤ 10) {i : Int} (i0 : 0 ≤ i) (i1 : i < 40) {a t : Str} (ha : a = (if us.isEmpty then ("nothing" : Str) else Txt.join " " ss)) (ht : txU (.int i) = some t) :
    Good (.tup [.str "parts", .str "p", .str "q"]) (.tup [.tup us, .int i]) (.str (a ++ " at " ++ t)) ∧ Good (.tup [.str "crosses", .str "p"]) (.tup [.int i, .tup us]) (.str (t ++ ": " ++ a)) ∧ Sm 100 a := by
  obtain ⟨t', q1, q2⟩ := num_tx i0 i1
  rw [ht] at q1; cases q1
  have hsm : Sm 100 a := by
    rw [ha]
    split
    · exact sm_of (by decide)
    · refine (Sm.join (z := " ") (k := 1) (sm_of (by decide)) hs).le ?_
      have : ss.length * (1 + 1) ≤ 10 * (1 + 1) := Nat.mul_le_mul hl (Nat.le_refl _)
      omega
  have hrow : ∀ μ, evF fdF 13 4 [.tup us] μ = .ok (.str a) μ := fun μ => by
    rw [ha]
    refine row_ok (k := 11) (ss := ss) (by rw [h]; exact txs_strs ss) (fit_of hs (by omega) hl (by decide)) (by rw [h, List.length_map]; exact Nat.le_trans hl (by decide)) ?_
    rw [dOk]; exact dOks_of fun u hu => by
      rw [h] at hu
      obtain ⟨s, hs, rfl⟩ := List.mem_map.mp hu
      exact ho s hs
  have cl : uLts 0 us = true := uLts_of fun u hu => by
    rw [h] at hu
    obtain ⟨s, _, rfl⟩ := List.mem_map.mp hu
    rfl
  have l1 := hsm.1
  have l2 := q2.1
  have g4 : 200 ≤ sizeLine := by decide
  refine ⟨⟨_, rfl, fun μ => ?_, ((hsm.app (sm_of (n := 4) (by decide))).app q2).repr (by omega), by simp only [uLts, uLt, cl]; rfl⟩, ⟨_, rfl, fun μ => ?_, ((q2.app (sm_of (n := 2) (by decide))).app hsm).repr (by omega), by simp only [uLts, uLt, cl]; rfl⟩, hsm⟩
  · exact ansPair rfl (parts_ok (hrow μ) ht (by omega))
  · exact ansPair rfl (crosses_ok (hrow μ) ht (by omega))
end K56
end
section
set_option linter.all false
set_option maxRecDepth 100000
namespace K56
open PySem L2 DP
/-! pieces -/
def pcs7 : List U := pcs ++ [.non]
def sgR (u : U) : Option Str := match evF fdF 12 6 [u] [] with
  | .ok (.str s) [] => some s
  | _ => none
def sg (u : U) : Option Str := if pcs7.contains u then sgR u else none
def chkP (u : U) : Bool := match sgR u with
  | some s => isOk (evF fdF 12 6 [u] []) (.str s) && (isOk (evF fdF 12 21 [u] []) (.str s) && (smB 30 s && (PyData.strOk s && (uLt 0 u && (dOk 49 u && decide ((nk u).depth ≤ 8) && hk u)))))
  | none => false
theorem chkP_all : pcs7.all chkP = true := by decide +kernel
theorem chkP_eq {u : U} (h : u ∈ pcs7) : ∃ s, sg u = some s ∧ (∀ μ, evF fdF 12 6 [u] μ = .ok (.str s) μ) ∧ (∀ μ, evF fdF 12 21 [u] μ = .ok (.str s) μ) ∧ Sm 30 s ∧ PyData.strOk s = true ∧ uLt 0 u = true ∧ dOk 49 u = true ∧ hkD u = true := by
  have := List.all_eq_true.mp chkP_all u h
  unfold chkP at this
  split at this
  · rename_i s hs
    simp only [Bool.and_eq_true, decide_eq_true_eq] at this
    obtain ⟨h1, h2, h3, h4, h5, ⟨h6, h7⟩, h8⟩ := this
    refine ⟨s, ?_, isOk_any (by simp only [uLts, h5]; rfl) h1, isOk_any (by simp only [uLts, h5]; rfl) h2, sm_of h3, h4, h5, h6, ?_⟩
    · unfold sg
      rw [if_pos (by simpa [List.contains_iff_mem] using h), hs]
    · unfold hkD; rw [h8, decide_eq_true h7]; rfl
  · cases this
theorem sg_mem {u : U} {s : Str} (h : sg u = some s) : u ∈ pcs7 := by
  unfold sg at h
  split at h
  · rename_i q; simpa [List.contains_iff_mem] using q
  · cases h
theorem told6 {k : Nat} (hk : 12 ≤ k) : Told (evF fdF k) 6 sg := fun u t μ h => by
  obtain ⟨s, q1, q2, _⟩ := chkP_eq (sg_mem h)
  rw [h] at q1; cases q1
  exact evF_le (q2 μ) hk
theorem told21 {k : Nat} (hk : 12 ≤ k) : Told (evF fdF k) 21 sg := fun u t μ h => by
  obtain ⟨s, q1, _, q2, _⟩ := chkP_eq (sg_mem h)
  rw [h] at q1; cases q1
  exact evF_le (q2 μ) hk
theorem mapS_sg : ∀ {us : List U}, (∀ u ∈ us, u ∈ pcs7) → ∃ ss, mapS sg us = some ss ∧ ss.length = us.length ∧ (∀ s ∈ ss, Sm 30 s) ∧ ∀ s ∈ ss, PyData.strOk s = true
  | [], _ => ⟨[], rfl, rfl, (fun _ h => nomatch h), fun _ h => nomatch h⟩
  | u :: us, h => by
    obtain ⟨s, q1, _, _, q4, q5, _⟩ := chkP_eq (h u List.mem_cons_self)
    obtain ⟨ss, g1, g2, g3, g4⟩ := mapS_sg fun v hv => h v (List.mem_cons_of_mem _ hv)
    refine ⟨s :: ss, by rw [mapS, q1, g1], by simp [g2], ?_, ?_⟩
    · intro t ht
      rcases List.mem_cons.mp ht with rfl | ht
      · exact q4
      · exact g3 t ht
    · intro t ht
      rcases List.mem_cons.mp ht with rfl | ht
      · exact q5
      · exact g4 t ht
/-- _law_listed -/
theorem listed_ok {k n : Nat} {μ : Store} {ss : List Str} (hn : μ[n]? = some (.lst (ss.map .str))) (hl : (ss.map (·.length)).sum + ss.length * 2 ≤ sizeLine) (ho : ∀ s ∈ ss, PyData.strOk s = true) : evF fdF (k + 2) 23 [.loc n] μ = .ok (.str (listed ", " ss)) μ := by
  have hb : (vb (evF fdF (k + 1)) (.cmp .NotEq (.var 0) (.lst []))).b [some (.loc n)] μ = .ok (!(ss.map U.str).isEmpty) μ := by
    refine b_cmp (v_var rfl) (v_lst evs_nil (by decide)) ?_
    show neT (.u (.loc n)) (.l []) μ = _
    have q1 : (T.u (.loc n)).q μ = some (.l (ss.map .str)) := by
      show (match (T.u (.loc n)).lstOf μ with | some us => if dOks 50 us then some (QT.l us) else none | none => _) = _
      simp only [T.lstOf, hn]
      rw [if_pos (dOks_of fun u hu => by obtain ⟨s, hs, rfl⟩ := List.mem_map.mp hu; exact ho s hs)]
    show (match (T.u (.loc n)).q μ, (T.l []).q μ with | some a, some b => some (!eqQ a b) | _, _ => none) = _
    rw [q1]
    show some (!eqUs (ss.map .str) []) = _
    rw [eqUs_nil]
  refine evF_eq (fd := d23) (l := []) (μ1 := μ) rfl rfl rfl (exs_one (v_ite hb ?_)) (by simp) rfl
  cases ss with
  | nil => rfl
  | cons s ss =>
    refine v_call (evs_u (v_var rfl) (evs_u v_cst evs_nil)) ?_
    exact joined_ok f20 (x := ⟨(s :: ss).map .str, [(n, (s :: ss).map .str)]⟩) (by simp only [itmOf, hn]) (by simp [Itm.ok, hn]) (txs_strs _) hl
theorem good_at {us : List U} (h : ∀ u ∈ us, u ∈ pcs7) (hl : us.length ≤ 10) {ss : List Str} (hs : mapS sg us = some ss) : Good (.tup [.str "at", .str "p", .str "a"]) (.tup us) (.str (listed ", " ss)) := by
  obtain ⟨ss', q1, q2, q3, q4⟩ := mapS_sg h
  rw [hs] at q1; cases q1
  have cl : uLts 0 us = true := uLts_of fun u hu => let ⟨_, _, _, _, _, _, q, _⟩ := chkP_eq (h u hu); q
  refine ⟨_, rfl, fun μ => ansAt (pieces_ok (told6 (k := 13) (by omega)) (told6 (by omega)) hs (fit_of q3 (by omega) (by omega) (by decide)) (Nat.le_trans hl (by decide)) ⟨12, rfl⟩), ?_, by simp only [uLts, uLt, cl]; rfl⟩
  unfold listed
  split
  · refine (Sm.join (z := ", ") (k := 2) (sm_of (by decide)) q3).repr ?_
    have : ss.length * (2 + 30) ≤ 10 * (2 + 30) := Nat.mul_le_mul (by omega) (Nat.le_refl _)
    omega
  · exact (sm_of (n := 10) (by decide)).repr (by omega)
/-- the keys of dict([(one, 0) for one in some]) -/
theorem dPut_keys {kvs : List (U × U)} {k v : U} : ∀ x ∈ (dPut kvs k v).map (·.1), x ∈ kvs.map (·.1) ∨ x = k := by
  intro x hx
  unfold dPut at hx
  split at hx
  · rw [List.map_map] at hx
    obtain ⟨q, hq, rfl⟩ := List.mem_map.mp hx
    refine .inl (List.mem_map.mpr ⟨q, hq, ?_⟩)
    simp only [Function.comp]; split <;> rfl
  · rw [List.map_append] at hx
    rcases List.mem_append.mp hx with h | h
    · exact .inl h
    · exact .inr (by simpa using h)
theorem dPut_len {kvs : List (U × U)} {k v : U} : (dPut kvs k v).length ≤ kvs.length + 1 := by
  unfold dPut
  split
  · simp
  · simp
theorem dOfs_keys : ∀ (us : List U) (acc : List (U × U)), (∀ u ∈ us, hkD u = true) → ∃ kvs, dOfs (us.map fun u => .tup [u, .int 0]) acc = some kvs ∧ kvs.length ≤ acc.length + us.length ∧ ∀ x ∈ kvs.map (·.1), x ∈ acc.map (·.1) ∨ x ∈ us
  | [], acc, _ => ⟨acc, rfl, by simp, fun x hx => .inl hx⟩
  | u :: us, acc, h => by
    obtain ⟨kvs, h1, h2, h3⟩ := dOfs_keys us (dPut acc u (.int 0)) fun v hv => h v (List.mem_cons_of_mem _ hv)
    refine ⟨kvs, ?_, ?_, fun x hx => ?_⟩
    · rw [List.map_cons, dOfs, if_pos (h u List.mem_cons_self)]; exact h1
    · have := @dPut_len acc u (.int 0)
      rw [List.length_cons]; omega
    · rcases h3 x hx with q | q
      · rcases dPut_keys x q with q | rfl
        · exact .inl q
        · exact .inr List.mem_cons_self
      · exact .inr (List.mem_cons_of_mem _ q)
/-! ### the asks -/
def askP (w : Str) : U := .tup [.str w, .str "p"]
def asks : List U := [.tup [.str "writes", .str "p", .str "r"], .tup [.str "hears", .str "t"], .tup [.str "piece", .str "p", .str "r", .int 1], .tup [.str "at", .str "p", .str "a"], .tup [.str "blocks", .str "p", .str "r", .int 1], askT, askW, askD, askS, askF,
  .tup [.str "alike", .str "p", .str "q"], .tup [.str "kept", .str "k"], .tup [.str "once", .str "p"], .tup [.str "left", .str "p", .str "r"], .tup [.str "right", .str "p", .str "r"], .tup [.str "stores", .str "p"], .tup [.str "where", .str "t"],
  .tup [.str "goes", .str "p", .str "r"], .tup [.str "many", .str "p"], .tup [.str "crossed", .str "p", .str "r"], .tup [.str "sequence", .str "p"], .tup [.str "parts", .str "p", .str "q"], .tup [.str "crosses", .str "p"], .tup [.str "again", .str "p"]]
def GoodT (t : U) : Prop := ∃ a v s, t = .tup [a, v, s] ∧ Good a v s ∧ a ∈ asks
theorem GoodT.cl {t : U} (h : GoodT t) : uLt 0 t = true := by
  obtain ⟨a, v, s, rfl, g, _⟩ := h
  obtain ⟨h1, h2, h3⟩ := g.cl
  simp only [uLt, uLts, h1, h2, h3]; rfl
structure J (p c : Nat) (μ0 : Store) (f n : Nat) (μ : Store) : Prop where
  src : Src μ p c
  gro : Gro p c μ0 μ
  far : μ0.length ≤ f
  ex : ∃ ts, μ[f]? = some (.lst ts) ∧ ts.length ≤ n ∧ ∀ t ∈ ts, GoodT t
def Fin (p c : Nat) (μ0 : Store) (r : Res Fl) : Prop := ∃ n xs μ', r = .ok (.rt (.loc n)) μ' ∧ Src μ' p c ∧ Gro p c μ0 μ' ∧ μ0.length ≤ n ∧ μ'[n]? = some (.lst xs) ∧ xs.length ≤ 1000 ∧ ∀ t ∈ xs, GoodT t
section
variable {p c : Nat} {μ0 μ μ1 μ2 : Store} {C : Calls} {ρ ρ1 : Ev} {f n : Nat}
theorem fin_cons {s : Ss} {ss : List Ss} (h : ex C s ρ μ = .ok (.nx ρ1) μ1) (g : Fin p c μ0 (exs C ss ρ1 μ1)) : Fin p c μ0 (exs C (s :: ss) ρ μ) := by rw [exs_cons h]; exact g
theorem J.mov (h : J p c μ0 f n μ) (hp : p < μ0.length) (hc : c < μ0.length) (s : Src μ1 p c) (g : Gro p c μ μ1) : J p c μ0 f n μ1 := by
  obtain ⟨ts, h1, h2, h3⟩ := h.ex
  have := h.far
  exact ⟨s, h.gro.trans g, h.far, ts, g.keep h1 (by omega) (by omega), h2, h3⟩
theorem J.appl (h : J p c μ0 f n μ) (l : Store) : J p c μ0 f n (μ ++ l) := by
  obtain ⟨ts, h1, h2, h3⟩ := h.ex
  exact ⟨h.src.app, h.gro.trans Gro.app, h.far, ts, by rw [List.getElem?_append_left (List.getElem?_eq_some_iff.mp h1).1]; exact h1, h2, h3⟩
theorem j_append {e : Sx} {t : U} (hj : J p c μ0 f n μ) (hp : p < μ0.length) (hc : c < μ0.length) (h4 : ρ[4]? = some (some (.loc f))) (he : (vb C e).v ρ μ = .ok (.u t) μ2) (s : Src μ2 p c) (g : Gro p c μ μ2) (gt : GoodT t) (hn : n < 1000) :
    ∃ μ3, ex C (.ex (.mt .append (.var 4) [e])) ρ μ = .ok (.nx ρ) μ3 ∧ J p c μ0 f (n + 1) μ3 ∧ μ3.length = μ2.length ∧ ∀ i, i ≠ f → μ3[i]? = μ2[i]? := by
  have hj2 := hj.mov hp hc s g
  obtain ⟨ts, h1, h2, h3⟩ := hj2.ex
  obtain ⟨ts', h1', _⟩ := hj.ex
  have far := hj.far
  have e1 : ts' = ts := by
    have := g.keep h1' (by omega) (by omega)
    rw [h1] at this
    cases this; rfl
  subst e1
  have hz : 1000 ≤ sizeLine := by decide
  refine ⟨_, ex_ex (v_append (v_var h4) he h1' h1 (by omega)), ⟨s.set (by omega) (by omega), (hj2.gro).set far, far, ts' ++ [t], set_at h1, by simp; omega, ?_⟩, by simp, fun i hi => by rw [List.getElem?_set, if_neg (Ne.symm hi)]⟩
  intro x hx
  rcases List.mem_append.mp hx with q | q
  · exact h3 x q
  · rw [List.mem_singleton.mp q]; exact gt
theorem forL_cons {tg : Tg} {x : Itm} {body : Ev → Store → Res Fl} {u : U} {us : List U} {ρ ρ1 ρ2 : Ev} (hx : x.ok μ = true) (ha : asgT tg u μ ρ = some ρ1) (hb : body ρ1 μ = .ok (.nx ρ2) μ2) : forL tg x body (u :: us) ρ μ = forL tg x body us ρ2 μ2 := by
  rw [forL, if_pos hx, ha]
  dsimp only
  rw [hb]; rfl
theorem forL_nil {tg : Tg} {x : Itm} {body : Ev → Store → Res Fl} {ρ : Ev} (hx : x.ok μ = true) : forL tg x body [] ρ μ = .ok (.nx ρ) μ := by
  rw [forL, if_pos hx]
theorem ex_for {tg : Tg} {e : Sx} {b : List Ss} {x : Itm} {t : T} (h : (vb C e).v ρ μ = .ok t μ1) (hi : itmOf t μ1 = some x) : ex C (.for' tg (.pl e) b) ρ μ = forL tg x (exs C b) x.us ρ μ1 := by
  rw [ex]
  simp only [evI, h, Res.bind, hi, Res.bindS]
end
end K56
end
section
set_option linter.all false
set_option maxRecDepth 100000
namespace K56
open PySem L2 DP
section
variable {p c : Nat} {μ : Store} {ρ : Ev}
theorem rg_len {n : Nat} {lo : Int} : (rgU lo n).length = n := by simp [rgU]
/-- S0: pairs -/
def e0 : Sx := .b1 .tuple (.lc [23] (.tup [(.call 18 [(.var 0), (.lst [(.cst (.str "x")), (.cst (.str "y"))])]), (.call 17 [(.var 0), (.cst (.int 5))])]) (.nm 23) (.rg1 (.bin .Add (.cst (.int 1)) (.call 17 [(.var 0), (.cst (.int 3))]))) [])
theorem prs_of : ∀ {us : List U}, (∀ u ∈ us, ∃ t, Pr u t) → ∃ ts, Prs us ts
  | [], _ => ⟨[], .nil⟩
  | u :: us, h => by
    obtain ⟨t, q⟩ := h u List.mem_cons_self
    obtain ⟨ts, g⟩ := prs_of fun v hv => h v (List.mem_cons_of_mem _ hv)
    exact ⟨t :: ts, .cons q g⟩
theorem s0 (h0 : ρ[0]? = some (some (.loc p))) (hl : ρ.length = 26) (s : Src μ p c) : ∃ us ts μ1, (vb (evF fdF 14) e0).v ρ μ = .ok (.u (.tup us)) μ1 ∧ Prs us ts ∧ us ≠ [] ∧ us.length ≤ 3 ∧ Src μ1 p c ∧ Gro p c μ μ1 := by
  obtain ⟨r, μ1, h1, r0, r3, h3, h4⟩ := v_pick (pk := 17) (k := 13) f17 (ρ := ρ) (μ := μ) (e := .var 0) (a := .cst (.int 3)) (v_var h0) v_cst s Gro.refl (by decide) (by decide)
  obtain ⟨vs, μ2, q1, q2, q3, q4, q5⟩ := lc_draw (tg := .nm 23) (us0 := rgU 0 (1 + r).toNat) (ρ := wipeE ρ [23]) (fe := (vb (evF fdF 14) (.tup [(.call 18 [(.var 0), (.lst [(.cst (.str "x")), (.cst (.str "y"))])]), (.call 17 [(.var 0), (.cst (.int 5))])])).v) (S := fun u => ∃ t, Pr u t) (p := p) (c := c) (rgU 0 (1 + r).toNat) μ1 [] (fun u hu μ' s' g' => by
    have g0 : ((wipeE ρ [23]).set 23 (some u))[0]? = some (some (.loc p)) := by simp [wipeE, h0]
    obtain ⟨a, μa, a1, a2, a3, a4⟩ := v_of (k := 12) f17 f18 (ρ := (wipeE ρ [23]).set 23 (some u)) (μ := μ') (e := .var 0) (es := .lst [(.cst (.str "x")), (.cst (.str "y"))]) (xs := [.str "x", .str "y"]) (v_var g0) rfl s' Gro.refl (by decide) (by decide) (uLts_le (Nat.zero_le _) (by decide))
    obtain ⟨i, μb, b1, b2, b3, b4, b5⟩ := v_pick (pk := 17) (k := 13) f17 (ρ := (wipeE ρ [23]).set 23 (some u)) (μ := μa) (e := .var 0) (a := .cst (.int 5)) (v_var g0) v_cst a3 Gro.refl (by decide) (by decide)
    refine ⟨(wipeE ρ [23]).set 23 (some u), .tup [a, .int i], μb, ?_, v_tup (evs_u a1 (evs_u b1 evs_nil)) (show 2 ≤ sizeLine by decide), ?_, b4, a4.trans b5⟩
    · rw [asgT, if_pos (by simp [wipeE, hl])]
    · obtain ⟨t, t1, t2⟩ := num_tx b2 (show i < 40 by omega)
      simp only [List.mem_cons, List.mem_nil_iff, or_false] at a2
      rcases a2 with rfl | rfl
      · exact ⟨_, ⟨_, i, t, rfl, t1, rfl, sm_of (by decide), t2, by decide +kernel⟩⟩
      · exact ⟨_, ⟨_, i, t, rfl, t1, rfl, sm_of (by decide), t2, by decide +kernel⟩⟩) h3 (Nat.le_trans (show _ ≤ 10 by rw [rg_len]; simp; omega) (by decide))
  obtain ⟨ts, hts⟩ := prs_of q3
  rw [rg_len] at q2
  refine ⟨vs, ts, μ2, ?_, hts, ?_, by omega, q4, h4.trans q5⟩
  · refine v_b1 (x := .l vs) (v_rg (j := 1 + r) (v_addi v_cst h1) (by unfold i62; simp; omega) ?_) rfl
    rw [q1]; rfl
  · intro h; subst h; simp at q2; omega
/-- S2: text -/
def e2 : Sx := .ite (.cmp .Is (.var 2) (.cst .non)) (.cst (.str "none")) (.ite (.cmp .NotEq (.var 2) (.tup [])) (.call 22 [(.var 2)]) (.cst (.str "nothing")))
theorem s2 {us : List U} {ts : List Str} (h : Prs us ts) (h0 : us ≠ []) (hl : us.length ≤ 3) {w : U} (hw : w ∈ [U.non, .tup [], .tup us, .tup us]) (h2 : ρ[2]? = some (some w)) : ∃ t, (vb (evF fdF 14) e2).v ρ μ = .ok (.u t) μ ∧ Good (.tup [.str "writes", .str "p", .str "r"]) w t ∧ Good (.tup [.str "hears", .str "t"]) w t := by
  have key : w = .non ∨ w = .tup [] ∨ w = .tup us := by simpa using hw
  rcases key with rfl | rfl | rfl
  · exact ⟨.str "none", v_ite (b_isNon (v_var h2)) v_cst, good_of (by decide +kernel), good_of (by decide +kernel)⟩
  · exact ⟨.str "nothing", v_ite (b_isNon (v_var h2)) (v_ite (b_neNil (v_var h2) rfl) v_cst), good_of (by decide +kernel), good_of (by decide +kernel)⟩
  · refine ⟨.str (Txt.join ", " ts), v_ite (b_isNon (v_var h2)) (v_ite (t := true) ?_ (v_call (evs_u (v_var h2) evs_nil) (letters_ok h (by omega)))), good_w (.inl rfl) rfl h h0 (by omega), good_w (.inr rfl) rfl h h0 (by omega)⟩
    have := b_neNil (C := evF fdF 14) (v_var (μ := μ) h2) h.dOk
    rw [this]
    cases us with
    | nil => exact absurd rfl h0
    | cons => rfl
/-- S5: pieces drawn, perhaps a refused one -/
def e5 : Sx := .bin .Add (.lc [23] (.call 25 [(.var 0)]) (.nm 23) (.rg1 (.call 17 [(.var 0), (.cst (.int 4))])) []) (.bin .Mult (.lst [(.cst .non)]) (.b1 .int (.cmp .Eq (.call 17 [(.var 0), (.cst (.int 3))]) (.cst (.int 0)))))
theorem s5 (h0 : ρ[0]? = some (some (.loc p))) (hl : ρ.length = 26) (s : Src μ p c) : ∃ us μ1, (vb (evF fdF 14) e5).v ρ μ = .ok (.l us) μ1 ∧ (∀ u ∈ us, u ∈ pcs7) ∧ us.length ≤ 4 ∧ Src μ1 p c ∧ Gro p c μ μ1 := by
  obtain ⟨r, μ1, h1, r0, r3, h3, h4⟩ := v_pick (pk := 17) (k := 13) f17 (ρ := ρ) (μ := μ) (e := .var 0) (a := .cst (.int 4)) (v_var h0) v_cst s Gro.refl (by decide) (by decide)
  obtain ⟨vs, μ2, q1, q2, q3, q4, q5⟩ := lc_draw (tg := .nm 23) (us0 := rgU 0 r.toNat) (ρ := wipeE ρ [23]) (fe := (vb (evF fdF 14) (.call 25 [(.var 0)])).v) (S := fun u => u ∈ pcs) (p := p) (c := c) (rgU 0 r.toNat) μ1 [] (fun u hu μ' s' g' => by
    have g0 : ((wipeE ρ [23]).set 23 (some u))[0]? = some (some (.loc p)) := by simp [wipeE, h0]
    obtain ⟨a, μa, a1, a2, a3, a4⟩ := piece_ok (k := 11) s'
    refine ⟨(wipeE ρ [23]).set 23 (some u), a, μa, ?_, v_call (evs_u (v_var g0) evs_nil) a1, a2, a3, a4⟩
    rw [asgT, if_pos (by simp [wipeE, hl])]) h3 (Nat.le_trans (show _ ≤ 10 by rw [rg_len]; simp; omega) (by decide))
  rw [rg_len] at q2
  obtain ⟨i, μ3, b1, b2, b3, b4, b5⟩ := v_pick (pk := 17) (k := 13) f17 (ρ := ρ) (μ := μ2) (e := .var 0) (a := .cst (.int 3)) (v_var h0) v_cst q4 Gro.refl (by decide) (by decide)
  have hlc : (vb (evF fdF 14) (.lc [23] (.call 25 [(.var 0)]) (.nm 23) (.rg1 (.call 17 [(.var 0), (.cst (.int 4))])) [])).v ρ μ = .ok (.l vs) μ2 := by
    refine v_rg h1 (by unfold i62; simp; omega) ?_
    rw [q1]; rfl
  have hz : 100 ≤ sizeLine := by decide
  have hm : (vb (evF fdF 14) (.bin .Mult (.lst [(.cst .non)]) (.b1 .int (.cmp .Eq (.call 17 [(.var 0), (.cst (.int 3))]) (.cst (.int 0)))))).v ρ μ2 = .ok (.l (if i = 0 then [U.non] else [])) μ3 := by
    refine v_bin (x := .l [.non]) (y := .u (.int (if i = 0 then 1 else 0))) (μ1 := μ2) rfl (v_b1 (x := .u (.bl (i == 0))) (v_cmp b1 v_cst rfl) ?_) ?_
    · show some (T.u (.int (if (i == 0) = true then 1 else 0))) = _
      by_cases hi : i = 0
      · subst hi; rfl
      · rw [if_neg (by simpa using hi), if_neg hi]
    · by_cases hi : i = 0
      · subst hi; rfl
      · rw [if_neg hi, if_neg hi]; rfl
  refine ⟨vs ++ (if i = 0 then [U.non] else []), μ3, v_bin hlc hm ?_, ?_, ?_, b4, (h4.trans q5).trans b5⟩
  · show (if vs.length + (if i = 0 then [U.non] else []).length ≤ sizeLine then _ else _) = _
    rw [if_pos]
    split <;> simp <;> omega
  · intro u hu
    rcases List.mem_append.mp hu with q | q
    · exact List.mem_append_left _ (q3 u q)
    · split at q
      · rw [List.mem_singleton.mp q]; decide
      · cases q
  · rw [List.length_append]; split <;> simp <;> omega
/-- S6: none of them twice -/
def e6 : Sx := .b1 .tuple (.mkd (.lc [25] (.tup [(.var 25), (.cst (.int 0))]) (.nm 25) (.pl (.var 6)) []))
theorem s6 {n : Nat} {us : List U} (h6 : ρ[6]? = some (some (.loc n))) (hl : ρ.length = 26) (hn : μ[n]? = some (.lst us)) (h : ∀ u ∈ us, u ∈ pcs7) (hz : us.length ≤ 4) : ∃ vs l, (vb (evF fdF 14) e6).v ρ μ = .ok (.u (.tup vs)) (μ ++ l) ∧ (∀ u ∈ vs, u ∈ pcs7) ∧ vs.length ≤ 4 := by
  obtain ⟨kvs, k1, k2, k3⟩ := dOfs_keys us [] fun u hu => let ⟨_, _, _, _, _, _, _, _, q⟩ := chkP_eq (h u hu); q
  have hz' : 4 ≤ sizeLine := by decide
  have e : (vb (evF fdF 14) (.lc [25] (.tup [(.var 25), (.cst (.int 0))]) (.nm 25) (.pl (.var 6)) [])).v ρ μ = .ok (.l (us.map fun u => .tup [u, .int 0])) μ := by
    refine v_lc (x := ⟨us, [(n, us)]⟩) (g := fun u => .tup [u, .int 0]) (v_var h6) (by simp only [itmOf, hn]) (by simp [Itm.ok, hn]) (fun u hu => ⟨(wipeE ρ [25]).set 25 (some u), by rw [asgT, if_pos (by simp [wipeE, hl])], v_tup (evs_u (v_var (by simp [wipeE, hl])) (evs_u v_cst evs_nil)) (show 2 ≤ sizeLine by decide)⟩) (by show us.length ≤ _; omega)
  refine ⟨kvs.map (·.1), [.dct kvs], v_b1 (x := .u (.loc μ.length)) ?_ ?_, fun u hu => ?_, by simp at k2 ⊢; omega⟩
  · rw [vb]; simp only [VB.of, e, Res.bind, T.lstOf, k1]
  · simp only [b1T, T.seqOf, T.tupOf, T.lstOf, T.dctOf, at_new]
  · rcases k3 u hu with q | q
    · cases q
    · exact h u q
end
end K56
end
section
set_option linter.all false
set_option maxRecDepth 100000
namespace K56
open PySem L2 DP
section
variable {p c : Nat} {μ : Store} {ρ : Ev}
theorem strsOf_eq : ∀ {us : List U} {ss : List Str}, strsOf us = some ss → us = ss.map .str
  | [], ss, h => by simp only [strsOf, Option.some.injEq] at h; subst h; rfl
  | u :: us, ss, h => by
    cases u <;> simp only [strsOf] at h <;> first | (cases h; done) | skip
    rename_i x
    cases q : strsOf us with
    | none => rw [q] at h; cases h
    | some ys => rw [q] at h; cases h; rw [strsOf_eq q]; rfl
/-! blocks -/
def sdA : List U := [.tup [.str "x", .int 0], .tup [.str "y", .int 1]]
def sdB : List U := [.tup [.str "y", .int 3], .tup [.str "x", .int 2]]
def sides (r1 r2 : Int) : List U := [.tup [.str "L", .tup (cutU sdA none (some (1 + r1)))], .tup [.str "R", .tup (cutU sdB (some r2) none)]]
def sides3 (r1 r2 r3 : Int) : List U := if r3 = 0 then sides r1 r2 else (sides r1 r2).reverse
def blks (r1 r2 r3 r4 : Int) : List U := cutU (sides3 r1 r2 r3) none (some (1 + r4))
def words : Cell := .dct [(.str "L", .str "left: "), (.str "R", .str "right: ")]
def askB : U := .tup [.str "blocks", .str "p", .str "r", .int 1]
def e9 : Sx := .lst [(.tup [(.cst (.str "L")), (.slc (.tup [(.tup [(.cst (.str "x")), (.cst (.int 0))]), (.tup [(.cst (.str "y")), (.cst (.int 1))])]) none (some (.bin .Add (.cst (.int 1)) (.call 17 [(.var 0), (.cst (.int 2))]))))]), (.tup [(.cst (.str "R")), (.slc (.tup [(.tup [(.cst (.str "y")), (.cst (.int 3))]), (.tup [(.cst (.str "x")), (.cst (.int 2))])]) (some (.call 17 [(.var 0), (.cst (.int 2))])) none)])]
def B01 (r : Int) : Prop := r = 0 ∨ r = 1
theorem pick2 (h0 : ρ[0]? = some (some (.loc p))) (s : Src μ p c) : ∃ r μ1, (vb (evF fdF 14) (.call 17 [(.var 0), (.cst (.int 2))])).v ρ μ = .ok (.u (.int r)) μ1 ∧ B01 r ∧ Src μ1 p c ∧ Gro p c μ μ1 := by
  obtain ⟨r, μ1, h1, r0, r3, h3, h4⟩ := v_pick (pk := 17) (k := 13) f17 (ρ := ρ) (μ := μ) (e := .var 0) (a := .cst (.int 2)) (v_var h0) v_cst s Gro.refl (by decide) (by decide)
  exact ⟨r, μ1, h1, by unfold B01; omega, h3, h4⟩
theorem s9 (h0 : ρ[0]? = some (some (.loc p))) (s : Src μ p c) : ∃ r1 r2 μ1, (vb (evF fdF 14) e9).v ρ μ = .ok (.l (sides r1 r2)) μ1 ∧ B01 r1 ∧ B01 r2 ∧ Src μ1 p c ∧ Gro p c μ μ1 := by
  obtain ⟨r1, μ1, h1, b1, s1, g1⟩ := pick2 h0 s
  obtain ⟨r2, μ2, h2, b2, s2, g2⟩ := pick2 h0 s1
  refine ⟨r1, r2, μ2, v_lst (evs_u (v_tup (evs_u v_cst (evs_u (v_slc (x := .u (.tup sdA)) (μ1 := μ) rfl evO_none (evO_some (v_addi v_cst h1)) rfl) evs_nil)) (show 2 ≤ sizeLine by decide)) (evs_u (v_tup (evs_u v_cst (evs_u (v_slc (x := .u (.tup sdB)) (μ1 := μ1) rfl (evO_some h2) evO_none rfl) evs_nil)) (show 2 ≤ sizeLine by decide)) evs_nil)) (show 2 ≤ sizeLine by decide), b1, b2, s2, g1.trans g2⟩
def s10 : Ss := .asg (.nm 7) (.ite (.cmp .Eq (.call 17 [(.var 0), (.cst (.int 2))]) (.cst (.int 0))) (.var 7) (.rev (.var 7)))
theorem s10_ok {n : Nat} {r1 r2 : Int} (h0 : ρ[0]? = some (some (.loc p))) (h7 : ρ[7]? = some (some (.loc n))) (hl : ρ.length = 26) (s : Src μ p c) (hn : μ[n]? = some (.lst (sides r1 r2))) (hp : n ≠ p) (hc : n ≠ c) (hpl : p < μ.length) (hcl : c < μ.length) :
    ∃ r3 n' μ1, ex (evF fdF 14) s10 ρ μ = .ok (.nx (ρ.set 7 (some (.loc n')))) μ1 ∧ B01 r3 ∧ μ1[n']? = some (.lst (sides3 r1 r2 r3)) ∧ n' ≠ p ∧ n' ≠ c ∧ Src μ1 p c ∧ Gro p c μ μ1 := by
  obtain ⟨r3, μ1, h1, b1, s1, g1⟩ := pick2 h0 s
  have hn1 := g1.keep hn hp hc
  have hle := g1.1
  rcases b1 with rfl | rfl
  · refine ⟨0, n, μ1, ex_asg (v_ite (t := true) (b_cmp h1 v_cst rfl) (v_var h7)) (by omega), .inl rfl, hn1, hp, hc, s1, g1⟩
  · refine ⟨1, μ1.length, μ1 ++ [Cell.lst (sides3 r1 r2 1)], ex_asgL (xs := sides3 r1 r2 1) (v_ite (t := false) (b_cmp h1 v_cst rfl) ?_) (by omega), .inr rfl, at_new, by omega, by omega, s1.app, g1.trans Gro.app⟩
    show (vb (evF fdF 14) (.rev (.var 7))).v ρ μ1 = _
    rw [vb]
    simp only [VB.of, v_var h7, Res.bind, revT, T.lstOf, hn1, opt]
    rfl
def s11 : Ss := .asg (.tp [(.nm 14), (.nm 15)]) (.tup [(.slc (.var 7) none (some (.bin .Add (.cst (.int 1)) (.call 17 [(.var 0), (.cst (.int 2))])))), (.dsp [((.cst (.str "L")), (.cst (.str "left: "))), ((.cst (.str "R")), (.cst (.str "right: ")))])])
theorem s11_ok {n : Nat} {r1 r2 r3 : Int} (h0 : ρ[0]? = some (some (.loc p))) (h7 : ρ[7]? = some (some (.loc n))) (hl : ρ.length = 26) (s : Src μ p c) (hn : μ[n]? = some (.lst (sides3 r1 r2 r3))) (hp : n ≠ p) (hc : n ≠ c) :
    ∃ r4 μ1, ex (evF fdF 14) s11 ρ μ = .ok (.nx ((ρ.set 14 (some (.loc μ1.length))).set 15 (some (.loc (μ1.length + 1))))) (μ1 ++ [Cell.lst (blks r1 r2 r3 r4), words]) ∧ B01 r4 ∧ Src μ1 p c ∧ Gro p c μ μ1 := by
  obtain ⟨r4, μ1, h1, b1, s1, g1⟩ := pick2 h0 s
  have hn1 := g1.keep hn hp hc
  refine ⟨r4, μ1, ?_, b1, s1, g1⟩
  have hs : (vb (evF fdF 14) (.slc (.var 7) none (some (.bin .Add (.cst (.int 1)) (.call 17 [(.var 0), (.cst (.int 2))]))))).v ρ μ = .ok (.l (blks r1 r2 r3 r4)) μ1 := by
    refine v_slc (v_var h7) evO_none (evO_some (v_addi v_cst h1)) ?_
    show (match (T.u (.loc n)).lstOf μ1 with | some us => some (T.l (cutU us none (some (1 + r4)))) | none => none) = _
    simp only [T.lstOf, hn1]; rfl
  have hd : (vb (evF fdF 14) (.dsp [((.cst (.str "L")), (.cst (.str "left: "))), ((.cst (.str "R")), (.cst (.str "right: ")))])).v ρ (μ1 ++ [Cell.lst (blks r1 r2 r3 r4)]) = .ok (.u (.loc (μ1 ++ [Cell.lst (blks r1 r2 r3 r4)]).length)) (μ1 ++ [Cell.lst (blks r1 r2 r3 r4)] ++ [words]) := by
    rw [vb]
    have kL : hkD (.str "L") = true := by decide +kernel
    have kR : hkD (.str "R") = true := by decide +kernel
    simp only [VB.of, vbd, evd, v_cst, DP.placed, plc, Res.bind, kL, kR, if_true]
    rfl
  have e : μ1 ++ [Cell.lst (blks r1 r2 r3 r4)] ++ [words] = μ1 ++ [Cell.lst (blks r1 r2 r3 r4), words] := by simp
  rw [e, len_app] at hd
  refine ex_asgT (v_tup (evs_l hs (evs_u hd evs_nil)) (show 2 ≤ sizeLine by decide)) ?_
  show asgTs [.nm 14, .nm 15] [.loc μ1.length, .loc (μ1.length + 1)] _ ρ = _
  simp only [asgTs, asgT]
  rw [if_pos (by omega)]
  simp only [List.length_set]
  rw [if_pos (by omega)]
def e12 : Sx := .lc [11, 24] (.bin .Add (.ix (.var 15) (.var 24)) (.call 22 [(.var 11)])) (.tp [(.nm 24), (.nm 11)]) (.pl (.var 14)) []
def ρ12 : Ev := [none, none, none, none, none, none, none, none, none, none, none, none, none, none, some (.loc 0), some (.loc 1), none, none, none, none, none, none, none, none, none, none]
def chkB (bs : List U) : Bool := match (vb (evF fdF 14) e12).v ρ12 [.lst bs, words] with
  | .ok (.l us) l => match strsOf us with
    | some ss => decide (l[0]? = some (.lst bs)) && (uLts 0 bs && (gdB askB (.tup bs) (.str (Txt.join "; " ss)) && decide ((ss.map (·.length)).sum + ss.length * 2 ≤ sizeLine)))
    | none => false
  | _ => false
theorem chkB_all : ([0, 1] : List Int).all (fun r1 => ([0, 1] : List Int).all fun r2 => ([0, 1] : List Int).all fun r3 => ([0, 1] : List Int).all fun r4 => chkB (blks r1 r2 r3 r4)) = true := by decide +kernel
theorem B01.mem {r : Int} (h : B01 r) : r ∈ ([0, 1] : List Int) := by rcases h with rfl | rfl <;> decide
theorem chkB_eq {r1 r2 r3 r4 : Int} (h1 : B01 r1) (h2 : B01 r2) (h3 : B01 r3) (h4 : B01 r4) : ∃ ss l, (vb (evF fdF 14) e12).v ρ12 [.lst (blks r1 r2 r3 r4), words] = .ok (.l (ss.map .str)) l ∧ Good askB (.tup (blks r1 r2 r3 r4)) (.str (Txt.join "; " ss)) ∧ (ss.map (·.length)).sum + ss.length * 2 ≤ sizeLine ∧ l[0]? = some (.lst (blks r1 r2 r3 r4)) := by
  have := List.all_eq_true.mp (List.all_eq_true.mp (List.all_eq_true.mp (List.all_eq_true.mp chkB_all r1 h1.mem) r2 h2.mem) r3 h3.mem) r4 h4.mem
  unfold chkB at this
  split at this
  · rename_i us l hr
    split at this
    · rename_i ss hs
      simp only [Bool.and_eq_true, decide_eq_true_eq] at this
      rw [strsOf_eq hs] at hr
      exact ⟨ss, l, hr, good_of this.2.2.1, this.2.2.2, this.1⟩
    · cases this
  · cases this
/-! numbers -/
theorem told14_n {k : Nat} {w t : Str} {i : Int} (h1 : cmpD .In (.u (.str w)) (.u (.tup [(.str "alike"), (.str "within"), (.str "kept"), (.str "once")])) μ = some false) (h2 : cmpD .In (.u (.str w)) (.u (.tup [(.str "goes"), (.str "crossed"), (.str "many")])) μ = some false) (h3 : cmpD .In (.u (.str w)) (.u (.tup [(.str "domain"), (.str "silent"), (.str "from")])) μ = some false) (h4 : cmpD .In (.u (.str w)) (.u (.tup [(.str "writes"), (.str "hears")])) μ = some false) (h : txU (.int i) = some t) :
    evF fdF (k + 1) 14 [.str w, .int i] μ = .ok (.str t) μ := by
  refine evF_eq (fd := d14) (l := []) (μ1 := μ) (ρ := [some (.str w), some (.int i)]) rfl rfl rfl ?_ (by simp) rfl
  refine (exs_ifs_f (b_cmp (v_var rfl) v_gl h1)).trans ((exs_ifs_f (b_cmp (v_var rfl) v_gl h2)).trans ((exs_ifs_f (b_cmp (v_var rfl) v_gl h3)).trans ((exs_ifs_f (b_cmp (v_var rfl) v_gl h4)).trans ?_)))
  exact exs_one (v_ite (b_isNon (u := .int i) (v_var rfl)) (v_str (v_var rfl) h))
theorem good_n {w : Str} {r : List U} (hw : w = "left" ∨ w = "right" ∨ w = "stores" ∨ w = "where") (hr : uLts 0 r = true) {i : Int} {t : Str} (i0 : 0 ≤ i) (i1 : i < 40) (ht : txU (.int i) = some t) : Good (.tup (.str w :: r)) (.int i) (.str t) := by
  obtain ⟨t', q1, q2⟩ := num_tx i0 i1
  rw [ht] at q1; cases q1
  refine ⟨t, rfl, fun μ => ?_, q2.repr (by omega), by simp only [uLts, uLt, hr]; rfl⟩
  rcases hw with rfl | rfl | rfl | rfl
  · exact ans14 rfl rfl (told14_n (k := 13) rfl rfl rfl rfl ht)
  · exact ans14 rfl rfl (told14_n (k := 13) rfl rfl rfl rfl ht)
  · exact ans14 rfl rfl (told14_n (k := 13) rfl rfl rfl rfl ht)
  · exact ans14 rfl rfl (told14_n (k := 13) rfl rfl rfl rfl ht)
/-! rows -/
theorem row_draw {n : Nat} (s : Src μ p c) (hn : μ[n]? = some (.lst [.str "a", .str "b"])) (hp : n ≠ p) (hc : n ≠ c) : ∃ ss μ1, evF fdF 14 19 [.loc p, .loc n, .int 4] μ = .ok (.tup (List.map U.str ss)) μ1 ∧ (∀ x ∈ ss, x = "a" ∨ x = "b") ∧ ss.length ≤ 4 ∧ Src μ1 p c ∧ Gro p c μ μ1 := by
  have hp' := s.lt1
  have hc' := s.lt2
  obtain ⟨r, μ1, h1, r0, r3, h3, h4⟩ := v_pick (pk := 17) (k := 12) f17 (ρ := [some (.loc p), some (.loc n), some (.int 4), none]) (μ := μ) (e := .var 0) (a := .bin .Add (.var 2) (.cst (.int 1))) (many := 5) (v_var rfl) rfl s Gro.refl (by decide) (by decide)
  obtain ⟨vs, μ2, q1, q2, q3, q4, q5⟩ := lc_draw (tg := .nm 3) (us0 := rgU 0 r.toNat) (ρ := wipeE [some (.loc p), some (.loc n), some (.int 4), none] [3]) (fe := (vb (evF fdF 13) (.call 18 [(.var 0), (.var 1)])).v) (S := fun u => u ∈ [U.str "a", .str "b"]) (p := p) (c := c) (rgU 0 r.toNat) μ1 [] (fun u hu μ' s' g' => by
    obtain ⟨v, μa, a1, a2, a3, a4⟩ := of_ok (k := 11) f17 f18 s' (n := n) (xs := [.str "a", .str "b"]) ((h4.trans g').keep hn hp hc) hp hc (by decide) (by decide) (uLts_le (Nat.zero_le _) (by decide))
    exact ⟨[some (.loc p), some (.loc n), some (.int 4), some u], v, μa, rfl, v_call (evs_u (v_var rfl) (evs_u (v_var rfl) evs_nil)) a1, a2, a3, a4⟩) h3 (Nat.le_trans (show _ ≤ 10 by rw [rg_len]; simp; omega) (by decide))
  rw [rg_len] at q2
  have hss : ∃ ss : List Str, vs = ss.map U.str ∧ ∀ x ∈ ss, x = "a" ∨ x = "b" := by
    clear q1 q2
    induction vs with
    | nil => exact ⟨[], rfl, fun _ h => nomatch h⟩
    | cons v vs ih =>
      obtain ⟨ss, rfl, g⟩ := ih fun w hw => q3 w (List.mem_cons_of_mem _ hw)
      have := q3 v List.mem_cons_self
      simp only [List.mem_cons, List.mem_nil_iff, or_false] at this
      rcases this with rfl | rfl
      · exact ⟨"a" :: ss, rfl, fun x hx => by
          rcases List.mem_cons.mp hx with rfl | hx
          · exact .inl rfl
          · exact g x hx⟩
      · exact ⟨"b" :: ss, rfl, fun x hx => by
          rcases List.mem_cons.mp hx with rfl | hx
          · exact .inr rfl
          · exact g x hx⟩
  obtain ⟨ss, rfl, hs⟩ := hss
  have hb : exs (evF fdF 13) d19.body [some (.loc p), some (.loc n), some (.int 4), none] μ = .ok (.rt (.tup (ss.map .str))) μ2 := by
    refine exs_one (v_b1 (x := .l (ss.map .str)) (v_rg h1 (by unfold i62; simp; omega) ?_) rfl)
    rw [q1]; rfl
  obtain ⟨e1, e2, e3⟩ := evF_src (us := [.loc p, .loc n, .int 4]) (fd := d19) (f := 19) rfl rfl rfl hb s q4 (h4.trans q5) (by
    rw [uLt]; exact uLts_of fun u hu => by obtain ⟨x, _, rfl⟩ := List.mem_map.mp hu; rfl)
  exact ⟨ss, _, e1, hs, by simp at q2; omega, e2, e3⟩
end
end K56
end
section
set_option linter.all false
set_option maxRecDepth 100000
namespace K56
open PySem L2 DP
section
variable {p c f n : Nat} {μ0 μ : Store} {ρ : Ev} {C : Calls} {ss : List Ss}
theorem fin_asg {e : Sx} {i : Nat} (P : U → Store → Prop) (h : ∃ v μ', (vb C e).v ρ μ = .ok (.u v) μ' ∧ P v μ') (hi : i < ρ.length) (k : ∀ v μ', P v μ' → Fin p c μ0 (exs C ss (ρ.set i (some v)) μ')) : Fin p c μ0 (exs C (.asg (.nm i) e :: ss) ρ μ) := by
  obtain ⟨v, μ', h1, h2⟩ := h
  exact fin_cons (ex_asg h1 hi) (k v μ' h2)
theorem fin_asgL {e : Sx} {i : Nat} (P : List U → Store → Prop) (h : ∃ xs μ', (vb C e).v ρ μ = .ok (.l xs) μ' ∧ P xs μ') (hi : i < ρ.length) (k : ∀ xs μ', P xs μ' → Fin p c μ0 (exs C ss (ρ.set i (some (.loc μ'.length))) (μ' ++ [.lst xs]))) : Fin p c μ0 (exs C (.asg (.nm i) e :: ss) ρ μ) := by
  obtain ⟨v, μ', h1, h2⟩ := h
  exact fin_cons (ex_asgL h1 hi) (k v μ' h2)
theorem fin_do {st : Ss} (P : Ev → Store → Prop) (h : ∃ ρ' μ', ex C st ρ μ = .ok (.nx ρ') μ' ∧ P ρ' μ') (k : ∀ ρ' μ', P ρ' μ' → Fin p c μ0 (exs C ss ρ' μ')) : Fin p c μ0 (exs C (st :: ss) ρ μ) := by
  obtain ⟨v, μ', h1, h2⟩ := h
  exact fin_cons h1 (k v μ' h2)
theorem fin_app {e : Sx} (hj : J p c μ0 f n μ) (hp : p < μ0.length) (hc : c < μ0.length) (h4 : ρ[4]? = some (some (.loc f))) (hn : n < 1000) (h : ∃ t μ2, (vb C e).v ρ μ = .ok (.u t) μ2 ∧ Src μ2 p c ∧ Gro p c μ μ2 ∧ GoodT t)
    (k : ∀ μ3, J p c μ0 f (n + 1) μ3 → (∀ i x, i ≠ f → i ≠ p → i ≠ c → μ[i]? = some x → μ3[i]? = some x) → Fin p c μ0 (exs C ss ρ μ3)) : Fin p c μ0 (exs C (.ex (.mt .append (.var 4) [e]) :: ss) ρ μ) := by
  obtain ⟨t, μ2, h1, h2, h3, h5⟩ := h
  obtain ⟨μ3, q1, q2, q3, q4⟩ := j_append hj hp hc h4 h1 h2 h3 h5 hn
  exact fin_cons q1 (k μ3 q2 fun i x hf hip hic hx => by rw [q4 i hf]; exact h3.keep hx hip hic)
/-- found = found + [..] -/
theorem fin_plus {es : List Sx} (hj : J p c μ0 f n μ) (hp : p < μ0.length) (hc : c < μ0.length) (h4 : ρ[4]? = some (some (.loc f))) (hl : 4 < ρ.length) (m : Nat) (hn : n + m < 1000) (h : ∃ xs μ2, (vb C (.lst es)).v ρ μ = .ok (.l xs) μ2 ∧ Src μ2 p c ∧ Gro p c μ μ2 ∧ xs.length ≤ m ∧ ∀ t ∈ xs, GoodT t)
    (k : ∀ f' μ3, J p c μ0 f' (n + m) μ3 → (∀ i x, i ≠ f → i ≠ p → i ≠ c → μ[i]? = some x → μ3[i]? = some x) → Fin p c μ0 (exs C ss (ρ.set 4 (some (.loc f'))) μ3)) : Fin p c μ0 (exs C (.asg (.nm 4) (.bin .Add (.var 4) (.lst es)) :: ss) ρ μ) := by
  obtain ⟨xs, μ2, h1, h2, h3, h5, h6⟩ := h
  have hj2 := hj.mov hp hc h2 h3
  obtain ⟨ts, q1, q2, q3⟩ := hj2.ex
  have hz : 1000 ≤ sizeLine := by decide
  have e : (vb C (.bin .Add (.var 4) (.lst es))).v ρ μ = .ok (.l (ts ++ xs)) μ2 := by
    refine v_bin (v_var h4) h1 ?_
    show addT (.u (.loc f)) (.l xs) μ2 = _
    simp only [addT, T.lstM, q1]
    rw [if_pos (by omega)]
  refine fin_cons (ex_asgL e hl) (k μ2.length (μ2 ++ [.lst (ts ++ xs)]) ⟨h2.app, hj2.gro.trans Gro.app, hj2.gro.1, ts ++ xs, at_new, by simp; omega, ?_⟩ fun i x hf hip hic hx => ?_)
  · intro t ht
    rcases List.mem_append.mp ht with q | q
    · exact q3 t q
    · exact h6 t q
  · have := h3.keep hx hip hic
    rw [List.getElem?_append_left (List.getElem?_eq_some_iff.mp this).1]; exact this
structure E (p f : Nat) (ρ : Ev) : Prop where
  len : ρ.length = 26
  z : ρ[0]? = some (some (.loc p))
  f4 : ρ[4]? = some (some (.loc f))
theorem E.set {f : Nat} (h : E p f ρ) {i : Nat} (h0 : i ≠ 0) (h4 : i ≠ 4) (v : Option U) : E p f (ρ.set i v) :=
  ⟨by rw [List.length_set]; exact h.len, by rw [List.getElem?_set, if_neg h0]; exact h.z, by rw [List.getElem?_set, if_neg h4]; exact h.f4⟩
theorem E.set4 {f f' : Nat} (h : E p f ρ) : E p f' (ρ.set 4 (some (.loc f'))) :=
  ⟨by rw [List.length_set]; exact h.len, by rw [List.getElem?_set, if_neg (by decide)]; exact h.z, by rw [List.getElem?_set, if_pos rfl, if_pos (by rw [h.len]; decide)]⟩
theorem E.same {f : Nat} (h : E p f ρ) {i : Nat} (hi : i < 26) (v : Option U) : (ρ.set i v)[i]? = some v := by rw [List.getElem?_set, if_pos rfl, if_pos (by rw [h.len]; exact hi)]
theorem set_ne {ρ : Ev} {i : Nat} (v : Option U) : ∀ j, j ≠ i → (ρ.set i v)[j]? = ρ[j]? := fun j h => by rw [List.getElem?_set, if_neg (Ne.symm h)]
theorem fe_asg {f : Nat} {e : Sx} {i : Nat} (he : E p f ρ) (P : U → Store → Prop) (h : ∃ v μ', (vb C e).v ρ μ = .ok (.u v) μ' ∧ P v μ') (hi : i < 26 ∧ i ≠ 0 ∧ i ≠ 4) (k : ∀ ρ' v μ', E p f ρ' → ρ'[i]? = some (some v) → (∀ j, j ≠ i → ρ'[j]? = ρ[j]?) → P v μ' → Fin p c μ0 (exs C ss ρ' μ')) : Fin p c μ0 (exs C (.asg (.nm i) e :: ss) ρ μ) := by
  obtain ⟨v, μ', h1, h2⟩ := h
  exact fin_cons (ex_asg h1 (by rw [he.len]; exact hi.1)) (k _ v μ' (he.set hi.2.1 hi.2.2 _) (he.same hi.1 _) (set_ne _) h2)
theorem fe_asgL {f : Nat} {e : Sx} {i : Nat} (he : E p f ρ) (P : List U → Store → Prop) (h : ∃ xs μ', (vb C e).v ρ μ = .ok (.l xs) μ' ∧ P xs μ') (hi : i < 26 ∧ i ≠ 0 ∧ i ≠ 4) (k : ∀ ρ' xs μ', E p f ρ' → ρ'[i]? = some (some (.loc μ'.length)) → (∀ j, j ≠ i → ρ'[j]? = ρ[j]?) → P xs μ' → Fin p c μ0 (exs C ss ρ' (μ' ++ [.lst xs]))) : Fin p c μ0 (exs C (.asg (.nm i) e :: ss) ρ μ) := by
  obtain ⟨v, μ', h1, h2⟩ := h
  exact fin_cons (ex_asgL h1 (by rw [he.len]; exact hi.1)) (k _ v μ' (he.set hi.2.1 hi.2.2 _) (he.same hi.1 _) (set_ne _) h2)
theorem fe_plus {f : Nat} {es : List Sx} (he : E p f ρ) (hj : J p c μ0 f n μ) (hp : p < μ0.length) (hc : c < μ0.length) (m : Nat) (hn : n + m < 1000) (h : ∃ xs μ2, (vb C (.lst es)).v ρ μ = .ok (.l xs) μ2 ∧ Src μ2 p c ∧ Gro p c μ μ2 ∧ xs.length ≤ m ∧ ∀ t ∈ xs, GoodT t)
    (k : ∀ ρ' f' μ3, E p f' ρ' → (∀ j, j ≠ 4 → ρ'[j]? = ρ[j]?) → J p c μ0 f' (n + m) μ3 → Fin p c μ0 (exs C ss ρ' μ3)) : Fin p c μ0 (exs C (.asg (.nm 4) (.bin .Add (.var 4) (.lst es)) :: ss) ρ μ) :=
  fin_plus hj hp hc he.f4 (by rw [he.len]; decide) m hn h fun f' μ3 hj _ => k _ f' μ3 he.set4 (set_ne _) hj
theorem fe_app {f : Nat} {e : Sx} (he : E p f ρ) (hj : J p c μ0 f n μ) (hp : p < μ0.length) (hc : c < μ0.length) (hn : n < 1000) (h : ∃ t μ2, (vb C e).v ρ μ = .ok (.u t) μ2 ∧ Src μ2 p c ∧ Gro p c μ μ2 ∧ GoodT t)
    (k : ∀ μ3, J p c μ0 f (n + 1) μ3 → (∀ i x, i ≠ f → i ≠ p → i ≠ c → μ[i]? = some x → μ3[i]? = some x) → Fin p c μ0 (exs C ss ρ μ3)) : Fin p c μ0 (exs C (.ex (.mt .append (.var 4) [e]) :: ss) ρ μ) := fin_app hj hp hc he.f4 hn h k
theorem gt_of {a v s : U} (h : Good a v s) (ha : a ∈ asks) : GoodT (.tup [a, v, s]) := ⟨a, v, s, rfl, h, ha⟩
theorem joined_call {k : Nat} {z : Str} {us : List U} {ss : List Str} (h : txs us = some ss) (hl : (ss.map (·.length)).sum + ss.length * z.length ≤ sizeLine) : evF fdF (k + 1) 20 [.tup us, .str z] μ = .ok (.str (Txt.join z ss)) μ := joined_ok f20 (x := ⟨us, []⟩) rfl rfl h hl
/-- an ask and a value whose text is one of a few -/
def chkN (a v : U) : Bool := match evF fdF 14 20 [v, .str " "] [] with
  | .ok t [] => uLt 0 v && (uLt 0 t && gdB a v t)
  | _ => false
theorem chkN_eq {a v : U} (h : chkN a v = true) : ∃ t, (∀ μ, evF fdF 14 20 [v, .str " "] μ = .ok t μ) ∧ Good a v t := by
  unfold chkN at h
  split at h
  · rename_i t ht
    simp only [Bool.and_eq_true] at h
    exact ⟨t, fun μ => evF_any clos (by simp only [uLts, uLt, h.1]; rfl) h.2.1 ht μ, good_of h.2.2⟩
  · cases h
def askG : U := .tup [.str "goes", .str "p", .str "r"]
def askMy : U := .tup [.str "many", .str "p"]
def askC : U := .tup [.str "crossed", .str "p", .str "r"]
def menG : List U := [.tup [.int 2, .int 2, .int 2], .tup [.int 1], .tup [.int 0, .int 0], .tup [.int 3, .int 3, .int 1]]
def menM : List U := [.tup [.int 3, .int 2], .tup [.int 1, .int 1]]
def menC : List U := [.tup [.int 1, .int 1, .int 0], .tup [.int 1, .int 2, .int 0], .tup [.int 0], .tup [.int 12, .int 7]]
theorem menG_all : menG.all (chkN askG) = true := by decide +kernel
theorem menM_all : menM.all (chkN askMy) = true := by decide +kernel
theorem menC_all : menC.all (chkN askC) = true := by decide +kernel
def askS3 : List U := [.tup [.str "alike", .str "p", .str "q"], .tup [.str "kept", .str "k"], .tup [.str "once", .str "p"]]
theorem s3_all : askS3.all (fun a => gdB a (.bl true) (.str "yes") && gdB a (.bl false) (.str "no")) = true := by decide +kernel
def askSq : U := .tup [.str "sequence", .str "p"]
def menW : List U := [.str "both", .str "sequence", .str "turned", .str "neither"]
theorem menW_all : menW.all (fun w => gdB askSq w w) = true := by decide +kernel
def again : Str := "sheet s: reads a, writes x;\nwalker p of s: left l0 a l0, right r0 a r0, none l0 a r0, none first r0, none last l0;\n"
theorem ag_ok : gdB (.tup [.str "again", .str "p"]) (.str again) (.str again) = true := by decide +kernel
theorem pn_ok : gdB (.tup [.str "parts", .str "p", .str "q"]) .non (.str "none") = true := by decide +kernel
theorem cn_ok : gdB (.tup [.str "crosses", .str "p"]) .non (.str "none") = true := by decide +kernel
theorem pc_ok : pcs.all (fun u => match sgR u with | some s => gdB (.tup [.str "piece", .str "p", .str "r", .int 1]) u (.str s) | none => false) = true := by decide +kernel
end
end K56
end
section
set_option linter.all false
set_option maxRecDepth 100000
namespace K56
open PySem L2 DP
theorem l2 : 2 ≤ sizeLine := by decide
theorem l3 : 3 ≤ sizeLine := by decide
theorem l4 : 4 ≤ sizeLine := by decide
theorem l5 : 5 ≤ sizeLine := by decide
/-- the texts that follow the table, the lot, the misfit -/
def tail1 : List Ss := d30.body.drop 14
theorem some_head {p c : Nat} {μ : Store} (s : Src μ p c) (hp : p < μ.length) (hc : c < μ.length) (k : ∀ ρ f μ', E p f ρ → J p c μ f 5 μ' → Fin p c μ (exs (evF fdF 14) tail1 ρ μ')) :
    Fin p c μ (exs (evF fdF 14) d30.body [some (.loc p), none, none, none, none, none, none, none, none, none, none, none, none, none, none, none, none, none, none, none, none, none, none, none, none, none] μ) := by
  show Fin p c μ (exs (evF fdF 14) (_ :: _) _ μ)
  -- pairs
  refine fin_asg (fun v μ' => ∃ us ts, v = .tup us ∧ Prs us ts ∧ us ≠ [] ∧ us.length ≤ 3 ∧ Src μ' p c ∧ Gro p c μ μ') ?_ (by simp) ?_
  · obtain ⟨us, ts, μ1, h1, h2, h3, h4, h5, h6⟩ := s0 (ρ := [some (.loc p), none, none, none, none, none, none, none, none, none, none, none, none, none, none, none, none, none, none, none, none, none, none, none, none, none]) rfl rfl s
    exact ⟨_, μ1, h1, us, ts, rfl, h2, h3, h4, h5, h6⟩
  rintro _ μ1 ⟨us, ts, rfl, pr, ne, l3', s1, g1⟩
  have clus : uLts 0 us = true := uLts_of fun u hu => let ⟨_, q⟩ := pr.mem u hu; q.cl.1
  -- writing
  refine fin_asg (fun w μ' => w ∈ [U.non, .tup [], .tup us, .tup us] ∧ Src μ' p c ∧ Gro p c μ1 μ') ?_ (by simp) ?_
  · obtain ⟨w, μ2, h1, h2, h3, h4⟩ := v_of (k := 12) f17 f18 (ρ := List.set [some (.loc p), none, none, none, none, none, none, none, none, none, none, none, none, none, none, none, none, none, none, none, none, none, none, none, none, none] 1 (some (.tup us))) (μ := μ1) (e := .var 0) (es := .lst [(.cst .non), (.tup []), (.var 1), (.var 1)]) (xs := [.non, .tup [], .tup us, .tup us]) (v_var rfl)
      (v_lst (evs_u v_cst (evs_u (v_tup evs_nil (by decide)) (evs_u (v_var rfl) (evs_u (v_var rfl) evs_nil)))) l4) s1 Gro.refl (by simp) (by simp) (uLts_le (Nat.zero_le _) (by simp only [uLts, uLt, clus]; rfl))
    exact ⟨w, μ2, h1, h2, h3, h4⟩
  rintro w μ2 ⟨hw, s2', g2⟩
  have g02 := g1.trans g2
  -- text
  refine fin_asg (fun t μ' => μ2 = μ' ∧ Good (.tup [.str "writes", .str "p", .str "r"]) w t ∧ Good (.tup [.str "hears", .str "t"]) w t) ?_ (by simp) ?_
  · obtain ⟨t, h1, h2, h3⟩ := s2 (μ := μ2) (ρ := List.set (List.set [some (.loc p), none, none, none, none, none, none, none, none, none, none, none, none, none, none, none, none, none, none, none, none, none, none, none, none, none] 1 (some (.tup us))) 2 (some w)) pr ne l3' hw rfl
    exact ⟨t, μ2, h1, rfl, h2, h3⟩
  rintro t _ ⟨rfl, gw1, gw2⟩
  -- found
  refine fin_asgL (fun xs μ' => μ2 = μ' ∧ xs.length = 2 ∧ ∀ x ∈ xs, GoodT x) ?_ (by simp) ?_
  · refine ⟨[.tup [.tup [.str "writes", .str "p", .str "r"], w, t], .tup [.tup [.str "hears", .str "t"], w, t]], μ2, ?_, rfl, rfl, ?_⟩
    · exact v_lst (evs_u (v_tup (evs_u (v_tup (evs_u v_cst (evs_u v_cst (evs_u v_cst evs_nil))) l3) (evs_u (v_var rfl) (evs_u (v_var rfl) evs_nil))) l3) (evs_u (v_tup (evs_u (v_tup (evs_u v_cst (evs_u v_cst evs_nil)) l2) (evs_u (v_var rfl) (evs_u (v_var rfl) evs_nil))) l3) evs_nil)) l2
    · intro x hx
      simp only [List.mem_cons, List.mem_nil_iff, or_false] at hx
      rcases hx with rfl | rfl
      · exact gt_of gw1 (by decide)
      · exact gt_of gw2 (by decide)
  rintro xs _ ⟨rfl, xl, xg⟩
  have hj : J p c μ μ2.length 2 (μ2 ++ [.lst xs]) := ⟨s2'.app, g02.trans Gro.app, g02.1, xs, at_new, by omega, xg⟩
  have he : E p μ2.length (List.set (List.set (List.set (List.set [some (.loc p), none, none, none, none, none, none, none, none, none, none, none, none, none, none, none, none, none, none, none, none, none, none, none, none, none] 1 (some (.tup us))) 2 (some w)) 3 (some t)) 4 (some (.loc μ2.length))) := ⟨rfl, rfl, rfl⟩
  generalize List.set (List.set (List.set (List.set [some (.loc p), none, none, none, none, none, none, none, none, none, none, none, none, none, none, none, none, none, none, none, none, none, none, none, none, none] 1 (some (.tup us))) 2 (some w)) 3 (some t)) 4 (some (.loc μ2.length)) = ρ at he
  generalize μ2 ++ [Cell.lst xs] = μ3 at hj
  generalize μ2.length = f at hj he
  -- piece
  refine fe_asg he (fun v μ' => v ∈ pcs ∧ J p c μ f 2 μ') ?_ (by decide) ?_
  · obtain ⟨v, μ4, h1, h2, h3, h4⟩ := piece_ok (k := 11) hj.src
    exact ⟨v, μ4, v_call (evs_u (v_var he.z) evs_nil) h1, h2, hj.mov hp hc h3 h4⟩
  rintro ρ pc μ4 he h5 _ ⟨hpc, hj⟩
  -- some
  refine fe_asgL he (fun rs μ' => (∀ u ∈ rs, u ∈ pcs7) ∧ rs.length ≤ 4 ∧ J p c μ f 2 μ') ?_ (by decide) ?_
  · obtain ⟨rs, μ5, h1, h2, h3, h4, h5⟩ := s5 he.z he.len hj.src
    exact ⟨rs, μ5, h1, h2, h3, hj.mov hp hc h4 h5⟩
  rintro ρ1 rs μ5 he h6 k1 ⟨hrs, hrl, hj⟩
  rw [← k1 5 (by decide)] at h5
  refine fe_asg he (fun v μ' => ∃ vs, v = .tup vs ∧ (∀ u ∈ vs, u ∈ pcs7) ∧ vs.length ≤ 4 ∧ J p c μ f 2 μ') ?_ (by decide) ?_
  · obtain ⟨vs, l, h1, h2, h3⟩ := s6 (μ := μ5 ++ [.lst rs]) h6 he.len at_new hrs hrl
    exact ⟨_, _, h1, vs, rfl, h2, h3, (hj.appl _).appl _⟩
  rintro ρ2 _ μ6 he h6 k2 ⟨vs, rfl, hvs, hvl, hj⟩
  rw [← k2 5 (by decide)] at h5
  -- the piece
  refine fe_app he hj hp hc (by decide) ?_ ?_
  · have := List.all_eq_true.mp pc_ok pc hpc
    obtain ⟨x, q1, _, q3, _⟩ := chkP_eq (List.mem_append_left [U.non] hpc)
    have e : sgR pc = some x := by
      unfold sg at q1
      split at q1
      · exact q1
      · cases q1
    rw [e] at this
    exact ⟨_, μ6, v_tup (evs_u (v_tup (evs_u v_cst (evs_u v_cst (evs_u v_cst (evs_u v_cst evs_nil)))) l4) (evs_u (v_var h5) (evs_u (v_call (evs_u (v_var h5) evs_nil) (evF_le (q3 μ6) (by omega))) evs_nil))) l3, hj.src, Gro.refl, gt_of (good_of this) (by decide)⟩
  intro μ7 hj _
  -- at
  refine fe_app he hj hp hc (by decide) ?_ ?_
  · obtain ⟨ss, q1, q2, q3, q4⟩ := mapS_sg hvs
    have hlc := v_lcf (i := 25) (μ := μ7) (told21 (k := 14) (by omega)) h6 rfl rfl rfl q1 (Nat.le_trans hvl (by decide)) (by rw [he.len]; decide)
    have hsum := sum_le fun s hs => (q3 s hs).1
    have h1 : ss.length * 30 ≤ 4 * 30 := Nat.mul_le_mul (by omega) (Nat.le_refl _)
    have hz : 200 ≤ sizeLine := by decide
    have hcall := v_call (f := 23) (evs_l hlc evs_nil) (listed_ok (k := 12) at_new (by omega) q4)
    exact ⟨_, μ7 ++ [.lst (ss.map .str)], v_tup (us := [_, _, _]) (evs_u (v_tup (evs_u v_cst (evs_u v_cst (evs_u v_cst evs_nil))) l3) (evs_u (v_var h6) (evs_u hcall evs_nil))) l3, hj.src.app, Gro.app, gt_of (good_at hvs (by omega) q1) (by decide)⟩
  intro μ8 hj _
  -- blocks
  refine fe_asgL he (fun sd μ' => ∃ r1 r2, sd = sides r1 r2 ∧ B01 r1 ∧ B01 r2 ∧ J p c μ f 4 μ') ?_ (by decide) ?_
  · obtain ⟨r1, r2, μ9, h1, h2, h3, h4, h5⟩ := s9 (μ := μ8) he.z hj.src
    exact ⟨_, _, h1, r1, r2, rfl, h2, h3, hj.mov hp hc h4 h5⟩
  rintro ρ3 _ μ9 he h7 k3 ⟨r1, r2, rfl, b1, b2, hj⟩
  have p9 : μ9.length ≠ p ∧ μ9.length ≠ c := by have := hj.src.lt1; have := hj.src.lt2; omega
  have hj := hj.appl [.lst (sides r1 r2)]
  refine fin_do (fun ρ' μ' => ∃ r3 n', E p f ρ' ∧ ρ'[7]? = some (some (.loc n')) ∧ B01 r3 ∧ μ'[n']? = some (.lst (sides3 r1 r2 r3)) ∧ n' ≠ p ∧ n' ≠ c ∧ J p c μ f 4 μ') ?_ ?_
  · obtain ⟨r3, n', μ10, q1, q2, q3, q4, q5, q6, q7⟩ := s10_ok (μ := μ9 ++ [.lst (sides r1 r2)]) he.z h7 he.len hj.src at_new p9.1 p9.2 hj.src.lt1 hj.src.lt2
    exact ⟨_, μ10, q1, r3, n', he.set (by decide) (by decide) _, he.same (by decide) _, q2, q3, q4, q5, hj.mov hp hc q6 q7⟩
  rintro ρ4 μ10 ⟨r3, n', he, h7, b3, hn', np, nc, hj⟩
  refine fin_do (fun ρ' μ' => ∃ r4 m μ11, E p f ρ' ∧ ρ'[14]? = some (some (.loc μ11.length)) ∧ ρ'[15]? = some (some (.loc (μ11.length + 1))) ∧ B01 r4 ∧ μ' = μ11 ++ [.lst (blks r1 r2 r3 r4), words] ∧ J p c μ f 4 μ11 ∧ m = μ11.length) ?_ ?_
  · obtain ⟨r4, μ11, q1, q2, q3, q4⟩ := s11_ok he.z h7 he.len hj.src hn' np nc
    have e1 := he.set (i := 14) (by decide) (by decide) (some (.loc μ11.length))
    exact ⟨_, _, q1, r4, _, μ11, e1.set (by decide) (by decide) _, by rw [set_ne _ 14 (by decide)]; exact he.same (by decide) _, e1.same (by decide) _, q2, rfl, hj.mov hp hc q3 q4, rfl⟩
  rintro ρ5 _ ⟨r4, _, μ11, he, h14, h15, b4, rfl, hj, _⟩
  obtain ⟨ss, l, c1, c2, c3, c4⟩ := chkB_eq b1 b2 b3 b4
  have clb : uLts 0 (blks r1 r2 r3 r4) = true := by
    have := c2.cl.1
    rwa [uLt] at this
  have el : shM μ11 [.lst (blks r1 r2 r3 r4), words] = μ11 ++ [.lst (blks r1 r2 r3 r4), words] := by
    show μ11 ++ [shC μ11.length (.lst (blks r1 r2 r3 r4)), shC μ11.length words] = _
    rw [shC, shs_cl _ clb]; rfl
  refine fe_asgL he (fun us μ' => us = ss.map .str ∧ μ' = shM μ11 l) ?_ (by decide) ?_
  · have hle : leE (shE μ11.length ρ12) ρ5 := by
      refine ⟨by rw [he.len]; rfl, fun i u hi => ?_⟩
      have hi26 : i < 26 := by
        have := (List.getElem?_eq_some_iff.mp hi).1
        exact this
      have key : ∀ i, i < 26 → (shE μ11.length ρ12)[i]? = some (some u) → (i = 14 ∧ u = .loc (0 + μ11.length)) ∨ (i = 15 ∧ u = .loc (1 + μ11.length)) := by
        intro i hi h
        rcases (show i = 0 ∨ i = 1 ∨ i = 2 ∨ i = 3 ∨ i = 4 ∨ i = 5 ∨ i = 6 ∨ i = 7 ∨ i = 8 ∨ i = 9 ∨ i = 10 ∨ i = 11 ∨ i = 12 ∨ i = 13 ∨ i = 14 ∨ i = 15 ∨ i = 16 ∨ i = 17 ∨ i = 18 ∨ i = 19 ∨ i = 20 ∨ i = 21 ∨ i = 22 ∨ i = 23 ∨ i = 24 ∨ i = 25 by omega) with h' | h' | h' | h' | h' | h' | h' | h' | h' | h' | h' | h' | h' | h' | h' | h' | h' | h' | h' | h' | h' | h' | h' | h' | h' | h' <;> subst h' <;> simp [shE, ρ12, sh] at h
        · exact .inl ⟨rfl, by rw [← h]; congr 1; omega⟩
        · exact .inr ⟨rfl, by rw [← h]; congr 1; omega⟩
      rcases key i hi26 hi with ⟨rfl, rfl⟩ | ⟨rfl, rfl⟩
      · rw [Nat.zero_add]; exact h14
      · rw [Nat.add_comm]; exact h15
    have := v_any (shk 14) (e := e12) (by decide +kernel) c1 μ11 hle
    rw [el] at this
    refine ⟨ss.map .str, shM μ11 l, this.trans ?_, rfl, rfl⟩
    rw [shT, shs_cl]
    exact uLts_of fun u hu => by obtain ⟨x, _, rfl⟩ := List.mem_map.mp hu; rfl
  rintro ρ6 _ _ he h8 k6 ⟨rfl, rfl⟩
  have hj : J p c μ f 4 (shM μ11 l ++ [.lst (ss.map .str)]) := (hj.appl _).appl _
  rw [← k6 14 (by decide)] at h14
  refine fe_app he hj hp hc (by decide) ?_ ?_
  · have hb : (shM μ11 l ++ [Cell.lst (ss.map U.str)])[μ11.length]? = some (.lst (blks r1 r2 r3 r4)) := by
      have e : (shM μ11 l)[μ11.length]? = some (.lst (blks r1 r2 r3 r4)) := by
        have := shM_at μ11 l 0
        rw [Nat.add_zero] at this
        rw [this, c4, Option.map_some, shC, shs_cl _ clb]
      rw [List.getElem?_append_left (List.getElem?_eq_some_iff.mp e).1]; exact e
    refine ⟨_, _, v_tup (evs_u (v_tup (evs_u v_cst (evs_u v_cst (evs_u v_cst (evs_u v_cst evs_nil)))) l4) (evs_u (v_b1 (t := .u (.tup (blks r1 r2 r3 r4))) (v_var h14) ?_) (evs_u (v_call (evs_u (v_var h8) (evs_u v_cst evs_nil)) (joined_ok (k := 13) f20 (x := ⟨ss.map .str, [((shM μ11 l).length, ss.map .str)]⟩) (by simp only [itmOf, at_new]) (by simp [Itm.ok]) (txs_strs ss) c3)) evs_nil))) l3, hj.src, Gro.refl, gt_of c2 (by decide)⟩
    simp only [b1T, T.seqOf, T.tupOf, T.lstOf, hb]
  intro μ12 hj _
  exact k _ _ _ he hj
end K56
end
section
set_option linter.all false
set_option maxRecDepth 100000
namespace K56
open PySem L2 DP
theorem ix2 {a b : U} {μ : Store} : ixD (.u (.tup [a, b])) (.u (.int 0)) μ = some (.u a) ∧ ixD (.u (.tup [a, b])) (.u (.int 1)) μ = some (.u b) := ⟨rfl, rfl⟩
theorem all_mem {α : Type} {l : List α} {P : α → Bool} (h : l.all P = true) {x : α} (hx : x ∈ l) : P x = true := List.all_eq_true.mp h x hx
theorem some_tail {p c : Nat} {μ : Store} (hp : p < μ.length) (hc : c < μ.length) {ρ : Ev} {f : Nat} {μ1 : Store} (he : E p f ρ) (hj : J p c μ f 5 μ1) : Fin p c μ (exs (evF fdF 14) tail1 ρ μ1) := by
  show Fin p c μ (exs (evF fdF 14) (_ :: _) _ _)
  -- table, lot, misfit
  refine fin_do (fun ρ' μ' => ∃ tt tx lt lx mt mx, E p f ρ' ∧ ρ'[16]? = some (some (.tup [tt, tx])) ∧ ρ'[17]? = some (some (.tup [lt, lx])) ∧ ρ'[18]? = some (some (.tup [mt, mx])) ∧ Good askT tt tx ∧ Good askD lt lx ∧ Good askS lt lx ∧ Good askF lt lx ∧ Good askW mt mx ∧ J p c μ f 5 μ') ?_ ?_
  · obtain ⟨_, μ2, a1, ⟨tt, tx, rfl, a2⟩, a3, a4⟩ := table_ok hj.src
    obtain ⟨_, μ3, b1, ⟨lt, lx, rfl, b2⟩, b3, b4⟩ := lot_ok a3
    obtain ⟨_, μ4, d1, ⟨mt, mx, rfl, d2⟩, d3, d4⟩ := misfit_ok b3
    have e1 := he.set (i := 16) (by decide) (by decide) (some (.tup [tt, tx]))
    have e2 := e1.set (i := 17) (by decide) (by decide) (some (.tup [lt, lx]))
    refine ⟨((ρ.set 16 (some (.tup [tt, tx]))).set 17 (some (.tup [lt, lx]))).set 18 (some (.tup [mt, mx])), μ4, ex_par3 (evs_u (v_call (evs_u (v_var he.z) evs_nil) a1) (evs_u (v_call (evs_u (v_var he.z) evs_nil) b1) (evs_u (v_call (evs_u (v_var he.z) evs_nil) d1) evs_nil))) ?_, tt, tx, lt, lx, mt, mx, e2.set (by decide) (by decide) _, ?_, ?_, e2.same (by decide) _, a2, b2.1, b2.2.1, b2.2.2, d2, (hj.mov hp hc a3 a4).mov hp hc d3 (b4.trans d4)⟩
    · have hl := he.len
      simp only [setAll]
      rw [if_pos (by omega)]
      simp only [List.length_set]
      rw [if_pos (by omega), if_pos (by omega)]
    · rw [set_ne _ 16 (by decide), set_ne _ 16 (by decide)]; exact he.same (by decide) _
    · rw [set_ne _ 17 (by decide)]; exact e1.same (by decide) _
  rintro ρ μ1 ⟨tt, tx, lt, lx, mt, mx, he, h16, h17, h18, gT, gD, gS, gF, gW, hj⟩
  -- table, fits
  refine fe_plus he hj hp hc 2 (by decide) ?_ ?_
  · refine ⟨[.tup [askT, tt, tx], .tup [askW, mt, mx]], μ1, v_lst (evs_u (v_tup (us := [_, _, _]) (evs_u (v_tup (us := [_, _]) (evs_u v_cst (evs_u v_cst evs_nil)) l2) (evs_u (v_ix (v_var h16) v_cst rfl) (evs_u (v_ix (v_var h16) v_cst rfl) evs_nil))) l3) (evs_u (v_tup (us := [_, _, _]) (evs_u (v_tup (us := [_, _]) (evs_u v_cst (evs_u v_cst evs_nil)) l2) (evs_u (v_ix (v_var h18) v_cst rfl) (evs_u (v_ix (v_var h18) v_cst rfl) evs_nil))) l3) evs_nil)) l2, hj.src, Gro.refl, Nat.le_refl _, ?_⟩
    intro x hx
    simp only [List.mem_cons, List.mem_nil_iff, or_false] at hx
    rcases hx with rfl | rfl
    · exact gt_of gT (by decide)
    · exact gt_of gW (by decide)
  intro ρ1 f1 μ2 he1 k1 hj
  rw [← k1 17 (by decide)] at h17
  -- domain or silent
  refine fe_plus he1 hj hp hc 1 (by decide) ?_ ?_
  · obtain ⟨w, μ3, a1, a2, a3, a4⟩ := v_of (k := 12) f17 f18 (ρ := ρ1) (μ := μ2) (e := .var 0) (es := .lst [(.cst (.str "domain")), (.cst (.str "silent"))]) (xs := [.str "domain", .str "silent"]) (v_var he1.z) rfl hj.src Gro.refl (by decide) (by decide) (uLts_le (Nat.zero_le _) (by decide))
    refine ⟨[.tup [.tup [w, .str "p"], lt, lx]], μ3, v_lst (evs_u (v_tup (us := [_, _, _]) (evs_u (v_tup (us := [_, _]) (evs_u a1 (evs_u v_cst evs_nil)) l2) (evs_u (v_ix (v_var h17) v_cst rfl) (evs_u (v_ix (v_var h17) v_cst rfl) evs_nil))) l3) evs_nil) (show 1 ≤ sizeLine by decide), a3, a4, Nat.le_refl _, ?_⟩
    intro x hx
    simp only [List.mem_cons, List.mem_nil_iff, or_false] at hx a2
    subst hx
    rcases a2 with rfl | rfl
    · exact gt_of gD (by decide)
    · exact gt_of gS (by decide)
  intro ρ f μ3 he k2 hj
  rw [← k2 17 (by decide)] at h17
  -- from
  refine fe_app he hj hp hc (by decide) ?_ ?_
  · exact ⟨.tup [askF, lt, lx], μ3, v_tup (us := [_, _, _]) (evs_u (v_tup (us := [_, _, _]) (evs_u v_cst (evs_u v_cst (evs_u (v_tup (us := [_]) (evs_u v_cst evs_nil) (show 1 ≤ sizeLine by decide)) evs_nil))) l3) (evs_u (v_ix (v_var h17) v_cst rfl) (evs_u (v_ix (v_var h17) v_cst rfl) evs_nil))) l3, hj.src, Gro.refl, gt_of gF (by decide)⟩
  intro μ4 hj _
  -- is_so, number
  refine fin_do (fun ρ' μ' => ∃ (b : Bool) (i : Int), E p f ρ' ∧ ρ'[19]? = some (some (.bl b)) ∧ ρ'[20]? = some (some (.int i)) ∧ 0 ≤ i ∧ i < 40 ∧ J p c μ f 9 μ') ?_ ?_
  · obtain ⟨r, μ5, a1, _, a3, a4⟩ := pick2 he.z hj.src
    obtain ⟨i, μ6, b1, b2, b3, b4, b5⟩ := v_pick (pk := 17) (k := 13) f17 (ρ := ρ) (μ := μ5) (e := .var 0) (a := .cst (.int 40)) (v_var he.z) v_cst a3 Gro.refl (by decide) (by decide)
    have e1 := he.set (i := 19) (by decide) (by decide) (some (.bl (r == 0)))
    refine ⟨(ρ.set 19 (some (.bl (r == 0)))).set 20 (some (.int i)), μ6, ex_par2 (evs_u (v_cmp a1 v_cst rfl) (evs_u b1 evs_nil)) ?_, r == 0, i, e1.set (by decide) (by decide) _, ?_, e1.same (by decide) _, b2, b3, (hj.mov hp hc a3 a4).mov hp hc b4 b5⟩
    · have hl := he.len
      simp only [setAll]
      rw [if_pos (by omega)]
      simp only [List.length_set]
      rw [if_pos (by omega)]
    · rw [set_ne _ 19 (by decide)]; exact he.same (by decide) _
  rintro ρ μ1 ⟨b, i, he, h19, h20, i0, i1, hj⟩
  obtain ⟨it, hit, _⟩ := num_tx i0 i1
  -- three loops
  have step3 : ∀ (a : U) (ρ : Ev) (n : Nat) (μ1 : Store), a ∈ askS3 → n < 1000 → E p f ρ → ρ[19]? = some (some (.bl b)) → ρ[20]? = some (some (.int i)) → J p c μ f n μ1 → ∃ ρ' μ', asgT (.nm 9) a μ1 ρ = some ρ' ∧ exs (evF fdF 14) [(.ex (.mt .append (.var 4) [(.tup [(.var 9), (.var 19), (.ite (.var 19) (.cst (.str "yes")) (.cst (.str "no")))])]))] ρ' μ1 = .ok (.nx ρ') μ' ∧ E p f ρ' ∧ ρ'[19]? = some (some (.bl b)) ∧ ρ'[20]? = some (some (.int i)) ∧ J p c μ f (n + 1) μ' := by
    intro a ρ n μ1 ha hn he h19 h20 hj
    have hb := all_mem s3_all ha
    simp only [Bool.and_eq_true] at hb
    have e1 := he.set (i := 9) (by decide) (by decide) (some a)
    have g19 : (ρ.set 9 (some a))[19]? = some (some (.bl b)) := by rw [set_ne _ 19 (by decide)]; exact h19
    have g20 : (ρ.set 9 (some a))[20]? = some (some (.int i)) := by rw [set_ne _ 20 (by decide)]; exact h20
    have ma : a ∈ asks := by
      have : ∀ a ∈ askS3, a ∈ asks := by decide
      exact this a ha
    obtain ⟨μ', q1, q2, _⟩ := j_append (C := evF fdF 14) (e := .tup [(.var 9), (.var 19), (.ite (.var 19) (.cst (.str "yes")) (.cst (.str "no")))]) (t := .tup [a, .bl b, .str (if b then "yes" else "no")]) hj hp hc e1.f4 (v_tup (us := [_, _, _]) (evs_u (v_var (he.same (by decide) _)) (evs_u (v_var g19) (evs_u (v_ite (b_var (t := b) g19 rfl) (by cases b <;> exact v_cst)) evs_nil))) l3) hj.src Gro.refl (by
      cases b
      · exact gt_of (good_of hb.2) ma
      · exact gt_of (good_of hb.1) ma) hn
    refine ⟨_, μ', by rw [asgT, if_pos (by rw [he.len]; decide)], ?_, e1, g19, g20, q2⟩
    rw [exs_cons q1, exs_nil]
  refine fin_do (fun ρ' μ' => E p f ρ' ∧ ρ'[20]? = some (some (.int i)) ∧ J p c μ f 12 μ') ?_ ?_
  · obtain ⟨ρ1, μ2, a1, a2, a3, a4, a5, a6⟩ := step3 (.tup [.str "alike", .str "p", .str "q"]) ρ 9 μ1 (by decide) (by decide) he h19 h20 hj
    obtain ⟨ρ2, μ3, b1, b2, b3, b4, b5, b6⟩ := step3 (.tup [.str "kept", .str "k"]) ρ1 10 μ2 (by decide) (by decide) a3 a4 a5 a6
    obtain ⟨ρ3, μ4, d1, d2, d3, d4, d5, d6⟩ := step3 (.tup [.str "once", .str "p"]) ρ2 11 μ3 (by decide) (by decide) b3 b4 b5 b6
    refine ⟨ρ3, μ4, ?_, d3, d5, d6⟩
    refine (ex_for (x := ⟨askS3, []⟩) (t := .u (.tup askS3)) (μ1 := μ1) rfl rfl).trans ?_
    show forL _ _ _ (_ :: _ :: _ :: []) _ _ = _
    rw [forL_cons rfl a1 a2, forL_cons rfl b1 b2, forL_cons rfl d1 d2, forL_nil rfl]
  rintro ρ μ1 ⟨he, h20, hj⟩
  have step4 : ∀ (a : U) (ρ : Ev) (n : Nat) (μ1 : Store), Good a (.int i) (.str it) → a ∈ asks → n < 1000 → E p f ρ → ρ[20]? = some (some (.int i)) → J p c μ f n μ1 → ∃ ρ' μ', asgT (.nm 9) a μ1 ρ = some ρ' ∧ exs (evF fdF 14) [(.ex (.mt .append (.var 4) [(.tup [(.var 9), (.var 20), (.b1 .str (.var 20))])]))] ρ' μ1 = .ok (.nx ρ') μ' ∧ E p f ρ' ∧ ρ'[20]? = some (some (.int i)) ∧ J p c μ f (n + 1) μ' := by
    intro a ρ n μ1 ga ma hn he h20 hj
    have e1 := he.set (i := 9) (by decide) (by decide) (some a)
    have g20 : (ρ.set 9 (some a))[20]? = some (some (.int i)) := by rw [set_ne _ 20 (by decide)]; exact h20
    obtain ⟨μ', q1, q2, _⟩ := j_append (C := evF fdF 14) (e := .tup [(.var 9), (.var 20), (.b1 .str (.var 20))]) (t := .tup [a, .int i, .str it]) hj hp hc e1.f4 (v_tup (us := [_, _, _]) (evs_u (v_var (he.same (by decide) _)) (evs_u (v_var g20) (evs_u (v_str (v_var g20) hit) evs_nil))) l3) hj.src Gro.refl (gt_of ga ma) hn
    refine ⟨_, μ', by rw [asgT, if_pos (by rw [he.len]; decide)], ?_, e1, g20, q2⟩
    rw [exs_cons q1, exs_nil]
  refine fin_do (fun ρ' μ' => E p f ρ' ∧ ρ'[20]? = some (some (.int i)) ∧ J p c μ f 16 μ') ?_ ?_
  · obtain ⟨ρ1, μ2, a1, a2, a3, a5, a6⟩ := step4 (.tup [.str "left", .str "p", .str "r"]) ρ 12 μ1 (good_n (.inl rfl) rfl i0 i1 hit) (by decide) (by decide) he h20 hj
    obtain ⟨ρ2, μ3, b1, b2, b3, b5, b6⟩ := step4 (.tup [.str "right", .str "p", .str "r"]) ρ1 13 μ2 (good_n (.inr (.inl rfl)) rfl i0 i1 hit) (by decide) (by decide) a3 a5 a6
    obtain ⟨ρ3, μ4, d1, d2, d3, d5, d6⟩ := step4 (.tup [.str "stores", .str "p"]) ρ2 14 μ3 (good_n (.inr (.inr (.inl rfl))) rfl i0 i1 hit) (by decide) (by decide) b3 b5 b6
    obtain ⟨ρ4, μ5, x1, x2, x3, x5, x6⟩ := step4 (.tup [.str "where", .str "t"]) ρ3 15 μ4 (good_n (.inr (.inr (.inr rfl))) rfl i0 i1 hit) (by decide) (by decide) d3 d5 d6
    refine ⟨ρ4, μ5, ?_, x3, x5, x6⟩
    refine (ex_for (x := ⟨[.tup [.str "left", .str "p", .str "r"], .tup [.str "right", .str "p", .str "r"], .tup [.str "stores", .str "p"], .tup [.str "where", .str "t"]], []⟩) (t := .u (.tup [.tup [.str "left", .str "p", .str "r"], .tup [.str "right", .str "p", .str "r"], .tup [.str "stores", .str "p"], .tup [.str "where", .str "t"]])) (μ1 := μ1) rfl rfl).trans ?_
    show forL _ _ _ (_ :: _ :: _ :: _ :: []) _ _ = _
    rw [forL_cons rfl a1 a2, forL_cons rfl b1 b2, forL_cons rfl d1 d2, forL_cons rfl x1 x2, forL_nil rfl]
  rintro ρ μ1 ⟨he, h20, hj⟩
  -- goes, many
  have step2 : ∀ (a : U) (ρ : Ev) (n m : Nat) (men : List U) (μ1 : Store), men.all (chkN a) = true → 0 < men.length → men.length < 100 → uLts 0 men = true → a ∈ asks → n < 1000 → E p f ρ → ρ[20]? = some (some (.int i)) → J p c μ f n μ1 → μ1[m]? = some (.lst men) → m ≠ p → m ≠ c → m ≠ f → ∃ ρ' ρ2 μ', asgT (.tp [.nm 9, .nm 6]) (.tup [a, .loc m]) μ1 ρ = some ρ' ∧ exs (evF fdF 14) [(.asg (.nm 10) (.call 18 [(.var 0), (.var 6)])), (.ex (.mt .append (.var 4) [(.tup [(.var 9), (.var 10), (.call 20 [(.var 10), (.cst (.str " "))])])]))] ρ' μ1 = .ok (.nx ρ2) μ' ∧ E p f ρ2 ∧ ρ2[20]? = some (some (.int i)) ∧ J p c μ f (n + 1) μ' ∧ ∀ j x, j ≠ f → j ≠ p → j ≠ c → μ1[j]? = some x → μ'[j]? = some x := by
    intro a ρ n m men μ1 hm h0 h100 cl ma hn he h20 hj hmen mp mc mf
    have e1 := (he.set (i := 9) (by decide) (by decide) (some a)).set (i := 6) (by decide) (by decide) (some (.loc m))
    have g6 : ((ρ.set 9 (some a)).set 6 (some (.loc m)))[6]? = some (some (.loc m)) := (he.set (i := 9) (by decide) (by decide) (some a)).same (by decide) _
    obtain ⟨v, μ2, a1, a2, a3, a4⟩ := of_ok (k := 12) f17 f18 hj.src hmen mp mc h0 (by omega) (uLts_le (Nat.zero_le _) cl)
    obtain ⟨t, q1, q2⟩ := chkN_eq (all_mem hm a2)
    have e2 := e1.set (i := 10) (by decide) (by decide) (some v)
    have hj2 := hj.mov hp hc a3 a4
    obtain ⟨μ', b1, b2, b3, b4⟩ := j_append (C := evF fdF 14) (e := .tup [(.var 9), (.var 10), (.call 20 [(.var 10), (.cst (.str " "))])]) (t := .tup [a, v, t]) hj2 hp hc e2.f4 (v_tup (us := [_, _, _]) (evs_u (v_var (by rw [set_ne _ 9 (by decide), set_ne _ 9 (by decide)]; exact he.same (by decide) _)) (evs_u (v_var (e1.same (by decide) _)) (evs_u (v_call (evs_u (v_var (e1.same (by decide) _)) (evs_u v_cst evs_nil)) (q1 μ2)) evs_nil))) l3) hj2.src Gro.refl (gt_of q2 ma) hn
    refine ⟨(ρ.set 9 (some a)).set 6 (some (.loc m)), _, μ', ?_, ?_, e2, by rw [set_ne _ 20 (by decide), set_ne _ 20 (by decide), set_ne _ 20 (by decide)]; exact h20, b2, fun j x jf jp jc hx => by rw [b4 j jf]; exact a4.keep hx jp jc⟩
    · show asgTs [.nm 9, .nm 6] [a, .loc m] _ ρ = _
      have hl := he.len
      simp only [asgTs, asgT]
      rw [if_pos (by omega)]
      simp only [List.length_set]
      rw [if_pos (by omega)]
    · rw [exs_cons (ex_asg (v_call (evs_u (v_var e1.z) (evs_u (v_var g6) evs_nil)) a1) (by rw [e1.len]; decide)), exs_cons b1, exs_nil]
  refine fin_do (fun ρ' μ' => E p f ρ' ∧ ρ'[20]? = some (some (.int i)) ∧ J p c μ f 18 μ') ?_ ?_
  · have hpl := hj.src.lt1
    have hcl := hj.src.lt2
    have hfl : f < μ1.length := by obtain ⟨ts, h, _⟩ := hj.ex; exact (List.getElem?_eq_some_iff.mp h).1
    have hj' := (hj.appl [.lst menG]).appl [.lst menM]
    have gG : (μ1 ++ [Cell.lst menG] ++ [Cell.lst menM])[μ1.length]? = some (.lst menG) := by
      rw [List.getElem?_append_left (by simp)]; exact at_new
    have gM : (μ1 ++ [Cell.lst menG] ++ [Cell.lst menM])[μ1.length + 1]? = some (.lst menM) := by
      have := at_new (μ := μ1 ++ [Cell.lst menG]) (c := .lst menM)
      rwa [len_app] at this
    obtain ⟨ρ1, ρ1', μ2, a1, a2, a3, a5, a6, a7⟩ := step2 askG ρ 16 μ1.length menG _ menG_all (by decide) (by decide) (by decide) (by decide) (by decide) he h20 hj' gG (by omega) (by omega) (by omega)
    obtain ⟨ρ2, ρ2', μ3, b1, b2, b3, b5, b6, _⟩ := step2 askMy ρ1' 17 (μ1.length + 1) menM μ2 menM_all (by decide) (by decide) (by decide) (by decide) (by decide) a3 a5 a6 (a7 _ _ (by omega) (by omega) (by omega) gM) (by omega) (by omega) (by omega)
    refine ⟨ρ2', μ3, ?_, b3, b5, b6⟩
    have hv : (vb (evF fdF 14) (.tup [(.tup [(.tup [(.cst (.str "goes")), (.cst (.str "p")), (.cst (.str "r"))]), (.lst [(.tup [(.cst (.int 2)), (.cst (.int 2)), (.cst (.int 2))]), (.tup [(.cst (.int 1))]), (.tup [(.cst (.int 0)), (.cst (.int 0))]), (.tup [(.cst (.int 3)), (.cst (.int 3)), (.cst (.int 1))])])]), (.tup [(.tup [(.cst (.str "many")), (.cst (.str "p"))]), (.lst [(.tup [(.cst (.int 3)), (.cst (.int 2))]), (.tup [(.cst (.int 1)), (.cst (.int 1))])])])])).v ρ μ1 = .ok (.u (.tup [.tup [askG, .loc μ1.length], .tup [askMy, .loc (μ1.length + 1)]])) (μ1 ++ [Cell.lst menG] ++ [Cell.lst menM]) := by
      have v1 : (vb (evF fdF 14) (.lst [(.tup [(.cst (.int 2)), (.cst (.int 2)), (.cst (.int 2))]), (.tup [(.cst (.int 1))]), (.tup [(.cst (.int 0)), (.cst (.int 0))]), (.tup [(.cst (.int 3)), (.cst (.int 3)), (.cst (.int 1))])])).v ρ μ1 = .ok (.l menG) μ1 := rfl
      have v2 : (vb (evF fdF 14) (.lst [(.tup [(.cst (.int 3)), (.cst (.int 2))]), (.tup [(.cst (.int 1)), (.cst (.int 1))])])).v ρ (μ1 ++ [Cell.lst menG]) = .ok (.l menM) (μ1 ++ [Cell.lst menG]) := rfl
      have e : (μ1 ++ [Cell.lst menG]).length = μ1.length + 1 := by simp
      have w2 : (vb (evF fdF 14) (.tup [(.tup [(.cst (.str "many")), (.cst (.str "p"))]), (.lst [(.tup [(.cst (.int 3)), (.cst (.int 2))]), (.tup [(.cst (.int 1)), (.cst (.int 1))])])])).v ρ (μ1 ++ [Cell.lst menG]) = .ok (.u (.tup [askMy, .loc (μ1.length + 1)])) (μ1 ++ [Cell.lst menG] ++ [Cell.lst menM]) := by
        rw [← e]
        exact v_tup (us := [_, _]) (evs_u (v_tup (us := [_, _]) (evs_u v_cst (evs_u v_cst evs_nil)) l2) (evs_l v2 evs_nil)) l2
      exact v_tup (us := [_, _]) (evs_u (v_tup (us := [_, _]) (evs_u (v_tup (us := [_, _, _]) (evs_u v_cst (evs_u v_cst (evs_u v_cst evs_nil))) l3) (evs_l v1 evs_nil)) l2) (evs_u w2 evs_nil)) l2
    refine (ex_for (x := ⟨[.tup [askG, .loc μ1.length], .tup [askMy, .loc (μ1.length + 1)]], []⟩) hv rfl).trans ?_
    show forL _ _ _ (_ :: _ :: []) _ _ = _
    rw [forL_cons rfl a1 a2, forL_cons rfl b1 b2, forL_nil rfl]
  rintro ρ μ1 ⟨he, h20, hj⟩
  -- crossed
  refine fe_asg he (fun v μ' => v ∈ menC ∧ J p c μ f 18 μ') ?_ (by decide) ?_
  · obtain ⟨v, μ2, a1, a2, a3, a4⟩ := v_of (k := 12) f17 f18 (ρ := ρ) (μ := μ1) (e := .var 0) (es := .lst [(.tup [(.cst (.int 1)), (.cst (.int 1)), (.cst (.int 0))]), (.tup [(.cst (.int 1)), (.cst (.int 2)), (.cst (.int 0))]), (.tup [(.cst (.int 0))]), (.tup [(.cst (.int 12)), (.cst (.int 7))])]) (xs := menC) (v_var he.z) rfl hj.src Gro.refl (by decide) (by decide) (uLts_le (Nat.zero_le _) (by decide))
    exact ⟨v, μ2, a1, a2, hj.mov hp hc a3 a4⟩
  rintro ρ1 v μ2 he h10 k1 ⟨hv, hj⟩
  rw [← k1 20 (by decide)] at h20
  obtain ⟨vt, q1, q2⟩ := chkN_eq (all_mem menC_all hv)
  refine fe_app he hj hp hc (by decide) ?_ ?_
  · exact ⟨.tup [askC, v, vt], μ2, v_tup (us := [_, _, _]) (evs_u (v_tup (us := [_, _, _]) (evs_u v_cst (evs_u v_cst (evs_u v_cst evs_nil))) l3) (evs_u (v_var h10) (evs_u (v_call (evs_u (v_var h10) (evs_u v_cst evs_nil)) (q1 μ2)) evs_nil))) l3, hj.src, Gro.refl, gt_of q2 (by decide)⟩
  intro μ3 hj _
  -- word, row
  refine fin_do (fun ρ' μ' => ∃ (w : U) (ss : List Str), E p f ρ' ∧ ρ'[20]? = some (some (.int i)) ∧ ρ'[21]? = some (some w) ∧ ρ'[22]? = some (some (.tup (ss.map .str))) ∧ w ∈ menW ∧ (∀ x ∈ ss, x = "a" ∨ x = "b") ∧ ss.length ≤ 4 ∧ J p c μ f 19 μ') ?_ ?_
  · obtain ⟨w, μ5, a1, a2, a3, a4⟩ := v_of (k := 12) f17 f18 (ρ := ρ1) (μ := μ3) (e := .var 0) (es := .lst [(.cst (.str "both")), (.cst (.str "sequence")), (.cst (.str "turned")), (.cst (.str "neither"))]) (xs := menW) (v_var he.z) rfl hj.src Gro.refl (by decide) (by decide) (uLts_le (Nat.zero_le _) (by decide))
    have l1 := a3.lt1
    have l2' := a3.lt2
    obtain ⟨ss, μ6, b1, b2, b3, b4, b5⟩ := row_draw (a3.app (l := [.lst [.str "a", .str "b"]])) (n := μ5.length) at_new (by omega) (by omega)
    have vl : (vb (evF fdF 14) (.lst [(.cst (.str "a")), (.cst (.str "b"))])).v ρ1 μ5 = .ok (.l [.str "a", .str "b"]) μ5 := rfl
    have e1 := he.set (i := 21) (by decide) (by decide) (some w)
    refine ⟨(ρ1.set 21 (some w)).set 22 (some (.tup (ss.map .str))), μ6, ex_par2 (evs_u a1 (evs_u (v_call (evs_u (v_var he.z) (evs_l vl (evs_u v_cst evs_nil))) b1) evs_nil)) ?_, w, ss, e1.set (by decide) (by decide) _, by rw [set_ne _ 20 (by decide), set_ne _ 20 (by decide)]; exact h20, ?_, e1.same (by decide) _, a2, b2, b3, (hj.mov hp hc a3 a4).mov hp hc b4 (Gro.app.trans b5)⟩
    · have hl := he.len
      simp only [setAll]
      rw [if_pos (by omega)]
      simp only [List.length_set]
      rw [if_pos (by omega)]
    · rw [set_ne _ 21 (by decide)]; exact he.same (by decide) _
  rintro ρ1 μ2 ⟨w, ss, he, h20, h21, h22, hw, hss, hsl, hj⟩
  have hsm : ∀ x ∈ ss, Sm 1 x := fun x hx => by rcases hss x hx with rfl | rfl <;> exact sm_of (by decide)
  have hso : ∀ x ∈ ss, PyData.strOk x = true := fun x hx => by rcases hss x hx with rfl | rfl <;> decide +kernel
  -- letters
  refine fe_asg he (fun v μ' => μ2 = μ' ∧ v = .str (if (ss.map U.str).isEmpty then "nothing" else Txt.join " " ss)) ?_ (by decide) ?_
  · have hd : dOk 50 (.tup (ss.map U.str)) = true := by
      rw [dOk]; exact dOks_of fun u hu => by obtain ⟨x, hx, rfl⟩ := List.mem_map.mp hu; exact hso x hx
    have hb := b_neNil (C := evF fdF 14) (v_var (μ := μ2) h22) hd
    refine ⟨_, μ2, v_ite hb ?_, rfl, rfl⟩
    cases ss with
    | nil => rfl
    | cons x xs =>
      have hsum := sum_le fun s hs => (hsm s hs).1
      have hz : 100 ≤ sizeLine := by decide
      have g3 : ((" " : Str)).length = 1 := by decide
      exact v_call (evs_u (v_var h22) (evs_u v_cst evs_nil)) (joined_call (k := 13) (txs_strs (x :: xs)) (by rw [g3]; omega))
  rintro ρ2 v11 _ he2 h11 k2 ⟨rfl, hv11⟩
  rw [← k2 20 (by decide)] at h20
  rw [← k2 21 (by decide)] at h21
  rw [← k2 22 (by decide)] at h22
  -- place
  refine fe_asg he2 (fun v μ' => ∃ q : Int, v = .int q ∧ 0 ≤ q ∧ q < 40 ∧ J p c μ f 19 μ') ?_ (by decide) ?_
  · have hlen : (vb (evF fdF 14) (.bin .Add (.b1 .len (.var 22)) (.cst (.int 2)))).v ρ2 μ2 = .ok (.u (.int ((ss.map U.str).length + 2))) μ2 := v_addi (v_b1 (v_var h22) rfl) v_cst
    obtain ⟨q, μ6, b1, b2, b3, b4, b5⟩ := v_pick (pk := 17) (k := 13) f17 (ρ := ρ2) (μ := μ2) (e := .var 0) (v_var he2.z) hlen hj.src Gro.refl (by omega) (by simp; omega)
    rw [List.length_map] at b3
    exact ⟨_, μ6, b1, q, rfl, b2, by omega, hj.mov hp hc b4 b5⟩
  rintro ρ3 _ μ3 he h12 k3 ⟨q, rfl, q0, q1', hj⟩
  rw [← k3 20 (by decide)] at h20
  rw [← k3 21 (by decide)] at h21
  rw [← k3 22 (by decide)] at h22
  rw [← k3 11 (by decide)] at h11
  obtain ⟨qt, hqt, sqt⟩ := num_tx q0 q1'
  obtain ⟨_, _, sit'⟩ := num_tx i0 i1
  have gp := good_p (us := ss.map .str) rfl hsm hso (by omega) q0 q1' rfl hqt
  have gc := good_p (us := ss.map .str) rfl hsm hso (by omega) i0 i1 rfl hit
  have gpl := gp.2.2.1
  obtain ⟨it', e1, sit⟩ := num_tx i0 i1
  rw [hit] at e1; cases e1
  have hz : 200 ≤ sizeLine := by decide
  have sl := sqt.1
  have sl2 := sit.1
  subst hv11
  -- sequence
  refine fe_app he hj hp hc (by decide) ?_ ?_
  · exact ⟨.tup [askSq, w, w], μ3, v_tup (us := [_, _, _]) (evs_u (v_tup (us := [_, _]) (evs_u v_cst (evs_u v_cst evs_nil)) l2) (evs_u (v_var h21) (evs_u (v_var h21) evs_nil))) l3, hj.src, Gro.refl, gt_of (good_of (all_mem menW_all hw)) (by decide)⟩
  intro μ4 hj _
  refine fe_app he hj hp hc (by decide) ?_ ?_
  · have e4 : ((" at " : Str)).length = 4 := by decide
    exact ⟨_, μ4, v_tup (us := [_, _, _]) (evs_u (v_tup (us := [_, _, _]) (evs_u v_cst (evs_u v_cst (evs_u v_cst evs_nil))) l3) (evs_u (v_tup (us := [_, _]) (evs_u (v_var h22) (evs_u (v_var h12) evs_nil)) l2) (evs_u (v_adds (v_adds (v_var h11) v_cst (by omega)) (v_str (v_var h12) hqt) (by rw [str_len]; omega)) evs_nil))) l3, hj.src, Gro.refl, gt_of gp.1 (by decide)⟩
  intro μ5 hj _
  refine fe_app he hj hp hc (by decide) ?_ ?_
  · have e4 : ((": " : Str)).length = 2 := by decide
    exact ⟨_, μ5, v_tup (us := [_, _, _]) (evs_u (v_tup (us := [_, _]) (evs_u v_cst (evs_u v_cst evs_nil)) l2) (evs_u (v_tup (us := [_, _]) (evs_u (v_var h20) (evs_u (v_var h22) evs_nil)) l2) (evs_u (v_adds (v_adds (v_str (v_var h20) hit) v_cst (by omega)) (v_var h11) (by rw [str_len]; omega)) evs_nil))) l3, hj.src, Gro.refl, gt_of gc.2.1 (by decide)⟩
  intro μ6 hj _
  refine fe_app he hj hp hc (by decide) ?_ ?_
  · exact ⟨_, μ6, v_tup (us := [_, _, _]) (evs_u (v_tup (us := [_, _, _]) (evs_u v_cst (evs_u v_cst (evs_u v_cst evs_nil))) l3) (evs_u v_cst (evs_u v_cst evs_nil))) l3, hj.src, Gro.refl, gt_of (good_of pn_ok) (by decide)⟩
  intro μ7 hj _
  -- again
  refine fe_asg he (fun v μ' => μ7 = μ' ∧ v = .str "sheet s: reads a, writes x;\nwalker p of s: left l0 a l0, right r0 a r0, ") ⟨_, μ7, v_cst, rfl, rfl⟩ (by decide) ?_
  rintro ρ4 _ _ he h13 k4 ⟨rfl, rfl⟩
  refine fe_asg he (fun v μ' => μ7 = μ' ∧ v = .str again) ⟨_, μ7, v_adds (v_var h13) v_cst (by decide), rfl, by decide +kernel⟩ (by decide) ?_
  rintro ρ5 _ _ he h13 k5 ⟨rfl, rfl⟩
  -- the end
  obtain ⟨ts, t1, t2, t3⟩ := hj.ex
  have hv : (vb (evF fdF 14) (.bin .Add (.var 4) (.lst [(.tup [(.tup [(.cst (.str "crosses")), (.cst (.str "p"))]), (.cst .non), (.cst (.str "none"))]), (.tup [(.tup [(.cst (.str "again")), (.cst (.str "p"))]), (.var 13), (.var 13)])]))).v ρ5 μ7 = .ok (.l (ts ++ [.tup [.tup [.str "crosses", .str "p"], .non, .str "none"], .tup [.tup [.str "again", .str "p"], .str again, .str again]])) μ7 := by
    refine v_bin (y := .l [.tup [.tup [.str "crosses", .str "p"], .non, .str "none"], .tup [.tup [.str "again", .str "p"], .str again, .str again]]) (v_var he.f4) (v_lst (us := [_, _]) (evs_u (v_tup (us := [_, _, _]) (evs_u (v_tup (us := [_, _]) (evs_u v_cst (evs_u v_cst evs_nil)) l2) (evs_u v_cst (evs_u v_cst evs_nil))) l3) (evs_u (v_tup (us := [_, _, _]) (evs_u (v_tup (us := [_, _]) (evs_u v_cst (evs_u v_cst evs_nil)) l2) (evs_u (v_var h13) (evs_u (v_var h13) evs_nil))) l3) evs_nil)) l2) ?_
    show addT (.u (.loc f)) (.l _) μ7 = _
    simp only [addT, T.lstM, t1]
    rw [if_pos (by simp; omega)]
  refine ⟨μ7.length, _, _, exs_rt (ex_ret_l hv), hj.src.app, hj.gro.trans Gro.app, hj.gro.1, at_new, by simp; omega, ?_⟩
  intro t ht
  rcases List.mem_append.mp ht with q | q
  · exact t3 t q
  · simp only [List.mem_cons, List.mem_nil_iff, or_false] at q
    rcases q with rfl | rfl
    · exact gt_of (good_of cn_ok) (by decide)
    · exact gt_of (good_of ag_ok) (by decide)
theorem some_ok {p c : Nat} {μ : Store} (s : Src μ p c) : ∃ xs μ', evF fdF 15 30 [.loc p] μ = .ok (.loc μ.length) (μ' ++ [.lst xs]) ∧ μ'.length = μ.length ∧ Src (μ' ++ [.lst xs]) p c ∧ ∀ t ∈ xs, GoodT t := by
  have hp := s.lt1
  have hc := s.lt2
  obtain ⟨n, xs, μ1, h1, h2, h3, h4, h5, h6, h7⟩ := some_head s hp hc fun ρ f μ' he hj => some_tail hp hc he hj
  obtain ⟨e1, e2, e3⟩ := evF_srcL (us := [.loc p]) (fd := d30) (f := 30) rfl rfl rfl h1 s h2 h3 h4 h5 (uLts_le (Nat.zero_le _) (uLts_of fun t ht => (h7 t ht).cl))
  exact ⟨xs, _, e1, (off_take h3).1, e2, h7⟩
end K56
end
section
set_option linter.all false
set_option maxRecDepth 100000
namespace K56
open PySem L2 DP
/-! the law's loop -/
def seg : List Ss := [(.asg (.nm 6) (.lst [(.tup [(.tup [(.cst (.str "great")), (.cst (.str "p")), (.var 5)]), (.bin .Add (.cst (.str "great p ")) (.b1 .str (.var 5)))])])), (.ifs (.cmp .In (.ix (.var 2) (.cst (.int 0))) (.tup [(.cst (.str "goes")), (.cst (.str "crossed")), (.cst (.str "piece")), (.cst (.str "blocks"))])) [(.ex (.mt .append (.var 6) [(.tup [(.tup [(.cst (.str "refused")), (.cst (.str "round")), (.cst (.int 0))]), (.cst (.str "refused round 0"))])]))] []), (.ifs (.cmp .NotEq (.ix (.var 2) (.cst (.int 0))) (.cst (.str "goes"))) [(.ex (.mt .append (.var 6) [(.tup [(.tup [(.cst (.str "refused")), (.cst (.str "misfit")), (.cst (.int 0))]), (.cst (.str "refused misfit 0"))])]))] [])]
/-- an answer that is not told, and its text -/
def chkA (a t : U) : Bool := match t with
  | .tup [x, .str s] => isOk (evF fdF 15 15 [a, x] []) (.str s) && (smB 100000 s && uLt 0 x)
  | _ => false
def chkG (a : U) (n : Int) : Bool := match exs (evF fdF 15) seg [none, none, some a, none, none, some (.int n), none, none, none] [] with
  | .ok (.nx [_, _, _, _, _, _, some (.loc 0), _, _]) [.lst xs] => uLt 0 a && (decide (0 < xs.length) && (decide (xs.length < 10) && (uLts 0 xs && xs.all (chkA a))))
  | _ => false
def isP (a : U) : Bool := match a with
  | .tup (.str _ :: .str z :: _) => strB z "p"
  | _ => false
def shp (a : U) : Bool := match a with
  | .tup (.str _ :: .str _ :: _) => true
  | _ => false
theorem shp_all : asks.all shp = true := by decide +kernel
theorem chkG_all : (asks.filter isP).all (fun a => ([0, 1, 2, 3, 4] : List Int).all (chkG a)) = true := by decide +kernel
theorem chkG_eq {a : U} {n : Int} (h : chkG a n = true) : ∃ (o0 o1 o2 o3 o4 o5 o7 o8 : Option U) (xs : List U), exs (evF fdF 15) seg [none, none, some a, none, none, some (.int n), none, none, none] [] = .ok (.nx [o0, o1, o2, o3, o4, o5, some (.loc 0), o7, o8]) [.lst xs] ∧ uLt 0 a = true ∧ 0 < xs.length ∧ xs.length < 10 ∧ uLts 0 xs = true ∧ xs.all (chkA a) = true := by
  unfold chkG at h
  split at h
  · rename_i hr
    simp only [Bool.and_eq_true, decide_eq_true_eq] at h
    exact ⟨_, _, _, _, _, _, _, _, _, hr, h.1, h.2.1, h.2.2.1, h.2.2.2.1, h.2.2.2.2⟩
  · cases h
theorem chkA_eq {a t : U} (ha : uLt 0 a = true) (h : chkA a t = true) : ∃ x s, t = .tup [x, .str s] ∧ (∀ μ, evF fdF 15 15 [a, x] μ = .ok (.str s) μ) ∧ (reprText s).length ≤ sizeLine := by
  unfold chkA at h
  split at h
  · rename_i x s
    simp only [Bool.and_eq_true] at h
    exact ⟨x, s, rfl, isOk_any (by simp only [uLts, ha, h.2.2]; rfl) h.1, (sm_of h.2.1).repr (Nat.le_refl _)⟩
  · cases h
theorem ix1 {a b : U} {r : List U} {μ : Store} : ixD (.u (.tup (a :: b :: r))) (.u (.int 1)) μ = some (.u b) := by
  show (atI (a :: b :: r) 1).map T.u = _
  unfold atI ixN
  rw [if_pos (by decide), if_pos (by simp; omega)]
  rfl
theorem v_repr {C : Calls} {e : Sx} {ρ : Ev} {μ μ1 : Store} {s : Str} (h : (vb C e).v ρ μ = .ok (.u (.str s)) μ1) (hs : (reprText s).length ≤ sizeLine) : (vb C (.b1 .repr e)).v ρ μ = .ok (.u (.str (reprText s))) μ1 := by
  refine v_b1 h ?_
  show (if (reprQ s).length ≤ sizeLine then _ else _) = _
  rw [reprQ_eq, if_pos hs]
theorem ne_self {s : Str} {μ : Store} : cmpD .NotEq (.u (.str s)) (.u (.str s)) μ = some false := by
  show some (!(strB s s)) = some false
  rw [strB_self]; rfl
def lapB : List Ss := [(.ifs (.cmp .NotEq (.b1 .repr (.call 15 [(.var 2), (.tup [(.cst (.str "told")), (.var 3)])])) (.b1 .repr (.var 4))) [(.ret (.cst (.bl false)))] []), (.ifs (.cmp .NotEq (.ix (.var 2) (.cst (.int 1))) (.cst (.str "p"))) [.cnt] []), (.asg (.nm 5) (.ite (.cmp .Eq (.ix (.var 2) (.cst (.int 0))) (.cst (.str "goes"))) (.cst (.int 2)) (.call 18 [(.var 1), (.lst [(.cst (.int 0)), (.cst (.int 1)), (.cst (.int 3)), (.cst (.int 4))])])))] ++ (seg ++ [(.asg (.tp [(.nm 7), (.nm 8)]) (.call 18 [(.var 1), (.var 6)])), (.ifs (.cmp .NotEq (.b1 .repr (.call 15 [(.var 2), (.var 7)])) (.b1 .repr (.var 8))) [(.ret (.cst (.bl false)))] [])])
/-- what stands while the loop goes on -/
structure L (xs : List U) (ρ : Ev) (μ : Store) : Prop where
  len : ρ.length = 9
  z : ρ[1]? = some (some (.loc 1))
  src : Src μ 1 0
  lst : μ[2]? = some (.lst xs)
def K7 (i : Nat) : Bool := i == 6
theorem lap_ok {xs : List U} {ρ : Ev} {μ : Store} {t : U} (h : L xs ρ μ) (ht : GoodT t) : ∃ ρ1 ρ2 μ2, asgT (.tp [.nm 2, .nm 3, .nm 4]) t μ ρ = some ρ1 ∧ (exs (evF fdF 15) lapB ρ1 μ = .ok (.nx ρ2) μ2 ∨ exs (evF fdF 15) lapB ρ1 μ = .ok (.ct ρ2) μ2) ∧ L xs ρ2 μ2 := by
  obtain ⟨a, v, _, rfl, ⟨s, rfl, g1, g2, g3⟩, ha⟩ := ht
  have hl := h.len
  have e1 : asgT (.tp [.nm 2, .nm 3, .nm 4]) (.tup [a, v, .str s]) μ ρ = some (((ρ.set 2 (some a)).set 3 (some v)).set 4 (some (.str s))) := by
    show asgTs [.nm 2, .nm 3, .nm 4] [a, v, .str s] _ ρ = _
    simp only [asgTs, asgT]
    rw [if_pos (by omega)]
    simp only [List.length_set]
    rw [if_pos (by omega)]
    simp only [List.length_set]
    rw [if_pos (by omega)]
  have k2 : (((ρ.set 2 (some a)).set 3 (some v)).set 4 (some (.str s)))[2]? = some (some a) := by
    rw [set_ne _ 2 (by decide), set_ne _ 2 (by decide), List.getElem?_set, if_pos rfl, if_pos (by omega)]
  have k3 : (((ρ.set 2 (some a)).set 3 (some v)).set 4 (some (.str s)))[3]? = some (some v) := by
    rw [set_ne _ 3 (by decide), List.getElem?_set, if_pos rfl, if_pos (by simp; omega)]
  have k4 : (((ρ.set 2 (some a)).set 3 (some v)).set 4 (some (.str s)))[4]? = some (some (.str s)) := by
    rw [List.getElem?_set, if_pos rfl, if_pos (by simp; omega)]
  have k1 : (((ρ.set 2 (some a)).set 3 (some v)).set 4 (some (.str s)))[1]? = some (some (.loc 1)) := by
    rw [set_ne _ 1 (by decide), set_ne _ 1 (by decide), set_ne _ 1 (by decide)]; exact h.z
  have k0 : (((ρ.set 2 (some a)).set 3 (some v)).set 4 (some (.str s))).length = 9 := by simp [hl]
  refine ⟨((ρ.set 2 (some a)).set 3 (some v)).set 4 (some (.str s)), ?_⟩
  generalize ((ρ.set 2 (some a)).set 3 (some v)).set 4 (some (.str s)) = ρ1 at e1 k0 k1 k2 k3 k4 ⊢
  have hs := all_mem shp_all ha
  obtain ⟨w, z, r, rfl⟩ : ∃ w z r, a = .tup (.str w :: .str z :: r) := by
    unfold shp at hs
    split at hs
    · exact ⟨_, _, _, rfl⟩
    · cases hs
  have first : exs (evF fdF 15) lapB ρ1 μ = exs (evF fdF 15) (lapB.drop 1) ρ1 μ :=
    exs_ifs_f (b_cmp (v_repr (v_call (evs_u (v_var k2) (evs_u (v_tup (us := [_, _]) (evs_u v_cst (evs_u (v_var k3) evs_nil)) l2) evs_nil)) (g1 μ)) g2) (v_repr (v_var k4) g2) ne_self)
  have hb : (vb (evF fdF 15) (.cmp .NotEq (.ix (.var 2) (.cst (.int 1))) (.cst (.str "p")))).b ρ1 μ = .ok (!(strB z "p")) μ := b_cmp (v_ix (v_var k2) v_cst ix1) v_cst rfl
  cases hz : (strB z ("p" : Str)) with
  | false =>
    rw [hz] at hb
    refine ⟨ρ1, μ, e1, .inr ?_, ⟨k0, k1, h.src, h.lst⟩⟩
    rw [first]
    show exs (evF fdF 15) (_ :: _) ρ1 μ = _
    rw [exs, ex_ifs hb]
    rfl
  | true =>
    rw [hz] at hb
    have hP : isP (.tup (.str w :: .str z :: r)) = true := by simp only [isP]; exact hz
    have hG := all_mem chkG_all (List.mem_filter.mpr ⟨ha, hP⟩)
    have second : exs (evF fdF 15) lapB ρ1 μ = exs (evF fdF 15) (lapB.drop 2) ρ1 μ := first.trans (exs_ifs_f hb)
    -- the number
    have hnum : ∃ (n : Int) (μ2 : Store), (vb (evF fdF 15) (.ite (.cmp .Eq (.ix (.var 2) (.cst (.int 0))) (.cst (.str "goes"))) (.cst (.int 2)) (.call 18 [(.var 1), (.lst [(.cst (.int 0)), (.cst (.int 1)), (.cst (.int 3)), (.cst (.int 4))])]))).v ρ1 μ = .ok (.u (.int n)) μ2 ∧ n ∈ ([0, 1, 2, 3, 4] : List Int) ∧ Src μ2 1 0 ∧ Gro 1 0 μ μ2 := by
      have hc : (vb (evF fdF 15) (.cmp .Eq (.ix (.var 2) (.cst (.int 0))) (.cst (.str "goes")))).b ρ1 μ = .ok (strB w "goes") μ := b_cmp (v_ix (v_var k2) v_cst ix0) v_cst rfl
      cases hw : (strB w ("goes" : Str)) with
      | true =>
        rw [hw] at hc
        exact ⟨2, μ, v_ite hc v_cst, by decide, h.src, Gro.refl⟩
      | false =>
        rw [hw] at hc
        obtain ⟨x, μ2, a1, a2, a3, a4⟩ := v_of (k := 13) f17 f18 (ρ := ρ1) (μ := μ) (e := .var 1) (es := .lst [(.cst (.int 0)), (.cst (.int 1)), (.cst (.int 3)), (.cst (.int 4))]) (xs := [.int 0, .int 1, .int 3, .int 4]) (v_var k1) rfl h.src Gro.refl (by decide) (by decide) (uLts_le (Nat.zero_le _) (by decide))
        simp only [List.mem_cons, List.mem_nil_iff, or_false] at a2
        rcases a2 with rfl | rfl | rfl | rfl
        · exact ⟨_, μ2, v_ite hc a1, by decide, a3, a4⟩
        · exact ⟨_, μ2, v_ite hc a1, by decide, a3, a4⟩
        · exact ⟨_, μ2, v_ite hc a1, by decide, a3, a4⟩
        · exact ⟨_, μ2, v_ite hc a1, by decide, a3, a4⟩
    obtain ⟨n, μ2, n1, n2, s2, q2⟩ := hnum
    obtain ⟨o0, o1, o2, o3, o4, o5, o7, o8, ys, c1, c2, c3, c4, c5, c6⟩ := chkG_eq (all_mem hG n2)
    have third : exs (evF fdF 15) lapB ρ1 μ = exs (evF fdF 15) (lapB.drop 3) (ρ1.set 5 (some (.int n))) μ2 := second.trans (exs_cons (ex_asg n1 (by omega)))
    -- great or refused
    have hle : leE (shE μ2.length [none, none, some (.tup (.str w :: .str z :: r)), none, none, some (.int n), none, none, none]) (ρ1.set 5 (some (.int n))) := by
      refine ⟨by rw [List.length_set, k0]; rfl, fun i u hi => ?_⟩
      have hi9 : i < 9 := (List.getElem?_eq_some_iff.mp hi).1
      rcases (show i = 0 ∨ i = 1 ∨ i = 2 ∨ i = 3 ∨ i = 4 ∨ i = 5 ∨ i = 6 ∨ i = 7 ∨ i = 8 by omega) with h' | h' | h' | h' | h' | h' | h' | h' | h' <;> subst h'
      · cases hi
      · cases hi
      · have : some (some (sh μ2.length (.tup (.str w :: .str z :: r)))) = some (some u) := hi
        rw [sh_cl _ c2] at this
        cases this
        rw [set_ne _ 2 (by decide)]; exact k2
      · cases hi
      · cases hi
      · cases hi
        rw [List.getElem?_set, if_pos rfl, if_pos (by omega)]; rfl
      · cases hi
      · cases hi
      · cases hi
    obtain ⟨ρ3, d1, d2⟩ := exs_anyN (shk 15) (ss := seg) (by decide +kernel) c1 μ2 hle
    rw [shM_nil] at d1
    have hkp := kp_exs (A := K7) (C := evF fdF 15) seg (by decide +kernel) (ρ1.set 5 (some (.int n))) μ2
    rw [d1] at hkp
    have e6 : ρ3[6]? = some (some (.loc μ2.length)) := d2.2 6 _ rfl
    have el3 : ρ3.length = 9 := by rw [hkp.1, List.length_set, k0]
    have e31 : ρ3[1]? = some (some (.loc 1)) := by rw [hkp.2 1 rfl, set_ne _ 1 (by decide)]; exact k1
    have e32 : ρ3[2]? = some (some (.tup (.str w :: .str z :: r))) := by rw [hkp.2 2 rfl, set_ne _ 2 (by decide)]; exact k2
    have fourth : exs (evF fdF 15) lapB ρ1 μ = exs (evF fdF 15) [(.asg (.tp [(.nm 7), (.nm 8)]) (.call 18 [(.var 1), (.var 6)])), (.ifs (.cmp .NotEq (.b1 .repr (.call 15 [(.var 2), (.var 7)])) (.b1 .repr (.var 8))) [(.ret (.cst (.bl false)))] [])] ρ3 (shM μ2 [.lst ys]) := third.trans (exs_app' d1)
    have esh : shM μ2 [.lst ys] = μ2 ++ [.lst ys] := by
      show μ2 ++ [shC μ2.length (.lst ys)] = _
      rw [shC, shs_cl _ c5]
    rw [esh] at fourth
    have lt1 := s2.lt1
    have lt2 := s2.lt2
    obtain ⟨x, μ4, a1, a2, a3, a4⟩ := of_ok (k := 13) f17 f18 (s2.app (l := [.lst ys])) (n := μ2.length) (xs := ys) at_new (by omega) (by omega) c3 (by omega) (uLts_le (Nat.zero_le _) c5)
    obtain ⟨y, s', rfl, b1, b2⟩ := chkA_eq c2 (all_mem c6 a2)
    have fifth : exs (evF fdF 15) lapB ρ1 μ = .ok (.nx ((ρ3.set 7 (some y)).set 8 (some (.str s')))) μ4 := by
      rw [fourth]
      have ea : asgT (.tp [.nm 7, .nm 8]) (.tup [y, .str s']) μ4 ρ3 = some ((ρ3.set 7 (some y)).set 8 (some (.str s'))) := by
        show asgTs [.nm 7, .nm 8] [y, .str s'] _ ρ3 = _
        simp only [asgTs, asgT]
        rw [if_pos (by omega)]
        simp only [List.length_set]
        rw [if_pos (by omega)]
      rw [exs_cons (ex_asgT (v_call (evs_u (v_var e31) (evs_u (v_var e6) evs_nil)) a1) ea)]
      rw [exs_ifs_f (b_cmp (v_repr (v_call (evs_u (v_var (by rw [set_ne _ 2 (by decide), set_ne _ 2 (by decide)]; exact e32)) (evs_u (v_var (u := y) (by rw [set_ne _ 7 (by decide), List.getElem?_set, if_pos rfl, if_pos (by omega)])) evs_nil)) (b1 μ4)) b2) (v_repr (v_var (u := .str s') (by rw [List.getElem?_set, if_pos rfl, if_pos (by simp; omega)])) b2) ne_self)]
      rfl
    refine ⟨_, μ4, e1, .inl fifth, ⟨by simp [el3], by rw [set_ne _ 1 (by decide), set_ne _ 1 (by decide)]; exact e31, a3, ?_⟩⟩
    exact a4.keep ((q2.trans Gro.app).keep h.lst (by decide) (by decide)) (by decide) (by decide)
theorem loop_ok {xs : List U} : ∀ (us : List U) (ρ : Ev) (μ : Store), L xs ρ μ → (∀ t ∈ us, GoodT t) → ∃ ρ' μ', forL (.tp [.nm 2, .nm 3, .nm 4]) ⟨xs, [(2, xs)]⟩ (exs (evF fdF 15) lapB) us ρ μ = .ok (.nx ρ') μ' ∧ L xs ρ' μ'
  | [], ρ, μ, h, _ => ⟨ρ, μ, forL_nil (by simp [Itm.ok, h.lst]), h⟩
  | t :: us, ρ, μ, h, g => by
    obtain ⟨ρ1, ρ2, μ2, q1, q2, q3⟩ := lap_ok h (g t List.mem_cons_self)
    obtain ⟨ρ', μ', r1, r2⟩ := loop_ok us ρ2 μ2 q3 fun x hx => g x (List.mem_cons_of_mem _ hx)
    refine ⟨ρ', μ', ?_, r2⟩
    rw [forL, if_pos (by simp [Itm.ok, h.lst]), q1]
    dsimp only
    rcases q2 with q2 | q2
    · rw [q2]; exact r1
    · rw [q2]; exact r1
def done3 : List U := [.tup [.str "grow", .str "t", .str "p"], .tup [.str "feed", .str "t", .str "a"], .tup [.str "back", .str "t"]]
def restL : List Ss := d31.body.drop 2
theorem rest_ok : (match exs (evF fdF 15) restL [none, none, none, none, none, none, none, none, none] [] with | .ok (.rt (.bl true)) _ => true | _ => false) = true := by decide +kernel
theorem law : ∀ ns : List Int, ns.length ≤ 63 → ∃ μ, evF fdF (15 + 1) 31 [scriptU ns] [] = .ok (.bl true) μ := by
  intro ns hn
  obtain ⟨μ1, h1, s1, l1⟩ := source_ok (F := fdF) (f := 16) (k := 14) f16 ns hn
  obtain ⟨xs, μ2, h2, l2', s2, g2⟩ := some_ok s1
  have hL : L xs [some (scriptU ns), some (.loc 1), none, none, none, none, none, none, none] (μ2 ++ [.lst xs]) := ⟨rfl, rfl, s2, by
    have := at_new (μ := μ2) (c := .lst xs)
    rwa [l2', l1] at this⟩
  obtain ⟨ρ3, μ3, h3, hL3⟩ := loop_ok xs _ _ hL g2
  have hr := rest_ok
  split at hr
  · rename_i l hrest
    have h4 := exs_anyR (shk 15) (ss := restL) (by decide +kernel) hrest rfl μ3 (ρ := ρ3) ⟨by rw [hL3.len]; rfl, fun i u hi => by
      have hi9 : i < 9 := (List.getElem?_eq_some_iff.mp hi).1
      rcases (show i = 0 ∨ i = 1 ∨ i = 2 ∨ i = 3 ∨ i = 4 ∨ i = 5 ∨ i = 6 ∨ i = 7 ∨ i = 8 by omega) with h' | h' | h' | h' | h' | h' | h' | h' | h' <;> subst h' <;> cases hi⟩
    rw [shM_nil] at h4
    have hb : exs (evF fdF 15) d31.body [some (scriptU ns), none, none, none, none, none, none, none, none] [] = .ok (.rt (.bl true)) (shM μ3 l) := by
      refine (exs_cons (ex_asg (v_call (evs_u (v_var rfl) evs_nil) h1) (by simp))).trans ?_
      rw [l1] at h2
      have hi : itmOf (.u (.loc 2)) (μ2 ++ [.lst xs]) = some ⟨xs, [(2, xs)]⟩ := by simp only [itmOf, hL.lst]
      refine (exs_cons (ρ1 := ρ3) (μ1 := μ3) ?_).trans h4
      exact (ex_for (v_call (evs_u (v_var rfl) evs_nil) h2) hi).trans h3
    refine ⟨(gc [] (.bl true) (shM μ3 l)).2, ?_⟩
    · simp only [evF]
      rw [show fdF 31 = some d31 from rfl]
      dsimp only
      rw [if_pos (show [scriptU ns].length = d31.pars from rfl)]
      show (match exs (evF fdF 15) d31.body [some (scriptU ns), none, none, none, none, none, none, none, none] [] with | .ok (.nx _) μ1 => _ | .ok (.rt u) μ1 => _ | .ok (.xx x _) μ1 => _ | _ => _) = _
      rw [hb]
      show Res.ok (gc [] (.bl true) (shM μ3 l)).1 _ = _
      have : (gc [] (.bl true) (shM μ3 l)).1 = .bl true := by
        unfold gc
        have hc : cln [] (shM μ3 l) = true := rfl
        rw [if_pos hc]; rfl
      rw [this]
  · cases hr
end K56
end
section
set_option linter.all false
set_option maxRecDepth 100000
open PySem PySem.W PyProof.Rows
theorem K56.walk {l : PySem.W.OpenLaw} {q : Program} {loose : List Str} {XP : (Str → Option Value) → Heap → Prop} {YP : World → Heap → Prop} {d : DefRec} {K : Params → PySem.W.Frag} (hn : l.most = some 63) (hdf : d.params.defaults = [])
    (hY : ∀ (w : World) (h : Heap), YP w h → (K w.params).In h)
    (F : ∀ (w : World) (mg : Str → Option Value) (fa : Addr) (h : Heap), (K w.params).In h → h.Ns mainGlobals mg → mg d.name = some (.ref fa) →
      ∃ fd : FuncData, (∀ (s : Shared) (u : Value), BindsTo s fd ⟨[u], []⟩ [("script", u)]) ∧ ∀ base : Heap, (K w.params).In base → base.Ns mainGlobals mg → L2.FnOk l.prog w (K w.params) mg base (L2.CX l.prog w) 16 fa fd ["script"] (DP.spL (K w.params) 63)) :
    PySem.W.WalkO q loose XP YP l.row.toRowW d [] (fun f vs => PySem.call f vs) :=
  L2.walk_of (n := 63) (k := 16) (x := "script") (CX := fun w => L2.CX l.prog w) (sp := fun w => DP.spL (K w.params) 63) hn (by decide) hdf ⟨rfl, by decide, by decide⟩ hY F (fun _ _ a ns hl ho hS => ⟨a, ns, rfl, hl, ho, hS, fun _ => rfl⟩) fun _ _ _ _ _ z => (let ⟨_, _, _, _, _, _, _, _, _, _, _, _, z⟩ := z; z)
set_option maxRecDepth 100000 in
set_option maxHeartbeats 0 in
theorem PySem.Challenge.cw_camefrom_k56_texts_of_answers_holds : PySem.Challenge.rw_camefrom_k56_texts_of_answers.Holds := by
  w_on; o_law; k_head; (case hw => w_witness2)
  k_fill
  refine K56.walk (l := PySem.Challenge.rw_camefrom_k56_texts_of_answers) rfl rfl (fun w h Y => PySem.W.kIn_of Y) ?F
  case F =>
    intro w mg fa h KX G hmg
    refine' K56.all (k := 15) KX G hmg K56.law ?xb ?xf0 ?xf1 ?xf2 ?xf3 ?xf4 ?xf5 ?xf6 ?xf7 ?xf8 ?xf9 ?xf10 ?xf11 ?xf12 ?xf13 ?xf14 ?xf15 ?xf16 ?xf17 ?xf18 ?xf19 ?xf20 ?xf21 ?xf22 ?xf23 ?xf24 ?xf25 ?xf26 ?xf27 ?xf28 ?xf29 ?xf30 ?xf31 ?xg0 ?xg1 ?xg2 ?xg3 ?xg4 ?xg5 ?xg6 ?xg7
    (case xb => refine ⟨?_, ?_, ?_, ?_, ?_, ?_, ?_, ?_, ?_, ?_, ?_, ?_, ?_, ?_, ?_, ?_, ?_, ?_⟩ <;> k_is)
    (case xf0 => refine' DP.DF.mk' ?xa ?xbb ?xc ?xd; (case xa => k_is); (case xbb => k_is); (case xc => k_is); (case xd => k_is))
    (case xf1 => refine' DP.DF.mk' ?xa ?xbb ?xc ?xd; (case xa => k_is); (case xbb => k_is); (case xc => k_is); (case xd => k_is))
    (case xf2 => refine' DP.DF.mk' ?xa ?xbb ?xc ?xd; (case xa => k_is); (case xbb => k_is); (case xc => k_is); (case xd => k_is))
    (case xf3 => refine' DP.DF.mk' ?xa ?xbb ?xc ?xd; (case xa => k_is); (case xbb => k_is); (case xc => k_is); (case xd => k_is))
    (case xf4 => refine' DP.DF.mk' ?xa ?xbb ?xc ?xd; (case xa => k_is); (case xbb => k_is); (case xc => k_is); (case xd => k_is))
    (case xf5 => refine' DP.DF.mk' ?xa ?xbb ?xc ?xd; (case xa => k_is); (case xbb => k_is); (case xc => k_is); (case xd => k_is))
    (case xf6 => refine' DP.DF.mk' ?xa ?xbb ?xc ?xd; (case xa => k_is); (case xbb => k_is); (case xc => k_is); (case xd => k_is))
    (case xf7 => refine' DP.DF.mk' ?xa ?xbb ?xc ?xd; (case xa => k_is); (case xbb => k_is); (case xc => k_is); (case xd => k_is))
    (case xf8 => refine' DP.DF.mk' ?xa ?xbb ?xc ?xd; (case xa => k_is); (case xbb => k_is); (case xc => k_is); (case xd => k_is))
    (case xf9 => refine' DP.DF.mk' ?xa ?xbb ?xc ?xd; (case xa => k_is); (case xbb => k_is); (case xc => k_is); (case xd => k_is))
    (case xf10 => refine' DP.DF.mk' ?xa ?xbb ?xc ?xd; (case xa => k_is); (case xbb => k_is); (case xc => k_is); (case xd => k_is))
    (case xf11 => refine' DP.DF.mk' ?xa ?xbb ?xc ?xd; (case xa => k_is); (case xbb => k_is); (case xc => k_is); (case xd => k_is))
    (case xf12 => refine' DP.DF.mk' ?xa ?xbb ?xc ?xd; (case xa => k_is); (case xbb => k_is); (case xc => k_is); (case xd => k_is))
    (case xf13 => refine' DP.DF.mk' ?xa ?xbb ?xc ?xd; (case xa => k_is); (case xbb => k_is); (case xc => k_is); (case xd => k_is))
    (case xf14 => refine' DP.DF.mk' ?xa ?xbb ?xc ?xd; (case xa => k_is); (case xbb => k_is); (case xc => k_is); (case xd => k_is))
    (case xf15 => refine' DP.DF.mk' ?xa ?xbb ?xc ?xd; (case xa => k_is); (case xbb => k_is); (case xc => k_is); (case xd => k_is))
    (case xf16 => refine' DP.DF.mk' ?xa ?xbb ?xc ?xd; (case xa => k_is); (case xbb => k_is); (case xc => k_is); (case xd => k_is))
    (case xf17 => refine' DP.DF.mk' ?xa ?xbb ?xc ?xd; (case xa => k_is); (case xbb => k_is); (case xc => k_is); (case xd => k_is))
    (case xf18 => refine' DP.DF.mk' ?xa ?xbb ?xc ?xd; (case xa => k_is); (case xbb => k_is); (case xc => k_is); (case xd => k_is))
    (case xf19 => refine' DP.DF.mk' ?xa ?xbb ?xc ?xd; (case xa => k_is); (case xbb => k_is); (case xc => k_is); (case xd => k_is))
    (case xf20 => refine' DP.DF.mk' ?xa ?xbb ?xc ?xd; (case xa => k_is); (case xbb => k_is); (case xc => k_is); (case xd => k_is))
    (case xf21 => refine' DP.DF.mk' ?xa ?xbb ?xc ?xd; (case xa => k_is); (case xbb => k_is); (case xc => k_is); (case xd => k_is))
    (case xf22 => refine' DP.DF.mk' ?xa ?xbb ?xc ?xd; (case xa => k_is); (case xbb => k_is); (case xc => k_is); (case xd => k_is))
    (case xf23 => refine' DP.DF.mk' ?xa ?xbb ?xc ?xd; (case xa => k_is); (case xbb => k_is); (case xc => k_is); (case xd => k_is))
    (case xf24 => refine' DP.DF.mk' ?xa ?xbb ?xc ?xd; (case xa => k_is); (case xbb => k_is); (case xc => k_is); (case xd => k_is))
    (case xf25 => refine' DP.DF.mk' ?xa ?xbb ?xc ?xd; (case xa => k_is); (case xbb => k_is); (case xc => k_is); (case xd => k_is))
    (case xf26 => refine' DP.DF.mk' ?xa ?xbb ?xc ?xd; (case xa => k_is); (case xbb => k_is); (case xc => k_is); (case xd => k_is))
    (case xf27 => refine' DP.DF.mk' ?xa ?xbb ?xc ?xd; (case xa => k_is); (case xbb => k_is); (case xc => k_is); (case xd => k_is))
    (case xf28 => refine' DP.DF.mk' ?xa ?xbb ?xc ?xd; (case xa => k_is); (case xbb => k_is); (case xc => k_is); (case xd => k_is))
    (case xf29 => refine' DP.DF.mk' ?xa ?xbb ?xc ?xd; (case xa => k_is); (case xbb => k_is); (case xc => k_is); (case xd => k_is))
    (case xf30 => refine' DP.DF.mk' ?xa ?xbb ?xc ?xd; (case xa => k_is); (case xbb => k_is); (case xc => k_is); (case xd => k_is))
    (case xf31 => refine' DP.DF.mk' ?xa ?xbb ?xc ?xd; (case xa => k_is); (case xbb => k_is); (case xc => k_is); (case xd => k_is))
    (case xg0 => refine' DP.GF.mk' ?xa ?xc; (case xa => k_is); (case xc => exact DP.StK.str'))
    (case xg1 => refine' DP.GF.mk' ?xa ?xc; (case xa => k_is); (case xc => exact DP.StK.str'))
    (case xg3 => refine' DP.GF.mk' ?xa (DP.StK.tup' ?x1 ?x2 ?x3 ?x4 ?x5); (case xa => k_is); (case x1 => k_is); (case x2 => rfl); (case x3 => rfl); (case x4 => decide); (case x5 => exact DP.StKs.cons' DP.StK.str' (DP.StKs.cons' DP.StK.str' (DP.StKs.cons' DP.StK.str' (DP.StKs.cons' DP.StK.str' (DP.StKs.nil'))))))
    (case xg4 => refine' DP.GF.mk' ?xa (DP.StK.tup' ?x1 ?x2 ?x3 ?x4 ?x5); (case xa => k_is); (case x1 => k_is); (case x2 => rfl); (case x3 => rfl); (case x4 => decide); (case x5 => exact DP.StKs.cons' DP.StK.str' (DP.StKs.cons' DP.StK.str' (DP.StKs.cons' DP.StK.str' (DP.StKs.nil')))))
    (case xg5 => refine' DP.GF.mk' ?xa (DP.StK.tup' ?x1 ?x2 ?x3 ?x4 ?x5); (case xa => k_is); (case x1 => k_is); (case x2 => rfl); (case x3 => rfl); (case x4 => decide); (case x5 => exact DP.StKs.cons' DP.StK.str' (DP.StKs.cons' DP.StK.str' (DP.StKs.cons' DP.StK.str' (DP.StKs.nil')))))
    (case xg6 => refine' DP.GF.mk' ?xa (DP.StK.tup' ?x1 ?x2 ?x3 ?x4 ?x5); (case xa => k_is); (case x1 => k_is); (case x2 => rfl); (case x3 => rfl); (case x4 => decide); (case x5 => exact DP.StKs.cons' DP.StK.str' (DP.StKs.cons' DP.StK.str' (DP.StKs.nil'))))
    (case xg2 => refine' DP.GF.mk' ?xa (DP.StK.gd' ?x1 ?x2 ?x3 ?x4 ?x5); (case xa => k_is); (case x1 => k_is); (case x2 => rfl); (case x3 => decide +kernel); (case x4 => exact DP.StE.cons' (DP.StE.cons' (DP.StE.nil'))); (case x5 => exact DP.StKs.cons' DP.StK.str' (DP.StKs.cons' DP.StK.str' (DP.StKs.nil'))))
    (case xg7 => refine' DP.GF.mk' ?xa (DP.StK.gd' ?x1 ?x2 ?x3 ?x4 ?x5); (case xa => k_is); (case x1 => k_is); (case x2 => rfl); (case x3 => decide +kernel); (case x4 => exact DP.StE.cons' (DP.StE.cons' (DP.StE.cons' (DP.StE.cons' (DP.StE.cons' (DP.StE.nil')))))); (case x5 => refine' DP.StKs.cons' (DP.StK.fn' rfl ?y0) (DP.StKs.cons' (DP.StK.fn' rfl ?y1) (DP.StKs.cons' (DP.StK.fn' rfl ?y2) (DP.StKs.cons' (DP.StK.fn' rfl ?y3) (DP.StKs.cons' (DP.StK.fn' rfl ?y4) (DP.StKs.nil'))))); (case y0 => k_is); (case y1 => k_is); (case y2 => k_is); (case y3 => k_is); (case y4 => k_is)))
end
