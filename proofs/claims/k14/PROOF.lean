import PyProof.Rows.All
import PySem.Challenge.RW_sizeshadow_k14_whole_desks
import HandS.ForMost
import HandS.ForExc
import HandS.TryMany
import HandS.Wide
import HandS.IsInst
import HandS.Strs
import HandS.Style
import HandS.Deep
import HandS.TupAny
import HandS.TupMul
import KE.SortData
import KE.KTupSum
import HandS.Iter
import KE.GoesMore
import HandS.ExcInit
import HandS.ExcField
import KE.KExcIs
import HandS.ExcIs
import HandS.EndBits
import HandS.TupSets
import HandS.Zip
import HandS.Star
import HandS.SetFor
import HandS.Conv
import HandS.Dict
import HandS.TupLen
import HandS.Comp
import HandS.DictComp
import HandS.DictSubView
import KE.KDictCopyH
import KE.DataFind
import KE.KDictSum
import HandS.Codes
import KE.GoesComp
import HandS.Property
import OpenK.KOps
set_option Elab.async false
set_option linter.all false
set_option maxRecDepth 100000
set_option exponentiation.threshold 100000
set_option maxHeartbeats 4000000
namespace Mir
open PySem PySem.Spec PyProof.Rows L2

/-! ### pure values -/
inductive PV where
  | non | bl (b : Bool) | int (i : Int) | str (x : Str) | tup (xs : List PV) | lst (xs : List PV) | dic (ks es : List PV) | ty (n : String) | row | exc (C : Addr) (fs : List (Str × Option Int)) | at_ (a : Addr) | obj (C : Addr) (ns : List Str) (xs : List PV)

/-- where the draws' row lies: the row, its list, the list's ints -/
structure Rw where
  a : Addr
  ls : Addr
  xs : List Int

/-- what the draws' row holds -/
structure RS where
  xs : List Int
  i : Nat
  b : Int
  s : Int

structure Exn where
  nm : Str
  fs : List (Str × PV)

inductive Out (α : Type) where
  | ok (a : α) (r : RS)
  | ex (e : Exn) (r : RS)
  | bad

abbrev M (α : Type) := RS → Out α
def ret {α : Type} (a : α) : M α := fun r => .ok a r
def bnd {α β : Type} (m : M α) (k : α → M β) : M β := fun r => match m r with
  | .ok a r' => k a r'
  | .ex e r' => .ex e r'
  | .bad => .bad
def fail {α : Type} : M α := fun _ => .bad
def raise {α : Type} (e : Exn) : M α := fun r => .ex e r
def ofO {α : Type} : Option α → M α
  | some a => ret a
  | none => fail
def wpM {α : Type} (o : Out α) (K : α → RS → Prop) (E : Exn → RS → Prop) : Prop := match o with
  | .ok a r => K a r
  | .ex e r => E e r
  | .bad => False
theorem wpM_mono {α : Type} {o : Out α} {K K' : α → RS → Prop} {E E' : Exn → RS → Prop} (h : wpM o K E) (hK : ∀ a r, K a r → K' a r) (hE : ∀ e r, E e r → E' e r) : wpM o K' E' := by
  cases o with
  | ok a r => exact hK a r h
  | ex e r => exact hE e r h
  | bad => exact h
theorem wpM_bnd {α β : Type} {m : M α} {k : α → M β} {r : RS} {K : β → RS → Prop} {E : Exn → RS → Prop} (h : wpM (bnd m k r) K E) : wpM (m r) (fun a r' => wpM (k a r') K E) E := by
  unfold bnd at h
  cases e : m r with
  | ok a r' => rw [e] at h; exact h
  | ex x r' => rw [e] at h; exact h
  | bad => rw [e] at h; exact h
inductive Slot where
  | no | sh (v : PV) | ow (v : PV)
abbrev Env := List Slot
inductive Fl where
  | nx (e : Env) | rt (v : PV) | bk (e : Env) | ct (e : Env)

/-! ### values over an abstract heap -/
def kP : Key → PV
  | .inl i => .int i
  | .inr x => .str x
/-- an exception of the class at C, caught before, held as a value; d its dict -/
def ExV (a C : Addr) (d : Option Addr) : HO := .ext fun h => ∃ oe, h.get? a = some oe ∧ Zc (.ref C) d oe ∧ ∃ vs, oe.data = .fields vs
def optV : Option Int → V
  | none => .non
  | some i => .int i
mutual
def Rep (ρ : Rw) (G : Hp) : PV → V → Prop
  | .non, v => v = .non
  | .bl b, v => v = .bl b
  | .int i, v => v = .int i
  | .str x, v => v = .str x ∧ PyData.strOk x = true
  | .ty n, v => v = .ty n
  | .row, v => v = .ref ρ.a
  | .at_ a, v => v = .ref a
  | .obj C ns xs, v => ∃ a dx vs, v = .ref a ∧ G a = some (.ins C dx (ns.zip vs)) ∧ RepL ρ G xs vs
  | .exc C fs, v => ∃ a d, v = .ref a ∧ G a = some (ExV a C d) ∧ ((d = none ∧ fs = []) ∨ ∃ dx kvs, d = some dx ∧ G dx = some (.xd kvs) ∧ ∀ n x, (n, x) ∈ fs → kvs.lookup n = some (optV x))
  | .tup xs, v => ∃ a vs, v = .ref a ∧ G a = some (.tup vs) ∧ RepL ρ G xs vs
  | .lst xs, v => ∃ a vs, v = .ref a ∧ G a = some (.lst vs) ∧ RepL ρ G xs vs
  | .dic ks es, v => ∃ a, v = .ref a ∧ ((∃ kvs : List (Key × V), G a = some (.dK kvs) ∧ ks = kvs.map (fun p => kP p.1) ∧ RepL ρ G es (kvs.map (·.2))) ∨
      (∃ kvs : List (List Key × V), G a = some (.dT kvs) ∧ ks = kvs.map (fun p => PV.tup (p.1.map kP)) ∧ RepL ρ G es (kvs.map (·.2))) ∨
      (∃ (o : Obj) (kvs : List (Key × V)), G a = some (.frz o (.dK kvs)) ∧ ks = PV.ty "" :: kvs.map (fun p => kP p.1) ∧ RepL ρ G es (kvs.map (·.2))))
def RepL (ρ : Rw) (G : Hp) : List PV → List V → Prop
  | [], vs => vs = []
  | x :: xs, vs => ∃ v r, vs = v :: r ∧ Rep ρ G x v ∧ RepL ρ G xs r
end
/-- a thing that the frame alone holds: at a, its parts over G -/
def OwR (ρ : Rw) (H G : Hp) : PV → Addr → Prop
  | .lst xs, a => ∃ vs, H a = some (.lst vs) ∧ RepL ρ G xs vs
  | .dic ks es, a => (∃ kvs : List (Key × V), H a = some (.dK kvs) ∧ ks = kvs.map (fun p => kP p.1) ∧ RepL ρ G es (kvs.map (·.2))) ∨
      (∃ kvs : List (List Key × V), H a = some (.dT kvs) ∧ ks = kvs.map (fun p => PV.tup (p.1.map kP)) ∧ RepL ρ G es (kvs.map (·.2)))
  | _, _ => False
open Classical in
noncomputable def Hx (H : Hp) (S : Addr → Prop) : Hp := fun b => if S b then none else H b
theorem Hx_in {H : Hp} {S : Addr → Prop} {b : Addr} (h : S b) : Hx H S b = none := if_pos h
theorem Hx_out {H : Hp} {S : Addr → Prop} {b : Addr} (h : ¬ S b) : Hx H S b = H b := if_neg h
theorem Hx_some {H : Hp} {S : Addr → Prop} {b : Addr} {o : HO} (h : Hx H S b = some o) : ¬ S b ∧ H b = some o := by
  by_cases q : S b
  · rw [Hx_in q] at h; cases h
  · rw [Hx_out q] at h; exact ⟨q, h⟩
mutual
theorem Rep.mono {ρ : Rw} {G G' : Hp} (h : ∀ b o, G b = some o → G' b = some o) : ∀ (x : PV) (v : V), Rep ρ G x v → Rep ρ G' x v
  | .non, v, r => by unfold Rep at r ⊢; exact r
  | .bl b, v, r => by unfold Rep at r ⊢; exact r
  | .int i, v, r => by unfold Rep at r ⊢; exact r
  | .str x, v, r => by unfold Rep at r ⊢; exact r
  | .ty n, v, r => by unfold Rep at r ⊢; exact r
  | .row, v, r => by unfold Rep at r ⊢; exact r
  | .at_ a, v, r => by unfold Rep at r ⊢; exact r
  | .obj C ns xs, v, r => by
    unfold Rep at r ⊢
    obtain ⟨a, dx, vs, e, g, l⟩ := r
    exact ⟨a, dx, vs, e, h _ _ g, RepL.mono h xs vs l⟩
  | .exc C fs, v, r => by
    unfold Rep at r ⊢
    obtain ⟨a, d, e, g, q⟩ := r
    refine ⟨a, d, e, h _ _ g, ?_⟩
    rcases q with q | ⟨dx, kvs, e1, g1, q1⟩
    · exact .inl q
    · exact .inr ⟨dx, kvs, e1, h _ _ g1, q1⟩
  | .tup xs, v, r => by
    unfold Rep at r ⊢
    obtain ⟨a, vs, e, g, l⟩ := r
    exact ⟨a, vs, e, h _ _ g, RepL.mono h xs vs l⟩
  | .lst xs, v, r => by
    unfold Rep at r ⊢
    obtain ⟨a, vs, e, g, l⟩ := r
    exact ⟨a, vs, e, h _ _ g, RepL.mono h xs vs l⟩
  | .dic ks es, v, r => by
    unfold Rep at r ⊢
    obtain ⟨a, e, q⟩ := r
    refine ⟨a, e, ?_⟩
    rcases q with ⟨kvs, g, k, l⟩ | ⟨kvs, g, k, l⟩ | ⟨o, kvs, g, k, l⟩
    · exact .inl ⟨kvs, h _ _ g, k, RepL.mono h es _ l⟩
    · exact .inr (.inl ⟨kvs, h _ _ g, k, RepL.mono h es _ l⟩)
    · exact .inr (.inr ⟨o, kvs, h _ _ g, k, RepL.mono h es _ l⟩)
theorem RepL.mono {ρ : Rw} {G G' : Hp} (h : ∀ b o, G b = some o → G' b = some o) : ∀ (xs : List PV) (vs : List V), RepL ρ G xs vs → RepL ρ G' xs vs
  | [], vs, r => by unfold RepL at r ⊢; exact r
  | x :: xs, vs, r => by
    unfold RepL at r ⊢
    obtain ⟨v, w, e, a, b⟩ := r
    exact ⟨v, w, e, Rep.mono h x v a, RepL.mono h xs w b⟩
end
theorem OwR.mono {ρ : Rw} {H H' G G' : Hp} {a : Addr} (h : ∀ o, H a = some o → H' a = some o) (g : ∀ b o, G b = some o → G' b = some o) {x : PV} (r : OwR ρ H G x a) : OwR ρ H' G' x a := by
  cases x with
  | lst xs =>
    obtain ⟨vs, e, l⟩ := r
    exact ⟨vs, h _ e, l.mono g⟩
  | dic ks es =>
    rcases r with ⟨kvs, e, k, l⟩ | ⟨kvs, e, k, l⟩
    · exact .inl ⟨kvs, h _ e, k, l.mono g⟩
    · exact .inr ⟨kvs, h _ e, k, l.mono g⟩
  | _ => exact r.elim
theorem RepL.length {ρ : Rw} {G : Hp} : ∀ {xs : List PV} {vs : List V}, RepL ρ G xs vs → vs.length = xs.length
  | [], vs, r => by unfold RepL at r; rw [r]; rfl
  | x :: xs, vs, r => by
    unfold RepL at r
    obtain ⟨v, w, e, a, b⟩ := r
    rw [e, List.length_cons, List.length_cons, RepL.length b]
theorem RepL.get {ρ : Rw} {G : Hp} : ∀ {xs : List PV} {vs : List V} {i : Nat} {x : PV}, RepL ρ G xs vs → xs[i]? = some x → ∃ v, vs[i]? = some v ∧ Rep ρ G x v
  | [], vs, i, x, r, h => by simp at h
  | y :: xs, vs, 0, x, r, h => by
    unfold RepL at r
    obtain ⟨v, w, e, a, b⟩ := r
    simp at h
    subst h
    exact ⟨v, by rw [e]; rfl, a⟩
  | y :: xs, vs, i + 1, x, r, h => by
    unfold RepL at r
    obtain ⟨v, w, e, a, b⟩ := r
    obtain ⟨u, h1, h2⟩ := RepL.get (i := i) (x := x) b (by simpa using h)
    exact ⟨u, by rw [e]; simpa using h1, h2⟩
theorem RepL.nil {ρ : Rw} {G : Hp} : RepL ρ G [] [] := by unfold RepL; rfl
theorem RepL.cons {ρ : Rw} {G : Hp} {x : PV} {v : V} {xs : List PV} {vs : List V} (a : Rep ρ G x v) (b : RepL ρ G xs vs) : RepL ρ G (x :: xs) (v :: vs) := by
  unfold RepL; exact ⟨v, vs, rfl, a, b⟩
theorem RepL.append {ρ : Rw} {G : Hp} : ∀ {xs ys : List PV} {vs ws : List V}, RepL ρ G xs vs → RepL ρ G ys ws → RepL ρ G (xs ++ ys) (vs ++ ws)
  | [], ys, vs, ws, r, q => by unfold RepL at r; subst r; exact q
  | x :: xs, ys, vs, ws, r, q => by
    unfold RepL at r
    obtain ⟨v, w, e, a, b⟩ := r
    subst e
    exact RepL.cons a (RepL.append b q)
theorem RepL.take {ρ : Rw} {G : Hp} : ∀ {xs : List PV} {vs : List V} (n : Nat), RepL ρ G xs vs → RepL ρ G (xs.take n) (vs.take n)
  | xs, vs, 0, r => by simp; exact RepL.nil
  | [], vs, n + 1, r => by unfold RepL at r; subst r; exact RepL.nil
  | x :: xs, vs, n + 1, r => by
    unfold RepL at r
    obtain ⟨v, w, e, a, b⟩ := r
    subst e
    exact RepL.cons a (RepL.take n b)
theorem RepL.drop {ρ : Rw} {G : Hp} : ∀ {xs : List PV} {vs : List V} (n : Nat), RepL ρ G xs vs → RepL ρ G (xs.drop n) (vs.drop n)
  | xs, vs, 0, r => r
  | [], vs, n + 1, r => by unfold RepL at r; subst r; exact RepL.nil
  | x :: xs, vs, n + 1, r => by
    unfold RepL at r
    obtain ⟨v, w, e, a, b⟩ := r
    subst e
    exact RepL.drop n b
theorem RepL.snoc {ρ : Rw} {G : Hp} {xs : List PV} {vs : List V} {x : PV} {v : V} (r : RepL ρ G xs vs) (a : Rep ρ G x v) : RepL ρ G (xs ++ [x]) (vs ++ [v]) := r.append (.cons a .nil)
theorem RepL.reverse {ρ : Rw} {G : Hp} : ∀ {xs : List PV} {vs : List V}, RepL ρ G xs vs → RepL ρ G xs.reverse vs.reverse
  | [], vs, r => by unfold RepL at r; subst r; exact RepL.nil
  | x :: xs, vs, r => by
    unfold RepL at r
    obtain ⟨v, w, e, a, b⟩ := r
    subst e
    rw [List.reverse_cons, List.reverse_cons]
    exact (RepL.reverse b).snoc a
theorem RepL.ints {ρ : Rw} {G : Hp} : ∀ (ns : List Int), RepL ρ G (ns.map .int) (ns.map V.int)
  | [] => RepL.nil
  | n :: r => RepL.cons (by unfold Rep; rfl) (RepL.ints r)
theorem RepL.ints_of {ρ : Rw} {G : Hp} : ∀ (ns : List Int) {vs : List V}, RepL ρ G (ns.map .int) vs → vs = ns.map V.int
  | [], vs, r => by unfold RepL at r; exact r
  | n :: ns, vs, r => by
    rw [List.map_cons] at r
    unfold RepL at r
    obtain ⟨v, w, e, a, b⟩ := r
    unfold Rep at a
    rw [e, a, RepL.ints_of ns b]; rfl
/-- a value that is the same over every heap -/
def Flat (x : PV) (v : V) : Prop := ∀ ρ G, Rep ρ G x v
end Mir

namespace Mir
open PySem PySem.Spec PyProof.Rows L2

def RowAt (ρ : Rw) (H : Hp) (r : RS) : Prop := ρ.ls ≠ ρ.a ∧ r.xs = ρ.xs ∧ H ρ.a = some (.lst [.ref ρ.ls, .int r.i, .int r.b, .int r.s]) ∧ H ρ.ls = some (.lst (ρ.xs.map V.int))
def Ext (ρ : Rw) (H H' : Hp) : Prop := ∀ b o, H b = some o → b ≠ ρ.a → H' b = some o
theorem Ext.refl (ρ : Rw) (H : Hp) : Ext ρ H H := fun _ _ h _ => h
theorem Ext.trans {ρ : Rw} {H H1 H2 : Hp} (a : Ext ρ H H1) (b : Ext ρ H1 H2) : Ext ρ H H2 := fun c o h n => b c o (a c o h n) n
theorem Ext.same {ρ : Rw} {H H' : Hp} (a : Same H H') : Ext ρ H H' := fun c o h _ => a c o h
theorem RowAt.same {ρ : Rw} {H H' : Hp} {r : RS} (w : RowAt ρ H r) (a : Same H H') : RowAt ρ H' r :=
  let ⟨n, x, e, f⟩ := w; ⟨n, x, a _ _ e, a _ _ f⟩
theorem RowAt.there {ρ : Rw} {H : Hp} {r : RS} (w : RowAt ρ H r) : H ρ.a ≠ none := by
  obtain ⟨_, _, e, _⟩ := w
  rw [e]; exact fun z => by cases z
/-- there, no tuple and no exception's dict -/
def NT (o : Option HO) : Prop := (o ≠ none ∧ ∀ fs, o ≠ some (.xd fs)) ∧ ∀ xs, o ≠ some (.tup xs)
theorem RowAt.nt {ρ : Rw} {H : Hp} {r : RS} (w : RowAt ρ H r) : NT (H ρ.a) := by
  obtain ⟨_, _, e, _⟩ := w
  rw [e]
  exact ⟨⟨(fun z => by cases z), fun fs z => by cases z⟩, fun xs z => by cases z⟩
theorem same_upd {H : Hp} {p : Addr} {o : HO} (h : H p = none) : Same H (upd H p o) := fun b x e => by
  rw [upd_ne (ne_of_none e h)]
  exact e

/-- an exception that lies so -/
def ExR (mg : Str → Option Value) (H : Hp) (C : Value) (d : Option Addr) (e : Exn) : Prop :=
  mg e.nm = some C ∧ ((d = none ∧ e.fs = []) ∨ ∃ dx fs, d = some dx ∧ H dx = some (.xd fs) ∧ ∀ n x, (n, x) ∈ e.fs → ∃ v, fs.lookup n = some v ∧ Flat x v)

def Ex (F : Addr → Prop) (env : Env) (ad : Nat → Addr) (b : Addr) : Prop := F b ∨ ∃ i x, env[i]? = some (.ow x) ∧ ad i = b
structure Fm (ρ : Rw) (F : Addr → Prop) (B H : Hp) (r : RS) (σ : L2.St) (env : Env) (ad : Nat → Addr) : Prop where
  row : RowAt ρ H r
  hρ : F ρ.a
  dom : ∀ b, F b → NT (H b)
  ext : Ext ρ B H
  lsB : B ρ.ls ≠ none
  len : σ.length = env.length
  sh : ∀ (i : Nat) x, env[i]? = some (.sh x) → ∃ v, σ[i]? = some (some v) ∧ Rep ρ (Hx H (Ex F env ad)) x v
  ow : ∀ (i : Nat) x, env[i]? = some (.ow x) → σ[i]? = some (some (.ref (ad i))) ∧ (B (ad i) = none ∧ ¬ F (ad i)) ∧ ad i ≠ ρ.a ∧ OwR ρ H (Hx H (Ex F env ad)) x (ad i)
  inj : ∀ (i j : Nat) x y, env[i]? = some (.ow x) → env[j]? = some (.ow y) → ad i = ad j → i = j
section
variable {ρ : Rw} {F : Addr → Prop} {B H H' : Hp} {r r' : RS} {σ : L2.St} {env : Env} {ad : Nat → Addr} {x : PV} {v : V} {xs : List PV} {vs : List V} {S : Addr → Prop}
theorem OwR.there {a : Addr} {G : Hp} (h : OwR ρ H G x a) : H a ≠ none := by
  cases x with
  | lst xs => obtain ⟨_, e, _⟩ := h; rw [e]; exact fun z => by cases z
  | dic ks es => rcases h with ⟨_, e, _⟩ | ⟨_, e, _⟩ <;> (rw [e]; exact fun z => by cases z)
  | _ => exact h.elim
theorem OwR.nt {a : Addr} {G : Hp} (h : OwR ρ H G x a) : NT (H a) := by
  cases x with
  | lst xs => obtain ⟨_, e, _⟩ := h; rw [e]; exact ⟨⟨(fun z => by cases z), fun fs z => by cases z⟩, fun xs z => by cases z⟩
  | dic ks es => rcases h with ⟨_, e, _⟩ | ⟨_, e, _⟩ <;> (rw [e]; exact ⟨⟨(fun z => by cases z), fun fs z => by cases z⟩, fun xs z => by cases z⟩)
  | _ => exact h.elim
theorem hx_ext (hρ : S ρ.a) (e : Ext ρ H H') : ∀ b o, Hx H S b = some o → Hx H' S b = some o := fun b o q => by
  obtain ⟨n, q⟩ := Hx_some q
  rw [Hx_out n]
  exact e b o q fun z => n (z ▸ hρ)
theorem Fm.exρ (f : Fm ρ F B H r σ env ad) : Ex F env ad ρ.a := .inl f.hρ
theorem Fm.there (f : Fm ρ F B H r σ env ad) {b : Addr} (h : Ex F env ad b) : H b ≠ none := by
  rcases h with h | ⟨i, x, e, rfl⟩
  · exact (f.dom b h).1.1
  · exact (f.ow i x e).2.2.2.there
theorem Fm.nt (f : Fm ρ F B H r σ env ad) {b : Addr} (h : Ex F env ad b) : NT (H b) := by
  rcases h with h | ⟨i, x, e, rfl⟩
  · exact f.dom b h
  · exact (f.ow i x e).2.2.2.nt
theorem Fm.step (f : Fm ρ F B H r σ env ad) (e : Ext ρ H H') (w : RowAt ρ H' r') : Fm ρ F B H' r' σ env ad where
  row := w
  hρ := f.hρ
  dom := fun b h => by
    by_cases z : b = ρ.a
    · rw [z]; exact w.nt
    · cases y : H b with
      | none => exact absurd y (f.dom b h).1.1
      | some o => rw [e b o y z, ← y]; exact f.dom b h
  ext := f.ext.trans e
  lsB := f.lsB
  len := f.len
  sh := fun i x h => let ⟨v, a, b⟩ := f.sh i x h; ⟨v, a, b.mono (hx_ext f.exρ e)⟩
  ow := fun i x h => let ⟨a, b, c, d⟩ := f.ow i x h; ⟨a, b, c, d.mono (fun o q => e _ o q c) (hx_ext f.exρ e)⟩
  inj := f.inj
end

/-! ### the ways to have a value: clean, borrowed, fresh (since H₀) -/
inductive Kd where
  | cl | bo | fr
def Have (ρ : Rw) (k : Kd) (H0 H : Hp) (S : Addr → Prop) (x : PV) (v : V) : Prop := match k with
  | .cl => Rep ρ (Hx H S) x v
  | .bo => Rep ρ (Hx H S) x v ∨ ∃ a, a ≠ ρ.a ∧ v = .ref a ∧ OwR ρ H (Hx H S) x a
  | .fr => ∃ a, v = .ref a ∧ H0 a = none ∧ a ≠ ρ.a ∧ OwR ρ H (Hx H fun b => S b ∨ b = a) x a
/-- borrowed -/
abbrev HaveB (ρ : Rw) (H : Hp) (S : Addr → Prop) (x : PV) (v : V) : Prop := Rep ρ (Hx H S) x v ∨ ∃ a, a ≠ ρ.a ∧ v = .ref a ∧ OwR ρ H (Hx H S) x a
section
variable {ρ : Rw} {H0 H H' : Hp} {x : PV} {v : V} {S : Addr → Prop} {k : Kd}
theorem OwR.rep {a : Addr} {G : Hp} (h : OwR ρ H G x a) (g : ∀ o, H a = some o → G a = some o) : Rep ρ G x (.ref a) := by
  cases x with
  | lst xs =>
    obtain ⟨vs, e, l⟩ := h
    unfold Rep
    exact ⟨a, vs, rfl, g _ e, l⟩
  | dic ks es =>
    unfold Rep
    refine ⟨a, rfl, ?_⟩
    rcases h with ⟨kvs, e, k, l⟩ | ⟨kvs, e, k, l⟩
    · exact .inl ⟨kvs, g _ e, k, l⟩
    · exact .inr (.inl ⟨kvs, g _ e, k, l⟩)
  | _ => exact h.elim
theorem Have.ext (hρ : S ρ.a) (e : Ext ρ H H') (h : Have ρ k H0 H S x v) : Have ρ k H0 H' S x v := by
  cases k with
  | cl => exact Rep.mono (hx_ext hρ e) _ _ h
  | bo =>
    rcases h with h | ⟨a, n, q, h⟩
    · exact .inl (h.mono (hx_ext hρ e))
    · exact .inr ⟨a, n, q, h.mono (fun o z => e _ o z n) (hx_ext hρ e)⟩
  | fr =>
    obtain ⟨a, q, n, z, h⟩ := h
    exact ⟨a, q, n, z, h.mono (fun o y => e _ o y z) (hx_ext (.inl hρ) e)⟩
theorem Have.b (h : Have ρ k H0 H S x v) : HaveB ρ H S x v := by
  cases k with
  | cl => exact .inl h
  | bo => exact h
  | fr =>
    obtain ⟨a, q, n, z, h⟩ := h
    exact .inr ⟨a, z, q, h.mono (fun _ y => y) fun b o y => by
      obtain ⟨y1, y2⟩ := Hx_some y
      rw [Hx_out fun w => y1 (.inl w)]; exact y2⟩
theorem HaveB.ext (hρ : S ρ.a) (e : Ext ρ H H') (h : HaveB ρ H S x v) : HaveB ρ H' S x v := Have.ext (k := .bo) (H0 := H) hρ e h
theorem Have.since (e : Ext ρ H0 H) (h : Have ρ k H H' S x v) : Have ρ k H0 H' S x v := by
  cases k with
  | cl => exact h
  | bo => exact h
  | fr =>
    obtain ⟨a, q, n, z, h⟩ := h
    refine ⟨a, q, ?_, z, h⟩
    cases y : H0 a with
    | none => rfl
    | some o => rw [e a o y z] at n; cases n
theorem Have.c (hS : ∀ b, S b → H0 b ≠ none) (h : Have ρ .fr H0 H S x v) : Rep ρ (Hx H S) x v := by
  obtain ⟨a, rfl, n, z, h⟩ := h
  refine (h.mono (G' := Hx H S) (fun _ y => y) fun b o y => ?_).rep fun o y => by rw [Hx_out fun w => hS a w n]; exact y
  obtain ⟨y1, y2⟩ := Hx_some y
  rw [Hx_out fun w => y1 (.inl w)]; exact y2
/-- the same whatever is kept apart -/
theorem Rep.full {S : Addr → Prop} (h : Rep ρ (Hx H S) x v) : Rep ρ H x v := h.mono fun b o q => (Hx_some q).2
theorem OwR.full {S : Addr → Prop} {a : Addr} (h : OwR ρ H (Hx H S) x a) : Rep ρ H x (.ref a) := (h.mono (fun _ q => q) fun b o q => (Hx_some q).2).rep fun _ q => q
theorem Have.full (h : Have ρ k H0 H S x v) : Rep ρ H x v := by
  cases k with
  | cl => exact Rep.full h
  | bo =>
    rcases h with h | ⟨a, n, rfl, h⟩
    · exact h.full
    · exact h.full
  | fr =>
    obtain ⟨a, rfl, n, z, h⟩ := h
    exact h.full
end

/-! ### readings -/
abbrev EF := Env → M PV
def tE (mg : Str → Option Value) (W : WX) (k : Kd) (f : EF) : TE := fun σ H Q => ∃ ρ F B env ad r, Fm ρ F B H r σ env ad ∧
  wpM (f env r) (fun x r' => ∀ v H', Ext ρ H H' → RowAt ρ H' r' → Have ρ k H H' (Ex F env ad) x v → Q v H')
    (fun e r' => ∀ C d H', Ext ρ H H' → RowAt ρ H' r' → ExR mg H' C d e → W C d σ H')
def tT (mg : Str → Option Value) (W : WX) (f : Env → M Bool) : TT := fun σ H Q => ∃ ρ F B env ad r, Fm ρ F B H r σ env ad ∧
  wpM (f env r) (fun b r' => ∀ H', Ext ρ H H' → RowAt ρ H' r' → Q b H')
    (fun e r' => ∀ C d H', Ext ρ H H' → RowAt ρ H' r' → ExR mg H' C d e → W C d σ H')
/-- a statement -/
def tS (mg : Str → Option Value) (W : WX) (f : Env → M Fl) : TS := fun D σ H => ∃ ρ F B env ad r, Fm ρ F B H r σ env ad ∧
  wpM (f env r) (fun fl r' => match fl with
      | .nx e => ∀ σ' H' ad', Fm ρ F B H' r' σ' e ad' → D.nx σ' H'
      | .bk e => ∀ σ' H' ad', Fm ρ F B H' r' σ' e ad' → D.bk σ' H'
      | .ct e => ∀ σ' H' ad', Fm ρ F B H' r' σ' e ad' → D.ct σ' H'
      | .rt x => ∀ v H', Ext ρ B H' → RowAt ρ H' r' → Rep ρ (Hx H' F) x v → D.rt v H')
    (fun e r' => ∀ C d σ' H', (∃ env' ad', Fm ρ F B H' r' σ' env' ad') → ExR mg H' C d e → W C d σ' H')
/-- a statement whose exceptions leave the names as they were -/
def tS0 (mg : Str → Option Value) (W : WX) (f : Env → M Fl) : TS := fun D σ H => ∃ ρ F B env ad r, Fm ρ F B H r σ env ad ∧
  wpM (f env r) (fun fl r' => match fl with
      | .nx e => ∀ σ' H' ad', Fm ρ F B H' r' σ' e ad' → D.nx σ' H'
      | .bk e => ∀ σ' H' ad', Fm ρ F B H' r' σ' e ad' → D.bk σ' H'
      | .ct e => ∀ σ' H' ad', Fm ρ F B H' r' σ' e ad' → D.ct σ' H'
      | .rt x => ∀ v H', Ext ρ B H' → RowAt ρ H' r' → Rep ρ (Hx H' F) x v → D.rt v H')
    (fun e r' => ∀ C d H', Ext ρ H H' → RowAt ρ H' r' → ExR mg H' C d e → W C d σ H')
abbrev MEk (X : Cx) (W : WX) (k : Kd) (e : Expr) (f : EF) : Prop := PE X e (tE X.mg W k f)
abbrev ME (X : Cx) (W : WX) (e : Expr) (f : EF) : Prop := MEk X W .cl e f
abbrev MB (X : Cx) (W : WX) (e : Expr) (f : EF) : Prop := MEk X W .bo e f
abbrev MT (X : Cx) (W : WX) (e : Expr) (f : Env → M Bool) : Prop := PT X e (tT X.mg W f)
abbrev MS (X : Cx) (W : WX) (st : Stmt) (f : Env → M Fl) : Prop := PS X st (tS X.mg W f)
abbrev MS0 (X : Cx) (W : WX) (st : Stmt) (f : Env → M Fl) : Prop := PS X st (tS0 X.mg W f)
abbrev MSs (X : Cx) (W : WX) (st : List Stmt) (f : Env → M Fl) : Prop := PSs X st (tS X.mg W f)
theorem pe_imp {X : Cx} {e : Expr} {t t' : TE} (h : PE X e t) (i : ∀ σ H Q, t' σ H Q → t σ H Q) : PE X e t' := ⟨fun pins s σ H Q I q => h.run pins s σ H Q I (i σ H Q q)⟩
theorem pt_imp {X : Cx} {e : Expr} {t t' : TT} (h : PT X e t) (i : ∀ σ H Q, t' σ H Q → t σ H Q) : PT X e t' := ⟨fun pins s σ H Q I q => h.run pins s σ H Q I (i σ H Q q)⟩
theorem pw_imp {X : Cx} {e : Expr} {t t' : TT} (h : PW X e t) (i : ∀ σ H Q, t' σ H Q → t σ H Q) : PW X e t' := ⟨fun wh pins s σ H Q I q => h.run wh pins s σ H Q I (i σ H Q q)⟩
theorem pa_imp {X : Cx} {es : List Expr} {t t' : TA} (h : PA X es t) (i : ∀ σ H Q, t' σ H Q → t σ H Q) : PA X es t' := ⟨fun pos pins s σ H Q I q => h.run pos pins s σ H Q I (i σ H Q q)⟩
theorem ps_imp {X : Cx} {e : Stmt} {t t' : TS} (h : PS X e t) (i : ∀ D σ H, t' D σ H → t D σ H) : PS X e t' := ⟨fun pins s σ H D I q => h.run pins s σ H D I (i D σ H q)⟩
theorem pss_imp {X : Cx} {e : List Stmt} {t t' : TS} (h : PSs X e t) (i : ∀ D σ H, t' D σ H → t D σ H) : PSs X e t' := ⟨fun pins s σ H D I q => h.run pins s σ H D I (i D σ H q)⟩
section
variable {mg : Str → Option Value} {W : WX}
theorem tE.b {k : Kd} {f : EF} {σ : L2.St} {H : Hp} {Q : VK} (h : tE mg W .bo f σ H Q) : tE mg W k f σ H Q := by
  obtain ⟨ρ, F, B, env, ad, r, m, w⟩ := h
  exact ⟨ρ, F, B, env, ad, r, m, wpM_mono w (fun x r' q v H' e ro hv => q v H' e ro hv.b) fun e r' q => q⟩
end
theorem MEk.c {X : Cx} {W : WX} {e : Expr} {f : EF} (h : MEk X W .fr e f) : ME X W e f := pe_imp h fun σ H Q q => by
  obtain ⟨ρ, F, B, env, ad, r, m, w⟩ := q
  exact ⟨ρ, F, B, env, ad, r, m, wpM_mono w (fun x r' q v H' e ro hv => q v H' e ro (hv.c fun b => m.there)) fun e r' q => q⟩
theorem MEk.b {X : Cx} {W : WX} {k : Kd} {e : Expr} {f : EF} (h : MEk X W k e f) : MB X W e f := pe_imp h fun σ H Q q => tE.b q

/-- the frame that a rule of the layer needs -/
structure Ct (X : Cx) (W : WX) (k : Nat) : Prop where
  nd : X.N.Nodup
  hr : Room k X.A
  tk : Takes X W
  po : PassesOwn (model X.prog X.w) X.A X.env X.xe
  calm : X.calm = true
end Mir

namespace Mir
open PySem PySem.Spec PyProof.Rows L2
section
variable {X : Cx} {W : WX} {k ka kb kc : Kd} {pos : Pos} {e a b c : Expr} {es : List Expr} {mg : Str → Option Value}

/-! ### names, constants -/
def eVar (i : Nat) : EF := fun env => match env[i]? with
  | some (.sh v) => ret v
  | _ => fail
def eVarO (i : Nat) : EF := fun env => match env[i]? with
  | some (.ow v) => ret v
  | _ => fail
def eC (v : PV) : EF := fun _ => ret v
theorem tVar_of {i : Nat} (σ : L2.St) (H : Hp) (Q : VK) (q : tE mg W .cl (eVar i) σ H Q) : tVar i σ H Q := by
  obtain ⟨ρ, F, B, env, ad, r, m, w⟩ := q
  unfold eVar at w
  cases h : env[i]? with
  | none => rw [h] at w; exact w.elim
  | some sl =>
    rw [h] at w
    cases sl with
    | sh v =>
      obtain ⟨u, h1, h2⟩ := m.sh i v h
      exact ⟨u, h1, w u H (Ext.refl _ _) m.row h2⟩
    | no => exact w.elim
    | ow v => exact w.elim
theorem tVarO_of {i : Nat} (σ : L2.St) (H : Hp) (Q : VK) (q : tE mg W .bo (eVarO i) σ H Q) : tVar i σ H Q := by
  obtain ⟨ρ, F, B, env, ad, r, m, w⟩ := q
  unfold eVarO at w
  cases h : env[i]? with
  | none => rw [h] at w; exact w.elim
  | some sl =>
    rw [h] at w
    cases sl with
    | ow v =>
      obtain ⟨h1, h2, h3, h4⟩ := m.ow i v h
      exact ⟨_, h1, w _ H (Ext.refl _ _) m.row (.inr ⟨_, h3, rfl, h4⟩)⟩
    | no => exact w.elim
    | sh v => exact w.elim
theorem mv (i : Nat) {x : Str} (hN : X.N[i]? = some x := by rfl) (hv : Vis X.env.scope x := by first | exact Or.inl rfl | exact Or.inr (Or.inl rfl) | exact Or.inr (Or.inr rfl)) (hd : (x == ("__debug__" : Str)) = false := by decide)
    (hcd : (x == ("__classdict__" : Str)) = false := by decide) : ME X W (.Name x pos) (eVar i) := pe_imp (pe_var hN hv hd hcd) tVar_of
theorem mvo (i : Nat) {x : Str} (hN : X.N[i]? = some x := by rfl) (hv : Vis X.env.scope x := by first | exact Or.inl rfl | exact Or.inr (Or.inl rfl) | exact Or.inr (Or.inr rfl)) (hd : (x == ("__debug__" : Str)) = false := by decide)
    (hcd : (x == ("__classdict__" : Str)) = false := by decide) : MB X W (.Name x pos) (eVarO i) := pe_imp (pe_var hN hv hd hcd) tVarO_of
theorem tC_of {x : PV} {v : V} (f : Flat x v) (σ : L2.St) (H : Hp) (Q : VK) (q : tE mg W .cl (eC x) σ H Q) : tC v σ H Q := by
  obtain ⟨ρ, F, B, env, ad, r, m, w⟩ := q
  exact w v H (Ext.refl _ _) m.row (f _ _)
theorem Flat.int (i : Int) : Flat (.int i) (.int i) := fun _ _ => by unfold Rep; rfl
theorem Flat.bl (i : Bool) : Flat (.bl i) (.bl i) := fun _ _ => by unfold Rep; rfl
theorem Flat.non : Flat .non .non := fun _ _ => by unfold Rep; rfl
theorem Flat.ty (n : String) : Flat (.ty n) (.ty n) := fun _ _ => by unfold Rep; rfl
theorem Flat.str {x : Str} (h : PyData.strOk x = true) : Flat (.str x) (.str x) := fun _ _ => by unfold Rep; exact ⟨rfl, h⟩
theorem me_int {i j} : ME X W (.Constant (.int i) j pos) (eC (.int i)) := pe_imp pe_int (tC_of (Flat.int i))
theorem me_bl {i j} : ME X W (.Constant (.bool i) j pos) (eC (.bl i)) := pe_imp pe_bl (tC_of (Flat.bl i))
theorem me_non {j} : ME X W (.Constant .none j pos) (eC .non) := pe_imp pe_non (tC_of Flat.non)
theorem me_str {x j} (h : PyData.strOk x = true := by decide +kernel) : ME X W (.Constant (.str x) j pos) (eC (.str x)) := pe_imp pe_str (tC_of (Flat.str h))
theorem me_glob {x : Str} {y : PV} {v : V} {u : Value} (hg : Gl X x) (hm : X.mg x = some u) (r : RelV v u) (f : Flat y v) (hd : (x == ("__debug__" : Str)) = false := by decide) : ME X W (.Name x pos) (eC y) := pe_imp (pe_glob hg hm r hd) (tC_of f)
/-! ### two values -/
def eOp2 (g : PV → PV → Option PV) (fa fb : EF) : EF := fun env => bnd (fa env) fun x => bnd (fb env) fun y => ofO (g x y)
/-- an operation on values, told by g -/
def Op2 (X : Cx) (f : Value → Value → Sem Value) (g : PV → PV → Option PV) : Prop :=
  ∀ (pins : List (Addr × Obj)) (s : Shared) (σ : L2.St) (H : Hp) (x y : V) (v u : Value) (Q : VK) (ρ : Rw) (S : Addr → Prop) (pa pb pc : PV), Inv X pins σ H s → RelV x v → RelV y u → S ρ.a → (∀ b, S b → H b ≠ none) →
    HaveB ρ H S pa x → HaveB ρ H S pb y → g pa pb = some pc → (∀ z H', Same H H' → Rep ρ (Hx H' S) pc z → Q z H') → wpAny (model X.prog X.w) X.A (f v u) (EP X pins σ Q) X.xe s
def rP2 (g : PV → PV → Option PV) : R2 := fun x y H Q => ∃ ρ S pa pb pc, S ρ.a ∧ (∀ b, S b → H b ≠ none) ∧ HaveB ρ H S pa x ∧ HaveB ρ H S pb y ∧ g pa pb = some pc ∧ (∀ z H', Same H H' → Rep ρ (Hx H' S) pc z → Q z H')
theorem Op2.opR {f : Value → Value → Sem Value} {g : PV → PV → Option PV} (h : Op2 X f g) : OpR X f (rP2 g) := by
  intro pins s σ H x y v u Q I rx ry q
  obtain ⟨ρ, S, pa, pb, pc, h1, h2, h3, h4, h5, h6⟩ := q
  exact h pins s σ H x y v u Q ρ S pa pb pc I rx ry h1 h2 h3 h4 h5 h6
theorem ofO_some {α : Type} {o : Option α} {r : RS} {K : α → RS → Prop} {E : Exn → RS → Prop} (h : wpM (ofO o r) K E) : ∃ x, o = some x ∧ K x r := by
  cases o with
  | none => exact h.elim
  | some x => exact ⟨x, rfl, h⟩
theorem tOp_of {g : PV → PV → Option PV} {fa fb : EF} (σ : L2.St) (H : Hp) (Q : VK) (q : tE mg W .cl (eOp2 g fa fb) σ H Q) : tOp (rP2 g) (tE mg W ka fa) (tE mg W kb fb) σ H Q := by
  obtain ⟨ρ, F, B, env, ad, r, m, w⟩ := q
  refine ⟨ρ, F, B, env, ad, r, m, wpM_mono (wpM_bnd w) (fun x r1 w1 v1 H1 e1 o1 h1 => ?_) fun _ _ z => z⟩
  have m1 := m.step e1 o1
  refine ⟨ρ, F, B, env, ad, r1, m1, wpM_mono (wpM_bnd w1) (fun y r2 w2 v2 H2 e2 o2 h2 => ?_) fun ex r2 z C d H' e' => z C d H' (e1.trans e')⟩
  have m2 := m1.step e2 o2
  obtain ⟨pc, e, w3⟩ := ofO_some w2
  exact ⟨ρ, _, x, y, pc, m.exρ, fun b => m2.there, ((h1.ext m.exρ e2).b), (h2.b), e, fun z H' s hz => w3 z H' ((e1.trans e2).trans (.same s)) (o2.same s) hz⟩
theorem me_bin {op : Operator} {g : PV → PV → Option PV} {fa fb : EF} (ho : Op2 X (binaryOp op) g) (ha : MEk X W ka a fa) (hb : MEk X W kb b fb) : ME X W (.BinOp a op b pos) (eOp2 g fa fb) := pe_imp (pe_op ho.opR ha hb) tOp_of
theorem me_cmp {op : CmpOp} {g : PV → PV → Option PV} {fa fb : EF} (ho : Op2 X (compareOp op) g) (ha : MEk X W ka a fa) (hb : MEk X W kb b fb) (hm : behindInMarks op b = false := by first | exact nomark _ | with_unfolding_all rfl) : ME X W (.Compare a [op] [b] pos) (eOp2 g fa fb) := pe_imp (pe_cmpR ho.opR ha hb hm) tOp_of

/-! ### tests -/
def toB : PV → M Bool
  | .bl b => ret b
  | _ => fail
def tB (f : EF) : Env → M Bool := fun env => bnd (f env) toB
theorem toB_bl {x : PV} {r : RS} {K : Bool → RS → Prop} {E : Exn → RS → Prop} (h : wpM (toB x r) K E) : ∃ b, x = .bl b ∧ K b r := by
  cases x with
  | bl b => exact ⟨b, rfl, h⟩
  | _ => exact h.elim
theorem have_bl {ρ : Rw} {H0 H : Hp} {S : Addr → Prop} {c : Bool} {v : V} (h : Have ρ k H0 H S (.bl c) v) : v = .bl c := by
  cases k with
  | cl => exact (show Rep _ _ _ _ from h) |> fun z => by unfold Rep at z; exact z
  | bo =>
    rcases h with z | ⟨a, n, e, z⟩
    · unfold Rep at z; exact z
    · exact z.elim
  | fr =>
    obtain ⟨a, q, n, z, h⟩ := h
    exact h.elim
theorem rep_bl {ρ : Rw} {G : Hp} {c : Bool} {v : V} (h : Rep ρ G (.bl c) v) : v = .bl c := by unfold Rep at h; exact h
theorem rep_int {ρ : Rw} {G : Hp} {c : Int} {v : V} (h : Rep ρ G (.int c) v) : v = .int c := by unfold Rep at h; exact h
theorem have_int {ρ : Rw} {H0 H : Hp} {S : Addr → Prop} {c : Int} {v : V} (h : Have ρ k H0 H S (.int c) v) : v = .int c := by
  cases k with
  | cl => exact (show Rep _ _ _ _ from h) |> fun z => by unfold Rep at z; exact z
  | bo =>
    rcases h with z | ⟨a, n, e, z⟩
    · unfold Rep at z; exact z
    · exact z.elim
  | fr =>
    obtain ⟨a, q, n, z, h⟩ := h
    exact h.elim
theorem tTest_of {f : EF} {t : TE} (ht : ∀ σ H Q, tE mg W .bo f σ H Q → t σ H Q) (σ : L2.St) (H : Hp) (Q : Bool → Hp → Prop) (q : tT mg W (tB f) σ H Q) : tTest t σ H Q := by
  obtain ⟨ρ, F, B, env, ad, r, m, w⟩ := q
  refine ht σ H _ ⟨ρ, F, B, env, ad, r, m, wpM_mono (wpM_bnd w) (fun x r1 w1 v H1 e1 o1 h1 => ?_) fun _ _ z => z⟩
  obtain ⟨c, rfl, w2⟩ := toB_bl w1
  exact ⟨c, have_bl h1, w2 H1 e1 o1⟩
theorem mt_cmp {op : CmpOp} {g : PV → PV → Option PV} {fa fb : EF} (ho : Op2 X (compareOp op) g) (ha : MEk X W ka a fa) (hb : MEk X W kb b fb) (hm : behindInMarks op b = false := by first | exact nomark _ | with_unfolding_all rfl) : MT X W (.Compare a [op] [b] pos) (tB (eOp2 g fa fb)) :=
  pt_imp (pt_cmpR ho.opR ha hb hm) (tTest_of fun σ H Q q => tOp_of σ H Q (let ⟨ρ, F, B, env, ad, r, m, w⟩ := q; ⟨ρ, F, B, env, ad, r, m, wpM_mono w (fun x r1 z v H1 e1 o1 h1 => z v H1 e1 o1 (Have.b h1)) fun _ _ z => z⟩))
theorem mt_val {f : EF} (h : MEk X W k e f) (he : ∀ whole, isTrue e X.env whole = (do let v ← whole; standAt e.pos; holding [v] (truthy v)) := by intro _; rfl) : MT X W e (tB f) :=
  pt_imp (pt_val h he) fun σ H Q q => tTest_of (t := tE X.mg W k f) (fun σ H Q q => tE.b q) σ H Q q

def bAnd (fa fb : Env → M Bool) : Env → M Bool := fun env => bnd (fa env) fun c => if c = true then fb env else ret false
def bOr (fa fb : Env → M Bool) : Env → M Bool := fun env => bnd (fa env) fun c => if c = true then ret true else fb env
def bNot (fa : Env → M Bool) : Env → M Bool := fun env => bnd (fa env) fun c => ret (!c)
theorem tT_bind {fa : Env → M Bool} {g : Env → Bool → M Bool} {t' : Bool → TT} {σ : L2.St} {H : Hp} {Q : Bool → Hp → Prop} (q : tT mg W (fun env => bnd (fa env) (g env)) σ H Q)
    (h : ∀ c H1, tT mg W (fun env => g env c) σ H1 Q → t' c σ H1 Q) : tT mg W fa σ H (fun c H1 => t' c σ H1 Q) := by
  obtain ⟨ρ, F, B, env, ad, r, m, w⟩ := q
  refine ⟨ρ, F, B, env, ad, r, m, wpM_mono (wpM_bnd w) (fun c r1 w1 H1 e1 o1 => ?_) fun _ _ z => z⟩
  exact h c H1 ⟨ρ, F, B, env, ad, r1, m.step e1 o1, wpM_mono w1 (fun x r2 z H' e' => z H' (e1.trans e')) fun ex r2 z C d H' e' => z C d H' (e1.trans e')⟩
theorem tT_ret {c : Bool} {σ : L2.St} {H : Hp} {Q : Bool → Hp → Prop} (q : tT mg W (fun _ => ret c) σ H Q) : Q c H := by
  obtain ⟨ρ, F, B, env, ad, r, m, w⟩ := q
  exact w H (Ext.refl _ _) m.row
structure MW (X : Cx) (W : WX) (e : Expr) (f : Env → M Bool) : Prop where
  pw : PW X e (tT X.mg W f)
theorem mw_or1 {f : Env → M Bool} (h : MT X W a f) : MW X W (.BoolOp .Or [a] pos) f := ⟨pw_or1 h⟩
theorem mw_or {fa fb : Env → M Bool} (ha : MT X W a fa) (hb : MW X W (.BoolOp .Or (b :: es) pos) fb) : MW X W (.BoolOp .Or (a :: b :: es) pos) (bOr fa fb) := ⟨pw_imp (pw_or ha hb.pw) fun σ H Q q => by
  refine tT_bind (t' := fun c σ H1 Q => if c = true then Q true H1 else tT X.mg W fb σ H1 Q) q fun c H1 z => ?_
  cases c with
  | false => exact z
  | true => exact tT_ret z⟩
theorem mt_w {f : Env → M Bool} (h : MW X W e f) : MT X W e f := h.pw.pt
theorem mt_not {f : Env → M Bool} (h : MT X W a f) : MT X W (.UnaryOp .Not a pos) (bNot f) := pt_imp (pt_not h) fun σ H Q q => by
  refine tT_bind (t' := fun c σ H1 Q => Q (!c) H1) q fun c H1 z => tT_ret z

/-! ### and, or, not as values; if else -/
def eB (f : Env → M Bool) : EF := fun env => bnd (f env) fun c => ret (.bl c)
def eAnd (fa fb : EF) : EF := fun env => bnd (fa env) fun x => bnd (toB x) fun c => if c = true then fb env else ret (.bl false)
def eOr (fa fb : EF) : EF := fun env => bnd (fa env) fun x => bnd (toB x) fun c => if c = true then ret (.bl true) else fb env
def eNot (fa : EF) : EF := fun env => bnd (fa env) fun x => bnd (toB x) fun c => ret (.bl (!c))
theorem tE_bind {fa : EF} {g : Env → Bool → M PV} {t' : Bool → TE} {σ : L2.St} {H : Hp} {Q : VK} (q : tE mg W .cl (fun env => bnd (fa env) fun x => bnd (toB x) (g env)) σ H Q)
    (h : ∀ c H1, tE mg W .cl (fun env => g env c) σ H1 Q → t' c σ H1 Q) : tE mg W ka fa σ H (fun x H1 => ∃ c, x = .bl c ∧ t' c σ H1 Q) := by
  obtain ⟨ρ, F, B, env, ad, r, m, w⟩ := q
  refine ⟨ρ, F, B, env, ad, r, m, wpM_mono (wpM_bnd w) (fun x r1 w1 v H1 e1 o1 h1 => ?_) fun _ _ z => z⟩
  obtain ⟨c, rfl, w2⟩ := toB_bl (wpM_bnd w1)
  exact ⟨c, have_bl h1, h c H1 ⟨ρ, F, B, env, ad, r1, m.step e1 o1, wpM_mono w2 (fun x r2 z v H' e' => z v H' (e1.trans e')) fun ex r2 z C d H' e' => z C d H' (e1.trans e')⟩⟩
theorem tE_ret {x : PV} {v : V} {σ : L2.St} {H : Hp} {Q : VK} (f : Flat x v) (q : tE mg W .cl (fun _ => ret x) σ H Q) : Q v H := by
  obtain ⟨ρ, F, B, env, ad, r, m, w⟩ := q
  exact w v H (Ext.refl _ _) m.row (f _ _)
theorem me_one {op : BoolOp} {f : EF} (h : MEk X W k a f) : MEk X W k (.BoolOp op [a] pos) f := pe_one h
theorem me_and {fa fb : EF} (ha : MEk X W ka a fa) (hb : ME X W (.BoolOp .And (b :: es) pos) fb) : ME X W (.BoolOp .And (a :: b :: es) pos) (eAnd fa fb) := pe_imp (pe_and ha hb) fun σ H Q q => by
  refine tE_bind (t' := fun c σ H1 Q => if c = true then tE X.mg W .cl fb σ H1 Q else Q (.bl false) H1) q fun c H1 z => ?_
  cases c with
  | true => exact z
  | false => exact tE_ret (Flat.bl _) z
theorem me_or {fa fb : EF} (ha : MEk X W ka a fa) (hb : ME X W (.BoolOp .Or (b :: es) pos) fb) : ME X W (.BoolOp .Or (a :: b :: es) pos) (eOr fa fb) := pe_imp (pe_or ha hb) fun σ H Q q => by
  refine tE_bind (t' := fun c σ H1 Q => if c = true then Q (.bl true) H1 else tE X.mg W .cl fb σ H1 Q) q fun c H1 z => ?_
  cases c with
  | false => exact z
  | true => exact tE_ret (Flat.bl _) z
theorem me_not {fa : EF} (ha : MEk X W ka a fa) : ME X W (.UnaryOp .Not a pos) (eNot fa) := pe_imp (pe_not ha) fun σ H Q q => by
  refine tE_bind (t' := fun c σ H1 Q => Q (.bl (!c)) H1) q fun c H1 z => tE_ret (Flat.bl _) z
def eIf (c : Env → M Bool) (fa fb : EF) : EF := fun env => bnd (c env) fun d => if d = true then fa env else fb env
theorem me_if {fc : Env → M Bool} {fa fb : EF} (hc : MT X W c fc) (ha : MEk X W k a fa) (hb : MEk X W k b fb) : MEk X W k (.IfExp c a b pos) (eIf fc fa fb) := pe_imp (pe_ifExp hc ha hb) fun σ H Q q => by
  obtain ⟨ρ, F, B, env, ad, r, m, w⟩ := q
  refine ⟨ρ, F, B, env, ad, r, m, wpM_mono (wpM_bnd w) (fun d r1 w1 H1 e1 o1 => ?_) fun _ _ z => z⟩
  have m1 := m.step e1 o1
  cases d with
  | true => exact ⟨ρ, F, B, env, ad, r1, m1, wpM_mono w1 (fun x r2 z v H' e' o' h' => z v H' (e1.trans e') o' (h'.since e1)) fun ex r2 z C d H' e' => z C d H' (e1.trans e')⟩
  | false => exact ⟨ρ, F, B, env, ad, r1, m1, wpM_mono w1 (fun x r2 z v H' e' o' h' => z v H' (e1.trans e') o' (h'.since e1)) fun ex r2 z C d H' e' => z C d H' (e1.trans e')⟩
/-- x op1 y op2 z -/
def eChain (g g' : PV → PV → Option PV) (fa fb fc : EF) : EF := fun env => bnd (fa env) fun x => bnd (fb env) fun y => bnd (ofO (g x y)) fun z => bnd (toB z) fun c => if c = true then bnd (fc env) fun w => ofO (g' y w) else ret (.bl false)
theorem tChain_of {g g' : PV → PV → Option PV} {fa fb fc : EF} (σ : L2.St) (H : Hp) (Q : VK) (q : tE mg W .cl (eChain g g' fa fb fc) σ H Q) : tChain (rP2 g) (rP2 g') (tE mg W ka fa) (tE mg W kb fb) (tE mg W kc fc) σ H Q := by
  obtain ⟨ρ, F, B, env, ad, r, m, w⟩ := q
  refine ⟨ρ, F, B, env, ad, r, m, wpM_mono (wpM_bnd w) (fun x r1 w1 v1 H1 e1 o1 h1 => ?_) fun _ _ z => z⟩
  have m1 := m.step e1 o1
  refine ⟨ρ, F, B, env, ad, r1, m1, wpM_mono (wpM_bnd w1) (fun y r2 w2 v2 H2 e2 o2 h2 => ?_) fun ex r2 z C d H' e' => z C d H' (e1.trans e')⟩
  have m2 := m1.step e2 o2
  obtain ⟨pc, e, w3⟩ := ofO_some (wpM_bnd w2)
  obtain ⟨c, rfl, w4⟩ := toB_bl (wpM_bnd w3)
  refine ⟨ρ, _, x, y, .bl c, m.exρ, fun b => m2.there, ((h1.ext m.exρ e2).b), (h2.b), e, fun z H3 s hz => ⟨c, rep_bl hz, ?_⟩⟩
  have m3 := m2.step (.same s) (o2.same s)
  cases c with
  | false => exact w4 (.bl false) H3 ((e1.trans e2).trans (.same s)) (o2.same s) (by show Rep ρ (Hx H3 (Ex F env ad)) _ _; exact Flat.bl _ _ _)
  | true =>
    refine ⟨ρ, F, B, env, ad, r2, m3, wpM_mono (wpM_bnd w4) (fun u r4 w5 v4 H4 e4 o4 h4 => ?_) fun ex r2 z C d H' e' => z C d H' (((e1.trans e2).trans (.same s)).trans e')⟩
    have m4 := m3.step e4 o4
    obtain ⟨pd, e5, w6⟩ := ofO_some w5
    exact ⟨ρ, _, y, u, pd, m.exρ, fun b => m4.there, (((h2.b).ext m.exρ (.same s)).ext m.exρ e4), h4.b, e5, fun z H' s' hz' => w6 z H' ((((e1.trans e2).trans (.same s)).trans e4).trans (.same s')) (o4.same s') hz'⟩
theorem me_chain {op op' : CmpOp} {g g' : PV → PV → Option PV} {fa fb fc : EF} (ho : Op2 X (compareOp op) g) (ho' : Op2 X (compareOp op') g') (ha : MEk X W ka a fa) (hb : MEk X W kb b fb) (hc : MEk X W kc c fc)
    (hm : lastMarks [op, op'] [b, c] = false := by with_unfolding_all rfl) : ME X W (.Compare a [op, op'] [b, c] pos) (eChain g g' fa fb fc) := pe_imp (pe_chain ho.opR ho'.opR ha hb hc hm) tChain_of
end
end Mir

namespace Mir
open PySem PySem.Spec PyProof.Rows L2
/-! ### lists of values -/
def HaveL (ρ : Rw) (k : Kd) (H : Hp) (S : Addr → Prop) : List PV → List V → Prop
  | [], vs => vs = []
  | x :: xs, vs => ∃ v r, vs = v :: r ∧ (match k with | .cl => Rep ρ (Hx H S) x v | _ => HaveB ρ H S x v) ∧ HaveL ρ k H S xs r
theorem HaveL.ext {ρ : Rw} {k : Kd} {H H' : Hp} {S : Addr → Prop} (hρ : S ρ.a) (e : Ext ρ H H') : ∀ {xs : List PV} {vs : List V}, HaveL ρ k H S xs vs → HaveL ρ k H' S xs vs
  | [], vs, h => h
  | x :: xs, vs, ⟨v, r, q, a, b⟩ => ⟨v, r, q, by
      cases k with
      | cl => exact Rep.mono (hx_ext hρ e) _ _ a
      | bo => exact HaveB.ext hρ e a
      | fr => exact HaveB.ext hρ e a, HaveL.ext hρ e b⟩
theorem HaveL.rep {ρ : Rw} {H : Hp} {S : Addr → Prop} : ∀ {xs : List PV} {vs : List V}, HaveL ρ .cl H S xs vs → RepL ρ (Hx H S) xs vs
  | [], vs, h => by rw [show vs = [] from h]; exact .nil
  | x :: xs, vs, ⟨v, r, q, a, b⟩ => by rw [q]; exact .cons a (HaveL.rep b)
theorem HaveL.length {ρ : Rw} {k : Kd} {H : Hp} {S : Addr → Prop} : ∀ {xs : List PV} {vs : List V}, HaveL ρ k H S xs vs → vs.length = xs.length
  | [], vs, h => by rw [show vs = [] from h]; rfl
  | x :: xs, vs, ⟨v, r, q, a, b⟩ => by rw [q, List.length_cons, List.length_cons, HaveL.length b]
abbrev AF := Env → M (List PV)
def tL (mg : Str → Option Value) (W : WX) (k : Kd) (f : AF) : TA := fun σ H Q => ∃ ρ F B env ad r, Fm ρ F B H r σ env ad ∧
  wpM (f env r) (fun xs r' => ∀ vs H', Ext ρ H H' → RowAt ρ H' r' → HaveL ρ k H' (Ex F env ad) xs vs → Q vs H')
    (fun e r' => ∀ C d H', Ext ρ H H' → RowAt ρ H' r' → ExR mg H' C d e → W C d σ H')
abbrev MLk (X : Cx) (W : WX) (k : Kd) (es : List Expr) (f : AF) : Prop := PA X es (tL X.mg W k f)
section
variable {X : Cx} {W : WX} {k ka kb kc : Kd} {pos : Pos} {e a b c : Expr} {es : List Expr} {mg : Str → Option Value}
def aNil : AF := fun _ => ret []
def aCons (fa : EF) (fr : AF) : AF := fun env => bnd (fa env) fun x => bnd (fr env) fun xs => ret (x :: xs)
theorem ml_nil : MLk X W k [] aNil := pa_imp pa_nil fun σ H Q q => by
  obtain ⟨ρ, F, B, env, ad, r, m, w⟩ := q
  exact w [] H (Ext.refl _ _) m.row rfl
theorem ml_cons {fa : EF} {fr : AF} (ha : MEk X W k a fa) (hr : MLk X W k es fr) (hs : starEach (a :: es) X.env = (false, eval a X.env) :: starEach es X.env := by rfl) : MLk X W k (a :: es) (aCons fa fr) := pa_imp (pa_cons ha hr hs) fun σ H Q q => by
  obtain ⟨ρ, F, B, env, ad, r, m, w⟩ := q
  refine ⟨ρ, F, B, env, ad, r, m, wpM_mono (wpM_bnd w) (fun x r1 w1 v1 H1 e1 o1 h1 => ?_) fun _ _ z => z⟩
  have m1 := m.step e1 o1
  refine ⟨ρ, F, B, env, ad, r1, m1, wpM_mono (wpM_bnd w1) (fun xs r2 w2 vs H2 e2 o2 h2 => ?_) fun ex r2 z C d H' e' => z C d H' (e1.trans e')⟩
  refine w2 (v1 :: vs) H2 (e1.trans e2) o2 ⟨v1, vs, rfl, ?_, h2⟩
  cases k with
  | cl => exact Rep.mono (hx_ext m.exρ e2) _ _ h1
  | bo => exact HaveB.ext m.exρ e2 h1
  | fr => exact HaveB.ext m.exρ e2 (Have.b h1)

/-! ### displays -/
def eTup (fs : AF) : EF := fun env => bnd (fs env) fun xs => if xs.length ≤ 16777216 then ret (.tup xs) else fail
def eLst (fs : AF) : EF := fun env => bnd (fs env) fun xs => if xs.length ≤ 16777216 then ret (.lst xs) else fail
theorem hx_new {H : Hp} {S : Addr → Prop} {p : Addr} {o' : HO} (np : H p = none) : ∀ b o, Hx H S b = some o → Hx (upd H p o') S b = some o := fun b o q => by
  obtain ⟨n, q⟩ := Hx_some q
  rw [Hx_out n, upd_ne (ne_of_none q np)]; exact q
theorem hx_new' {H : Hp} {S : Addr → Prop} {p : Addr} {o' : HO} (np : H p = none) : ∀ b o, Hx H S b = some o → Hx (upd H p o') (fun c => S c ∨ c = p) b = some o := fun b o q => by
  obtain ⟨n, q⟩ := Hx_some q
  rw [Hx_out fun z => z.elim n (ne_of_none q np), upd_ne (ne_of_none q np)]; exact q
theorem hx_at {H : Hp} {S : Addr → Prop} {p : Addr} {o' : HO} (hS : ∀ b, S b → H b ≠ none) (np : H p = none) : Hx (upd H p o') S p = some o' := by
  rw [Hx_out fun z => hS p z np, upd_same]
theorem fresh_back {ρ : Rw} {H H1 : Hp} {p : Addr} (e : Ext ρ H H1) (h : H1 ρ.a ≠ none) (np : H1 p = none) : H p = none ∧ p ≠ ρ.a := by
  have n : p ≠ ρ.a := fun z => h (z ▸ np)
  refine ⟨?_, n⟩
  cases y : H p with
  | none => rfl
  | some o => rw [e p o y n] at np; cases np
theorem wpM_ite {c : Prop} [Decidable c] {α : Type} {m : M α} {r : RS} {K : α → RS → Prop} {E : Exn → RS → Prop} (h : wpM ((if c then m else fail) r) K E) : c ∧ wpM (m r) K E := by
  by_cases q : c
  · rw [if_pos q] at h; exact ⟨q, h⟩
  · rw [if_neg q] at h; exact h.elim
theorem me_tup {fs : AF} {x1} (h : MLk X W .cl es fs) : ME X W (.Tuple es x1 pos) (eTup fs) := pe_imp (pe_tup h) fun σ H Q q => by
  obtain ⟨ρ, F, B, env, ad, r, m, w⟩ := q
  refine ⟨ρ, F, B, env, ad, r, m, wpM_mono (wpM_bnd w) (fun xs r1 w1 vs H1 e1 o1 h1 => ?_) fun _ _ z => z⟩
  obtain ⟨hz, w2⟩ := wpM_ite w1
  have m1 := m.step e1 o1
  refine ⟨by rw [h1.length, sizeLine_eq]; exact hz, fun p np => ?_⟩
  refine w2 (.ref p) _ (e1.trans (.same (same_upd np))) (o1.same (same_upd np)) ?_
  show Rep _ _ _ _
  unfold Rep
  exact ⟨p, vs, rfl, hx_at (fun b => m1.there) np, h1.rep.mono (hx_new np)⟩
theorem me_lst {fs : AF} (h : MLk X W .cl es fs) : MEk X W .fr (.List es pos) (eLst fs) := pe_imp (pe_lst h) fun σ H Q q => by
  obtain ⟨ρ, F, B, env, ad, r, m, w⟩ := q
  refine ⟨ρ, F, B, env, ad, r, m, wpM_mono (wpM_bnd w) (fun xs r1 w1 vs H1 e1 o1 h1 => ?_) fun _ _ z => z⟩
  obtain ⟨hz, w2⟩ := wpM_ite w1
  have m1 := m.step e1 o1
  refine ⟨by rw [h1.length, sizeLine_eq]; exact hz, fun p np => ?_⟩
  obtain ⟨f1, f2⟩ := fresh_back e1 o1.there np
  exact w2 (.ref p) _ (e1.trans (.same (same_upd np))) (o1.same (same_upd np)) ⟨p, rfl, f1, f2, vs, upd_same, h1.rep.mono (hx_new' np)⟩
end

/-! ### the call of a def -/
def callN (n : Nat) (m : List PV → M PV) (xs : List PV) : M PV := if xs.length = n then m xs else fail
/-- what a def promises: its mirror's answer -/
def spM (mg : Str → Option Value) (n : Nat) (m : List PV → M PV) : Sp := fun vs H Q E => ∃ ρ F xs r, F ρ.a ∧ (∀ b, F b → NT (H b)) ∧ RowAt ρ H r ∧ RepL ρ (Hx H F) xs vs ∧
  wpM (callN n m xs r) (fun x r' => ∀ v H', Ext ρ H H' → RowAt ρ H' r' → Rep ρ (Hx H' F) x v → Q v H') (fun e r' => ∀ C d H', Ext ρ H H' → RowAt ρ H' r' → ExR mg H' C d e → E C d H')
theorem spM_len {mg : Str → Option Value} {n : Nat} {m : List PV → M PV} {vs : List V} {H : Hp} {Q : VK} {E : XK} (h : spM mg n m vs H Q E) : vs.length = n := by
  obtain ⟨ρ, F, xs, r, _, _, _, h1, w⟩ := h
  rw [h1.length]
  exact (wpM_ite w).1
/-- a def of the module that keeps its mirror -/
structure FnM (P : Program) (w : World) (K : PySem.W.Frag) (mg : Str → Option Value) (base : Heap) (k : Nat) (x : Str) (n : Nat) (m : List PV → M PV) : Prop where
  ex : ∃ f fd ps, FnOk P w K mg base (L2.CX P w) k f fd ps (spM mg n m) ∧ mg x = some (.ref f) ∧ PySem.W.keepIn K (.ref f) = true ∧ Binds K fd ps []
def eCall (n : Nat) (m : List PV → M PV) (fs : AF) : EF := fun env => bnd (fs env) (callN n m)
section
variable {X : Cx} {W : WX} {k ka kb kc : Kd} {pos p : Pos} {e a b c : Expr} {es : List Expr} {j j' n : Nat} {x : Str} {m : List PV → M PV}
theorem me_call {fs : AF} (T : Ct X W j) (F : FnM X.prog X.w X.K X.mg X.base j' x n m) (hj : j' ≤ j) (ha : MLk X W .cl (e :: es) fs) (hg : Gl X x := by rfl) (hdb : (x == ("__debug__" : Str)) = false := by decide)
    (he : starEach (e :: es) X.env = (false, eval e X.env) :: starEach es X.env := by rfl) (hpl : (backTo pos (starEach es X.env)).any (·.1) = false := by rfl) : ME X W (.Call (.Name x p) (e :: es) [] pos) (eCall n m fs) := by
  obtain ⟨f, fd, ps, G, hm, hk, hb⟩ := F.ex
  refine pe_imp (pe_callS (E := WE W) G (T.hr.mono hj) hg hm hk hb (passAt T.tk) ha hdb he hpl) fun σ H Q q => ?_
  obtain ⟨ρ, F', B, env, ad, r, mm, w⟩ := q
  refine ⟨ρ, F', B, env, ad, r, mm, wpM_mono (wpM_bnd w) (fun xs r1 w1 vs H1 e1 o1 h1 => ?_) fun _ _ z => z⟩
  have m1 := mm.step e1 o1
  exact ⟨ρ, Ex F' env ad, xs, r1, m1.exρ, fun b => m1.nt, o1, h1.rep, wpM_mono w1 (fun y r2 z v H2 e2 o2 h2 => z v H2 (e1.trans e2) o2 h2) fun ex r2 z C d H2 e2 => z C d H2 (e1.trans e2)⟩
end

/-! ### statements -/
def sSeq (f g : Env → M Fl) : Env → M Fl := fun env => bnd (f env) fun fl => match fl with
  | .nx e => g e
  | o => ret o
def sNext : Env → M Fl := fun env => ret (.nx env)
def sPut (i : Nat) (s : Slot) : Env → M Fl := fun env => if i < env.length then ret (.nx (env.set i s)) else fail
def sSet (i : Nat) (f : EF) : Env → M Fl := fun env => bnd (f env) fun v => sPut i (.sh v) env
def sSetO (i : Nat) (f : EF) : Env → M Fl := fun env => bnd (f env) fun v => sPut i (.ow v) env
def sExpr (f : EF) : Env → M Fl := fun env => bnd (f env) fun _ => ret (.nx env)
def sRet (f : EF) : Env → M Fl := fun env => bnd (f env) fun v => ret (.rt v)
def sIf (c : Env → M Bool) (f g : Env → M Fl) : Env → M Fl := fun env => bnd (c env) fun b => if b = true then f env else g env
def sAug (i : Nat) (g : PV → PV → Option PV) (f : EF) : Env → M Fl := fun env => bnd (eVar i env) fun x => bnd (f env) fun y => bnd (ofO (g x y)) fun z => sPut i (.sh z) env
section
variable {ρ : Rw} {F : Addr → Prop} {B H H' : Hp} {r r' : RS} {σ : L2.St} {env : Env} {ad : Nat → Addr} {x : PV} {v : V}
theorem Ex.set {i : Nat} {s : Slot} {b : Addr} (h : Ex F (env.set i s) ad b) (hs : ∀ y, s ≠ .ow y) : Ex F env ad b := by
  rcases h with h | ⟨j, y, e, rfl⟩
  · exact .inl h
  · by_cases z : i = j
    · subst z
      by_cases hi : i < env.length
      · rw [List.getElem?_set_self hi] at e
        exact absurd (Option.some.inj e) (hs y)
      · rw [List.getElem?_eq_none (by rw [List.length_set]; omega)] at e; cases e
    · rw [List.getElem?_set_ne z] at e
      exact .inr ⟨j, y, e, rfl⟩
theorem hx_less {S S' : Addr → Prop} (h : ∀ b, S' b → S b) : ∀ b o, Hx H S b = some o → Hx H S' b = some o := fun b o q => by
  obtain ⟨n, q⟩ := Hx_some q
  rw [Hx_out fun z => n (h b z)]; exact q
/-- a clean value is stored -/
theorem Fm.set (m : Fm ρ F B H r σ env ad) {i : Nat} (hi : i < env.length) (h : Rep ρ (Hx H (Ex F env ad)) x v) : Fm ρ F B H r (σ.set i (some v)) (env.set i (.sh x)) ad where
  row := m.row
  hρ := m.hρ
  dom := m.dom
  ext := m.ext
  lsB := m.lsB
  len := by rw [List.length_set, List.length_set]; exact m.len
  sh := fun j y e => by
    have less : ∀ b o, Hx H (Ex F env ad) b = some o → Hx H (Ex F (env.set i (.sh x)) ad) b = some o := hx_less fun b z => z.set fun y => by intro h; cases h
    by_cases z : i = j
    · subst z
      rw [List.getElem?_set_self hi] at e
      cases e
      exact ⟨v, List.getElem?_set_self (by rw [m.len]; exact hi), h.mono less⟩
    · rw [List.getElem?_set_ne z] at e ⊢
      obtain ⟨u, a, b⟩ := m.sh j y e
      exact ⟨u, a, b.mono less⟩
  ow := fun j y e => by
    have less : ∀ b o, Hx H (Ex F env ad) b = some o → Hx H (Ex F (env.set i (.sh x)) ad) b = some o := hx_less fun b z => z.set fun y => by intro h; cases h
    by_cases z : i = j
    · subst z
      rw [List.getElem?_set_self hi] at e
      cases e
    · rw [List.getElem?_set_ne z] at e ⊢
      obtain ⟨a, b, c, d⟩ := m.ow j y e
      exact ⟨a, b, c, d.mono (fun _ q => q) less⟩
  inj := fun j l y y' e e' q => by
    have k : ∀ {j : Nat} {y : PV}, (env.set i (.sh x))[j]? = some (.ow y) → env[j]? = some (.ow y) := fun {j y} e => by
      by_cases z : i = j
      · subst z
        rw [List.getElem?_set_self hi] at e
        cases e
      · rw [List.getElem?_set_ne z] at e; exact e
    exact m.inj j l y y' (k e) (k e') q
/-- a fresh thing is stored: it is the frame's own from here -/
theorem Fm.setFr {H1 : Hp} {r1 : RS} {a : Addr} (m : Fm ρ F B H r σ env ad) (e1 : Ext ρ H H1) (o1 : RowAt ρ H1 r1) {i : Nat} (hi : i < env.length) (na : H a = none) (nρ : a ≠ ρ.a) (h : OwR ρ H1 (Hx H1 fun b => Ex F env ad b ∨ b = a) x a) :
    Fm ρ F B H1 r1 (σ.set i (some (.ref a))) (env.set i (.ow x)) (fun j => if j = i then a else ad j) := by
  have m1 := m.step e1 o1
  have nB : B a = none := by
    cases y : B a with
    | none => rfl
    | some o => rw [m.ext a o y nρ] at na; cases na
  have nE : ¬ Ex F env ad a := fun z => m.there z na
  have sub : ∀ b, Ex F (env.set i (.ow x)) (fun j => if j = i then a else ad j) b → Ex F env ad b ∨ b = a := fun b z => by
    rcases z with z | ⟨j, y, e, rfl⟩
    · exact .inl (.inl z)
    · by_cases q : j = i
      · subst q
        exact .inr (if_pos rfl)
      · rw [List.getElem?_set_ne (Ne.symm q)] at e
        refine .inl (.inr ⟨j, y, e, ?_⟩)
        show ad j = if j = i then a else ad j
        rw [if_neg q]
  have ol : ∀ b o, Hx H (Ex F env ad) b = some o → Hx H1 (Ex F (env.set i (.ow x)) (fun j => if j = i then a else ad j)) b = some o := fun b o q => by
    obtain ⟨n, q⟩ := Hx_some q
    rw [Hx_out fun z => (sub b z).elim n fun y => by rw [y, na] at q; cases q]
    exact e1 b o q fun z => n (z ▸ m.exρ)
  have k : ∀ {j : Nat} {y : PV}, (env.set i (.ow x))[j]? = some (.ow y) → (j = i ∧ y = x) ∨ (j ≠ i ∧ env[j]? = some (.ow y)) := fun {j y} e => by
    by_cases z : i = j
    · subst z
      rw [List.getElem?_set_self hi] at e
      cases e
      exact .inl ⟨rfl, rfl⟩
    · rw [List.getElem?_set_ne z] at e; exact .inr ⟨Ne.symm z, e⟩
  refine ⟨o1, m.hρ, m1.dom, m1.ext, m.lsB, by rw [List.length_set, List.length_set]; exact m.len, fun j y e => ?_, fun j y e => ?_, fun j l y y' e e' q => ?_⟩
  · by_cases z : i = j
    · subst z
      rw [List.getElem?_set_self hi] at e
      cases e
    · rw [List.getElem?_set_ne z] at e ⊢
      obtain ⟨u, a1, b1⟩ := m.sh j y e
      exact ⟨u, a1, b1.mono ol⟩
  · rcases k e with ⟨rfl, rfl⟩ | ⟨z, e⟩
    · refine ⟨by rw [List.getElem?_set_self (by rw [m.len]; exact hi), if_pos rfl], by rw [if_pos rfl]; exact ⟨nB, fun z => nE (.inl z)⟩, by rw [if_pos rfl]; exact nρ, ?_⟩
      rw [if_pos rfl]
      exact h.mono (fun _ q => q) (hx_less sub)
    · obtain ⟨a1, b1, c1, d1⟩ := m.ow j y e
      rw [if_neg z, List.getElem?_set_ne (Ne.symm z)]
      exact ⟨a1, b1, c1, d1.mono (fun o q => e1 _ o q c1) ol⟩
  · have q : (if j = i then a else ad j) = (if l = i then a else ad l) := q
    rcases k e with ⟨z, _⟩ | ⟨z, e2⟩ <;> rcases k e' with ⟨z', _⟩ | ⟨z', e3⟩
    · rw [z, z']
    · rw [if_pos z, if_neg z'] at q
      exact absurd (.inr ⟨l, y', e3, q.symm⟩) nE
    · rw [if_neg z, if_pos z'] at q
      exact absurd (.inr ⟨j, y, e2, q⟩) nE
    · rw [if_neg z, if_neg z'] at q
      exact m.inj j l y y' e2 e3 q
theorem sPut_ok {i : Nat} {s : Slot} {K : Fl → RS → Prop} {E : Exn → RS → Prop} (h : wpM (sPut i s env r) K E) : i < env.length ∧ K (.nx (env.set i s)) r := by
  obtain ⟨a, b⟩ := wpM_ite h
  exact ⟨a, b⟩
theorem Fm.retv (m : Fm ρ F B H r σ env ad) (h : Rep ρ (Hx H (Ex F env ad)) x v) : Rep ρ (Hx H F) x v := h.mono (hx_less fun b z => .inl z)
end
section
variable {X : Cx} {W : WX} {k ka kb kc : Kd} {pos pos' p : Pos} {e a b c : Expr} {es : List Expr} {j j' n i : Nat} {x : Str} {st : Stmt} {rest : List Stmt} {f g : Env → M Fl} {fa : EF}
theorem ms0 (h : MS0 X W st f) : MS X W st f := ps_imp h fun D σ H q => by
  obtain ⟨ρ, F, B, env, ad, r, m, w⟩ := q
  exact ⟨ρ, F, B, env, ad, r, m, wpM_mono w (fun _ _ z => z) fun e r' z C d H' e1 o1 => z C d σ H' ⟨env, ad, m.step e1 o1⟩⟩
theorem mss_nil : MSs X W [] sNext := pss_imp pss_nil fun D σ H q => by
  obtain ⟨ρ, F, B, env, ad, r, m, w⟩ := q
  exact w σ H ad m
theorem mss_cons (h1 : MS X W st f) (h2 : MSs X W rest g) : MSs X W (st :: rest) (sSeq f g) := pss_imp (pss_cons h1 h2) fun D σ H q => by
  obtain ⟨ρ, F, B, env, ad, r, m, w⟩ := q
  refine ⟨ρ, F, B, env, ad, r, m, wpM_mono (wpM_bnd w) (fun fl r1 w1 => ?_) fun _ _ z => z⟩
  cases fl with
  | nx e1 => exact fun σ' H' ad' m' => ⟨ρ, F, B, e1, ad', r1, m', w1⟩
  | rt v => exact w1
  | bk e1 => exact w1
  | ct e1 => exact w1
theorem mss_one (h : MS X W st f) : MSs X W [st] f := pss_one h
theorem ms_set (T : Ct X W j) (he : ME X W e fa) (i : Nat) (hi : X.N[i]? = some x := by rfl) (hx : Loc X.env.scope x := by first | exact Or.inl rfl | exact Or.inr rfl) (hs : swapsWith e (some (.Name x pos')) pos.line X.env = pure false := by rfl)
    (hf : X.fn x = true ∨ X.env.scope.names.lookup x = some .local := by first | exact .inl rfl | exact .inr rfl) : MS0 X W (.Assign [.Name x pos'] e pos) (sSet i fa) := ps_imp (ps_set T.nd hi hx he hs hf) fun D σ H q => by
  obtain ⟨ρ, F, B, env, ad, r, m, w⟩ := q
  refine ⟨ρ, F, B, env, ad, r, m, wpM_mono (wpM_bnd w) (fun y r1 w1 v H1 e1 o1 h1 => ?_) fun _ _ z => z⟩
  obtain ⟨hi, w2⟩ := sPut_ok w1
  exact w2 _ H1 ad ((m.step e1 o1).set hi h1)
theorem ms_setO (T : Ct X W j) (he : MEk X W .fr e fa) (i : Nat) (hi : X.N[i]? = some x := by rfl) (hx : Loc X.env.scope x := by first | exact Or.inl rfl | exact Or.inr rfl) (hs : swapsWith e (some (.Name x pos')) pos.line X.env = pure false := by rfl)
    (hf : X.fn x = true ∨ X.env.scope.names.lookup x = some .local := by first | exact .inl rfl | exact .inr rfl) : MS0 X W (.Assign [.Name x pos'] e pos) (sSetO i fa) := ps_imp (ps_set T.nd hi hx he hs hf) fun D σ H q => by
  obtain ⟨ρ, F, B, env, ad, r, m, w⟩ := q
  refine ⟨ρ, F, B, env, ad, r, m, wpM_mono (wpM_bnd w) (fun y r1 w1 v H1 e1 o1 h1 => ?_) fun _ _ z => z⟩
  obtain ⟨hi, w2⟩ := sPut_ok w1
  obtain ⟨a, rfl, na, nρ, h⟩ := h1
  exact w2 _ H1 _ (m.setFr e1 o1 hi na nρ h)
theorem ms_expr (he : MEk X W k e fa) (hs : swapsWith e none pos.line X.env = pure false := by rfl) : MS0 X W (.Expr e pos) (sExpr fa) := ps_imp (ps_expr he hs) fun D σ H q => by
  obtain ⟨ρ, F, B, env, ad, r, m, w⟩ := q
  exact ⟨ρ, F, B, env, ad, r, m, wpM_mono (wpM_bnd w) (fun y r1 w1 v H1 e1 o1 h1 => w1 _ H1 ad (m.step e1 o1)) fun _ _ z => z⟩
theorem ms_ret (he : ME X W e fa) : MS0 X W (.Return (some e) pos) (sRet fa) := ps_imp (ps_ret he) fun D σ H q => by
  obtain ⟨ρ, F, B, env, ad, r, m, w⟩ := q
  refine ⟨ρ, F, B, env, ad, r, m, wpM_mono (wpM_bnd w) (fun y r1 w1 v H1 e1 o1 h1 => ?_) fun _ _ z => z⟩
  exact w1 v H1 (m.ext.trans e1) o1 ((m.step e1 o1).retv h1)
theorem ms_if {fc : Env → M Bool} {ss ts : List Stmt} (hc : MT X W c fc) (ha : MSs X W ss f) (hb : MSs X W ts g) : MS X W (.If c ss ts pos) (sIf fc f g) := ps_imp (ps_if hc ha hb) fun D σ H q => by
  obtain ⟨ρ, F, B, env, ad, r, m, w⟩ := q
  refine ⟨ρ, F, B, env, ad, r, m, wpM_mono (wpM_bnd w) (fun d r1 w1 H1 e1 o1 => ?_) fun e r' z C d H' e1 o1 => z C d σ H' ⟨env, ad, m.step e1 o1⟩⟩
  have m1 := m.step e1 o1
  cases d with
  | true => exact ⟨ρ, F, B, env, ad, r1, m1, w1⟩
  | false => exact ⟨ρ, F, B, env, ad, r1, m1, w1⟩
end
end Mir

namespace Mir
open PySem PySem.Spec PyProof.Rows L2
/-! ### what is walked -/
def Walk (ρ : Rw) (G0 G : Hp) (J : It) (xs : List PV) : Prop := ∀ (i : Nat) (H : Hp), (∀ b o, G b = some o → H b = some o) →
  (∀ x, xs[i]? = some x → J.go i H ∧ ∀ v H', J.yld i H v H' → Same H H' ∧ ∀ S : Addr → Prop, (∀ b, S b → NT (H b)) → (∀ b o, G0 b = some o → Hx H' S b = some o) → Rep ρ (Hx H' S) x v) ∧
  (xs.length ≤ i → J.stop i H)
/-- bo: the thing that is walked may be owned (no statement runs between the turns) -/
noncomputable def stayG (ρ : Rw) (bo : Bool) (H : Hp) (S : Addr → Prop) : Hp := if bo = true then Hx H (fun b => b = ρ.a) else Hx H S
def tI (mg : Str → Option Value) (W : WX) (bo : Bool) (f : AF) : TI := fun σ H R => ∃ ρ F B env ad r, Fm ρ F B H r σ env ad ∧
  wpM (f env r) (fun xs r' => ∀ J H', Ext ρ H H' → RowAt ρ H' r' → Walk ρ (Hx H' (Ex F env ad)) (stayG ρ bo H' (Ex F env ad)) J xs → R J H')
    (fun e r' => ∀ C d H', Ext ρ H H' → RowAt ρ H' r' → ExR mg H' C d e → W C d σ H')
abbrev MI (X : Cx) (W : WX) (bo : Bool) (tg iter : Expr) (f : AF) : Prop := PI X tg iter (tI X.mg W bo f)
theorem pi_imp {X : Cx} {tg e : Expr} {t t' : TI} (h : PI X tg e t) (i : ∀ σ H Q, t' σ H Q → t σ H Q) : PI X tg e t' := ⟨fun pins s σ H Q I q => h.run pins s σ H Q I (i σ H Q q)⟩
theorem pg_imp {X : Cx} {e : Expr} {t t' : TG} (h : PG X e t) (i : ∀ v σ H Q, t' v σ H Q → t v σ H Q) : PG X e t' := ⟨fun pins s σ H v u Q I r q => h.run pins s σ H v u Q I r (i v σ H Q q)⟩
theorem pgs_imp {X : Cx} {es : List Expr} {t t' : TGs} (h : PGs X es t) (i : ∀ v σ H Q, t' v σ H Q → t v σ H Q) : PGs X es t' := ⟨fun pins s σ H v u Q I r q => h.run pins s σ H v u Q I r (i v σ H Q q)⟩
def unL : PV → M (List PV)
  | .lst xs => ret xs
  | _ => fail
def unT : PV → M (List PV)
  | .tup xs => ret xs
  | _ => fail
def iLst (f : EF) : AF := fun env => bnd (f env) unL
def iTupl (f : EF) : AF := fun env => bnd (f env) unT
def isBo : Kd → Bool
  | .bo => true
  | _ => false
section
variable {X : Cx} {W : WX} {k ka kb kc : Kd} {pos pos' p : Pos} {e a b c tg : Expr} {es : List Expr} {j j' n i : Nat} {x : Str} {fa : EF} {fs : AF}
theorem stay_at {ρ : Rw} {H : Hp} {S : Addr → Prop} {bo : Bool} {b : Addr} {o : HO} (h : H b = some o) (n : b ≠ ρ.a) (ns : bo = false → ¬ S b) : stayG ρ bo H S b = some o := by
  unfold stayG
  cases bo with
  | true => rw [if_pos rfl, Hx_out (S := fun b => b = ρ.a) n]; exact h
  | false => rw [if_neg Bool.false_ne_true, Hx_out (ns rfl)]; exact h
theorem walk_list {K : PySem.W.Frag} {ρ : Rw} {G0 G H1 : Hp} {a : Addr} {xs : List PV} {vs : List V} (g : G a = some (.lst vs)) (l : RepL ρ G0 xs vs) : Walk ρ G0 G (Itl K a) xs := fun i H hG => by
  have e : SqL K H a vs := .inl (.inl (hG _ _ g))
  refine ⟨fun x hx => ?_, fun hn => ⟨vs, e, by rw [l.length]; exact hn⟩⟩
  obtain ⟨v, hv, r⟩ := l.get hx
  refine ⟨⟨vs, v, e, hv⟩, fun u H' hy => ?_⟩
  obtain ⟨rfl, hy⟩ := hy
  have e2 : u = v := Option.some.inj ((hy vs e).symm.trans hv)
  subst e2
  exact ⟨Same.refl _, fun S _ hg => r.mono hg⟩
theorem walk_tup {K : PySem.W.Frag} {ρ : Rw} {G0 G H1 : Hp} {a : Addr} {xs : List PV} {vs : List V} (g : G a = some (.tup vs)) (l : RepL ρ G0 xs vs) : Walk ρ G0 G (Itt K a) xs := fun i H hG => by
  have e : SqT K H a vs := .inl (.inl (hG _ _ g))
  refine ⟨fun x hx => ?_, fun hn => ⟨vs, e, by rw [l.length]; exact hn⟩⟩
  obtain ⟨v, hv, r⟩ := l.get hx
  refine ⟨⟨vs, v, e, hv⟩, fun u H' hy => ?_⟩
  obtain ⟨rfl, hy⟩ := hy
  have e2 : u = v := Option.some.inj ((hy vs e).symm.trans hv)
  subst e2
  exact ⟨Same.refl _, fun S _ hg => r.mono hg⟩
/-- a value that is a list, however it is had: where it lies -/
theorem have_lst {ρ : Rw} {H0 H : Hp} {S : Addr → Prop} {xs : List PV} {v : V} (hS0 : ∀ b, S b → H0 b ≠ none) (hρ : S ρ.a) (h : Have ρ k H0 H S (.lst xs) v) : ∃ a vs, v = .ref a ∧ H a = some (.lst vs) ∧ RepL ρ (Hx H S) xs vs ∧ a ≠ ρ.a ∧ (isBo k = false → ¬ S a) := by
  cases k with
  | cl =>
    have h : Rep _ _ _ _ := h
    unfold Rep at h
    obtain ⟨a, vs, e, g, l⟩ := h
    obtain ⟨n, g⟩ := Hx_some g
    exact ⟨a, vs, e, g, l, fun z => n (z ▸ hρ), fun _ => n⟩
  | bo =>
    rcases h with h | ⟨a, n, e, vs, g, l⟩
    · unfold Rep at h
      obtain ⟨a, vs, e, g, l⟩ := h
      obtain ⟨n, g⟩ := Hx_some g
      exact ⟨a, vs, e, g, l, fun z => n (z ▸ hρ), fun _ => n⟩
    · exact ⟨a, vs, e, g, l, n, fun z => by cases z⟩
  | fr =>
    obtain ⟨a, e, n, nρ, vs, g, l⟩ := h
    exact ⟨a, vs, e, g, l.mono (hx_less fun b z => .inl z), nρ, fun _ z => hS0 a z n⟩
theorem have_tup {ρ : Rw} {H0 H : Hp} {S : Addr → Prop} {xs : List PV} {v : V} (hρ : S ρ.a) (h : Have ρ k H0 H S (.tup xs) v) : ∃ a vs, v = .ref a ∧ H a = some (.tup vs) ∧ RepL ρ (Hx H S) xs vs ∧ a ≠ ρ.a ∧ ¬ S a := by
  have go : Rep ρ (Hx H S) (.tup xs) v → ∃ a vs, v = .ref a ∧ H a = some (.tup vs) ∧ RepL ρ (Hx H S) xs vs ∧ a ≠ ρ.a ∧ ¬ S a := fun h => by
    unfold Rep at h
    obtain ⟨a, vs, e, g, l⟩ := h
    obtain ⟨n, g⟩ := Hx_some g
    exact ⟨a, vs, e, g, l, fun z => n (z ▸ hρ), n⟩
  cases k with
  | cl => exact go h
  | bo =>
    rcases h with h | ⟨a, n, e, z⟩
    · exact go h
    · exact z.elim
  | fr =>
    obtain ⟨a, e, n, nρ, z⟩ := h
    exact z.elim
theorem unL_ok {x : PV} {r : RS} {K : List PV → RS → Prop} {E : Exn → RS → Prop} (h : wpM (unL x r) K E) : ∃ xs, x = .lst xs ∧ K xs r := by
  cases x with
  | lst xs => exact ⟨xs, rfl, h⟩
  | _ => exact h.elim
theorem unT_ok {x : PV} {r : RS} {K : List PV → RS → Prop} {E : Exn → RS → Prop} (h : wpM (unT x r) K E) : ∃ xs, x = .tup xs ∧ K xs r := by
  cases x with
  | tup xs => exact ⟨xs, rfl, h⟩
  | _ => exact h.elim
theorem mi_list (he : MEk X W k e fa) : MI X W (isBo k) tg e (iLst fa) := pi_imp (pi_list he) fun σ H Q q => by
  obtain ⟨ρ, F, B, env, ad, r, m, w⟩ := q
  refine ⟨ρ, F, B, env, ad, r, m, wpM_mono (wpM_bnd w) (fun y r1 w1 v H1 e1 o1 h1 => ?_) fun _ _ z => z⟩
  obtain ⟨xs, rfl, w2⟩ := unL_ok w1
  obtain ⟨a, vs, rfl, g, l, n, ns⟩ := have_lst (H0 := H) (S := Ex F env ad) (fun b => m.there) m.exρ h1
  exact ⟨a, rfl, ⟨vs, .inl (.inl g)⟩, w2 _ H1 e1 o1 (walk_list (H1 := H1) (stay_at g n ns) l)⟩
theorem mi_tup (he : MEk X W k e fa) : MI X W false tg e (iTupl fa) := pi_imp (pi_tup he) fun σ H Q q => by
  obtain ⟨ρ, F, B, env, ad, r, m, w⟩ := q
  refine ⟨ρ, F, B, env, ad, r, m, wpM_mono (wpM_bnd w) (fun y r1 w1 v H1 e1 o1 h1 => ?_) fun _ _ z => z⟩
  obtain ⟨xs, rfl, w2⟩ := unT_ok w1
  obtain ⟨a, vs, rfl, g, l, n, ns⟩ := have_tup m.exρ h1
  exact ⟨a, rfl, ⟨vs, .inl (.inl g)⟩, w2 _ H1 e1 o1 (walk_tup (H1 := H1) (stay_at g n fun _ => ns) l)⟩

/-! ranges -/
def rgL (lo c : Int) (n : Nat) : List PV := (List.range n).map fun (k : Nat) => .int (lo + (k : Int) * c)
def okR (i : Int) : Bool := decide (-(2 ^ 62) ≤ i) && decide (i < 2 ^ 62)
def rg1 : List PV → M (List PV)
  | [.int j] => if okR j = true then ret (rgL 0 1 j.toNat) else fail
  | _ => fail
def rgD : List PV → M (List PV)
  | [.int i, .int j, .int c] => if (okR i && okR j && decide (c = -1)) = true then ret (rgL i (-1) (i - j).toNat) else fail
  | _ => fail
theorem rgL_get {lo c : Int} {n i : Nat} {x : PV} (h : (rgL lo c n)[i]? = some x) : i < n ∧ x = .int (lo + (i : Int) * c) := by
  unfold rgL at h
  rw [List.getElem?_map] at h
  by_cases q : i < n
  · rw [List.getElem?_range q] at h
    exact ⟨q, (Option.some.inj h).symm⟩
  · rw [List.getElem?_eq_none (by rw [List.length_range]; omega)] at h; cases h
theorem rgL_len {lo c : Int} {n : Nat} : (rgL lo c n).length = n := by unfold rgL; rw [List.length_map, List.length_range]
theorem walk_rng {ρ : Rw} {G0 G : Hp} {lo : Int} {n : Nat} : Walk ρ G0 G (Itr lo n) (rgL lo 1 n) := fun i H _ => by
  refine ⟨fun x hx => ?_, fun hn => by rw [rgL_len] at hn; exact hn⟩
  obtain ⟨h1, rfl⟩ := rgL_get hx
  refine ⟨h1, fun v H' hy => ?_⟩
  obtain ⟨rfl, rfl⟩ := hy
  refine ⟨Same.refl _, fun S _ _ => ?_⟩
  rw [Int.mul_one]
  exact Flat.int _ _ _
theorem walk_rngC {ρ : Rw} {G0 G : Hp} {lo c : Int} {n : Nat} : Walk ρ G0 G (Itc lo c n) (rgL lo c n) := fun i H _ => by
  refine ⟨fun x hx => ?_, fun hn => by rw [rgL_len] at hn; exact hn⟩
  obtain ⟨h1, rfl⟩ := rgL_get hx
  refine ⟨h1, fun v H' hy => ?_⟩
  obtain ⟨rfl, rfl⟩ := hy
  exact ⟨Same.refl _, fun S _ _ => Flat.int _ _ _⟩
theorem haveL_int {ρ : Rw} {H : Hp} {S : Addr → Prop} {i : Int} {xs : List PV} {vs : List V} (h : HaveL ρ .cl H S (.int i :: xs) vs) : ∃ r, vs = .int i :: r ∧ HaveL ρ .cl H S xs r := by
  obtain ⟨v, r, e, a, b⟩ := h
  have a : Rep _ _ _ _ := a
  rw [rep_int a] at e
  exact ⟨r, e, b⟩
theorem haveL_nil {ρ : Rw} {k : Kd} {H : Hp} {S : Addr → Prop} {vs : List V} (h : HaveL ρ k H S [] vs) : vs = [] := h
def iRg (g : List PV → M (List PV)) (fs : AF) : AF := fun env => bnd (fs env) g
theorem rg1_ok {xs : List PV} {r : RS} {K : List PV → RS → Prop} {E : Exn → RS → Prop} (h : wpM (rg1 xs r) K E) : ∃ j, xs = [.int j] ∧ okR j = true ∧ K (rgL 0 1 j.toNat) r := by
  unfold rg1 at h
  split at h
  · rename_i j
    obtain ⟨a, b⟩ := wpM_ite h
    exact ⟨j, rfl, a, b⟩
  · exact h.elim
theorem rgD_ok {xs : List PV} {r : RS} {K : List PV → RS → Prop} {E : Exn → RS → Prop} (h : wpM (rgD xs r) K E) : ∃ i j, xs = [.int i, .int j, .int (-1)] ∧ (okR i && okR j) = true ∧ K (rgL i (-1) (i - j).toNat) r := by
  unfold rgD at h
  split at h
  · rename_i i j c
    obtain ⟨a, b⟩ := wpM_ite h
    rw [Bool.and_eq_true] at a
    obtain ⟨a, a2⟩ := a
    have e : c = -1 := of_decide_eq_true a2
    subst e
    exact ⟨i, j, rfl, a, b⟩
  · exact h.elim
theorem okR_ok {i : Int} (h : okR i = true) : -(2 ^ 62) ≤ i ∧ i < 2 ^ 62 := by
  unfold okR at h
  rw [Bool.and_eq_true] at h
  exact ⟨of_decide_eq_true h.1, of_decide_eq_true h.2⟩
theorem mi_rg1 (ha : MLk X W .cl [a] fs) (hm : X.mg "range" = none) (hg : Gl X "range" := by rfl) (hs : starEach [a] X.env = [(false, eval a X.env)] := by rfl) : MI X W false tg (.Call (.Name "range" p) [a] [] pos) (iRg rg1 fs) := pi_imp (pi_range1 hg hm ha hs) fun σ H Q q => by
  obtain ⟨ρ, F, B, env, ad, r, m, w⟩ := q
  refine ⟨ρ, F, B, env, ad, r, m, wpM_mono (wpM_bnd w) (fun y r1 w1 v H1 e1 o1 h1 => ?_) fun _ _ z => z⟩
  obtain ⟨j, rfl, hj, w2⟩ := rg1_ok w1
  obtain ⟨v1, rfl, h2⟩ := haveL_int h1
  obtain rfl := haveL_nil h2
  exact ⟨j, rfl, (okR_ok hj).1, (okR_ok hj).2, w2 _ H1 e1 o1 walk_rng⟩
theorem mi_rgD (ha : MLk X W .cl [a, b, c] fs) (hm : X.mg "range" = none) (hg : Gl X "range" := by rfl) (hs : starEach [a, b, c] X.env = (false, eval a X.env) :: starEach [b, c] X.env := by rfl) (hpl : (backTo pos (starEach [b, c] X.env)).any (·.1) = false := by rfl) : MI X W false tg (.Call (.Name "range" p) [a, b, c] [] pos) (iRg rgD fs) := pi_imp (pi_range3 hg hm ha hs hpl) fun σ H Q q => by
  obtain ⟨ρ, F, B, env, ad, r, m, w⟩ := q
  refine ⟨ρ, F, B, env, ad, r, m, wpM_mono (wpM_bnd w) (fun y r1 w1 v H1 e1 o1 h1 => ?_) fun _ _ z => z⟩
  obtain ⟨i, j, rfl, hj, w2⟩ := rgD_ok w1
  rw [Bool.and_eq_true] at hj
  obtain ⟨v1, rfl, h2⟩ := haveL_int h1
  obtain ⟨v2, rfl, h3⟩ := haveL_int h2
  obtain ⟨v3, rfl, h4⟩ := haveL_int h3
  obtain rfl := haveL_nil h4
  exact ⟨i, j, -1, _, rfl, RgC.neg (okR_ok hj.1).1 (okR_ok hj.1).2 (okR_ok hj.2).1 (okR_ok hj.2).2, w2 _ H1 e1 o1 walk_rngC⟩

/-! ### targets -/
abbrev TP := PV → Env → Option Env
/-- all but the slots at sl stay -/
def But (sl : List Nat) (σ σ' : L2.St) : Prop := σ'.length = σ.length ∧ ∀ i, i ∉ sl → σ'[i]? = σ[i]?
def tG (sl : List Nat) (t : TP) : TG := fun v σ H Q => ∃ ρ F B env ad r x env', Fm ρ F B H r σ env ad ∧ Rep ρ (Hx H (Ex F env ad)) x v ∧ t x env = some env' ∧ ∀ σ', Fm ρ F B H r σ' env' ad → Ex F env' ad = Ex F env ad → But sl σ σ' → Q σ' H
def tGs (sl : List Nat) (t : List PV → Env → Option Env) : TGs := fun vs σ H Q => ∃ ρ F B env ad r xs env', Fm ρ F B H r σ env ad ∧ RepL ρ (Hx H (Ex F env ad)) xs vs ∧ t xs env = some env' ∧ ∀ σ', Fm ρ F B H r σ' env' ad → Ex F env' ad = Ex F env ad → But sl σ σ' → Q σ' H
abbrev MG (X : Cx) (e : Expr) (sl : List Nat) (t : TP) : Prop := PG X e (tG sl t)
abbrev MGs (X : Cx) (es : List Expr) (sl : List Nat) (t : List PV → Env → Option Env) : Prop := PGs X es (tGs sl t)
def isOw : Option Slot → Bool
  | some (.ow _) => true
  | _ => false
def gNm (i : Nat) : TP := fun x env => if decide (i < env.length) && !isOw env[i]? then some (env.set i (.sh x)) else none
def gsNil : List PV → Env → Option Env := fun xs env => if xs.isEmpty then some env else none
def gsCons (t : TP) (u : List PV → Env → Option Env) : List PV → Env → Option Env := fun xs env => match xs with
  | [] => none
  | x :: r => (t x env).bind (u r)
def gTupl (n : Nat) (t : List PV → Env → Option Env) : TP := fun x env => match x with
  | .tup xs => if xs.length = n then t xs env else none
  | _ => none
theorem ex_set {F : Addr → Prop} {env : Env} {ad : Nat → Addr} {i : Nat} {x : PV} (hi : i < env.length) (h : isOw env[i]? = false) : Ex F (env.set i (.sh x)) ad = Ex F env ad := by
  funext b
  refine propext ⟨fun z => z.set fun y => (by intro q; cases q), fun z => ?_⟩
  rcases z with z | ⟨l, y, e, rfl⟩
  · exact .inl z
  · refine .inr ⟨l, y, ?_, rfl⟩
    by_cases q : i = l
    · subst q
      rw [e] at h; cases h
    · rw [List.getElem?_set_ne q]; exact e
theorem mg_name (T : Ct X W j) (i : Nat) (hi : X.N[i]? = some x := by rfl) (hx : Loc X.env.scope x := by first | exact Or.inl rfl | exact Or.inr rfl) (hf : X.fn x = true ∨ X.env.scope.names.lookup x = some .local := by first | exact .inl rfl | exact .inr rfl) : MG X (.Name x pos) [i] (gNm i) := pg_imp (pg_name T.nd hi hx hf) fun v σ H Q q => by
  obtain ⟨ρ, F, B, env, ad, r, y, env', m, h, e, w⟩ := q
  unfold gNm at e
  split at e
  · rename_i c
    rw [Bool.and_eq_true] at c
    cases e
    have c1 : i < env.length := of_decide_eq_true c.1
    have c2 : isOw env[i]? = false := by
      have := c.2
      cases q : isOw env[i]? with
      | true => rw [q] at this; cases this
      | false => rfl
    refine w _ (m.set c1 h) (ex_set c1 c2) ⟨List.length_set, fun l hl => ?_⟩
    rw [List.getElem?_set_ne fun z => hl (by rw [z]; exact List.mem_singleton.mpr rfl)]
  · cases e
theorem mgs_nil : MGs X [] [] gsNil := pgs_imp pgs_nil fun v σ H Q q => by
  obtain ⟨ρ, F, B, env, ad, r, xs, env', m, h, e, w⟩ := q
  unfold gsNil at e
  cases xs with
  | nil =>
    unfold RepL at h
    rw [if_pos (by rfl)] at e
    cases e
    exact ⟨h, w _ m rfl ⟨rfl, fun _ _ => rfl⟩⟩
  | cons y ys => rw [if_neg (by simp)] at e; cases e
theorem mgs_cons {t : TP} {u : List PV → Env → Option Env} {sl sl' : List Nat} (h1 : MG X e sl t) (h2 : MGs X es sl' u) (hs : (assignEach (e :: es) X.env).map (·.2) = assign e X.env :: (assignEach es X.env).map (·.2) := by rfl) : MGs X (e :: es) (sl ++ sl') (gsCons t u) := pgs_imp (pgs_cons h1 h2 hs) fun v σ H Q q => by
  obtain ⟨ρ, F, B, env, ad, r, xs, env', m, h, e, w⟩ := q
  cases xs with
  | nil => cases e
  | cons y ys =>
    unfold RepL at h
    obtain ⟨v1, vr, rfl, a, l⟩ := h
    obtain ⟨env1, e1, e2⟩ := Option.bind_eq_some_iff.mp e
    refine ⟨v1, vr, rfl, ρ, F, B, env, ad, r, y, env1, m, a, e1, fun σ1 m1 x1 b1 => ?_⟩
    exact ⟨ρ, F, B, env1, ad, r, ys, env', m1, by rw [x1]; exact l, e2, fun σ2 m2 x2 b2 => w σ2 m2 (x2.trans x1) ⟨b2.1.trans b1.1, fun l hl => (b2.2 l fun z => hl (List.mem_append_right _ z)).trans (b1.2 l fun z => hl (List.mem_append_left _ z))⟩⟩
theorem mg_tup {t : List PV → Env → Option Env} {n : Nat} {kk : Nat} {sl : List Nat} (T : Ct X W j) (h : MGs X es sl t) (hn : (assignEach es X.env).length = n := by rfl) (hst : (assignEach es X.env).findIdx? (·.1) = none := by rfl) : MG X (.Tuple es kk pos) sl (gTupl n t) := pg_imp (pg_tup T.calm h hn hst) fun v σ H Q q => by
  obtain ⟨ρ, F, B, env, ad, r, y, env', m, h, e, w⟩ := q
  unfold gTupl at e
  split at e
  · rename_i xs
    split at e
    · rename_i hl
      unfold Rep at h
      obtain ⟨a, vs, rfl, g, l⟩ := h
      obtain ⟨_, g⟩ := Hx_some g
      exact ⟨a, vs, rfl, .inl (.inl g), l.length.trans hl, ρ, F, B, env, ad, r, xs, env', m, l, e, w⟩
    · cases e
  · cases e

/-! ### loops -/
def loopF (t : TP) (body : Env → M Fl) : List PV → Env → M Fl
  | [], env => ret (.nx env)
  | x :: xs, env => bnd (ofO (t x env)) fun env1 => bnd (body env1) fun fl => match fl with
    | .nx e => loopF t body xs e
    | .ct e => loopF t body xs e
    | .bk e => ret (.nx e)
    | .rt v => ret (.rt v)
def sFor (fi : AF) (t : TP) (body : Env → M Fl) : Env → M Fl := fun env => bnd (fi env) fun xs => loopF t body xs env
def loopW (c : Env → M Bool) (body : Env → M Fl) : Nat → Env → M Fl
  | 0, _ => fail
  | n + 1, env => bnd (c env) fun b => if b = true then bnd (body env) fun fl => match fl with
      | .nx e => loopW c body n e
      | .ct e => loopW c body n e
      | .bk e => ret (.nx e)
      | .rt v => ret (.rt v)
    else ret (.nx env)
def sWhile (n : Nat) (c : Env → M Bool) (body : Env → M Fl) : Env → M Fl := loopW c body n
open Classical in
noncomputable def reB (B H : Hp) (S : Addr → Prop) : Hp := fun b => if S b then B b else H b
section
variable {ρ : Rw} {F : Addr → Prop} {B H H' : Hp} {r r' : RS} {σ : L2.St} {env env0 : Env} {ad ad0 : Nat → Addr} {S : Addr → Prop}
theorem reB_in {b : Addr} (h : S b) : reB B H S b = B b := if_pos h
theorem reB_out {b : Addr} (h : ¬ S b) : reB B H S b = H b := if_neg h
theorem Fm.re (m : Fm ρ F B H r σ env ad) : Fm ρ F (reB B H (Ex F env ad)) H r σ env ad where
  row := m.row
  hρ := m.hρ
  dom := m.dom
  ext := fun b o e n => by
    by_cases z : Ex F env ad b
    · rw [reB_in z] at e; exact m.ext b o e n
    · rw [reB_out z] at e; exact e
  lsB := by
    by_cases z : Ex F env ad ρ.ls
    · rw [reB_in z]; exact m.lsB
    · rw [reB_out z, m.row.2.2.2]; exact fun y => by cases y
  len := m.len
  sh := m.sh
  ow := fun i x e => let ⟨a, b, c, d⟩ := m.ow i x e; ⟨a, ⟨by rw [reB_in (.inr ⟨i, x, e, rfl⟩)]; exact b.1, b.2⟩, c, d⟩
  inj := m.inj
/-- back to the base -/
theorem Fm.unre (m0 : Fm ρ F B H r σ env0 ad0) {H1 : Hp} {r1 : RS} {σ1 : L2.St} {env1 : Env} {ad1 : Nat → Addr} (m : Fm ρ F (reB B H (Ex F env0 ad0)) H1 r1 σ1 env1 ad1) : Fm ρ F B H1 r1 σ1 env1 ad1 where
  row := m.row
  hρ := m.hρ
  dom := m.dom
  ext := fun b o e n => by
    by_cases z : Ex F env0 ad0 b
    · exact m.ext b o (by rw [reB_in z]; exact e) n
    · exact m.ext b o (by rw [reB_out z]; exact m0.ext b o e n) n
  lsB := m0.lsB
  len := m.len
  sh := m.sh
  ow := fun i x e => by
    obtain ⟨a, b, c, d⟩ := m.ow i x e
    refine ⟨a, ⟨?_, b.2⟩, c, d⟩
    have b := b.1
    by_cases z : Ex F env0 ad0 (ad1 i)
    · rw [reB_in z] at b; exact b
    · rw [reB_out z] at b
      cases y : B (ad1 i) with
      | none => rfl
      | some o => rw [m0.ext _ o y c] at b; cases b
  inj := m.inj
theorem Fm.unext (m0 : Fm ρ F B H r σ env0 ad0) {H1 : Hp} (e : Ext ρ (reB B H (Ex F env0 ad0)) H1) : Ext ρ B H1 := fun b o q n => by
  by_cases z : Ex F env0 ad0 b
  · exact e b o (by rw [reB_in z]; exact q) n
  · exact e b o (by rw [reB_out z]; exact m0.ext b o q n) n
/-- what was apart from the owned at the loop's start lies so, apart from what is owned now -/
theorem Fm.old (m0 : Fm ρ F B H r σ env0 ad0) {H1 : Hp} {r1 : RS} {σ1 : L2.St} {env1 : Env} {ad1 : Nat → Addr} (m : Fm ρ F (reB B H (Ex F env0 ad0)) H1 r1 σ1 env1 ad1) : ∀ b o, Hx H (Ex F env0 ad0) b = some o → Hx H1 (Ex F env1 ad1) b = some o := fun b o q => by
  obtain ⟨n, q⟩ := Hx_some q
  have nρ : b ≠ ρ.a := fun z => n (z ▸ m0.exρ)
  have eB : reB B H (Ex F env0 ad0) b = some o := by rw [reB_out n]; exact q
  rw [Hx_out, m.ext b o eB nρ]
  rintro (z | ⟨i, x, e, rfl⟩)
  · exact n (.inl z)
  · have := (m.ow i x e).2.1.1
    rw [eB] at this; cases this
end
theorem ms_for {t : TP} {sl : List Nat} {f : Env → M Fl} {body : List Stmt} (T : Ct X W j) (hi : MI X W false tg e fs) (hg : MG X tg sl t) (hb : MSs X W body f) (hs : ∀ x, foldedSetIterable e X.env x = pure x := by intro _; rfl) : MS X W (.For tg e body [] pos) (sFor fs t f) := ps_imp (ps_for T.po T.calm hi hg hb hs) fun D σ H q => by
  obtain ⟨ρ, F, B, env, ad, r, m, w⟩ := q
  refine ⟨ρ, F, B, env, ad, r, m, wpM_mono (wpM_bnd w) (fun xs r1 w1 J H1 e1 o1 hJ => ?_) fun e r' z C d H' e1 o1 => z C d σ H' ⟨env, ad, m.step e1 o1⟩⟩
  have m1 := m.step e1 o1
  have hJ : Walk ρ (Hx H1 (Ex F env ad)) (Hx H1 (Ex F env ad)) J xs := hJ
  refine ⟨fun i n σ2 H2 => n = xs.length - i ∧ i ≤ xs.length ∧ ∃ env2 ad2 r2, Fm ρ F (reB B H1 (Ex F env ad)) H2 r2 σ2 env2 ad2 ∧ wpM (loopF t f (xs.drop i) env2 r2) _ _, ⟨xs.length, rfl, Nat.zero_le _, env, ad, r1, m1.re, w1⟩, fun i n σ2 H2 hW => ?_⟩
  obtain ⟨rfl, hi, env2, ad2, r2, m2, w2⟩ := hW
  have hG := fun b o q => (Hx_some (m1.old m2 b o q)).2
  by_cases hlt : i < xs.length
  · refine .inr ?_
    have hx : xs[i]? = some xs[i] := List.getElem?_eq_getElem hlt
    rw [List.drop_eq_getElem_cons hlt] at w2
    obtain ⟨go, yl⟩ := (hJ i H2 hG).1 _ hx
    refine ⟨go, fun σ' H' => ∃ env' ad' r', Fm ρ F (reB B H1 (Ex F env ad)) H' r' σ' env' ad' ∧ wpM (loopF t f (xs.drop (i + 1)) env' r') _ _, fun σ' H' ⟨env', ad', r', m', w'⟩ => ⟨xs.length - (i + 1), by omega, rfl, hlt, env', ad', r', m', w'⟩, fun v H3 hy => ?_⟩
    obtain ⟨sm, hr⟩ := yl v H3 hy
    have m3 := m2.step (.same sm) (m2.row.same sm)
    obtain ⟨env3, et, w3⟩ := ofO_some (wpM_bnd w2)
    refine ⟨ρ, F, _, env2, ad2, r2, xs[i], env3, m3, hr _ (fun b => m2.nt) (m1.old m3), et, fun σ3 m4 x4 _ => ?_⟩
    refine ⟨ρ, F, _, env3, ad2, r2, m4, wpM_mono (wpM_bnd w3) (fun fl r5 w5 => ?_) fun ex r5 z C d σ' H' ⟨env', ad', m'⟩ => z C d σ' H' ⟨env', ad', m1.unre m'⟩⟩
    cases fl with
    | nx e' => exact fun σ' H' ad' m' => ⟨e', ad', r5, m', w5⟩
    | ct e' => exact fun σ' H' ad' m' => ⟨e', ad', r5, m', w5⟩
    | bk e' => exact fun σ' H' ad' m' => w5 σ' H' ad' (m1.unre m')
    | rt v => exact fun v H' e' => w5 v H' (m1.unext e')
  · have ei : i = xs.length := by omega
    subst ei
    rw [List.drop_length] at w2
    exact .inl ⟨(hJ _ H2 hG).2 (Nat.le_refl _), w2 σ2 H2 ad2 (m1.unre m2)⟩
theorem ms_while {cc : Env → M Bool} {f : Env → M Fl} {c : Expr} {body : List Stmt} (n : Nat) (T : Ct X W j) (hc : MT X W c cc) (hb : MSs X W body f) : MS X W (.While c body [] pos) (sWhile n cc f) := ps_imp (ps_while T.po hc hb) fun D σ H q => by
  obtain ⟨ρ, F, B, env, ad, r, m, w⟩ := q
  refine ⟨fun n σ2 H2 => ∃ env2 ad2 r2, Fm ρ F B H2 r2 σ2 env2 ad2 ∧ wpM (loopW cc f n env2 r2) _ _, ⟨n, env, ad, r, m, w⟩, fun n σ2 H2 hW => ?_⟩
  obtain ⟨env2, ad2, r2, m2, w2⟩ := hW
  cases n with
  | zero => exact w2.elim
  | succ n =>
    refine ⟨ρ, F, B, env2, ad2, r2, m2, wpM_mono (wpM_bnd w2) (fun b r3 w3 H3 e3 o3 => ?_) fun e r' z C d H' e1 o1 => z C d σ2 H' ⟨env2, ad2, m2.step e1 o1⟩⟩
    have m3 := m2.step e3 o3
    cases b with
    | false => exact w3 σ2 H3 ad2 m3
    | true =>
      refine iteT ⟨fun σ' H' => ∃ env' ad' r', Fm ρ F B H' r' σ' env' ad' ∧ wpM (loopW cc f n env' r') _ _, fun σ' H' ⟨env', ad', r', m', w'⟩ => ⟨n, Nat.lt_succ_self _, env', ad', r', m', w'⟩, ρ, F, B, env2, ad2, r3, m3, wpM_mono (wpM_bnd w3) (fun fl r5 w5 => ?_) fun _ _ z => z⟩
      cases fl with
      | nx e' => exact fun σ' H' ad' m' => ⟨e', ad', r5, m', w5⟩
      | ct e' => exact fun σ' H' ad' m' => ⟨e', ad', r5, m', w5⟩
      | bk e' => exact w5
      | rt v => exact w5
end
end Mir

namespace Mir
open PySem PySem.Spec PyProof.Rows L2
def noex {α : Type} (m : M α) : M α := fun r => match m r with
  | .ex _ _ => .bad
  | o => o
theorem wpM_noex {α : Type} {m : M α} {r : RS} {K : α → RS → Prop} {E : Exn → RS → Prop} (h : wpM (noex m r) K E) : wpM (m r) K (fun _ _ => False) := by
  unfold noex at h
  cases q : m r with
  | ok a r' => rw [q] at h; exact h
  | ex e r' => rw [q] at h; exact h
  | bad => rw [q] at h; exact h
abbrev W0 : WX := fun _ _ _ _ => False
def wipeE : Env → List Nat → Env
  | env, [] => env
  | env, v :: vs => (wipeE env vs).set v .no
def noOw (env : Env) (vs : List Nat) : Bool := vs.all fun v => !isOw env[v]?
section
variable {ρ : Rw} {F : Addr → Prop} {B H H' : Hp} {r r' : RS} {σ : L2.St} {env : Env} {ad : Nat → Addr} {x : PV} {v : V}
theorem ex_setN {i : Nat} {s : Slot} (hs : ∀ y, s ≠ .ow y) (h : isOw env[i]? = false) : Ex F (env.set i s) ad = Ex F env ad := by
  funext b
  refine propext ⟨fun z => z.set hs, fun z => ?_⟩
  rcases z with z | ⟨l, y, e, rfl⟩
  · exact .inl z
  · refine .inr ⟨l, y, ?_, rfl⟩
    by_cases q : i = l
    · subst q
      rw [e] at h; cases h
    · rw [List.getElem?_set_ne q]; exact e
theorem isOw_set {i l : Nat} {s : Slot} (hs : ∀ y, s ≠ .ow y) (h : isOw env[l]? = false) : isOw (env.set i s)[l]? = false := by
  by_cases q : i = l
  · subst q
    by_cases hi : i < env.length
    · rw [List.getElem?_set_self hi]
      cases s with
      | ow y => exact absurd rfl (hs y)
      | _ => rfl
    · rw [List.getElem?_eq_none (by rw [List.length_set]; omega)]; rfl
  · rw [List.getElem?_set_ne q]; exact h
theorem isOw_wipe {l : Nat} : ∀ {vs : List Nat}, isOw env[l]? = false → isOw (wipeE env vs)[l]? = false
  | [], h => h
  | v :: vs, h => isOw_set (fun y q => by cases q) (isOw_wipe h)
theorem noOw_cons {v : Nat} {vs : List Nat} (h : noOw env (v :: vs) = true) : isOw env[v]? = false ∧ noOw env vs = true := by
  unfold noOw at h
  rw [List.all_cons, Bool.and_eq_true] at h
  refine ⟨?_, h.2⟩
  cases q : isOw env[v]? with
  | false => rfl
  | true => rw [q] at h; exact absurd h.1 (by decide)
theorem ex_wipe : ∀ {vs : List Nat}, noOw env vs = true → Ex F (wipeE env vs) ad = Ex F env ad
  | [], _ => rfl
  | v :: vs, h => by
    obtain ⟨a, b⟩ := noOw_cons h
    show Ex F ((wipeE env vs).set v .no) ad = _
    rw [ex_setN (fun y q => by cases q) (isOw_wipe a), ex_wipe b]
theorem Fm.forget (m : Fm ρ F B H r σ env ad) {i : Nat} (h : isOw env[i]? = false) : Fm ρ F B H r (σ.set i none) (env.set i .no) ad where
  row := m.row
  hρ := m.hρ
  dom := m.dom
  ext := m.ext
  lsB := m.lsB
  len := by rw [List.length_set, List.length_set]; exact m.len
  sh := fun j y e => by
    rw [ex_setN (fun y q => by cases q) h]
    by_cases z : i = j
    · subst z
      by_cases hi : i < env.length
      · rw [List.getElem?_set_self hi] at e; cases e
      · rw [List.getElem?_eq_none (by rw [List.length_set]; omega)] at e; cases e
    · rw [List.getElem?_set_ne z] at e ⊢
      exact m.sh j y e
  ow := fun j y e => by
    rw [ex_setN (fun y q => by cases q) h]
    by_cases z : i = j
    · subst z
      by_cases hi : i < env.length
      · rw [List.getElem?_set_self hi] at e; cases e
      · rw [List.getElem?_eq_none (by rw [List.length_set]; omega)] at e; cases e
    · rw [List.getElem?_set_ne z] at e ⊢
      exact m.ow j y e
  inj := fun j l y y' e e' q => by
    have k : ∀ {j : Nat} {y : PV}, (env.set i .no)[j]? = some (.ow y) → env[j]? = some (.ow y) := fun {j y} e => by
      by_cases z : i = j
      · subst z
        by_cases hi : i < env.length
        · rw [List.getElem?_set_self hi] at e; cases e
        · rw [List.getElem?_eq_none (by rw [List.length_set]; omega)] at e; cases e
      · rw [List.getElem?_set_ne z] at e; exact e
    exact m.inj j l y y' (k e) (k e') q
theorem Fm.wipe (m : Fm ρ F B H r σ env ad) : ∀ {vs : List Nat}, noOw env vs = true → Fm ρ F B H r (L2.wipe σ vs) (wipeE env vs) ad
  | [], _ => m
  | v :: vs, h => by
    obtain ⟨a, b⟩ := noOw_cons h
    exact (Fm.wipe m b).forget (isOw_wipe a)
theorem ex_addF {D : Addr} {b : Addr} : Ex (fun b => F b ∨ b = D) env ad b ↔ Ex F env ad b ∨ b = D := by
  unfold Ex
  constructor
  · rintro ((h | h) | h)
    · exact .inl (.inl h)
    · exact .inr h
    · exact .inl (.inr h)
  · rintro ((h | h) | h)
    · exact .inl (.inl h)
    · exact .inr h
    · exact .inl (.inr h)
/-- a thing of the rule's own is laid: it is kept apart -/
theorem Fm.addF (m : Fm ρ F B H r σ env ad) {D : Addr} {o : HO} (nD : H D = none) (ho : ∀ xs, o ≠ .tup xs := by intro xs z; cases z) (ho2 : ∀ xs, o ≠ .xd xs := by intro xs z; cases z) : Fm ρ (fun b => F b ∨ b = D) B (upd H D o) r σ env ad := by
  have sm := same_upd (o := o) nD
  have m1 := m.step (.same sm) (m.row.same sm)
  have hx : ∀ b o', Hx H (Ex F env ad) b = some o' → Hx (upd H D o) (Ex (fun b => F b ∨ b = D) env ad) b = some o' := fun b o' q => by
    obtain ⟨n, q⟩ := Hx_some q
    rw [Hx_out fun z => (ex_addF.mp z).elim n (ne_of_none q nD), upd_ne (ne_of_none q nD)]; exact q
  refine ⟨m1.row, .inl m.hρ, fun b z => ?_, m1.ext, m.lsB, m.len, fun i x e => ?_, fun i x e => ?_, m.inj⟩
  · rcases z with z | z
    · exact m1.dom b z
    · rw [z, upd_same]; exact ⟨⟨(fun y => by cases y), fun xs y => ho2 xs (Option.some.inj y)⟩, fun xs y => ho xs (Option.some.inj y)⟩
  · obtain ⟨v, a, b⟩ := m.sh i x e
    exact ⟨v, a, b.mono hx⟩
  · obtain ⟨a, b, c, d⟩ := m.ow i x e
    have nd : ad i ≠ D := fun z => d.there (z ▸ nD)
    exact ⟨a, ⟨b.1, fun z => z.elim b.2 nd⟩, c, d.mono (fun o' q => by rw [upd_ne nd]; exact q) hx⟩
theorem Fm.updF {D : Addr} {o : HO} (m : Fm ρ (fun b => F b ∨ b = D) B H r σ env ad) (nB : B D = none) (nρ : D ≠ ρ.a) (ho : ∀ xs, o ≠ .tup xs := by intro xs z; cases z) (ho2 : ∀ xs, o ≠ .xd xs := by intro xs z; cases z) : Fm ρ (fun b => F b ∨ b = D) B (upd H D o) r σ env ad := by
  have hx : ∀ b o', Hx H (Ex (fun b => F b ∨ b = D) env ad) b = some o' → Hx (upd H D o) (Ex (fun b => F b ∨ b = D) env ad) b = some o' := fun b o' q => by
    obtain ⟨n, q⟩ := Hx_some q
    rw [Hx_out n, upd_ne fun z => n (.inl (.inr z))]; exact q
  refine ⟨?_, m.hρ, fun b z => ?_, fun b o' q n => ?_, m.lsB, m.len, fun i x e => ?_, fun i x e => ?_, m.inj⟩
  · obtain ⟨a, b, c, d⟩ := m.row
    refine ⟨a, b, by rw [upd_ne (Ne.symm nρ)]; exact c, ?_⟩
    rw [upd_ne fun z => m.lsB (by rw [z]; exact nB)]; exact d
  · by_cases y : b = D
    · rw [y, upd_same]; exact ⟨⟨(fun q => by cases q), fun xs q => ho2 xs (Option.some.inj q)⟩, fun xs q => ho xs (Option.some.inj q)⟩
    · rw [upd_ne y]; exact m.dom b z
  · rw [upd_ne fun z => by rw [z, nB] at q; cases q]; exact m.ext b o' q n
  · obtain ⟨v, a, b⟩ := m.sh i x e
    exact ⟨v, a, b.mono hx⟩
  · obtain ⟨a, b, c, d⟩ := m.ow i x e
    exact ⟨a, b, c, d.mono (fun o' q => by rw [upd_ne fun z => b.2 (.inr z)]; exact q) hx⟩
theorem But.wipe {sl vs : List Nat} {σ2 : L2.St} (h : But sl (L2.wipe σ vs) σ2) (hs : ∀ i ∈ sl, i ∈ vs) : L2.wipe σ2 vs = L2.wipe σ vs := by
  have hl : σ2.length = σ.length := h.1.trans (wipe_length σ vs)
  have h := h.2
  have key : ∀ (τ : L2.St) (vs : List Nat) (i : Nat), (L2.wipe τ vs)[i]? = if i ∈ vs ∧ i < τ.length then some none else τ[i]? := by
    intro τ vs
    induction vs with
    | nil => intro i; simp [L2.wipe]
    | cons v vs ih =>
      intro i
      show ((L2.wipe τ vs).set v none)[i]? = _
      have hlen : (L2.wipe τ vs).length = τ.length := wipe_length τ vs
      by_cases q : v = i
      · subst q
        by_cases hi : v < τ.length
        · rw [List.getElem?_set_self (by rw [hlen]; exact hi), if_pos ⟨List.mem_cons_self, hi⟩]
        · rw [List.getElem?_eq_none (by rw [List.length_set, hlen]; omega), if_neg fun z => hi z.2, List.getElem?_eq_none (by omega)]
      · rw [List.getElem?_set_ne q, ih i]
        by_cases hm : i ∈ vs ∧ i < τ.length
        · rw [if_pos hm, if_pos ⟨List.mem_cons_of_mem _ hm.1, hm.2⟩]
        · rw [if_neg hm, if_neg fun z => hm ⟨(List.mem_cons.mp z.1).resolve_left (Ne.symm q), z.2⟩]
  apply List.ext_getElem?
  intro i
  rw [key, key, hl]
  by_cases hm : i ∈ vs ∧ i < σ.length
  · rw [if_pos hm, if_pos hm]
  · rw [if_neg hm, if_neg hm]
    by_cases hv : i ∈ vs
    · have hi : ¬ i < σ.length := fun z => hm ⟨hv, z⟩
      rw [List.getElem?_eq_none (by omega), List.getElem?_eq_none (by omega)]
    · have := h i fun z => hv (hs i z)
      rw [this, key, if_neg hm]
end
abbrev MTs (X : Cx) (W : WX) (ifs : List Expr) (f : Env → M Bool) : Prop := PTs X ifs (tT X.mg W f)
theorem pts_imp {X : Cx} {es : List Expr} {t t' : TT} (h : PTs X es t) (i : ∀ σ H Q, t' σ H Q → t σ H Q) : PTs X es t' := ⟨fun pins s σ H Q I q => h.run pins s σ H Q I (i σ H Q q)⟩
def bYes : Env → M Bool := fun _ => ret true
theorem mts_nil {X : Cx} {W : WX} : MTs X W [] bYes := pts_imp pts_nil fun σ H Q q => tT_ret q
theorem mts_one {X : Cx} {W : WX} {c : Expr} {f : Env → M Bool} (h : MT X W c f) : MTs X W [c] f := pts_one h
theorem Ct.blk {X : Cx} {W : WX} {k : Nat} (T : Ct X W k) (s : Shared) (H : Hp) (scope : Scope) (cenv : L2.Cx → PySem.Env) (fp : List Addr) : Ct (X.blk s H scope (cenv X) fp) W0 k :=
  ⟨T.nd, T.hr, takes0, PassesOwn.never, T.calm⟩
def lcF (t : TP) (tt : Env → M Bool) (fe : EF) : List PV → Env → M (List PV)
  | [], _ => ret []
  | x :: xs, env => bnd (ofO (t x env)) fun env1 => bnd (noex (tt env1)) fun b => if b = true then bnd (noex (fe env1)) fun y => bnd (lcF t tt fe xs env) fun ys => ret (y :: ys) else lcF t tt fe xs env
def eLc (vs : List Nat) (fi : AF) (t : TP) (tt : Env → M Bool) (fe : EF) : EF := fun env => bnd (fi env) fun xs => if xs.length ≤ 16777216 ∧ noOw env vs = true then bnd (lcF t tt fe xs (wipeE env vs)) fun ys => ret (.lst ys) else fail
theorem stay_ext {ρ : Rw} {H H' : Hp} {S : Addr → Prop} {bo : Bool} (hρ : S ρ.a) (e : Ext ρ H H') : ∀ b o, stayG ρ bo H S b = some o → H' b = some o := fun b o q => by
  unfold stayG at q
  cases bo with
  | true =>
    rw [if_pos rfl] at q
    obtain ⟨n, q⟩ := Hx_some q
    exact e b o q n
  | false =>
    rw [if_neg Bool.false_ne_true] at q
    obtain ⟨n, q⟩ := Hx_some q
    exact e b o q fun z => n (z ▸ hρ)
section
variable {X : Cx} {W : WX} {pos : Pos} {elt tg iter : Expr} {ifs : List Expr} {scope : Scope} {own : List (Str × Nat)} {j : Nat} {fs : AF} {t : TP} {sl : List Nat} {tt : Env → M Bool} {fe : EF} {bo : Bool}
theorem lc_loop {mg : Str → Option Value} {vs : List Nat} {σ : L2.St} {ρ : Rw} {F : Addr → Prop} {B H1 : Hp} {env : Env} {ad : Nat → Addr} {r1 : RS} {J : It} {D : Addr} {xs : List PV} {K : PV → RS → Prop} {E : Exn → RS → Prop} {R : Hp → Prop} (hsl : ∀ i ∈ sl, i ∈ vs)
    (m1 : Fm ρ F B H1 r1 σ env ad) (hJ : Walk ρ (Hx H1 (Ex F env ad)) (stayG ρ bo H1 (Ex F env ad)) J xs) (nD : H1 D = none) (hlen : xs.length ≤ 16777216) (hno : noOw env vs = true)
    (w2 : wpM (bnd (lcF t tt fe xs (wipeE env vs)) (fun ys => ret (PV.lst ys)) r1) K E)
    (hK : ∀ ys r' H' vs', K (.lst ys) r' → Ext ρ H1 H' → RowAt ρ H' r' → H' D = some (.lst vs') → RepL ρ (Hx H' (fun b => Ex F env ad b ∨ b = D)) ys vs' → R H') :
    ∃ W : Nat → Nat → Hp → Prop, (∃ m, W 0 m (upd H1 D (.lst []))) ∧ ∀ i m H, W i m H → (J.stop i H ∧ R H) ∨ (J.go i H ∧ ∃ Nx : Hp → Prop, (∀ H', Nx H' → ∃ m', m' < m ∧ W (i + 1) m' H') ∧ ∀ x H', J.yld i H x H' → tG sl t x (L2.wipe σ vs) H' fun σ2 H2 => L2.wipe σ2 vs = L2.wipe σ vs ∧ tT mg W0 tt σ2 H2 fun b H3 =>
      if b = true then tE mg W0 .cl fe σ2 H3 fun y H4 => ∃ acc, H4 D = some (.lst acc) ∧ acc.length < sizeLine ∧ Nx (upd H4 D (.lst (acc ++ [y]))) else Nx H3) := by
  have m2 := m1.addF (o := .lst []) nD
  have f2 : D ≠ ρ.a := fun z => m1.row.there (z ▸ nD)
  have nBD : B D = none := by
    cases y : B D with
    | none => rfl
    | some o => rw [m1.ext D o y f2] at nD; cases nD
  have hsz : sizeLine = 16777216 := sizeLine_eq
  refine ⟨fun i n H2 => n = xs.length - i ∧ i ≤ xs.length ∧ ∃ acc vs' r2, Fm ρ (fun b => F b ∨ b = D) B H2 r2 σ env ad ∧ Ext ρ H1 H2 ∧ H2 D = some (.lst vs') ∧ RepL ρ (Hx H2 (Ex (fun b => F b ∨ b = D) env ad)) acc vs' ∧ acc.length ≤ i ∧
      wpM (bnd (lcF t tt fe (xs.drop i) (wipeE env vs)) (fun ys => ret (PV.lst (acc ++ ys))) r2) K E,
    ⟨xs.length, rfl, Nat.zero_le _, [], [], r1, m2, .same (same_upd nD), upd_same, .nil, Nat.le_refl _, w2⟩, fun i n H2 hW => ?_⟩
  obtain ⟨rfl, hi, acc, vs', r2, m3, e3, hD, hr, ha, w3⟩ := hW
  have hG := stay_ext (bo := bo) m1.exρ e3
  by_cases hlt : i < xs.length
  · refine .inr ?_
    have hx : xs[i]? = some xs[i] := List.getElem?_eq_getElem hlt
    rw [List.drop_eq_getElem_cons hlt] at w3
    obtain ⟨go, yl⟩ := (hJ i H2 hG).1 _ hx
    refine ⟨go, fun H' => ∃ acc vs' r2, Fm ρ (fun b => F b ∨ b = D) B H' r2 σ env ad ∧ Ext ρ H1 H' ∧ H' D = some (.lst vs') ∧ RepL ρ (Hx H' (Ex (fun b => F b ∨ b = D) env ad)) acc vs' ∧ acc.length ≤ i + 1 ∧
      wpM (bnd (lcF t tt fe (xs.drop (i + 1)) (wipeE env vs)) (fun ys => ret (PV.lst (acc ++ ys))) r2) K E, fun H' ⟨acc, vs', r2, a, b, c, d, e, f⟩ => ⟨xs.length - (i + 1), by omega, rfl, hlt, acc, vs', r2, a, b, c, d, e, f⟩, fun v H3 hy => ?_⟩
    obtain ⟨sm, hrp⟩ := yl v H3 hy
    have m4 := m3.step (.same sm) (m3.row.same sm)
    have xw : Ex (fun b => F b ∨ b = D) (wipeE env vs) ad = Ex (fun b => F b ∨ b = D) env ad := ex_wipe hno
    have hrep := hrp (Ex (fun b => F b ∨ b = D) env ad) (fun b => m3.nt) fun b o q => by
      obtain ⟨n, q⟩ := Hx_some q
      rw [Hx_out fun z => (ex_addF.mp z).elim n (ne_of_none q nD)]
      exact sm b o (e3 b o q fun z => n (z ▸ m1.exρ))
    obtain ⟨env1, et, w4⟩ := ofO_some (wpM_bnd (wpM_bnd w3))
    refine ⟨ρ, _, B, wipeE env vs, ad, r2, xs[i], env1, m4.wipe hno, by rw [xw]; exact hrep, et, fun σ5 m5 x5 b5 => ⟨But.wipe b5 hsl, ?_⟩⟩
    refine ⟨ρ, _, B, env1, ad, r2, m5, wpM_mono (wpM_noex (wpM_bnd w4)) (fun b r6 w6 H6 e6 o6 => ?_) fun _ _ z => z.elim⟩
    have m6 := m5.step e6 o6
    cases b with
    | false =>
      have w6 : wpM (bnd (lcF t tt fe (xs.drop (i + 1)) (wipeE env vs)) (fun ys => ret (PV.lst (acc ++ ys))) r6) K E := by
        have := w6
        unfold bnd
        cases q : lcF t tt fe (xs.drop (i + 1)) (wipeE env vs) r6 with
        | ok a r' => rw [if_neg Bool.false_ne_true, q] at this; exact this
        | ex e r' => rw [if_neg Bool.false_ne_true, q] at this; exact this
        | bad => rw [if_neg Bool.false_ne_true, q] at this; exact this
      refine iteF ⟨acc, vs', r6, m4.step e6 o6, (e3.trans (.same sm)).trans e6, e6 _ _ (sm _ _ hD) f2, hr.mono fun b o q => ?_, by omega, w6⟩
      exact hx_ext m4.exρ e6 b o (hx_ext m3.exρ (.same sm) b o q)
    | true =>
      refine iteT ⟨ρ, _, B, env1, ad, r6, m6, wpM_mono (wpM_noex (wpM_bnd w6)) (fun y r7 w7 u H7 e7 o7 h7 => ?_) fun _ _ z => z.elim⟩
      have m7 := (m4.step e6 o6).step e7 o7
      have h7 : Rep ρ (Hx H7 (Ex (fun b => F b ∨ b = D) env1 ad)) y u := h7
      rw [x5, xw] at h7
      have hD7 : H7 D = some (.lst vs') := e7 _ _ (e6 _ _ (sm _ _ hD) f2) f2
      have hr7 : RepL ρ (Hx H7 (Ex (fun b => F b ∨ b = D) env ad)) acc vs' := hr.mono fun b o q => hx_ext m4.exρ e7 b o (hx_ext m4.exρ e6 b o (hx_ext m3.exρ (.same sm) b o q))
      have hu : ∀ b o, Hx H7 (Ex (fun b => F b ∨ b = D) env ad) b = some o → Hx (upd H7 D (.lst (vs' ++ [u]))) (Ex (fun b => F b ∨ b = D) env ad) b = some o := fun b o q => by
        obtain ⟨n, q⟩ := Hx_some q
        rw [Hx_out n, upd_ne fun z => n (.inl (.inr z))]; exact q
      refine ⟨vs', hD7, by rw [hr.length, hsz]; omega, acc ++ [y], vs' ++ [u], r7, m7.updF nBD f2, fun b o q n => ?_, upd_same, (hr7.snoc h7).mono hu, by rw [List.length_append, List.length_singleton]; omega, ?_⟩
      · rw [upd_ne (ne_of_none q nD)]
        exact e7 _ _ (e6 _ _ (sm _ _ (e3 b o q n)) n) n
      · have := wpM_bnd w7
        unfold bnd
        cases q : lcF t tt fe (xs.drop (i + 1)) (wipeE env vs) r7 with
        | ok a r' =>
          rw [q] at this
          show K (.lst ((acc ++ [y]) ++ a)) r'
          rw [List.append_assoc]
          exact this
        | ex e r' => rw [q] at this; exact this
        | bad => rw [q] at this; exact this
  · have ei : i = xs.length := by omega
    subst ei
    rw [List.drop_length] at w3
    refine .inl ⟨(hJ _ H2 hG).2 (Nat.le_refl _), ?_⟩
    rw [show (bnd (lcF t tt fe [] (wipeE env vs)) (fun ys => ret (PV.lst (acc ++ ys))) r2) = ret (PV.lst (acc ++ [])) r2 from rfl, List.append_nil] at w3
    exact hK acc r2 H2 vs' w3 e3 m3.row hD (hr.mono (hx_less fun b z => ex_addF.mpr z))
theorem tLc_of {mg : Str → Option Value} {vs : List Nat} (hsl : ∀ i ∈ sl, i ∈ vs) (σ : L2.St) (H : Hp) (Q : VK) (q : tE mg W .fr (eLc vs fs t tt fe) σ H Q) : tLc (tI mg W bo fs) (tG sl t) (tT mg W0 tt) (tE mg W0 .cl fe) vs σ H Q := by
  obtain ⟨ρ, F, B, env, ad, r, m, w⟩ := q
  refine ⟨ρ, F, B, env, ad, r, m, wpM_mono (wpM_bnd w) (fun xs r1 w1 J H1 e1 o1 hJ D nD => ?_) fun _ _ z => z⟩
  obtain ⟨⟨hlen, hno⟩, w2⟩ := wpM_ite w1
  obtain ⟨f1, f2⟩ := fresh_back e1 o1.there nD
  exact lc_loop hsl (m.step e1 o1) hJ nD hlen hno w2 fun ys r' H' vs' k e o hD hr => k (.ref D) H' (e1.trans e) o ⟨D, rfl, f1, f2, vs', hD, hr⟩
theorem me_lc (T : Ct X W j) (hi : MI X W bo tg iter fs) (ok : BlkOk X.N X.env.scope scope own)
    (hg : ∀ (s : Shared) (H : Hp) (C : Addr) (cl : List (Str × Addr)) (fp : List Addr), MG (X.blk s H scope (compEnvC scope cl C X.env) fp) tg sl t) (ht : ∀ (s : Shared) (H : Hp) (C : Addr) (cl : List (Str × Addr)) (fp : List Addr), MTs (X.blk s H scope (compEnvC scope cl C X.env) fp) W0 ifs tt)
    (he : ∀ (s : Shared) (H : Hp) (C : Addr) (cl : List (Str × Addr)) (fp : List Addr), ME (X.blk s H scope (compEnvC scope cl C X.env) fp) W0 elt fe) (hsl : ∀ i ∈ sl, i ∈ own.map (·.2) := by decide) (hs : ∀ x, foldedSetIterable iter X.env x = pure x := by intro _; rfl) :
    MEk X W .fr (.ListComp elt [⟨tg, iter, ifs, 0⟩] scope pos) (eLc (own.map (·.2)) fs t tt fe) := pe_imp (pe_lc T.calm T.nd hi ok hg ht he hs) (tLc_of hsl)
/-- name = [..] on one line -/
theorem ms_setLc {y : Str} {py spos : Pos} (i : Nat) (T : Ct X W j) (hi : MI X W bo tg iter fs) (ok : BlkOk X.N X.env.scope scope own)
    (hg : ∀ (s : Shared) (H : Hp) (C : Addr) (cl : List (Str × Addr)) (fp : List Addr), MG (X.blk s H scope (compEnvC scope cl C X.env) fp) tg sl t) (ht : ∀ (s : Shared) (H : Hp) (C : Addr) (cl : List (Str × Addr)) (fp : List Addr), MTs (X.blk s H scope (compEnvC scope cl C X.env) fp) W0 ifs tt)
    (he : ∀ (s : Shared) (H : Hp) (C : Addr) (cl : List (Str × Addr)) (fp : List Addr), ME (X.blk s H scope (compEnvC scope cl C X.env) fp) W0 elt fe)
    (hsw : swapsWith (.ListComp elt [⟨tg, iter, ifs, 0⟩] scope pos) (some (.Name y py)) spos.line X.env = pure true) (hy : X.N[i]? = some y := by rfl) (hyl : X.env.scope.names.lookup y = some .local := by rfl) (hsl : ∀ i ∈ sl, i ∈ own.map (·.2) := by decide) (hs : ∀ x, foldedSetIterable iter X.env x = pure x := by intro _; rfl) :
    MS0 X W (.Assign [.Name y py] (.ListComp elt [⟨tg, iter, ifs, 0⟩] scope pos) spos) (sSet i (eLc (own.map (·.2)) fs t tt fe)) := ps_imp (ps_setLc T.calm T.nd hy hyl hsw hi ok hg ht he hs) fun D σ H q => by
  refine tLc_of (bo := bo) (W := W) (tt := tt) (fe := fe) (t := t) (sl := sl) (fs := fs) hsl σ H _ ?_
  obtain ⟨ρ, F, B, env, ad, r, m, w⟩ := q
  refine ⟨ρ, F, B, env, ad, r, m, wpM_mono (wpM_bnd w) (fun z r1 w1 v H1 e1 o1 h1 => ?_) fun _ _ z => z⟩
  obtain ⟨hi, w2⟩ := sPut_ok w1
  exact w2 _ H1 ad ((m.step e1 o1).set hi (h1.c fun b => m.there))
end
end Mir

namespace Mir
open PySem PySem.Spec PyProof.Rows L2
/-! ### a def -/
def runF (nn : Nat) (body : Env → M Fl) (xs : List PV) : M PV := bnd (body (xs.map .sh ++ List.replicate (nn - xs.length) .no)) fun fl => match fl with
  | .nx _ => ret .non
  | .rt v => ret v
  | _ => fail
abbrev WF (E : XK) : WX := fun cls d _ H => E cls d H
theorem fm_start {mg : Str → Option Value} {ρ : Rw} {F : Addr → Prop} {H : Hp} {r : RS} {N : List Str} {xs : List PV} {vs : List V} (hρ : F ρ.a) (hF : ∀ b, F b → NT (H b)) (w : RowAt ρ H r) (l : RepL ρ (Hx H F) xs vs) (hN : xs.length ≤ N.length) :
    Fm ρ F H H r (L2.start N vs) (xs.map .sh ++ List.replicate (N.length - xs.length) .no) (fun _ => 0) := by
  have no : ∀ (i : Nat) x, (xs.map Slot.sh ++ List.replicate (N.length - xs.length) Slot.no)[i]? = some (.ow x) → False := fun i x e => by
    by_cases hi : i < xs.length
    · rw [List.getElem?_append_left (by simpa using hi), List.getElem?_map, List.getElem?_eq_getElem hi] at e
      cases e
    · rw [List.getElem?_append_right (by simpa using Nat.le_of_not_lt hi), List.getElem?_replicate] at e
      split at e <;> cases e
  have exF : Ex F (xs.map Slot.sh ++ List.replicate (N.length - xs.length) Slot.no) (fun _ => 0) = F := by
    funext b
    refine propext ⟨fun z => ?_, fun z => .inl z⟩
    rcases z with z | ⟨i, x, e, _⟩
    · exact z
    · exact (no i x e).elim
  refine ⟨w, hρ, hF, Ext.refl _ _, (by rw [w.2.2.2]; exact fun y => (by cases y)), ?_, fun i x e => ?_, fun i x e => (no i x e).elim, fun i j x y e => (no i x e).elim⟩
  · unfold L2.start
    simp only [List.length_append, List.length_map, List.length_replicate, l.length]
  · rw [exF]
    by_cases hi : i < xs.length
    · rw [List.getElem?_append_left (by simpa using hi), List.getElem?_map] at e
      cases q : xs[i]? with
      | none => rw [q] at e; cases e
      | some y =>
        rw [q] at e
        cases e
        obtain ⟨v, hv, r⟩ := l.get q
        refine ⟨v, ?_, r⟩
        unfold L2.start
        rw [List.getElem?_append_left (by rw [List.length_map, l.length]; exact hi), List.getElem?_map, hv]; rfl
    · rw [List.getElem?_append_right (by simpa using Nat.le_of_not_lt hi), List.getElem?_replicate] at e
      split at e <;> cases e
section
variable {P : Program} {w : World} {K : PySem.W.Frag} {mg : Str → Option Value} {base : Heap}
theorem fn_mir {x qual : Str} {st : Stmt} {f : Addr} {fd : FuncData} {N ps : List Str} {k n : Nat} {body : Env → M Fl} (F : Fun K x qual st f fd) (S : FnScope N ps (defScope st)) (hn : ps.length = n) (hm : mg x = some (.ref f)) (hb : Binds K fd ps [])
    (hbody : ∀ (cdv : Value) (A : Around) (outer : List PySem.Env) (s : Shared) (H : Hp) (E : XK), Ct (cxOf (L2.CX P w) P w K mg base N qual (defScope st) f cdv A outer s H E) (WF E) k →
      MSs (cxOf (L2.CX P w) P w K mg base N qual (defScope st) f cdv A outer s H E) (WF E) (defBody st) body) : FnM P w K mg base (k + 1) x n (runF N.length body) := by
  have hpl : ps.length ≤ N.length := by
    have := congrArg List.length S.pre
    rw [List.length_take] at this
    omega
  refine ⟨f, fd, ps, F.okX S (fun vs H Q E h => (spM_len h).trans hn.symm) (fun cdv A outer s H vs Q E hr h => ?_), hm, F.kp, hb⟩
  have T : Ct (cxOf (L2.CX P w) P w K mg base N qual (defScope st) f cdv A outer s H E) (WF E) k := ⟨S.nd, hr, takes_of rfl rfl rfl rfl, passes_of rfl, rfl⟩
  refine ⟨_, hbody cdv A outer s H E T, ?_⟩
  obtain ⟨ρ, F', xs, r, hρ, hF, hw, l, w⟩ := h
  obtain ⟨hl, w⟩ := wpM_ite w
  refine ⟨ρ, F', H, _, _, r, fm_start (mg := mg) (N := N) hρ hF hw l (by omega), wpM_mono (wpM_bnd w) (fun fl r1 w1 => ?_) fun e r' z C d σ' H' ⟨env', ad', m'⟩ => z C d H' m'.ext m'.row⟩
  cases fl with
  | nx e1 => exact fun σ' H' ad' m' => w1 .non H' m'.ext m'.row (Flat.non _ _)
  | rt v => exact w1
  | bk e1 => exact w1.elim
  | ct e1 => exact w1.elim
end

/-! ### raise C() -/
/-- what a class of the text must be -/
structure ExC (K : PySem.W.Frag) (mg : Str → Option Value) (x : Str) : Prop where
  ex : ∃ C, mg x = some (.ref C) ∧ PySem.W.excIn K C [.type "ValueError", .type "Exception", .type "BaseException", .type "object"] "ValueError.__new__" = true ∧ PySem.W.keepIn K (.ref C) = true ∧
    PySem.W.subIn K (.ref C) (.type "BaseException") = some true ∧ PySem.W.typeIn K (.ref C) = some (.type "type")
def sRaise (x : Str) (fs : List Str) (fa : AF) : Env → M Fl := fun env => bnd (fa env) fun xs => raise ⟨x, fs.zip xs⟩
section
variable {X : Cx} {W : WX} {k ka kb kc : Kd} {pos pos' p p1 : Pos} {e a b c : Expr} {es : List Expr} {j j' n i : Nat} {x : Str} {st : Stmt} {fa fb fc : EF}
theorem pmk_own0 {C : Addr} {bmB : List Value} {B newId initId : String} (F : ExcBaseFacts B newId initId bmB) (q : PySem.W.excIn X.K C bmB newId = true) (gC : X.mg x = some (.ref C)) (kC : PySem.W.keepIn X.K (.ref C) = true) (r : Raises X (.ref C)) (hg : Gl X x)
    (hdb : (x == ("__debug__" : Str)) = false := by decide) : PMk X (.Call (.Name x p) [] [] pos) (fun _ H Q => Q (.ref C) none H) := by
  intro pins s σ H Q I h
  refine wpAny_Call_Name_kw (ld_glob I hg gC ?_ hdb)
  refine PySem.W.callWith_K0 I.kIn kC ?_
  show wpAny _ _ (call (.ref C) []) _ _ _
  obtain ⟨bm, N, nm, qn, bs, hdct, sn, sub, ab, col, dd, k0, k1, k2, k3, k5, mN, hC, hN, hni, T⟩ := exc_obj I.kIn q
  refine wpAny_call_exc_subT F T hC hN hni (fun h' e hm => ?_) (by show 0 ≤ sizeLine; omega)
  exact mk_of I hm r h (I.hok.gone hm.new)
theorem ms_raise0 (T : Ct X W j) (F : ExC X.K X.mg x) (hg : Gl X x := by rfl) (hdb : (x == ("__debug__" : Str)) = false := by decide) : MS0 X W (.Raise (some (.Call (.Name x p) [] [] p1)) none pos) (sRaise x [] aNil) := by
  obtain ⟨C, gC, q, kC, b1, t1⟩ := F.ex
  refine ps_imp (ps_raise T.calm T.tk (pmk_own0 PySem.F.excBase_ValueError q gC kC (raises_own b1 t1) hg hdb)) fun D σ H q => ?_
  obtain ⟨ρ, F', B, env, ad, r, m, w⟩ := q
  exact w (.ref C) none H (Ext.refl _ _) m.row ⟨gC, .inl ⟨rfl, rfl⟩⟩

end
/-! ### several values, stored at once: fresh ones become the frame's own -/
def HVs (ρ : Rw) (H G : Hp) : List Addr → List Bool → List PV → List V → Prop
  | as, [], xs, vs => as = [] ∧ xs = [] ∧ vs = []
  | as, true :: ks, xs, vs => ∃ a as' x xs' vs', as = a :: as' ∧ xs = x :: xs' ∧ vs = .ref a :: vs' ∧ OwR ρ H G x a ∧ HVs ρ H G as' ks xs' vs'
  | as, false :: ks, xs, vs => ∃ x xs' v vs', xs = x :: xs' ∧ vs = v :: vs' ∧ Rep ρ G x v ∧ HVs ρ H G as ks xs' vs'
def tP (mg : Str → Option Value) (W : WX) (ks : List Bool) (f : AF) : TA := fun σ H Q => ∃ ρ F B env ad r, Fm ρ F B H r σ env ad ∧
  wpM (f env r) (fun xs r' => ∀ vs H' as, Ext ρ H H' → RowAt ρ H' r' → as.Nodup → (∀ a ∈ as, H a = none ∧ a ≠ ρ.a) → HVs ρ H' (Hx H' fun b => Ex F env ad b ∨ b ∈ as) as ks xs vs → Q vs H')
    (fun e r' => ∀ C d H', Ext ρ H H' → RowAt ρ H' r' → ExR mg H' C d e → W C d σ H')
abbrev MP (X : Cx) (W : WX) (ks : List Bool) (es : List Expr) (f : AF) : Prop := PA X es (tP X.mg W ks f)
section
variable {ρ : Rw} {F : Addr → Prop} {B H H' H1 : Hp} {r r' : RS} {σ : L2.St} {env : Env} {ad : Nat → Addr} {y : PV} {v : V}
theorem Fm.congrF {F' : Addr → Prop} (h : ∀ b, F b ↔ F' b) (m : Fm ρ F B H r σ env ad) : Fm ρ F' B H r σ env ad := by
  have e : F = F' := funext fun b => propext (h b)
  rw [← e]; exact m
/-- things that came since are kept apart -/
theorem Fm.apart (m : Fm ρ F B H r σ env ad) (e1 : Ext ρ H H1) (o1 : RowAt ρ H1 r') {as : List Addr} (ha : ∀ a ∈ as, H a = none ∧ a ≠ ρ.a) (hb : ∀ a ∈ as, NT (H1 a)) : Fm ρ (fun b => F b ∨ b ∈ as) B H1 r' σ env ad := by
  have m1 := m.step e1 o1
  have xs : ∀ b, Ex (fun b => F b ∨ b ∈ as) env ad b → Ex F env ad b ∨ b ∈ as := fun b z => by
    rcases z with (z | z) | z
    · exact .inl (.inl z)
    · exact .inr z
    · exact .inl (.inr z)
  have hx : ∀ b o', Hx H (Ex F env ad) b = some o' → Hx H1 (Ex (fun b => F b ∨ b ∈ as) env ad) b = some o' := fun b o' q => by
    obtain ⟨n, q⟩ := Hx_some q
    rw [Hx_out fun z => (xs b z).elim n fun y => by rw [(ha b y).1] at q; cases q]
    exact e1 b o' q fun z => n (z ▸ m.exρ)
  refine ⟨o1, .inl m.hρ, fun b z => z.elim (m1.dom b) (hb b), m1.ext, m.lsB, m.len, fun i x e => ?_, fun i x e => ?_, m.inj⟩
  · obtain ⟨v, a, b⟩ := m.sh i x e
    exact ⟨v, a, b.mono hx⟩
  · obtain ⟨a, b, c, d⟩ := m.ow i x e
    exact ⟨a, ⟨b.1, fun z => z.elim b.2 fun y => d.there (ha _ y).1⟩, c, d.mono (fun o' q => e1 _ o' q c) hx⟩
/-- one of them is stored: it is the frame's own -/
theorem Fm.take {a : Addr} {x : PV} (m : Fm ρ (fun b => F b ∨ b = a) B H r σ env ad) {i : Nat} (hi : i < env.length) (nB : B a = none) (nF : ¬ F a) (nρ : a ≠ ρ.a) {S : Addr → Prop} (hS : ∀ b, Ex (fun b => F b ∨ b = a) env ad b → S b) (h : OwR ρ H (Hx H S) x a) :
    Fm ρ F B H r (σ.set i (some (.ref a))) (env.set i (.ow x)) (fun j => if j = i then a else ad j) := by
  have nE : ∀ j y, env[j]? = some (.ow y) → ad j ≠ a := fun j y e z => (m.ow j y e).2.1.2 (.inr z)
  have sub : ∀ b, Ex F (env.set i (.ow x)) (fun j => if j = i then a else ad j) b → Ex (fun b => F b ∨ b = a) env ad b := fun b z => by
    rcases z with z | ⟨j, y, e, rfl⟩
    · exact .inl (.inl z)
    · by_cases q : j = i
      · subst q
        exact .inl (.inr (if_pos rfl))
      · rw [List.getElem?_set_ne (Ne.symm q)] at e
        refine .inr ⟨j, y, e, ?_⟩
        show ad j = if j = i then a else ad j
        rw [if_neg q]
  have k : ∀ {j : Nat} {y : PV}, (env.set i (.ow x))[j]? = some (.ow y) → (j = i ∧ y = x) ∨ (j ≠ i ∧ env[j]? = some (.ow y)) := fun {j y} e => by
    by_cases z : i = j
    · subst z
      rw [List.getElem?_set_self hi] at e
      cases e
      exact .inl ⟨rfl, rfl⟩
    · rw [List.getElem?_set_ne z] at e; exact .inr ⟨Ne.symm z, e⟩
  refine ⟨m.row, m.hρ.elim id fun z => absurd z.symm nρ, fun b z => m.dom b (.inl z), m.ext, m.lsB, by rw [List.length_set, List.length_set]; exact m.len, fun j y e => ?_, fun j y e => ?_, fun j l y y' e e' q => ?_⟩
  · by_cases z : i = j
    · subst z
      rw [List.getElem?_set_self hi] at e
      cases e
    · rw [List.getElem?_set_ne z] at e ⊢
      obtain ⟨u, a1, b1⟩ := m.sh j y e
      exact ⟨u, a1, b1.mono (hx_less sub)⟩
  · rcases k e with ⟨rfl, rfl⟩ | ⟨z, e⟩
    · refine ⟨by rw [List.getElem?_set_self (by rw [m.len]; exact hi), if_pos rfl], by rw [if_pos rfl]; exact ⟨nB, nF⟩, by rw [if_pos rfl]; exact nρ, ?_⟩
      rw [if_pos rfl]
      exact h.mono (fun _ q => q) (hx_less fun b z => hS b (sub b z))
    · obtain ⟨a1, b1, c1, d1⟩ := m.ow j y e
      rw [if_neg z, List.getElem?_set_ne (Ne.symm z)]
      exact ⟨a1, ⟨b1.1, fun y => b1.2 (.inl y)⟩, c1, d1.mono (fun _ q => q) (hx_less sub)⟩
  · have q : (if j = i then a else ad j) = (if l = i then a else ad l) := q
    rcases k e with ⟨z, _⟩ | ⟨z, e2⟩ <;> rcases k e' with ⟨z', _⟩ | ⟨z', e3⟩
    · rw [z, z']
    · rw [if_pos z, if_neg z'] at q
      exact absurd q.symm (nE l y' e3)
    · rw [if_neg z, if_pos z'] at q
      exact absurd q (nE j y e2)
    · rw [if_neg z, if_neg z'] at q
      exact m.inj j l y y' e2 e3 q
end
/-- slots set one after another -/
def setsE : List Nat → List Bool → List PV → Env → Option Env
  | [], [], [], env => some env
  | i :: is, k :: ks, x :: xs, env => if i < env.length then setsE is ks xs (env.set i (if k = true then .ow x else .sh x)) else none
  | _, _, _, _ => none
def setsV : List Nat → List V → L2.St → L2.St
  | i :: is, v :: vs, σ => setsV is vs (σ.set i (some v))
  | _, _, σ => σ
theorem sets_ok {ρ : Rw} {F : Addr → Prop} {B H : Hp} {r : RS} {S : Addr → Prop} : ∀ {is : List Nat} {ks : List Bool} {xs : List PV} {vs : List V} {as : List Addr} {σ : L2.St} {env env' : Env} {ad : Nat → Addr},
    Fm ρ (fun b => F b ∨ b ∈ as) B H r σ env ad → as.Nodup → (∀ a ∈ as, B a = none ∧ ¬ F a ∧ a ≠ ρ.a) → (∀ b, Ex (fun b => F b ∨ b ∈ as) env ad b → S b) → HVs ρ H (Hx H S) as ks xs vs → setsE is ks xs env = some env' →
    ∃ ad', Fm ρ F B H r (setsV is vs σ) env' ad'
  | [], [], [], vs, as, σ, env, env', ad, m, nd, ha, hS, hv, e => by
    obtain ⟨rfl, _, rfl⟩ := hv
    cases e
    exact ⟨ad, m.congrF fun b => ⟨fun z => z.elim id fun y => (by cases y), .inl⟩⟩
  | i :: is, k :: ks, x :: xs, vs, as, σ, env, env', ad, m, nd, ha, hS, hv, e => by
    unfold setsE at e
    split at e
    · rename_i hi
      cases k with
      | false =>
        obtain ⟨x', xs', v, vs', ex, rfl, hr, hv⟩ := hv
        cases ex
        have m' := m.set hi (hr.mono (hx_less hS))
        exact sets_ok (is := is) (ks := ks) (xs := xs) m' nd ha (fun b z => hS b (Ex.set z fun y => by intro q; cases q)) hv e
      | true =>
        obtain ⟨a, as', x', xs', vs', rfl, ex, rfl, ho, hv⟩ := hv
        cases ex
        obtain ⟨na, nd⟩ := List.nodup_cons.mp nd
        obtain ⟨nB, nF, nρ⟩ := ha a List.mem_cons_self
        have mc : Fm ρ (fun b => (F b ∨ b ∈ as') ∨ b = a) B H r σ env ad := m.congrF fun b => by
          rw [List.mem_cons]
          constructor
          · rintro (z | z | z)
            · exact .inl (.inl z)
            · exact .inr z
            · exact .inl (.inr z)
          · rintro ((z | z) | z)
            · exact .inl z
            · exact .inr (.inr z)
            · exact .inr (.inl z)
        have hS' : ∀ b, Ex (fun b => (F b ∨ b ∈ as') ∨ b = a) env ad b → S b := fun b z => hS b (by
          rcases z with ((z | z) | z) | z
          · exact .inl (.inl z)
          · exact .inl (.inr (List.mem_cons_of_mem _ z))
          · exact .inl (.inr (z ▸ List.mem_cons_self))
          · exact .inr z)
        have m' := mc.take (x := x) (i := i) hi nB (fun z => z.elim nF na) nρ hS' ho
        refine sets_ok (is := is) (ks := ks) (xs := xs) (vs := vs') m' nd (fun b z => ha b (List.mem_cons_of_mem _ z)) (fun b z => ?_) hv e
        rcases z with z | ⟨j, y, e2, rfl⟩
        · exact hS' b (.inl (.inl z))
        · by_cases q : j = i
          · subst q
            refine hS' _ (.inl (.inr (if_pos rfl)))
          · rw [List.getElem?_set_ne (Ne.symm q)] at e2
            refine hS' _ (.inr ⟨j, y, e2, ?_⟩)
            show ad j = if j = i then a else ad j
            rw [if_neg q]
    · cases e
  | [], _ :: _, _, _, _, _, _, _, _, _, _, _, _, _, e => by cases e
  | [], [], _ :: _, _, _, _, _, _, _, _, _, _, _, _, e => by cases e
  | _ :: _, [], _, _, _, _, _, _, _, _, _, _, _, _, e => by cases e
  | _ :: _, _ :: _, [], _, _, _, _, _, _, _, _, _, _, _, e => by cases e
theorem setsE_len : ∀ {is : List Nat} {ks : List Bool} {xs : List PV} {env env' : Env}, setsE is ks xs env = some env' → is.length = ks.length ∧ ks.length = xs.length
  | [], [], [], _, _, _ => ⟨rfl, rfl⟩
  | i :: is, k :: ks, x :: xs, env, env', e => by
    unfold setsE at e
    split at e
    · obtain ⟨a, b⟩ := setsE_len e
      exact ⟨by rw [List.length_cons, List.length_cons, a], by rw [List.length_cons, List.length_cons, b]⟩
    · cases e
  | [], _ :: _, _, _, _, e => by cases e
  | [], [], _ :: _, _, _, e => by cases e
  | _ :: _, [], _, _, _, e => by cases e
  | _ :: _, _ :: _, [], _, _, e => by cases e
theorem HVs.lenV {ρ : Rw} {H G : Hp} : ∀ {ks : List Bool} {as : List Addr} {xs : List PV} {vs : List V}, HVs ρ H G as ks xs vs → vs.length = ks.length
  | [], as, xs, vs, h => by obtain ⟨_, _, rfl⟩ := h; rfl
  | true :: ks, as, xs, vs, h => by
    obtain ⟨a, as', x, xs', vs', _, _, rfl, _, h⟩ := h
    rw [List.length_cons, List.length_cons, HVs.lenV h]
  | false :: ks, as, xs, vs, h => by
    obtain ⟨x, xs', v, vs', _, rfl, _, h⟩ := h
    rw [List.length_cons, List.length_cons, HVs.lenV h]
def sSets (is : List Nat) (ks : List Bool) (fs : AF) : Env → M Fl := fun env => bnd (fs env) fun xs => bnd (ofO (setsE is ks xs env)) fun env' => ret (.nx env')
section
variable {X : Cx} {W : WX} {k ka kb kc : Kd} {pos pos' p p1 : Pos} {e a b c : Expr} {es : List Expr} {j j' n i : Nat} {x : Str} {st : Stmt} {fa fb fc : EF} {fs : AF} {ks : List Bool}
theorem mp_nil : MP X W [] [] aNil := pa_imp pa_nil fun σ H Q q => by
  obtain ⟨ρ, F, B, env, ad, r, m, w⟩ := q
  exact w [] H [] (Ext.refl _ _) m.row List.nodup_nil (fun a z => by cases z) ⟨rfl, rfl, rfl⟩
theorem mp_fr (ha : MEk X W .fr a fa) (hr : MP X W ks es fs) (hs : starEach (a :: es) X.env = (false, eval a X.env) :: starEach es X.env := by rfl) : MP X W (true :: ks) (a :: es) (aCons fa fs) := pa_imp (pa_cons ha hr hs) fun σ H Q q => by
  obtain ⟨ρ, F, B, env, ad, r, m, w⟩ := q
  refine ⟨ρ, F, B, env, ad, r, m, wpM_mono (wpM_bnd w) (fun x r1 w1 v1 H1 e1 o1 h1 => ?_) fun _ _ z => z⟩
  obtain ⟨a1, rfl, na, nρ, ho⟩ := h1
  have m1 : Fm ρ (fun b => F b ∨ b ∈ [a1]) B H1 r1 σ env ad := m.apart e1 o1 (fun b z => by rw [List.mem_singleton.mp z]; exact ⟨na, nρ⟩) fun b z => by rw [List.mem_singleton.mp z]; exact ho.nt
  refine ⟨ρ, _, B, env, ad, r1, m1, wpM_mono (wpM_bnd w1) (fun xs r2 w2 vs H2 as e2 o2 nd hf h2 => ?_) fun ex r2 z C d H' e' => z C d H' (e1.trans e')⟩
  have hS : ∀ b, (Ex (fun b => F b ∨ b ∈ [a1]) env ad b ∨ b ∈ as) ↔ (Ex F env ad b ∨ b ∈ a1 :: as) := fun b => by
    rw [List.mem_cons]
    constructor
    · rintro (((z | z) | z) | z)
      · exact .inl (.inl z)
      · exact .inr (.inl (List.mem_singleton.mp z))
      · exact .inl (.inr z)
      · exact .inr (.inr z)
    · rintro ((z | z) | z | z)
      · exact .inl (.inl (.inl z))
      · exact .inl (.inr z)
      · exact .inl (.inl (.inr (List.mem_singleton.mpr z)))
      · exact .inr z
  have eS : (fun b => Ex (fun b => F b ∨ b ∈ [a1]) env ad b ∨ b ∈ as) = (fun b => Ex F env ad b ∨ b ∈ a1 :: as) := funext fun b => propext (hS b)
  rw [eS] at h2
  refine w2 (.ref a1 :: vs) H2 (a1 :: as) (e1.trans e2) o2 (List.nodup_cons.mpr ⟨fun z => ho.there (hf a1 z).1, nd⟩) (fun a z => ?_) ⟨a1, as, x, xs, vs, rfl, rfl, rfl, ho.mono (fun o q => e2 _ o q nρ) fun b o q => ?_, h2⟩
  · rcases List.mem_cons.mp z with rfl | z
    · exact ⟨na, nρ⟩
    · obtain ⟨f1, f2⟩ := hf a z
      exact ⟨(fresh_back e1 o1.there f1).1, f2⟩
  · obtain ⟨n, q⟩ := Hx_some q
    rw [Hx_out, e2 b o q fun z => n (.inl (z ▸ m.exρ))]
    rintro (z | z)
    · exact n (.inl z)
    · rcases List.mem_cons.mp z with z | z
      · exact n (.inr z)
      · rw [(hf b z).1] at q; cases q
theorem sets_fin {mg : Str → Option Value} {is : List Nat} {σ : L2.St} {H : Hp} {ρ : Rw} {F : Addr → Prop} {B : Hp} {env : Env} {ad : Nat → Addr} {r r1 : RS} {H1 : Hp} {xs : List PV} {vs : List V} {as : List Addr} {env' : Env} (m : Fm ρ F B H r σ env ad) (e1 : Ext ρ H H1) (o1 : RowAt ρ H1 r1) (nd : as.Nodup) (hf : ∀ a ∈ as, H a = none ∧ a ≠ ρ.a)
    (hv : HVs ρ H1 (Hx H1 fun b => Ex F env ad b ∨ b ∈ as) as ks xs vs) (he : setsE is ks xs env = some env') : ∃ ad', Fm ρ F B H1 r1 (setsV is vs σ) env' ad' := by
  have there : ∀ (ks : List Bool) (as : List Addr) (xs : List PV) (vs : List V) (G : Hp), HVs ρ H1 G as ks xs vs → ∀ a ∈ as, NT (H1 a) := by
    intro ks
    induction ks with
    | nil => intro as xs vs G h a z; obtain ⟨rfl, _⟩ := h; cases z
    | cons k ks ih =>
      intro as xs vs G h a z
      cases k with
      | false => obtain ⟨x, xs', v, vs', _, _, _, h⟩ := h; exact ih _ _ _ _ h a z
      | true =>
        obtain ⟨a0, as', x, xs', vs', rfl, _, _, ho, h⟩ := h
        rcases List.mem_cons.mp z with rfl | z
        · exact ho.nt
        · exact ih _ _ _ _ h a z
  refine sets_ok (m.apart e1 o1 hf (there _ _ _ _ _ hv)) nd (fun a z => ?_) (fun b z => ?_) hv he
  · obtain ⟨n1, n2⟩ := hf a z
    refine ⟨?_, fun y => (m.dom a y).1.1 n1, n2⟩
    cases y : B a with
    | none => rfl
    | some o => rw [m.ext a o y n2] at n1; cases n1
  · rcases z with (z | z) | z
    · exact .inl (.inl z)
    · exact .inr z
    · exact .inl (.inr z)
/-- a, b = x, y with plain locals -/
theorem ms_par2 {i l : Nat} {x y : Str} {px py pt : Pos} {kt k2 pt2} (T : Ct X W j) (ha : MP X W ks [a, b] fs) (hij : i ≠ l) (hw : swappedStores [.Tuple [.Name x px, .Name y py] kt pt] (.Tuple [a, b] k2 pt2) X.env = pure (some [x, y]))
    (hi : X.N[i]? = some x := by rfl) (hj : X.N[l]? = some y := by rfl) (hx : X.env.scope.names.lookup x = some .local := by rfl) (hy : X.env.scope.names.lookup y = some .local := by rfl)
    (hs : swapsWithSole [.Tuple [.Name x px, .Name y py] kt pt] (.Tuple [a, b] k2 pt2) pos.line X.env = pure false := by rfl) :
    MS0 X W (.Assign [.Tuple [.Name x px, .Name y py] kt pt] (.Tuple [a, b] k2 pt2) pos) (sSets [i, l] ks fs) := ps_imp (ps_par T.calm T.nd hi hj hij hx hy ha hw hs) fun D σ H q => by
  obtain ⟨ρ, F, B, env, ad, r, m, w⟩ := q
  refine ⟨ρ, F, B, env, ad, r, m, wpM_mono (wpM_bnd w) (fun xs r1 w1 vs H1 as e1 o1 nd hf hv => ?_) fun _ _ z => z⟩
  obtain ⟨env', he, w2⟩ := ofO_some (wpM_bnd w1)
  obtain ⟨ad', m'⟩ := sets_fin (mg := X.mg) m e1 o1 nd hf hv he
  have hl := hv.lenV.trans (setsE_len he).1.symm
  have : ∃ v w, vs = [v, w] := by
    match vs, hl with
    | [v, w], _ => exact ⟨v, w, rfl⟩
  obtain ⟨v, w', rfl⟩ := this
  exact ⟨v, w', rfl, w2 _ H1 ad' m'⟩
/-- a, b = x, y in general: a tuple is made and taken apart -/
theorem ms_asgT {tgs : List Expr} {t : List PV → Env → Option Env} {sl : List Nat} {n kk k2 : Nat} {tp tp2 : Pos} (T : Ct X W j) (ha : MLk X W .cl es fs) (hg : MG X (.Tuple tgs kk tp) sl (gTupl n t)) (hs : swapsWithSole [.Tuple tgs kk tp] (.Tuple es k2 tp2) pos.line X.env = pure false := by rfl) (hw : swappedStores [.Tuple tgs kk tp] (.Tuple es k2 tp2) X.env = pure none)
    (h1 : (assignEach [.Tuple tgs kk tp] X.env).map (·.2) = [assign (.Tuple tgs kk tp) X.env] := by rfl) :
    MS0 X W (.Assign [.Tuple tgs kk tp] (.Tuple es k2 tp2) pos) (fun env => bnd (eTup fs env) fun x => bnd (ofO (gTupl n t x env)) fun env' => ret (.nx env')) := ps_imp (ps_asg (me_tup ha) hg hs hw h1) fun D σ H q => by
  obtain ⟨ρ, F, B, env, ad, r, m, w⟩ := q
  refine ⟨ρ, F, B, env, ad, r, m, wpM_mono (wpM_bnd w) (fun x r1 w1 v H1 e1 o1 h1 => ?_) fun _ _ z => z⟩
  obtain ⟨env', he, w2⟩ := ofO_some (wpM_bnd w1)
  exact ⟨ρ, F, B, env, ad, r1, x, env', m.step e1 o1, h1, he, fun σ' m' _ _ => w2 σ' H1 ad m'⟩
end
end Mir

namespace Mir
open PySem PySem.Spec PyProof.Rows L2
/-- the list that the frame owns in slot i -/
def owL (env : Env) (i : Nat) : M (List PV) := match env[i]? with
  | some (.ow (.lst xs)) => ret xs
  | _ => fail
section
variable {ρ : Rw} {F : Addr → Prop} {B H H' H1 : Hp} {r r' : RS} {σ : L2.St} {env : Env} {ad : Nat → Addr} {y : PV} {v : V}
theorem Fm.upO (m : Fm ρ F B H r σ env ad) {i : Nat} {x x' : PV} {o' : HO} (h : env[i]? = some (.ow x)) (new : OwR ρ (upd H (ad i) o') (Hx H (Ex F env ad)) x' (ad i)) : Fm ρ F B (upd H (ad i) o') r σ (env.set i (.ow x')) ad := by
  obtain ⟨h1, ⟨h2, h2'⟩, h3, h4⟩ := m.ow i x h
  have hi : i < env.length := by
    rcases Nat.lt_or_ge i env.length with z | z
    · exact z
    · rw [List.getElem?_eq_none z] at h; cases h
  have k : ∀ {j : Nat} {y : PV}, (env.set i (.ow x'))[j]? = some (.ow y) → ∃ y', env[j]? = some (.ow y') := fun {j y} e => by
    by_cases z : i = j
    · subst z; exact ⟨x, h⟩
    · rw [List.getElem?_set_ne z] at e; exact ⟨y, e⟩
  have xe : Ex F (env.set i (.ow x')) ad = Ex F env ad := by
    funext b
    refine propext ⟨fun z => ?_, fun z => ?_⟩
    · rcases z with z | ⟨j, y, e, rfl⟩
      · exact .inl z
      · obtain ⟨y', e'⟩ := k e
        exact .inr ⟨j, y', e', rfl⟩
    · rcases z with z | ⟨j, y, e, rfl⟩
      · exact .inl z
      · by_cases q : i = j
        · subst q
          exact .inr ⟨i, x', List.getElem?_set_self hi, rfl⟩
        · exact .inr ⟨j, y, by rw [List.getElem?_set_ne q]; exact e, rfl⟩
  have hx : ∀ b o, Hx H (Ex F env ad) b = some o → Hx (upd H (ad i) o') (Ex F env ad) b = some o := fun b o q => by
    obtain ⟨n, q⟩ := Hx_some q
    rw [Hx_out n, upd_ne fun z => n (.inr ⟨i, x, h, z.symm⟩)]; exact q
  refine ⟨?_, m.hρ, fun b z => ?_, fun b o q n => ?_, m.lsB, by rw [List.length_set]; exact m.len, fun j y e => ?_, fun j y e => ?_, fun j l y y' e e' q => ?_⟩
  · obtain ⟨a, b, c, d⟩ := m.row
    refine ⟨a, b, by rw [upd_ne (Ne.symm h3)]; exact c, ?_⟩
    rw [upd_ne fun z => m.lsB (by rw [z]; exact h2)]; exact d
  · by_cases y : b = ad i
    · rw [y]; exact new.nt
    · rw [upd_ne y]; exact m.dom b z
  · rw [upd_ne fun z => by rw [z, h2] at q; cases q]; exact m.ext b o q n
  · rw [xe]
    by_cases z : i = j
    · subst z
      rw [List.getElem?_set_self hi] at e
      cases e
    · rw [List.getElem?_set_ne z] at e
      obtain ⟨u, a, b⟩ := m.sh j y e
      exact ⟨u, a, b.mono hx⟩
  · rw [xe]
    by_cases z : i = j
    · subst z
      rw [List.getElem?_set_self hi] at e
      cases e
      exact ⟨h1, ⟨h2, h2'⟩, h3, new.mono (fun _ q => q) hx⟩
    · rw [List.getElem?_set_ne z] at e
      obtain ⟨a, b, c, d⟩ := m.ow j y e
      exact ⟨a, b, c, d.mono (fun o q => by rw [upd_ne fun w => z (m.inj i j x y h e w.symm)]; exact q) hx⟩
  · obtain ⟨y1, e1⟩ := k e
    obtain ⟨y2, e2⟩ := k e'
    exact m.inj j l y1 y2 e1 e2 q
theorem owL_ok {env : Env} {i : Nat} {r : RS} {K : List PV → RS → Prop} {E : Exn → RS → Prop} (w : wpM (owL env i r) K E) : ∃ xs, env[i]? = some (.ow (.lst xs)) ∧ K xs r := by
  unfold owL at w
  cases h : env[i]? with
  | none => rw [h] at w; exact w.elim
  | some sl =>
    rw [h] at w
    cases sl with
    | no => exact w.elim
    | sh v => exact w.elim
    | ow v =>
      cases v with
      | lst xs => exact ⟨xs, rfl, w⟩
      | _ => exact w.elim
theorem Fm.lt (m : Fm ρ F B H r σ env ad) {i : Nat} {s : Slot} (h : env[i]? = some s) : i < env.length := by
  rcases Nat.lt_or_ge i env.length with z | z
  · exact z
  · rw [List.getElem?_eq_none z] at h; cases h
end
def sApp (i : Nat) (fa : EF) : Env → M Fl := fun env => bnd (owL env i) fun xs => bnd (fa env) fun v => if xs.length < 16777216 then ret (Fl.nx (env.set i (.ow (.lst (xs ++ [v]))))) else fail
def sExt (i : Nat) (fa : EF) : Env → M Fl := fun env => bnd (owL env i) fun xs => bnd (fa env) fun v => bnd (unL v) fun ys => if xs.length + ys.length ≤ 16777216 then ret (Fl.nx (env.set i (.ow (.lst (xs ++ ys))))) else fail
def sPop (i j : Nat) : Env → M Fl := fun env => bnd (owL env i) fun xs => bnd (ofO xs[xs.length - 1]?) fun v => if j < env.length then ret (Fl.nx ((env.set i (.ow (.lst xs.dropLast))).set j (.sh v))) else fail
def sRev (i : Nat) : Env → M Fl := fun env => bnd (owL env i) fun xs => ret (Fl.nx (env.set i (.ow (.lst xs.reverse))))
def toI : PV → M Int
  | .int n => ret n
  | _ => fail
theorem toI_ok {x : PV} {r : RS} {K : Int → RS → Prop} {E : Exn → RS → Prop} (h : wpM (toI x r) K E) : ∃ n, x = .int n ∧ K n r := by
  cases x with
  | int n => exact ⟨n, rfl, h⟩
  | _ => exact h.elim
def sSetIx (i : Nat) (fi fv : EF) : Env → M Fl := fun env => bnd (fv env) fun v => bnd (owL env i) fun xs => bnd (fi env) fun k => bnd (toI k) fun n => bnd (ofO (ixN xs.length n)) fun j => ret (Fl.nx (env.set i (.ow (.lst (xs.set j v)))))
section
variable {X : Cx} {W : WX} {k ka kb kc : Kd} {pos pos' p p1 p2 apos cpos : Pos} {e a b c : Expr} {es : List Expr} {j j' n i : Nat} {x y : Str} {st : Stmt} {fa fb fc fi fv : EF}
theorem RepL.dropLast {ρ : Rw} {G : Hp} {xs : List PV} {vs : List V} (h : RepL ρ G xs vs) : RepL ρ G xs.dropLast vs.dropLast := by
  rw [List.dropLast_eq_take, List.dropLast_eq_take, h.length]
  exact h.take _
theorem RepL.set {ρ : Rw} {G : Hp} {x : PV} {v : V} (a : Rep ρ G x v) : ∀ {xs : List PV} {vs : List V} (i : Nat), RepL ρ G xs vs → RepL ρ G (xs.set i x) (vs.set i v)
  | [], vs, i, h => by unfold RepL at h; subst h; exact .nil
  | y :: xs, vs, 0, h => by
    unfold RepL at h
    obtain ⟨u, w, rfl, _, l⟩ := h
    exact .cons a l
  | y :: xs, vs, i + 1, h => by
    unfold RepL at h
    obtain ⟨u, w, rfl, q, l⟩ := h
    exact .cons q (RepL.set a i l)
theorem ms_ext (he : MEk X W k e fa) (hk : isBo k = false) (i : Nat) (hv : PE X (.Name x p1) (tVar i)) (hs : swapsWith (.Call (.Attribute (.Name x p1) "extend" apos) [e] [] cpos) none pos.line X.env = pure false := by rfl)
    (hbase : attributeBase (.Name x p1) "extend" X.env (eval (.Name x p1) X.env) = eval (.Name x p1) X.env := by rfl)
    (hfew : ((backTo cpos (starEach [e] X.env)).all (fun x => !x.1) && (backToKw cpos (keywordEach [] X.env)).all (fun x => x.1.isSome) && decide ([e].length + ([] : List Keyword).length + (if ([] : List Keyword).isEmpty then 0 else 1) < 30)) = true := by rfl)
    (hline : (apos.endLine == cpos.line) = true := by rfl) (hse : starEach [e] X.env = (false, eval e X.env) :: starEach [] X.env := by rfl) :
    MS X W (.Expr (.Call (.Attribute (.Name x p1) "extend" apos) [e] [] cpos) pos) (sExt i fa) := ps_imp (ps_expr (pe_bm PySem.F.plainAttrs_list PySem.F.slot_list_extend PySem.F.type_list_extend mt_extend hv (pa_cons he pa_nil hse) hbase hfew hline hse rfl) hs) fun D σ H q => by
  obtain ⟨ρ, F, B, env, ad, r, m, w⟩ := q
  obtain ⟨xs, h, w⟩ := owL_ok (wpM_bnd w)
  obtain ⟨h1, h2, h3, vs, h4, h5⟩ := m.ow i _ h
  refine ⟨_, h1, .inl ⟨rfl, vs, .inl (.inl h4)⟩, ρ, F, B, env, ad, r, m, wpM_mono (wpM_bnd w) (fun v r1 w1 u H1 e1 o1 hu => ?_) fun e r' z C d H' e1 o1 => z C d σ H' ⟨env, ad, m.step e1 o1⟩⟩
  obtain ⟨ys, rfl, w2⟩ := unL_ok (wpM_bnd w1)
  obtain ⟨hz, w3⟩ := wpM_ite w2
  have m1 := m.step e1 o1
  have h4' := e1 _ _ h4 h3
  obtain ⟨b, zs, rfl, g, l, n, ns⟩ := have_lst (H0 := H) (S := Ex F env ad) (fun b => m.there) m.exρ hu
  refine ⟨ad i, b, vs, zs, rfl, rfl, h4', g, by rw [h5.length, l.length, sizeLine_eq]; exact hz, ?_⟩
  exact w3 σ _ ad (m1.upO h ⟨vs ++ zs, upd_same, (h5.mono (hx_ext m.exρ e1)).append l⟩)
theorem ms_pop (T : Ct X W n) (i : Nat) (hv : PE X (.Name x p1) (tVar i)) (j : Nat) (hj : X.N[j]? = some y := by rfl) (hy : Loc X.env.scope y := by first | exact Or.inl rfl | exact Or.inr rfl)
    (hs : swapsWith (.Call (.Attribute (.Name x p1) "pop" apos) [] [] cpos) (some (.Name y p2)) pos.line X.env = pure false := by rfl)
    (hf : X.fn y = true ∨ X.env.scope.names.lookup y = some .local := by first | exact .inl rfl | exact .inr rfl)
    (hbase : attributeBase (.Name x p1) "pop" X.env (eval (.Name x p1) X.env) = eval (.Name x p1) X.env := by rfl)
    (hline : (apos.endLine == cpos.line) = true := by rfl) :
    MS X W (.Assign [.Name y p2] (.Call (.Attribute (.Name x p1) "pop" apos) [] [] cpos) pos) (sPop i j) := ps_imp (ps_set T.nd hj hy (pe_bm0 PySem.F.plainAttrs_list PySem.F.slot_list_pop PySem.F.type_list_pop mt_pop hv hbase hline) hs hf) fun D σ H q => by
  obtain ⟨ρ, F, B, env, ad, r, m, w⟩ := q
  obtain ⟨xs, h, w⟩ := owL_ok (wpM_bnd w)
  obtain ⟨h1, h2, h3, vs, h4, h5⟩ := m.ow i _ h
  obtain ⟨z, hz, w1⟩ := ofO_some (wpM_bnd w)
  obtain ⟨hl, w2⟩ := wpM_ite w1
  obtain ⟨u, hu, hr⟩ := h5.get hz
  refine ⟨_, h1, .inl ⟨rfl, vs, .inl (.inl h4)⟩, ad i, vs, u, rfl, rfl, h4, by rw [h5.length]; exact hu, ?_⟩
  have m1 := m.upO (x' := .lst xs.dropLast) (o' := .lst vs.dropLast) h ⟨vs.dropLast, upd_same, h5.dropLast⟩
  refine w2 _ _ ad (m1.set (by rw [List.length_set]; exact hl) ?_)
  have : Ex F (env.set i (.ow (.lst xs.dropLast))) ad = Ex F env ad := by
    funext b
    refine propext ⟨fun z => ?_, fun z => ?_⟩
    · rcases z with z | ⟨l, y, e, rfl⟩
      · exact .inl z
      · by_cases q : i = l
        · subst q; exact .inr ⟨i, _, h, rfl⟩
        · rw [List.getElem?_set_ne q] at e; exact .inr ⟨l, y, e, rfl⟩
    · rcases z with z | ⟨l, y, e, rfl⟩
      · exact .inl z
      · by_cases q : i = l
        · subst q; exact .inr ⟨i, _, List.getElem?_set_self (m.lt h), rfl⟩
        · exact .inr ⟨l, y, by rw [List.getElem?_set_ne q]; exact e, rfl⟩
  rw [this]
  refine hr.mono fun b o q => ?_
  obtain ⟨n, q⟩ := Hx_some q
  rw [Hx_out n, upd_ne fun z => n (.inr ⟨i, _, h, z.symm⟩)]; exact q
end
end Mir

namespace Mir
open PySem PySem.Spec PyProof.Rows L2
/-! ### operations -/
section
variable {X : Cx} {f : Value → Value → Sem Value} {g g' : PV → PV → Option PV} {r : R2}
theorem Op2.of (h : OpR X f r) (i : ∀ (x y : V) (H : Hp) (Q : VK) (ρ : Rw) (S : Addr → Prop) (pa pb pc : PV), S ρ.a → (∀ b, S b → H b ≠ none) → HaveB ρ H S pa x → HaveB ρ H S pb y → g pa pb = some pc → (∀ z H', Same H H' → Rep ρ (Hx H' S) pc z → Q z H') → r x y H Q) : Op2 X f g :=
  fun pins s σ H x y v u Q ρ S pa pb pc I rx ry h1 h2 h3 h4 h5 h6 => h pins s σ H x y v u Q I rx ry (i x y H Q ρ S pa pb pc h1 h2 h3 h4 h5 h6)
def gOr (g g' : PV → PV → Option PV) : PV → PV → Option PV := fun x y => match g x y with
  | some z => some z
  | none => g' x y
theorem Op2.or (h : Op2 X f g) (h' : Op2 X f g') : Op2 X f (gOr g g') := fun pins s σ H x y v u Q ρ S pa pb pc I rx ry h1 h2 h3 h4 h5 h6 => by
  unfold gOr at h5
  cases q : g pa pb with
  | some z => rw [q] at h5; exact h pins s σ H x y v u Q ρ S pa pb pc I rx ry h1 h2 h3 h4 (q.trans h5) h6
  | none => rw [q] at h5; exact h' pins s σ H x y v u Q ρ S pa pb pc I rx ry h1 h2 h3 h4 h5 h6
theorem hb_int {ρ : Rw} {H : Hp} {S : Addr → Prop} {i : Int} {v : V} (h : HaveB ρ H S (.int i) v) : v = .int i := have_int (k := .bo) (H0 := H) h
theorem hb_bl {ρ : Rw} {H : Hp} {S : Addr → Prop} {i : Bool} {v : V} (h : HaveB ρ H S (.bl i) v) : v = .bl i := have_bl (k := .bo) (H0 := H) h
theorem hb_str {ρ : Rw} {H : Hp} {S : Addr → Prop} {i : Str} {v : V} (h : HaveB ρ H S (.str i) v) : v = .str i ∧ PyData.strOk i = true := by
  rcases h with z | ⟨a, n, e, z⟩
  · unfold Rep at z; exact z
  · exact z.elim
theorem hb_lst {ρ : Rw} {H : Hp} {S : Addr → Prop} {xs : List PV} {v : V} (hρ : S ρ.a) (hS : ∀ b, S b → H b ≠ none) (h : HaveB ρ H S (.lst xs) v) : ∃ a vs, v = .ref a ∧ H a = some (.lst vs) ∧ RepL ρ (Hx H S) xs vs := by
  obtain ⟨a, vs, e, q, l, _, _⟩ := have_lst (k := .bo) hS hρ (H0 := H) h
  exact ⟨a, vs, e, q, l⟩
theorem hb_tup {ρ : Rw} {H : Hp} {S : Addr → Prop} {xs : List PV} {v : V} (hρ : S ρ.a) (h : HaveB ρ H S (.tup xs) v) : ∃ a vs, v = .ref a ∧ H a = some (.tup vs) ∧ RepL ρ (Hx H S) xs vs ∧ ¬ S a := by
  obtain ⟨a, vs, e, q, l, _, n⟩ := have_tup (k := .bo) hρ (H0 := H) h
  exact ⟨a, vs, e, q, l, n⟩
/-- a new list, a new tuple -/
theorem new_lst {ρ : Rw} {H : Hp} {S : Addr → Prop} {xs : List PV} {vs : List V} {p : Addr} (hS : ∀ b, S b → H b ≠ none) (l : RepL ρ (Hx H S) xs vs) (np : H p = none) : Rep ρ (Hx (upd H p (.lst vs)) S) (.lst xs) (.ref p) := by
  unfold Rep
  exact ⟨p, vs, rfl, hx_at hS np, l.mono (hx_new np)⟩
theorem new_tup {ρ : Rw} {H : Hp} {S : Addr → Prop} {xs : List PV} {vs : List V} {p : Addr} (hS : ∀ b, S b → H b ≠ none) (l : RepL ρ (Hx H S) xs vs) (np : H p = none) : Rep ρ (Hx (upd H p (.tup vs)) S) (.tup xs) (.ref p) := by
  unfold Rep
  exact ⟨p, vs, rfl, hx_at hS np, l.mono (hx_new np)⟩
theorem old_tup {ρ : Rw} {H : Hp} {S : Addr → Prop} {xs : List PV} {vs : List V} {a : Addr} (n : ¬ S a) (h : H a = some (.tup vs)) (l : RepL ρ (Hx H S) xs vs) : Rep ρ (Hx H S) (.tup xs) (.ref a) := by
  unfold Rep
  exact ⟨a, vs, rfl, by rw [Hx_out n]; exact h, l⟩
end
def gInt (h : Int → Int → Option PV) : PV → PV → Option PV
  | .int a, .int b => h a b
  | _, _ => none
theorem gInt_some {h : Int → Int → Option PV} {x y z : PV} (e : gInt h x y = some z) : ∃ a b, x = .int a ∧ y = .int b ∧ h a b = some z := by
  unfold gInt at e
  split at e
  · exact ⟨_, _, rfl, rfl, e⟩
  · cases e
def small (i : Int) : Bool := decide (i.natAbs < 2 ^ 4000)
def hAdd (a b : Int) : Option PV := some (.int (a + b))
def hSub (a b : Int) : Option PV := some (.int (a - b))
def hMul (a b : Int) : Option PV := if ((small a && small b) || decide (a.natAbs.log2 + b.natAbs.log2 < 100000000)) = true then some (.int (a * b)) else none
def hDiv (a b : Int) : Option PV := if (decide (0 < b) && small b) = true then some (.int (a / b)) else none
def hMod (a b : Int) : Option PV := if 0 < b then some (.int (a % b)) else none
def hLt (a b : Int) : Option PV := some (.bl (decide (a < b)))
def hLe (a b : Int) : Option PV := some (.bl (decide (a ≤ b)))
def hGt (a b : Int) : Option PV := some (.bl (decide (b < a)))
def hGe (a b : Int) : Option PV := some (.bl (decide (b ≤ a)))
theorem log2_lt {n k : Nat} (h : n < 2 ^ k) (hk : 0 < k) : n.log2 < k := by
  by_cases z : n = 0
  · rw [z]
    simpa using hk
  · exact (Nat.log2_lt z).mpr h
section
variable {X : Cx}
theorem op_int {f : Value → Value → Sem Value} {C : Int → Int → Prop} {v : Int → Int → V} {pv : Int → Int → PV} {h : Int → Int → Option PV} (o : OpR X f (rI C v)) (hf : ∀ a b, Flat (pv a b) (v a b)) (hh : ∀ a b z, h a b = some z → z = pv a b ∧ C a b) : Op2 X f (gInt h) :=
  .of o fun x y H Q ρ S pa pb pc hρ hS ha hb hg k => by
    obtain ⟨a, b, rfl, rfl, e⟩ := gInt_some hg
    obtain ⟨rfl, c⟩ := hh a b pc e
    exact ⟨a, b, hb_int ha, hb_int hb, c, k _ _ (Same.refl _) (hf a b _ _)⟩
theorem op_int0 {f : Value → Value → Sem Value} {v : Int → Int → V} {pv : Int → Int → PV} (o : OpR X f (rI0 v)) (hf : ∀ a b, Flat (pv a b) (v a b)) : Op2 X f (gInt fun a b => some (pv a b)) :=
  .of o fun x y H Q ρ S pa pb pc hρ hS ha hb hg k => by
    obtain ⟨a, b, rfl, rfl, e⟩ := gInt_some hg
    cases e
    exact ⟨a, b, hb_int ha, hb_int hb, k _ _ (Same.refl _) (hf a b _ _)⟩
theorem oAddI : Op2 X (binaryOp .Add) (gInt hAdd) := op_int0 op_add fun _ _ => Flat.int _
theorem oSub : Op2 X (binaryOp .Sub) (gInt hSub) := op_int0 op_sub fun _ _ => Flat.int _
theorem oLt : Op2 X (compareOp .Lt) (gInt hLt) := op_int0 op_lt fun _ _ => Flat.bl _
theorem oLe : Op2 X (compareOp .LtE) (gInt hLe) := op_int0 op_le fun _ _ => Flat.bl _
theorem oGt : Op2 X (compareOp .Gt) (gInt hGt) := op_int0 op_gt fun _ _ => Flat.bl _
theorem oGe : Op2 X (compareOp .GtE) (gInt hGe) := op_int0 op_ge fun _ _ => Flat.bl _
theorem small_log {a : Int} (h : small a = true) : a.natAbs.log2 < 4000 := log2_lt (of_decide_eq_true h) (by decide)
/-- * of two factors of together less than a hundred million bits -/
def CMulX (i j : Int) : Prop := i.natAbs.log2 + j.natAbs.log2 < 100000000
theorem CMulX.ok {i j : Int} (h : CMulX i j) : IntMulOk i j := by
  have b : ∀ x : Int, Builtin.Int.intBits x ≤ x.natAbs.log2 + 1 := fun x => by
    unfold Builtin.Int.intBits
    split <;> omega
  have h1 := b i
  have h2 := b j
  have h3 : i.natAbs.log2 + j.natAbs.log2 < 100000000 := h
  have e : bitsLine = 134217728 := by decide
  unfold IntMulOk
  intro z
  rw [Bool.and_eq_true] at z
  have z2 := z.2
  unfold Builtin.Int.intTooBig at z2
  have z3 := of_decide_eq_true z2
  rw [e] at z3
  omega
theorem op_mulX : OpR X (binaryOp .Mult) (rI CMulX fun i j => .int (i * j)) := opI fun _ _ _ _ _ _ _ hc q => mul_int q hc.ok
theorem oMulI : Op2 X (binaryOp .Mult) (gInt hMul) := op_int (pv := fun a b => .int (a * b)) op_mulX (fun _ _ => Flat.int _) fun a b z e => by
  unfold hMul at e
  split at e
  · rename_i c
    rw [Bool.or_eq_true, Bool.and_eq_true] at c
    cases e
    refine ⟨rfl, ?_⟩
    rcases c with c | c
    · have h1 := small_log c.1
      have h2 := small_log c.2
      show _ + _ < 100000000
      omega
    · show a.natAbs.log2 + b.natAbs.log2 < 100000000
      exact of_decide_eq_true c
  · cases e
theorem oDiv : Op2 X (binaryOp .FloorDiv) (gInt hDiv) := op_int (pv := fun a b => .int (a / b)) op_fdivW (fun _ _ => Flat.int _) fun a b z e => by
  unfold hDiv at e
  split at e
  · rename_i c
    rw [Bool.and_eq_true] at c
    have h2 := small_log c.2
    cases e
    refine ⟨rfl, of_decide_eq_true c.1, ?_⟩
    omega
  · cases e
theorem oMod : Op2 X (binaryOp .Mod) (gInt hMod) := op_int (pv := fun a b => .int (a % b)) op_mod (fun _ _ => Flat.int _) fun a b z e => by
  unfold hMod at e
  split at e
  · rename_i c
    cases e
    exact ⟨rfl, c⟩
  · cases e
/-! + of lists, tuples, texts -/
def gCatL : PV → PV → Option PV
  | .lst xs, .lst ys => if xs.length + ys.length ≤ 16777216 then some (.lst (xs ++ ys)) else none
  | _, _ => none
def gCatT : PV → PV → Option PV
  | .tup xs, .tup ys => if xs.length + ys.length ≤ 16777216 then some (.tup (xs ++ ys)) else none
  | _, _ => none
def gCatS : PV → PV → Option PV
  | .str x, .str y => if x.length + y.length ≤ 16777216 ∧ PyData.strOk (x ++ y) = true then some (.str (x ++ y)) else none
  | _, _ => none
theorem oCatL : Op2 X (binaryOp .Add) gCatL := .of op_cat fun x y H Q ρ S pa pb pc hρ hS ha hb hg k => by
  unfold gCatL at hg
  split at hg
  · rename_i xs ys
    split at hg
    · rename_i c
      cases hg
      obtain ⟨a, vs, rfl, h1, l1⟩ := hb_lst hρ hS ha
      obtain ⟨b, ws, rfl, h2, l2⟩ := hb_lst hρ hS hb
      exact ⟨a, b, vs, ws, rfl, rfl, h1, h2, by rw [l1.length, l2.length, sizeLine_eq]; exact c, fun p np => k _ _ (same_upd np) (new_lst hS (l1.append l2) np)⟩
    · cases hg
  · cases hg
theorem oCatT : Op2 X (binaryOp .Add) gCatT := .of op_catA fun x y H Q ρ S pa pb pc hρ hS ha hb hg k => by
  unfold gCatT at hg
  split at hg
  · rename_i xs ys
    split at hg
    · rename_i c
      cases hg
      obtain ⟨a, vs, rfl, h1, l1, n1⟩ := hb_tup hρ ha
      obtain ⟨b, ws, rfl, h2, l2, n2⟩ := hb_tup hρ hb
      refine ⟨a, b, vs, ws, rfl, rfl, .inl (.inl h1), .inl (.inl h2), by rw [l1.length, l2.length, sizeLine_eq]; exact c, fun e => ?_, fun _ e => ?_, fun _ _ p np => k _ _ (same_upd np) (new_tup hS (l1.append l2) np)⟩
      · subst e
        have := (l1.append l2)
        rw [List.nil_append] at this
        exact k _ _ (Same.refl _) (old_tup n2 h2 this)
      · subst e
        have := (l1.append l2)
        rw [List.append_nil] at this
        exact k _ _ (Same.refl _) (old_tup n1 h1 this)
    · cases hg
  · cases hg
theorem oCatS : Op2 X (binaryOp .Add) gCatS := .of op_add_str fun x y H Q ρ S pa pb pc hρ hS ha hb hg k => by
  unfold gCatS at hg
  split at hg
  · rename_i xs ys
    split at hg
    · rename_i c
      cases hg
      exact ⟨xs, ys, (hb_str ha).1, (hb_str hb).1, by rw [sizeLine_eq]; exact c.1, k _ _ (Same.refl _) (Flat.str c.2 _ _)⟩
    · cases hg
  · cases hg
def gAdd : PV → PV → Option PV := gOr (gInt hAdd) (gOr gCatT (gOr gCatL gCatS))
theorem oAdd : Op2 X (binaryOp .Add) gAdd := oAddI.or (oCatT.or (oCatL.or oCatS))
/-! * of a list or tuple and an int -/
def gRepL : PV → PV → Option PV
  | .lst xs, .int k => if 0 ≤ k ∧ k ≤ 1000 ∧ xs.length ≤ 1000 then some (.lst (List.replicate k.toNat xs).flatten) else none
  | _, _ => none
def gRepT : PV → PV → Option PV
  | .tup xs, .int k => if xs ≠ [] ∧ 2 ≤ k ∧ k ≤ 1000 ∧ xs.length ≤ 1000 then some (.tup (List.replicate k.toNat xs).flatten) else none
  | _, _ => none
theorem RepL.rep {ρ : Rw} {G : Hp} {xs : List PV} {vs : List V} (h : RepL ρ G xs vs) : ∀ n : Nat, RepL ρ G (List.replicate n xs).flatten (List.replicate n vs).flatten
  | 0 => .nil
  | n + 1 => by
    rw [List.replicate_succ, List.replicate_succ, List.flatten_cons, List.flatten_cons]
    exact h.append (h.rep n)
theorem oRepL : Op2 X (binaryOp .Mult) gRepL := .of op_rep fun x y H Q ρ S pa pb pc hρ hS ha hb hg k => by
  unfold gRepL at hg
  split at hg
  · rename_i xs n
    split at hg
    · rename_i c
      cases hg
      obtain ⟨a, vs, rfl, h1, l1⟩ := hb_lst hρ hS ha
      refine ⟨a, n, vs, rfl, hb_int hb, h1, by omega, by omega, ?_, fun p np => k _ _ (same_upd np) (new_lst hS (l1.rep _) np)⟩
      rw [l1.length, sizeLine_eq]
      have : xs.length * n.toNat ≤ 1000 * 1000 := Nat.mul_le_mul (by omega) (by omega)
      omega
    · cases hg
  · cases hg
theorem oRepT : Op2 X (binaryOp .Mult) gRepT := .of op_repT fun x y H Q ρ S pa pb pc hρ hS ha hb hg k => by
  unfold gRepT at hg
  split at hg
  · rename_i xs n
    split at hg
    · rename_i c
      cases hg
      obtain ⟨a, vs, rfl, h1, l1, n1⟩ := hb_tup hρ ha
      refine ⟨a, n, vs, rfl, hb_int hb, .inl (.inl h1), fun e => ?_, c.2.1, c.2.2.1, by rw [l1.length]; exact c.2.2.2, fun p np => k _ _ (same_upd np) (new_tup hS (l1.rep _) np)⟩
      subst e
      have := l1.length
      exact c.1 (List.eq_nil_of_length_eq_zero this.symm)
    · cases hg
  · cases hg
def gMul : PV → PV → Option PV := gOr (gInt hMul) (gOr gRepL gRepT)
theorem oMul : Op2 X (binaryOp .Mult) gMul := oMulI.or (oRepL.or oRepT)
end

/-! ### == of data -/
/-- data, of depth at most n -/
def dt : Nat → PV → Bool
  | _, .non => true
  | _, .bl _ => true
  | _, .int _ => true
  | _, .str _ => true
  | n + 1, .tup xs => xs.all (dt n)
  | n + 1, .lst xs => xs.all (dt n)
  | _, _ => false
def pqL (q : PV → PV → Bool) : List PV → List PV → Bool
  | [], [] => true
  | x :: xs, y :: ys => q x y && pqL q xs ys
  | _, _ => false
def pq : Nat → PV → PV → Bool
  | _, .non, .non => true
  | _, .bl a, .bl b => a == b
  | _, .bl a, .int j => (if a then 1 else 0) == j
  | _, .int i, .bl b => i == (if b then 1 else 0)
  | _, .int i, .int j => i == j
  | _, .str x, .str y => x == y
  | n + 1, .lst xs, .lst ys => pqL (pq n) xs ys
  | n + 1, .tup xs, .tup ys => pqL (pq n) xs ys
  | _, _, _ => false
def tD : Nat → PV → PyData
  | _, .non => .none
  | _, .bl b => .bool b
  | _, .int i => .int i
  | _, .str x => .str x
  | n + 1, .tup xs => .tuple (xs.map (tD n))
  | n + 1, .lst xs => .list (xs.map (tD n))
  | _, _ => .none
theorem canAll {ds : List PyData} (h : ∀ d ∈ ds, PyData.canLay0 d = true) : PyData.canLayAll0 ds = true := by
  induction ds with
  | nil => simp [PyData.canLayAll0]
  | cons d ds ih =>
    rw [PyData.canLayAll0, h d List.mem_cons_self, ih fun e he => h e (List.mem_cons_of_mem _ he)]; rfl
theorem depAll {ds : List PyData} {n : Nat} (h : ∀ d ∈ ds, d.depth ≤ n) : PyData.depthAll ds ≤ n := by
  induction ds with
  | nil => simp [PyData.depthAll]
  | cons d ds ih =>
    rw [PyData.depthAll]
    exact Nat.max_le.mpr ⟨h d List.mem_cons_self, ih fun e he => h e (List.mem_cons_of_mem _ he)⟩
theorem RepL.each {ρ : Rw} {G : Hp} : ∀ {xs : List PV} {vs : List V}, RepL ρ G xs vs → ∀ x ∈ xs, ∃ v, Rep ρ G x v
  | [], vs, _, x, h => by cases h
  | y :: xs, vs, r, x, h => by
    unfold RepL at r
    obtain ⟨v, w, e, a, b⟩ := r
    rcases List.mem_cons.mp h with rfl | h
    · exact ⟨v, a⟩
    · exact b.each x h
theorem td_can {ρ : Rw} {G : Hp} : ∀ (n : Nat) (x : PV) (v : V), Rep ρ G x v → PyData.canLay0 (tD n x) = true ∧ (tD n x).depth ≤ n
  | n, .non, v, r => by cases n <;> exact ⟨by simp [tD, PyData.canLay0], by simp [tD, PyData.depth]⟩
  | n, .bl _, v, r => by cases n <;> exact ⟨by simp [tD, PyData.canLay0], by simp [tD, PyData.depth]⟩
  | n, .int _, v, r => by cases n <;> exact ⟨by simp [tD, PyData.canLay0], by simp [tD, PyData.depth]⟩
  | n, .str x, v, r => by
    unfold Rep at r
    have : tD n (.str x) = .str x := by cases n <;> rfl
    rw [this]
    exact ⟨by simp [PyData.canLay0, r.2], by simp [PyData.depth]⟩
  | 0, .tup _, v, r => ⟨by simp [tD, PyData.canLay0], by simp [tD, PyData.depth]⟩
  | 0, .lst _, v, r => ⟨by simp [tD, PyData.canLay0], by simp [tD, PyData.depth]⟩
  | n + 1, .tup xs, v, r => by
    unfold Rep at r
    obtain ⟨a, vs, e, g, l⟩ := r
    have key : ∀ d ∈ xs.map (tD n), PyData.canLay0 d = true ∧ d.depth ≤ n := fun d hd => by
      obtain ⟨x, hx, rfl⟩ := List.mem_map.mp hd
      obtain ⟨u, hu⟩ := l.each x hx
      exact td_can n x u hu
    refine ⟨?_, ?_⟩
    · rw [tD, PyData.canLay0]; exact canAll fun d hd => (key d hd).1
    · rw [tD, PyData.depth]
      have := depAll fun d hd => (key d hd).2
      omega
  | n + 1, .lst xs, v, r => by
    unfold Rep at r
    obtain ⟨a, vs, e, g, l⟩ := r
    have key : ∀ d ∈ xs.map (tD n), PyData.canLay0 d = true ∧ d.depth ≤ n := fun d hd => by
      obtain ⟨x, hx, rfl⟩ := List.mem_map.mp hd
      obtain ⟨u, hu⟩ := l.each x hx
      exact td_can n x u hu
    refine ⟨?_, ?_⟩
    · rw [tD, PyData.canLay0]; exact canAll fun d hd => (key d hd).1
    · rw [tD, PyData.depth]
      have := depAll fun d hd => (key d hd).2
      omega
  | n, .dic _ _, v, r => by cases n <;> exact ⟨by simp [tD, PyData.canLay0], by simp [tD, PyData.depth]⟩
  | n, .ty _, v, r => by cases n <;> exact ⟨by simp [tD, PyData.canLay0], by simp [tD, PyData.depth]⟩
  | n, .row, v, r => by cases n <;> exact ⟨by simp [tD, PyData.canLay0], by simp [tD, PyData.depth]⟩
  | n, .exc _ _, v, r => by cases n <;> exact ⟨by simp [tD, PyData.canLay0], by simp [tD, PyData.depth]⟩
  | n, .at_ _, v, r => by cases n <;> exact ⟨by simp [tD, PyData.canLay0], by simp [tD, PyData.depth]⟩
  | n, .obj _ _ _, v, r => by cases n <;> exact ⟨by simp [tD, PyData.canLay0], by simp [tD, PyData.depth]⟩
theorem td_shaped {ρ : Rw} {G : Hp} {x : PV} {v : V} (r : Rep ρ G x v) : SeqAt.shaped (tD 8 x) = true := by
  obtain ⟨a, b⟩ := td_can 8 x v r
  unfold SeqAt.shaped
  rw [a, Bool.true_and, decide_eq_true]
  omega
theorem dpAll {K : PySem.W.Frag} {ρ : Rw} {H : Hp} {n : Nat} (ih : ∀ (x : PV) (v : V), dt n x = true → Rep ρ H x v → Dp K H v (tD n x)) : ∀ {xs : List PV} {vs : List V}, xs.all (dt n) = true → RepL ρ H xs vs → DpAll K H vs (xs.map (tD n))
  | [], vs, _, r => by unfold RepL at r; subst r; exact .nil
  | x :: xs, vs, h, r => by
    unfold RepL at r
    obtain ⟨v, w, rfl, a, b⟩ := r
    rw [List.all_cons, Bool.and_eq_true] at h
    exact .cons (ih x v h.1 a) (dpAll ih h.2 b)
theorem dp_of {K : PySem.W.Frag} {ρ : Rw} {H : Hp} : ∀ (n : Nat) (x : PV) (v : V), dt n x = true → Rep ρ H x v → Dp K H v (tD n x)
  | n, .non, v, h, r => by unfold Rep at r; subst r; cases n <;> exact .non
  | n, .bl b, v, h, r => by unfold Rep at r; subst r; cases n <;> exact .bl b
  | n, .int i, v, h, r => by unfold Rep at r; subst r; cases n <;> exact .int i
  | n, .str x, v, h, r => by unfold Rep at r; obtain ⟨rfl, _⟩ := r; cases n <;> exact .str x
  | 0, .tup _, v, h, r => by cases h
  | 0, .lst _, v, h, r => by cases h
  | n + 1, .tup xs, v, h, r => by
    unfold Rep at r
    obtain ⟨a, vs, rfl, g, l⟩ := r
    exact .tup (.inl (.inl g)) (dpAll (dp_of n) h l)
  | n + 1, .lst xs, v, h, r => by
    unfold Rep at r
    obtain ⟨a, vs, rfl, g, l⟩ := r
    exact .lst (.inl (.inl g)) (dpAll (dp_of n) h l)
  | n, .dic _ _, v, h, r => by cases n <;> cases h
  | n, .ty _, v, h, r => by cases n <;> cases h
  | n, .row, v, h, r => by cases n <;> cases h
  | n, .exc _ _, v, h, r => by cases n <;> cases h
  | n, .at_ _, v, h, r => by cases n <;> cases h
  | n, .obj _ _ _, v, h, r => by cases n <;> cases h
theorem pqL_eqv {n : Nat} (ih : ∀ x y : PV, dt n x = true → dt n y = true → pq n x y = PyData.eqv (tD n x) (tD n y)) : ∀ (xs ys : List PV), xs.all (dt n) = true → ys.all (dt n) = true → pqL (pq n) xs ys = PyData.eqvAll (xs.map (tD n)) (ys.map (tD n))
  | [], [], _, _ => by simp [pqL, PyData.eqvAll]
  | [], _ :: _, _, _ => by simp [pqL, PyData.eqvAll]
  | _ :: _, [], _, _ => by simp [pqL, PyData.eqvAll]
  | x :: xs, y :: ys, h, h' => by
    rw [List.all_cons, Bool.and_eq_true] at h h'
    rw [pqL, ih x y h.1 h'.1, pqL_eqv ih xs ys h.2 h'.2, List.map_cons, List.map_cons, PyData.eqvAll]
theorem pq_eqv : ∀ (n : Nat) (x y : PV), dt n x = true → dt n y = true → pq n x y = PyData.eqv (tD n x) (tD n y)
  | 0, x, y, h, h' => by
    cases x <;> first | (cases h; done) | (cases y <;> first | (cases h'; done) | simp [pq, tD, PyData.eqv])
  | n + 1, x, y, h, h' => by
    cases x <;> first | (cases h; done) | (cases y <;> first | (cases h'; done) | (simp only [pq, tD, PyData.eqv]; done) | (simp only [pq, tD, PyData.eqv]; exact pqL_eqv (pq_eqv n) _ _ h h'))
def gEq : PV → PV → Option PV := fun x y => if (dt 8 x && dt 8 y) = true then some (.bl (pq 8 x y)) else none
def gNe : PV → PV → Option PV := fun x y => if (dt 8 x && dt 8 y) = true then some (.bl (!pq 8 x y)) else none
section
variable {X : Cx}
theorem hb_full {ρ : Rw} {H : Hp} {S : Addr → Prop} {x : PV} {v : V} (h : HaveB ρ H S x v) : Rep ρ H x v := Have.full (k := .bo) (H0 := H) h
theorem oEq (hu : X.A.units + 64 < cLine) : Op2 X (compareOp .Eq) gEq := .of (op_eqD hu) fun x y H Q ρ S pa pb pc hρ hS ha hb hg k => by
  unfold gEq at hg
  split at hg
  · rename_i c
    rw [Bool.and_eq_true] at c
    cases hg
    refine ⟨tD 8 pa, tD 8 pb, dp_of 8 _ _ c.1 (hb_full ha), dp_of 8 _ _ c.2 (hb_full hb), td_shaped (hb_full ha), td_shaped (hb_full hb), ?_⟩
    rw [← pq_eqv 8 pa pb c.1 c.2]
    exact k _ _ (Same.refl _) (Flat.bl _ _ _)
  · cases hg
theorem oNe (hu : X.A.units + 64 < cLine) : Op2 X (compareOp .NotEq) gNe := .of (op_neD hu) fun x y H Q ρ S pa pb pc hρ hS ha hb hg k => by
  unfold gNe at hg
  split at hg
  · rename_i c
    rw [Bool.and_eq_true] at c
    cases hg
    refine ⟨tD 8 pa, tD 8 pb, dp_of 8 _ _ c.1 (hb_full ha), dp_of 8 _ _ c.2 (hb_full hb), td_shaped (hb_full ha), td_shaped (hb_full hb), ?_⟩
    rw [← pq_eqv 8 pa pb c.1 c.2]
    exact k _ _ (Same.refl _) (Flat.bl _ _ _)
  · cases hg
/-! in a list of data -/
def gInL : PV → PV → Option PV
  | x, .lst ys => if (dt 7 x && ys.all (dt 7)) = true then some (.bl (ys.any fun y => pq 7 y x)) else none
  | _, _ => none
def gNinL : PV → PV → Option PV
  | x, .lst ys => if (dt 7 x && ys.all (dt 7)) = true then some (.bl (!ys.any fun y => pq 7 y x)) else none
  | _, _ => none
theorem any_pq {n : Nat} {x : PV} (hx : dt n x = true) : ∀ (ys : List PV), ys.all (dt n) = true → (ys.any fun y => pq n y x) = (ys.map (tD n)).any fun z => PyData.eqv z (tD n x)
  | [], _ => rfl
  | y :: ys, h => by
    rw [List.all_cons, Bool.and_eq_true] at h
    rw [List.any_cons, List.map_cons, List.any_cons, pq_eqv n y x h.1 hx, any_pq hx ys h.2]
theorem td_shaped7 {ρ : Rw} {G : Hp} {x : PV} {v : V} (r : Rep ρ G x v) : SeqAt.shaped (tD 7 x) = true := by
  obtain ⟨a, b⟩ := td_can 7 x v r
  unfold SeqAt.shaped
  rw [a, Bool.true_and, decide_eq_true]
  omega
theorem in_list {ρ : Rw} {H : Hp} {S : Addr → Prop} {pa : PV} {ys : List PV} {x y : V} (ha : HaveB ρ H S pa x) (hb : HaveB ρ H S (.lst ys) y) (c : (dt 7 pa && ys.all (dt 7)) = true) :
    Dp X.K H x (tD 7 pa) ∧ Dp X.K H y (.list (ys.map (tD 7))) ∧ SeqAt.shaped (tD 7 pa) = true ∧ SeqAt.shaped (.list (ys.map (tD 7))) = true := by
  rw [Bool.and_eq_true] at c
  exact ⟨dp_of 7 _ _ c.1 (hb_full ha), dp_of 8 (.lst ys) _ c.2 (hb_full hb), td_shaped7 (hb_full ha), td_shaped (x := .lst ys) (hb_full hb)⟩
theorem oInL (hu : X.A.units + 65 < cLine) : Op2 X (compareOp .In) gInL := .of (op_inD hu) fun x y H Q ρ S pa pb pc hρ hS ha hb hg k => by
  unfold gInL at hg
  split at hg
  · rename_i ys
    split at hg
    · rename_i c
      cases hg
      obtain ⟨h1, h2, h3, h4⟩ := in_list (X := X) ha hb c
      rw [Bool.and_eq_true] at c
      refine ⟨_, _, h1, h2, h3, h4, ?_⟩
      rw [← any_pq c.1 ys c.2]
      exact k _ _ (Same.refl _) (Flat.bl _ _ _)
    · cases hg
  · cases hg
theorem oNinL (hu : X.A.units + 65 < cLine) : Op2 X (compareOp .NotIn) gNinL := .of (op_notInD hu) fun x y H Q ρ S pa pb pc hρ hS ha hb hg k => by
  unfold gNinL at hg
  split at hg
  · rename_i ys
    split at hg
    · rename_i c
      cases hg
      obtain ⟨h1, h2, h3, h4⟩ := in_list (X := X) ha hb c
      rw [Bool.and_eq_true] at c
      refine ⟨_, _, h1, h2, h3, h4, ?_⟩
      rw [← any_pq c.1 ys c.2]
      exact k _ _ (Same.refl _) (Flat.bl _ _ _)
    · cases hg
  · cases hg
/-! in a tuple of plain things -/
def flP : PV → Bool
  | .non => true
  | .bl _ => true
  | .int _ => true
  | .str _ => true
  | _ => false
theorem fl_rep {ρ : Rw} {G : Hp} {x : PV} {v : V} (h : flP x = true) (r : Rep ρ G x v) : flatV v = true := by
  cases x <;> first | (cases h; done) | (unfold Rep at r; subst r; rfl) | (unfold Rep at r; obtain ⟨rfl, _⟩ := r; rfl)
def flV : PV → V
  | .bl b => .bl b
  | .int i => .int i
  | .str x => .str x
  | _ => .non
theorem fl_val {ρ : Rw} {G : Hp} {x : PV} {v : V} (hx : flP x = true) (r : Rep ρ G x v) : v = flV x := by
  cases x <;> first | (cases hx; done) | (unfold Rep at r; exact r) | (unfold Rep at r; exact r.1)
theorem fl_eqV {x y : PV} (hx : flP x = true) (hy : flP y = true) : eqV (flV x) (flV y) = pq 7 x y := by
  cases x <;> first | (cases hx; done) | (cases y <;> first | (cases hy; done) | rfl)
theorem fl_eq {ρ : Rw} {G : Hp} {x y : PV} {v u : V} (hx : flP x = true) (hy : flP y = true) (r : Rep ρ G x v) (q : Rep ρ G y u) : eqV v u = pq 7 x y := by
  rw [fl_val hx r, fl_val hy q, fl_eqV hx hy]
theorem fl_all {ρ : Rw} {G : Hp} : ∀ {xs : List PV} {vs : List V}, xs.all flP = true → RepL ρ G xs vs → vs.all flatV = true
  | [], vs, _, r => by unfold RepL at r; subst r; rfl
  | x :: xs, vs, h, r => by
    unfold RepL at r
    obtain ⟨v, w, rfl, a, b⟩ := r
    rw [List.all_cons, Bool.and_eq_true] at h
    rw [List.all_cons, fl_rep h.1 a, fl_all h.2 b]; rfl
theorem fl_in {ρ : Rw} {G : Hp} {x : PV} {v : V} (hx : flP x = true) (q : Rep ρ G x v) : ∀ {xs : List PV} {vs : List V}, xs.all flP = true → RepL ρ G xs vs → inV v vs = xs.any fun y => pq 7 y x
  | [], vs, _, r => by unfold RepL at r; subst r; rfl
  | y :: xs, vs, h, r => by
    unfold RepL at r
    obtain ⟨u, w, rfl, a, b⟩ := r
    rw [List.all_cons, Bool.and_eq_true] at h
    have := fl_in hx q h.2 b
    unfold inV at this ⊢
    rw [List.any_cons, List.any_cons, fl_eq h.1 hx a q, this]
def gInT : PV → PV → Option PV
  | x, .tup ys => if (flP x && ys.all flP) = true then some (.bl (ys.any fun y => pq 7 y x)) else none
  | _, _ => none
def gNinT : PV → PV → Option PV
  | x, .tup ys => if (flP x && ys.all flP) = true then some (.bl (!ys.any fun y => pq 7 y x)) else none
  | _, _ => none
theorem oInT : Op2 X (compareOp .In) gInT := .of op_in_seq fun x y H Q ρ S pa pb pc hρ hS ha hb hg k => by
  unfold gInT at hg
  split at hg
  · rename_i ys
    split at hg
    · rename_i c
      cases hg
      rw [Bool.and_eq_true] at c
      have hf := hb_full hb
      unfold Rep at hf
      obtain ⟨a, vs, rfl, h1, l⟩ := hf
      refine ⟨a, vs, rfl, .inr (.inl (.inl h1)), fl_rep c.1 (hb_full ha), fl_all c.2 l, ?_⟩
      rw [fl_in c.1 (hb_full ha) c.2 l]
      exact k _ _ (Same.refl _) (Flat.bl _ _ _)
    · cases hg
  · cases hg
theorem oNinT : Op2 X (compareOp .NotIn) gNinT := .of op_notIn_seq fun x y H Q ρ S pa pb pc hρ hS ha hb hg k => by
  unfold gNinT at hg
  split at hg
  · rename_i ys
    split at hg
    · rename_i c
      cases hg
      rw [Bool.and_eq_true] at c
      have hf := hb_full hb
      unfold Rep at hf
      obtain ⟨a, vs, rfl, h1, l⟩ := hf
      refine ⟨a, vs, rfl, .inr (.inl (.inl h1)), fl_rep c.1 (hb_full ha), fl_all c.2 l, ?_⟩
      rw [fl_in c.1 (hb_full ha) c.2 l]
      exact k _ _ (Same.refl _) (Flat.bl _ _ _)
    · cases hg
  · cases hg
def gIn : PV → PV → Option PV := gOr gInT gInL
def gNin : PV → PV → Option PV := gOr gNinT gNinL
theorem oIn (hu : X.A.units + 65 < cLine) : Op2 X (compareOp .In) gIn := oInT.or (oInL hu)
theorem oNin (hu : X.A.units + 65 < cLine) : Op2 X (compareOp .NotIn) gNin := oNinT.or (oNinL hu)
/-! is None -/
end
end Mir

namespace RevT
open PySem PySem.Spec PyProof.Rows L2 HT
section
variable {prog : Program} {w : World} {A : Around} {E : Value → Shared → Prop} {s : Shared}
theorem adjust_rev (n : Nat) : Builtin.Slice.sliceAdjust none none (-1) (n : Int) = ((n : Int) - 1, -1) := by
  unfold Builtin.Slice.sliceAdjust
  have h1 : ((-1 : Int) < 0) := by decide
  simp only [h1, if_true]
theorem places_rev (n : Nat) : Builtin.Slice.slicePlaces ((n : Int) - 1) (-1) (-1) = n := by
  unfold Builtin.Slice.slicePlaces
  have h1 : ¬ ((-1 : Int) > 0) := by decide
  simp only [h1, if_false, Int.neg_neg, Int.ediv_one]
  split <;> omega
theorem sliceApplied_rev {sl : Addr} {vs : Value} {n : Nat} {Q : Int × Int × Nat → Shared → Prop} (hs : s.heap.IsSliceOf sl .none .none vs) (ps : IsPart vs (some (-1)))
    (h : Q ((n : Int) - 1, -1, n) s) : wpAny (model prog w) A (Builtin.Slice.sliceApplied (.ref sl) (pure (n : Int))) Q E s := by
  obtain ⟨os, hos, hcs, hds⟩ := id hs
  unfold Builtin.Slice.sliceApplied Builtin.Slice.sliceFields
  refine wpAny_bind (wpAny_bind (wpAny_field hos hds (x := .none) rfl (wpAny_bind (wpAny_field hos hds (x := .none) rfl (wpAny_bind (wpAny_field hos hds (x := vs) rfl (wpAny_pure ?_)))))))
  refine wpAny_bind (slicePart_ ps ?_)
  show wpAny _ _ (if ((-1 : Int) == 0) = true then _ else _) _ _ s
  rw [if_neg (by decide)]
  refine wpAny_bind (slicePart_none (wpAny_bind (slicePart_none (wpAny_bind (wpAny_pure ?_)))))
  show wpAny _ _ (match Builtin.Slice.sliceAdjust none none (-1) (n : Int) with | (lo, hi) => pure (lo, (-1 : Int), Builtin.Slice.slicePlaces lo hi (-1))) _ _ s
  rw [adjust_rev n]
  show wpAny _ _ (pure ((n : Int) - 1, (-1 : Int), Builtin.Slice.slicePlaces ((n : Int) - 1) (-1) (-1))) _ _ s
  rw [places_rev]
  exact wpAny_pure h
theorem pick_rev (xs : Array Value) : ((List.range xs.size).filterMap fun (m : Nat) => xs[((xs.size : Int) - 1 + (m : Int) * (-1)).toNat]?).toArray = xs.toList.reverse.toArray := by
  congr 1
  have key : ∀ k, k ≤ xs.size → ((List.range k).filterMap fun (m : Nat) => xs[((xs.size : Int) - 1 + (m : Int) * (-1)).toNat]?) = xs.toList.reverse.take k := by
    intro k
    induction k with
    | zero => intro _; simp
    | succ k ih =>
      intro hk
      rw [List.range_succ, List.filterMap_append, ih (by omega)]
      have e : ((xs.size : Int) - 1 + (k : Int) * (-1)).toNat = xs.size - 1 - k := by omega
      have hlt : xs.size - 1 - k < xs.size := by omega
      rw [List.filterMap_cons, e, Array.getElem?_eq_getElem hlt]
      show _ ++ [xs[xs.size - 1 - k]] = _
      rw [List.take_succ]
      congr 1
      rw [List.getElem?_reverse (by rw [Array.length_toList]; omega), Array.length_toList, List.getElem?_eq_getElem (by rw [Array.length_toList]; exact hlt)]
      rfl
  rw [key _ (Nat.le_refl _), List.take_of_length_le (by rw [List.length_reverse, Array.length_toList]; exact Nat.le_refl _)]
theorem getItem_tuple_rev {t sl : Addr} {items : Array Value} {vs : Value} {Q : Value → Shared → Prop} (ht : IsTup s.heap t items) (hs : s.heap.IsSliceOf sl .none .none vs) (ps : IsPart vs (some (-1)))
    (h : Q (.ref s.heap.objs.size) { s with heap := s.heap.push { cls := .type "tuple", data := .seq items.toList.reverse.toArray } })
    (hsz : items.size ≤ sizeLine) : wpAny (model prog w) A (getItem (.ref t) (.ref sl)) Q E s := by
  have htake : sizeOk (.seq items.toList.reverse.toArray) := by
    show items.toList.reverse.toArray.size ≤ sizeLine
    rw [List.size_toArray, List.length_reverse, Array.length_toList]
    exact hsz
  obtain ⟨os, hos, hcs, hds⟩ := id hs
  have hTs : s.TypeIs (.ref sl) "slice" := ⟨os, hos, hcs⟩
  unfold getItem
  try with_reducible refine wpAny_holding ?_
  first | refine wpAny_bind (wpAny_pure ?_) | skip
  refine wpAny_bind (wpAny_sequenceKey ht.typeIs (by decide) ?_)
  refine wpAny_bind (wpAny_callSpecial?_slot (name := Str.ofString "__getitem__") ht.typeIs PyProof.Rows.slot_tuple_getitem
    (wpAny_call_entry PyProof.Rows.slot_tuple_getitem ht.typeIs entry_tuple_getitem ?_ (args_tuple_getitem _ _)))
  show wpAny _ _ (Builtin.Tuple.tupleItemsOf (.ref t) >>= _) _ _ s
  refine wpAny_bind (tupleItemsOf_ ht ?_)
  refine wpAny_bind (wpAny_typeOf hTs ?_)
  rw [if_pos (by decide)]
  refine wpAny_bind (sliceApplied_rev hs ps ?_)
  have hno : ¬ ((((items.size : Int) - 1 == 0) && (-1 : Int) == 1 && (items.size == items.size)) = true) := by
    intro q
    rw [Bool.and_eq_true, Bool.and_eq_true] at q
    exact absurd q.1.2 (by decide)
  show wpAny _ _ (if (((items.size : Int) - 1 == 0) && (-1 : Int) == 1 && (items.size == items.size)) = true then _ else _) _ _ s
  rw [if_neg hno, pick_rev]
  first
    | exact wpAny_bind (m := Builtin.Tuple.tupleExact _) (wpAny_newObj_type (wpAny_pure ⟨_, rfl, wpAny_pure h⟩) htake)
    | exact wpAny_bind (m := Builtin.Tuple.tupleExact _) (wpAny_newObj_type (wpAny_bind (wpAny_pure (wpAny_pure ⟨_, rfl, wpAny_pure h⟩))) htake)
    | exact wpAny_bind (wpAny_bind (m := Builtin.Tuple.tupleExact _) (wpAny_newObj_type (wpAny_pure (wpAny_pure ⟨_, rfl, wpAny_pure h⟩)) htake))
    | exact wpAny_bind (wpAny_bind (m := Builtin.Tuple.tupleExact _) (wpAny_newObj_type (wpAny_pure ⟨_, rfl, wpAny_pure h⟩) htake))
end
end RevT
namespace Mir
open PySem PySem.Spec PyProof.Rows L2
section
variable {X : Cx} {e : Expr} {te : TE} {kk : Nat} {p1 p2 p3 pos : Pos}
/-- x[::-1], a list or a tuple -/
def tRev (K : PySem.W.Frag) (te : TE) : TE := fun σ H Q => te σ H fun x H1 => (∃ a xs, x = .ref a ∧ SqL K H1 a xs ∧ ∀ p, H1 p = none → Q (.ref p) (upd H1 p (.lst xs.reverse))) ∨ (∃ a xs, x = .ref a ∧ SqT K H1 a xs ∧ ∀ p, H1 p = none → Q (.ref p) (upd H1 p (.tup xs.reverse)))
theorem pe_rev (he : PE X e te) : PE X (.Subscript e (.Slice none none (some (.UnaryOp .USub (.Constant (.int 1) kk p1) p2)) p3) pos) (tRev X.K te) := by
  refine ⟨fun pins s σ H Q I h => ?_⟩
  refine Subscript_ (thn (he.run pins s σ H _ I h) fun v s1 ⟨x, H1, I1, r1, q1⟩ => ?_)
  have hst : PO X (some (.UnaryOp .USub (.Constant (.int 1) kk p1) p2)) (tPart (tUn (rU fun i => .int (-i)) (tC (.int 1)))) := po_some (pe_un un_neg pe_int)
  refine wpAny_Slice (thn (po_none.run pins s1 σ H1 (fun o H2 => o = none ∧ H2 = H1) I1 ⟨rfl, rfl⟩) fun vl s2 ⟨l, H2, I2, pl, el, e2⟩ => ?_)
  subst el e2
  refine thn (po_none.run pins s2 σ H2 (fun o H3 => o = none ∧ H3 = H2) I2 ⟨rfl, rfl⟩) fun vu s3 ⟨u, H3, I3, pu, eu, e3⟩ => ?_
  subst eu e3
  refine thn (hst.run pins s3 σ H3 (fun o H4 => o = some (-1) ∧ H4 = H3) I3 ⟨1, rfl, -1, rfl, rfl, rfl⟩) fun vs s4 ⟨o, H4, I4, ps, eo, e4⟩ => ?_
  subst eo e4
  have I5 : Inv X pins σ H4 { s4 with heap := s4.heap.push { cls := .type "slice", data := .fields #[vl, vu, vs] } } := I4.kept (t' := s4.toks) fun b ob q => Heap.get?_push_of_some _ q
  rcases q1 with ⟨a, xs, ex, hx, q⟩ | ⟨a, xs, ex, hx, q⟩
  · subst ex
    cases r1
    obtain ⟨its, r, ht, hz⟩ := I5.list hx
    have hlen := r.length
    show wpAny (model X.prog X.w) X.A (subscriptTail e (.Slice none none (some (.UnaryOp .USub (.Constant (.int 1) kk p1) p2)) p3) (.ref a) (.ref s4.heap.objs.size)) (EP X pins σ Q) X.xe { s4 with heap := s4.heap.push { cls := .type "slice", data := .fields #[vl, vu, vs] } }
    refine tail_any (ops := [.ref a, .ref s4.heap.objs.size]) ht.isList.typeIs (PySem.slot_list_getitem.lookup) ?_ (by with_unfolding_all rfl)
    refine wpAny_getItem_list_slice ht.isList (Heap.IsSliceOf.new _ vl vu vs) pl pu ps (by decide) ?_ (by rw [List.size_toArray]; omega)
    rw [PySem.W.krv_pick]
    refine ⟨.ref _, _, I5.laid (t' := s4.toks) (o := .lst xs.reverse) (fun b ob q => Heap.get?_push_of_some _ q) (Nat.le_refl _) ?_, rfl, q _ (I5.hok.fresh (Nat.le_refl _))⟩
    exact ⟨by rw [List.length_reverse]; exact hz, _, 0, r.reverse, Heap.get?_push_size _ rfl⟩
  · subst ex
    cases r1
    obtain ⟨its, r, ht, hz⟩ := I5.tuple hx
    have hlen := r.length
    have evl : vl = .none := by cases pl; rfl
    have evu : vu = .none := by cases pu; rfl
    subst evl evu
    show wpAny (model X.prog X.w) X.A (subscriptTail e (.Slice none none (some (.UnaryOp .USub (.Constant (.int 1) kk p1) p2)) p3) (.ref a) (.ref s4.heap.objs.size)) (EP X pins σ Q) X.xe { s4 with heap := s4.heap.push { cls := .type "slice", data := .fields #[.none, .none, vs] } }
    refine tail_any (ops := [.ref a, .ref s4.heap.objs.size]) ht.typeIs (PyProof.Rows.slot_tuple_getitem.lookup) ?_ (by with_unfolding_all rfl)
    refine RevT.getItem_tuple_rev ht (Heap.IsSliceOf.new _ .none .none vs) ps ?_ (by rw [List.size_toArray]; omega)
    refine ⟨.ref _, _, I5.laid (t' := s4.toks) (o := .tup xs.reverse) (fun b ob q => Heap.get?_push_of_some _ q) (Nat.le_refl _) ?_, rfl, q _ (I5.hok.fresh (Nat.le_refl _))⟩
    exact ⟨by rw [List.length_reverse]; exact hz, _, r.reverse, IsTup.new _ _⟩
end

/-! ### built-in functions -/
def OpN (X : Cx) (f : Value) (κ : Kd) (g : List PV → Option PV) : Prop := ∃ r, CallR X f r ∧ ∀ (xs : List PV) (vs : List V) (H : Hp) (Q : VK) (ρ : Rw) (S : Addr → Prop) (pc : PV), S ρ.a → (∀ b, S b → H b ≠ none) → H ρ.a ≠ none → HaveL ρ .bo H S xs vs → g xs = some pc →
  (∀ z H', Same H H' → Have ρ κ H H' S pc z → Q z H') → r vs H Q
theorem hv_int {ρ : Rw} {H0 H : Hp} {S : Addr → Prop} (i : Int) : Have ρ .cl H0 H S (.int i) (.int i) := Flat.int i ρ (Hx H S)
theorem hv_bl {ρ : Rw} {H0 H : Hp} {S : Addr → Prop} (i : Bool) : Have ρ .cl H0 H S (.bl i) (.bl i) := Flat.bl i ρ (Hx H S)
def eBi (g : List PV → Option PV) (fs : AF) : EF := fun env => bnd (fs env) fun xs => ofO (g xs)
theorem HaveL.bo {ρ : Rw} {k : Kd} {H : Hp} {S : Addr → Prop} : ∀ {xs : List PV} {vs : List V}, HaveL ρ k H S xs vs → HaveL ρ .bo H S xs vs
  | [], vs, h => h
  | x :: xs, vs, ⟨v, r, q, a, b⟩ => ⟨v, r, q, by
      cases k with
      | cl => exact .inl a
      | bo => exact a
      | fr => exact a, HaveL.bo b⟩
section
variable {X : Cx} {W : WX} {k ka kb κ : Kd} {pos p : Pos} {e a b c : Expr} {es : List Expr} {j n : Nat} {x : Str} {fs : AF} {bid T : String} {g : List PV → Option PV}
theorem tBi_of {mg : Str → Option Value} {f : Value} {r : List V → Hp → VK → Prop} (hr : ∀ (xs : List PV) (vs : List V) (H : Hp) (Q : VK) (ρ : Rw) (S : Addr → Prop) (pc : PV), S ρ.a → (∀ b, S b → H b ≠ none) → H ρ.a ≠ none → HaveL ρ .bo H S xs vs → g xs = some pc →
  (∀ z H', Same H H' → Have ρ κ H H' S pc z → Q z H') → r vs H Q) (σ : L2.St) (H : Hp) (Q : VK) (q : tE mg W κ (eBi g fs) σ H Q) : tCB r (tL mg W k fs) σ H Q := by
  obtain ⟨ρ, F, B, env, ad, r, m, w⟩ := q
  refine ⟨ρ, F, B, env, ad, r, m, wpM_mono (wpM_bnd w) (fun xs r1 w1 vs H1 e1 o1 h1 => ?_) fun _ _ z => z⟩
  have m1 := m.step e1 o1
  obtain ⟨pc, e, w2⟩ := ofO_some w1
  exact hr xs vs H1 Q ρ _ pc m.exρ (fun b => m1.there) o1.there h1.bo e fun z H' s hz => w2 z H' (e1.trans (.same s)) (o1.same s) (hz.since e1)
theorem me_callB (O : OpN X (.builtin bid) κ g) (ha : MLk X W k (e :: es) fs) (hm : X.mg x = none) (hv : bootBuiltins x = some (.builtin bid) := by rfl) (hg : Gl X x := by rfl) (hn : x ≠ "__name__" := by decide) (hdb : (x == ("__debug__" : Str)) = false := by decide)
    (he : starEach (e :: es) X.env = (false, eval e X.env) :: starEach es X.env := by rfl) (hpl : (backTo pos (starEach es X.env)).any (·.1) = false := by rfl) : MEk X W κ (.Call (.Name x p) (e :: es) [] pos) (eBi g fs) := by
  obtain ⟨r, h1, h2⟩ := O
  exact pe_imp (pe_callB h1 hg hm hv ha hn hdb he hpl) (tBi_of (f := .builtin bid) h2)
theorem me_callTy (O : OpN X (.type T) κ g) (ha : MLk X W k (e :: es) fs) (hm : X.mg x = none) (hv : bootBuiltins x = some (.type T) := by rfl) (hg : Gl X x := by rfl) (hn : x ≠ "__name__" := by decide) (hdb : (x == ("__debug__" : Str)) = false := by decide)
    (he : starEach (e :: es) X.env = (false, eval e X.env) :: starEach es X.env := by rfl) (hpl : (backTo pos (starEach es X.env)).any (·.1) = false := by rfl) : MEk X W κ (.Call (.Name x p) (e :: es) [] pos) (eBi g fs) := by
  obtain ⟨r, h1, h2⟩ := O
  exact pe_imp (pe_callTy h1 hg hm hv ha hn hdb he hpl) (tBi_of (f := .type T) h2)
def gOrN (g g' : List PV → Option PV) : List PV → Option PV := fun xs => match g xs with
  | some z => some z
  | none => g' xs
theorem OpN.or {f : Value} {g g' : List PV → Option PV} (h : OpN X f κ g) (h' : OpN X f κ g') : OpN X f κ (gOrN g g') := by
  obtain ⟨r, a, b⟩ := h
  obtain ⟨r', a', b'⟩ := h'
  refine ⟨_, a.or a', fun xs vs H Q ρ S pc h1 h2 h3 h4 h5 h6 => ?_⟩
  unfold gOrN at h5
  cases q : g xs with
  | some z => rw [q] at h5; exact .inl (b xs vs H Q ρ S pc h1 h2 h3 h4 (q.trans h5) h6)
  | none => rw [q] at h5; exact .inr (b' xs vs H Q ρ S pc h1 h2 h3 h4 h5 h6)
theorem hl_one {ρ : Rw} {H : Hp} {S : Addr → Prop} {x : PV} {vs : List V} (h : HaveL ρ .bo H S [x] vs) : ∃ v, vs = [v] ∧ HaveB ρ H S x v := by
  obtain ⟨v, r, e, a, b⟩ := h
  rw [show r = [] from b] at e
  exact ⟨v, e, a⟩
theorem hl_two {ρ : Rw} {H : Hp} {S : Addr → Prop} {x y : PV} {vs : List V} (h : HaveL ρ .bo H S [x, y] vs) : ∃ v u, vs = [v, u] ∧ HaveB ρ H S x v ∧ HaveB ρ H S y u := by
  obtain ⟨v, r, e, a, b⟩ := h
  obtain ⟨u, e2, b⟩ := hl_one b
  rw [e2] at e
  exact ⟨v, u, e, a, b⟩
theorem have_new {ρ : Rw} {H : Hp} {S : Addr → Prop} {xs : List PV} {vs : List V} {q : Addr} (hρ : H ρ.a ≠ none) (l : RepL ρ (Hx H S) xs vs) (np : H q = none) : Have ρ .fr H (upd H q (.lst vs)) S (.lst xs) (.ref q) :=
  ⟨q, rfl, np, fun z => hρ (z ▸ np), vs, upd_same, l.mono (hx_new' np)⟩
/-! the texts' and lists' ints -/
def ints? : List PV → Option (List Int)
  | [] => some []
  | .int n :: r => (ints? r).map (n :: ·)
  | _ :: _ => none
theorem ints_eq : ∀ {xs : List PV} {ns : List Int}, ints? xs = some ns → xs = ns.map .int
  | [], ns, h => by cases h; rfl
  | x :: r, ns, h => by
    cases x with
    | int n =>
      obtain ⟨m, h1, rfl⟩ := Option.map_eq_some_iff.mp (show (ints? r).map (n :: ·) = some ns from h)
      rw [ints_eq h1]; rfl
    | _ => cases h
def bls? : List PV → Option (List Bool)
  | [] => some []
  | .bl n :: r => (bls? r).map (n :: ·)
  | _ :: _ => none
theorem bls_eq : ∀ {xs : List PV} {ns : List Bool}, bls? xs = some ns → xs = ns.map .bl
  | [], ns, h => by cases h; rfl
  | x :: r, ns, h => by
    cases x with
    | bl n =>
      obtain ⟨m, h1, rfl⟩ := Option.map_eq_some_iff.mp (show (bls? r).map (n :: ·) = some ns from h)
      rw [bls_eq h1]; rfl
    | _ => cases h
theorem RepL.bls_of {ρ : Rw} {G : Hp} : ∀ (ns : List Bool) {vs : List V}, RepL ρ G (ns.map .bl) vs → vs = ns.map V.bl
  | [], vs, r => by unfold RepL at r; exact r
  | n :: ns, vs, r => by
    rw [List.map_cons] at r
    unfold RepL at r
    obtain ⟨v, w, e, a, b⟩ := r
    unfold Rep at a
    rw [e, a, RepL.bls_of ns b]; rfl
/-! len -/
def gLen : List PV → Option PV
  | [.lst xs] => some (.int xs.length)
  | [.tup xs] => some (.int xs.length)
  | [.str x] => if x.length ≤ 16777216 then some (.int x.length) else none
  | _ => none
theorem oLen : OpN X (.builtin "len") .cl gLen := ⟨_, call_len, fun xs vs H Q ρ S pc hρ hS hr ha hg k => by
  unfold gLen at hg
  split at hg
  · cases hg
    obtain ⟨v, rfl, h⟩ := hl_one ha
    obtain ⟨a, ws, rfl, h1, l⟩ := hb_lst hρ hS h
    refine ⟨_, ws.length, rfl, .inl ⟨ws, .inl (.inl h1), rfl⟩, ?_⟩
    rw [l.length]
    exact k _ _ (Same.refl _) (hv_int _)
  · cases hg
    obtain ⟨v, rfl, h⟩ := hl_one ha
    obtain ⟨a, ws, rfl, h1, l, _⟩ := hb_tup hρ h
    refine ⟨_, ws.length, rfl, .inr ⟨ws, .inl (.inl h1), rfl⟩, ?_⟩
    rw [l.length]
    exact k _ _ (Same.refl _) (hv_int _)
  · split at hg
    · rename_i c
      cases hg
      obtain ⟨v, rfl, h⟩ := hl_one ha
      obtain ⟨rfl, _⟩ := hb_str h
      exact ⟨_, _, rfl, ⟨by rw [sizeLine_eq]; exact c, rfl⟩, k _ _ (Same.refl _) (hv_int _)⟩
    · cases hg
  · cases hg⟩
/-! int -/
def gToInt : List PV → Option PV
  | [.int n] => some (.int n)
  | [.bl c] => some (.int (if c then 1 else 0))
  | _ => none
theorem oToInt : OpN X (.type "int") .cl gToInt := ⟨_, call_int1, fun xs vs H Q ρ S pc hρ hS hr ha hg k => by
  unfold gToInt at hg
  split at hg
  · cases hg
    obtain ⟨v, rfl, h⟩ := hl_one ha
    exact .inl ⟨_, by rw [hb_int h], k _ _ (Same.refl _) (hv_int _)⟩
  · cases hg
    obtain ⟨v, rfl, h⟩ := hl_one ha
    exact .inr ⟨_, by rw [hb_bl h], k _ _ (Same.refl _) (hv_int _)⟩
  · cases hg⟩
/-! str of an int -/
/-! max, min of two -/
def gMax2 : List PV → Option PV
  | [.int i, .int j] => some (.int (if j > i then j else i))
  | _ => none
theorem oMax2 (hc : X.calm = true) : OpN X (.builtin "max") .cl gMax2 := ⟨_, call_max2 hc, fun xs vs H Q ρ S pc hρ hS hr ha hg k => by
  unfold gMax2 at hg
  split at hg
  · cases hg
    obtain ⟨v, u, rfl, h, h'⟩ := hl_two ha
    exact ⟨_, _, by rw [hb_int h, hb_int h'], k _ _ (Same.refl _) (hv_int _)⟩
  · cases hg⟩
/-! sum, max, min, all, any of a list -/
def gSum : List PV → Option PV
  | [.lst xs] => (ints? xs).map fun ns => .int ns.sum
  | [.tup xs] => (ints? xs).map fun ns => .int ns.sum
  | _ => none
theorem sum_tup_raw {prog : Program} {w : World} {A : Around} {E : Value → Shared → Prop} {s : Shared} {t : Addr} {vs : List Value} {ns : List Int} {Q : Value → Shared → Prop} (hh : A.handled = none) (hl : s.heap.IsTuple t vs.toArray) (hi : IntsAre vs ns)
    (h : ∀ h' tk t', (∀ b o, s.heap.get? b = some o → h'.get? b = some o) → Q (.int ns.sum t') { s with heap := h', toks := tk }) : wpAny (model prog w) A (call (.builtin "sum") [.ref t]) Q E s := by
  obtain ⟨xs, hx⟩ := hi.allInts.items
  have hn : numsOf vs.toArray.toList = ns := by rw [show vs.toArray.toList = vs from rfl, hi.numsOf]
  rw [hx] at hl hn
  rw [nums_intItems] at hn
  refine PySem.W.ktm_sumG hh hl fun h' tk t' hk => ?_
  have := h h' tk t' hk
  rw [preSum_eq, List.take_of_length_le (by simp), hn]
  exact this
theorem cr_sumLT {X : Cx} (hc : X.calm = true) : CallR X (.builtin "sum") (fun vs H Q => rSum X.K vs H Q ∨ ∃ (a : Addr) (ns : List Int), vs = [V.ref a] ∧ SqT X.K H a (ns.map V.int) ∧ Q (.int ns.sum) H) := by
  intro pins s σ H vs us Q I r h
  rcases h with h | ⟨a, ns, rfl, hs, q⟩
  · exact cr_sum hc pins s σ H vs us Q I r h
  · obtain ⟨its, rv, hl, _⟩ := I.tuple hs
    rw [Vals.ref1 r]
    exact sum_tup_raw (I.ok.hd hc) hl rv.ints fun h' tk t' hk => ⟨.int _, H, I.kept hk, ⟨_, rfl⟩, q⟩
theorem lst_ints {ρ : Rw} {H : Hp} {S : Addr → Prop} {xs : List PV} {ns : List Int} {v : V} (hρ : S ρ.a) (hS : ∀ b, S b → H b ≠ none) (h : HaveB ρ H S (.lst xs) v) (e : ints? xs = some ns) : ∃ a, v = .ref a ∧ H a = some (.lst (ns.map V.int)) := by
  obtain ⟨a, ws, rfl, h1, l⟩ := hb_lst hρ hS h
  rw [ints_eq e] at l
  rw [RepL.ints_of ns l] at h1
  exact ⟨a, rfl, h1⟩
theorem oSum (hc : X.calm = true) : OpN X (.builtin "sum") .cl gSum := ⟨_, cr_sumLT hc, fun xs vs H Q ρ S pc hρ hS hr ha hg k => by
  unfold gSum at hg
  split at hg
  · obtain ⟨ns, h1, rfl⟩ := Option.map_eq_some_iff.mp hg
    obtain ⟨v, rfl, h⟩ := hl_one ha
    obtain ⟨a, rfl, e⟩ := lst_ints hρ hS h h1
    exact .inl ⟨a, ns, rfl, .inl (.inl e), k _ _ (Same.refl _) (hv_int _)⟩
  · obtain ⟨ns, h1, rfl⟩ := Option.map_eq_some_iff.mp hg
    obtain ⟨v, rfl, h⟩ := hl_one ha
    obtain ⟨a, ws, rfl, h2, l, _⟩ := hb_tup hρ h
    rw [ints_eq h1] at l
    rw [RepL.ints_of ns l] at h2
    exact .inr ⟨a, ns, rfl, SqT.of h2, k _ _ (Same.refl _) (hv_int _)⟩
  · cases hg⟩
def lmax : List Int → Int
  | [] => 0
  | [n] => n
  | n :: r => max n (lmax r)
theorem lmax_ge : ∀ {ns : List Int} {x : Int}, x ∈ ns → x ≤ lmax ns
  | [n], x, h => by rw [List.mem_singleton.mp h]; exact Int.le_refl _
  | n :: m :: r, x, h => by
    show x ≤ max n (lmax (m :: r))
    rcases List.mem_cons.mp h with rfl | h
    · omega
    · have := lmax_ge (ns := m :: r) h
      omega
theorem lmax_mem : ∀ {ns : List Int}, ns ≠ [] → lmax ns ∈ ns
  | [n], _ => List.mem_singleton.mpr rfl
  | n :: m :: r, _ => by
    show max n (lmax (m :: r)) ∈ _
    have := lmax_mem (ns := m :: r) (by simp)
    rcases Int.le_total n (lmax (m :: r)) with h | h
    · rw [Int.max_eq_right h]; exact List.mem_cons_of_mem _ this
    · rw [Int.max_eq_left h]; exact List.mem_cons_self
def gMaxL : List PV → Option PV
  | [.lst (x :: xs)] => (ints? (x :: xs)).map fun ns => .int (lmax ns)
  | _ => none
theorem ints_ne {x : PV} {xs : List PV} {ns : List Int} (e : ints? (x :: xs) = some ns) : 0 < ns.length := by
  have := ints_eq e
  cases ns with
  | nil => cases this
  | cons _ _ => simp
theorem oMaxL (hc : X.calm = true) : OpN X (.builtin "max") .cl gMaxL := ⟨_, cr_max hc, fun xs vs H Q ρ S pc hρ hS hr ha hg k => by
  unfold gMaxL at hg
  split at hg
  · obtain ⟨ns, h1, rfl⟩ := Option.map_eq_some_iff.mp hg
    obtain ⟨v, rfl, h⟩ := hl_one ha
    obtain ⟨a, rfl, e⟩ := lst_ints hρ hS h h1
    refine ⟨a, ns, rfl, .inl (.inl e), ints_ne h1, fun m hm hall => ?_⟩
    have : m = lmax ns := Int.le_antisymm (lmax_ge hm) (hall _ (lmax_mem (List.ne_nil_of_mem hm)))
    rw [this]
    exact k _ _ (Same.refl _) (hv_int _)
  · cases hg⟩
def gMax : List PV → Option PV := gOrN gMax2 gMaxL
theorem oMax (hc : X.calm = true) : OpN X (.builtin "max") .cl gMax := (oMax2 hc).or (oMaxL hc)
def gAll : List PV → Option PV
  | [.lst xs] => (bls? xs).map fun ns => .bl (ns.all id)
  | _ => none
theorem lst_bls {ρ : Rw} {H : Hp} {S : Addr → Prop} {xs : List PV} {ns : List Bool} {v : V} (hρ : S ρ.a) (hS : ∀ b, S b → H b ≠ none) (h : HaveB ρ H S (.lst xs) v) (e : bls? xs = some ns) : ∃ a, v = .ref a ∧ H a = some (.lst (ns.map V.bl)) := by
  obtain ⟨a, ws, rfl, h1, l⟩ := hb_lst hρ hS h
  rw [bls_eq e] at l
  rw [RepL.bls_of ns l] at h1
  exact ⟨a, rfl, h1⟩
theorem oAll (hc : X.calm = true) : OpN X (.builtin "all") .cl gAll := ⟨_, cr_all hc, fun xs vs H Q ρ S pc hρ hS hr ha hg k => by
  unfold gAll at hg
  split at hg
  · obtain ⟨ns, h1, rfl⟩ := Option.map_eq_some_iff.mp hg
    obtain ⟨v, rfl, h⟩ := hl_one ha
    obtain ⟨a, rfl, e⟩ := lst_bls hρ hS h h1
    exact ⟨a, ns, rfl, .inl (.inl e), k _ _ (Same.refl _) (hv_bl _)⟩
  · cases hg⟩
/-! list, tuple -/
def gToL : List PV → Option PV
  | [.lst xs] => some (.lst xs)
  | [.tup xs] => some (.lst xs)
  | _ => none
def gToT : List PV → Option PV
  | [.lst xs] => some (.tup xs)
  | [.tup xs] => some (.tup xs)
  | _ => none
theorem oToL : OpN X (.type "list") .fr gToL := ⟨_, call_list_of, fun xs vs H Q ρ S pc hρ hS hr ha hg k => by
  unfold gToL at hg
  split at hg
  · cases hg
    obtain ⟨v, rfl, h⟩ := hl_one ha
    obtain ⟨a, ws, rfl, h1, l⟩ := hb_lst hρ hS h
    exact ⟨a, ws, rfl, .inl (.inl (.inl h1)), fun q nq => k _ _ (same_upd nq) (have_new hr l nq)⟩
  · cases hg
    obtain ⟨v, rfl, h⟩ := hl_one ha
    obtain ⟨a, ws, rfl, h1, l, _⟩ := hb_tup hρ h
    exact ⟨a, ws, rfl, .inr (.inl (.inl h1)), fun q nq => k _ _ (same_upd nq) (have_new hr l nq)⟩
  · cases hg⟩
theorem oToT : OpN X (.type "tuple") .cl gToT := ⟨_, call_tuple_of, fun xs vs H Q ρ S pc hρ hS hr ha hg k => by
  unfold gToT at hg
  split at hg
  · cases hg
    obtain ⟨v, rfl, h⟩ := hl_one ha
    obtain ⟨a, ws, rfl, h1, l⟩ := hb_lst hρ hS h
    exact ⟨a, ws, rfl, .inl ⟨.inl (.inl h1), fun q nq => k _ _ (same_upd nq) (new_tup hS l nq)⟩⟩
  · cases hg
    obtain ⟨v, rfl, h⟩ := hl_one ha
    obtain ⟨a, ws, rfl, h1, l, n⟩ := hb_tup hρ h
    exact ⟨a, ws, rfl, .inr ⟨.inl (.inl h1), k _ _ (Same.refl _) (old_tup n h1 l)⟩⟩
  · cases hg⟩
end
end Mir

namespace Mir
open PySem PySem.Spec PyProof.Rows L2
/-! ### subscripts -/
def ixP : PV → PV → Option PV
  | .lst xs, .int n => atI xs n
  | .tup xs, .int n => atI xs n
  | _, _ => none
def eIx (fa fb : EF) : EF := eOp2 ixP fa fb
theorem RepL.atI {ρ : Rw} {G : Hp} {xs : List PV} {vs : List V} {n : Int} {x : PV} (h : RepL ρ G xs vs) (e : L2.atI xs n = some x) : ∃ v, L2.atI vs n = some v ∧ Rep ρ G x v := by
  unfold L2.atI at e ⊢
  rw [h.length]
  obtain ⟨j, h1, h2⟩ := Option.bind_eq_some_iff.mp e
  obtain ⟨v, h3, h4⟩ := h.get h2
  exact ⟨v, by rw [h1]; exact h3, h4⟩
section
variable {X : Cx} {W : WX} {k ka kb κ : Kd} {pos p p2 : Pos} {e a b c : Expr} {es : List Expr} {j n : Nat} {x : Str} {fs : AF} {fa fb fc : EF} {mg : Str → Option Value}
/-- tOp_of for any reading of two values that follows from the mirror's -/
theorem tOp2_of {r : R2} {g : PV → PV → Option PV} (hr : ∀ (x y : V) (H : Hp) (Q : VK) (ρ : Rw) (S : Addr → Prop) (pa pb pc : PV), S ρ.a → (∀ b, S b → H b ≠ none) → HaveB ρ H S pa x → HaveB ρ H S pb y → g pa pb = some pc → (∀ z H', Same H H' → Rep ρ (Hx H' S) pc z → Q z H') → r x y H Q)
    (σ : L2.St) (H : Hp) (Q : VK) (q : tE mg W .cl (eOp2 g fa fb) σ H Q) : tOp r (tE mg W ka fa) (tE mg W kb fb) σ H Q := by
  obtain ⟨ρ, F, B, env, ad, r, m, w⟩ := tOp_of (ka := ka) (kb := kb) σ H Q q
  refine ⟨ρ, F, B, env, ad, r, m, wpM_mono w (fun x r1 w1 v1 H1 e1 o1 h1 => ?_) fun _ _ z => z⟩
  obtain ⟨ρ', F', B', env', ad', r', m', w'⟩ := w1 v1 H1 e1 o1 h1
  refine ⟨ρ', F', B', env', ad', r', m', wpM_mono w' (fun y r2 w2 v2 H2 e2 o2 h2 => ?_) fun _ _ z => z⟩
  obtain ⟨ρ2, S, pa, pb, pc, g1, g2, g3, g4, g5, g6⟩ := w2 v2 H2 e2 o2 h2
  exact hr v1 v2 H2 Q ρ2 S pa pb pc g1 g2 g3 g4 g5 g6
theorem me_ix (ha : MEk X W ka a fa) (hb : MEk X W kb b fb) (hs : PlainIx b := by intro _ _; rfl) : ME X W (.Subscript a b pos) (eIx fa fb) := pe_imp (pe_ix ix_seq ha hb hs) (tOp2_of fun x y H Q ρ S pa pb pc hρ hS ha hb hg k => by
  unfold ixP at hg
  split at hg
  · rename_i xs n
    obtain ⟨a, vs, rfl, h1, l⟩ := hb_lst hρ hS ha
    obtain ⟨v, h2, h3⟩ := l.atI hg
    exact .inl ⟨a, vs, n, v, rfl, hb_int hb, .inl (.inl h1), h2, k _ _ (Same.refl _) h3⟩
  · rename_i xs n
    obtain ⟨a, vs, rfl, h1, l, _⟩ := hb_tup hρ ha
    obtain ⟨v, h2, h3⟩ := l.atI hg
    exact .inr (.inl ⟨a, vs, n, v, rfl, hb_int hb, .inl (.inl h1), h2, k _ _ (Same.refl _) h3⟩)
  · cases hg)

/-! ### slices -/
abbrev OF := Env → M (Option Int)
def oNo : OF := fun _ => ret none
def oAt (f : EF) : OF := fun env => bnd (f env) fun x => bnd (toI x) fun n => ret (some n)
def tOo (mg : Str → Option Value) (W : WX) (f : OF) : TO := fun σ H Q => ∃ ρ F B env ad r, Fm ρ F B H r σ env ad ∧
  wpM (f env r) (fun o r' => ∀ H', Ext ρ H H' → RowAt ρ H' r' → Q o H') (fun e r' => ∀ C d H', Ext ρ H H' → RowAt ρ H' r' → ExR mg H' C d e → W C d σ H')
abbrev MO (X : Cx) (W : WX) (e : Option Expr) (f : OF) : Prop := PO X e (tOo X.mg W f)
theorem po_imp {e : Option Expr} {t t' : TO} (h : PO X e t) (i : ∀ σ H Q, t' σ H Q → t σ H Q) : PO X e t' := ⟨fun pins s σ H Q I q => h.run pins s σ H Q I (i σ H Q q)⟩
theorem mo_no : MO X W none oNo := po_imp po_none fun σ H Q q => by
  obtain ⟨ρ, F, B, env, ad, r, m, w⟩ := q
  exact w H (Ext.refl _ _) m.row
theorem mo_at (h : MEk X W k e fa) : MO X W (some e) (oAt fa) := po_imp (po_some h) fun σ H Q q => by
  obtain ⟨ρ, F, B, env, ad, r, m, w⟩ := q
  refine ⟨ρ, F, B, env, ad, r, m, wpM_mono (wpM_bnd w) (fun x r1 w1 v1 H1 e1 o1 h1 => ?_) fun _ _ z => z⟩
  obtain ⟨n, rfl, w2⟩ := toI_ok (wpM_bnd w1)
  exact ⟨n, have_int h1, w2 H1 e1 o1⟩
def cutP (xs : List PV) (lo hi : Option Int) : List PV := (xs.drop (HT.sIx xs.length 0 lo)).take (HT.sIx xs.length xs.length hi - HT.sIx xs.length 0 lo)
def slP (x : PV) (lo hi : Option Int) : Option PV := match x with
  | .lst xs => some (.lst (cutP xs lo hi))
  | .tup xs => some (.tup (cutP xs lo hi))
  | _ => none
def eSl (fa : EF) (fl fh : OF) : EF := fun env => bnd (fa env) fun x => bnd (fl env) fun lo => bnd (fh env) fun hi => ofO (slP x lo hi)
theorem RepL.cut {ρ : Rw} {G : Hp} {xs : List PV} {vs : List V} (h : RepL ρ G xs vs) (lo hi : Option Int) : RepL ρ G (cutP xs lo hi) (cutV vs lo hi) := by
  unfold cutP cutV
  rw [h.length]
  exact (h.drop _).take _
theorem me_sl {lo hi : Option Expr} {fl fh : OF} (ha : MEk X W ka a fa) (hl : MO X W lo fl) (hh : MO X W hi fh) : ME X W (.Subscript a (.Slice lo hi none p2) pos) (eSl fa fl fh) := pe_imp (pe_slice (sl_list.or sl_tupA) ha hl hh) fun σ H Q q => by
  obtain ⟨ρ, F, B, env, ad, r, m, w⟩ := q
  refine ⟨ρ, F, B, env, ad, r, m, wpM_mono (wpM_bnd w) (fun x r1 w1 v1 H1 e1 o1 h1 => ?_) fun _ _ z => z⟩
  have m1 := m.step e1 o1
  refine ⟨ρ, F, B, env, ad, r1, m1, wpM_mono (wpM_bnd w1) (fun lo r2 w2 H2 e2 o2 => ?_) fun ex r2 z C d H' e' => z C d H' (e1.trans e')⟩
  have m2 := m1.step e2 o2
  refine ⟨ρ, F, B, env, ad, r2, m2, wpM_mono (wpM_bnd w2) (fun hi r3 w3 H3 e3 o3 => ?_) fun ex r2 z C d H' e' => z C d H' ((e1.trans e2).trans e')⟩
  have m3 := m2.step e3 o3
  obtain ⟨pc, hg, w4⟩ := ofO_some w3
  have hb : HaveB ρ H3 (Ex F env ad) x v1 := ((h1.b).ext m.exρ e2).ext m.exρ e3
  have ex : Ext ρ H H3 := (e1.trans e2).trans e3
  have hS : ∀ b, Ex F env ad b → H3 b ≠ none := fun b => m3.there
  unfold slP at hg
  split at hg
  · rename_i xs
    cases hg
    obtain ⟨a, vs, rfl, g, l⟩ := hb_lst m.exρ hS hb
    refine .inl ⟨a, vs, rfl, .inl (.inl g), fun q nq => w4 _ _ (ex.trans (.same (same_upd nq))) (o3.same (same_upd nq)) ?_⟩
    exact new_lst hS (l.cut lo hi) nq
  · rename_i xs
    cases hg
    obtain ⟨a, vs, rfl, g, l, n⟩ := hb_tup m.exρ hb
    refine .inr ⟨a, vs, rfl, .inl (.inl g), fun hw => ?_, fun hw q nq => w4 _ _ (ex.trans (.same (same_upd nq))) (o3.same (same_upd nq)) (new_tup hS (l.cut lo hi) nq)⟩
    have e4 : cutP xs lo hi = xs := by
      unfold cutP
      rw [← l.length, hw.1, hw.2, List.drop_zero, List.take_of_length_le (by rw [← l.length]; omega)]
    refine w4 _ _ ex o3 ?_
    rw [e4]
    exact old_tup n g l
  · cases hg
def rvP : PV → Option PV
  | .lst xs => some (.lst xs.reverse)
  | .tup xs => some (.tup xs.reverse)
  | _ => none
def eRv (fa : EF) : EF := fun env => bnd (fa env) fun x => ofO (rvP x)
theorem me_rv {kk : Nat} {p1 p2 p3 : Pos} (ha : MEk X W ka a fa) : ME X W (.Subscript a (.Slice none none (some (.UnaryOp .USub (.Constant (.int 1) kk p1) p2)) p3) pos) (eRv fa) := pe_imp (pe_rev ha) fun σ H Q q => by
  obtain ⟨ρ, F, B, env, ad, r, m, w⟩ := q
  refine ⟨ρ, F, B, env, ad, r, m, wpM_mono (wpM_bnd w) (fun x r1 w1 v1 H1 e1 o1 h1 => ?_) fun _ _ z => z⟩
  have m1 := m.step e1 o1
  obtain ⟨pc, hg, w4⟩ := ofO_some w1
  have hS : ∀ b, Ex F env ad b → H1 b ≠ none := fun b => m1.there
  unfold rvP at hg
  split at hg
  · cases hg
    obtain ⟨a, vs, rfl, g, l⟩ := hb_lst m.exρ hS h1.b
    exact .inl ⟨a, vs, rfl, .inl (.inl g), fun q nq => w4 _ _ (e1.trans (.same (same_upd nq))) (o1.same (same_upd nq)) (new_lst hS l.reverse nq)⟩
  · cases hg
    obtain ⟨a, vs, rfl, g, l, n⟩ := hb_tup m.exρ h1.b
    exact .inr ⟨a, vs, rfl, .inl (.inl g), fun q nq => w4 _ _ (e1.trans (.same (same_upd nq))) (o1.same (same_upd nq)) (new_tup hS l.reverse nq)⟩
  · cases hg
/-! ### - -/
def eNeg (fa : EF) : EF := fun env => bnd (fa env) fun x => bnd (toI x) fun n => ret (.int (-n))
theorem me_neg (ha : MEk X W ka a fa) : ME X W (.UnaryOp .USub a pos) (eNeg fa) := pe_imp (pe_un un_neg ha) fun σ H Q q => by
  obtain ⟨ρ, F, B, env, ad, r, m, w⟩ := q
  refine ⟨ρ, F, B, env, ad, r, m, wpM_mono (wpM_bnd w) (fun x r1 w1 v1 H1 e1 o1 h1 => ?_) fun _ _ z => z⟩
  obtain ⟨n, rfl, w2⟩ := toI_ok (wpM_bnd w1)
  exact ⟨n, have_int h1, w2 _ _ e1 o1 (hv_int _)⟩
/-! ### isinstance -/
inductive Tc where
  | int | bool | str | tuple | list | dict
def nmC : Tc → String
  | .int => "int"
  | .bool => "bool"
  | .str => "str"
  | .tuple => "tuple"
  | .list => "list"
  | .dict => "dict"
def isC : Tc → PV → Option Bool
  | _, .ty _ => none
  | _, .row => none
  | _, .exc _ _ => none
  | _, .at_ _ => none
  | _, .obj _ _ _ => none
  | .int, .int _ => some true
  | .int, .bl _ => some true
  | .bool, .bl _ => some true
  | .str, .str _ => some true
  | .tuple, .tup _ => some true
  | .list, .lst _ => some true
  | .dict, .dic _ _ => some true
  | _, _ => some false
/-- a thing that isinstance is not asked of -/
def oddT : PV → Bool
  | .ty _ => true
  | .row => true
  | .exc _ _ => true
  | .at_ _ => true
  | .obj _ _ _ => true
  | _ => false
theorem isC_odd {c : Tc} {x : PV} {r : Bool} (h : isC c x = some r) : oddT x = false := by
  cases x <;> first | rfl | (cases c <;> cases h)
def tyP : PV → String
  | .non => "NoneType"
  | .bl _ => "bool"
  | .int _ => "int"
  | .str _ => "str"
  | .tup _ => "tuple"
  | .lst _ => "list"
  | .dic _ _ => "dict"
  | _ => ""
theorem ty_of {K : PySem.W.Frag} {ρ : Rw} {H : Hp} {x : PV} {v : V} (h : Rep ρ H x v) (n : oddT x = false) : TyX K H v (.type (tyP x)) := by
  cases x with
  | non => unfold Rep at h; subst h; exact .base .non
  | bl b => unfold Rep at h; subst h; exact .base (.bl b)
  | int b => unfold Rep at h; subst h; exact .base (.int b)
  | str b => unfold Rep at h; obtain ⟨rfl, _⟩ := h; exact .base (.str b)
  | tup xs => unfold Rep at h; obtain ⟨a, vs, rfl, g, _⟩ := h; exact .base (.tup g)
  | lst xs => unfold Rep at h; obtain ⟨a, vs, rfl, g, _⟩ := h; exact .base (.lst g)
  | dic ks es =>
    unfold Rep at h
    obtain ⟨a, rfl, ⟨kvs, g, _⟩ | ⟨kvs, g, _⟩ | ⟨o, kvs, g, _⟩⟩ := h
    · exact .base (.dK g)
    · exact .base (.dT g)
    · exact .fDict g
  | _ => cases n
theorem isC_kit {K : PySem.W.Frag} {x : PV} {c : Tc} {r : Bool} (h : isC c x = some r) : PySem.W.kitOne K (.type (tyP x)) (.type (nmC c)) = some r := by
  refine kit_ty ?_
  cases x <;> cases c <;> first | (cases h; done) | (cases h; show kitB _ _ = some _; simp only [tyP, nmC]; decide +kernel)
def eIsi (c : Tc) (fa : EF) : EF := fun env => bnd (fa env) fun x => ofO ((isC c x).map .bl)
theorem me_isi {y : Str} (c : Tc) (ha : MEk X W k a fa) (hm : X.mg "isinstance" = none) (hm2 : X.mg y = none) (hv : bootBuiltins y = some (.type (nmC c)) := by rfl) (hg : Gl X "isinstance" := by rfl) (hg2 : Gl X y := by rfl) (hn : y ≠ "__name__" := by decide) (hd : (y == ("__debug__" : Str)) = false := by decide)
    (he : starEach [a, .Name y p2] X.env = (false, eval a X.env) :: starEach [.Name y p2] X.env := by rfl) (he2 : starEach [.Name y p2] X.env = (false, eval (.Name y p2) X.env) :: starEach [] X.env := by rfl) (hpl : (backTo pos (starEach [.Name y p2] X.env)).any (·.1) = false := by rfl) :
    ME X W (.Call (.Name "isinstance" p) [a, .Name y p2] [] pos) (eIsi c fa) := pe_imp (pe_callB (id := "isinstance") call_isi hg hm rfl (pa_cons ha (pa_cons (pe_bltn (v := .ty (nmC c)) hg2 hm2 hv rfl hn hd) pa_nil he2) he) (by decide) (by decide) he hpl) fun σ H Q q => by
  obtain ⟨ρ, F, B, env, ad, r, m, w⟩ := q
  refine ⟨ρ, F, B, env, ad, r, m, wpM_mono (wpM_bnd w) (fun x r1 w1 v1 H1 e1 o1 h1 => ?_) fun _ _ z => z⟩
  obtain ⟨pc, hg, w4⟩ := ofO_some w1
  obtain ⟨b, h2, rfl⟩ := Option.map_eq_some_iff.mp hg
  exact ⟨v1, .ty (nmC c), _, .type (nmC c), b, rfl, .ty _, ty_of h1.full (isC_odd h2), isC_kit h2, w4 _ _ e1 o1 (hv_bl _)⟩
/-! ### enumerate -/
def enL (i : Nat) : List PV → List PV
  | [] => []
  | x :: r => .tup [.int i, x] :: enL (i + 1) r
theorem enL_get : ∀ {xs : List PV} {i j : Nat} {x : PV}, (enL i xs)[j]? = some x → ∃ y, xs[j]? = some y ∧ x = .tup [.int ((i + j : Nat) : Int), y]
  | y :: xs, i, 0, x, h => ⟨y, rfl, by simpa [enL] using h.symm⟩
  | y :: xs, i, j + 1, x, h => by
    obtain ⟨z, h1, h2⟩ := enL_get (xs := xs) (i := i + 1) (j := j) (by simpa [enL] using h)
    exact ⟨z, by simpa using h1, by rw [h2, show i + 1 + j = i + (j + 1) from by omega]⟩
theorem enL_len : ∀ {xs : List PV} {i : Nat}, (enL i xs).length = xs.length
  | [], _ => rfl
  | _ :: xs, i => by rw [enL, List.length_cons, List.length_cons, enL_len]
end
end Mir

namespace EnT
open PySem PySem.Spec PyProof.Rows L2
theorem new1 {v : Value} {o : Obj} {Hh : Heap → Prop} (B : PySem.Begins v o Hh) :
    Meets (Builtin.«enumerate.__new__» ⟨[.type "enumerate", v], []⟩) (fun _ R s => Hh s.heap ∧
      R (.ok (.ret (.ref (s.heap.push o).objs.size))) { s with heap := (s.heap.push o).push { cls := .type "enumerate", data := .fields #[.none, .bool false, .ref s.heap.objs.size, rawInt 0, .none, .none] } }) :=
  .of_wp fun prog w A R s hx => by
    obtain ⟨hp, gg, dd, tt, oo⟩ := s
    obtain ⟨hh, hx⟩ := hx
    have hsub := sub_enumerate
    have st : ∀ {A' : Around} {E : Value → Shared → Prop} {Q : Value → Shared → Prop}, Q (.ref hp.objs.size) ⟨hp.push o, gg, dd, tt, oo⟩ → wpAny (model prog w) A' (pyIter v) Q E ⟨hp, gg, dd, tt, oo⟩ :=
      fun {A' E Q} z => B.iter prog w A' E ⟨hp, gg, dd, tt, oo⟩ Q hh z
    wp_walk using st
    refine wpAny_stack_any fun stk => wpAny_pure ?_
    split
    · rename_i cc _ _ _ _ _
      cases (cc == Value.type "enumerate")
      all_goals (wp_walk using st; exact ⟨_, rfl, hx⟩)
    · wp_walk using st
      exact ⟨_, rfl, hx⟩
section
variable {prog : Program} {w : World} {A : Around} {E : Value → Shared → Prop} {s : Shared}
theorem call1 {v : Value} {o : Obj} {Hh : Heap → Prop} {Q : Value → Shared → Prop} (B : PySem.Begins v o Hh) (hh : Hh s.heap)
    (hq : ∀ h', IsEnum h' (s.heap.objs.size + 1) s.heap.objs.size 0 .none → h'.get? s.heap.objs.size = some o → (∀ b x, s.heap.get? b = some x → h'.get? b = some x) → Q (.ref (s.heap.objs.size + 1)) { s with heap := h' }) :
    wpAny (model prog w) A (call (.type "enumerate") [v]) Q E s := by
  refine callType_new F.called_enumerate (by decide) (F.typeCall_enumerate_1 _) (F.newCall_enumerate_1 _) (fun obj => F.args_object_init_2 obj _) F.entry_enumerate_new (new1 B) ⟨hh, ?_⟩
  have sz : (s.heap.push o).objs.size = s.heap.objs.size + 1 := Heap.size_push ..
  have at1 := Heap.get?_push_size (s.heap.push o) (o := { cls := .type "enumerate", data := .fields #[.none, .bool false, .ref s.heap.objs.size, rawInt 0, .none, .none] }) rfl
  show _ ∧ _
  rw [sz] at at1 ⊢
  exact ⟨⟨_, at1, rfl⟩, hq _ at1 (Heap.get?_push_of_some _ (Heap.get?_push_size _ B.free)) fun b x y => Heap.get?_push_of_some _ (Heap.get?_push_of_some _ y)⟩
end
/-- the tuple at a, each item in a new pair -/
def It1 (K : PySem.W.Frag) (a : Addr) : It :=
  ⟨fun i H => ∃ (xs : List V) (x : V), SqT K H a xs ∧ xs[i]? = some x, fun i H v H' => ∃ T x, v = .ref T ∧ H T = none ∧ H' = upd H T (.tup [.int (i : Nat), x]) ∧ ∀ xs, SqT K H a xs → xs[i]? = some x, fun i H => ∃ xs : List V, SqT K H a xs ∧ xs.length ≤ i⟩
def Tn (a e it : Addr) (i : Nat) (h : Heap) : Prop := (∃ old, IsEnum h e it ((i : Nat) : Int) old) ∧ h.IsTupleIter it a i ∧ e ≠ it
theorem two {b e it : Addr} (h : b ∈ [e, it]) : b = e ∨ b = it := by
  rcases List.mem_cons.mp h with z | z
  · exact .inl z
  · exact .inr (List.mem_singleton.mp z)
theorem apart {h : Heap} {it a : Addr} {i : Nat} {items : Array Value} (x : h.IsTupleIter it a i) (y : h.IsTuple a items) : a ≠ it := by
  obtain ⟨o, h1, h2, _⟩ := x
  obtain ⟨o', h3, h4, _⟩ := y
  intro z
  rw [z, h1] at h3
  cases h3
  rw [h2] at h4
  injection h4 with q
  exact absurd q (by decide)
theorem turn1 {P : Program} {w : World} {K : PySem.W.Frag} {elts : List Expr} {kk : Nat} {tpos : Pos} (a e it : Addr) : Turn P w K (.Tuple elts kk tpos) (It1 K a) [e, it] e (Tn a e it) where
  mem := List.mem_cons_self
  obj := fun i h ⟨⟨old, he⟩, ⟨o, ho, _, hd⟩, _⟩ b hb => by
    rcases two hb with rfl | rfl
    · exact ⟨_, he, fun v q => nomatch q⟩
    · exact ⟨o, ho, fun v q => by rw [hd] at q; cases q⟩
  keep := fun i h h' ⟨⟨old, he⟩, ⟨o, ho, r⟩, hne⟩ k => ⟨⟨old, k e (by simp) _ he⟩, ⟨o, k it (by simp) _ ho, r⟩, hne⟩
  item := fun X hP hw hK hc i pins s σ H E I hf st hg => by
    subst hP hw hK
    obtain ⟨⟨old, he⟩, hit, hne⟩ := st
    obtain ⟨xs, x, hq, hx⟩ := hg
    obtain ⟨its, rv, p, hz⟩ := I.tuple hq
    obtain ⟨u, hu, ru⟩ := rv.get hx
    have pt : s.heap.IsTuple a its.toArray := p
    have nai := apart hit pt
    have el : e < s.heap.objs.size := Heap.lt_size he
    have il : it < s.heap.objs.size := by obtain ⟨_, q, _⟩ := hit; exact Heap.lt_size q
    have al : a < s.heap.objs.size := by obtain ⟨_, q, _⟩ := pt; exact Heap.lt_size q
    have nae : e ≠ a := fun z => by
      obtain ⟨o, h1, h2, _⟩ := pt
      rw [← z, he] at h1
      cases h1
      injection h2 with q
      exact absurd q (by decide)
    refine wpAny_pyNext_enum_itemD (Draws.tuple (A := X.A.in1) (by rw [show X.A.in1.handled = X.A.handled from rfl]; exact I.ok.hd hc) it a nai its.toArray) he ⟨hit, pt⟩ (by rw [List.size_toArray]; exact (List.getElem?_eq_some_iff.mp hu).1) hne (by
      intro z
      rcases List.mem_cons.mp z with z | z
      · exact hne z
      · exact nae (List.mem_singleton.mp z)) fun y h' tk hy ho hs' hT hsz hk => ?_
    obtain ⟨hit', _⟩ := hs'
    have ey : y = u := by
      have : its.toArray[i]? = some u := by rw [List.getElem?_toArray]; exact hu
      exact Option.some.inj (hy.symm.trans this)
    subst ey
    refine ⟨_, rfl, wpAny_letOwnedTupleGo_enum (s := { s with heap := h', toks := tk + 1 }) ho fun h2 he2 sb => ?_⟩
    have hT2 : h2.get? s.heap.objs.size = some { cls := .type "tuple", data := .seq #[.int i tk, y] } := (sb.2 _ (Nat.ne_of_gt el)).trans hT
    have I1 : Inv X pins σ (upd H s.heap.objs.size (.tup [.int (i : Nat), x])) { s with heap := h2, toks := tk + 1 } :=
      I.turnedNew (ch := [e, it]) (fun b ob hb q => (sb.2 b (fun z => hb (by simp [z]))).trans (hk b ob (fun z => hb (by simp [z])) (fun z => hb (by simp [z])) q)) hf (Nat.le_refl _)
        ⟨by show 2 ≤ sizeLine; decide, [.int i tk, y], .cons ⟨_, rfl⟩ (.cons ru .nil), ⟨_, hT2, rfl, _, rfl⟩⟩
    refine ⟨.ref s.heap.objs.size, _, I1, rfl, ⟨_, x, rfl, I.hok.fresh (Nat.le_refl _), rfl, fun ys hys => by rw [I.tuple_inj hys hq]; exact hx⟩, ⟨⟨y, ?_⟩, ?_, hne⟩, fun b hb => ?_⟩
    · have e1 : ((i + 1 : Nat) : Int) = (i : Int) + 1 := by omega
      rw [e1]; exact he2
    · obtain ⟨o, h1, r⟩ := hit'
      exact ⟨o, (sb.2 it (Ne.symm hne)).trans h1, r⟩
    · rw [upd_ne (by rcases two hb with rfl | rfl; exact Nat.ne_of_lt el; exact Nat.ne_of_lt il)]
      exact (hf b hb).1
  done := fun X hP hw hK hc i pins s σ H E I hf st hg => by
    subst hP hw hK
    obtain ⟨⟨old, he⟩, hit, hne⟩ := st
    obtain ⟨xs, hq, hx⟩ := hg
    obtain ⟨its, rv, p, hz⟩ := I.tuple hq
    have pt : s.heap.IsTuple a its.toArray := p
    obtain ⟨f0, f1, f2, f3, f4, f5⟩ := hf it (by simp)
    have hl := rv.length
    have hh : X.A.in1.handled = none := by rw [show X.A.in1.handled = X.A.handled from rfl]; exact I.ok.hd hc
    unfold pyNext
    have hTy : s.TypeIs (.ref e) "enumerate" := ⟨_, he, rfl⟩
    refine wpAny_bind (wpAny_attempt (wpAny_callSpecial?_slot (name := Str.ofString "__next__") hTy F.slot_enumerate_next (wpAny_call_entry F.slot_enumerate_next hTy F.entry_enumerate_next ?_ (F.args_enumerate_next_1 _))))
    show wpAny _ _ (field (.ref e) 2 >>= _) _ _ _
    refine wpAny_bind (wpAny_field he rfl (x := .ref it) rfl (wpAny_bind (PySem.wpAny_nextOf_tuple_end (i := i) (by first | exact hh | (simp only [Around.in1]; exact hh) | (show X.A.in1.in1.handled = none; exact hh)) hit pt (by rw [List.getElem?_toArray, List.getElem?_eq_none]; omega) fun h' x ex ⟨o, ho, hc⟩ => ?_)))
    refine wpAny_bind (wpAny_isInstance (T := "StopIteration") (b := true) ⟨o, ho, hc⟩ isSubtype_stop ?_)
    exact wpAny_pure ⟨rfl, I.turned (t' := s.toks) (fun b o hb q => ex b o hb q) f0 f1 f3 f4 f5⟩
  self := fun A i s Q E ⟨⟨_, he⟩, _⟩ h => wpAny_pyIter_enum he h
end EnT
namespace Mir
open PySem PySem.Spec PyProof.Rows L2
section
variable {X : Cx} {W : WX} {k ka kb κ : Kd} {pos p p2 tpos : Pos} {e a b c : Expr} {es elts : List Expr} {j n kk : Nat} {x : Str} {fs : AF} {fa fb fc : EF} {mg : Str → Option Value}
def tEnA (K : PySem.W.Frag) (ta : TA) : TI := fun σ H R => ta σ H fun vs H1 => (∃ a xs, vs = [.ref a] ∧ SqL K H1 a xs ∧ R (Ite K a) H1) ∨ (∃ a xs, vs = [.ref a] ∧ SqT K H1 a xs ∧ R (EnT.It1 K a) H1)
theorem pi_enA {ta : TA} (ha : PA X [e] ta) (hm : X.mg "enumerate" = none) (hg : Gl X "enumerate") (hs1 : starEach [e] X.env = [(false, eval e X.env)]) :
    PI X (.Tuple elts kk tpos) (.Call (.Name "enumerate" p) [e] [] pos) (tEnA X.K ta) := by
  refine ⟨fun pins s σ H R I h => ?_⟩
  refine Call_ (ld_blt I hg hm boot_enumerate (PyProof.Rows.callWith_type1 (thn (ha.run pos pins s σ H _ I h) fun us s1 ⟨vs, H1, I1, r1, q1⟩ => ?_) hs1 rfl))
  have fin : ∀ z ∈ [s1.heap.objs.size + 1, s1.heap.objs.size], s1.heap.objs.size ≤ z := fun z hz => by
    rcases EnT.two hz with rfl | rfl
    · exact Nat.le_succ _
    · exact Nat.le_refl _
  rcases q1 with ⟨a, xs, ev, hq, q⟩ | ⟨a, xs, ev, hq, q⟩
  · subst ev
    rw [Vals.ref1 r1]
    obtain ⟨its, rv, p', hz⟩ := I1.list hq
    refine call_enumerate_list p'.isList fun h' he hit hsz hk => wpAny_pyIter_enum he ?_
    exact ⟨s1.heap.objs.size + 1, [s1.heap.objs.size + 1, s1.heap.objs.size], _, _, H1, rfl, I1.kept (t' := s1.toks) hk, turn_enum a (s1.heap.objs.size + 1) s1.heap.objs.size, ⟨⟨.none, he⟩, hit, Nat.succ_ne_self _⟩, fun b hb => I1.fpOk (fin b hb) (I1.hok.fresh (fin b hb)), q⟩
  · subst ev
    rw [Vals.ref1 r1]
    obtain ⟨its, rv, p', hz⟩ := I1.tuple hq
    refine EnT.call1 (PySem.begins_tuple a its.toArray) p' fun h' he hit hk => wpAny_pyIter_enum he ?_
    exact ⟨s1.heap.objs.size + 1, [s1.heap.objs.size + 1, s1.heap.objs.size], _, _, H1, rfl, I1.kept (t' := s1.toks) hk, EnT.turn1 a (s1.heap.objs.size + 1) s1.heap.objs.size, ⟨⟨.none, he⟩, ⟨_, hit, rfl, rfl⟩, Nat.succ_ne_self _⟩, fun b hb => I1.fpOk (fin b hb) (I1.hok.fresh (fin b hb)), q⟩
theorem pair_rep {ρ : Rw} {H' : Hp} {S : Addr → Prop} {T : Addr} {i : Nat} {x : PV} {v : V} {G0 : Hp} (hT : H' T = some (.tup [.int (i : Nat), v])) (nS : ¬ S T) (hG : ∀ b o, G0 b = some o → Hx H' S b = some o) (r : Rep ρ G0 x v) : Rep ρ (Hx H' S) (.tup [.int (i : Nat), x]) (.ref T) := by
  unfold Rep
  exact ⟨T, _, rfl, by rw [Hx_out nS]; exact hT, .cons (Flat.int _ _ _) (.cons (r.mono hG) .nil)⟩
theorem walk_enL {K : PySem.W.Frag} {ρ : Rw} {G0 G : Hp} {a : Addr} {xs : List PV} {vs : List V} (g : G a = some (.lst vs)) (l : RepL ρ G0 xs vs) : Walk ρ G0 G (Ite K a) (enL 0 xs) := fun i H hG => by
  have e : SqL K H a vs := .inl (.inl (hG _ _ g))
  refine ⟨fun y hy => ?_, fun hn => ⟨vs, e, by rw [l.length]; rw [enL_len] at hn; exact hn⟩⟩
  obtain ⟨x, hx, rfl⟩ := enL_get hy
  rw [Nat.zero_add]
  obtain ⟨v, hv, r⟩ := l.get hx
  refine ⟨⟨vs, v, e, hv⟩, fun u H' hy => ?_⟩
  obtain ⟨T, w, rfl, nT, rfl, hw⟩ := hy
  have e2 : w = v := Option.some.inj ((hw vs e).symm.trans hv)
  subst e2
  exact ⟨same_upd nT, fun S hS hg => pair_rep upd_same (fun z => (hS T z).1.1 nT) hg r⟩
theorem walk_enT {K : PySem.W.Frag} {ρ : Rw} {G0 G : Hp} {a : Addr} {xs : List PV} {vs : List V} (g : G a = some (.tup vs)) (l : RepL ρ G0 xs vs) : Walk ρ G0 G (EnT.It1 K a) (enL 0 xs) := fun i H hG => by
  have e : SqT K H a vs := .inl (.inl (hG _ _ g))
  refine ⟨fun y hy => ?_, fun hn => ⟨vs, e, by rw [l.length]; rw [enL_len] at hn; exact hn⟩⟩
  obtain ⟨x, hx, rfl⟩ := enL_get hy
  rw [Nat.zero_add]
  obtain ⟨v, hv, r⟩ := l.get hx
  refine ⟨⟨vs, v, e, hv⟩, fun u H' hy => ?_⟩
  obtain ⟨T, w, rfl, nT, rfl, hw⟩ := hy
  have e2 : w = v := Option.some.inj ((hw vs e).symm.trans hv)
  subst e2
  exact ⟨same_upd nT, fun S hS hg => pair_rep upd_same (fun z => (hS T z).1.1 nT) hg r⟩
def unS : PV → M (List PV)
  | .lst xs => ret xs
  | .tup xs => ret xs
  | _ => fail
def iEn (fa : EF) : AF := fun env => bnd (fa env) fun x => bnd (unS x) fun xs => ret (enL 0 xs)
theorem mi_en (he : MEk X W k e fa) (hm : X.mg "enumerate" = none) (hk : isBo k = false) (hg : Gl X "enumerate" := by rfl) (hs1 : starEach [e] X.env = [(false, eval e X.env)] := by rfl) (hs : starEach [e] X.env = (false, eval e X.env) :: starEach [] X.env := by rfl) :
    MI X W false (.Tuple elts kk tpos) (.Call (.Name "enumerate" p) [e] [] pos) (iEn fa) := pi_imp (pi_enA (pa_cons he pa_nil hs) hm hg hs1) fun σ H Q q => by
  obtain ⟨ρ, F, B, env, ad, r, m, w⟩ := q
  refine ⟨ρ, F, B, env, ad, r, m, wpM_mono (wpM_bnd w) (fun y r1 w1 v H1 e1 o1 h1 => ?_) fun _ _ z => z⟩
  cases y with
  | lst xs =>
    have w2 : ∀ J H', Ext ρ H H' → RowAt ρ H' r1 → _ := w1
    obtain ⟨a, vs, rfl, g, l, n, ns⟩ := have_lst (H0 := H) (S := Ex F env ad) (fun b => m.there) m.exρ h1
    exact .inl ⟨a, vs, rfl, .inl (.inl g), w2 _ H1 e1 o1 (walk_enL (stay_at g n fun _ => ns hk) l)⟩
  | tup xs =>
    have w2 : ∀ J H', Ext ρ H H' → RowAt ρ H' r1 → _ := w1
    obtain ⟨a, vs, rfl, g, l, n, ns⟩ := have_tup m.exρ h1
    exact .inr ⟨a, vs, rfl, .inl (.inl g), w2 _ H1 e1 o1 (walk_enT (stay_at g n fun _ => ns) l)⟩
  | _ => exact w1.elim
end
end Mir

namespace Mir
open PySem PySem.Spec PyProof.Rows L2
/-! ### in a global tuple of texts -/
/-- x names a tuple of texts of the written part -/
structure GTup (K : PySem.W.Frag) (mg : Str → Option Value) (x : Str) (ys : List Str) : Prop where
  ex : ∃ a, mg x = some (.ref a) ∧ ∀ H : Hp, SqT K H a (ys.map V.str)
def eKin (neg : Bool) (ys : List Str) (fa : EF) : EF := fun env => bnd (fa env) fun x => match x with
  | .str s => ret (.bl (if neg = true then !ys.any (fun y => y == s) else ys.any fun y => y == s))
  | _ => fail
section
variable {X : Cx} {W : WX} {k ka kb κ : Kd} {pos p p1 p2 tpos : Pos} {e a b c : Expr} {es elts : List Expr} {j j' n kk : Nat} {x : Str} {fs : AF} {fa fb fc : EF} {mg : Str → Option Value}
theorem inV_str (s : Str) : ∀ ys : List Str, inV (.str s) (ys.map V.str) = ys.any fun y => y == s
  | [] => rfl
  | y :: ys => by
    have := inV_str s ys
    unfold inV at this ⊢
    rw [List.map_cons, List.any_cons, List.any_cons, this]; rfl
theorem flat_strs : ∀ ys : List Str, (ys.map V.str).all flatV = true
  | [] => rfl
  | y :: ys => by rw [List.map_cons, List.all_cons, flat_strs ys]; rfl
theorem have_str {ρ : Rw} {H0 H : Hp} {S : Addr → Prop} {i : Str} {v : V} (h : Have ρ k H0 H S (.str i) v) : v = .str i := (hb_str h.b).1
end

/-! ### raise C(e, ..) of a class that keeps fields -/
/-- what C's __init__ does -/
def spI (K : PySem.W.Frag) (C : Addr) (fl : List Str) : Sp := fun vs H Q _ => ∃ (a : Addr) (ys : List V), vs = .ref a :: ys ∧ ys.length = fl.length ∧ H a = some (exo a C none) ∧
  ∀ dx H', H dx = none → dx ≠ a → (∀ b, b ≠ a → b ≠ dx → H' b = H b) → H' a = some (exo a C (some dx)) → H' dx = some (exd dx (fl.zip ys).reverse) → Q .non H'
structure ExI (P : Program) (w : World) (K : PySem.W.Frag) (mg : Str → Option Value) (base : Heap) (k : Nat) (x : Str) (fl : List Str) : Prop where
  ex : ∃ C fI fd ps, mg x = some (.ref C) ∧ OexC K C ∧ PySem.W.findIn K (.ref C) "__init__" = some (some (.ref fI)) ∧ PySem.W.typeIn K (.ref fI) = some (.type "function") ∧ FnOk P w K mg base (L2.CX P w) k fI fd ps (spI K C fl) ∧ Binds K fd ps []
section
variable {P : Program} {w : World} {K : PySem.W.Frag} {mg : Str → Option Value} {base : Heap}
theorem init1 {x qual y : Str} {st : Stmt} {f C : Addr} {fd : FuncData} {N ps : List Str} {k : Nat} {fl : Str} (F : Fun K x qual st f fd) (S : FnScope N ps (defScope st)) (hn : ps.length = 2) (T : OexC K C) (hno : PySem.W.findIn K (.ref C) fl = some none)
    (hbody : ∀ (cdv : Value) (A : Around) (outer : List PySem.Env) (s : Shared) (H : Hp) (E : XK), PSs (cxOf (L2.CX P w) P w K mg base N qual (defScope st) f cdv A outer s H E) (defBody st) (tOst K fl (tVar 0) (tVar 1))) (hN : N.length = 2) : FnOk P w K mg base (L2.CX P w) (k + 1) f fd ps (spI K C [fl]) := by
  refine F.okX S (fun vs H Q E h => ?_) (fun cdv A outer s H vs Q E hr h => ⟨_, hbody cdv A outer s H E, ?_⟩)
  · obtain ⟨a, ys, rfl, hl, _⟩ := h
    rw [hn, List.length_cons, hl]; rfl
  · obtain ⟨a, ys, rfl, hl, ha, q⟩ := h
    match ys, hl with
    | [y], _ =>
      have st0 : L2.start N [.ref a, y] = [some (.ref a), some y] := by
        unfold L2.start
        rw [hN]; rfl
      rw [st0]
      refine ⟨y, rfl, .ref a, rfl, a, C, rfl, T, hno, .inl ⟨ha, fun dx nd ne => ?_⟩⟩
      refine q dx _ nd ne (fun b h1 h2 => by rw [upd_ne h1, upd_ne h2]) upd_same ?_
      rw [upd_ne ne, upd_same]; rfl
end
def sRaiseF (x : Str) (fl : List Str) (fa : AF) : Env → M Fl := fun env => bnd (fa env) fun ys => if (ys.all flP && decide (ys.length = fl.length)) = true then raise ⟨x, fl.zip ys⟩ else fail
theorem flat_of {ρ : Rw} {G : Hp} {x : PV} {v : V} (hx : flP x = true) (r : Rep ρ G x v) : Flat x v := by
  intro ρ' G'
  cases x with
  | non => unfold Rep at r ⊢; exact r
  | bl _ => unfold Rep at r ⊢; exact r
  | int _ => unfold Rep at r ⊢; exact r
  | str _ => unfold Rep at r ⊢; exact r
  | _ => cases hx
theorem zip_flat {ρ : Rw} {G : Hp} {n : Str} {x : PV} : ∀ {l : List Str} {ys : List PV} {vs : List V}, l.length ≤ 2 → l.Nodup → ys.all flP = true → RepL ρ G ys vs → (n, x) ∈ l.zip ys → ∃ v, (l.zip vs).reverse.lookup n = some v ∧ Flat x v := by
  intro l ys vs h2 nd ha hr hm
  match l, ys, vs with
  | [], _, _ => cases hm
  | [a], [], _ => cases hm
  | [a], y :: ys, vs =>
    unfold RepL at hr
    obtain ⟨v, w, rfl, h, _⟩ := hr
    rw [List.all_cons, Bool.and_eq_true] at ha
    simp only [List.zip_cons_cons, List.zip_nil_left, List.mem_cons, List.not_mem_nil, or_false, Prod.mk.injEq] at hm
    obtain ⟨rfl, rfl⟩ := hm
    exact ⟨v, by simp [List.lookup], flat_of ha.1 h⟩
  | [a, b], [], _ => cases hm
  | [a, b], [y], vs =>
    unfold RepL at hr
    obtain ⟨v, w, rfl, h, h'⟩ := hr
    unfold RepL at h'
    subst h'
    rw [List.all_cons, Bool.and_eq_true] at ha
    simp only [List.zip_cons_cons, List.zip_nil_right, List.mem_cons, List.not_mem_nil, or_false, Prod.mk.injEq] at hm
    obtain ⟨rfl, rfl⟩ := hm
    exact ⟨v, by simp [List.lookup], flat_of ha.1 h⟩
  | [a, b], y :: z :: ys, vs =>
    unfold RepL at hr
    obtain ⟨v, w, rfl, h, hr⟩ := hr
    unfold RepL at hr
    obtain ⟨v', w', rfl, h', hr⟩ := hr
    rw [List.all_cons, Bool.and_eq_true, List.all_cons, Bool.and_eq_true] at ha
    have nab : a ≠ b := fun z => by rw [z] at nd; simp at nd
    simp only [List.zip_cons_cons, List.zip_nil_left, List.mem_cons, List.not_mem_nil, or_false, Prod.mk.injEq] at hm
    rcases hm with ⟨rfl, rfl⟩ | ⟨rfl, rfl⟩
    · have e : (n == b) = false := by simpa using nab
      exact ⟨v, by simp [List.lookup, e], flat_of ha.1 h⟩
    · exact ⟨v', by simp [List.lookup], flat_of ha.2.1 h'⟩
  | _ :: _ :: _ :: _, _, _ => exact absurd h2 (by simp)
section
variable {X : Cx} {W : WX} {k ka kb κ : Kd} {pos p p1 p2 tpos : Pos} {e a b c : Expr} {es elts : List Expr} {j j' n kk : Nat} {x : Str} {fs : AF} {fa fb fc : EF} {mg : Str → Option Value}
theorem passF {P : Program} {w : World} : Passes (L2.CX P w) X (fun _ _ _ => False) := fun pins σ H s e s' I hx => by
  obtain ⟨_, _, _, _, _, _, _, _, _, _, _, _, z⟩ := hx
  exact z.elim
theorem ms_raiseF {fl : List Str} (T : Ct X W j) (G : ExI X.prog X.w X.K X.mg X.base j' x fl) (hj : j' + 1 ≤ j) (ha : MLk X W .cl (e :: es) fs) (h2 : fl.length ≤ 2 := by decide) (nd : fl.Nodup := by decide) (hg : Gl X x := by rfl) (hdb : (x == ("__debug__" : Str)) = false := by decide)
    (he : starEach (e :: es) X.env = (false, eval e X.env) :: starEach es X.env := by rfl) (hpl : (backTo p1 (starEach es X.env)).any (·.1) = false := by rfl) :
    MS0 X W (.Raise (some (.Call (.Name x p) (e :: es) [] p1)) none pos) (sRaiseF x fl fs) := by
  obtain ⟨C, fI, fd, ps, hm, OC, hi, ht, Fn, hb⟩ := G.ex
  refine ps_imp (ps_raise T.calm T.tk (pmk_oex OC hi ht Fn (T.hr.mono hj) hb .nil passF hg hm ha hdb he hpl)) fun D σ H q => ?_
  obtain ⟨ρ, F, B, env, ad, r, m, w⟩ := q
  refine ⟨ρ, F, B, env, ad, r, m, wpM_mono (wpM_bnd w) (fun ys r1 w1 vs H1 e1 o1 h1 => ?_) fun _ _ z => z⟩
  obtain ⟨hc, w2⟩ := wpM_ite w1
  rw [Bool.and_eq_true] at hc
  have hlen : ys.length = fl.length := of_decide_eq_true hc.2
  have hr := h1.rep
  have hvl : vs.length = fl.length := by rw [hr.length, hlen]
  refine ⟨by omega, fun a na => ⟨a, vs, by rw [List.append_nil], hvl, upd_same, fun dx H' nd1 ne same ha' hd' => ?_⟩⟩
  rw [upd_ne ne] at nd1
  refine ⟨rfl, dx, (fl.zip vs).reverse, ha', hd', nd1, ?_⟩
  have sm : Same H1 (upd (del H' a) dx (.xd (fl.zip vs).reverse)) := fun b o q => by
    have h1 : b ≠ a := ne_of_none q na
    have h2 : b ≠ dx := ne_of_none q nd1
    rw [upd_ne h2, del_ne h1, same b h1 h2, upd_ne h1]
    exact q
  refine w2 (.ref C) (some dx) _ (e1.trans (.same sm)) (o1.same sm) ⟨hm, .inr ⟨dx, _, rfl, upd_same, fun nm xv hx => ?_⟩⟩
  exact zip_flat (n := nm) h2 nd hc.1 hr hx
end
end Mir

/-! try: body; several clauses «except C as e» -/
namespace TryN
open PySem PySem.Spec PyProof.Rows L2
/-- the exception a has landed in X's frame -/
structure Hit (X : Cx) (pins : List (Addr × Obj)) (σ : L2.St) (H : Hp) (cls : Value) (d : Option Addr) (a : Addr) (B : Heap) (sI s : Shared) : Prop where
  ok : X.Ok
  st : X.stack = X.env :: X.outer
  fr : X.env.frame = some X.env.locals
  I : Inv X pins σ H sI
  nb : ∀ b o, sI.heap.get? b = some o → b ∉ frs X.stack → B.get? b = some o
  up : sI.heap.UpToSlots s.heap
  fl : HandSPX.FlyingZ B (X.env :: X.outer) a (Zc cls d) s.heap
  na : H a = none
  os : s.os = sI.os
  ag : AllBare s.gens
section
variable {X : Cx} {pins : List (Addr × Obj)} {σ : L2.St} {H : Hp} {cls : Value} {d : Option Addr} {a : Addr} {B : Heap} {sI s : Shared}
theorem Hit.inv (h : Hit X pins σ H cls d a B sI s) : Inv X pins σ H s := by
  have := h.I.landed (s' := s) h.nb h.fl.1 h.up h.os h.ag
  exact this
theorem Hit.next (h : Hit X pins σ H cls d a B sI s) {h4 : Heap} (fl4 : HandSPX.FlyingZ B (X.env :: X.outer) a (Zc cls d) h4) (up4 : s.heap.UpToSlots h4) : Hit X pins σ H cls d a B sI { s with heap := h4 } :=
  ⟨h.ok, h.st, h.fr, h.I, h.nb, h.up.trans up4, fl4, h.na, h.os, h.ag⟩
theorem Hit.apart (h : Hit X pins σ H cls d a B sI s) {oe : Obj} {vs : Array Value} (he : s.heap.get? a = some oe) (hd : oe.data = .fields vs) : a ≠ X.env.locals ∧ a ∉ X.fs := by
  have key : a ∉ frs (X.env :: X.outer) := fun hm => by
    obtain ⟨_, o2, e2, nf⟩ := h.fl.2.2.1.mem hm
    cases he.symm.trans e2
    exact nf _ hd
  refine ⟨fun z => key (List.mem_filterMap.mpr ⟨X.env, List.mem_cons_self, by rw [h.fr, z]⟩), fun hm => ?_⟩
  obtain ⟨e0, m0, q0⟩ := List.mem_filterMap.mp hm
  exact key (List.mem_filterMap.mpr ⟨e0, List.mem_cons_of_mem _ m0, q0⟩)
theorem Hit.suite (h : Hit X pins σ H cls d a B sI s) : ∃ oe vs, s.heap.get? a = some oe ∧ Zc cls d oe ∧ oe.data = .fields vs ∧ Inv (X.suite a ((a, oe) :: (X.pn ++ pins))) [] σ H s := by
  obtain ⟨oe, vs, he, hz, hd⟩ := h.fl.there
  obtain ⟨n1, n2⟩ := h.apart he hd
  exact ⟨oe, vs, he, hz, hd, h.inv.suite he hd h.na n1 n2⟩
/-- no clause is left: it goes on its way -/
theorem Hit.out {W : WX} {D : Ends} (h : Hit X pins σ H cls d a B sI s) (tk : Takes X W) (w : W cls d σ H) : wpAny (model X.prog X.w) X.A (handleBy (.ref a) X.env []) (SP X pins D) X.xe s := by
  refine wpAny_handleBy_nil ?_
  obtain ⟨_, _, _, oe, vs, T, _, _, he, _, hd, h1, _⟩ := id h.fl
  have nn : ¬ ((Value.ref T == Value.none) = true) := by simp
  have end_ : wpAny (model X.prog X.w) X.A (setFlight (.ref a) X.env.frame) (fun _ s4 => wpAny (model X.prog X.w) X.A (throw (.ref a) : Sem Flow) (SP X pins D) X.xe s4) X.xe s := by
    rw [h.fr]
    refine HandSPX.setFlight_upZ h.fl fun h4 hh up4 => wpAny_throw (tk _ _ ⟨a, B, sI, pins, σ, H, cls, d, rfl, h.I, h.nb, h.up.trans up4, .inr (.inr ?_), h.na, h.os, h.ag, w⟩)
    rw [h.st]; exact hh
  unfold PySem.passOn
  refine wpAny_bind (wpAny_field he hd h1 ?_)
  rw [if_neg nn]
  first
    | exact wpAny_bind end_
    | exact wpAny_bind (wpAny_pure (wpAny_bind end_))
end
/-- the ends of a suite: slot i's name goes -/
def endsN (D : Ends) (i : Nat) : Ends := { nx := fun σ' H' => D.nx (σ'.set i none) H', rt := D.rt, bk := fun σ' H' => D.bk (σ'.set i none) H', ct := fun σ' H' => D.ct (σ'.set i none) H' }
abbrev Cl : Type := Value × Nat × (Addr → Value → Option Addr → TS)
/-- what the clauses want, one after the other -/
def wN (K : PySem.W.Frag) (W : WX) (D : Ends) : List Cl → WX
  | [] => W
  | (c, i, ts) :: r => fun cls d σ H => ∃ b, PySem.W.exmOne K cls c = some b ∧ (b = true → ∀ a, H a = none → ts a cls d (endsN D i) (σ.set i (some (.ref a))) H) ∧ (b = false → wN K W D r cls d σ H)
inductive Hds (X : Cx) : List ExceptHandler → List Cl → Prop
  | nil : Hds X [] []
  | cons {x n : Str} {c : Value} {i : Nat} {ts : Addr → Value → Option Addr → TS} {b₀ : Stmt} {suite : List Stmt} {np pos' : Pos} {hds : List ExceptHandler} {l : List Cl} (hc : Names X x c) (hi : X.N[i]? = some n) (hl : X.env.kindOf n = some .local)
      (hsu : ∀ (a : Addr) (oe : Obj) (cls : Value) (d : Option Addr) (pn : List (Addr × Obj)), Zc cls d oe → (∃ vs, oe.data = .fields vs) → PSs (X.suite a ((a, oe) :: pn)) (b₀ :: suite) (ts a cls d)) (r : Hds X hds l) :
      Hds X (.ExceptHandler (some (.Name x np)) (some n) (b₀ :: suite) pos' :: hds) ((c, i, ts) :: l)
section
variable {X : Cx} {pins : List (Addr × Obj)} {σ : L2.St} {H : Hp} {cls : Value} {d : Option Addr} {a : Addr} {B : Heap} {sI s : Shared} {W : WX} {D : Ends}
theorem Hit.go (tk : Takes X W) (hN : X.N.Nodup) {hds : List ExceptHandler} {l : List Cl} (k : Hds X hds l) : ∀ {s : Shared}, Hit X pins σ H cls d a B sI s → wN X.K W D l cls d σ H →
    wpAny (model X.prog X.w) X.A (handleBy (.ref a) X.env hds) (SP X pins D) X.xe s := by
  induction k with
  | nil => exact fun h w => h.out tk w
  | @cons x n c i ts b₀ suite np pos' hds l hc hi hl hsu r ih =>
    intro s h w
    obtain ⟨b, hb, yes, no⟩ := w
    obtain ⟨oe, vs, he, hz, hd, S⟩ := h.suite
    refine wpAny_handleBy_cons (codeAny_handlers_test ?_) (fun z => by cases z)
    have lk1 : PySem.W.Looks (model X.prog X.w) s.heap (typeOf (.ref a)) cls := fun A Q E s0 k q => wpAny_typeOf_ref (k _ _ he) (by rw [hz.1]; exact q)
    have lk2 := PySem.W.exm_one (M := model X.prog X.w) h.inv.kIn lk1 hb
    have name : ∀ {Q : Value → Shared → Prop} {E : Value → Shared → Prop}, Q c s → wpAny (model X.prog X.w) (X.A.mark (some (.ref a))) (eval (.Name x np) X.env) Q E s := fun {Q E} q => by
      obtain ⟨g1, g2, g3 | ⟨g3, g4, g5⟩⟩ := hc
      · exact ld_glob (X := X.suite a ((a, oe) :: (X.pn ++ pins))) S g1 g3 q g2
      · exact ld_blt (X := X.suite a ((a, oe) :: (X.pn ++ pins))) S g1 g3 g4 q g5 g2
    refine name (lk2.here ?_)
    cases b with
    | false =>
      show wpAny _ X.A (handleBy (.ref a) X.env hds) _ _ _
      exact ih h (no rfl)
    | true =>
      refine codeAny_handlers_suite_as (HandSPX.lands_againZ h.fl fun h4 fl4 up4 => ?_)
      have h' := h.next fl4 up4
      obtain ⟨oe4, vs4, he4, hz4, hd4, S4⟩ := h'.suite
      refine store_ok (X := X.suite a ((a, oe4) :: (X.pn ++ pins))) (v := .ref a) S4 hN hi (.inl hl) rfl (fun s5 S5 => ?_) (.inr hl)
      refine wpAny_mono ((hsu a oe4 cls d (X.pn ++ pins) hz4 ⟨_, hd4⟩).run [] s5 _ H _ S5 (yes rfl a h.na)) (fun f s6 hsp => ?_) (fun _ _ z => False.elim z)
      have gone : ∀ {σ6 : L2.St} {H6 : Hp} {Q : Shared → Prop}, Inv (X.suite a ((a, oe4) :: (X.pn ++ pins))) [] σ6 H6 s6 → (∀ s7, Inv X pins (σ6.set i none) H6 s7 → Q s7) →
          wpAny (model X.prog X.w) X.A (do bindName X.env n .none; unbindBehindTheSuite X.env n pos') (fun _ s7 => Q s7) X.xe s6 := fun S6 hq => gone_ok (S6.unsuite h.ok) hN hi hl hq
      cases f with
      | ret u =>
        obtain ⟨v6, σ6, H6, S6, r6, q6⟩ := hsp
        exact gone S6 fun s7 J7 => ⟨v6, σ6.set i none, H6, J7, r6, q6⟩
      | next =>
        obtain ⟨σ6, H6, S6, q6⟩ := hsp
        exact gone S6 fun s7 J7 => ⟨σ6.set i none, H6, J7, q6⟩
      | brk =>
        obtain ⟨σ6, H6, S6, q6⟩ := hsp
        exact gone S6 fun s7 J7 => ⟨σ6.set i none, H6, J7, q6⟩
      | cont =>
        obtain ⟨σ6, H6, S6, q6⟩ := hsp
        exact gone S6 fun s7 J7 => ⟨σ6.set i none, H6, J7, q6⟩
theorem ps_tryN {body : List Stmt} {h₀ : ExceptHandler} {hds : List ExceptHandler} {l : List Cl} {pos : Pos} {tb : WX → TS} (hs : X.stack = X.env :: X.outer) (hf : X.env.frame = some X.env.locals) (tk : Takes X W) (hN : X.N.Nodup)
    (hb : ∀ (W : WX) (pn : List (Addr × Obj)) (xe : Value → Shared → Prop), Takes (X.tr pn xe) W → PassesOwn (model X.prog X.w) X.A X.env xe → PSs (X.tr pn xe) body (tb W))
    (hh : Hds X (h₀ :: hds) l) : PS X (.Try body (h₀ :: hds) [] [] pos) (fun D σ H => tb (wN X.K W D l) D σ H) := by
  refine ⟨fun pins s σ H D I h => ?_⟩
  have ok := I.ok
  refine wpAny_Try_except ?_
  refine wpAny_mono ((hb (wN X.K W D l) (X.pn ++ pins) (fun e s₁ => wpAny (model X.prog X.w) X.A (noteFrame e X.env) (fun _ s₂ => wpAny (model X.prog X.w) X.A (setFlight e none) (fun _ s₃ =>
    wpAny (model X.prog X.w) X.A (handleBy e X.env (h₀ :: hds)) (SP X pins D) X.xe s₃) X.xe s₂) X.xe s₁) (fun u s' xx => ?_) PassesOwn.looking).run [] s σ H D (I.toTry _) h) (fun f s1 hsp => ?_) (fun e s1 he => he)
  · obtain ⟨a, B, sI, pins', σ', H', cls, d, rfl, J', nb, up, sky, na, os, ag, w⟩ := xx
    show wpAny (model X.prog X.w) X.A (noteFrame (.ref a) X.env) _ _ _
    refine Sky.land Zc.steady (by rw [ok.frames, hs]) hf (by rw [← hs]; exact sky) fun h3 fl3 up3 => ?_
    exact Hit.go tk hN hh ⟨ok, hs, hf, J'.ofTry ok, nb, up.trans up3, fl3, na, os, ag⟩ w
  · cases f with
    | ret u =>
      obtain ⟨v, σ', H', J', r, q⟩ := hsp
      exact ⟨v, σ', H', J'.ofTry ok, r, q⟩
    | next =>
      obtain ⟨σ', H', J', q⟩ := hsp
      exact wpAny_execs_nil ⟨σ', H', J'.ofTry ok, q⟩
    | brk =>
      obtain ⟨σ', H', J', q⟩ := hsp
      exact ⟨σ', H', J'.ofTry ok, q⟩
    | cont =>
      obtain ⟨σ', H', J', q⟩ := hsp
      exact ⟨σ', H', J'.ofTry ok, q⟩
end
end TryN

namespace Mir
open PySem PySem.Spec PyProof.Rows L2
/-- what the written part says of the classes ns, all under S, none with a class attribute of the names fl -/
structure XTab (K : PySem.W.Frag) (mg : Str → Option Value) (S : Str) (ns fl : List Str) : Prop where
  cls : ∀ x ∈ ns, ∃ C, mg x = some (.ref C) ∧ ExcC K C ∧ XfC K C ∧ (∀ f ∈ fl, PySem.W.findIn K (.ref C) f = some none) ∧ ∃ s, mg S = some (.ref s) ∧ PySem.W.kitOne K (.ref C) (.ref s) = some true
  exm : ∀ x ∈ ns, ∀ y ∈ ns, ∀ C D, mg x = some C → mg y = some D → PySem.W.exmOne K C D = some (decide (x = y))
inductive HI where
  | c (s : Str) | f (n : Str)
inductive HV where
  | one (s : Str) | lst (is : List HI)
def hItem (e : Exn) : HI → Option PV
  | .c s => if PyData.strOk s = true then some (.str s) else none
  | .f n => e.fs.lookup n
def hItems (e : Exn) : List HI → Option (List PV)
  | [] => some []
  | h :: r => (hItem e h).bind fun x => (hItems e r).map (x :: ·)
def hV (e : Exn) : HV → Option PV
  | .one s => if PyData.strOk s = true then some (.str s) else none
  | .lst is => if is.length ≤ 16777216 then (hItems e is).map .lst else none
theorem lookup_mem {n : Str} {x : PV} : ∀ {l : List (Str × PV)}, l.lookup n = some x → (n, x) ∈ l
  | [], h => by cases h
  | (m, y) :: r, h => by
    rw [List.lookup_cons] at h
    by_cases q : n = m
    · subst q
      simp at h
      subst h
      exact List.mem_cons_self
    · have e : (n == m) = false := by simpa using q
      rw [e] at h
      exact List.mem_cons_of_mem _ (lookup_mem h)
/-- the exception e is caught: at a, in slot i -/
structure Cau (mg : Str → Option Value) (ns : List Str) (i : Nat) (a : Addr) (cls : Value) (d : Option Addr) (σ : L2.St) (H : Hp) (e : Exn) : Prop where
  sl : σ[i]? = some (some (.ref a))
  ex : ExR mg H cls d e
  mem : e.nm ∈ ns
theorem call_isE2 {X : Cx} {a D : Addr} {d : Option Addr} {oe : Obj} {pn : List (Addr × Obj)} (C : ExcC X.K D) (hz : Zc (.ref D) d oe) (hf : ∃ vs, oe.data = .fields vs) : CallR (X.suite a ((a, oe) :: pn)) (.builtin "isinstance")
    (fun xs H Q => ∃ (c : V) (cv : Value) (b : Bool), xs = [.ref a, c] ∧ (∀ u, RelV c u → u = cv) ∧ PySem.W.kitOne X.K (.ref D) cv = some b ∧ (d = none ∨ ∃ dd fs, d = some dd ∧ H dd = some (.xd fs)) ∧ Q (.bl b) H) := by
  intro pins s σ H xs us Q I r h
  obtain ⟨c, cv, b, rfl, hcv, e, hd, q⟩ := h
  obtain ⟨u1, u2, rfl, rx, rt⟩ := Vals.two r
  cases rx
  have ec := hcv _ rt
  subst ec
  obtain ⟨hget, _⟩ := I.pin (a, oe) (List.mem_append.mpr (.inl List.mem_cons_self))
  obtain ⟨vs, hv⟩ := hf
  have nc : PySem.W.notCls oe = true := by unfold PySem.W.notCls; rw [hv] <;> rfl
  have J : ∃ od, PySem.W.InstAt s.heap a oe D od := by
    rcases hd with rfl | ⟨dd, fs, rfl, hx⟩
    · exact ⟨none, hget, hz.1, nc, by rw [hz.2]; trivial⟩
    · obtain ⟨mA, ⟨od, es, ep, h1, h2⟩, hr⟩ := (show ObjOk X.prog X.w H s.heap dd (.xd fs) from I.hok dd _ hx)
      exact ⟨some od, hget, hz.1, nc, by rw [hz.2]; exact h1⟩
  obtain ⟨od, J⟩ := J
  have ic : (PySem.W.clsIn X.K D).isSome = true := by
    obtain ⟨cd, hc, _⟩ := PySem.W.any_some C.hd
    rw [hc]; rfl
  exact PySem.W.kia_one (PySem.W.kitx_exc (od := od) ic C.hg C.hk C.hs C.ha C.hn C.ht C.hm) I.kIn J e (fun z => nomatch z) fun tk => ⟨.bl b, H, I.kept (t' := tk) fun _ _ z => z, rfl, q⟩
theorem pe_if {X : Cx} {e : Expr} {t : TE} {q : Prop} (h : q → PE X e t) (i : ∀ σ H Q, t σ H Q → q) : PE X e t := ⟨fun pins s σ H Q I z => (h (i σ H Q z)).run pins s σ H Q I z⟩
theorem pss_if {X : Cx} {e : List Stmt} {t : TS} {q : Prop} (h : q → PSs X e t) (i : ∀ D σ H, t D σ H → q) : PSs X e t := ⟨fun pins s σ H D I z => (h (i D σ H z)).run pins s σ H D I z⟩
section
variable {X : Cx} {W : WX} {S : Str} {ns fl : List Str} {i t : Nat} {a : Addr} {oe : Obj} {cls : Value} {d : Option Addr} {pn : List (Addr × Obj)} {pos p p1 p2 p3 p4 p5 : Pos} {x y en tn : Str} {hv : HV}
/-- what an exception that lies so knows of its class -/
theorem Cau.class {σ : L2.St} {H : Hp} {e : Exn} (c : Cau X.mg ns i a cls d σ H e) (G : XTab X.K X.mg S ns fl) : ∃ C, cls = .ref C ∧ ExcC X.K C ∧ XfC X.K C ∧ (∀ f ∈ fl, PySem.W.findIn X.K (.ref C) f = some none) ∧ ∃ s, X.mg S = some (.ref s) ∧ PySem.W.kitOne X.K (.ref C) (.ref s) = some true := by
  obtain ⟨C, h1, h2, h3, h4, h5⟩ := G.cls _ c.mem
  have : cls = .ref C := Option.some.inj (c.ex.1.symm.trans h1)
  exact ⟨C, this, h2, h3, h4, h5⟩
def tHi (mg : Str → Option Value) (ns : List Str) (i : Nat) (a : Addr) (cls : Value) (d : Option Addr) (h : HI) : TE := fun σ H Q => ∃ e x, Cau mg ns i a cls d σ H e ∧ hItem e h = some x ∧ ∀ v, Flat x v → Q v H
def tHis (mg : Str → Option Value) (ns : List Str) (i : Nat) (a : Addr) (cls : Value) (d : Option Addr) (h : List HI) : TA := fun σ H Q => ∃ e xs, Cau mg ns i a cls d σ H e ∧ hItems e h = some xs ∧ ∀ vs, (∀ ρ G, RepL ρ G xs vs) → Q vs H
def tHv (mg : Str → Option Value) (ns : List Str) (i : Nat) (a : Addr) (cls : Value) (d : Option Addr) (h : HV) : TE := fun σ H Q => ∃ e x, Cau mg ns i a cls d σ H e ∧ hV e h = some x ∧ ∀ v H', Same H H' → (∀ ρ S, (∀ b, S b → H b ≠ none) → Rep ρ (Hx H' S) x v) → Q v H'
theorem mhi_c {s : Str} {j : Nat} : PE (X.suite a ((a, oe) :: pn)) (.Constant (.str s) j pos) (tHi X.mg ns i a cls d (.c s)) := pe_imp pe_str fun σ H Q q => by
  obtain ⟨e, x, c, hx, k⟩ := q
  have hx : (if PyData.strOk s = true then some (PV.str s) else none) = some x := hx
  split at hx
  · rename_i ok
    cases hx
    exact k _ (Flat.str ok)
  · cases hx
theorem mhi_f {f : Str} (G : XTab X.K X.mg S ns fl) (hf : f ∈ fl) (hz : Zc cls d oe) (hd : ∃ vs, oe.data = .fields vs) (he : PE (X.suite a ((a, oe) :: pn)) (.Name en p) (tVar i)) (hb : attributeBase (.Name en p) f X.env (eval (.Name en p) X.env) = eval (.Name en p) X.env := by rfl) :
    PE (X.suite a ((a, oe) :: pn)) (.Attribute (.Name en p) f pos) (tHi X.mg ns i a cls d (.f f)) := by
  refine pe_if (q := ∃ e : Exn, e.nm ∈ ns ∧ X.mg e.nm = some cls) (fun ⟨e0, m0, g0⟩ => ?_) fun σ H Q ⟨e, x, c, _⟩ => ⟨e, c.mem, c.ex.1⟩
  obtain ⟨C, h1, h2, h3, h4, h5⟩ := G.cls _ m0
  have hC : cls = .ref C := Option.some.inj (g0.symm.trans h1)
  refine pe_imp (pe_xf (C := C) h3 (h4 f hf) hz hd he hb) fun σ H Q q => ?_
  obtain ⟨e, x, c, hx, k⟩ := q
  refine ⟨.ref a, c.sl, rfl, hC, ?_⟩
  have hm : (f, x) ∈ e.fs := lookup_mem hx
  rcases c.ex.2 with ⟨_, z⟩ | ⟨dx, fs, rfl, hd', hall⟩
  · rw [z] at hm; cases hm
  · obtain ⟨v, hv, fv⟩ := hall f x hm
    exact ⟨dx, fs, v, rfl, hd', hv, k v fv⟩
theorem mhs_nil : PA (X.suite a ((a, oe) :: pn)) [] (tHis X.mg ns i a cls d []) := pa_imp pa_nil fun σ H Q q => by
  obtain ⟨e, xs, c, hx, k⟩ := q
  cases hx
  exact k [] fun _ _ => .nil
theorem mhs_cons {h : HI} {hs : List HI} {b : Expr} {es : List Expr} (h1 : PE (X.suite a ((a, oe) :: pn)) b (tHi X.mg ns i a cls d h)) (h2 : PA (X.suite a ((a, oe) :: pn)) es (tHis X.mg ns i a cls d hs)) (hs' : starEach (b :: es) X.env = (false, eval b X.env) :: starEach es X.env := by rfl) :
    PA (X.suite a ((a, oe) :: pn)) (b :: es) (tHis X.mg ns i a cls d (h :: hs)) := pa_imp (pa_cons h1 h2 hs') fun σ H Q q => by
  obtain ⟨e, xs, c, hx, k⟩ := q
  obtain ⟨x, hx1, hx2⟩ := Option.bind_eq_some_iff.mp hx
  obtain ⟨ys, hy, rfl⟩ := Option.map_eq_some_iff.mp hx2
  exact ⟨e, x, c, hx1, fun v fv => ⟨e, ys, c, hy, fun vs hvs => k (v :: vs) fun ρ G => .cons (fv ρ G) (hvs ρ G)⟩⟩
theorem mhv_one {s : Str} {j : Nat} : PE (X.suite a ((a, oe) :: pn)) (.Constant (.str s) j pos) (tHv X.mg ns i a cls d (.one s)) := pe_imp pe_str fun σ H Q q => by
  obtain ⟨e, x, c, hx, k⟩ := q
  have hx : (if PyData.strOk s = true then some (PV.str s) else none) = some x := hx
  split at hx
  · rename_i ok
    cases hx
    exact k _ _ (Same.refl _) fun ρ S _ => Flat.str ok _ _
  · cases hx
theorem mhv_lst {hs : List HI} {es : List Expr} (h : PA (X.suite a ((a, oe) :: pn)) es (tHis X.mg ns i a cls d hs)) : PE (X.suite a ((a, oe) :: pn)) (.List es pos) (tHv X.mg ns i a cls d (.lst hs)) := pe_imp (pe_lst h) fun σ H Q q => by
  obtain ⟨e, x, c, hx, k⟩ := q
  have hx : (if hs.length ≤ 16777216 then (hItems e hs).map PV.lst else none) = some x := hx
  split at hx
  · rename_i hl
    obtain ⟨xs, h1, rfl⟩ := Option.map_eq_some_iff.mp hx
    refine ⟨e, xs, c, h1, fun vs hvs => ?_⟩
    have len : ∀ {is : List HI} {ys : List PV}, hItems e is = some ys → ys.length = is.length := fun {is} => by
      induction is with
      | nil => intro ys h; cases h; rfl
      | cons h r ih =>
        intro ys hy
        obtain ⟨x, _, h2⟩ := Option.bind_eq_some_iff.mp hy
        obtain ⟨zs, h3, rfl⟩ := Option.map_eq_some_iff.mp h2
        rw [List.length_cons, List.length_cons, ih h3]
    have lv : vs.length = hs.length := by
      have := (hvs ⟨0, 0, []⟩ H).length
      rw [this, len h1]
    refine ⟨by rw [lv, sizeLine_eq]; exact hl, fun q nq => k _ _ (same_upd nq) fun ρ S hS => new_lst hS (hvs ρ _) nq⟩
  · cases hx
/-- told = V if isinstance(e, S) else 'another' -/
def tSui (mg : Str → Option Value) (ns : List Str) (t i : Nat) (h : HV) (a : Addr) (cls : Value) (d : Option Addr) : TS := fun D σ H => ∃ e x, Cau mg ns i a cls d σ H e ∧ hV e h = some x ∧ ∀ v H', Same H H' → (∀ ρ S, (∀ b, S b → H b ≠ none) → Rep ρ (Hx H' S) x v) → D.nx (σ.set t (some v)) H'
theorem psu {V : Expr} {b : Str} {j : Nat} (G : XTab X.K X.mg S ns fl) (hz : Zc cls d oe) (hd : ∃ vs, oe.data = .fields vs) (hm : X.mg "isinstance" = none) (nd : X.N.Nodup)
    (hv' : PE (X.suite a ((a, oe) :: pn)) V (tHv X.mg ns i a cls d hv)) (he : PE (X.suite a ((a, oe) :: pn)) (.Name en p1) (tVar i)) (ht : X.N[t]? = some tn) (hx : Loc X.env.scope tn)
    (hf : X.fn tn = true ∨ X.env.scope.names.lookup tn = some .local) (hgS : Gl X S) (hg : Gl X "isinstance") (hdS : (S == ("__debug__" : Str)) = false)
    (h1 : starEach [.Name en p1, .Name S p3] X.env = (false, eval (.Name en p1) X.env) :: starEach [.Name S p3] X.env) (h2 : starEach [.Name S p3] X.env = (false, eval (.Name S p3) X.env) :: starEach [] X.env) (hpl : (backTo p4 (starEach [.Name S p3] X.env)).any (·.1) = false)
    (hT : ∀ whole, isTrue (.Call (.Name "isinstance" p2) [.Name en p1, .Name S p3] [] p4) X.env whole = (do let v ← whole; standAt (Expr.pos (.Call (.Name "isinstance" p2) [.Name en p1, .Name S p3] [] p4)); holding [v] (truthy v))) {spos : Pos} (hs' : swapsWith (.IfExp (.Call (.Name "isinstance" p2) [.Name en p1, .Name S p3] [] p4) V (.Constant (.str b) j p5) p) (some (.Name tn pos)) spos.line X.env = pure false) :
    PSs (X.suite a ((a, oe) :: pn)) [.Assign [.Name tn pos] (.IfExp (.Call (.Name "isinstance" p2) [.Name en p1, .Name S p3] [] p4) V (.Constant (.str b) j p5) p) spos] (tSui X.mg ns t i hv a cls d) := by
  refine pss_if (q := ∃ e : Exn, e.nm ∈ ns ∧ X.mg e.nm = some cls) (fun ⟨e0, m0, g0⟩ => ?_) fun D σ H ⟨e, x, c, _⟩ => ⟨e, c.mem, c.ex.1⟩
  obtain ⟨C, g1, g2, g3, g4, s, g5, g6⟩ := G.cls _ m0
  have hC : cls = .ref C := Option.some.inj (g0.symm.trans g1)
  subst hC
  refine pss_imp (pss_one (ps_set (X := X.suite a ((a, oe) :: pn)) nd ht hx (pe_ifExp (pt_val (pe_callB (X := X.suite a ((a, oe) :: pn)) (id := "isinstance") (call_isE2 g2 hz hd) hg hm rfl (pa_cons he (pa_cons (pe_glob (X := X.suite a ((a, oe) :: pn)) (v := .ref s) hgS g5 rfl hdS) pa_nil h2) h1) (by decide) (by decide) h1 hpl) hT) hv' pe_str) hs' hf)) fun D σ H q => ?_
  obtain ⟨e, x, c, hx, k⟩ := q
  refine ⟨.ref a, c.sl, .ref s, .ref s, true, rfl, fun u r => r, g6, ?_, true, rfl, e, x, c, hx, k⟩
  rcases c.ex.2 with ⟨z, _⟩ | ⟨dx, fs, z, hd', hall⟩
  · exact .inl z
  · exact .inr ⟨dx, fs, z, hd'⟩
end
/-! ### try -/
def catch2 (t i : Nat) (env : Env) (r' : RS) : Option PV → Out Fl
  | some v => if isOw env[i]? = false ∧ t < env.length ∧ t ≠ i ∧ i < env.length then .ok (.nx (((env.set i .no).set t (.sh v)).set i .no)) r' else .bad
  | none => .bad
def catch1 (t i : Nat) (env : Env) (e : Exn) (r' : RS) : Option HV → Out Fl
  | some hv => catch2 t i env r' (hV e hv)
  | none => .ex e r'
def catchO (ns : List Str) (t i : Nat) (hs : List (Str × HV)) (env : Env) (e : Exn) (r' : RS) : Out Fl := if e.nm ∈ ns then catch1 t i env e r' (hs.lookup e.nm) else .bad
def sTry (ns : List Str) (t i : Nat) (hs : List (Str × HV)) (body : Env → M Fl) : Env → M Fl := fun env r => match body env r with
  | .ex e r' => catchO ns t i hs env e r'
  | o => o
theorem catchO_ok {ns : List Str} {t i : Nat} {hs : List (Str × HV)} {env : Env} {e : Exn} {r' : RS} {K : Fl → RS → Prop} {E : Exn → RS → Prop} (h : wpM (catchO ns t i hs env e r') K E) : e.nm ∈ ns ∧ ((hs.lookup e.nm = none ∧ E e r') ∨ ∃ hv v, hs.lookup e.nm = some hv ∧ hV e hv = some v ∧ (isOw env[i]? = false ∧ t < env.length ∧ t ≠ i ∧ i < env.length) ∧ K (.nx (((env.set i .no).set t (.sh v)).set i .no)) r') := by
  unfold catchO at h
  by_cases he : e.nm ∈ ns
  · rw [if_pos he] at h
    refine ⟨he, ?_⟩
    cases q : hs.lookup e.nm with
    | none => rw [q] at h; exact .inl ⟨rfl, h⟩
    | some hv =>
      rw [q] at h
      have h : wpM (catch2 t i env r' (hV e hv)) K E := h
      cases q2 : hV e hv with
      | none => rw [q2] at h; exact h.elim
      | some v =>
        rw [q2] at h
        have h : wpM (if isOw env[i]? = false ∧ t < env.length ∧ t ≠ i ∧ i < env.length then Out.ok (Fl.nx (((env.set i .no).set t (.sh v)).set i .no)) r' else .bad) K E := h
        by_cases c : isOw env[i]? = false ∧ t < env.length ∧ t ≠ i ∧ i < env.length
        · rw [if_pos c] at h
          exact .inr ⟨hv, v, rfl, q2, c, h⟩
        · rw [if_neg c] at h; exact h.elim
  · rw [if_neg he] at h; exact h.elim
abbrev MSs0 (X : Cx) (W : WX) (st : List Stmt) (f : Env → M Fl) : Prop := PSs X st (tS0 X.mg W f)
section
variable {X : Cx} {W : WX} {S : Str} {ns fl : List Str} {i t j : Nat} {pos p p1 p2 p3 p4 p5 : Pos} {x y en tn : Str} {hv : HV} {st : Stmt} {rest : List Stmt} {f g : Env → M Fl}
theorem mss0_one (h : MS0 X W st f) : MSs0 X W [st] f := pss_one h
inductive HdsM (X : Cx) (ns : List Str) (t i : Nat) : List ExceptHandler → List TryN.Cl → List (Str × HV) → Prop
  | nil : HdsM X ns t i [] [] []
  | cons {x n : Str} {C : Addr} {hv : HV} {b₀ : Stmt} {suite : List Stmt} {np pos' : Pos} {hds : List ExceptHandler} {l : List TryN.Cl} {hs : List (Str × HV)} (hm : X.mg x = some (.ref C)) (hx : x ∈ ns) (hg : Gl X x) (hd : (x == ("__debug__" : Str)) = false) (hi : X.N[i]? = some n) (hl : X.env.kindOf n = some .local)
      (hsu : ∀ (a : Addr) (oe : Obj) (cls : Value) (d : Option Addr) (pn : List (Addr × Obj)), Zc cls d oe → (∃ vs, oe.data = .fields vs) → PSs (X.suite a ((a, oe) :: pn)) (b₀ :: suite) (tSui X.mg ns t i hv a cls d)) (r : HdsM X ns t i hds l hs) :
      HdsM X ns t i (.ExceptHandler (some (.Name x np)) (some n) (b₀ :: suite) pos' :: hds) ((.ref C, i, tSui X.mg ns t i hv) :: l) ((x, hv) :: hs)
theorem HdsM.hds {hds : List ExceptHandler} {l : List TryN.Cl} {hs : List (Str × HV)} (h : HdsM X ns t i hds l hs) : TryN.Hds X hds l := by
  induction h with
  | nil => exact .nil
  | cons hm hx hg hd hi hl hsu r ih => exact .cons ⟨hg, hd, .inl hm⟩ hi hl hsu ih
section
variable {ρ : Rw} {F : Addr → Prop} {B H H' : Hp} {r r' : RS} {σ : L2.St} {env : Env} {ad : Nat → Addr}
theorem Fm.any (m : Fm ρ F B H r σ env ad) {i : Nat} (h : isOw env[i]? = false) (v : Option V) : Fm ρ F B H r (σ.set i v) (env.set i .no) ad := by
  have m1 := m.forget h
  have key : ∀ (l : Nat), i ≠ l → (σ.set i v)[l]? = (σ.set i none)[l]? := fun l n => by rw [List.getElem?_set_ne n, List.getElem?_set_ne n]
  have nn : ∀ (l : Nat) (s : Slot), (env.set i Slot.no)[l]? = some s → s ≠ .no → i ≠ l := fun l s e ns z => by
    subst z
    by_cases hi : i < env.length
    · rw [List.getElem?_set_self hi] at e; cases e; exact ns rfl
    · rw [List.getElem?_eq_none (by rw [List.length_set]; omega)] at e; cases e
  exact ⟨m1.row, m1.hρ, m1.dom, m1.ext, m1.lsB, by rw [List.length_set]; have := m1.len; rw [List.length_set] at this; exact this,
    fun l y e => by rw [key l (nn l _ e (fun z => by cases z))]; exact m1.sh l y e,
    fun l y e => by rw [key l (nn l _ e (fun z => by cases z))]; exact m1.ow l y e, m1.inj⟩
end
theorem try_w {K : PySem.W.Frag} {hds : List ExceptHandler} {l : List TryN.Cl} {hs : List (Str × HV)} (G : XTab X.K X.mg S ns fl) (hM : HdsM X ns t i hds l hs) {D : Ends} {ρ : Rw} {F : Addr → Prop} {B H : Hp} {r : RS} {σ : L2.St} {env : Env} {ad : Nat → Addr} {e : Exn} {C : Value} {d : Option Addr} (m : Fm ρ F B H r σ env ad) (hx : ExR X.mg H C d e) (he : e.nm ∈ ns)
    (h : match hs.lookup e.nm with
      | some hv => ∃ v, hV e hv = some v ∧ isOw env[i]? = false ∧ t < env.length ∧ t ≠ i ∧ i < env.length ∧ ∀ σ' H' ad', Fm ρ F B H' r σ' (((env.set i .no).set t (.sh v)).set i .no) ad' → D.nx σ' H'
      | none => W C d σ H) : TryN.wN X.K W D l C d σ H := by
  induction hM with
  | nil => exact h
  | @cons x n C0 hv b₀ suite np pos' hds l hs hm hxn hg hd hi hl hsu r' ih =>
    have ex := G.exm e.nm he x hxn C (.ref C0) hx.1 hm
    by_cases q : e.nm = x
    · have hq : ((x, hv) :: hs).lookup e.nm = some hv := by rw [List.lookup_cons, q]; simp
      rw [hq] at h
      obtain ⟨v, hv1, ow, ht, nti, hi', k⟩ := h
      refine ⟨true, by rw [ex, decide_eq_true q], fun _ a na => ?_, fun z => by cases z⟩
      have hil : i < σ.length := by rw [m.len]; exact hi'
      refine ⟨e, v, ⟨List.getElem?_set_self hil, hx, he⟩, hv1, fun u H' sm hr => ?_⟩
      have m1 := (m.any ow (some (.ref a))).step (.same sm) (m.row.same sm)
      have m2 := m1.set (i := t) (x := v) (v := u) (by rw [List.length_set]; exact ht) (hr _ _ fun b hb => (m.any ow (some (.ref a))).there hb)
      refine k _ H' ad (m2.any (i := i) ?_ none)
      rw [List.getElem?_set_ne nti, List.getElem?_set_self hi']; rfl
    · have hq : ((x, hv) :: hs).lookup e.nm = hs.lookup e.nm := by
        have : (e.nm == x) = false := by simpa using q
        rw [List.lookup_cons, this]
      rw [hq] at h
      exact ⟨false, by rw [ex, decide_eq_false q], fun z => (by cases z), fun _ => ih h⟩
theorem ms_try {body : List Stmt} {h₀ : ExceptHandler} {hds : List ExceptHandler} {l : List TryN.Cl} {hs : List (Str × HV)} (T : Ct X W j) (G : XTab X.K X.mg S ns fl) (hM : HdsM X ns t i (h₀ :: hds) l hs)
    (hb : ∀ (W' : WX) (pn : List (Addr × Obj)) (xe : Value → Shared → Prop), Ct (X.tr pn xe) W' j → MSs0 (X.tr pn xe) W' body f) (hst : X.stack = X.env :: X.outer := by rfl) (hfr : X.env.frame = some X.env.locals := by rfl) :
    MS0 X W (.Try body (h₀ :: hds) [] [] pos) (sTry ns t i hs f) := ps_imp (TryN.ps_tryN (tb := fun W' => tS0 X.mg W' f) hst hfr T.tk T.nd (fun W' pn xe tk po => hb W' pn xe ⟨T.nd, T.hr, tk, po, T.calm⟩) hM.hds) fun D σ H q => by
  obtain ⟨ρ, F, B, env, ad, r, m, w⟩ := q
  refine ⟨ρ, F, B, env, ad, r, m, ?_⟩
  unfold sTry at w
  cases e : f env r with
  | bad => rw [e] at w; exact w.elim
  | ok fl' r' => rw [e] at w; exact w
  | ex x r' =>
    rw [e] at w
    obtain ⟨he, hh⟩ := catchO_ok w
    intro C d H' e1 o1 hx
    refine try_w (K := X.K) G hM (m.step e1 o1) hx he ?_
    rcases hh with ⟨q, k⟩ | ⟨hv, v, q, q2, c, k⟩
    · rw [q]; exact k C d H' e1 o1 hx
    · rw [q]; exact ⟨v, q2, c.1, c.2.1, c.2.2.1, c.2.2.2, k⟩
end
end Mir

namespace Mir
open PySem PySem.Spec PyProof.Rows L2
/-! ### the draws' row -/
def isRow (env : Env) (i : Nat) : Bool := match env[i]? with
  | some (.sh .row) => true
  | _ => false
def rowG (k : Int) (r : RS) : Option PV := if k = 1 then some (.int r.i) else if k = 2 then some (.int r.b) else if k = 3 then some (.int r.s) else none
def eRow (i : Nat) (k : Int) : EF := fun env r => if isRow env i = true then (match rowG k r with
  | some v => .ok v r
  | none => .bad) else .bad
def eCell (i : Nat) : EF := fun env r => if isRow env i = true then (match r.xs[r.i]? with
  | some n => .ok (.int n) r
  | none => .bad) else .bad
def eLenS (i : Nat) : EF := fun env r => if isRow env i = true then .ok (.int r.xs.length) r else .bad
def rowS (k : Int) (n : Int) (r : RS) : Option RS := if k = 1 then (if 0 ≤ n then some { r with i := n.toNat } else none) else if k = 2 then some { r with b := n } else if k = 3 then some { r with s := n } else none
def sRow (i : Nat) (k : Int) (f : EF) : Env → M Fl := fun env => bnd (f env) fun v => bnd (toI v) fun n => fun r => if isRow env i = true then (match rowS k n r with
  | some r' => .ok (.nx env) r'
  | none => .bad) else .bad
section
variable {ρ : Rw} {F : Addr → Prop} {B H H' : Hp} {r r' : RS} {σ : L2.St} {env : Env} {ad : Nat → Addr}
theorem Fm.rowV (m : Fm ρ F B H r σ env ad) {i : Nat} (h : isRow env i = true) : σ[i]? = some (some (.ref ρ.a)) := by
  unfold isRow at h
  split at h
  · rename_i e
    obtain ⟨v, h1, h2⟩ := m.sh i _ e
    unfold Rep at h2
    rw [h1, h2]
  · cases h
/-- the row is written -/
theorem Fm.rowU (m : Fm ρ F B H r σ env ad) (w : RowAt ρ (upd H ρ.a (.lst [.ref ρ.ls, .int r'.i, .int r'.b, .int r'.s])) r') : Fm ρ F B (upd H ρ.a (.lst [.ref ρ.ls, .int r'.i, .int r'.b, .int r'.s])) r' σ env ad :=
  m.step (fun b o h n => by rw [upd_ne n]; exact h) w
end
section
variable {X : Cx} {W : WX} {k ka kb κ : Kd} {pos p p1 p2 p3 p4 : Pos} {e a b c : Expr} {es : List Expr} {i j n : Nat} {x : Str} {fs : AF} {fa fb fc : EF} {mg : Str → Option Value} {kk : Int}
theorem rowG_at {ls : Addr} {i' : Nat} {b' s' : Int} {v : PV} {xs : List Int} (h : rowG kk ⟨xs, i', b', s'⟩ = some v) : ∃ n, v = .int n ∧ atI [V.ref ls, .int i', .int b', .int s'] kk = some (.int n) := by
  unfold rowG at h
  split at h
  · rename_i e; subst e; cases h; exact ⟨_, rfl, rfl⟩
  · split at h
    · rename_i e; subst e; cases h; exact ⟨_, rfl, rfl⟩
    · split at h
      · rename_i e; subst e; cases h; exact ⟨_, rfl, rfl⟩
      · cases h
theorem me_row {jj : Nat} (i : Nat) (hv : PE X (.Name x p) (tVar i)) : ME X W (.Subscript (.Name x p) (.Constant (.int kk) jj p2) pos) (eRow i kk) := pe_imp (pe_ix ix_list hv pe_int (by intro _ _; rfl)) fun σ H Q q => by
  obtain ⟨ρ, F, B, env, ad, r, m, w⟩ := q
  unfold eRow at w
  by_cases c : isRow env i = true
  · rw [if_pos c] at w
    cases h : rowG kk r with
    | none => rw [h] at w; exact w.elim
    | some v =>
      rw [h] at w
      obtain ⟨_, _, e1, e2⟩ := m.row
      obtain ⟨n, rfl, g⟩ := rowG_at (ls := ρ.ls) (i' := r.i) (b' := r.b) (s' := r.s) (xs := r.xs) h
      exact ⟨_, m.rowV c, ρ.a, _, kk, .int n, rfl, rfl, .inl (.inl e1), g, w _ H (Ext.refl _ _) m.row (hv_int _)⟩
  · rw [if_neg c] at w; exact w.elim
theorem me_cell {j1 j2 : Nat} (i : Nat) (hv : PE X (.Name x p) (tVar i)) (hv' : PE X (.Name x p3) (tVar i)) : ME X W (.Subscript (.Subscript (.Name x p) (.Constant (.int 0) j1 p1) p2) (.Subscript (.Name x p3) (.Constant (.int 1) j2 p4) pos) pos') (eCell i) :=
  pe_imp (pe_ix ix_list (pe_ix ix_list hv pe_int (by intro _ _; rfl)) (pe_ix ix_list hv' pe_int (by intro _ _; rfl)) (by intro _ _; rfl)) fun σ H Q q => by
  obtain ⟨ρ, F, B, env, ad, r, m, w⟩ := q
  unfold eCell at w
  by_cases c : isRow env i = true
  · rw [if_pos c] at w
    cases h : r.xs[r.i]? with
    | none => rw [h] at w; exact w.elim
    | some v =>
      rw [h] at w
      obtain ⟨_, ex, e1, e2⟩ := m.row
      rw [← ex] at e2
      refine ⟨_, m.rowV c, ρ.a, _, 0, .ref ρ.ls, rfl, rfl, .inl (.inl e1), rfl, _, m.rowV c, ρ.a, _, 1, .int r.i, rfl, rfl, .inl (.inl e1), rfl, ρ.ls, _, (r.i : Int), .int v, rfl, rfl, .inl (.inl e2), ?_, w _ H (Ext.refl _ _) m.row (hv_int _)⟩
      exact atI_nat (by rw [List.getElem?_map, h]; rfl)
  · rw [if_neg c] at w; exact w.elim
theorem me_lenS {j1 : Nat} (i : Nat) (hv : PE X (.Name x p) (tVar i)) (hm : X.mg "len" = none) (hg : Gl X "len" := by rfl)
    (he : starEach [.Subscript (.Name x p) (.Constant (.int 0) j1 p1) p2] X.env = (false, eval (.Subscript (.Name x p) (.Constant (.int 0) j1 p1) p2) X.env) :: starEach [] X.env := by rfl) (hpl : (backTo pos (starEach [] X.env)).any (·.1) = false := by rfl) :
    ME X W (.Call (.Name "len" p3) [.Subscript (.Name x p) (.Constant (.int 0) j1 p1) p2] [] pos) (eLenS i) := pe_imp (pe_callB (id := "len") call_len hg hm rfl (pa_cons (pe_ix ix_list hv pe_int (by intro _ _; rfl)) pa_nil he) (by decide) (by decide) he hpl) fun σ H Q q => by
  obtain ⟨ρ, F, B, env, ad, r, m, w⟩ := q
  unfold eLenS at w
  by_cases c : isRow env i = true
  · rw [if_pos c] at w
    obtain ⟨_, ex, e1, e2⟩ := m.row
    rw [← ex] at e2
    refine ⟨_, m.rowV c, ρ.a, _, 0, .ref ρ.ls, rfl, rfl, .inl (.inl e1), rfl, .ref ρ.ls, r.xs.length, rfl, .inl ⟨_, .inl (.inl e2), by rw [List.length_map]⟩, w _ H (Ext.refl _ _) m.row (hv_int _)⟩
  · rw [if_neg c] at w; exact w.elim
theorem rowS_at {ls : Addr} {r1 : RS} (h : rowS kk n' r = some r1) : ∃ j, ixN ([V.ref ls, .int r.i, .int r.b, .int r.s]).length kk = some j ∧ ([V.ref ls, .int r.i, .int r.b, .int r.s]).set j (.int n') = [V.ref ls, .int r1.i, .int r1.b, .int r1.s] ∧ r1.xs = r.xs := by
  unfold rowS at h
  split at h
  · rename_i e
    subst e
    split at h
    · rename_i hn
      cases h
      refine ⟨1, rfl, ?_, rfl⟩
      show [V.ref ls, .int n', .int r.b, .int r.s] = [V.ref ls, .int (n'.toNat : Nat), .int r.b, .int r.s]
      rw [Int.toNat_of_nonneg hn]
    · cases h
  · split at h
    · rename_i e; subst e; cases h; exact ⟨2, rfl, rfl, rfl⟩
    · split at h
      · rename_i e; subst e; cases h; exact ⟨3, rfl, rfl, rfl⟩
      · cases h
theorem ms_row {j1 : Nat} (i : Nat) (hv : PE X (.Name x p1) (tVar i)) (he : MEk X W k e fa) (hs : swapsWithSole [.Subscript (.Name x p1) (.Constant (.int kk) j1 p) p2] e pos.line X.env = pure false := by rfl) (hw : swappedStores [.Subscript (.Name x p1) (.Constant (.int kk) j1 p) p2] e X.env = pure none := by rfl)
    (h1 : (assignEach [.Subscript (.Name x p1) (.Constant (.int kk) j1 p) p2] X.env).map (·.2) = [assign (.Subscript (.Name x p1) (.Constant (.int kk) j1 p) p2) X.env] := by rfl)
    (ha : ∀ v, assign (.Subscript (.Name x p1) (.Constant (.int kk) j1 p) p2) X.env v = (do
      let ov ← holding [v] (eval (.Name x p1) X.env)
      let iv ← holding [v, ov] (eval (.Constant (.int kk) j1 p) X.env)
      standAt p2
      holding [v, ov, iv] (setItem ov iv v)
      release [v, ov, iv] []) := by intro _; rfl) :
    MS0 X W (.Assign [.Subscript (.Name x p1) (.Constant (.int kk) j1 p) p2] e pos) (sRow i kk fa) := ps_imp (ps_asg he (pg_sub hv pe_int set_list ha) hs hw h1) fun D σ H q => by
  obtain ⟨ρ, F, B, env, ad, r, m, w⟩ := q
  refine ⟨ρ, F, B, env, ad, r, m, wpM_mono (wpM_bnd w) (fun v r1 w1 u H1 e1 o1 hu => ?_) fun _ _ z => z⟩
  obtain ⟨nn, rfl, w2⟩ := toI_ok (wpM_bnd w1)
  have m1 := m.step e1 o1
  have ev := have_int hu
  subst ev
  by_cases c : isRow env i = true
  · rw [if_pos c] at w2
    cases h : rowS kk nn r1 with
    | none => rw [h] at w2; exact w2.elim
    | some r2 =>
      rw [h] at w2
      obtain ⟨nla, ex, g1, g2⟩ := m1.row
      obtain ⟨jj, g3, g4, g5⟩ := rowS_at (ls := ρ.ls) h
      refine ⟨_, m1.rowV c, ρ.a, _, kk, jj, rfl, rfl, g1, g3, ?_⟩
      rw [g4]
      exact w2 σ _ ad (m1.rowU ⟨nla, g5.trans ex, upd_same, by rw [upd_ne nla]; exact g2⟩)
  · rw [if_neg c] at w2; exact w2.elim
end
/-! ### the row is made; the law -/
def spDraws (K : PySem.W.Frag) : Sp := fun vs H Q _ => ∃ (a : Addr) (ns : List Int), vs = [.ref a] ∧ SqL K H a (ns.map V.int) ∧ ∀ l p, H l = none → upd H l (.lst (ns.map V.int)) p = none → Q (.ref p) (upd (upd H l (.lst (ns.map V.int))) p (.lst [.ref l, .int 0, .int 0, .int 7]))
section
variable {P : Program} {w : World} {K : PySem.W.Frag} {mg : Str → Option Value} {base : Heap}
theorem ok_draws {x qual : Str} {st : Stmt} {f : Addr} {fd : FuncData} {N ps : List Str} {k : Nat} (F : Fun K x qual st f fd) (S : FnScope N ps (defScope st)) (hn : ps.length = 1) (hN : N.length = 1)
    (hbody : ∀ (cdv : Value) (A : Around) (outer : List PySem.Env) (s : Shared) (H : Hp) (E : XK), PSs (cxOf (L2.CX P w) P w K mg base N qual (defScope st) f cdv A outer s H E) (defBody st) (tRet (tLst (tCons (tCB (fun xs H Q => ∃ p ys, xs = [.ref p] ∧ (SqL K H p ys ∨ SqT K H p ys) ∧ ∀ l, H l = none → Q (.ref l) (upd H l (.lst ys))) (tCons (tVar 0) tNil)) (tCons (tC (.int 0)) (tCons (tC (.int 0)) (tCons (tC (.int 7)) tNil))))))) :
    FnOk P w K mg base (L2.CX P w) (k + 1) f fd ps (spDraws K) := by
  refine F.okX S (fun vs H Q E h => ?_) (fun cdv A outer s H vs Q E hr h => ⟨_, hbody cdv A outer s H E, ?_⟩)
  · obtain ⟨a, ns, rfl, _⟩ := h
    exact hn.symm
  · obtain ⟨a, ns, rfl, hS, q⟩ := h
    have st0 : L2.start N [.ref a] = [some (.ref a)] := by
      unfold L2.start
      rw [hN]; rfl
    rw [st0]
    exact ⟨.ref a, rfl, a, _, rfl, .inl hS, fun l nl => ⟨by rw [sizeLine_eq]; show 4 ≤ 16777216; decide, fun p np => q l p nl np⟩⟩
end
structure DrF (P : Program) (w : World) (K : PySem.W.Frag) (mg : Str → Option Value) (base : Heap) (k : Nat) (x : Str) : Prop where
  ex : ∃ f fd ps, FnOk P w K mg base (L2.CX P w) k f fd ps (spDraws K) ∧ mg x = some (.ref f) ∧ PySem.W.keepIn K (.ref f) = true ∧ Binds K fd ps []
def tLaw0 (K : PySem.W.Frag) (i : Nat) : TS := fun D σ H => ∃ v, σ[0]? = some (some v) ∧ spDraws K [v] H (fun u H' => D.nx (σ.set i (some u)) H') (fun _ _ _ => False)
def spLaw (K : PySem.W.Frag) : Sp := fun vs H Q _ => ∃ (a : Addr) (ns : List Int), vs = [.ref a] ∧ SqL K H a (ns.map V.int) ∧ ns.length ≤ 63 ∧ (∀ z ∈ ns, Builtin.Int.intBits z ≤ 1048576) ∧ ∀ H', Q (.bl true) H'
def envL (n i : Nat) : Env := (List.replicate n Slot.no).set i (.sh .row)
section
variable {X : Cx} {W : WX} {k ka kb κ : Kd} {pos p p1 p2 p3 p4 : Pos} {e a b c : Expr} {es : List Expr} {i j j' n : Nat} {x y z : Str} {fs : AF} {fa fb fc : EF} {mg : Str → Option Value} {kk : Int}
theorem ms_law0 (T : Ct X W j) (F : DrF X.prog X.w X.K X.mg X.base j' x) (hj : j' ≤ j) (i : Nat) (hv : PE X (.Name y p1) (tVar 0)) (hi : X.N[i]? = some z := by rfl) (hx : Loc X.env.scope z := by first | exact Or.inl rfl | exact Or.inr rfl) (hg : Gl X x := by rfl) (hdb : (x == ("__debug__" : Str)) = false := by decide)
    (he : starEach [.Name y p1] X.env = (false, eval (.Name y p1) X.env) :: starEach [] X.env := by rfl) (hpl : (backTo p2 (starEach [] X.env)).any (·.1) = false := by rfl) (hs : swapsWith (.Call (.Name x p) [.Name y p1] [] p2) (some (.Name z p3)) pos.line X.env = pure false := by rfl)
    (hf : X.fn z = true ∨ X.env.scope.names.lookup z = some .local := by first | exact .inl rfl | exact .inr rfl) : PS X (.Assign [.Name z p3] (.Call (.Name x p) [.Name y p1] [] p2) pos) (tLaw0 X.K i) := by
  obtain ⟨f, fd, ps, G, hm, hk, hb⟩ := F.ex
  refine ps_imp (ps_set T.nd hi hx (pe_callS (E := WE W) G (T.hr.mono hj) hg hm hk hb (passAt T.tk) (pa_cons hv pa_nil he) hdb he hpl) hs hf) fun D σ H q => ?_
  obtain ⟨v, h0, h⟩ := q
  exact ⟨v, h0, h⟩
end
section
variable {P : Program} {w : World} {K : PySem.W.Frag} {mg : Str → Option Value} {base : Heap}
end
end Mir

namespace Mir
open PySem PySem.Spec PyProof.Rows L2
/-- a global of a plain value -/
structure GV (mg : Str → Option Value) (x : Str) (y : PV) : Prop where
  ex : ∃ (v : V) (u : Value), mg x = some u ∧ RelV v u ∧ Flat y v
theorem gv_str {mg : Str → Option Value} {x z : Str} {t : Tok} (h : mg x = some (.str z t)) (o : PyData.strOk z = true := by decide +kernel) : GV mg x (.str z) := ⟨⟨.str z, _, h, ⟨t, rfl⟩, Flat.str o⟩⟩
theorem gv_int {mg : Str → Option Value} {x : Str} {z : Int} {t : Tok} (h : mg x = some (.int z t)) : GV mg x (.int z) := ⟨⟨.int z, _, h, ⟨t, rfl⟩, Flat.int z⟩⟩
theorem un65 {k : Nat} {A : Around} (r : Room k A) : A.units + 65 < cLine := by have := r.un; omega
def hPow (a b : Int) : Option PV := if 0 ≤ b ∧ b ≤ 1000000 ∧ a.natAbs < 2 ^ 64 then some (.int (a ^ b.toNat)) else none
def sAsgT (n : Nat) (fs : AF) (t : List PV → Env → Option Env) : Env → M Fl := fun env => bnd (eTup fs env) fun x => bnd (ofO (gTupl n t x env)) fun env' => ret (.nx env')
def sAsg (fa : EF) (t : TP) : Env → M Fl := fun env => bnd (fa env) fun x => bnd (ofO (t x env)) fun env' => ret (.nx env')
section
variable {X : Cx} {W : WX} {k ka kb κ : Kd} {pos p p1 p2 p3 p4 : Pos} {e a b c : Expr} {es : List Expr} {i j j' n : Nat} {x : Str} {fs : AF} {fa fb fc : EF} {y : PV}
theorem me_gv (G : GV X.mg x y) (hg : Gl X x := by rfl) (hd : (x == ("__debug__" : Str)) = false := by decide) : ME X W (.Name x pos) (eC y) := by
  obtain ⟨v, u, h1, h2, h3⟩ := G.ex
  exact me_glob hg h1 h2 h3 hd
theorem oPow : Op2 X (binaryOp .Pow) (gInt hPow) := op_int (pv := fun a b => .int (a ^ b.toNat)) op_pow (fun _ _ => Flat.int _) fun a b z e => by
  unfold hPow at e
  split at e
  · rename_i c
    cases e
    exact ⟨rfl, c⟩
  · cases e
end
section
variable {X : Cx} {W : WX} {k ka kb κ : Kd} {pos p p1 p2 p3 p4 : Pos} {e a b c : Expr} {es : List Expr} {i j j' n : Nat} {x : Str} {fs : AF} {fa fb fc : EF} {y : PV}
theorem tKin_of {mg : Str → Option Value} {K : PySem.W.Frag} {ys : List Str} {neg : Bool} {t : Addr} (hS : ∀ H : Hp, SqT K H t (ys.map V.str)) (σ : L2.St) (H : Hp) (Q : VK) (q : tE mg W .bo (eKin neg ys fa) σ H Q) : tOp (rIn K neg) (tE mg W k fa) (tC (.ref t)) σ H Q := by
  obtain ⟨ρ, F, B, env, ad, r, m, w⟩ := q
  refine ⟨ρ, F, B, env, ad, r, m, wpM_mono (wpM_bnd w) (fun y r1 w1 v H1 e1 o1 h1 => ?_) fun _ _ z => z⟩
  cases y with
  | str s =>
    have ev := have_str h1
    subst ev
    refine ⟨t, ys.map V.str, rfl, .inr (hS H1), rfl, flat_strs ys, ?_⟩
    rw [inV_str]
    have := w1 _ _ e1 o1 (Have.b (k := .cl) (H0 := H) (hv_bl _))
    cases neg <;> exact this
  | _ => exact w1.elim
theorem mt_nin {ys : List Str} (G : GTup X.K X.mg x ys) (ha : MEk X W k a fa) (hg : Gl X x := by rfl) (hd : (x == ("__debug__" : Str)) = false := by decide) (hm : behindInMarks .NotIn (.Name x p) = false := by first | exact nomark _ | with_unfolding_all rfl) : MT X W (.Compare a [.NotIn] [.Name x p] pos) (tB (eKin true ys fa)) := by
  obtain ⟨t, hm1, hS⟩ := G.ex
  exact pt_imp (pt_cmpR op_notIn_seq ha (pe_glob hg hm1 (v := .ref t) rfl hd) hm) (tTest_of (tKin_of hS))
end
/-- the facts on a comprehension's scope, by one look -/
def blkB (N : List Str) (sc scope : Scope) (own : List (Str × Nat)) : Bool :=
  decide (scope.kind = .function) && (scope.names.all (fun y => decide (scope.names.lookup y.1 = some y.2)) && (own.all (fun p => decide (N[p.2]? = some p.1)) && (scope.names.all (fun y => !decide (y.2 = .free) || (decide (sc.names.lookup y.1 = some .cell) || decide (sc.names.lookup y.1 = some .free))) &&
    scope.names.all fun y => !(decide (y.2 = .local) || decide (y.2 = .cell)) || (decide (y.1 ∈ own.map (·.1)) || decide (y.1 ∉ N)))))
theorem blk_ok {N : List Str} {sc scope : Scope} {own : List (Str × Nat)} (h : blkB N sc scope own = true) : BlkOk N sc scope own := by
  unfold blkB at h
  simp only [Bool.and_eq_true, decide_eq_true_eq, List.all_eq_true, Bool.or_eq_true, Bool.not_eq_true', decide_eq_false_iff_not] at h
  obtain ⟨h1, h2, h3, h4, h5⟩ := h
  refine ⟨h1, h2, h3, fun y m f => (h4 y m).resolve_left fun z => z f, fun y m f => (h5 y m).resolve_left ?_⟩
  rintro z
  rcases f with f | f
  · simp [f] at z
  · simp [f] at z
end Mir
namespace Mir
open PySem PySem.Spec PyProof.Rows L2
theorem exm1 {K : PySem.W.Frag} {mg : Str → Option Value} {x y : Str} {C0 D0 : Value} {b : Bool} (hx : mg x = some C0) (hy : mg y = some D0) (e : PySem.W.exmOne K C0 D0 = some b) (hb : decide (x = y) = b) : ∀ C D, mg x = some C → mg y = some D → PySem.W.exmOne K C D = some (decide (x = y)) := fun C D h1 h2 => by
  rw [hx] at h1
  rw [hy] at h2
  cases h1
  cases h2
  rw [e, hb]
end Mir
namespace Mir
open PySem PySem.Spec PyProof.Rows L2
theorem cxNo {P : Program} {w : World} {outer : List PySem.Env} {H : Hp} {s : Shared} {e : Value} {s' : Shared} (h : L2.CX P w outer H s (fun _ _ _ => False) e s') : False := by
  obtain ⟨_, _, _, _, _, _, _, _, _, _, _, _, z⟩ := h
  exact z
end Mir
namespace Mir
open PySem PySem.Spec PyProof.Rows L2
theorem kit_ref {K : PySem.W.Frag} {D C : Addr} (hd : PySem.W.hasDictIn K C = true) (ht : PySem.W.typeIn K (.ref C) = some (.type "type")) (h : PySem.W.subIn K (.ref D) (.ref C) = some true) : PySem.W.kitOne K (.ref D) (.ref C) = some true := by
  obtain ⟨cd, hc, _⟩ := PySem.W.any_some hd
  unfold PySem.W.kitOne
  split
  · rfl
  · show (if ((PySem.W.clsIn K C).isSome && PySem.W.typeIn K (.ref C) == some (.type "type")) = true then PySem.W.subIn K (.ref D) (.ref C) else none) = some true
    rw [if_pos (by rw [hc, ht]; rfl)]
    exact h
end Mir

namespace Mth
def ch : Nat → Nat → Nat
  | _, 0 => 1
  | 0, _ + 1 => 0
  | n + 1, k + 1 => ch n k + ch n (k + 1)
theorem ch_0 (n : Nat) : ch n 0 = 1 := by cases n <;> rfl
theorem ch_s (n k : Nat) : ch (n + 1) (k + 1) = ch n k + ch n (k + 1) := rfl
theorem ch_lt : ∀ {n k : Nat}, n < k → ch n k = 0
  | 0, k + 1, _ => rfl
  | n + 1, k + 1, h => by rw [ch_s, ch_lt (by omega), ch_lt (by omega)]
theorem ch_self : ∀ n : Nat, ch n n = 1
  | 0 => rfl
  | n + 1 => by rw [ch_s, ch_self n, ch_lt (by omega)]
theorem ch_pos : ∀ {n k : Nat}, k ≤ n → 0 < ch n k
  | n, 0, _ => by rw [ch_0]; omega
  | n + 1, k + 1, h => by
    rw [ch_s]
    have := ch_pos (n := n) (k := k) (by omega)
    omega
theorem ch_up : ∀ (n k : Nat), (n + 1) * ch n k = (k + 1) * ch (n + 1) (k + 1)
  | 0, 0 => rfl
  | 0, k + 1 => by rw [ch_lt (show 0 < k + 1 by omega), ch_lt (show 0 + 1 < k + 1 + 1 by omega)]; simp
  | n + 1, 0 => by
    have := ch_up n 0
    rw [ch_0] at this
    rw [ch_s, ch_0]
    omega
  | n + 1, k + 1 => by
    have h1 := ch_up n k
    have h2 := ch_up n (k + 1)
    have e1 : ch (n + 1) (k + 1) = ch n k + ch n (k + 1) := ch_s n k
    have e2 : ch (n + 2) (k + 2) = ch (n + 1) (k + 1) + ch (n + 1) (k + 2) := ch_s (n + 1) (k + 1)
    show (n + 2) * ch (n + 1) (k + 1) = (k + 2) * ch (n + 2) (k + 2)
    rw [e2, Nat.mul_add]
    have h2' : (k + 2) * ch (n + 1) (k + 2) = (n + 1) * ch n (k + 1) := h2.symm
    rw [h2']
    have h1' : (k + 1) * ch (n + 1) (k + 1) = (n + 1) * ch n k := h1.symm
    have : (n + 2) * ch (n + 1) (k + 1) = (n + 1) * ch (n + 1) (k + 1) + ch (n + 1) (k + 1) := by rw [← Nat.succ_mul]
    rw [this]
    have : (k + 2) * ch (n + 1) (k + 1) = (k + 1) * ch (n + 1) (k + 1) + ch (n + 1) (k + 1) := by rw [← Nat.succ_mul]
    rw [this, h1']
    have : (n + 1) * ch (n + 1) (k + 1) = (n + 1) * ch n k + (n + 1) * ch n (k + 1) := by rw [e1, Nat.mul_add]
    rw [this]
    omega
/-- the step of the product -/
theorem ch_step (n k : Nat) : ch n k * (n - k) = ch n (k + 1) * (k + 1) := by
  by_cases h : k ≤ n
  · have h1 := ch_up n k
    rw [ch_s, Nat.mul_add] at h1
    have e : (n + 1) * ch n k = (n - k) * ch n k + (k + 1) * ch n k := by
      rw [← Nat.add_mul]
      congr 1
      omega
    rw [Nat.mul_comm (ch n k), Nat.mul_comm (ch n (k + 1))]
    omega
  · rw [ch_lt (show n < k by omega), ch_lt (show n < k + 1 by omega)]; simp
theorem ch_mono : ∀ {n m : Nat} (k : Nat), n ≤ m → ch n k ≤ ch m k
  | n, m, 0, _ => by rw [ch_0, ch_0]; exact Nat.le_refl _
  | 0, m, k + 1, _ => by rw [ch_lt (by omega)]; omega
  | n + 1, m + 1, k + 1, h => by
    rw [ch_s, ch_s]
    have h1 := ch_mono (n := n) (m := m) k (by omega)
    have h2 := ch_mono (n := n) (m := m) (k + 1) (by omega)
    omega
theorem ch_ge : ∀ {n k : Nat}, k + 1 < n → n ≤ ch n (k + 1)
  | n + 1, 0, h => by
    have : ∀ m, ch m 1 = m := fun m => by
      induction m with
      | zero => rfl
      | succ m ih => rw [ch_s, ch_0, ih]; omega
    rw [this]; omega
  | n + 1, k + 1, h => by
    rw [ch_s]
    by_cases q : k + 2 = n
    · subst q
      rw [ch_self]
      have := ch_ge (n := k + 2) (k := k) (by omega)
      omega
    · have h1 := ch_ge (n := n) (k := k + 1) (by omega)
      have h2 := ch_pos (n := n) (k := k + 1) (by omega)
      omega
theorem ch_bound : ∀ (n k : Nat), ch n k ≤ (n + 1) ^ k
  | n, 0 => by rw [ch_0]; simp
  | 0, k + 1 => by rw [ch_lt (by omega)]; exact Nat.zero_le _
  | n + 1, k + 1 => by
    have h1 := ch_bound n k
    have h2 := ch_bound n (k + 1)
    rw [ch_s]
    have a1 : (n + 1) ^ k ≤ (n + 2) ^ k := Nat.pow_le_pow_left (by omega) k
    have a2 : (n + 1) ^ (k + 1) ≤ (n + 2) ^ k * (n + 1) := by
      rw [Nat.pow_succ]
      exact Nat.mul_le_mul_right _ a1
    have : (n + 2) ^ (k + 1) = (n + 2) ^ k * (n + 1) + (n + 2) ^ k := by rw [Nat.pow_succ]; rw [show n + 2 = (n + 1) + 1 from rfl, Nat.mul_succ]
    show ch n k + ch n (k + 1) ≤ (n + 2) ^ (k + 1)
    omega
/-! ### the top -/
def topF (N k : Nat) : Nat → Nat
  | 0 => 0
  | t + 1 => if ch (t + 1) k ≤ N then t + 1 else topF N k t
def top (N k : Nat) : Nat := topF N k (N + k)
theorem topF_le (N k : Nat) (hk : 1 ≤ k) : ∀ t, ch (topF N k t) k ≤ N
  | 0 => by unfold topF; rw [ch_lt (by omega)]; omega
  | t + 1 => by
    unfold topF
    split
    · assumption
    · exact topF_le N k hk t
theorem topF_max (N k : Nat) : ∀ t s, s ≤ t → ch s k ≤ N → s ≤ topF N k t
  | 0, s, h, _ => by omega
  | t + 1, s, h, hs => by
    unfold topF
    split
    · exact h
    · rename_i q
      by_cases e : s = t + 1
      · subst e; exact absurd hs q
      · exact topF_max N k t s (by omega) hs
theorem top_spec {N k t : Nat} (h1 : ch t (k + 1) ≤ N) (h2 : N < ch (t + 1) (k + 1)) : top N (k + 1) = t := by
  have a := topF_le N (k + 1) (by omega) (N + (k + 1))
  have le : t ≤ N + (k + 1) := by
    by_cases q : k + 1 < t
    · have := ch_ge q
      omega
    · omega
  have b := topF_max N (k + 1) (N + (k + 1)) t le h1
  refine Nat.le_antisymm ?_ b
  rcases Nat.lt_or_ge t (top N (k + 1)) with q | q
  · have := ch_mono (k + 1) (show t + 1 ≤ top N (k + 1) from q)
    have a : ch (top N (k + 1)) (k + 1) ≤ N := a
    omega
  · exact q
/-! ### the cascade -/
def casc : Nat → Nat → List (Nat × Nat)
  | 0, _ => []
  | _ + 1, 0 => []
  | k + 1, N + 1 => (top (N + 1) (k + 1), k + 1) :: casc k (N + 1 - ch (top (N + 1) (k + 1)) (k + 1))
def abv (m : Nat) (k N : Nat) : Nat := ((casc k N).map fun p => ch (p.1 + m) (p.2 + 1)).sum
end Mth

/-! least shadows and greatest families above: they answer each other -/
namespace Mth
end Mth

/-! rows cut down and filled up -/
namespace Mth
end Mth

/-! mirrors, run forward by rules -/
namespace Mir
open PySem PySem.Spec PyProof.Rows L2
section
variable {α β : Type} {K : α → RS → Prop} {E : Exn → RS → Prop} {r : RS}
theorem w_bnd {m : M α} {k : α → M β} {K : β → RS → Prop} (h : wpM (m r) (fun a r' => wpM (k a r') K E) E) : wpM (bnd m k r) K E := by
  unfold bnd
  cases e : m r with
  | ok a r' => rw [e] at h; exact h
  | ex x r' => rw [e] at h; exact h
  | bad => rw [e] at h; exact h
theorem w_ofO {o : Option α} (h : ∃ z, o = some z ∧ K z r) : wpM (ofO o r) K E := by
  obtain ⟨z, rfl, k⟩ := h
  exact k
theorem w_pos {c : Prop} [Decidable c] {m m' : M α} (q : c) (h : wpM (m r) K E) : wpM ((if c then m else m') r) K E := by
  rw [if_pos q]; exact h
/-- a pure mirror: it answers v, the draws stay -/
theorem pure_of {m : M α} {v : α} (h : ∀ r, wpM (m r) (fun a r' => a = v ∧ r' = r) fun _ _ => False) : m = ret v := by
  funext r
  have := h r
  cases e : m r with
  | ok a r' => rw [e] at this; obtain ⟨h1, h2⟩ := (show a = v ∧ r' = r from this); rw [h1, h2]; rfl
  | ex _ _ => rw [e] at this; exact this.elim
  | bad => rw [e] at this; exact this.elim
theorem w_eq {m : M α} {v : α} (e : m = ret v) (h : K v r) : wpM (m r) K E := by rw [e]; exact h
end
section
variable {K : PV → RS → Prop} {E : Exn → RS → Prop} {r : RS} {env : Env} {fa fb fc : EF} {fs : AF}
theorem w_C {v : PV} (h : K v r) : wpM (eC v env r) K E := h
theorem w_var {i : Nat} {v : PV} (e : env[i]? = some (.sh v)) (h : K v r) : wpM (eVar i env r) K E := by unfold eVar; rw [e]; exact h
theorem w_varO {i : Nat} {v : PV} (e : env[i]? = some (.ow v)) (h : K v r) : wpM (eVarO i env r) K E := by unfold eVarO; rw [e]; exact h
theorem w_op2 {g : PV → PV → Option PV} (h : wpM (fa env r) (fun x r1 => wpM (fb env r1) (fun y r2 => ∃ z, g x y = some z ∧ K z r2) E) E) : wpM (eOp2 g fa fb env r) K E := w_bnd (wpM_mono h (fun x r1 h => w_bnd (wpM_mono h (fun y r2 h => w_ofO h) fun _ _ z => z)) fun _ _ z => z)
theorem w_nil {K : List PV → RS → Prop} (h : K [] r) : wpM (aNil env r) K E := h
theorem w_cons {K : List PV → RS → Prop} (h : wpM (fa env r) (fun x r1 => wpM (fs env r1) (fun xs r2 => K (x :: xs) r2) E) E) : wpM (aCons fa fs env r) K E := w_bnd (wpM_mono h (fun x r1 h => w_bnd h) fun _ _ z => z)
theorem w_call {n : Nat} {m : List PV → M PV} (h : wpM (fs env r) (fun xs r1 => xs.length = n ∧ wpM (m xs r1) K E) E) : wpM (eCall n m fs env r) K E := w_bnd (wpM_mono h (fun x r1 h => by unfold callN; exact w_pos h.1 h.2) fun _ _ z => z)
theorem w_bi {g : List PV → Option PV} (h : wpM (fs env r) (fun xs r1 => ∃ z, g xs = some z ∧ K z r1) E) : wpM (eBi g fs env r) K E := w_bnd (wpM_mono h (fun x r1 h => w_ofO h) fun _ _ z => z)
theorem w_tup (h : wpM (fs env r) (fun xs r1 => xs.length ≤ 16777216 ∧ K (.tup xs) r1) E) : wpM (eTup fs env r) K E := w_bnd (wpM_mono h (fun x r1 h => w_pos h.1 h.2) fun _ _ z => z)
theorem w_lst (h : wpM (fs env r) (fun xs r1 => xs.length ≤ 16777216 ∧ K (.lst xs) r1) E) : wpM (eLst fs env r) K E := w_bnd (wpM_mono h (fun x r1 h => w_pos h.1 h.2) fun _ _ z => z)
theorem w_isi {c : Tc} (h : wpM (fa env r) (fun x r1 => ∃ b, isC c x = some b ∧ K (.bl b) r1) E) : wpM (eIsi c fa env r) K E := w_bnd (wpM_mono h (fun x r1 ⟨b, h, k⟩ => by rw [h]; exact k) fun _ _ z => z)
theorem w_neg (h : wpM (fa env r) (fun x r1 => ∃ n, x = .int n ∧ K (.int (-n)) r1) E) : wpM (eNeg fa env r) K E := w_bnd (wpM_mono h (fun x r1 ⟨n, h, k⟩ => by subst h; exact k) fun _ _ z => z)
theorem w_not (h : wpM (fa env r) (fun x r1 => ∃ n, x = .bl n ∧ K (.bl (!n)) r1) E) : wpM (eNot fa env r) K E := w_bnd (wpM_mono h (fun x r1 ⟨n, h, k⟩ => by subst h; exact k) fun _ _ z => z)
theorem w_and (h : wpM (fa env r) (fun x r1 => ∃ c, x = .bl c ∧ (c = true → wpM (fb env r1) K E) ∧ (c = false → K (.bl false) r1)) E) : wpM (eAnd fa fb env r) K E := w_bnd (wpM_mono h (fun x r1 ⟨c, h, k1, k2⟩ => by
  subst h
  cases c with
  | true => exact k1 rfl
  | false => exact k2 rfl) fun _ _ z => z)
theorem w_or (h : wpM (fa env r) (fun x r1 => ∃ c, x = .bl c ∧ (c = true → K (.bl true) r1) ∧ (c = false → wpM (fb env r1) K E)) E) : wpM (eOr fa fb env r) K E := w_bnd (wpM_mono h (fun x r1 ⟨c, h, k1, k2⟩ => by
  subst h
  cases c with
  | true => exact k1 rfl
  | false => exact k2 rfl) fun _ _ z => z)
theorem w_eif {c : Env → M Bool} (h : wpM (c env r) (fun b r1 => (b = true → wpM (fa env r1) K E) ∧ (b = false → wpM (fb env r1) K E)) E) : wpM (eIf c fa fb env r) K E := w_bnd (wpM_mono h (fun b r1 ⟨k1, k2⟩ => by
  cases b with
  | true => exact k1 rfl
  | false => exact k2 rfl) fun _ _ z => z)
theorem w_chain {g g' : PV → PV → Option PV} (h : wpM (fa env r) (fun x r1 => wpM (fb env r1) (fun y r2 => ∃ c, g x y = some (.bl c) ∧ (c = true → wpM (fc env r2) (fun w r3 => ∃ z, g' y w = some z ∧ K z r3) E) ∧ (c = false → K (.bl false) r2)) E) E) : wpM (eChain g g' fa fb fc env r) K E :=
  w_bnd (wpM_mono h (fun x r1 h => w_bnd (wpM_mono h (fun y r2 ⟨c, e, k1, k2⟩ => by
    rw [e]
    cases c with
    | true => exact w_bnd (w_ofO ⟨_, rfl, w_bnd (w_bnd (wpM_mono (k1 rfl) (fun w r3 h => w_ofO h) fun _ _ z => z))⟩)
    | false => exact k2 rfl) fun _ _ z => z)) fun _ _ z => z)
theorem w_ix (h : wpM (fa env r) (fun x r1 => wpM (fb env r1) (fun y r2 => ∃ z, ixP x y = some z ∧ K z r2) E) E) : wpM (eIx fa fb env r) K E := w_op2 h
theorem w_sl {fl fh : OF} (h : wpM (fa env r) (fun x r1 => wpM (fl env r1) (fun lo r2 => wpM (fh env r2) (fun hi r3 => ∃ z, slP x lo hi = some z ∧ K z r3) E) E) E) : wpM (eSl fa fl fh env r) K E := w_bnd (wpM_mono h (fun x r1 h => w_bnd (wpM_mono h (fun y r2 h => w_bnd (wpM_mono h (fun z r3 h => w_ofO h) fun _ _ z => z)) fun _ _ z => z)) fun _ _ z => z)
theorem w_no {K : Option Int → RS → Prop} (h : K none r) : wpM (oNo env r) K E := h
theorem w_at {K : Option Int → RS → Prop} (h : wpM (fa env r) (fun x r1 => ∃ n, x = .int n ∧ K (some n) r1) E) : wpM (oAt fa env r) K E := w_bnd (wpM_mono h (fun x r1 ⟨n, h, k⟩ => by subst h; exact k) fun _ _ z => z)
end
section
variable {K : Bool → RS → Prop} {E : Exn → RS → Prop} {r : RS} {env : Env} {fa fb fc : EF} {f g : Env → M Bool}
theorem w_tB (h : wpM (fa env r) (fun x r' => ∃ c, x = .bl c ∧ K c r') E) : wpM (tB fa env r) K E := w_bnd (wpM_mono h (fun x r1 ⟨c, e, k⟩ => by subst e; exact k) fun _ _ z => z)
theorem w_bAnd (h : wpM (f env r) (fun c r' => (c = true → wpM (g env r') K E) ∧ (c = false → K false r')) E) : wpM (bAnd f g env r) K E := w_bnd (wpM_mono h (fun c r1 ⟨k1, k2⟩ => by
  cases c with
  | true => exact k1 rfl
  | false => exact k2 rfl) fun _ _ z => z)
theorem w_bOr (h : wpM (f env r) (fun c r' => (c = true → K true r') ∧ (c = false → wpM (g env r') K E)) E) : wpM (bOr f g env r) K E := w_bnd (wpM_mono h (fun c r1 ⟨k1, k2⟩ => by
  cases c with
  | true => exact k1 rfl
  | false => exact k2 rfl) fun _ _ z => z)
theorem w_bNot (h : wpM (f env r) (fun c r' => K (!c) r') E) : wpM (bNot f env r) K E := w_bnd h
end
section
variable {K : Fl → RS → Prop} {E : Exn → RS → Prop} {r : RS} {env : Env} {fa fb fc : EF} {fs : AF} {f g : Env → M Fl}
def seqK (g : Env → M Fl) (K : Fl → RS → Prop) (E : Exn → RS → Prop) : Fl → RS → Prop
  | .nx e, r => wpM (g e r) K E
  | .rt v, r => K (.rt v) r
  | .bk e, r => K (.bk e) r
  | .ct e, r => K (.ct e) r
theorem w_seq (h : wpM (f env r) (seqK g K E) E) : wpM (sSeq f g env r) K E := w_bnd (wpM_mono h (fun fl r1 h => by cases fl <;> exact h) fun _ _ z => z)
theorem w_next (h : K (.nx env) r) : wpM (sNext env r) K E := h
theorem w_set {i : Nat} (h : wpM (fa env r) (fun v r' => i < env.length ∧ K (.nx (env.set i (.sh v))) r') E) : wpM (sSet i fa env r) K E := w_bnd (wpM_mono h (fun x r1 h => by unfold sPut; exact w_pos h.1 h.2) fun _ _ z => z)
theorem w_setO {i : Nat} (h : wpM (fa env r) (fun v r' => i < env.length ∧ K (.nx (env.set i (.ow v))) r') E) : wpM (sSetO i fa env r) K E := w_bnd (wpM_mono h (fun x r1 h => by unfold sPut; exact w_pos h.1 h.2) fun _ _ z => z)
theorem w_expr (h : wpM (fa env r) (fun v r' => K (.nx env) r') E) : wpM (sExpr fa env r) K E := w_bnd h
theorem w_sret (h : wpM (fa env r) (fun v r' => K (.rt v) r') E) : wpM (sRet fa env r) K E := w_bnd h
theorem w_if {c : Env → M Bool} (h : wpM (c env r) (fun b r1 => (b = true → wpM (f env r1) K E) ∧ (b = false → wpM (g env r1) K E)) E) : wpM (sIf c f g env r) K E := w_bnd (wpM_mono h (fun b r1 ⟨k1, k2⟩ => by
  cases b with
  | true => exact k1 rfl
  | false => exact k2 rfl) fun _ _ z => z)
theorem w_aug {i : Nat} {g : PV → PV → Option PV} {x : PV} (e : env[i]? = some (.sh x)) (h : wpM (fa env r) (fun y r' => ∃ z, g x y = some z ∧ i < env.length ∧ K (.nx (env.set i (.sh z))) r') E) : wpM (sAug i g fa env r) K E := by
  refine w_bnd (w_var e (w_bnd (wpM_mono h (fun y r1 ⟨z, h1, h2, h3⟩ => ?_) fun _ _ z => z)))
  rw [h1]
  exact w_pos h2 h3
theorem w_sets {is : List Nat} {ks : List Bool} (h : wpM (fs env r) (fun xs r' => ∃ e, setsE is ks xs env = some e ∧ K (.nx e) r') E) : wpM (sSets is ks fs env r) K E := w_bnd (wpM_mono h (fun xs r1 ⟨e, h1, h2⟩ => by rw [h1]; exact h2) fun _ _ z => z)
theorem w_app {i : Nat} {xs : List PV} (e : env[i]? = some (.ow (.lst xs))) (h : wpM (fa env r) (fun v r' => xs.length < 16777216 ∧ K (.nx (env.set i (.ow (.lst (xs ++ [v]))))) r') E) : wpM (sApp i fa env r) K E := by
  have : owL env i = ret xs := by unfold owL; rw [e]
  refine w_bnd (w_eq this (w_bnd (wpM_mono h (fun v r1 h => w_pos h.1 h.2) fun _ _ z => z)))
theorem w_raise {x : Str} {fl : List Str} (h : wpM (fs env r) (fun xs r' => E ⟨x, fl.zip xs⟩ r') E) : wpM (sRaise x fl fs env r) K E := w_bnd h
theorem w_raiseF {x : Str} {fl : List Str} (h : wpM (fs env r) (fun ys r' => (ys.all flP && decide (ys.length = fl.length)) = true ∧ E ⟨x, fl.zip ys⟩ r') E) : wpM (sRaiseF x fl fs env r) K E := w_bnd (wpM_mono h (fun ys r1 h => w_pos h.1 h.2) fun _ _ z => z)
theorem w_for {fi : AF} {t : TP} (h : wpM (fi env r) (fun xs r' => wpM (loopF t f xs env r') K E) E) : wpM (sFor fi t f env r) K E := w_bnd h
theorem w_rg {gg : List PV → M (List PV)} {K : List PV → RS → Prop} (h : wpM (fs env r) (fun xs r' => wpM (gg xs r') K E) E) : wpM (iRg gg fs env r) K E := w_bnd h
theorem w_rg1 {j : Int} {K : List PV → RS → Prop} (o : okR j = true) (h : K (rgL 0 1 j.toNat) r) : wpM (rg1 [.int j] r) K E := w_pos o h
theorem w_iLst {K : List PV → RS → Prop} (h : wpM (fa env r) (fun x r' => ∃ xs, x = .lst xs ∧ K xs r') E) : wpM (iLst fa env r) K E := w_bnd (wpM_mono h (fun x r1 ⟨xs, e, k⟩ => by subst e; exact k) fun _ _ z => z)
/-- a for whose turns all go on: an invariant -/
theorem w_loop {t : TP} (Inv : Nat → Env → RS → Prop) : ∀ (xs : List PV) (i : Nat) (env : Env) (r : RS), Inv i env r →
    (∀ j x env r, xs[j]? = some x → Inv (i + j) env r → ∃ e1, t x env = some e1 ∧ wpM (f e1 r) (fun fl r' => match fl with | .nx e2 => Inv (i + j + 1) e2 r' | .ct e2 => Inv (i + j + 1) e2 r' | .bk e2 => K (.nx e2) r' | .rt v => K (.rt v) r') E) →
    (∀ env r, Inv (i + xs.length) env r → K (.nx env) r) → wpM (loopF t f xs env r) K E
  | [], i, env, r, h0, hs, hd => hd env r h0
  | x :: xs, i, env, r, h0, hs, hd => by
    obtain ⟨e1, h1, h2⟩ := hs 0 x env r rfl h0
    unfold loopF
    rw [h1]
    refine w_bnd (w_ofO ⟨e1, rfl, w_bnd (wpM_mono h2 (fun fl r' h => ?_) fun _ _ z => z)⟩)
    have rest : ∀ e2, Inv (i + 0 + 1) e2 r' → wpM (loopF t f xs e2 r') K E := fun e2 h => by
      refine w_loop Inv xs (i + 1) e2 r' h (fun j y env r hy hI => ?_) fun env r hI => ?_
      · have := hs (j + 1) y env r (by simpa using hy)
        rw [show i + (j + 1) = i + 1 + j from by omega] at this
        exact this hI
      · refine hd env r ?_
        rw [List.length_cons, show i + (xs.length + 1) = i + 1 + xs.length from by omega]
        exact hI
    cases fl with
    | nx e2 => exact rest e2 h
    | ct e2 => exact rest e2 h
    | bk e2 => exact h
    | rt v => exact h
end
theorem w_run {nn : Nat} {body : Env → M Fl} {xs : List PV} {K : PV → RS → Prop} {E : Exn → RS → Prop} {r : RS} (h : wpM (body (xs.map .sh ++ List.replicate (nn - xs.length) .no) r) (fun fl r' => match fl with | .nx _ => K .non r' | .rt v => K v r' | _ => False) E) : wpM (runF nn body xs r) K E := w_bnd (wpM_mono h (fun fl r' h => by cases fl <;> exact h) fun _ _ z => z)
end Mir
namespace Mir
open PySem PySem.Spec PyProof.Rows L2
section
variable {K : Fl → RS → Prop} {E : Exn → RS → Prop} {r : RS} {env : Env} {g : Env → M Fl}
theorem w_k (h : wpM (g env r) K E) : seqK g K E (.nx env) r := h
end
section
variable {Q : PV → Prop} {a b : Int}
theorem x_mul (ha : small a = true) (hb : small b = true) (h : Q (.int (a * b))) : ∃ z, gMul (.int a) (.int b) = some z ∧ Q z := ⟨.int (a * b), by
  have : gInt hMul (.int a) (.int b) = some (.int (a * b)) := by
    show hMul a b = _
    unfold hMul
    rw [ha, hb]; rfl
  unfold gMul gOr
  rw [this], h⟩
theorem x_mulX (hc : a.natAbs.log2 + b.natAbs.log2 < 100000000) (h : Q (.int (a * b))) : ∃ z, gMul (.int a) (.int b) = some z ∧ Q z := ⟨.int (a * b), by
  have : gInt hMul (.int a) (.int b) = some (.int (a * b)) := by
    show hMul a b = _
    unfold hMul
    rw [decide_eq_true hc, Bool.or_true]; rfl
  unfold gMul gOr
  rw [this], h⟩
theorem x_div (h0 : 0 < b) (hb : small b = true) (h : Q (.int (a / b))) : ∃ z, gInt hDiv (.int a) (.int b) = some z ∧ Q z := ⟨.int (a / b), by
  show hDiv a b = _
  unfold hDiv
  rw [hb, decide_eq_true h0]; rfl, h⟩
theorem x_mod (h0 : 0 < b) (h : Q (.int (a % b))) : ∃ z, gInt hMod (.int a) (.int b) = some z ∧ Q z := ⟨.int (a % b), by
  show hMod a b = _
  unfold hMod
  rw [if_pos h0], h⟩
end
end Mir
namespace Mir
open PySem PySem.Spec PyProof.Rows L2
section
variable {p : Prop} [Decidable p] {A B : Prop}
theorem x_no (h : ¬ p) (k : B) : (decide p = true → A) ∧ (decide p = false → B) := ⟨fun z => absurd (of_decide_eq_true z) h, fun _ => k⟩
theorem x_br (k : p → A) (k' : ¬ p → B) : (decide p = true → A) ∧ (decide p = false → B) := ⟨fun z => k (of_decide_eq_true z), fun z => k' (of_decide_eq_false z)⟩
theorem x_t (k : A) : (true = true → A) ∧ (true = false → B) := ⟨fun _ => k, fun z => absurd z (by decide)⟩
theorem x_f (k : B) : (false = true → A) ∧ (false = false → B) := ⟨fun z => absurd z (by decide), fun _ => k⟩
theorem x_b {b : Bool} (k : b = true → A) (k' : b = false → B) : (b = true → A) ∧ (b = false → B) := ⟨k, k'⟩
end
theorem gNm_ok {i : Nat} {x : PV} {env : Env} (h : i < env.length) (h' : isOw env[i]? = false) : gNm i x env = some (env.set i (.sh x)) := by
  unfold gNm
  rw [h', decide_eq_true h]; rfl
theorem sm {a : Int} (h0 : -(2 ^ 4000) < a) (h : a < 2 ^ 4000) : small a = true := by
  unfold small
  rw [decide_eq_true_eq]
  omega
theorem okR_of {a : Int} (h0 : 0 ≤ a) (h : a < 2 ^ 62) : okR a = true := by
  unfold okR
  rw [decide_eq_true (by omega), decide_eq_true h]; rfl
end Mir
namespace Mir
open PySem PySem.Spec PyProof.Rows L2
theorem x_exi {α : Type} {P : α → Prop} (h : ∃ z, P z) : ∃ z, P z := h
theorem x_ltK {i n : Nat} {A : Prop} (h : i < n ∧ A) : i < n ∧ A := h
theorem x_leK {i n : Nat} {A : Prop} (h : i ≤ n ∧ A) : i ≤ n ∧ A := h
theorem x_eqK {i n : Nat} {A : Prop} (h : i = n ∧ A) : i = n ∧ A := h
section
variable {K : Fl → RS → Prop} {E : Exn → RS → Prop} {r : RS} {env : Env} {g : Env → M Fl} {v : PV}
theorem w_kr (h : K (.rt v) r) : seqK g K E (.rt v) r := h
end
end Mir
namespace Mir
open PySem PySem.Spec PyProof.Rows L2
section
variable {K : Fl → RS → Prop} {E : Exn → RS → Prop} {c : Env → M Bool} {f : Env → M Fl}
theorem w_whileI (Inv : Nat → Env → RS → Prop)
    (hs : ∀ i env r, Inv i env r → wpM (c env r) (fun b r1 => (b = true → wpM (f env r1) (fun fl r2 => match fl with | .nx e => ∃ i', i' < i ∧ Inv i' e r2 | .ct e => ∃ i', i' < i ∧ Inv i' e r2 | .bk e => K (.nx e) r2 | .rt v => K (.rt v) r2) E) ∧ (b = false → K (.nx env) r1)) E) :
    ∀ (n i : Nat) (env : Env) (r : RS), i < n → Inv i env r → wpM (loopW c f n env r) K E
  | 0, i, env, r, h, _ => by omega
  | n + 1, i, env, r, h, h0 => by
    unfold loopW
    refine w_bnd (wpM_mono (hs i env r h0) (fun b r1 ⟨k1, k2⟩ => ?_) fun _ _ z => z)
    cases b with
    | false => exact k2 rfl
    | true =>
      refine w_bnd (wpM_mono (k1 rfl) (fun fl r2 h => ?_) fun _ _ z => z)
      cases fl with
      | nx e => obtain ⟨i', h1, h2⟩ := h; exact w_whileI Inv hs n i' e r2 (by omega) h2
      | ct e => obtain ⟨i', h1, h2⟩ := h; exact w_whileI Inv hs n i' e r2 (by omega) h2
      | bk e => exact h
      | rt v => exact h
end
end Mir
namespace Mir
open PySem PySem.Spec PyProof.Rows L2
theorem w_noex {α : Type} {m : M α} {r : RS} {K : α → RS → Prop} {E : Exn → RS → Prop} (h : wpM (m r) K fun _ _ => False) : wpM (noex m r) K E := by
  unfold noex
  cases e : m r with
  | ok a r' => rw [e] at h; exact h
  | ex _ _ => rw [e] at h; exact h.elim
  | bad => rw [e] at h; exact h
theorem w_lc {vs : List Nat} {fi : AF} {t : TP} {tt : Env → M Bool} {fe : EF} {env : Env} {r : RS} {K : PV → RS → Prop} {E : Exn → RS → Prop}
    (h : wpM (fi env r) (fun xs r' => (xs.length ≤ 16777216 ∧ noOw env vs = true) ∧ wpM (lcF t tt fe xs (wipeE env vs) r') (fun ys r2 => K (.lst ys) r2) E) E) : wpM (eLc vs fi t tt fe env r) K E :=
  w_bnd (wpM_mono h (fun xs r1 ⟨h1, h2⟩ => w_pos h1 (w_bnd h2)) fun _ _ z => z)
theorem w_lcP {t : TP} {tt : Env → M Bool} {fe : EF} {env : Env} {r : RS} {K : List PV → RS → Prop} {E : Exn → RS → Prop} (p : PV → Bool) (g : PV → PV) : ∀ (xs : List PV),
    (∀ x ∈ xs, ∃ e1, t x env = some e1 ∧ ∀ r, wpM (tt e1 r) (fun b r1 => b = p x ∧ r1 = r) (fun _ _ => False) ∧ (p x = true → wpM (fe e1 r) (fun y r1 => y = g x ∧ r1 = r) (fun _ _ => False))) →
    K ((xs.filter p).map g) r → wpM (lcF t tt fe xs env r) K E
  | [], _, k => k
  | x :: xs, h, k => by
    obtain ⟨e1, h1, h2⟩ := h x List.mem_cons_self
    unfold lcF
    refine w_bnd (w_ofO ⟨e1, h1, w_bnd (w_noex (wpM_mono (h2 r).1 (fun b r1 ⟨hb, hr⟩ => ?_) fun _ _ z => z))⟩)
    subst hb hr
    have rest := fun K => w_lcP (t := t) (tt := tt) (fe := fe) (env := env) (r := r1) (K := K) (E := E) p g xs fun y hy => h y (List.mem_cons_of_mem _ hy)
    cases q : p x with
    | false =>
      rw [List.filter_cons, q] at k
      exact rest K k
    | true =>
      rw [List.filter_cons, q] at k
      refine w_bnd (w_noex (wpM_mono ((h2 r1).2 q) (fun y r2 ⟨hy, hr⟩ => ?_) fun _ _ z => z))
      subst hy hr
      exact w_bnd (rest _ k)
end Mir
namespace Mir
open PySem PySem.Spec PyProof.Rows L2
theorem w_yes {env : Env} {r : RS} {K : Bool → RS → Prop} {E : Exn → RS → Prop} (h : K true r) : wpM (bYes env r) K E := h
end Mir
namespace Mir
open PySem PySem.Spec PyProof.Rows L2
/-- a mirror that raises e, the draws stay -/
theorem ex_of {α : Type} {m : M α} {e : Exn} (h : ∀ r, wpM (m r) (fun _ _ => False) (fun x r' => x = e ∧ r' = r)) : m = raise e := by
  funext r
  have := h r
  cases q : m r with
  | ok a r' => rw [q] at this; exact this.elim
  | ex x r' => rw [q] at this; obtain ⟨h1, h2⟩ := (show x = e ∧ r' = r from this); rw [h1, h2]; rfl
  | bad => rw [q] at this; exact this.elim
theorem w_ex {α : Type} {m : M α} {e : Exn} {r : RS} {K : α → RS → Prop} {E : Exn → RS → Prop} (q : m = raise e) (h : E e r) : wpM (m r) K E := by rw [q]; exact h
theorem w_try {ns : List Str} {t i : Nat} {hs : List (Str × HV)} {body : Env → M Fl} {env : Env} {r : RS} {K : Fl → RS → Prop} {E : Exn → RS → Prop} (h : wpM (body env r) K (fun e r' => wpM (catchO ns t i hs env e r') K E)) : wpM (sTry ns t i hs body env r) K E := by
  unfold sTry
  cases q : body env r with
  | ok a r' => rw [q] at h; exact h
  | ex x r' => rw [q] at h; exact h
  | bad => rw [q] at h; exact h.elim
theorem w_catch {ns : List Str} {t i : Nat} {hs : List (Str × HV)} {env : Env} {e : Exn} {r : RS} {K : Fl → RS → Prop} {E : Exn → RS → Prop} (hv : HV) (v : PV) (h1 : e.nm ∈ ns) (h2 : hs.lookup e.nm = some hv) (h3 : hV e hv = some v) (h4 : isOw env[i]? = false ∧ t < env.length ∧ t ≠ i ∧ i < env.length) (h : K (.nx (((env.set i .no).set t (.sh v)).set i .no)) r) : wpM (catchO ns t i hs env e r) K E := by
  unfold catchO
  rw [if_pos h1, h2]
  show wpM (catch2 t i env r (hV e hv)) K E
  rw [h3]
  unfold catch2
  show wpM (if _ then _ else _) K E
  rw [if_pos h4]
  exact h
theorem w_iEn {fa : EF} {env : Env} {r : RS} {K : List PV → RS → Prop} {E : Exn → RS → Prop} (h : wpM (fa env r) (fun x r1 => wpM (unS x r1) (fun xs r2 => K (enL 0 xs) r2) E) E) : wpM (iEn fa env r) K E := w_bnd (wpM_mono h (fun x r1 h => w_bnd (wpM_mono h (fun xs r2 h => h) fun _ _ z => z)) fun _ _ z => z)
end Mir
namespace Mir
open PySem PySem.Spec PyProof.Rows L2
def lpK (t : TP) (f : Env → M Fl) (xs : List PV) (K : Fl → RS → Prop) (E : Exn → RS → Prop) : Fl → RS → Prop
  | .nx e, r => wpM (loopF t f xs e r) K E
  | .ct e, r => wpM (loopF t f xs e r) K E
  | .bk e, r => K (.nx e) r
  | .rt v, r => K (.rt v) r
section
variable {K : Fl → RS → Prop} {E : Exn → RS → Prop} {r : RS} {env e1 : Env} {f : Env → M Fl} {t : TP} {x v : PV} {xs : List PV}
theorem w_lp (h1 : t x env = some e1) (h : wpM (f e1 r) (lpK t f xs K E) E) : wpM (loopF t f (x :: xs) env r) K E := by
  unfold loopF
  refine w_bnd (w_ofO ⟨_, h1, w_bnd (wpM_mono h (fun fl r' h => ?_) fun _ _ z => z)⟩)
  cases fl <;> exact h
theorem w_lpn (h : wpM (loopF t f xs env r) K E) : lpK t f xs K E (.nx env) r := h
theorem w_lpr (h : K (.rt v) r) : lpK t f xs K E (.rt v) r := h
end
end Mir
namespace Mir
open PySem PySem.Spec PyProof.Rows L2
section
variable {K : List PV → RS → Prop} {E : Exn → RS → Prop} {r : RS} {vs : List PV}
theorem w_unT (h : K vs r) : wpM (unS (.tup vs) r) K E := h
theorem w_unL (h : K vs r) : wpM (unS (.lst vs) r) K E := h
end
end Mir
namespace Mir
end Mir

/-! forward rules for the draws' row -/
namespace Mir
open PySem PySem.Spec PyProof.Rows L2
section
variable {K : PV → RS → Prop} {E : Exn → RS → Prop} {r : RS} {env : Env} {fa : EF} {i : Nat} {k : Int}
theorem w_kin {neg : Bool} {ys : List Str} (h : wpM (fa env r) (fun x r1 => ∃ s, x = .str s ∧ K (.bl (if neg = true then !ys.any (fun y => y == s) else ys.any fun y => y == s)) r1) E) : wpM (eKin neg ys fa env r) K E := w_bnd (wpM_mono h (fun x r1 ⟨s, h, k⟩ => by subst h; exact k) fun _ _ z => z)
theorem w_rowR {v : PV} (e : isRow env i = true) (g : rowG k r = some v) (h : K v r) : wpM (eRow i k env r) K E := by
  unfold eRow
  rw [if_pos e, g]
  exact h
theorem w_cell {n : Int} (e : isRow env i = true) (g : r.xs[r.i]? = some n) (h : K (.int n) r) : wpM (eCell i env r) K E := by
  unfold eCell
  rw [if_pos e, g]
  exact h
theorem w_lenS (e : isRow env i = true) (h : K (.int r.xs.length) r) : wpM (eLenS i env r) K E := by
  unfold eLenS
  rw [if_pos e]
  exact h
theorem w_rowW {K : Fl → RS → Prop} (e : isRow env i = true) (h : wpM (fa env r) (fun v r1 => ∃ n, v = .int n ∧ ∃ r2, rowS k n r1 = some r2 ∧ K (.nx env) r2) E) : wpM (sRow i k fa env r) K E := w_bnd (wpM_mono h (fun x r1 ⟨n, h, r2, g, k⟩ => by
  subst h
  refine w_bnd ?_
  show wpM (if _ then _ else _) _ _
  rw [if_pos e, g]
  exact k) fun _ _ z => z)
end
/-- the draws, as a law leaves them -/
structure Rok (r : RS) : Prop where
  b : ∀ z ∈ r.xs, z.natAbs.log2 ≤ 1048576
  s0 : 0 ≤ r.s
  s1 : r.s < 2147483647
theorem Rok.st {xs : List Int} (h : ∀ z ∈ xs, z.natAbs.log2 ≤ 1048576) : Rok ⟨xs, 0, 0, 7⟩ := ⟨h, show (0:Int) ≤ 7 by decide, show (7:Int) < 2147483647 by decide⟩
end Mir

/-! slices and rows of tuples, plainly -/
namespace Mir
open PySem PySem.Spec PyProof.Rows L2
theorem sIx_le {n d k : Nat} (h : k ≤ n) : HT.sIx n d (some (k : Int)) = k := by
  rw [HT.sIx_nat]
  exact Nat.min_eq_left h
theorem cut_to {xs : List PV} {k : Nat} (h : k ≤ xs.length) : cutP xs none (some (k : Int)) = xs.take k := by
  unfold cutP
  rw [HT.sIx_none, sIx_le h, List.drop_zero, Nat.sub_zero]
theorem cut_from {xs : List PV} {k : Nat} (h : k ≤ xs.length) : cutP xs (some (k : Int)) none = xs.drop k := by
  unfold cutP
  rw [HT.sIx_none, sIx_le h]
  exact List.take_of_length_le (by rw [List.length_drop]; omega)
end Mir

/-! == of a thing with itself -/
namespace Mir
open PySem PySem.Spec PyProof.Rows L2
theorem str_refl (x : Str) : (x == x) = true := by
  first | exact beq_self_eq_true x | simp
theorem pq_refl : ∀ (n : Nat) (x : PV), dt n x = true → pq n x x = true
  | 0, .non, _ => rfl
  | 0, .bl b, _ => by cases b <;> rfl
  | 0, .int i, _ => beq_self_eq_true i
  | 0, .str x, _ => str_refl x
  | n + 1, .non, _ => rfl
  | n + 1, .bl b, _ => by cases b <;> rfl
  | n + 1, .int i, _ => beq_self_eq_true i
  | n + 1, .str x, _ => str_refl x
  | n + 1, .tup xs, h => by
    have h : xs.all (dt n) = true := h
    show pqL (pq n) xs xs = true
    have key : ∀ ys : List PV, ys.all (dt n) = true → pqL (pq n) ys ys = true := fun ys => by
      induction ys with
      | nil => intro _; rfl
      | cons y ys ih =>
        intro h
        rw [List.all_cons, Bool.and_eq_true] at h
        show (pq n y y && pqL (pq n) ys ys) = true
        rw [pq_refl n y h.1, ih h.2]; rfl
    exact key xs h
  | n + 1, .lst xs, h => by
    have h : xs.all (dt n) = true := h
    show pqL (pq n) xs xs = true
    have key : ∀ ys : List PV, ys.all (dt n) = true → pqL (pq n) ys ys = true := fun ys => by
      induction ys with
      | nil => intro _; rfl
      | cons y ys ih =>
        intro h
        rw [List.all_cons, Bool.and_eq_true] at h
        show (pq n y y && pqL (pq n) ys ys) = true
        rw [pq_refl n y h.1, ih h.2]; rfl
    exact key xs h
theorem ne_refl {x : PV} (h : dt 8 x = true) : gNe x x = some (.bl false) := by
  unfold gNe
  rw [h, pq_refl 8 x h]; rfl
theorem eq_refl {x : PV} (h : dt 8 x = true) : gEq x x = some (.bl true) := by
  unfold gEq
  rw [h, pq_refl 8 x h]; rfl
end Mir
namespace Mir
open PySem PySem.Spec PyProof.Rows L2
section
variable {K : Fl → RS → Prop} {E : Exn → RS → Prop} {r : RS} {env : Env} {fa fb fi fv : EF} {fs : AF}
theorem w_asgT {n : Nat} {t : List PV → Env → Option Env} (h : wpM (fs env r) (fun xs r1 => xs.length ≤ 16777216 ∧ ∃ e, gTupl n t (.tup xs) env = some e ∧ K (.nx e) r1) E) : wpM (sAsgT n fs t env r) K E :=
  w_bnd (w_tup (wpM_mono h (fun xs r1 ⟨h1, h2⟩ => ⟨h1, w_bnd (w_ofO h2)⟩) fun _ _ z => z))
theorem w_asg {t : TP} (h : wpM (fa env r) (fun x r1 => ∃ e, t x env = some e ∧ K (.nx e) r1) E) : wpM (sAsg fa t env r) K E :=
  w_bnd (wpM_mono h (fun x r1 h2 => w_bnd (w_ofO h2)) fun _ _ z => z)
theorem w_setIx {i : Nat} {xs : List PV} (e : env[i]? = some (.ow (.lst xs))) (h : wpM (fv env r) (fun v r1 => wpM (fi env r1) (fun k r2 => ∃ n j, k = .int n ∧ ixN xs.length n = some j ∧ K (.nx (env.set i (.ow (.lst (xs.set j v))))) r2) E) E) : wpM (sSetIx i fi fv env r) K E := by
  have o : owL env i = ret xs := by unfold owL; rw [e]
  refine w_bnd (wpM_mono h (fun v r1 h => w_bnd (w_eq o (w_bnd (wpM_mono h (fun k r2 ⟨n, j, h1, h2, h3⟩ => ?_) fun _ _ z => z)))) fun _ _ z => z)
  subst h1
  exact w_bnd (w_bnd (w_ofO ⟨j, h2, h3⟩))
theorem w_ext {i : Nat} {xs : List PV} (e : env[i]? = some (.ow (.lst xs))) (h : wpM (fa env r) (fun v r1 => ∃ ys, v = .lst ys ∧ xs.length + ys.length ≤ 16777216 ∧ K (.nx (env.set i (.ow (.lst (xs ++ ys))))) r1) E) : wpM (sExt i fa env r) K E := by
  have o : owL env i = ret xs := by unfold owL; rw [e]
  refine w_bnd (w_eq o (w_bnd (wpM_mono h (fun v r1 ⟨ys, h1, h2, h3⟩ => ?_) fun _ _ z => z)))
  subst h1
  exact w_bnd (w_pos h2 h3)
theorem w_rev {i : Nat} {xs : List PV} (e : env[i]? = some (.ow (.lst xs))) (h : K (.nx (env.set i (.ow (.lst xs.reverse)))) r) : wpM (sRev i env r) K E := by
  have o : owL env i = ret xs := by unfold owL; rw [e]
  exact w_bnd (w_eq o h)
theorem w_iTupl {K : List PV → RS → Prop} (h : wpM (fa env r) (fun x r' => ∃ xs, x = .tup xs ∧ K xs r') E) : wpM (iTupl fa env r) K E := w_bnd (wpM_mono h (fun x r1 ⟨xs, e, k⟩ => by subst e; exact k) fun _ _ z => z)
theorem w_rv {K : PV → RS → Prop} (h : wpM (fa env r) (fun x r1 => ∃ z, rvP x = some z ∧ K z r1) E) : wpM (eRv fa env r) K E := w_bnd (wpM_mono h (fun x r1 h => w_ofO h) fun _ _ z => z)
theorem w_rgD {i j : Int} {K : List PV → RS → Prop} (o : (okR i && okR j) = true) (h : K (rgL i (-1) (i - j).toNat) r) : wpM (rgD [.int i, .int j, .int (-1)] r) K E := by
  show wpM ((if (okR i && okR j && decide ((-1 : Int) = -1)) = true then ret (rgL i (-1) (i - j).toNat) else fail) r) K E
  refine w_pos ?_ h
  rw [o]; rfl
end
theorem x_nt {A B : Prop} (k : A) : ((!false) = true → A) ∧ ((!false) = false → B) := ⟨fun _ => k, fun z => absurd z (by decide)⟩
theorem x_nf {A B : Prop} (k : B) : ((!true) = true → A) ∧ ((!true) = false → B) := ⟨fun z => absurd z (by decide), fun _ => k⟩
theorem gAdd_lst {xs ys : List PV} (h : xs.length + ys.length ≤ 16777216) : gAdd (.lst xs) (.lst ys) = some (.lst (xs ++ ys)) := by
  have : gCatL (.lst xs) (.lst ys) = some (.lst (xs ++ ys)) := if_pos h
  show (match gCatL (.lst xs) (.lst ys) with | some z => some z | none => _) = _
  rw [this]
theorem w_lcG {t : TP} {tt : Env → M Bool} {fe : EF} {env : Env} {K : List PV → RS → Prop} {E : Exn → RS → Prop} {α : Type} (emb : α → PV) (p : α → Bool) (g : α → PV) : ∀ (xs : List α) (r : RS),
    (∀ x ∈ xs, ∃ e1, t (emb x) env = some e1 ∧ ∀ r, wpM (tt e1 r) (fun b r1 => b = p x ∧ r1 = r) (fun _ _ => False) ∧ (p x = true → wpM (fe e1 r) (fun y r1 => y = g x ∧ r1 = r) (fun _ _ => False))) →
    K ((xs.filter p).map g) r → wpM (lcF t tt fe (xs.map emb) env r) K E
  | [], r, _, k => k
  | x :: xs, r, h, k => by
    obtain ⟨e1, h1, h2⟩ := h x List.mem_cons_self
    rw [List.map_cons]
    unfold lcF
    refine w_bnd (w_ofO ⟨e1, h1, w_bnd (w_noex (wpM_mono (h2 r).1 (fun b r1 ⟨hb, hr⟩ => ?_) fun _ _ z => z))⟩)
    subst hb hr
    have rest := fun K => w_lcG (t := t) (tt := tt) (fe := fe) (env := env) (K := K) (E := E) emb p g xs r1 fun y hy => h y (List.mem_cons_of_mem _ hy)
    cases q : p x with
    | false =>
      rw [List.filter_cons, q] at k
      exact rest K k
    | true =>
      rw [List.filter_cons, q] at k
      refine w_bnd (w_noex (wpM_mono ((h2 r1).2 q) (fun y r2 ⟨hy, hr⟩ => ?_) fun _ _ z => z))
      subst hy hr
      exact w_bnd (rest _ k)
/-- a comprehension without an if over mapped things -/
theorem w_lcM {t : TP} {fe : EF} {env : Env} {K : List PV → RS → Prop} {E : Exn → RS → Prop} {α : Type} (emb : α → PV) (g : α → PV) (xs : List α) (r : RS)
    (h : ∀ x ∈ xs, ∃ e1, t (emb x) env = some e1 ∧ ∀ r, wpM (fe e1 r) (fun y r1 => y = g x ∧ r1 = r) (fun _ _ => False)) (k : K (xs.map g) r) : wpM (lcF t bYes fe (xs.map emb) env r) K E := by
  refine w_lcG emb (fun _ => true) g xs r (fun x hx => ?_) ?_
  · obtain ⟨e1, h1, h2⟩ := h x hx
    exact ⟨e1, h1, fun r => ⟨⟨rfl, rfl⟩, fun _ => h2 r⟩⟩
  · rw [List.filter_eq_self.mpr fun _ _ => rfl]; exact k
theorem rgL_map (n : Nat) : rgL 0 1 n = (List.range n).map fun (k : Nat) => PV.int (k : Int) := by
  unfold rgL
  refine List.map_congr_left fun k _ => ?_
  rw [Int.mul_one, Int.zero_add]
theorem bls_map {α : Type} (f : α → Bool) : ∀ l : List α, bls? (l.map fun x => PV.bl (f x)) = some (l.map f)
  | [] => rfl
  | x :: l => by
    show (bls? (l.map fun x => PV.bl (f x))).map (f x :: ·) = _
    rw [bls_map f l]; rfl
theorem gAll_map {α : Type} (f : α → Bool) (l : List α) : gAll [.lst (l.map fun x => PV.bl (f x))] = some (.bl (l.all f)) := by
  show (bls? (l.map fun x => PV.bl (f x))).map (fun ns => PV.bl (ns.all id)) = _
  rw [bls_map]
  show some (PV.bl ((l.map f).all id)) = _
  rw [List.all_map]; rfl
end Mir

/-! sorting: lists of any tuples, the empty one among them -/
namespace Mir.So
open PySem PySem.Calls PySem.W PyProof.Rows PySem.SeqAt
section
variable {prog : Program} {w : World} {A : Around} {E : Value → Shared → Prop} {s : Shared}
theorem tup_lt {Q : Value → Shared → Prop} {l b : Addr} {xs ys : Array Value} {e r : Nat → Bool} (hl : s.heap.IsTuple l xs) (hb : s.heap.IsTuple b ys)
    (he : ∀ j (h1 : j < xs.size) (h2 : j < ys.size), EqAt A.in1 s xs[j] ys[j] (e j)) (hr : ∀ j (h1 : j < xs.size) (h2 : j < ys.size), e j = false → RcLt A.in1 s xs[j] ys[j] (r j))
    (h : Q (.bool (firstLt e r (decide (xs.size < ys.size)) (List.range (min xs.size ys.size)))) s) : wpAny (model prog w) A (call (.builtin "tuple.__lt__") [.ref l, .ref b]) Q E s := by
  obtain ⟨⟨c1, d1, x1, l1⟩, ho, hc, n, hd⟩ := id hl
  obtain ⟨⟨c2, d2, x2, l2⟩, ho2, hc2, n2, hd2⟩ := id hb
  simp only at hc hd hc2 hd2
  subst hc; subst hd; subst hc2; subst hd2
  exact call_meets F.slot_tuple_lt ⟨_, ho, rfl⟩ F.entry_tuple_lt (F.args_tuple_lt_2 _ _) (tuple_ltAt l b xs ys n n2 d1 d2 l1 l2 e r) ⟨ho, ho2, he, hr, h⟩
theorem one_tup {f : Bool} {xs ys : List PyData} {a b : Value} {as bs : List Addr} {Q : Bool → Shared → Prop} (ra : Reads s.heap a (.tuple xs) as) (rb : Reads s.heap b (.tuple ys) bs) (h : alike (.tuple xs) (.tuple ys) = true)
    (hu : A.units + min (PyData.tuple xs).depth (PyData.tuple ys).depth < cLine) (hq : Q (dataLt (.tuple xs) (.tuple ys)) s) : wpAny (model prog w) A (oneLt' f a b) Q E s := by
  have hal : alikeAll xs ys = true := by simpa [alike] using h
  cases f with
  | false =>
    rw [oneLt'_eq]
    simp only [Bool.false_eq_true, if_false]
    exact wpAny_bind (rcLt_alike _ _ A s a b as bs ra rb h (by simp) hu prog w E _ (wpAny_truthy_bool hq))
  | true =>
    cases ra with
    | @tuple l o vs n _ as₁ h1 h2 h3 h4 =>
      cases rb with
      | @tuple l' o' vs' n' _ bs₁ k1 k2 k3 k4 =>
        have n1 : vs.size = xs.length := by simpa using ReadsAll.length _ _ _ h4
        have n2 : vs'.size = ys.length := by simpa using ReadsAll.length _ _ _ k4
        rw [dataLt_tuple, ← firstLt_toks xs ys hal, ← n1, ← n2] at hq
        rw [oneLt'_eq]
        simp only [if_true]
        refine wpAny_bind (wpAny_cRoomFor (room_here hu) ?_)
        refine wpAny_bind (wpAny_callSpecialIfBound?_slot (T := "tuple") ⟨_, h1, h2⟩ F.slot_tuple_lt (tup_lt (e := pairEq xs ys) (r := fun j => dataLt (xs.getD j .none) (ys.getD j .none)) ⟨_, h1, h2, _, h3⟩ ⟨_, k1, k2, _, k3⟩ (fun j j1 j2 => ?_) (fun j j1 j2 hj => ?_) ?_))
        · have z := eqAt_alikeAll xs ys A.in1 s vs.toList vs'.toList _ _ h4 k4 hal (room_in hu) j (by simpa using j1) (by simpa using j2)
          simpa using z
        · have z := rcLt_alikeAll xs ys A.in1 s vs.toList vs'.toList _ _ h4 k4 hal (room_in hu) j (by simpa using j1) (by simpa using j2) hj
          simpa using z
        · exact wpAny_truthy_bool hq
end
/-- the first items of tuples, none of an empty one -/
def Fsts (h : Heap) : List Value → List (Option Value) → Prop
  | [], [] => True
  | v :: vs, f :: fs => (∃ a o xs n, v = .ref a ∧ h.get? a = some o ∧ o.cls = .type "tuple" ∧ o.data = .seq xs n ∧ xs[0]? = f) ∧ Fsts h vs fs
  | _, _ => False
section
variable {M : Model} {A : Around} {E : Value → Shared → Prop} {s : Shared}
theorem fsts_run : ∀ (vs : List Value) (fs : List (Option Value)) {Q : List (Option Value) → Shared → Prop}, Fsts s.heap vs fs → Q fs s → wpAny M A (vs.mapM firstOfTuple') Q E s
  | [], [], _, _, h => by
    rw [List.mapM_nil]
    exact wpAny_pure h
  | [], _ :: _, _, t, _ => t.elim
  | _ :: _, [], _, t, _ => t.elim
  | v :: vs, f :: fs, Q, t, h => by
    obtain ⟨⟨a, o, xs, n, rfl, ho, hc, hd, hf⟩, t⟩ := t
    rw [List.mapM_cons, kas_first_eq]
    refine wpAny_bind (wpAny_bind (Looks.here (show Looks M s.heap (typeOf (.ref a)) o.cls from (Looks.ld ho).andThen .now) ?_))
    rw [hc, if_neg (by first | decide | simp)]
    refine wpAny_bind (listItems_at ho hd (wpAny_pure ?_))
    rw [hf]
    exact wpAny_bind (fsts_run vs fs t (wpAny_pure h))
theorem fsts_kind {v : Value} {vs : List Value} {f : Option Value} {fs : List (Option Value)} {Q : SortKind → Shared → Prop} (t : Fsts s.heap (v :: vs) (f :: fs)) (hn : ((f :: fs).all fun x => x.isSome) = false)
    (hT : ∀ u ∈ v :: vs, Looks M s.heap (typeOf u) (Value.type "tuple")) (h : Q (if f.isSome = true then general' else oneType') s) : wpAny M A (keyKind' (v :: vs).toArray) Q E s := by
  rw [kat_kind_eq, List.mapM_toArray, map_eq_pure_bind]
  refine wpAny_bind (wpAny_bind (fsts_run _ _ t (wpAny_pure ?_)))
  rw [if_neg (by
    rw [List.all_toArray, hn]
    exact Bool.false_ne_true)]
  have h0 : (f :: fs).toArray[0]? = some f := by simp
  rw [h0]
  cases f with
  | some x =>
    show wpAny M A (pure general') Q E s
    exact wpAny_pure h
  | none =>
    show wpAny M A (do return if (← oneTypeOnly' (v :: vs).toArray).isSome = true then oneType' else general') Q E s
    rw [oneTypeOnly'_eq, List.mapM_toArray, map_eq_pure_bind]
    refine wpAny_bind (wpAny_bind (wpAny_bind (kas_mapM (r := Value.type "tuple") _ (fun u hu Q' hq => (hT u hu).here hq) (wpAny_pure ?_))))
    have ha : ((List.map (fun _ => Value.type "tuple") (v :: vs)).toArray.all fun x => x == Value.type "tuple") = true := by
      simp only [List.all_toArray, List.all_map, List.all_eq_true]
      intro _ _
      exact beq_self_eq_true _
    have h1 : (List.map (fun _ => Value.type "tuple") (v :: vs)).toArray[0]? = some (Value.type "tuple") := by simp
    rw [h1]
    simp only [ha, if_true]
    exact wpAny_pure (wpAny_pure h)
end
section
variable {prog : Program} {w : World} {A : Around} {s : Shared}
theorem fsts_of {h : Heap} : ∀ {vs : List Value} {ds : List PyData}, EachIs (fun v d => ∃ as, Reads h v d as) vs ds → (∀ d, d ∈ ds → ∃ xs, d = .tuple xs) → ∃ fs, Fsts h vs fs ∧ (∀ v ∈ vs, ∃ a o xs n, v = .ref a ∧ h.get? a = some o ∧ o.cls = .type "tuple" ∧ o.data = .seq xs n)
  | _, _, .nil, _ => ⟨[], trivial, fun v hv => by cases hv⟩
  | _, _, .cons (b := d) ⟨as, r⟩ t, ht => by
    obtain ⟨fs, h1, h2⟩ := fsts_of t fun d hd => ht d (List.mem_cons_of_mem _ hd)
    obtain ⟨xs, rfl⟩ := ht d List.mem_cons_self
    cases r with
    | @tuple a o us n _ _ ho hc hd hr =>
      refine ⟨us[0]? :: fs, ⟨⟨a, o, us, n, rfl, ho, hc, hd, rfl⟩, h1⟩, fun v hv => ?_⟩
      rcases List.mem_cons.mp hv with e | e
      · exact ⟨a, o, us, n, e, ho, hc, hd⟩
      · exact h2 v e
/-- any alike tuples can be sorted -/
theorem sorts_tups {vs : List Value} {ds : List PyData} (e : EachIs (fun v d => ∃ as, Reads s.heap v d as) vs ds) (hal : AllAlike ds) (ht : ∀ d, d ∈ ds → ∃ xs, d = .tuple xs) (hu : ∀ d, d ∈ ds → A.units + d.depth < cLine) : SortsAt prog w A s (dataKind s.heap ds) vs := by
  have lt : ∀ kd : SortKind, (∀ x y : Value, keyLt' kd x y = oneLt' true x y ∨ keyLt' kd x y = oneLt' false x y) → H.LtAt prog w A s (dataKind s.heap ds) kd := fun kd hk => by
    intro E x y a b Q ha hb hq
    obtain ⟨d, as, hd, ra, rfl⟩ := dataKind_inv ha
    obtain ⟨d', as', hd', rb, rfl⟩ := dataKind_inv hb
    obtain ⟨xs, rfl⟩ := ht d hd
    obtain ⟨ys, rfl⟩ := ht d' hd'
    have hroom : A.units + min (PyData.tuple xs).depth (PyData.tuple ys).depth < cLine := Nat.lt_of_le_of_lt (Nat.add_le_add_left (Nat.min_le_left _ _) _) (hu _ hd)
    rcases hk x y with z | z
    · rw [z]; exact one_tup ra rb (hal _ hd _ hd') hroom hq
    · rw [z]; exact one_tup ra rb (hal _ hd _ hd') hroom hq
  have keys : ∀ v, v ∈ vs → ∃ a, (dataKind s.heap ds).keyOf v = some a := fun v hv => by
    obtain ⟨d, hd, as, r⟩ := e.left v hv
    exact ⟨_, dataKind_some hal hd r⟩
  obtain ⟨fs, t, hv⟩ := fsts_of e ht
  cases vs with
  | nil => exact ⟨keys, general', lt _ fun _ _ => .inr rfl, fun h2 => absurd h2 (by simp)⟩
  | cons v vs =>
    cases fs with
    | nil => exact t.elim
    | cons f fs =>
      cases q : (f :: fs).all fun x => x.isSome with
      | true =>
        refine SortsAt.data e hal (.inl fun d hd => ?_) hu
        obtain ⟨xs, rfl⟩ := ht d hd
        have ne : ∀ {vs : List Value} {ds : List PyData} {fs : List (Option Value)}, EachIs (fun v d => ∃ as, Reads s.heap v d as) vs ds → Fsts s.heap vs fs → fs.all (fun x => x.isSome) = true → PyData.tuple [] ∉ ds := by
          intro vs ds fs e
          induction e generalizing fs with
          | nil => intro _ _ z; cases z
          | @cons u d us ds r t ih =>
            intro tf ha z
            cases fs with
            | nil => exact tf
            | cons f fs =>
              rw [List.all_cons, Bool.and_eq_true] at ha
              rcases List.mem_cons.mp z with z | z
              · subst z
                obtain ⟨as, r⟩ := r
                obtain ⟨⟨a, o, xs, n, rfl, ho, hc, hd, hf⟩, _⟩ := tf
                cases r with
                | @tuple a' o' us' n' _ _ ho' hc' hd' hr' =>
                  rw [ho] at ho'
                  cases ho'
                  rw [hd] at hd'
                  cases hd'
                  have : xs.toList.length = 0 := by simpa using ReadsAll.length _ _ _ hr'
                  have : xs[0]? = none := by
                    rw [Array.getElem?_eq_none]
                    simpa using this
                  rw [this] at hf
                  rw [← hf] at ha
                  exact absurd ha.1 (by simp)
              · exact ih tf.2 ha.2 z
        cases xs with
        | nil => exact absurd hd (ne e t q)
        | cons x r => exact ⟨x, r, rfl⟩
      | false =>
        refine ⟨keys, if f.isSome = true then general' else oneType', lt _ fun x y => ?_, fun _ E Q hq => fsts_kind t q (fun u hu => ?_) hq⟩
        · cases f with
          | some _ => exact .inr rfl
          | none => exact .inl rfl
        · obtain ⟨a, o, xs, n, rfl, ho, hc, hd⟩ := hv u hu
          show Looks _ s.heap (typeOf (Value.ref _)) (Value.type "tuple")
          exact hc ▸ (Looks.ld ho).andThen .now
end
end Mir.So
namespace Mir.So
open PySem PySem.Calls PySem.W PyProof.Rows PySem.SeqAt
section
variable {β : Type}
theorem each_map_of {R : Value → β → Prop} {val : β → Value} : ∀ (bs : List β), (∀ b ∈ bs, R (val b) b) → EachIs R (bs.map val) bs
  | [], _ => .nil
  | b :: bs, h => .cons (h b List.mem_cons_self) (each_map_of bs fun c hc => h c (List.mem_cons_of_mem _ hc))
theorem each_map_to {val : β → Value} : ∀ {vs : List Value} {bs : List β}, EachIs (fun u b => u = val b) vs bs → vs = bs.map val
  | _, _, .nil => rfl
  | _, _, .cons h t => by rw [h, each_map_to t]; rfl
variable {P : Program} {w : World} {A : Around} {E : Value → Shared → Prop} {s : Shared}
theorem sorted_gen {val : β → Value} {enc : β → PyData} {bs : List β} {src : Value} {Q : Value → Shared → Prop} (Pb : List β → Prop)
    (hcol : ∀ (Q : List Value → Shared → Prop) (E : Value → Shared → Prop), (∀ (s1 : Shared) (bs1 : List β), (∀ b o, s.heap.get? b = some o → s1.heap.get? b = some o) → s.heap.objs.size ≤ s1.heap.objs.size → s1.gens = s.gens → s1.os = s.os → bs1.Perm bs → Pb bs1 → Q (bs1.map val) s1) → wpAny (model P w) A.in1 (collect src) Q E s)
    (hr : ∀ b ∈ bs, ∃ as, Reads s.heap (val b) (enc b) as) (hal : ∀ b ∈ bs, ∀ c ∈ bs, alike (enc b) (enc c) = true)
    (hk : (∀ b ∈ bs, ∃ xs, enc b = .tuple xs) ∨ (∀ b ∈ bs, enc b ≠ .none ∧ ∀ xs, enc b ≠ .tuple xs)) (hL : bs.length ≤ sizeLine) (hu : ∀ b ∈ bs, A.units + 2 + (enc b).depth < cLine)
    (hQ : ∀ (s' : Shared) (p c : Nat) (bs1 : List β), (∀ b o, s.heap.get? b = some o → s'.heap.get? b = some o) → s'.gens = s.gens → s'.os = s.os → s.heap.objs.size ≤ p → bs1.Perm bs → Pb bs1 →
      s'.heap.get? p = some (seqObj "list" ((bs1.mergeSort (dataLe false enc)).map val).toArray c) → Q (.ref p) s') :
    wpAny (model P w) A (call (.builtin "sorted") [src]) Q E s := by
  refine Calls.call_function_entry kind_sorted plain_sorted entry_sorted (args_sorted1 _) ?_
  unfold Builtin.«sorted»
  refine wpAny_bind (m := checkCount "sorted" 1 1 _) (wpAny_pure ?_)
  refine wpAny_bind (hcol _ _ fun s1 bs1 k1 hz g1 o1 pm pb => ?_)
  have hvl : (bs1.map val).length ≤ sizeLine := by rw [List.length_map, pm.length_eq]; exact hL
  refine wpAny_bind (wpAny_newList ?_ hvl)
  have hoL : (s1.heap.push (seqObj "list" (bs1.map val).toArray 0)).get? s1.heap.objs.size = some (seqObj "list" (bs1.map val).toArray 0) := Heap.get?_push_size _ rfl
  have kp : ∀ b o, s1.heap.get? b = some o → (s1.heap.push (seqObj "list" (bs1.map val).toArray 0)).get? b = some o := fun b o q => Heap.get?_push_of_some _ q
  have sz : (s1.heap.push (seqObj "list" (bs1.map val).toArray 0)).objs.size = s1.heap.objs.size + 1 := size_push' _ _
  show wpAny (model P w) A.in1 _ _ _ { s1 with heap := s1.heap.push (seqObj "list" (bs1.map val).toArray 0) }
  generalize s1.heap.push (seqObj "list" (bs1.map val).toArray 0) = hp at hoL kp sz ⊢
  generalize hn : s1.heap.objs.size = n at hoL sz hz ⊢
  have ks : ∀ b o, s.heap.get? b = some o → hp.get? b = some o ∧ b ≠ n := fun b o e => ⟨kp b o (k1 b o e), Nat.ne_of_lt (hn ▸ Heap.lt_size (k1 b o e))⟩
  have keep : ∀ b o, s.heap.get? b = some o → (sortingHeap hp n (bs1.map val)).get? b = some o := fun b o e => sortingHeap_old (ks b o e).2 (ks b o e).1
  have er : EachIs (fun v b => ∃ as, Reads (sortingHeap hp n (bs1.map val)) v (enc b) as) (bs1.map val) bs1 := each_map_of bs1 fun b hb => by
    obtain ⟨as, r⟩ := hr b (pm.mem_iff.mp hb)
    exact ⟨as, PyProof.Rows.Reads.keeps keep r⟩
  have al : AllAlike (bs1.map enc) := by
    intro d hd d' hd'
    obtain ⟨b, hb, rfl⟩ := List.mem_map.mp hd
    obtain ⟨b', hb', rfl⟩ := List.mem_map.mp hd'
    exact hal b (pm.mem_iff.mp hb) b' (pm.mem_iff.mp hb')
  have un : ∀ d, d ∈ bs1.map enc → A.in1.in1.units + d.depth < cLine := fun d hd => by
    obtain ⟨b, hb, rfl⟩ := List.mem_map.mp hd
    exact hu b (pm.mem_iff.mp hb)
  have em := each_map (R := fun v d => ∃ as, Reads (sortingHeap hp n (bs1.map val)) v d as) enc er
  have S : SortsAt P w A.in1.in1 { s1 with heap := sortingHeap hp n (bs1.map val) } (dataKind (sortingHeap hp n (bs1.map val)) (bs1.map enc)) (bs1.map val) := by
    rcases hk with hk | hk
    · refine sorts_tups (s := { s1 with heap := sortingHeap hp n (bs1.map val) }) em al (fun d hd => ?_) un
      obtain ⟨b, hb, rfl⟩ := List.mem_map.mp hd
      exact hk b (pm.mem_iff.mp hb)
    · refine SortsAt.data (s := { s1 with heap := sortingHeap hp n (bs1.map val) }) em al (.inr fun d hd => ?_) un
      obtain ⟨b, hb, rfl⟩ := List.mem_map.mp hd
      exact hk b (pm.mem_iff.mp hb)
  have ev := each_map_to (val := val) (sortVals_data (R := fun u b => u = val b) false (each_map_of bs1 fun b _ => rfl) er al)
  generalize dataKind (sortingHeap hp n (bs1.map val)) (bs1.map enc) = κ at S ev
  generalize hout : (bs1.mergeSort (dataLe false enc)).map val = out at ev
  obtain ⟨c, hc⟩ := sortedHeap_at (vs := bs1.map val) (out := out.toArray) hoL
  have fin : Q (.ref n) { s1 with heap := sortedHeap hp n (bs1.map val) out.toArray } := by
    refine hQ { s1 with heap := sortedHeap hp n (bs1.map val) out.toArray } n c bs1 (fun b u e => ?_) g1 o1 hz pm pb (by rw [hout]; exact hc)
    show (sortedHeap hp n (bs1.map val) out.toArray).get? b = some u
    rw [sortedHeap_old (ks b u e).2 (Heap.lt_size (ks b u e).1)]
    exact (ks b u e).1
  refine wpAny_bind (wpAny_holding (wpAny_call_entry slot_list_sort ⟨_, hoL, rfl⟩ entry_list_sort
    (list_sort_vals (s := { s1 with heap := hp }) hoL S hvl ⟨.none, rfl, ?_⟩) (args_list_sort _)))
  rw [ev]
  exact wpAny_pure ⟨_, rfl, fin⟩
theorem collect_tup {l : Addr} {vs : List Value} {Q : List Value → Shared → Prop} (hl : s.heap.IsTuple l vs.toArray) (hsz : vs.length ≤ sizeLine)
    (h : Q vs { s with heap := (s.heap.push (seqObj "list" #[] 0)).update s.heap.objs.size (Obj.mapSeq (· ++ vs.toArray)) }) : wpAny (model P w) A (collect (.ref l)) Q E s := by
  obtain ⟨o, ho, hc, n, hd⟩ := id hl
  unfold collect
  refine wpAny_bind (wpAny_runValue (codeAny_builtin entry_proto_collect' ?_))
  show wpAny _ _ (do again (.builtin "list.__iadd__" ⟨[← newList [], .ref l], []⟩)) _ _ s
  refine wpAny_bind (wpAny_newList (wpAny_pure ⟨Code.quiet_builtin _ (by decide +kernel), codeAny_builtin entry_list_iadd' ?_⟩))
  show wpAny _ _ (Builtin.List.listExtendWith (.ref s.heap.objs.size) (.ref l) (.ref s.heap.objs.size)) _ _ { s with heap := s.heap.push (seqObj "list" #[] 0) }
  unfold Builtin.List.listExtendWith
  have hq : (s.heap.push (seqObj "list" #[] 0)).get? l = some o := Heap.get?_push_of_some _ ho
  refine wpAny_bind (wpAny_typeOf (T := "tuple") ⟨o, hq, hc⟩ ?_)
  have ht : (Value.type "tuple" == Value.type "tuple") = true := by rfl
  rw [if_pos (by rw [ht]; simp)]
  refine wpAny_bind (listItems_at hq hd ?_)
  refine wpAny_bind (listItems_at (n := 0) (xs := #[]) (Heap.get?_push_size _ rfl) rfl ?_)
  rw [if_neg (by simp)]
  refine wpAny_bind (listUpdate_at (n := 0) (xs := #[]) (Heap.get?_push_size _ rfl) rfl ?_ (Nat.zero_le _) (by
    show (#[] ++ vs.toArray).size ≤ sizeLine + 1
    simp only [Array.size_append, List.size_toArray, List.length_nil]
    omega))
  refine wpAny_pure ?_
  show wpAny (model P w) A (do
      let p ← load s.heap.objs.size
      match p.data with
      | .seq us _ => pure us.toList
      | _ => unsupported "internal:collect") Q E _
  refine wpAny_bind (wpAny_load (get?_update_seq (Heap.get?_push_size _ rfl) _) ?_)
  show wpAny _ _ (pure ((#[] : Array Value) ++ vs.toArray).toList) Q E _
  have e : ((#[] : Array Value) ++ vs.toArray).toList = vs := by simp
  rw [e]
  exact wpAny_pure h
end
end Mir.So

/-! sorted(list or tuple of data) -/
namespace Mir
open PySem PySem.Spec PyProof.Rows L2
/-! insertion, as the sort answers -/
def insP {α : Type} (le : α → α → Bool) (a : α) : List α → List α
  | [] => [a]
  | b :: r => if le a b = true then a :: b :: r else b :: insP le a r
def isort {α : Type} (le : α → α → Bool) : List α → List α
  | [] => []
  | a :: r => insP le a (isort le r)
theorem insP_at {α : Type} {le : α → α → Bool} {a : α} : ∀ (l1 l2 : List α), (∀ b ∈ l1, (!le a b) = true) → (∀ b ∈ l2, le a b = true) → insP le a (l1 ++ l2) = l1 ++ a :: l2
  | [], [], _, _ => rfl
  | [], b :: l2, _, h => by
    show (if le a b = true then _ else _) = _
    rw [if_pos (h b List.mem_cons_self)]; rfl
  | b :: l1, l2, h1, h2 => by
    have q := h1 b List.mem_cons_self
    show (if le a b = true then _ else _) = _
    rw [if_neg (by intro z; rw [z] at q; cases q)]
    show b :: insP le a (l1 ++ l2) = _
    rw [insP_at l1 l2 (fun c hc => h1 c (List.mem_cons_of_mem _ hc)) h2]; rfl
theorem isort_eq {α : Type} {le : α → α → Bool} (T : PySem.W.TotalLe le) : ∀ l : List α, isort le l = l.mergeSort le
  | [] => by rw [List.mergeSort_nil]; rfl
  | a :: l => by
    have tt : ∀ a b : α, (le a b || le b a) = true := fun a b => by
      rcases T.total a b with h | h
      · rw [h]; rfl
      · rw [h, Bool.or_true]
    obtain ⟨l1, l2, e1, e2, h1⟩ := List.mergeSort_cons T.trans tt a l
    have sr := List.pairwise_mergeSort T.trans tt (a :: l)
    rw [e1] at sr
    have h2 : ∀ b ∈ l2, le a b = true := fun b hb => by
      have := (List.pairwise_append.mp sr).2.1
      exact (List.pairwise_cons.mp this).1 b hb
    show insP le a (isort le l) = _
    rw [isort_eq T l, e2, e1]
    exact insP_at l1 l2 h1 h2
def leP : PV → PV → Bool := PySem.W.dataLe false (tD 8)
theorem leP_total : PySem.W.TotalLe leP := PySem.W.sortLe_total (PyProof.Rows.listOrd PyProof.Rows.itemOrd) false fun b => PySem.W.keyToks (tD 8 b)
def isTupP : PV → Bool
  | .tup _ => true
  | _ => false
def noTupP : PV → Bool
  | .tup _ => false
  | .non => false
  | _ => true
def srtOk (xs : List PV) : Bool := xs.all (dt 8) && (xs.all fun x => xs.all fun y => PySem.W.alike (tD 8 x) (tD 8 y)) && (xs.all isTupP || xs.all noTupP)
def gSorted : List PV → Option PV
  | [.lst xs] => if srtOk xs = true then some (.lst (isort leP xs)) else none
  | [.tup xs] => if srtOk xs = true then some (.lst (isort leP xs)) else none
  | _ => none
/-! ### over the abstract heap -/
def rSrt (K : PySem.W.Frag) : List V → Hp → VK → Prop := fun vs H Q => ∃ (a : Addr) (bs : List (PyData × V)), vs = [.ref a] ∧ (SqL K H a (bs.map (·.2)) ∨ SqT K H a (bs.map (·.2))) ∧ (∀ b ∈ bs, Dp K H b.2 b.1) ∧
  (∀ b ∈ bs, ∀ c ∈ bs, PySem.W.alike b.1 c.1 = true) ∧ ((∀ b ∈ bs, ∃ xs, b.1 = .tuple xs) ∨ (∀ b ∈ bs, b.1 ≠ .none ∧ ∀ xs, b.1 ≠ .tuple xs)) ∧ (∀ b ∈ bs, b.1.depth ≤ 8) ∧
  ∀ p, H p = none → Q (.ref p) (upd H p (.lst ((bs.mergeSort (PySem.W.dataLe false (·.1))).map (·.2))))
theorem zip_map1 {α β : Type} : ∀ {as : List α} {bs : List β}, as.length = bs.length → (as.zip bs).map (·.1) = as
  | [], [], _ => rfl
  | a :: as, b :: bs, h => by
    rw [List.zip_cons_cons, List.map_cons, zip_map1 (by simpa using h)]
theorem zip_map2 {α β : Type} : ∀ {as : List α} {bs : List β}, as.length = bs.length → (as.zip bs).map (·.2) = bs
  | [], [], _ => rfl
  | a :: as, b :: bs, h => by
    rw [List.zip_cons_cons, List.map_cons, zip_map2 (by simpa using h)]
theorem vals_zip : ∀ {xs : List V} {us : List Value}, Vals xs us → ∀ t ∈ xs.zip us, RelV t.1 t.2
  | _, _, .nil, t, ht => by cases ht
  | _, _, .cons r q, t, ht => by
    rcases List.mem_cons.mp ht with e | e
    · rw [e]; exact r
    · exact vals_zip q t e
theorem zip_vals {α : Type} {f : α → V} {g : α → Value} : ∀ (l : List α), (∀ t ∈ l, RelV (f t) (g t)) → Vals (l.map f) (l.map g)
  | [], _ => .nil
  | t :: l, h => .cons (h t List.mem_cons_self) (zip_vals l fun c hc => h c (List.mem_cons_of_mem _ hc))
section
variable {X : Cx}
theorem cr_srt (hu : X.A.units + 64 < cLine) : CallR X (.builtin "sorted") (rSrt X.K) := by
  intro pins s σ H vs us Q I r h
  obtain ⟨a, bs, rfl, hs, hd, hal, hk, hdp, q⟩ := h
  rw [Vals.ref1 r]
  obtain ⟨its, rv, hz, hcol⟩ : ∃ its : List Value, Vals (bs.map (·.2)) its ∧ (bs.map (·.2)).length ≤ sizeLine ∧ ∀ (Q : List Value → Shared → Prop) (E : Value → Shared → Prop),
      (∀ s1 : Shared, (∀ b o, s.heap.get? b = some o → s1.heap.get? b = some o) → s.heap.objs.size ≤ s1.heap.objs.size → s1.gens = s.gens → s1.os = s.os → Q its s1) → wpAny (model X.prog X.w) X.A.in1 (collect (.ref a)) Q E s := by
    have k : ∀ its : List Value, ∀ b o, s.heap.get? b = some o → ((s.heap.push (seqObj "list" #[] 0)).update s.heap.objs.size (Obj.mapSeq (· ++ its.toArray))).get? b = some o := fun its b o e => by
      have hlt := Heap.lt_size e
      rw [Heap.get?_update_ne _ _ _ _ (Nat.ne_of_lt hlt)]
      exact Heap.get?_push_of_some _ e
    have z : ∀ its : List Value, s.heap.objs.size ≤ ((s.heap.push (seqObj "list" #[] 0)).update s.heap.objs.size (Obj.mapSeq (· ++ its.toArray))).objs.size := fun its => by
      rw [Heap.size_update, size_push']
      exact Nat.le_succ _
    rcases hs with hs | hs
    · obtain ⟨its, rv, hl, hz⟩ := I.list hs
      exact ⟨its, rv, hz, fun Q E h => collect_list hl.isList (h _ (k its) (z its) rfl rfl) (by rw [← rv.length]; exact hz)⟩
    · obtain ⟨its, rv, hl, hz⟩ := I.tuple hs
      obtain ⟨o, ho, hc, hd⟩ := hl
      exact ⟨its, rv, hz, fun Q E h => So.collect_tup ⟨o, ho, hc, hd⟩ (by rw [← rv.length]; exact hz) (h _ (k its) (z its) rfl rfl)⟩
  have ln : bs.length = its.length := by
    have := rv.length
    rw [List.length_map] at this
    exact this
  have m1 := zip_map1 ln
  have m2 := zip_map2 ln
  have rel : ∀ t ∈ bs.zip its, RelV t.1.2 t.2 := fun t ht => by
    have e : (t.1.2, t.2) ∈ (bs.map (·.2)).zip its := by
      have : (bs.map (·.2)).zip its = (bs.zip its).map fun t => (t.1.2, t.2) := by
        rw [List.zip_map_left]; rfl
      rw [this]
      exact List.mem_map.mpr ⟨t, ht, rfl⟩
    exact vals_zip rv _ e
  have mem : ∀ t ∈ bs.zip its, t.1 ∈ bs := fun t ht => by
    rw [← m1]
    exact List.mem_map.mpr ⟨t, ht, rfl⟩
  refine So.sorted_gen (val := fun t : (PyData × V) × Value => t.2) (enc := fun t => t.1.1) (bs := bs.zip its) (fun l => l = bs.zip its) (fun Q E h => hcol Q E fun s1 k z g o => ?_) (fun t ht => ?_) (fun t ht t' ht' => hal _ (mem t ht) _ (mem t' ht')) ?_ ?_ (fun t ht => ?_) (fun s' p c bs1 k g o hp pm pb hg => ?_)
  · have := h s1 (bs.zip its) k z g o (List.Perm.refl _) rfl
    rw [m2] at this
    exact this
  · exact Dp.reads I _ _ _ (hd _ (mem t ht)) (rel t ht)
  · rcases hk with hk | hk
    · exact .inl fun t ht => hk _ (mem t ht)
    · exact .inr fun t ht => hk _ (mem t ht)
  · have : (bs.zip its).length = bs.length := by rw [← List.length_map (·.1), m1]
    rw [this]
    rw [List.length_map] at hz
    exact hz
  · have := hdp _ (mem t ht)
    omega
  · subst pb
    have sm := List.mergeSort_perm (bs.zip its) (PySem.W.dataLe false fun t => t.1.1)
    have e1 : ((bs.zip its).mergeSort (PySem.W.dataLe false fun t => t.1.1)).map (fun t => t.1.2) = (bs.mergeSort (PySem.W.dataLe false (·.1))).map (·.2) := by
      have := List.map_mergeSort (r := PySem.W.dataLe false fun t : (PyData × V) × Value => t.1.1) (s := PySem.W.dataLe false fun b : PyData × V => b.1) (f := fun t => t.1) (l := bs.zip its) (fun _ _ _ _ => rfl)
      rw [m1] at this
      rw [← this, List.map_map]; rfl
    have hv : Vals ((bs.mergeSort (PySem.W.dataLe false (·.1))).map (·.2)) (((bs.zip its).mergeSort (PySem.W.dataLe false fun t => t.1.1)).map fun t => t.2) := by
      rw [← e1]
      exact zip_vals _ fun t ht => rel t (sm.mem_iff.mp ht)
    have hlen : ((bs.mergeSort (PySem.W.dataLe false (·.1))).map (·.2)).length ≤ sizeLine := by
      rw [List.length_map, (List.mergeSort_perm _ _).length_eq]
      rw [List.length_map] at hz
      exact hz
    have hn : H p = none := I.hok.fresh hp
    have J : Inv X pins σ (upd H p (.lst ((bs.mergeSort (PySem.W.dataLe false (·.1))).map (·.2)))) s' :=
      I.call' (ch := []) o (Un.laid k hp hn) (I.hok.laid k hp ⟨hlen, _, c, hv, hg⟩) (by rw [g]; exact I.bare) (fun _ z => nomatch z)
    exact ⟨.ref p, _, J, rfl, q p hn⟩
theorem repl_zip {ρ : Rw} {G : Hp} : ∀ {xs : List PV} {vs : List V}, RepL ρ G xs vs → ∀ t ∈ xs.zip vs, Rep ρ G t.1 t.2
  | [], vs, r, t, ht => by simp at ht
  | x :: xs, vs, r, t, ht => by
    unfold RepL at r
    obtain ⟨v, w, e, a, b⟩ := r
    subst e
    rcases List.mem_cons.mp ht with z | z
    · rw [z]; exact a
    · exact repl_zip b t z
theorem zip_repl {ρ : Rw} {G : Hp} {α : Type} {f : α → PV} {g : α → V} : ∀ (l : List α), (∀ t ∈ l, Rep ρ G (f t) (g t)) → RepL ρ G (l.map f) (l.map g)
  | [], _ => RepL.nil
  | t :: l, h => RepL.cons (h t List.mem_cons_self) (zip_repl l fun c hc => h c (List.mem_cons_of_mem _ hc))
theorem tD_tup {x : PV} (h : isTupP x = true) : ∃ xs, tD 8 x = .tuple xs := by
  cases x with
  | tup xs => exact ⟨_, rfl⟩
  | _ => cases h
theorem tD_no {x : PV} (h : noTupP x = true) (hd : dt 8 x = true) : tD 8 x ≠ .none ∧ ∀ xs, tD 8 x ≠ .tuple xs := by
  cases x with
  | tup xs => cases h
  | non => cases h
  | bl b => exact ⟨(fun z => by cases z), (fun _ z => by cases z)⟩
  | int b => exact ⟨(fun z => by cases z), (fun _ z => by cases z)⟩
  | str b => exact ⟨(fun z => by cases z), (fun _ z => by cases z)⟩
  | lst b => exact ⟨(fun z => by cases z), (fun _ z => by cases z)⟩
  | _ => cases hd
theorem srt_of {ρ : Rw} {H : Hp} {S : Addr → Prop} {xs : List PV} {vs : List V} {a : Addr} {Q : VK} {pc : PV} (hr : H ρ.a ≠ none) (l : RepL ρ (Hx H S) xs vs) (h1 : SqL X.K H a vs ∨ SqT X.K H a vs) (hg : (if srtOk xs = true then some (PV.lst (isort leP xs)) else none) = some pc)
    (k : ∀ z H', Same H H' → Have ρ .fr H H' S pc z → Q z H') : rSrt X.K [.ref a] H Q := by
  split at hg
  case isFalse => cases hg
  rename_i ok
  cases hg
  unfold srtOk at ok
  rw [Bool.and_eq_true, Bool.and_eq_true, Bool.or_eq_true] at ok
  obtain ⟨⟨od, oa⟩, ok⟩ := ok
  have ln : xs.length = vs.length := l.length.symm
  have m1 := zip_map1 ln
  have m2 := zip_map2 ln
  have mem : ∀ t ∈ xs.zip vs, t.1 ∈ xs := fun t ht => by
    rw [← m1]
    exact List.mem_map.mpr ⟨t, ht, rfl⟩
  have rp := repl_zip l
  have e2 : ((xs.zip vs).map fun t => (tD 8 t.1, t.2)).map (·.2) = vs := by
    rw [List.map_map]
    exact m2
  have e3 : (((xs.zip vs).map fun t => (tD 8 t.1, t.2)).mergeSort (PySem.W.dataLe false (·.1))).map (·.2) = ((xs.zip vs).mergeSort fun s t => leP s.1 t.1).map (·.2) := by
    have z := List.map_mergeSort (r := fun s t : PV × V => leP s.1 t.1) (s := PySem.W.dataLe false fun b : PyData × V => b.1) (f := fun t => (tD 8 t.1, t.2)) (l := xs.zip vs) (fun _ _ _ _ => rfl)
    rw [← z, List.map_map]
    rfl
  have e4 : ((xs.zip vs).mergeSort fun s t => leP s.1 t.1).map (·.1) = isort leP xs := by
    have z := List.map_mergeSort (r := fun s t : PV × V => leP s.1 t.1) (s := leP) (f := fun t => t.1) (l := xs.zip vs) (fun _ _ _ _ => rfl)
    rw [m1] at z
    rw [z, isort_eq leP_total]
  refine ⟨a, (xs.zip vs).map fun t => (tD 8 t.1, t.2), rfl, by rw [e2]; exact h1, fun b hb => ?_, fun b hb c hc => ?_, ?_, fun b hb => ?_, fun p hp => ?_⟩
  · obtain ⟨t, ht, rfl⟩ := List.mem_map.mp hb
    exact dp_of 8 t.1 t.2 (List.all_eq_true.mp od _ (mem t ht)) ((rp t ht).mono fun b o z => (Hx_some z).2)
  · obtain ⟨t, ht, rfl⟩ := List.mem_map.mp hb
    obtain ⟨t', ht', rfl⟩ := List.mem_map.mp hc
    exact List.all_eq_true.mp (List.all_eq_true.mp oa _ (mem t ht)) _ (mem t' ht')
  · rcases ok with ok | ok
    · refine .inl fun b hb => ?_
      obtain ⟨t, ht, rfl⟩ := List.mem_map.mp hb
      exact tD_tup (List.all_eq_true.mp ok _ (mem t ht))
    · refine .inr fun b hb => ?_
      obtain ⟨t, ht, rfl⟩ := List.mem_map.mp hb
      exact tD_no (List.all_eq_true.mp ok _ (mem t ht)) (List.all_eq_true.mp od _ (mem t ht))
  · obtain ⟨t, ht, rfl⟩ := List.mem_map.mp hb
    exact (td_can 8 t.1 t.2 (rp t ht)).2
  · rw [e3]
    have sm := List.mergeSort_perm (xs.zip vs) fun s t => leP s.1 t.1
    refine k _ _ (same_upd hp) (have_new hr ?_ hp)
    rw [← e4]
    exact zip_repl _ fun t ht => rp t (sm.mem_iff.mp ht)
theorem oSorted (hu : X.A.units + 64 < cLine) : OpN X (.builtin "sorted") .fr gSorted := ⟨_, cr_srt hu, fun xs vs H Q ρ S pc hρ hS hr ha hg k => by
  unfold gSorted at hg
  split at hg
  · obtain ⟨v, rfl, h⟩ := hl_one ha
    obtain ⟨a, ws, rfl, h1, l⟩ := hb_lst hρ hS h
    exact srt_of hr l (.inl (.inl (.inl h1))) hg k
  · obtain ⟨v, rfl, h⟩ := hl_one ha
    obtain ⟨a, ws, rfl, h1, l, _⟩ := hb_tup hρ h
    exact srt_of hr l (.inr (.inl (.inl h1))) hg k
  · cases hg⟩
end
end Mir

/-! more constructs: owned things let go, isinstance of two types, zip, stars, {} -/
namespace Mir
open PySem PySem.Spec PyProof.Rows L2
section
variable {ρ : Rw} {F : Addr → Prop} {B H : Hp} {r : RS} {σ : L2.St} {env : Env} {ad : Nat → Addr} {x : PV}
/-- the frame's own thing in slot i is its own no more -/
theorem Fm.letgo (m : Fm ρ F B H r σ env ad) {i : Nat} (h : env[i]? = some (.ow x)) : Fm ρ F B H r σ (env.set i (.sh x)) ad := by
  have hi : i < env.length := by
    by_cases q : i < env.length
    · exact q
    · rw [List.getElem?_eq_none (by omega)] at h; cases h
  obtain ⟨a1, a2, a3, a4⟩ := m.ow i x h
  have less : ∀ b o, Hx H (Ex F env ad) b = some o → Hx H (Ex F (env.set i (.sh x)) ad) b = some o := hx_less fun b z => z.set fun y => by intro h; cases h
  have keep : ∀ {j : Nat} {y : PV}, (env.set i (.sh x))[j]? = some (.ow y) → env[j]? = some (.ow y) ∧ j ≠ i := fun {j y} e => by
    by_cases z : i = j
    · subst z
      rw [List.getElem?_set_self hi] at e
      cases e
    · rw [List.getElem?_set_ne z] at e; exact ⟨e, fun w => z w.symm⟩
  have out : ¬ Ex F (env.set i (.sh x)) ad (ad i) := fun z => by
    rcases z with z | ⟨j, y, e, q⟩
    · exact a2.2 z
    · obtain ⟨e1, ne⟩ := keep e
      exact ne (m.inj j i y x e1 h q)
  exact
  { row := m.row
    hρ := m.hρ
    dom := m.dom
    ext := m.ext
    lsB := m.lsB
    len := by rw [List.length_set]; exact m.len
    sh := fun j y e => by
      by_cases z : i = j
      · subst z
        rw [List.getElem?_set_self hi] at e
        cases e
        exact ⟨_, a1, (a4.mono (fun _ q => q) less).rep fun o q => by rw [Hx_out out]; exact q⟩
      · rw [List.getElem?_set_ne z] at e
        obtain ⟨u, a, b⟩ := m.sh j y e
        exact ⟨u, a, b.mono less⟩
    ow := fun j y e => by
      obtain ⟨e1, _⟩ := keep e
      obtain ⟨a, b, c, d⟩ := m.ow j y e1
      exact ⟨a, b, c, d.mono (fun _ q => q) less⟩
    inj := fun j l y y' e e' q => m.inj j l y y' (keep e).1 (keep e').1 q }
end
def frz1 (i : Nat) (env : Env) : Option Env := match env[i]? with
  | some (.ow x) => some (env.set i (.sh x))
  | some (.sh _) => some env
  | _ => none
def frzE : List Nat → Env → Option Env
  | [], env => some env
  | i :: is, env => (frz1 i env).bind (frzE is)
def sFrz (is : List Nat) (f : Env → M Fl) : Env → M Fl := fun env => bnd (ofO (frzE is env)) f
theorem Fm.frz {ρ : Rw} {F : Addr → Prop} {B H : Hp} {r : RS} {σ : L2.St} {ad : Nat → Addr} : ∀ {is : List Nat} {env e2 : Env}, Fm ρ F B H r σ env ad → frzE is env = some e2 → Fm ρ F B H r σ e2 ad
  | [], env, e2, m, h => by cases h; exact m
  | i :: is, env, e2, m, h => by
    obtain ⟨e1, h1, h2⟩ := Option.bind_eq_some_iff.mp h
    unfold frz1 at h1
    split at h1
    · rename_i x q
      cases h1
      exact Fm.frz (m.letgo q) h2
    · cases h1
      exact Fm.frz m h2
    · cases h1
section
variable {X : Cx} {W : WX} {k ka kb kc : Kd} {pos pos' p p1 p2 p3 p4 p5 : Pos} {e a b c : Expr} {es : List Expr} {j j' n i : Nat} {x y y2 : Str} {st : Stmt} {rest : List Stmt} {f g : Env → M Fl} {fa fb : EF} {fs : AF}
/-- a name, its thing owned or not: borrowed -/
def eVarB (i : Nat) : EF := fun env => match env[i]? with
  | some (.ow v) => ret v
  | some (.sh v) => ret v
  | _ => fail
/-! isinstance(x, (S, T)) -/
def isC2 (c d : Tc) (x : PV) : Option Bool := match isC c x with
  | some true => some true
  | some false => isC d x
  | none => none
def eIsi2 (c d : Tc) (fa : EF) : EF := fun env => bnd (fa env) fun x => ofO ((isC2 c d x).map .bl)
theorem me_isi2 {j1 : Nat} (c d : Tc) (ha : MEk X W k a fa) (hm : X.mg "isinstance" = none) (hm2 : X.mg y = none) (hm3 : X.mg y2 = none) (hv : bootBuiltins y = some (.type (nmC c)) := by rfl) (hv2 : bootBuiltins y2 = some (.type (nmC d)) := by rfl) (hg : Gl X "isinstance" := by rfl) (hg2 : Gl X y := by rfl) (hg3 : Gl X y2 := by rfl)
    (hn : y ≠ "__name__" := by decide) (hn2 : y2 ≠ "__name__" := by decide) (hd : (y == ("__debug__" : Str)) = false := by decide) (hd2 : (y2 == ("__debug__" : Str)) = false := by decide)
    (he : starEach [a, .Tuple [.Name y p2, .Name y2 p3] j1 p4] X.env = (false, eval a X.env) :: starEach [.Tuple [.Name y p2, .Name y2 p3] j1 p4] X.env := by rfl) (he2 : starEach [.Tuple [.Name y p2, .Name y2 p3] j1 p4] X.env = (false, eval (.Tuple [.Name y p2, .Name y2 p3] j1 p4) X.env) :: starEach [] X.env := by rfl)
    (hs1 : starEach [.Name y p2, .Name y2 p3] X.env = (false, eval (.Name y p2) X.env) :: starEach [.Name y2 p3] X.env := by rfl) (hs2 : starEach [.Name y2 p3] X.env = (false, eval (.Name y2 p3) X.env) :: starEach [] X.env := by rfl)
    (hpl : (backTo pos (starEach [.Tuple [.Name y p2, .Name y2 p3] j1 p4] X.env)).any (·.1) = false := by rfl) :
    ME X W (.Call (.Name "isinstance" p) [a, .Tuple [.Name y p2, .Name y2 p3] j1 p4] [] pos) (eIsi2 c d fa) :=
  pe_imp (pe_callB (id := "isinstance") call_isiT hg hm rfl (pa_cons ha (pa_cons (pe_tup (pa_cons (pe_bltn (v := .ty (nmC c)) hg2 hm2 hv rfl hn hd) (pa_cons (pe_bltn (v := .ty (nmC d)) hg3 hm3 hv2 rfl hn2 hd2) pa_nil hs2) hs1)) pa_nil he2) he) (by decide) (by decide) he hpl) fun σ H Q q => by
  obtain ⟨ρ, F, B, env, ad, r, m, w⟩ := q
  refine ⟨ρ, F, B, env, ad, r, m, wpM_mono (wpM_bnd w) (fun x r1 w1 v1 H1 e1 o1 h1 => ?_) fun _ _ z => z⟩
  obtain ⟨pc, hg, w4⟩ := ofO_some w1
  obtain ⟨b, h2, rfl⟩ := Option.map_eq_some_iff.mp hg
  refine ⟨by show 2 ≤ sizeLine; decide, fun t ht => ?_⟩
  have sm : Same H1 (upd H1 t (.tup [.ty (nmC c), .ty (nmC d)])) := same_upd ht
  have ex : Ext ρ H (upd H1 t (.tup [.ty (nmC c), .ty (nmC d)])) := e1.trans (.same sm)
  have nn : oddT x = false := by
    unfold isC2 at h2
    cases q : isC c x with
    | none => rw [q] at h2; cases h2
    | some z => exact isC_odd q
  have ty := ty_of (K := X.K) h1.full nn
  refine ⟨v1, t, [.ty (nmC c), .ty (nmC d)], .type (tyP x), [.type (nmC c), .type (nmC d)], b, rfl, upd_same, .cons (.ty _) (.cons (.ty _) .nil), ?_, ?_, w4 _ _ ex (o1.same sm) (hv_bl _)⟩
  · exact ty_of (h1.full.mono fun b o q => sm b o q) nn
  · unfold isC2 at h2
    show (match PySem.W.kitOne X.K (.type (tyP x)) (.type (nmC c)) with | some true => some true | some false => PySem.W.kitAny X.K (.type (tyP x)) [.type (nmC d)] | none => none) = some b
    cases q : isC c x with
    | none => rw [q] at h2; cases h2
    | some z =>
      rw [q] at h2
      rw [isC_kit q]
      cases z with
      | true => exact h2
      | false =>
        show (match PySem.W.kitOne X.K (.type (tyP x)) (.type (nmC d)) with | some true => some true | some false => PySem.W.kitAny X.K (.type (tyP x)) [] | none => none) = some b
        have h2 : isC d x = some b := h2
        rw [isC_kit h2]
        cases b <;> rfl
/-! zip of two lists, of two tuples -/
def zpL : List PV → List PV → List PV
  | x :: xs, y :: ys => .tup [x, y] :: zpL xs ys
  | _, _ => []
def gZip : PV → PV → Option (List PV)
  | .lst xs, .lst ys => some (zpL xs ys)
  | .tup xs, .tup ys => some (zpL xs ys)
  | _, _ => none
def iZp (fa fb : EF) : AF := fun env => bnd (fa env) fun x => bnd (fb env) fun y => ofO (gZip x y)
/-! *e in a display -/
def aStar (fa : EF) (fs : AF) : AF := fun env => bnd (fa env) fun x => bnd (unS x) fun xs => bnd (fs env) fun ys => ret (xs ++ ys)
theorem HaveL.of_rep {ρ : Rw} {H : Hp} {S : Addr → Prop} : ∀ {xs : List PV} {vs : List V}, RepL ρ (Hx H S) xs vs → HaveL ρ .cl H S xs vs
  | [], vs, h => by unfold RepL at h; exact h
  | x :: xs, vs, h => by
    unfold RepL at h
    obtain ⟨v, w, e, a, b⟩ := h
    exact ⟨v, w, e, a, HaveL.of_rep b⟩
theorem unS_ok {x : PV} {r : RS} {K : List PV → RS → Prop} {E : Exn → RS → Prop} (h : wpM (unS x r) K E) : ∃ xs, (x = .lst xs ∨ x = .tup xs) ∧ K xs r := by
  cases x with
  | lst xs => exact ⟨xs, .inl rfl, h⟩
  | tup xs => exact ⟨xs, .inr rfl, h⟩
  | _ => exact h.elim
theorem ml_star {sp : Pos} (ha : MEk X W k a fa) (hr : MLk X W .cl es fs) (hs : starEach (.Starred a sp :: es) X.env = (true, eval a X.env) :: starEach es X.env := by rfl) : MLk X W .cl (.Starred a sp :: es) (aStar fa fs) := pa_imp (StX.pa_star ha hr hs) fun σ H Q q => by
  obtain ⟨ρ, F, B, env, ad, r, m, w⟩ := q
  refine ⟨ρ, F, B, env, ad, r, m, wpM_mono (wpM_bnd w) (fun y r1 w1 v H1 e1 o1 h1 => ?_) fun _ _ z => z⟩
  have m1 := m.step e1 o1
  obtain ⟨xs, hx, w2⟩ := unS_ok (wpM_bnd w1)
  obtain ⟨a, vs, rfl, sq, l⟩ : ∃ a vs, v = .ref a ∧ (SqT X.K H1 a vs ∨ SqL X.K H1 a vs) ∧ RepL ρ (Hx H1 (Ex F env ad)) xs vs := by
    rcases hx with rfl | rfl
    · obtain ⟨a, vs, rfl, g, l, _⟩ := have_lst (H0 := H) (S := Ex F env ad) (fun b => m.there) m.exρ h1
      exact ⟨a, vs, rfl, .inr (.inl (.inl g)), l⟩
    · obtain ⟨a, vs, rfl, g, l, _⟩ := have_tup m.exρ h1
      exact ⟨a, vs, rfl, .inl (.inl (.inl g)), l⟩
  refine ⟨a, vs, rfl, sq, ρ, F, B, env, ad, r1, m1, wpM_mono (wpM_bnd w2) (fun ys r2 w3 us H2 e2 o2 h2 => ?_) fun ex r2 z C d H' e' => z C d H' (e1.trans e')⟩
  have l2 : RepL ρ (Hx H2 (Ex F env ad)) xs vs := l.mono (hx_ext m.exρ e2)
  refine w3 (vs ++ us) H2 (e1.trans e2) o2 ?_
  have : RepL ρ (Hx H2 (Ex F env ad)) (xs ++ ys) (vs ++ us) := l2.append h2.rep
  exact HaveL.of_rep this
/-! {} -/
theorem me_dic0 : ME X W (.Dict [] [] pos) (eC (.dic [] [])) := pe_imp pe_dnewK fun σ H Q q => by
  obtain ⟨ρ, F, B, env, ad, r, m, w⟩ := q
  intro d hd
  refine w _ _ (.same (same_upd hd)) (m.row.same (same_upd hd)) ?_
  show Rep ρ (Hx (upd H d (.dK [])) (Ex F env ad)) (.dic [] []) (.ref d)
  unfold Rep
  exact ⟨d, rfl, .inl ⟨[], hx_at (fun b => m.there) hd, rfl, RepL.nil⟩⟩
end
end Mir

/-! sets of ints: set(list), len(set(..)), sorted(set(..)) -/
namespace Mir.So
open PySem PySem.Spec PySem.Calls PySem.W PyProof.Rows L2
/-- a new set's object -/
abbrev ledS (w : World) : Obj := { cls := .type "set", dict := none, data := .set #[] 0 (.fresh 0 0 (!w.params.followText "set-order")) }
section
variable {P : Program} {w : World} {A : Around} {E : Value → Shared → Prop} {s : Shared}
set_option maxHeartbeats 3200000 in
theorem call_set_lstI {l : Addr} {items : Array Value} (ns : List Int) {Q : Value → Shared → Prop} (hh : A.handled = none) (hl : s.heap.IsList l items) (gi : IntsAre items.toList ns) (hb : ns.length + 1 < scanBound)
    (h : ∀ (m1 : Heap) (tk c : Nat), SetR w m1 s.heap.objs.size (fun j => decide (j ∈ ns)) c → c ≤ ns.length → (∀ b o, s.heap.get? b = some o → m1.get? b = some o) → Q (.ref s.heap.objs.size) { s with heap := m1, toks := tk }) :
    wpAny (model P w) A (call (.type "set") [.ref l]) Q E s := by
  have szi : items.size = ns.length := by
    have q := IntsAre.length gi
    rw [Array.length_toList] at q
    exact q
  obtain ⟨c, tl, b1⟩ := F.called_set.mro
  have b2 := F.called_set.made
  have b3 := F.called_set.sub
  refine wpAny_call (codeAny_of_tree ?_)
  show wpAny _ _ (callAny (.type "set") _) _ _ _
  refine wpAny_pure ⟨Code.quiet_builtin _ (by decide +kernel), codeAny_builtin F.entry_type_call ?_⟩
  rw [Around.under_plain (weight_type_call_type "set" [.ref l] []) rfl]
  have b4 := F.called_set.notType
  have b5 := F.called_set.canCreate
  have b6 := F.typeCall_set_1 (.ref l)
  repeat (any_goals (first | assumption | wp_step))

  refine codeAny_mono (code_set_led1 (.ref l) (E := E) (Q₁ := fun obj v1 => obj = .ref s.heap.objs.size ∧ v1 = { s with heap := s.heap.push (ledS w) }) ⟨rfl, rfl⟩) fun r v1 kr => ?_
  cases r with
  | error e => exact kr
  | ok fl =>
    cases fl with
    | ret obj =>
      obtain ⟨rfl, rfl⟩ := kr
      have hS : (s.heap.push (ledS w)).get? s.heap.objs.size = some (ledS w) := Heap.get?_push_size _ rfl
      have gT : Shared.TypeIs { s with heap := s.heap.push (ledS w) } (.ref s.heap.objs.size) "set" := ⟨_, hS, rfl⟩
      have qli := F.called_set.init.lookup
      have qbi := F.called_set.init.bind (.ref s.heap.objs.size)
      repeat (any_goals (first | assumption | wp_step))

      refine codeAny_mono (codeAny_call_builtin (R := wants (fun r v2 => r = .none ∧ ∃ m1 tk c, v2 = { s with heap := m1, toks := tk } ∧ SetR w m1 s.heap.objs.size (fun j => decide (j ∈ ns)) c ∧ c ≤ ns.length ∧
          (∀ b o, s.heap.get? b = some o → m1.get? b = some o)) E) F.called_set.init.plain F.entry_set_init (check_set_init_1 gT ?_)) fun u2 v2 kr2 => ?_
      · obtain ⟨ol, gol, gcl, nl, gdl⟩ := hl
        obtain ⟨ocls, odict, odata, oslots⟩ := ol
        simp only at gcl gdl
        subst gcl; subst gdl
        have gol2 : (s.heap.push (ledS w)).get? l = some { cls := .type "list", dict := odict, data := .seq items nl, slots := oslots } := Heap.get?_push_of_some _ gol
        have q1 := F.sub_list_set
        have q2 := F.sub_list_frozenset
        have q3 : (Value.type "list" == Value.type "dict") = false := by decide
        have ql1 : (s.heap.push (ledS w)).IsList l items := ⟨_, gol2, rfl, nl, rfl⟩
        unfold Builtin.«set.__init__» noKeywords Builtin.Frozenset.updateFrom
        generalize epit : pyIter = pit
        wp_walk
        subst epit

        refine wpAny_pyIter_list ql1 ?_
        refine wpAny_bind (wpAny_runValue ?_)
        have ltS : l < s.heap.objs.size := Heap.lt_size gol
        have g3 : A.in1.in1.in1.handled = none := by simp [hh]
        have yz1 : (s.heap.push (ledS w)).objs.size = s.heap.objs.size + 1 := Heap.size_push ..
        have neI : l ≠ (s.heap.push (ledS w)).objs.size := by
          rw [Heap.size_push]; exact Nat.ne_of_lt (Nat.lt_succ_of_lt ltS)
        have nfS : s.heap.objs.size ∉ [(s.heap.push (ledS w)).objs.size, l] := by
          rw [Heap.size_push]; simp only [List.mem_cons, List.mem_singleton, List.not_mem_nil, or_false, not_or]
          exact ⟨Nat.ne_of_lt (Nat.lt_succ_self _), Nat.ne_of_gt ltS⟩
        have vali : ∀ (i : Nat) (v : Value), items[i]? = some v → ∃ k t, ns[i]? = some k ∧ v = .int k t := fun i v hv => by
          have hi : i < ns.length := by rw [← szi]; exact (Array.getElem?_eq_some_iff.mp hv).1
          obtain ⟨t, e⟩ := PyProof.Rows.IntsAre.int_at gi i v (by rw [Array.getElem?_toList]; exact hv)
          refine ⟨ns[i], t, List.getElem?_eq_getElem hi, ?_⟩
          rw [e, List.getD_eq_getElem?_getD, List.getElem?_eq_getElem hi] <;> rfl
        refine set_update_ints ((Walks.list g3 _ l neI items).toS) s.heap.objs.size
          nfS ns szi hb vali (items.size - 0) 0 _ (by omega) (Nat.zero_le _)
          ⟨⟨_, Heap.get?_push_size _ rfl, rfl, rfl⟩, (ql1.push _)⟩ ?zS0 ?hR
        case zS0 =>
          have gget : ((s.heap.push (ledS w)).push { cls := .type "list_iterator", data := .fields #[.ref l, .int 0 0] }).get? s.heap.objs.size
              = some (ledS w) := Heap.get?_push_of_some _ hS
          exact ⟨0, Nat.le_refl 0, setR_new_at gget⟩
        case hR =>
          intro r1 c1 jm jc jS
          obtain ⟨m1, gg2, d1, tk1, or1⟩ := r1
          have eg : gg2 = s.gens := jm.gens
          have ed : d1 = s.drawn := jm.drawn
          have eo : or1 = s.os := jm.os
          subst eg; subst ed; subst eo
          show wpAny _ _ _ _ _ _
          refine wpAny_pure ?_
          show wpAny (model P w) _ (PySem.ret Value.none) _ _ _
          rw [szi] at jc
          refine wpAny_pure ⟨rfl, m1, tk1, c1, rfl, jS, jc, fun b o e => ?_⟩
          have y0 : b < s.heap.objs.size := Heap.lt_size e
          have y1 : b ≠ s.heap.objs.size := Nat.ne_of_lt y0
          have y2 : b ≠ (s.heap.push (ledS w)).objs.size := by
            rw [Heap.size_push]; exact Nat.ne_of_lt (Nat.lt_succ_of_lt y0)
          exact jm.heap b o (by simp only [List.mem_cons, List.mem_singleton, List.not_mem_nil, or_false, not_or]; exact ⟨y1, y2⟩) (Heap.get?_push_of_some _ (Heap.get?_push_of_some _ e))

      · cases u2 with
        | error e => exact kr2
        | ok w2 =>
          cases w2 with
          | ret r =>
            obtain ⟨rfl, m1, tk, c1, rfl, jS, jc, jk⟩ := kr2
            repeat (any_goals (first | assumption | wp_step))
            exact h _ _ _ jS jc jk
          | _ => exact kr2.elim
    | _ => exact kr.elim
end
end Mir.So

/-! len(set(ints)), sorted(set(ints)) -/
namespace Mir
open PySem PySem.Spec PyProof.Rows L2
/-- each once -/
def nd {α : Type} [BEq α] : List α → List α
  | [] => []
  | a :: r => if r.contains a = true then nd r else a :: nd r
theorem nd_mem {α : Type} [BEq α] [LawfulBEq α] {x : α} : ∀ {l : List α}, x ∈ nd l ↔ x ∈ l
  | [] => Iff.rfl
  | a :: r => by
    show x ∈ (if r.contains a = true then nd r else a :: nd r) ↔ _
    by_cases h : r.contains a = true
    · rw [if_pos h, nd_mem, List.mem_cons]
      refine ⟨.inr, fun z => z.elim (fun e => ?_) id⟩
      rw [e]
      exact List.contains_iff_mem.mp h
    · rw [if_neg h, List.mem_cons, List.mem_cons, nd_mem]
theorem nd_nodup {α : Type} [BEq α] [LawfulBEq α] : ∀ l : List α, (nd l).Nodup
  | [] => List.nodup_nil
  | a :: r => by
    show (if r.contains a = true then nd r else a :: nd r).Nodup
    by_cases h : r.contains a = true
    · rw [if_pos h]; exact nd_nodup r
    · rw [if_neg h]
      refine List.nodup_cons.mpr ⟨fun z => h (List.contains_iff_mem.mpr (nd_mem.mp z)), nd_nodup r⟩
theorem nd_len {α : Type} [BEq α] [LawfulBEq α] : ∀ l : List α, (nd l).length ≤ l.length
  | [] => Nat.le_refl _
  | a :: r => by
    show (if r.contains a = true then nd r else a :: nd r).length ≤ _
    have := nd_len r
    by_cases h : r.contains a = true
    · rw [if_pos h, List.length_cons]; omega
    · rw [if_neg h, List.length_cons, List.length_cons]; omega
/-- two lists that hold the same, each once -/
theorem perm_same {α : Type} {l m : List α} (hl : l.Nodup) (hm : m.Nodup) (h : ∀ x, x ∈ l ↔ x ∈ m) : l.Perm m := (List.perm_ext_iff_of_nodup hl hm).mpr h
/-- two sorted lists of the same things -/
theorem sorted_same {α : Type} {le : α → α → Bool} (anti : ∀ a b, le a b = true → le b a = true → a = b) : ∀ {l m : List α}, l.Perm m → l.Pairwise (fun a b => le a b = true) → m.Pairwise (fun a b => le a b = true) → l = m
  | [], m, p, _, _ => by rw [List.nil_perm.mp p]
  | a :: l, [], p, _, _ => by have := p.length_eq; simp at this
  | a :: l, b :: m, p, hl, hm => by
    obtain ⟨h1, h2⟩ := List.pairwise_cons.mp hl
    obtain ⟨k1, k2⟩ := List.pairwise_cons.mp hm
    have e : a = b := by
      have ma : a ∈ b :: m := p.mem_iff.mp List.mem_cons_self
      have mb : b ∈ a :: l := p.mem_iff.mpr List.mem_cons_self
      rcases List.mem_cons.mp ma with z | z
      · exact z
      · rcases List.mem_cons.mp mb with y | y
        · exact y.symm
        · exact anti a b (h1 b y) (k1 a z)
    subst e
    rw [sorted_same anti ((List.perm_cons a).mp p) h2 k2]
def leI (a b : Int) : Bool := decide (a ≤ b)
theorem leI_total : PySem.W.TotalLe leI := ⟨fun a b c h1 h2 => decide_eq_true (Int.le_trans (of_decide_eq_true h1) (of_decide_eq_true h2)), fun a b => by
  rcases Int.le_total a b with h | h
  · exact .inl (decide_eq_true h)
  · exact .inr (decide_eq_true h)⟩
theorem leI_anti (a b : Int) (h1 : leI a b = true) (h2 : leI b a = true) : a = b := Int.le_antisymm (of_decide_eq_true h1) (of_decide_eq_true h2)
theorem isort_perm {α : Type} {le : α → α → Bool} (T : PySem.W.TotalLe le) (l : List α) : (isort le l).Perm l := by
  rw [isort_eq T]
  exact List.mergeSort_perm l le
theorem isort_sorted {α : Type} {le : α → α → Bool} (T : PySem.W.TotalLe le) (l : List α) : (isort le l).Pairwise (fun a b => le a b = true) := by
  rw [isort_eq T]
  exact List.pairwise_mergeSort T.trans (fun a b => by
    rcases T.total a b with h | h
    · rw [h]; rfl
    · rw [h, Bool.or_true]) l
/-! ### over the abstract heap -/
def tLenS (K : PySem.W.Frag) (ta : TE) : TE := fun σ H Q => ta σ H fun x H1 => ∃ (l : Addr) (ns : List Int), x = V.ref l ∧ (SqL K H1 l (ns.map V.int) ∨ SqT K H1 l (ns.map V.int)) ∧ ns.length ≤ 1000 ∧ Q (.int (nd ns).length) H1
section
variable {X : Cx}
/-- set(ints), however it is asked -/
theorem set_ints (hc : X.calm = true) {pins : List (Addr × Obj)} {σ : L2.St} {H : Hp} {s : Shared} {l : Addr} {ns : List Int} {A : Around} {E : Value → Shared → Prop} {Q : Value → Shared → Prop} (hh : A.handled = none) (I : Inv X pins σ H s) (hs : SqL X.K H l (ns.map V.int) ∨ SqT X.K H l (ns.map V.int)) (hn : ns.length ≤ 1000)
    (h : ∀ (h' : Heap) (tk c : Nat), SetR X.w h' s.heap.objs.size (fun j => decide (j ∈ ns)) c → (∀ b o, s.heap.get? b = some o → h'.get? b = some o) → Q (.ref s.heap.objs.size) { s with heap := h', toks := tk }) :
    wpAny (model X.prog X.w) A (call (.type "set") [.ref l]) Q E s := by
  rcases hs with hs | hs
  · obtain ⟨its, rv, pl, hz⟩ := I.list hs
    exact So.call_set_lstI ns hh pl.isList (by simpa using ints_of_vals rv) (by unfold scanBound; omega) fun h' tk c R _ k => h h' tk c R k
  · obtain ⟨its, rv, pt, hz⟩ := I.tuple hs
    exact call_set_tupI ns hh (show s.heap.IsTuple l its.toArray from pt) (show IntsAre its.toArray.toList ns from by simpa using ints_of_vals rv) (by unfold scanBound; omega) fun h' tk c R _ k => h h' tk c R k
theorem setR_keys {w : World} {h : Heap} {a : Addr} {ns : List Int} {c : Nat} {es : Array (Int × Value)} (hn : (es.toList.map keyOf).Nodup) (hm : ∀ k, decide (k ∈ ns) = true ↔ k ∈ es.toList.map keyOf) : (es.toList.map keyOf).Perm (nd ns) :=
  perm_same hn (nd_nodup ns) fun k => by rw [← hm k, nd_mem]; exact decide_eq_true_iff
theorem pe_lenS {a : Expr} {ta : TE} {p p2 q pos : Pos} (hc : X.calm = true) (hg : Gl X "len") (hm : X.mg "len" = none) (hg2 : Gl X "set") (hm2 : X.mg "set" = none) (ha : PE X a ta)
    (na : starEach [a] X.env = (false, eval a X.env) :: starEach [] X.env := by rfl) : PE X (.Call (.Name "len" p) [.Call (.Name "set" p2) [a] [] q] [] pos) (tLenS X.K ta) := by
  refine ⟨fun pins s σ H Q I h => ?_⟩
  refine Call_ (ld_blt I hg hm PySem.boot_len ?_)
  refine PyProof.Rows.callWith_builtin1 (PyProof.Rows.args_cons ?_ rfl) rfl rfl
  refine Call_ (ld_blt I hg2 hm2 PyProof.Rows.boot_set ?_)
  refine PyProof.Rows.callWith_type1 (PyProof.Rows.args_cons (thn (ha.run pins s σ H _ I h) fun v s1 ⟨x, H1, I1, r1, q1⟩ => PyProof.Rows.args_nil ?_) na) na rfl
  obtain ⟨l, ns, rfl, hq, h1, q1⟩ := q1
  cases r1
  refine set_ints hc (I1.ok.hd hc) I1 hq h1 fun h' tk c R k => ?_
  refine PyProof.Rows.args_nil ?_
  obtain ⟨o, es, ep, t, ho, hex, hd, g, hnd, hmem, hb, hf, hn, hr, hl2⟩ := R
  have I2 : Inv X pins σ H1 { s1 with heap := h', toks := tk } := I1.kept fun b o e => k b o e
  have ez : es.size = (nd ns).length := by
    have := (setR_keys (w := X.w) (h := h') (a := 0) (c := c) hnd hmem).length_eq
    rw [List.length_map, Array.length_toList] at this
    exact this
  refine call_len_set ho hex hd hf (by unfold scanBound at hb; omega) ⟨.int (nd ns).length, H1, I2.tok _, ⟨_, by rw [ez]⟩, q1⟩
end
end Mir

/-! len(set(ints)), sorted(set(ints)), xs.count(n), as mirrors -/
namespace Mir
open PySem PySem.Spec PyProof.Rows L2
def seqI : PV → Option (List Int)
  | .lst xs => ints? xs
  | .tup xs => ints? xs
  | _ => none
def gLenS (x : PV) : Option PV := (seqI x).bind fun ns => if ns.length ≤ 1000 then some (.int (nd ns).length) else none
def eOp1 (g : PV → Option PV) (fa : EF) : EF := fun env => bnd (fa env) fun x => ofO (g x)
section
variable {X : Cx} {W : WX} {k : Kd} {pos p p1 p2 p3 q apos cpos : Pos} {a b e : Expr} {fa fb : EF} {j : Nat}
theorem seqI_have {ρ : Rw} {H0 H : Hp} {S : Addr → Prop} {x : PV} {v : V} {ns : List Int} (hS0 : ∀ b, S b → H0 b ≠ none) (hρ : S ρ.a) (h : Have ρ k H0 H S x v) (e : seqI x = some ns) : ∃ l, v = .ref l ∧ (SqL X.K H l (ns.map V.int) ∨ SqT X.K H l (ns.map V.int)) := by
  unfold seqI at e
  split at e
  · obtain ⟨l, vs, rfl, g, r, _⟩ := have_lst hS0 hρ h
    rw [ints_eq e] at r
    rw [RepL.ints_of ns r] at g
    exact ⟨l, rfl, .inl (.inl (.inl g))⟩
  · obtain ⟨l, vs, rfl, g, r, _⟩ := have_tup hρ h
    rw [ints_eq e] at r
    rw [RepL.ints_of ns r] at g
    exact ⟨l, rfl, .inr (.inl (.inl g))⟩
  · cases e
theorem me_lenSt (T : Ct X W j) (ha : MEk X W k a fa) (hm : X.mg "len" = none) (hm2 : X.mg "set" = none) (hg : Gl X "len" := by rfl) (hg2 : Gl X "set" := by rfl)
    (na : starEach [a] X.env = (false, eval a X.env) :: starEach [] X.env := by rfl) : ME X W (.Call (.Name "len" p) [.Call (.Name "set" p2) [a] [] q] [] pos) (eOp1 gLenS fa) := pe_imp (pe_lenS T.calm hg hm hg2 hm2 ha na) fun σ H Q z => by
  obtain ⟨ρ, F, B, env, ad, r, m, w⟩ := z
  refine ⟨ρ, F, B, env, ad, r, m, wpM_mono (wpM_bnd w) (fun x r1 w1 v1 H1 e1 o1 h1 => ?_) fun _ _ z => z⟩
  obtain ⟨pc, hg, w4⟩ := ofO_some w1
  unfold gLenS at hg
  obtain ⟨ns, h2, h3⟩ := Option.bind_eq_some_iff.mp hg
  split at h3
  · rename_i hn
    cases h3
    obtain ⟨l, rfl, sq⟩ := seqI_have (X := X) (H0 := H) (fun b => m.there) m.exρ h1 h2
    exact ⟨l, ns, rfl, sq, hn, w4 _ _ e1 o1 (hv_int _)⟩
  · cases h3
/-! xs.count(n), a list of ints -/
def gCnt (xs : List PV) : PV → Option PV
  | .int n => (ints? xs).map fun ns => .int (ns.count n : Nat)
  | _ => none
def eCnt (fa fb : EF) : EF := fun env => bnd (fa env) fun x => bnd (unL x) fun xs => bnd (fb env) fun y => ofO (gCnt xs y)
theorem me_cnt (ha : MEk X W k a fa) (hb : ME X W b fb) (hbase : attributeBase a "count" X.env (eval a X.env) = eval a X.env := by rfl)
    (hfew : ((backTo cpos (starEach [b] X.env)).all (fun x => !x.1) && (backToKw cpos (keywordEach [] X.env)).all (fun x => x.1.isSome) && decide ([b].length + ([] : List Keyword).length + (if ([] : List Keyword).isEmpty then 0 else 1) < 30)) = true := by rfl)
    (hline : (apos.endLine == cpos.line) = true := by rfl) (hse : starEach [b] X.env = (false, eval b X.env) :: starEach [] X.env := by rfl) : ME X W (.Call (.Attribute a "count" apos) [b] [] cpos) (eCnt fa fb) :=
  pe_imp (pe_bm PySem.F.plainAttrs_list PySem.F.slot_list_count PySem.F.type_list_count mt_lcount ha (pa_cons hb pa_nil hse) hbase hfew hline hse rfl) fun σ H Q z => by
  obtain ⟨ρ, F, B, env, ad, r, m, w⟩ := z
  refine ⟨ρ, F, B, env, ad, r, m, wpM_mono (wpM_bnd w) (fun x r1 w1 v1 H1 e1 o1 h1 => ?_) fun _ _ z => z⟩
  have m1 := m.step e1 o1
  obtain ⟨xs, rfl, w1⟩ := unL_ok (wpM_bnd w1)
  obtain ⟨l, vs, rfl, g, rl, n, ns⟩ := have_lst (H0 := H) (S := Ex F env ad) (fun b => m.there) m.exρ h1
  refine ⟨.inl ⟨rfl, vs, .inl (.inl g)⟩, ρ, F, B, env, ad, r1, m1, wpM_mono (wpM_bnd w1) (fun y r2 w2 v2 H2 e2 o2 h2 => ?_) fun ex r2 z C d H' e' => z C d H' (e1.trans e')⟩
  obtain ⟨pc, hg, w4⟩ := ofO_some w2
  cases y with
  | int i =>
    obtain ⟨is, q1, rfl⟩ := Option.map_eq_some_iff.mp hg
    have hv := have_int h2
    subst hv
    rw [ints_eq q1] at rl
    rw [RepL.ints_of is rl] at g
    exact ⟨l, is, i, rfl, rfl, .inl (.inl (e2 _ _ g n)), w4 _ _ (e1.trans e2) o2 (hv_int _)⟩
  | _ => cases hg
end
section
variable {K : PV → RS → Prop} {E : Exn → RS → Prop} {r : RS} {env : Env} {fa fb : EF} {i : Nat}
theorem w_op1 {g : PV → Option PV} (h : wpM (fa env r) (fun x r1 => ∃ z, g x = some z ∧ K z r1) E) : wpM (eOp1 g fa env r) K E := w_bnd (wpM_mono h (fun x r1 h => w_ofO h) fun _ _ z => z)
theorem w_cnt (h : wpM (fa env r) (fun x r1 => ∃ xs, x = .lst xs ∧ wpM (fb env r1) (fun y r2 => ∃ z, gCnt xs y = some z ∧ K z r2) E) E) : wpM (eCnt fa fb env r) K E := w_bnd (wpM_mono h (fun x r1 ⟨xs, e, h⟩ => by subst e; exact w_bnd (w_bnd (wpM_mono h (fun y r2 h => w_ofO h) fun _ _ z => z))) fun _ _ z => z)
theorem w_varB {v : PV} (e : env[i]? = some (.sh v)) (h : K v r) : wpM (eVarB i env r) K E := by unfold eVarB; rw [e]; exact h
theorem w_varBo {v : PV} (e : env[i]? = some (.ow v)) (h : K v r) : wpM (eVarB i env r) K E := by unfold eVarB; rw [e]; exact h
theorem w_isi2 {c d : Tc} (h : wpM (fa env r) (fun x r1 => ∃ b, isC2 c d x = some b ∧ K (.bl b) r1) E) : wpM (eIsi2 c d fa env r) K E := w_bnd (wpM_mono h (fun x r1 ⟨b, h, k⟩ => by rw [h]; exact k) fun _ _ z => z)
theorem w_zp {K : List PV → RS → Prop} (h : wpM (fa env r) (fun x r1 => wpM (fb env r1) (fun y r2 => ∃ z, gZip x y = some z ∧ K z r2) E) E) : wpM (iZp fa fb env r) K E := w_bnd (wpM_mono h (fun x r1 h => w_bnd (wpM_mono h (fun y r2 h => w_ofO h) fun _ _ z => z)) fun _ _ z => z)
theorem w_star {fs : AF} {K : List PV → RS → Prop} (h : wpM (fa env r) (fun x r1 => wpM (unS x r1) (fun xs r2 => wpM (fs env r2) (fun ys r3 => K (xs ++ ys) r3) E) E) E) : wpM (aStar fa fs env r) K E := w_bnd (wpM_mono h (fun x r1 h => w_bnd (wpM_mono h (fun y r2 h => w_bnd (wpM_mono h (fun z r3 h => h) fun _ _ z => z)) fun _ _ z => z)) fun _ _ z => z)
theorem w_frz {is : List Nat} {f : Env → M Fl} {K : Fl → RS → Prop} {e2 : Env} (e : frzE is env = some e2) (h : wpM (f e2 r) K E) : wpM (sFrz is f env r) K E := w_bnd (w_ofO ⟨e2, e, h⟩)
end
end Mir

/-! list(range(..)); a, b = x, [..] with captured names; return of a thing that may be let go -/
namespace Mir
open PySem PySem.Spec PyProof.Rows L2
def rgO (c : Int) : List PV → Option PV
  | [.int j] => if (okR j && decide (j ≤ 16777216) && decide (c = 1)) = true then some (.lst (rgL 0 1 j.toNat)) else none
  | [.int i, .int j, .int d] => if (okR i && okR j && decide (d = -1) && decide (c = -1) && decide (i - j ≤ 16777216)) = true then some (.lst (rgL i (-1) (i - j).toNat)) else none
  | _ => none
section
variable {X : Cx} {W : WX} {k : Kd} {pos pos' p p1 p2 : Pos} {a b d e : Expr} {es : List Expr} {fs : AF} {j n : Nat} {x : Str} {ta : TA}
def eLrg (c : Int) (fs : AF) : EF := fun env => bnd (fs env) fun xs => ofO (rgO c xs)
/-! targets that are names, one after another -/
theorem HVs.same {ρ : Rw} {H H' : Hp} {S : Addr → Prop} (sm : Same H H') : ∀ {ks : List Bool} {as : List Addr} {xs : List PV} {vs : List V}, HVs ρ H (Hx H S) as ks xs vs → HVs ρ H' (Hx H' S) as ks xs vs
  | [], _, _, _, h => h
  | true :: ks, as, xs, vs, h => by
    obtain ⟨a, as', x, xs', vs', e1, e2, e3, ho, h⟩ := h
    refine ⟨a, as', x, xs', vs', e1, e2, e3, ho.mono (fun o q => sm _ o q) fun b o q => ?_, HVs.same sm h⟩
    obtain ⟨n, q⟩ := Hx_some q
    rw [Hx_out n]; exact sm b o q
  | false :: ks, as, xs, vs, h => by
    obtain ⟨x, xs', v, vs', e1, e2, hr, h⟩ := h
    refine ⟨x, xs', v, vs', e1, e2, hr.mono fun b o q => ?_, HVs.same sm h⟩
    obtain ⟨n, q⟩ := Hx_some q
    rw [Hx_out n]; exact sm b o q
end
theorem w_lrg {c : Int} {fs : AF} {env : Env} {r : RS} {K : PV → RS → Prop} {E : Exn → RS → Prop} (h : wpM (fs env r) (fun xs r1 => ∃ z, rgO c xs = some z ∧ K z r1) E) : wpM (eLrg c fs env r) K E := w_bnd (wpM_mono h (fun x r1 h => w_ofO h) fun _ _ z => z)
end Mir

/-! a walk over a list or a tuple -/
namespace Mir
open PySem PySem.Spec PyProof.Rows L2
section
variable {X : Cx} {W : WX} {k : Kd} {e : Expr} {fa : EF} {tg : Expr}
def iSq (f : EF) : AF := fun env => bnd (f env) unS
theorem w_iSq {env : Env} {r : RS} {E : Exn → RS → Prop} {K : List PV → RS → Prop} (h : wpM (fa env r) (fun x r' => wpM (unS x r') K E) E) : wpM (iSq fa env r) K E := w_bnd (wpM_mono h (fun x r1 k => k) fun _ _ z => z)
end
end Mir

/-! sorted(whole numbers), sorted(tuples of whole numbers) -/
namespace Mir
open PySem PySem.Spec PyProof.Rows L2
theorem insP_map {α β : Type} {le : β → β → Bool} {le' : α → α → Bool} {f : α → β} (h : ∀ a b, le (f a) (f b) = le' a b) (a : α) : ∀ l : List α, insP le (f a) (l.map f) = (insP le' a l).map f
  | [] => rfl
  | b :: l => by
    show (if le (f a) (f b) = true then f a :: f b :: l.map f else f b :: insP le (f a) (l.map f)) = (if le' a b = true then a :: b :: l else b :: insP le' a l).map f
    rw [h]
    split
    · rfl
    · show f b :: insP le (f a) (l.map f) = f b :: _
      rw [insP_map h a l]
theorem isort_map {α β : Type} {le : β → β → Bool} {le' : α → α → Bool} {f : α → β} (h : ∀ a b, le (f a) (f b) = le' a b) : ∀ l : List α, isort le (l.map f) = (isort le' l).map f
  | [] => rfl
  | a :: l => by
    show insP le (f a) (isort le (l.map f)) = (insP le' a (isort le' l)).map f
    rw [isort_map h l, insP_map h]
theorem leP_int (a b : Int) : leP (.int a) (.int b) = leI a b := by
  show (!PySem.W.dataLt (.int b) (.int a)) = _
  rw [PySem.W.dataLt_int, PySem.W.not_lt_int]; rfl
def leN : List Nat → List Nat → Bool
  | [], _ => true
  | _ :: _, [] => false
  | x :: a, y :: b => if x = y then leN a b else decide (x < y)
def rwN (l : List Nat) : PV := .tup (l.map fun (n : Nat) => PV.int n)
theorem leN_lt : ∀ a b : List Nat, (!decide ((b.map fun (n : Nat) => (n : Int)) < a.map fun (n : Nat) => (n : Int))) = leN a b
  | [], b => by
    have : ¬ ((b.map fun (n : Nat) => (n : Int)) < []) := List.not_lt_nil _
    show (!decide (_ < ([] : List Int))) = true
    rw [decide_eq_false this]; rfl
  | x :: a, [] => by
    have : ([] : List Int) < (x : Int) :: a.map fun (n : Nat) => (n : Int) := List.nil_lt_cons _ _
    show (!decide (([] : List Int) < (x : Int) :: a.map fun (n : Nat) => (n : Int))) = false
    rw [decide_eq_true this]; rfl
  | x :: a, y :: b => by
    show (!decide (((y : Int) :: b.map fun (n : Nat) => (n : Int)) < (x : Int) :: a.map fun (n : Nat) => (n : Int))) = (if x = y then leN a b else decide (x < y))
    by_cases h : x = y
    · subst h
      rw [if_pos rfl, ← leN_lt a b]
      congr 1
      refine decide_eq_decide.mpr ?_
      rw [List.cons_lt_cons_iff]
      exact ⟨fun z => by rcases z with z | z; · omega
                         · exact z.2, fun z => .inr ⟨rfl, z⟩⟩
    · rw [if_neg h]
      have e : (((y : Int) :: b.map fun (n : Nat) => (n : Int)) < (x : Int) :: a.map fun (n : Nat) => (n : Int)) ↔ y < x := by
        rw [List.cons_lt_cons_iff]
        exact ⟨fun z => by rcases z with z | z; · omega
                           · omega, fun z => .inl (by omega)⟩
      rw [decide_eq_decide.mpr e]
      by_cases q : y < x
      · rw [decide_eq_true q, decide_eq_false (by omega)]; rfl
      · rw [decide_eq_false q, decide_eq_true (by omega)]; rfl
theorem tD_rw (l : List Nat) : tD 8 (rwN l) = .tuple ((l.map fun (n : Nat) => (n : Int)).map PyData.int) := by
  show PyData.tuple ((l.map fun (n : Nat) => PV.int n).map (tD 7)) = _
  rw [List.map_map, List.map_map]; rfl
theorem leP_row (a b : List Nat) : leP (rwN a) (rwN b) = leN a b := by
  show (!PySem.W.dataLt (tD 8 (rwN b)) (tD 8 (rwN a))) = _
  rw [tD_rw, tD_rw, PySem.W.dataLt_tuple]
  have := PySem.W.dataLt_ints (b.map fun (n : Nat) => (n : Int)) (a.map fun (n : Nat) => (n : Int))
  unfold PySem.W.rowLt at this
  rw [this, leN_lt]
theorem alike_ints : ∀ a b : List Int, PySem.W.alikeAll (a.map PyData.int) (b.map PyData.int) = true
  | [], _ => by unfold PySem.W.alikeAll; rfl
  | _ :: _, [] => by unfold PySem.W.alikeAll; rfl
  | x :: a, y :: b => by
    show PySem.W.alikeAll (.int x :: a.map PyData.int) (.int y :: b.map PyData.int) = true
    unfold PySem.W.alikeAll
    rw [alike_ints a b]
    simp [PySem.W.alike]
theorem all_all {α : Type} {p : α → Bool} {l : List α} (h : ∀ x ∈ l, p x = true) : l.all p = true := List.all_eq_true.mpr h
theorem srtOk_int {α : Type} (f : α → Int) (l : List α) : srtOk (l.map fun x => PV.int (f x)) = true := by
  unfold srtOk
  rw [all_all (p := dt 8), all_all (p := fun x => _), all_all (p := noTupP), Bool.or_true]; rfl
  · intro x hx; obtain ⟨_, _, rfl⟩ := List.mem_map.mp hx; rfl
  · intro x hx
    obtain ⟨_, _, rfl⟩ := List.mem_map.mp hx
    refine all_all fun y hy => ?_
    obtain ⟨_, _, rfl⟩ := List.mem_map.mp hy
    show PySem.W.alike (.int _) (.int _) = true
    simp [PySem.W.alike]
  · intro x hx; obtain ⟨_, _, rfl⟩ := List.mem_map.mp hx; rfl
theorem srtOk_row {α : Type} (f : α → List Nat) (l : List α) : srtOk (l.map fun x => rwN (f x)) = true := by
  unfold srtOk
  rw [all_all (p := dt 8), all_all (p := fun x => _), all_all (p := isTupP), Bool.true_or]; rfl
  · intro x hx; obtain ⟨_, _, rfl⟩ := List.mem_map.mp hx; rfl
  · intro x hx
    obtain ⟨_, _, rfl⟩ := List.mem_map.mp hx
    refine all_all fun y hy => ?_
    obtain ⟨_, _, rfl⟩ := List.mem_map.mp hy
    rw [tD_rw, tD_rw]
    unfold PySem.W.alike
    exact alike_ints _ _
  · intro x hx
    obtain ⟨a, _, rfl⟩ := List.mem_map.mp hx
    show ((f a).map fun (n : Nat) => PV.int n).all (dt 7) = true
    refine all_all fun y hy => ?_
    obtain ⟨_, _, rfl⟩ := List.mem_map.mp hy; rfl
/-- sorted of whole numbers -/
theorem sorted_intsT (ns : List Int) : gSorted [.tup (ns.map PV.int)] = some (.lst ((isort leI ns).map PV.int)) := by
  have := srtOk_int (fun n : Int => n) ns
  show (if srtOk (ns.map PV.int) = true then some (PV.lst (isort leP (ns.map PV.int))) else none) = _
  rw [if_pos this, isort_map (le' := leI) (fun a b => leP_int a b)]
/-- sorted of tuples of whole numbers -/
theorem sorted_rows (l : List (List Nat)) : gSorted [.lst (l.map rwN)] = some (.lst ((isort leN l).map rwN)) := by
  have := srtOk_row (fun n : List Nat => n) l
  show (if srtOk (l.map rwN) = true then some (PV.lst (isort leP (l.map rwN))) else none) = _
  rw [if_pos this, isort_map (le' := leN) leP_row]
end Mir

namespace Mir
open PySem PySem.Spec PyProof.Rows L2
/-! ### a list of two fors -/
def lc2F (t : TP) (tt : Env → M Bool) (fi1 : AF) (vs1 : List Nat) (t1 : TP) (tt1 : Env → M Bool) (fe : EF) : List PV → Env → M (List PV)
  | [], _ => ret []
  | x :: xs, env => bnd (ofO (t x env)) fun env1 => bnd (noex (tt env1)) fun b => if b = true then bnd (noex (fi1 env1)) fun xs1 => if xs1.length ≤ 4096 ∧ noOw env1 vs1 = true then bnd (lcF t1 tt1 fe xs1 (wipeE env1 vs1)) fun ys => bnd (lc2F t tt fi1 vs1 t1 tt1 fe xs env) fun zs => ret (ys ++ zs) else fail else lc2F t tt fi1 vs1 t1 tt1 fe xs env
def eLc2 (vs vs1 : List Nat) (fi : AF) (t : TP) (tt : Env → M Bool) (fi1 : AF) (t1 : TP) (tt1 : Env → M Bool) (fe : EF) : EF := fun env => bnd (fi env) fun xs => if xs.length ≤ 4096 ∧ noOw env vs = true then bnd (lc2F t tt fi1 vs1 t1 tt1 fe xs (wipeE env vs)) fun ys => ret (.lst ys) else fail
section
variable {X : Cx} {W : WX} {pos : Pos} {elt tg iter tg1 iter1 : Expr} {ifs ifs1 : List Expr} {scope : Scope} {own : List (Str × Nat)} {vs1 : List Nat} {j : Nat} {fs fi1 : AF} {t t1 : TP} {sl sl1 : List Nat} {tt tt1 : Env → M Bool} {fe : EF} {bo : Bool}
end
end Mir

/-! len(set(..)), the things tuples of ints -/
namespace Mir
open PySem PySem.Spec PyProof.Rows L2
section
variable {X : Cx}
end
section
variable {X : Cx} {W : WX} {k : Kd} {pos p p2 q : Pos} {a : Expr} {fa : EF} {j : Nat}
end
section
variable {r : RS} {env : Env} {K : PV → RS → Prop} {E : Exn → RS → Prop} {fi fi1 : AF} {t t1 : TP} {tt tt1 : Env → M Bool} {fe : EF}
end
section
variable {r : RS} {env : Env} {E : Exn → RS → Prop} {fi fi1 : AF} {t t1 : TP} {tt tt1 : Env → M Bool} {fe : EF}
theorem w_lc2 {vs vs1 : List Nat} {K : PV → RS → Prop}
    (h : wpM (fi env r) (fun xs r' => (xs.length ≤ 4096 ∧ noOw env vs = true) ∧ wpM (lc2F t tt fi1 vs1 t1 tt1 fe xs (wipeE env vs) r') (fun ys r2 => K (.lst ys) r2) E) E) : wpM (eLc2 vs vs1 fi t tt fi1 t1 tt1 fe env r) K E :=
  w_bnd (wpM_mono h (fun xs r1 ⟨h1, h2⟩ => w_pos h1 (w_bnd h2)) fun _ _ z => z)
end
end Mir

/-! tuple * 1, tuple * 0 -/
namespace Mir
open PySem PySem.Spec PyProof.Rows L2
section
variable {X : Cx}
end
section
variable {X : Cx}
end
end Mir

/-! dicts whose keys are tuples of whole numbers -/
namespace Mir
open PySem PySem.Spec PyProof.Rows L2
abbrev DL := List (List Int × PV)
def ik (k : List Int) : List Key := k.map Sum.inl
def kT (k : List Int) : PV := .tup (k.map PV.int)
theorem ik_kP (k : List Int) : (ik k).map kP = k.map PV.int := by unfold ik; rw [List.map_map]; rfl
theorem ik_kV (k : List Int) : (ik k).map kV = k.map V.int := by unfold ik; rw [List.map_map]; rfl
theorem ik_inj {a b : List Int} (h : ik a = ik b) : a = b := (List.map_inj_right fun x y e => Sum.inl.inj e).mp h
def tkey : PV → Option (List Int)
  | .tup xs => ints? xs
  | _ => none
theorem ints_self : ∀ k : List Int, ints? (k.map PV.int) = some k
  | [] => rfl
  | n :: k => by
    show (ints? (k.map PV.int)).map (n :: ·) = _
    rw [ints_self k]; rfl
theorem tkey_eq {x : PV} {k : List Int} (h : tkey x = some k) : x = kT k := by
  cases x with
  | tup xs => exact congrArg PV.tup (ints_eq h)
  | _ => cases h
theorem tkey_kT (k : List Int) : tkey (kT k) = some k := ints_self k
def tkeys : List PV → Option (List (List Int))
  | [] => some []
  | x :: r => (tkey x).bind fun k => (tkeys r).map (k :: ·)
theorem tkeys_eq : ∀ {xs : List PV} {ks : List (List Int)}, tkeys xs = some ks → xs = ks.map kT
  | [], ks, h => by cases h; rfl
  | x :: r, ks, h => by
    obtain ⟨k, h1, h2⟩ := Option.bind_eq_some_iff.mp (show (tkey x).bind (fun k => (tkeys r).map (k :: ·)) = some ks from h)
    obtain ⟨m, h3, rfl⟩ := Option.map_eq_some_iff.mp h2
    rw [tkey_eq h1, tkeys_eq h3]; rfl
theorem tkeys_map : ∀ ks : List (List Int), tkeys (ks.map kT) = some ks
  | [] => rfl
  | k :: ks => by
    show (tkey (kT k)).bind (fun k => (tkeys (ks.map kT)).map (k :: ·)) = _
    rw [tkey_kT, tkeys_map ks]; rfl
def dicT (l : DL) : PV := .dic (l.map fun p => kT p.1) (l.map (·.2))
def unD : PV → Option DL
  | .dic ks es => (tkeys ks).bind fun kk => if kk.length = es.length then some (kk.zip es) else none
  | _ => none
theorem unD_eq {x : PV} {l : DL} (h : unD x = some l) : x = dicT l := by
  cases x with
  | dic ks es =>
    obtain ⟨kk, h1, h2⟩ := Option.bind_eq_some_iff.mp (show (tkeys ks).bind (fun kk => if kk.length = es.length then some (kk.zip es) else none) = some l from h)
    split at h2
    · rename_i hl
      cases h2
      unfold dicT
      rw [tkeys_eq h1, show ((kk.zip es).map fun p => kT p.1) = ((kk.zip es).map (·.1)).map kT from by rw [List.map_map]; rfl, List.map_fst_zip (by omega), List.map_snd_zip (by omega)]
    · cases h2
  | _ => cases h
theorem unD_dicT (l : DL) : unD (dicT l) = some l := by
  show (tkeys (l.map fun p => kT p.1)).bind (fun kk => if kk.length = (l.map (·.2)).length then some (kk.zip (l.map (·.2))) else none) = _
  rw [show (l.map fun p => kT p.1) = (l.map (·.1)).map kT from by rw [List.map_map]; rfl, tkeys_map]
  show (if (l.map (·.1)).length = (l.map (·.2)).length then some ((l.map (·.1)).zip (l.map (·.2))) else none) = _
  rw [if_pos (by rw [List.length_map, List.length_map])]
  refine congrArg some ?_
  induction l with
  | nil => rfl
  | cons p l ih => rw [List.map_cons, List.map_cons, List.zip_cons_cons, ih]
/-- the dict at a, its keys tuples; an empty one may stand as any -/
def TAt (H : Hp) (a : Addr) (kvs : List (List Key × V)) : Prop := H a = some (.dT kvs) ∨ (H a = some (.dK []) ∧ kvs = [])
/-- what l tells of it -/
def TOf (ρ : Rw) (G : Hp) (l : DL) (kvs : List (List Key × V)) : Prop := kvs.map (·.1) = l.map (fun p => ik p.1) ∧ RepL ρ G (l.map (·.2)) (kvs.map (·.2))
theorem keys_of {l : DL} {kvs : List (List Key × V)} (h : (l.map fun p => kT p.1) = kvs.map fun p => PV.tup (p.1.map kP)) : kvs.map (·.1) = l.map (fun p => ik p.1) := by
  induction l generalizing kvs with
  | nil =>
    cases kvs with
    | nil => rfl
    | cons q kvs => cases h
  | cons p l ih =>
    cases kvs with
    | nil => cases h
    | cons q kvs =>
      rw [List.map_cons, List.map_cons, List.cons_eq_cons] at h
      obtain ⟨h1, h2⟩ := h
      rw [List.map_cons, List.map_cons, ih h2]
      refine congrArg (· :: _) ?_
      have h1 : p.1.map PV.int = q.1.map kP := PV.tup.inj h1
      clear ih h2
      generalize p.1 = a at h1
      generalize q.1 = b at h1
      induction a generalizing b with
      | nil =>
        cases b with
        | nil => rfl
        | cons y b => cases h1
      | cons x a ih =>
        cases b with
        | nil => cases h1
        | cons y b =>
          rw [List.map_cons, List.map_cons, List.cons_eq_cons] at h1
          have e : y = Sum.inl x := by
            cases y with
            | inl i => exact congrArg Sum.inl (PV.int.inj h1.1).symm
            | inr s => cases h1.1
          rw [e, ih b h1.2]; rfl
theorem none_of {l : DL} {kvs : List (Key × V)} (h : (l.map fun p => kT p.1) = kvs.map fun p => kP p.1) : l = [] ∧ kvs = [] := by
  cases l with
  | nil =>
    cases kvs with
    | nil => exact ⟨rfl, rfl⟩
    | cons q kvs => cases h
  | cons p l =>
    cases kvs with
    | nil => cases h
    | cons q kvs =>
      rw [List.map_cons, List.map_cons, List.cons_eq_cons] at h
      obtain ⟨k, v⟩ := q
      cases k <;> cases h.1
theorem owr_dicT {ρ : Rw} {H G : Hp} {l : DL} {a : Addr} (h : OwR ρ H G (dicT l) a) : ∃ kvs, TAt H a kvs ∧ TOf ρ G l kvs := by
  rcases h with ⟨kvs, e, hk, r⟩ | ⟨kvs, e, hk, r⟩
  · obtain ⟨rfl, rfl⟩ := none_of hk
    exact ⟨[], .inr ⟨e, rfl⟩, rfl, r⟩
  · exact ⟨kvs, .inl e, keys_of hk, r⟩
theorem hb_dicT {ρ : Rw} {H : Hp} {S : Addr → Prop} {l : DL} {v : V} (h : HaveB ρ H S (dicT l) v) : ∃ a kvs, v = .ref a ∧ TAt H a kvs ∧ TOf ρ (Hx H S) l kvs := by
  rcases h with h | ⟨a, _, rfl, h⟩
  · unfold dicT Rep at h
    obtain ⟨a, rfl, h⟩ := h
    rcases h with ⟨kvs, e, hk, r⟩ | ⟨kvs, e, hk, r⟩ | ⟨o, kvs, e, hk, r⟩
    · obtain ⟨rfl, rfl⟩ := none_of hk
      exact ⟨a, [], rfl, .inr ⟨(Hx_some e).2, rfl⟩, rfl, r⟩
    · exact ⟨a, kvs, rfl, .inl (Hx_some e).2, keys_of hk, r⟩
    · cases l with
      | nil => cases hk
      | cons p l => cases hk
  · obtain ⟨kvs, t, o⟩ := owr_dicT h
    exact ⟨a, kvs, rfl, t, o⟩
theorem hb_kT {ρ : Rw} {H : Hp} {S : Addr → Prop} {k : List Int} {v : V} (hρ : S ρ.a) (h : HaveB ρ H S (kT k) v) : ∃ b, v = .ref b ∧ H b = some (.tup ((ik k).map kV)) := by
  obtain ⟨b, vs, rfl, e, r, _⟩ := hb_tup hρ h
  rw [RepL.ints_of k r] at e
  exact ⟨b, rfl, by rw [ik_kV]; exact e⟩
theorem upd_back {H : Hp} {a : Addr} {o o' : HO} (e : H a = some o) : upd (upd H a o') a o = H := by
  rw [upd_upd]
  funext b
  unfold upd
  split
  · rename_i z; rw [z]; exact e.symm
  · rfl
section
variable {X : Cx} {pins : List (Addr × Obj)} {σ : L2.St} {H : Hp} {s : Shared} {a b : Addr} {kvs : List (List Key × V)} {k : List Key} {A : Around} {E : Value → Shared → Prop}
theorem conv_T (I : Inv X pins σ H s) (e : H a = some (.dK [])) : Inv X pins σ (upd H a (.dT [])) s := by
  obtain ⟨z, hd, vs, rel, o, es, ep, h1, h2, h3, h4, h5, h6⟩ := dk_of I.hok e
  cases rel
  have e0 : es.toList = [] := by cases h : es.toList with
    | nil => rfl
    | cons x r => rw [h] at h5; cases h5
  exact d_write (t' := s.toks) (ob := .dT []) I (by rw [e]; exact True.intro) (Heap.SameBut.refl a s.heap) ⟨o, h1⟩ ⟨Nat.zero_le _, hd, [], .nil, o, es, ep, h1, h2, h3, e0, List.nodup_nil⟩
theorem conv_K (I : Inv X pins σ H s) (e : H a = some (.dT [])) : Inv X pins σ (upd H a (.dK [])) s := by
  obtain ⟨z, hd, xs, rel, o, es, ep, h1, h2, h3, h4, h5⟩ := (show ObjOk X.prog X.w H s.heap a (.dT []) from (show Rd H a (.dT []) from .inl e).ok I.hok)
  cases rel
  have e0 : es.toList = [] := h4
  have e1 : es = #[] := by
    cases es
    simp at e0
    rw [e0]
  subst e1
  exact d_write (t' := s.toks) (ob := .dK []) I (by rw [e]; exact True.intro) (Heap.SameBut.refl a s.heap) ⟨o, h1⟩ ⟨Nat.zero_le _, hd, [], .nil, o, #[], ep, h1, h2, h3, fun i => by simp, .nil, List.nodup_nil⟩
theorem ne_tup {H : Hp} {a b : Addr} {o : HO} {ys : List V} (e : H a = some o) (eb : H b = some (.tup ys)) (ho : ∀ xs, o ≠ .tup xs) : b ≠ a := fun z => by
  rw [z, e] at eb
  exact ho ys (Option.some.inj eb)
theorem t_nin {Q : Value → Shared → Prop} (hu : A.units + 1 < cLine) (I : Inv X pins σ H s) (t : TAt H a kvs) (eb : H b = some (.tup (k.map kV))) (h : ∀ s', Inv X pins σ H s' → Q (.bool (!(valV kvs k).isSome)) s') : wpAny (model X.prog X.w) A (compareOp .NotIn (.ref b) (.ref a)) Q E s := by
  rcases t with e | ⟨e, rfl⟩
  · exact d_notIn hu I (DGet.t e eb) rfl h
  · have n := ne_tup e eb fun xs z => by cases z
    refine d_notIn hu (conv_T I e) (DGet.t upd_same (by rw [upd_ne n]; exact eb)) rfl fun s' I' => h s' ?_
    have := conv_K I' upd_same
    rwa [upd_back e] at this
theorem t_put {v : V} {r : Value} {Q : Unit → Shared → Prop} (hu : A.units + 1 < cLine) (I : Inv X pins σ H s) (t : TAt H a kvs) (eb : H b = some (.tup (k.map kV))) (hl : kvs.length < sizeLine) (rv : RelV v r)
    (h : ∀ s', Inv X pins σ (upd H a (.dT (putK kvs k v))) s' → Q () s') : wpAny (model X.prog X.w) A (setItem (.ref a) (.ref b) r) Q E s := by
  rcases t with e | ⟨e, rfl⟩
  · exact d_setItem (y := .ref b) hu I (DPut.t e eb hl) rfl rv h
  · have n := ne_tup e eb fun xs z => by cases z
    refine d_setItem (y := .ref b) hu (conv_T I e) (DPut.t upd_same (by rw [upd_ne n]; exact eb) hl) rfl rv fun s' I' => h s' ?_
    rwa [upd_upd] at I'
theorem any_keys {ρ : Rw} {G : Hp} {l : DL} (o : TOf ρ G l kvs) (k : List Int) : (valV kvs (ik k)).isSome = l.any fun p => decide (p.1 = k) := by
  rw [← valV_any]
  have e : (kvs.any fun kv => decide (kv.1 = ik k)) = (kvs.map (·.1)).any fun x => decide (x = ik k) := by rw [List.any_map]; rfl
  rw [e, o.1, List.any_map]
  refine congrArg (fun p => l.any p) (funext fun p => decide_eq_decide.mpr ⟨fun z => ik_inj z, fun z => by show ik p.1 = ik k; rw [z]⟩)
end
def gInD (neg : Bool) (x d : PV) : Option PV := (tkey x).bind fun k => (unD d).map fun l => .bl (neg != l.any fun p => decide (p.1 = k))
section
variable {X : Cx} {W : WX} {κ ka kb : Kd} {pos pos' p p1 p2 : Pos} {e a b c : Expr} {es : List Expr} {j n i : Nat} {x : Str} {fa fb fi fv : EF} {fs : AF} {T : String} {g : List PV → Option PV}
theorem oNinD (hu : X.A.units + 64 < cLine) : Op2 X (compareOp .NotIn) (gInD true) := fun pins s σ H x y v u Q ρ S pa pb pc I rx ry hρ hS ha hb hg k => by
  obtain ⟨kk, h1, h2⟩ := Option.bind_eq_some_iff.mp hg
  obtain ⟨l, h3, rfl⟩ := Option.map_eq_some_iff.mp h2
  rw [tkey_eq h1] at ha
  rw [unD_eq h3] at hb
  obtain ⟨b, rfl, eb⟩ := hb_kT hρ ha
  obtain ⟨a, kvs, rfl, t, o⟩ := hb_dicT hb
  cases (show v = Value.ref b from rx)
  cases (show u = Value.ref a from ry)
  refine t_nin (by omega) I t eb fun s' I' => ⟨.bl _, H, I', rfl, k _ _ (Same.refl _) ?_⟩
  rw [any_keys o, Bool.true_bne]
  exact Flat.bl _ _ _
end
end Mir

/-! dicts whose keys are tuples: stored in, made a list, counted, new -/
namespace Mir
open PySem PySem.Spec PyProof.Rows L2
def putD (l : DL) (k : List Int) (v : PV) : DL := if (l.any fun p => decide (p.1 = k)) = true then l.map (fun p => if p.1 = k then (p.1, v) else p) else l ++ [(k, v)]
def owD (env : Env) (i : Nat) : M DL := match env[i]? with
  | some (.ow x) => ofO (unD x)
  | _ => fail
theorem owD_ok {env : Env} {i : Nat} {r : RS} {K : DL → RS → Prop} {E : Exn → RS → Prop} (w : wpM (owD env i r) K E) : ∃ l, env[i]? = some (.ow (dicT l)) ∧ K l r := by
  unfold owD at w
  cases h : env[i]? with
  | none => rw [h] at w; exact w.elim
  | some sl =>
    rw [h] at w
    cases sl with
    | no => exact w.elim
    | sh v => exact w.elim
    | ow v =>
      obtain ⟨l, e, k⟩ := ofO_some w
      exact ⟨l, by rw [unD_eq e], k⟩
def sDput (i : Nat) (fk fv : EF) : Env → M Fl := fun env => bnd (fv env) fun v => bnd (owD env i) fun l => bnd (fk env) fun x => bnd (ofO (tkey x)) fun k => if l.length < 16777216 then ret (Fl.nx (env.set i (.ow (dicT (putD l k v))))) else fail
theorem put_of {ρ : Rw} {G : Hp} {k : List Int} {x : PV} {v : V} (hx : Rep ρ G x v) : ∀ {l : DL} {kvs : List (List Key × V)}, TOf ρ G l kvs → TOf ρ G (putD l k x) (putK kvs (ik k) v) := by
  have rp : ∀ {l : DL} {kvs : List (List Key × V)}, TOf ρ G l kvs → TOf ρ G (l.map (fun p => if p.1 = k then (p.1, x) else p)) (kvs.map (fun p => if p.1 = ik k then (p.1, v) else p)) := by
    intro l
    induction l with
    | nil =>
      intro kvs o
      cases kvs with
      | nil => exact o
      | cons q kvs => cases o.1
    | cons p l ih =>
      intro kvs o
      cases kvs with
      | nil => cases o.1
      | cons q kvs =>
        obtain ⟨o1, o2⟩ := o
        rw [List.map_cons, List.map_cons, List.cons_eq_cons] at o1
        rw [List.map_cons, List.map_cons] at o2
        unfold RepL at o2
        obtain ⟨u, w, e, hu, hw⟩ := o2
        rw [List.cons_eq_cons] at e
        obtain ⟨r1, r2⟩ := ih (kvs := kvs) ⟨o1.2, by rw [e.2]; exact hw⟩
        have o3 : q.1 = ik p.1 := o1.1
        by_cases h : p.1 = k
        · have h' : q.1 = ik k := by rw [o3, h]
          refine ⟨?_, ?_⟩
          · rw [List.map_cons, List.map_cons, List.map_cons, List.map_cons, if_pos h, if_pos h', r1, o3]
          · rw [List.map_cons, List.map_cons, List.map_cons, List.map_cons, if_pos h, if_pos h']
            exact .cons hx r2
        · have h' : ¬ q.1 = ik k := fun z => h (ik_inj (o3.symm.trans z))
          refine ⟨?_, ?_⟩
          · rw [List.map_cons, List.map_cons, List.map_cons, List.map_cons, if_neg h, if_neg h', r1, o3]
          · rw [List.map_cons, List.map_cons, List.map_cons, List.map_cons, if_neg h, if_neg h', e.1]
            exact .cons hu r2
  intro l kvs o
  unfold putD putK
  rw [valV_any, any_keys o]
  split
  · exact rp o
  · obtain ⟨o1, o2⟩ := o
    refine ⟨by rw [List.map_append, List.map_append, o1]; rfl, ?_⟩
    rw [List.map_append, List.map_append]
    exact o2.snoc hx
theorem tof_len {ρ : Rw} {G : Hp} {l : DL} {kvs : List (List Key × V)} (o : TOf ρ G l kvs) : kvs.length = l.length := by
  have := congrArg List.length o.1
  rwa [List.length_map, List.length_map] at this
theorem owr_T {ρ : Rw} {H G : Hp} {l : DL} {kvs : List (List Key × V)} {a : Addr} (e : H a = some (.dT kvs)) (o : TOf ρ G l kvs) : OwR ρ H G (dicT l) a := by
  refine .inr ⟨kvs, e, ?_, o.2⟩
  have e1 : (kvs.map fun p => PV.tup (p.1.map kP)) = (kvs.map (·.1)).map fun k => PV.tup (k.map kP) := by rw [List.map_map]; rfl
  rw [e1, o.1, List.map_map]
  refine List.map_congr_left fun p _ => ?_
  show kT p.1 = PV.tup ((ik p.1).map kP)
  rw [ik_kP]; rfl
def tTput (td ty tv : TE) : TS := fun D σ H => tv σ H fun v H1 => td σ H1 fun x H2 => ty σ H2 fun y H3 => ∃ a b kvs k, x = .ref a ∧ y = .ref b ∧ TAt H3 a kvs ∧ H3 b = some (.tup ((k : List Key).map kV)) ∧ kvs.length < sizeLine ∧ D.nx σ (upd H3 a (.dT (putK kvs k v)))
section
variable {X : Cx} {W : WX} {κ k ka kb : Kd} {pos pos' p p1 p2 : Pos} {e a b c o i value : Expr} {es : List Expr} {j n m : Nat} {x : Str} {fa fb fi fv : EF} {fs : AF} {T : String} {g : List PV → Option PV} {td ty tv : TE}
theorem ps_tput (hu : X.A.units + 64 < cLine) (ho : PE X o td) (hi : PE X i ty) (hv : PE X value tv) (hs : swapsWith value (some (.Subscript o i pos')) pos.line X.env = pure false) :
    PS X (.Assign [.Subscript o i pos'] value pos) (tTput td ty tv) := by
  refine ⟨fun pins s σ H D I h => wpAny_Assign_Subscript (thn (hv.run pins s σ H _ I h) fun r s1 q1 => ?_) hs⟩
  obtain ⟨v, H1, I1, rv, q1⟩ := q1
  refine thn (ho.run pins s1 σ H1 _ I1 q1) fun u s2 q2 => ?_
  obtain ⟨x, H2, I2, rx, q2⟩ := q2
  refine thn (hi.run pins s2 σ H2 _ I2 q2) fun iv s3 q3 => ?_
  obtain ⟨y, H3, I3, ry, a, b, kvs, k, rfl, rfl, t, eb, hl, q3⟩ := q3
  cases (show u = Value.ref a from rx)
  cases (show iv = Value.ref b from ry)
  exact t_put (by omega) I3 t eb hl rv fun s4 I4 => ⟨σ, _, I4, q3⟩
theorem ms_dput (hu : X.A.units + 64 < cLine) (i : Nat) (hv : PE X (.Name x p1) (tVar i)) (hi : MEk X W ka b fi) (he : ME X W e fv) (hs : swapsWith e (some (.Subscript (.Name x p1) b p2)) pos.line X.env = pure false := by rfl) :
    MS X W (.Assign [.Subscript (.Name x p1) b p2] e pos) (sDput i fi fv) := ps_imp (ps_tput hu hv hi he hs) fun D σ H q => by
  obtain ⟨ρ, F, B, env, ad, r, m, w⟩ := q
  refine ⟨ρ, F, B, env, ad, r, m, wpM_mono (wpM_bnd w) (fun v r1 w1 u H1 e1 o1 hu => ?_) fun e r' z C d H' e1 o1 => z C d σ H' ⟨env, ad, m.step e1 o1⟩⟩
  obtain ⟨l, h, w2⟩ := owD_ok (wpM_bnd w1)
  have m1 := m.step e1 o1
  obtain ⟨h1, h2, h3, h4⟩ := m1.ow i _ h
  refine ⟨_, h1, ρ, F, B, env, ad, r1, m1, wpM_mono (wpM_bnd w2) (fun kx r2 w3 ku H2 e2 o2 hk => ?_) fun e r' z C d H' e2 o2 => z C d σ H' ⟨env, ad, m1.step e2 o2⟩⟩
  obtain ⟨kk, hkk, w4⟩ := ofO_some (wpM_bnd w3)
  obtain ⟨hz, w5⟩ := wpM_ite w4
  have m2 := m1.step e2 o2
  obtain ⟨_, _, _, h5⟩ := m2.ow i _ h
  obtain ⟨kvs, t, of⟩ := owr_dicT h5
  rw [tkey_eq hkk] at hk
  obtain ⟨b', rfl, eb⟩ := hb_kT m2.exρ hk.b
  refine ⟨ad i, b', kvs, ik kk, rfl, rfl, t, eb, by rw [tof_len of, sizeLine_eq]; exact hz, ?_⟩
  have rv : Rep ρ (Hx H2 (Ex F env ad)) v u := Rep.mono (hx_ext m1.exρ e2) _ _ hu
  exact w5 σ _ ad (m2.upO h (owr_T upd_same (put_of rv of)))
/-! list(d), len(d) -/
theorem call_list_T (hc : X.calm = true) : CallR X (.type "list") (fun xs H Q => ∃ d kvs, xs = [V.ref d] ∧ TAt H d kvs ∧ ∀ p bs, H p = none → IsKeys H kvs bs → Q (.ref p) (upd H p (.lst (bs.map V.ref)))) := by
  intro pins s σ H xs us Q I r h
  obtain ⟨d, kvs, rfl, t | ⟨t, rfl⟩, q⟩ := h
  · exact call_list_dT hc pins s σ H _ us Q I r ⟨d, kvs, rfl, .inl t, q⟩
  · refine thn (call_list_dT hc pins s σ _ _ us (fun z H' => ∃ p bs, H p = none ∧ bs = [] ∧ p ≠ d ∧ z = .ref p ∧ H' = upd (upd H d (.dT [])) p (.lst ((bs : List Addr).map V.ref))) (conv_T I t) r ⟨d, [], rfl, .inl upd_same, fun p bs np ks => ?_⟩) fun v s' z => ?_
    · have n : p ≠ d := fun z => by rw [z, upd_same] at np; cases np
      rw [upd_ne n] at np
      cases ks
      exact ⟨p, [], np, rfl, n, rfl, rfl⟩
    · obtain ⟨x, H', I', rx, p, bs, np, rfl, n, rfl, rfl⟩ := z
      have e1 : upd (upd (upd H d (.dT [])) p (.lst (([] : List Addr).map V.ref))) d (.dK []) = upd H p (.lst (([] : List Addr).map V.ref)) := by
        funext b
        unfold upd
        by_cases z1 : b = d
        · subst z1
          rw [if_pos rfl, if_neg (Ne.symm n)]
          exact t.symm
        · rw [if_neg z1]
          split <;> rfl
      have := conv_K I' (a := d) (by rw [upd_ne (Ne.symm n)]; exact upd_same)
      rw [e1] at this
      exact ⟨_, _, this, rx, q p [] np .nil⟩
def OpT (X : Cx) (f : Value) (κ : Kd) (g : List PV → Option PV) : Prop := ∃ r, CallR X f r ∧ ∀ (xs : List PV) (vs : List V) (H : Hp) (Q : VK) (ρ : Rw) (S : Addr → Prop) (pc : PV), S ρ.a → (∀ b, S b → NT (H b)) → HaveL ρ .bo H S xs vs → g xs = some pc →
  (∀ z H', Same H H' → Have ρ κ H H' S pc z → Q z H') → r vs H Q
theorem me_callTyT (O : OpT X (.type T) κ g) (ha : MLk X W k (e :: es) fs) (hm : X.mg x = none) (hv : bootBuiltins x = some (.type T) := by rfl) (hg : Gl X x := by rfl) (hn : x ≠ "__name__" := by decide) (hdb : (x == ("__debug__" : Str)) = false := by decide)
    (he : starEach (e :: es) X.env = (false, eval e X.env) :: starEach es X.env := by rfl) (hpl : (backTo pos (starEach es X.env)).any (·.1) = false := by rfl) : MEk X W κ (.Call (.Name x p) (e :: es) [] pos) (eBi g fs) := by
  obtain ⟨r, h1, h2⟩ := O
  refine pe_imp (pe_callTy h1 hg hm hv ha hn hdb he hpl) fun σ H Q q => ?_
  obtain ⟨ρ, F, B, env, ad, r, m, w⟩ := q
  refine ⟨ρ, F, B, env, ad, r, m, wpM_mono (wpM_bnd w) (fun xs r1 w1 vs H1 e1 o1 hl => ?_) fun _ _ z => z⟩
  have m1 := m.step e1 o1
  obtain ⟨pc, e, w2⟩ := ofO_some w1
  exact h2 xs vs H1 Q ρ _ pc m.exρ (fun b => m1.nt) hl.bo e fun z H' s hz => w2 z H' (e1.trans (.same s)) (o1.same s) (hz.since e1)
def gLstT : List PV → Option PV
  | [d] => (unD d).map fun l => .lst (l.map fun p => kT p.1)
  | _ => none
theorem rep_keys {ρ : Rw} {H : Hp} {S : Addr → Prop} (hS : ∀ b, S b → NT (H b)) : ∀ {l : DL} {kvs : List (List Key × V)} {bs : List Addr}, kvs.map (·.1) = l.map (fun p => ik p.1) → IsKeys H kvs bs → RepL ρ (Hx H S) (l.map fun p => kT p.1) (bs.map V.ref)
  | [], kvs, bs, h, ks => by
    cases kvs with
    | nil => cases ks; exact .nil
    | cons q kvs => cases h
  | p :: l, kvs, bs, h, ks => by
    cases kvs with
    | nil => cases h
    | cons q kvs =>
      rw [List.map_cons, List.map_cons, List.cons_eq_cons] at h
      cases ks with
      | @cons _ b _ bs hb t =>
        rw [List.map_cons, List.map_cons]
        refine .cons ?_ (rep_keys hS h.2 t)
        have hb : H b = some (.tup (q.1.map kV)) := hb
        rw [show q.1 = ik p.1 from h.1, ik_kV] at hb
        unfold kT Rep
        refine ⟨b, p.1.map V.int, rfl, ?_, RepL.ints _⟩
        rw [Hx_out fun z => (hS b z).2 _ hb]
        exact hb
theorem oLstT (hc : X.calm = true) : OpT X (.type "list") .fr gLstT := ⟨_, call_list_T hc, fun xs vs H Q ρ S pc hρ hS ha hg k => by
  unfold gLstT at hg
  split at hg
  · obtain ⟨l, h1, rfl⟩ := Option.map_eq_some_iff.mp hg
    obtain ⟨v, rfl, h⟩ := hl_one ha
    rw [unD_eq h1] at h
    obtain ⟨a, kvs, rfl, t, o⟩ := hb_dicT h
    refine ⟨a, kvs, rfl, t, fun p bs np ks => k _ _ (same_upd np) ?_⟩
    exact have_new (hS _ hρ).1.1 (rep_keys hS o.1 ks) np
  · cases hg⟩
/-! {}, new -/
theorem me_dicF : MEk X W .fr (.Dict [] [] pos) (eC (dicT [])) := pe_imp pe_dnewT fun σ H Q q => by
  obtain ⟨ρ, F, B, env, ad, r, m, w⟩ := q
  intro p np
  have w : _ := w
  exact w (.ref p) _ (.same (same_upd np)) (m.row.same (same_upd np)) ⟨p, rfl, np, fun z => m.row.there (z ▸ np), owr_T upd_same ⟨rfl, .nil⟩⟩
end
section
variable {r : RS} {env : Env} {K : Fl → RS → Prop} {E : Exn → RS → Prop} {fk fv : EF} {i : Nat}
theorem w_dput {l : DL} (h : wpM (fv env r) (fun v r1 => env[i]? = some (.ow (dicT l)) ∧ wpM (fk env r1) (fun x r2 => ∃ k, tkey x = some k ∧ l.length < 16777216 ∧ K (.nx (env.set i (.ow (dicT (putD l k v))))) r2) E) E) : wpM (sDput i fk fv env r) K E := by
  refine w_bnd (wpM_mono h (fun v r1 h => ?_) fun _ _ z => z)
  obtain ⟨e, h⟩ := h
  have : owD env i = ret l := by
    unfold owD
    rw [e]
    show ofO (unD (dicT l)) = _
    rw [unD_dicT]; rfl
  rw [this]
  refine w_bnd (show wpM (ret l r1) _ _ from w_bnd (wpM_mono h (fun x r2 h => ?_) fun _ _ z => z))
  obtain ⟨k, hk, hz, h⟩ := h
  exact w_bnd (w_ofO ⟨k, hk, w_pos hz h⟩)
end
end Mir

/-! comprehensions that make a dict with tuple keys: one clause's loop, once for all depths -/
namespace Mir
open PySem PySem.Spec PyProof.Rows L2
section
variable {prog : Program} {w : World} {A : Around}
/-- the slots know what the block knew at its start -/
structure Kn (a b : L2.St) : Prop where
  len : a.length = b.length
  kn : ∀ (j : Nat) v, a[j]? = some (some v) → b[j]? = some (some v)
theorem Kn.refl (a : L2.St) : Kn a a := ⟨rfl, fun _ _ h => h⟩
theorem Kn.trans {a b c : L2.St} (h : Kn a b) (k : Kn b c) : Kn a c := ⟨h.len.trans k.len, fun j v e => k.kn j v (h.kn j v e)⟩
end
end Mir

/-! {k: v for ..}, the keys tuples of whole numbers -/
namespace Mir
open PySem PySem.Spec PyProof.Rows L2
section
variable {X : L2.Cx} {pins : List (Addr × Obj)} {σ : L2.St} {H : Hp} {s : Shared}
end
end Mir

/-! {k: v for .. in ..} and {k: v for .. in .. for .. in ..}, the keys tuples of whole numbers -/
namespace Mir
open PySem PySem.Spec PyProof.Rows L2
section
variable {X : L2.Cx} {kx vx tg iter tg1 iter1 : Expr} {ifs ifs1 : List Expr} {scope : Scope} {own : List (Str × Nat)} {vs1 : List Nat} {pos : Pos} {wi wi1 : TI} {g g1 : TG} {tt tt1 : TT} {tk tv : TE}
end
end Mir

/-! dict comprehensions, as mirrors -/
namespace Mir
open PySem PySem.Spec PyProof.Rows L2
theorem TOf.mono {ρ : Rw} {G G' : Hp} {l : DL} {kvs : List (List Key × V)} (o : TOf ρ G l kvs) (h : ∀ b u, G b = some u → G' b = some u) : TOf ρ G' l kvs := ⟨o.1, o.2.mono h⟩
section
variable {X : Cx} {W : WX} {pos : Pos} {kx vx tg iter tg1 iter1 : Expr} {ifs ifs1 : List Expr} {scope : Scope} {own : List (Str × Nat)} {vs1 : List Nat} {j : Nat} {fs fi1 : AF} {t t1 : TP} {sl sl1 : List Nat} {tt tt1 : Env → M Bool} {fk fv : EF} {bo : Bool} {kk : Kd}
end
end Mir

/-! dict comprehensions, as mirrors: the rules -/
namespace Mir
open PySem PySem.Spec PyProof.Rows L2
section
variable {X : Cx} {W : WX} {pos : Pos} {kx vx tg iter tg1 iter1 : Expr} {ifs ifs1 : List Expr} {scope : Scope} {own : List (Str × Nat)} {vs1 : List Nat} {j : Nat} {fs fi1 : AF} {t t1 : TP} {sl sl1 : List Nat} {tt tt1 : Env → M Bool} {fk fv : EF} {bo : Bool} {kk : Kd}
end
/-! forward -/
section
variable {r : RS} {env : Env} {E : Exn → RS → Prop} {fi fi1 : AF} {t t1 : TP} {tt tt1 : Env → M Bool} {fk fv : EF} {vs vs1 : List Nat}
end
end Mir

/-! a list comprehension over a dict of the frame's own -/
namespace Mir
open PySem PySem.Spec PyProof.Rows L2
def keysT (l : DL) : List PV := l.map fun p => kT p.1
theorem walk_T {ρ : Rw} {G0 G : Hp} {d : Addr} {o : Obj} {l : DL} {kvs : List (List Key × V)} (g : G d = some (.frz o (.dT kvs))) (e : kvs.map (·.1) = l.map (fun p => ik p.1)) : Walk ρ G0 G (Itkt d o kvs) (keysT l) := fun i H hG => by
  have hd := hG _ _ g
  have hl : kvs.length = l.length := by
    have := congrArg List.length e
    rwa [List.length_map, List.length_map] at this
  refine ⟨fun x hx => ?_, fun hn => ⟨hd, ?_⟩⟩
  · unfold keysT at hx
    rw [List.getElem?_map] at hx
    obtain ⟨p, hp, rfl⟩ := Option.map_eq_some_iff.mp hx
    have hi : i < l.length := (List.getElem?_eq_some_iff.mp hp).1
    refine ⟨⟨hd, by omega⟩, fun v H' hy => ?_⟩
    obtain ⟨rfl, k, u, q, hk, rfl, hq⟩ := hy
    have ek : k = ik p.1 := by
      have h1 : (kvs.map (·.1))[i]? = some k := by rw [List.getElem?_map, hk]; rfl
      rw [e, List.getElem?_map, hp] at h1
      exact (Option.some.inj h1).symm
    subst ek
    rw [ik_kV] at hq
    refine ⟨Same.refl _, fun S hS _ => ?_⟩
    unfold kT Rep
    refine ⟨q, p.1.map V.int, rfl, ?_, RepL.ints _⟩
    rw [Hx_out fun z => (hS q z).2 _ hq]
    exact hq
  · unfold keysT at hn
    rw [List.length_map] at hn
    show kvs.length ≤ i
    omega
theorem walk_K {ρ : Rw} {G0 G : Hp} {d : Addr} {o : Obj} (g : G d = some (.frz o (.dK []))) : Walk ρ G0 G (Itk d o []) (keysT []) := fun i H hG => by
  have hd := hG _ _ g
  refine ⟨fun x hx => ?_, fun hn => ⟨hd, Nat.zero_le _⟩⟩
  unfold keysT at hx
  cases hx
/-- the frame while a thing of its own is locked: it is kept apart, its slot is lent -/
theorem Fm.lend {ρ : Rw} {F : Addr → Prop} {B H : Hp} {r : RS} {σ : L2.St} {env : Env} {ad : Nat → Addr} {i : Nat} {x : PV} {o : HO} (m : Fm ρ F B H r σ env ad) (h : env[i]? = some (.ow x)) (ho : ∀ xs, o ≠ .tup xs) (ho2 : ∀ xs, o ≠ .xd xs := by intro xs z; cases z) :
    Fm ρ (fun b => F b ∨ b = ad i) B (upd H (ad i) o) r σ (env.set i .no) ad := by
  obtain ⟨a1, ⟨b1, b2⟩, c1, d1⟩ := m.ow i x h
  have sub : ∀ b, Ex (fun b => F b ∨ b = ad i) (env.set i .no) ad b → Ex F env ad b := fun b z => by
    rcases z with (z | z) | ⟨j, y, e, rfl⟩
    · exact .inl z
    · exact .inr ⟨i, x, h, z.symm⟩
    · refine .inr ⟨j, y, ?_, rfl⟩
      by_cases q : i = j
      · subst q
        rw [List.getElem?_set_self (List.getElem?_eq_some_iff.mp h).1] at e; cases e
      · rw [List.getElem?_set_ne q] at e; exact e
  have inE : Ex F env ad (ad i) := .inr ⟨i, x, h, rfl⟩
  have hx : ∀ b o', Hx H (Ex F env ad) b = some o' → Hx (upd H (ad i) o) (Ex (fun b => F b ∨ b = ad i) (env.set i .no) ad) b = some o' := fun b o' q => by
    obtain ⟨n, q⟩ := Hx_some q
    rw [Hx_out fun z => n (sub b z), upd_ne fun z => n (by rw [z]; exact inE)]; exact q
  have old : ∀ {j : Nat} {s : Slot}, (env.set i .no)[j]? = some s → s ≠ .no → j ≠ i ∧ env[j]? = some s := fun {j s} e n => by
    by_cases q : i = j
    · subst q
      rw [List.getElem?_set_self (List.getElem?_eq_some_iff.mp h).1] at e
      exact absurd (Option.some.inj e).symm n
    · rw [List.getElem?_set_ne q] at e; exact ⟨Ne.symm q, e⟩
  refine ⟨?_, .inl m.hρ, fun b z => ?_, fun b o' q n => ?_, m.lsB, by rw [List.length_set]; exact m.len, fun j y e => ?_, fun j y e => ?_, fun j l y y' e e' q => ?_⟩
  · obtain ⟨p1, p2, p3, p4⟩ := m.row
    refine ⟨p1, p2, by rw [upd_ne (Ne.symm c1)]; exact p3, ?_⟩
    rw [upd_ne fun z => m.lsB (by rw [z]; exact b1)]; exact p4
  · by_cases y : b = ad i
    · rw [y, upd_same]; exact ⟨⟨(fun q => by cases q), fun xs q => ho2 xs (Option.some.inj q)⟩, fun xs q => ho xs (Option.some.inj q)⟩
    · rw [upd_ne y]; exact m.dom b (z.resolve_right y)
  · rw [upd_ne fun z => by rw [z, b1] at q; cases q]; exact m.ext b o' q n
  · obtain ⟨_, e⟩ := old e (fun z => by cases z)
    obtain ⟨v, p1, p2⟩ := m.sh j y e
    exact ⟨v, p1, p2.mono hx⟩
  · obtain ⟨nj, e⟩ := old e (fun z => by cases z)
    obtain ⟨p1, p2, p3, p4⟩ := m.ow j y e
    have nd : ad j ≠ ad i := fun z => nj (m.inj j i y x e h z)
    exact ⟨p1, ⟨p2.1, fun z => z.elim p2.2 nd⟩, p3, p4.mono (fun o' q => by rw [upd_ne nd]; exact q) hx⟩
  · exact m.inj j l y y' (old e (fun z => by cases z)).2 (old e' (fun z => by cases z)).2 q
theorem Fm.lendE {ρ : Rw} {F : Addr → Prop} {B H : Hp} {r : RS} {σ : L2.St} {env : Env} {ad : Nat → Addr} {i : Nat} {x : PV} (m : Fm ρ F B H r σ env ad) (h : env[i]? = some (.ow x)) {b : Addr} (z : Ex F env ad b) : Ex (fun b => F b ∨ b = ad i) (env.set i .no) ad b := by
  rcases z with z | ⟨j, y, e, rfl⟩
  · exact .inl (.inl z)
  · by_cases q : i = j
    · subst q; exact .inl (.inr rfl)
    · exact .inr ⟨j, y, by rw [List.getElem?_set_ne q]; exact e, rfl⟩
def eLcD (vs : List Nat) (i : Nat) (t : TP) (tt : Env → M Bool) (fe : EF) : EF := fun env => bnd (owD env i) fun l =>
  if l.length ≤ 16777216 ∧ noOw (env.set i .no) vs = true then bnd (lcF t tt fe (keysT l) (wipeE (env.set i .no) vs)) fun ys => ret (.lst ys) else fail
section
variable {X : Cx} {W : WX} {pos p : Pos} {elt tg : Expr} {ifs : List Expr} {scope : Scope} {own : List (Str × Nat)} {j : Nat} {t : TP} {sl : List Nat} {tt : Env → M Bool} {fe : EF} {x : Str}
theorem tLcD_of {mg : Str → Option Value} {vs : List Nat} {i : Nat} (hsl : ∀ i ∈ sl, i ∈ vs) (σ : L2.St) (H : Hp) (Q : VK) (q : tE mg W .fr (eLcD vs i t tt fe) σ H Q) : tLockE (tLc (iKeys (tVar i)) (tG sl t) (tT mg W0 tt) (tE mg W0 .cl fe) vs) σ H Q := by
  obtain ⟨ρ, F, B, env, ad, r, m, w⟩ := q
  obtain ⟨l, h, w1⟩ := owD_ok (wpM_bnd w)
  obtain ⟨⟨hlen, hno⟩, w2⟩ := wpM_ite w1
  obtain ⟨h1, ⟨nB, nF⟩, h3, h4⟩ := m.ow i _ h
  obtain ⟨kvs, ta, of⟩ := owr_dicT h4
  have hlen' : (keysT l).length ≤ 16777216 := by unfold keysT; rw [List.length_map]; exact hlen
  obtain ⟨u, hu, mu, hw⟩ : ∃ u, H (ad i) = some u ∧ Mut (some u) ∧ ∀ (od : Obj) (R : It → Hp → Prop), (∀ J, (∀ G0 G, G (ad i) = some (.frz od u) → Walk ρ G0 G J (keysT l)) → R J (upd H (ad i) (.frz od u))) → iKeys (tVar i) σ (upd H (ad i) (.frz od u)) R := by
    rcases ta with e | ⟨e, rfl⟩
    · exact ⟨_, e, True.intro, fun od R k => ⟨_, h1, ad i, od, rfl, .inr ⟨kvs, upd_same, k _ fun G0 G g => walk_T g of.1⟩⟩⟩
    · have l0 : l = [] := by
        have := tof_len of
        cases l with
        | nil => rfl
        | cons a b => cases this
      subst l0
      exact ⟨_, e, True.intro, fun od R k => ⟨_, h1, ad i, od, rfl, .inl ⟨[], upd_same, k _ fun G0 G g => walk_K g⟩⟩⟩
  refine ⟨ad i, u, hu, mu, fun od => ?_⟩
  refine hw od _ fun J hJ D nD => ?_
  have m1 := m.lend (o := .frz od u) h (fun xs z => by cases z)
  have nDi : D ≠ ad i := fun z => by rw [z, upd_same] at nD; cases nD
  have nH : H D = none := by rw [upd_ne nDi] at nD; exact nD
  have nDρ : D ≠ ρ.a := fun z => m.row.there (by rw [← z]; exact nH)
  refine lc_loop (bo := true) (r1 := r) hsl m1 (hJ _ _ ?_) nD hlen' hno w2 fun ys r' H' vs' k e o hD hr => ?_
  · unfold stayG
    rw [if_pos rfl, Hx_out (S := fun b => b = ρ.a) h3]
    exact upd_same
  · have hd : H' (ad i) = some (.frz od u) := e _ _ upd_same h3
    refine ⟨hd, ?_⟩
    have ex : Ext ρ H (upd H' (ad i) u) := fun b o' q n => by
      by_cases z : b = ad i
      · subst z
        rw [upd_same, ← hu]; exact q
      · rw [upd_ne z]
        exact e b o' (by rw [upd_ne z]; exact q) n
    refine k (.ref D) _ ex ?_ ⟨D, rfl, nH, nDρ, vs', by rw [upd_ne nDi]; exact hD, hr.mono fun b o' q => ?_⟩
    · obtain ⟨p1, p2, p3, p4⟩ := o
      refine ⟨p1, p2, by rw [upd_ne (Ne.symm h3)]; exact p3, ?_⟩
      rw [upd_ne fun z => m.lsB (by rw [z]; exact nB)]; exact p4
    · obtain ⟨n, q⟩ := Hx_some q
      have ni : b ≠ ad i := fun z => n (.inl (.inl (.inr z)))
      rw [Hx_out fun z => n (z.imp (fun z => m.lendE h z) id), upd_ne ni]
      exact q
theorem me_lcD (i : Nat) (T : Ct X W j) (hv : PE X (.Name x p) (tVar i)) (ok : BlkOk X.N X.env.scope scope own)
    (hg : ∀ (s : Shared) (H : Hp) (C : Addr) (cl : List (Str × Addr)) (fp : List Addr), MG (X.blk s H scope (compEnvC scope cl C X.env) fp) tg sl t) (ht : ∀ (s : Shared) (H : Hp) (C : Addr) (cl : List (Str × Addr)) (fp : List Addr), MTs (X.blk s H scope (compEnvC scope cl C X.env) fp) W0 ifs tt)
    (he : ∀ (s : Shared) (H : Hp) (C : Addr) (cl : List (Str × Addr)) (fp : List Addr), ME (X.blk s H scope (compEnvC scope cl C X.env) fp) W0 elt fe) (hsl : ∀ i ∈ sl, i ∈ own.map (·.2) := by decide) (hs : ∀ y, foldedSetIterable (.Name x p) X.env y = pure y := by intro _; rfl) :
    MEk X W .fr (.ListComp elt [⟨tg, .Name x p, ifs, 0⟩] scope pos) (eLcD (own.map (·.2)) i t tt fe) := pe_imp (pe_lock (pe_lc T.calm T.nd (pi_keys hv) ok hg ht he hs)) (tLcD_of hsl)
end
section
variable {r : RS} {env : Env} {K : PV → RS → Prop} {E : Exn → RS → Prop} {vs : List Nat} {i : Nat} {t : TP} {tt : Env → M Bool} {fe : EF}
theorem w_lcD {l : DL} (e : env[i]? = some (.ow (dicT l))) (hl : l.length ≤ 16777216) (hn : noOw (env.set i .no) vs = true) (h : wpM (lcF t tt fe (keysT l) (wipeE (env.set i .no) vs) r) (fun ys r' => K (.lst ys) r') E) : wpM (eLcD vs i t tt fe env r) K E := by
  have : owD env i = ret l := by
    unfold owD
    rw [e]
    show ofO (unD (dicT l)) = _
    rw [unD_dicT]; rfl
  refine w_bnd ?_
  rw [this]
  exact (show wpM (ret l r) _ _ from w_pos ⟨hl, hn⟩ (w_bnd h))
end
end Mir

/-! sorted(set(..)), the things tuples of ints -/
namespace Mir
open PySem PySem.Spec PyProof.Rows L2
section
variable {X : Cx}
end
section
variable {X : Cx} {W : WX} {k : Kd} {pos p p2 q : Pos} {a : Expr} {fa : EF} {j : Nat}
end
end Mir

/-! dicts whose keys are ints: owned, and told for good (locked for ever) -/
namespace Mir
open PySem PySem.Spec PyProof.Rows L2
/-! ### locked for ever -/
section
variable {X : Cx} {W : WX} {k ka kb kc : Kd} {pos pos' p p1 p2 apos cpos : Pos} {e a b c tg : Expr} {es : List Expr} {j j' n i : Nat} {x : Str} {fa fb fd : EF} {fs : AF}
/-! ### what is read of such a dict -/
end
end Mir

/-! dicts of ints: max of the keys, a display, get, a store; xs.index(x) -/
namespace Mir
open PySem PySem.Spec PyProof.Rows L2
section
variable {prog : Program} {w : World} {A : Around} {κ : Type} [DecidableEq κ] {knd : KeyKind prog w κ}
end
/-! ### the owned one -/
section
variable {X : Cx} {W : WX} {k ka kb kc : Kd} {pos pos' p p1 p2 p3 apos cpos : Pos} {e a b c o tg : Expr} {es : List Expr} {j j' n : Nat} {x : Str} {fa fb fd fi fv : EF} {fs : AF}
/-! ### xs.index(x) -/
end
end Mir

/-! {**x, **y}: dicts whose keys are tuples, put together anew -/
namespace Mir
open PySem PySem.Spec PyProof.Rows L2
section
variable {pr : Program} {wd : World} {κ : Type} [DecidableEq κ] {kd : HeapKind pr wd κ} {A : Around} {E : Value → Shared → Prop} {s : Shared}
end
section
variable {X : Cx} {pins : List (Addr × Obj)} {σ : L2.St} {H : Hp} {s : Shared} {a p : Addr} {kvs ms : List (List Key × V)} {A : Around} {E : Value → Shared → Prop}
end
section
variable {X : Cx} {a b : Expr} {ta tb tk : TE} {pos : Pos}
def hK (X : Cx) (k : List Key) : Int := (tupleKind (mixKind X.prog X.w)).hash k
end
/-! ### the mirror -/
section
variable {X : Cx} {W : WX} {k ka kb : Kd} {pos p2 : Pos} {a b : Expr} {fa fb : EF}
end
end Mir

/-! is, is not of bools -/
namespace Mir
open PySem PySem.Spec PyProof.Rows L2
section
variable {X : Cx}
end
end Mir

/-! xs.count(x) of data; sorted(d), the keys tuples of ints -/
namespace Mir.So
open PySem PySem.Calls PySem.W PyProof.Rows PySem.SeqAt
section
variable {β : Type}
variable {P : Program} {w : World} {A : Around} {E : Value → Shared → Prop} {s : Shared}
end
end Mir.So
namespace Mir
open PySem PySem.Spec PyProof.Rows L2
section
variable {X : Cx} {W : WX} {k ka kb κ : Kd} {pos p apos cpos : Pos} {e a b : Expr} {es : List Expr} {x : Str} {fa fb : EF} {fs : AF} {bid : String} {g : List PV → Option PV}
/-! sorted(d) -/
end
end Mir

/-! set(list of tuples of ints): any length, few different ones -/
namespace Mir.So
open PySem PySem.Spec PySem.Calls PySem.W PyProof.Rows L2
/-- what is held behind the first i -/
structure Hld (ks : List (Addr × List Int)) (i : Nat) (L : List (Addr × List Int)) : Prop where
  sub : ∀ p ∈ L, p ∈ ks
  all : ∀ p ∈ ks.take i, p.2 ∈ L.map (·.2)
theorem Hld.zero (ks : List (Addr × List Int)) : Hld ks 0 [] := ⟨fun p hp => (nomatch hp), fun p hp => by rw [List.take_zero] at hp; cases hp⟩
section
variable {P : Program} {w : World} {A : Around} {E : Value → Shared → Prop} {s : Shared}
end
end Mir.So

/-! sorted(set(..)), many tuples of ints, few different ones -/
namespace Mir
open PySem PySem.Spec PyProof.Rows L2
section
variable {X : Cx}
end
section
variable {X : Cx} {W : WX} {k : Kd} {pos p p2 q : Pos} {a : Expr} {fa : EF} {j : Nat}
end
end Mir

/-! xs * n, a new list of the frame's own -/
namespace Mir
open PySem PySem.Spec PyProof.Rows L2
section
variable {X : Cx} {W : WX} {ka kb : Kd} {pos : Pos} {a b : Expr} {fa fb : EF}
end
end Mir

/-! a list as a test -/
namespace Mir
open PySem PySem.Spec PyProof.Rows L2
section
variable {X : Cx} {W : WX} {k : Kd} {e : Expr} {f : EF}
end
end Mir

/-! a call whose list is new: the arguments hold no list, so the list cannot be an old one; a def under another name -/
namespace Mir
open PySem PySem.Spec PyProof.Rows L2
mutual
def tpO : PV → Bool
  | .non => true
  | .bl _ => true
  | .int _ => true
  | .str _ => true
  | .ty _ => true
  | .tup xs => tpL xs
  | _ => false
def tpL : List PV → Bool
  | [] => true
  | x :: xs => tpO x && tpL xs
end
mutual
theorem rep_tp {ρ : Rw} {G G' : Hp} (g : ∀ b us, G b = some (.tup us) → G' b = some (.tup us)) : ∀ (x : PV) (v : V), tpO x = true → Rep ρ G x v → Rep ρ G' x v
  | .non, v, _, r => by unfold Rep at r ⊢; exact r
  | .bl b, v, _, r => by unfold Rep at r ⊢; exact r
  | .int i, v, _, r => by unfold Rep at r ⊢; exact r
  | .str x, v, _, r => by unfold Rep at r ⊢; exact r
  | .ty n, v, _, r => by unfold Rep at r ⊢; exact r
  | .row, v, h, _ => by unfold tpO at h; cases h
  | .exc _ _, v, h, _ => by unfold tpO at h; cases h
  | .at_ _, v, h, _ => by unfold tpO at h; cases h
  | .obj _ _ _, v, h, _ => by unfold tpO at h; cases h
  | .lst xs, v, h, _ => by unfold tpO at h; cases h
  | .dic ks es, v, h, _ => by unfold tpO at h; cases h
  | .tup xs, v, h, r => by
    unfold tpO at h
    unfold Rep at r ⊢
    obtain ⟨a, vs, e, q, l⟩ := r
    exact ⟨a, vs, e, g _ _ q, repL_tp g xs vs h l⟩
theorem repL_tp {ρ : Rw} {G G' : Hp} (g : ∀ b us, G b = some (.tup us) → G' b = some (.tup us)) : ∀ (xs : List PV) (vs : List V), tpL xs = true → RepL ρ G xs vs → RepL ρ G' xs vs
  | [], vs, _, r => by unfold RepL at r ⊢; exact r
  | x :: xs, vs, h, r => by
    unfold tpL at h
    rw [Bool.and_eq_true] at h
    unfold RepL at r ⊢
    obtain ⟨v, s, e, a, b⟩ := r
    exact ⟨v, s, e, rep_tp g x v h.1 a, repL_tp g xs s h.2 b⟩
end
def frL : PV → M PV
  | .lst ys => if tpL ys = true then ret (.lst ys) else fail
  | _ => fail
section
variable {X : Cx} {W : WX} {k ka kb kc : Kd} {pos p : Pos} {e a b c : Expr} {es : List Expr} {j j' n : Nat} {x : Str} {m : List PV → M PV}
end
section
variable {P : Program} {w : World} {K : PySem.W.Frag} {mg : Str → Option Value} {base : Heap}
end
end Mir

/-! texts: join, split, a sign in a text, text[i], text * n, int(text), a walk over the signs; xs + ys, a new list of the frame's own -/
namespace Mir
open PySem PySem.Spec PyProof.Rows L2
def unStr : PV → M Str
  | .str x => ret x
  | _ => fail
def strs? : List PV → Option (List Str)
  | [] => some []
  | .str x :: r => (strs? r).map (x :: ·)
  | _ => none
def gJn (a : Str) : PV → Option PV
  | .lst xs => (strs? xs).bind fun ys => if (ys.map (·.length)).sum + ys.length * a.length ≤ 16777216 ∧ PyData.strOk (Txt.join a ys) = true then some (.str (Txt.join a ys)) else none
  | _ => none
def eJn (fa fb : EF) : EF := fun env => bnd (fa env) fun x => bnd (unStr x) fun a => bnd (fb env) fun y => ofO (gJn a y)
def gSpl (a b : Str) : Option PV := if (b.length == 0) = false ∧ a.length + 2 ≤ 16777216 ∧ (Txt.split a b).all PyData.strOk = true then some (.lst ((Txt.split a b).map .str)) else none
def eSpl (fa fb : EF) : EF := fun env => bnd (fa env) fun x => bnd (unStr x) fun a => bnd (fb env) fun y => bnd (unStr y) fun b => ofO (gSpl a b)
def sg (c : Nat) : Str := ⟨#[c]⟩
def unTx : PV → M (List PV)
  | .str x => ret (x.cps.toList.map fun c => .str (sg c))
  | _ => fail
def iTxt (f : EF) : AF := fun env => bnd (f env) unTx
section
variable {X : Cx} {W : WX} {k ka kb : Kd} {pos apos cpos : Pos} {a b e tg : Expr} {fa fb : EF}
/-! run forward -/
section
variable {K : PV → RS → Prop} {E : Exn → RS → Prop} {r : RS} {env : Env}
theorem w_jn (h : wpM (fa env r) (fun x r1 => ∃ a, x = .str a ∧ wpM (fb env r1) (fun y r2 => ∃ z, gJn a y = some z ∧ K z r2) E) E) : wpM (eJn fa fb env r) K E :=
  w_bnd (wpM_mono h (fun x r1 ⟨a, e, h⟩ => by subst e; exact w_bnd (w_bnd (wpM_mono h (fun y r2 h => w_ofO h) fun _ _ z => z))) fun _ _ z => z)
theorem w_spl (h : wpM (fa env r) (fun x r1 => ∃ a, x = .str a ∧ wpM (fb env r1) (fun y r2 => ∃ b, y = .str b ∧ ∃ z, gSpl a b = some z ∧ K z r2) E) E) : wpM (eSpl fa fb env r) K E :=
  w_bnd (wpM_mono h (fun x r1 ⟨a, e, h⟩ => by subst e; exact w_bnd (w_bnd (wpM_mono h (fun y r2 ⟨b, e, h⟩ => by subst e; exact w_bnd (w_ofO h)) fun _ _ z => z))) fun _ _ z => z)
theorem w_iTxt {K : List PV → RS → Prop} (h : wpM (fa env r) (fun x r' => ∃ y, x = .str y ∧ K (y.cps.toList.map fun c => .str (sg c)) r') E) : wpM (iTxt fa env r) K E := w_bnd (wpM_mono h (fun x r1 ⟨y, e, k⟩ => by subst e; exact k) fun _ _ z => z)
end
end
end Mir

/-! a list comprehension whose thing may raise: the exception leaves the comprehension -/
namespace LcX
open PySem PySem.Spec PyProof.Rows L2
theorem note_same {e1 e2 : PySem.Env} (h : e1.frame = e2.frame) (x : Value) : noteFrame x e1 = noteFrame x e2 := by
  unfold noteFrame PySem.frameOf
  simp only [h]
section
variable {M : Model} {A : Around} {E : Value → Shared → Prop} {s : Shared} {Z : Obj → Prop} {B : Heap} {env : PySem.Env} {outer l : List PySem.Env} {L L0 a : Addr}
/-- noted, though its flight was of another frame -/
theorem look_other {fl : Value} {Q : Unit → Shared → Prop} (hZ : HandSPX.Steady Z) (hfr : A.frames = some (env :: outer)) (hf : env.frame = some L) (k0 : B.StaysIn s.heap) (k1 : B.get? a = none) (k2 : s.heap.FunFrames B (env :: outer)) (k3 : HandSPX.TracedZ s.heap B a Z fl) (nf : (fl == rawInt L) = false)
    (q : ∀ h1, HandSPX.HeldZ B (env :: outer) a Z L h1 → s.heap.UpToSlots h1 → Q () { s with heap := h1 }) : wpAny M A (noteFrame (.ref a) env) Q E s := by
  obtain ⟨oa, va, T, oT, tv, ga, za, da, a1, nT, ne, gT, dT, t3⟩ := k3
  have away : ∀ b, b ≠ T → (s.heap.update T (Obj.mapFields (·.setIfInBounds 3 Value.none))).get? b = s.heap.get? b := fun b hb => Heap.get?_update_other _ _ hb.symm
  have plain : ∀ b o, s.heap.get? b = some o → (∀ vs, o.data ≠ .fields vs) → b ≠ T := fun b o g n z => by
    subst z
    cases gT.symm.trans g
    exact n _ dT
  unfold noteFrame
  simp only [hf]
  refine wpAny_bind (wpAny_field ga da a1 ?_)
  rw [if_pos (by simp)]
  refine wpAny_bind (wpAny_field gT dT t3 ?_)
  rw [if_neg (by rw [nf]; exact Bool.false_ne_true)]
  refine wpAny_bind (wpAny_setField gT dT (Array.getElem?_eq_some_iff.mp t3).1 ?_)
  refine HandSPX.wpAny_entryZ hZ hfr (k2.of_keeps fun b o g n => ⟨o, by rw [away b (plain b o g n)]; exact g, rfl⟩) hf (by rw [away a ne.symm]; exact ga) (fun b o g => ?_) k1 da (Array.getElem?_eq_some_iff.mp a1).1 za fun h1 ⟨x1, x2, x3, x4⟩ => q h1 ⟨x1, k1, x2, x3⟩ fun b o g n => x4 b o (by rw [away b (plain b o g n)]; exact g) n
  rw [away b fun z => by rw [z, nT] at g; cases g]
  exact k0 b o g
/-- noted, wherever it stands -/
theorem note_sky {Q : Unit → Shared → Prop} (hZ : HandSPX.Steady Z) (hfr : A.frames = some (env :: outer)) (hf : env.frame = some L) (x : Sky B (env :: outer) a Z L0 s.heap)
    (q : ∀ h1, HandSPX.HeldZ B (env :: outer) a Z L h1 → s.heap.UpToSlots h1 → Q () { s with heap := h1 }) : wpAny M A (noteFrame (.ref a) env) Q E s := by
  rcases x with ⟨x1, x2, x3, oe, vs, x4, x5, x6, x7⟩ | x | ⟨x1, x2, x3, x4⟩
  · exact HandSPX.look_newZ hZ hfr x3 hf x4 x1 x2 x6 x7 x5 q
  · exact HandSPX.looks_onZ hZ hfr hf x q
  · cases e : (rawInt L0 == rawInt L) with
    | true =>
      have e := eq_of_beq e
      rw [e] at x4
      exact HandSPX.againZ hf x4 (q s.heap ⟨x1, x2, x3, x4⟩ (Heap.UpToSlots.refl _))
    | false => exact look_other hZ hfr hf x1 x2 x3 x4 e q
end
theorem frames_but {B h h1 : Heap} {C : Addr} : ∀ {l : List PySem.Env}, h.FunFrames B l → (∀ L ∈ frs l, L ≠ C) → Heap.SameBut C h h1 → h1.FunFrames (PySem.W.hideAll B [C]) l
  | [], _, _, _ => trivial
  | e :: l, ⟨k, ⟨L, o, f, n, g, d⟩, r⟩, hc, sb => by
    have mem : ∀ b ∈ frs l, b ∈ frs (e :: l) := fun b hb => by
      obtain ⟨y, hy, q⟩ := List.mem_filterMap.mp hb
      exact List.mem_filterMap.mpr ⟨y, List.mem_cons_of_mem _ hy, q⟩
    refine ⟨k, ⟨L, o, f, ?_, (sb.2 L (hc L (List.mem_filterMap.mpr ⟨e, List.mem_cons_self, f⟩))).trans g, d⟩, frames_but r (fun b hb => hc b (mem b hb)) sb⟩
    cases q : (PySem.W.hideAll B [C]).get? L with
    | none => rfl
    | some u => rw [PySem.W.of_hideAll _ q] at n; cases n
theorem ns_up {h h1 : Heap} {C : Addr} {m : Str → Option Value} (x : h.Ns C m) (u : h.UpToSlots h1) : h1.Ns C m := by
  obtain ⟨o, es, ep, g, d, k, f⟩ := x
  obtain ⟨sl, g1⟩ := u C o g fun vs z => by rw [d] at z; cases z
  exact ⟨_, es, ep, g1, d, k, f⟩
section
variable {X : Cx} {W : WX}
abbrev blkX (X : Cx) (s : Shared) (H : Hp) (scope : Scope) (cenv : PySem.Env) (fp : List Addr) (xe : Value → Shared → Prop) : Cx := { X.blk s H scope cenv fp with xe := xe }
/-- out of the block: what the block lets out is taken by the def -/
theorem leaves {pins : List (Addr × Obj)} {σ : L2.St} {H3 : Hp} {s3 : Shared} {scope : Scope} {ce : PySem.Env} {fp : List Addr} {xe : Value → Shared → Prop} {use : Option (Value → Sem Unit)} {Qf : Value → Shared → Prop} {acc : Value}
    (hs : X.stack = X.env :: X.outer) (hf : X.env.frame = some X.env.locals) (tk : Takes X W) (I3 : Inv X pins σ H3 s3) (hfp : ∀ b ∈ fp, FpOk X pins H3 b) (hC : ce.locals = s3.heap.objs.size) (hce : ce.frame = X.env.frame) {u : Value} {s' : Shared}
    (x : XE (blkX X s3 H3 scope ce fp xe) (fun c d _ H4 => W c d σ H4) u s') : notedBy (model X.prog X.w) X.A ce (fun e s2 => compEnds (model X.prog X.w) X.A X.xe use Qf acc ce (.error e) s2) u s' := by
  obtain ⟨a, B, sI, pins', σ', H', cls, d, rfl, J, nb, up, sky, na, os, ag, w⟩ := x
  show wpAny (model X.prog X.w) X.A (noteFrame (.ref a) ce) _ _ s'
  rw [note_same hce]
  have sky : Sky B X.stack a (Zc cls d) ce.locals s'.heap := sky
  have nb : ∀ b o, sI.heap.get? b = some o → b ∉ frs X.stack → B.get? b = some o := nb
  rw [hs] at sky
  refine note_sky Zc.steady (by rw [I3.ok.frames, hs]) hf sky fun h1 hh up1 => ?_
  rw [← hs] at hh
  generalize hCd : ce.locals = C at *
  have nC : ∀ {b : Addr} {o : Obj}, s3.heap.get? b = some o → b ≠ C := fun {b o} g z => by
    rw [z, hC] at g
    exact absurd (Heap.lt_size g) (Nat.lt_irrefl _)
  have fC : ∀ L ∈ frs X.stack, L ≠ C := fun L hL => by
    obtain ⟨_, o, g, _⟩ := I3.stack.mem hL
    exact nC g
  obtain ⟨mC, hn, _⟩ := J.loc
  have hn : sI.heap.Ns C mC := by rw [← hCd]; exact hn
  have hn1 := ns_up hn (up.trans up1)
  have fails : CompFails (model X.prog X.w) X.A X.xe ce (.ref a) { s' with heap := h1 } := by
    refine ⟨mC, by rw [hCd]; exact hn1, fun h2 m2 hn2 sb => ?_⟩
    rw [hCd] at hn2 sb
    have dC : ∀ {b : Addr} {o : Obj} {vs : Array Value}, h1.get? b = some o → o.data = .fields vs → b ≠ C := fun {b o vs} g d z => by
      obtain ⟨oC, es, ep, gC, dd, _⟩ := hn1
      rw [z, gC] at g
      cases g
      rw [dd] at d
      cases d
    obtain ⟨y1, y2, y3, oa, va, T, oT, tv, ga, za, da, a1, nT, ne, gT, dT, t3⟩ := hh
    have ga2 : h2.get? a = some oa := (sb.2 a (dC ga da)).trans ga
    have hd : ∀ b o, (PySem.W.hideAll B [C]).get? b = some o → b ≠ C ∧ B.get? b = some o := fun b o g => ⟨(fun z => by rw [z, PySem.W.hideAll_none _ List.mem_cons_self] at g; cases g), PySem.W.of_hideAll _ g⟩
    have no : ∀ {b : Addr}, B.get? b = none → (PySem.W.hideAll B [C]).get? b = none := fun {b} n => by
      cases q : (PySem.W.hideAll B [C]).get? b with
      | none => rfl
      | some o => rw [(hd b o q).2] at n; cases n
    have held : HandSPX.HeldZ (PySem.W.hideAll B [C]) X.stack a (Zc cls d) X.env.locals h2 := ⟨fun b o g => (sb.2 b (hd b o g).1).trans (y1 b o (hd b o g).2), no y2, frames_but y3 fC sb,
      oa, va, T, oT, tv, ga2, za, da, a1, no nT, ne, (sb.2 T (dC gT dT)).trans gT, dT, t3⟩
    unfold PySem.passOn
    have nn : ¬ ((Value.ref T == Value.none) = true) := by simp
    have last : wpAny (model X.prog X.w) X.A (setFlight (.ref a) ce.frame) (fun _ s4 => wpAny (model X.prog X.w) X.A (throw (.ref a) : Sem Value) (fun _ _ => False) X.xe s4) X.xe { s' with heap := h2 } := by
      rw [hce, hf]
      refine HandSPX.setFlight_onZ (s := { s' with heap := h2 }) held fun h4 hh4 up4 => wpAny_throw (tk _ _ ⟨a, _, { sI with heap := PySem.W.hideAll sI.heap [C] }, pins, σ, H', cls, d, rfl, ?_, fun b o g hb => ?_, fun b o g n => ?_, .inr (.inr hh4), na, os, ag, w⟩)
      · have JB : Un (frs X.stack) fp H3 H' s3.heap sI.heap := J.base
        have hid : ∀ {b : Addr} {o : Obj}, sI.heap.get? b = some o → b ≠ C → (PySem.W.hideAll sI.heap [C]).get? b = some o := fun {b o} g n => PySem.W.hideAll_get _ g fun z => n (List.mem_singleton.mp z)
        have free : H' C = none := by rw [← hCd]; exact J.free
        refine I3.call' (ch := fp) (s' := { sI with heap := PySem.W.hideAll sI.heap [C] }) J.os ⟨fun b o g n hb hc => hid (JB.keep b o g n hb hc) (nC g), fun b o g n hb hc => ?_, JB.free, fun b o g hc => ?_, JB.tups, JB.frzs, JB.tbls⟩ (fun b o q => ?_) J.bare fun b hb => ⟨(hfp b hb).2.2.2.1, (hfp b hb).2.1, (hfp b hb).2.2.2.2.1, (hfp b hb).2.2.2.2.2⟩
        · obtain ⟨sl, g1⟩ := JB.slot b o g n hb hc
          exact ⟨sl, hid g1 (nC g)⟩
        · obtain ⟨o', g1⟩ := JB.there b o g hc
          exact ⟨o', hid g1 (nC g)⟩
        · refine (J.hok b o q).stay (fun c u hc r => hid r fun z => ?_) (fun _ r => r) fun _ _ r => r
          rw [z] at hc
          rcases hc with hc | hc
          · rw [← hc, free] at q; cases q
          · rw [free] at hc; cases hc
      · have g0 := PySem.W.of_hideAll _ g
        have bC : b ≠ C := fun z => by rw [z, PySem.W.hideAll_none _ List.mem_cons_self] at g; cases g
        exact PySem.W.hideAll_get _ (nb b o g0 hb) fun z => bC (List.mem_singleton.mp z)
      · have g0 := PySem.W.of_hideAll _ g
        have bC : b ≠ C := fun z => by rw [z, PySem.W.hideAll_none _ List.mem_cons_self] at g; cases g
        obtain ⟨sl1, g1⟩ := (up.trans up1) b o g0 n
        obtain ⟨sl2, g2⟩ := up4 b _ ((sb.2 b bC).trans g1) n
        exact ⟨sl2, g2⟩
    refine wpAny_bind (wpAny_field ga2 da a1 ?_)
    rw [if_neg nn]
    first
      | exact wpAny_bind last
      | exact wpAny_bind (wpAny_pure (wpAny_bind last))
  cases use with
  | none => exact fails
  | some f => exact fails
end
end LcX

/-! list comprehensions whose thing may raise, as values, stored under a name; as mirrors -/
namespace LcX
open PySem PySem.Spec PyProof.Rows L2
section
variable {X : Cx} {W : WX} {elt tg iter : Expr} {ifs : List Expr} {scope : Scope} {own : List (Str × Nat)} {pos spos py : Pos} {wi : TI} {g : TG} {tt : TT} {te : WX → TE} {y : Str} {i : Nat}
end
end LcX
namespace Mir
open PySem PySem.Spec PyProof.Rows L2
def lcFX (t : TP) (tt : Env → M Bool) (fe : EF) : List PV → Env → M (List PV)
  | [], _ => ret []
  | x :: xs, env => bnd (ofO (t x env)) fun env1 => bnd (noex (tt env1)) fun b => if b = true then bnd (fe env1) fun y => bnd (lcFX t tt fe xs env) fun ys => ret (y :: ys) else lcFX t tt fe xs env
def eLcX (vs : List Nat) (fi : AF) (t : TP) (tt : Env → M Bool) (fe : EF) : EF := fun env => bnd (fi env) fun xs => if xs.length ≤ 16777216 ∧ noOw env vs = true then bnd (lcFX t tt fe xs (wipeE env vs)) fun ys => ret (.lst ys) else fail
section
variable {X : Cx} {W : WX} {pos : Pos} {elt tg iter : Expr} {ifs : List Expr} {scope : Scope} {own : List (Str × Nat)} {j : Nat} {fs : AF} {t : TP} {sl : List Nat} {tt : Env → M Bool} {fe : EF} {bo : Bool}
theorem Ct.blkX (T : Ct X W j) {W1 : WX} (s : Shared) (H : Hp) (scope : Scope) (cenv : L2.Cx → PySem.Env) (fp : List Addr) {xe : Value → Shared → Prop} (tk : Takes (LcX.blkX X s H scope (cenv X) fp xe) W1) (po : PassesOwn (model X.prog X.w) X.A (cenv X) xe) : Ct (LcX.blkX X s H scope (cenv X) fp xe) W1 j :=
  ⟨T.nd, T.hr, tk, po, T.calm⟩
/-! run forward -/
theorem w_lcX {vs : List Nat} {fi : AF} {t : TP} {tt : Env → M Bool} {fe : EF} {env : Env} {r : RS} {K : PV → RS → Prop} {E : Exn → RS → Prop}
    (h : wpM (fi env r) (fun xs r' => (xs.length ≤ 16777216 ∧ noOw env vs = true) ∧ wpM (lcFX t tt fe xs (wipeE env vs) r') (fun ys r2 => K (.lst ys) r2) E) E) : wpM (eLcX vs fi t tt fe env r) K E :=
  w_bnd (wpM_mono h (fun xs r1 ⟨h1, h2⟩ => w_pos h1 (w_bnd h2)) fun _ _ z => z)
end
end Mir

/-! xs[i] += e, xs the frame's own list, whole numbers -/
namespace Mir
open PySem PySem.Spec PyProof.Rows L2
section
variable {X : Cx} {W : WX} {k ka kb : Kd} {pos p1 p2 : Pos} {a b e : Expr} {fi fv : EF} {x : Str}
def sAugIx (i : Nat) (fi fv : EF) : Env → M Fl := fun env => bnd (owL env i) fun xs => bnd (fi env) fun k => bnd (toI k) fun n => if 0 ≤ n then bnd (ofO xs[n.toNat]?) fun x => bnd (fv env) fun y => bnd (ofO (gInt hAdd x y)) fun z => ret (.nx (env.set i (.ow (.lst (xs.set n.toNat z))))) else fail
/-! run forward -/
theorem w_augIx {i : Nat} {xs : List PV} {env : Env} {r : RS} {K : Fl → RS → Prop} {E : Exn → RS → Prop} (e : env[i]? = some (.ow (.lst xs)))
    (h : wpM (fi env r) (fun k r1 => ∃ n, k = .int n ∧ 0 ≤ n ∧ ∃ x, xs[n.toNat]? = some x ∧ wpM (fv env r1) (fun y r2 => ∃ z, gInt hAdd x y = some z ∧ K (.nx (env.set i (.ow (.lst (xs.set n.toNat z))))) r2) E) E) : wpM (sAugIx i fi fv env r) K E := by
  have o : owL env i = ret xs := by unfold owL; rw [e]
  refine w_bnd (w_eq o (w_bnd (wpM_mono h (fun k r1 ⟨n, h1, h2, x, h3, h4⟩ => ?_) fun _ _ z => z)))
  subst h1
  refine w_bnd (w_pos h2 (w_bnd (w_ofO ⟨x, h3, w_bnd (wpM_mono h4 (fun y r2 ⟨z, h5, h6⟩ => w_bnd (w_ofO ⟨z, h5, h6⟩)) fun _ _ z => z)⟩)))
end
end Mir

/-! try: body; except S as e: t = e: the exception is a value from there on -/
namespace Mir
open PySem PySem.Spec PyProof.Rows L2
section
variable {X : Cx} {pins : List (Addr × Obj)} {σ : L2.St} {H : Hp} {s : Shared}
end
section
variable {X : Cx} {pins : List (Addr × Obj)} {σ : L2.St} {H : Hp} {cls : Value} {d : Option Addr} {a : Addr} {B : Heap} {sI s : Shared} {W : WX} {D : Ends}
end
end Mir

/-! exceptions as values: caught, told apart, read -/
namespace Mir
open PySem PySem.Spec PyProof.Rows L2
/-- the program's exception classes ns, at cl, and the fields fl of their instances -/
structure XVal (K : PySem.W.Frag) (mg : Str → Option Value) (cl : Str → Addr) (ns fl : List Str) : Prop where
  cls : ∀ x ∈ ns, mg x = some (.ref (cl x)) ∧ ExcC K (cl x) ∧ XfC K (cl x) ∧ ∀ f ∈ fl, PySem.W.findIn K (.ref (cl x)) f = some none
  isa : ∀ x ∈ ns, ∀ y ∈ ns, PySem.W.kitOne K (.ref (cl x)) (.ref (cl y)) = some (decide (x = y))
  val : ∀ x ∈ ns, PySem.W.kitOne K (.ref (cl x)) (.type "ValueError") = some true
section
variable {X : Cx} {W : WX} {cl : Str → Addr} {ns fl : List Str} {a : Expr} {fa : EF} {y f : Str} {pos p p2 : Pos}
end
/-! ### caught -/
section
variable {X : Cx} {W : WX} {cl : Str → Addr} {S : Str} {ns fl : List Str} {i t j : Nat} {pos pos' p p1 np tp spos : Pos} {n tn : Str} {f : Env → M Fl} {s : Addr}
end
end Mir

/-! instances of a class of the text that nobody changes any more: made, read, their methods -/
namespace Mir
open PySem PySem.Spec PyProof.Rows L2
/-! ### a field -/
def gFld (C : Addr) (f : Str) : PV → Option PV
  | .obj D ns xs => if D = C then (ns.zip xs).lookup f else none
  | _ => none
theorem zip_lookup {ρ : Rw} {G : Hp} {f : Str} {x : PV} : ∀ {ns : List Str} {xs : List PV} {vs : List V}, RepL ρ G xs vs → (ns.zip xs).lookup f = some x → ∃ v, (ns.zip vs).lookup f = some v ∧ Rep ρ G x v
  | [], xs, vs, _, h => by simp at h
  | n :: ns, [], vs, _, h => by simp at h
  | n :: ns, y :: xs, vs, r, h => by
    unfold RepL at r
    obtain ⟨v, w, rfl, a, b⟩ := r
    rw [List.zip_cons_cons, List.lookup_cons] at h ⊢
    cases q : f == n with
    | true => rw [q] at h; cases h; exact ⟨v, rfl, a⟩
    | false => rw [q] at h; exact zip_lookup b h
section
variable {X : Cx} {W : WX} {C : Addr} {a : Expr} {fa : EF} {f : Str} {pos p apos : Pos} {j j' n : Nat} {k : Kd}
theorem me_fld (c : Cls X.K C) (hn : NoAttr X.K C f) (ha : ME X W a fa) (hb : attributeBase a f X.env (eval a X.env) = eval a X.env := by rfl) : ME X W (.Attribute a f pos) (eOp1 (gFld C f) fa) := pe_imp (pe_fld ha hb) fun σ H Q q => by
  obtain ⟨ρ, F, B, env, ad, r, m, w⟩ := q
  refine ⟨ρ, F, B, env, ad, r, m, wpM_mono (wpM_bnd w) (fun x r1 w1 v1 H1 e1 o1 h1 => ?_) fun _ _ z => z⟩
  obtain ⟨pc, hg, w4⟩ := ofO_some w1
  unfold gFld at hg
  split at hg
  · rename_i D ns xs
    split at hg
    · rename_i e
      subst e
      have h1 : Rep ρ (Hx H1 (Ex F env ad)) (.obj D ns xs) v1 := h1
      unfold Rep at h1
      obtain ⟨b, dx, vs, rfl, g, l⟩ := h1
      obtain ⟨v, hv, rv⟩ := zip_lookup l hg
      exact ⟨b, D, dx, _, v, rfl, (Hx_some g).2, c, hn, hv, w4 v H1 e1 o1 rv⟩
    · cases hg
  · cases hg
end
/-! ### a method -/
/-- a method of the class at C that keeps its mirror -/
structure MtM (P : Program) (w : World) (K : PySem.W.Frag) (mg : Str → Option Value) (base : Heap) (k : Nat) (C : Addr) (x : Str) (n : Nat) (m : List PV → M PV) : Prop where
  ex : ∃ f fd ps, FnOk P w K mg base (L2.CX P w) k f fd ps (spM mg n m) ∧ Meth K C x f ∧ Binds K fd ps []
section
variable {X : Cx} {W : WX} {C : Addr} {a e : Expr} {es : List Expr} {fa : EF} {fs : AF} {x : Str} {pos p apos : Pos} {j j' n : Nat} {k : Kd} {m : List PV → M PV}
end
end Mir

/-! C(k, l): an __init__ of two tests and two fields -/
namespace Mir
open PySem PySem.Spec PyProof.Rows L2
/-- what the __init__ lays: two fields -/
def spD (C : Addr) (n1 n2 : Str) (n : Nat) (mi : List PV → M (PV × PV)) : Sp := fun vs H Q E => ∃ (ρ : Rw) (F : Addr → Prop) (r : RS) (x dx : Addr) (xs : List PV) (us : List V), vs = .ref x :: us ∧ x ≠ ρ.a ∧ F ρ.a ∧ (∀ b, F b → NT (H b)) ∧ RowAt ρ H r ∧ H x = some (.ins C dx []) ∧ xs.length = n ∧ RepL ρ (Hx H fun b => F b ∨ b = x) xs us ∧
  wpM (mi xs r) (fun z r' => ∀ v1 v2 H', (∀ b o, H b = some o → b ≠ ρ.a → b ≠ x → H' b = some o) → RowAt ρ H' r' → H' x = some (.ins C dx [(n1, v1), (n2, v2)]) → Rep ρ (Hx H' fun b => F b ∨ b = x) z.1 v1 → Rep ρ (Hx H' fun b => F b ∨ b = x) z.2 v2 → Q .non H')
    (fun _ _ => False)
def miOf (g1 g2 h3 h4 : EF) (nn : Nat) (s : PV) (xs : List PV) : M (PV × PV) :=
  let env := (s :: xs).map Slot.sh ++ List.replicate (nn - (xs.length + 1)) Slot.no
  bnd (g1 env) fun _ => bnd (g2 env) fun _ => bnd (h3 env) fun a => bnd (h4 env) fun b => ret (a, b)
section
variable {ρ : Rw} {F : Addr → Prop} {B B' H : Hp} {r : RS} {σ : L2.St} {env : Env} {ad : Nat → Addr}
theorem Fm.base (m : Fm ρ F B H r σ env ad) (h : ∀ b o, B' b = some o → B b = some o) (hl : B' ρ.ls ≠ none) : Fm ρ F B' H r σ env ad where
  row := m.row
  hρ := m.hρ
  dom := m.dom
  ext := fun b o q n => m.ext b o (h b o q) n
  lsB := hl
  len := m.len
  sh := m.sh
  ow := fun i x e => by
    obtain ⟨a, b, c, d⟩ := m.ow i x e
    refine ⟨a, ⟨?_, b.2⟩, c, d⟩
    cases q : B' (ad i) with
    | none => rfl
    | some o => rw [h _ _ q] at b; exact absurd b.1 (by simp)
  inj := m.inj
theorem ex_sh {s : List PV} {n : Nat} {b : Addr} : Ex F (s.map Slot.sh ++ List.replicate n Slot.no) ad b ↔ F b := by
  refine ⟨fun z => ?_, fun z => .inl z⟩
  rcases z with z | ⟨i, x, e, _⟩
  · exact z
  · exfalso
    by_cases hi : i < s.length
    · rw [List.getElem?_append_left (by simpa using hi), List.getElem?_map, List.getElem?_eq_getElem hi] at e
      cases e
    · rw [List.getElem?_append_right (by simpa using Nat.le_of_not_lt hi), List.getElem?_replicate] at e
      split at e <;> cases e
end
section
variable {P : Program} {w : World} {K : PySem.W.Frag} {mg : Str → Option Value} {base : Heap}
end
/-! ### the making -/
/-- a class whose __init__ keeps its mirror -/
structure MkM (P : Program) (w : World) (K : PySem.W.Frag) (mg : Str → Option Value) (base : Heap) (k : Nat) (x : Str) (C : Addr) (n1 n2 : Str) (n : Nat) (mi : List PV → M (PV × PV)) : Prop where
  ex : ∃ f fd ps, FnOk P w K mg base (L2.CX P w) k f fd ps (spD C n1 n2 n mi) ∧ mg x = some (.ref C) ∧ Mk K C f ∧ Binds K fd ps []
def mkO (C : Addr) (n1 n2 : Str) (n : Nat) (mi : List PV → M (PV × PV)) (xs : List PV) : M PV := fun r => if xs.length = n then match mi xs r with
  | .ok z r' => .ok (.obj C [n1, n2] [z.1, z.2]) r'
  | _ => .bad
  else .bad
def eMake (C : Addr) (n1 n2 : Str) (n : Nat) (mi : List PV → M (PV × PV)) (fs : AF) : EF := fun env => bnd (fs env) (mkO C n1 n2 n mi)
section
variable {X : Cx} {W : WX} {C : Addr} {e : Expr} {es : List Expr} {fs : AF} {x n1 n2 : Str} {pos p : Pos} {j j' n : Nat} {mi : List PV → M (PV × PV)}
end
end Mir

/-! {i: k, ..}[x], whole numbers; a method of the text; what is not walked -/
namespace Mir
open PySem PySem.Spec PyProof.Rows L2
section
variable {X : Cx} {W : WX} {b : Expr} {fb : EF} {pos pos2 p1 p2 p3 p4 p5 p6 : Pos}
end
section
variable {P : Program} {w : World} {K : PySem.W.Frag} {mg : Str → Option Value} {base : Heap}
end
end Mir

/-! what a text's head says of its classes -/
namespace Mir
open PySem PySem.Spec PyProof.Rows L2
def clF (l : List (Str × Addr)) (d : Addr) (x : Str) : Addr := match l.lookup x with
  | some a => a
  | none => d
/-- the classes' places are apart -/
def ClOk (cl : Str → Addr) (ns : List Str) : Prop := ∀ x ∈ ns, ∀ y ∈ ns, cl x = cl y → x = y
theorem XVal.inj {K : PySem.W.Frag} {mg : Str → Option Value} {cl : Str → Addr} {ns fl : List Str} (V : XVal K mg cl ns fl) : ClOk cl ns := fun x hx y hy e => by
  have h1 := V.isa x hx y hy
  rw [← e, V.isa x hx x hx] at h1
  by_cases q : x = y
  · exact q
  · rw [decide_eq_true rfl, decide_eq_false q] at h1; cases h1
end Mir

/-! x not in t, t a tuple of data of any depth -/
namespace Mir
open PySem PySem.Spec PyProof.Rows L2
section
variable {X : Cx}
theorem op_notInDT (hu : X.A.units + 65 < cLine) : OpR X (compareOp .NotIn) (fun x y H Q => ∃ d ds, Dp X.K H x d ∧ Dp X.K H y (.tuple ds) ∧ SeqAt.shaped d = true ∧ SeqAt.shaped (.tuple ds) = true ∧ Q (.bl (!ds.any fun z => PyData.eqv z d)) H) := by
  intro pins s σ H x y v u Q I rx ry h
  obtain ⟨d, ds, hd, he, sd, se, q⟩ := h
  obtain ⟨as, r1⟩ := Dp.reads I d x v hd rx
  obtain ⟨bs, r2⟩ := Dp.reads I (.tuple ds) y u he ry
  exact SeqAt.notIn_tuple_reads r2 r1 (SeqAt.canLay_of_shaped se) (SeqAt.canLay_of_shaped sd) (room_in_shaped sd hu) ⟨.bl _, H, I, rfl, q⟩
def gNinTT : PV → PV → Option PV
  | x, .tup ys => if (dt 7 x && ys.all (dt 7)) = true then some (.bl (!ys.any fun y => pq 7 y x)) else none
  | _, _ => none
theorem oNinTT (hu : X.A.units + 65 < cLine) : Op2 X (compareOp .NotIn) gNinTT := .of (op_notInDT hu) fun x y H Q ρ S pa pb pc hρ hS ha hb hg k => by
  unfold gNinTT at hg
  split at hg
  · rename_i ys
    split at hg
    · rename_i c
      cases hg
      rw [Bool.and_eq_true] at c
      refine ⟨tD 7 pa, ys.map (tD 7), dp_of 7 _ _ c.1 (hb_full ha), dp_of 8 (.tup ys) _ c.2 (hb_full hb), td_shaped7 (hb_full ha), td_shaped (x := .tup ys) (hb_full hb), ?_⟩
      rw [← any_pq c.1 ys c.2]
      exact k _ _ (Same.refl _) (Flat.bl _ _ _)
    · cases hg
  · cases hg
end
end Mir

/-! o.f, f a property that does not raise -/
namespace Mir
open PySem PySem.Spec PyProof.Rows L2
structure PrM (P : Program) (w : World) (K : PySem.W.Frag) (mg : Str → Option Value) (base : Heap) (k : Nat) (C : Addr) (x : Str) (m : List PV → M PV) : Prop where
  ex : ∃ f fd ps p, FnOk P w K mg base (L2.CX P w) k f fd ps (spM mg 1 m) ∧ PropOf K C x p f ∧ Binds K fd ps []
def noX (m : List PV → M PV) (o : PV) : M PV := fun r => match m [o] r with
  | .ok v r' => .ok v r'
  | _ => .bad
def isObjC (C : Addr) : PV → Bool
  | .obj D _ _ => decide (D = C)
  | _ => false
def eProp (C : Addr) (m : List PV → M PV) (fo : EF) : EF := fun env => bnd (fo env) fun o => if isObjC C o = true then noX m o else fail
theorem isObjC_of {C : Addr} {o : PV} (h : isObjC C o = true) : ∃ ns xs, o = .obj C ns xs := by
  cases o with
  | obj D ns xs => exact ⟨ns, xs, by rw [of_decide_eq_true (show decide (D = C) = true from h)]⟩
  | _ => cases h
section
variable {X : Cx} {W : WX} {C : Addr} {a : Expr} {fa : EF} {x : Str} {pos : Pos} {j j' : Nat} {m : List PV → M PV}
theorem me_prop (T : Ct X W j) (c : Cls X.K C) (F : PrM X.prog X.w X.K X.mg X.base j' C x m) (hj : j' + 1 ≤ j) (ha : ME X W a fa) (hb : attributeBase a x X.env (eval a X.env) = eval a X.env := by rfl) : ME X W (.Attribute a x pos) (eProp C m fa) := by
  obtain ⟨f, fd, ps, p, G, hp, hbd⟩ := F.ex
  refine pe_imp (pe_prop (dvs := []) (ds := []) (E := fun _ _ _ => False) ha c hp G (T.hr.mono hj) hbd .nil (fun _ _ _ _ _ _ _ z => (cxNo z).elim) hb) fun σ H Q q => ?_
  obtain ⟨ρ, F', B, env, ad, r, mm, w⟩ := q
  refine ⟨ρ, F', B, env, ad, r, mm, wpM_mono (wpM_bnd w) (fun o r1 w1 v H1 e1 o1 h1 => ?_) fun _ _ z => z⟩
  have m1 := mm.step e1 o1
  obtain ⟨hi, w2⟩ := wpM_ite w1
  obtain ⟨ns, xs, rfl⟩ := isObjC_of hi
  have h1 : Rep ρ (Hx H1 (Ex F' env ad)) (.obj C ns xs) v := h1
  have h1' := h1
  unfold Rep at h1'
  obtain ⟨b, dx, vs, rfl, g, l⟩ := h1'
  refine ⟨b, dx, _, rfl, (Hx_some g).2, ρ, Ex F' env ad, [.obj C ns xs], r1, m1.exρ, fun b => m1.nt, o1, .cons h1 .nil, ?_⟩
  have w3 : wpM (match m [.obj C ns xs] r1 with | .ok v r' => .ok v r' | _ => Out.bad) _ _ := w2
  have ec : callN 1 m [PV.obj C ns xs] = m [PV.obj C ns xs] := if_pos rfl
  rw [ec]
  cases q : m [.obj C ns xs] r1 with
  | bad => rw [q] at w3; exact w3.elim
  | ex e r' => rw [q] at w3; exact w3.elim
  | ok y r2 =>
    rw [q] at w3
    exact fun v' H2 e2 o2 h2 => w3 v' H2 (e1.trans e2) o2 h2
end
end Mir

/-! results that are new: no list of them is an old one -/
namespace Mir
open PySem PySem.Spec PyProof.Rows L2
/-! ### defs that give back a new list -/
def spMF (mg : Str → Option Value) (n : Nat) (m : List PV → M PV) : Sp := fun vs H Q E => ∃ ρ F xs r, F ρ.a ∧ (∀ b, F b → NT (H b)) ∧ RowAt ρ H r ∧ RepL ρ (Hx H F) xs vs ∧
  wpM (callN n m xs r) (fun x r' => ∀ v H', Ext ρ H H' → RowAt ρ H' r' → Rep ρ (Hx H' F) x v → (∃ a, v = .ref a ∧ H a = none) → Q v H') (fun e r' => ∀ C d H', Ext ρ H H' → RowAt ρ H' r' → ExR mg H' C d e → E C d H')
structure FnMF (P : Program) (w : World) (K : PySem.W.Frag) (mg : Str → Option Value) (base : Heap) (k : Nat) (x : Str) (n : Nat) (m : List PV → M PV) : Prop where
  ex : ∃ f fd ps, FnOk P w K mg base (L2.CX P w) k f fd ps (spMF mg n m) ∧ mg x = some (.ref f) ∧ PySem.W.keepIn K (.ref f) = true ∧ Binds K fd ps []
section
variable {X : Cx} {W : WX} {k : Kd} {pos p : Pos} {e : Expr} {es : List Expr} {j j' n i : Nat} {x : Str} {st : Stmt} {rest : List Stmt} {f g : Env → M Fl} {fa : EF} {fs : AF} {m : List PV → M PV}
end
section
variable {P : Program} {w : World} {K : PySem.W.Frag} {mg : Str → Option Value} {base : Heap}
end

/-! ### expressions whose value is new -/
def eFrL (f : EF) : EF := fun env => bnd (f env) frL
def tpV : PV → M PV := fun x => if tpO x = true then ret x else fail
def eTp (f : EF) : EF := fun env => bnd (f env) tpV
def eCallN (n : Nat) (m : List PV → M PV) (fs : AF) : EF := fun env => bnd (fs env) fun xs => if tpL xs = true then callN n m xs else fail
section
variable {X : Cx} {W : WX} {k ka kb : Kd} {pos p : Pos} {e a b : Expr} {es : List Expr} {j j' n i : Nat} {x : Str} {fa fb : EF} {fs : AF} {m : List PV → M PV}
end
/-! a property that gives back a new list -/
structure PrMF (P : Program) (w : World) (K : PySem.W.Frag) (mg : Str → Option Value) (base : Heap) (k : Nat) (C : Addr) (x : Str) (m : List PV → M PV) : Prop where
  ex : ∃ f fd ps p, FnOk P w K mg base (L2.CX P w) k f fd ps (spMF mg 1 m) ∧ PropOf K C x p f ∧ Binds K fd ps []
section
variable {X : Cx} {W : WX} {C : Addr} {a : Expr} {fa : EF} {x : Str} {pos : Pos} {j j' : Nat} {m : List PV → M PV}
end
end Mir

/-! a def whose whole answer is new: names that hold new things -/
namespace Mir
open PySem PySem.Spec PyProof.Rows L2
/-- N: what is old; the names of nw hold things of which no list is old -/
structure Fw (ρ : Rw) (F : Addr → Prop) (B H : Hp) (r : RS) (σ : L2.St) (env : Env) (ad : Nat → Addr) (nw : List Nat) : Prop where
  fm : Fm ρ F B H r σ env ad
  row0 : NT (B ρ.a)
  domB : ∀ b, F b → NT (B b)
  noO : ∀ (i : Nat) y, env[i]? ≠ some (.ow y)
  new : ∀ i ∈ nw, ∀ x, env[i]? = some (.sh x) → ∃ v, σ[i]? = some (some v) ∧ Rep ρ (Hx H fun b => NT (B b)) x v
section
variable {ρ : Rw} {F : Addr → Prop} {B H H' : Hp} {r r' : RS} {σ : L2.St} {env : Env} {ad : Nat → Addr} {nw : List Nat} {x : PV} {v : V}
theorem Fw.step (f : Fw ρ F B H r σ env ad nw) (e : Ext ρ H H') (w : RowAt ρ H' r') : Fw ρ F B H' r' σ env ad nw where
  fm := f.fm.step e w
  row0 := f.row0
  domB := f.domB
  noO := f.noO
  new := fun i hi x q => let ⟨v, a, b⟩ := f.new i hi x q; ⟨v, a, b.mono (hx_ext f.row0 e)⟩
/-- new since H is new since B -/
theorem Fw.since (f : Fw ρ F B H r σ env ad nw) (h : Rep ρ (Hx H' fun b => NT (H b)) x v) : Rep ρ (Hx H' fun b => NT (B b)) x v := h.mono (hx_less fun b q => by
  by_cases y : b = ρ.a
  · subst y; exact f.fm.row.nt
  · cases hb : B b with
    | none => exact absurd hb q.1.1
    | some o => rw [f.fm.ext b o hb y, ← hb]; exact q)
theorem Fw.there (f : Fw ρ F B H r σ env ad nw) (w : RowAt ρ H r) {b : Addr} (q : NT (B b)) : H b ≠ none := fun z => by
  by_cases y : b = ρ.a
  · subst y; exact w.there z
  · cases hb : B b with
    | none => exact q.1.1 hb
    | some o => rw [f.fm.ext b o hb y] at z; cases z
end
def tEY (mg : Str → Option Value) (W : WX) (nw : List Nat) (f : EF) : TE := fun σ H Q => ∃ ρ F B env ad r, Fw ρ F B H r σ env ad nw ∧
  wpM (f env r) (fun x r' => ∀ v H', Ext ρ H H' → RowAt ρ H' r' → Rep ρ (Hx H' fun b => NT (B b)) x v → Q v H')
    (fun e r' => ∀ C d H', Ext ρ H H' → RowAt ρ H' r' → ExR mg H' C d e → W C d σ H')
abbrev MEY (X : Cx) (W : WX) (nw : List Nat) (e : Expr) (f : EF) : Prop := PE X e (tEY X.mg W nw f)
def tSY (mg : Str → Option Value) (W : WX) (nw nw' : List Nat) (f : Env → M Fl) : TS := fun D σ H => ∃ ρ F B env ad r, Fw ρ F B H r σ env ad nw ∧
  wpM (f env r) (fun fl r' => match fl with
      | .nx e => ∀ σ' H' ad', Fw ρ F B H' r' σ' e ad' nw' → D.nx σ' H'
      | .rt x => ∀ v H', Ext ρ B H' → RowAt ρ H' r' → Rep ρ (Hx H' fun b => NT (B b)) x v → D.rt v H'
      | _ => False)
    (fun e r' => ∀ C d σ' H', (∃ env' ad', Fm ρ F B H' r' σ' env' ad') → ExR mg H' C d e → W C d σ' H')
abbrev MSY (X : Cx) (W : WX) (nw nw' : List Nat) (st : Stmt) (f : Env → M Fl) : Prop := PS X st (tSY X.mg W nw nw' f)
section
variable {X : Cx} {W : WX} {nw nw' nw'' : List Nat} {pos pos' : Pos} {e a b : Expr} {es : List Expr} {j i : Nat} {x : Str} {st : Stmt} {rest : List Stmt} {fa fb : EF} {fs fr : AF} {f g : Env → M Fl}
theorem y_set (T : Ct X W j) (he : MEY X W nw e fa) (i : Nat) (hi : X.N[i]? = some x := by rfl) (hx : Loc X.env.scope x := by first | exact Or.inl rfl | exact Or.inr rfl) (hs : swapsWith e (some (.Name x pos')) pos.line X.env = pure false := by rfl)
    (hf : X.fn x = true ∨ X.env.scope.names.lookup x = some .local := by first | exact .inl rfl | exact .inr rfl) : MSY X W nw (i :: nw) (.Assign [.Name x pos'] e pos) (sSet i fa) := ps_imp (ps_set T.nd hi hx he hs hf) fun D σ H q => by
  obtain ⟨ρ, F, B, env, ad, r, m, w⟩ := q
  refine ⟨ρ, F, B, env, ad, r, m, wpM_mono (wpM_bnd w) (fun y r1 w1 v H1 e1 o1 h1 => ?_) fun ex r2 z C d H2 e2 o2 => z C d σ H2 ⟨env, ad, m.fm.step e2 o2⟩⟩
  obtain ⟨hi, w2⟩ := sPut_ok w1
  have m1 := m.step e1 o1
  have h1' : Rep ρ (Hx H1 (Ex F env ad)) y v := h1.mono fun b o q => by
    obtain ⟨q1, q2⟩ := Hx_some q
    have z : ¬ Ex F env ad b := fun z => by
      rcases z with z | ⟨l, y', e', _⟩
      · exact q1 (m.domB b z)
      · exact m.noO l y' e'
    rw [Hx_out z]; exact q2
  refine w2 _ H1 ad ⟨m1.fm.set hi h1', m.row0, m.domB, fun l y' q => ?_, fun l hl z q => ?_⟩
  · by_cases c : i = l
    · subst c
      rw [List.getElem?_set_self hi] at q
      cases q
    · rw [List.getElem?_set_ne c] at q
      exact m.noO l y' q
  by_cases c : i = l
  · subst c
    rw [List.getElem?_set_self hi] at q
    cases q
    exact ⟨v, List.getElem?_set_self (by rw [m.fm.len]; exact hi), h1⟩
  · rw [List.getElem?_set_ne c] at q ⊢
    rcases List.mem_cons.mp hl with y' | y'
    · exact absurd y'.symm c
    · exact m1.new l y' z q
end
/-- what a def promises whose whole answer is new -/
def spY (mg : Str → Option Value) (n : Nat) (m : List PV → M PV) : Sp := fun vs H Q E => ∃ ρ F xs r, F ρ.a ∧ (∀ b, F b → NT (H b)) ∧ RowAt ρ H r ∧ RepL ρ (Hx H F) xs vs ∧
  wpM (callN n m xs r) (fun x r' => ∀ v H', Ext ρ H H' → RowAt ρ H' r' → Rep ρ (Hx H' fun b => NT (H b)) x v → Q v H') (fun e r' => ∀ C d H', Ext ρ H H' → RowAt ρ H' r' → ExR mg H' C d e → E C d H')
structure FnY (P : Program) (w : World) (K : PySem.W.Frag) (mg : Str → Option Value) (base : Heap) (k : Nat) (x : Str) (n : Nat) (m : List PV → M PV) : Prop where
  ex : ∃ f fd ps, FnOk P w K mg base (L2.CX P w) k f fd ps (spY mg n m) ∧ mg x = some (.ref f) ∧ PySem.W.keepIn K (.ref f) = true ∧ Binds K fd ps []
section
variable {P : Program} {w : World} {K : PySem.W.Frag} {mg : Str → Option Value} {base : Heap}
end
end Mir

/-! asked, asked again, the first answers spoilt, other things asked, asked again (k19) -/
namespace Mir
open PySem PySem.Spec PyProof.Rows L2
def ans19 (Ls : List (List PV)) (Rs : List PV) : PV := .lst [.lst (Ls.map .lst), .lst Rs]
def env19 (kd cs : PV) (ls : List PV) (x6 x7 : Slot) : Env := [.no, .sh .row, .sh kd, .sh cs, .sh (.lst ls), .sh (.lst ls), x6, x7, .no]
structure G19 (ma : List PV → M PV) (env : Env) (kd cs : PV) (ls : List PV) (Ls : List (List PV)) (Rs : List PV) : Prop where
  env : env = env19 kd cs ls .no .no
  ma : ma [kd, .lst ls, cs] = ret (ans19 Ls Rs)
  tp : ∀ ys ∈ Ls, tpL ys = true ∧ ys.length ≤ 1000
  len : Ls.length ≤ 1000
  ne : gNe (ans19 Ls Rs) (ans19 Ls Rs) = some (.bl false)
  eq : gEq (ans19 Ls Rs) (ans19 Ls Rs) = some (.bl true)
  eq2 : gEq (.lst ls) (.lst ls) = some (.bl true)
theorem fm_at {ρ : Rw} {F : Addr → Prop} {H : Hp} {r : RS} {σ : L2.St} {env : Env} (w : RowAt ρ H r) (hρ : F ρ.a) (hF : ∀ b, F b → NT (H b)) (hl : σ.length = env.length) (no : ∀ (i : Nat) y, env[i]? ≠ some (.ow y))
    (sh : ∀ (i : Nat) x, env[i]? = some (.sh x) → ∃ v, σ[i]? = some (some v) ∧ Rep ρ (Hx H F) x v) : Fm ρ F H H r σ env (fun _ => 0) where
  row := w
  hρ := hρ
  dom := hF
  ext := Ext.refl _ _
  lsB := by rw [w.2.2.2]; exact fun z => nomatch z
  len := hl
  sh := fun i x e => by
    obtain ⟨v, a, b⟩ := sh i x e
    refine ⟨v, a, b.mono (hx_less fun c z => ?_)⟩
    rcases z with z | ⟨l, y, e', _⟩
    · exact z
    · exact absurd e' (no l y)
  ow := fun i x e => absurd e (no i x)
  inj := fun i j x y e => absurd e (no i x)
theorem ex_at {F : Addr → Prop} {env : Env} {ad : Nat → Addr} (no : ∀ (i : Nat) y, env[i]? ≠ some (.ow y)) {b : Addr} (h : Ex F env ad b) : F b := by
  rcases h with h | ⟨l, y, e, _⟩
  · exact h
  · exact absurd e (no l y)
section
variable {X : Cx} {W : WX} {pos p : Pos} {e : Expr} {es : List Expr} {j j' n : Nat} {x : Str} {m : List PV → M PV} {t : TA}
end
section
variable {X : Cx} {W : WX} {ma : List PV → M PV} {fs10 : AF} {s5 s6 s7 s8 s9 s10 s11 : Stmt}
end
end Mir
/-! forward rules -/
namespace Mir
open PySem PySem.Spec PyProof.Rows L2
section
variable {r : RS} {env : Env} {K : PV → RS → Prop} {E : Exn → RS → Prop} {fa : EF} {fs : AF} {n : Nat} {m : List PV → M PV}
theorem w_callN (h : wpM (fs env r) (fun xs r1 => tpL xs = true ∧ wpM (callN n m xs r1) K E) E) : wpM (eCallN n m fs env r) K E := w_bnd (wpM_mono h (fun xs r1 ⟨h1, h2⟩ => w_pos h1 h2) fun _ _ z => z)
theorem w_cn {xs : List PV} (h : xs.length = n ∧ wpM (m xs r) K E) : wpM (callN n m xs r) K E := by
  unfold callN
  exact w_pos h.1 h.2
theorem w_frL (h : wpM (fa env r) (fun x r1 => ∃ ys, x = .lst ys ∧ (tpL ys = true ∧ K x r1)) E) : wpM (eFrL fa env r) K E := w_bnd (wpM_mono h (fun x r1 ⟨ys, e, t, k⟩ => by
  subst e
  exact w_pos t k) fun _ _ z => z)
theorem w_tpv (h : wpM (fa env r) (fun x r1 => tpO x = true ∧ K x r1) E) : wpM (eTp fa env r) K E := w_bnd (wpM_mono h (fun x r1 ⟨t, k⟩ => w_pos t k) fun _ _ z => z)
theorem x_tpL {xs : List PV} {P : Prop} (h : tpL xs = true ∧ P) : tpL xs = true ∧ P := h
theorem x_tpO {x : PV} {P : Prop} (h : tpO x = true ∧ P) : tpO x = true ∧ P := h
theorem w_make {C : Addr} {n1 n2 : Str} {mi : List PV → M (PV × PV)} (h : wpM (fs env r) (fun xs r1 => xs.length = n ∧ ∃ z, mi xs = ret z ∧ K (.obj C [n1, n2] [z.1, z.2]) r1) E) : wpM (eMake C n1 n2 n mi fs env r) K E := w_bnd (wpM_mono h (fun xs r1 ⟨h1, z, h2, k⟩ => by
  show wpM (mkO C n1 n2 n mi xs r1) K E
  unfold mkO
  rw [if_pos h1, h2]
  exact k) fun _ _ z => z)
theorem w_prop {C : Addr} (h : wpM (fa env r) (fun o r1 => isObjC C o = true ∧ ∃ v, m [o] = ret v ∧ K v r1) E) : wpM (eProp C m fa env r) K E := w_bnd (wpM_mono h (fun o r1 ⟨h1, v, h2, k⟩ => by
  rw [if_pos h1]
  show wpM (noX m o r1) K E
  unfold noX
  rw [h2]
  exact k) fun _ _ z => z)
end
end Mir

/-! what a cascade looks like -/
namespace Mth
/-! the number of sets, by its product -/
end Mth

/-! lots by their places -/
namespace Mth
/-- the top of a number, down to nought -/
def topz (N k : Nat) : Nat := if 0 < N then top N k else k - 1
def topsD : Nat → Nat → List Nat
  | 0, _ => []
  | k + 1, N => topz N (k + 1) :: topsD k (N - ch (topz N (k + 1)) (k + 1))
def plD : List Nat → Nat
  | [] => 0
  | t :: r => ch t (r.length + 1) + plD r
abbrev Desc (ts : List Nat) : Prop := ts.Pairwise (fun a b => b < a)
theorem desc_ge : ∀ {t : Nat} {r : List Nat}, Desc (t :: r) → r.length ≤ t
  | t, [], _ => Nat.zero_le _
  | t, s :: r, h => by
    obtain ⟨a, b⟩ := List.pairwise_cons.mp h
    have := desc_ge b
    have := a s List.mem_cons_self
    rw [List.length_cons]
    omega
theorem plD_lt : ∀ {t : Nat} {r : List Nat}, Desc (t :: r) → plD r < ch t r.length
  | t, [], _ => by show 0 < ch t 0; rw [ch_0]; decide
  | t, s :: r, h => by
    obtain ⟨a, b⟩ := List.pairwise_cons.mp h
    have ih := plD_lt b
    have := a s List.mem_cons_self
    have m := ch_mono (r.length + 1) (show s + 1 ≤ t by omega)
    rw [ch_s] at m
    show ch s (r.length + 1) + plD r < ch t (r.length + 1)
    omega
theorem tops_uni : ∀ {ts : List Nat}, Desc ts → topsD ts.length (plD ts) = ts
  | [], _ => rfl
  | t :: r, h => by
    have lt := plD_lt h
    have ge := desc_ge h
    have e : topz (plD (t :: r)) (r.length + 1) = t := by
      have p : plD (t :: r) = ch t (r.length + 1) + plD r := rfl
      unfold topz
      by_cases q : 0 < plD (t :: r)
      · rw [if_pos q]
        refine top_spec (by omega) ?_
        rw [ch_s]
        omega
      · rw [if_neg q]
        rcases Nat.lt_or_ge r.length t with z | z
        · have := ch_pos (n := t) (k := r.length + 1) (by omega)
          omega
        · omega
    show topz (plD (t :: r)) (r.length + 1) :: topsD r.length _ = _
    have sb : plD (t :: r) - ch t (r.length + 1) = plD r := by
      show ch t (r.length + 1) + plD r - ch t (r.length + 1) = plD r
      exact Nat.add_sub_cancel_left ..
    rw [e, sb, tops_uni (List.pairwise_cons.mp h).2]
/-- from tops to things, and back -/
def lotD (m : Nat) : List Nat → List Nat
  | [] => []
  | t :: r => (t - m * r.length) :: lotD m r
def updD (m : Nat) : List Nat → List Nat
  | [] => []
  | x :: r => (x + m * r.length) :: updD m r
theorem updD_len (m : Nat) : ∀ l, (updD m l).length = l.length
  | [] => rfl
  | t :: r => by show (_ :: updD m r).length = _; rw [List.length_cons, updD_len m r]; rfl
theorem lotD_upd (m : Nat) : ∀ l, lotD m (updD m l) = l
  | [] => rfl
  | x :: r => by
    show (x + m * r.length - m * (updD m r).length) :: lotD m (updD m r) = _
    rw [updD_len, lotD_upd m r, Nat.add_sub_cancel]
/-- the place of an ascending lot, from the index i on -/
def plA (m : Nat) : Nat → List Nat → Nat
  | _, [] => 0
  | i, x :: r => ch (x + m * i) (i + 1) + plA m (i + 1) r
theorem plA_app (m : Nat) : ∀ (l : List Nat) (i x : Nat), plA m i (l ++ [x]) = plA m i l + ch (x + m * (i + l.length)) (i + l.length + 1)
  | [], i, x => by show ch (x + m * i) (i + 1) + 0 = 0 + ch (x + m * (i + 0)) (i + 0 + 1); rw [Nat.add_zero, Nat.zero_add]; rfl
  | y :: l, i, x => by
    show ch (y + m * i) (i + 1) + plA m (i + 1) (l ++ [x]) = ch (y + m * i) (i + 1) + plA m (i + 1) l + _
    rw [plA_app m l (i + 1) x, List.length_cons, show i + 1 + l.length = i + (l.length + 1) from by omega]
    omega
theorem plA_rev (m : Nat) : ∀ l, plA m 0 l.reverse = plD (updD m l)
  | [] => rfl
  | x :: r => by
    rw [List.reverse_cons, plA_app, plA_rev m r, List.length_reverse, Nat.zero_add]
    show _ = ch (x + m * r.length) ((updD m r).length + 1) + plD (updD m r)
    rw [updD_len]
    omega
/-- a lot: things that ascend, strictly for sets -/
abbrev Asc (m : Nat) (L : List Nat) : Prop := L.Pairwise (fun a b => a + (1 - m) ≤ b)
theorem upd_desc {m : Nat} (hm : m ≤ 1) : ∀ {l : List Nat}, l.Pairwise (fun a b => b + (1 - m) ≤ a) → Desc (updD m l)
  | [], _ => List.Pairwise.nil
  | x :: r, h => by
    obtain ⟨a, b⟩ := List.pairwise_cons.mp h
    refine List.Pairwise.cons (fun t ht => ?_) (upd_desc hm b)
    have key : ∀ (l : List Nat) (n : Nat), l.length ≤ n → (∀ y ∈ l, y + (1 - m) ≤ x) → ∀ t ∈ updD m l, t < x + m * n := by
      intro l
      induction l with
      | nil => intro n _ _ t ht; cases ht
      | cons y l ih =>
        intro n hn ha t ht
        rcases List.mem_cons.mp ht with q | q
        · have hy := ha y List.mem_cons_self
          rw [q]
          rw [List.length_cons] at hn
          rcases Nat.lt_or_ge 0 m with z | z
          · have : m = 1 := by omega
            subst this
            omega
          · have : m = 0 := by omega
            subst this
            omega
        · rw [List.length_cons] at hn
          exact ih n (by omega) (fun y hy => ha y (List.mem_cons_of_mem _ hy)) t q
    exact key r r.length (Nat.le_refl _) a t ht
/-- the lot at a place -/
def lotB (m k N : Nat) : List Nat := (lotD m (topsD k N)).reverse
theorem lotB_uni {m : Nat} (hm : m ≤ 1) {L : List Nat} (h : Asc m L) : lotB m L.length (plA m 0 L) = L := by
  have e : plA m 0 L = plD (updD m L.reverse) := by
    have := plA_rev m L.reverse
    rw [List.reverse_reverse] at this
    exact this
  have d : Desc (updD m L.reverse) := upd_desc hm (List.pairwise_reverse.mpr h)
  have u := tops_uni d
  rw [updD_len, List.length_reverse] at u
  unfold lotB
  rw [e, u, lotD_upd, List.reverse_reverse]
end Mth

/-! one instance that changes: its fields are a second state -/
namespace Mir
open PySem PySem.Spec PyProof.Rows L2
/-- the class, its two fields -/
structure Dk where
  C : Addr
  n1 : Str
  n2 : Str
abbrev DS := PV × PV
def Dk.obj (c : Dk) (s : DS) : PV := .obj c.C [c.n1, c.n2] [s.1, s.2]
def DsAt (c : Dk) (ρ : Rw) (H : Hp) (a : Addr) (s : DS) : Prop := ∃ dx v1 v2, H a = some (.ins c.C dx [(c.n1, v1), (c.n2, v2)]) ∧ Rep ρ (Hx H fun b => NT (H b)) s.1 v1 ∧ Rep ρ (Hx H fun b => NT (H b)) s.2 v2
/-- all but the row and the instance stay -/
def ExtA (ρ : Rw) (a : Addr) (H H' : Hp) : Prop := ∀ b o, H b = some o → b ≠ ρ.a → b ≠ a → H' b = some o
abbrev Ap (ρ : Rw) (a : Addr) : Addr → Prop := fun b => b = ρ.a ∨ b = a
section
variable {c : Dk} {ρ : Rw} {a : Addr} {B H H' H'' : Hp} {r r' : RS} {s s' : DS} {σ : L2.St} {env : Env} {di : Nat} {x : PV} {v : V}
theorem ExtA.refl : ExtA ρ a H H := fun _ _ h _ _ => h
theorem ExtA.trans (e : ExtA ρ a H H') (e' : ExtA ρ a H' H'') : ExtA ρ a H H'' := fun b o h n m => e' b o (e b o h n m) n m
theorem ExtA.of (e : Ext ρ H H') : ExtA ρ a H H' := fun b o h n _ => e b o h n
theorem nt_ins {C dx : Addr} {fs : List (Str × V)} (h : H a = some (.ins C dx fs)) : NT (H a) := by
  rw [h]; exact ⟨⟨(fun y => by cases y), fun xs y => by cases y⟩, fun xs y => by cases y⟩
theorem DsAt.nt (d : DsAt c ρ H a s) : NT (H a) := by
  obtain ⟨dx, v1, v2, h, _⟩ := d
  exact nt_ins h
theorem DsAt.mono (d : DsAt c ρ H a s) (ha : ∀ o, H a = some o → H' a = some o) (e : ∀ b o, H b = some o → ¬ NT (H b) → H' b = some o) : DsAt c ρ H' a s := by
  obtain ⟨dx, v1, v2, h, h1, h2⟩ := d
  have less : ∀ b o, Hx H (fun b => NT (H b)) b = some o → Hx H' (fun b => NT (H' b)) b = some o := fun b o q => by
    obtain ⟨q1, q2⟩ := Hx_some q
    have q3 := e b o q2 q1
    have q4 : ¬ NT (H' b) := by rw [q3, ← q2]; exact q1
    rw [Hx_out q4]; exact q3
  exact ⟨dx, v1, v2, ha _ h, h1.mono less, h2.mono less⟩
theorem DsAt.ext (d : DsAt c ρ H a s) (w : RowAt ρ H r) (n : a ≠ ρ.a) (e : Ext ρ H H') : DsAt c ρ H' a s := d.mono (fun o q => e a o q n) fun b o q nt => e b o q fun z => nt (z ▸ w.nt)
theorem DsAt.rep {F : Addr → Prop} (d : DsAt c ρ H a s) (hF : ∀ b, F b → NT (H b)) (na : ¬ F a) : Rep ρ (Hx H F) (c.obj s) (.ref a) := by
  obtain ⟨dx, v1, v2, h, h1, h2⟩ := d
  have less := hx_less (H := H) (S := fun b => NT (H b)) (S' := F) hF
  unfold Dk.obj Rep
  exact ⟨a, dx, [v1, v2], rfl, by rw [Hx_out na]; exact h, .cons (h1.mono less) (.cons (h2.mono less) .nil)⟩
structure Fd (c : Dk) (ρ : Rw) (a : Addr) (di : Nat) (B H : Hp) (r : RS) (s : DS) (σ : L2.St) (env : Env) : Prop where
  row : RowAt ρ H r
  dk : DsAt c ρ H a s
  ne : a ≠ ρ.a
  ext : ExtA ρ a B H
  len : σ.length = env.length
  no : ∀ (i : Nat) y, env[i]? ≠ some (.ow y)
  sh : ∀ (i : Nat) x, env[i]? = some (.sh x) → ∃ v, σ[i]? = some (some v) ∧ Rep ρ (Hx H (Ap ρ a)) x v
  dv : env[di]? = some (.sh (.at_ a))
theorem Fd.nt (f : Fd c ρ a di B H r s σ env) : ∀ b, Ap ρ a b → NT (H b) := fun b z => by
  rcases z with z | z
  · rw [z]; exact f.row.nt
  · rw [z]; exact f.dk.nt
theorem Fd.fm (f : Fd c ρ a di B H r s σ env) : Fm ρ (Ap ρ a) H H r σ env (fun _ => 0) := fm_at f.row (.inl rfl) f.nt f.len f.no f.sh
theorem ex_no {F : Addr → Prop} {ad : Nat → Addr} (no : ∀ (i : Nat) y, env[i]? ≠ some (.ow y)) : Ex F env ad = F := funext fun b => propext ⟨fun h => ex_at no h, fun z => .inl z⟩
theorem Fd.self (f : Fd c ρ a di B H r s σ env) : σ[di]? = some (some (.ref a)) := by
  obtain ⟨v, h1, h2⟩ := f.sh di _ f.dv
  unfold Rep at h2
  rw [h1, h2]
theorem hx_extA (e : ExtA ρ a H H') : ∀ b o, Hx H (Ap ρ a) b = some o → Hx H' (Ap ρ a) b = some o := fun b o q => by
  obtain ⟨n, q⟩ := Hx_some q
  rw [Hx_out n]
  exact e b o q (fun z => n (.inl z)) fun z => n (.inr z)
theorem Fd.step (f : Fd c ρ a di B H r s σ env) (e : ExtA ρ a H H') (w : RowAt ρ H' r') (d : DsAt c ρ H' a s') : Fd c ρ a di B H' r' s' σ env where
  row := w
  dk := d
  ne := f.ne
  ext := f.ext.trans e
  len := f.len
  no := f.no
  sh := fun i x h => let ⟨v, p, q⟩ := f.sh i x h; ⟨v, p, q.mono (hx_extA e)⟩
  dv := f.dv
theorem fd_of {B1 : Hp} {ad : Nat → Addr} (m : Fm ρ (Ap ρ a) B1 H r σ env ad) (d : DsAt c ρ H a s) (ne : a ≠ ρ.a) (e : ExtA ρ a B H) (no : ∀ (i : Nat) y, env[i]? ≠ some (.ow y)) (dv : env[di]? = some (.sh (.at_ a))) : Fd c ρ a di B H r s σ env where
  row := m.row
  dk := d
  ne := ne
  ext := e
  len := m.len
  no := no
  sh := fun i x h => by
    have := m.sh i x h
    rw [ex_no no] at this
    exact this
  dv := dv
theorem Fd.set (f : Fd c ρ a di B H r s σ env) {i : Nat} (hi : i < env.length) (n : i ≠ di) (h : Rep ρ (Hx H (Ap ρ a)) x v) : Fd c ρ a di B H r s (σ.set i (some v)) (env.set i (.sh x)) where
  row := f.row
  dk := f.dk
  ne := f.ne
  ext := f.ext
  len := by rw [List.length_set, List.length_set]; exact f.len
  no := fun l y e => by
    by_cases z : i = l
    · subst z
      rw [List.getElem?_set_self hi] at e; cases e
    · rw [List.getElem?_set_ne z] at e; exact f.no l y e
  sh := fun l y e => by
    by_cases z : i = l
    · subst z
      rw [List.getElem?_set_self hi] at e
      cases e
      exact ⟨v, List.getElem?_set_self (by rw [f.len]; exact hi), h⟩
    · rw [List.getElem?_set_ne z] at e ⊢
      exact f.sh l y e
  dv := by rw [List.getElem?_set_ne n]; exact f.dv
end
/-! ### the second state -/
inductive DO (α : Type) where
  | ok (x : α) (r : RS) (s : DS)
  | ex (e : Exn) (r : RS) (s : DS)
  | bad
abbrev DM (α : Type) := RS → DS → DO α
def wpD {α : Type} (o : DO α) (K : α → RS → DS → Prop) (E : Exn → RS → DS → Prop) : Prop := match o with
  | .ok x r s => K x r s
  | .ex e r s => E e r s
  | .bad => False
def dRet {α : Type} (x : α) : DM α := fun r s => .ok x r s
def dFail {α : Type} : DM α := fun _ _ => .bad
def dBnd {α β : Type} (m : DM α) (k : α → DM β) : DM β := fun r s => match m r s with
  | .ok x r' s' => k x r' s'
  | .ex e r' s' => .ex e r' s'
  | .bad => .bad
def dUp {α : Type} (m : M α) : DM α := fun r s => match m r with
  | .ok x r' => .ok x r' s
  | .ex e r' => .ex e r' s
  | .bad => .bad
section
variable {α β : Type} {K K' : α → RS → DS → Prop} {E E' : Exn → RS → DS → Prop} {r : RS} {s : DS}
theorem wpD_mono {o : DO α} (h : wpD o K E) (hK : ∀ x r s, K x r s → K' x r s) (hE : ∀ e r s, E e r s → E' e r s) : wpD o K' E' := by
  cases o with
  | ok x r s => exact hK x r s h
  | ex e r s => exact hE e r s h
  | bad => exact h
theorem wpD_bnd {m : DM α} {k : α → DM β} {K : β → RS → DS → Prop} (h : wpD (dBnd m k r s) K E) : wpD (m r s) (fun x r' s' => wpD (k x r' s') K E) E := by
  unfold dBnd at h
  cases e : m r s with
  | ok x r' s' => rw [e] at h; exact h
  | ex x r' s' => rw [e] at h; exact h
  | bad => rw [e] at h; exact h
theorem wpD_up {m : M α} (h : wpD (dUp m r s) K E) : wpM (m r) (fun x r' => K x r' s) (fun e r' => E e r' s) := by
  unfold dUp at h
  cases e : m r with
  | ok x r' => rw [e] at h; exact h
  | ex x r' => rw [e] at h; exact h
  | bad => rw [e] at h; exact h
theorem wpD_ite {p : Prop} [Decidable p] {m : DM α} (h : wpD ((if p then m else dFail) r s) K E) : p ∧ wpD (m r s) K E := by
  by_cases q : p
  · rw [if_pos q] at h; exact ⟨q, h⟩
  · rw [if_neg q] at h; exact h.elim
end
abbrev DE := Env → DM PV
def tDE (mg : Str → Option Value) (W : WX) (c : Dk) (di : Nat) (f : DE) : TE := fun σ H Q => ∃ ρ a B env r s, Fd c ρ a di B H r s σ env ∧
  wpD (f env r s) (fun x r' s' => ∀ v H', ExtA ρ a H H' → RowAt ρ H' r' → DsAt c ρ H' a s' → Rep ρ (Hx H' (Ap ρ a)) x v → Q v H')
    (fun e r' s' => ∀ C d H', ExtA ρ a H H' → RowAt ρ H' r' → DsAt c ρ H' a s' → ExR mg H' C d e → W C d σ H')
def tDT (mg : Str → Option Value) (W : WX) (c : Dk) (di : Nat) (f : Env → DM Bool) : TT := fun σ H Q => ∃ ρ a B env r s, Fd c ρ a di B H r s σ env ∧
  wpD (f env r s) (fun x r' s' => ∀ H', ExtA ρ a H H' → RowAt ρ H' r' → DsAt c ρ H' a s' → Q x H')
    (fun e r' s' => ∀ C d H', ExtA ρ a H H' → RowAt ρ H' r' → DsAt c ρ H' a s' → ExR mg H' C d e → W C d σ H')
def tDS (mg : Str → Option Value) (W : WX) (c : Dk) (di : Nat) (f : Env → DM Fl) : TS := fun D σ H => ∃ ρ a B env r s, Fd c ρ a di B H r s σ env ∧
  wpD (f env r s) (fun fl r' s' => match fl with
      | .nx e => ∀ σ' H', Fd c ρ a di B H' r' s' σ' e → D.nx σ' H'
      | .bk e => ∀ σ' H', Fd c ρ a di B H' r' s' σ' e → D.bk σ' H'
      | .ct e => ∀ σ' H', Fd c ρ a di B H' r' s' σ' e → D.ct σ' H'
      | .rt x => ∀ v H', ExtA ρ a B H' → RowAt ρ H' r' → DsAt c ρ H' a s' → Rep ρ (Hx H' (Ap ρ a)) x v → D.rt v H')
    (fun e r' s' => ∀ C d σ' H', ExtA ρ a B H' → RowAt ρ H' r' → DsAt c ρ H' a s' → ExR mg H' C d e → W C d σ' H')
abbrev DMe (X : Cx) (W : WX) (c : Dk) (di : Nat) (e : Expr) (f : DE) : Prop := PE X e (tDE X.mg W c di f)
abbrev DMt (X : Cx) (W : WX) (c : Dk) (di : Nat) (e : Expr) (f : Env → DM Bool) : Prop := PT X e (tDT X.mg W c di f)
abbrev DMs (X : Cx) (W : WX) (c : Dk) (di : Nat) (st : Stmt) (f : Env → DM Fl) : Prop := PS X st (tDS X.mg W c di f)
abbrev DMss (X : Cx) (W : WX) (c : Dk) (di : Nat) (st : List Stmt) (f : Env → DM Fl) : Prop := PSs X st (tDS X.mg W c di f)
def dE (f : EF) : DE := fun env => dUp (f env)
def dT (f : Env → M Bool) : Env → DM Bool := fun env => dUp (f env)
def noOwB (env : Env) : Bool := env.all fun s => match s with
  | .ow _ => false
  | _ => true
def keepB (di : Nat) (env e : Env) : Bool := (match env[di]?, e[di]? with
  | some (.sh (.at_ a)), some (.sh (.at_ b)) => decide (a = b)
  | _, _ => false) && noOwB e
def keepF (di : Nat) (env : Env) : Fl → Bool
  | .nx e => keepB di env e
  | .bk e => keepB di env e
  | .ct e => keepB di env e
  | .rt _ => true
theorem keepB_ok {di : Nat} {env e : Env} (h : keepB di env e = true) : e[di]? = env[di]? ∧ ∀ (i : Nat) y, e[i]? ≠ some (.ow y) := by
  unfold keepB at h
  rw [Bool.and_eq_true] at h
  obtain ⟨h1, h2⟩ := h
  refine ⟨?_, fun i y q => ?_⟩
  · split at h1
    · rename_i q1 q2
      rw [q1, q2, of_decide_eq_true h1]
    · cases h1
  · have := List.all_eq_true.mp h2 _ (List.mem_of_getElem? q)
    cases this
/-- a statement of the first state: it leaves the instance's name as it was -/
def dKeep (di : Nat) (env : Env) (fl : Fl) : DM Fl := if keepF di env fl = true then dRet fl else dFail
def dS (di : Nat) (f : Env → M Fl) : Env → DM Fl := fun env => dBnd (dUp (f env)) (dKeep di env)
section
variable {X : Cx} {W : WX} {c : Dk} {di : Nat} {pos pos' p : Pos} {e a b : Expr} {es : List Expr} {i j n : Nat} {x : Str} {st : Stmt} {rest : List Stmt} {fa fb : DE} {f g : Env → DM Fl}
theorem d_e {f : EF} (h : ME X W e f) : DMe X W c di e (dE f) := pe_imp h fun σ H Q q => by
  obtain ⟨ρ, a, B, env, r, s, m, w⟩ := q
  refine ⟨ρ, _, H, env, _, r, m.fm, wpM_mono (wpD_up w) (fun x r1 w1 v H1 e1 o1 h1 => ?_) fun ex r1 z C d H1 e1 o1 => z C d H1 (.of e1) o1 (m.dk.ext m.row m.ne e1)⟩
  refine w1 v H1 (.of e1) o1 (m.dk.ext m.row m.ne e1) ?_
  have h1 : Rep ρ (Hx H1 (Ex (Ap ρ a) env _)) x v := h1
  rw [ex_no m.no] at h1
  exact h1
theorem d_t {f : Env → M Bool} (h : MT X W e f) : DMt X W c di e (dT f) := pt_imp h fun σ H Q q => by
  obtain ⟨ρ, a, B, env, r, s, m, w⟩ := q
  exact ⟨ρ, _, H, env, _, r, m.fm, wpM_mono (wpD_up w) (fun x r1 w1 H1 e1 o1 => w1 H1 (.of e1) o1 (m.dk.ext m.row m.ne e1)) fun ex r1 z C d H1 e1 o1 => z C d H1 (.of e1) o1 (m.dk.ext m.row m.ne e1)⟩
theorem d_s {f : Env → M Fl} (h : MS X W st f) : DMs X W c di st (dS di f) := ps_imp h fun D σ H q => by
  obtain ⟨ρ, a, B, env, r, s, m, w⟩ := q
  refine ⟨ρ, _, H, env, _, r, m.fm, wpM_mono (wpD_up (wpD_bnd w)) (fun fl r1 w1 => ?_) fun ex r1 z C d σ' H' ⟨env', ad', m'⟩ => z C d σ' H' (m.ext.trans (.of m'.ext)) m'.row (m.dk.ext m.row m.ne m'.ext)⟩
  cases fl with
  | nx e1 =>
    obtain ⟨kk, w2⟩ := wpD_ite w1
    obtain ⟨k1, k2⟩ := keepB_ok kk
    exact fun σ' H' ad' m' => w2 σ' H' (fd_of m' (m.dk.ext m.row m.ne m'.ext) m.ne (m.ext.trans (.of m'.ext)) k2 (k1.trans m.dv))
  | bk e1 =>
    obtain ⟨kk, w2⟩ := wpD_ite w1
    obtain ⟨k1, k2⟩ := keepB_ok kk
    exact fun σ' H' ad' m' => w2 σ' H' (fd_of m' (m.dk.ext m.row m.ne m'.ext) m.ne (m.ext.trans (.of m'.ext)) k2 (k1.trans m.dv))
  | ct e1 =>
    obtain ⟨kk, w2⟩ := wpD_ite w1
    obtain ⟨k1, k2⟩ := keepB_ok kk
    exact fun σ' H' ad' m' => w2 σ' H' (fd_of m' (m.dk.ext m.row m.ne m'.ext) m.ne (m.ext.trans (.of m'.ext)) k2 (k1.trans m.dv))
  | rt v =>
    obtain ⟨_, w1⟩ := wpD_ite w1
    exact fun u H' e1 o1 h1 => w1 u H' (m.ext.trans (.of e1)) o1 (m.dk.ext m.row m.ne e1) h1
/-! ### statements -/
def dSeq (f g : Env → DM Fl) : Env → DM Fl := fun env => dBnd (f env) fun fl => match fl with
  | .nx e => g e
  | o => dRet o
def dNext : Env → DM Fl := fun env => dRet (.nx env)
def dSet (i di : Nat) (f : DE) : Env → DM Fl := fun env => dBnd (f env) fun v => if i < env.length ∧ i ≠ di then dRet (.nx (env.set i (.sh v))) else dFail
def dRtn (f : DE) : Env → DM Fl := fun env => dBnd (f env) fun v => dRet (.rt v)
def dIf (b : Env → DM Bool) (f g : Env → DM Fl) : Env → DM Fl := fun env => dBnd (b env) fun d => if d = true then f env else g env
theorem dss_nil : DMss X W c di [] dNext := pss_imp pss_nil fun D σ H q => by
  obtain ⟨ρ, a, B, env, r, s, m, w⟩ := q
  exact w σ H m
theorem dss_cons (h1 : DMs X W c di st f) (h2 : DMss X W c di rest g) : DMss X W c di (st :: rest) (dSeq f g) := pss_imp (pss_cons h1 h2) fun D σ H q => by
  obtain ⟨ρ, a, B, env, r, s, m, w⟩ := q
  refine ⟨ρ, a, B, env, r, s, m, wpD_mono (wpD_bnd w) (fun fl r1 s1 w1 => ?_) fun _ _ _ z => z⟩
  cases fl with
  | nx e1 => exact fun σ' H' m' => ⟨ρ, a, B, e1, r1, s1, m', w1⟩
  | rt v => exact w1
  | bk e1 => exact w1
  | ct e1 => exact w1
theorem dss_one (h : DMs X W c di st f) : DMss X W c di [st] f := pss_one h
theorem ds_set (T : Ct X W j) (he : DMe X W c di e fa) (i : Nat) (hi : X.N[i]? = some x := by rfl) (hx : Loc X.env.scope x := by first | exact Or.inl rfl | exact Or.inr rfl) (hs : swapsWith e (some (.Name x pos')) pos.line X.env = pure false := by rfl)
    (hf : X.fn x = true ∨ X.env.scope.names.lookup x = some .local := by first | exact .inl rfl | exact .inr rfl) : DMs X W c di (.Assign [.Name x pos'] e pos) (dSet i di fa) := ps_imp (ps_set T.nd hi hx he hs hf) fun D σ H q => by
  obtain ⟨ρ, a, B, env, r, s, m, w⟩ := q
  refine ⟨ρ, a, B, env, r, s, m, wpD_mono (wpD_bnd w) (fun y r1 s1 w1 v H1 e1 o1 d1 h1 => ?_) fun ex r1 s1 z C d H1 e1 o1 d1 => z C d σ H1 (m.ext.trans e1) o1 d1⟩
  obtain ⟨⟨hi, hn⟩, w2⟩ := wpD_ite w1
  exact w2 _ H1 ((m.step e1 o1 d1).set hi hn h1)
theorem ds_ret (he : DMe X W c di e fa) : DMs X W c di (.Return (some e) pos) (dRtn fa) := ps_imp (ps_ret he) fun D σ H q => by
  obtain ⟨ρ, a, B, env, r, s, m, w⟩ := q
  exact ⟨ρ, a, B, env, r, s, m, wpD_mono (wpD_bnd w) (fun y r1 s1 w1 v H1 e1 o1 d1 h1 => w1 v H1 (m.ext.trans e1) o1 d1 h1) fun ex r1 s1 z C d H1 e1 o1 d1 => z C d σ H1 (m.ext.trans e1) o1 d1⟩
theorem ds_if {cc : Expr} {fc : Env → DM Bool} {ss ts : List Stmt} (hc : DMt X W c di cc fc) (ha : DMss X W c di ss f) (hb : DMss X W c di ts g) : DMs X W c di (.If cc ss ts pos) (dIf fc f g) := ps_imp (ps_if hc ha hb) fun D σ H q => by
  obtain ⟨ρ, a, B, env, r, s, m, w⟩ := q
  refine ⟨ρ, a, B, env, r, s, m, wpD_mono (wpD_bnd w) (fun d r1 s1 w1 H1 e1 o1 d1 => ?_) fun ex r1 s1 z C d H1 e1 o1 d1 => z C d σ H1 (m.ext.trans e1) o1 d1⟩
  have m1 := m.step e1 o1 d1
  cases d with
  | true => exact ⟨ρ, a, B, env, r1, s1, m1, w1⟩
  | false => exact ⟨ρ, a, B, env, r1, s1, m1, w1⟩
/-! ### a for over what the first state tells -/
def dLoop (t : TP) (di : Nat) (body : Env → DM Fl) : List PV → Env → DM Fl
  | [], env => dRet (.nx env)
  | x :: xs, env => dBnd (dUp (ofO (t x env))) fun env1 => dBnd (dKeep di env (.nx env1)) fun _ => dBnd (body env1) fun fl => match fl with
    | .nx e => dLoop t di body xs e
    | .ct e => dLoop t di body xs e
    | .bk e => dRet (.nx e)
    | .rt v => dRet (.rt v)
def dFor (fi : AF) (t : TP) (di : Nat) (body : Env → DM Fl) : Env → DM Fl := fun env => dBnd (dUp (fi env)) fun xs => dLoop t di body xs env
theorem ds_for {t : TP} {sl : List Nat} {fs : AF} {tg : Expr} {body : List Stmt} (T : Ct X W j) (hi : MI X W false tg e fs) (hg : MG X tg sl t) (hb : DMss X W c di body f) (hs : ∀ x, foldedSetIterable e X.env x = pure x := by intro _; rfl) : DMs X W c di (.For tg e body [] pos) (dFor fs t di f) := ps_imp (ps_for T.po T.calm hi hg hb hs) fun D σ H q => by
  obtain ⟨ρ, a, B, env, r, s, m, w⟩ := q
  refine ⟨ρ, _, H, env, _, r, m.fm, wpM_mono (wpD_up (wpD_bnd w)) (fun xs r1 w1 J H1 e1 o1 hJ => ?_) fun ex r1 z C d H1 e1 o1 => z C d σ H1 (m.ext.trans (.of e1)) o1 (m.dk.ext m.row m.ne e1)⟩
  have m1 : Fd c ρ a di B H1 r1 s σ env := m.step (.of e1) o1 (m.dk.ext m.row m.ne e1)
  have hJ : Walk ρ (Hx H1 (Ex (Ap ρ a) env _)) (Hx H1 (Ex (Ap ρ a) env _)) J xs := hJ
  rw [ex_no m.no] at hJ
  refine ⟨fun i n σ2 H2 => n = xs.length - i ∧ i ≤ xs.length ∧ ExtA ρ a H1 H2 ∧ ∃ env2 r2 s2, Fd c ρ a di B H2 r2 s2 σ2 env2 ∧ wpD (dLoop t di f (xs.drop i) env2 r2 s2) _ _, ⟨xs.length, rfl, Nat.zero_le _, ExtA.refl, env, r1, s, m1, w1⟩, fun i n σ2 H2 hW => ?_⟩
  obtain ⟨rfl, hi, x12, env2, r2, s2, m2, w2⟩ := hW
  have hG0 := hx_extA x12
  have hG := fun b o q => (Hx_some (hG0 b o q)).2
  by_cases hlt : i < xs.length
  · refine .inr ?_
    have hx : xs[i]? = some xs[i] := List.getElem?_eq_getElem hlt
    rw [List.drop_eq_getElem_cons hlt] at w2
    obtain ⟨go, yl⟩ := (hJ i H2 hG).1 _ hx
    refine ⟨go, fun σ' H' => ExtA ρ a H1 H' ∧ ∃ env' r' s', Fd c ρ a di B H' r' s' σ' env' ∧ wpD (dLoop t di f (xs.drop (i + 1)) env' r' s') _ _, fun σ' H' ⟨x', env', r', s', m', w'⟩ => ⟨xs.length - (i + 1), by omega, rfl, hlt, x', env', r', s', m', w'⟩, fun v H3 hy => ?_⟩
    obtain ⟨sm, hr⟩ := yl v H3 hy
    have s23 : ExtA ρ a H2 H3 := .of (.same sm)
    have m3 := m2.step s23 (m2.row.same sm) (m2.dk.ext m2.row m2.ne (.same sm))
    obtain ⟨env3, et, w3⟩ := ofO_some (wpD_up (wpD_bnd w2))
    obtain ⟨kk, w4⟩ := wpD_ite (wpD_bnd w3)
    obtain ⟨k1, k2⟩ := keepB_ok kk
    refine ⟨ρ, _, H3, env2, _, r2, xs[i], env3, m3.fm, ?_, et, fun σ3 m4 x4 _ => ?_⟩
    · rw [ex_no m3.no]
      exact hr _ (fun b z => m2.nt b z) fun b o q => hx_extA s23 b o (hG0 b o q)
    have m5 : Fd c ρ a di H3 H3 r2 s2 σ3 env3 := fd_of m4 m3.dk m3.ne ExtA.refl k2 (k1.trans m3.dv)
    have m6 : Fd c ρ a di B H3 r2 s2 σ3 env3 := { m5 with ext := m3.ext }
    refine ⟨ρ, a, H3, env3, r2, s2, m5, wpD_mono (wpD_bnd w4) (fun fl r5 s5 w5 => ?_) fun ex r5 s5 z C d σ' H' e' => z C d σ' H' (m3.ext.trans e')⟩
    have x13 := x12.trans s23
    have mk : ∀ {σ' H' e'}, Fd c ρ a di H3 H' r5 s5 σ' e' → Fd c ρ a di B H' r5 s5 σ' e' := fun m' => { m' with ext := m3.ext.trans m'.ext }
    cases fl with
    | nx e' => exact fun σ' H' m' => ⟨x13.trans m'.ext, e', r5, s5, mk m', w5⟩
    | ct e' => exact fun σ' H' m' => ⟨x13.trans m'.ext, e', r5, s5, mk m', w5⟩
    | bk e' => exact fun σ' H' m' => w5 σ' H' (mk m')
    | rt v => exact fun v H' e' => w5 v H' (m3.ext.trans e')
  · have ei : i = xs.length := by omega
    subst ei
    rw [List.drop_length] at w2
    exact .inl ⟨(hJ _ H2 hG).2 (Nat.le_refl _), w2 σ2 H2 m2⟩
end
end Mir

/-! tests, operations and calls over the second state -/
namespace Mir
open PySem PySem.Spec PyProof.Rows L2
section
variable {X : Cx} {W : WX} {mg : Str → Option Value} {c : Dk} {di : Nat} {pos pos' p : Pos} {e a b : Expr} {es : List Expr} {i j n : Nat} {x : Str} {fa fb : DE}
def dB (f : DE) : Env → DM Bool := fun env => dBnd (f env) fun x => dUp (toB x)
def dOp2 (g : PV → PV → Option PV) (fa fb : DE) : DE := fun env => dBnd (fa env) fun x => dBnd (fb env) fun y => dUp (ofO (g x y))
def dtOr (fa fb : Env → DM Bool) : Env → DM Bool := fun env => dBnd (fa env) fun t => if t = true then dRet true else fb env
def dtNot (fa : Env → DM Bool) : Env → DM Bool := fun env => dBnd (fa env) fun t => dRet (!t)
def dAnd (fa fb : DE) : DE := fun env => dBnd (fa env) fun x => dBnd (dUp (toB x)) fun t => if t = true then fb env else dRet (.bl false)
def dIfE (ft : Env → DM Bool) (fa fb : DE) : DE := fun env => dBnd (ft env) fun t => if t = true then fa env else fb env
theorem tDTest_of {f : DE} {t : TE} (ht : ∀ σ H Q, tDE mg W c di f σ H Q → t σ H Q) (σ : L2.St) (H : Hp) (Q : Bool → Hp → Prop) (q : tDT mg W c di (dB f) σ H Q) : tTest t σ H Q := by
  obtain ⟨ρ, a, B, env, r, s, m, w⟩ := q
  refine ht σ H _ ⟨ρ, a, B, env, r, s, m, wpD_mono (wpD_bnd w) (fun x r1 s1 w1 v H1 e1 o1 d1 h1 => ?_) fun _ _ _ z => z⟩
  obtain ⟨t, rfl, w2⟩ := toB_bl (wpD_up w1)
  exact ⟨t, rep_bl h1, w2 H1 e1 o1 d1⟩
theorem tDOp_of {g : PV → PV → Option PV} (σ : L2.St) (H : Hp) (Q : VK) (q : tDE mg W c di (dOp2 g fa fb) σ H Q) : tOp (rP2 g) (tDE mg W c di fa) (tDE mg W c di fb) σ H Q := by
  obtain ⟨ρ, a, B, env, r, s, m, w⟩ := q
  refine ⟨ρ, a, B, env, r, s, m, wpD_mono (wpD_bnd w) (fun x r1 s1 w1 v1 H1 e1 o1 d1 h1 => ?_) fun _ _ _ z => z⟩
  have m1 := m.step e1 o1 d1
  refine ⟨ρ, a, B, env, r1, s1, m1, wpD_mono (wpD_bnd w1) (fun y r2 s2 w2 v2 H2 e2 o2 d2 h2 => ?_) fun ex r2 s2 z C d H' e' => z C d H' (e1.trans e')⟩
  have m2 := m1.step e2 o2 d2
  obtain ⟨pc, e, w3⟩ := ofO_some (wpD_up w2)
  exact ⟨ρ, Ap ρ a, x, y, pc, .inl rfl, fun b z => (m2.nt b z).1.1, .inl (h1.mono (hx_extA e2)), .inl h2, e, fun z H' sm hz => w3 z H' ((e1.trans e2).trans (.of (.same sm))) (o2.same sm) (d2.ext o2 m.ne (.same sm)) hz⟩
theorem dt_cmp {op : CmpOp} {g : PV → PV → Option PV} (ho : Op2 X (compareOp op) g) (ha : DMe X W c di a fa) (hb : DMe X W c di b fb) (hm : behindInMarks op b = false := by first | exact nomark _ | with_unfolding_all rfl) : DMt X W c di (.Compare a [op] [b] pos) (dB (dOp2 g fa fb)) :=
  pt_imp (pt_cmpR ho.opR ha hb hm) (tDTest_of fun σ H Q q => tDOp_of σ H Q q)
theorem dt_val {f : DE} (h : DMe X W c di e f) (he : ∀ whole, isTrue e X.env whole = (do let v ← whole; standAt e.pos; holding [v] (truthy v)) := by intro _; rfl) : DMt X W c di e (dB f) :=
  pt_imp (pt_val h he) fun σ H Q q => tDTest_of (t := tDE X.mg W c di f) (fun σ H Q q => q) σ H Q q
theorem tDT_bind {fa : Env → DM Bool} {g : Env → Bool → DM Bool} {t' : Bool → TT} {σ : L2.St} {H : Hp} {Q : Bool → Hp → Prop} (q : tDT mg W c di (fun env => dBnd (fa env) (g env)) σ H Q)
    (h : ∀ t H1, tDT mg W c di (fun env => g env t) σ H1 Q → t' t σ H1 Q) : tDT mg W c di fa σ H (fun t H1 => t' t σ H1 Q) := by
  obtain ⟨ρ, a, B, env, r, s, m, w⟩ := q
  refine ⟨ρ, a, B, env, r, s, m, wpD_mono (wpD_bnd w) (fun t r1 s1 w1 H1 e1 o1 d1 => ?_) fun _ _ _ z => z⟩
  exact h t H1 ⟨ρ, a, B, env, r1, s1, m.step e1 o1 d1, wpD_mono w1 (fun x r2 s2 z H' e' => z H' (e1.trans e')) fun ex r2 s2 z C d H' e' => z C d H' (e1.trans e')⟩
theorem tDT_ret {t : Bool} {σ : L2.St} {H : Hp} {Q : Bool → Hp → Prop} (q : tDT mg W c di (fun _ => dRet t) σ H Q) : Q t H := by
  obtain ⟨ρ, a, B, env, r, s, m, w⟩ := q
  exact w H ExtA.refl m.row m.dk
structure DMw (X : Cx) (W : WX) (c : Dk) (di : Nat) (e : Expr) (f : Env → DM Bool) : Prop where
  pw : PW X e (tDT X.mg W c di f)
theorem dw_or1 {f : Env → DM Bool} (h : DMt X W c di a f) : DMw X W c di (.BoolOp .Or [a] pos) f := ⟨pw_or1 h⟩
theorem dw_or {fa fb : Env → DM Bool} (ha : DMt X W c di a fa) (hb : DMw X W c di (.BoolOp .Or (b :: es) pos) fb) : DMw X W c di (.BoolOp .Or (a :: b :: es) pos) (dtOr fa fb) := ⟨pw_imp (pw_or ha hb.pw) fun σ H Q q => by
  refine tDT_bind (t' := fun t σ H1 Q => if t = true then Q true H1 else tDT X.mg W c di fb σ H1 Q) q fun t H1 z => ?_
  cases t with
  | false => exact z
  | true => exact tDT_ret z⟩
theorem dt_w {f : Env → DM Bool} (h : DMw X W c di e f) : DMt X W c di e f := h.pw.pt
theorem dt_not {f : Env → DM Bool} (h : DMt X W c di a f) : DMt X W c di (.UnaryOp .Not a pos) (dtNot f) := pt_imp (pt_not h) fun σ H Q q => by
  refine tDT_bind (t' := fun t σ H1 Q => Q (!t) H1) q fun t H1 z => tDT_ret z
theorem de_one {op : BoolOp} {f : DE} (h : DMe X W c di a f) : DMe X W c di (.BoolOp op [a] pos) f := pe_one h
theorem de_and (ha : DMe X W c di a fa) (hb : DMe X W c di (.BoolOp .And (b :: es) pos) fb) : DMe X W c di (.BoolOp .And (a :: b :: es) pos) (dAnd fa fb) := pe_imp (pe_and ha hb) fun σ H Q q => by
  obtain ⟨ρ, a, B, env, r, s, m, w⟩ := q
  refine ⟨ρ, a, B, env, r, s, m, wpD_mono (wpD_bnd w) (fun x r1 s1 w1 v H1 e1 o1 d1 h1 => ?_) fun _ _ _ z => z⟩
  obtain ⟨t, rfl, w2⟩ := toB_bl (wpD_up (wpD_bnd w1))
  refine ⟨t, rep_bl h1, ?_⟩
  cases t with
  | true => exact ⟨ρ, a, B, env, r1, s1, m.step e1 o1 d1, wpD_mono w2 (fun x r2 s2 z v H' e' => z v H' (e1.trans e')) fun ex r2 s2 z C d H' e' => z C d H' (e1.trans e')⟩
  | false => exact w2 (.bl false) H1 e1 o1 d1 (Flat.bl _ _ _)
theorem de_if {cc : Expr} {ft : Env → DM Bool} (hc : DMt X W c di cc ft) (ha : DMe X W c di a fa) (hb : DMe X W c di b fb) : DMe X W c di (.IfExp cc a b pos) (dIfE ft fa fb) := pe_imp (pe_ifExp hc ha hb) fun σ H Q q => by
  obtain ⟨ρ, a, B, env, r, s, m, w⟩ := q
  refine ⟨ρ, a, B, env, r, s, m, wpD_mono (wpD_bnd w) (fun t r1 s1 w1 H1 e1 o1 d1 => ?_) fun _ _ _ z => z⟩
  have m1 := m.step e1 o1 d1
  cases t with
  | true => exact ⟨ρ, a, B, env, r1, s1, m1, wpD_mono w1 (fun x r2 s2 z v H' e' => z v H' (e1.trans e')) fun ex r2 s2 z C d H' e' => z C d H' (e1.trans e')⟩
  | false => exact ⟨ρ, a, B, env, r1, s1, m1, wpD_mono w1 (fun x r2 s2 z v H' e' => z v H' (e1.trans e')) fun ex r2 s2 z C d H' e' => z C d H' (e1.trans e')⟩
end
/-! ### calls -/
/-- what a def promises whose first argument is the instance -/
def spK (mg : Str → Option Value) (c : Dk) (n : Nat) (m : List PV → DM PV) : Sp := fun vs H Q E => ∃ ρ a r s xs us, vs = .ref a :: us ∧ a ≠ ρ.a ∧ RowAt ρ H r ∧ DsAt c ρ H a s ∧ xs.length = n ∧ RepL ρ (Hx H (Ap ρ a)) xs us ∧
  wpD (m (.at_ a :: xs) r s) (fun x r' s' => ∀ v H', ExtA ρ a H H' → RowAt ρ H' r' → DsAt c ρ H' a s' → Rep ρ (Hx H' (Ap ρ a)) x v → Q v H')
    (fun e r' s' => ∀ C d H', ExtA ρ a H H' → RowAt ρ H' r' → DsAt c ρ H' a s' → ExR mg H' C d e → E C d H')
theorem spK_len {mg : Str → Option Value} {c : Dk} {n : Nat} {m : List PV → DM PV} {vs : List V} {H : Hp} {Q : VK} {E : XK} (h : spK mg c n m vs H Q E) : vs.length = n + 1 := by
  obtain ⟨ρ, a, r, s, xs, us, rfl, _, _, _, hl, l, _⟩ := h
  rw [List.length_cons, l.length, hl]
structure FnK (P : Program) (w : World) (K : PySem.W.Frag) (mg : Str → Option Value) (base : Heap) (k : Nat) (c : Dk) (x : Str) (n : Nat) (m : List PV → DM PV) : Prop where
  ex : ∃ f fd ps, FnOk P w K mg base (L2.CX P w) k f fd ps (spK mg c n m) ∧ mg x = some (.ref f) ∧ PySem.W.keepIn K (.ref f) = true ∧ Binds K fd ps []
structure MtK (P : Program) (w : World) (K : PySem.W.Frag) (mg : Str → Option Value) (base : Heap) (k : Nat) (c : Dk) (x : Str) (n : Nat) (m : List PV → DM PV) : Prop where
  ex : ∃ f fd ps, FnOk P w K mg base (L2.CX P w) k f fd ps (spK mg c n m) ∧ Meth K c.C x f ∧ Binds K fd ps []
/-- the instance's name -/
def dSelf (di : Nat) : EF := fun env => match env[di]? with
  | some (.sh v) => ret v
  | _ => fail
def dCall (di n : Nat) (m : List PV → DM PV) (fs : AF) : DE := fun env => dBnd (dUp (dSelf di env)) fun y => dBnd (dUp (fs env)) fun xs => if xs.length = n then m (y :: xs) else dFail
theorem dSelf_ok {c : Dk} {ρ : Rw} {a : Addr} {di : Nat} {B H : Hp} {r : RS} {s : DS} {σ : L2.St} {env : Env} {K : PV → RS → DS → Prop} {E : Exn → RS → DS → Prop} (f : Fd c ρ a di B H r s σ env) (h : wpD (dUp (dSelf di env) r s) K E) : K (.at_ a) r s := by
  have h := wpD_up h
  unfold dSelf at h
  rw [f.dv] at h
  exact h
/-- a bool alone -/
def blO : PV → M PV
  | .bl b => ret (.bl b)
  | _ => fail
theorem blO_ok {x : PV} {r : RS} {K : PV → RS → Prop} {E : Exn → RS → Prop} (h : wpM (blO x r) K E) : ∃ b, x = .bl b ∧ K (.bl b) r := by
  cases x with
  | bl b => exact ⟨b, rfl, h⟩
  | _ => exact h.elim
def dCallR (c : Dk) (n : Nat) (m : List PV → M PV) (fs : AF) : DE := fun env => dBnd (dUp (fs env)) fun xs => fun r s => dUp (bnd (callN n m (c.obj s :: xs)) blO) r s
section
variable {X : Cx} {W : WX} {c : Dk} {di : Nat} {pos p p2 apos : Pos} {e a : Expr} {es : List Expr} {i j j' n : Nat} {x y : Str} {m : List PV → DM PV} {fs : AF}
theorem d_callK (T : Ct X W j) (F : FnK X.prog X.w X.K X.mg X.base j' c x n m) (hj : j' ≤ j) (hv : PE X (.Name y p2) (tVar di)) (ha : MLk X W .cl es fs) (hg : Gl X x := by rfl) (hdb : (x == ("__debug__" : Str)) = false := by decide)
    (he : starEach (.Name y p2 :: es) X.env = (false, eval (.Name y p2) X.env) :: starEach es X.env := by rfl) (hpl : (backTo pos (starEach es X.env)).any (·.1) = false := by rfl) : DMe X W c di (.Call (.Name x p) (.Name y p2 :: es) [] pos) (dCall di n m fs) := by
  obtain ⟨f, fd, ps, G, hm, hk, hb⟩ := F.ex
  refine pe_imp (pe_callS (E := WE W) G (T.hr.mono hj) hg hm hk hb (passAt T.tk) (pa_cons hv ha he) hdb he hpl) fun σ H Q q => ?_
  obtain ⟨ρ, a, B, env, r, s, m, w⟩ := q
  refine ⟨.ref a, m.self, ρ, _, H, env, _, r, m.fm, wpM_mono (wpD_up (wpD_bnd (dSelf_ok m (wpD_bnd w)))) (fun xs r1 w1 vs H1 e1 o1 h1 => ?_) fun ex r1 z C d H1 e1 o1 => z C d H1 (.of e1) o1 (m.dk.ext m.row m.ne e1)⟩
  obtain ⟨hl, w2⟩ := wpD_ite w1
  have h1 := h1.rep
  rw [ex_no m.no] at h1
  exact ⟨ρ, a, r1, s, xs, vs, rfl, m.ne, o1, m.dk.ext m.row m.ne e1, hl, h1, wpD_mono w2 (fun y r2 s2 z v H2 e2 o2 d2 h2 => z v H2 ((ExtA.of e1).trans e2) o2 d2 h2) fun ex r2 s2 z C d H2 e2 => z C d H2 ((ExtA.of e1).trans e2)⟩
theorem pe_methT {pl : Sem Bool} {C f : Addr} {fd : FuncData} {ps : List Str} {sp : Sp} {ta : TE} {t : TA} (T : Ct X W j) (cl : Cls X.K C) (G : FnOk X.prog X.w X.K X.mg X.base (L2.CX X.prog X.w) j' f fd ps sp) (hm : Meth X.K C x f) (hb : Binds X.K fd ps []) (hj : j' ≤ j) (ha : PE X a ta) (hs : PA X (e :: es) t)
    (hst : starEach (e :: es) X.env = (false, eval e X.env) :: starEach es X.env := by rfl) (hpl : (backTo pos (starEach es X.env)).any (·.1) = false := by rfl)
    (ht : eval (.Call (.Attribute a x apos) (e :: es) [] pos) X.env = (do
      let ov ← eval a X.env
      standAt apos.atName
      let (f, first) ← holding [ov] (getMethod ov x pl)
      callWith pos f first (backTo pos (starEach (e :: es) X.env)) (backToKw pos (keywordEach [] X.env))) := by rfl) :
    PE X (.Call (.Attribute a x apos) (e :: es) [] pos) (fun σ H Q => ta σ H fun v H1 => ∃ (b dx : Addr) (kvs : List (Str × V)), v = .ref b ∧ H1 b = some (.ins C dx kvs) ∧ kvs.lookup x = none ∧ t σ H1 fun us H2 => sp (.ref b :: us) H2 Q (WE W σ)) := by
  refine ⟨fun pins s σ H Q I q => ?_⟩
  refine PySem.W.methodCall_KW (pl := pl) (thn (ha.run pins s σ H _ I q) fun u s1 ⟨v, H1, I1, rx, b, dx, kvs, ev, ea, l, q1⟩ => ?_) ht
  subst ev
  obtain rfl : u = Value.ref b := rx
  refine getmeth_ok I1 ea cl hm l ?_
  refine PySem.W.callWith_K (first := [.ref b]) (h₀ := X.base) I.ok.mod.kin hm.kp (thn (PA.run (t := t) hs pos pins s1 σ H1 _ I1 q1) fun us s2 ⟨vs, H2, I2, r, q2⟩ => ⟨I2.kIn, ?_⟩) hst hpl
  exact run_fnS (us := .ref b :: us) (vs := .ref b :: vs) (E := WE W) G (T.hr.mono hj) hb (passAt T.tk σ) I2 (.cons rfl r) q2
theorem pe_methT0 {pl : Sem Bool} {C f : Addr} {fd : FuncData} {ps : List Str} {sp : Sp} {ta : TE} (T : Ct X W j) (cl : Cls X.K C) (G : FnOk X.prog X.w X.K X.mg X.base (L2.CX X.prog X.w) j' f fd ps sp) (hm : Meth X.K C x f) (hb : Binds X.K fd ps []) (hj : j' ≤ j) (ha : PE X a ta)
    (ht : eval (.Call (.Attribute a x apos) [] [] pos) X.env = (do
      let ov ← eval a X.env
      standAt apos.atName
      let (f, first) ← holding [ov] (getMethod ov x pl)
      callWith pos f first (backTo pos (starEach [] X.env)) (backToKw pos (keywordEach [] X.env))) := by rfl) :
    PE X (.Call (.Attribute a x apos) [] [] pos) (fun σ H Q => ta σ H fun v H1 => ∃ (b dx : Addr) (kvs : List (Str × V)), v = .ref b ∧ H1 b = some (.ins C dx kvs) ∧ kvs.lookup x = none ∧ sp [.ref b] H1 Q (WE W σ)) := by
  refine ⟨fun pins s σ H Q I q => ?_⟩
  refine PySem.W.methodCall_KW (pl := pl) (thn (ha.run pins s σ H _ I q) fun u s1 ⟨v, H1, I1, rx, b, dx, kvs, ev, ea, l, q1⟩ => ?_) ht
  subst ev
  obtain rfl : u = Value.ref b := rx
  refine getmeth_ok I1 ea cl hm l ?_
  exact PySem.W.callWith_K0 (first := [.ref b]) I1.kIn hm.kp (run_fnS (us := [.ref b]) (vs := [.ref b]) (E := WE W) G (T.hr.mono hj) hb (passAt T.tk σ) I1 (.cons rfl .nil) q1)
theorem no_field {c : Dk} {v1 v2 : V} (h1 : (x == c.n1) = false) (h2 : (x == c.n2) = false) : ([(c.n1, v1), (c.n2, v2)] : List (Str × V)).lookup x = none := by
  rw [List.lookup_cons, h1, List.lookup_cons, h2]; rfl
theorem d_methK {pl : Sem Bool} (T : Ct X W j) (cl : Cls X.K c.C) (F : MtK X.prog X.w X.K X.mg X.base j' c x n m) (hj : j' ≤ j) (h1 : (x == c.n1) = false) (h2 : (x == c.n2) = false) (hv : PE X (.Name y p2) (tVar di)) (hs : MLk X W .cl (e :: es) fs)
    (hst : starEach (e :: es) X.env = (false, eval e X.env) :: starEach es X.env := by rfl) (hpl : (backTo pos (starEach es X.env)).any (·.1) = false := by rfl)
    (ht : eval (.Call (.Attribute (.Name y p2) x apos) (e :: es) [] pos) X.env = (do
      let ov ← eval (.Name y p2) X.env
      standAt apos.atName
      let (f, first) ← holding [ov] (getMethod ov x pl)
      callWith pos f first (backTo pos (starEach (e :: es) X.env)) (backToKw pos (keywordEach [] X.env))) := by rfl) :
    DMe X W c di (.Call (.Attribute (.Name y p2) x apos) (e :: es) [] pos) (dCall di n m fs) := by
  obtain ⟨f, fd, ps, G, hm, hb⟩ := F.ex
  refine pe_imp (pe_methT (pl := pl) T cl G hm hb hj hv hs hst hpl ht) fun σ H Q q => ?_
  obtain ⟨ρ, a, B, env, r, s, m, w⟩ := q
  obtain ⟨dx, v1, v2, hd, _⟩ := id m.dk
  refine ⟨.ref a, m.self, a, dx, _, rfl, hd, no_field h1 h2, ρ, _, H, env, _, r, m.fm, wpM_mono (wpD_up (wpD_bnd (dSelf_ok m (wpD_bnd w)))) (fun xs r1 w1 vs H1 e1 o1 h1 => ?_) fun ex r1 z C d H1 e1 o1 => z C d H1 (.of e1) o1 (m.dk.ext m.row m.ne e1)⟩
  obtain ⟨hl, w2⟩ := wpD_ite w1
  have h1 := h1.rep
  rw [ex_no m.no] at h1
  exact ⟨ρ, a, r1, s, xs, vs, rfl, m.ne, o1, m.dk.ext m.row m.ne e1, hl, h1, wpD_mono w2 (fun y r2 s2 z v H2 e2 o2 d2 h2 => z v H2 ((ExtA.of e1).trans e2) o2 d2 h2) fun ex r2 s2 z C d H2 e2 => z C d H2 ((ExtA.of e1).trans e2)⟩
def dCall0 (di : Nat) (m : List PV → DM PV) : DE := fun env => dBnd (dUp (dSelf di env)) fun y => m [y]
theorem d_methK0 {pl : Sem Bool} (T : Ct X W j) (cl : Cls X.K c.C) (F : MtK X.prog X.w X.K X.mg X.base j' c x 0 m) (hj : j' ≤ j) (h1 : (x == c.n1) = false) (h2 : (x == c.n2) = false) (hv : PE X (.Name y p2) (tVar di))
    (ht : eval (.Call (.Attribute (.Name y p2) x apos) [] [] pos) X.env = (do
      let ov ← eval (.Name y p2) X.env
      standAt apos.atName
      let (f, first) ← holding [ov] (getMethod ov x pl)
      callWith pos f first (backTo pos (starEach [] X.env)) (backToKw pos (keywordEach [] X.env))) := by rfl) :
    DMe X W c di (.Call (.Attribute (.Name y p2) x apos) [] [] pos) (dCall0 di m) := by
  obtain ⟨f, fd, ps, G, hm, hb⟩ := F.ex
  refine pe_imp (pe_methT0 (pl := pl) T cl G hm hb hj hv ht) fun σ H Q q => ?_
  obtain ⟨ρ, a, B, env, r, s, m, w⟩ := q
  obtain ⟨dx, v1, v2, hd, _⟩ := id m.dk
  exact ⟨.ref a, m.self, a, dx, _, rfl, hd, no_field h1 h2, ρ, a, r, s, [], [], rfl, m.ne, m.row, m.dk, rfl, .nil, dSelf_ok m (wpD_bnd w)⟩
/-- the instance is handed to a def that does not change it, which answers a bool -/
theorem d_callR {mm : List PV → M PV} (T : Ct X W j) (F : FnM X.prog X.w X.K X.mg X.base j' x n mm) (hj : j' ≤ j) (hv : PE X (.Name y p2) (tVar di)) (ha : MLk X W .cl es fs) (hg : Gl X x := by rfl) (hdb : (x == ("__debug__" : Str)) = false := by decide)
    (he : starEach (.Name y p2 :: es) X.env = (false, eval (.Name y p2) X.env) :: starEach es X.env := by rfl) (hpl : (backTo pos (starEach es X.env)).any (·.1) = false := by rfl) : DMe X W c di (.Call (.Name x p) (.Name y p2 :: es) [] pos) (dCallR c n mm fs) := by
  obtain ⟨f, fd, ps, G, hm, hk, hb⟩ := F.ex
  refine pe_imp (pe_callS (E := WE W) G (T.hr.mono hj) hg hm hk hb (passAt T.tk) (pa_cons hv ha he) hdb he hpl) fun σ H Q q => ?_
  obtain ⟨ρ, a, B, env, r, s, m, w⟩ := q
  refine ⟨.ref a, m.self, ρ, _, H, env, _, r, m.fm, wpM_mono (wpD_up (wpD_bnd w)) (fun xs r1 w1 vs H1 e1 o1 h1 => ?_) fun ex r1 z C d H1 e1 o1 => z C d H1 (.of e1) o1 (m.dk.ext m.row m.ne e1)⟩
  have h1 := h1.rep
  rw [ex_no m.no] at h1
  have d1 := m.dk.ext m.row m.ne e1
  have hF : ∀ b, b = ρ.a → NT (H1 b) := fun b z => by rw [z]; exact o1.nt
  refine ⟨ρ, fun b => b = ρ.a, c.obj s :: xs, r1, rfl, hF, o1, .cons (d1.rep hF m.ne) (h1.mono (hx_less fun b z => .inl z)), wpM_mono (wpM_bnd (wpD_up w1)) (fun y r2 w2 v H2 e2 o2 h2 => ?_) fun ex r2 z C d H2 e2 o2 => z C d H2 (.of (e1.trans e2)) o2 (d1.ext o1 m.ne e2)⟩
  obtain ⟨t, rfl, w3⟩ := blO_ok w2
  rw [rep_bl h2]
  exact w3 (.bl t) H2 (.of (e1.trans e2)) o2 (d1.ext o1 m.ne e2) (Flat.bl _ _ _)
end
/-! ### o.copy() -/
/-- a new instance with the same fields -/
def spC (c : Dk) (ok : DS → Prop) : Sp := fun vs H Q _ => ∃ ρ a r s, vs = [.ref a] ∧ a ≠ ρ.a ∧ RowAt ρ H r ∧ DsAt c ρ H a s ∧ ok s ∧ ∀ y H', H y = none → Ext ρ H H' → RowAt ρ H' r → DsAt c ρ H' y s → Q (.ref y) H'
structure MtC (P : Program) (w : World) (K : PySem.W.Frag) (mg : Str → Option Value) (base : Heap) (k : Nat) (c : Dk) (x : Str) (ok : DS → Prop) : Prop where
  ex : ∃ f fd ps, FnOk P w K mg base (L2.CX P w) k f fd ps (spC c ok) ∧ Meth K c.C x f ∧ Binds K fd ps []
open Classical in
noncomputable def dCopy (c : Dk) (ok : DS → Prop) : DE := fun _ r s => if ok s then .ok (c.obj s) r s else .bad
section
variable {X : Cx} {W : WX} {c : Dk} {di : Nat} {pos p p2 apos : Pos} {j j' n : Nat} {x y : Str} {ok : DS → Prop}
theorem d_copy {pl : Sem Bool} (T : Ct X W j) (cl : Cls X.K c.C) (F : MtC X.prog X.w X.K X.mg X.base j' c x ok) (hj : j' ≤ j) (h1 : (x == c.n1) = false) (h2 : (x == c.n2) = false) (hv : PE X (.Name y p2) (tVar di))
    (ht : eval (.Call (.Attribute (.Name y p2) x apos) [] [] pos) X.env = (do
      let ov ← eval (.Name y p2) X.env
      standAt apos.atName
      let (f, first) ← holding [ov] (getMethod ov x pl)
      callWith pos f first (backTo pos (starEach [] X.env)) (backToKw pos (keywordEach [] X.env))) := by rfl) :
    DMe X W c di (.Call (.Attribute (.Name y p2) x apos) [] [] pos) (dCopy c ok) := by
  obtain ⟨f, fd, ps, G, hm, hb⟩ := F.ex
  refine pe_imp (pe_methT0 (pl := pl) T cl G hm hb hj hv ht) fun σ H Q q => ?_
  obtain ⟨ρ, a, B, env, r, s, m, w⟩ := q
  obtain ⟨dx, v1, v2, hd, _⟩ := id m.dk
  unfold dCopy at w
  by_cases hs : ok s
  · rw [if_pos hs] at w
    refine ⟨.ref a, m.self, a, dx, _, rfl, hd, no_field h1 h2, ρ, a, r, s, rfl, m.ne, m.row, m.dk, hs, fun y H' ny e' o' d' => ?_⟩
    have da := m.dk.ext m.row m.ne e'
    refine w (.ref y) H' (.of e') o' da (d'.rep (fun b z => ?_) fun z => ?_)
    · rcases z with z | z
      · rw [z]; exact o'.nt
      · rw [z]; exact da.nt
    · rcases z with z | z
      · exact m.row.there (z ▸ ny)
      · exact m.dk.nt.1.1 (z ▸ ny)
  · rw [if_neg hs] at w; exact w.elim
end
end Mir

/-! the methods that change the instance: some statements, self.f = e, return e -/
namespace Mir
open PySem PySem.Spec PyProof.Rows L2
/-! ### statements that leave self's name alone -/
def tSP (mg : Str → Option Value) (W : WX) (f : Env → M Fl) : TS := fun D σ H => ∃ ρ F B env ad r a, Fm ρ F B H r σ env ad ∧ σ[0]? = some (some (.ref a)) ∧
  wpM (f env r) (fun fl r' => match fl with
      | .nx e => ∀ σ' H' ad', Fm ρ F B H' r' σ' e ad' → σ'[0]? = some (some (.ref a)) → D.nx σ' H'
      | .rt x => ∀ v H', Ext ρ B H' → RowAt ρ H' r' → Rep ρ (Hx H' F) x v → D.rt v H'
      | _ => False)
    (fun e r' => ∀ C d σ' H', (∃ env' ad', Fm ρ F B H' r' σ' env' ad') → ExR mg H' C d e → W C d σ' H')
def tPre (mg : Str → Option Value) (W : WX) (g : Env → M Fl) (t : TS) : TS := fun D σ H => tSP mg W g { D with nx := fun σ' H' => t D σ' H' } σ H
/-- a block that does not end by itself -/
def noNx : Fl → M Fl
  | .rt v => ret (.rt v)
  | _ => fail
def sIf0 (b : Env → M Bool) (g : Env → M Fl) : Env → M Fl := fun env => bnd (b env) fun d => if d = true then bnd (g env) noNx else ret (.nx env)
section
variable {X : Cx} {W : WX} {k : Kd} {pos pos' : Pos} {e : Expr} {j : Nat} {x : Str} {st : Stmt} {rest : List Stmt} {f g : Env → M Fl} {fa : EF} {t : TS}
theorem p_set (T : Ct X W j) (he : ME X W e fa) (i : Nat) (hi0 : 0 ≠ i := by decide) (hi : X.N[i]? = some x := by rfl) (hx : Loc X.env.scope x := by first | exact Or.inl rfl | exact Or.inr rfl) (hs : swapsWith e (some (.Name x pos')) pos.line X.env = pure false := by rfl)
    (hf : X.fn x = true ∨ X.env.scope.names.lookup x = some .local := by first | exact .inl rfl | exact .inr rfl) : PS X (.Assign [.Name x pos'] e pos) (tSP X.mg W (sSet i fa)) := ps_imp (ps_set T.nd hi hx he hs hf) fun D σ H q => by
  obtain ⟨ρ, F, B, env, ad, r, a, m, pin, w⟩ := q
  refine ⟨ρ, F, B, env, ad, r, m, wpM_mono (wpM_bnd w) (fun y r1 w1 v H1 e1 o1 h1 => ?_) fun ex r1 z C d H1 e1 o1 => z C d σ H1 ⟨env, ad, m.step e1 o1⟩⟩
  obtain ⟨hi, w2⟩ := sPut_ok w1
  exact w2 _ H1 ad ((m.step e1 o1).set hi h1) (by rw [List.getElem?_set_ne (Ne.symm hi0)]; exact pin)
theorem p_setLc {y : Str} {py spos : Pos} {bo : Bool} {iter tg elt : Expr} {fs : AF} {scope : Scope} {own : List (Str × Nat)} {t : TP} {sl : List Nat} {ifs : List Expr} {tt : Env → M Bool} {fe : EF} (i : Nat) (T : Ct X W j) (hi : MI X W bo tg iter fs) (ok : BlkOk X.N X.env.scope scope own)
    (hg : ∀ (s : Shared) (H : Hp) (C : Addr) (cl : List (Str × Addr)) (fp : List Addr), MG (X.blk s H scope (compEnvC scope cl C X.env) fp) tg sl t) (ht : ∀ (s : Shared) (H : Hp) (C : Addr) (cl : List (Str × Addr)) (fp : List Addr), MTs (X.blk s H scope (compEnvC scope cl C X.env) fp) W0 ifs tt)
    (he : ∀ (s : Shared) (H : Hp) (C : Addr) (cl : List (Str × Addr)) (fp : List Addr), ME (X.blk s H scope (compEnvC scope cl C X.env) fp) W0 elt fe)
    (hsw : swapsWith (.ListComp elt [⟨tg, iter, ifs, 0⟩] scope pos) (some (.Name y py)) spos.line X.env = pure true) (hi0 : 0 ≠ i := by decide) (hy : X.N[i]? = some y := by rfl) (hyl : X.env.scope.names.lookup y = some .local := by rfl) (hsl : ∀ i ∈ sl, i ∈ own.map (·.2) := by decide) (h0 : 0 ∉ own.map (·.2) := by decide) (hs : ∀ x, foldedSetIterable iter X.env x = pure x := by intro _; rfl) :
    PS X (.Assign [.Name y py] (.ListComp elt [⟨tg, iter, ifs, 0⟩] scope pos) spos) (tSP X.mg W (sSet i (eLc (own.map (·.2)) fs t tt fe))) := ps_imp (ps_setLc T.calm T.nd hy hyl hsw hi ok hg ht he hs) fun D σ H q => by
  refine tLc_of (bo := bo) (W := W) (tt := tt) (fe := fe) (t := t) (sl := sl) (fs := fs) hsl σ H _ ?_
  obtain ⟨ρ, F, B, env, ad, r, a, m, pin, w⟩ := q
  refine ⟨ρ, F, B, env, ad, r, m, wpM_mono (wpM_bnd w) (fun z r1 w1 v H1 e1 o1 h1 => ?_) fun ex r1 z C d H1 e1 o1 => z C d σ H1 ⟨env, ad, m.step e1 o1⟩⟩
  obtain ⟨hi, w2⟩ := sPut_ok w1
  exact w2 _ H1 ad ((m.step e1 o1).set hi (h1.c fun b => m.there)) (by rw [List.getElem?_set_ne (Ne.symm hi0)]; exact pin)
theorem p_expr (he : MEk X W k e fa) (hs : swapsWith e none pos.line X.env = pure false := by rfl) : PS X (.Expr e pos) (tSP X.mg W (sExpr fa)) := ps_imp (ps_expr he hs) fun D σ H q => by
  obtain ⟨ρ, F, B, env, ad, r, a, m, pin, w⟩ := q
  exact ⟨ρ, F, B, env, ad, r, m, wpM_mono (wpM_bnd w) (fun y r1 w1 v H1 e1 o1 h1 => w1 _ H1 ad (m.step e1 o1) pin) fun ex r1 z C d H1 e1 o1 => z C d σ H1 ⟨env, ad, m.step e1 o1⟩⟩
theorem p_if0 {cc : Expr} {fc : Env → M Bool} {ss : List Stmt} (hc : MT X W cc fc) (ha : MSs X W ss g) : PS X (.If cc ss [] pos) (tSP X.mg W (sIf0 fc g)) := ps_imp (ps_if hc ha pss_nil) fun D σ H q => by
  obtain ⟨ρ, F, B, env, ad, r, a, m, pin, w⟩ := q
  refine ⟨ρ, F, B, env, ad, r, m, wpM_mono (wpM_bnd w) (fun d r1 w1 H1 e1 o1 => ?_) fun ex r1 z C d H1 e1 o1 => z C d σ H1 ⟨env, ad, m.step e1 o1⟩⟩
  have m1 := m.step e1 o1
  cases d with
  | false => exact w1 σ H1 ad m1 pin
  | true =>
    refine ⟨ρ, F, B, env, ad, r1, m1, wpM_mono (wpM_bnd w1) (fun fl r2 w2 => ?_) fun _ _ z => z⟩
    cases fl with
    | rt v => exact w2
    | nx e' => exact w2.elim
    | bk e' => exact w2.elim
    | ct e' => exact w2.elim
theorem pp_cons (h1 : PS X st (tSP X.mg W f)) (h2 : PSs X rest (tPre X.mg W g t)) : PSs X (st :: rest) (tPre X.mg W (sSeq f g) t) := pss_imp (pss_cons h1 h2) fun D σ H q => by
  obtain ⟨ρ, F, B, env, ad, r, a, m, pin, w⟩ := q
  refine ⟨ρ, F, B, env, ad, r, a, m, pin, wpM_mono (wpM_bnd w) (fun fl r1 w1 => ?_) fun _ _ z => z⟩
  cases fl with
  | nx e1 => exact fun σ' H' ad' m' pin' => ⟨ρ, F, B, e1, ad', r1, a, m', pin', w1⟩
  | rt v => exact w1
  | bk e1 => exact w1
  | ct e1 => exact w1
theorem pp_end (h : PSs X rest t) : PSs X rest (tPre X.mg W sNext t) := pss_imp h fun D σ H q => by
  obtain ⟨ρ, F, B, env, ad, r, a, m, pin, w⟩ := q
  exact w σ H ad m pin
end
/-! ### what no instance lies behind -/
def lt1 (x : PV) : Bool := tpO x || match x with
  | .lst ys => tpL ys
  | _ => false
theorem rep_lt {ρ : Rw} {G G' : Hp} (g : ∀ b us, G b = some (.tup us) → G' b = some (.tup us)) (gl : ∀ b us, G b = some (.lst us) → G' b = some (.lst us)) {x : PV} {v : V} (h : lt1 x = true) (r : Rep ρ G x v) : Rep ρ G' x v := by
  unfold lt1 at h
  rw [Bool.or_eq_true] at h
  rcases h with h | h
  · exact rep_tp g x v h r
  · split at h
    · unfold Rep at r ⊢
      obtain ⟨b, us, rfl, e, l⟩ := r
      exact ⟨b, us, rfl, gl _ _ e, repL_tp g _ _ h l⟩
    · cases h
def onlyE (i : Nat) (e : Env) : Option Env := match e[i]? with
  | some (.sh x) => if lt1 x = true then some ((List.replicate e.length Slot.no).set i (.sh x)) else none
  | _ => some (List.replicate e.length Slot.no)
def envK (nn : Nat) (xs : List PV) : Env := xs.map .sh ++ List.replicate (nn - xs.length) .no
def moK (c : Dk) (nn i : Nat) (g : Env → M Fl) (h4 h5 : EF) (xs : List PV) : DM PV := fun r s => dBnd (dUp (g (envK nn (c.obj s :: xs.tail)))) (fun fl => match fl with
  | .nx e => dBnd (dUp (h4 e)) fun z => if tpO z = true then dBnd (dUp (ofO (onlyE i e))) fun e5 => dBnd (dUp (noex (h5 e5))) fun v => fun r3 s3 => .ok v r3 (s3.1, z) else dFail
  | .rt v => if lt1 v = true then dRet v else dFail
  | _ => dFail) r s
def tFin (K : PySem.W.Frag) (mg : Str → Option Value) (W : WX) (n2 : Str) (h4 h5 : EF) : TS := tSeq (sFld K (tVar 0) (tE mg W .cl h4) n2) (tRet (tE mg W .cl h5))
theorem putF2 {n1 n2 : Str} {v1 v2 v : V} (h : n1 ≠ n2) : putF n2 v [(n1, v1), (n2, v2)] = [(n1, v1), (n2, v)] := by
  show (if n1 = n2 then _ else (n1, v1) :: (if n2 = n2 then _ else _)) = _
  rw [if_neg h, if_pos rfl]
theorem start0 {N : List Str} {v : V} {vs : List V} : (L2.start N (v :: vs))[0]? = some (some v) := by unfold L2.start; rfl
/-- the second field is changed -/
theorem ds_upd {c : Dk} {ρ : Rw} {H : Hp} {a : Addr} {s : DS} {z : PV} {v : V} {S : Addr → Prop} {dx : Addr} {v1 v2 : V} (hd : H a = some (.ins c.C dx [(c.n1, v1), (c.n2, v2)])) (r1 : Rep ρ (Hx H fun b => NT (H b)) s.1 v1) (hz : tpO z = true) (rz : Rep ρ (Hx H S) z v) :
    DsAt c ρ (upd H a (.ins c.C dx [(c.n1, v1), (c.n2, v)])) a (s.1, z) := by
  refine ⟨dx, v1, v, upd_same, ?_, ?_⟩
  · refine r1.mono fun b o q => ?_
    obtain ⟨q1, q2⟩ := Hx_some q
    have ne : b ≠ a := fun z => q1 (z ▸ nt_ins hd)
    rw [Hx_out (show ¬ NT (upd H a _ b) from by rw [upd_ne ne]; exact q1), upd_ne ne]
    exact q2
  · refine rep_tp (fun b us q => ?_) z v hz rz
    obtain ⟨_, q2⟩ := Hx_some q
    have ne : b ≠ a := fun z => by rw [z, hd] at q2; cases q2
    rw [Hx_out (show ¬ NT (upd H a _ b) from by rw [upd_ne ne, q2]; exact fun n => n.2 _ rfl), upd_ne ne]
    exact q2
section
variable {P : Program} {w : World} {K : PySem.W.Frag} {mg : Str → Option Value} {base : Heap}
theorem fn_methK {c : Dk} {y qual : Str} {st : Stmt} {f : Addr} {fd : FuncData} {N ps : List Str} {k n i : Nat} {g : Env → M Fl} {h4 h5 : EF} (F : Fun K y qual st f fd) (S : FnScope N ps (defScope st)) (hn : ps.length = n + 1) (hm : Meth K c.C y f) (hb : Binds K fd ps [])
    (cl : Cls K c.C) (at2 : NoAttr K c.C c.n2) (nn : c.n1 ≠ c.n2)
    (hbody : ∀ (cdv : Value) (A : Around) (outer : List PySem.Env) (s : Shared) (H : Hp) (E : XK), Ct (cxOf (L2.CX P w) P w K mg base N qual (defScope st) f cdv A outer s H E) (WF E) k →
      PSs (cxOf (L2.CX P w) P w K mg base N qual (defScope st) f cdv A outer s H E) (defBody st) (tPre mg (WF E) g (tFin K mg (WF E) c.n2 h4 h5))) : MtK P w K mg base (k + 1) c y n (moK c N.length i g h4 h5) := by
  have hpl : ps.length ≤ N.length := by
    have := congrArg List.length S.pre
    rw [List.length_take] at this
    omega
  refine ⟨f, fd, ps, F.okX S (fun vs H Q E h => (spK_len h).trans hn.symm) (fun cdv A outer s H vs Q E hr h => ?_), hm, hb⟩
  have T : Ct (cxOf (L2.CX P w) P w K mg base N qual (defScope st) f cdv A outer s H E) (WF E) k := ⟨S.nd, hr, takes_of rfl rfl rfl rfl, passes_of rfl, rfl⟩
  refine ⟨_, hbody cdv A outer s H E T, ?_⟩
  obtain ⟨ρ, a, r, s, xs, us, rfl, ne, hw, d, hl, l, wp⟩ := h
  have hF : ∀ b, b = ρ.a → NT (H b) := fun b z => by rw [z]; exact hw.nt
  have rx : RepL ρ (Hx H fun b => b = ρ.a) (c.obj s :: xs) (.ref a :: us) := .cons (d.rep hF ne) (l.mono (hx_less fun b z => .inl z))
  have m0 := fm_start (mg := mg) (N := N) (F := fun b => b = ρ.a) rfl hF hw rx (by rw [List.length_cons]; omega)
  refine ⟨ρ, _, H, _, _, r, a, m0, start0, wpM_mono (wpD_up (wpD_bnd wp)) (fun fl r1 w1 => ?_) fun ex r1 z C d' σ' H' ⟨env', ad', m'⟩ => z C d' H' (.of m'.ext) m'.row (d.ext hw ne m'.ext)⟩
  have toA : ∀ {H' : Hp}, NT (H' a) → ∀ {x : PV} {v : V} {S : Addr → Prop}, S ρ.a → lt1 x = true → Rep ρ (Hx H' S) x v → (∀ us, H' a ≠ some (.lst us)) → Rep ρ (Hx H' (Ap ρ a)) x v := fun {H'} na {x v S} hS h r nl => by
    refine rep_lt (fun b us q => ?_) (fun b us q => ?_) h r
    · obtain ⟨q1, q2⟩ := Hx_some q
      have n : ¬ Ap ρ a b := fun z => z.elim (fun z => q1 (z ▸ hS)) fun z => na.2 _ (z ▸ q2)
      rw [Hx_out n]; exact q2
    · obtain ⟨q1, q2⟩ := Hx_some q
      have n : ¬ Ap ρ a b := fun z => z.elim (fun z => q1 (z ▸ hS)) fun z => nl _ (z ▸ q2)
      rw [Hx_out n]; exact q2
  have nlst : ∀ {H' : Hp} {s' : DS}, DsAt c ρ H' a s' → ∀ us, H' a ≠ some (.lst us) := fun ⟨_, _, _, e, _⟩ us z => by rw [e] at z; cases z
  cases fl with
  | bk e1 => exact w1.elim
  | ct e1 => exact w1.elim
  | rt x =>
    obtain ⟨hx, w2⟩ := wpD_ite w1
    intro v H' e' o' h'
    have d' := d.ext hw ne e'
    exact w2 v H' (.of e') o' d' (toA d'.nt (S := fun b => b = ρ.a) rfl hx h' (nlst d'))
  | nx e1 =>
    intro σ1 H1 ad1 m1 pin1
    refine ⟨ρ, _, H, e1, ad1, r1, m1, wpM_mono (wpD_up (wpD_bnd w1)) (fun z r2 w2 v4 H2 e2 o2 h4' => ?_) fun ex r2 z C d' H' e' o' => z C d' H' (.of (m1.ext.trans e')) o' (d.ext hw ne (m1.ext.trans e'))⟩
    obtain ⟨hz, w3⟩ := wpD_ite w2
    obtain ⟨e5, he5, w4⟩ := ofO_some (wpD_up (wpD_bnd w3))
    have e02 := m1.ext.trans e2
    have d2 := d.ext hw ne e02
    obtain ⟨dx, v1, v2, hd, g1, g2⟩ := id d2
    refine ⟨.ref a, pin1, a, c.C, dx, _, rfl, hd, cl, at2, (by show 2 < 1000; decide), ?_⟩
    rw [putF2 nn]
    have h4' : Rep ρ (Hx H2 (Ex (fun b => b = ρ.a) e1 ad1)) z v4 := h4'
    have d3 := ds_upd hd g1 hz h4'
    generalize hH3 : upd H2 a (.ins c.C dx [(c.n1, v1), (c.n2, v4)]) = H3 at d3
    have up3 : ∀ {b}, b ≠ a → H3 b = H2 b := fun n => by rw [← hH3, upd_ne n]
    have e23 : ExtA ρ a H2 H3 := fun b o q _ n => by rw [up3 n]; exact q
    have o3 : RowAt ρ H3 r2 := ⟨o2.1, o2.2.1, by rw [up3 (Ne.symm ne)]; exact o2.2.2.1, by rw [up3 fun z => by have := o2.2.2.2; rw [z, hd] at this; cases this]; exact o2.2.2.2⟩
    have nt3 : ∀ b, Ap ρ a b → NT (H3 b) := fun b z => by
      rcases z with z | z
      · rw [z]; exact o3.nt
      · rw [z]; exact d3.nt
    have wS : (∀ (j : Nat) y, e5[j]? ≠ some (.ow y)) ∧ σ1.length = e5.length ∧ ∀ (j : Nat) x, e5[j]? = some (.sh x) → ∃ v, σ1[j]? = some (some v) ∧ Rep ρ (Hx H3 (Ap ρ a)) x v := by
      have rep0 : ∀ (j : Nat) (s : Slot), (List.replicate e1.length Slot.no)[j]? = some s → s = .no := fun j s q => by
        rw [List.getElem?_replicate] at q
        split at q
        · exact (Option.some.inj q).symm
        · cases q
      have plain : some (List.replicate e1.length Slot.no) = some e5 → (∀ (j : Nat) y, e5[j]? ≠ some (.ow y)) ∧ σ1.length = e5.length ∧ ∀ (j : Nat) x, e5[j]? = some (.sh x) → ∃ v, σ1[j]? = some (some v) ∧ Rep ρ (Hx H3 (Ap ρ a)) x v := fun q => by
        cases q
        exact ⟨fun j y q => by (cases rep0 j _ q), by rw [List.length_replicate]; exact m1.len, fun j x q => by (cases rep0 j _ q)⟩
      unfold onlyE at he5
      split at he5
      · rename_i x hx
        split at he5
        · rename_i hlt
          cases he5
          have hi : i < e1.length := by
            rcases Nat.lt_or_ge i e1.length with z | z
            · exact z
            · rw [List.getElem?_eq_none z] at hx; cases hx
          refine ⟨fun j y q => ?_, by rw [List.length_set, List.length_replicate]; exact m1.len, fun j y q => ?_⟩
          · by_cases z : i = j
            · subst z
              rw [List.getElem?_set_self (by rw [List.length_replicate]; exact hi)] at q; cases q
            · rw [List.getElem?_set_ne z] at q
              cases rep0 j _ q
          · by_cases z : i = j
            · subst z
              rw [List.getElem?_set_self (by rw [List.length_replicate]; exact hi)] at q
              cases q
              obtain ⟨u, u1, u2⟩ := m1.sh i x hx
              have u3 := u2.mono (hx_ext m1.exρ e2)
              exact ⟨u, u1, (toA d2.nt m1.exρ hlt u3 (nlst d2)).mono (hx_extA e23)⟩
            · rw [List.getElem?_set_ne z] at q
              cases rep0 j _ q
        · cases he5
      · exact plain he5
    refine ⟨ρ, Ap ρ a, H3, e5, _, r2, fm_at o3 (.inl rfl) nt3 wS.2.1 wS.1 wS.2.2, wpM_mono (wpM_noex (wpD_up (wpD_bnd w4))) (fun x r3 w5 v5 H4 e4 o4 h5' => ?_) fun _ _ z => z.elim⟩
    have h5' : Rep ρ (Hx H4 (Ex (Ap ρ a) e5 _)) x v5 := h5'
    rw [ex_no wS.1] at h5'
    exact w5 v5 H4 (((ExtA.of e02).trans e23).trans (.of e4)) o4 (d3.ext o3 ne e4) h5'
end
end Mir

/-! defs over the second state; try; C(..) that raises; copy -/
namespace Mir
open PySem PySem.Spec PyProof.Rows L2
/-! ### a def whose first argument is the instance -/
def runK (nn : Nat) (body : Env → DM Fl) (xs : List PV) : DM PV := dBnd (body (envK nn xs)) fun fl => match fl with
  | .nx _ => dRet .non
  | .rt v => dRet v
  | _ => dFail
theorem envK_no {nn : Nat} {xs : List PV} : ∀ (i : Nat) y, (envK nn xs)[i]? ≠ some (.ow y) := fun i y e => by
  unfold envK at e
  by_cases hi : i < xs.length
  · rw [List.getElem?_append_left (by simpa using hi), List.getElem?_map, List.getElem?_eq_getElem hi] at e
    cases e
  · rw [List.getElem?_append_right (by simpa using Nat.le_of_not_lt hi), List.getElem?_replicate] at e
    split at e <;> cases e
section
variable {P : Program} {w : World} {K : PySem.W.Frag} {mg : Str → Option Value} {base : Heap}
theorem fn_mirK {c : Dk} {x qual : Str} {st : Stmt} {f : Addr} {fd : FuncData} {N ps : List Str} {k n : Nat} {body : Env → DM Fl} (F : Fun K x qual st f fd) (S : FnScope N ps (defScope st)) (hn : ps.length = n + 1) (hm : mg x = some (.ref f)) (hb : Binds K fd ps [])
    (hbody : ∀ (cdv : Value) (A : Around) (outer : List PySem.Env) (s : Shared) (H : Hp) (E : XK), Ct (cxOf (L2.CX P w) P w K mg base N qual (defScope st) f cdv A outer s H E) (WF E) k →
      DMss (cxOf (L2.CX P w) P w K mg base N qual (defScope st) f cdv A outer s H E) (WF E) c 0 (defBody st) body) : FnK P w K mg base (k + 1) c x n (runK N.length body) := by
  have hpl : ps.length ≤ N.length := by
    have := congrArg List.length S.pre
    rw [List.length_take] at this
    omega
  refine ⟨f, fd, ps, F.okX S (fun vs H Q E h => (spK_len h).trans hn.symm) (fun cdv A outer s H vs Q E hr h => ?_), hm, F.kp, hb⟩
  have T : Ct (cxOf (L2.CX P w) P w K mg base N qual (defScope st) f cdv A outer s H E) (WF E) k := ⟨S.nd, hr, takes_of rfl rfl rfl rfl, passes_of rfl, rfl⟩
  refine ⟨_, hbody cdv A outer s H E T, ?_⟩
  obtain ⟨ρ, a, r, s, xs, us, rfl, ne, hw, d, hl, l, wp⟩ := h
  have hF : ∀ b, Ap ρ a b → NT (H b) := fun b z => by
    rcases z with z | z
    · rw [z]; exact hw.nt
    · rw [z]; exact d.nt
  have rx : RepL ρ (Hx H (Ap ρ a)) (.at_ a :: xs) (.ref a :: us) := .cons (by unfold Rep; rfl) l
  have m0 := fm_start (mg := mg) (N := N) (F := Ap ρ a) (.inl rfl) hF hw rx (by rw [List.length_cons]; omega)
  have f0 : Fd c ρ a 0 H H r s _ (envK N.length (.at_ a :: xs)) := fd_of m0 d ne ExtA.refl envK_no rfl
  refine ⟨ρ, a, H, _, r, s, f0, wpD_mono (wpD_bnd wp) (fun fl r1 s1 w1 => ?_) fun ex r1 s1 z C d σ' H' e' => z C d H' e'⟩
  cases fl with
  | nx e1 => exact fun σ' H' m' => w1 .non H' m'.ext m'.row m'.dk (Flat.non _ _)
  | rt v => exact w1
  | bk e1 => exact w1.elim
  | ct e1 => exact w1.elim
end
/-! ### try -/
def tDS0 (mg : Str → Option Value) (W : WX) (c : Dk) (di : Nat) (f : Env → DM Fl) : TS := fun D σ H => ∃ ρ a B env r s, Fd c ρ a di B H r s σ env ∧
  wpD (f env r s) (fun fl r' s' => match fl with
      | .nx e => ∀ σ' H', Fd c ρ a di B H' r' s' σ' e → D.nx σ' H'
      | .bk e => ∀ σ' H', Fd c ρ a di B H' r' s' σ' e → D.bk σ' H'
      | .ct e => ∀ σ' H', Fd c ρ a di B H' r' s' σ' e → D.ct σ' H'
      | .rt x => ∀ v H', ExtA ρ a B H' → RowAt ρ H' r' → DsAt c ρ H' a s' → Rep ρ (Hx H' (Ap ρ a)) x v → D.rt v H')
    (fun e r' s' => ∀ C d H', ExtA ρ a H H' → RowAt ρ H' r' → DsAt c ρ H' a s' → ExR mg H' C d e → W C d σ H')
def dTry (ns : List Str) (t i : Nat) (hs : List (Str × HV)) (di : Nat) (body : Env → DM Fl) : Env → DM Fl := fun env r s => match body env r s with
  | .ex e r' s' => dBnd (dUp (catchO ns t i hs env e)) (dKeep di env) r' s'
  | o => o
section
variable {X : Cx} {W : WX} {c : Dk} {di : Nat} {pos pos' p : Pos} {e : Expr} {i j t : Nat} {x : Str} {S : Str} {ns fl : List Str} {f : Env → DM Fl} {fa : DE}
theorem ds_set0 (T : Ct X W j) (he : DMe X W c di e fa) (i : Nat) (hi : X.N[i]? = some x := by rfl) (hx : Loc X.env.scope x := by first | exact Or.inl rfl | exact Or.inr rfl) (hs : swapsWith e (some (.Name x pos')) pos.line X.env = pure false := by rfl)
    (hf : X.fn x = true ∨ X.env.scope.names.lookup x = some .local := by first | exact .inl rfl | exact .inr rfl) : PSs X [.Assign [.Name x pos'] e pos] (tDS0 X.mg W c di (dSet i di fa)) := pss_one (ps_imp (ps_set T.nd hi hx he hs hf) fun D σ H q => by
  obtain ⟨ρ, a, B, env, r, s, m, w⟩ := q
  refine ⟨ρ, a, B, env, r, s, m, wpD_mono (wpD_bnd w) (fun y r1 s1 w1 v H1 e1 o1 d1 h1 => ?_) fun ex r1 s1 z => z⟩
  obtain ⟨⟨hi, hn⟩, w2⟩ := wpD_ite w1
  exact w2 _ H1 ((m.step e1 o1 d1).set hi hn h1))
theorem ds_try {body : List Stmt} {h₀ : ExceptHandler} {hds : List ExceptHandler} {l : List TryN.Cl} {hs : List (Str × HV)} (T : Ct X W j) (G : XTab X.K X.mg S ns fl) (hM : HdsM X ns t i (h₀ :: hds) l hs)
    (hb : ∀ (W' : WX) (pn : List (Addr × Obj)) (xe : Value → Shared → Prop), Ct (X.tr pn xe) W' j → PSs (X.tr pn xe) body (tDS0 X.mg W' c di f)) (hst : X.stack = X.env :: X.outer := by rfl) (hfr : X.env.frame = some X.env.locals := by rfl) :
    DMs X W c di (.Try body (h₀ :: hds) [] [] pos) (dTry ns t i hs di f) := ps_imp (TryN.ps_tryN (tb := fun W' => tDS0 X.mg W' c di f) hst hfr T.tk T.nd (fun W' pn xe tk po => hb W' pn xe ⟨T.nd, T.hr, tk, po, T.calm⟩) hM.hds) fun D σ H q => by
  obtain ⟨ρ, a, B, env, r, s, m, w⟩ := q
  refine ⟨ρ, a, B, env, r, s, m, ?_⟩
  unfold dTry at w
  cases e : f env r s with
  | bad => rw [e] at w; exact w.elim
  | ok fl' r' s' => rw [e] at w; exact w
  | ex x r' s' =>
    rw [e] at w
    obtain ⟨he, hh⟩ := catchO_ok (wpD_up (wpD_bnd w))
    intro C d H' e1 o1 d1 hx
    refine try_w (K := X.K) G hM (m.step e1 o1 d1).fm hx he ?_
    rcases hh with ⟨q, k⟩ | ⟨hv, v, q, q2, cc, k⟩
    · rw [q]; exact k C d σ H' (m.ext.trans e1) o1 d1 hx
    · rw [q]
      obtain ⟨kk, k'⟩ := wpD_ite k
      obtain ⟨k1, k2⟩ := keepB_ok kk
      exact ⟨v, q2, cc.1, cc.2.1, cc.2.2.1, cc.2.2.2, fun σ' H2 ad' m' => k' σ' H2 (fd_of m' (d1.ext o1 m.ne m'.ext) m.ne ((m.ext.trans e1).trans (.of m'.ext)) k2 (k1.trans m.dv))⟩
end
/-! ### C(..): an __init__ that may raise in its two tests -/
def spDX (mg : Str → Option Value) (C : Addr) (n1 n2 : Str) (n : Nat) (mi : List PV → M (PV × PV)) : Sp := fun vs H Q E => ∃ (ρ : Rw) (F : Addr → Prop) (r : RS) (x dx : Addr) (xs : List PV) (us : List V), vs = .ref x :: us ∧ x ≠ ρ.a ∧ F ρ.a ∧ (∀ b, F b → NT (H b)) ∧ RowAt ρ H r ∧ H x = some (.ins C dx []) ∧ xs.length = n ∧ RepL ρ (Hx H fun b => F b ∨ b = x) xs us ∧
  wpM (mi xs r) (fun z r' => ∀ v1 v2 H', (∀ b o, H b = some o → b ≠ ρ.a → b ≠ x → H' b = some o) → RowAt ρ H' r' → H' x = some (.ins C dx [(n1, v1), (n2, v2)]) → Rep ρ (Hx H' fun b => F b ∨ b = x) z.1 v1 → Rep ρ (Hx H' fun b => F b ∨ b = x) z.2 v2 → Q .non H')
    (fun e r' => ∀ Ce d H', (∀ b o, H b = some o → b ≠ ρ.a → b ≠ x → H' b = some o) → RowAt ρ H' r' → ExR mg H' Ce d e → E Ce d H')
structure MkX (P : Program) (w : World) (K : PySem.W.Frag) (mg : Str → Option Value) (base : Heap) (k : Nat) (x : Str) (C : Addr) (n1 n2 : Str) (n : Nat) (mi : List PV → M (PV × PV)) : Prop where
  ex : ∃ f fd ps, FnOk P w K mg base (L2.CX P w) k f fd ps (spDX mg C n1 n2 n mi) ∧ mg x = some (.ref C) ∧ Mk K C f ∧ Binds K fd ps []
section
variable {P : Program} {w : World} {K : PySem.W.Frag} {mg : Str → Option Value} {base : Heap}
theorem fn_init2X {y qual n1 n2 : Str} {st s1 s2 : Stmt} {e3 e4 o3 o4 : Expr} {q1 q2 q3 q4 : Pos} {f C : Addr} {fd : FuncData} {N ps : List Str} {k n : Nat} {g1 g2 h3 h4 : EF} {mi : List PV → M (PV × PV)} (F : Fun K y qual st f fd) (S : FnScope N ps (defScope st)) (hn : ps.length = n + 1)
    (c : Cls K C) (a1 : NoAttr K C n1) (a2 : NoAttr K C n2) (nn : n1 ≠ n2) (hd : defBody st = [s1, s2, .Assign [.Attribute o3 n1 q1] e3 q2, .Assign [.Attribute o4 n2 q3] e4 q4])
    (hmi : ∀ x xs, xs.length = n → miOf g1 g2 h3 h4 N.length (.at_ x) xs = mi xs)
    (hbody : ∀ (cdv : Value) (A : Around) (outer : List PySem.Env) (s : Shared) (H : Hp) (E : XK), Ct (cxOf (L2.CX P w) P w K mg base N qual (defScope st) f cdv A outer s H E) (WF E) k →
      MS (cxOf (L2.CX P w) P w K mg base N qual (defScope st) f cdv A outer s H E) (WF E) s1 (sExpr g1) ∧ MS (cxOf (L2.CX P w) P w K mg base N qual (defScope st) f cdv A outer s H E) (WF E) s2 (sExpr g2) ∧
      PS (cxOf (L2.CX P w) P w K mg base N qual (defScope st) f cdv A outer s H E) (.Assign [.Attribute o3 n1 q1] e3 q2) (sFld K (tVar 0) (tE mg (WF E) .cl h3) n1) ∧
      PS (cxOf (L2.CX P w) P w K mg base N qual (defScope st) f cdv A outer s H E) (.Assign [.Attribute o4 n2 q3] e4 q4) (sFld K (tVar 0) (tE mg (WF E) .cl h4) n2)) :
    FnOk P w K mg base (L2.CX P w) (k + 1) f fd ps (spDX mg C n1 n2 n mi) := by
  have hpl : ps.length ≤ N.length := by
    have := congrArg List.length S.pre
    rw [List.length_take] at this
    omega
  refine F.okX S (fun vs H Q E h => ?_) (fun cdv A outer s H vs Q E hr h => ?_)
  · obtain ⟨ρ, F', r, x, dx, xs, us, rfl, _, _, _, _, _, hl, l, _⟩ := h
    rw [List.length_cons, l.length, hl, hn]
  have T : Ct (cxOf (L2.CX P w) P w K mg base N qual (defScope st) f cdv A outer s H E) (WF E) k := ⟨S.nd, hr, takes_of rfl rfl rfl rfl, passes_of rfl, rfl⟩
  obtain ⟨p1, p2, p3, p4⟩ := hbody cdv A outer s H E T
  rw [hd]
  refine ⟨_, pss_cons p1 (pss_cons p2 (pss_cons p3 (pss_one p4))), ?_⟩
  obtain ⟨ρ, F', r, x, dx, xs, us, rfl, xρ, hρ, hF, hw, hx, hl, l, wp⟩ := h
  rw [← hmi x xs hl] at wp
  unfold miOf at wp
  have hFx : ∀ b, (F' b ∨ b = x) → NT (H b) := fun b z => by
    rcases z with z | z
    · exact hF b z
    · rw [z, hx]; exact ⟨⟨(fun y => by cases y), (fun fs y => by cases y)⟩, (fun fs y => by cases y)⟩
  have rx : RepL ρ (Hx H fun b => F' b ∨ b = x) (.at_ x :: xs) (.ref x :: us) := .cons (by unfold Rep; rfl) l
  have m0 := fm_start (mg := mg) (N := N) (F := fun b => F' b ∨ b = x) (.inl hρ) hFx hw rx (by rw [List.length_cons]; omega)
  rw [List.length_cons] at m0
  have exS : ∀ (ad : Nat → Addr) (b : Addr), Ex (fun b => F' b ∨ b = x) ((PV.at_ x :: xs).map Slot.sh ++ List.replicate (N.length - (xs.length + 1)) Slot.no) ad b ↔ (F' b ∨ b = x) := fun ad b => ex_sh
  have self0 : ((PV.at_ x :: xs).map Slot.sh ++ List.replicate (N.length - (xs.length + 1)) Slot.no)[0]? = some (.sh (.at_ x)) := rfl
  generalize henv : (PV.at_ x :: xs).map Slot.sh ++ List.replicate (N.length - (xs.length + 1)) Slot.no = env at m0 exS self0 wp
  have selfS : ∀ {B H : Hp} {r : RS} {σ : L2.St} {ad : Nat → Addr}, Fm ρ (fun b => F' b ∨ b = x) B H r σ env ad → σ[0]? = some (some (.ref x)) := fun m => by
    obtain ⟨v, e, rr⟩ := m.sh 0 _ self0
    unfold Rep at rr
    rw [e, rr]
  have up : ∀ {H' : Hp}, Ext ρ H H' → ∀ b o, H b = some o → b ≠ ρ.a → b ≠ x → H' b = some o := fun e b o q n _ => e b o q n
  refine ⟨ρ, _, H, env, _, r, m0, ?_⟩
  unfold sExpr
  refine w_bnd (wpM_mono (wpM_bnd wp) (fun v1 r1 w1 => ?_) fun ex r1 z C d σ' H' ⟨env', ad', m'⟩ => z C d H' (up m'.ext) m'.row)
  intro σ1 H1 ad1 m1
  refine ⟨ρ, _, H, env, _, r1, m1, ?_⟩
  refine w_bnd (wpM_mono (wpM_bnd w1) (fun v2 r2 w2 => ?_) fun ex r1 z C d σ' H' ⟨env', ad', m'⟩ => z C d H' (up m'.ext) m'.row)
  intro σ2 H2 ad2 m2
  have hx2 : H2 x = some (.ins C dx []) := m2.ext x _ hx xρ
  refine ⟨ρ, _, H, env, _, r2, m2, wpM_mono (wpM_bnd w2) (fun z3 r3 w3 v3 H3 e3' o3' h3' => ?_) fun ex r1 z C d H' e' o' => z C d H' (up (m2.ext.trans e')) o'⟩
  have m3 := m2.step e3' o3'
  have hx3 : H3 x = some (.ins C dx []) := e3' x _ hx2 xρ
  refine ⟨.ref x, selfS m2, x, C, dx, [], rfl, hx3, c, a1, by decide, ?_⟩
  let B' : Hp := fun b => if b = x then none else H b
  have nB : B' x = none := if_pos rfl
  have lsx : ρ.ls ≠ x := fun z => by
    have := hw.2.2.2
    rw [z, hx] at this
    cases this
  have hB : ∀ b o, B' b = some o → H b = some o := fun b o q => by
    by_cases z : b = x
    · rw [z, nB] at q; cases q
    · have e : B' b = H b := if_neg z
      rw [e] at q; exact q
  have m4 : Fm ρ (fun b => F' b ∨ b = x) B' (upd H3 x (.ins C dx (putF n1 v3 []))) r3 σ2 env ad2 := (m3.base (B' := B') hB (by rw [show B' ρ.ls = H ρ.ls from if_neg lsx, hw.2.2.2]; simp)).updF nB xρ
  have upB : ∀ {H' : Hp}, Ext ρ B' H' → ∀ b o, H b = some o → b ≠ ρ.a → b ≠ x → H' b = some o := fun e b o q n n2 => e b o (by rw [show B' b = H b from if_neg n2]; exact q) n
  refine ⟨ρ, _, B', env, _, r3, m4, wpM_mono (wpM_bnd w3) (fun z4 r4 w4 v4 H4 e4' o4' h4' => ?_) fun ex r1 z C d H' e' o' => z C d H' (upB (m4.ext.trans e')) o'⟩
  have hx4 : H4 x = some (.ins C dx (putF n1 v3 [])) := e4' x _ upd_same xρ
  refine ⟨.ref x, selfS m4, x, C, dx, _, rfl, hx4, c, a2, by show 1 < 1000; decide, ?_⟩
  have m5 := (m4.step e4' o4').updF (o := .ins C dx (putF n2 v4 (putF n1 v3 []))) nB xρ
  have ef : putF n2 v4 (putF n1 v3 []) = [(n1, v3), (n2, v4)] := by
    show (if n1 = n2 then _ else _) = _
    rw [if_neg nn]; rfl
  have xe : ∀ (ad : Nat → Addr), (Ex (fun b => F' b ∨ b = x) env ad) = fun b => F' b ∨ b = x := fun ad => funext fun b => propext (exS ad b)
  refine w4 v3 v4 _ (upB m5.ext) m5.row (by rw [← ef]; exact upd_same) ?_ ?_
  · have h3' : Rep ρ (Hx H3 (Ex (fun b => F' b ∨ b = x) env ad2)) z3 v3 := h3'
    rw [xe] at h3'
    refine h3'.mono fun b o q => ?_
    obtain ⟨y1, y2⟩ := Hx_some q
    rw [Hx_out y1, upd_ne fun z => y1 (.inr z)]
    exact e4' b o (by rw [upd_ne fun z => y1 (.inr z)]; exact y2) fun z => y1 (.inl (z ▸ hρ))
  · have h4' : Rep ρ (Hx H4 (Ex (fun b => F' b ∨ b = x) env ad2)) z4 v4 := h4'
    rw [xe] at h4'
    refine h4'.mono fun b o q => ?_
    obtain ⟨y1, y2⟩ := Hx_some q
    rw [Hx_out y1, upd_ne fun z => y1 (.inr z)]; exact y2
end
/-- a new instance is made -/
theorem mk_run {ρ : Rw} {F : Addr → Prop} {H1 : Hp} {r1 : RS} {C y dy : Addr} {n1 n2 : Str} {n : Nat} {mi : List PV → M (PV × PV)} {mg : Str → Option Value} {xs : List PV} {vs : List V} {Q : Hp → Prop} {E : XK} (hρ : F ρ.a) (dom : ∀ b, F b → NT (H1 b)) (o1 : RowAt ρ H1 r1) (hl : xs.length = n) (h1 : RepL ρ (Hx H1 F) xs vs)
    (ny : H1 y = none) (nd : H1 dy = none) (ne : dy ≠ y) (w : wpM (mi xs r1) (fun z r' => ∀ v1 v2 H', Ext ρ H1 H' → RowAt ρ H' r' → H' y = some (.ins C dy [(n1, v1), (n2, v2)]) → Rep ρ (Hx H' F) z.1 v1 → Rep ρ (Hx H' F) z.2 v2 → Q H') (fun e r' => ∀ Ce d H', Ext ρ H1 H' → RowAt ρ H' r' → ExR mg H' Ce d e → E Ce d H')) :
    spDX mg C n1 n2 n mi (.ref y :: (vs ++ [])) (upd (upd H1 dy (.own y)) y (.ins C dy [])) (fun v H2 => v = .non ∧ Q H2) E := by
  have yρ : y ≠ ρ.a := fun z => o1.there (z ▸ ny)
  have dρ : dy ≠ ρ.a := fun z => o1.there (z ▸ nd)
  have s1 : Same H1 (upd (upd H1 dy (.own y)) y (.ins C dy [])) := fun b o q => by
    rw [upd_ne (ne_of_none q ny), upd_ne (ne_of_none q nd)]; exact q
  have back : ∀ {H' : Hp}, (∀ b o, upd (upd H1 dy (.own y)) y (.ins C dy []) b = some o → b ≠ ρ.a → b ≠ y → H' b = some o) → Ext ρ H1 H' := fun k1 b o hb n => k1 b o (s1 b o hb) n fun z => by rw [z, ny] at hb; cases hb
  refine ⟨ρ, F, r1, y, dy, xs, vs, by rw [List.append_nil], yρ, hρ, fun b z => ?_, o1.same s1, upd_same, hl, ?_, wpM_mono w (fun z r' w' v1 v2 H' k1 k2 k3 k4 k5 => ?_) fun ex r' z Ce d H' k1 k2 k3 => z Ce d H' (back k1) k2 k3⟩
  · have n := dom b z
    cases q : H1 b with
    | none => exact absurd q n.1.1
    | some o => rw [s1 b o q, ← q]; exact n
  · refine h1.mono fun b o q => ?_
    obtain ⟨y1, y2⟩ := Hx_some q
    have nb : ¬ (F b ∨ b = y) := fun z => z.elim y1 fun z => by rw [z, ny] at y2; cases y2
    rw [Hx_out nb]
    exact s1 b o y2
  · have less : ∀ b o, Hx H' (fun b => F b ∨ b = y) b = some o → Hx H' F b = some o := hx_less fun b z => .inl z
    exact ⟨rfl, w' v1 v2 H' (back k1) k2 k3 (k4.mono less) (k5.mono less)⟩
section
variable {X : Cx} {CX' : CXT} {k : Nat} {f C : Addr} {fd : FuncData} {ps : List Str} {sp : Sp} {E : L2.St → XK} {x : Str} {p pos : Pos} {e : Expr} {es : List Expr} {t : TA}
theorem run_makeS {pins : List (Addr × Obj)} {σ : L2.St} {H : Hp} {s : Shared} {Q : VK} {us : List Value} {vs : List V} {E : XK} (M : Mk X.K C f) (F : FnOk X.prog X.w X.K X.mg X.base CX' k f fd ps sp) (hr : Room (k + 1) X.A) (hb : Binds X.K fd ps [])
    (hx : PassesAt CX' X σ E) (I : Inv X pins σ H s) (r : Vals vs us)
    (h : ∀ x dx, H x = none → H dx = none → dx ≠ x → sp (.ref x :: (vs ++ [])) (upd (upd H dx (.own x)) x (.ins C dx [])) (fun v H2 => v = .non ∧ Q (.ref x) H2) E) :
    wpAny (model X.prog X.w) X.A (call (.ref C) us) (EP X pins σ Q) X.xe s := by
  have hq := h (s.heap.objs.size + 1) s.heap.objs.size (I.hok.fresh (Nat.le_succ _)) (I.hok.fresh (Nat.le_refl _)) (Nat.ne_of_lt (Nat.lt_succ_self _))
  have I2 := Inv.made (C := C) I
  have r2 : Vals (V.ref (s.heap.objs.size + 1) :: (vs ++ [])) (Value.ref (s.heap.objs.size + 1) :: (us ++ [])) := .cons rfl (r.append .nil)
  have hl : (Value.ref (s.heap.objs.size + 1) :: us ++ []).length = ps.length := by
    have e := r2.length
    rw [F.len _ _ _ _ hq] at e
    exact e.symm
  refine wpAny_call (make_map (f := f) I.kIn M.makes M.init (beq_iff_eq.mp M.fn) (codeAny_mono (F.run _ X.stack _ _ ⟨Value.ref (s.heap.objs.size + 1) :: us, []⟩ (Value.ref (s.heap.objs.size + 1) :: (us ++ [])) _ _ E (hr.make C us [])
    (I2.env0.make C us []) (by
      have h0 := hb _ (Value.ref (s.heap.objs.size + 1) :: us) I2.kIn hl
      rw [List.cons_append] at h0
      exact h0) r2 hq) fun r s' hq' => ?_))
  cases r with
  | error e => exact hx pins _ _ e s' I2 hq'
  | ok fl =>
    cases fl with
    | ret u =>
      obtain ⟨v, H', I3, rv, ev, q3⟩ := I2.after hq'
      subst ev
      exact ⟨rv, ⟨V.ref (s.heap.objs.size + 1), H', I3, rfl, q3⟩⟩
    | next => exact False.elim hq'
    | brk => exact False.elim hq'
    | cont => exact False.elim hq'
theorem pe_makeS (M : Mk X.K C f) (F : FnOk X.prog X.w X.K X.mg X.base CX' k f fd ps sp) (hr : Room (k + 1) X.A) (hg : Gl X x) (hm : X.mg x = some (.ref C)) (hb : Binds X.K fd ps []) (hx : ∀ σ, PassesAt CX' X σ (E σ))
    (ha : PA X (e :: es) t) (hdb : (x == ("__debug__" : Str)) = false := by decide) (he : starEach (e :: es) X.env = (false, eval e X.env) :: starEach es X.env := by rfl) (hpl : (backTo pos (starEach es X.env)).any (·.1) = false := by rfl) :
    PE X (.Call (.Name x p) (e :: es) [] pos) (fun σ H Q => t σ H fun vs H1 => ∀ x dx, H1 x = none → H1 dx = none → dx ≠ x → sp (.ref x :: (vs ++ [])) (upd (upd H1 dx (.own x)) x (.ins C dx [])) (fun v H2 => v = .non ∧ Q (.ref x) H2) (E σ)) := by
  refine ⟨fun pins s σ H Q I h => ?_⟩
  refine wpAny_Call_Name_kw (ld_glob I hg hm ?_ hdb)
  refine PySem.W.callWith_K (h₀ := X.base) I.ok.mod.kin M.kp (thn (ha.run pos pins s σ H _ I h) fun us s1 ⟨vs, H1, I1, r, q⟩ => ⟨I1.kIn, ?_⟩) he hpl
  exact run_makeS M F hr hb (hx σ) I1 r q
end
/-- C(..) that raises -/
def eMakeX (n : Nat) (mi : List PV → M (PV × PV)) (fs : AF) : EF := fun env => bnd (fs env) fun xs r => if xs.length = n then match mi xs r with
  | .ex e r' => .ex e r'
  | _ => .bad
  else .bad
section
variable {X : Cx} {W : WX} {C : Addr} {e : Expr} {es : List Expr} {fs : AF} {x n1 n2 : Str} {pos p : Pos} {j j' n : Nat} {mi : List PV → M (PV × PV)}
theorem me_makeX (T : Ct X W j) (G : MkX X.prog X.w X.K X.mg X.base j' x C n1 n2 n mi) (hj : j' + 1 ≤ j) (hs : MLk X W .cl (e :: es) fs) (hg : Gl X x := by rfl) (hdb : (x == ("__debug__" : Str)) = false := by decide)
    (he : starEach (e :: es) X.env = (false, eval e X.env) :: starEach es X.env := by rfl) (hpl : (backTo pos (starEach es X.env)).any (·.1) = false := by rfl) : ME X W (.Call (.Name x p) (e :: es) [] pos) (eMakeX n mi fs) := by
  obtain ⟨f, fd, ps, G, hm, M, hb⟩ := G.ex
  refine pe_imp (pe_makeS (E := WE W) M G (T.hr.mono hj) hg hm hb (passAt T.tk) hs hdb he hpl) fun σ H Q q => ?_
  obtain ⟨ρ, F', B, env, ad, r, mm, w⟩ := q
  refine ⟨ρ, F', B, env, ad, r, mm, wpM_mono (wpM_bnd w) (fun xs r1 w1 vs H1 e1 o1 h1 => ?_) fun _ _ z => z⟩
  intro y dy ny nd ne
  have m1 := mm.step e1 o1
  have w1 : wpM (if xs.length = n then (match mi xs r1 with | .ex e r' => Out.ex e r' | _ => .bad) else .bad) _ _ := w1
  by_cases hl : xs.length = n
  · rw [if_pos hl] at w1
    refine mk_run m1.exρ (fun b => m1.nt) o1 hl h1.rep ny nd ne ?_
    cases q : mi xs r1 with
    | bad => rw [q] at w1; exact w1.elim
    | ok z r' => rw [q] at w1; exact w1.elim
    | ex e' r' =>
      rw [q] at w1
      exact fun Ce d H' e' o' h' => w1 Ce d H' (e1.trans e') o' h'
  · rw [if_neg hl] at w1; exact w1.elim
end
end Mir

/-! len(o); o.copy(); a def that copies its instance; the law -/
namespace Mir
open PySem PySem.Spec PyProof.Rows L2
/-! ### len of an instance with its own __len__ -/
structure LnM (P : Program) (w : World) (K : PySem.W.Frag) (mg : Str → Option Value) (base : Heap) (k : Nat) (C : Addr) (m : List PV → M PV) : Prop where
  ex : ∃ f fd ps, FnOk P w K mg base (L2.CX P w) k f fd ps (spM mg 1 m) ∧ PySem.W.findIn K (.ref C) "__len__" = some (some (.ref f)) ∧ PySem.W.isFn K (.ref f) = true ∧ Binds K fd ps []
def lenO : PV → M PV
  | .int n => if 0 ≤ n ∧ n < 2 ^ 63 then ret (.int n) else fail
  | _ => fail
def eLenI (C : Addr) (m : List PV → M PV) (fo : EF) : EF := fun env => bnd (fo env) fun o => if isObjC C o = true then bnd (noX m o) lenO else fail
theorem lenO_ok {x : PV} {r : RS} {K : PV → RS → Prop} {E : Exn → RS → Prop} (h : wpM (lenO x r) K E) : ∃ n, x = .int n ∧ (0 ≤ n ∧ n < 2 ^ 63) ∧ K (.int n) r := by
  cases x with
  | int n =>
    obtain ⟨a, b⟩ := wpM_ite h
    exact ⟨n, rfl, a, b⟩
  | _ => exact h.elim
section
variable {X : Cx} {W : WX} {C : Addr} {a : Expr} {fa : EF} {pos p : Pos} {j j' : Nat} {m : List PV → M PV}
theorem call_lenI {f : Addr} {fd : FuncData} {ps : List Str} {sp : Sp} (G : FnOk X.prog X.w X.K X.mg X.base (L2.CX X.prog X.w) j' f fd ps sp) (hs : PySem.W.findIn X.K (.ref C) "__len__" = some (some (.ref f))) (hf : PySem.W.isFn X.K (.ref f) = true) (hb : Binds X.K fd ps []) (hr : Room (j' + 1) X.A) :
    CallR X (.builtin "len") (fun xs H Q => ∃ b dx fs, xs = [.ref b] ∧ H b = some (.ins C dx fs) ∧ sp [.ref b] H (fun v H' => ∃ n, v = .int n ∧ (0 ≤ n ∧ n < 2 ^ 63) ∧ Q (.int n) H') (fun _ _ _ => False)) := by
  intro pins s σ H xs us Q I r h
  obtain ⟨b, dx, fs, rfl, hb', hsp⟩ := h
  obtain ⟨u, rfl, ru⟩ := vals1 r
  obtain rfl : u = Value.ref b := ru
  obtain ⟨mA, O, _, _, _, _⟩ := ins_get I.hok hb'
  obtain ⟨od, J, _⟩ := O.look
  obtain ⟨m, hF⟩ := I.fr
  have hl := G.len _ _ _ _ hsp
  refine PySem.W.len_K hF I.ok.mod.kin J hs hf (wpAny_call (codeAny_mono (G.run X.A.in1 X.stack s H ⟨[.ref b], []⟩ [.ref b] [.ref b] _ _ hr.in1 I.env0.in1 (by
    have := hb s [.ref b] I.kIn (by simpa using hl)
    simpa using this) (.cons rfl .nil) hsp) fun r s' hq => ?_))
  cases r with
  | error er => exact (cxNo hq).elim
  | ok fl =>
    cases fl with
    | ret u =>
      obtain ⟨v, H', I3, rv, n, ev, hn, q3⟩ := I.after hq
      subst ev
      obtain ⟨t, rfl⟩ := rv
      exact ⟨hn, .int n, H', I3.tok _, ⟨_, rfl⟩, q3⟩
    | next => exact False.elim hq
    | brk => exact False.elim hq
    | cont => exact False.elim hq
theorem me_lenI (T : Ct X W j) (F : LnM X.prog X.w X.K X.mg X.base j' C m) (hj : j' + 1 ≤ j) (ha : ME X W a fa) (hm : X.mg "len" = none) (hg : Gl X "len" := by rfl)
    (he : starEach [a] X.env = (false, eval a X.env) :: starEach [] X.env := by rfl) (hpl : (backTo pos (starEach [] X.env)).any (·.1) = false := by rfl) : ME X W (.Call (.Name "len" p) [a] [] pos) (eLenI C m fa) := by
  obtain ⟨f, fd, ps, G, hs, hf, hb⟩ := F.ex
  refine pe_imp (pe_callB (id := "len") (call_lenI (X := X) G hs hf hb (T.hr.mono hj)) hg hm rfl (pa_cons ha pa_nil he) (by decide) (by decide) he hpl) fun σ H Q q => ?_
  obtain ⟨ρ, F', B, env, ad, r, mm, w⟩ := q
  refine ⟨ρ, F', B, env, ad, r, mm, wpM_mono (wpM_bnd w) (fun o r1 w1 v H1 e1 o1 h1 => ?_) fun _ _ z => z⟩
  have m1 := mm.step e1 o1
  obtain ⟨hi, w2⟩ := wpM_ite w1
  obtain ⟨ns, xs, rfl⟩ := isObjC_of hi
  have h1 : Rep ρ (Hx H1 (Ex F' env ad)) (.obj C ns xs) v := h1
  have h1' := h1
  unfold Rep at h1'
  obtain ⟨b, dx, vs, rfl, g, l⟩ := h1'
  refine ⟨b, dx, _, rfl, (Hx_some g).2, ρ, Ex F' env ad, [.obj C ns xs], r1, m1.exρ, fun b => m1.nt, o1, .cons h1 .nil, ?_⟩
  have w3 := wpM_bnd w2
  have ec : callN 1 m [PV.obj C ns xs] = m [PV.obj C ns xs] := if_pos rfl
  rw [ec]
  unfold noX at w3
  cases q : m [.obj C ns xs] r1 with
  | bad => rw [q] at w3; exact w3.elim
  | ex e r' => rw [q] at w3; exact w3.elim
  | ok y r2 =>
    rw [q] at w3
    intro v' H2 e2 o2 h2
    obtain ⟨n, rfl, hn, w4⟩ := lenO_ok w3
    exact ⟨n, rep_int h2, hn, w4 (.int n) H2 (e1.trans e2) o2 (show Rep ρ (Hx H2 (Ex F' env ad)) _ _ from Flat.int _ _ _)⟩
end
/-! ### the making, as it stands in a statement -/
def tMkX (mg : Str → Option Value) (W : WX) (C : Addr) (n1 n2 : Str) (n : Nat) (mi : List PV → M (PV × PV)) (fs : AF) : TE := fun σ H Q => tL mg W .cl fs σ H fun vs H1 => ∀ x dx, H1 x = none → H1 dx = none → dx ≠ x →
  spDX mg C n1 n2 n mi (.ref x :: (vs ++ [])) (upd (upd H1 dx (.own x)) x (.ins C dx [])) (fun v H2 => v = .non ∧ Q (.ref x) H2) (WE W σ)
theorem pe_mkX {X : Cx} {W : WX} {C : Addr} {e : Expr} {es : List Expr} {fs : AF} {x n1 n2 : Str} {pos p : Pos} {j j' n : Nat} {mi : List PV → M (PV × PV)} (T : Ct X W j) (G : MkX X.prog X.w X.K X.mg X.base j' x C n1 n2 n mi) (hj : j' + 1 ≤ j) (hs : MLk X W .cl (e :: es) fs) (hg : Gl X x := by rfl) (hdb : (x == ("__debug__" : Str)) = false := by decide)
    (he : starEach (e :: es) X.env = (false, eval e X.env) :: starEach es X.env := by rfl) (hpl : (backTo pos (starEach es X.env)).any (·.1) = false := by rfl) : PE X (.Call (.Name x p) (e :: es) [] pos) (tMkX X.mg W C n1 n2 n mi fs) := by
  obtain ⟨f, fd, ps, G, hm, M, hb⟩ := G.ex
  exact pe_makeS (E := WE W) M G (T.hr.mono hj) hg hm hb (passAt T.tk) hs hdb he hpl
/-! ### o.copy() -/
def okC (c : Dk) (nn : Nat) (mi : List PV → M (PV × PV)) (fs1 : AF) (h2 : EF) (s : DS) : Prop := tpO s.1 = true ∧ tpO s.2 = true ∧ ∀ r, (∃ xs z2, xs.length = 2 ∧ fs1 (envK nn [c.obj s]) r = .ok xs r ∧ mi xs r = .ok (s.1, z2) r) ∧ h2 (envK nn [c.obj s]) r = .ok s.2 r
theorem rep_nt {ρ : Rw} {H H' : Hp} {S : Addr → Prop} {x : PV} {v : V} (h : tpO x = true) (r : Rep ρ (Hx H S) x v) (e : ∀ b us, ¬ S b → H b = some (.tup us) → H' b = some (.tup us)) : Rep ρ (Hx H' fun b => NT (H' b)) x v := rep_tp (fun b us q => by
  obtain ⟨q1, q2⟩ := Hx_some q
  have q3 := e b us q1 q2
  rw [Hx_out (show ¬ NT (H' b) from by rw [q3]; exact fun n => n.2 _ rfl)]
  exact q3) x v h r
section
variable {P : Program} {w : World} {K : PySem.W.Frag} {mg : Str → Option Value} {base : Heap}
theorem fn_copyK {c : Dk} {y qual : Str} {st : Stmt} {f : Addr} {fd : FuncData} {N ps : List Str} {k : Nat} {mi : List PV → M (PV × PV)} {fs1 : AF} {h2 : EF} (F : Fun K y qual st f fd) (S : FnScope N ps (defScope st)) (hn : ps.length = 1) (hN : N.length = 2) (hm : Meth K c.C y f) (hb : Binds K fd ps [])
    (cl : Cls K c.C) (at2 : NoAttr K c.C c.n2) (nn : c.n1 ≠ c.n2)
    (hbody : ∀ (cdv : Value) (A : Around) (outer : List PySem.Env) (s : Shared) (H : Hp) (E : XK), Ct (cxOf (L2.CX P w) P w K mg base N qual (defScope st) f cdv A outer s H E) (WF E) k →
      ∃ s1 s2 s3, defBody st = [s1, s2, s3] ∧ PS (cxOf (L2.CX P w) P w K mg base N qual (defScope st) f cdv A outer s H E) s1 (tAsg (tMkX mg (WF E) c.C c.n1 c.n2 2 mi fs1) (gName 1)) ∧
      PS (cxOf (L2.CX P w) P w K mg base N qual (defScope st) f cdv A outer s H E) s2 (sFld K (tVar 1) (tE mg (WF E) .cl h2) c.n2) ∧ PS (cxOf (L2.CX P w) P w K mg base N qual (defScope st) f cdv A outer s H E) s3 (tRet (tVar 1))) :
    MtC P w K mg base (k + 1) c y (okC c N.length mi fs1 h2) := by
  refine ⟨f, fd, ps, F.okX S (fun vs H Q E h => ?_) (fun cdv A outer s H vs Q E hr h => ?_), hm, hb⟩
  · obtain ⟨ρ, a, r, s, rfl, _⟩ := h
    exact hn.symm
  have T : Ct (cxOf (L2.CX P w) P w K mg base N qual (defScope st) f cdv A outer s H E) (WF E) k := ⟨S.nd, hr, takes_of rfl rfl rfl rfl, passes_of rfl, rfl⟩
  obtain ⟨s1, s2, s3, hd, p1, p2, p3⟩ := hbody cdv A outer s H E T
  rw [hd]
  refine ⟨_, pss_cons p1 (pss_cons p2 (pss_one p3)), ?_⟩
  obtain ⟨ρ, a, r, s, rfl, ne, hw, d, ⟨t1, t2, hok⟩, q⟩ := h
  obtain ⟨⟨xs, z2, hl, x1, x2⟩, x3⟩ := hok r
  have hF : ∀ {H' : Hp}, RowAt ρ H' r → ∀ b, b = ρ.a → NT (H' b) := fun o b z => by rw [z]; exact o.nt
  have m0 := fm_start (mg := mg) (N := N) (F := fun b => b = ρ.a) rfl (hF hw) hw (RepL.cons (d.rep (hF hw) ne) .nil) (by rw [List.length_singleton, hN]; decide)
  have hσ : (L2.start N [V.ref a]).length = N.length := by
    have := m0.len
    rw [this]
    show (envK N.length [c.obj s]).length = _
    unfold envK
    rw [List.length_append, List.length_map, List.length_replicate, List.length_singleton, hN]
  show tL mg (WF E) .cl fs1 (L2.start N [V.ref a]) H _
  refine ⟨ρ, _, H, envK N.length [c.obj s], _, r, m0, ?_⟩
  rw [x1]
  intro vs H1 e1 o1 h1 y dy ny nd nyd
  have h1 := h1.rep
  rw [ex_no envK_no] at h1
  refine mk_run (F := fun b => b = ρ.a) rfl (hF o1) o1 hl h1 ny nd nyd ?_
  rw [x2]
  intro v1 v2 H2 e2 o2 k3 k4 k5
  obtain ⟨n0, nρ⟩ := fresh_back e1 o1.there ny
  have e02 := e1.trans e2
  have d2 := d.ext hw ne e02
  have nya : y ≠ a := fun z => d.nt.1.1 (z ▸ n0)
  have sy : ((L2.start N [V.ref a]).set 1 (some (V.ref y)))[1]? = some (some (.ref y)) := List.getElem?_set_self (by rw [hσ, hN]; decide)
  show tE mg (WF E) .cl h2 ((L2.start N [V.ref a]).set 1 (some (V.ref y))) H2 _
  refine ⟨ρ, fun b => b = ρ.a, H2, envK N.length [c.obj s], _, r, fm_at o2 rfl (hF o2) (by rw [List.length_set]; exact m0.len) envK_no (fun i x e => ?_), ?_⟩
  · match i, e with
    | 0, e =>
      cases (show some (Slot.sh (c.obj s)) = some (.sh x) from e)
      exact ⟨.ref a, by rw [List.getElem?_set_ne (by decide)]; exact start0, d2.rep (hF o2) ne⟩
    | i + 1, e =>
      have e : (List.replicate (N.length - 1) Slot.no)[i]? = some (.sh x) := e
      rw [List.getElem?_replicate] at e
      split at e <;> cases e
  rw [x3]
  intro v4 H3 e3 o3 h3
  have hy3 := e3 y _ k3 nρ
  refine ⟨.ref y, sy, y, c.C, dy, _, rfl, hy3, cl, at2, (by show 2 < 1000; decide), ?_⟩
  rw [putF2 nn]
  refine ⟨.ref y, sy, ?_⟩
  have h3 : Rep ρ (Hx H3 (Ex (fun b => b = ρ.a) (envK N.length [c.obj s]) _)) s.2 v4 := h3
  rw [ex_no envK_no] at h3
  have g1 : Rep ρ (Hx H3 fun b => NT (H3 b)) s.1 v1 := rep_nt t1 k4 fun b us nb q => e3 b _ q nb
  have d3 := ds_upd (s := s) hy3 g1 t2 h3
  have up : ∀ {b : Addr}, b ≠ y → ∀ {o : HO}, upd H3 y o b = H3 b := fun {b} n {o} => upd_ne n
  refine q y _ n0 (fun b o qb nb => ?_) ⟨o3.1, o3.2.1, by rw [up (Ne.symm nρ)]; exact o3.2.2.1, by rw [up fun z => by have := o3.2.2.2; rw [z, hy3] at this; cases this]; exact o3.2.2.2⟩ d3
  have nby : b ≠ y := fun z => by rw [z, n0] at qb; cases qb
  rw [up nby]
  exact e3 b o (e02 b o qb nb) nb
/-! ### a def that copies its first argument and goes on with the copy -/
def tCpy (c : Dk) (x : Str) (ok : DS → Prop) (di : Nat) : TS := fun D σ H => ∃ b dx kvs, σ[0]? = some (some (.ref b)) ∧ H b = some (.ins c.C dx kvs) ∧ kvs.lookup x = none ∧ spC c ok [.ref b] H (fun u H' => D.nx (σ.set di (some u)) H') (fun _ _ _ => False)
end
section
variable {X : Cx} {W : WX} {c : Dk} {pos pos' p p2 apos : Pos} {j j' n : Nat} {x y z : Str} {ok : DS → Prop}
theorem ps_cpy {pl : Sem Bool} (T : Ct X W j) (cl : Cls X.K c.C) (F : MtC X.prog X.w X.K X.mg X.base j' c x ok) (hj : j' ≤ j) (hv : PE X (.Name y p2) (tVar 0)) (di : Nat) (hi : X.N[di]? = some z := by rfl) (hx : Loc X.env.scope z := by first | exact Or.inl rfl | exact Or.inr rfl)
    (hs : swapsWith (.Call (.Attribute (.Name y p2) x apos) [] [] p) (some (.Name z pos')) pos.line X.env = pure false := by rfl)
    (hf : X.fn z = true ∨ X.env.scope.names.lookup z = some .local := by first | exact .inl rfl | exact .inr rfl)
    (ht : eval (.Call (.Attribute (.Name y p2) x apos) [] [] p) X.env = (do
      let ov ← eval (.Name y p2) X.env
      standAt apos.atName
      let (f, first) ← holding [ov] (getMethod ov x pl)
      callWith p f first (backTo p (starEach [] X.env)) (backToKw p (keywordEach [] X.env))) := by rfl) :
    PS X (.Assign [.Name z pos'] (.Call (.Attribute (.Name y p2) x apos) [] [] p) pos) (tCpy c x ok di) := by
  obtain ⟨f, fd, ps, G, hm, hb⟩ := F.ex
  refine ps_imp (ps_set T.nd hi hx (pe_methT0 (pl := pl) T cl G hm hb hj hv ht) hs hf) fun D σ H q => ?_
  obtain ⟨b, dx, kvs, h1, h2, h3, h4⟩ := q
  exact ⟨.ref b, h1, b, dx, kvs, rfl, h2, h3, h4⟩
end
open Classical in
noncomputable def moc (c : Dk) (ok : DS → Prop) (nn di : Nat) (body : Env → DM Fl) (xs : List PV) : M PV := fun r => if ∃ s xs', xs = c.obj s :: xs' ∧ tpO s.1 = true ∧ tpO s.2 = true ∧ ok s ∧ ∀ y, wpD (body ((envK nn xs).set di (.sh (.at_ y))) r s) (fun fl r' _ => fl = .rt (.bl true) ∧ r' = r) (fun _ _ _ => False) then .ok (.bl true) r else .bad
section
variable {P : Program} {w : World} {K : PySem.W.Frag} {mg : Str → Option Value} {base : Heap}
theorem fn_ofCopy {c : Dk} {x qual cp : Str} {st : Stmt} {f : Addr} {fd : FuncData} {N ps : List Str} {k n di : Nat} {ok : DS → Prop} {body : Env → DM Fl} (F : Fun K x qual st f fd) (S : FnScope N ps (defScope st)) (hn : ps.length = n) (hm : mg x = some (.ref f)) (hb : Binds K fd ps [])
    (hdi : di < N.length) (h1 : (cp == c.n1) = false) (h2 : (cp == c.n2) = false)
    (hbody : ∀ (cdv : Value) (A : Around) (outer : List PySem.Env) (s : Shared) (H : Hp) (E : XK), Ct (cxOf (L2.CX P w) P w K mg base N qual (defScope st) f cdv A outer s H E) (WF E) k →
      ∃ s1 rest, defBody st = s1 :: rest ∧ PS (cxOf (L2.CX P w) P w K mg base N qual (defScope st) f cdv A outer s H E) s1 (tCpy c cp ok di) ∧ DMss (cxOf (L2.CX P w) P w K mg base N qual (defScope st) f cdv A outer s H E) (WF E) c di rest body) :
    FnM P w K mg base (k + 1) x n (moc c ok N.length di body) := by
  have hpl : ps.length ≤ N.length := by
    have := congrArg List.length S.pre
    rw [List.length_take] at this
    omega
  refine ⟨f, fd, ps, F.okX S (fun vs H Q E h => (spM_len h).trans hn.symm) (fun cdv A outer s H vs Q E hr h => ?_), hm, F.kp, hb⟩
  have T : Ct (cxOf (L2.CX P w) P w K mg base N qual (defScope st) f cdv A outer s H E) (WF E) k := ⟨S.nd, hr, takes_of rfl rfl rfl rfl, passes_of rfl, rfl⟩
  obtain ⟨s1, rest, hd, p1, p2⟩ := hbody cdv A outer s H E T
  rw [hd]
  refine ⟨_, pss_cons p1 p2, ?_⟩
  obtain ⟨ρ, F', xs, r, hρ, hF, hw, l, wp⟩ := h
  obtain ⟨hl, wp⟩ := wpM_ite wp
  unfold moc at wp
  by_cases hc : ∃ s xs', xs = c.obj s :: xs' ∧ tpO s.1 = true ∧ tpO s.2 = true ∧ ok s ∧ ∀ y, wpD (body ((envK N.length xs).set di (.sh (.at_ y))) r s) (fun fl r' _ => fl = .rt (.bl true) ∧ r' = r) (fun _ _ _ => False)
  case neg => rw [if_neg hc] at wp; exact wp.elim
  rw [if_pos hc] at wp
  obtain ⟨s, xs', ex, t1, t2, hok, wD⟩ := hc
  have m0 := fm_start (mg := mg) (N := N) hρ hF hw l (by omega)
  have m0 : Fm ρ F' H H r (L2.start N vs) (envK N.length xs) _ := m0
  have hσ := m0.len
  have l0 := l
  rw [ex] at l0
  unfold RepL at l0
  obtain ⟨v0, vs', ev, r0, _⟩ := l0
  unfold Dk.obj Rep at r0
  obtain ⟨a, dx, us, ea, ga, la⟩ := r0
  unfold RepL at la
  obtain ⟨u1, us1, rfl, ru1, la⟩ := la
  unfold RepL at la
  obtain ⟨u2, us2, rfl, ru2, la⟩ := la
  unfold RepL at la
  subst la ea
  obtain ⟨na, ga⟩ := Hx_some ga
  have ga : H a = some (.ins c.C dx [(c.n1, u1), (c.n2, u2)]) := ga
  have ne : a ≠ ρ.a := fun z => na (z ▸ hρ)
  have d0 : DsAt c ρ H a s := ⟨dx, u1, u2, ga, rep_nt t1 ru1 fun _ _ _ q => q, rep_nt t2 ru2 fun _ _ _ q => q⟩
  refine ⟨a, dx, _, by rw [ev]; exact start0, ga, no_field h1 h2, ρ, a, r, s, rfl, ne, hw, d0, hok, fun y H' ny e' o' d' => ?_⟩
  have yρ : y ≠ ρ.a := fun z => hw.there (z ▸ ny)
  have hi : di < (envK N.length xs).length := by rw [← hσ]; unfold L2.start; simp only [List.length_append, List.length_map, List.length_replicate]; omega
  have fd' : Fd c ρ y di H' H' r s ((L2.start N vs).set di (some (.ref y))) ((envK N.length xs).set di (.sh (.at_ y))) := by
    refine ⟨o', d', yρ, ExtA.refl, by rw [List.length_set, List.length_set]; exact hσ, fun i z q => ?_, fun i z q => ?_, List.getElem?_set_self hi⟩
    · by_cases c : di = i
      · subst c
        rw [List.getElem?_set_self hi] at q; cases q
      · rw [List.getElem?_set_ne c] at q; exact envK_no i z q
    · by_cases c : di = i
      · subst c
        rw [List.getElem?_set_self hi] at q
        cases q
        exact ⟨.ref y, List.getElem?_set_self (by rw [hσ]; exact hi), by unfold Rep; rfl⟩
      · rw [List.getElem?_set_ne c] at q ⊢
        obtain ⟨v, g1, g2⟩ := m0.sh i z q
        rw [ex_no envK_no] at g2
        refine ⟨v, g1, g2.mono fun b o qb => ?_⟩
        obtain ⟨q1, q2⟩ := Hx_some qb
        have nb : b ≠ ρ.a := fun z => q1 (z ▸ hρ)
        have nby : b ≠ y := fun z => by rw [z, ny] at q2; cases q2
        rw [Hx_out (S := Ap ρ y) fun z => z.elim nb nby]
        exact e' b o q2 nb
  refine ⟨ρ, y, H', _, r, s, fd', wpD_mono (wD y) (fun fl r1 s1 ⟨ef, er⟩ => ?_) fun _ _ _ z => z.elim⟩
  subst ef er
  intro v H2 e2 o2 _ h2
  rw [rep_bl h2]
  refine wp (.bl true) H2 (fun b o qb nb => e2 b o (e' b o qb nb) nb fun z => ?_) o2 (Flat.bl _ _ _)
  rw [z, ny] at qb; cases qb
end
/-! ### the law -/
def tPre0 (mg : Str → Option Value) (W : WX) (g : Env → M Fl) (t : TS) : TS := fun D σ H => tS mg W g { D with nx := fun σ' H' => t D σ' H' } σ H
section
variable {X : Cx} {W : WX} {st : Stmt} {rest : List Stmt} {f g : Env → M Fl} {t : TS}
theorem p0_cons (h1 : MS X W st f) (h2 : PSs X rest (tPre0 X.mg W g t)) : PSs X (st :: rest) (tPre0 X.mg W (sSeq f g) t) := pss_imp (pss_cons h1 h2) fun D σ H q => by
  obtain ⟨ρ, F, B, env, ad, r, m, w⟩ := q
  refine ⟨ρ, F, B, env, ad, r, m, wpM_mono (wpM_bnd w) (fun fl r1 w1 => ?_) fun _ _ z => z⟩
  cases fl with
  | nx e1 => exact fun σ' H' ad' m' => ⟨ρ, F, B, e1, ad', r1, m', w1⟩
  | rt v => exact w1
  | bk e1 => exact w1
  | ct e1 => exact w1
theorem p0_end (h : PSs X rest t) : PSs X rest (tPre0 X.mg W sNext t) := pss_imp h fun D σ H q => by
  obtain ⟨ρ, F, B, env, ad, r, m, w⟩ := q
  exact w σ H ad m
end
def tLawD (mg : Str → Option Value) (W : WX) (c : Dk) (mi : List PV → M (PV × PV)) (fs : AF) (hp : EF) (di pi : Nat) (body : Env → DM Fl) : TS := tSeq (tPar di pi (tCons (tMkX mg W c.C c.n1 c.n2 2 mi fs) (tCons (tE mg W .cl hp) tNil))) (tDS mg W c di body)
/-- what is left to show of the law -/
def LawOkD (n i : Nat) (g : Env → M Fl) (mi : List PV → M (PV × PV)) (fs : AF) (hp : EF) (di pi : Nat) (body : Env → DM Fl) : Prop := ∀ xs : List Int, xs.length ≤ 63 → (∀ z ∈ xs, z.natAbs.log2 ≤ 1048576) →
  wpM (g (envL n i) ⟨xs, 0, 0, 7⟩) (fun fl r1 => ∃ e, fl = .nx e ∧ noOwB e = true ∧ e.length = n ∧ wpM (fs e r1) (fun ys r2 => ys.length = 2 ∧ wpM (mi ys r2) (fun z r3 => tpO z.1 = true ∧ tpO z.2 = true ∧
    wpM (hp e r3) (fun past r4 => ∀ a, wpD (body ((e.set di (.sh (.at_ a))).set pi (.sh past)) r4 z) (fun fl _ _ => fl = .rt (.bl true)) (fun _ _ _ => False)) (fun _ _ => False)) (fun _ _ => False)) (fun _ _ => False)) (fun _ _ => False)
section
variable {P : Program} {w : World} {K : PySem.W.Frag} {mg : Str → Option Value} {base : Heap}
theorem ok_lawD {c : Dk} {x qual : Str} {st : Stmt} {f : Addr} {fd : FuncData} {N ps : List Str} {k i di pi : Nat} {g : Env → M Fl} {mi : List PV → M (PV × PV)} {fs : AF} {hp : EF} {body : Env → DM Fl} (F : Fun K x qual st f fd) (S : FnScope N ps (defScope st)) (hn : ps.length = 1) (hN : 1 ≤ N.length) (hi : 1 ≤ i) (hiN : i < N.length) (hdN : di < N.length) (hpN : pi < N.length) (hdp : di ≠ pi) (L : LawOkD N.length i g mi fs hp di pi body)
    (hbody : ∀ (cdv : Value) (A : Around) (outer : List PySem.Env) (s : Shared) (H : Hp) (E : XK), Ct (cxOf (L2.CX P w) P w K mg base N qual (defScope st) f cdv A outer s H E) (WF E) k →
      ∃ s0 rest, defBody st = s0 :: rest ∧ PS (cxOf (L2.CX P w) P w K mg base N qual (defScope st) f cdv A outer s H E) s0 (tLaw0 K i) ∧ PSs (cxOf (L2.CX P w) P w K mg base N qual (defScope st) f cdv A outer s H E) rest (tPre0 mg (WF E) g (tLawD mg (WF E) c mi fs hp di pi body))) : FnOk P w K mg base (L2.CX P w) (k + 1) f fd ps (spLaw K) := by
  refine F.okX S (fun vs H Q E h => ?_) (fun cdv A outer s H vs Q E hr h => ?_)
  · obtain ⟨a, ns, rfl, _⟩ := h
    exact hn.symm
  · obtain ⟨a, ns, rfl, hS, hl, hb, q⟩ := h
    obtain ⟨s0, rest, eb, h0, hrest⟩ := hbody cdv A outer s H E ⟨S.nd, hr, takes_of rfl rfl rfl rfl, passes_of rfl, rfl⟩
    rw [eb]
    refine ⟨_, pss_cons h0 hrest, ?_⟩
    have wL := L ns hl fun z hz => by
      have := hb z hz
      unfold Builtin.Int.intBits at this
      by_cases q : z = 0
      · subst q; decide
      · have e : (z == 0) = false := beq_eq_false_iff_ne.mpr q
        rw [e] at this
        have : z.natAbs.log2 + 1 ≤ 1048576 := this
        omega
    refine ⟨.ref a, ?_, a, ns, rfl, hS, fun l p nl np => ?_⟩
    · unfold L2.start; rfl
    · have nlp : p ≠ l := fun z => by rw [z, upd_same] at np; cases np
      have noL : ∀ (j : Nat) y, (envL N.length i)[j]? ≠ some (.ow y) := fun j y e => by
        unfold envL at e
        by_cases z : i = j
        · subst z
          rw [List.getElem?_set_self (by rw [List.length_replicate]; exact hiN)] at e; cases e
        · rw [List.getElem?_set_ne z, List.getElem?_replicate] at e
          split at e <;> cases e
      have hlen : (L2.start N [V.ref a]).length = N.length := by
        unfold L2.start
        simp only [List.length_append, List.length_map, List.length_replicate, List.length_singleton]
        omega
      have hF : ∀ (σ : L2.St), σ.length = N.length → σ[i]? = some (some (.ref p)) → Fm ⟨p, l, ns⟩ (fun b => b = p) (upd (upd H l (.lst (ns.map V.int))) p (.lst [.ref l, .int 0, .int 0, .int 7])) (upd (upd H l (.lst (ns.map V.int))) p (.lst [.ref l, .int 0, .int 0, .int 7])) ⟨ns, 0, 0, 7⟩ σ (envL N.length i) (fun _ => 0) := fun σ h1 h2 => by
        refine fm_at ⟨Ne.symm nlp, rfl, upd_same, by rw [upd_ne (Ne.symm nlp), upd_same]⟩ rfl (fun b hb => by rw [show b = p from hb, upd_same]; exact ⟨⟨(fun y => by cases y), fun xs y => by cases y⟩, fun xs y => by cases y⟩) (by rw [h1]; unfold envL; rw [List.length_set, List.length_replicate]) noL fun j y e => ?_
        unfold envL at e
        by_cases z : i = j
        · subst z
          rw [List.getElem?_set_self (by rw [List.length_replicate]; exact hiN)] at e
          cases e
          exact ⟨_, h2, by unfold Rep; rfl⟩
        · rw [List.getElem?_set_ne z, List.getElem?_replicate] at e
          split at e <;> cases e
      refine ⟨⟨p, l, ns⟩, _, _, envL N.length i, _, ⟨ns, 0, 0, 7⟩, hF _ (by rw [List.length_set]; exact hlen) (List.getElem?_set_self (by rw [hlen]; exact hiN)), wpM_mono wL (fun fl r1 ⟨e, ef, hno, hel, w1⟩ => ?_) fun _ _ z => z.elim⟩
      subst ef
      intro σ1 H1 ad1 m1
      generalize (⟨p, l, ns⟩ : Rw) = ρ at m1
      have no1 : ∀ (j : Nat) y, e[j]? ≠ some (.ow y) := fun j y q => by
        have := List.all_eq_true.mp hno _ (List.mem_of_getElem? q)
        cases this
      -- the desk
      show tL mg (WF E) .cl fs σ1 H1 _
      refine ⟨ρ, _, _, e, ad1, r1, m1, wpM_mono w1 (fun ys r2 ⟨hy, w2⟩ vs H2 e2 o2 h2 => ?_) fun _ _ z => z.elim⟩
      intro y dy ny nd nyd
      have m2 := m1.step e2 o2
      have h2 := h2.rep
      rw [ex_no no1] at h2
      refine mk_run m1.hρ m2.dom o2 hy h2 ny nd nyd (wpM_mono w2 (fun z r3 ⟨t1, t2, w3⟩ v1 v2 H3 e3 o3 k3 k4 k5 => ?_) fun _ _ z => z.elim)
      have yρ : y ≠ ρ.a := fun z => o2.there (z ▸ ny)
      have d3 : DsAt c ρ H3 y z := ⟨dy, v1, v2, k3, rep_nt t1 k4 fun _ _ _ q => q, rep_nt t2 k5 fun _ _ _ q => q⟩
      have nt3 : ∀ b, Ap ρ y b → NT (H3 b) := fun b z => by
        rcases z with z | z
        · rw [z]; exact o3.nt
        · rw [z]; exact d3.nt
      have sh3 : ∀ (j : Nat) x, e[j]? = some (.sh x) → ∃ v, σ1[j]? = some (some v) ∧ Rep ρ (Hx H3 (Ap ρ y)) x v := fun j x q => by
        obtain ⟨v, g1, g2⟩ := m2.sh j x q
        rw [ex_no no1] at g2
        refine ⟨v, g1, g2.mono fun b o qb => ?_⟩
        obtain ⟨q1, q2⟩ := Hx_some qb
        have nb : b ≠ ρ.a := fun z => q1 (z ▸ m1.hρ)
        have nby : b ≠ y := fun z => by rw [z, ny] at q2; cases q2
        rw [Hx_out (S := Ap ρ y) fun z => z.elim nb nby]
        exact e3 b o q2 nb
      show tE mg (WF E) .cl hp σ1 H3 _
      refine ⟨ρ, Ap ρ y, H3, e, _, r3, fm_at o3 (.inl rfl) nt3 m1.len no1 sh3, wpM_mono w3 (fun past r4 w4 v5 H4 e4 o4 h4 => ?_) fun _ _ z => z.elim⟩
      have h4 : Rep ρ (Hx H4 (Ex (Ap ρ y) e _)) past v5 := h4
      rw [ex_no no1] at h4
      have d4 := d3.ext o3 yρ e4
      refine ⟨.ref y, v5, rfl, ?_⟩
      have nod : ∀ {j : Nat} {s : Slot}, ((e.set di (.sh (.at_ y))).set pi (.sh past))[j]? = some s → (j = pi ∧ s = .sh past) ∨ (j ≠ pi ∧ j = di ∧ s = .sh (.at_ y)) ∨ (j ≠ pi ∧ j ≠ di ∧ e[j]? = some s) := fun {j s} q => by
        by_cases c1 : pi = j
        · subst c1
          rw [List.getElem?_set_self (by rw [List.length_set, hel]; exact hpN)] at q
          exact .inl ⟨rfl, (Option.some.inj q).symm⟩
        · rw [List.getElem?_set_ne c1] at q
          by_cases c2 : di = j
          · subst c2
            rw [List.getElem?_set_self (by rw [hel]; exact hdN)] at q
            exact .inr (.inl ⟨Ne.symm c1, rfl, (Option.some.inj q).symm⟩)
          · rw [List.getElem?_set_ne c2] at q
            exact .inr (.inr ⟨Ne.symm c1, Ne.symm c2, q⟩)
      have fd' : Fd c ρ y di H4 H4 r4 z ((σ1.set di (some (.ref y))).set pi (some v5)) ((e.set di (.sh (.at_ y))).set pi (.sh past)) := by
        refine ⟨o4, d4, yρ, ExtA.refl, by rw [List.length_set, List.length_set, List.length_set, List.length_set]; exact m1.len, fun j u q => ?_, fun j u q => ?_, by rw [List.getElem?_set_ne (Ne.symm hdp)]; exact List.getElem?_set_self (by rw [hel]; exact hdN)⟩
        · rcases nod q with ⟨_, h⟩ | ⟨_, _, h⟩ | ⟨_, _, h⟩
          · cases h
          · cases h
          · exact no1 j u h
        · rcases nod q with ⟨hj, h⟩ | ⟨hj, hj2, h⟩ | ⟨hj, hj2, h⟩
          · cases h
            subst hj
            exact ⟨v5, List.getElem?_set_self (by rw [List.length_set, m1.len, hel]; exact hpN), h4⟩
          · cases h
            subst hj2
            exact ⟨.ref y, by rw [List.getElem?_set_ne (Ne.symm hdp)]; exact List.getElem?_set_self (by rw [m1.len, hel]; exact hdN), by unfold Rep; rfl⟩
          · obtain ⟨v, g1, g2⟩ := sh3 j u h
            exact ⟨v, by rw [List.getElem?_set_ne (Ne.symm hj), List.getElem?_set_ne (Ne.symm hj2)]; exact g1, g2.mono (hx_ext (.inl rfl) e4)⟩
      refine ⟨ρ, y, H4, _, r4, z, fd', wpD_mono (w4 y) (fun fl r5 s5 ef => ?_) fun _ _ _ z => z.elim⟩
      subst ef
      intro v H' _ _ _ hv
      rw [rep_bl hv]
      exact q H'
end
end Mir

/-! a def that keeps its mirror, however it is reached; forward rules of the second state -/
namespace Mir
open PySem PySem.Spec PyProof.Rows L2
section
variable {P : Program} {w : World} {K : PySem.W.Frag} {mg : Str → Option Value} {base : Heap}
theorem ok_mirM {y qual : Str} {st : Stmt} {f : Addr} {fd : FuncData} {N ps : List Str} {k n : Nat} {body : Env → M Fl} (F : Fun K y qual st f fd) (S : FnScope N ps (defScope st)) (hn : ps.length = n)
    (hbody : ∀ (cdv : Value) (A : Around) (outer : List PySem.Env) (s : Shared) (H : Hp) (E : XK), Ct (cxOf (L2.CX P w) P w K mg base N qual (defScope st) f cdv A outer s H E) (WF E) k →
      MSs (cxOf (L2.CX P w) P w K mg base N qual (defScope st) f cdv A outer s H E) (WF E) (defBody st) body) : FnOk P w K mg base (L2.CX P w) (k + 1) f fd ps (spM mg n (runF N.length body)) := by
  have hpl : ps.length ≤ N.length := by
    have := congrArg List.length S.pre
    rw [List.length_take] at this
    omega
  refine F.okX S (fun vs H Q E h => (spM_len h).trans hn.symm) (fun cdv A outer s H vs Q E hr h => ?_)
  have T : Ct (cxOf (L2.CX P w) P w K mg base N qual (defScope st) f cdv A outer s H E) (WF E) k := ⟨S.nd, hr, takes_of rfl rfl rfl rfl, passes_of rfl, rfl⟩
  refine ⟨_, hbody cdv A outer s H E T, ?_⟩
  obtain ⟨ρ, F', xs, r, hρ, hF, hw, l, w⟩ := h
  obtain ⟨hl, w⟩ := wpM_ite w
  refine ⟨ρ, F', H, _, _, r, fm_start (mg := mg) (N := N) hρ hF hw l (by omega), wpM_mono (wpM_bnd w) (fun fl r1 w1 => ?_) fun e r' z C d σ' H' ⟨env', ad', m'⟩ => z C d H' m'.ext m'.row⟩
  cases fl with
  | nx e1 => exact fun σ' H' ad' m' => w1 .non H' m'.ext m'.row (Flat.non _ _)
  | rt v => exact w1
  | bk e1 => exact w1.elim
  | ct e1 => exact w1.elim
end
end Mir

/-! forward rules of the second state -/
namespace Mir
open PySem PySem.Spec PyProof.Rows L2
section
variable {α β : Type} {r : RS} {s : DS} {env : Env} {E : Exn → RS → DS → Prop}
theorem zw_bnd {m : DM α} {k : α → DM β} {K : β → RS → DS → Prop} (h : wpD (m r s) (fun x r' s' => wpD (k x r' s') K E) E) : wpD (dBnd m k r s) K E := by
  unfold dBnd
  cases e : m r s with
  | ok a r' s' => rw [e] at h; exact h
  | ex x r' s' => rw [e] at h; exact h
  | bad => rw [e] at h; exact h
theorem zw_up {m : M α} {K : α → RS → DS → Prop} (h : wpM (m r) (fun x r' => K x r' s) (fun e r' => E e r' s)) : wpD (dUp m r s) K E := by
  unfold dUp
  cases e : m r with
  | ok a r' => rw [e] at h; exact h
  | ex x r' => rw [e] at h; exact h
  | bad => rw [e] at h; exact h
theorem zw_pos {c : Prop} [Decidable c] {m m' : DM α} {K : α → RS → DS → Prop} (q : c) (h : wpD (m r s) K E) : wpD ((if c then m else m') r s) K E := by
  rw [if_pos q]; exact h
/-- what does not draw and does not raise -/
def DOk (m : DM α) (s : DS) (v : α) (s' : DS) : Prop := ∀ r, m r s = .ok v r s'
def DEx (m : DM α) (s : DS) (e : Exn) : Prop := ∀ r, m r s = .ex e r s
theorem zw_eq {m : DM α} {v : α} {s' : DS} {K : α → RS → DS → Prop} (e : DOk m s v s') (h : K v r s') : wpD (m r s) K E := by rw [e r]; exact h
theorem zw_ex {m : DM α} {e : Exn} {K : α → RS → DS → Prop} (q : DEx m s e) (h : E e r s) : wpD (m r s) K E := by rw [q r]; exact h
theorem dok_of {m : DM α} {v : α} {s' : DS} (h : ∀ r, wpD (m r s) (fun x r' t => x = v ∧ r' = r ∧ t = s') fun _ _ _ => False) : DOk m s v s' := fun r => by
  have := h r
  cases e : m r s with
  | ok a r' t =>
    rw [e] at this
    obtain ⟨h1, h2, h3⟩ := (show a = v ∧ r' = r ∧ t = s' from this)
    rw [h1, h2, h3]
  | ex _ _ _ => rw [e] at this; exact this.elim
  | bad => rw [e] at this; exact this.elim
theorem dex_of {m : DM α} {x : Exn} (h : ∀ r, wpD (m r s) (fun _ _ _ => False) fun y r' t => y = x ∧ r' = r ∧ t = s) : DEx m s x := fun r => by
  have := h r
  cases e : m r s with
  | ex a r' t =>
    rw [e] at this
    obtain ⟨h1, h2, h3⟩ := (show a = x ∧ r' = r ∧ t = s from this)
    rw [h1, h2, h3]
  | ok _ _ _ => rw [e] at this; exact this.elim
  | bad => rw [e] at this; exact this.elim
end
section
variable {r : RS} {s : DS} {env : Env} {E : Exn → RS → DS → Prop} {K : PV → RS → DS → Prop} {fa fb : DE} {fs : AF} {di n : Nat} {c : Dk}
theorem zw_e {f : EF} (h : wpM (f env r) (fun x r' => K x r' s) (fun e r' => E e r' s)) : wpD (dE f env r s) K E := zw_up h
theorem zw_op2 {g : PV → PV → Option PV} (h : wpD (fa env r s) (fun x r1 s1 => wpD (fb env r1 s1) (fun y r2 s2 => ∃ z, g x y = some z ∧ K z r2 s2) E) E) : wpD (dOp2 g fa fb env r s) K E := zw_bnd (wpD_mono h (fun x r1 s1 h => zw_bnd (wpD_mono h (fun y r2 s2 h => zw_up (w_ofO h)) fun _ _ _ z => z)) fun _ _ _ z => z)
theorem zw_and (h : wpD (fa env r s) (fun x r1 s1 => ∃ t, x = .bl t ∧ (t = true → wpD (fb env r1 s1) K E) ∧ (t = false → K (.bl false) r1 s1)) E) : wpD (dAnd fa fb env r s) K E := zw_bnd (wpD_mono h (fun x r1 s1 ⟨t, e, k1, k2⟩ => by
  subst e
  cases t with
  | true => exact k1 rfl
  | false => exact k2 rfl) fun _ _ _ z => z)
theorem zw_ife {ft : Env → DM Bool} (h : wpD (ft env r s) (fun t r1 s1 => (t = true → wpD (fa env r1 s1) K E) ∧ (t = false → wpD (fb env r1 s1) K E)) E) : wpD (dIfE ft fa fb env r s) K E := zw_bnd (wpD_mono h (fun t r1 s1 ⟨k1, k2⟩ => by
  cases t with
  | true => exact k1 rfl
  | false => exact k2 rfl) fun _ _ _ z => z)
theorem zw_self {y : PV} {k : PV → DM PV} (e : env[di]? = some (.sh y)) (h : wpD (k y r s) K E) : wpD (dBnd (dUp (dSelf di env)) k r s) K E := by
  refine zw_bnd (zw_up ?_)
  unfold dSelf
  rw [e]
  exact h
theorem zw_call {m : List PV → DM PV} {y : PV} (e : env[di]? = some (.sh y)) (h : wpM (fs env r) (fun xs r1 => xs.length = n ∧ wpD (m (y :: xs) r1 s) K E) (fun e r' => E e r' s)) : wpD (dCall di n m fs env r s) K E :=
  zw_self e (zw_bnd (zw_up (wpM_mono h (fun xs r1 ⟨h1, h2⟩ => zw_pos h1 h2) fun _ _ z => z)))
theorem zw_call0 {m : List PV → DM PV} {y : PV} (e : env[di]? = some (.sh y)) (h : wpD (m [y] r s) K E) : wpD (dCall0 di m env r s) K E := zw_self e h
theorem zw_callR {m : List PV → M PV} (h : wpM (fs env r) (fun xs r1 => (c.obj s :: xs).length = n ∧ ∃ b, m (c.obj s :: xs) = ret (.bl b) ∧ K (.bl b) r1 s) (fun e r' => E e r' s)) : wpD (dCallR c n m fs env r s) K E := zw_bnd (zw_up (wpM_mono h (fun xs r1 ⟨h1, b, h2, k⟩ => by
  refine zw_up (w_bnd ?_)
  unfold callN
  refine w_pos h1 ?_
  rw [h2]
  exact k) fun _ _ z => z))
theorem zw_copy {ok : DS → Prop} (h : ok s ∧ K (c.obj s) r s) : wpD (dCopy c ok env r s) K E := by
  unfold dCopy
  rw [if_pos h.1]
  exact h.2
theorem zw_run {nn : Nat} {body : Env → DM Fl} {xs : List PV} (h : wpD (body (envK nn xs) r s) (fun fl r' s' => match fl with | .nx _ => K .non r' s' | .rt v => K v r' s' | _ => False) E) : wpD (runK nn body xs r s) K E := zw_bnd (wpD_mono h (fun fl r' s' h => by cases fl <;> exact h) fun _ _ _ z => z)
/-- behind the first statements of a method that changes its instance -/
def mowK (i : Nat) (h4 h5 : EF) (s : DS) (K : PV → RS → DS → Prop) (E : Exn → RS → DS → Prop) : Fl → RS → Prop
  | .nx e, r => wpM (h4 e r) (fun z r2 => tpO z = true ∧ ∃ e5, onlyE i e = some e5 ∧ wpM (h5 e5 r2) (fun v r3 => K v r3 (s.1, z)) fun _ _ => False) (fun e r => E e r s)
  | .rt v, r => lt1 v = true ∧ K v r s
  | _, _ => False
theorem zw_un {i : Nat} {h4 h5 : EF} (h : mowK i h4 h5 s K E (.nx env) r) : wpM (h4 env r) (fun z r2 => tpO z = true ∧ ∃ e5, onlyE i env = some e5 ∧ wpM (h5 e5 r2) (fun v r3 => K v r3 (s.1, z)) fun _ _ => False) (fun e r => E e r s) := h
theorem zw_mo {nn i : Nat} {g : Env → M Fl} {h4 h5 : EF} {xs : List PV} (h : wpM (g (envK nn (c.obj s :: xs.tail)) r) (mowK i h4 h5 s K E) (fun e r => E e r s)) : wpD (moK c nn i g h4 h5 xs r s) K E := by
  refine zw_bnd (zw_up (wpM_mono h (fun fl r1 h => ?_) fun _ _ z => z))
  cases fl with
  | bk e => exact (show False from h).elim
  | ct e => exact (show False from h).elim
  | rt v =>
    have h : lt1 v = true ∧ K v r1 s := h
    exact zw_pos h.1 h.2
  | nx e =>
    refine zw_bnd (zw_up (wpM_mono (zw_un h) (fun z r2 ⟨hz, e5, he, h⟩ => zw_pos hz (zw_bnd (zw_up (w_ofO ⟨e5, he, ?_⟩)))) fun _ _ z => z))
    exact zw_bnd (zw_up (w_noex (wpM_mono h (fun _ _ z => z) fun _ _ z => z)))
theorem zw_mok {i : Nat} {h4 h5 : EF} (h : wpM (h4 env r) (fun z r2 => tpO z = true ∧ ∃ e5, onlyE i env = some e5 ∧ wpM (h5 e5 r2) (fun v r3 => K v r3 (s.1, z)) fun _ _ => False) (fun e r => E e r s)) : mowK i h4 h5 s K E (.nx env) r := h
theorem zw_mor {i : Nat} {h4 h5 : EF} {v : PV} (h : lt1 v = true ∧ K v r s) : mowK i h4 h5 s K E (.rt v) r := h
end
section
variable {r : RS} {s : DS} {env : Env} {E : Exn → RS → DS → Prop} {K : Bool → RS → DS → Prop} {fa fb : Env → DM Bool}
theorem zw_t {f : Env → M Bool} (h : wpM (f env r) (fun x r' => K x r' s) (fun e r' => E e r' s)) : wpD (dT f env r s) K E := zw_up h
theorem zw_B {f : DE} (h : wpD (f env r s) (fun x r' s' => ∃ t, x = .bl t ∧ K t r' s') E) : wpD (dB f env r s) K E := zw_bnd (wpD_mono h (fun x r1 s1 ⟨t, e, k⟩ => by subst e; exact zw_up k) fun _ _ _ z => z)
theorem zw_or (h : wpD (fa env r s) (fun t r' s' => (t = true → K true r' s') ∧ (t = false → wpD (fb env r' s') K E)) E) : wpD (dtOr fa fb env r s) K E := zw_bnd (wpD_mono h (fun t r1 s1 ⟨k1, k2⟩ => by
  cases t with
  | true => exact k1 rfl
  | false => exact k2 rfl) fun _ _ _ z => z)
theorem zw_not (h : wpD (fa env r s) (fun t r' s' => K (!t) r' s') E) : wpD (dtNot fa env r s) K E := zw_bnd h
end
section
variable {r : RS} {s : DS} {env env' : Env} {E : Exn → RS → DS → Prop} {K : Fl → RS → DS → Prop} {f g : Env → DM Fl} {di i : Nat} {fa : DE}
def dseqK (g : Env → DM Fl) (K : Fl → RS → DS → Prop) (E : Exn → RS → DS → Prop) : Fl → RS → DS → Prop
  | .nx e, r, s => wpD (g e r s) K E
  | o, r, s => K o r s
theorem zw_seq (h : wpD (f env r s) (dseqK g K E) E) : wpD (dSeq f g env r s) K E := zw_bnd (wpD_mono h (fun fl r1 s1 h => by cases fl <;> exact h) fun _ _ _ z => z)
theorem zw_k (h : wpD (g env r s) K E) : dseqK g K E (.nx env) r s := h
theorem zw_kr {v : PV} (h : K (.rt v) r s) : dseqK g K E (.rt v) r s := h
theorem zw_next (h : K (.nx env) r s) : wpD (dNext env r s) K E := h
theorem zw_s {f : Env → M Fl} (h : wpM (f env r) (fun fl r' => keepF di env fl = true ∧ K fl r' s) (fun e r' => E e r' s)) : wpD (dS di f env r s) K E := zw_bnd (zw_up (wpM_mono h (fun fl r1 ⟨h1, h2⟩ => zw_pos h1 h2) fun _ _ z => z))
theorem zw_set (h : wpD (fa env r s) (fun v r' s' => (i < env.length ∧ i ≠ di) ∧ K (.nx (env.set i (.sh v))) r' s') E) : wpD (dSet i di fa env r s) K E := zw_bnd (wpD_mono h (fun v r1 s1 ⟨h1, h2⟩ => zw_pos h1 h2) fun _ _ _ z => z)
theorem zw_rtn (h : wpD (fa env r s) (fun v r' s' => K (.rt v) r' s') E) : wpD (dRtn fa env r s) K E := zw_bnd h
theorem zw_if {b : Env → DM Bool} (h : wpD (b env r s) (fun t r1 s1 => (t = true → wpD (f env r1 s1) K E) ∧ (t = false → wpD (g env r1 s1) K E)) E) : wpD (dIf b f g env r s) K E := zw_bnd (wpD_mono h (fun t r1 s1 ⟨k1, k2⟩ => by
  cases t with
  | true => exact k1 rfl
  | false => exact k2 rfl) fun _ _ _ z => z)
theorem zw_for {fi : AF} {t : TP} (h : wpM (fi env r) (fun xs r' => wpD (dLoop t di f xs env r' s) K E) (fun e r' => E e r' s)) : wpD (dFor fi t di f env r s) K E := zw_bnd (zw_up h)
theorem zw_try {ns : List Str} {t i : Nat} {hs : List (Str × HV)} (h : wpD (f env r s) K (fun e r' s' => wpM (catchO ns t i hs env e r') (fun fl r2 => keepF di env fl = true ∧ K fl r2 s') (fun e r2 => E e r2 s'))) : wpD (dTry ns t i hs di f env r s) K E := by
  unfold dTry
  cases q : f env r s with
  | ok a r' s' => rw [q] at h; exact h
  | bad => rw [q] at h; exact h.elim
  | ex x r' s' =>
    rw [q] at h
    exact zw_bnd (zw_up (wpM_mono (show wpM _ _ _ from h) (fun fl r1 ⟨h1, h2⟩ => zw_pos h1 h2) fun _ _ z => z))
theorem keepB_nx {a : Addr} (h1 : env[di]? = some (.sh (.at_ a))) (h2 : env'[di]? = some (.sh (.at_ a))) (h3 : noOwB env' = true) : keepF di env (.nx env') = true := by
  show ((match env[di]?, env'[di]? with
    | some (.sh (.at_ a)), some (.sh (.at_ b)) => decide (a = b)
    | _, _ => false) && noOwB env') = true
  rw [h1, h2, h3, Bool.and_true]
  exact decide_eq_true rfl
theorem x_kp {fl : Fl} {P : Prop} (h : keepF di env fl = true ∧ P) : keepF di env fl = true ∧ P := h
theorem x_st {n j : Nat} {P : Prop} (h : (i < n ∧ i ≠ j) ∧ P) : (i < n ∧ i ≠ j) ∧ P := h
end
section
variable {r : RS} {env : Env} {K : PV → RS → Prop} {E : Exn → RS → Prop} {fa : EF} {fs : AF} {m : List PV → M PV}
theorem isObjC_self {C : Addr} {ns : List Str} {xs : List PV} : isObjC C (.obj C ns xs) = true := decide_eq_true rfl
theorem x_objC {C : Addr} {o : PV} {P : Prop} (h : isObjC C o = true ∧ P) : isObjC C o = true ∧ P := h
theorem w_lenI {C : Addr} (h : wpM (fa env r) (fun o r1 => isObjC C o = true ∧ ∃ n, m [o] = ret (.int n) ∧ (0 ≤ n ∧ n < 2 ^ 63) ∧ K (.int n) r1) E) : wpM (eLenI C m fa env r) K E := w_bnd (wpM_mono h (fun o r1 ⟨h1, n, h2, h3, k⟩ => by
  rw [if_pos h1]
  refine w_bnd ?_
  unfold noX
  rw [h2]
  show wpM (lenO (.int n) r1) K E
  unfold lenO
  exact w_pos h3 k) fun _ _ z => z)
theorem w_mkX {n : Nat} {mi : List PV → M (PV × PV)} (h : wpM (fs env r) (fun xs r1 => xs.length = n ∧ wpM (mi xs r1) (fun _ _ => False) E) E) : wpM (eMakeX n mi fs env r) K E := w_bnd (wpM_mono h (fun xs r1 ⟨h1, h2⟩ => by
  show wpM (if xs.length = n then _ else _) K E
  rw [if_pos h1]
  cases q : mi xs r1 with
  | ok _ _ => rw [q] at h2; exact h2.elim
  | bad => rw [q] at h2; exact h2.elim
  | ex e r' => rw [q] at h2; exact h2) fun _ _ z => z)
theorem w_if0 {K : Fl → RS → Prop} {b : Env → M Bool} {g : Env → M Fl} (h : wpM (b env r) (fun d r1 => (d = true → wpM (g env r1) (fun fl r2 => wpM (noNx fl r2) K E) E) ∧ (d = false → K (.nx env) r1)) E) : wpM (sIf0 b g env r) K E := w_bnd (wpM_mono h (fun d r1 ⟨k1, k2⟩ => by
  cases d with
  | true => exact w_bnd (k1 rfl)
  | false => exact k2 rfl) fun _ _ z => z)
theorem w_nnr {K : Fl → RS → Prop} {v : PV} (h : K (.rt v) r) : wpM (noNx (.rt v) r) K E := h
end
end Mir

local macro_rules | `(tactic| walk_at "mr") => `(tactic| (repeat (first | with_reducible refine Mir.w_seq ?_ | with_reducible refine Mir.w_set ?_ | with_reducible refine Mir.w_setO ?_ | with_reducible refine Mir.w_expr ?_ | with_reducible refine Mir.w_sret ?_ | with_reducible refine Mir.w_next ?_ | with_reducible refine Mir.w_if ?_ | with_reducible refine Mir.w_sets ?_ | with_reducible refine Mir.w_aug rfl ?_ | with_reducible refine Mir.w_app rfl ?_ | with_reducible refine Mir.w_for ?_ | with_reducible refine Mir.w_rg ?_ | with_reducible refine Mir.w_iEn ?_ | with_reducible refine Mir.w_unT ?_ | with_reducible refine Mir.w_unL ?_ | with_reducible refine Mir.w_try ?_ | with_reducible refine Mir.w_lpn ?_ | with_reducible refine Mir.w_lpr ?_ | with_reducible refine Mir.w_iLst ?_ | with_reducible refine Mir.w_op2 ?_ | with_reducible refine Mir.w_C ?_ | with_reducible refine Mir.w_var rfl ?_ | with_reducible refine Mir.w_varO rfl ?_ | with_reducible refine Mir.w_nil ?_ | with_reducible refine Mir.w_cons ?_ | with_reducible refine Mir.w_call ?_ | with_reducible refine Mir.w_bi ?_ | with_reducible refine Mir.w_tup ?_ | with_reducible refine Mir.w_lst ?_ | with_reducible refine Mir.w_isi ?_ | with_reducible refine Mir.w_neg ?_ | with_reducible refine Mir.w_not ?_ | with_reducible refine Mir.w_and ?_ | with_reducible refine Mir.w_or ?_ | with_reducible refine Mir.w_eif ?_ | with_reducible refine Mir.w_chain ?_ | with_reducible refine Mir.w_ix ?_ | with_reducible refine Mir.w_sl ?_ | with_reducible refine Mir.w_no ?_ | with_reducible refine Mir.w_at ?_ | with_reducible refine Mir.w_lc ?_ | with_reducible refine Mir.w_yes ?_ | with_reducible refine Mir.w_kin ?_ | with_reducible refine Mir.w_rowR rfl rfl ?_ | with_reducible refine Mir.w_lenS rfl ?_ | with_reducible refine Mir.w_rowW rfl ?_ | with_reducible refine Mir.w_raise ?_ | with_reducible refine Mir.w_tB ?_ | with_reducible refine Mir.w_bAnd ?_ | with_reducible refine Mir.w_bOr ?_ | with_reducible refine Mir.w_bNot ?_ | with_reducible refine Mir.w_k ?_ | with_reducible refine Mir.w_asgT ?_ | with_reducible refine Mir.w_asg ?_ | with_reducible refine Mir.w_setIx rfl ?_ | with_reducible refine Mir.w_ext rfl ?_ | with_reducible refine Mir.w_rev rfl ?_ | with_reducible refine Mir.w_iTupl ?_ | with_reducible refine Mir.w_rv ?_ | with_reducible refine Mir.x_t ?_ | with_reducible refine Mir.x_f ?_ | with_reducible refine Mir.x_nt ?_ | with_reducible refine Mir.x_nf ?_ | with_reducible refine Mir.w_op1 ?_ | with_reducible refine Mir.w_cnt ?_ | with_reducible refine Mir.w_varB rfl ?_ | with_reducible refine Mir.w_varBo rfl ?_ | with_reducible refine Mir.w_isi2 ?_ | with_reducible refine Mir.w_zp ?_ | with_reducible refine Mir.w_star ?_ | with_reducible refine Mir.w_frz rfl ?_ | with_reducible refine Mir.w_lrg ?_ | with_reducible refine Mir.w_iSq ?_ | with_reducible refine Mir.w_lc2 ?_ | with_reducible refine Mir.w_jn ?_ | with_reducible refine Mir.w_spl ?_ | with_reducible refine Mir.w_iTxt ?_ | with_reducible refine Mir.w_lcX ?_ | with_reducible refine Mir.w_augIx rfl ?_ | with_reducible refine Mir.w_callN ?_ | with_reducible refine Mir.w_cn ?_ | with_reducible refine Mir.w_frL ?_ | with_reducible refine Mir.w_tpv ?_ | with_reducible refine Mir.w_make ?_ | with_reducible refine Mir.w_prop ?_ | with_reducible refine Mir.w_kr ?_ | (with_reducible refine Mir.x_exi ?_; first | with_reducible refine ⟨_, by assumption, ?_⟩ | refine ⟨_, rfl, ?_⟩) | ((with_reducible refine Mir.x_tpL ?_); refine ⟨by first | rfl | assumption, ?_⟩) | ((with_reducible refine Mir.x_tpO ?_); refine ⟨by first | rfl | assumption, ?_⟩) | (with_reducible refine Mir.x_ltK ?_; refine ⟨Nat.le_of_ble_eq_true rfl, ?_⟩) | (with_reducible refine Mir.x_leK ?_; refine ⟨Nat.le_of_ble_eq_true rfl, ?_⟩) | (with_reducible refine Mir.x_eqK ?_; refine ⟨rfl, ?_⟩) | with_reducible refine Mir.w_eq (by with_reducible assumption) ?_ | with_reducible refine Mir.w_ex (by with_reducible assumption) ?_)))
local macro_rules | `(tactic| walk_at "mrs") => `(tactic| (repeat (first | with_reducible refine Mir.w_seq ?_ | with_reducible refine Mir.w_set ?_ | with_reducible refine Mir.w_setO ?_ | with_reducible refine Mir.w_expr ?_ | with_reducible refine Mir.w_next ?_ | with_reducible refine Mir.w_if ?_ | with_reducible refine Mir.w_sets ?_ | with_reducible refine Mir.w_aug rfl ?_ | with_reducible refine Mir.w_app rfl ?_ | with_reducible refine Mir.w_for ?_ | with_reducible refine Mir.w_rg ?_ | with_reducible refine Mir.w_iEn ?_ | with_reducible refine Mir.w_unT ?_ | with_reducible refine Mir.w_unL ?_ | with_reducible refine Mir.w_try ?_ | with_reducible refine Mir.w_lpn ?_ | with_reducible refine Mir.w_lpr ?_ | with_reducible refine Mir.w_iLst ?_ | with_reducible refine Mir.w_op2 ?_ | with_reducible refine Mir.w_C ?_ | with_reducible refine Mir.w_var rfl ?_ | with_reducible refine Mir.w_varO rfl ?_ | with_reducible refine Mir.w_nil ?_ | with_reducible refine Mir.w_cons ?_ | with_reducible refine Mir.w_call ?_ | with_reducible refine Mir.w_bi ?_ | with_reducible refine Mir.w_tup ?_ | with_reducible refine Mir.w_lst ?_ | with_reducible refine Mir.w_isi ?_ | with_reducible refine Mir.w_neg ?_ | with_reducible refine Mir.w_not ?_ | with_reducible refine Mir.w_and ?_ | with_reducible refine Mir.w_or ?_ | with_reducible refine Mir.w_eif ?_ | with_reducible refine Mir.w_chain ?_ | with_reducible refine Mir.w_ix ?_ | with_reducible refine Mir.w_sl ?_ | with_reducible refine Mir.w_no ?_ | with_reducible refine Mir.w_at ?_ | with_reducible refine Mir.w_lc ?_ | with_reducible refine Mir.w_yes ?_ | with_reducible refine Mir.w_kin ?_ | with_reducible refine Mir.w_rowR rfl rfl ?_ | with_reducible refine Mir.w_lenS rfl ?_ | with_reducible refine Mir.w_rowW rfl ?_ | with_reducible refine Mir.w_raise ?_ | with_reducible refine Mir.w_tB ?_ | with_reducible refine Mir.w_bAnd ?_ | with_reducible refine Mir.w_bOr ?_ | with_reducible refine Mir.w_bNot ?_ | with_reducible refine Mir.w_k ?_ | with_reducible refine Mir.w_asgT ?_ | with_reducible refine Mir.w_asg ?_ | with_reducible refine Mir.w_setIx rfl ?_ | with_reducible refine Mir.w_ext rfl ?_ | with_reducible refine Mir.w_rev rfl ?_ | with_reducible refine Mir.w_iTupl ?_ | with_reducible refine Mir.w_rv ?_ | with_reducible refine Mir.x_t ?_ | with_reducible refine Mir.x_f ?_ | with_reducible refine Mir.x_nt ?_ | with_reducible refine Mir.x_nf ?_ | with_reducible refine Mir.w_op1 ?_ | with_reducible refine Mir.w_cnt ?_ | with_reducible refine Mir.w_varB rfl ?_ | with_reducible refine Mir.w_varBo rfl ?_ | with_reducible refine Mir.w_isi2 ?_ | with_reducible refine Mir.w_zp ?_ | with_reducible refine Mir.w_star ?_ | with_reducible refine Mir.w_frz rfl ?_ | with_reducible refine Mir.w_lrg ?_ | with_reducible refine Mir.w_iSq ?_ | with_reducible refine Mir.w_lc2 ?_ | with_reducible refine Mir.w_jn ?_ | with_reducible refine Mir.w_spl ?_ | with_reducible refine Mir.w_iTxt ?_ | with_reducible refine Mir.w_lcX ?_ | with_reducible refine Mir.w_augIx rfl ?_ | with_reducible refine Mir.w_callN ?_ | with_reducible refine Mir.w_cn ?_ | with_reducible refine Mir.w_frL ?_ | with_reducible refine Mir.w_tpv ?_ | with_reducible refine Mir.w_make ?_ | with_reducible refine Mir.w_prop ?_ | with_reducible refine Mir.w_kr ?_ | (with_reducible refine Mir.x_exi ?_; first | with_reducible refine ⟨_, by assumption, ?_⟩ | refine ⟨_, rfl, ?_⟩) | ((with_reducible refine Mir.x_tpL ?_); refine ⟨by first | rfl | assumption, ?_⟩) | ((with_reducible refine Mir.x_tpO ?_); refine ⟨by first | rfl | assumption, ?_⟩) | (with_reducible refine Mir.x_ltK ?_; refine ⟨Nat.le_of_ble_eq_true rfl, ?_⟩) | (with_reducible refine Mir.x_leK ?_; refine ⟨Nat.le_of_ble_eq_true rfl, ?_⟩) | (with_reducible refine Mir.x_eqK ?_; refine ⟨rfl, ?_⟩) | with_reducible refine Mir.w_eq (by with_reducible assumption) ?_ | with_reducible refine Mir.w_ex (by with_reducible assumption) ?_)))
local macro_rules | `(tactic| walk_at "md") => `(tactic| (repeat (first | with_reducible refine Mir.zw_seq ?_ | with_reducible refine Mir.zw_set ?_ | with_reducible refine Mir.zw_rtn ?_ | with_reducible refine Mir.zw_if ?_ | with_reducible refine Mir.zw_next ?_ | with_reducible refine Mir.zw_k ?_ | with_reducible refine Mir.zw_kr ?_ | with_reducible refine Mir.zw_s ?_ | with_reducible refine Mir.zw_e ?_ | with_reducible refine Mir.zw_t ?_ | with_reducible refine Mir.zw_B ?_ | with_reducible refine Mir.zw_op2 ?_ | with_reducible refine Mir.zw_or ?_ | with_reducible refine Mir.zw_not ?_ | with_reducible refine Mir.zw_and ?_ | with_reducible refine Mir.zw_ife ?_ | with_reducible refine Mir.zw_call rfl ?_ | with_reducible refine Mir.zw_call0 rfl ?_ | with_reducible refine Mir.zw_callR ?_ | with_reducible refine Mir.zw_copy ?_ | with_reducible refine Mir.zw_for ?_ | with_reducible refine Mir.zw_try ?_ | with_reducible refine Mir.zw_mok ?_ | with_reducible refine Mir.zw_mor ?_ | with_reducible refine Mir.w_lenI ?_ | with_reducible refine Mir.w_mkX ?_ | with_reducible refine Mir.w_if0 ?_ | with_reducible refine Mir.w_nnr ?_ | with_reducible refine Mir.w_seq ?_ | with_reducible refine Mir.w_set ?_ | with_reducible refine Mir.w_setO ?_ | with_reducible refine Mir.w_expr ?_ | with_reducible refine Mir.w_sret ?_ | with_reducible refine Mir.w_next ?_ | with_reducible refine Mir.w_if ?_ | with_reducible refine Mir.w_sets ?_ | with_reducible refine Mir.w_aug rfl ?_ | with_reducible refine Mir.w_app rfl ?_ | with_reducible refine Mir.w_for ?_ | with_reducible refine Mir.w_rg ?_ | with_reducible refine Mir.w_iEn ?_ | with_reducible refine Mir.w_unT ?_ | with_reducible refine Mir.w_unL ?_ | with_reducible refine Mir.w_try ?_ | with_reducible refine Mir.w_lpn ?_ | with_reducible refine Mir.w_lpr ?_ | with_reducible refine Mir.w_iLst ?_ | with_reducible refine Mir.w_op2 ?_ | with_reducible refine Mir.w_C ?_ | with_reducible refine Mir.w_var rfl ?_ | with_reducible refine Mir.w_varO rfl ?_ | with_reducible refine Mir.w_nil ?_ | with_reducible refine Mir.w_cons ?_ | with_reducible refine Mir.w_call ?_ | with_reducible refine Mir.w_bi ?_ | with_reducible refine Mir.w_tup ?_ | with_reducible refine Mir.w_lst ?_ | with_reducible refine Mir.w_isi ?_ | with_reducible refine Mir.w_neg ?_ | with_reducible refine Mir.w_not ?_ | with_reducible refine Mir.w_and ?_ | with_reducible refine Mir.w_or ?_ | with_reducible refine Mir.w_eif ?_ | with_reducible refine Mir.w_chain ?_ | with_reducible refine Mir.w_ix ?_ | with_reducible refine Mir.w_sl ?_ | with_reducible refine Mir.w_no ?_ | with_reducible refine Mir.w_at ?_ | with_reducible refine Mir.w_lc ?_ | with_reducible refine Mir.w_yes ?_ | with_reducible refine Mir.w_kin ?_ | with_reducible refine Mir.w_rowR rfl rfl ?_ | with_reducible refine Mir.w_lenS rfl ?_ | with_reducible refine Mir.w_rowW rfl ?_ | with_reducible refine Mir.w_raise ?_ | with_reducible refine Mir.w_tB ?_ | with_reducible refine Mir.w_bAnd ?_ | with_reducible refine Mir.w_bOr ?_ | with_reducible refine Mir.w_bNot ?_ | with_reducible refine Mir.w_k ?_ | with_reducible refine Mir.w_asgT ?_ | with_reducible refine Mir.w_asg ?_ | with_reducible refine Mir.w_setIx rfl ?_ | with_reducible refine Mir.w_ext rfl ?_ | with_reducible refine Mir.w_rev rfl ?_ | with_reducible refine Mir.w_iTupl ?_ | with_reducible refine Mir.w_rv ?_ | with_reducible refine Mir.x_t ?_ | with_reducible refine Mir.x_f ?_ | with_reducible refine Mir.x_nt ?_ | with_reducible refine Mir.x_nf ?_ | with_reducible refine Mir.w_op1 ?_ | with_reducible refine Mir.w_cnt ?_ | with_reducible refine Mir.w_varB rfl ?_ | with_reducible refine Mir.w_varBo rfl ?_ | with_reducible refine Mir.w_isi2 ?_ | with_reducible refine Mir.w_zp ?_ | with_reducible refine Mir.w_star ?_ | with_reducible refine Mir.w_frz rfl ?_ | with_reducible refine Mir.w_lrg ?_ | with_reducible refine Mir.w_iSq ?_ | with_reducible refine Mir.w_lc2 ?_ | with_reducible refine Mir.w_jn ?_ | with_reducible refine Mir.w_spl ?_ | with_reducible refine Mir.w_iTxt ?_ | with_reducible refine Mir.w_lcX ?_ | with_reducible refine Mir.w_augIx rfl ?_ | with_reducible refine Mir.w_callN ?_ | with_reducible refine Mir.w_cn ?_ | with_reducible refine Mir.w_frL ?_ | with_reducible refine Mir.w_tpv ?_ | with_reducible refine Mir.w_make ?_ | with_reducible refine Mir.w_prop ?_ | with_reducible refine Mir.w_kr ?_ | (with_reducible refine Mir.x_exi ?_; first | with_reducible refine ⟨_, by assumption, ?_⟩ | refine ⟨_, rfl, ?_⟩) | ((with_reducible refine Mir.x_tpL ?_); refine ⟨by first | rfl | assumption, ?_⟩) | ((with_reducible refine Mir.x_tpO ?_); refine ⟨by first | rfl | assumption, ?_⟩) | (with_reducible refine Mir.x_ltK ?_; refine ⟨Nat.le_of_ble_eq_true rfl, ?_⟩) | (with_reducible refine Mir.x_leK ?_; refine ⟨Nat.le_of_ble_eq_true rfl, ?_⟩) | (with_reducible refine Mir.x_eqK ?_; refine ⟨rfl, ?_⟩) | with_reducible refine Mir.w_eq (by with_reducible assumption) ?_ | with_reducible refine Mir.w_ex (by with_reducible assumption) ?_ | with_reducible refine Mir.zw_eq (by with_reducible assumption) ?_ | with_reducible refine Mir.zw_ex (by with_reducible assumption) ?_ | ((with_reducible refine Mir.x_kp ?_); refine ⟨by first | exact Mir.keepB_nx rfl rfl rfl | rfl, ?_⟩) | ((with_reducible refine Mir.x_st ?_); refine ⟨⟨Nat.le_of_ble_eq_true rfl, by decide⟩, ?_⟩) | ((with_reducible refine Mir.x_objC ?_); refine ⟨Mir.isObjC_self, ?_⟩))))
namespace Mir
namespace k14
open PySem PySem.Spec PyProof.Rows L2
/-! ### the text -/
def topS (i : Nat) : Stmt := PySem.Challenge.pw_sizeshadow_k14_whole_desks.main.body.getD i (.Pass ⟨0, 0, 0, 0⟩)
def subS (i j : Nat) : Stmt := match topS i with
  | .ClassDef (body := b) .. => b.getD j (.Pass ⟨0, 0, 0, 0⟩)
  | s => s
def xns : List Str := ["BadKind", "BadLot", "NotThere", "BadLots"]
def xfl : List Str := ["index"]
def g_BAGS : PV := .str "bags"
def g_MOST_SIZE : PV := .int (8)
def g_MOST_THING : PV := .int (1000000)
def k_KINDS : List Str := ["bags", "sets"]
abbrev s_is_from : Stmt := topS 11
def n_is_from : List Str := ["value", "low", "high"]
theorem sc_is_from : FnScope n_is_from ["value", "low", "high"] (defScope s_is_from) := ⟨rfl, rfl, rfl, by decide +kernel, rfl, by decide +kernel, by decide +kernel⟩
abbrev s_check_kind : Stmt := topS 12
def n_check_kind : List Str := ["value"]
theorem sc_check_kind : FnScope n_check_kind ["value"] (defScope s_check_kind) := ⟨rfl, rfl, rfl, by decide +kernel, rfl, by decide +kernel, by decide +kernel⟩
abbrev s_choose : Stmt := topS 13
def n_choose : List Str := ["many", "some", "found", "at"]
theorem sc_choose : FnScope n_choose ["many", "some"] (defScope s_choose) := ⟨rfl, rfl, rfl, by decide +kernel, rfl, by decide +kernel, by decide +kernel⟩
abbrev s_is_lot : Stmt := topS 16
def n_is_lot : List Str := ["kind", "value", "one"]
theorem sc_is_lot : FnScope n_is_lot ["kind", "value"] (defScope s_is_lot) := ⟨rfl, rfl, rfl, by decide +kernel, rfl, by decide +kernel, by decide +kernel⟩
abbrev s_check_lot : Stmt := topS 17
def n_check_lot : List Str := ["kind", "value"]
theorem sc_check_lot : FnScope n_check_lot ["kind", "value"] (defScope s_check_lot) := ⟨rfl, rfl, rfl, by decide +kernel, rfl, by decide +kernel, by decide +kernel⟩
abbrev s_check_lots : Stmt := topS 18
def n_check_lots : List Str := ["kind", "value", "index", "lot"]
theorem sc_check_lots : FnScope n_check_lots ["kind", "value"] (defScope s_check_lots) := ⟨rfl, rfl, rfl, by decide +kernel, rfl, by decide +kernel, by decide +kernel⟩
abbrev s_place_of : Stmt := topS 19
def n_place_of : List Str := ["kind", "lot", "shift", "at", "thing"]
theorem sc_place_of : FnScope n_place_of ["kind", "lot"] (defScope s_place_of) := ⟨rfl, rfl, rfl, by decide +kernel, rfl, by decide +kernel, by decide +kernel⟩
abbrev s_in_order : Stmt := topS 20
def n_in_order : List Str := ["kind", "some", "rows", "lot", "size", "place"]
theorem sc_in_order : FnScope n_in_order ["kind", "some"] (defScope s_in_order) := ⟨rfl, rfl, rfl, by decide +kernel, rfl, by decide +kernel, by decide +kernel⟩
abbrev s_taken : Stmt := topS 21
def n_taken : List Str := ["lot", "at"]
theorem sc_taken : FnScope n_taken ["lot"] (defScope s_taken) := ⟨rfl, rfl, rfl, by decide +kernel, rfl, by decide +kernel, by decide +kernel⟩
abbrev s_closed_of : Stmt := topS 22
def n_closed_of : List Str := ["kind", "lots", "found", "waiting", "lot"]
theorem sc_closed_of : FnScope n_closed_of ["kind", "lots"] (defScope s_closed_of) := ⟨rfl, rfl, rfl, by decide +kernel, rfl, by decide +kernel, by decide +kernel⟩
abbrev s_counts_in : Stmt := topS 23
def n_counts_in : List Str := ["some", "sizes", "lot", "size"]
theorem sc_counts_in : FnScope n_counts_in ["some"] (defScope s_counts_in) := ⟨rfl, rfl, rfl, by decide +kernel, rfl, by decide +kernel, by decide +kernel⟩
abbrev s_Desk___init__ : Stmt := subS 25 0
def n_Desk___init__ : List Str := ["self", "kind", "lots"]
theorem sc_Desk___init__ : FnScope n_Desk___init__ ["self", "kind", "lots"] (defScope s_Desk___init__) := ⟨rfl, rfl, rfl, by decide +kernel, rfl, by decide +kernel, by decide +kernel⟩
abbrev s_Desk_kind : Stmt := subS 25 1
def n_Desk_kind : List Str := ["self"]
theorem sc_Desk_kind : FnScope n_Desk_kind ["self"] (defScope s_Desk_kind) := ⟨rfl, rfl, rfl, by decide +kernel, rfl, by decide +kernel, by decide +kernel⟩
abbrev s_Desk_lots : Stmt := subS 25 2
def n_Desk_lots : List Str := ["self"]
theorem sc_Desk_lots : FnScope n_Desk_lots ["self"] (defScope s_Desk_lots) := ⟨rfl, rfl, rfl, by decide +kernel, rfl, by decide +kernel, by decide +kernel⟩
abbrev s_Desk_counts : Stmt := subS 25 3
def n_Desk_counts : List Str := ["self"]
theorem sc_Desk_counts : FnScope n_Desk_counts ["self"] (defScope s_Desk_counts) := ⟨rfl, rfl, rfl, by decide +kernel, rfl, by decide +kernel, by decide +kernel⟩
abbrev s_Desk_steps : Stmt := subS 25 4
def n_Desk_steps : List Str := ["self"]
theorem sc_Desk_steps : FnScope n_Desk_steps ["self"] (defScope s_Desk_steps) := ⟨rfl, rfl, rfl, by decide +kernel, rfl, by decide +kernel, by decide +kernel⟩
abbrev s_Desk_add : Stmt := subS 25 5
def n_Desk_add : List Str := ["self", "lot", "now", "fresh", "one"]
theorem sc_Desk_add : FnScope n_Desk_add ["self", "lot"] (defScope s_Desk_add) := ⟨rfl, rfl, rfl, by decide +kernel, rfl, by decide +kernel, by decide +kernel⟩
abbrev s_Desk_take : Stmt := subS 25 6
def n_Desk_take : List Str := ["self", "lot", "now", "gone", "one"]
theorem sc_Desk_take : FnScope n_Desk_take ["self", "lot"] (defScope s_Desk_take) := ⟨rfl, rfl, rfl, by decide +kernel, rfl, by decide +kernel, by decide +kernel⟩
abbrev s_Desk_undo : Stmt := subS 25 7
def n_Desk_undo : List Str := ["self"]
theorem sc_Desk_undo : FnScope n_Desk_undo ["self"] (defScope s_Desk_undo) := ⟨rfl, rfl, rfl, by decide +kernel, rfl, by decide +kernel, by decide +kernel⟩
abbrev s_Desk_copy : Stmt := subS 25 8
def n_Desk_copy : List Str := ["self", "found"]
theorem sc_Desk_copy : FnScope n_Desk_copy ["self"] (defScope s_Desk_copy) := ⟨rfl, rfl, rfl, by decide +kernel, rfl, by decide +kernel, by decide +kernel⟩
abbrev s_Desk___len__ : Stmt := subS 25 9
def n_Desk___len__ : List Str := ["self"]
theorem sc_Desk___len__ : FnScope n_Desk___len__ ["self"] (defScope s_Desk___len__) := ⟨rfl, rfl, rfl, by decide +kernel, rfl, by decide +kernel, by decide +kernel⟩
abbrev s__law_draws : Stmt := topS 27
def n__law_draws : List Str := ["_law_script"]
theorem sc__law_draws : FnScope n__law_draws ["_law_script"] (defScope s__law_draws) := ⟨rfl, rfl, rfl, by decide +kernel, rfl, by decide +kernel, by decide +kernel⟩
abbrev s__law_pick : Stmt := topS 28
def n__law_pick : List Str := ["_law_row", "_law_many", "_law_cell", "_law_found"]
theorem sc__law_pick : FnScope n__law_pick ["_law_row", "_law_many"] (defScope s__law_pick) := ⟨rfl, rfl, rfl, by decide +kernel, rfl, by decide +kernel, by decide +kernel⟩
abbrev s__law_kind : Stmt := topS 29
def n__law_kind : List Str := ["_law_row"]
theorem sc__law_kind : FnScope n__law_kind ["_law_row"] (defScope s__law_kind) := ⟨rfl, rfl, rfl, by decide +kernel, rfl, by decide +kernel, by decide +kernel⟩
abbrev s__law_taken : Stmt := topS 30
def n__law_taken : List Str := ["_law_lot_here", "_law_k"]
theorem sc__law_taken : FnScope n__law_taken ["_law_lot_here"] (defScope s__law_taken) := ⟨rfl, rfl, rfl, by decide +kernel, rfl, by decide +kernel, by decide +kernel⟩
abbrev s__law_ordered : Stmt := topS 31
def n__law_ordered : List Str := ["_law_some_here", "_law_found", "_law_size", "_law_lot_here", "_law_one"]
theorem sc__law_ordered : FnScope n__law_ordered ["_law_some_here"] (defScope s__law_ordered) := ⟨rfl, rfl, rfl, by decide +kernel, rfl, by decide +kernel, by decide +kernel⟩
abbrev s__law_closed : Stmt := topS 32
def n__law_closed : List Str := ["_law_lots", "_law_known", "_law_lot_here", "_law_size", "_law_less", "_law_one"]
theorem sc__law_closed : FnScope n__law_closed ["_law_lots"] (defScope s__law_closed) := ⟨rfl, rfl, rfl, by decide +kernel, rfl, by decide +kernel, by decide +kernel⟩
abbrev s__law_counts : Stmt := topS 33
def n__law_counts : List Str := ["_law_some_here", "_law_sizes", "_law_lot_here", "_law_size"]
theorem sc__law_counts : FnScope n__law_counts ["_law_some_here"] (defScope s__law_counts) := ⟨rfl, rfl, rfl, by decide +kernel, rfl, by decide +kernel, by decide +kernel⟩
abbrev s__law_lot : Stmt := topS 34
def n__law_lot : List Str := ["_law_row", "_law_kind_here", "_law_things", "_law_most", "_law_lot_here", "_law_k", "_law_thing"]
theorem sc__law_lot : FnScope n__law_lot ["_law_row", "_law_kind_here", "_law_things", "_law_most"] (defScope s__law_lot) := ⟨rfl, rfl, rfl, by decide +kernel, rfl, by decide +kernel, by decide +kernel⟩
abbrev s__law_some : Stmt := topS 35
def n__law_some : List Str := ["_law_row", "_law_kind_here", "_law_things", "_law_most", "_law_many", "_law_k"]
theorem sc__law_some : FnScope n__law_some ["_law_row", "_law_kind_here", "_law_things", "_law_most", "_law_many"] (defScope s__law_some) := ⟨rfl, rfl, rfl, by decide +kernel, rfl, by decide +kernel, by decide +kernel⟩
abbrev s__law_odd_lots : Stmt := topS 36
def n__law_odd_lots : List Str := ["_law_kind_here"]
theorem sc__law_odd_lots : FnScope n__law_odd_lots ["_law_kind_here"] (defScope s__law_odd_lots) := ⟨rfl, rfl, rfl, by decide +kernel, rfl, by decide +kernel, by decide +kernel⟩
abbrev s__law_try : Stmt := topS 37
def n__law_try : List Str := ["_law_desk", "_law_word", "_law_lot_here", "_law_told_there", "e"]
theorem sc__law_try : FnScope n__law_try ["_law_desk", "_law_word", "_law_lot_here"] (defScope s__law_try) := ⟨rfl, rfl, rfl, by decide +kernel, rfl, by decide +kernel, by decide +kernel⟩
abbrev s__law_wrong : Stmt := topS 38
def n__law_wrong : List Str := ["_law_kind_here", "_law_lots", "_law_told_there", "e"]
theorem sc__law_wrong : FnScope n__law_wrong ["_law_kind_here", "_law_lots"] (defScope s__law_wrong) := ⟨rfl, rfl, rfl, by decide +kernel, rfl, by decide +kernel, by decide +kernel⟩
abbrev s__law_stands : Stmt := topS 39
def n__law_stands : List Str := ["_law_desk", "_law_kind_here", "_law_past", "_law_now"]
theorem sc__law_stands : FnScope n__law_stands ["_law_desk", "_law_kind_here", "_law_past"] (defScope s__law_stands) := ⟨rfl, rfl, rfl, by decide +kernel, rfl, by decide +kernel, by decide +kernel⟩
abbrev s__law_of_copy : Stmt := topS 40
def n__law_of_copy : List Str := ["_law_desk", "_law_kind_here", "_law_past", "_law_step", "_law_due", "_law_later", "_law_other", "_law_now"]
theorem sc__law_of_copy : FnScope n__law_of_copy ["_law_desk", "_law_kind_here", "_law_past", "_law_step", "_law_due", "_law_later"] (defScope s__law_of_copy) := ⟨rfl, rfl, rfl, by decide +kernel, rfl, by decide +kernel, by decide +kernel⟩
abbrev s_law : Stmt := topS 41
def n_law : List Str := ["_law_script", "_law_row", "_law_kind_here", "_law_lots", "_law_desk", "_law_past", "_law_turn", "_law_turn_of", "_law_now", "_law_word", "_law_lot_here", "_law_later", "_law_due", "_law_elder", "_law_one"]
theorem sc_law : FnScope n_law ["_law_script"] (defScope s_law) := ⟨rfl, rfl, rfl, by decide +kernel, rfl, by decide +kernel, by decide +kernel⟩
abbrev s_i_BadLots : Stmt := subS 5 0
theorem sc_i_BadLots : FnScope ["self", "index"] ["self", "index"] (defScope s_i_BadLots) := ⟨rfl, rfl, rfl, by decide +kernel, rfl, by decide +kernel, by decide +kernel⟩
/-! ### the mirrors -/
abbrev dkD (cl : Str → Addr) : Dk := ⟨cl "Desk", "own_kind", "states"⟩
def b_is_from : Env → M Fl := sRet (eAnd (eIsi .int (eVar 0)) (eAnd (eNot (eIsi .bool (eVar 0))) (eChain (gInt hLe) (gInt hLe) (eVar 1) (eVar 0) (eVar 2))))
def m_is_from : List PV → M PV := runF 3 b_is_from
def b_check_kind : Env → M Fl := sIf (bOr (bNot (tB (eIsi .str (eVar 0)))) (tB (eKin true k_KINDS (eVar 0)))) (sRaise "BadKind" [] aNil) (sNext)
def m_check_kind : List PV → M PV := runF 1 b_check_kind
def b_choose : Env → M Fl := sSeq (sIf (bOr (tB (eOp2 (gInt hLt) (eVar 1) (eC (.int 0)))) (tB (eOp2 (gInt hGt) (eVar 1) (eVar 0)))) (sRet (eC (.int 0))) (sNext)) (sSeq (sSet 2 (eC (.int 1))) (sSeq (sFor (iRg rg1 (aCons (eVar 1) (aNil))) (gNm 3) (sSet 2 (eOp2 (gInt hDiv) (eOp2 gMul (eVar 2) (eOp2 (gInt hSub) (eVar 0) (eVar 3))) (eOp2 gAdd (eVar 3) (eC (.int 1)))))) (sRet (eVar 2))))
def m_choose : List PV → M PV := runF 4 b_choose
def b_is_lot : Env → M Fl := sSeq (sIf (bOr (bNot (tB (eIsi .tuple (eVar 1)))) (tB (eOp2 (gInt hGt) (eBi gLen (aCons (eVar 1) (aNil))) (eC g_MOST_SIZE)))) (sRet (eC (.bl false))) (sNext)) (sSeq (sIf (bOr (bNot (tB (eBi gAll (aCons (eLc [2] (iTupl (eVar 1)) (gNm 2) (bYes) (eCall 3 m_is_from (aCons (eVar 2) (aCons (eC (.int 0)) (aCons (eC g_MOST_THING) (aNil)))))) (aNil))))) (tB (eOp2 gNe (eBi gToL (aCons (eVar 1) (aNil))) (eBi gSorted (aCons (eVar 1) (aNil)))))) (sRet (eC (.bl false))) (sNext)) (sRet (eOr (eOp2 gEq (eVar 0) (eC g_BAGS)) (eOp2 gEq (eOp1 gLenS (eVar 1)) (eBi gLen (aCons (eVar 1) (aNil)))))))
def m_is_lot : List PV → M PV := runF 3 b_is_lot
def b_check_lot : Env → M Fl := sIf (bNot (tB (eCall 2 m_is_lot (aCons (eVar 0) (aCons (eVar 1) (aNil)))))) (sRaise "BadLot" [] aNil) (sNext)
def m_check_lot : List PV → M PV := runF 2 b_check_lot
def b_check_lots : Env → M Fl := sSeq (sIf (bNot (tB (eIsi2 .list .tuple (eVar 1)))) (sRaiseF "BadLots" ["index"] (aCons (eC .non) (aNil))) (sNext)) (sFor (iEn (eVar 1)) (gTupl 2 (gsCons (gNm 2) (gsCons (gNm 3) (gsNil)))) (sIf (bNot (tB (eCall 2 m_is_lot (aCons (eVar 0) (aCons (eVar 3) (aNil)))))) (sRaiseF "BadLots" ["index"] (aCons (eVar 2) (aNil))) (sNext)))
def m_check_lots : List PV → M PV := runF 4 b_check_lots
def b_place_of : Env → M Fl := sSeq (sSet 2 (eIf (tB (eOp2 gEq (eVar 0) (eC g_BAGS))) (eC (.int 1)) (eC (.int 0)))) (sRet (eBi gSum (aCons (eLc [3, 4] (iEn (eVar 1)) (gTupl 2 (gsCons (gNm 3) (gsCons (gNm 4) (gsNil)))) (bYes) (eCall 2 m_choose (aCons (eOp2 gAdd (eVar 4) (eOp2 gMul (eVar 2) (eVar 3))) (aCons (eOp2 gAdd (eVar 3) (eC (.int 1))) (aNil))))) (aNil))))
def m_place_of : List PV → M PV := runF 5 b_place_of
def b_in_order : Env → M Fl := sSeq (sSet 2 (eBi gSorted (aCons (eLc [3] (iLst (eVar 1)) (gNm 3) (bYes) (eTup (aCons (eBi gLen (aCons (eVar 3) (aNil))) (aCons (eCall 2 m_place_of (aCons (eVar 0) (aCons (eVar 3) (aNil)))) (aCons (eVar 3) (aNil)))))) (aNil)))) (sRet (eLc [4, 5, 3] (iLst (eVar 2)) (gTupl 3 (gsCons (gNm 4) (gsCons (gNm 5) (gsCons (gNm 3) (gsNil))))) (bYes) (eVar 3)))
def m_in_order : List PV → M PV := runF 6 b_in_order
def b_taken : Env → M Fl := sRet (eLc [1] (iRg rg1 (aCons (eBi gLen (aCons (eVar 0) (aNil))) (aNil))) (gNm 1) (bYes) (eTup (aStar (eSl (eVar 0) oNo (oAt (eVar 1))) (aStar (eSl (eVar 0) (oAt (eOp2 gAdd (eVar 1) (eC (.int 1)))) oNo) (aNil)))))
def m_taken : List PV → M PV := runF 2 b_taken
def b_closed_of : Env → M Fl := sSeq (sSets [2, 3] [true, true] (aCons (eC (dicT [])) (aCons (eBi gToL (aCons (eVar 1) (aNil))) (aNil)))) (sSeq (sWhile 1000000 (tB (eOp2 gNe (eVarO 3) (eLst (aNil)))) (sSeq (sPop 3 4) (sIf (tB (eOp2 (gInD true) (eVar 4) (eVarO 2))) (sSeq (sDput 2 (eVar 4) (eC (.bl true))) (sExt 3 (eCall 1 m_taken (aCons (eVar 4) (aNil))))) (sNext)))) (sRet (eCall 2 m_in_order (aCons (eVar 0) (aCons (eBi gLstT (aCons (eVarO 2) (aNil))) (aNil))))))
def m_closed_of : List PV → M PV := runF 5 b_closed_of
def b_counts_in : Env → M Fl := sSeq (sSet 1 (eLc [2] (iTupl (eVar 0)) (gNm 2) (bYes) (eBi gLen (aCons (eVar 2) (aNil))))) (sRet (eIf (tB (eOp2 gNe (eVar 1) (eLst (aNil)))) (eBi gToT (aCons (eLc [3] (iRg rg1 (aCons (eOp2 gAdd (eBi gMax (aCons (eVar 1) (aNil))) (eC (.int 1))) (aNil))) (gNm 3) (bYes) (eCnt (eVar 1) (eVar 3))) (aNil))) (eTup (aNil))))
def m_counts_in : List PV → M PV := runF 4 b_counts_in
def mi_Desk : List PV → M (PV × PV) := miOf (eCall 1 m_check_kind (aCons (eVar 1) (aNil))) (eCall 2 m_check_lots (aCons (eVar 1) (aCons (eVar 2) (aNil)))) (eVar 1) (eTup (aCons (eBi gToT (aCons (eCall 2 m_closed_of (aCons (eVar 1) (aCons (eVar 2) (aNil)))) (aNil))) (aNil))) 3 .non
def b_Desk_kind (cl : Str → Addr) : Env → M Fl := sRet (eOp1 (gFld (cl "Desk") "own_kind") (eVar 0))
def m_Desk_kind (cl : Str → Addr) : List PV → M PV := runF 1 (b_Desk_kind cl)
def b_Desk_lots (cl : Str → Addr) : Env → M Fl := sRet (eBi gToL (aCons (eIx (eOp1 (gFld (cl "Desk") "states") (eVar 0)) (eNeg (eC (.int 1)))) (aNil)))
def m_Desk_lots (cl : Str → Addr) : List PV → M PV := runF 1 (b_Desk_lots cl)
def b_Desk_counts (cl : Str → Addr) : Env → M Fl := sRet (eCall 1 m_counts_in (aCons (eIx (eOp1 (gFld (cl "Desk") "states") (eVar 0)) (eNeg (eC (.int 1)))) (aNil)))
def m_Desk_counts (cl : Str → Addr) : List PV → M PV := runF 1 (b_Desk_counts cl)
def b_Desk_steps (cl : Str → Addr) : Env → M Fl := sRet (eBi gLen (aCons (eSl (eOp1 (gFld (cl "Desk") "states") (eVar 0)) (oAt (eC (.int 1))) oNo) (aNil)))
def m_Desk_steps (cl : Str → Addr) : List PV → M PV := runF 1 (b_Desk_steps cl)
def m_Desk_add (cl : Str → Addr) : List PV → DM PV := moK (dkD cl) 5 3 (sSeq (sExpr (eCall 2 m_check_lot (aCons (eOp1 (gFld (cl "Desk") "own_kind") (eVar 0)) (aCons (eVar 1) (aNil))))) (sSeq (sSet 2 (eIx (eOp1 (gFld (cl "Desk") "states") (eVar 0)) (eNeg (eC (.int 1))))) (sSeq (sSet 3 (eLc [4] (iLst (eCall 2 m_closed_of (aCons (eOp1 (gFld (cl "Desk") "own_kind") (eVar 0)) (aCons (eLst (aCons (eVar 1) (aNil))) (aNil))))) (gNm 4) (tB (eOp2 gNinTT (eVar 4) (eVar 2))) (eVar 4))) (sNext)))) (eTup (aStar (eOp1 (gFld (cl "Desk") "states") (eVar 0)) (aCons (eBi gToT (aCons (eCall 2 m_in_order (aCons (eOp1 (gFld (cl "Desk") "own_kind") (eVar 0)) (aCons (eLst (aStar (eVar 2) (aStar (eVar 3) (aNil)))) (aNil)))) (aNil))) (aNil)))) (eVar 3)
def m_Desk_take (cl : Str → Addr) : List PV → DM PV := moK (dkD cl) 5 3 (sSeq (sExpr (eCall 2 m_check_lot (aCons (eOp1 (gFld (cl "Desk") "own_kind") (eVar 0)) (aCons (eVar 1) (aNil))))) (sSeq (sSet 2 (eIx (eOp1 (gFld (cl "Desk") "states") (eVar 0)) (eNeg (eC (.int 1))))) (sSeq (sIf0 (tB (eOp2 gNinTT (eVar 1) (eVar 2))) (sRaise "NotThere" [] aNil)) (sSeq (sSet 3 (eLc [4] (iTupl (eVar 2)) (gNm 4) (tB (eOp2 gIn (eVar 1) (eCall 2 m_closed_of (aCons (eOp1 (gFld (cl "Desk") "own_kind") (eVar 0)) (aCons (eLst (aCons (eVar 4) (aNil))) (aNil)))))) (eVar 4))) (sNext))))) (eTup (aStar (eOp1 (gFld (cl "Desk") "states") (eVar 0)) (aCons (eBi gToT (aCons (eLc [4] (iTupl (eVar 2)) (gNm 4) (tB (eOp2 gNin (eVar 4) (eVar 3))) (eVar 4)) (aNil))) (aNil)))) (eVar 3)
def m_Desk_undo (cl : Str → Addr) : List PV → DM PV := moK (dkD cl) 1 1 (sSeq (sIf0 (tB (eOp2 gEq (eBi gLen (aCons (eOp1 (gFld (cl "Desk") "states") (eVar 0)) (aNil))) (eC (.int 1)))) (sRet (eC (.bl false)))) (sNext)) (eSl (eOp1 (gFld (cl "Desk") "states") (eVar 0)) oNo (oAt (eNeg (eC (.int 1))))) (eC (.bl true))
def ok_Desk_copy (cl : Str → Addr) : DS → Prop := okC (dkD cl) 2 mi_Desk (aCons (eOp1 (gFld (cl "Desk") "own_kind") (eVar 0)) (aCons (eLst (aNil)) (aNil))) (eOp1 (gFld (cl "Desk") "states") (eVar 0))
def b_Desk___len__ (cl : Str → Addr) : Env → M Fl := sRet (eBi gLen (aCons (eIx (eOp1 (gFld (cl "Desk") "states") (eVar 0)) (eNeg (eC (.int 1)))) (aNil)))
def m_Desk___len__ (cl : Str → Addr) : List PV → M PV := runF 1 (b_Desk___len__ cl)
def b__law_pick : Env → M Fl := sSeq (sIf (tB (eOp2 gEq (eRow 0 2) (eC (.int 0)))) (sIf (tB (eOp2 (gInt hLt) (eRow 0 1) (eLenS 0))) (sSeq (sSet 2 (eCell 0)) (sSeq (sRow 0 1 (eOp2 gAdd (eRow 0 1) (eC (.int 1)))) (sIf (tB (eOp2 (gInt hGe) (eVar 2) (eOp2 (gInt hPow) (eC (.int 10)) (eC (.int 18))))) (sRow 0 2 (eVar 2)) (sRow 0 3 (eOp2 (gInt hMod) (eBi gToInt (aCons (eOp2 gAdd (eOp2 gAdd (eOp2 gMul (eRow 0 3) (eC (.int 48271))) (eOp2 gMul (eVar 2) (eC (.int 69621)))) (eC (.int 11))) (aNil))) (eC (.int 2147483647))))))) (sRow 0 3 (eOp2 (gInt hMod) (eBi gToInt (aCons (eOp2 gAdd (eOp2 gMul (eRow 0 3) (eC (.int 48271))) (eC (.int 7))) (aNil))) (eC (.int 2147483647))))) (sNext)) (sSeq (sIf (tB (eOp2 (gInt hGt) (eRow 0 2) (eC (.int 0)))) (sSeq (sSet 3 (eOp2 (gInt hMod) (eBi gToInt (aCons (eRow 0 2) (aNil))) (eVar 1))) (sSeq (sRow 0 2 (eOp2 (gInt hDiv) (eRow 0 2) (eVar 1))) (sRet (eVar 3)))) (sNext)) (sRet (eOp2 (gInt hMod) (eOp2 (gInt hMod) (eBi gToInt (aCons (eOp2 gMul (eRow 0 3) (eC (.int 16807))) (aNil))) (eC (.int 2147483629))) (eVar 1))))
def m__law_pick : List PV → M PV := runF 4 b__law_pick
def b__law_kind : Env → M Fl := sRet (eIx (eLst (aCons (eC (.str "sets")) (aCons (eC (.str "bags")) (aNil)))) (eCall 2 m__law_pick (aCons (eVar 0) (aCons (eC (.int 2)) (aNil)))))
def m__law_kind : List PV → M PV := runF 1 b__law_kind
def b__law_taken : Env → M Fl := sRet (eLc [1] (iRg rg1 (aCons (eBi gLen (aCons (eVar 0) (aNil))) (aNil))) (gNm 1) (bYes) (eOp2 gAdd (eSl (eVar 0) oNo (oAt (eVar 1))) (eSl (eVar 0) (oAt (eOp2 gAdd (eVar 1) (eC (.int 1)))) oNo)))
def m__law_taken : List PV → M PV := runF 2 b__law_taken
def b__law_ordered : Env → M Fl := sSeq (sSet 1 (eLst (aNil))) (sSeq (sFor (iRg rg1 (aCons (eC (.int 9)) (aNil))) (gNm 2) (sSet 1 (eOp2 gAdd (eVar 1) (eLc [3] (iLst (eBi gSorted (aCons (eLc [4] (iLst (eVar 0)) (gNm 4) (tB (eOp2 gEq (eBi gLen (aCons (eVar 4) (aNil))) (eVar 2))) (eRv (eVar 4))) (aNil)))) (gNm 3) (bYes) (eRv (eVar 3)))))) (sRet (eVar 1)))
def m__law_ordered : List PV → M PV := runF 5 b__law_ordered
def b__law_closed : Env → M Fl := sSeq (sSetO 1 (eC (dicT []))) (sSeq (sFor (iLst (eVar 0)) (gNm 2) (sDput 1 (eVar 2) (eC (.bl true)))) (sSeq (sFor (iRg rgD (aCons (eC (.int 8)) (aCons (eC (.int 0)) (aCons (eNeg (eC (.int 1))) (aNil))))) (gNm 3) (sFor (iLst (eLcD [5] 1 (gNm 5) (tB (eOp2 gEq (eBi gLen (aCons (eVar 5) (aNil))) (eVar 3))) (eVar 5))) (gNm 2) (sFor (iLst (eCall 1 m__law_taken (aCons (eVar 2) (aNil)))) (gNm 4) (sDput 1 (eVar 4) (eC (.bl true)))))) (sRet (eCall 1 m__law_ordered (aCons (eBi gLstT (aCons (eVarO 1) (aNil))) (aNil))))))
def m__law_closed : List PV → M PV := runF 6 b__law_closed
def b__law_counts : Env → M Fl := sSeq (sSet 1 (eLc [2] (iLst (eVar 0)) (gNm 2) (bYes) (eBi gLen (aCons (eVar 2) (aNil))))) (sRet (eIf (tB (eOp2 gNe (eVar 1) (eLst (aNil)))) (eBi gToT (aCons (eLc [3] (iRg rg1 (aCons (eOp2 gAdd (eBi gMax (aCons (eVar 1) (aNil))) (eC (.int 1))) (aNil))) (gNm 3) (bYes) (eCnt (eVar 1) (eVar 3))) (aNil))) (eTup (aNil))))
def m__law_counts : List PV → M PV := runF 4 b__law_counts
def b__law_lot : Env → M Fl := sSeq (sSet 4 (eTup (aNil))) (sSeq (sFor (iRg rg1 (aCons (eCall 2 m__law_pick (aCons (eVar 0) (aCons (eOp2 gAdd (eVar 3) (eC (.int 1))) (aNil)))) (aNil))) (gNm 5) (sSeq (sSet 6 (eCall 2 m__law_pick (aCons (eVar 0) (aCons (eVar 2) (aNil))))) (sIf (bOr (tB (eOp2 gEq (eVar 1) (eC (.str "bags")))) (tB (eOp2 gNin (eVar 6) (eVar 4)))) (sSet 4 (eOp2 gAdd (eVar 4) (eTup (aCons (eVar 6) (aNil))))) (sNext)))) (sRet (eBi gToT (aCons (eBi gSorted (aCons (eVar 4) (aNil))) (aNil)))))
def m__law_lot : List PV → M PV := runF 7 b__law_lot
def b__law_some : Env → M Fl := sRet (eLc [5] (iRg rg1 (aCons (eCall 2 m__law_pick (aCons (eVar 0) (aCons (eOp2 gAdd (eVar 4) (eC (.int 1))) (aNil)))) (aNil))) (gNm 5) (bYes) (eCall 4 m__law_lot (aCons (eVar 0) (aCons (eVar 1) (aCons (eVar 2) (aCons (eVar 3) (aNil)))))))
def m__law_some : List PV → M PV := runF 6 b__law_some
def b__law_odd_lots : Env → M Fl := sRet (eLst (aCons (eC .non) (aCons (eC (.int 5)) (aCons (eLst (aCons (eC (.int 0)) (aCons (eC (.int 1)) (aNil)))) (aCons (eTup (aCons (eC (.int 1)) (aCons (eC (.int 0)) (aNil)))) (aCons (eTup (aCons (eNeg (eC (.int 1))) (aNil))) (aCons (eTup (aCons (eC (.bl true)) (aNil))) (aCons (eTup (aCons (eC (.int 1000001)) (aNil))) (aCons (eTup (aCons (eC (.str "0")) (aNil))) (aCons (eOp2 gMul (eTup (aCons (eC (.int 0)) (aNil))) (eC (.int 9))) (aCons (eTup (aCons (eC .non) (aNil))) (aCons (eC (.str "01")) (aCons (eC (.dic [] [])) (aCons (eTup (aCons (eC (.int 0)) (aCons (eTup (aCons (eC (.int 1)) (aNil))) (aNil)))) (aNil)))))))))))))))
def m__law_odd_lots : List PV → M PV := runF 1 b__law_odd_lots
def b__law_try (cl : Str → Addr) : Env → DM Fl := dSeq (dS 0 (sSet 3 (eC .non))) (dSeq (dTry xns 3 4 [("BadLot", .one "lot"), ("NotThere", .one "there")] 0 (dSet 3 0 (dIfE (dT (tB (eOp2 gEq (eVar 1) (eC (.str "add"))))) (dCall 0 1 (m_Desk_add cl) (aCons (eVar 2) (aNil))) (dCall 0 1 (m_Desk_take cl) (aCons (eVar 2) (aNil)))))) (dS 0 (sRet (eVar 3))))
def m__law_try (cl : Str → Addr) : List PV → DM PV := runK 5 (b__law_try cl)
def b__law_wrong : Env → M Fl := sSeq (sSet 2 (eC .non)) (sSeq (sTry xns 2 3 [("BadKind", .one "kind"), ("BadLots", .lst [.c "lots", .f "index"])] (sSet 2 (eMakeX 2 mi_Desk (aCons (eVar 0) (aCons (eVar 1) (aNil)))))) (sRet (eVar 2)))
def m__law_wrong : List PV → M PV := runF 4 b__law_wrong
def b__law_stands (cl : Str → Addr) : Env → M Fl := sSeq (sSet 3 (eIx (eVar 2) (eNeg (eC (.int 1))))) (sSeq (sIf (bOr (tB (eOp2 gNe (eProp (cl "Desk") (m_Desk_kind cl) (eVar 0)) (eVar 1))) (bOr (tB (eOp2 gNe (eProp (cl "Desk") (m_Desk_lots cl) (eVar 0)) (eVar 3))) (tB (eOp2 gNe (eProp (cl "Desk") (m_Desk_counts cl) (eVar 0)) (eCall 1 m__law_counts (aCons (eVar 3) (aNil))))))) (sRet (eC (.bl false))) (sNext)) (sRet (eAnd (eOp2 gEq (eLenI (cl "Desk") (m_Desk___len__ cl) (eVar 0)) (eBi gLen (aCons (eVar 3) (aNil)))) (eOp2 gEq (eProp (cl "Desk") (m_Desk_steps cl) (eVar 0)) (eOp2 (gInt hSub) (eBi gLen (aCons (eVar 2) (aNil))) (eC (.int 1)))))))
def m__law_stands (cl : Str → Addr) : List PV → M PV := runF 4 (b__law_stands cl)
def b__law_of_copy (cl : Str → Addr) : Env → DM Fl := dSeq (dIf (dtOr (dtNot (dB (dCallR (dkD cl) 3 (m__law_stands cl) (aCons (eVar 1) (aCons (eVar 2) (aNil)))))) (dB (dOp2 gNe (dCall 6 2 (m__law_try cl) (aCons (eIx (eVar 3) (eC (.int 0))) (aCons (eIx (eVar 3) (eC (.int 1))) (aNil)))) (dE (eVar 4))))) (dS 6 (sRet (eC (.bl false)))) (dNext)) (dSeq (dS 6 (sSet 7 (eIf (tB (eOp2 gNe (eVar 4) (eC (.str "there")))) (eOp2 gAdd (eVar 2) (eLst (aCons (eVar 5) (aNil)))) (eVar 2)))) (dSeq (dIf (dtOr (dtNot (dB (dCallR (dkD cl) 3 (m__law_stands cl) (aCons (eVar 1) (aCons (eVar 7) (aNil)))))) (dtOr (dT (bNot (tB (eCall 3 (m__law_stands cl) (aCons (eVar 0) (aCons (eVar 1) (aCons (eVar 2) (aNil)))))))) (dB (dOp2 gNe (dCall0 6 (m_Desk_undo cl)) (dE (eOp2 (gInt hGt) (eBi gLen (aCons (eVar 7) (aNil))) (eC (.int 1)))))))) (dS 6 (sRet (eC (.bl false)))) (dNext)) (dRtn (dAnd (dCallR (dkD cl) 3 (m__law_stands cl) (aCons (eVar 1) (aCons (eSl (eVar 7) oNo (oAt (eBi gMax (aCons (eC (.int 1)) (aCons (eOp2 (gInt hSub) (eBi gLen (aCons (eVar 7) (aNil))) (eC (.int 1))) (aNil)))))) (aNil)))) (dE (eCall 3 (m__law_stands cl) (aCons (eVar 0) (aCons (eVar 1) (aCons (eVar 2) (aNil))))))))))
noncomputable def m__law_of_copy (cl : Str → Addr) : List PV → M PV := moc (dkD cl) (ok_Desk_copy cl) 8 6 (b__law_of_copy cl)
def b_law0 (cl : Str → Addr) : Env → M Fl := sSeq (sSet 2 (eCall 1 m__law_kind (aCons (eVar 1) (aNil)))) (sSeq (sSet 3 (eCall 5 m__law_some (aCons (eVar 1) (aCons (eVar 2) (aCons (eC (.int 4)) (aCons (eC (.int 3)) (aCons (eC (.int 3)) (aNil)))))))) (sNext))
def b_lawA (cl : Str → Addr) : AF := aCons (eVar 2) (aCons (eVar 3) (aNil))
def b_lawP (cl : Str → Addr) : EF := eLst (aCons (eCall 1 m__law_closed (aCons (eVar 3) (aNil))) (aNil))
noncomputable def b_lawU (cl : Str → Addr) : Env → DM Fl := dSeq (dIf (dB (dOp2 gNe (dCall0 4 (m_Desk_undo cl)) (dE (eOp2 (gInt hGt) (eBi gLen (aCons (eVar 5) (aNil))) (eC (.int 1)))))) (dS 4 (sRet (eC (.bl false)))) (dNext)) (dS 4 (sSet 5 (eIf (tB (eOp2 (gInt hGt) (eBi gLen (aCons (eVar 5) (aNil))) (eC (.int 1)))) (eSl (eVar 5) oNo (oAt (eNeg (eC (.int 1))))) (eVar 5))))
noncomputable def b_lawC (cl : Str → Addr) : Env → DM Fl := dIf (dtNot (dB (dCallR (dkD cl) 6 (m__law_of_copy cl) (aCons (eVar 2) (aCons (eVar 5) (aCons (eTup (aCons (eVar 9) (aCons (eVar 10) (aNil)))) (aCons (eVar 12) (aCons (eVar 11) (aNil))))))))) (dS 4 (sRet (eC (.bl false)))) (dNext)
noncomputable def b_lawD (cl : Str → Addr) : Env → DM Fl := dSeq (dSet 13 4 (dCopy (dkD cl) (ok_Desk_copy cl))) (dSeq (dIf (dtOr (dB (dOp2 gNe (dCall 4 2 (m__law_try cl) (aCons (eVar 9) (aCons (eVar 10) (aNil)))) (dE (eVar 12)))) (dT (bNot (tB (eCall 3 (m__law_stands cl) (aCons (eVar 13) (aCons (eVar 2) (aCons (eVar 5) (aNil))))))))) (dS 4 (sRet (eC (.bl false)))) (dNext)) (dS 4 (sSet 5 (eIf (tB (eOp2 gNe (eVar 12) (eC (.str "there")))) (eOp2 gAdd (eVar 5) (eLst (aCons (eVar 11) (aNil)))) (eVar 5)))))
noncomputable def b_lawZ (cl : Str → Addr) : Env → DM Fl := dIf (dtOr (dB (dOp2 gNe (dCall 4 2 (m__law_try cl) (aCons (eVar 9) (aCons (eIx (eCall 1 m__law_odd_lots (aCons (eVar 2) (aNil))) (eCall 2 m__law_pick (aCons (eVar 1) (aCons (eC (.int 13)) (aNil))))) (aNil)))) (dE (eC (.str "lot"))))) (dtNot (dB (dCallR (dkD cl) 3 (m__law_stands cl) (aCons (eVar 2) (aCons (eVar 5) (aNil))))))) (dS 4 (sRet (eC (.bl false)))) (dNext)
noncomputable def b_lawT (cl : Str → Addr) : Env → DM Fl := dSeq (dIf (dT (tB (eOp2 gEq (eVar 7) (eC (.int 0))))) (b_lawU cl) (dIf (dT (tB (eOp2 gEq (eVar 7) (eC (.int 1))))) (b_lawC cl) (b_lawD cl))) (b_lawZ cl)
noncomputable def b_lawM (cl : Str → Addr) : Env → DM Fl := dSeq (dS 4 (sIf (tB (eOp2 gEq (eVar 9) (eC (.str "add")))) (sSeq (sSet 11 (eCall 1 m__law_closed (aCons (eOp2 gAdd (eVar 8) (eLst (aCons (eVar 10) (aNil)))) (aNil)))) (sSet 12 (eLc [14] (iLst (eVar 11)) (gNm 14) (tB (eOp2 gNin (eVar 14) (eVar 8))) (eVar 14)))) (sIf (tB (eOp2 gIn (eVar 10) (eVar 8))) (sSeq (sSet 12 (eLc [14] (iLst (eVar 8)) (gNm 14) (tB (eOp2 gIn (eVar 10) (eCall 1 m__law_closed (aCons (eLst (aCons (eVar 14) (aNil))) (aNil))))) (eVar 14))) (sSet 11 (eLc [14] (iLst (eVar 8)) (gNm 14) (tB (eOp2 gNin (eVar 14) (eVar 12))) (eVar 14)))) (sNext)))) (b_lawT cl)
noncomputable def b_lawB (cl : Str → Addr) : Env → DM Fl := dSeq (dS 4 (sAsgT 3 (aCons (eCall 2 m__law_pick (aCons (eVar 1) (aCons (eC (.int 6)) (aNil)))) (aCons (eIx (eVar 5) (eNeg (eC (.int 1)))) (aCons (eIx (eLst (aCons (eC (.str "add")) (aCons (eC (.str "take")) (aNil)))) (eCall 2 m__law_pick (aCons (eVar 1) (aCons (eC (.int 2)) (aNil))))) (aNil)))) (gsCons (gNm 7) (gsCons (gNm 8) (gsCons (gNm 9) (gsNil)))))) (dSeq (dS 4 (sSet 10 (eIx (eOp2 gAdd (eVar 8) (eOp2 gMul (eLst (aCons (eCall 4 m__law_lot (aCons (eVar 1) (aCons (eVar 2) (aCons (eC (.int 4)) (aCons (eC (.int 4)) (aNil)))))) (aNil))) (eC (.int 3)))) (eCall 2 m__law_pick (aCons (eVar 1) (aCons (eOp2 gAdd (eBi gLen (aCons (eVar 8) (aNil))) (eC (.int 3))) (aNil))))))) (dSeq (dS 4 (sAsgT 2 (aCons (eVar 8) (aCons (eC (.str "there")) (aNil))) (gsCons (gNm 11) (gsCons (gNm 12) (gsNil))))) (b_lawM cl)))
noncomputable def b_lawE (cl : Str → Addr) : Env → DM Fl := dSeq (dS 4 (sIf (bOr (tB (eOp2 gNe (eCall 2 m__law_wrong (aCons (eC (.str "set")) (aCons (eC .non) (aNil)))) (eC (.str "kind")))) (tB (eOp2 gNe (eCall 2 m__law_wrong (aCons (eVar 2) (aCons (eOp2 gAdd (eVar 3) (eLst (aCons (eC .non) (aNil)))) (aNil)))) (eLst (aCons (eC (.str "lots")) (aCons (eBi gLen (aCons (eVar 3) (aNil))) (aNil))))))) (sRet (eC (.bl false))) (sNext))) (dSeq (dS 4 (sIf (tB (eOp2 gNe (eCall 2 m__law_wrong (aCons (eVar 2) (aCons (eIx (eLst (aCons (eC .non) (aCons (eC (.dic [] [])) (aCons (eC (.str "lots")) (aCons (eC (.int 5)) (aNil)))))) (eCall 2 m__law_pick (aCons (eVar 1) (aCons (eC (.int 4)) (aNil))))) (aNil)))) (eLst (aCons (eC (.str "lots")) (aCons (eC .non) (aNil)))))) (sRet (eC (.bl false))) (sNext))) (dRtn (dCallR (dkD cl) 3 (m__law_stands cl) (aCons (eVar 2) (aCons (eVar 5) (aNil))))))
noncomputable def b_law (cl : Str → Addr) : Env → DM Fl := dSeq (dFor (iRg rg1 (aCons (eCall 2 m__law_pick (aCons (eVar 1) (aCons (eC (.int 13)) (aNil)))) (aNil))) (gNm 6) 4 (b_lawB cl)) (b_lawE cl)
section
variable {P : Program} {w : World} {K : PySem.W.Frag} {mg : Str → Option Value} {base : Heap} {f C : Addr} {fd : FuncData}
theorem x_BadLots (F : Fun K "__init__" "BadLots.__init__" s_i_BadLots f fd) (hm : mg "BadLots" = some (.ref C)) (T : OexC K C) (hi : PySem.W.findIn K (.ref C) "__init__" = some (some (.ref f))) (ht : PySem.W.typeIn K (.ref f) = some (.type "function")) (nf_index : PySem.W.findIn K (.ref C) "index" = some none) : ExI P w K mg base 1 "BadLots" ["index"] :=
  ⟨C, f, fd, _, hm, T, hi, ht, init1 (y := "") F sc_i_BadLots rfl T nf_index (fun cdv A outer s H E => pss_one (ps_ost (pv 0) (pv 1))) rfl, F.binds fun _ _ _ _ _ _ us hl => match us, hl with | [_, _], _ => rfl⟩
theorem f_is_from (F : Fun K "is_from" "is_from" s_is_from f fd) (hm : mg "is_from" = some (.ref f)) (z_isinstance : mg "isinstance" = none) (z_bool : mg "bool" = none) (z_int : mg "int" = none) : FnM P w K mg base 1 "is_from" 3 m_is_from :=
  fn_mir F sc_is_from rfl hm (F.binds fun _ _ _ _ _ _ us hl => match us, hl with | [_, _, _], _ => rfl) (fun cdv A outer s H E T => mss_one (ms0 (ms_ret (me_and (me_isi .int (mv 0) z_isinstance z_int) (me_and (me_not (me_isi .bool (mv 0) z_isinstance z_bool)) (me_one (me_chain oLe oLe (mv 1) (mv 0) (mv 2))))))))
theorem f_check_kind (F : Fun K "check_kind" "check_kind" s_check_kind f fd) (hm : mg "check_kind" = some (.ref f)) (z_isinstance : mg "isinstance" = none) (z_str : mg "str" = none) (K_KINDS : GTup K mg "KINDS" k_KINDS) (X_BadKind : ExC K mg "BadKind") : FnM P w K mg base 1 "check_kind" 1 m_check_kind :=
  fn_mir F sc_check_kind rfl hm (F.binds fun _ _ _ _ _ _ us hl => match us, hl with | [_], _ => rfl) (fun cdv A outer s H E T => mss_one (ms_if (mt_w (mw_or (mt_not (mt_val (me_isi .str (mv 0) z_isinstance z_str))) (mw_or1 (mt_nin K_KINDS (mv 0))))) (mss_one (ms0 (ms_raise0 T X_BadKind))) (mss_nil)))
theorem f_choose (F : Fun K "choose" "choose" s_choose f fd) (hm : mg "choose" = some (.ref f)) (z_range : mg "range" = none) : FnM P w K mg base 1 "choose" 2 m_choose :=
  fn_mir F sc_choose rfl hm (F.binds fun _ _ _ _ _ _ us hl => match us, hl with | [_, _], _ => rfl) (fun cdv A outer s H E T => mss_cons (ms_if (mt_w (mw_or (mt_cmp oLt (mv 1) (me_int)) (mw_or1 (mt_cmp oGt (mv 1) (mv 0))))) (mss_one (ms0 (ms_ret (me_int)))) (mss_nil)) (mss_cons (ms0 (ms_set T (me_int) 2)) (mss_cons (ms_for T (mi_rg1 (ml_cons (mv 1) (ml_nil)) z_range) (mg_name T 3) (mss_one (ms0 (ms_set T (me_bin oDiv (me_bin oMul (mv 2) (me_bin oSub (mv 0) (mv 3))) (me_bin oAdd (mv 3) (me_int))) 2)))) (mss_one (ms0 (ms_ret (mv 2)))))))
theorem f_is_lot (F : Fun K "is_lot" "is_lot" s_is_lot f fd) (hm : mg "is_lot" = some (.ref f)) (z_len : mg "len" = none) (z_set : mg "set" = none) (z_list : mg "list" = none) (z_sorted : mg "sorted" = none) (z_all : mg "all" = none) (z_isinstance : mg "isinstance" = none) (z_tuple : mg "tuple" = none) (G_BAGS : GV mg "BAGS" g_BAGS) (G_MOST_THING : GV mg "MOST_THING" g_MOST_THING) (G_MOST_SIZE : GV mg "MOST_SIZE" g_MOST_SIZE) (G_is_from : FnM P w K mg base 1 "is_from" 3 m_is_from) : FnM P w K mg base 2 "is_lot" 2 m_is_lot :=
  fn_mir F sc_is_lot rfl hm (F.binds fun _ _ _ _ _ _ us hl => match us, hl with | [_, _], _ => rfl) (fun cdv A outer s H E T => mss_cons (ms_if (mt_w (mw_or (mt_not (mt_val (me_isi .tuple (mv 1) z_isinstance z_tuple))) (mw_or1 (mt_cmp oGt (me_callB oLen (ml_cons ((mv 1).b) (ml_nil)) z_len) (me_gv G_MOST_SIZE))))) (mss_one (ms0 (ms_ret (me_bl)))) (mss_nil)) (mss_cons (ms_if (mt_w (mw_or (mt_not (mt_val (me_callB (oAll T.calm) (ml_cons ((me_lc (own := [("one", 2)]) T (mi_tup (mv 1)) (blk_ok (N := n_is_lot) (sc := defScope s_is_lot) (by decide +kernel)) (fun s1 H1 C1 cl1 fp1 => mg_name (T.blk s1 H1 _ (fun X => compEnvC _ cl1 C1 X.env) fp1) 2) (fun s1 H1 C1 cl1 fp1 => mts_nil) (fun s1 H1 C1 cl1 fp1 => me_call (T.blk s1 H1 _ (fun X => compEnvC _ cl1 C1 X.env) fp1) G_is_from (by decide) (ml_cons (mv 2) (ml_cons (me_int) (ml_cons (me_gv G_MOST_THING) (ml_nil)))))).b) (ml_nil)) z_all))) (mw_or1 (mt_cmp (oNe T.hr.units) (me_callTy oToL (ml_cons ((mv 1).b) (ml_nil)) z_list) (me_callB (oSorted T.hr.units) (ml_cons ((mv 1).b) (ml_nil)) z_sorted))))) (mss_one (ms0 (ms_ret (me_bl)))) (mss_nil)) (mss_one (ms0 (ms_ret (me_or (me_cmp (oEq T.hr.units) (mv 0) (me_gv G_BAGS)) (me_one (me_cmp (oEq T.hr.units) (me_lenSt T (mv 1) z_len z_set) (me_callB oLen (ml_cons ((mv 1).b) (ml_nil)) z_len)))))))))
theorem f_check_lot (F : Fun K "check_lot" "check_lot" s_check_lot f fd) (hm : mg "check_lot" = some (.ref f)) (X_BadLot : ExC K mg "BadLot") (G_is_lot : FnM P w K mg base 2 "is_lot" 2 m_is_lot) : FnM P w K mg base 3 "check_lot" 2 m_check_lot :=
  fn_mir F sc_check_lot rfl hm (F.binds fun _ _ _ _ _ _ us hl => match us, hl with | [_, _], _ => rfl) (fun cdv A outer s H E T => mss_one (ms_if (mt_not (mt_val (me_call T G_is_lot (by decide) (ml_cons (mv 0) (ml_cons (mv 1) (ml_nil)))))) (mss_one (ms0 (ms_raise0 T X_BadLot))) (mss_nil)))
theorem f_check_lots (F : Fun K "check_lots" "check_lots" s_check_lots f fd) (hm : mg "check_lots" = some (.ref f)) (z_enumerate : mg "enumerate" = none) (z_isinstance : mg "isinstance" = none) (z_list : mg "list" = none) (z_tuple : mg "tuple" = none) (X_BadLots : ExI P w K mg base 1 "BadLots" ["index"]) (G_is_lot : FnM P w K mg base 2 "is_lot" 2 m_is_lot) : FnM P w K mg base 3 "check_lots" 2 m_check_lots :=
  fn_mir F sc_check_lots rfl hm (F.binds fun _ _ _ _ _ _ us hl => match us, hl with | [_, _], _ => rfl) (fun cdv A outer s H E T => mss_cons (ms_if (mt_not (mt_val (me_isi2 .list .tuple (mv 1) z_isinstance z_list z_tuple))) (mss_one (ms0 (ms_raiseF T X_BadLots (by decide) (ml_cons (me_non) (ml_nil))))) (mss_nil)) (mss_one (ms_for T (mi_en (mv 1) z_enumerate rfl) (mg_tup T (mgs_cons (mg_name T 2) (mgs_cons (mg_name T 3) (mgs_nil)))) (mss_one (ms_if (mt_not (mt_val (me_call T G_is_lot (by decide) (ml_cons (mv 0) (ml_cons (mv 3) (ml_nil)))))) (mss_one (ms0 (ms_raiseF T X_BadLots (by decide) (ml_cons (mv 2) (ml_nil))))) (mss_nil))))))
theorem f_place_of (F : Fun K "place_of" "place_of" s_place_of f fd) (hm : mg "place_of" = some (.ref f)) (z_sum : mg "sum" = none) (z_enumerate : mg "enumerate" = none) (G_BAGS : GV mg "BAGS" g_BAGS) (G_choose : FnM P w K mg base 1 "choose" 2 m_choose) : FnM P w K mg base 2 "place_of" 2 m_place_of :=
  fn_mir F sc_place_of rfl hm (F.binds fun _ _ _ _ _ _ us hl => match us, hl with | [_, _], _ => rfl) (fun cdv A outer s H E T => mss_cons (ms0 (ms_set T (me_if (mt_cmp (oEq T.hr.units) (mv 0) (me_gv G_BAGS)) (me_int) (me_int)) 2)) (mss_one (ms0 (ms_ret (me_callB (oSum T.calm) (ml_cons ((me_lc (own := [("at", 3), ("thing", 4)]) T (mi_en (mv 1) z_enumerate rfl) (blk_ok (N := n_place_of) (sc := defScope s_place_of) (by decide +kernel)) (fun s1 H1 C1 cl1 fp1 => mg_tup (T.blk s1 H1 _ (fun X => compEnvC _ cl1 C1 X.env) fp1) (mgs_cons (mg_name (T.blk s1 H1 _ (fun X => compEnvC _ cl1 C1 X.env) fp1) 3) (mgs_cons (mg_name (T.blk s1 H1 _ (fun X => compEnvC _ cl1 C1 X.env) fp1) 4) (mgs_nil)))) (fun s1 H1 C1 cl1 fp1 => mts_nil) (fun s1 H1 C1 cl1 fp1 => me_call (T.blk s1 H1 _ (fun X => compEnvC _ cl1 C1 X.env) fp1) G_choose (by decide) (ml_cons (me_bin oAdd (mv 4) (me_bin oMul (mv 2) (mv 3))) (ml_cons (me_bin oAdd (mv 3) (me_int)) (ml_nil))))).b) (ml_nil)) z_sum)))))
theorem f_in_order (F : Fun K "in_order" "in_order" s_in_order f fd) (hm : mg "in_order" = some (.ref f)) (z_sorted : mg "sorted" = none) (z_len : mg "len" = none) (G_place_of : FnM P w K mg base 2 "place_of" 2 m_place_of) : FnM P w K mg base 3 "in_order" 2 m_in_order :=
  fn_mir F sc_in_order rfl hm (F.binds fun _ _ _ _ _ _ us hl => match us, hl with | [_, _], _ => rfl) (fun cdv A outer s H E T => mss_cons (ms0 (ms_set T ((me_callB (oSorted T.hr.units) (ml_cons ((me_lc (own := [("lot", 3)]) T (mi_list (mv 1)) (blk_ok (N := n_in_order) (sc := defScope s_in_order) (by decide +kernel)) (fun s1 H1 C1 cl1 fp1 => mg_name (T.blk s1 H1 _ (fun X => compEnvC _ cl1 C1 X.env) fp1) 3) (fun s1 H1 C1 cl1 fp1 => mts_nil) (fun s1 H1 C1 cl1 fp1 => me_tup (ml_cons (me_callB oLen (ml_cons ((mv 3).b) (ml_nil)) z_len) (ml_cons (me_call (T.blk s1 H1 _ (fun X => compEnvC _ cl1 C1 X.env) fp1) G_place_of (by decide) (ml_cons (mv 0) (ml_cons (mv 3) (ml_nil)))) (ml_cons (mv 3) (ml_nil)))))).b) (ml_nil)) z_sorted).c) 2)) (mss_one (ms0 (ms_ret ((me_lc (own := [("size", 4), ("place", 5), ("lot", 3)]) T (mi_list (mv 2)) (blk_ok (N := n_in_order) (sc := defScope s_in_order) (by decide +kernel)) (fun s1 H1 C1 cl1 fp1 => mg_tup (T.blk s1 H1 _ (fun X => compEnvC _ cl1 C1 X.env) fp1) (mgs_cons (mg_name (T.blk s1 H1 _ (fun X => compEnvC _ cl1 C1 X.env) fp1) 4) (mgs_cons (mg_name (T.blk s1 H1 _ (fun X => compEnvC _ cl1 C1 X.env) fp1) 5) (mgs_cons (mg_name (T.blk s1 H1 _ (fun X => compEnvC _ cl1 C1 X.env) fp1) 3) (mgs_nil))))) (fun s1 H1 C1 cl1 fp1 => mts_nil) (fun s1 H1 C1 cl1 fp1 => mv 3)).c)))))
theorem f_taken (F : Fun K "taken" "taken" s_taken f fd) (hm : mg "taken" = some (.ref f)) (z_range : mg "range" = none) (z_len : mg "len" = none) : FnM P w K mg base 1 "taken" 1 m_taken :=
  fn_mir F sc_taken rfl hm (F.binds fun _ _ _ _ _ _ us hl => match us, hl with | [_], _ => rfl) (fun cdv A outer s H E T => mss_one (ms0 (ms_ret ((me_lc (own := [("at", 1)]) T (mi_rg1 (ml_cons (me_callB oLen (ml_cons ((mv 0).b) (ml_nil)) z_len) (ml_nil)) z_range) (blk_ok (N := n_taken) (sc := defScope s_taken) (by decide +kernel)) (fun s1 H1 C1 cl1 fp1 => mg_name (T.blk s1 H1 _ (fun X => compEnvC _ cl1 C1 X.env) fp1) 1) (fun s1 H1 C1 cl1 fp1 => mts_nil) (fun s1 H1 C1 cl1 fp1 => me_tup (ml_star (me_sl (mv 0) mo_no (mo_at (mv 1))) (ml_star (me_sl (mv 0) (mo_at (me_bin oAdd (mv 1) (me_int))) mo_no) (ml_nil))))).c))))
theorem f_closed_of (F : Fun K "closed_of" "closed_of" s_closed_of f fd) (hm : mg "closed_of" = some (.ref f)) (z_list : mg "list" = none) (G_in_order : FnM P w K mg base 3 "in_order" 2 m_in_order) (G_taken : FnM P w K mg base 1 "taken" 1 m_taken) : FnM P w K mg base 4 "closed_of" 2 m_closed_of :=
  fn_mir F sc_closed_of rfl hm (F.binds fun _ _ _ _ _ _ us hl => match us, hl with | [_, _], _ => rfl) (fun cdv A outer s H E T => mss_cons (ms0 (ms_par2 T (mp_fr (me_dicF) (mp_fr (me_callTy oToL (ml_cons ((mv 1).b) (ml_nil)) z_list) (mp_nil))) (by decide) (by rfl))) (mss_cons (ms_while 1000000 T (mt_cmp (oNe T.hr.units) (mvo 3) (me_lst (ml_nil))) (mss_cons (ms_pop T 3 (pv 3) 4) (mss_one (ms_if (mt_cmp (oNinD T.hr.units) (mv 4) (mvo 2)) (mss_cons (ms_dput T.hr.units 2 (pv 2) (mv 4) (me_bl)) (mss_one (ms_ext (me_call T G_taken (by decide) (ml_cons (mv 4) (ml_nil))) rfl 3 (pv 3)))) (mss_nil))))) (mss_one (ms0 (ms_ret (me_call T G_in_order (by decide) (ml_cons (mv 0) (ml_cons ((me_callTyT (oLstT T.calm) (ml_cons (mvo 2) (ml_nil)) z_list).c) (ml_nil)))))))))
theorem f_counts_in (F : Fun K "counts_in" "counts_in" s_counts_in f fd) (hm : mg "counts_in" = some (.ref f)) (z_tuple : mg "tuple" = none) (z_range : mg "range" = none) (z_max : mg "max" = none) (z_len : mg "len" = none) : FnM P w K mg base 1 "counts_in" 1 m_counts_in :=
  fn_mir F sc_counts_in rfl hm (F.binds fun _ _ _ _ _ _ us hl => match us, hl with | [_], _ => rfl) (fun cdv A outer s H E T => mss_cons (ms0 (ms_set T ((me_lc (own := [("lot", 2)]) T (mi_tup (mv 0)) (blk_ok (N := n_counts_in) (sc := defScope s_counts_in) (by decide +kernel)) (fun s1 H1 C1 cl1 fp1 => mg_name (T.blk s1 H1 _ (fun X => compEnvC _ cl1 C1 X.env) fp1) 2) (fun s1 H1 C1 cl1 fp1 => mts_nil) (fun s1 H1 C1 cl1 fp1 => me_callB oLen (ml_cons ((mv 2).b) (ml_nil)) z_len)).c) 1)) (mss_one (ms0 (ms_ret (me_if (mt_cmp (oNe T.hr.units) (mv 1) (me_lst (ml_nil))) (me_callTy oToT (ml_cons ((me_lc (own := [("size", 3)]) T (mi_rg1 (ml_cons (me_bin oAdd (me_callB (oMax T.calm) (ml_cons ((mv 1).b) (ml_nil)) z_max) (me_int)) (ml_nil)) z_range) (blk_ok (N := n_counts_in) (sc := defScope s_counts_in) (by decide +kernel)) (fun s1 H1 C1 cl1 fp1 => mg_name (T.blk s1 H1 _ (fun X => compEnvC _ cl1 C1 X.env) fp1) 3) (fun s1 H1 C1 cl1 fp1 => mts_nil) (fun s1 H1 C1 cl1 fp1 => me_cnt (mv 1) (mv 3))).b) (ml_nil)) z_tuple) (me_tup (ml_nil)))))))
theorem f_Desk___init__ (F : Fun K "__init__" "Desk.__init__" s_Desk___init__ f fd) (hm : mg "Desk" = some (.ref C)) (M : Mk K C f) (c : Cls K C) (a1 : NoAttr K C "own_kind") (a2 : NoAttr K C "states") (z_tuple : mg "tuple" = none) (G_check_kind : FnM P w K mg base 1 "check_kind" 1 m_check_kind) (G_check_lots : FnM P w K mg base 3 "check_lots" 2 m_check_lots) (G_closed_of : FnM P w K mg base 4 "closed_of" 2 m_closed_of) : MkX P w K mg base 5 "Desk" C "own_kind" "states" 2 mi_Desk :=
  ⟨f, fd, _, fn_init2X F sc_Desk___init__ rfl c a1 a2 (by decide) rfl (fun x xs h => match xs, h with | [_, _], _ => rfl) (fun cdv A outer s H E T => ⟨ms0 (ms_expr (me_call T G_check_kind (by decide) (ml_cons (mv 1) (ml_nil)))), ms0 (ms_expr (me_call T G_check_lots (by decide) (ml_cons (mv 1) (ml_cons (mv 2) (ml_nil))))), ps_fld (pv 0) (mv 1) (by rfl), ps_fld (pv 0) (me_tup (ml_cons (me_callTy oToT (ml_cons ((me_call T G_closed_of (by decide) (ml_cons (mv 1) (ml_cons (mv 2) (ml_nil)))).b) (ml_nil)) z_tuple) (ml_nil))) (by rfl)⟩), hm, M, F.binds fun _ _ _ _ _ _ us hl => match us, hl with | [_, _, _], _ => rfl⟩
theorem f_Desk_kind {cl : Str → Addr} {pp : Addr} (F : Fun K "kind" "Desk.kind" s_Desk_kind f fd) (hm : PropOf K (cl "Desk") "kind" pp f) (CD_Desk : Cls K (cl "Desk")) (NA_Desk_own_kind : NoAttr K (cl "Desk") "own_kind") : PrM P w K mg base 1 (cl "Desk") "kind" (m_Desk_kind cl) :=
  ⟨f, fd, _, pp, ok_mirM F sc_Desk_kind rfl (fun cdv A outer s H E T => mss_one (ms0 (ms_ret (me_fld CD_Desk NA_Desk_own_kind (mv 0))))), hm, F.binds fun _ _ _ _ _ _ us hl => match us, hl with | [_], _ => rfl⟩
theorem f_Desk_lots {cl : Str → Addr} {pp : Addr} (F : Fun K "lots" "Desk.lots" s_Desk_lots f fd) (hm : PropOf K (cl "Desk") "lots" pp f) (z_list : mg "list" = none) (CD_Desk : Cls K (cl "Desk")) (NA_Desk_states : NoAttr K (cl "Desk") "states") : PrM P w K mg base 1 (cl "Desk") "lots" (m_Desk_lots cl) :=
  ⟨f, fd, _, pp, ok_mirM F sc_Desk_lots rfl (fun cdv A outer s H E T => mss_one (ms0 (ms_ret ((me_callTy oToL (ml_cons ((me_ix (me_fld CD_Desk NA_Desk_states (mv 0)) (me_neg (me_int))).b) (ml_nil)) z_list).c)))), hm, F.binds fun _ _ _ _ _ _ us hl => match us, hl with | [_], _ => rfl⟩
theorem f_Desk_counts {cl : Str → Addr} {pp : Addr} (F : Fun K "counts" "Desk.counts" s_Desk_counts f fd) (hm : PropOf K (cl "Desk") "counts" pp f) (CD_Desk : Cls K (cl "Desk")) (NA_Desk_states : NoAttr K (cl "Desk") "states") (G_counts_in : FnM P w K mg base 1 "counts_in" 1 m_counts_in) : PrM P w K mg base 2 (cl "Desk") "counts" (m_Desk_counts cl) :=
  ⟨f, fd, _, pp, ok_mirM F sc_Desk_counts rfl (fun cdv A outer s H E T => mss_one (ms0 (ms_ret (me_call T G_counts_in (by decide) (ml_cons (me_ix (me_fld CD_Desk NA_Desk_states (mv 0)) (me_neg (me_int))) (ml_nil)))))), hm, F.binds fun _ _ _ _ _ _ us hl => match us, hl with | [_], _ => rfl⟩
theorem f_Desk_steps {cl : Str → Addr} {pp : Addr} (F : Fun K "steps" "Desk.steps" s_Desk_steps f fd) (hm : PropOf K (cl "Desk") "steps" pp f) (z_len : mg "len" = none) (CD_Desk : Cls K (cl "Desk")) (NA_Desk_states : NoAttr K (cl "Desk") "states") : PrM P w K mg base 1 (cl "Desk") "steps" (m_Desk_steps cl) :=
  ⟨f, fd, _, pp, ok_mirM F sc_Desk_steps rfl (fun cdv A outer s H E T => mss_one (ms0 (ms_ret (me_callB oLen (ml_cons ((me_sl (me_fld CD_Desk NA_Desk_states (mv 0)) (mo_at (me_int)) mo_no).b) (ml_nil)) z_len)))), hm, F.binds fun _ _ _ _ _ _ us hl => match us, hl with | [_], _ => rfl⟩
theorem f_Desk_add {cl : Str → Addr} (F : Fun K "add" "Desk.add" s_Desk_add f fd) (hm : Meth K (cl "Desk") "add" f) (z_tuple : mg "tuple" = none) (CD_Desk : Cls K (cl "Desk")) (NA_Desk_own_kind : NoAttr K (cl "Desk") "own_kind") (NA_Desk_states : NoAttr K (cl "Desk") "states") (G_in_order : FnM P w K mg base 3 "in_order" 2 m_in_order) (G_closed_of : FnM P w K mg base 4 "closed_of" 2 m_closed_of) (G_check_lot : FnM P w K mg base 3 "check_lot" 2 m_check_lot) : MtK P w K mg base 5 (dkD cl) "add" 1 (m_Desk_add cl) :=
  fn_methK F sc_Desk_add rfl hm (F.binds fun _ _ _ _ _ _ us hl => match us, hl with | [_, _], _ => rfl) CD_Desk NA_Desk_states (show ("own_kind" : Str) ≠ "states" from by decide) (fun cdv A outer s H E T => pp_cons (p_expr (me_call T G_check_lot (by decide) (ml_cons (me_fld CD_Desk NA_Desk_own_kind (mv 0)) (ml_cons (mv 1) (ml_nil))))) (pp_cons (p_set T (me_ix (me_fld CD_Desk NA_Desk_states (mv 0)) (me_neg (me_int))) 2) (pp_cons (p_setLc (own := [("one", 4)]) 3 T (mi_list (me_call T G_closed_of (by decide) (ml_cons (me_fld CD_Desk NA_Desk_own_kind (mv 0)) (ml_cons ((me_lst (ml_cons (mv 1) (ml_nil))).c) (ml_nil))))) (blk_ok (N := n_Desk_add) (sc := defScope s_Desk_add) (by decide +kernel)) (fun s1 H1 C1 cl1 fp1 => mg_name (T.blk s1 H1 _ (fun X => compEnvC _ cl1 C1 X.env) fp1) 4) (fun s1 H1 C1 cl1 fp1 => mts_one (mt_cmp (oNinTT (un65 (T.blk s1 H1 _ (fun X => compEnvC _ cl1 C1 X.env) fp1).hr)) (mv 4) (mv 2))) (fun s1 H1 C1 cl1 fp1 => mv 4) (sw_true rfl rfl rfl rfl)) (pp_end (pss_cons (ps_fld (pv 0) (me_tup (ml_star (me_fld CD_Desk NA_Desk_states (mv 0)) (ml_cons (me_callTy oToT (ml_cons ((me_call T G_in_order (by decide) (ml_cons (me_fld CD_Desk NA_Desk_own_kind (mv 0)) (ml_cons ((me_lst (ml_star (mv 2) (ml_star (mv 3) (ml_nil)))).c) (ml_nil)))).b) (ml_nil)) z_tuple) (ml_nil)))) (by rfl)) (pss_one (ps_ret (mv 3))))))))
theorem f_Desk_take {cl : Str → Addr} (F : Fun K "take" "Desk.take" s_Desk_take f fd) (hm : Meth K (cl "Desk") "take" f) (z_tuple : mg "tuple" = none) (X_NotThere : ExC K mg "NotThere") (CD_Desk : Cls K (cl "Desk")) (NA_Desk_states : NoAttr K (cl "Desk") "states") (NA_Desk_own_kind : NoAttr K (cl "Desk") "own_kind") (G_closed_of : FnM P w K mg base 4 "closed_of" 2 m_closed_of) (G_check_lot : FnM P w K mg base 3 "check_lot" 2 m_check_lot) : MtK P w K mg base 5 (dkD cl) "take" 1 (m_Desk_take cl) :=
  fn_methK F sc_Desk_take rfl hm (F.binds fun _ _ _ _ _ _ us hl => match us, hl with | [_, _], _ => rfl) CD_Desk NA_Desk_states (show ("own_kind" : Str) ≠ "states" from by decide) (fun cdv A outer s H E T => pp_cons (p_expr (me_call T G_check_lot (by decide) (ml_cons (me_fld CD_Desk NA_Desk_own_kind (mv 0)) (ml_cons (mv 1) (ml_nil))))) (pp_cons (p_set T (me_ix (me_fld CD_Desk NA_Desk_states (mv 0)) (me_neg (me_int))) 2) (pp_cons (p_if0 (mt_cmp (oNinTT (un65 T.hr)) (mv 1) (mv 2)) (mss_one (ms0 (ms_raise0 T X_NotThere)))) (pp_cons (p_set T ((me_lc (own := [("one", 4)]) T (mi_tup (mv 2)) (blk_ok (N := n_Desk_take) (sc := defScope s_Desk_take) (by decide +kernel)) (fun s1 H1 C1 cl1 fp1 => mg_name (T.blk s1 H1 _ (fun X => compEnvC _ cl1 C1 X.env) fp1) 4) (fun s1 H1 C1 cl1 fp1 => mts_one (mt_cmp (oIn (un65 (T.blk s1 H1 _ (fun X => compEnvC _ cl1 C1 X.env) fp1).hr)) (mv 1) (me_call (T.blk s1 H1 _ (fun X => compEnvC _ cl1 C1 X.env) fp1) G_closed_of (by decide) (ml_cons (me_fld CD_Desk NA_Desk_own_kind (mv 0)) (ml_cons ((me_lst (ml_cons (mv 4) (ml_nil))).c) (ml_nil)))))) (fun s1 H1 C1 cl1 fp1 => mv 4)).c) 3) (pp_end (pss_cons (ps_fld (pv 0) (me_tup (ml_star (me_fld CD_Desk NA_Desk_states (mv 0)) (ml_cons (me_callTy oToT (ml_cons ((me_lc (own := [("one", 4)]) T (mi_tup (mv 2)) (blk_ok (N := n_Desk_take) (sc := defScope s_Desk_take) (by decide +kernel)) (fun s1 H1 C1 cl1 fp1 => mg_name (T.blk s1 H1 _ (fun X => compEnvC _ cl1 C1 X.env) fp1) 4) (fun s1 H1 C1 cl1 fp1 => mts_one (mt_cmp (oNin (un65 (T.blk s1 H1 _ (fun X => compEnvC _ cl1 C1 X.env) fp1).hr)) (mv 4) (mv 3))) (fun s1 H1 C1 cl1 fp1 => mv 4)).b) (ml_nil)) z_tuple) (ml_nil)))) (by rfl)) (pss_one (ps_ret (mv 3)))))))))
theorem f_Desk_undo {cl : Str → Addr} (F : Fun K "undo" "Desk.undo" s_Desk_undo f fd) (hm : Meth K (cl "Desk") "undo" f) (z_len : mg "len" = none) (CD_Desk : Cls K (cl "Desk")) (NA_Desk_states : NoAttr K (cl "Desk") "states") : MtK P w K mg base 1 (dkD cl) "undo" 0 (m_Desk_undo cl) :=
  fn_methK F sc_Desk_undo rfl hm (F.binds fun _ _ _ _ _ _ us hl => match us, hl with | [_], _ => rfl) CD_Desk NA_Desk_states (show ("own_kind" : Str) ≠ "states" from by decide) (fun cdv A outer s H E T => pp_cons (p_if0 (mt_cmp (oEq T.hr.units) (me_callB oLen (ml_cons ((me_fld CD_Desk NA_Desk_states (mv 0)).b) (ml_nil)) z_len) (me_int)) (mss_one (ms0 (ms_ret (me_bl))))) (pp_end (pss_cons (ps_fld (pv 0) (me_sl (me_fld CD_Desk NA_Desk_states (mv 0)) mo_no (mo_at (me_neg (me_int)))) (by rfl)) (pss_one (ps_ret (me_bl))))))
theorem f_Desk_copy {cl : Str → Addr} (F : Fun K "copy" "Desk.copy" s_Desk_copy f fd) (hm : Meth K (cl "Desk") "copy" f) (GX_Desk : MkX P w K mg base 5 "Desk" (cl "Desk") "own_kind" "states" 2 mi_Desk) (CD_Desk : Cls K (cl "Desk")) (NA_Desk_own_kind : NoAttr K (cl "Desk") "own_kind") (NA_Desk_states : NoAttr K (cl "Desk") "states") : MtC P w K mg base 7 (dkD cl) "copy" (ok_Desk_copy cl) :=
  fn_copyK F sc_Desk_copy rfl rfl hm (F.binds fun _ _ _ _ _ _ us hl => match us, hl with | [_], _ => rfl) CD_Desk NA_Desk_states (show ("own_kind" : Str) ≠ "states" from by decide) (fun cdv A outer s H E T => ⟨_, _, _, rfl, ps_set T.nd (i := 1) rfl (by first | exact Or.inl rfl | exact Or.inr rfl) (pe_mkX T GX_Desk (by decide) (ml_cons (me_fld CD_Desk NA_Desk_own_kind (mv 0)) (ml_cons ((me_lst (ml_nil)).c) (ml_nil)))), ps_fld (pv 1) (me_fld CD_Desk NA_Desk_states (mv 0)) (by rfl), ps_ret (pv 1)⟩)
theorem f_Desk___len__ {cl : Str → Addr} (F : Fun K "__len__" "Desk.__len__" s_Desk___len__ f fd) (hm : PySem.W.findIn K (.ref (cl "Desk")) "__len__" = some (some (.ref f))) (hf : PySem.W.isFn K (.ref f) = true) (z_len : mg "len" = none) (CD_Desk : Cls K (cl "Desk")) (NA_Desk_states : NoAttr K (cl "Desk") "states") : LnM P w K mg base 1 (cl "Desk") (m_Desk___len__ cl) :=
  ⟨f, fd, _, ok_mirM F sc_Desk___len__ rfl (fun cdv A outer s H E T => mss_one (ms0 (ms_ret (me_callB oLen (ml_cons ((me_ix (me_fld CD_Desk NA_Desk_states (mv 0)) (me_neg (me_int))).b) (ml_nil)) z_len)))), hm, hf, F.binds fun _ _ _ _ _ _ us hl => match us, hl with | [_], _ => rfl⟩
theorem f__law_draws (F : Fun K "_law_draws" "_law_draws" s__law_draws f fd) (hm : mg "_law_draws" = some (.ref f)) (z_list : mg "list" = none) : DrF P w K mg base 1 "_law_draws" :=
  ⟨f, fd, _, ok_draws F sc__law_draws rfl rfl (fun cdv A outer s H E => pss_one (ps_ret (pe_lst (pa_cons (pe_callTy call_list_of rfl z_list boot_list (pa_cons (pv 0) pa_nil)) (pa_cons pe_int (pa_cons pe_int (pa_cons pe_int pa_nil))))))), hm, F.kp, F.binds fun _ _ _ _ _ _ us hl => match us, hl with | [_], _ => rfl⟩
theorem f__law_pick (F : Fun K "_law_pick" "_law_pick" s__law_pick f fd) (hm : mg "_law_pick" = some (.ref f)) (z_int : mg "int" = none) (z_len : mg "len" = none) : FnM P w K mg base 1 "_law_pick" 2 m__law_pick :=
  fn_mir F sc__law_pick rfl hm (F.binds fun _ _ _ _ _ _ us hl => match us, hl with | [_, _], _ => rfl) (fun cdv A outer s H E T => mss_cons (ms_if (mt_cmp (oEq T.hr.units) (me_row 0 (pv 0)) (me_int)) (mss_one (ms_if (mt_cmp oLt (me_row 0 (pv 0)) (me_lenS 0 (pv 0) z_len)) (mss_cons (ms0 (ms_set T (me_cell 0 (pv 0) (pv 0)) 2)) (mss_cons (ms0 (ms_row 0 (pv 0) (me_bin oAdd (me_row 0 (pv 0)) (me_int)))) (mss_one (ms_if (mt_cmp oGe (mv 2) (me_bin oPow (me_int) (me_int))) (mss_one (ms0 (ms_row 0 (pv 0) (mv 2)))) (mss_one (ms0 (ms_row 0 (pv 0) (me_bin oMod (me_callTy oToInt (ml_cons ((me_bin oAdd (me_bin oAdd (me_bin oMul (me_row 0 (pv 0)) (me_int)) (me_bin oMul (mv 2) (me_int))) (me_int)).b) (ml_nil)) z_int) (me_int))))))))) (mss_one (ms0 (ms_row 0 (pv 0) (me_bin oMod (me_callTy oToInt (ml_cons ((me_bin oAdd (me_bin oMul (me_row 0 (pv 0)) (me_int)) (me_int)).b) (ml_nil)) z_int) (me_int))))))) (mss_nil)) (mss_cons (ms_if (mt_cmp oGt (me_row 0 (pv 0)) (me_int)) (mss_cons (ms0 (ms_set T (me_bin oMod (me_callTy oToInt (ml_cons ((me_row 0 (pv 0)).b) (ml_nil)) z_int) (mv 1)) 3)) (mss_cons (ms0 (ms_row 0 (pv 0) (me_bin oDiv (me_row 0 (pv 0)) (mv 1)))) (mss_one (ms0 (ms_ret (mv 3)))))) (mss_nil)) (mss_one (ms0 (ms_ret (me_bin oMod (me_bin oMod (me_callTy oToInt (ml_cons ((me_bin oMul (me_row 0 (pv 0)) (me_int)).b) (ml_nil)) z_int) (me_int)) (mv 1)))))))
theorem f__law_kind (F : Fun K "_law_kind" "_law_kind" s__law_kind f fd) (hm : mg "_law_kind" = some (.ref f)) (G__law_pick : FnM P w K mg base 1 "_law_pick" 2 m__law_pick) : FnM P w K mg base 2 "_law_kind" 1 m__law_kind :=
  fn_mir F sc__law_kind rfl hm (F.binds fun _ _ _ _ _ _ us hl => match us, hl with | [_], _ => rfl) (fun cdv A outer s H E T => mss_one (ms0 (ms_ret (me_ix (me_lst (ml_cons (me_str) (ml_cons (me_str) (ml_nil)))) (me_call T G__law_pick (by decide) (ml_cons (mv 0) (ml_cons (me_int) (ml_nil))))))))
theorem f__law_taken (F : Fun K "_law_taken" "_law_taken" s__law_taken f fd) (hm : mg "_law_taken" = some (.ref f)) (z_range : mg "range" = none) (z_len : mg "len" = none) : FnM P w K mg base 1 "_law_taken" 1 m__law_taken :=
  fn_mir F sc__law_taken rfl hm (F.binds fun _ _ _ _ _ _ us hl => match us, hl with | [_], _ => rfl) (fun cdv A outer s H E T => mss_one (ms0 (ms_ret ((me_lc (own := [("_law_k", 1)]) T (mi_rg1 (ml_cons (me_callB oLen (ml_cons ((mv 0).b) (ml_nil)) z_len) (ml_nil)) z_range) (blk_ok (N := n__law_taken) (sc := defScope s__law_taken) (by decide +kernel)) (fun s1 H1 C1 cl1 fp1 => mg_name (T.blk s1 H1 _ (fun X => compEnvC _ cl1 C1 X.env) fp1) 1) (fun s1 H1 C1 cl1 fp1 => mts_nil) (fun s1 H1 C1 cl1 fp1 => me_bin oAdd (me_sl (mv 0) mo_no (mo_at (mv 1))) (me_sl (mv 0) (mo_at (me_bin oAdd (mv 1) (me_int))) mo_no))).c))))
theorem f__law_ordered (F : Fun K "_law_ordered" "_law_ordered" s__law_ordered f fd) (hm : mg "_law_ordered" = some (.ref f)) (z_range : mg "range" = none) (z_sorted : mg "sorted" = none) (z_len : mg "len" = none) : FnM P w K mg base 1 "_law_ordered" 1 m__law_ordered :=
  fn_mir F sc__law_ordered rfl hm (F.binds fun _ _ _ _ _ _ us hl => match us, hl with | [_], _ => rfl) (fun cdv A outer s H E T => mss_cons (ms0 (ms_set T ((me_lst (ml_nil)).c) 1)) (mss_cons (ms_for T (mi_rg1 (ml_cons (me_int) (ml_nil)) z_range) (mg_name T 2) (mss_one (ms0 (ms_set T (me_bin oAdd (mv 1) (me_lc (own := [("_law_lot_here", 3)]) T (mi_list (me_callB (oSorted T.hr.units) (ml_cons ((me_lc (own := [("_law_one", 4)]) T (mi_list (mv 0)) (blk_ok (N := n__law_ordered) (sc := defScope s__law_ordered) (by decide +kernel)) (fun s1 H1 C1 cl1 fp1 => mg_name (T.blk s1 H1 _ (fun X => compEnvC _ cl1 C1 X.env) fp1) 4) (fun s1 H1 C1 cl1 fp1 => mts_one (mt_cmp (oEq (T.blk s1 H1 _ (fun X => compEnvC _ cl1 C1 X.env) fp1).hr.units) (me_callB oLen (ml_cons ((mv 4).b) (ml_nil)) z_len) (mv 2))) (fun s1 H1 C1 cl1 fp1 => me_rv (mv 4))).b) (ml_nil)) z_sorted)) (blk_ok (N := n__law_ordered) (sc := defScope s__law_ordered) (by decide +kernel)) (fun s1 H1 C1 cl1 fp1 => mg_name (T.blk s1 H1 _ (fun X => compEnvC _ cl1 C1 X.env) fp1) 3) (fun s1 H1 C1 cl1 fp1 => mts_nil) (fun s1 H1 C1 cl1 fp1 => me_rv (mv 3)))) 1)))) (mss_one (ms0 (ms_ret (mv 1))))))
theorem f__law_closed (F : Fun K "_law_closed" "_law_closed" s__law_closed f fd) (hm : mg "_law_closed" = some (.ref f)) (z_list : mg "list" = none) (z_range : mg "range" = none) (z_len : mg "len" = none) (G__law_ordered : FnM P w K mg base 1 "_law_ordered" 1 m__law_ordered) (G__law_taken : FnM P w K mg base 1 "_law_taken" 1 m__law_taken) : FnM P w K mg base 2 "_law_closed" 1 m__law_closed :=
  fn_mir F sc__law_closed rfl hm (F.binds fun _ _ _ _ _ _ us hl => match us, hl with | [_], _ => rfl) (fun cdv A outer s H E T => mss_cons (ms0 (ms_setO T (me_dicF) 1)) (mss_cons (ms_for T (mi_list (mv 0)) (mg_name T 2) (mss_one (ms_dput T.hr.units 1 (pv 1) (mv 2) (me_bl)))) (mss_cons (ms_for T (mi_rgD (ml_cons (me_int) (ml_cons (me_int) (ml_cons (me_neg (me_int)) (ml_nil)))) z_range) (mg_name T 3) (mss_one (ms_for T (mi_list (me_lcD (own := [("_law_one", 5)]) 1 T (pv 1) (blk_ok (N := n__law_closed) (sc := defScope s__law_closed) (by decide +kernel)) (fun s1 H1 C1 cl1 fp1 => mg_name (T.blk s1 H1 _ (fun X => compEnvC _ cl1 C1 X.env) fp1) 5) (fun s1 H1 C1 cl1 fp1 => mts_one (mt_cmp (oEq (T.blk s1 H1 _ (fun X => compEnvC _ cl1 C1 X.env) fp1).hr.units) (me_callB oLen (ml_cons ((mv 5).b) (ml_nil)) z_len) (mv 3))) (fun s1 H1 C1 cl1 fp1 => mv 5))) (mg_name T 2) (mss_one (ms_for T (mi_list (me_call T G__law_taken (by decide) (ml_cons (mv 2) (ml_nil)))) (mg_name T 4) (mss_one (ms_dput T.hr.units 1 (pv 1) (mv 4) (me_bl)))))))) (mss_one (ms0 (ms_ret (me_call T G__law_ordered (by decide) (ml_cons ((me_callTyT (oLstT T.calm) (ml_cons (mvo 1) (ml_nil)) z_list).c) (ml_nil)))))))))
theorem f__law_counts (F : Fun K "_law_counts" "_law_counts" s__law_counts f fd) (hm : mg "_law_counts" = some (.ref f)) (z_tuple : mg "tuple" = none) (z_range : mg "range" = none) (z_max : mg "max" = none) (z_len : mg "len" = none) : FnM P w K mg base 1 "_law_counts" 1 m__law_counts :=
  fn_mir F sc__law_counts rfl hm (F.binds fun _ _ _ _ _ _ us hl => match us, hl with | [_], _ => rfl) (fun cdv A outer s H E T => mss_cons (ms0 (ms_set T ((me_lc (own := [("_law_lot_here", 2)]) T (mi_list (mv 0)) (blk_ok (N := n__law_counts) (sc := defScope s__law_counts) (by decide +kernel)) (fun s1 H1 C1 cl1 fp1 => mg_name (T.blk s1 H1 _ (fun X => compEnvC _ cl1 C1 X.env) fp1) 2) (fun s1 H1 C1 cl1 fp1 => mts_nil) (fun s1 H1 C1 cl1 fp1 => me_callB oLen (ml_cons ((mv 2).b) (ml_nil)) z_len)).c) 1)) (mss_one (ms0 (ms_ret (me_if (mt_cmp (oNe T.hr.units) (mv 1) (me_lst (ml_nil))) (me_callTy oToT (ml_cons ((me_lc (own := [("_law_size", 3)]) T (mi_rg1 (ml_cons (me_bin oAdd (me_callB (oMax T.calm) (ml_cons ((mv 1).b) (ml_nil)) z_max) (me_int)) (ml_nil)) z_range) (blk_ok (N := n__law_counts) (sc := defScope s__law_counts) (by decide +kernel)) (fun s1 H1 C1 cl1 fp1 => mg_name (T.blk s1 H1 _ (fun X => compEnvC _ cl1 C1 X.env) fp1) 3) (fun s1 H1 C1 cl1 fp1 => mts_nil) (fun s1 H1 C1 cl1 fp1 => me_cnt (mv 1) (mv 3))).b) (ml_nil)) z_tuple) (me_tup (ml_nil)))))))
theorem f__law_lot (F : Fun K "_law_lot" "_law_lot" s__law_lot f fd) (hm : mg "_law_lot" = some (.ref f)) (z_tuple : mg "tuple" = none) (z_sorted : mg "sorted" = none) (z_range : mg "range" = none) (G__law_pick : FnM P w K mg base 1 "_law_pick" 2 m__law_pick) : FnM P w K mg base 2 "_law_lot" 4 m__law_lot :=
  fn_mir F sc__law_lot rfl hm (F.binds fun _ _ _ _ _ _ us hl => match us, hl with | [_, _, _, _], _ => rfl) (fun cdv A outer s H E T => mss_cons (ms0 (ms_set T (me_tup (ml_nil)) 4)) (mss_cons (ms_for T (mi_rg1 (ml_cons (me_call T G__law_pick (by decide) (ml_cons (mv 0) (ml_cons (me_bin oAdd (mv 3) (me_int)) (ml_nil)))) (ml_nil)) z_range) (mg_name T 5) (mss_cons (ms0 (ms_set T (me_call T G__law_pick (by decide) (ml_cons (mv 0) (ml_cons (mv 2) (ml_nil)))) 6)) (mss_one (ms_if (mt_w (mw_or (mt_cmp (oEq T.hr.units) (mv 1) (me_str)) (mw_or1 (mt_cmp (oNin (un65 T.hr)) (mv 6) (mv 4))))) (mss_one (ms0 (ms_set T (me_bin oAdd (mv 4) (me_tup (ml_cons (mv 6) (ml_nil)))) 4))) (mss_nil))))) (mss_one (ms0 (ms_ret (me_callTy oToT (ml_cons ((me_callB (oSorted T.hr.units) (ml_cons ((mv 4).b) (ml_nil)) z_sorted).b) (ml_nil)) z_tuple))))))
theorem f__law_some (F : Fun K "_law_some" "_law_some" s__law_some f fd) (hm : mg "_law_some" = some (.ref f)) (z_range : mg "range" = none) (G__law_pick : FnM P w K mg base 1 "_law_pick" 2 m__law_pick) (G__law_lot : FnM P w K mg base 2 "_law_lot" 4 m__law_lot) : FnM P w K mg base 3 "_law_some" 5 m__law_some :=
  fn_mir F sc__law_some rfl hm (F.binds fun _ _ _ _ _ _ us hl => match us, hl with | [_, _, _, _, _], _ => rfl) (fun cdv A outer s H E T => mss_one (ms0 (ms_ret ((me_lc (own := [("_law_k", 5)]) T (mi_rg1 (ml_cons (me_call T G__law_pick (by decide) (ml_cons (mv 0) (ml_cons (me_bin oAdd (mv 4) (me_int)) (ml_nil)))) (ml_nil)) z_range) (blk_ok (N := n__law_some) (sc := defScope s__law_some) (by decide +kernel)) (fun s1 H1 C1 cl1 fp1 => mg_name (T.blk s1 H1 _ (fun X => compEnvC _ cl1 C1 X.env) fp1) 5) (fun s1 H1 C1 cl1 fp1 => mts_nil) (fun s1 H1 C1 cl1 fp1 => me_call (T.blk s1 H1 _ (fun X => compEnvC _ cl1 C1 X.env) fp1) G__law_lot (by decide) (ml_cons (mv 0) (ml_cons (mv 1) (ml_cons (mv 2) (ml_cons (mv 3) (ml_nil))))))).c))))
theorem f__law_odd_lots (F : Fun K "_law_odd_lots" "_law_odd_lots" s__law_odd_lots f fd) (hm : mg "_law_odd_lots" = some (.ref f))  : FnM P w K mg base 1 "_law_odd_lots" 1 m__law_odd_lots :=
  fn_mir F sc__law_odd_lots rfl hm (F.binds fun _ _ _ _ _ _ us hl => match us, hl with | [_], _ => rfl) (fun cdv A outer s H E T => mss_one (ms0 (ms_ret ((me_lst (ml_cons (me_non) (ml_cons (me_int) (ml_cons ((me_lst (ml_cons (me_int) (ml_cons (me_int) (ml_nil)))).c) (ml_cons (me_tup (ml_cons (me_int) (ml_cons (me_int) (ml_nil)))) (ml_cons (me_tup (ml_cons (me_neg (me_int)) (ml_nil))) (ml_cons (me_tup (ml_cons (me_bl) (ml_nil))) (ml_cons (me_tup (ml_cons (me_int) (ml_nil))) (ml_cons (me_tup (ml_cons (me_str) (ml_nil))) (ml_cons (me_bin oMul (me_tup (ml_cons (me_int) (ml_nil))) (me_int)) (ml_cons (me_tup (ml_cons (me_non) (ml_nil))) (ml_cons (me_str) (ml_cons (me_dic0) (ml_cons (me_tup (ml_cons (me_int) (ml_cons (me_tup (ml_cons (me_int) (ml_nil))) (ml_nil)))) (ml_nil))))))))))))))).c))))
theorem f__law_try {cl : Str → Addr} (F : Fun K "_law_try" "_law_try" s__law_try f fd) (hm : mg "_law_try" = some (.ref f)) (z_isinstance : mg "isinstance" = none) {c_NotThere : Addr} (hm_NotThere : mg "NotThere" = some (.ref c_NotThere)) {c_BadLot : Addr} (hm_BadLot : mg "BadLot" = some (.ref c_BadLot)) (XT : XTab K mg "SizeError" xns xfl) (GT_Desk_add : MtK P w K mg base 5 (dkD cl) "add" 1 (m_Desk_add cl)) (GT_Desk_take : MtK P w K mg base 5 (dkD cl) "take" 1 (m_Desk_take cl)) (CD_Desk : Cls K (cl "Desk")) : FnK P w K mg base 6 (dkD cl) "_law_try" 2 (m__law_try cl) :=
  fn_mirK F sc__law_try rfl hm (F.binds fun _ _ _ _ _ _ us hl => match us, hl with | [_, _, _], _ => rfl) (fun cdv A outer s H E T => dss_cons (d_s (ms0 (ms_set T (me_non) 3))) (dss_cons (ds_try T XT (HdsM.cons hm_BadLot (by decide) (by rfl) (by decide) (by rfl) (by rfl) (fun a oe cls d pn hz hd => psu XT hz hd z_isinstance T.nd (mhv_one) (pv 4) (by rfl) (by first | exact Or.inl rfl | exact Or.inr rfl) (by first | exact .inl rfl | exact .inr rfl) (by rfl) (by rfl) (by decide) (by rfl) (by rfl) (by rfl) (by intro _; rfl) (by rfl)) (HdsM.cons hm_NotThere (by decide) (by rfl) (by decide) (by rfl) (by rfl) (fun a oe cls d pn hz hd => psu XT hz hd z_isinstance T.nd (mhv_one) (pv 4) (by rfl) (by first | exact Or.inl rfl | exact Or.inr rfl) (by first | exact .inl rfl | exact .inr rfl) (by rfl) (by rfl) (by decide) (by rfl) (by rfl) (by rfl) (by intro _; rfl) (by rfl)) (HdsM.nil))) (fun W' pn xe T' => ds_set0 T' (de_if (d_t (mt_cmp (oEq T'.hr.units) (mv 1) (me_str))) (d_methK (c := dkD cl) T' CD_Desk GT_Desk_add (by decide) (show (("add" : Str) == ("own_kind" : Str)) = false from by decide) (show (("add" : Str) == ("states" : Str)) = false from by decide) (pv 0) (ml_cons (mv 2) (ml_nil))) (d_methK (c := dkD cl) T' CD_Desk GT_Desk_take (by decide) (show (("take" : Str) == ("own_kind" : Str)) = false from by decide) (show (("take" : Str) == ("states" : Str)) = false from by decide) (pv 0) (ml_cons (mv 2) (ml_nil)))) 3)) (dss_one (d_s (ms0 (ms_ret (mv 3)))))))
theorem f__law_wrong (F : Fun K "_law_wrong" "_law_wrong" s__law_wrong f fd) (hm : mg "_law_wrong" = some (.ref f)) (z_isinstance : mg "isinstance" = none) {c_BadLots : Addr} (hm_BadLots : mg "BadLots" = some (.ref c_BadLots)) {c_BadKind : Addr} (hm_BadKind : mg "BadKind" = some (.ref c_BadKind)) (XT : XTab K mg "SizeError" xns xfl) (GX_Desk : MkX P w K mg base 5 "Desk" C "own_kind" "states" 2 mi_Desk) : FnM P w K mg base 7 "_law_wrong" 2 m__law_wrong :=
  fn_mir F sc__law_wrong rfl hm (F.binds fun _ _ _ _ _ _ us hl => match us, hl with | [_, _], _ => rfl) (fun cdv A outer s H E T => mss_cons (ms0 (ms_set T (me_non) 2)) (mss_cons (ms0 (ms_try T XT (HdsM.cons hm_BadKind (by decide) (by rfl) (by decide) (by rfl) (by rfl) (fun a oe cls d pn hz hd => psu XT hz hd z_isinstance T.nd (mhv_one) (pv 3) (by rfl) (by first | exact Or.inl rfl | exact Or.inr rfl) (by first | exact .inl rfl | exact .inr rfl) (by rfl) (by rfl) (by decide) (by rfl) (by rfl) (by rfl) (by intro _; rfl) (by rfl)) (HdsM.cons hm_BadLots (by decide) (by rfl) (by decide) (by rfl) (by rfl) (fun a oe cls d pn hz hd => psu XT hz hd z_isinstance T.nd (mhv_lst (mhs_cons mhi_c (mhs_cons (mhi_f XT (by decide) hz hd (pv 3)) (mhs_nil)))) (pv 3) (by rfl) (by first | exact Or.inl rfl | exact Or.inr rfl) (by first | exact .inl rfl | exact .inr rfl) (by rfl) (by rfl) (by decide) (by rfl) (by rfl) (by rfl) (by intro _; rfl) (by rfl)) (HdsM.nil))) (fun W' pn xe T' => mss0_one (ms_set T' (me_makeX T' GX_Desk (by decide) (ml_cons (mv 0) (ml_cons (mv 1) (ml_nil)))) 2)))) (mss_one (ms0 (ms_ret (mv 2))))))
theorem f__law_stands {cl : Str → Addr} (F : Fun K "_law_stands" "_law_stands" s__law_stands f fd) (hm : mg "_law_stands" = some (.ref f)) (z_len : mg "len" = none) (GR_Desk_steps : PrM P w K mg base 1 (cl "Desk") "steps" (m_Desk_steps cl)) (GR_Desk_counts : PrM P w K mg base 2 (cl "Desk") "counts" (m_Desk_counts cl)) (GR_Desk_lots : PrM P w K mg base 1 (cl "Desk") "lots" (m_Desk_lots cl)) (GR_Desk_kind : PrM P w K mg base 1 (cl "Desk") "kind" (m_Desk_kind cl)) (GL_Desk : LnM P w K mg base 1 (cl "Desk") (m_Desk___len__ cl)) (CD_Desk : Cls K (cl "Desk")) (G__law_counts : FnM P w K mg base 1 "_law_counts" 1 m__law_counts) : FnM P w K mg base 4 "_law_stands" 3 (m__law_stands cl) :=
  fn_mir F sc__law_stands rfl hm (F.binds fun _ _ _ _ _ _ us hl => match us, hl with | [_, _, _], _ => rfl) (fun cdv A outer s H E T => mss_cons (ms0 (ms_set T (me_ix (mv 2) (me_neg (me_int))) 3)) (mss_cons (ms_if (mt_w (mw_or (mt_cmp (oNe T.hr.units) (me_prop T CD_Desk GR_Desk_kind (by decide) (mv 0)) (mv 1)) (mw_or (mt_cmp (oNe T.hr.units) (me_prop T CD_Desk GR_Desk_lots (by decide) (mv 0)) (mv 3)) (mw_or1 (mt_cmp (oNe T.hr.units) (me_prop T CD_Desk GR_Desk_counts (by decide) (mv 0)) (me_call T G__law_counts (by decide) (ml_cons (mv 3) (ml_nil)))))))) (mss_one (ms0 (ms_ret (me_bl)))) (mss_nil)) (mss_one (ms0 (ms_ret (me_and (me_cmp (oEq T.hr.units) (me_lenI T GL_Desk (by decide) (mv 0) z_len) (me_callB oLen (ml_cons ((mv 3).b) (ml_nil)) z_len)) (me_one (me_cmp (oEq T.hr.units) (me_prop T CD_Desk GR_Desk_steps (by decide) (mv 0)) (me_bin oSub (me_callB oLen (ml_cons ((mv 2).b) (ml_nil)) z_len) (me_int))))))))))
theorem f__law_of_copy {cl : Str → Addr} (F : Fun K "_law_of_copy" "_law_of_copy" s__law_of_copy f fd) (hm : mg "_law_of_copy" = some (.ref f)) (z_max : mg "max" = none) (z_len : mg "len" = none) (GK__law_try : FnK P w K mg base 6 (dkD cl) "_law_try" 2 (m__law_try cl)) (GT_Desk_undo : MtK P w K mg base 1 (dkD cl) "undo" 0 (m_Desk_undo cl)) (GC_Desk_copy : MtC P w K mg base 7 (dkD cl) "copy" (ok_Desk_copy cl)) (CD_Desk : Cls K (cl "Desk")) (G__law_stands : FnM P w K mg base 4 "_law_stands" 3 (m__law_stands cl)) : FnM P w K mg base 8 "_law_of_copy" 6 (m__law_of_copy cl) :=
  fn_ofCopy (cp := "copy") F sc__law_of_copy rfl hm (F.binds fun _ _ _ _ _ _ us hl => match us, hl with | [_, _, _, _, _, _], _ => rfl) (by decide) (show (("copy" : Str) == ("own_kind" : Str)) = false from by decide) (show (("copy" : Str) == ("states" : Str)) = false from by decide) (fun cdv A outer s H E T => ⟨_, _, rfl, ps_cpy (c := dkD cl) T CD_Desk GC_Desk_copy (by decide) (pv 0) 6, dss_cons (ds_if (dt_w (dw_or (dt_not (dt_val (d_callR T G__law_stands (by decide) (pv 6) (ml_cons (mv 1) (ml_cons (mv 2) (ml_nil)))))) (dw_or1 (dt_cmp (oNe T.hr.units) (d_callK T GK__law_try (by decide) (pv 6) (ml_cons (me_ix (mv 3) (me_int)) (ml_cons (me_ix (mv 3) (me_int)) (ml_nil)))) (d_e (mv 4)))))) (dss_one (d_s (ms0 (ms_ret (me_bl))))) (dss_nil)) (dss_cons (d_s (ms0 (ms_set T (me_if (mt_cmp (oNe T.hr.units) (mv 4) (me_str)) (me_bin oAdd (mv 2) (me_lst (ml_cons (mv 5) (ml_nil)))) (mv 2)) 7))) (dss_cons (ds_if (dt_w (dw_or (dt_not (dt_val (d_callR T G__law_stands (by decide) (pv 6) (ml_cons (mv 1) (ml_cons (mv 7) (ml_nil)))))) (dw_or (d_t (mt_not (mt_val (me_call T G__law_stands (by decide) (ml_cons (mv 0) (ml_cons (mv 1) (ml_cons (mv 2) (ml_nil)))))))) (dw_or1 (dt_cmp (oNe T.hr.units) (d_methK0 (c := dkD cl) T CD_Desk GT_Desk_undo (by decide) (show (("undo" : Str) == ("own_kind" : Str)) = false from by decide) (show (("undo" : Str) == ("states" : Str)) = false from by decide) (pv 6)) (d_e (me_cmp oGt (me_callB oLen (ml_cons ((mv 7).b) (ml_nil)) z_len) (me_int)))))))) (dss_one (d_s (ms0 (ms_ret (me_bl))))) (dss_nil)) (dss_one (ds_ret (de_and (d_callR T G__law_stands (by decide) (pv 6) (ml_cons (mv 1) (ml_cons (me_sl (mv 7) mo_no (mo_at (me_callB (oMax T.calm) (ml_cons ((me_int).b) (ml_cons ((me_bin oSub (me_callB oLen (ml_cons ((mv 7).b) (ml_nil)) z_len) (me_int)).b) (ml_nil))) z_max))) (ml_nil)))) (de_one (d_e (me_call T G__law_stands (by decide) (ml_cons (mv 0) (ml_cons (mv 1) (ml_cons (mv 2) (ml_nil))))))))))))⟩)
theorem f_law {cl : Str → Addr} (F : Fun K "law" "law" s_law f fd) (L : LawOkD 15 1 (b_law0 cl) mi_Desk (b_lawA cl) (b_lawP cl) 4 5 (b_law cl)) (z_len : mg "len" = none) (z_range : mg "range" = none) (GX_Desk : MkX P w K mg base 5 "Desk" (cl "Desk") "own_kind" "states" 2 mi_Desk) (GK__law_try : FnK P w K mg base 6 (dkD cl) "_law_try" 2 (m__law_try cl)) (GT_Desk_undo : MtK P w K mg base 1 (dkD cl) "undo" 0 (m_Desk_undo cl)) (GC_Desk_copy : MtC P w K mg base 7 (dkD cl) "copy" (ok_Desk_copy cl)) (CD_Desk : Cls K (cl "Desk")) (G__law_closed : FnM P w K mg base 2 "_law_closed" 1 m__law_closed) (G__law_stands : FnM P w K mg base 4 "_law_stands" 3 (m__law_stands cl)) (G__law_wrong : FnM P w K mg base 7 "_law_wrong" 2 m__law_wrong) (G__law_pick : FnM P w K mg base 1 "_law_pick" 2 m__law_pick) (G__law_odd_lots : FnM P w K mg base 1 "_law_odd_lots" 1 m__law_odd_lots) (G__law_of_copy : FnM P w K mg base 8 "_law_of_copy" 6 (m__law_of_copy cl)) (G__law_lot : FnM P w K mg base 2 "_law_lot" 4 m__law_lot) (G__law_some : FnM P w K mg base 3 "_law_some" 5 m__law_some) (G__law_kind : FnM P w K mg base 2 "_law_kind" 1 m__law_kind) (D : DrF P w K mg base 1 "_law_draws") : FnOk P w K mg base (L2.CX P w) 9 f fd ["_law_script"] (spLaw K) :=
  ok_lawD (c := dkD cl) F sc_law rfl (by decide) (by decide) (by decide) (by decide) (by decide) (by decide) L (fun cdv A outer s H E T => ⟨_, _, rfl, ms_law0 T D (by decide) 1 (pv 0), p0_cons (ms0 (ms_set T (me_call T G__law_kind (by decide) (ml_cons (mv 1) (ml_nil))) 2)) (p0_cons (ms0 (ms_set T (me_call T G__law_some (by decide) (ml_cons (mv 1) (ml_cons (mv 2) (ml_cons (me_int) (ml_cons (me_int) (ml_cons (me_int) (ml_nil))))))) 3)) (p0_end (pss_cons (ps_par T.calm T.nd (i := 4) (j := 5) rfl rfl (by decide) rfl rfl (pa_cons (pe_mkX T GX_Desk (by decide) (ml_cons (mv 2) (ml_cons (mv 3) (ml_nil)))) (pa_cons ((me_lst (ml_cons (me_call T G__law_closed (by decide) (ml_cons (mv 3) (ml_nil))) (ml_nil))).c) pa_nil)) (by rfl)) (dss_cons (ds_for T (mi_rg1 (ml_cons (me_call T G__law_pick (by decide) (ml_cons (mv 1) (ml_cons (me_int) (ml_nil)))) (ml_nil)) z_range) (mg_name T 6) (dss_cons (d_s (ms0 (ms_asgT T (ml_cons (me_call T G__law_pick (by decide) (ml_cons (mv 1) (ml_cons (me_int) (ml_nil)))) (ml_cons (me_ix (mv 5) (me_neg (me_int))) (ml_cons (me_ix (me_lst (ml_cons (me_str) (ml_cons (me_str) (ml_nil)))) (me_call T G__law_pick (by decide) (ml_cons (mv 1) (ml_cons (me_int) (ml_nil))))) (ml_nil)))) (mg_tup T (mgs_cons (mg_name T 7) (mgs_cons (mg_name T 8) (mgs_cons (mg_name T 9) (mgs_nil))))) (hw := by rfl)))) (dss_cons (d_s (ms0 (ms_set T (me_ix (me_bin oAdd (mv 8) (me_bin oMul (me_lst (ml_cons (me_call T G__law_lot (by decide) (ml_cons (mv 1) (ml_cons (mv 2) (ml_cons (me_int) (ml_cons (me_int) (ml_nil)))))) (ml_nil))) (me_int))) (me_call T G__law_pick (by decide) (ml_cons (mv 1) (ml_cons (me_bin oAdd (me_callB oLen (ml_cons ((mv 8).b) (ml_nil)) z_len) (me_int)) (ml_nil))))) 10))) (dss_cons (d_s (ms0 (ms_asgT T (ml_cons (mv 8) (ml_cons (me_str) (ml_nil))) (mg_tup T (mgs_cons (mg_name T 11) (mgs_cons (mg_name T 12) (mgs_nil)))) (hw := by rfl)))) (dss_cons (d_s (ms_if (mt_cmp (oEq T.hr.units) (mv 9) (me_str)) (mss_cons (ms0 (ms_set T (me_call T G__law_closed (by decide) (ml_cons (me_bin oAdd (mv 8) (me_lst (ml_cons (mv 10) (ml_nil)))) (ml_nil))) 11)) (mss_one (ms0 (ms_set T ((me_lc (own := [("_law_one", 14)]) T (mi_list (mv 11)) (blk_ok (N := n_law) (sc := defScope s_law) (by decide +kernel)) (fun s1 H1 C1 cl1 fp1 => mg_name (T.blk s1 H1 _ (fun X => compEnvC _ cl1 C1 X.env) fp1) 14) (fun s1 H1 C1 cl1 fp1 => mts_one (mt_cmp (oNin (un65 (T.blk s1 H1 _ (fun X => compEnvC _ cl1 C1 X.env) fp1).hr)) (mv 14) (mv 8))) (fun s1 H1 C1 cl1 fp1 => mv 14)).c) 12)))) (mss_one (ms_if (mt_cmp (oIn (un65 T.hr)) (mv 10) (mv 8)) (mss_cons (ms0 (ms_set T ((me_lc (own := [("_law_one", 14)]) T (mi_list (mv 8)) (blk_ok (N := n_law) (sc := defScope s_law) (by decide +kernel)) (fun s1 H1 C1 cl1 fp1 => mg_name (T.blk s1 H1 _ (fun X => compEnvC _ cl1 C1 X.env) fp1) 14) (fun s1 H1 C1 cl1 fp1 => mts_one (mt_cmp (oIn (un65 (T.blk s1 H1 _ (fun X => compEnvC _ cl1 C1 X.env) fp1).hr)) (mv 10) (me_call (T.blk s1 H1 _ (fun X => compEnvC _ cl1 C1 X.env) fp1) G__law_closed (by decide) (ml_cons ((me_lst (ml_cons (mv 14) (ml_nil))).c) (ml_nil))))) (fun s1 H1 C1 cl1 fp1 => mv 14)).c) 12)) (mss_one (ms0 (ms_setLc (own := [("_law_one", 14)]) 11 T (mi_list (mv 8)) (blk_ok (N := n_law) (sc := defScope s_law) (by decide +kernel)) (fun s1 H1 C1 cl1 fp1 => mg_name (T.blk s1 H1 _ (fun X => compEnvC _ cl1 C1 X.env) fp1) 14) (fun s1 H1 C1 cl1 fp1 => mts_one (mt_cmp (oNin (un65 (T.blk s1 H1 _ (fun X => compEnvC _ cl1 C1 X.env) fp1).hr)) (mv 14) (mv 12))) (fun s1 H1 C1 cl1 fp1 => mv 14) (sw_true rfl rfl rfl rfl))))) (mss_nil))))) (dss_cons (ds_if (d_t (mt_cmp (oEq T.hr.units) (mv 7) (me_int))) (dss_cons (ds_if (dt_cmp (oNe T.hr.units) (d_methK0 (c := dkD cl) T CD_Desk GT_Desk_undo (by decide) (show (("undo" : Str) == ("own_kind" : Str)) = false from by decide) (show (("undo" : Str) == ("states" : Str)) = false from by decide) (pv 4)) (d_e (me_cmp oGt (me_callB oLen (ml_cons ((mv 5).b) (ml_nil)) z_len) (me_int)))) (dss_one (d_s (ms0 (ms_ret (me_bl))))) (dss_nil)) (dss_one (d_s (ms0 (ms_set T (me_if (mt_cmp oGt (me_callB oLen (ml_cons ((mv 5).b) (ml_nil)) z_len) (me_int)) (me_sl (mv 5) mo_no (mo_at (me_neg (me_int)))) (mv 5)) 5))))) (dss_one (ds_if (d_t (mt_cmp (oEq T.hr.units) (mv 7) (me_int))) (dss_one (ds_if (dt_not (dt_val (d_callR T G__law_of_copy (by decide) (pv 4) (ml_cons (mv 2) (ml_cons (mv 5) (ml_cons (me_tup (ml_cons (mv 9) (ml_cons (mv 10) (ml_nil)))) (ml_cons (mv 12) (ml_cons (mv 11) (ml_nil))))))))) (dss_one (d_s (ms0 (ms_ret (me_bl))))) (dss_nil))) (dss_cons (ds_set T (d_copy (c := dkD cl) T CD_Desk GC_Desk_copy (by decide) (show (("copy" : Str) == ("own_kind" : Str)) = false from by decide) (show (("copy" : Str) == ("states" : Str)) = false from by decide) (pv 4)) 13) (dss_cons (ds_if (dt_w (dw_or (dt_cmp (oNe T.hr.units) (d_callK T GK__law_try (by decide) (pv 4) (ml_cons (mv 9) (ml_cons (mv 10) (ml_nil)))) (d_e (mv 12))) (dw_or1 (d_t (mt_not (mt_val (me_call T G__law_stands (by decide) (ml_cons (mv 13) (ml_cons (mv 2) (ml_cons (mv 5) (ml_nil))))))))))) (dss_one (d_s (ms0 (ms_ret (me_bl))))) (dss_nil)) (dss_one (d_s (ms0 (ms_set T (me_if (mt_cmp (oNe T.hr.units) (mv 12) (me_str)) (me_bin oAdd (mv 5) (me_lst (ml_cons (mv 11) (ml_nil)))) (mv 5)) 5))))))))) (dss_one (ds_if (dt_w (dw_or (dt_cmp (oNe T.hr.units) (d_callK T GK__law_try (by decide) (pv 4) (ml_cons (mv 9) (ml_cons (me_ix (me_call T G__law_odd_lots (by decide) (ml_cons (mv 2) (ml_nil))) (me_call T G__law_pick (by decide) (ml_cons (mv 1) (ml_cons (me_int) (ml_nil))))) (ml_nil)))) (d_e (me_str))) (dw_or1 (dt_not (dt_val (d_callR T G__law_stands (by decide) (pv 4) (ml_cons (mv 2) (ml_cons (mv 5) (ml_nil))))))))) (dss_one (d_s (ms0 (ms_ret (me_bl))))) (dss_nil))))))))) (dss_cons (d_s (ms_if (mt_w (mw_or (mt_cmp (oNe T.hr.units) (me_call T G__law_wrong (by decide) (ml_cons (me_str) (ml_cons (me_non) (ml_nil)))) (me_str)) (mw_or1 (mt_cmp (oNe T.hr.units) (me_call T G__law_wrong (by decide) (ml_cons (mv 2) (ml_cons (me_bin oAdd (mv 3) (me_lst (ml_cons (me_non) (ml_nil)))) (ml_nil)))) (me_lst (ml_cons (me_str) (ml_cons (me_callB oLen (ml_cons ((mv 3).b) (ml_nil)) z_len) (ml_nil)))))))) (mss_one (ms0 (ms_ret (me_bl)))) (mss_nil))) (dss_cons (d_s (ms_if (mt_cmp (oNe T.hr.units) (me_call T G__law_wrong (by decide) (ml_cons (mv 2) (ml_cons (me_ix (me_lst (ml_cons (me_non) (ml_cons (me_dic0) (ml_cons (me_str) (ml_cons (me_int) (ml_nil)))))) (me_call T G__law_pick (by decide) (ml_cons (mv 1) (ml_cons (me_int) (ml_nil))))) (ml_nil)))) (me_lst (ml_cons (me_str) (ml_cons (me_non) (ml_nil))))) (mss_one (ms0 (ms_ret (me_bl)))) (mss_nil))) (dss_one (ds_ret (d_callR T G__law_stands (by decide) (pv 4) (ml_cons (mv 2) (ml_cons (mv 5) (ml_nil))))))))))))⟩)
end
theorem all_mk {P : Program} {w : World} {K : PySem.W.Frag} {h : Heap} {mg : Str → Option Value} {fa : Addr} (X : K.In h) (G : h.Ns mainGlobals mg) (hfa : mg "law" = some (.ref fa))
    {fa_is_from : Addr} {od_is_from an_is_from : Option Addr} {sl_is_from : Array (Option Value)} {oc_is_from kV_is_from dc_is_from pm_is_from cd_is_from ct_is_from : Value}
    {fa_check_kind : Addr} {od_check_kind an_check_kind : Option Addr} {sl_check_kind : Array (Option Value)} {oc_check_kind kV_check_kind dc_check_kind pm_check_kind cd_check_kind ct_check_kind : Value}
    {fa_choose : Addr} {od_choose an_choose : Option Addr} {sl_choose : Array (Option Value)} {oc_choose kV_choose dc_choose pm_choose cd_choose ct_choose : Value}
    {fa_is_lot : Addr} {od_is_lot an_is_lot : Option Addr} {sl_is_lot : Array (Option Value)} {oc_is_lot kV_is_lot dc_is_lot pm_is_lot cd_is_lot ct_is_lot : Value}
    {fa_check_lot : Addr} {od_check_lot an_check_lot : Option Addr} {sl_check_lot : Array (Option Value)} {oc_check_lot kV_check_lot dc_check_lot pm_check_lot cd_check_lot ct_check_lot : Value}
    {fa_check_lots : Addr} {od_check_lots an_check_lots : Option Addr} {sl_check_lots : Array (Option Value)} {oc_check_lots kV_check_lots dc_check_lots pm_check_lots cd_check_lots ct_check_lots : Value}
    {fa_place_of : Addr} {od_place_of an_place_of : Option Addr} {sl_place_of : Array (Option Value)} {oc_place_of kV_place_of dc_place_of pm_place_of cd_place_of ct_place_of : Value}
    {fa_in_order : Addr} {od_in_order an_in_order : Option Addr} {sl_in_order : Array (Option Value)} {oc_in_order kV_in_order dc_in_order pm_in_order cd_in_order ct_in_order : Value}
    {fa_taken : Addr} {od_taken an_taken : Option Addr} {sl_taken : Array (Option Value)} {oc_taken kV_taken dc_taken pm_taken cd_taken ct_taken : Value}
    {fa_closed_of : Addr} {od_closed_of an_closed_of : Option Addr} {sl_closed_of : Array (Option Value)} {oc_closed_of kV_closed_of dc_closed_of pm_closed_of cd_closed_of ct_closed_of : Value}
    {fa_counts_in : Addr} {od_counts_in an_counts_in : Option Addr} {sl_counts_in : Array (Option Value)} {oc_counts_in kV_counts_in dc_counts_in pm_counts_in cd_counts_in ct_counts_in : Value}
    {fa_Desk___init__ : Addr} {od_Desk___init__ an_Desk___init__ : Option Addr} {sl_Desk___init__ : Array (Option Value)} {oc_Desk___init__ kV_Desk___init__ dc_Desk___init__ pm_Desk___init__ cd_Desk___init__ ct_Desk___init__ : Value}
    {cx_Desk : Addr}
    {fa_Desk_kind : Addr} {od_Desk_kind an_Desk_kind : Option Addr} {sl_Desk_kind : Array (Option Value)} {oc_Desk_kind kV_Desk_kind dc_Desk_kind pm_Desk_kind cd_Desk_kind ct_Desk_kind : Value}
    {pp_Desk_kind : Addr} {pr_Desk_kind : List Value}
    {fa_Desk_lots : Addr} {od_Desk_lots an_Desk_lots : Option Addr} {sl_Desk_lots : Array (Option Value)} {oc_Desk_lots kV_Desk_lots dc_Desk_lots pm_Desk_lots cd_Desk_lots ct_Desk_lots : Value}
    {pp_Desk_lots : Addr} {pr_Desk_lots : List Value}
    {fa_Desk_counts : Addr} {od_Desk_counts an_Desk_counts : Option Addr} {sl_Desk_counts : Array (Option Value)} {oc_Desk_counts kV_Desk_counts dc_Desk_counts pm_Desk_counts cd_Desk_counts ct_Desk_counts : Value}
    {pp_Desk_counts : Addr} {pr_Desk_counts : List Value}
    {fa_Desk_steps : Addr} {od_Desk_steps an_Desk_steps : Option Addr} {sl_Desk_steps : Array (Option Value)} {oc_Desk_steps kV_Desk_steps dc_Desk_steps pm_Desk_steps cd_Desk_steps ct_Desk_steps : Value}
    {pp_Desk_steps : Addr} {pr_Desk_steps : List Value}
    {fa_Desk_add : Addr} {od_Desk_add an_Desk_add : Option Addr} {sl_Desk_add : Array (Option Value)} {oc_Desk_add kV_Desk_add dc_Desk_add pm_Desk_add cd_Desk_add ct_Desk_add : Value}
    {fa_Desk_take : Addr} {od_Desk_take an_Desk_take : Option Addr} {sl_Desk_take : Array (Option Value)} {oc_Desk_take kV_Desk_take dc_Desk_take pm_Desk_take cd_Desk_take ct_Desk_take : Value}
    {fa_Desk_undo : Addr} {od_Desk_undo an_Desk_undo : Option Addr} {sl_Desk_undo : Array (Option Value)} {oc_Desk_undo kV_Desk_undo dc_Desk_undo pm_Desk_undo cd_Desk_undo ct_Desk_undo : Value}
    {fa_Desk_copy : Addr} {od_Desk_copy an_Desk_copy : Option Addr} {sl_Desk_copy : Array (Option Value)} {oc_Desk_copy kV_Desk_copy dc_Desk_copy pm_Desk_copy cd_Desk_copy ct_Desk_copy : Value}
    {fa_Desk___len__ : Addr} {od_Desk___len__ an_Desk___len__ : Option Addr} {sl_Desk___len__ : Array (Option Value)} {oc_Desk___len__ kV_Desk___len__ dc_Desk___len__ pm_Desk___len__ cd_Desk___len__ ct_Desk___len__ : Value}
    {fa__law_draws : Addr} {od__law_draws an__law_draws : Option Addr} {sl__law_draws : Array (Option Value)} {oc__law_draws kV__law_draws dc__law_draws pm__law_draws cd__law_draws ct__law_draws : Value}
    {fa__law_pick : Addr} {od__law_pick an__law_pick : Option Addr} {sl__law_pick : Array (Option Value)} {oc__law_pick kV__law_pick dc__law_pick pm__law_pick cd__law_pick ct__law_pick : Value}
    {fa__law_kind : Addr} {od__law_kind an__law_kind : Option Addr} {sl__law_kind : Array (Option Value)} {oc__law_kind kV__law_kind dc__law_kind pm__law_kind cd__law_kind ct__law_kind : Value}
    {fa__law_taken : Addr} {od__law_taken an__law_taken : Option Addr} {sl__law_taken : Array (Option Value)} {oc__law_taken kV__law_taken dc__law_taken pm__law_taken cd__law_taken ct__law_taken : Value}
    {fa__law_ordered : Addr} {od__law_ordered an__law_ordered : Option Addr} {sl__law_ordered : Array (Option Value)} {oc__law_ordered kV__law_ordered dc__law_ordered pm__law_ordered cd__law_ordered ct__law_ordered : Value}
    {fa__law_closed : Addr} {od__law_closed an__law_closed : Option Addr} {sl__law_closed : Array (Option Value)} {oc__law_closed kV__law_closed dc__law_closed pm__law_closed cd__law_closed ct__law_closed : Value}
    {fa__law_counts : Addr} {od__law_counts an__law_counts : Option Addr} {sl__law_counts : Array (Option Value)} {oc__law_counts kV__law_counts dc__law_counts pm__law_counts cd__law_counts ct__law_counts : Value}
    {fa__law_lot : Addr} {od__law_lot an__law_lot : Option Addr} {sl__law_lot : Array (Option Value)} {oc__law_lot kV__law_lot dc__law_lot pm__law_lot cd__law_lot ct__law_lot : Value}
    {fa__law_some : Addr} {od__law_some an__law_some : Option Addr} {sl__law_some : Array (Option Value)} {oc__law_some kV__law_some dc__law_some pm__law_some cd__law_some ct__law_some : Value}
    {fa__law_odd_lots : Addr} {od__law_odd_lots an__law_odd_lots : Option Addr} {sl__law_odd_lots : Array (Option Value)} {oc__law_odd_lots kV__law_odd_lots dc__law_odd_lots pm__law_odd_lots cd__law_odd_lots ct__law_odd_lots : Value}
    {fa__law_try : Addr} {od__law_try an__law_try : Option Addr} {sl__law_try : Array (Option Value)} {oc__law_try kV__law_try dc__law_try pm__law_try cd__law_try ct__law_try : Value}
    {fa__law_wrong : Addr} {od__law_wrong an__law_wrong : Option Addr} {sl__law_wrong : Array (Option Value)} {oc__law_wrong kV__law_wrong dc__law_wrong pm__law_wrong cd__law_wrong ct__law_wrong : Value}
    {fa__law_stands : Addr} {od__law_stands an__law_stands : Option Addr} {sl__law_stands : Array (Option Value)} {oc__law_stands kV__law_stands dc__law_stands pm__law_stands cd__law_stands ct__law_stands : Value}
    {fa__law_of_copy : Addr} {od__law_of_copy an__law_of_copy : Option Addr} {sl__law_of_copy : Array (Option Value)} {oc__law_of_copy kV__law_of_copy dc__law_of_copy pm__law_of_copy cd__law_of_copy ct__law_of_copy : Value}
    {fa_law : Addr} {od_law an_law : Option Addr} {sl_law : Array (Option Value)} {oc_law kV_law dc_law pm_law cd_law ct_law : Value}
    {t_BAGS : Tok}
    {t_MOST_THING : Tok}
    {t_MOST_SIZE : Tok}
    {tp_KINDS : Addr} {tn_KINDS : Nat}
    {tt_KINDS_0 : Tok} {tt_KINDS_1 : Tok} {td_KINDS : Option Addr} {tsl_KINDS : Array (Option Value)}
    {cx_BadKind : Addr}
    {cx_BadLot : Addr}
    {cx_NotThere : Addr}
    {cx_BadLots : Addr}
    {cS : Addr}
    {nm_BadLots q_BadLots : Str} {N_BadLots : Addr} {bs_BadLots : List Value} {sn_BadLots : List Str} {sub_BadLots : List Value} {ab_BadLots : Bool} {col_BadLots : Option Bool} {dd_BadLots : Option Addr} {m0_BadLots m1_BadLots m2_BadLots m3_BadLots m5_BadLots : Option Value}
    {fi_BadLots : Addr} {iod_BadLots ian_BadLots : Option Addr} {isl_BadLots : Array (Option Value)} {ioc_BadLots ikV_BadLots idc_BadLots ipm_BadLots icd_BadLots ict_BadLots : Value}
    (a_is_from : PySem.W.nsIn K mainGlobals "is_from" = some (some (.ref fa_is_from)))
    (l_is_from : K.lookup fa_is_from = some ⟨oc_is_from, od_is_from, .func (PySem.W.fnOf "is_from" "is_from" (defArgs s_is_from) (defBody s_is_from) (defScope s_is_from) .none kV_is_from dc_is_from pm_is_from an_is_from cd_is_from ct_is_from), sl_is_from⟩)
    (c_is_from : PySem.W.codeIn K cd_is_from "is_from" = true)
    (k_is_from : PySem.W.keepIn K (.ref fa_is_from) = true)
    (a_check_kind : PySem.W.nsIn K mainGlobals "check_kind" = some (some (.ref fa_check_kind)))
    (l_check_kind : K.lookup fa_check_kind = some ⟨oc_check_kind, od_check_kind, .func (PySem.W.fnOf "check_kind" "check_kind" (defArgs s_check_kind) (defBody s_check_kind) (defScope s_check_kind) .none kV_check_kind dc_check_kind pm_check_kind an_check_kind cd_check_kind ct_check_kind), sl_check_kind⟩)
    (c_check_kind : PySem.W.codeIn K cd_check_kind "check_kind" = true)
    (k_check_kind : PySem.W.keepIn K (.ref fa_check_kind) = true)
    (a_choose : PySem.W.nsIn K mainGlobals "choose" = some (some (.ref fa_choose)))
    (l_choose : K.lookup fa_choose = some ⟨oc_choose, od_choose, .func (PySem.W.fnOf "choose" "choose" (defArgs s_choose) (defBody s_choose) (defScope s_choose) .none kV_choose dc_choose pm_choose an_choose cd_choose ct_choose), sl_choose⟩)
    (c_choose : PySem.W.codeIn K cd_choose "choose" = true)
    (k_choose : PySem.W.keepIn K (.ref fa_choose) = true)
    (a_is_lot : PySem.W.nsIn K mainGlobals "is_lot" = some (some (.ref fa_is_lot)))
    (l_is_lot : K.lookup fa_is_lot = some ⟨oc_is_lot, od_is_lot, .func (PySem.W.fnOf "is_lot" "is_lot" (defArgs s_is_lot) (defBody s_is_lot) (defScope s_is_lot) .none kV_is_lot dc_is_lot pm_is_lot an_is_lot cd_is_lot ct_is_lot), sl_is_lot⟩)
    (c_is_lot : PySem.W.codeIn K cd_is_lot "is_lot" = true)
    (k_is_lot : PySem.W.keepIn K (.ref fa_is_lot) = true)
    (a_check_lot : PySem.W.nsIn K mainGlobals "check_lot" = some (some (.ref fa_check_lot)))
    (l_check_lot : K.lookup fa_check_lot = some ⟨oc_check_lot, od_check_lot, .func (PySem.W.fnOf "check_lot" "check_lot" (defArgs s_check_lot) (defBody s_check_lot) (defScope s_check_lot) .none kV_check_lot dc_check_lot pm_check_lot an_check_lot cd_check_lot ct_check_lot), sl_check_lot⟩)
    (c_check_lot : PySem.W.codeIn K cd_check_lot "check_lot" = true)
    (k_check_lot : PySem.W.keepIn K (.ref fa_check_lot) = true)
    (a_check_lots : PySem.W.nsIn K mainGlobals "check_lots" = some (some (.ref fa_check_lots)))
    (l_check_lots : K.lookup fa_check_lots = some ⟨oc_check_lots, od_check_lots, .func (PySem.W.fnOf "check_lots" "check_lots" (defArgs s_check_lots) (defBody s_check_lots) (defScope s_check_lots) .none kV_check_lots dc_check_lots pm_check_lots an_check_lots cd_check_lots ct_check_lots), sl_check_lots⟩)
    (c_check_lots : PySem.W.codeIn K cd_check_lots "check_lots" = true)
    (k_check_lots : PySem.W.keepIn K (.ref fa_check_lots) = true)
    (a_place_of : PySem.W.nsIn K mainGlobals "place_of" = some (some (.ref fa_place_of)))
    (l_place_of : K.lookup fa_place_of = some ⟨oc_place_of, od_place_of, .func (PySem.W.fnOf "place_of" "place_of" (defArgs s_place_of) (defBody s_place_of) (defScope s_place_of) .none kV_place_of dc_place_of pm_place_of an_place_of cd_place_of ct_place_of), sl_place_of⟩)
    (c_place_of : PySem.W.codeIn K cd_place_of "place_of" = true)
    (k_place_of : PySem.W.keepIn K (.ref fa_place_of) = true)
    (a_in_order : PySem.W.nsIn K mainGlobals "in_order" = some (some (.ref fa_in_order)))
    (l_in_order : K.lookup fa_in_order = some ⟨oc_in_order, od_in_order, .func (PySem.W.fnOf "in_order" "in_order" (defArgs s_in_order) (defBody s_in_order) (defScope s_in_order) .none kV_in_order dc_in_order pm_in_order an_in_order cd_in_order ct_in_order), sl_in_order⟩)
    (c_in_order : PySem.W.codeIn K cd_in_order "in_order" = true)
    (k_in_order : PySem.W.keepIn K (.ref fa_in_order) = true)
    (a_taken : PySem.W.nsIn K mainGlobals "taken" = some (some (.ref fa_taken)))
    (l_taken : K.lookup fa_taken = some ⟨oc_taken, od_taken, .func (PySem.W.fnOf "taken" "taken" (defArgs s_taken) (defBody s_taken) (defScope s_taken) .none kV_taken dc_taken pm_taken an_taken cd_taken ct_taken), sl_taken⟩)
    (c_taken : PySem.W.codeIn K cd_taken "taken" = true)
    (k_taken : PySem.W.keepIn K (.ref fa_taken) = true)
    (a_closed_of : PySem.W.nsIn K mainGlobals "closed_of" = some (some (.ref fa_closed_of)))
    (l_closed_of : K.lookup fa_closed_of = some ⟨oc_closed_of, od_closed_of, .func (PySem.W.fnOf "closed_of" "closed_of" (defArgs s_closed_of) (defBody s_closed_of) (defScope s_closed_of) .none kV_closed_of dc_closed_of pm_closed_of an_closed_of cd_closed_of ct_closed_of), sl_closed_of⟩)
    (c_closed_of : PySem.W.codeIn K cd_closed_of "closed_of" = true)
    (k_closed_of : PySem.W.keepIn K (.ref fa_closed_of) = true)
    (a_counts_in : PySem.W.nsIn K mainGlobals "counts_in" = some (some (.ref fa_counts_in)))
    (l_counts_in : K.lookup fa_counts_in = some ⟨oc_counts_in, od_counts_in, .func (PySem.W.fnOf "counts_in" "counts_in" (defArgs s_counts_in) (defBody s_counts_in) (defScope s_counts_in) .none kV_counts_in dc_counts_in pm_counts_in an_counts_in cd_counts_in ct_counts_in), sl_counts_in⟩)
    (c_counts_in : PySem.W.codeIn K cd_counts_in "counts_in" = true)
    (k_counts_in : PySem.W.keepIn K (.ref fa_counts_in) = true)
    (xc_Desk : PySem.W.nsIn K mainGlobals "Desk" = some (some (.ref cx_Desk)))
    (df_Desk___init__ : PySem.W.findIn K (.ref cx_Desk) "__init__" = some (some (.ref fa_Desk___init__)))
    (l_Desk___init__ : K.lookup fa_Desk___init__ = some ⟨oc_Desk___init__, od_Desk___init__, .func (PySem.W.fnOf "__init__" "Desk.__init__" (defArgs s_Desk___init__) (defBody s_Desk___init__) (defScope s_Desk___init__) .none kV_Desk___init__ dc_Desk___init__ pm_Desk___init__ an_Desk___init__ cd_Desk___init__ ct_Desk___init__), sl_Desk___init__⟩)
    (c_Desk___init__ : PySem.W.codeIn K cd_Desk___init__ "Desk.__init__" = true)
    (k_Desk___init__ : PySem.W.keepIn K (.ref fa_Desk___init__) = true)
    (pa_Desk_kind : PySem.W.findIn K (.ref cx_Desk) "kind" = some (some (.ref pp_Desk_kind)))
    (pc_Desk_kind : PySem.W.recIn K pp_Desk_kind "property" = some (.ref fa_Desk_kind :: pr_Desk_kind))
    (pg_Desk_kind : PySem.W.specialIn K (.ref pp_Desk_kind) "__get__" = some (some (.builtin "property.__get__")))
    (pt_Desk_kind : PySem.W.takesIn K (.ref pp_Desk_kind) = some true)
    (l_Desk_kind : K.lookup fa_Desk_kind = some ⟨oc_Desk_kind, od_Desk_kind, .func (PySem.W.fnOf "kind" "Desk.kind" (defArgs s_Desk_kind) (defBody s_Desk_kind) (defScope s_Desk_kind) .none kV_Desk_kind dc_Desk_kind pm_Desk_kind an_Desk_kind cd_Desk_kind ct_Desk_kind), sl_Desk_kind⟩)
    (c_Desk_kind : PySem.W.codeIn K cd_Desk_kind "Desk.kind" = true)
    (k_Desk_kind : PySem.W.keepIn K (.ref fa_Desk_kind) = true)
    (pa_Desk_lots : PySem.W.findIn K (.ref cx_Desk) "lots" = some (some (.ref pp_Desk_lots)))
    (pc_Desk_lots : PySem.W.recIn K pp_Desk_lots "property" = some (.ref fa_Desk_lots :: pr_Desk_lots))
    (pg_Desk_lots : PySem.W.specialIn K (.ref pp_Desk_lots) "__get__" = some (some (.builtin "property.__get__")))
    (pt_Desk_lots : PySem.W.takesIn K (.ref pp_Desk_lots) = some true)
    (l_Desk_lots : K.lookup fa_Desk_lots = some ⟨oc_Desk_lots, od_Desk_lots, .func (PySem.W.fnOf "lots" "Desk.lots" (defArgs s_Desk_lots) (defBody s_Desk_lots) (defScope s_Desk_lots) .none kV_Desk_lots dc_Desk_lots pm_Desk_lots an_Desk_lots cd_Desk_lots ct_Desk_lots), sl_Desk_lots⟩)
    (c_Desk_lots : PySem.W.codeIn K cd_Desk_lots "Desk.lots" = true)
    (k_Desk_lots : PySem.W.keepIn K (.ref fa_Desk_lots) = true)
    (pa_Desk_counts : PySem.W.findIn K (.ref cx_Desk) "counts" = some (some (.ref pp_Desk_counts)))
    (pc_Desk_counts : PySem.W.recIn K pp_Desk_counts "property" = some (.ref fa_Desk_counts :: pr_Desk_counts))
    (pg_Desk_counts : PySem.W.specialIn K (.ref pp_Desk_counts) "__get__" = some (some (.builtin "property.__get__")))
    (pt_Desk_counts : PySem.W.takesIn K (.ref pp_Desk_counts) = some true)
    (l_Desk_counts : K.lookup fa_Desk_counts = some ⟨oc_Desk_counts, od_Desk_counts, .func (PySem.W.fnOf "counts" "Desk.counts" (defArgs s_Desk_counts) (defBody s_Desk_counts) (defScope s_Desk_counts) .none kV_Desk_counts dc_Desk_counts pm_Desk_counts an_Desk_counts cd_Desk_counts ct_Desk_counts), sl_Desk_counts⟩)
    (c_Desk_counts : PySem.W.codeIn K cd_Desk_counts "Desk.counts" = true)
    (k_Desk_counts : PySem.W.keepIn K (.ref fa_Desk_counts) = true)
    (pa_Desk_steps : PySem.W.findIn K (.ref cx_Desk) "steps" = some (some (.ref pp_Desk_steps)))
    (pc_Desk_steps : PySem.W.recIn K pp_Desk_steps "property" = some (.ref fa_Desk_steps :: pr_Desk_steps))
    (pg_Desk_steps : PySem.W.specialIn K (.ref pp_Desk_steps) "__get__" = some (some (.builtin "property.__get__")))
    (pt_Desk_steps : PySem.W.takesIn K (.ref pp_Desk_steps) = some true)
    (l_Desk_steps : K.lookup fa_Desk_steps = some ⟨oc_Desk_steps, od_Desk_steps, .func (PySem.W.fnOf "steps" "Desk.steps" (defArgs s_Desk_steps) (defBody s_Desk_steps) (defScope s_Desk_steps) .none kV_Desk_steps dc_Desk_steps pm_Desk_steps an_Desk_steps cd_Desk_steps ct_Desk_steps), sl_Desk_steps⟩)
    (c_Desk_steps : PySem.W.codeIn K cd_Desk_steps "Desk.steps" = true)
    (k_Desk_steps : PySem.W.keepIn K (.ref fa_Desk_steps) = true)
    (df_Desk_add : PySem.W.findIn K (.ref cx_Desk) "add" = some (some (.ref fa_Desk_add)))
    (l_Desk_add : K.lookup fa_Desk_add = some ⟨oc_Desk_add, od_Desk_add, .func (PySem.W.fnOf "add" "Desk.add" (defArgs s_Desk_add) (defBody s_Desk_add) (defScope s_Desk_add) .none kV_Desk_add dc_Desk_add pm_Desk_add an_Desk_add cd_Desk_add ct_Desk_add), sl_Desk_add⟩)
    (c_Desk_add : PySem.W.codeIn K cd_Desk_add "Desk.add" = true)
    (k_Desk_add : PySem.W.keepIn K (.ref fa_Desk_add) = true)
    (df_Desk_take : PySem.W.findIn K (.ref cx_Desk) "take" = some (some (.ref fa_Desk_take)))
    (l_Desk_take : K.lookup fa_Desk_take = some ⟨oc_Desk_take, od_Desk_take, .func (PySem.W.fnOf "take" "Desk.take" (defArgs s_Desk_take) (defBody s_Desk_take) (defScope s_Desk_take) .none kV_Desk_take dc_Desk_take pm_Desk_take an_Desk_take cd_Desk_take ct_Desk_take), sl_Desk_take⟩)
    (c_Desk_take : PySem.W.codeIn K cd_Desk_take "Desk.take" = true)
    (k_Desk_take : PySem.W.keepIn K (.ref fa_Desk_take) = true)
    (df_Desk_undo : PySem.W.findIn K (.ref cx_Desk) "undo" = some (some (.ref fa_Desk_undo)))
    (l_Desk_undo : K.lookup fa_Desk_undo = some ⟨oc_Desk_undo, od_Desk_undo, .func (PySem.W.fnOf "undo" "Desk.undo" (defArgs s_Desk_undo) (defBody s_Desk_undo) (defScope s_Desk_undo) .none kV_Desk_undo dc_Desk_undo pm_Desk_undo an_Desk_undo cd_Desk_undo ct_Desk_undo), sl_Desk_undo⟩)
    (c_Desk_undo : PySem.W.codeIn K cd_Desk_undo "Desk.undo" = true)
    (k_Desk_undo : PySem.W.keepIn K (.ref fa_Desk_undo) = true)
    (df_Desk_copy : PySem.W.findIn K (.ref cx_Desk) "copy" = some (some (.ref fa_Desk_copy)))
    (l_Desk_copy : K.lookup fa_Desk_copy = some ⟨oc_Desk_copy, od_Desk_copy, .func (PySem.W.fnOf "copy" "Desk.copy" (defArgs s_Desk_copy) (defBody s_Desk_copy) (defScope s_Desk_copy) .none kV_Desk_copy dc_Desk_copy pm_Desk_copy an_Desk_copy cd_Desk_copy ct_Desk_copy), sl_Desk_copy⟩)
    (c_Desk_copy : PySem.W.codeIn K cd_Desk_copy "Desk.copy" = true)
    (k_Desk_copy : PySem.W.keepIn K (.ref fa_Desk_copy) = true)
    (df_Desk___len__ : PySem.W.findIn K (.ref cx_Desk) "__len__" = some (some (.ref fa_Desk___len__)))
    (l_Desk___len__ : K.lookup fa_Desk___len__ = some ⟨oc_Desk___len__, od_Desk___len__, .func (PySem.W.fnOf "__len__" "Desk.__len__" (defArgs s_Desk___len__) (defBody s_Desk___len__) (defScope s_Desk___len__) .none kV_Desk___len__ dc_Desk___len__ pm_Desk___len__ an_Desk___len__ cd_Desk___len__ ct_Desk___len__), sl_Desk___len__⟩)
    (c_Desk___len__ : PySem.W.codeIn K cd_Desk___len__ "Desk.__len__" = true)
    (k_Desk___len__ : PySem.W.keepIn K (.ref fa_Desk___len__) = true)
    (a__law_draws : PySem.W.nsIn K mainGlobals "_law_draws" = some (some (.ref fa__law_draws)))
    (l__law_draws : K.lookup fa__law_draws = some ⟨oc__law_draws, od__law_draws, .func (PySem.W.fnOf "_law_draws" "_law_draws" (defArgs s__law_draws) (defBody s__law_draws) (defScope s__law_draws) .none kV__law_draws dc__law_draws pm__law_draws an__law_draws cd__law_draws ct__law_draws), sl__law_draws⟩)
    (c__law_draws : PySem.W.codeIn K cd__law_draws "_law_draws" = true)
    (k__law_draws : PySem.W.keepIn K (.ref fa__law_draws) = true)
    (a__law_pick : PySem.W.nsIn K mainGlobals "_law_pick" = some (some (.ref fa__law_pick)))
    (l__law_pick : K.lookup fa__law_pick = some ⟨oc__law_pick, od__law_pick, .func (PySem.W.fnOf "_law_pick" "_law_pick" (defArgs s__law_pick) (defBody s__law_pick) (defScope s__law_pick) .none kV__law_pick dc__law_pick pm__law_pick an__law_pick cd__law_pick ct__law_pick), sl__law_pick⟩)
    (c__law_pick : PySem.W.codeIn K cd__law_pick "_law_pick" = true)
    (k__law_pick : PySem.W.keepIn K (.ref fa__law_pick) = true)
    (a__law_kind : PySem.W.nsIn K mainGlobals "_law_kind" = some (some (.ref fa__law_kind)))
    (l__law_kind : K.lookup fa__law_kind = some ⟨oc__law_kind, od__law_kind, .func (PySem.W.fnOf "_law_kind" "_law_kind" (defArgs s__law_kind) (defBody s__law_kind) (defScope s__law_kind) .none kV__law_kind dc__law_kind pm__law_kind an__law_kind cd__law_kind ct__law_kind), sl__law_kind⟩)
    (c__law_kind : PySem.W.codeIn K cd__law_kind "_law_kind" = true)
    (k__law_kind : PySem.W.keepIn K (.ref fa__law_kind) = true)
    (a__law_taken : PySem.W.nsIn K mainGlobals "_law_taken" = some (some (.ref fa__law_taken)))
    (l__law_taken : K.lookup fa__law_taken = some ⟨oc__law_taken, od__law_taken, .func (PySem.W.fnOf "_law_taken" "_law_taken" (defArgs s__law_taken) (defBody s__law_taken) (defScope s__law_taken) .none kV__law_taken dc__law_taken pm__law_taken an__law_taken cd__law_taken ct__law_taken), sl__law_taken⟩)
    (c__law_taken : PySem.W.codeIn K cd__law_taken "_law_taken" = true)
    (k__law_taken : PySem.W.keepIn K (.ref fa__law_taken) = true)
    (a__law_ordered : PySem.W.nsIn K mainGlobals "_law_ordered" = some (some (.ref fa__law_ordered)))
    (l__law_ordered : K.lookup fa__law_ordered = some ⟨oc__law_ordered, od__law_ordered, .func (PySem.W.fnOf "_law_ordered" "_law_ordered" (defArgs s__law_ordered) (defBody s__law_ordered) (defScope s__law_ordered) .none kV__law_ordered dc__law_ordered pm__law_ordered an__law_ordered cd__law_ordered ct__law_ordered), sl__law_ordered⟩)
    (c__law_ordered : PySem.W.codeIn K cd__law_ordered "_law_ordered" = true)
    (k__law_ordered : PySem.W.keepIn K (.ref fa__law_ordered) = true)
    (a__law_closed : PySem.W.nsIn K mainGlobals "_law_closed" = some (some (.ref fa__law_closed)))
    (l__law_closed : K.lookup fa__law_closed = some ⟨oc__law_closed, od__law_closed, .func (PySem.W.fnOf "_law_closed" "_law_closed" (defArgs s__law_closed) (defBody s__law_closed) (defScope s__law_closed) .none kV__law_closed dc__law_closed pm__law_closed an__law_closed cd__law_closed ct__law_closed), sl__law_closed⟩)
    (c__law_closed : PySem.W.codeIn K cd__law_closed "_law_closed" = true)
    (k__law_closed : PySem.W.keepIn K (.ref fa__law_closed) = true)
    (a__law_counts : PySem.W.nsIn K mainGlobals "_law_counts" = some (some (.ref fa__law_counts)))
    (l__law_counts : K.lookup fa__law_counts = some ⟨oc__law_counts, od__law_counts, .func (PySem.W.fnOf "_law_counts" "_law_counts" (defArgs s__law_counts) (defBody s__law_counts) (defScope s__law_counts) .none kV__law_counts dc__law_counts pm__law_counts an__law_counts cd__law_counts ct__law_counts), sl__law_counts⟩)
    (c__law_counts : PySem.W.codeIn K cd__law_counts "_law_counts" = true)
    (k__law_counts : PySem.W.keepIn K (.ref fa__law_counts) = true)
    (a__law_lot : PySem.W.nsIn K mainGlobals "_law_lot" = some (some (.ref fa__law_lot)))
    (l__law_lot : K.lookup fa__law_lot = some ⟨oc__law_lot, od__law_lot, .func (PySem.W.fnOf "_law_lot" "_law_lot" (defArgs s__law_lot) (defBody s__law_lot) (defScope s__law_lot) .none kV__law_lot dc__law_lot pm__law_lot an__law_lot cd__law_lot ct__law_lot), sl__law_lot⟩)
    (c__law_lot : PySem.W.codeIn K cd__law_lot "_law_lot" = true)
    (k__law_lot : PySem.W.keepIn K (.ref fa__law_lot) = true)
    (a__law_some : PySem.W.nsIn K mainGlobals "_law_some" = some (some (.ref fa__law_some)))
    (l__law_some : K.lookup fa__law_some = some ⟨oc__law_some, od__law_some, .func (PySem.W.fnOf "_law_some" "_law_some" (defArgs s__law_some) (defBody s__law_some) (defScope s__law_some) .none kV__law_some dc__law_some pm__law_some an__law_some cd__law_some ct__law_some), sl__law_some⟩)
    (c__law_some : PySem.W.codeIn K cd__law_some "_law_some" = true)
    (k__law_some : PySem.W.keepIn K (.ref fa__law_some) = true)
    (a__law_odd_lots : PySem.W.nsIn K mainGlobals "_law_odd_lots" = some (some (.ref fa__law_odd_lots)))
    (l__law_odd_lots : K.lookup fa__law_odd_lots = some ⟨oc__law_odd_lots, od__law_odd_lots, .func (PySem.W.fnOf "_law_odd_lots" "_law_odd_lots" (defArgs s__law_odd_lots) (defBody s__law_odd_lots) (defScope s__law_odd_lots) .none kV__law_odd_lots dc__law_odd_lots pm__law_odd_lots an__law_odd_lots cd__law_odd_lots ct__law_odd_lots), sl__law_odd_lots⟩)
    (c__law_odd_lots : PySem.W.codeIn K cd__law_odd_lots "_law_odd_lots" = true)
    (k__law_odd_lots : PySem.W.keepIn K (.ref fa__law_odd_lots) = true)
    (a__law_try : PySem.W.nsIn K mainGlobals "_law_try" = some (some (.ref fa__law_try)))
    (l__law_try : K.lookup fa__law_try = some ⟨oc__law_try, od__law_try, .func (PySem.W.fnOf "_law_try" "_law_try" (defArgs s__law_try) (defBody s__law_try) (defScope s__law_try) .none kV__law_try dc__law_try pm__law_try an__law_try cd__law_try ct__law_try), sl__law_try⟩)
    (c__law_try : PySem.W.codeIn K cd__law_try "_law_try" = true)
    (k__law_try : PySem.W.keepIn K (.ref fa__law_try) = true)
    (a__law_wrong : PySem.W.nsIn K mainGlobals "_law_wrong" = some (some (.ref fa__law_wrong)))
    (l__law_wrong : K.lookup fa__law_wrong = some ⟨oc__law_wrong, od__law_wrong, .func (PySem.W.fnOf "_law_wrong" "_law_wrong" (defArgs s__law_wrong) (defBody s__law_wrong) (defScope s__law_wrong) .none kV__law_wrong dc__law_wrong pm__law_wrong an__law_wrong cd__law_wrong ct__law_wrong), sl__law_wrong⟩)
    (c__law_wrong : PySem.W.codeIn K cd__law_wrong "_law_wrong" = true)
    (k__law_wrong : PySem.W.keepIn K (.ref fa__law_wrong) = true)
    (a__law_stands : PySem.W.nsIn K mainGlobals "_law_stands" = some (some (.ref fa__law_stands)))
    (l__law_stands : K.lookup fa__law_stands = some ⟨oc__law_stands, od__law_stands, .func (PySem.W.fnOf "_law_stands" "_law_stands" (defArgs s__law_stands) (defBody s__law_stands) (defScope s__law_stands) .none kV__law_stands dc__law_stands pm__law_stands an__law_stands cd__law_stands ct__law_stands), sl__law_stands⟩)
    (c__law_stands : PySem.W.codeIn K cd__law_stands "_law_stands" = true)
    (k__law_stands : PySem.W.keepIn K (.ref fa__law_stands) = true)
    (a__law_of_copy : PySem.W.nsIn K mainGlobals "_law_of_copy" = some (some (.ref fa__law_of_copy)))
    (l__law_of_copy : K.lookup fa__law_of_copy = some ⟨oc__law_of_copy, od__law_of_copy, .func (PySem.W.fnOf "_law_of_copy" "_law_of_copy" (defArgs s__law_of_copy) (defBody s__law_of_copy) (defScope s__law_of_copy) .none kV__law_of_copy dc__law_of_copy pm__law_of_copy an__law_of_copy cd__law_of_copy ct__law_of_copy), sl__law_of_copy⟩)
    (c__law_of_copy : PySem.W.codeIn K cd__law_of_copy "_law_of_copy" = true)
    (k__law_of_copy : PySem.W.keepIn K (.ref fa__law_of_copy) = true)
    (a_law : PySem.W.nsIn K mainGlobals "law" = some (some (.ref fa_law)))
    (l_law : K.lookup fa_law = some ⟨oc_law, od_law, .func (PySem.W.fnOf "law" "law" (defArgs s_law) (defBody s_law) (defScope s_law) .none kV_law dc_law pm_law an_law cd_law ct_law), sl_law⟩)
    (c_law : PySem.W.codeIn K cd_law "law" = true)
    (k_law : PySem.W.keepIn K (.ref fa_law) = true)
    (z_isinstance : PySem.W.nsIn K mainGlobals "isinstance" = some none)
    (z_bool : PySem.W.nsIn K mainGlobals "bool" = some none)
    (z_int : PySem.W.nsIn K mainGlobals "int" = some none)
    (z_str : PySem.W.nsIn K mainGlobals "str" = some none)
    (z_range : PySem.W.nsIn K mainGlobals "range" = some none)
    (z_len : PySem.W.nsIn K mainGlobals "len" = some none)
    (z_set : PySem.W.nsIn K mainGlobals "set" = some none)
    (z_list : PySem.W.nsIn K mainGlobals "list" = some none)
    (z_sorted : PySem.W.nsIn K mainGlobals "sorted" = some none)
    (z_all : PySem.W.nsIn K mainGlobals "all" = some none)
    (z_tuple : PySem.W.nsIn K mainGlobals "tuple" = some none)
    (z_enumerate : PySem.W.nsIn K mainGlobals "enumerate" = some none)
    (z_sum : PySem.W.nsIn K mainGlobals "sum" = some none)
    (z_max : PySem.W.nsIn K mainGlobals "max" = some none)
    (gc_BAGS : PySem.W.nsIn K mainGlobals "BAGS" = some (some (.str "bags" t_BAGS)))
    (gc_MOST_THING : PySem.W.nsIn K mainGlobals "MOST_THING" = some (some (.int 1000000 t_MOST_THING)))
    (gc_MOST_SIZE : PySem.W.nsIn K mainGlobals "MOST_SIZE" = some (some (.int 8 t_MOST_SIZE)))
    (t_KINDS : PySem.W.nsIn K mainGlobals "KINDS" = some (some (.ref tp_KINDS)))
    (tl_KINDS : K.lookup tp_KINDS = some ⟨.type "tuple", td_KINDS, .seq #[.str "bags" tt_KINDS_0, .str "sets" tt_KINDS_1] tn_KINDS, tsl_KINDS⟩)
    (xc_BadKind : PySem.W.nsIn K mainGlobals "BadKind" = some (some (.ref cx_BadKind)))
    (xb_BadKind : PySem.W.subIn K (.ref cx_BadKind) (.type "BaseException") = some true)
    (xt_BadKind : PySem.W.typeIn K (.ref cx_BadKind) = some (.type "type"))
    (xk_BadKind : PySem.W.keepIn K (.ref cx_BadKind) = true)
    (xc_BadLot : PySem.W.nsIn K mainGlobals "BadLot" = some (some (.ref cx_BadLot)))
    (xb_BadLot : PySem.W.subIn K (.ref cx_BadLot) (.type "BaseException") = some true)
    (xt_BadLot : PySem.W.typeIn K (.ref cx_BadLot) = some (.type "type"))
    (xk_BadLot : PySem.W.keepIn K (.ref cx_BadLot) = true)
    (xc_NotThere : PySem.W.nsIn K mainGlobals "NotThere" = some (some (.ref cx_NotThere)))
    (xb_NotThere : PySem.W.subIn K (.ref cx_NotThere) (.type "BaseException") = some true)
    (xt_NotThere : PySem.W.typeIn K (.ref cx_NotThere) = some (.type "type"))
    (xk_NotThere : PySem.W.keepIn K (.ref cx_NotThere) = true)
    (xc_BadLots : PySem.W.nsIn K mainGlobals "BadLots" = some (some (.ref cx_BadLots)))
    (xb_BadLots : PySem.W.subIn K (.ref cx_BadLots) (.type "BaseException") = some true)
    (xt_BadLots : PySem.W.typeIn K (.ref cx_BadLots) = some (.type "type"))
    (xk_BadLots : PySem.W.keepIn K (.ref cx_BadLots) = true)
    (xe_BadKind : PySem.W.excIn K cx_BadKind [.type "ValueError", .type "Exception", .type "BaseException", .type "object"] "ValueError.__new__" = true)
    (xe_BadLot : PySem.W.excIn K cx_BadLot [.type "ValueError", .type "Exception", .type "BaseException", .type "object"] "ValueError.__new__" = true)
    (xe_NotThere : PySem.W.excIn K cx_NotThere [.type "ValueError", .type "Exception", .type "BaseException", .type "object"] "ValueError.__new__" = true)
    (cSz : PySem.W.nsIn K mainGlobals "SizeError" = some (some (.ref cS)))
    (xL_BadLots : K.lookup cx_BadLots = some (excClassObj nm_BadLots q_BadLots cx_BadLots N_BadLots bs_BadLots (.ref cS :: [.type "ValueError", .type "Exception", .type "BaseException", .type "object"]) true sn_BadLots sub_BadLots ab_BadLots col_BadLots dd_BadLots m0_BadLots m1_BadLots m2_BadLots m3_BadLots m5_BadLots "ValueError.__new__"))
    (sa_BadLots : PySem.W.findIn K (.ref cx_BadLots) "__setattr__" = some (some (.builtin "object.__setattr__")))
    (ii_BadLots : PySem.W.findIn K (.ref cx_BadLots) "__init__" = some (some (.ref fi_BadLots)))
    (it_BadLots : PySem.W.typeIn K (.ref fi_BadLots) = some (.type "function"))
    (il_BadLots : K.lookup fi_BadLots = some ⟨ioc_BadLots, iod_BadLots, .func (PySem.W.fnOf "__init__" "BadLots.__init__" (defArgs s_i_BadLots) (defBody s_i_BadLots) (defScope s_i_BadLots) .none ikV_BadLots idc_BadLots ipm_BadLots ian_BadLots icd_BadLots ict_BadLots), isl_BadLots⟩)
    (ic_BadLots : PySem.W.codeIn K icd_BadLots "BadLots.__init__" = true)
    (ik_BadLots : PySem.W.keepIn K (.ref fi_BadLots) = true)
    (xn : PySem.W.specialIn K (.builtin "object.__class__") "__get__" = some (some (.builtin "getset_descriptor.__get__")))
    (cSd : PySem.W.hasDictIn K cS = true)
    (cSt : PySem.W.typeIn K (.ref cS) = some (.type "type"))
    (xtk : PySem.W.takesIn K (.builtin "object.__class__") = some true)
    (xg_BadKind : PySem.W.findIn K (.ref cx_BadKind) "__getattribute__" = some (some (.builtin "BaseException.__getattribute__")))
    (xq_BadKind : PySem.W.findIn K (.ref cx_BadKind) "__getattr__" = some none)
    (xd_BadKind : PySem.W.hasDictIn K cx_BadKind = true)
    (xa_BadKind : PySem.W.findIn K (.ref cx_BadKind) "__class__" = some (some (.builtin "object.__class__")))
    (xm_BadKind : PySem.W.mroIn K cx_BadKind (.type "object") = some true)
    (xs_BadKind : PySem.W.subIn K (.ref cx_BadKind) (.ref cS) = some true)
    (nf_BadKind_index : PySem.W.findIn K (.ref cx_BadKind) "index" = some none)
    (ex_BadKind_BadKind : PySem.W.subIn K (.ref cx_BadKind) (.ref cx_BadKind) = some true)
    (ex_BadKind_BadLot : PySem.W.subIn K (.ref cx_BadKind) (.ref cx_BadLot) = some false)
    (ex_BadKind_NotThere : PySem.W.subIn K (.ref cx_BadKind) (.ref cx_NotThere) = some false)
    (ex_BadKind_BadLots : PySem.W.subIn K (.ref cx_BadKind) (.ref cx_BadLots) = some false)
    (xg_BadLot : PySem.W.findIn K (.ref cx_BadLot) "__getattribute__" = some (some (.builtin "BaseException.__getattribute__")))
    (xq_BadLot : PySem.W.findIn K (.ref cx_BadLot) "__getattr__" = some none)
    (xd_BadLot : PySem.W.hasDictIn K cx_BadLot = true)
    (xa_BadLot : PySem.W.findIn K (.ref cx_BadLot) "__class__" = some (some (.builtin "object.__class__")))
    (xm_BadLot : PySem.W.mroIn K cx_BadLot (.type "object") = some true)
    (xs_BadLot : PySem.W.subIn K (.ref cx_BadLot) (.ref cS) = some true)
    (nf_BadLot_index : PySem.W.findIn K (.ref cx_BadLot) "index" = some none)
    (ex_BadLot_BadKind : PySem.W.subIn K (.ref cx_BadLot) (.ref cx_BadKind) = some false)
    (ex_BadLot_BadLot : PySem.W.subIn K (.ref cx_BadLot) (.ref cx_BadLot) = some true)
    (ex_BadLot_NotThere : PySem.W.subIn K (.ref cx_BadLot) (.ref cx_NotThere) = some false)
    (ex_BadLot_BadLots : PySem.W.subIn K (.ref cx_BadLot) (.ref cx_BadLots) = some false)
    (xg_NotThere : PySem.W.findIn K (.ref cx_NotThere) "__getattribute__" = some (some (.builtin "BaseException.__getattribute__")))
    (xq_NotThere : PySem.W.findIn K (.ref cx_NotThere) "__getattr__" = some none)
    (xd_NotThere : PySem.W.hasDictIn K cx_NotThere = true)
    (xa_NotThere : PySem.W.findIn K (.ref cx_NotThere) "__class__" = some (some (.builtin "object.__class__")))
    (xm_NotThere : PySem.W.mroIn K cx_NotThere (.type "object") = some true)
    (xs_NotThere : PySem.W.subIn K (.ref cx_NotThere) (.ref cS) = some true)
    (nf_NotThere_index : PySem.W.findIn K (.ref cx_NotThere) "index" = some none)
    (ex_NotThere_BadKind : PySem.W.subIn K (.ref cx_NotThere) (.ref cx_BadKind) = some false)
    (ex_NotThere_BadLot : PySem.W.subIn K (.ref cx_NotThere) (.ref cx_BadLot) = some false)
    (ex_NotThere_NotThere : PySem.W.subIn K (.ref cx_NotThere) (.ref cx_NotThere) = some true)
    (ex_NotThere_BadLots : PySem.W.subIn K (.ref cx_NotThere) (.ref cx_BadLots) = some false)
    (xg_BadLots : PySem.W.findIn K (.ref cx_BadLots) "__getattribute__" = some (some (.builtin "BaseException.__getattribute__")))
    (xq_BadLots : PySem.W.findIn K (.ref cx_BadLots) "__getattr__" = some none)
    (xd_BadLots : PySem.W.hasDictIn K cx_BadLots = true)
    (xa_BadLots : PySem.W.findIn K (.ref cx_BadLots) "__class__" = some (some (.builtin "object.__class__")))
    (xm_BadLots : PySem.W.mroIn K cx_BadLots (.type "object") = some true)
    (xs_BadLots : PySem.W.subIn K (.ref cx_BadLots) (.ref cS) = some true)
    (nf_BadLots_index : PySem.W.findIn K (.ref cx_BadLots) "index" = some none)
    (ex_BadLots_BadKind : PySem.W.subIn K (.ref cx_BadLots) (.ref cx_BadKind) = some false)
    (ex_BadLots_BadLot : PySem.W.subIn K (.ref cx_BadLots) (.ref cx_BadLot) = some false)
    (ex_BadLots_NotThere : PySem.W.subIn K (.ref cx_BadLots) (.ref cx_NotThere) = some false)
    (ex_BadLots_BadLots : PySem.W.subIn K (.ref cx_BadLots) (.ref cx_BadLots) = some true)
    (dm_Desk : PySem.W.makesIn K cx_Desk = true)
    (dk_Desk : PySem.W.keepIn K (.ref cx_Desk) = true)
    (dp_Desk : PySem.W.plainGet K cx_Desk Str.empty = true)
    (dh_Desk : PySem.W.hasDictIn K cx_Desk = true)
    (do_Desk : PySem.W.plainOver K cx_Desk = true)
    (ds_Desk : PySem.W.findIn K (.ref cx_Desk) "__setattr__" = some (some (.builtin "object.__setattr__")))
    (dn_Desk_own_kind : PySem.W.findIn K (.ref cx_Desk) "own_kind" = some none)
    (dn_Desk_states : PySem.W.findIn K (.ref cx_Desk) "states" = some none)
    (di_Desk___init__ : PySem.W.isFn K (.ref fa_Desk___init__) = true)
    (di_Desk_add : PySem.W.isFn K (.ref fa_Desk_add) = true)
    (di_Desk_take : PySem.W.isFn K (.ref fa_Desk_take) = true)
    (di_Desk_undo : PySem.W.isFn K (.ref fa_Desk_undo) = true)
    (di_Desk_copy : PySem.W.isFn K (.ref fa_Desk_copy) = true)
    (di_Desk___len__ : PySem.W.isFn K (.ref fa_Desk___len__) = true)
    (L : ∀ cl : Str → Addr, LawOkD 15 1 (b_law0 cl) mi_Desk (b_lawA cl) (b_lawP cl) 4 5 (b_law cl)) : ∃ fd : FuncData, (∀ (s : Shared) (v : Value), BindsTo s fd ⟨[v], []⟩ [("_law_script", v)]) ∧ ∀ base : Heap, K.In base → base.Ns mainGlobals mg → FnOk P w K mg base (L2.CX P w) 9 fa fd ["_law_script"] (spLaw K) := by
  have e := hfa.symm.trans (PySem.W.mg_of X G a_law)
  cases e
  have y_isinstance := PySem.W.mg_none_of X G z_isinstance
  have y_bool := PySem.W.mg_none_of X G z_bool
  have y_int := PySem.W.mg_none_of X G z_int
  have y_str := PySem.W.mg_none_of X G z_str
  have y_range := PySem.W.mg_none_of X G z_range
  have y_len := PySem.W.mg_none_of X G z_len
  have y_set := PySem.W.mg_none_of X G z_set
  have y_list := PySem.W.mg_none_of X G z_list
  have y_sorted := PySem.W.mg_none_of X G z_sorted
  have y_all := PySem.W.mg_none_of X G z_all
  have y_tuple := PySem.W.mg_none_of X G z_tuple
  have y_enumerate := PySem.W.mg_none_of X G z_enumerate
  have y_sum := PySem.W.mg_none_of X G z_sum
  have y_max := PySem.W.mg_none_of X G z_max
  have G_BAGS : GV mg "BAGS" g_BAGS := gv_str (PySem.W.mg_of X G gc_BAGS)
  have G_MOST_THING : GV mg "MOST_THING" g_MOST_THING := gv_int (PySem.W.mg_of X G gc_MOST_THING)
  have G_MOST_SIZE : GV mg "MOST_SIZE" g_MOST_SIZE := gv_int (PySem.W.mg_of X G gc_MOST_SIZE)
  have K_KINDS : GTup K mg "KINDS" k_KINDS := ⟨tp_KINDS, PySem.W.mg_of X G t_KINDS, fun H => .inr ⟨_, _, _, tl_KINDS, rfl, rfl, (by rw [sizeLine_eq]; show 2 ≤ 16777216; decide), .cons ⟨_, rfl⟩ (.cons ⟨_, rfl⟩ (.nil))⟩⟩
  have hm_BadKind := PySem.W.mg_of X G xc_BadKind
  have hm_BadLot := PySem.W.mg_of X G xc_BadLot
  have hm_NotThere := PySem.W.mg_of X G xc_NotThere
  have hm_BadLots := PySem.W.mg_of X G xc_BadLots
  have hmS := PySem.W.mg_of X G cSz
  have E_BadKind : ExC K mg "BadKind" := ⟨cx_BadKind, hm_BadKind, xe_BadKind, xk_BadKind, xb_BadKind, xt_BadKind⟩
  have E_BadLot : ExC K mg "BadLot" := ⟨cx_BadLot, hm_BadLot, xe_BadLot, xk_BadLot, xb_BadLot, xt_BadLot⟩
  have E_NotThere : ExC K mg "NotThere" := ⟨cx_NotThere, hm_NotThere, xe_NotThere, xk_NotThere, xb_NotThere, xt_NotThere⟩
  have O_BadLots : OexC K cx_BadLots := ⟨⟨nm_BadLots, q_BadLots, N_BadLots, bs_BadLots, _, sn_BadLots, sub_BadLots, ab_BadLots, col_BadLots, dd_BadLots, m0_BadLots, m1_BadLots, m2_BadLots, m3_BadLots, m5_BadLots, xL_BadLots, rfl⟩, sa_BadLots, xb_BadLots, xt_BadLots, xk_BadLots⟩
  have FI_BadLots := fun_mk (st := s_i_BadLots) il_BadLots ic_BadLots ik_BadLots
  have XT : XTab K mg "SizeError" xns xfl := ⟨List.forall_mem_cons.mpr ⟨⟨cx_BadKind, hm_BadKind, ⟨xg_BadKind, xq_BadKind, xb_BadKind, xd_BadKind, xa_BadKind, xn, xtk, xm_BadKind⟩, ⟨xg_BadKind, xq_BadKind, xb_BadKind, xd_BadKind⟩, List.forall_mem_cons.mpr ⟨nf_BadKind_index, (fun _ z => by cases z)⟩, cS, hmS, kit_ref cSd cSt xs_BadKind⟩, List.forall_mem_cons.mpr ⟨⟨cx_BadLot, hm_BadLot, ⟨xg_BadLot, xq_BadLot, xb_BadLot, xd_BadLot, xa_BadLot, xn, xtk, xm_BadLot⟩, ⟨xg_BadLot, xq_BadLot, xb_BadLot, xd_BadLot⟩, List.forall_mem_cons.mpr ⟨nf_BadLot_index, (fun _ z => by cases z)⟩, cS, hmS, kit_ref cSd cSt xs_BadLot⟩, List.forall_mem_cons.mpr ⟨⟨cx_NotThere, hm_NotThere, ⟨xg_NotThere, xq_NotThere, xb_NotThere, xd_NotThere, xa_NotThere, xn, xtk, xm_NotThere⟩, ⟨xg_NotThere, xq_NotThere, xb_NotThere, xd_NotThere⟩, List.forall_mem_cons.mpr ⟨nf_NotThere_index, (fun _ z => by cases z)⟩, cS, hmS, kit_ref cSd cSt xs_NotThere⟩, List.forall_mem_cons.mpr ⟨⟨cx_BadLots, hm_BadLots, ⟨xg_BadLots, xq_BadLots, xb_BadLots, xd_BadLots, xa_BadLots, xn, xtk, xm_BadLots⟩, ⟨xg_BadLots, xq_BadLots, xb_BadLots, xd_BadLots⟩, List.forall_mem_cons.mpr ⟨nf_BadLots_index, (fun _ z => by cases z)⟩, cS, hmS, kit_ref cSd cSt xs_BadLots⟩, (fun _ z => by cases z)⟩⟩⟩⟩, List.forall_mem_cons.mpr ⟨List.forall_mem_cons.mpr ⟨exm1 hm_BadKind hm_BadKind (PySem.W.exm_ref xb_BadKind xd_BadKind xt_BadKind ex_BadKind_BadKind) (by decide), List.forall_mem_cons.mpr ⟨exm1 hm_BadKind hm_BadLot (PySem.W.exm_ref xb_BadLot xd_BadLot xt_BadLot ex_BadKind_BadLot) (by decide), List.forall_mem_cons.mpr ⟨exm1 hm_BadKind hm_NotThere (PySem.W.exm_ref xb_NotThere xd_NotThere xt_NotThere ex_BadKind_NotThere) (by decide), List.forall_mem_cons.mpr ⟨exm1 hm_BadKind hm_BadLots (PySem.W.exm_ref xb_BadLots xd_BadLots xt_BadLots ex_BadKind_BadLots) (by decide), (fun _ z => by cases z)⟩⟩⟩⟩, List.forall_mem_cons.mpr ⟨List.forall_mem_cons.mpr ⟨exm1 hm_BadLot hm_BadKind (PySem.W.exm_ref xb_BadKind xd_BadKind xt_BadKind ex_BadLot_BadKind) (by decide), List.forall_mem_cons.mpr ⟨exm1 hm_BadLot hm_BadLot (PySem.W.exm_ref xb_BadLot xd_BadLot xt_BadLot ex_BadLot_BadLot) (by decide), List.forall_mem_cons.mpr ⟨exm1 hm_BadLot hm_NotThere (PySem.W.exm_ref xb_NotThere xd_NotThere xt_NotThere ex_BadLot_NotThere) (by decide), List.forall_mem_cons.mpr ⟨exm1 hm_BadLot hm_BadLots (PySem.W.exm_ref xb_BadLots xd_BadLots xt_BadLots ex_BadLot_BadLots) (by decide), (fun _ z => by cases z)⟩⟩⟩⟩, List.forall_mem_cons.mpr ⟨List.forall_mem_cons.mpr ⟨exm1 hm_NotThere hm_BadKind (PySem.W.exm_ref xb_BadKind xd_BadKind xt_BadKind ex_NotThere_BadKind) (by decide), List.forall_mem_cons.mpr ⟨exm1 hm_NotThere hm_BadLot (PySem.W.exm_ref xb_BadLot xd_BadLot xt_BadLot ex_NotThere_BadLot) (by decide), List.forall_mem_cons.mpr ⟨exm1 hm_NotThere hm_NotThere (PySem.W.exm_ref xb_NotThere xd_NotThere xt_NotThere ex_NotThere_NotThere) (by decide), List.forall_mem_cons.mpr ⟨exm1 hm_NotThere hm_BadLots (PySem.W.exm_ref xb_BadLots xd_BadLots xt_BadLots ex_NotThere_BadLots) (by decide), (fun _ z => by cases z)⟩⟩⟩⟩, List.forall_mem_cons.mpr ⟨List.forall_mem_cons.mpr ⟨exm1 hm_BadLots hm_BadKind (PySem.W.exm_ref xb_BadKind xd_BadKind xt_BadKind ex_BadLots_BadKind) (by decide), List.forall_mem_cons.mpr ⟨exm1 hm_BadLots hm_BadLot (PySem.W.exm_ref xb_BadLot xd_BadLot xt_BadLot ex_BadLots_BadLot) (by decide), List.forall_mem_cons.mpr ⟨exm1 hm_BadLots hm_NotThere (PySem.W.exm_ref xb_NotThere xd_NotThere xt_NotThere ex_BadLots_NotThere) (by decide), List.forall_mem_cons.mpr ⟨exm1 hm_BadLots hm_BadLots (PySem.W.exm_ref xb_BadLots xd_BadLots xt_BadLots ex_BadLots_BadLots) (by decide), (fun _ z => by cases z)⟩⟩⟩⟩, (fun _ z => by cases z)⟩⟩⟩⟩⟩
  have hm_Desk := PySem.W.mg_of X G xc_Desk
  have L := L (clF [("Desk", cx_Desk)] cx_Desk)
  have CD_Desk : Cls K ((clF [("Desk", cx_Desk)] cx_Desk) "Desk") := (⟨dp_Desk, dh_Desk, do_Desk, ds_Desk⟩ : Cls K cx_Desk)
  have NA_Desk_own_kind : NoAttr K ((clF [("Desk", cx_Desk)] cx_Desk) "Desk") "own_kind" := dn_Desk_own_kind
  have NA_Desk_states : NoAttr K ((clF [("Desk", cx_Desk)] cx_Desk) "Desk") "states" := dn_Desk_states
  have F_is_from := fun_mk (st := s_is_from) l_is_from c_is_from k_is_from
  have F_check_kind := fun_mk (st := s_check_kind) l_check_kind c_check_kind k_check_kind
  have F_choose := fun_mk (st := s_choose) l_choose c_choose k_choose
  have F_is_lot := fun_mk (st := s_is_lot) l_is_lot c_is_lot k_is_lot
  have F_check_lot := fun_mk (st := s_check_lot) l_check_lot c_check_lot k_check_lot
  have F_check_lots := fun_mk (st := s_check_lots) l_check_lots c_check_lots k_check_lots
  have F_place_of := fun_mk (st := s_place_of) l_place_of c_place_of k_place_of
  have F_in_order := fun_mk (st := s_in_order) l_in_order c_in_order k_in_order
  have F_taken := fun_mk (st := s_taken) l_taken c_taken k_taken
  have F_closed_of := fun_mk (st := s_closed_of) l_closed_of c_closed_of k_closed_of
  have F_counts_in := fun_mk (st := s_counts_in) l_counts_in c_counts_in k_counts_in
  have F_Desk___init__ := fun_mk (st := s_Desk___init__) l_Desk___init__ c_Desk___init__ k_Desk___init__
  have F_Desk_kind := fun_mk (st := s_Desk_kind) l_Desk_kind c_Desk_kind k_Desk_kind
  have F_Desk_lots := fun_mk (st := s_Desk_lots) l_Desk_lots c_Desk_lots k_Desk_lots
  have F_Desk_counts := fun_mk (st := s_Desk_counts) l_Desk_counts c_Desk_counts k_Desk_counts
  have F_Desk_steps := fun_mk (st := s_Desk_steps) l_Desk_steps c_Desk_steps k_Desk_steps
  have F_Desk_add := fun_mk (st := s_Desk_add) l_Desk_add c_Desk_add k_Desk_add
  have F_Desk_take := fun_mk (st := s_Desk_take) l_Desk_take c_Desk_take k_Desk_take
  have F_Desk_undo := fun_mk (st := s_Desk_undo) l_Desk_undo c_Desk_undo k_Desk_undo
  have F_Desk_copy := fun_mk (st := s_Desk_copy) l_Desk_copy c_Desk_copy k_Desk_copy
  have F_Desk___len__ := fun_mk (st := s_Desk___len__) l_Desk___len__ c_Desk___len__ k_Desk___len__
  have F__law_draws := fun_mk (st := s__law_draws) l__law_draws c__law_draws k__law_draws
  have F__law_pick := fun_mk (st := s__law_pick) l__law_pick c__law_pick k__law_pick
  have F__law_kind := fun_mk (st := s__law_kind) l__law_kind c__law_kind k__law_kind
  have F__law_taken := fun_mk (st := s__law_taken) l__law_taken c__law_taken k__law_taken
  have F__law_ordered := fun_mk (st := s__law_ordered) l__law_ordered c__law_ordered k__law_ordered
  have F__law_closed := fun_mk (st := s__law_closed) l__law_closed c__law_closed k__law_closed
  have F__law_counts := fun_mk (st := s__law_counts) l__law_counts c__law_counts k__law_counts
  have F__law_lot := fun_mk (st := s__law_lot) l__law_lot c__law_lot k__law_lot
  have F__law_some := fun_mk (st := s__law_some) l__law_some c__law_some k__law_some
  have F__law_odd_lots := fun_mk (st := s__law_odd_lots) l__law_odd_lots c__law_odd_lots k__law_odd_lots
  have F__law_try := fun_mk (st := s__law_try) l__law_try c__law_try k__law_try
  have F__law_wrong := fun_mk (st := s__law_wrong) l__law_wrong c__law_wrong k__law_wrong
  have F__law_stands := fun_mk (st := s__law_stands) l__law_stands c__law_stands k__law_stands
  have F__law_of_copy := fun_mk (st := s__law_of_copy) l__law_of_copy c__law_of_copy k__law_of_copy
  have F_law := fun_mk (st := s_law) l_law c_law k_law
  refine ⟨PySem.W.fnOf "law" "law" (defArgs s_law) (defBody s_law) (defScope s_law) .none kV_law dc_law pm_law an_law cd_law ct_law, fun s v => .of_eq rfl, fun base _ _ => ?_⟩
  have EI_BadLots : ExI P w K mg base 1 "BadLots" ["index"] := x_BadLots FI_BadLots hm_BadLots O_BadLots ii_BadLots it_BadLots nf_BadLots_index
  have M_is_from := f_is_from (P := P) (w := w) (base := base) F_is_from (PySem.W.mg_of X G a_is_from) y_isinstance y_bool y_int
  have M_check_kind := f_check_kind (P := P) (w := w) (base := base) F_check_kind (PySem.W.mg_of X G a_check_kind) y_isinstance y_str K_KINDS E_BadKind
  have M_choose := f_choose (P := P) (w := w) (base := base) F_choose (PySem.W.mg_of X G a_choose) y_range
  have M_is_lot := f_is_lot (P := P) (w := w) (base := base) F_is_lot (PySem.W.mg_of X G a_is_lot) y_len y_set y_list y_sorted y_all y_isinstance y_tuple G_BAGS G_MOST_THING G_MOST_SIZE M_is_from
  have M_check_lot := f_check_lot (P := P) (w := w) (base := base) F_check_lot (PySem.W.mg_of X G a_check_lot) E_BadLot M_is_lot
  have M_check_lots := f_check_lots (P := P) (w := w) (base := base) F_check_lots (PySem.W.mg_of X G a_check_lots) y_enumerate y_isinstance y_list y_tuple EI_BadLots M_is_lot
  have M_place_of := f_place_of (P := P) (w := w) (base := base) F_place_of (PySem.W.mg_of X G a_place_of) y_sum y_enumerate G_BAGS M_choose
  have M_in_order := f_in_order (P := P) (w := w) (base := base) F_in_order (PySem.W.mg_of X G a_in_order) y_sorted y_len M_place_of
  have M_taken := f_taken (P := P) (w := w) (base := base) F_taken (PySem.W.mg_of X G a_taken) y_range y_len
  have M_closed_of := f_closed_of (P := P) (w := w) (base := base) F_closed_of (PySem.W.mg_of X G a_closed_of) y_list M_in_order M_taken
  have M_counts_in := f_counts_in (P := P) (w := w) (base := base) F_counts_in (PySem.W.mg_of X G a_counts_in) y_tuple y_range y_max y_len
  have GX_Desk := f_Desk___init__ (P := P) (w := w) (base := base) (C := (clF [("Desk", cx_Desk)] cx_Desk) "Desk") F_Desk___init__ hm_Desk ⟨dm_Desk, df_Desk___init__, di_Desk___init__, dk_Desk⟩ CD_Desk NA_Desk_own_kind NA_Desk_states y_tuple M_check_kind M_check_lots M_closed_of
  have M_Desk_kind := f_Desk_kind (P := P) (w := w) (base := base) (mg := mg) (cl := (clF [("Desk", cx_Desk)] cx_Desk)) F_Desk_kind ⟨pa_Desk_kind, pg_Desk_kind, pt_Desk_kind, _, pc_Desk_kind⟩ CD_Desk NA_Desk_own_kind
  have M_Desk_lots := f_Desk_lots (P := P) (w := w) (base := base) (mg := mg) (cl := (clF [("Desk", cx_Desk)] cx_Desk)) F_Desk_lots ⟨pa_Desk_lots, pg_Desk_lots, pt_Desk_lots, _, pc_Desk_lots⟩ y_list CD_Desk NA_Desk_states
  have M_Desk_counts := f_Desk_counts (P := P) (w := w) (base := base) (mg := mg) (cl := (clF [("Desk", cx_Desk)] cx_Desk)) F_Desk_counts ⟨pa_Desk_counts, pg_Desk_counts, pt_Desk_counts, _, pc_Desk_counts⟩ CD_Desk NA_Desk_states M_counts_in
  have M_Desk_steps := f_Desk_steps (P := P) (w := w) (base := base) (mg := mg) (cl := (clF [("Desk", cx_Desk)] cx_Desk)) F_Desk_steps ⟨pa_Desk_steps, pg_Desk_steps, pt_Desk_steps, _, pc_Desk_steps⟩ y_len CD_Desk NA_Desk_states
  have M_Desk_add := f_Desk_add (P := P) (w := w) (base := base) (mg := mg) (cl := (clF [("Desk", cx_Desk)] cx_Desk)) F_Desk_add ⟨df_Desk_add, di_Desk_add, k_Desk_add⟩ y_tuple CD_Desk NA_Desk_own_kind NA_Desk_states M_in_order M_closed_of M_check_lot
  have M_Desk_take := f_Desk_take (P := P) (w := w) (base := base) (mg := mg) (cl := (clF [("Desk", cx_Desk)] cx_Desk)) F_Desk_take ⟨df_Desk_take, di_Desk_take, k_Desk_take⟩ y_tuple E_NotThere CD_Desk NA_Desk_states NA_Desk_own_kind M_closed_of M_check_lot
  have M_Desk_undo := f_Desk_undo (P := P) (w := w) (base := base) (mg := mg) (cl := (clF [("Desk", cx_Desk)] cx_Desk)) F_Desk_undo ⟨df_Desk_undo, di_Desk_undo, k_Desk_undo⟩ y_len CD_Desk NA_Desk_states
  have M_Desk_copy := f_Desk_copy (P := P) (w := w) (base := base) (mg := mg) (cl := (clF [("Desk", cx_Desk)] cx_Desk)) F_Desk_copy ⟨df_Desk_copy, di_Desk_copy, k_Desk_copy⟩ GX_Desk CD_Desk NA_Desk_own_kind NA_Desk_states
  have M_Desk___len__ := f_Desk___len__ (P := P) (w := w) (base := base) (mg := mg) (cl := (clF [("Desk", cx_Desk)] cx_Desk)) F_Desk___len__ df_Desk___len__ di_Desk___len__ y_len CD_Desk NA_Desk_states
  have M__law_draws := f__law_draws (P := P) (w := w) (base := base) F__law_draws (PySem.W.mg_of X G a__law_draws) y_list
  have M__law_pick := f__law_pick (P := P) (w := w) (base := base) F__law_pick (PySem.W.mg_of X G a__law_pick) y_int y_len
  have M__law_kind := f__law_kind (P := P) (w := w) (base := base) F__law_kind (PySem.W.mg_of X G a__law_kind) M__law_pick
  have M__law_taken := f__law_taken (P := P) (w := w) (base := base) F__law_taken (PySem.W.mg_of X G a__law_taken) y_range y_len
  have M__law_ordered := f__law_ordered (P := P) (w := w) (base := base) F__law_ordered (PySem.W.mg_of X G a__law_ordered) y_range y_sorted y_len
  have M__law_closed := f__law_closed (P := P) (w := w) (base := base) F__law_closed (PySem.W.mg_of X G a__law_closed) y_list y_range y_len M__law_ordered M__law_taken
  have M__law_counts := f__law_counts (P := P) (w := w) (base := base) F__law_counts (PySem.W.mg_of X G a__law_counts) y_tuple y_range y_max y_len
  have M__law_lot := f__law_lot (P := P) (w := w) (base := base) F__law_lot (PySem.W.mg_of X G a__law_lot) y_tuple y_sorted y_range M__law_pick
  have M__law_some := f__law_some (P := P) (w := w) (base := base) F__law_some (PySem.W.mg_of X G a__law_some) y_range M__law_pick M__law_lot
  have M__law_odd_lots := f__law_odd_lots (P := P) (w := w) (base := base) F__law_odd_lots (PySem.W.mg_of X G a__law_odd_lots) 
  have M__law_try := f__law_try (P := P) (w := w) (base := base) (cl := (clF [("Desk", cx_Desk)] cx_Desk)) F__law_try (PySem.W.mg_of X G a__law_try) y_isinstance hm_NotThere hm_BadLot XT M_Desk_add M_Desk_take CD_Desk
  have M__law_wrong := f__law_wrong (P := P) (w := w) (base := base) F__law_wrong (PySem.W.mg_of X G a__law_wrong) y_isinstance hm_BadLots hm_BadKind XT GX_Desk
  have M__law_stands := f__law_stands (P := P) (w := w) (base := base) (cl := (clF [("Desk", cx_Desk)] cx_Desk)) F__law_stands (PySem.W.mg_of X G a__law_stands) y_len M_Desk_steps M_Desk_counts M_Desk_lots M_Desk_kind M_Desk___len__ CD_Desk M__law_counts
  have M__law_of_copy := f__law_of_copy (P := P) (w := w) (base := base) (cl := (clF [("Desk", cx_Desk)] cx_Desk)) F__law_of_copy (PySem.W.mg_of X G a__law_of_copy) y_max y_len M__law_try M_Desk_undo M_Desk_copy CD_Desk M__law_stands
  exact f_law F_law L y_len y_range GX_Desk M__law_try M_Desk_undo M_Desk_copy CD_Desk M__law_closed M__law_stands M__law_wrong M__law_pick M__law_odd_lots M__law_of_copy M__law_lot M__law_some M__law_kind M__law_draws
end k14
end Mir

namespace Mir.k14
open PySem PySem.Spec PyProof.Rows L2 Mth
theorem ch_small {a k : Nat} (hk : k ≤ 17) (ha : a < 2 ^ 100) : ch a k < 2 ^ 1800 := by
  have h1 := ch_bound a k
  have h2 : (a + 1) ^ k ≤ (2 ^ 100) ^ k := Nat.pow_le_pow_left (by omega) k
  have h3 : (2 ^ 100) ^ k ≤ (2 ^ 100) ^ 17 := Nat.pow_le_pow_right (by decide) hk
  have h4 : (2 ^ 100) ^ 17 < 2 ^ 1800 := by rw [← Nat.pow_mul]; exact Nat.pow_lt_pow_right (by decide) (by decide)
  omega
/-- the product's loop, whatever stands around it -/
theorem prod_ok {a b : Nat} {x3 : Slot} {K : Fl → RS → Prop} {E : Exn → RS → Prop} {r : RS} (hb : b ≤ 16) (ha : a < 2 ^ 100) (hx : isOw (some x3) = false)
    (h : ∀ x, K (.nx [.sh (.int a), .sh (.int b), .sh (.int (ch a b)), x]) r) :
    wpM (loopF (gNm 3) (sSet 2 (eOp2 (gInt hDiv) (eOp2 gMul (eVar 2) (eOp2 (gInt hSub) (eVar 0) (eVar 3))) (eOp2 gAdd (eVar 3) (eC (.int 1))))) (rgL 0 1 ((b : Int)).toNat) [.sh (.int a), .sh (.int b), .sh (.int 1), x3] r) K E := by
  refine w_loop (fun j env r1 => j ≤ b ∧ r1 = r ∧ ∃ x, isOw (some x) = false ∧ env = [.sh (.int a), .sh (.int b), .sh (.int (ch a j)), x]) _ 0 _ _ ⟨Nat.zero_le _, rfl, x3, hx, by rw [ch_0]; rfl⟩ (fun j x env r1 hj hI => ?_) fun env r1 hI => ?_
  · obtain ⟨hj1, rfl⟩ := rgL_get hj
    obtain ⟨_, rfl, x, hx', rfl⟩ := hI
    have hjb : j < b := by simpa using hj1
    refine ⟨_, gNm_ok (Nat.le_of_ble_eq_true rfl) hx', ?_⟩
    show wpM (sSet 2 _ [.sh (.int a), .sh (.int b), .sh (.int (ch a (0 + j))), .sh (.int (0 + (j : Int) * 1))] r1) _ _
    rw [Nat.zero_add, Int.mul_one, Int.zero_add]
    walk_at "mr"
    have c1 := ch_small (k := j) (by omega) ha
    refine x_mul (sm (by omega) (by omega)) (sm (by omega) (by omega)) ?_
    walk_at "mr"
    refine x_div (by omega) (sm (by omega) (by omega)) ?_
    refine ⟨Nat.le_of_ble_eq_true rfl, by omega, rfl, .sh (.int j), rfl, ?_⟩
    show [Slot.sh (.int a), .sh (.int b), .sh (.int ((ch a j : Int) * ((a : Int) - j) / ((j : Int) + 1))), .sh (.int j)] = _
    have e : (ch a j : Int) * ((a : Int) - j) / ((j : Int) + 1) = (ch a (j + 1) : Nat) := by
      have h := ch_step a j
      have h' : (ch a j : Int) * ((a : Int) - j) = (ch a (j + 1) : Int) * ((j : Int) + 1) := by
        rcases Nat.lt_or_ge a j with hja | hja
        · rw [ch_lt hja, ch_lt (show a < j + 1 by omega)]; simp
        have h3 : ((ch a j * (a - j) : Nat) : Int) = ((ch a (j + 1) * (j + 1) : Nat) : Int) := by rw [h]
        rw [Int.natCast_mul, Int.natCast_mul, Int.natCast_sub hja] at h3
        exact h3
      rw [h', Int.mul_ediv_cancel _ (by omega)]
    rw [e]
  · obtain ⟨_, rfl, x, hx', rfl⟩ := hI
    have e : 0 + (rgL 0 1 ((b : Int)).toNat).length = b := by rw [rgL_len]; omega
    rw [e]
    exact h x
theorem choose_ok {a b : Nat} (hb : b ≤ 16) (ha : a < 2 ^ 100) : m_choose [.int a, .int b] = ret (.int (ch a b)) := pure_of fun r => by
  unfold m_choose
  with_reducible refine w_run ?_
  show wpM (b_choose [.sh (.int a), .sh (.int b), .no, .no] r) _ _
  unfold b_choose
  walk_at "mr"
  refine x_no (by omega) ?_
  walk_at "mr"
  refine x_br (fun h => ?_) fun h => ?_
  · walk_at "mr"
    show PV.int 0 = _ ∧ _
    rw [ch_lt (show a < b by omega)]
    exact ⟨rfl, rfl⟩
  · walk_at "mr"
    with_reducible refine w_rg1 ?_ ?_
    · exact okR_of (by omega) (by omega)
    refine prod_ok hb ha rfl fun x => ?_
    walk_at "mr"
    exact ⟨rfl, rfl⟩
end Mir.k14

namespace Mir.k14
open PySem PySem.Spec PyProof.Rows L2 Mth
end Mir.k14

namespace Mir.k14
open PySem PySem.Spec PyProof.Rows L2 Mth
end Mir.k14

namespace Mir.k14
open PySem PySem.Spec PyProof.Rows L2 Mth
def kindP (b : Bool) : PV := .str (if b = true then "bags" else "sets")
def bn (b : Bool) : Nat := if b = true then 1 else 0
theorem ints_map {α : Type} (f : α → Int) : ∀ l : List α, ints? (l.map fun x => PV.int (f x)) = some (l.map f)
  | [] => rfl
  | x :: l => by
    show (ints? (l.map fun x => PV.int (f x))).map (f x :: ·) = _
    rw [ints_map f l]; rfl
theorem sum_cast {α : Type} (f : α → Nat) : ∀ l : List α, (l.map fun x => ((f x : Nat) : Int)).sum = ((l.map f).sum : Nat)
  | [] => rfl
  | x :: l => by
    rw [List.map_cons, List.sum_cons, sum_cast f l, List.map_cons, List.sum_cons]; omega
theorem eq_kind (b : Bool) : pq 8 (kindP b) (.str "bags") = b := by cases b <;> decide +kernel
theorem dt_kind (b : Bool) : (dt 8 (kindP b) && dt 8 (.str "bags")) = true := by cases b <;> rfl
end Mir.k14

namespace Mir.k14
open PySem PySem.Spec PyProof.Rows L2 Mth
/-- the first size at which a row goes beyond its bound, from i on -/
def brkN (b : Bool) (cs : List Nat) : Nat → Nat → Option Nat
  | 0, _ => none
  | n + 1, i => if abv (bn b) (i - 1) (cs.getD (i - 1) 0) < cs.getD i 0 then some i else brkN b cs n (i + 1)
def brk (b : Bool) (cs : List Nat) : Option Nat := brkN b cs (cs.length - 2) 2
def row (cs : List Nat) : PV := .tup (cs.map fun (n : Nat) => PV.int n)
end Mir.k14

namespace Mir.k14
open PySem PySem.Spec PyProof.Rows L2 Mth
def okN (v : PV) (lo hi : Int) : Bool := match v with
  | .int n => decide (lo ≤ n) && decide (n ≤ hi)
  | _ => false
/-- a thing that isinstance may be asked about -/
def pln (v : PV) : Bool := match v with
  | .ty _ => false
  | .row => false
  | .exc _ _ => false
  | .at_ _ => false
  | .obj _ _ _ => false
  | _ => true
theorem is_from_ok {v : PV} {lo hi : Int} (hp : pln v = true) : m_is_from [v, .int lo, .int hi] = ret (.bl (okN v lo hi)) := pure_of fun r => by
  unfold m_is_from
  with_reducible refine w_run ?_
  show wpM (b_is_from [.sh v, .sh (.int lo), .sh (.int hi)] r) _ _
  unfold b_is_from
  cases v with
  | int n =>
    walk_at "mr"
    refine ⟨fun q => ?_, fun q => ?_⟩
    · walk_at "mr"
      refine ⟨?_, rfl⟩
      show _ = PV.bl (decide (lo ≤ n) && decide (n ≤ hi))
      rw [q]; rfl
    · refine ⟨?_, rfl⟩
      show _ = PV.bl (decide (lo ≤ n) && decide (n ≤ hi))
      rw [q]; rfl
  | bl n =>
    walk_at "mr"
    exact ⟨rfl, rfl⟩
  | ty _ => cases hp
  | row => cases hp
  | exc _ _ => cases hp
  | at_ _ => cases hp
  | obj _ _ _ => cases hp
  | _ =>
    walk_at "mr"
    exact ⟨rfl, rfl⟩
end Mir.k14

namespace Mir.k14
open PySem PySem.Spec PyProof.Rows L2 Mth
theorem pick_ok {n : Nat} (hn : 0 < n) (hn2 : n < 2 ^ 100) {r : RS} (hR : Rok r) {K : PV → RS → Prop} {E : Exn → RS → Prop} (h : ∀ (j : Nat) (r' : RS), j < n → Rok r' → K (.int j) r') : wpM (m__law_pick [.row, .int n] r) K E := by
  unfold m__law_pick
  with_reducible refine w_run ?_
  show wpM (b__law_pick [.sh .row, .sh (.int n), .no, .no] r) _ _
  unfold b__law_pick
  have sn : small (n : Int) = true := sm (by omega) (by omega)
  have np : (0 : Int) < n := by omega
  have fin : ∀ {v : Slot} (r1 : RS), Rok r1 → wpM ((sSeq (sIf (tB (eOp2 (gInt hGt) (eRow 0 2) (eC (.int 0)))) (sSeq (sSet 3 (eOp2 (gInt hMod) (eBi gToInt (aCons (eRow 0 2) (aNil))) (eVar 1))) (sSeq (sRow 0 2 (eOp2 (gInt hDiv) (eRow 0 2) (eVar 1))) (sRet (eVar 3)))) (sNext)) (sRet (eOp2 (gInt hMod) (eOp2 (gInt hMod) (eBi gToInt (aCons (eOp2 gMul (eRow 0 3) (eC (.int 16807))) (aNil))) (eC (.int 2147483629))) (eVar 1)))) [.sh .row, .sh (.int n), v, .no] r1) (fun fl r' => match fl with | .nx _ => K .non r' | .rt v => K v r' | _ => False) E := by
    intro v r1 h1
    obtain ⟨xs, i, b, s⟩ := r1
    walk_at "mr"
    refine x_br (fun q => ?_) fun q => ?_
    · walk_at "mr"
      refine x_mod np ?_
      walk_at "mr"
      refine x_div np sn ?_
      refine ⟨_, rfl, _, rfl, ?_⟩
      walk_at "mr"
      have e : b % (n : Int) = ((b % (n : Int)).toNat : Int) := (Int.toNat_of_nonneg (Int.emod_nonneg _ (by omega))).symm
      have l := Int.emod_lt_of_pos b np
      rw [e]
      exact h _ _ (by omega) ⟨h1.b, h1.s0, h1.s1⟩
    · have s0 : 0 ≤ s := h1.s0
      have s1 : s < 2147483647 := h1.s1
      walk_at "mr"
      refine x_mul (sm (a := s) (by omega) (by omega)) (by decide) ?_
      walk_at "mr"
      refine x_mod np ?_
      have e : ∀ c : Int, c % (n : Int) = ((c % (n : Int)).toNat : Int) := fun c => (Int.toNat_of_nonneg (Int.emod_nonneg _ (by omega))).symm
      have l := fun c => Int.emod_lt_of_pos c np
      rw [e]
      refine h _ _ ?_ h1
      show (s * 16807 % 2147483629 % (n : Int)).toNat < n
      have := l (s * 16807 % 2147483629)
      have := Int.emod_nonneg (s * 16807 % 2147483629) (show (n : Int) ≠ 0 by omega)
      omega
  obtain ⟨xs, i, b, s⟩ := r
  have s0 : 0 ≤ s := hR.s0
  have s1 : s < 2147483647 := hR.s1
  have mk : ∀ (i : Nat) (b s : Int), Rok ⟨xs, i, b, s % 2147483647⟩ := fun i b s => ⟨hR.b, Int.emod_nonneg _ (by decide), Int.emod_lt_of_pos _ (by decide)⟩
  with_reducible refine w_seq ?_
  refine wpM_mono (K := fun fl r' => ∃ v, fl = .nx [.sh .row, .sh (.int n), v, .no] ∧ Rok r') (E := fun _ _ => False) ?_ (fun fl r' ⟨v, e, h1⟩ => by subst e; exact fin r' h1) fun _ _ z => z.elim
  walk_at "mr"
  refine x_b (fun q => ?_) fun q => ?_
  · walk_at "mr"
    refine x_br (fun q2 => ?_) fun q2 => ?_
    · have q3 : i < xs.length := by
        have : (i : Int) < (xs.length : Int) := q2
        omega
      with_reducible refine w_seq ?_
      with_reducible refine w_set ?_
      with_reducible refine w_cell rfl (List.getElem?_eq_getElem q3) ?_
      have lg := hR.b _ (List.getElem_mem q3)
      generalize hz : xs[i] = z at *
      walk_at "mr"
      refine x_br (fun q4 => ?_) fun q4 => ?_
      · walk_at "mr"
        exact ⟨hR.b, s0, s1⟩
      · walk_at "mr"
        refine x_mul (sm (a := s) (by omega) (by omega)) (by decide) ?_
        walk_at "mr"
        refine x_mulX (by have : Nat.log2 (69621 : Int).natAbs = 16 := by decide
                          omega) ?_
        walk_at "mr"
        exact mk _ _ _
    · walk_at "mr"
      refine x_mul (sm (a := s) (by omega) (by omega)) (by decide) ?_
      walk_at "mr"
      exact mk _ _ _
  · walk_at "mr"
    exact hR
end Mir.k14

namespace Mir.k14
open PySem PySem.Spec PyProof.Rows L2 Mth
def bkE : Exn := ⟨"BadKind", []⟩
theorem kin_kind (b : Bool) : (k_KINDS.any fun y => y == (if b = true then ("bags" : Str) else ("sets" : Str))) = true := by cases b <;> decide +kernel
theorem kin_set : (k_KINDS.any fun y => y == ("set" : Str)) = false := by decide +kernel
theorem kind_ok (b : Bool) : m_check_kind [kindP b] = ret .non := pure_of fun r => by
  unfold m_check_kind
  with_reducible refine w_run ?_
  show wpM (b_check_kind [.sh (.str (if b = true then "bags" else "sets"))] r) _ _
  unfold b_check_kind
  walk_at "mr"
  rw [if_pos rfl, kin_kind b]
  walk_at "mr"
  exact ⟨rfl, rfl⟩
theorem kind_bad : m_check_kind [.str "set"] = raise bkE := ex_of fun r => by
  unfold m_check_kind
  with_reducible refine w_run ?_
  show wpM (b_check_kind [.sh (.str "set")] r) _ _
  unfold b_check_kind
  walk_at "mr"
  rw [if_pos rfl, kin_set]
  walk_at "mr"
  exact ⟨rfl, rfl⟩
end Mir.k14

namespace Mir.k14
open PySem PySem.Spec PyProof.Rows L2 Mth
theorem kindL_ok {r : RS} (hR : Rok r) {K : PV → RS → Prop} {E : Exn → RS → Prop} (h : ∀ (b : Bool) (r' : RS), Rok r' → K (kindP b) r') : wpM (m__law_kind [.row] r) K E := by
  unfold m__law_kind
  with_reducible refine w_run ?_
  show wpM (b__law_kind [.sh .row] r) _ _
  unfold b__law_kind
  walk_at "mr"
  refine pick_ok (n := 2) (by decide) (by decide) hR fun j r1 hj h1 => ?_
  match j, hj with
  | 0, _ => exact ⟨_, rfl, h false r1 h1⟩
  | 1, _ => exact ⟨_, rfl, h true r1 h1⟩
/-- a row of counts as it is drawn: counts up to a million, the first is one -/
structure Rw0 (cs : List Nat) : Prop where
  l1 : 1 ≤ cs.length
  l9 : cs.length ≤ 9
  h0 : cs.getD 0 0 = 1
  hc : ∀ c ∈ cs, c ≤ 1000000
end Mir.k14

namespace Mir.k14
open PySem PySem.Spec PyProof.Rows L2 Mth
end Mir.k14

namespace Mir.k14
open PySem PySem.Spec PyProof.Rows L2 Mth
theorem gMul_int {a b : Int} (ha : small a = true) (hb : small b = true) : gMul (.int a) (.int b) = some (.int (a * b)) := by
  obtain ⟨z, h, rfl⟩ := x_mul (Q := fun z => z = PV.int (a * b)) ha hb rfl
  exact h
theorem bnle (b : Bool) : bn b ≤ 1 := by cases b <;> decide
end Mir.k14

namespace Mir.k14
open PySem PySem.Spec PyProof.Rows L2 Mth
theorem pqL_ints : ∀ (a c : List Int) (n : Nat), pqL (pq n) (a.map PV.int) (c.map PV.int) = decide (a = c)
  | [], [], n => rfl
  | [], _ :: _, n => rfl
  | _ :: _, [], n => rfl
  | x :: a, y :: c, n => by
    show (pq n (.int x) (.int y) && pqL (pq n) (a.map PV.int) (c.map PV.int)) = _
    rw [pqL_ints a c n]
    have : pq n (.int x) (.int y) = decide (x = y) := by
      have : (x == y) = decide (x = y) := rfl
      cases n <;> exact this
    rw [this, ← Bool.decide_and]
    exact decide_eq_decide.mpr (by rw [List.cons_eq_cons])
theorem dt_ints (n : Nat) (a : List Int) : dt (n + 1) (.lst (a.map PV.int)) = true := by
  show (a.map PV.int).all (dt n) = true
  rw [List.all_map, List.all_eq_true]
  intro x _
  cases n <;> rfl
theorem ne_ints (a c : List Int) : gNe (.lst (a.map PV.int)) (.lst (c.map PV.int)) = some (.bl (!decide (a = c))) := by
  unfold gNe
  rw [dt_ints 7, dt_ints 7]
  show some (PV.bl (!pqL (pq 7) (a.map PV.int) (c.map PV.int))) = _
  rw [pqL_ints]
def zz (cs : List Nat) : List Int := cs.map fun (n : Nat) => (n : Int)
theorem row_zz (cs : List Nat) : row cs = .tup ((zz cs).map PV.int) := by
  unfold zz
  rw [List.map_map]; rfl
theorem zz_len (cs : List Nat) : (zz cs).length = cs.length := List.length_map _
theorem isort_id {l : List Int} : isort leI l = l ↔ l.Pairwise (· ≤ ·) := by
  constructor
  · intro h
    have := isort_sorted leI_total l
    rw [h] at this
    exact this.imp fun z => of_decide_eq_true z
  · intro h
    exact sorted_same leI_anti (isort_perm leI_total l) (isort_sorted leI_total l) (h.imp fun z => decide_eq_true z)
theorem nd_id {l : List Int} : (nd l).length = l.length ↔ l.Nodup := by
  constructor
  · intro h
    induction l with
    | nil => exact List.Pairwise.nil
    | cons a l ih =>
      have le := nd_len l
      by_cases q : a ∈ l
      · have e : (nd (a :: l)).length = (nd l).length := by
          have p : (nd (a :: l)).Perm (nd l) := perm_same (nd_nodup _) (nd_nodup _) fun x => by
            rw [nd_mem, nd_mem]
            exact ⟨fun z => by rcases List.mem_cons.mp z with rfl | z; · exact q
                               · exact z, fun z => List.mem_cons_of_mem _ z⟩
          exact p.length_eq
        rw [e, List.length_cons] at h
        omega
      · have e : (nd (a :: l)).length = (nd l).length + 1 := by
          have p : (nd (a :: l)).Perm (a :: nd l) := perm_same (nd_nodup _) (List.nodup_cons.mpr ⟨fun z => q (nd_mem.mp z), nd_nodup _⟩) fun x => by
            rw [nd_mem, List.mem_cons, List.mem_cons, nd_mem]
          exact p.length_eq
        rw [e, List.length_cons] at h
        exact List.nodup_cons.mpr ⟨q, ih (by omega)⟩
  · intro h
    exact (perm_same (nd_nodup l) h fun x => nd_mem).length_eq
theorem asc_zz {b : Bool} {cs : List Nat} : Asc (bn b) cs ↔ (zz cs).Pairwise (· ≤ ·) ∧ (b = true ∨ (zz cs).Nodup) := by
  unfold zz
  rw [List.pairwise_map, show ((cs.map fun (n : Nat) => (n : Int)).Nodup ↔ cs.Pairwise fun (a b : Nat) => (a : Int) ≠ (b : Int)) from List.pairwise_map]
  cases b with
  | true =>
    constructor
    · intro h
      exact ⟨h.imp fun z => by have : _ + 0 ≤ _ := z; omega, .inl rfl⟩
    · rintro ⟨h, _⟩
      exact h.imp fun z => by show _ + 0 ≤ _; omega
  | false =>
    constructor
    · intro h
      exact ⟨h.imp fun z => by have : _ + 1 ≤ _ := z; omega, .inr (h.imp fun z => by have : _ + 1 ≤ _ := z; omega)⟩
    · rintro ⟨h, h2⟩
      rcases h2 with h2 | h2
      · cases h2
      · exact (h.and h2).imp fun z => by show _ + 1 ≤ _; have := z.1; have := z.2; omega
theorem eqB (b : Bool) : gEq (kindP b) (.str "bags") = some (.bl b) := by
  unfold gEq
  rw [dt_kind b, eq_kind b]; rfl
theorem gAllN {xs : List PV} (h : ∃ v ∈ xs, okN v 0 1000000 = false) : xs.all (fun v => okN v 0 1000000) = false := by
  obtain ⟨v, h1, h2⟩ := h
  rw [List.all_eq_false]
  exact ⟨v, h1, by rw [h2]; decide⟩
/-- no lot: no tuple, a long one, or one with no thing -/
def noLot (v : PV) : Prop := match v with
  | .tup xs => xs.all pln = true ∧ (8 < xs.length ∨ (xs.length ≤ 8 ∧ ∃ v ∈ xs, okN v 0 1000000 = false))
  | v => pln v = true
theorem is_lot_no {b : Bool} {v : PV} (h : noLot v) : m_is_lot [kindP b, v] = ret (.bl false) := pure_of fun r => by
  unfold m_is_lot
  with_reducible refine w_run ?_
  show wpM (b_is_lot [.sh (kindP b), .sh v, .no] r) _ _
  unfold b_is_lot
  cases v with
  | tup xs =>
    obtain ⟨hp, h⟩ := h
    walk_at "mr"
    refine x_br (fun q => ?_) fun q => ?_
    · walk_at "mr"
      exact ⟨rfl, rfl⟩
    · have q' : ¬ (xs.length : Int) > 8 := q
      rcases h with h | ⟨h8, h⟩
      · omega
      have ga := gAll_map (fun v => okN v 0 1000000) xs
      rw [gAllN h] at ga
      walk_at "mr"
      refine ⟨⟨by omega, rfl⟩, ?_⟩
      have em : xs = xs.map fun v => v := (List.map_id' xs).symm
      have lc : ∀ {K : List PV → RS → Prop} {E : Exn → RS → Prop} {e0 : Env}, e0 = [.sh (kindP b), .sh (.tup xs), .no] → K (xs.map fun v => .bl (okN v 0 1000000)) r → wpM (lcF (gNm 2) bYes (eCall 3 m_is_from (aCons (eVar 2) (aCons (eC (.int 0)) (aCons (eC g_MOST_THING) (aNil))))) xs e0 r) K E := by
        intro K E e0 he k
        subst he
        have := w_lcM (t := gNm 2) (fe := eCall 3 m_is_from (aCons (eVar 2) (aCons (eC (.int 0)) (aCons (eC g_MOST_THING) (aNil))))) (env := [.sh (kindP b), .sh (.tup xs), .no]) (K := K) (E := E) (fun v => v) (fun v => .bl (okN v 0 1000000)) xs r (fun v hv => by
          refine ⟨[.sh (kindP b), .sh (.tup xs), .sh v], rfl, fun r4 => ?_⟩
          have pk : m_is_from [v, .int 0, g_MOST_THING] = ret (.bl (okN v 0 1000000)) := is_from_ok (List.all_eq_true.mp hp v hv)
          walk_at "mr"
          exact ⟨rfl, rfl⟩) k
        rw [← em] at this
        exact this
      with_reducible refine lc ?_ ?_
      · rfl
      walk_at "mr"
      exact ⟨rfl, rfl⟩
  | ty _ => cases h
  | row => cases h
  | exc _ _ => cases h
  | at_ _ => cases h
  | obj _ _ _ => cases h
  | _ =>
    walk_at "mr"
    exact ⟨rfl, rfl⟩
theorem is_lot_row {b : Bool} {cs : List Nat} (hl : cs.length ≤ 8) (hc : ∀ c ∈ cs, c ≤ 1000000) : m_is_lot [kindP b, row cs] = ret (.bl (decide (Asc (bn b) cs))) := pure_of fun r => by
  unfold m_is_lot
  with_reducible refine w_run ?_
  show wpM (b_is_lot [.sh (kindP b), .sh (row cs), .no] r) _ _
  unfold b_is_lot
  have gl : gLen [row cs] = some (.int (cs.length : Nat)) := by
    show some (PV.int (((cs.map fun (n : Nat) => PV.int n).length : Nat) : Int)) = _
    rw [List.length_map]
  have g1 : gInt hGt (.int (cs.length : Nat)) g_MOST_SIZE = some (.bl false) := by
    show some (PV.bl (decide ((cs.length : Int) > 8))) = _
    rw [decide_eq_false (by omega)]
  have tl : gToL [row cs] = some (.lst ((zz cs).map PV.int)) := by rw [row_zz]; rfl
  have so : gSorted [row cs] = some (.lst ((isort leI (zz cs)).map PV.int)) := by rw [row_zz]; exact sorted_intsT _
  have ne := ne_ints (zz cs) (isort leI (zz cs))
  have ls : gLenS (row cs) = some (.int (nd (zz cs)).length) := by
    have e : seqI (row cs) = some (zz cs) := by
      rw [row_zz]
      show ints? ((zz cs).map fun n => PV.int n) = _
      rw [ints_map, List.map_id']
    show (seqI (row cs)).bind _ = _
    rw [e]
    exact if_pos (by rw [zz_len]; omega)
  have ga := gAll_map (fun c : Nat => true) cs
  have ga : gAll [.lst (cs.map fun c => PV.bl true)] = some (.bl true) := by
    rw [ga, List.all_eq_true.mpr fun _ _ => rfl]
  have eb : gEq (kindP b) g_BAGS = some (.bl b) := eqB b
  walk_at "mr"
  refine ⟨⟨by rw [List.length_map]; omega, rfl⟩, ?_⟩
  refine w_lcM (fun (n : Nat) => PV.int n) (fun c => .bl true) cs _ (fun c hm => ?_) ?_
  · refine ⟨_, rfl, fun r4 => ?_⟩
    have pk : m_is_from [.int (c : Nat), .int 0, g_MOST_THING] = ret (.bl true) := by
      have e : m_is_from [.int (c : Nat), .int 0, .int 1000000] = _ := is_from_ok (lo := 0) (hi := 1000000) rfl
      have := hc c hm
      have o : okN (.int (c : Nat)) 0 1000000 = true := by
        show (decide ((0 : Int) ≤ c) && decide ((c : Int) ≤ 1000000)) = true
        rw [decide_eq_true (by omega), decide_eq_true (by omega)]; rfl
      rw [o] at e
      exact e
    walk_at "mr"
    exact ⟨rfl, rfl⟩
  by_cases q : (zz cs).Pairwise (· ≤ ·)
  · rw [isort_id.mpr q, decide_eq_true rfl] at ne
    rw [isort_id.mpr q] at so
    walk_at "mr"
    have le : gEq (.int ((nd (zz cs)).length : Nat)) (.int (cs.length : Nat)) = some (.bl (decide (zz cs).Nodup)) := by
      have : (((nd (zz cs)).length : Int) == (cs.length : Int)) = decide (zz cs).Nodup := by
        have : (((nd (zz cs)).length : Int) == (cs.length : Int)) = decide (((nd (zz cs)).length : Int) = (cs.length : Int)) := rfl
        rw [this]
        refine decide_eq_decide.mpr ?_
        rw [← nd_id, zz_len]
        omega
      show some (PV.bl (((nd (zz cs)).length : Int) == (cs.length : Int))) = _
      rw [this]
    cases b with
    | true =>
      rw [decide_eq_true (asc_zz.mpr ⟨q, .inl rfl⟩)]
      walk_at "mr"
      exact ⟨rfl, rfl⟩
    | false =>
      have ed : decide (Asc (bn false) cs) = decide (zz cs).Nodup := by
        refine decide_eq_decide.mpr ?_
        rw [asc_zz]
        exact ⟨fun z => by rcases z.2 with z | z; · cases z
                           · exact z, fun z => ⟨q, .inr z⟩⟩
      rw [ed]
      walk_at "mr"
      exact ⟨rfl, rfl⟩
  · have nq : isort leI (zz cs) ≠ zz cs := fun z => q (isort_id.mp z)
    rw [decide_eq_false fun z => nq z.symm] at ne
    rw [decide_eq_false fun z => q (asc_zz.mp z).1]
    walk_at "mr"
    exact ⟨rfl, rfl⟩
end Mir.k14

namespace Mir.k14
open PySem PySem.Spec PyProof.Rows L2 Mth
def enP (p : Nat × Nat) : PV := .tup [.int (p.2 : Nat), .int (p.1 : Nat)]
theorem enL_row : ∀ (cs : List Nat) (i : Nat), enL i (cs.map fun (n : Nat) => PV.int n) = (cs.zipIdx i).map enP
  | [], _ => rfl
  | c :: cs, i => by
    show PV.tup [.int i, .int c] :: enL (i + 1) (cs.map fun (n : Nat) => PV.int n) = _
    rw [enL_row cs (i + 1)]; rfl
theorem plA_zip (m : Nat) : ∀ (cs : List Nat) (i : Nat), ((cs.zipIdx i).map fun p => ch (p.1 + m * p.2) (p.2 + 1)).sum = plA m i cs
  | [], _ => rfl
  | c :: cs, i => by
    show ch (c + m * i) (i + 1) + ((cs.zipIdx (i + 1)).map fun p => ch (p.1 + m * p.2) (p.2 + 1)).sum = _
    rw [plA_zip m cs (i + 1)]; rfl
theorem zipIdx_mem {cs : List Nat} {p : Nat × Nat} {i : Nat} (h : p ∈ cs.zipIdx i) : p.1 ∈ cs ∧ p.2 < i + cs.length := by
  obtain ⟨a, b⟩ := p
  obtain ⟨h1, h2, h3⟩ := List.mem_zipIdx h
  exact ⟨by rw [h3]; exact List.getElem_mem _, by show b < _; omega⟩
theorem sum_natG {α : Type} (f : α → Nat) (l : List α) : gSum [.lst (l.map fun p => PV.int ((f p : Nat) : Int))] = some (.int ((l.map f).sum : Nat)) := by
  show (ints? (l.map fun p => PV.int ((f p : Nat) : Int))).map _ = _
  rw [ints_map, Option.map_some, sum_cast]
theorem place_lc {m : Nat} (hm : m ≤ 1) {cs : List Nat} (hl : cs.length ≤ 15) (hc : ∀ c ∈ cs, c < 2 ^ 60) {kd v : PV} {r : RS} {K : List PV → RS → Prop} {E : Exn → RS → Prop} (h : K ((cs.zipIdx 0).map fun p => PV.int ((ch (p.1 + m * p.2) (p.2 + 1) : Nat) : Int)) r) :
    wpM (lcF (gTupl 2 (gsCons (gNm 3) (gsCons (gNm 4) (gsNil)))) bYes (eCall 2 m_choose (aCons (eOp2 gAdd (eVar 4) (eOp2 gMul (eVar 2) (eVar 3))) (aCons (eOp2 gAdd (eVar 3) (eC (.int 1))) (aNil)))) (enL 0 (cs.map fun (n : Nat) => PV.int n)) [.sh kd, .sh v, .sh (.int (m : Nat)), .no, .no] r) K E := by
  rw [enL_row]
  refine w_lcM enP (fun p => PV.int ((ch (p.1 + m * p.2) (p.2 + 1) : Nat) : Int)) _ _ (fun p hp => ?_) h
  obtain ⟨h1, h2⟩ := zipIdx_mem hp
  have hcp := hc _ h1
  have mj : m * p.2 ≤ 1 * p.2 := Nat.mul_le_mul_right _ hm
  have em : (m : Int) * (p.2 : Int) = ((m * p.2 : Nat) : Int) := (Int.natCast_mul m p.2).symm
  have gm := gMul_int (a := (m : Int)) (b := (p.2 : Int)) (sm (by omega) (by omega)) (sm (by omega) (by omega))
  rw [em] at gm
  have e1 : (p.1 : Int) + ((m * p.2 : Nat) : Int) = ((p.1 + m * p.2 : Nat) : Int) := by omega
  have e2 : (p.2 : Int) + 1 = ((p.2 + 1 : Nat) : Int) := by omega
  have pk := choose_ok (a := p.1 + m * p.2) (b := p.2 + 1) (by omega) (by omega)
  refine ⟨[.sh kd, .sh v, .sh (.int (m : Nat)), .sh (.int (p.2 : Nat)), .sh (.int (p.1 : Nat))], rfl, fun r1 => ?_⟩
  walk_at "mr"
  rw [e1, e2]
  walk_at "mr"
  exact ⟨rfl, rfl⟩
theorem place_ok {b : Bool} {cs : List Nat} (hl : cs.length ≤ 15) (hc : ∀ c ∈ cs, c < 2 ^ 60) : m_place_of [kindP b, row cs] = ret (.int (plA (bn b) 0 cs : Nat)) := pure_of fun r => by
  unfold m_place_of
  with_reducible refine w_run ?_
  show wpM (b_place_of [.sh (kindP b), .sh (row cs), .no, .no, .no] r) _ _
  unfold b_place_of
  have eb : gEq (kindP b) g_BAGS = some (.bl b) := eqB b
  have s := sum_natG (fun p : Nat × Nat => ch (p.1 + bn b * p.2) (p.2 + 1)) (cs.zipIdx 0)
  rw [plA_zip] at s
  have sz : (enL 0 (cs.map fun (n : Nat) => PV.int n)).length ≤ 16777216 := by rw [enL_len, List.length_map]; omega
  walk_at "mr"
  cases b with
  | true =>
    walk_at "mr"
    refine ⟨⟨sz, rfl⟩, ?_⟩
    refine place_lc (m := 1) (by decide) hl hc ?_
    have s' : gSum [.lst ((cs.zipIdx 0).map fun p => PV.int ((ch (p.1 + 1 * p.2) (p.2 + 1) : Nat) : Int))] = some (.int (plA (bn true) 0 cs : Nat)) := s
    walk_at "mr"
    exact ⟨rfl, rfl⟩
  | false =>
    walk_at "mr"
    refine ⟨⟨sz, rfl⟩, ?_⟩
    refine place_lc (m := 0) (by decide) hl hc ?_
    have s' : gSum [.lst ((cs.zipIdx 0).map fun p => PV.int ((ch (p.1 + 0 * p.2) (p.2 + 1) : Nat) : Int))] = some (.int (plA (bn false) 0 cs : Nat)) := s
    walk_at "mr"
    exact ⟨rfl, rfl⟩
def blE : Exn := ⟨"BadLot", []⟩
end Mir.k14

namespace Mir.k14
open PySem PySem.Spec PyProof.Rows L2 Mth
theorem dt_rw (n : Nat) (a : List Nat) : dt (n + 1) (row a) = true := by
  show (a.map fun (n : Nat) => PV.int n).all (dt n) = true
  rw [List.all_map, List.all_eq_true]
  intro x _
  cases n <;> rfl
theorem insP_permU {α : Type} (le : α → α → Bool) (a : α) : ∀ l : List α, (insP le a l).Perm (a :: l)
  | [] => List.Perm.refl _
  | b :: r => by
    show (if le a b = true then a :: b :: r else b :: insP le a r).Perm _
    split
    · exact List.Perm.refl _
    · exact ((insP_permU le a r).cons b).trans (List.Perm.swap a b r)
theorem isort_permU {α : Type} (le : α → α → Bool) : ∀ l : List α, (isort le l).Perm l
  | [] => List.Perm.refl _
  | a :: r => (insP_permU le a _).trans ((isort_permU le r).cons a)
theorem gl_rw (cs : List Nat) : gLen [row cs] = some (.int (cs.length : Nat)) := by
  show some (PV.int (((cs.map fun (n : Nat) => PV.int n).length : Nat) : Int)) = _
  rw [List.length_map]
/-- a lot with its size and its place -/
def tri (b : Bool) (cs : List Nat) : PV := .tup [.int (cs.length : Nat), .int (plA (bn b) 0 cs : Nat), row cs]
theorem tD_rwU (cs : List Nat) (n : Nat) : tD (n + 1) (row cs) = .tuple ((cs.map fun (n : Nat) => (n : Int)).map PyData.int) := by
  show PyData.tuple ((cs.map fun (n : Nat) => PV.int n).map (tD n)) = _
  rw [List.map_map, List.map_map]
  refine congrArg _ (List.map_congr_left fun c _ => ?_)
  cases n <;> rfl
theorem tD_tri (b : Bool) (cs : List Nat) : tD 8 (tri b cs) = .tuple [.int (cs.length : Nat), .int (plA (bn b) 0 cs : Nat), .tuple ((cs.map fun (n : Nat) => (n : Int)).map PyData.int)] := by
  show PyData.tuple [.int (cs.length : Nat), .int (plA (bn b) 0 cs : Nat), tD 7 (row cs)] = _
  rw [tD_rwU]
theorem srtOk_tri (b : Bool) (ls : List (List Nat)) : srtOk (ls.map (tri b)) = true := by
  unfold srtOk
  rw [all_all (p := dt 8), all_all (p := fun x => _), all_all (p := isTupP), Bool.true_or]; rfl
  · intro x hx; obtain ⟨_, _, rfl⟩ := List.mem_map.mp hx; rfl
  · intro x hx
    obtain ⟨_, _, rfl⟩ := List.mem_map.mp hx
    refine all_all fun y hy => ?_
    obtain ⟨_, _, rfl⟩ := List.mem_map.mp hy
    rw [tD_tri, tD_tri]
    simp only [PySem.W.alike, PySem.W.alikeAll, alike_ints, Bool.and_true, Bool.true_and]
  · intro x hx
    obtain ⟨a, _, rfl⟩ := List.mem_map.mp hx
    show (dt 7 (.int (a.length : Nat)) && (dt 7 (.int (plA (bn b) 0 a : Nat)) && (dt 7 (row a) && true))) = true
    rw [dt_rw 6]; rfl
def ordT (b : Bool) (ls : List (List Nat)) : List (List Nat) := isort (fun a c => leP (tri b a) (tri b c)) ls
theorem sorted_tri (b : Bool) (ls : List (List Nat)) : gSorted [.lst (ls.map (tri b))] = some (.lst ((ordT b ls).map (tri b))) := by
  show (if srtOk (ls.map (tri b)) = true then some (PV.lst (isort leP (ls.map (tri b)))) else none) = _
  rw [if_pos (srtOk_tri b ls), isort_map (le' := fun a c => leP (tri b a) (tri b c)) fun _ _ => rfl]; rfl
theorem ordT_perm (b : Bool) (ls : List (List Nat)) : (ordT b ls).Perm ls := isort_permU _ ls
theorem in_order_ok {b : Bool} {ls : List (List Nat)} (hl : ls.length ≤ 100000) (h : ∀ cs ∈ ls, cs.length ≤ 15 ∧ ∀ c ∈ cs, c < 2 ^ 60) : m_in_order [kindP b, .lst (ls.map row)] = ret (.lst ((ordT b ls).map row)) := pure_of fun r => by
  unfold m_in_order
  with_reducible refine w_run ?_
  show wpM (b_in_order [.sh (kindP b), .sh (.lst (ls.map row)), .no, .no, .no, .no] r) _ _
  unfold b_in_order
  have so := sorted_tri b ls
  have lo := (ordT_perm b ls).length_eq
  walk_at "mr"
  refine ⟨⟨by rw [List.length_map]; omega, rfl⟩, ?_⟩
  refine w_lcM row (tri b) ls _ (fun cs hc => ?_) ?_
  · refine ⟨_, rfl, fun r4 => ?_⟩
    have p1 := place_ok (b := b) (h cs hc).1 (h cs hc).2
    have p2 := gl_rw cs
    walk_at "mr"
    exact ⟨rfl, rfl⟩
  walk_at "mr"
  refine ⟨⟨by rw [List.length_map]; omega, rfl⟩, ?_⟩
  refine w_lcM (tri b) row (ordT b ls) _ (fun cs hc => ?_) ?_
  · refine ⟨_, rfl, fun r4 => ?_⟩
    walk_at "mr"
    exact ⟨rfl, rfl⟩
  exact ⟨rfl, rfl⟩
end Mir.k14

namespace Mir.k14
open PySem PySem.Spec PyProof.Rows L2 Mth
/-- a comprehension whose things draw -/
theorem w_lcP {t : TP} {fe : EF} {env : Env} {K : List PV → RS → Prop} {E : Exn → RS → Prop} (P : PV → Prop) (I : RS → Prop) : ∀ (xs : List PV) (r : RS), I r →
    (∀ x ∈ xs, ∃ e1, t x env = some e1 ∧ ∀ r, I r → wpM (fe e1 r) (fun y r1 => P y ∧ I r1) (fun _ _ => False)) →
    (∀ ys r1, ys.length = xs.length → (∀ y ∈ ys, P y) → I r1 → K ys r1) → wpM (lcF t bYes fe xs env r) K E
  | [], r, hr, _, k => k [] r rfl (fun y hy => by cases hy) hr
  | x :: xs, r, hr, h, k => by
    obtain ⟨e1, h1, h2⟩ := h x List.mem_cons_self
    unfold lcF
    refine w_bnd (w_ofO ⟨e1, h1, w_bnd (w_noex (show wpM (bYes e1 r) (fun b r1 => b = true ∧ r1 = r) (fun _ _ => False) from ⟨rfl, rfl⟩) |> fun z => wpM_mono z (fun b r1 ⟨hb, hr1⟩ => ?_) fun _ _ z => z)⟩)
    subst hb hr1
    refine w_bnd (w_noex (wpM_mono (h2 r1 hr) (fun y r2 ⟨hy, hi⟩ => ?_) fun _ _ z => z))
    refine w_bnd (w_lcP P I xs r2 hi (fun z hz => h z (List.mem_cons_of_mem _ hz)) fun ys r3 a b c => ?_)
    exact k (y :: ys) r3 (by rw [List.length_cons, List.length_cons, a]) (fun z hz => by
      rcases List.mem_cons.mp hz with rfl | hz
      · exact hy
      · exact b z hz) c
def oddsL : PV := .lst [.non, .int 5, .lst [.int 0, .int 1], .tup [.int 1, .int 0], .tup [.int (-1)], .tup [.bl true], .tup [.int 1000001], .tup [.str "0"], .tup (List.replicate (Int.toNat 9) [PV.int 0]).flatten, .tup [.non], .str "01", .dic [] [], .tup [.int 0, .tup [.int 1]]]
theorem odds_ok {b : Bool} : m__law_odd_lots [kindP b] = ret oddsL := pure_of fun r => by
  unfold m__law_odd_lots
  with_reducible refine w_run ?_
  show wpM (b__law_odd_lots [.sh (kindP b)] r) _ _
  unfold b__law_odd_lots
  walk_at "mr"
  exact ⟨rfl, rfl⟩
theorem no_10 (b : Bool) : decide (Asc (bn b) [1, 0]) = false := by cases b <;> decide
theorem odd13 {b : Bool} {j : Nat} (h : j < 13) : ∃ w, ixP oddsL (.int (j : Nat)) = some w ∧ m_is_lot [kindP b, w] = ret (.bl false) := by
  match j, h with
  | 0, _ => exact ⟨_, rfl, is_lot_no rfl⟩
  | 1, _ => exact ⟨_, rfl, is_lot_no rfl⟩
  | 2, _ => exact ⟨_, rfl, is_lot_no rfl⟩
  | 3, _ =>
    refine ⟨_, rfl, ?_⟩
    have := is_lot_row (b := b) (cs := [1, 0]) (by decide) (by decide)
    rw [no_10 b] at this
    exact this
  | 4, _ => exact ⟨_, rfl, is_lot_no ⟨rfl, .inr ⟨by decide, _, List.mem_cons_self, rfl⟩⟩⟩
  | 5, _ => exact ⟨_, rfl, is_lot_no ⟨rfl, .inr ⟨by decide, _, List.mem_cons_self, rfl⟩⟩⟩
  | 6, _ => exact ⟨_, rfl, is_lot_no ⟨rfl, .inr ⟨by decide, _, List.mem_cons_self, rfl⟩⟩⟩
  | 7, _ => exact ⟨_, rfl, is_lot_no ⟨rfl, .inr ⟨by decide, _, List.mem_cons_self, rfl⟩⟩⟩
  | 8, _ => exact ⟨_, rfl, is_lot_no ⟨rfl, .inl (by decide)⟩⟩
  | 9, _ => exact ⟨_, rfl, is_lot_no ⟨rfl, .inr ⟨by decide, _, List.mem_cons_self, rfl⟩⟩⟩
  | 10, _ => exact ⟨_, rfl, is_lot_no rfl⟩
  | 11, _ => exact ⟨_, rfl, is_lot_no rfl⟩
  | 12, _ => exact ⟨_, rfl, is_lot_no ⟨rfl, .inr ⟨by decide, _, List.mem_cons_of_mem _ List.mem_cons_self, rfl⟩⟩⟩
theorem dt_rows (n : Nat) (l : List (List Nat)) : dt (n + 2) (.lst (l.map row)) = true := by
  show (l.map row).all (dt (n + 1)) = true
  rw [List.all_map, List.all_eq_true]
  intro x _
  exact dt_rw n x
end Mir.k14

namespace Mir.k14
open PySem PySem.Spec PyProof.Rows L2 Mth
theorem nin_row (x : Nat) (f : List Nat) : gNin (.int (x : Nat)) (row f) = some (.bl (!f.any fun y => Nat.beq y x)) := by
  have h : gNinT (.int (x : Nat)) (row f) = some (.bl (!f.any fun y => Nat.beq y x)) := by
    show (if (flP (.int (x : Nat)) && (f.map fun (n : Nat) => PV.int n).all flP) = true then some (PV.bl (!(f.map fun (n : Nat) => PV.int n).any fun y => pq 7 y (.int (x : Nat)))) else none) = _
    have d : (flP (.int (x : Nat)) && (f.map fun (n : Nat) => PV.int n).all flP) = true := by
      rw [show (f.map fun (n : Nat) => PV.int n).all flP = true from by
        rw [List.all_map, List.all_eq_true]; intro y _; rfl]; rfl
    rw [if_pos d, List.any_map]
    refine congrArg some (congrArg PV.bl (congrArg (fun p => !f.any p) (funext fun y => ?_)))
    show ((y : Int) == (x : Int)) = Nat.beq y x
    rw [Bool.eq_iff_iff, beq_iff_eq, Nat.beq_eq]
    omega
  unfold gNin gOr
  rw [h]
theorem pqL_rw : ∀ (a c : List Nat) (n : Nat), pqL (pq n) (a.map fun (n : Nat) => PV.int n) (c.map fun (n : Nat) => PV.int n) = decide (a = c)
  | [], [], n => rfl
  | [], _ :: _, n => rfl
  | _ :: _, [], n => rfl
  | x :: a, y :: c, n => by
    show (pq n (.int (x : Int)) (.int (y : Int)) && pqL (pq n) _ _) = _
    rw [pqL_rw a c n]
    have : pq n (.int (x : Int)) (.int (y : Int)) = decide (x = y) := by
      have : ((x : Int) == (y : Int)) = decide (x = y) := by
        by_cases h : x = y
        · subst h; simp
        · rw [decide_eq_false h]
          exact beq_eq_false_iff_ne.mpr (by omega)
      cases n <;> exact this
    rw [this, ← Bool.decide_and]
    exact decide_eq_decide.mpr (by rw [List.cons_eq_cons])
theorem pq_rw (n : Nat) (a c : List Nat) : pq (n + 1) (row a) (row c) = decide (a = c) := pqL_rw a c n
theorem in_rows (a : List Nat) (l : List (List Nat)) : gIn (row a) (.lst (l.map row)) = some (.bl (l.any fun c => decide (c = a))) := by
  have h1 : gInT (row a) (.lst (l.map row)) = none := rfl
  have h2 : gInL (row a) (.lst (l.map row)) = some (.bl (l.any fun c => decide (c = a))) := by
    show (if (dt 7 (row a) && (l.map row).all (dt 7)) = true then some (PV.bl ((l.map row).any fun y => pq 7 y (row a))) else none) = _
    have d : (l.map row).all (dt 7) = true := by
      rw [List.all_map, List.all_eq_true]
      intro x _
      exact dt_rw 6 x
    rw [dt_rw 6, d, List.any_map]
    exact congrArg some (congrArg PV.bl (congrArg (fun p => l.any p) (funext fun y => pq_rw 6 y a)))
  unfold gIn gOr
  rw [h1]
  exact h2
theorem nat_eq (a b : Nat) : gEq (.int (a : Nat)) (.int (b : Nat)) = some (.bl (Nat.beq a b)) := by
  show some (PV.bl (((a : Int)) == (b : Int))) = _
  refine congrArg some (congrArg PV.bl ?_)
  rw [Bool.eq_iff_iff, beq_iff_eq, Nat.beq_eq]
  omega
/-- the first thing that fails -/
def badI (p : PV → Bool) : Nat → List PV → Option Nat
  | _, [] => none
  | i, v :: vs => if p v = true then badI p (i + 1) vs else some i
theorem badI_none {p : PV → Bool} : ∀ {vs : List PV} {i : Nat}, (∀ v ∈ vs, p v = true) → badI p i vs = none
  | [], _, _ => rfl
  | v :: vs, i, h => by
    show (if _ then _ else _) = _
    rw [if_pos (h v List.mem_cons_self)]
    exact badI_none fun z hz => h z (List.mem_cons_of_mem _ hz)
theorem badI_at {p : PV → Bool} {w : PV} {r : List PV} (hw : p w = false) : ∀ {vs : List PV} {i : Nat}, (∀ v ∈ vs, p v = true) → badI p i (vs ++ w :: r) = some (i + vs.length)
  | [], i, _ => by
    show (if _ then _ else _) = _
    rw [if_neg (by rw [hw]; decide)]; rfl
  | v :: vs, i, h => by
    show (if _ then _ else _) = _
    rw [if_pos (h v List.mem_cons_self)]
    have := badI_at (r := r) hw (vs := vs) (i := i + 1) fun z hz => h z (List.mem_cons_of_mem _ hz)
    refine this.trans (congrArg some ?_)
    rw [List.length_cons]
    omega
def blsE (w : PV) : Exn := ⟨"BadLots", [("index", w)]⟩
theorem cl_loop {b : Bool} {t : PV} {r : RS} {p : PV → Bool} : ∀ (vs : List PV) (i : Nat) (x y : Slot), (∀ v ∈ vs, m_is_lot [kindP b, v] = ret (.bl (p v))) → isOw (some x) = false → isOw (some y) = false → ∀ {K : Fl → RS → Prop} {E : Exn → RS → Prop},
      (badI p i vs = none → ∀ x y, K (.nx [.sh (kindP b), .sh t, x, y]) r) → (∀ j, badI p i vs = some j → E (blsE (.int (j : Nat))) r) →
      wpM (loopF (gTupl 2 (gsCons (gNm 2) (gsCons (gNm 3) (gsNil)))) (sIf (bNot (tB (eCall 2 m_is_lot (aCons (eVar 0) (aCons (eVar 3) (aNil)))))) (sRaiseF "BadLots" ["index"] (aCons (eVar 2) (aNil))) (sNext)) (enL i vs) [.sh (kindP b), .sh t, x, y] r) K E
  | [], i, x, y, hp, hx, hy, K, E, k1, k2 => k1 rfl _ _
  | v :: vs, i, x, y, hp, hx, hy, K, E, k1, k2 => by
    show wpM (loopF _ _ (.tup [.int i, v] :: enL (i + 1) vs) _ r) K E
    have g : gTupl 2 (gsCons (gNm 2) (gsCons (gNm 3) (gsNil))) (.tup [.int i, v]) [.sh (kindP b), .sh t, x, y] = some [.sh (kindP b), .sh t, .sh (.int i), .sh v] := by
      cases x <;> cases y <;> first | rfl | exact Bool.noConfusion hx | exact Bool.noConfusion hy
    with_reducible refine w_lp g ?_
    have pk := hp v List.mem_cons_self
    cases q : p v with
    | true =>
      have e : badI p i (v :: vs) = badI p (i + 1) vs := by
        show (if _ then _ else _) = _
        rw [if_pos q]
      rw [e] at k1 k2
      rw [q] at pk
      walk_at "mr"
      exact cl_loop vs (i + 1) _ _ (fun z hz => hp z (List.mem_cons_of_mem _ hz)) rfl rfl k1 k2
    | false =>
      have stop : E (blsE (.int (i : Nat))) r := by
        refine k2 i ?_
        show (if _ then _ else _) = _
        rw [if_neg (by rw [q]; decide)]
      rw [q] at pk
      walk_at "mr"
      with_reducible refine w_raiseF ?_
      walk_at "mr"
      exact ⟨rfl, stop⟩
theorem lots_chk {b : Bool} {s : PV} {vs : List PV} {p : PV → Bool} (hs : s = .lst vs ∨ s = .tup vs) (h : ∀ v ∈ vs, m_is_lot [kindP b, v] = ret (.bl (p v))) :
    (badI p 0 vs = none → m_check_lots [kindP b, s] = ret .non) ∧ (∀ j, badI p 0 vs = some j → m_check_lots [kindP b, s] = raise (blsE (.int (j : Nat)))) := by
  have main : ∀ (r : RS) (K : PV → RS → Prop) (E : Exn → RS → Prop), (badI p 0 vs = none → K .non r) → (∀ j, badI p 0 vs = some j → E (blsE (.int (j : Nat))) r) → wpM (m_check_lots [kindP b, s] r) K E := by
    intro r K E k1 k2
    unfold m_check_lots
    with_reducible refine w_run ?_
    show wpM (b_check_lots [.sh (kindP b), .sh s, .no, .no] r) _ _
    unfold b_check_lots
    rcases hs with rfl | rfl
    · walk_at "mr"
      refine cl_loop vs 0 .no .no h rfl rfl (fun e x y => ?_) fun j hj => ?_
      · exact k1 e
      · exact k2 j hj
    · walk_at "mr"
      refine cl_loop vs 0 .no .no h rfl rfl (fun e x y => ?_) fun j hj => ?_
      · exact k1 e
      · exact k2 j hj
  refine ⟨fun e => pure_of fun r => main r _ _ (fun _ => ⟨rfl, rfl⟩) (fun j hj => by rw [e] at hj; cases hj), fun j hj => ex_of fun r => main r _ _ (fun e => by rw [e] at hj; cases hj) (fun i hi => ?_)⟩
  rw [hj] at hi
  cases hi
  exact ⟨rfl, rfl⟩
def noSeq (v : PV) : Bool := match v with
  | .lst _ => false
  | .tup _ => false
  | .ty _ => false
  | .row => false
  | .exc _ _ => false
  | .at_ _ => false
  | .obj _ _ _ => false
  | _ => true
theorem lots_none {b : Bool} {v : PV} (h : noSeq v = true) : m_check_lots [kindP b, v] = raise (blsE .non) := ex_of fun r => by
  unfold m_check_lots
  with_reducible refine w_run ?_
  show wpM (b_check_lots [.sh (kindP b), .sh v, .no, .no] r) _ _
  unfold b_check_lots
  cases v with
  | lst _ => cases h
  | tup _ => cases h
  | ty _ => cases h
  | row => cases h
  | exc _ _ => cases h
  | at_ _ => cases h
  | obj _ _ _ => cases h
  | _ =>
    walk_at "mr"
    with_reducible refine w_raiseF ?_
    walk_at "mr"
    exact ⟨rfl, rfl, rfl⟩
theorem lots_good {b : Bool} {s : PV} {vs : List PV} (hs : s = .lst vs ∨ s = .tup vs) (h : ∀ v ∈ vs, m_is_lot [kindP b, v] = ret (.bl true)) : m_check_lots [kindP b, s] = ret .non :=
  (lots_chk (p := fun _ => true) hs h).1 (badI_none fun _ _ => rfl)
def lotP (b : Bool) (r0 : RS) (v : PV) : Bool := match m_is_lot [kindP b, v] r0 with
  | .ok (.bl x) _ => x
  | _ => false
theorem lotP_eq {b : Bool} {r0 : RS} {v : PV} {x : Bool} (h : m_is_lot [kindP b, v] = ret (.bl x)) : lotP b r0 v = x := by
  unfold lotP
  rw [h]; rfl
theorem lots_bad {b : Bool} (r0 : RS) {s w : PV} {vs rest : List PV} (hs : s = .lst (vs ++ w :: rest) ∨ s = .tup (vs ++ w :: rest)) (h : ∀ v ∈ vs, m_is_lot [kindP b, v] = ret (.bl true)) (hw : m_is_lot [kindP b, w] = ret (.bl false))
    (hr : ∀ v ∈ rest, ∃ x, m_is_lot [kindP b, v] = ret (.bl x)) : m_check_lots [kindP b, s] = raise (blsE (.int (vs.length : Nat))) := by
  refine (lots_chk (b := b) (p := lotP b r0) hs fun v hv => ?_).2 vs.length ?_
  · rcases List.mem_append.mp hv with z | z
    · rw [lotP_eq (h v z)]; exact h v z
    · rcases List.mem_cons.mp z with rfl | z
      · rw [lotP_eq hw]; exact hw
      · obtain ⟨x, hx⟩ := hr v z
        rw [lotP_eq hx]; exact hx
  · have := badI_at (p := lotP b r0) (r := rest) (lotP_eq hw) (vs := vs) (i := 0) fun v hv => lotP_eq (h v hv)
    rw [Nat.zero_add] at this
    exact this
end Mir.k14

namespace Mir.k14
open PySem PySem.Spec PyProof.Rows L2 Mth
theorem sort_of {b : Bool} (cs : List Nat) (h : b = true ∨ cs.Nodup) : ∃ ds : List Nat, (isort leI (zz cs)).map PV.int = ds.map (fun (n : Nat) => PV.int n) ∧ Asc (bn b) ds ∧ ds.length = cs.length ∧ ∀ c ∈ ds, c ∈ cs := by
  have pm := isort_perm leI_total (zz cs)
  have mem : ∀ x ∈ isort leI (zz cs), ∃ c ∈ cs, x = (c : Nat) := fun x hx => by
    obtain ⟨c, h, rfl⟩ := List.mem_map.mp (pm.mem_iff.mp hx)
    exact ⟨c, h, rfl⟩
  have so := isort_sorted leI_total (zz cs)
  have e : isort leI (zz cs) = zz ((isort leI (zz cs)).map Int.toNat) := by
    unfold zz
    rw [List.map_map]
    refine (List.map_id' _).symm.trans (List.map_congr_left fun x hx => ?_)
    obtain ⟨c, _, rfl⟩ := mem x hx
    rfl
  refine ⟨(isort leI (zz cs)).map Int.toNat, ?_, ?_, ?_, fun c h => ?_⟩
  · rw [List.map_map]
    refine List.map_congr_left fun x hx => ?_
    obtain ⟨c, _, rfl⟩ := mem x hx
    rfl
  · rw [asc_zz, ← e]
    refine ⟨so.imp fun z => of_decide_eq_true z, h.imp id fun z => pm.nodup_iff.mpr ?_⟩
    unfold zz
    rw [List.Nodup, List.pairwise_map]
    exact z.imp fun q => by omega
  · rw [List.length_map, pm.length_eq, zz_len]
  · obtain ⟨x, hx, rfl⟩ := List.mem_map.mp h
    obtain ⟨c, hc, rfl⟩ := mem x hx
    exact hc
theorem sorted_row (cs : List Nat) : gSorted [row cs] = some (.lst ((isort leI (zz cs)).map PV.int)) := by rw [row_zz]; exact sorted_intsT _
/-- a lot as the laws draw them -/
theorem row_app2V {cs : List Nat} {n : Nat} (h : cs.length ≤ 100) : gAdd (row cs) (.tup [.int (n : Int)]) = some (row (cs ++ [n])) := by
  have : gCatT (row cs) (.tup [.int (n : Int)]) = some (.tup ((cs.map fun (n : Nat) => PV.int n) ++ [.int (n : Int)])) := if_pos (by rw [List.length_map, List.length_singleton]; omega)
  show (match gCatT (row cs) (.tup [.int (n : Int)]) with | some z => some z | none => _) = _
  rw [this]
  show _ = some (PV.tup ((cs ++ [n]).map fun (n : Nat) => PV.int n))
  rw [List.map_append]; rfl
def isLt (b : Bool) (T M : Nat) (cs : List Nat) : Prop := cs.length ≤ M ∧ (∀ c ∈ cs, c < T) ∧ Asc (bn b) cs
theorem law_lot_ok {b : Bool} {T M : Nat} (hT : 1 ≤ T) (hT2 : T ≤ 2 ^ 60) (hM : M ≤ 50) {r : RS} (hR : Rok r) {K : PV → RS → Prop} {E : Exn → RS → Prop} (k : ∀ (cs : List Nat) r', Rok r' → isLt b T M cs → K (row cs) r') :
    wpM (m__law_lot [.row, kindP b, .int (T : Nat), .int (M : Nat)] r) K E := by
  unfold m__law_lot
  with_reducible refine w_run ?_
  show wpM (b__law_lot [.sh .row, .sh (kindP b), .sh (.int (T : Nat)), .sh (.int (M : Nat)), .no, .no, .no] r) _ _
  unfold b__law_lot
  have e2 : (M : Int) + 1 = ((M + 1 : Nat) : Int) := by omega
  have eb := eqB b
  walk_at "mr"
  rw [e2]
  refine pick_ok (n := M + 1) (by omega) (by omega) hR fun m r1 hm h1 => ?_
  walk_at "mr"
  with_reducible refine w_rg1 ?_ ?_
  · exact okR_of (by omega) (by omega)
  rw [Int.toNat_natCast, rgL_map]
  refine w_loop (fun i env r2 => ∃ (lot : List Nat) (x5 x6 : Slot), (Rok r2 ∧ lot.length ≤ i ∧ i ≤ m ∧ (∀ c ∈ lot, c < T) ∧ (b = true ∨ lot.Nodup) ∧ isOw (some x5) = false ∧ isOw (some x6) = false) ∧ env = [.sh .row, .sh (kindP b), .sh (.int (T : Nat)), .sh (.int (M : Nat)), .sh (row lot), x5, x6]) _ 0 _ _ ⟨[], .no, .no, ⟨h1, Nat.le_refl _, by omega, (fun c hc => by cases hc), .inr List.Pairwise.nil, rfl, rfl⟩, rfl⟩ (fun i x env r2 hi hI => ?_) fun env r2 hI => ?_
  · obtain ⟨lot, x5, x6, ⟨h2, l1, l2, l3, l4, o5, o6⟩, rfl⟩ := hI
    rw [List.getElem?_map] at hi
    obtain ⟨th, hth, rfl⟩ := Option.map_eq_some_iff.mp hi
    have hil : i < m := by
      have := (List.getElem?_eq_some_iff.mp hth).1
      rwa [List.length_range] at this
    refine ⟨_, gNm_ok (Nat.le_of_ble_eq_true rfl) o5, ?_⟩
    show wpM (sSeq _ _ [.sh .row, .sh (kindP b), .sh (.int (T : Nat)), .sh (.int (M : Nat)), .sh (row lot), .sh (.int (th : Nat)), x6] r2) _ _
    walk_at "mr"
    refine pick_ok (n := T) (by omega) (by omega) h2 fun c r3 hc h3 => ?_
    have ap := row_app2V (cs := lot) (n := c) (by omega)
    cases b with
    | true =>
      walk_at "mr"
      refine ⟨lot ++ [c], _, _, ⟨h3, by rw [List.length_append, List.length_singleton]; omega, by omega, fun d hd => ?_, .inl rfl, rfl, rfl⟩, rfl⟩
      rcases List.mem_append.mp hd with z | z
      · exact l3 d z
      · rw [List.mem_singleton.mp z]; exact hc
    | false =>
      have ni := nin_row c lot
      cases q : lot.any fun y => Nat.beq y c with
      | true =>
        rw [q] at ni
        walk_at "mr"
        exact ⟨lot, _, _, ⟨h3, by omega, by omega, l3, l4, rfl, rfl⟩, rfl⟩
      | false =>
        rw [q] at ni
        walk_at "mr"
        refine ⟨lot ++ [c], _, _, ⟨h3, by rw [List.length_append, List.length_singleton]; omega, by omega, fun d hd => ?_, .inr ?_, rfl, rfl⟩, rfl⟩
        · rcases List.mem_append.mp hd with z | z
          · exact l3 d z
          · rw [List.mem_singleton.mp z]; exact hc
        · rcases l4 with l4 | l4
          · cases l4
          · refine List.nodup_append.mpr ⟨l4, List.pairwise_singleton _ _, fun x hx y hy => ?_⟩
            rw [List.mem_singleton.mp hy]
            intro z
            rw [List.any_eq_false] at q
            exact q x hx (by rw [z]; exact Nat.beq_refl c)
  · obtain ⟨lot, x5, x6, ⟨h2, l1, l2, l3, l4, o5, o6⟩, rfl⟩ := hI
    rw [List.length_map, List.length_range, Nat.zero_add] at l1
    obtain ⟨ds, d1, d2, d3, d4⟩ := sort_of (b := b) lot l4
    have so := sorted_row lot
    rw [d1] at so
    have tt : gToT [.lst (ds.map fun (n : Nat) => PV.int n)] = some (row ds) := rfl
    walk_at "mr"
    exact k ds r2 h2 ⟨by omega, fun c hc => l3 c (d4 c hc), d2⟩
theorem rows_of_draws {Q : List Nat → Prop} : ∀ {ys : List PV}, (∀ y ∈ ys, ∃ cs, Q cs ∧ y = row cs) → ∃ ls : List (List Nat), ys = ls.map row ∧ ∀ cs ∈ ls, Q cs
  | [], _ => ⟨[], rfl, fun c h => nomatch h⟩
  | y :: ys, h => by
    obtain ⟨c, h1, h2⟩ := h y List.mem_cons_self
    obtain ⟨cs, e, h3⟩ := rows_of_draws fun z hz => h z (List.mem_cons_of_mem _ hz)
    exact ⟨c :: cs, by rw [h2, e]; rfl, fun x hx => by
      rcases List.mem_cons.mp hx with rfl | hx
      · exact h1
      · exact h3 x hx⟩
theorem law_some_ok {b : Bool} {T M N : Nat} (hT : 1 ≤ T) (hT2 : T ≤ 2 ^ 60) (hM : M ≤ 50) (hN : N ≤ 50) {r : RS} (hR : Rok r) {K : PV → RS → Prop} {E : Exn → RS → Prop} (k : ∀ (ls : List (List Nat)) r', Rok r' → ls.length ≤ N → (∀ cs ∈ ls, isLt b T M cs) → K (.lst (ls.map row)) r') :
    wpM (m__law_some [.row, kindP b, .int (T : Nat), .int (M : Nat), .int (N : Nat)] r) K E := by
  unfold m__law_some
  with_reducible refine w_run ?_
  show wpM (b__law_some [.sh .row, .sh (kindP b), .sh (.int (T : Nat)), .sh (.int (M : Nat)), .sh (.int (N : Nat)), .no] r) _ _
  unfold b__law_some
  have e2 : (N : Int) + 1 = ((N + 1 : Nat) : Int) := by omega
  walk_at "mr"
  rw [e2]
  refine pick_ok (n := N + 1) (by omega) (by omega) hR fun m r1 hm h1 => ?_
  walk_at "mr"
  with_reducible refine w_rg1 ?_ ?_
  · exact okR_of (by omega) (by omega)
  rw [Int.toNat_natCast]
  refine ⟨⟨by rw [rgL_len]; omega, rfl⟩, ?_⟩
  refine w_lcP (fun y => ∃ cs, isLt b T M cs ∧ y = row cs) Rok _ _ h1 (fun x hx => ?_) fun ys r4 yl yp h4 => ?_
  · refine ⟨[.sh .row, .sh (kindP b), .sh (.int (T : Nat)), .sh (.int (M : Nat)), .sh (.int (N : Nat)), .sh x], rfl, fun r5 h5 => ?_⟩
    walk_at "mr"
    refine law_lot_ok hT hT2 hM h5 fun cs r6 h6 hc => ?_
    exact ⟨⟨cs, hc, rfl⟩, h6⟩
  obtain ⟨ls, rfl, hls⟩ := rows_of_draws yp
  rw [List.length_map, rgL_len] at yl
  exact k ls r4 h4 (by omega) hls
end Mir.k14

namespace Mir.k14
open PySem PySem.Spec PyProof.Rows L2 Mth
theorem ne_nilR (l : List (List Nat)) : gNe (.lst (l.map row)) (.lst []) = some (.bl (!l.isEmpty)) := by
  unfold gNe
  have d : (dt 8 (.lst (l.map row)) && dt 8 (.lst [])) = true := by
    rw [dt_rows 6 l]; rfl
  rw [d]
  cases l with
  | nil => rfl
  | cons x l => rfl
/-- how many of each size -/
def cntS (ls : List (List Nat)) (s : Nat) : Nat := (ls.filter fun c => Nat.beq c.length s).length
def mxS : List (List Nat) → Nat
  | [] => 0
  | c :: r => max c.length (mxS r)
def cntL (ls : List (List Nat)) : List Nat := if ls.isEmpty = true then [] else (List.range (mxS ls + 1)).map (cntS ls)
theorem ne_nilI (l : List Int) : gNe (.lst (l.map PV.int)) (.lst []) = some (.bl (!l.isEmpty)) := by
  unfold gNe
  have d : (dt 8 (.lst (l.map PV.int)) && dt 8 (.lst [])) = true := by
    have : dt 8 (.lst (l.map PV.int)) = true := by
      show (l.map PV.int).all (dt 7) = true
      rw [List.all_map, List.all_eq_true]; intro y _; rfl
    rw [this]; rfl
  rw [d]
  cases l with
  | nil => rfl
  | cons x l => rfl
theorem lmax_len : ∀ (c : List Nat) (ls : List (List Nat)), lmax ((c :: ls).map fun c => ((c.length : Nat) : Int)) = (mxS (c :: ls) : Nat)
  | c, [] => by
    show ((c.length : Nat) : Int) = ((max c.length 0 : Nat) : Int)
    rw [Nat.max_zero]
  | c, d :: ls => by
    show max ((c.length : Nat) : Int) (lmax ((d :: ls).map fun c => ((c.length : Nat) : Int))) = ((max c.length (mxS (d :: ls)) : Nat) : Int)
    rw [lmax_len d ls]
    omega
theorem count_len (ls : List (List Nat)) (s : Nat) : (ls.map fun c => ((c.length : Nat) : Int)).count (s : Int) = cntS ls s := by
  unfold cntS
  rw [List.count_eq_countP, List.countP_map, List.countP_eq_length_filter]
  refine congrArg List.length (congrArg (fun p => ls.filter p) (funext fun c => ?_))
  show (((c.length : Nat) : Int) == (s : Int)) = Nat.beq c.length s
  rw [Bool.eq_iff_iff, beq_iff_eq, Nat.beq_eq]
  omega
theorem mxS_le {B : Nat} : ∀ {ls : List (List Nat)}, (∀ c ∈ ls, c.length ≤ B) → mxS ls ≤ B
  | [], _ => Nat.zero_le _
  | d :: ls, h => by
    show max d.length (mxS ls) ≤ B
    have := h d List.mem_cons_self
    have := mxS_le fun c hc => h c (List.mem_cons_of_mem _ hc)
    omega
theorem ints_len (ls : List (List Nat)) : ints? (ls.map fun c => PV.int ((c.length : Nat) : Int)) = some (ls.map fun c => ((c.length : Nat) : Int)) := ints_map (fun c : List Nat => ((c.length : Nat) : Int)) ls
end Mir.k14

namespace Mir.k14
open PySem PySem.Spec PyProof.Rows L2 Mth
/-- a lot with each of its things taken away in turn -/
def takenL (cs : List Nat) : List (List Nat) := (List.range cs.length).map fun i => cs.take i ++ cs.drop (i + 1)
theorem takenL_len {cs c : List Nat} (h : c ∈ takenL cs) : c.length + 1 = cs.length := by
  obtain ⟨i, hi, rfl⟩ := List.mem_map.mp h
  rw [List.mem_range] at hi
  rw [List.length_append, List.length_take, List.length_drop]
  omega
theorem takenL_sub {cs c : List Nat} (h : c ∈ takenL cs) : c.Sublist cs := by
  obtain ⟨i, hi, rfl⟩ := List.mem_map.mp h
  have e : cs = cs.take i ++ cs.drop i := (List.take_append_drop i cs).symm
  have d : (cs.drop (i + 1)).Sublist (cs.drop i) := by
    rw [show cs.drop (i + 1) = (cs.drop i).drop 1 from by rw [List.drop_drop, Nat.add_comm]]
    exact List.drop_sublist _ _
  have := (List.Sublist.refl (cs.take i)).append d
  rwa [← e] at this
theorem sl_to {cs : List Nat} {k : Nat} (h : k ≤ cs.length) : slP (row cs) none (some (k : Int)) = some (row (cs.take k)) := by
  show some (PV.tup (cutP (cs.map fun (n : Nat) => PV.int n) none (some (k : Int)))) = some (PV.tup _)
  rw [cut_to (by rw [List.length_map]; exact h), List.map_take]
theorem sl_from {cs : List Nat} {k : Nat} (h : k + 1 ≤ cs.length) : slP (row cs) (some ((k : Int) + 1)) none = some (row (cs.drop (k + 1))) := by
  show some (PV.tup (cutP (cs.map fun (n : Nat) => PV.int n) (some ((k + 1 : Nat) : Int)) none)) = some (PV.tup _)
  rw [cut_from (by rw [List.length_map]; exact h), List.map_drop]
theorem w_unSrow {cs : List Nat} {r : RS} {K : List PV → RS → Prop} {E : Exn → RS → Prop} (h : K (cs.map fun (n : Nat) => PV.int (n : Int)) r) : wpM (unS (row cs) r) K E := h
theorem taken_ok {cs : List Nat} (hl : cs.length ≤ 100) : m_taken [row cs] = ret (.lst ((takenL cs).map row)) := pure_of fun r => by
  unfold m_taken
  with_reducible refine w_run ?_
  show wpM (b_taken [.sh (row cs), .no] r) _ _
  unfold b_taken
  have gl := gl_rw cs
  walk_at "mr"
  with_reducible refine w_rg1 ?_ ?_
  · exact okR_of (by omega) (by omega)
  rw [Int.toNat_natCast, rgL_map]
  refine ⟨⟨by rw [List.length_map, List.length_range]; omega, rfl⟩, ?_⟩
  refine w_lcM (fun (k : Nat) => PV.int (k : Int)) (fun i => row (cs.take i ++ cs.drop (i + 1))) _ _ (fun i hi => ?_) ?_
  · rw [List.mem_range] at hi
    refine ⟨_, rfl, fun r4 => ?_⟩
    have s1 := sl_to (cs := cs) (k := i) (by omega)
    have s2 := sl_from (cs := cs) (k := i) (by omega)
    walk_at "mr"
    refine w_unSrow ?_
    walk_at "mr"
    refine w_unSrow ?_
    walk_at "mr"
    refine ⟨by rw [List.append_nil, List.length_append, List.length_map, List.length_map, List.length_take, List.length_drop]; omega, ?_, rfl⟩
    show PV.tup _ = PV.tup _
    rw [List.append_nil, List.map_append]
  unfold takenL
  rw [List.map_map]
  exact ⟨rfl, rfl⟩
/-! a dict that keeps lots -/
def encK (k : List Nat) : List Int × PV := (zz k, .bl true)
def addK (ks : List (List Nat)) (y : List Nat) : List (List Nat) := if y ∈ ks then ks else ks ++ [y]
theorem zz_injU {a b : List Nat} (h : zz a = zz b) : a = b := by
  unfold zz at h
  exact (List.map_inj_right fun x y e => by omega).mp h
theorem any_encK (ks : List (List Nat)) (y : List Nat) : ((ks.map encK).any fun p => decide (p.1 = zz y)) = decide (y ∈ ks) := by
  rw [List.any_map, Bool.eq_iff_iff, List.any_eq_true, decide_eq_true_iff]
  constructor
  · rintro ⟨k, hk, h⟩
    rw [← zz_injU (of_decide_eq_true h)]
    exact hk
  · intro h
    exact ⟨y, h, decide_eq_true rfl⟩
theorem putD_encK (ks : List (List Nat)) (y : List Nat) : putD (ks.map encK) (zz y) (.bl true) = (addK ks y).map encK := by
  unfold putD addK
  rw [any_encK]
  by_cases h : y ∈ ks
  · rw [if_pos (decide_eq_true h), if_pos h, List.map_map]
    refine List.map_congr_left fun k _ => ?_
    show (if zz k = zz y then (zz k, PV.bl true) else (zz k, PV.bl true)) = (zz k, PV.bl true)
    split <;> rfl
  · rw [if_neg (by rw [decide_eq_false h]; decide), if_neg h, List.map_append]; rfl
theorem addK_mem {ks : List (List Nat)} {y x : List Nat} : x ∈ addK ks y ↔ x ∈ ks ∨ x = y := by
  unfold addK
  split
  · rename_i h
    exact ⟨.inl, fun z => z.elim id fun e => e ▸ h⟩
  · rw [List.mem_append, List.mem_singleton]
theorem addK_nd {ks : List (List Nat)} {y : List Nat} (h : ks.Nodup) : (addK ks y).Nodup := by
  unfold addK
  split
  · exact h
  · rename_i n
    exact List.nodup_append.mpr ⟨h, List.pairwise_singleton _ _, fun a ha b hb e => n (by rw [← List.mem_singleton.mp hb, ← e]; exact ha)⟩
theorem foldK_mem {ys : List (List Nat)} : ∀ {ks : List (List Nat)} {x : List Nat}, x ∈ ys.foldl addK ks ↔ x ∈ ks ∨ x ∈ ys := by
  induction ys with
  | nil => intro ks x; exact ⟨.inl, fun z => z.elim id fun h => nomatch h⟩
  | cons y ys ih =>
    intro ks x
    rw [List.foldl_cons, ih, addK_mem, List.mem_cons, or_assoc]
theorem foldK_nd {ys : List (List Nat)} : ∀ {ks : List (List Nat)}, ks.Nodup → (ys.foldl addK ks).Nodup := by
  induction ys with
  | nil => intro ks h; exact h
  | cons y ys ih => intro ks h; exact ih (addK_nd h)
theorem row_kT (c : List Nat) : row c = kT (zz c) := row_zz c
theorem lst_encK (ks : List (List Nat)) : gLstT [dicT (ks.map encK)] = some (.lst (ks.map row)) := by
  show (unD (dicT (ks.map encK))).map (fun l => PV.lst (l.map fun p => kT p.1)) = _
  rw [unD_dicT, Option.map_some, List.map_map]
  exact congrArg some (congrArg PV.lst (List.map_congr_left fun k _ => (row_kT k).symm))
theorem inD_encK (neg : Bool) (c : List Nat) (ks : List (List Nat)) : gInD neg (row c) (dicT (ks.map encK)) = some (.bl (neg != decide (c ∈ ks))) := by
  unfold gInD
  rw [row_kT, tkey_kT]
  show (unD (dicT (ks.map encK))).map (fun l => PV.bl (neg != l.any fun p => decide (p.1 = zz c))) = _
  rw [unD_dicT, Option.map_some, any_encK]
end Mir.k14

namespace Mir.k14
open PySem PySem.Spec PyProof.Rows L2 Mth
theorem w_popA {env : Env} {i j : Nat} {ys : List PV} {v : PV} {r : RS} {K : Fl → RS → Prop} {E : Exn → RS → Prop} (e : env[i]? = some (.ow (.lst (ys ++ [v])))) (hj : j < env.length) (h : K (.nx ((env.set i (.ow (.lst ys))).set j (.sh v))) r) : wpM (sPop i j env r) K E := by
  have o : owL env i = ret (ys ++ [v]) := by unfold owL; rw [e]
  refine w_bnd (w_eq o ?_)
  have g : (ys ++ [v])[(ys ++ [v]).length - 1]? = some v := by
    rw [List.length_append, List.length_singleton, Nat.add_sub_cancel, List.getElem?_append_right (Nat.le_refl _), Nat.sub_self]; rfl
  refine w_bnd (w_ofO ⟨v, g, ?_⟩)
  rw [List.dropLast_concat]
  exact w_pos hj h
theorem nd_sub_len {α : Type} [DecidableEq α] : ∀ {l m : List α}, l.Nodup → (∀ x ∈ l, x ∈ m) → l.length ≤ m.length
  | [], _, _, _ => Nat.zero_le _
  | a :: l, m, h, hs => by
    obtain ⟨h1, h2⟩ := List.nodup_cons.mp h
    have ha := hs a List.mem_cons_self
    have := nd_sub_len (m := m.erase a) h2 fun x hx => (List.mem_erase_of_ne fun e => h1 (by rw [← e]; exact hx)).mpr (hs x (List.mem_cons_of_mem _ hx))
    rw [List.length_erase_of_mem ha] at this
    have : 0 < m.length := List.length_pos_of_mem ha
    rw [List.length_cons]
    omega
/-- all that can be reached -/
structure Uni (U : List (List Nat)) : Prop where
  len : U.length ≤ 10000
  ok : ∀ c ∈ U, c.length ≤ 8 ∧ ∀ x ∈ c, x < 2 ^ 60
  cl : ∀ c ∈ U, ∀ y ∈ takenL c, y ∈ U
structure Clo (U ls F : List (List Nat)) : Prop where
  nd : F.Nodup
  sub : ∀ c ∈ F, c ∈ U
  has : ∀ c ∈ ls, c ∈ F
  cl : ∀ c ∈ F, ∀ y ∈ takenL c, y ∈ F
theorem closed_of_okS {b : Bool} {sv : PV} {ls U : List (List Nat)} (tl : gToL [sv] = some (.lst (ls.map row))) (hU : Uni U) (hl : ls.length ≤ 10000) (hs : ∀ c ∈ ls, c ∈ U) {r : RS} {K : PV → RS → Prop} {E : Exn → RS → Prop} (k : ∀ F, Clo U ls F → K (.lst ((ordT b F).map row)) r) :
    wpM (m_closed_of [kindP b, sv] r) K E := by
  unfold m_closed_of
  with_reducible refine w_run ?_
  show wpM (b_closed_of [.sh (kindP b), .sh sv, .no, .no, .no] r) _ _
  unfold b_closed_of
  walk_at "mr"
  show wpM (sWhile 1000000 _ _ [.sh (kindP b), .sh sv, .ow (dicT []), .ow (.lst (ls.map row)), .no] r) _ _
  have ul := hU.len
  refine w_whileI (fun i env r1 => ∃ (F W : List (List Nat)) (x4 : Slot), (F.Nodup ∧ (∀ c ∈ F, c ∈ U) ∧ (∀ c ∈ W, c ∈ U) ∧ (∀ c ∈ F, ∀ y ∈ takenL c, y ∈ F ∨ y ∈ W) ∧ (∀ c ∈ ls, c ∈ F ∨ c ∈ W) ∧ i = W.length + 9 * (U.length - F.length) ∧ i ≤ 100000 ∧ isOw (some x4) = false) ∧
    env = [.sh (kindP b), .sh sv, .ow (dicT (F.map encK)), .ow (.lst (W.map row)), x4] ∧ r1 = r) (fun i env r1 hI => ?_) 1000000 (ls.length + 9 * U.length) _ _ (by omega) ⟨[], ls, .no, ⟨List.nodup_nil, (fun c hc => by cases hc), hs, (fun c hc => by cases hc), fun c hc => .inr hc, by rw [List.length_nil, Nat.sub_zero], by omega, rfl⟩, rfl, rfl⟩
  obtain ⟨F, W, x4, ⟨nd, sF, sW, cl, has, hi, hi2, o4⟩, rfl, rfl⟩ := hI
  have ne := ne_nilR W
  rcases List.eq_nil_or_concat W with rfl | ⟨W0, c, rfl⟩
  · have ne' : gNe (.lst (([] : List (List Nat)).map row)) (.lst []) = some (.bl false) := ne
    have g := lst_encK F
    have len : F.length ≤ U.length := nd_sub_len nd sF
    have p2 : m_in_order [kindP b, .lst (F.map row)] = ret (.lst ((ordT b F).map row)) := in_order_ok (by omega) fun c hc => ⟨by have := (hU.ok c (sF c hc)).1; omega, (hU.ok c (sF c hc)).2⟩
    walk_at "mr"
    exact k F ⟨nd, sF, fun c hc => (has c hc).elim id fun z => (by cases z), fun c hc y hy => (cl c hc y hy).elim id fun z => (by cases z)⟩
  · rw [List.concat_eq_append] at *
    have ne' : gNe (.lst ((W0 ++ [c]).map row)) (.lst []) = some (.bl true) := by
      rw [ne]
      cases W0 <;> rfl
    have cU := sW c (List.mem_append_right _ (List.mem_singleton.mpr rfl))
    have c8 := (hU.ok c cU).1
    have ind := inD_encK true c F
    have lw : (W0 ++ [c]).length = W0.length + 1 := by rw [List.length_append, List.length_singleton]
    have fl : F.length ≤ U.length := nd_sub_len nd sF
    have pt := taken_ok (cs := c) (by omega)
    have tlen : (takenL c).length ≤ 8 := by unfold takenL; rw [List.length_map, List.length_range]; exact c8
    have popped : ∀ {K : Fl → RS → Prop} {E : Exn → RS → Prop}, K (.nx [.sh (kindP b), .sh sv, .ow (dicT (F.map encK)), .ow (.lst (W0.map row)), .sh (row c)]) r1 → wpM (sPop 3 4 [.sh (kindP b), .sh sv, .ow (dicT (F.map encK)), .ow (.lst ((W0 ++ [c]).map row)), x4] r1) K E := fun h => by
      refine w_popA (ys := W0.map row) (v := row c) ?_ (Nat.le_of_ble_eq_true rfl) h
      rw [List.map_append]; rfl
    by_cases q : c ∈ F
    · have ind' : gInD true (row c) (dicT (F.map encK)) = some (.bl false) := by rw [ind, decide_eq_true q]; rfl
      walk_at "mr"
      refine popped ?_
      walk_at "mr"
      refine ⟨W0.length + 9 * (U.length - F.length), by omega, F, W0, _, ⟨nd, sF, fun d hd => sW d (List.mem_append_left _ hd), fun d hd y hy => ?_, fun d hd => ?_, rfl, by omega, rfl⟩, rfl, rfl⟩
      · rcases cl d hd y hy with z | z
        · exact .inl z
        · rcases List.mem_append.mp z with z | z
          · exact .inr z
          · rw [List.mem_singleton.mp z]; exact .inl q
      · rcases has d hd with z | z
        · exact .inl z
        · rcases List.mem_append.mp z with z | z
          · exact .inr z
          · rw [List.mem_singleton.mp z]; exact .inl q
    · have ind' : gInD true (row c) (dicT (F.map encK)) = some (.bl true) := by rw [ind, decide_eq_false q]; rfl
      have nd' : (F ++ [c]).Nodup := List.nodup_append.mpr ⟨nd, List.pairwise_singleton _ _, fun a ha d hd e => q (by rw [← List.mem_singleton.mp hd, ← e]; exact ha)⟩
      have sF' : ∀ d ∈ F ++ [c], d ∈ U := fun d hd => by
        rcases List.mem_append.mp hd with z | z
        · exact sF d z
        · rw [List.mem_singleton.mp z]; exact cU
      have fl' := nd_sub_len nd' sF'
      rw [List.length_append, List.length_singleton] at fl'
      have ap : addK F c = F ++ [c] := if_neg q
      have pd := putD_encK F c
      rw [ap] at pd
      walk_at "mr"
      refine popped ?_
      walk_at "mr"
      refine w_dput (l := F.map encK) ?_
      walk_at "mr"
      refine ⟨rfl, ?_⟩
      walk_at "mr"
      refine ⟨zz c, by rw [row_kT, tkey_kT], by rw [List.length_map]; omega, ?_⟩
      rw [pd]
      walk_at "mr"
      refine ⟨by rw [List.length_map, List.length_map]; omega, ?_⟩
      refine ⟨(W0 ++ takenL c).length + 9 * (U.length - (F ++ [c]).length), ?_, F ++ [c], W0 ++ takenL c, .sh (row c), ⟨nd', sF', fun d hd => ?_, fun d hd y hy => ?_, fun d hd => ?_, rfl, ?_, rfl⟩, ?_, rfl⟩
      · rw [List.length_append, List.length_append, List.length_singleton]; omega
      · rcases List.mem_append.mp hd with z | z
        · exact sW d (List.mem_append_left _ z)
        · exact hU.cl c cU d z
      · rcases List.mem_append.mp hd with z | z
        · rcases cl d z y hy with z | z
          · exact .inl (List.mem_append_left _ z)
          · rcases List.mem_append.mp z with z | z
            · exact .inr (List.mem_append_left _ z)
            · rw [List.mem_singleton.mp z]
              exact .inl (List.mem_append_right _ (List.mem_singleton.mpr rfl))
        · rw [List.mem_singleton.mp z] at hy
          exact .inr (List.mem_append_right _ hy)
      · rcases has d hd with z | z
        · exact .inl (List.mem_append_left _ z)
        · rcases List.mem_append.mp z with z | z
          · exact .inr (List.mem_append_left _ z)
          · rw [List.mem_singleton.mp z]
            exact .inl (List.mem_append_right _ (List.mem_singleton.mpr rfl))
      · rw [List.length_append, List.length_append, List.length_singleton]; omega
      · rw [List.map_append (f := row)]; rfl
end Mir.k14

namespace Mir.k14
open PySem PySem.Spec PyProof.Rows L2 Mth
/-! the order of lots: by size, then by place -/
theorem toks_tri (b : Bool) (c : List Nat) : ∃ r, PySem.W.keyToks (tD 8 (tri b c)) = .inl 1 :: .inl ((c.length : Nat) : Int) :: .inl 1 :: .inl ((plA (bn b) 0 c : Nat) : Int) :: r := by
  rw [tD_tri]
  simp only [PySem.W.keyToks, PySem.W.keyToksAll, List.cons_append, List.nil_append]
  exact ⟨_, rfl⟩
theorem tri_le {b : Bool} {c d : List Nat} (h : leP (tri b c) (tri b d) = true) : c.length < d.length ∨ (c.length = d.length ∧ plA (bn b) 0 c ≤ plA (bn b) 0 d) := by
  have h1 : (!PySem.W.dataLt (tD 8 (tri b d)) (tD 8 (tri b c))) = true := h
  rw [Bool.not_eq_true'] at h1
  obtain ⟨rc, ec⟩ := toks_tri b c
  obtain ⟨rd, ed⟩ := toks_tri b d
  unfold PySem.W.dataLt at h1
  rw [ec, ed, PyProof.Rows.lex_self] at h1
  by_cases e : c.length = d.length
  · rw [e, PyProof.Rows.lex_self, PyProof.Rows.lex_self] at h1
    refine .inr ⟨e, ?_⟩
    by_cases z : plA (bn b) 0 c ≤ plA (bn b) 0 d
    · exact z
    · have ne : (Sum.inl ((plA (bn b) 0 d : Nat) : Int) : Int ⊕ List Nat) ≠ Sum.inl ((plA (bn b) 0 c : Nat) : Int) := fun q => by
        have := Sum.inl.inj q
        omega
      rw [PyProof.Rows.lex_diff (O := itemOrd) ne] at h1
      have h2 : decide (((plA (bn b) 0 d : Nat) : Int) < ((plA (bn b) 0 c : Nat) : Int)) = false := h1
      have := of_decide_eq_false h2
      omega
  · have ne : (Sum.inl ((d.length : Nat) : Int) : Int ⊕ List Nat) ≠ Sum.inl ((c.length : Nat) : Int) := fun q => by
      have := Sum.inl.inj q
      omega
    rw [PyProof.Rows.lex_diff (O := itemOrd) ne] at h1
    have h2 : decide (((d.length : Nat) : Int) < ((c.length : Nat) : Int)) = false := h1
    have := of_decide_eq_false h2
    exact .inl (by omega)
theorem ordT_sorted (b : Bool) (ls : List (List Nat)) : (ordT b ls).Pairwise fun c d => c.length < d.length ∨ (c.length = d.length ∧ plA (bn b) 0 c ≤ plA (bn b) 0 d) := by
  have T : PySem.W.TotalLe fun c d => leP (tri b c) (tri b d) := ⟨fun x y z h1 h2 => leP_total.trans _ _ _ h1 h2, fun x y => leP_total.total _ _⟩
  exact (isort_sorted T ls).imp fun z => tri_le z
end Mir.k14

namespace Mir.k14
open PySem PySem.Spec PyProof.Rows L2 Mth
/-! the law's closed families -/
def goodR (b : Bool) (c : List Nat) : Prop := c.length ≤ 8 ∧ (∀ x ∈ c, x ≤ 1000000) ∧ Asc (bn b) c
theorem leN_totalU : PySem.W.TotalLe leN := ⟨fun a b c h1 h2 => by
    rw [← leP_row] at h1 h2 ⊢
    exact leP_total.trans _ _ _ h1 h2, fun a b => by
    rw [← leP_row, ← leP_row]
    exact leP_total.total _ _⟩
theorem sorted_rwU (l : List (List Nat)) : gSorted [.lst (l.map row)] = some (.lst ((isort leN l).map row)) := sorted_rows l
def colS (ks : List (List Nat)) (s : Nat) : List (List Nat) := (isort leN ((ks.filter fun c => Nat.beq c.length s).map List.reverse)).map List.reverse
def ordC (ks : List (List Nat)) : List (List Nat) := (List.range 9).flatMap (colS ks)
theorem colS_mem {ks : List (List Nat)} {s : Nat} {c : List Nat} : c ∈ colS ks s ↔ c ∈ ks ∧ c.length = s := by
  unfold colS
  rw [List.mem_map]
  constructor
  · rintro ⟨d, hd, rfl⟩
    have := (isort_permU leN _).mem_iff.mp hd
    obtain ⟨e, he, rfl⟩ := List.mem_map.mp this
    obtain ⟨h1, h2⟩ := List.mem_filter.mp he
    rw [List.reverse_reverse]
    exact ⟨h1, Nat.eq_of_beq_eq_true h2⟩
  · rintro ⟨h1, h2⟩
    refine ⟨c.reverse, (isort_permU leN _).mem_iff.mpr (List.mem_map.mpr ⟨c, List.mem_filter.mpr ⟨h1, ?_⟩, rfl⟩), List.reverse_reverse c⟩
    rw [h2]; exact Nat.beq_refl s
theorem colS_len (ks : List (List Nat)) (s : Nat) : (colS ks s).length = (ks.filter fun c => Nat.beq c.length s).length := by
  unfold colS
  rw [List.length_map, (isort_permU leN _).length_eq, List.length_map]
theorem colS_le (ks : List (List Nat)) (s : Nat) : (colS ks s).length ≤ ks.length := by
  rw [colS_len]
  exact List.length_filter_le _ _
theorem ordC_mem {ks : List (List Nat)} {c : List Nat} : c ∈ ordC ks ↔ c ∈ ks ∧ c.length < 9 := by
  unfold ordC
  rw [List.mem_flatMap]
  constructor
  · rintro ⟨s, hs, h⟩
    obtain ⟨h1, h2⟩ := colS_mem.mp h
    exact ⟨h1, by rw [h2]; exact List.mem_range.mp hs⟩
  · rintro ⟨h1, h2⟩
    exact ⟨c.length, List.mem_range.mpr h2, colS_mem.mpr ⟨h1, rfl⟩⟩
theorem colS_nd {ks : List (List Nat)} (h : ks.Nodup) (s : Nat) : (colS ks s).Nodup := by
  unfold colS
  have inj : ∀ a b : List Nat, a.reverse = b.reverse → a = b := fun a b e => by rw [← List.reverse_reverse a, e, List.reverse_reverse]
  have mp : ∀ l : List (List Nat), l.Nodup → (l.map List.reverse).Nodup := fun l hl => by
    unfold List.Nodup at hl ⊢
    rw [List.pairwise_map]
    exact hl.imp fun {a b} (z : a ≠ b) e => z (inj a b e)
  exact mp _ (((isort_permU leN _).nodup_iff).mpr (mp _ (h.filter _)))
theorem flat_nd {ks : List (List Nat)} (h : ks.Nodup) : ∀ (l : List Nat), l.Nodup → (l.flatMap (colS ks)).Nodup
  | [], _ => List.nodup_nil
  | s :: l, hl => by
    obtain ⟨h1, h2⟩ := List.nodup_cons.mp hl
    rw [List.flatMap_cons]
    refine List.nodup_append.mpr ⟨colS_nd h s, flat_nd h l h2, fun a ha b hb e => ?_⟩
    subst e
    obtain ⟨t, ht, hb⟩ := List.mem_flatMap.mp hb
    rw [(colS_mem.mp ha).2.symm, (colS_mem.mp hb).2] at h1
    exact h1 ht
theorem ordC_nd {ks : List (List Nat)} (h : ks.Nodup) : (ordC ks).Nodup := flat_nd h _ List.nodup_range
theorem ltaken_ok {cs : List Nat} (hl : cs.length ≤ 100) : m__law_taken [row cs] = ret (.lst ((takenL cs).map row)) := pure_of fun r => by
  unfold m__law_taken
  with_reducible refine w_run ?_
  show wpM (b__law_taken [.sh (row cs), .no] r) _ _
  unfold b__law_taken
  have gl := gl_rw cs
  walk_at "mr"
  with_reducible refine w_rg1 ?_ ?_
  · exact okR_of (by omega) (by omega)
  rw [Int.toNat_natCast, rgL_map]
  refine ⟨⟨by rw [List.length_map, List.length_range]; omega, rfl⟩, ?_⟩
  refine w_lcM (fun (k : Nat) => PV.int (k : Int)) (fun i => row (cs.take i ++ cs.drop (i + 1))) _ _ (fun i hi => ?_) ?_
  · rw [List.mem_range] at hi
    refine ⟨_, rfl, fun r4 => ?_⟩
    have s1 := sl_to (cs := cs) (k := i) (by omega)
    have s2 := sl_from (cs := cs) (k := i) (by omega)
    have ga : gAdd (row (cs.take i)) (row (cs.drop (i + 1))) = some (row (cs.take i ++ cs.drop (i + 1))) := by
      have : gCatT (row (cs.take i)) (row (cs.drop (i + 1))) = some (row (cs.take i ++ cs.drop (i + 1))) := by
        have e : row (cs.take i ++ cs.drop (i + 1)) = .tup ((cs.take i).map (fun (n : Nat) => PV.int (n : Int)) ++ (cs.drop (i + 1)).map fun (n : Nat) => PV.int (n : Int)) := by
          show PV.tup _ = PV.tup _
          rw [List.map_append]
        rw [e]
        exact if_pos (by rw [List.length_map, List.length_map, List.length_take, List.length_drop]; omega)
      show (match gCatT (row (cs.take i)) (row (cs.drop (i + 1))) with | some z => some z | none => _) = _
      rw [this]
    walk_at "mr"
    exact ⟨rfl, rfl⟩
  unfold takenL
  rw [List.map_map]
  exact ⟨rfl, rfl⟩
theorem rv_row (c : List Nat) : rvP (row c) = some (row c.reverse) := by
  show some (PV.tup (c.map fun (n : Nat) => PV.int (n : Int)).reverse) = some (PV.tup _)
  rw [List.map_reverse]
theorem lordered_ok {ks : List (List Nat)} (hl : ks.length ≤ 100000) : m__law_ordered [.lst (ks.map row)] = ret (.lst ((ordC ks).map row)) := pure_of fun r => by
  unfold m__law_ordered
  with_reducible refine w_run ?_
  show wpM (b__law_ordered [.sh (.lst (ks.map row)), .no, .no, .no, .no] r) _ _
  unfold b__law_ordered
  walk_at "mr"
  with_reducible refine w_rg1 ?_ ?_
  · rfl
  refine w_loop (fun i env r2 => ∃ x2 x3 x4, (i ≤ 9 ∧ r2 = r ∧ isOw (some x2) = false ∧ isOw (some x3) = false ∧ isOw (some x4) = false) ∧ env = [.sh (.lst (ks.map row)), .sh (.lst (((List.range i).flatMap (colS ks)).map row)), x2, x3, x4]) _ 0 _ _ ⟨.no, .no, .no, ⟨by omega, rfl, rfl, rfl, rfl⟩, rfl⟩ (fun i x env r2 hi hI => ?_) fun env r2 hI => ?_
  · obtain ⟨hi1, rfl⟩ := rgL_get hi
    obtain ⟨x2, x3, x4, ⟨a0, rfl, a2, a3, a4⟩, rfl⟩ := hI
    have hi9 : i < 9 := hi1
    refine ⟨_, gNm_ok (Nat.le_of_ble_eq_true rfl) a2, ?_⟩
    rw [Nat.zero_add, Int.zero_add, Int.mul_one]
    show wpM (sSet 1 _ [.sh (.lst (ks.map row)), .sh (.lst (((List.range i).flatMap (colS ks)).map row)), .sh (.int (i : Nat)), x3, x4] r2) _ _
    have fl : ((ks.filter fun c => Nat.beq c.length i).map List.reverse).length ≤ 100000 := by
      rw [List.length_map]
      exact Nat.le_trans (List.length_filter_le _ _) hl
    walk_at "mr"
    refine ⟨⟨by rw [List.length_map]; omega, by show (!isOw (some x4) && true) = true; rw [a4]; rfl⟩, ?_⟩
    refine w_lcG row (fun c => Nat.beq c.length i) (fun c => row c.reverse) ks _ (fun c hc => ?_) ?_
    · refine ⟨[.sh (.lst (ks.map row)), .sh (.lst (((List.range i).flatMap (colS ks)).map row)), .sh (.int (i : Nat)), x3, .sh (row c)], rfl, fun r4 => ⟨?_, fun _ => ?_⟩⟩
      · have gl := gl_rw c
        have g := nat_eq c.length i
        walk_at "mr"
        exact ⟨rfl, rfl⟩
      · have g := rv_row c
        walk_at "mr"
        exact ⟨rfl, rfl⟩
    have so := sorted_rwU ((ks.filter fun c => Nat.beq c.length i).map List.reverse)
    rw [List.map_map] at so
    have so : gSorted [.lst ((ks.filter fun c => Nat.beq c.length i).map fun c => row c.reverse)] = some (.lst ((isort leN ((ks.filter fun c => Nat.beq c.length i).map List.reverse)).map row)) := so
    have il : (isort leN ((ks.filter fun c => Nat.beq c.length i).map List.reverse)).length ≤ 100000 := by rw [(isort_permU leN _).length_eq]; exact fl
    walk_at "mr"
    refine ⟨⟨by rw [List.length_map]; omega, by show (!isOw (some x3) && true) = true; rw [a3]; rfl⟩, ?_⟩
    refine w_lcM row (fun c => row c.reverse) _ _ (fun c hc => ?_) ?_
    · refine ⟨[.sh (.lst (ks.map row)), .sh (.lst (((List.range i).flatMap (colS ks)).map row)), .sh (.int (i : Nat)), .sh (row c), x4], rfl, fun r4 => ?_⟩
      have g := rv_row c
      walk_at "mr"
      exact ⟨rfl, rfl⟩
    have e : ((isort leN ((ks.filter fun c => Nat.beq c.length i).map List.reverse)).map fun c => row c.reverse) = (colS ks i).map row := by
      unfold colS
      rw [List.map_map]; rfl
    rw [e]
    have fl2 : ∀ n, ((List.range n).flatMap (colS ks)).length ≤ n * 100000 := fun n => by
      induction n with
      | zero => exact Nat.le_refl _
      | succ n ih =>
        rw [List.range_succ, List.flatMap_append, List.length_append, List.flatMap_singleton]
        have := colS_le ks n
        omega
    have ga := gAdd_lst (xs := ((List.range i).flatMap (colS ks)).map row) (ys := (colS ks i).map row) (by
      have := fl2 i
      have := colS_le ks i
      rw [List.length_map, List.length_map]
      omega)
    rw [← List.map_append] at ga
    walk_at "mr"
    refine ⟨.sh (.int (i : Nat)), x3, x4, ⟨by omega, rfl, rfl, a3, a4⟩, ?_⟩
    rw [List.range_succ, List.flatMap_append, List.flatMap_singleton]; rfl
  · obtain ⟨x2, x3, x4, ⟨a0, rfl, a2, a3, a4⟩, rfl⟩ := hI
    walk_at "mr"
    exact ⟨rfl, rfl⟩
end Mir.k14

namespace Mir.k14
open PySem PySem.Spec PyProof.Rows L2 Mth
def putAll (ks xs : List (List Nat)) : List (List Nat) := xs.foldl (fun l x => (takenL x).foldl addK l) ks
def stepC (ks : List (List Nat)) (s : Nat) : List (List Nat) := putAll ks (ks.filter fun c => Nat.beq c.length s)
def cloN (ls : List (List Nat)) (n : Nat) : List (List Nat) := (List.range n).foldl (fun ks i => stepC ks (8 - i)) (ls.foldl addK [])
def cloL (ls : List (List Nat)) : List (List Nat) := cloN ls 8
theorem cloN_succ (ls : List (List Nat)) (n : Nat) : cloN ls (n + 1) = stepC (cloN ls n) (8 - n) := by
  unfold cloN
  rw [List.range_succ, List.foldl_append]; rfl
theorem putAll_mem {xs : List (List Nat)} : ∀ {ks : List (List Nat)} {z : List Nat}, z ∈ putAll ks xs ↔ z ∈ ks ∨ ∃ x ∈ xs, z ∈ takenL x := by
  induction xs with
  | nil =>
    intro ks z
    exact ⟨.inl, fun h => h.elim id fun ⟨x, hx, _⟩ => by cases hx⟩
  | cons y xs ih =>
    intro ks z
    have e : putAll ks (y :: xs) = putAll ((takenL y).foldl addK ks) xs := rfl
    rw [e, ih, foldK_mem]
    constructor
    · rintro ((h | h) | ⟨x, hx, h⟩)
      · exact .inl h
      · exact .inr ⟨y, List.mem_cons_self, h⟩
      · exact .inr ⟨x, List.mem_cons_of_mem _ hx, h⟩
    · rintro (h | ⟨x, hx, h⟩)
      · exact .inl (.inl h)
      · rcases List.mem_cons.mp hx with rfl | hx
        · exact .inl (.inr h)
        · exact .inr ⟨x, hx, h⟩
theorem putAll_nd {xs : List (List Nat)} : ∀ {ks : List (List Nat)}, ks.Nodup → (putAll ks xs).Nodup := by
  induction xs with
  | nil => intro ks h; exact h
  | cons y xs ih =>
    intro ks h
    exact ih (foldK_nd h)
theorem cloN_nd (ls : List (List Nat)) : ∀ n, (cloN ls n).Nodup
  | 0 => foldK_nd List.nodup_nil
  | n + 1 => by rw [cloN_succ]; exact putAll_nd (cloN_nd ls n)
theorem cloN_sub {U ls : List (List Nat)} (hU : Uni U) (hs : ∀ c ∈ ls, c ∈ U) : ∀ n, ∀ c ∈ cloN ls n, c ∈ U
  | 0, c, h => by
    rcases foldK_mem.mp h with h | h
    · cases h
    · exact hs c h
  | n + 1, c, h => by
    rw [cloN_succ] at h
    rcases putAll_mem.mp h with h | ⟨x, hx, h⟩
    · exact cloN_sub hU hs n c h
    · exact hU.cl x (cloN_sub hU hs n x (List.mem_filter.mp hx).1) c h
theorem cloN_has {ls : List (List Nat)} {c : List Nat} (h : c ∈ ls) : ∀ n, c ∈ cloN ls n
  | 0 => foldK_mem.mpr (.inr h)
  | n + 1 => by rw [cloN_succ]; exact putAll_mem.mpr (.inl (cloN_has h n))
theorem cloN_cl {U ls : List (List Nat)} (hU : Uni U) (hs : ∀ c ∈ ls, c ∈ U) : ∀ n, n ≤ 8 → ∀ c ∈ cloN ls n, 8 - n < c.length → ∀ y ∈ takenL c, y ∈ cloN ls n
  | 0, _, c, h, hc => by
    have := (hU.ok c (cloN_sub hU hs 0 c h)).1
    omega
  | n + 1, hn, c, h, hc => fun y hy => by
    have hy2 := takenL_len hy
    rw [cloN_succ] at h ⊢
    rcases putAll_mem.mp h with h | ⟨x, hx, h⟩
    · by_cases q : c.length = 8 - n
      · exact putAll_mem.mpr (.inr ⟨c, List.mem_filter.mpr ⟨h, by rw [q]; exact Nat.beq_refl _⟩, hy⟩)
      · exact putAll_mem.mpr (.inl (cloN_cl hU hs n (by omega) c h (by omega) y hy))
    · have h1 := takenL_len h
      have h2 := Nat.eq_of_beq_eq_true (List.mem_filter.mp hx).2
      omega
theorem cloL_clo {U ls : List (List Nat)} (hU : Uni U) (hs : ∀ c ∈ ls, c ∈ U) : Clo U ls (cloL ls) where
  nd := cloN_nd ls 8
  sub := cloN_sub hU hs 8
  has := fun c hc => cloN_has hc 8
  cl := fun c hc y hy => cloN_cl hU hs 8 (Nat.le_refl _) c hc (by have := takenL_len hy; omega) y hy
/-- all is below something given -/
theorem cloN_low {ls : List (List Nat)} : ∀ n, ∀ c ∈ cloN ls n, ∃ d ∈ ls, c.Sublist d
  | 0, c, h => by
    rcases foldK_mem.mp h with h | h
    · cases h
    · exact ⟨c, h, List.Sublist.refl c⟩
  | n + 1, c, h => by
    rw [cloN_succ] at h
    rcases putAll_mem.mp h with h | ⟨x, hx, h⟩
    · exact cloN_low n c h
    · obtain ⟨d, h1, h2⟩ := cloN_low n x (List.mem_filter.mp hx).1
      exact ⟨d, h1, (takenL_sub h).trans h2⟩
theorem ordC_clo {U ls F : List (List Nat)} (hU : Uni U) (h : Clo U ls F) : Clo U ls (ordC F) where
  nd := ordC_nd h.nd
  sub := fun c hc => h.sub c (ordC_mem.mp hc).1
  has := fun c hc => ordC_mem.mpr ⟨h.has c hc, by have := (hU.ok c (h.sub c (h.has c hc))).1; omega⟩
  cl := fun c hc y hy => by
    have := h.cl c (ordC_mem.mp hc).1 y hy
    exact ordC_mem.mpr ⟨this, by have := (hU.ok y (h.sub y this)).1; omega⟩
theorem keys_encK (ks : List (List Nat)) : keysT (ks.map encK) = ks.map row := by
  unfold keysT
  rw [List.map_map]
  exact List.map_congr_left fun c _ => (row_kT c).symm
theorem addK_len (ks : List (List Nat)) (y : List Nat) : (addK ks y).length ≤ ks.length + 1 := by
  unfold addK
  split
  · omega
  · rw [List.length_append, List.length_singleton]; exact Nat.le_refl _
theorem foldK_len (ys : List (List Nat)) : ∀ ks : List (List Nat), (ys.foldl addK ks).length ≤ ks.length + ys.length := by
  induction ys with
  | nil => intro ks; exact Nat.le_refl _
  | cons y ys ih =>
    intro ks
    have a1 := ih (addK ks y)
    have a2 := addK_len ks y
    rw [List.foldl_cons, List.length_cons]
    omega
theorem taken_len8 {c : List Nat} (h : c.length ≤ 8) : (takenL c).length ≤ 8 := by
  unfold takenL
  rw [List.length_map, List.length_range]; exact h
theorem dl2 {k0 k3 k4 k5 : Slot} {r : RS} : ∀ (ys ks : List (List Nat)) (x2 : Slot), ks.length + ys.length ≤ 1000000 → isOw (some x2) = false → ∀ {K : Fl → RS → Prop} {E : Exn → RS → Prop}, (∀ x2, isOw (some x2) = false → K (.nx [k0, .ow (dicT ((ys.foldl addK ks).map encK)), x2, k3, k4, k5]) r) →
    wpM (loopF (gNm 2) (sDput 1 (eVar 2) (eC (.bl true))) (ys.map row) [k0, .ow (dicT (ks.map encK)), x2, k3, k4, k5] r) K E
  | [], ks, x2, hl, o2, K, E, k => k x2 o2
  | y :: ys, ks, x2, hl, o2, K, E, k => by
    rw [List.length_cons] at hl
    rw [List.map_cons]
    have gn : gNm 2 (row y) [k0, .ow (dicT (ks.map encK)), x2, k3, k4, k5] = some [k0, .ow (dicT (ks.map encK)), .sh (row y), k3, k4, k5] := gNm_ok (Nat.le_of_ble_eq_true rfl) o2
    with_reducible refine w_lp gn ?_
    refine w_dput (l := ks.map encK) ?_
    walk_at "mr"
    refine ⟨rfl, ?_⟩
    walk_at "mr"
    refine ⟨zz y, by rw [row_kT, tkey_kT], by rw [List.length_map]; omega, ?_⟩
    rw [putD_encK]
    exact dl2 ys (addK ks y) (.sh (row y)) (by have := addK_len ks y; omega) rfl k
theorem dl4 {k0 k2 k3 k5 : Slot} {r : RS} : ∀ (ys ks : List (List Nat)) (x4 : Slot), ks.length + ys.length ≤ 1000000 → isOw (some x4) = false → ∀ {K : Fl → RS → Prop} {E : Exn → RS → Prop}, (∀ x4, isOw (some x4) = false → K (.nx [k0, .ow (dicT ((ys.foldl addK ks).map encK)), k2, k3, x4, k5]) r) →
    wpM (loopF (gNm 4) (sDput 1 (eVar 4) (eC (.bl true))) (ys.map row) [k0, .ow (dicT (ks.map encK)), k2, k3, x4, k5] r) K E
  | [], ks, x4, hl, o4, K, E, k => k x4 o4
  | y :: ys, ks, x4, hl, o4, K, E, k => by
    rw [List.length_cons] at hl
    rw [List.map_cons]
    have gn : gNm 4 (row y) [k0, .ow (dicT (ks.map encK)), k2, k3, x4, k5] = some [k0, .ow (dicT (ks.map encK)), k2, k3, .sh (row y), k5] := gNm_ok (Nat.le_of_ble_eq_true rfl) o4
    with_reducible refine w_lp gn ?_
    refine w_dput (l := ks.map encK) ?_
    walk_at "mr"
    refine ⟨rfl, ?_⟩
    walk_at "mr"
    refine ⟨zz y, by rw [row_kT, tkey_kT], by rw [List.length_map]; omega, ?_⟩
    rw [putD_encK]
    exact dl4 ys (addK ks y) (.sh (row y)) (by have := addK_len ks y; omega) rfl k
theorem dlx {k0 k3 k5 : Slot} {r : RS} : ∀ (xs ks : List (List Nat)) (x2 x4 : Slot), ks.length + 8 * xs.length ≤ 1000000 → (∀ c ∈ xs, c.length ≤ 8) → isOw (some x2) = false → isOw (some x4) = false → ∀ {K : Fl → RS → Prop} {E : Exn → RS → Prop}, (∀ x2 x4, isOw (some x2) = false → isOw (some x4) = false → K (.nx [k0, .ow (dicT ((putAll ks xs).map encK)), x2, k3, x4, k5]) r) →
    wpM (loopF (gNm 2) (sFor (iLst (eCall 1 m__law_taken (aCons (eVar 2) (aNil)))) (gNm 4) (sDput 1 (eVar 4) (eC (.bl true)))) (xs.map row) [k0, .ow (dicT (ks.map encK)), x2, k3, x4, k5] r) K E
  | [], ks, x2, x4, hl, h8, o2, o4, K, E, k => k x2 x4 o2 o4
  | x :: xs, ks, x2, x4, hl, h8, o2, o4, K, E, k => by
    rw [List.length_cons] at hl
    rw [List.map_cons]
    have gn : gNm 2 (row x) [k0, .ow (dicT (ks.map encK)), x2, k3, x4, k5] = some [k0, .ow (dicT (ks.map encK)), .sh (row x), k3, x4, k5] := gNm_ok (Nat.le_of_ble_eq_true rfl) o2
    with_reducible refine w_lp gn ?_
    have x8 := h8 x List.mem_cons_self
    have pt := ltaken_ok (cs := x) (by omega)
    have t8 := taken_len8 x8
    walk_at "mr"
    refine dl4 (takenL x) ks x4 (by omega) o4 fun x4 o4 => ?_
    have fl := foldK_len (takenL x) ks
    exact dlx xs ((takenL x).foldl addK ks) (.sh (row x)) x4 (by omega) (fun c hc => h8 c (List.mem_cons_of_mem _ hc)) rfl o4 k
theorem lclosed_ok {ls U : List (List Nat)} (hU : Uni U) (hl : ls.length ≤ 10000) (hs : ∀ c ∈ ls, c ∈ U) : m__law_closed [.lst (ls.map row)] = ret (.lst ((ordC (cloL ls)).map row)) := pure_of fun r => by
  unfold m__law_closed
  with_reducible refine w_run ?_
  show wpM (b__law_closed [.sh (.lst (ls.map row)), .no, .no, .no, .no, .no] r) _ _
  unfold b__law_closed
  have ul := hU.len
  have nl : ∀ n, (cloN ls n).length ≤ 10000 := fun n => Nat.le_trans (nd_sub_len (cloN_nd ls n) (cloN_sub hU hs n)) ul
  walk_at "mr"
  refine dl2 ls [] .no (by rw [List.length_nil]; omega) rfl fun x2 o2 => ?_
  walk_at "mr"
  with_reducible refine w_rgD ?_ ?_
  · rfl
  refine w_loop (fun i env r2 => ∃ x2 x3 x4, (i ≤ 8 ∧ r2 = r ∧ isOw (some x2) = false ∧ isOw (some x3) = false ∧ isOw (some x4) = false) ∧ env = [.sh (.lst (ls.map row)), .ow (dicT ((cloN ls i).map encK)), x2, x3, x4, .no]) _ 0 _ _ ⟨x2, .no, .no, ⟨by omega, rfl, o2, rfl, rfl⟩, rfl⟩ (fun i x env r2 hi hI => ?_) fun env r2 hI => ?_
  · obtain ⟨hi1, rfl⟩ := rgL_get hi
    obtain ⟨x2, x3, x4, ⟨a0, rfl, a2, a3, a4⟩, rfl⟩ := hI
    have hi8 : i < 8 := hi1
    refine ⟨_, gNm_ok (Nat.le_of_ble_eq_true rfl) a3, ?_⟩
    rw [Nat.zero_add]
    have e8 : (8 : Int) + (i : Int) * -1 = ((8 - i : Nat) : Int) := by omega
    rw [e8]
    show wpM (sFor _ _ _ [.sh (.lst (ls.map row)), .ow (dicT ((cloN ls i).map encK)), x2, .sh (.int ((8 - i : Nat) : Int)), x4, .no] r2) _ _
    have n1 := nl i
    have c8 : ∀ c ∈ cloN ls i, c.length ≤ 8 := fun c hc => (hU.ok c (cloN_sub hU hs i c hc)).1
    have cs := cloN_succ ls i
    rw [cs]
    unfold stepC
    generalize cloN ls i = ks at *
    have fl := List.length_filter_le (fun c : List Nat => Nat.beq c.length (8 - i)) ks
    walk_at "mr"
    refine w_lcD (l := ks.map encK) rfl (by rw [List.length_map]; omega) rfl ?_
    rw [keys_encK]
    refine w_lcG row (fun c => Nat.beq c.length (8 - i)) row ks _ (fun c hc => ?_) ?_
    · refine ⟨[.sh (.lst (ls.map row)), .no, x2, .sh (.int ((8 - i : Nat) : Int)), x4, .sh (row c)], rfl, fun r4 => ⟨?_, fun _ => ?_⟩⟩
      · have gl := gl_rw c
        have g := nat_eq c.length (8 - i)
        walk_at "mr"
        exact ⟨rfl, rfl⟩
      · walk_at "mr"
        exact ⟨rfl, rfl⟩
    walk_at "mr"
    refine dlx (ks.filter fun c => Nat.beq c.length (8 - i)) ks x2 x4 (by omega) (fun c hc => c8 c (List.mem_filter.mp hc).1) a2 a4 fun x2 x4 o2 o4 => ?_
    exact ⟨x2, _, x4, ⟨by omega, rfl, o2, rfl, o4⟩, rfl⟩
  · obtain ⟨x2, x3, x4, ⟨a0, rfl, a2, a3, a4⟩, rfl⟩ := hI
    have e9 : 0 + (rgL 8 (-1) ((8 : Int) - 0).toNat).length = 8 := by rw [rgL_len]; rfl
    rw [e9]
    have n8 := nl 8
    unfold cloL
    generalize cloN ls 8 = F at *
    have g := lst_encK F
    have po := lordered_ok (ks := F) (by omega)
    walk_at "mr"
    exact ⟨rfl, rfl⟩
end Mir.k14

namespace Mir.k14
open PySem PySem.Spec PyProof.Rows L2 Mth
/-! what lies below: all that is left when things are taken away -/
def subs : List Nat → List (List Nat)
  | [] => [[]]
  | a :: l => subs l ++ (subs l).map (a :: ·)
theorem subs_mem : ∀ {d c : List Nat}, c ∈ subs d ↔ c.Sublist d
  | [], c => by
    show c ∈ [[]] ↔ _
    rw [List.mem_singleton, List.sublist_nil]
  | a :: d, c => by
    show c ∈ subs d ++ (subs d).map (a :: ·) ↔ _
    rw [List.mem_append, List.mem_map, subs_mem, List.sublist_cons_iff]
    refine or_congr Iff.rfl ⟨fun ⟨r, hr, e⟩ => ⟨r, e.symm, subs_mem.mp hr⟩, fun ⟨r, e, hr⟩ => ⟨r, subs_mem.mpr hr, e.symm⟩⟩
theorem subs_len : ∀ d : List Nat, (subs d).length = 2 ^ d.length
  | [] => rfl
  | a :: d => by
    show (subs d ++ (subs d).map (a :: ·)).length = _
    rw [List.length_append, List.length_map, subs_len d, List.length_cons, Nat.pow_succ]
    omega
theorem taken_cons (a : Nat) (d : List Nat) : takenL (a :: d) = d :: (takenL d).map (a :: ·) := by
  unfold takenL
  rw [List.length_cons, List.range_succ_eq_map, List.map_cons, List.map_map, List.map_map]; rfl
theorem taken_up : ∀ {d c : List Nat}, c.Sublist d → c.length < d.length → ∃ y ∈ takenL d, c.Sublist y
  | [], c, _, hl => by cases hl
  | a :: d, c, h, hl => by
    rw [taken_cons]
    rcases List.sublist_cons_iff.mp h with h2 | ⟨r, rfl, h2⟩
    · exact ⟨d, List.mem_cons_self, h2⟩
    · rw [List.length_cons, List.length_cons] at hl
      obtain ⟨y, hy, z⟩ := taken_up h2 (by omega)
      exact ⟨a :: y, List.mem_cons_of_mem _ (List.mem_map.mpr ⟨y, hy, rfl⟩), z.cons₂ a⟩
theorem closed_down {F : List (List Nat)} (cl : ∀ c ∈ F, ∀ y ∈ takenL c, y ∈ F) : ∀ (n : Nat) (c d : List Nat), d ∈ F → c.Sublist d → d.length = c.length + n → c ∈ F
  | 0, c, d, hd, h, e => by rw [h.eq_of_length (by omega)]; exact hd
  | n + 1, c, d, hd, h, e => by
    obtain ⟨y, hy, z⟩ := taken_up h (by omega)
    have := takenL_len hy
    exact closed_down cl n c y (cl d hd y hy) z (by omega)
def downU (ls : List (List Nat)) : List (List Nat) := ls.flatMap subs
theorem down_mem {ls : List (List Nat)} {c : List Nat} : c ∈ downU ls ↔ ∃ d ∈ ls, c.Sublist d := by
  unfold downU
  rw [List.mem_flatMap]
  exact ⟨fun ⟨d, hd, h⟩ => ⟨d, hd, subs_mem.mp h⟩, fun ⟨d, hd, h⟩ => ⟨d, hd, subs_mem.mpr h⟩⟩
theorem down_len {ls : List (List Nat)} {M : Nat} (h : ∀ c ∈ ls, c.length ≤ M) : (downU ls).length ≤ ls.length * 2 ^ M := by
  unfold downU
  induction ls with
  | nil => rw [List.flatMap_nil, List.length_nil, Nat.zero_mul]; exact Nat.le_refl _
  | cons c ls ih =>
    rw [List.flatMap_cons, List.length_append, subs_len, List.length_cons, Nat.add_mul, Nat.one_mul]
    have h1 := ih fun d hd => h d (List.mem_cons_of_mem _ hd)
    have h2 := Nat.pow_le_pow_right (n := 2) (by decide) (h c List.mem_cons_self)
    omega
theorem down_has {ls : List (List Nat)} : ∀ c ∈ ls, c ∈ downU ls := fun c hc => down_mem.mpr ⟨c, hc, List.Sublist.refl c⟩
theorem down_uni {ls : List (List Nat)} (hl : ls.length ≤ 39) (h : ∀ c ∈ ls, c.length ≤ 8 ∧ ∀ x ∈ c, x < 2 ^ 60) : Uni (downU ls) where
  len := by
    have := down_len (M := 8) fun c hc => (h c hc).1
    omega
  ok := fun c hc => by
    obtain ⟨d, hd, z⟩ := down_mem.mp hc
    obtain ⟨h1, h2⟩ := h d hd
    have := z.length_le
    exact ⟨by omega, fun x hx => h2 x (z.subset hx)⟩
  cl := fun c hc y hy => by
    obtain ⟨d, hd, z⟩ := down_mem.mp hc
    exact down_mem.mpr ⟨d, hd, (takenL_sub hy).trans z⟩
theorem clo_mem {ls F : List (List Nat)} (C : Clo (downU ls) ls F) {c : List Nat} : c ∈ F ↔ ∃ d ∈ ls, c.Sublist d := by
  constructor
  · exact fun h => down_mem.mp (C.sub c h)
  · rintro ⟨d, hd, h⟩
    have := h.length_le
    exact closed_down C.cl (d.length - c.length) c d (C.has d hd) h (by omega)
/-! the order of places is the order of the things read from the greatest -/
theorem pw_same {α : Type} {R : α → α → Prop} : ∀ {l m : List α}, (∀ a ∈ l, ∀ b ∈ l, R a b → R b a → a = b) → l.Perm m → l.Pairwise R → m.Pairwise R → l = m
  | [], m, _, p, _, _ => by rw [List.nil_perm.mp p]
  | a :: l, [], _, p, _, _ => by have := p.length_eq; simp at this
  | a :: l, b :: m, anti, p, hl, hm => by
    obtain ⟨h1, h2⟩ := List.pairwise_cons.mp hl
    obtain ⟨k1, k2⟩ := List.pairwise_cons.mp hm
    have e : a = b := by
      have ma : a ∈ b :: m := p.mem_iff.mp List.mem_cons_self
      have mb : b ∈ a :: l := p.mem_iff.mpr List.mem_cons_self
      rcases List.mem_cons.mp ma with z | z
      · exact z
      · rcases List.mem_cons.mp mb with y | y
        · exact y.symm
        · exact anti a List.mem_cons_self b mb (h1 b y) (k1 a z)
    subst e
    rw [pw_same (fun x hx y hy => anti x (List.mem_cons_of_mem _ hx) y (List.mem_cons_of_mem _ hy)) ((List.perm_cons a).mp p) h2 k2]
theorem lex_pl {m : Nat} : ∀ {a b : List Nat}, a.length = b.length → Desc (updD m a) → Desc (updD m b) → leN a b = true → plD (updD m a) ≤ plD (updD m b)
  | [], [], _, _, _, _ => Nat.le_refl _
  | [], _ :: _, e, _, _, _ => by cases e
  | _ :: _, [], e, _, _, _ => by cases e
  | x :: a, y :: b, e, da, db, h => by
    have e' : a.length = b.length := by rw [List.length_cons, List.length_cons] at e; omega
    have h' : (if x = y then leN a b else decide (x < y)) = true := h
    show ch (x + m * a.length) ((updD m a).length + 1) + plD (updD m a) ≤ ch (y + m * b.length) ((updD m b).length + 1) + plD (updD m b)
    have da : Desc ((x + m * a.length) :: updD m a) := da
    have db : Desc ((y + m * b.length) :: updD m b) := db
    have pa := plD_lt da
    rw [updD_len] at pa ⊢
    rw [updD_len, ← e'] 
    by_cases q : x = y
    · subst q
      rw [if_pos rfl] at h'
      have := lex_pl e' (List.pairwise_cons.mp da).2 (List.pairwise_cons.mp db).2 h'
      omega
    · rw [if_neg q] at h'
      have lt := of_decide_eq_true h'
      have s := ch_s (x + m * a.length) a.length
      have mo := ch_mono (n := x + m * a.length + 1) (m := y + m * a.length) (a.length + 1) (by omega)
      omega
theorem asc_rev {m : Nat} {c : List Nat} (h : Asc m c) : c.reverse.Pairwise (fun a b => b + (1 - m) ≤ a) := List.pairwise_reverse.mpr h
theorem colS_pw {b : Bool} {ks : List (List Nat)} (ha : ∀ c ∈ ks, Asc (bn b) c) (s : Nat) : (colS ks s).Pairwise fun c d => plA (bn b) 0 c ≤ plA (bn b) 0 d := by
  have mem : ∀ a ∈ isort leN ((ks.filter fun c => Nat.beq c.length s).map List.reverse), a.length = s ∧ Desc (updD (bn b) a) := fun a h => by
    obtain ⟨c, hc, rfl⟩ := List.mem_map.mp ((isort_permU leN _).mem_iff.mp h)
    obtain ⟨h1, h2⟩ := List.mem_filter.mp hc
    exact ⟨by rw [List.length_reverse]; exact Nat.eq_of_beq_eq_true h2, upd_desc (bnle b) (asc_rev (ha c h1))⟩
  unfold colS
  rw [List.pairwise_map]
  refine List.Pairwise.imp_of_mem (fun {x y} hx hy z => ?_) (isort_sorted leN_totalU _)
  obtain ⟨l1, d1⟩ := mem x hx
  obtain ⟨l2, d2⟩ := mem y hy
  rw [plA_rev, plA_rev]
  exact lex_pl (by omega) d1 d2 z
theorem ordC_pw {b : Bool} {ks : List (List Nat)} (ha : ∀ c ∈ ks, Asc (bn b) c) : (ordC ks).Pairwise fun c d => c.length < d.length ∨ (c.length = d.length ∧ plA (bn b) 0 c ≤ plA (bn b) 0 d) := by
  unfold ordC
  rw [List.pairwise_flatMap]
  refine ⟨fun s _ => ?_, ?_⟩
  · refine List.Pairwise.imp_of_mem (fun {x y} hx hy z => ?_) (colS_pw ha s)
    exact .inr ⟨by rw [(colS_mem.mp hx).2, (colS_mem.mp hy).2], z⟩
  · refine List.Pairwise.imp (fun {s t} z x hx y hy => ?_) List.pairwise_lt_range
    exact .inl (by rw [(colS_mem.mp hx).2, (colS_mem.mp hy).2]; exact z)
theorem T_anti {b : Bool} {c d : List Nat} (hc : Asc (bn b) c) (hd : Asc (bn b) d) (h1 : c.length < d.length ∨ (c.length = d.length ∧ plA (bn b) 0 c ≤ plA (bn b) 0 d)) (h2 : d.length < c.length ∨ (d.length = c.length ∧ plA (bn b) 0 d ≤ plA (bn b) 0 c)) : c = d := by
  have e : c.length = d.length ∧ plA (bn b) 0 c = plA (bn b) 0 d := by omega
  have u1 := lotB_uni (bnle b) hc
  have u2 := lotB_uni (bnle b) hd
  rw [← u1, e.1, e.2, u2]
/-- in the program's order and in the law's: the same -/
theorem ord_same {b : Bool} {ks ks' : List (List Nat)} (nd : ks.Nodup) (nd' : ks'.Nodup) (h8 : ∀ c ∈ ks', c.length < 9) (same : ∀ c, c ∈ ks ↔ c ∈ ks') (ha : ∀ c ∈ ks, Asc (bn b) c) : ordT b ks = ordC ks' := by
  have pm := ordT_perm b ks
  refine pw_same (fun c hc d hd h1 h2 => T_anti (ha c (pm.mem_iff.mp hc)) (ha d (pm.mem_iff.mp hd)) h1 h2) ?_ (ordT_sorted b ks) (ordC_pw fun c hc => ha c ((same c).mpr hc))
  refine perm_same (pm.nodup_iff.mpr nd) (ordC_nd nd') fun c => ?_
  rw [pm.mem_iff, ordC_mem, same c]
  exact ⟨fun h => ⟨h, h8 c h⟩, fun h => h.1⟩
end Mir.k14

namespace Mir.k14
open PySem PySem.Spec PyProof.Rows L2 Mth
/-! the closed family of some lots, as the program and as the law have it -/
def famC (ls : List (List Nat)) : List (List Nat) := ordC (cloL ls)
section
variable {b : Bool} {ls : List (List Nat)}
theorem down_good (hl : ls.length ≤ 39) (hg : ∀ c ∈ ls, goodR b c) : Uni (downU ls) := down_uni hl fun c hc => ⟨(hg c hc).1, fun x hx => by have := (hg c hc).2.1 x hx; omega⟩
theorem ord_famC (hl : ls.length ≤ 39) (hg : ∀ c ∈ ls, goodR b c) {F : List (List Nat)} (C : Clo (downU ls) ls F) : ordT b F = famC ls := by
  have C' := cloL_clo (down_good hl hg) (down_has (ls := ls))
  refine ord_same C.nd C'.nd (fun c hc => ?_) (fun c => by rw [clo_mem C, clo_mem C']) fun c hc => ?_
  · obtain ⟨d, hd, z⟩ := (clo_mem C').mp hc
    have := (hg d hd).1
    have := z.length_le
    omega
  · obtain ⟨d, hd, z⟩ := (clo_mem C).mp hc
    exact List.Pairwise.sublist z (hg d hd).2.2
theorem closed_of_eq {sv : PV} (tl : gToL [sv] = some (.lst (ls.map row))) (hl : ls.length ≤ 39) (hg : ∀ c ∈ ls, goodR b c) : m_closed_of [kindP b, sv] = ret (.lst ((famC ls).map row)) := pure_of fun r => by
  refine closed_of_okS tl (down_good hl hg) (by omega) down_has fun F C => ?_
  rw [ord_famC hl hg C]
  exact ⟨rfl, rfl⟩
theorem lots_goodR {sv : PV} (hs : sv = .lst (ls.map row) ∨ sv = .tup (ls.map row)) (hg : ∀ c ∈ ls, goodR b c) : m_check_lots [kindP b, sv] = ret .non := lots_good hs fun v hv => by
  obtain ⟨c, hc, rfl⟩ := List.mem_map.mp hv
  obtain ⟨g1, g2, g3⟩ := hg c hc
  have := is_lot_row (b := b) g1 g2
  rw [decide_eq_true g3] at this
  exact this
end
theorem lcounts_ok {ls : List (List Nat)} (hl : ls.length ≤ 1000) (hs : ∀ c ∈ ls, c.length ≤ 1000) : m__law_counts [.lst (ls.map row)] = ret (row (cntL ls)) := pure_of fun r => by
  unfold m__law_counts
  with_reducible refine w_run ?_
  show wpM (b__law_counts [.sh (.lst (ls.map row)), .no, .no, .no] r) _ _
  unfold b__law_counts
  have mx := mxS_le hs
  walk_at "mr"
  refine ⟨⟨by rw [List.length_map]; omega, rfl⟩, ?_⟩
  refine w_lcM row (fun c => PV.int ((c.length : Nat) : Int)) ls _ (fun c hc => ?_) ?_
  · refine ⟨_, rfl, fun r4 => ?_⟩
    have g := gl_rw c
    walk_at "mr"
    exact ⟨rfl, rfl⟩
  have ne := ne_nilI (ls.map fun c => ((c.length : Nat) : Int))
  rw [List.map_map] at ne
  have ne : gNe (.lst (ls.map fun c => PV.int ((c.length : Nat) : Int))) (.lst []) = some (.bl (!ls.isEmpty)) := by
    cases ls with
    | nil => exact ne
    | cons c ls => exact ne
  cases ls with
  | nil =>
    have ne2 : gNe (.lst (([] : List (List Nat)).map fun c => PV.int ((c.length : Nat) : Int))) (.lst []) = some (.bl false) := ne
    walk_at "mr"
    exact ⟨rfl, rfl⟩
  | cons c ls =>
    have gm : gMax [.lst ((c :: ls).map fun c => PV.int ((c.length : Nat) : Int))] = some (.int (mxS (c :: ls) : Nat)) := by
      show (ints? ((c :: ls).map fun c => PV.int ((c.length : Nat) : Int))).map (fun ns => PV.int (lmax ns)) = _
      rw [ints_len, ← lmax_len]; rfl
    have e1 : (mxS (c :: ls) : Int) + 1 = ((mxS (c :: ls) + 1 : Nat) : Int) := by omega
    have ne2 : gNe (.lst ((c :: ls).map fun c => PV.int ((c.length : Nat) : Int))) (.lst []) = some (.bl true) := ne
    have e2 : cntL (c :: ls) = (List.range (mxS (c :: ls) + 1)).map (cntS (c :: ls)) := rfl
    rw [e2]
    generalize c :: ls = ls at *
    walk_at "mr"
    rw [e1]
    with_reducible refine w_rg1 ?_ ?_
    · exact okR_of (by omega) (by omega)
    rw [Int.toNat_natCast, rgL_map]
    refine ⟨⟨by rw [List.length_map, List.length_range]; omega, rfl⟩, ?_⟩
    refine w_lcM (fun (k : Nat) => PV.int (k : Int)) (fun s => PV.int ((cntS ls s : Nat) : Int)) _ _ (fun s hs => ?_) ?_
    · refine ⟨_, rfl, fun r4 => ?_⟩
      have gc : gCnt (ls.map fun c => PV.int ((c.length : Nat) : Int)) (.int (s : Nat)) = some (.int ((cntS ls s : Nat) : Int)) := by
        show (ints? (ls.map fun c => PV.int ((c.length : Nat) : Int))).map (fun ns => PV.int (ns.count (s : Int) : Nat)) = _
        rw [ints_len, Option.map_some, count_len]
      walk_at "mr"
      exact ⟨rfl, rfl⟩
    have tt : gToT [.lst ((List.range (mxS ls + 1)).map fun s => PV.int ((cntS ls s : Nat) : Int))] = some (row ((List.range (mxS ls + 1)).map (cntS ls))) := by
      show some (PV.tup _) = some (PV.tup _)
      rw [List.map_map]; rfl
    walk_at "mr"
    exact ⟨rfl, rfl⟩
end Mir.k14

namespace Mir.k14
open PySem PySem.Spec PyProof.Rows L2 Mth
/-! k14: counts_in walks a tuple -/
theorem counts_okT {ls : List (List Nat)} (hl : ls.length ≤ 1000) (hs : ∀ c ∈ ls, c.length ≤ 1000) : m_counts_in [.tup (ls.map row)] = ret (row (cntL ls)) := pure_of fun r => by
  unfold m_counts_in
  with_reducible refine w_run ?_
  show wpM (b_counts_in [.sh (.tup (ls.map row)), .no, .no, .no] r) _ _
  unfold b_counts_in
  have mx := mxS_le hs
  walk_at "mr"
  refine ⟨⟨by rw [List.length_map]; omega, rfl⟩, ?_⟩
  refine w_lcM row (fun c => PV.int ((c.length : Nat) : Int)) ls _ (fun c hc => ?_) ?_
  · refine ⟨_, rfl, fun r4 => ?_⟩
    have g := gl_rw c
    walk_at "mr"
    exact ⟨rfl, rfl⟩
  have ne := ne_nilI (ls.map fun c => ((c.length : Nat) : Int))
  rw [List.map_map] at ne
  have ne : gNe (.lst (ls.map fun c => PV.int ((c.length : Nat) : Int))) (.lst []) = some (.bl (!ls.isEmpty)) := by
    cases ls with
    | nil => exact ne
    | cons c ls => exact ne
  cases ls with
  | nil =>
    have ne2 : gNe (.lst (([] : List (List Nat)).map fun c => PV.int ((c.length : Nat) : Int))) (.lst []) = some (.bl false) := ne
    walk_at "mr"
    exact ⟨rfl, rfl⟩
  | cons c ls =>
    have gm : gMax [.lst ((c :: ls).map fun c => PV.int ((c.length : Nat) : Int))] = some (.int (mxS (c :: ls) : Nat)) := by
      show (ints? ((c :: ls).map fun c => PV.int ((c.length : Nat) : Int))).map (fun ns => PV.int (lmax ns)) = _
      rw [ints_len, ← lmax_len]; rfl
    have e1 : (mxS (c :: ls) : Int) + 1 = ((mxS (c :: ls) + 1 : Nat) : Int) := by omega
    have ne2 : gNe (.lst ((c :: ls).map fun c => PV.int ((c.length : Nat) : Int))) (.lst []) = some (.bl true) := ne
    have e2 : cntL (c :: ls) = (List.range (mxS (c :: ls) + 1)).map (cntS (c :: ls)) := rfl
    rw [e2]
    generalize c :: ls = ls at *
    walk_at "mr"
    rw [e1]
    with_reducible refine w_rg1 ?_ ?_
    · exact okR_of (by omega) (by omega)
    rw [Int.toNat_natCast, rgL_map]
    refine ⟨⟨by rw [List.length_map, List.length_range]; omega, rfl⟩, ?_⟩
    refine w_lcM (fun (k : Nat) => PV.int (k : Int)) (fun s => PV.int ((cntS ls s : Nat) : Int)) _ _ (fun s hs => ?_) ?_
    · refine ⟨_, rfl, fun r4 => ?_⟩
      have gc : gCnt (ls.map fun c => PV.int ((c.length : Nat) : Int)) (.int (s : Nat)) = some (.int ((cntS ls s : Nat) : Int)) := by
        show (ints? (ls.map fun c => PV.int ((c.length : Nat) : Int))).map (fun ns => PV.int (ns.count (s : Int) : Nat)) = _
        rw [ints_len, Option.map_some, count_len]
      walk_at "mr"
      exact ⟨rfl, rfl⟩
    have tt : gToT [.lst ((List.range (mxS ls + 1)).map fun s => PV.int ((cntS ls s : Nat) : Int))] = some (row ((List.range (mxS ls + 1)).map (cntS ls))) := by
      show some (PV.tup _) = some (PV.tup _)
      rw [List.map_map]; rfl
    walk_at "mr"
    exact ⟨rfl, rfl⟩
end Mir.k14

namespace Mir.k14
open PySem PySem.Spec PyProof.Rows L2 Mth
/-! k14: families of lots of four things, what a desk keeps -/
theorem tp_row (c : List Nat) : tpO (row c) = true := by
  have : ∀ c : List Nat, tpL (c.map fun (n : Nat) => PV.int n) = true := fun c => by
    induction c with
    | nil => rfl
    | cons a c ih => show (true && tpL (c.map fun (n : Nat) => PV.int n)) = true; rw [ih]; rfl
  exact this c
theorem tp_rows (l : List (List Nat)) : tpL (l.map row) = true := by
  induction l with
  | nil => rfl
  | cons a l ih => show (tpO (row a) && tpL (l.map row)) = true; rw [ih, tp_row]; rfl
def fP (F : List (List Nat)) : PV := .tup (F.map row)
def fL (F : List (List Nat)) : PV := .lst (F.map row)
def stP (S : List (List (List Nat))) : PV := .tup (S.map fP)
def paP (S : List (List (List Nat))) : PV := .lst (S.map fL)
def dsP (b : Bool) (S : List (List (List Nat))) : DS := (kindP b, stP S)
def obP (cl : Str → Addr) (b : Bool) (S : List (List (List Nat))) : PV := .obj (cl "Desk") ["own_kind", "states"] [kindP b, stP S]
theorem tp_st (S : List (List (List Nat))) : tpO (stP S) = true := by
  show tpL (S.map fP) = true
  induction S with
  | nil => rfl
  | cons F S ih =>
    show (tpO (fP F) && tpL (S.map fP)) = true
    rw [ih, show tpO (fP F) = tpL (F.map row) from rfl, tp_rows]; rfl
theorem tp_kd (b : Bool) : tpO (kindP b) = true := rfl
theorem lt_fL (F : List (List Nat)) : lt1 (fL F) = true := by
  show (tpO (fL F) || tpL (F.map row)) = true
  rw [tp_rows, Bool.or_true]
theorem nin_rowsB (a : List Nat) (l : List (List Nat)) : gNin (row a) (.lst (l.map row)) = some (.bl (!decide (a ∈ l))) := by
  have h1 : gNinT (row a) (.lst (l.map row)) = none := rfl
  have h2 : gNinL (row a) (.lst (l.map row)) = some (.bl (!decide (a ∈ l))) := by
    show (if (dt 7 (row a) && (l.map row).all (dt 7)) = true then some (PV.bl (!(l.map row).any fun y => pq 7 y (row a))) else none) = _
    have d : (l.map row).all (dt 7) = true := by
      rw [List.all_map, List.all_eq_true]
      intro x _
      exact dt_rw 6 x
    rw [dt_rw 6, d]
    show some _ = _
    have : ((l.map row).any fun y => pq 7 y (row a)) = decide (a ∈ l) := by
      rw [List.any_map, Bool.eq_iff_iff, List.any_eq_true, decide_eq_true_iff]
      constructor
      · rintro ⟨y, hy, e⟩
        have e : pq 7 (row y) (row a) = true := e
        rw [pq_rw 6] at e
        rw [← of_decide_eq_true e]; exact hy
      · intro h
        exact ⟨a, h, by show pq 7 (row a) (row a) = true; rw [pq_rw 6, decide_eq_true rfl]⟩
    rw [this]
  unfold gNin gOr
  rw [h1]
  exact h2
theorem atI_last (xs : List PV) (x : PV) : L2.atI (xs ++ [x]) (-1) = some x := by
  unfold L2.atI
  have hn : L2.ixN (xs ++ [x]).length (-1) = some xs.length := by
    rw [List.length_append, List.length_singleton]
    unfold L2.ixN
    rw [if_neg (by decide), if_pos (by omega)]
    exact congrArg some (by omega)
  rw [hn]
  show (xs ++ [x])[xs.length]? = _
  rw [List.getElem?_append_right (Nat.le_refl _), Nat.sub_self]; rfl
theorem ix_st (S : List (List (List Nat))) (F : List (List Nat)) : ixP (stP (S ++ [F])) (.int (-1)) = some (fP F) := by
  show L2.atI ((S ++ [F]).map fP) (-1) = _
  rw [List.map_append]
  exact atI_last _ _
theorem ix_pa (S : List (List (List Nat))) (F : List (List Nat)) : ixP (paP (S ++ [F])) (.int (-1)) = some (fL F) := by
  show L2.atI ((S ++ [F]).map fL) (-1) = _
  rw [List.map_append]
  exact atI_last _ _
theorem fld_kd (cl : Str → Addr) (b : Bool) (S : List (List (List Nat))) : gFld (cl "Desk") "own_kind" (obP cl b S) = some (kindP b) := by
  show (if cl "Desk" = cl "Desk" then _ else _) = _
  rw [if_pos rfl]; rfl
theorem fld_st (cl : Str → Addr) (b : Bool) (S : List (List (List Nat))) : gFld (cl "Desk") "states" (obP cl b S) = some (stP S) := by
  show (if cl "Desk" = cl "Desk" then _ else _) = _
  rw [if_pos rfl]; rfl
/-- all that four things make, up to four of them -/
def univ : Nat → List (List Nat)
  | 0 => [[]]
  | n + 1 => [] :: (List.range 4).flatMap fun x => (univ n).map (x :: ·)
theorem univ_mem : ∀ (n : Nat) (c : List Nat), c.length ≤ n → (∀ x ∈ c, x < 4) → c ∈ univ n
  | 0, c, h, _ => by rw [List.length_eq_zero_iff.mp (Nat.le_zero.mp h)]; exact List.mem_cons_self
  | n + 1, [], _, _ => List.mem_cons_self
  | n + 1, x :: c, h, hx => by
    refine List.mem_cons_of_mem _ (List.mem_flatMap.mpr ⟨x, List.mem_range.mpr (hx x List.mem_cons_self), List.mem_map.mpr ⟨c, univ_mem n c ?_ fun y hy => hx y (List.mem_cons_of_mem _ hy), rfl⟩⟩)
    rw [List.length_cons] at h
    omega
theorem univ_ok : ∀ (n : Nat) (c : List Nat), c ∈ univ n → c.length ≤ n ∧ ∀ x ∈ c, x < 4
  | 0, c, h => by rw [List.mem_singleton.mp h]; exact ⟨Nat.le_refl _, fun x hx => nomatch hx⟩
  | n + 1, c, h => by
    rcases List.mem_cons.mp h with h | h
    · rw [h]; exact ⟨Nat.zero_le _, fun x hx => nomatch hx⟩
    · obtain ⟨x, hx, h⟩ := List.mem_flatMap.mp h
      obtain ⟨d, hd, rfl⟩ := List.mem_map.mp h
      obtain ⟨h1, h2⟩ := univ_ok n d hd
      refine ⟨by rw [List.length_cons]; omega, fun y hy => ?_⟩
      rcases List.mem_cons.mp hy with z | z
      · rw [z]; exact List.mem_range.mp hx
      · exact h2 y z
theorem univ_len : (univ 4).length = 341 := by decide +kernel
theorem uniU : Uni (univ 4) where
  len := by rw [univ_len]; decide
  ok := fun c hc => by
    obtain ⟨h1, h2⟩ := univ_ok 4 c hc
    exact ⟨by omega, fun x hx => by have := h2 x hx; omega⟩
  cl := fun c hc y hy => by
    obtain ⟨h1, h2⟩ := univ_ok 4 c hc
    have := takenL_len hy
    exact univ_mem 4 y (by omega) fun x hx => h2 x ((takenL_sub hy).subset hx)
section
variable {b : Bool} {F ls : List (List Nat)} {c : List Nat}
theorem is4_univ (h : isLt b 4 4 c) : c ∈ univ 4 := univ_mem 4 c h.1 h.2.1
theorem is4_sub {d : List Nat} (h : isLt b 4 4 d) (s : c.Sublist d) : isLt b 4 4 c := ⟨Nat.le_trans s.length_le h.1, fun x hx => h.2.1 x (s.subset hx), List.Pairwise.sublist s h.2.2⟩
theorem is4_good (h : isLt b 4 4 c) : goodR b c := ⟨by have := h.1; omega, fun x hx => by have := h.2.1 x hx; omega, h.2.2⟩
theorem clo4 (h : ∀ c ∈ ls, isLt b 4 4 c) : Clo (univ 4) ls (famC ls) := ordC_clo uniU (cloL_clo uniU fun c hc => is4_univ (h c hc))
theorem fam4_mem (h : ∀ c ∈ ls, isLt b 4 4 c) : c ∈ famC ls ↔ ∃ d ∈ ls, c.Sublist d := by
  constructor
  · exact fun z => cloN_low 8 c (ordC_mem.mp z).1
  · rintro ⟨d, hd, s⟩
    have C := clo4 h
    exact closed_down C.cl (d.length - c.length) c d (C.has d hd) s (by have := s.length_le; omega)
/-- a closed family -/
structure Fam (b : Bool) (F : List (List Nat)) : Prop where
  nd : F.Nodup
  ok : ∀ c ∈ F, isLt b 4 4 c
  cl : ∀ c ∈ F, ∀ y ∈ takenL c, y ∈ F
theorem Fam.len (h : Fam b F) : F.length ≤ 341 := by
  have := nd_sub_len (m := univ 4) h.nd fun c hc => is4_univ (h.ok c hc)
  rwa [univ_len] at this
theorem Fam.down (h : Fam b F) {d : List Nat} (hd : d ∈ F) (s : c.Sublist d) : c ∈ F := closed_down h.cl (d.length - c.length) c d hd s (by have := s.length_le; omega)
theorem fam_of (h : ∀ c ∈ ls, isLt b 4 4 c) : Fam b (famC ls) where
  nd := (clo4 h).nd
  ok := fun c hc => by
    obtain ⟨d, hd, s⟩ := (fam4_mem h).mp hc
    exact is4_sub (h d hd) s
  cl := (clo4 h).cl
theorem lcl (h : ∀ c ∈ ls, isLt b 4 4 c) (hl : ls.length ≤ 10000) : m__law_closed [fL ls] = ret (fL (famC ls)) := lclosed_ok uniU hl fun c hc => is4_univ (h c hc)
theorem ord_cl (h : ∀ c ∈ ls, isLt b 4 4 c) {G : List (List Nat)} (nd : G.Nodup) (same : ∀ c, c ∈ G ↔ c ∈ famC ls) : ordT b G = famC ls := by
  have m : ∀ c, c ∈ cloL ls ↔ c ∈ famC ls := fun c => by
    unfold famC
    rw [ordC_mem]
    refine ⟨fun z => ⟨z, ?_⟩, fun z => z.1⟩
    obtain ⟨d, hd, s⟩ := cloN_low 8 c z
    have := (is4_sub (h d hd) s).1
    omega
  exact ord_same nd (cloN_nd ls 8) (fun c hc => by have := ((fam_of h).ok c ((m c).mp hc)).1; omega) (fun c => (same c).trans (m c).symm) fun c hc => ((fam_of h).ok c ((same c).mp hc)).2.2
theorem cof {sv : PV} (tl : gToL [sv] = some (.lst (ls.map row))) (h : ∀ c ∈ ls, isLt b 4 4 c) (hl : ls.length ≤ 39) : m_closed_of [kindP b, sv] = ret (fL (famC ls)) := closed_of_eq tl hl fun c hc => is4_good (h c hc)
theorem in1 (hc : isLt b 4 4 c) : ∀ d ∈ [c], isLt b 4 4 d := fun d hd => by rw [List.mem_singleton.mp hd]; exact hc
theorem Fam.snoc (h : Fam b F) (hc : isLt b 4 4 c) : ∀ d ∈ F ++ [c], isLt b 4 4 d := fun d hd => by
  rcases List.mem_append.mp hd with z | z
  · exact h.ok d z
  · exact in1 hc d z
/-- what is new when a lot is put in -/
def freshL (F : List (List Nat)) (c : List Nat) : List (List Nat) := (famC [c]).filter fun d => !decide (d ∈ F)
def goneL (F : List (List Nat)) (c : List Nat) : List (List Nat) := F.filter fun d => decide (c ∈ famC [d])
def keepL (F : List (List Nat)) (c : List Nat) : List (List Nat) := F.filter fun d => !decide (d ∈ goneL F c)
theorem mem_snoc (h : Fam b F) (hc : isLt b 4 4 c) {d : List Nat} : d ∈ famC (F ++ [c]) ↔ d ∈ F ∨ d ∈ famC [c] := by
  rw [fam4_mem (h.snoc hc), fam4_mem (in1 hc)]
  constructor
  · rintro ⟨e, he, s⟩
    rcases List.mem_append.mp he with z | z
    · exact .inl (h.down z s)
    · exact .inr ⟨e, z, s⟩
  · rintro (z | ⟨e, he, s⟩)
    · exact ⟨d, List.mem_append_left _ z, List.Sublist.refl d⟩
    · exact ⟨e, List.mem_append_right _ he, s⟩
theorem fam_pw (h : ∀ c ∈ ls, isLt b 4 4 c) : (famC ls).Pairwise fun c d => c.length < d.length ∨ (c.length = d.length ∧ plA (bn b) 0 c ≤ plA (bn b) 0 d) := ordC_pw fun c hc => by
  obtain ⟨d, hd, s⟩ := cloN_low 8 c hc
  exact (is4_sub (h d hd) s).2.2
theorem fresh_eq (h : Fam b F) (hc : isLt b 4 4 c) : (famC (F ++ [c])).filter (fun d => !decide (d ∈ F)) = freshL F c := by
  have F1 := fam_of (h.snoc hc)
  have F2 := fam_of (in1 hc)
  refine pw_same (R := fun c d => c.length < d.length ∨ (c.length = d.length ∧ plA (bn b) 0 c ≤ plA (bn b) 0 d)) (fun a ha d hd r1 r2 => T_anti (b := b) (F1.ok a (List.mem_filter.mp ha).1).2.2 (F1.ok d (List.mem_filter.mp hd).1).2.2 r1 r2) (perm_same (F1.nd.filter _) (F2.nd.filter _) fun d => ?_) (List.Pairwise.filter _ (fam_pw (h.snoc hc))) (List.Pairwise.filter _ (fam_pw (in1 hc)))
  unfold freshL
  rw [List.mem_filter, List.mem_filter, mem_snoc h hc]
  constructor
  · rintro ⟨z, q⟩
    refine ⟨z.elim (fun y => ?_) id, q⟩
    rw [decide_eq_true y] at q
    cases q
  · exact fun ⟨z, q⟩ => ⟨.inr z, q⟩
theorem ord_add (h : Fam b F) (hc : isLt b 4 4 c) : ordT b (F ++ freshL F c) = famC (F ++ [c]) := ord_cl (h.snoc hc) (List.nodup_append.mpr ⟨h.nd, (fam_of (in1 hc)).nd.filter _, fun a ha d hd e => by
  subst e
  have := (List.mem_filter.mp hd).2
  rw [decide_eq_true ha] at this
  cases this⟩) fun d => by
  rw [mem_snoc h hc, List.mem_append]
  refine ⟨fun z => z.imp id fun y => (List.mem_filter.mp y).1, fun z => ?_⟩
  by_cases q : d ∈ F
  · exact .inl q
  · exact z.imp id fun y => List.mem_filter.mpr ⟨y, by rw [decide_eq_false q]; rfl⟩
theorem fam_keep (h : Fam b F) : Fam b (keepL F c) where
  nd := h.nd.filter _
  ok := fun d hd => h.ok d (List.mem_filter.mp hd).1
  cl := fun d hd y hy => by
    obtain ⟨d1, d2⟩ := List.mem_filter.mp hd
    have y1 := h.cl d d1 y hy
    refine List.mem_filter.mpr ⟨y1, ?_⟩
    by_cases q : y ∈ goneL F c
    · exfalso
      have q2 := of_decide_eq_true (List.mem_filter.mp q).2
      obtain ⟨e, he, s⟩ := (fam4_mem (in1 (h.ok y y1))).mp q2
      rw [List.mem_singleton.mp he] at s
      have : d ∈ goneL F c := List.mem_filter.mpr ⟨d1, decide_eq_true ((fam4_mem (in1 (h.ok d d1))).mpr ⟨d, List.mem_cons_self, s.trans (takenL_sub hy)⟩)⟩
      rw [decide_eq_true this] at d2
      cases d2
    · rw [decide_eq_false q]; rfl
theorem any_mem (a : List Nat) (l : List (List Nat)) : (l.any fun c => decide (c = a)) = decide (a ∈ l) := by
  rw [Bool.eq_iff_iff, List.any_eq_true, decide_eq_true_iff]
  exact ⟨fun ⟨x, h1, h2⟩ => by rw [← of_decide_eq_true h2]; exact h1, fun h => ⟨a, h, decide_eq_true rfl⟩⟩
theorem in_rowsD (a : List Nat) (l : List (List Nat)) : gIn (row a) (fL l) = some (.bl (decide (a ∈ l))) := by
  unfold fL
  rw [in_rows, any_mem]
theorem ninTT (a : List Nat) (l : List (List Nat)) : gNinTT (row a) (fP l) = some (.bl (!decide (a ∈ l))) := by
  show (if (dt 7 (row a) && (l.map row).all (dt 7)) = true then some (PV.bl (!(l.map row).any fun y => pq 7 y (row a))) else none) = _
  have d : (l.map row).all (dt 7) = true := by
    rw [List.all_map, List.all_eq_true]
    intro x _
    exact dt_rw 6 x
  rw [dt_rw 6, d, List.any_map, ← any_mem]
  exact congrArg some (congrArg PV.bl (congrArg (fun p => !l.any p) (funext fun y => pq_rw 6 y a)))
theorem nin_rowsD (a : List Nat) (l : List (List Nat)) : gNin (row a) (fL l) = some (.bl (!decide (a ∈ l))) := nin_rowsB a l
end
end Mir.k14

namespace Mir.k14
open PySem PySem.Spec PyProof.Rows L2 Mth
section
variable {cl : Str → Addr} {b : Bool} {S : List (List (List Nat))} {F ls : List (List Nat)} {c : List Nat}
theorem check_lot_ok (h : isLt b 4 4 c) : m_check_lot [kindP b, row c] = ret .non := pure_of fun r => by
  unfold m_check_lot
  with_reducible refine w_run ?_
  show wpM (b_check_lot [.sh (kindP b), .sh (row c)] r) _ _
  unfold b_check_lot
  have q := is_lot_row (b := b) (cs := c) (is4_good h).1 (is4_good h).2.1
  rw [decide_eq_true h.2.2] at q
  walk_at "mr"
  exact ⟨rfl, rfl⟩
theorem check_lot_no {v : PV} (h : m_is_lot [kindP b, v] = ret (.bl false)) : m_check_lot [kindP b, v] = raise blE := ex_of fun r => by
  unfold m_check_lot
  with_reducible refine w_run ?_
  show wpM (b_check_lot [.sh (kindP b), .sh v] r) _ _
  unfold b_check_lot
  walk_at "mr"
  exact ⟨rfl, rfl⟩
theorem desk_init (hl : ls.length ≤ 39) (hg : ∀ c ∈ ls, goodR b c) : mi_Desk [kindP b, fL ls] = ret (kindP b, stP [famC ls]) := pure_of fun r => by
  have p0 := kind_ok b
  have p1 : m_check_lots [kindP b, fL ls] = ret .non := lots_goodR (b := b) (sv := .lst (ls.map row)) (.inl rfl) hg
  have p2 : m_closed_of [kindP b, fL ls] = ret (fL (famC ls)) := closed_of_eq (b := b) (sv := .lst (ls.map row)) rfl hl hg
  have p3 : gToT [fL (famC ls)] = some (fP (famC ls)) := rfl
  show wpM (bnd (eCall 1 m_check_kind (aCons (eVar 1) (aNil)) [.sh .non, .sh (kindP b), .sh (fL ls)]) (fun _ => bnd (eCall 2 m_check_lots (aCons (eVar 1) (aCons (eVar 2) (aNil))) [.sh .non, .sh (kindP b), .sh (fL ls)]) fun _ =>
    bnd (eVar 1 [.sh .non, .sh (kindP b), .sh (fL ls)]) fun a => bnd (eTup (aCons (eBi gToT (aCons (eCall 2 m_closed_of (aCons (eVar 1) (aCons (eVar 2) (aNil)))) (aNil))) (aNil)) [.sh .non, .sh (kindP b), .sh (fL ls)]) fun b => ret (a, b)) r) _ _
  refine w_bnd ?_
  walk_at "mr"
  refine w_bnd ?_
  walk_at "mr"
  refine w_bnd ?_
  walk_at "mr"
  refine w_bnd ?_
  walk_at "mr"
  exact ⟨rfl, rfl⟩
theorem dk_kind : m_Desk_kind cl [obP cl b S] = ret (kindP b) := pure_of fun r => by
  unfold m_Desk_kind
  with_reducible refine w_run ?_
  show wpM (b_Desk_kind cl [.sh (obP cl b S)] r) _ _
  unfold b_Desk_kind
  have f1 := fld_kd cl b S
  walk_at "mr"
  exact ⟨rfl, rfl⟩
theorem dk_lots : m_Desk_lots cl [obP cl b (S ++ [F])] = ret (fL F) := pure_of fun r => by
  unfold m_Desk_lots
  with_reducible refine w_run ?_
  show wpM (b_Desk_lots cl [.sh (obP cl b (S ++ [F]))] r) _ _
  unfold b_Desk_lots
  have f1 := fld_st cl b (S ++ [F])
  have f2 := ix_st S F
  have f3 : gToL [fP F] = some (fL F) := rfl
  walk_at "mr"
  exact ⟨rfl, rfl⟩
theorem dk_counts (hl : F.length ≤ 1000) (hs : ∀ c ∈ F, c.length ≤ 1000) : m_Desk_counts cl [obP cl b (S ++ [F])] = ret (row (cntL F)) := pure_of fun r => by
  unfold m_Desk_counts
  with_reducible refine w_run ?_
  show wpM (b_Desk_counts cl [.sh (obP cl b (S ++ [F]))] r) _ _
  unfold b_Desk_counts
  have f1 := fld_st cl b (S ++ [F])
  have f2 := ix_st S F
  have f3 : m_counts_in [fP F] = ret (row (cntL F)) := counts_okT hl hs
  walk_at "mr"
  exact ⟨rfl, rfl⟩
theorem gl_tup (xs : List PV) : gLen [.tup xs] = some (.int (xs.length : Nat)) := rfl
theorem gl_lst (xs : List PV) : gLen [.lst xs] = some (.int (xs.length : Nat)) := rfl
theorem dk_steps : m_Desk_steps cl [obP cl b (S ++ [F])] = ret (.int (S.length : Nat)) := pure_of fun r => by
  unfold m_Desk_steps
  with_reducible refine w_run ?_
  show wpM (b_Desk_steps cl [.sh (obP cl b (S ++ [F]))] r) _ _
  unfold b_Desk_steps
  have f1 := fld_st cl b (S ++ [F])
  have f2 : slP (stP (S ++ [F])) (some 1) none = some (.tup (((S ++ [F]).map fP).drop 1)) := by
    show some (PV.tup (cutP ((S ++ [F]).map fP) (some ((1 : Nat) : Int)) none)) = _
    rw [cut_from (by rw [List.length_map, List.length_append, List.length_singleton]; omega)]
  have f3 : gLen [.tup (((S ++ [F]).map fP).drop 1)] = some (.int (S.length : Nat)) := by
    rw [gl_tup, List.length_drop, List.length_map, List.length_append, List.length_singleton]
    rfl
  walk_at "mr"
  exact ⟨rfl, rfl⟩
theorem dk_len : m_Desk___len__ cl [obP cl b (S ++ [F])] = ret (.int (F.length : Nat)) := pure_of fun r => by
  unfold m_Desk___len__
  with_reducible refine w_run ?_
  show wpM (b_Desk___len__ cl [.sh (obP cl b (S ++ [F]))] r) _ _
  unfold b_Desk___len__
  have f1 := fld_st cl b (S ++ [F])
  have f2 := ix_st S F
  have f3 : gLen [fP F] = some (.int (F.length : Nat)) := by
    unfold fP
    rw [gl_tup, List.length_map]
  walk_at "mr"
  exact ⟨rfl, rfl⟩
theorem stands_ok (hF : Fam b F) (hS : S.length ≤ 1000) : m__law_stands cl [obP cl b (S ++ [F]), kindP b, paP (S ++ [F])] = ret (.bl true) := pure_of fun r => by
  unfold m__law_stands
  with_reducible refine w_run ?_
  show wpM (b__law_stands cl [.sh (obP cl b (S ++ [F])), .sh (kindP b), .sh (paP (S ++ [F])), .no] r) _ _
  unfold b__law_stands
  have hl := hF.len
  have hs : ∀ c ∈ F, c.length ≤ 1000 := fun c hc => by have := (hF.ok c hc).1; omega
  have q1 := dk_kind (cl := cl) (b := b) (S := S ++ [F])
  have q2 := dk_lots (cl := cl) (b := b) (S := S) (F := F)
  have q3 := dk_counts (cl := cl) (b := b) (S := S) (F := F) (by omega) hs
  have q4 := dk_steps (cl := cl) (b := b) (S := S) (F := F)
  have q5 := dk_len (cl := cl) (b := b) (S := S) (F := F)
  have f1 := ix_pa S F
  have n1 : gNe (kindP b) (kindP b) = some (.bl false) := ne_refl rfl
  have n2 : gNe (fL F) (fL F) = some (.bl false) := ne_refl (dt_rows 6 F)
  have n3 : gNe (row (cntL F)) (row (cntL F)) = some (.bl false) := ne_refl (dt_rw 7 _)
  have q6 : m__law_counts [fL F] = ret (row (cntL F)) := lcounts_ok (by omega) hs
  have f3 : gLen [fL F] = some (.int (F.length : Nat)) := by
    unfold fL
    rw [gl_lst, List.length_map]
  have f4 : gLen [paP (S ++ [F])] = some (.int ((S.length + 1 : Nat) : Int)) := by
    unfold paP
    rw [gl_lst, List.length_map, List.length_append, List.length_singleton]
  have f5 : gInt hSub (.int ((S.length + 1 : Nat) : Int)) (.int 1) = some (.int (S.length : Nat)) := by
    show some (PV.int (((S.length + 1 : Nat) : Int) - 1)) = _
    rw [show ((S.length + 1 : Nat) : Int) - 1 = (S.length : Nat) from by omega]
  have e1 : gEq (.int (F.length : Nat)) (.int (F.length : Nat)) = some (.bl true) := eq_refl rfl
  have e2 : gEq (.int (S.length : Nat)) (.int (S.length : Nat)) = some (.bl true) := eq_refl rfl
  walk_at "md"
  refine ⟨⟨by omega, by omega⟩, ?_⟩
  walk_at "md"
  exact ⟨rfl, rfl⟩
end
end Mir.k14

namespace Mir.k14
open PySem PySem.Spec PyProof.Rows L2 Mth
theorem zwm {r : RS} {s : DS} {E : Exn → RS → DS → Prop} {K : PV → RS → DS → Prop} {c : Dk} {nn i : Nat} {g : Env → M Fl} {h4 h5 : EF} {xs : List PV} {e0 : Env} (he : envK nn (c.obj s :: xs.tail) = e0) (h : wpM (g e0 r) (mowK i h4 h5 s K E) (fun e r => E e r s)) : wpD (moK c nn i g h4 h5 xs r s) K E := zw_mo (by rw [he]; exact h)
theorem w_unSf {F : List (List Nat)} {r : RS} {K : List PV → RS → Prop} {E : Exn → RS → Prop} (h : K (F.map row) r) : wpM (unS (fP F) r) K E := h
theorem w_unSl {F : List (List Nat)} {r : RS} {K : List PV → RS → Prop} {E : Exn → RS → Prop} (h : K (F.map row) r) : wpM (unS (fL F) r) K E := h
theorem w_unSs {S : List (List (List Nat))} {r : RS} {K : List PV → RS → Prop} {E : Exn → RS → Prop} (h : K (S.map fP) r) : wpM (unS (stP S) r) K E := h
theorem st_snoc (S : List (List (List Nat))) (F : List (List Nat)) : PV.tup (S.map fP ++ [fP F]) = stP (S ++ [F]) := by
  unfold stP
  rw [List.map_append]; rfl
theorem only3 {x y z w : Slot} {F : List (List Nat)} : onlyE 3 [x, y, z, .sh (fL F), w] = some [.no, .no, .no, .sh (fL F), .no] := by
  show (if lt1 (fL F) = true then some _ else none) = _
  rw [if_pos (lt_fL F)]; rfl
section
variable {cl : Str → Addr} {b : Bool} {S : List (List (List Nat))} {F ls : List (List Nat)} {c : List Nat} {a : Addr}
theorem dk_add (hF : Fam b F) (hc : isLt b 4 4 c) (hS : S.length ≤ 1000) : DOk (m_Desk_add cl [.at_ a, row c]) (dsP b (S ++ [F])) (fL (freshL F c)) (dsP b (S ++ [F] ++ [famC (F ++ [c])])) := dok_of fun r => by
  unfold m_Desk_add
  refine zwm (e0 := [.sh (obP cl b (S ++ [F])), .sh (row c), .no, .no, .no]) rfl ?_
  have f0 := fld_kd cl b (S ++ [F])
  have f1 := fld_st cl b (S ++ [F])
  have f2 := ix_st S F
  have p1 := check_lot_ok hc
  have p2 : m_closed_of [kindP b, .lst [row c]] = ret (fL (famC [c])) := cof (ls := [c]) rfl (in1 hc) (Nat.le_of_ble_eq_true rfl)
  have gl := (fam_of (in1 hc)).len
  have fl := hF.len
  have p3 : m_in_order [kindP b, .lst (F.map row ++ ((freshL F c).map row ++ []))] = ret (fL (famC (F ++ [c]))) := by
    have := in_order_ok (b := b) (ls := F ++ freshL F c) (by
      have : (freshL F c).length ≤ (famC [c]).length := List.length_filter_le _ _
      rw [List.length_append]; omega) fun d hd => by
        have : isLt b 4 4 d := by
          rcases List.mem_append.mp hd with z | z
          · exact hF.ok d z
          · exact (fam_of (in1 hc)).ok d (List.mem_filter.mp z).1
        exact ⟨by have := this.1; omega, fun x hx => by have := this.2.1 x hx; omega⟩
    rw [ord_add hF hc, List.map_append] at this
    rw [List.append_nil]
    exact this
  have nl : (freshL F c).length ≤ (famC [c]).length := List.length_filter_le _ _
  have eN : ∀ A, famC [c] = A → PV.lst ((A.filter fun d => !decide (d ∈ F)).map row) = fL (freshL F c) := fun A e => by rw [← e]; rfl
  generalize hA : famC [c] = A at p2 gl nl
  have eN := eN A hA
  clear hA
  generalize famC (F ++ [c]) = G at *
  generalize freshL F c = N at *
  have f4 : gToT [fL G] = some (fP G) := rfl
  walk_at "md"
  refine ⟨⟨by rw [List.length_map]; omega, rfl⟩, ?_⟩
  refine w_lcG row (fun d => !decide (d ∈ F)) row _ _ (fun d hd => ?_) ?_
  · have n1 := ninTT d F
    refine ⟨_, rfl, fun r4 => ⟨?_, fun _ => ?_⟩⟩
    · walk_at "md"
      exact ⟨rfl, rfl⟩
    · walk_at "md"
      exact ⟨rfl, rfl⟩
  rw [eN]
  walk_at "md"
  refine w_unSs ?_
  walk_at "md"
  refine w_unSf ?_
  walk_at "md"
  refine w_unSl ?_
  walk_at "md"
  refine ⟨by rw [List.length_append, List.length_append, List.length_map, List.length_map, List.length_nil]; omega, ?_⟩
  walk_at "md"
  refine ⟨by rw [List.length_append, List.length_map, List.length_append, List.length_singleton, List.length_singleton]; omega, ?_⟩
  rw [st_snoc]
  exact ⟨tp_st _, _, only3, rfl, rfl, rfl⟩
theorem dk_add_no {v : PV} (h : m_is_lot [kindP b, v] = ret (.bl false)) : DEx (m_Desk_add cl [.at_ a, v]) (dsP b (S ++ [F])) blE := dex_of fun r => by
  unfold m_Desk_add
  refine zwm (e0 := [.sh (obP cl b (S ++ [F])), .sh v, .no, .no, .no]) rfl ?_
  have f0 := fld_kd cl b (S ++ [F])
  have p1 := check_lot_no h
  walk_at "md"
  exact ⟨rfl, rfl, rfl⟩
theorem dk_take_no {v : PV} (h : m_is_lot [kindP b, v] = ret (.bl false)) : DEx (m_Desk_take cl [.at_ a, v]) (dsP b (S ++ [F])) blE := dex_of fun r => by
  unfold m_Desk_take
  refine zwm (e0 := [.sh (obP cl b (S ++ [F])), .sh v, .no, .no, .no]) rfl ?_
  have f0 := fld_kd cl b (S ++ [F])
  have p1 := check_lot_no h
  walk_at "md"
  exact ⟨rfl, rfl, rfl⟩
def ntE : Exn := ⟨"NotThere", []⟩
theorem dk_take_nt (hc : isLt b 4 4 c) (n : c ∉ F) : DEx (m_Desk_take cl [.at_ a, row c]) (dsP b (S ++ [F])) ntE := dex_of fun r => by
  unfold m_Desk_take
  refine zwm (e0 := [.sh (obP cl b (S ++ [F])), .sh (row c), .no, .no, .no]) rfl ?_
  have f0 := fld_kd cl b (S ++ [F])
  have f1 := fld_st cl b (S ++ [F])
  have f2 := ix_st S F
  have p1 := check_lot_ok hc
  have n1 := ninTT c F
  rw [decide_eq_false n] at n1
  have n2 : gNinTT (row c) (fP F) = some (.bl true) := n1
  walk_at "md"
  exact ⟨rfl, rfl, rfl⟩
theorem dk_take (hF : Fam b F) (hc : isLt b 4 4 c) (hS : S.length ≤ 1000) (m : c ∈ F) : DOk (m_Desk_take cl [.at_ a, row c]) (dsP b (S ++ [F])) (fL (goneL F c)) (dsP b (S ++ [F] ++ [keepL F c])) := dok_of fun r => by
  unfold m_Desk_take
  refine zwm (e0 := [.sh (obP cl b (S ++ [F])), .sh (row c), .no, .no, .no]) rfl ?_
  have f0 := fld_kd cl b (S ++ [F])
  have f1 := fld_st cl b (S ++ [F])
  have f2 := ix_st S F
  have p1 := check_lot_ok hc
  have n1 := ninTT c F
  rw [decide_eq_true m] at n1
  have n2 : gNinTT (row c) (fP F) = some (.bl false) := n1
  have fl := hF.len
  walk_at "md"
  refine ⟨⟨by rw [List.length_map]; omega, rfl⟩, ?_⟩
  refine w_lcG row (fun d => decide (c ∈ famC [d])) row _ _ (fun d hd => ?_) ?_
  · have p2 : m_closed_of [kindP b, .lst [row d]] = ret (fL (famC [d])) := cof (ls := [d]) rfl (in1 (hF.ok d hd)) (Nat.le_of_ble_eq_true rfl)
    have n3 := in_rowsD c (famC [d])
    refine ⟨_, rfl, fun r4 => ⟨?_, fun _ => ?_⟩⟩
    · walk_at "md"
      exact ⟨rfl, rfl⟩
    · walk_at "md"
      exact ⟨rfl, rfl⟩
  have eN : PV.lst ((F.filter fun d => decide (c ∈ famC [d])).map row) = fL (goneL F c) := rfl
  rw [eN]
  clear eN
  have ek : keepL F c = F.filter fun d => !decide (d ∈ goneL F c) := rfl
  generalize keepL F c = N at *
  generalize goneL F c = G at *
  walk_at "md"
  refine w_unSs ?_
  walk_at "md"
  refine ⟨⟨by rw [List.length_map]; omega, rfl⟩, ?_⟩
  refine w_lcG row (fun d => !decide (d ∈ G)) row _ _ (fun d hd => ?_) ?_
  · have n3 := nin_rowsD d G
    refine ⟨_, rfl, fun r4 => ⟨?_, fun _ => ?_⟩⟩
    · walk_at "md"
      exact ⟨rfl, rfl⟩
    · walk_at "md"
      exact ⟨rfl, rfl⟩
  rw [← ek]
  have f4 : gToT [.lst (N.map row)] = some (fP N) := rfl
  walk_at "md"
  refine ⟨by rw [List.length_append, List.length_map, List.length_append, List.length_singleton, List.length_singleton]; omega, ?_⟩
  rw [st_snoc]
  exact ⟨tp_st _, _, only3, rfl, rfl, rfl⟩
end
end Mir.k14

namespace Mir.k14
open PySem PySem.Spec PyProof.Rows L2 Mth
theorem okM_of {α : Type} {o : Out α} {v : α} {r : RS} (h : wpM o (fun x r' => x = v ∧ r' = r) fun _ _ => False) : o = .ok v r := by
  cases o with
  | ok x r' =>
    obtain ⟨h1, h2⟩ := (show x = v ∧ r' = r from h)
    rw [h1, h2]
  | ex _ _ => exact h.elim
  | bad => exact h.elim
theorem cut_last (xs : List PV) (x : PV) : cutP (xs ++ [x]) none (some (-1)) = xs := by
  unfold cutP
  have e : HT.sIx (xs ++ [x]).length (xs ++ [x]).length (some (-1)) = xs.length := by
    show (if (-1 : Int) < 0 then ((-1 : Int) + ((xs ++ [x]).length : Nat)).toNat else min (-1 : Int).toNat (xs ++ [x]).length) = _
    rw [if_pos (by decide), List.length_append, List.length_singleton]
    omega
  rw [HT.sIx_none, e, List.drop_zero, Nat.sub_zero]
  exact List.take_left
theorem sl_st (S : List (List (List Nat))) (F : List (List Nat)) : slP (stP (S ++ [F])) none (some (-1)) = some (stP S) := by
  show some (PV.tup (cutP ((S ++ [F]).map fP) none (some (-1)))) = _
  rw [List.map_append]
  exact congrArg (fun l => some (PV.tup l)) (cut_last _ _)
theorem sl_pa (S : List (List (List Nat))) (F : List (List Nat)) : slP (paP (S ++ [F])) none (some (-1)) = some (paP S) := by
  show some (PV.lst (cutP ((S ++ [F]).map fL) none (some (-1)))) = _
  rw [List.map_append]
  exact congrArg (fun l => some (PV.lst l)) (cut_last _ _)
theorem gl_st (S : List (List (List Nat))) (F : List (List Nat)) : gLen [stP (S ++ [F])] = some (.int ((S.length + 1 : Nat) : Int)) := by
  unfold stP
  rw [gl_tup, List.length_map, List.length_append, List.length_singleton]
theorem gl_pa (S : List (List (List Nat))) (F : List (List Nat)) : gLen [paP (S ++ [F])] = some (.int ((S.length + 1 : Nat) : Int)) := by
  unfold paP
  rw [gl_lst, List.length_map, List.length_append, List.length_singleton]
section
variable {cl : Str → Addr} {b : Bool} {S : List (List (List Nat))} {F G ls : List (List Nat)} {c : List Nat} {a : Addr}
theorem dk_undo1 : DOk (m_Desk_undo cl [.at_ a]) (dsP b ([] ++ [F])) (.bl false) (dsP b ([] ++ [F])) := dok_of fun r => by
  unfold m_Desk_undo
  refine zwm (e0 := [.sh (obP cl b ([] ++ [F]))]) rfl ?_
  have f1 := fld_st cl b ([] ++ [F])
  have f2 := gl_st [] F
  have f3 : gEq (.int (([] : List (List (List Nat))).length + 1 : Nat)) (.int 1) = some (.bl true) := nat_eq 1 1
  walk_at "md"
  exact ⟨rfl, rfl, rfl, rfl⟩
theorem dk_undo2 : DOk (m_Desk_undo cl [.at_ a]) (dsP b (S ++ [G] ++ [F])) (.bl true) (dsP b (S ++ [G])) := dok_of fun r => by
  unfold m_Desk_undo
  refine zwm (e0 := [.sh (obP cl b (S ++ [G] ++ [F]))]) rfl ?_
  have f1 := fld_st cl b (S ++ [G] ++ [F])
  have f2 := gl_st (S ++ [G]) F
  have f3 : gEq (.int ((S ++ [G]).length + 1 : Nat)) (.int 1) = some (.bl false) := by
    have := nat_eq ((S ++ [G]).length + 1) 1
    rw [show Nat.beq ((S ++ [G]).length + 1) 1 = false from by rw [List.length_append, List.length_singleton]; rfl] at this
    exact this
  have f4 := sl_st (S ++ [G]) F
  walk_at "md"
  exact ⟨tp_st _, _, rfl, rfl, rfl, rfl⟩
theorem dk_copy : ok_Desk_copy cl (dsP b S) := by
  refine ⟨tp_kd b, tp_st S, fun r => ⟨⟨[kindP b, fL []], stP [famC []], rfl, okM_of ?_, ?_⟩, okM_of ?_⟩⟩
  · rw [show envK 2 [(dkD cl).obj (dsP b S)] = [.sh (obP cl b S), .no] from rfl]
    have f1 := fld_kd cl b S
    walk_at "md"
    exact ⟨rfl, rfl⟩
  · rw [desk_init (b := b) (ls := []) (by decide) fun c hc => nomatch hc]; rfl
  · rw [show envK 2 [(dkD cl).obj (dsP b S)] = [.sh (obP cl b S), .no] from rfl]
    have f1 := fld_st cl b S
    walk_at "md"
    exact ⟨rfl, rfl⟩
theorem so14 : PyData.strOk "lot" = true ∧ PyData.strOk "there" = true ∧ PyData.strOk "kind" = true ∧ PyData.strOk "lots" = true := by decide +kernel
theorem add_add : gEq (.str "add") (.str "add") = some (.bl true) := eq_refl rfl
theorem tak_add : gEq (.str "take") (.str "add") = some (.bl false) := by first | rfl | kernel_rfl
theorem try_add (hF : Fam b F) (hc : isLt b 4 4 c) (hS : S.length ≤ 1000) : DOk (m__law_try cl [.at_ a, .str "add", row c]) (dsP b (S ++ [F])) (fL (freshL F c)) (dsP b (S ++ [F] ++ [famC (F ++ [c])])) := dok_of fun r => by
  unfold m__law_try
  refine zw_run ?_
  show wpD (b__law_try cl [.sh (.at_ a), .sh (.str "add"), .sh (row c), .no, .no] r _) _ _
  unfold b__law_try
  have p1 := add_add
  have p2 := dk_add (cl := cl) (a := a) hF hc hS
  walk_at "md"
  exact ⟨rfl, rfl, rfl⟩
theorem try_take (hF : Fam b F) (hc : isLt b 4 4 c) (hS : S.length ≤ 1000) (m : c ∈ F) : DOk (m__law_try cl [.at_ a, .str "take", row c]) (dsP b (S ++ [F])) (fL (goneL F c)) (dsP b (S ++ [F] ++ [keepL F c])) := dok_of fun r => by
  unfold m__law_try
  refine zw_run ?_
  show wpD (b__law_try cl [.sh (.at_ a), .sh (.str "take"), .sh (row c), .no, .no] r _) _ _
  unfold b__law_try
  have p1 := tak_add
  have p2 := dk_take (cl := cl) (a := a) hF hc hS m
  walk_at "md"
  exact ⟨rfl, rfl, rfl⟩
theorem try_nt (hc : isLt b 4 4 c) (n : c ∉ F) : DOk (m__law_try cl [.at_ a, .str "take", row c]) (dsP b (S ++ [F])) (.str "there") (dsP b (S ++ [F])) := dok_of fun r => by
  unfold m__law_try
  refine zw_run ?_
  show wpD (b__law_try cl [.sh (.at_ a), .sh (.str "take"), .sh (row c), .no, .no] r _) _ _
  unfold b__law_try
  have p1 := tak_add
  have p2 := dk_take_nt (cl := cl) (b := b) (S := S) (a := a) hc n
  walk_at "md"
  refine w_catch (.one "there") (.str "there") (by decide +kernel) (by rfl) (if_pos so14.2.1) ⟨rfl, Nat.le_of_ble_eq_true rfl, by decide, Nat.le_of_ble_eq_true rfl⟩ ?_
  walk_at "md"
  exact ⟨rfl, rfl, rfl⟩
theorem try_bad {v : PV} {w : Bool} (h : m_is_lot [kindP b, v] = ret (.bl false)) : DOk (m__law_try cl [.at_ a, .str (if w = true then "add" else "take"), v]) (dsP b (S ++ [F])) (.str "lot") (dsP b (S ++ [F])) := dok_of fun r => by
  unfold m__law_try
  refine zw_run ?_
  have p3 := dk_add_no (cl := cl) (S := S) (F := F) (a := a) h
  have p4 := dk_take_no (cl := cl) (S := S) (F := F) (a := a) h
  have p1 := add_add
  have p2 := tak_add
  cases w with
  | true =>
    show wpD (b__law_try cl [.sh (.at_ a), .sh (.str "add"), .sh v, .no, .no] r _) _ _
    unfold b__law_try
    walk_at "md"
    refine w_catch (.one "lot") (.str "lot") (by decide +kernel) (by rfl) (if_pos so14.1) ⟨rfl, Nat.le_of_ble_eq_true rfl, by decide, Nat.le_of_ble_eq_true rfl⟩ ?_
    walk_at "md"
    exact ⟨rfl, rfl, rfl⟩
  | false =>
    show wpD (b__law_try cl [.sh (.at_ a), .sh (.str "take"), .sh v, .no, .no] r _) _ _
    unfold b__law_try
    walk_at "md"
    refine w_catch (.one "lot") (.str "lot") (by decide +kernel) (by rfl) (if_pos so14.1) ⟨rfl, Nat.le_of_ble_eq_true rfl, by decide, Nat.le_of_ble_eq_true rfl⟩ ?_
    walk_at "md"
    exact ⟨rfl, rfl, rfl⟩
end
end Mir.k14

namespace Mir.k14
open PySem PySem.Spec PyProof.Rows L2 Mth
theorem gt1 (n : Nat) : gInt hGt (.int (n : Nat)) (.int 1) = some (.bl (decide (1 < n))) := by
  show some (PV.bl (decide ((n : Int) > 1))) = _
  exact congrArg (fun b => some (PV.bl b)) (decide_eq_decide.mpr (by omega))
theorem sub1 (n : Nat) : gInt hSub (.int ((n + 1 : Nat) : Int)) (.int 1) = some (.int (n : Nat)) := by
  show some (PV.int (((n + 1 : Nat) : Int) - 1)) = _
  rw [show ((n + 1 : Nat) : Int) - 1 = (n : Nat) from by omega]
theorem max1 (n : Nat) : gMax [.int 1, .int (n : Nat)] = some (.int ((max 1 n : Nat) : Int)) := by
  show some (PV.int (if (n : Int) > 1 then (n : Int) else 1)) = _
  refine congrArg (fun z => some (PV.int z)) ?_
  split <;> omega
theorem sl_pa_to {S : List (List (List Nat))} {k : Nat} (h : k ≤ S.length) : slP (paP S) none (some (k : Int)) = some (paP (S.take k)) := by
  show some (PV.lst (cutP (S.map fL) none (some (k : Int)))) = _
  rw [cut_to (by rw [List.length_map]; exact h), ← List.map_take]; rfl
theorem pa_snoc {S : List (List (List Nat))} {F : List (List Nat)} (h : S.length ≤ 1000) : gAdd (paP S) (.lst [fL F]) = some (paP (S ++ [F])) := by
  unfold paP
  rw [gAdd_lst (by rw [List.length_map, List.length_singleton]; omega), List.map_append]; rfl
/-- one turn: what a step tells, the family behind it, whether it is one -/
structure Turn (cl : Str → Addr) (b : Bool) (S : List (List (List Nat))) (F : List (List Nat)) (w : PV) (c : List Nat) (due : PV) (later : List (List Nat)) (ch : Bool) : Prop where
  tr : ∀ a, DOk (m__law_try cl [.at_ a, w, row c]) (dsP b (S ++ [F])) due (dsP b (if ch = true then S ++ [F] ++ [later] else S ++ [F]))
  fam : Fam b later
  ne : gNe due due = some (.bl false)
  th : gNe due (.str "there") = some (.bl ch)
theorem bb (x : Bool) : gNe (.bl x) (.bl x) = some (.bl false) := ne_refl rfl
section
variable {cl : Str → Addr} {b ch : Bool} {S : List (List (List Nat))} {F G later : List (List Nat)} {c : List Nat} {a : Addr} {w due : PV}
theorem of_copy_ok (T : Turn cl b S F w c due later ch) (hA : ∀ G ∈ S ++ [F], Fam b G) (hS : S.length ≤ 500) : m__law_of_copy cl [obP cl b (S ++ [F]), kindP b, paP (S ++ [F]), .tup [w, row c], due, fL later] = ret (.bl true) := funext fun r => by
  unfold m__law_of_copy moc
  rw [if_pos]
  · rfl
  refine ⟨dsP b (S ++ [F]), _, rfl, tp_kd b, tp_st _, dk_copy, fun y => ?_⟩
  show wpD (b__law_of_copy cl [.sh (obP cl b (S ++ [F])), .sh (kindP b), .sh (paP (S ++ [F])), .sh (.tup [w, row c]), .sh due, .sh (fL later), .sh (.at_ y), .no] r _) _ _
  unfold b__law_of_copy
  have hF := hA F (List.mem_append_right _ List.mem_cons_self)
  have q1 : m__law_stands cl [(dkD cl).obj (dsP b (S ++ [F])), kindP b, paP (S ++ [F])] = ret (.bl true) := stands_ok hF (by omega)
  have q2 : m__law_stands cl [obP cl b (S ++ [F]), kindP b, paP (S ++ [F])] = ret (.bl true) := stands_ok hF (by omega)
  have tr := T.tr y
  have n1 := T.ne
  have n2 := T.th
  have i0 : ixP (.tup [w, row c]) (.int 0) = some w := rfl
  have i1 : ixP (.tup [w, row c]) (.int 1) = some (row c) := rfl
  cases ch with
  | true =>
    rw [if_pos rfl] at tr
    have a1 : gAdd (paP (S ++ [F])) (.lst [fL later]) = some (paP (S ++ [F] ++ [later])) := pa_snoc (by rw [List.length_append, List.length_singleton]; omega)
    have q3 : m__law_stands cl [(dkD cl).obj (dsP b (S ++ [F] ++ [later])), kindP b, paP (S ++ [F] ++ [later])] = ret (.bl true) := stands_ok T.fam (by rw [List.length_append, List.length_singleton]; omega)
    have u1 := dk_undo2 (cl := cl) (b := b) (S := S) (G := F) (F := later) (a := y)
    have g1 := gl_pa (S ++ [F]) later
    have g2 := gt1 ((S ++ [F]).length + 1)
    rw [decide_eq_true (by rw [List.length_append, List.length_singleton]; omega)] at g2
    have n3 := bb true
    have s1 := sub1 (S ++ [F]).length
    have x1 := max1 (S ++ [F]).length
    rw [show max 1 (S ++ [F]).length = (S ++ [F]).length from Nat.max_eq_right (by rw [List.length_append, List.length_singleton]; omega)] at x1
    have s2 : slP (paP (S ++ [F] ++ [later])) none (some (((S ++ [F]).length : Nat) : Int)) = some (paP (S ++ [F])) := by
      have := sl_pa_to (S := S ++ [F] ++ [later]) (k := (S ++ [F]).length) (by rw [List.length_append (as := S ++ [F])]; omega)
      rwa [List.take_left] at this
    walk_at "md"
    exact ⟨rfl, rfl⟩
  | false =>
    rw [if_neg Bool.false_ne_true] at tr
    rcases List.eq_nil_or_concat S with rfl | ⟨S0, G, rfl⟩
    · have u1 := dk_undo1 (cl := cl) (b := b) (F := F) (a := y)
      have g1 := gl_pa [] F
      have g2 : gInt hGt (.int (([] : List (List (List Nat))).length + 1 : Nat)) (.int 1) = some (.bl false) := gt1 1
      have n3 := bb false
      have s1 : gInt hSub (.int (([] : List (List (List Nat))).length + 1 : Nat)) (.int 1) = some (.int (0 : Nat)) := sub1 0
      have x1 : gMax [.int 1, .int ((0 : Nat) : Int)] = some (.int ((1 : Nat) : Int)) := max1 0
      have s2 : slP (paP ([] ++ [F])) none (some ((1 : Nat) : Int)) = some (paP ([] ++ [F])) := sl_pa_to (S := [] ++ [F]) (k := 1) (Nat.le_refl _)
      walk_at "md"
      exact ⟨rfl, rfl⟩
    · rw [List.concat_eq_append] at *
      have hG := hA G (List.mem_append_left _ (List.mem_append_right _ List.mem_cons_self))
      have u1 := dk_undo2 (cl := cl) (b := b) (S := S0) (G := G) (F := F) (a := y)
      have g1 := gl_pa (S0 ++ [G]) F
      have g2 := gt1 ((S0 ++ [G]).length + 1)
      rw [decide_eq_true (by rw [List.length_append, List.length_singleton]; omega)] at g2
      have n3 := bb true
      have s1 := sub1 (S0 ++ [G]).length
      have x1 := max1 (S0 ++ [G]).length
      rw [show max 1 (S0 ++ [G]).length = (S0 ++ [G]).length from Nat.max_eq_right (by rw [List.length_append, List.length_singleton]; omega)] at x1
      have s2 : slP (paP (S0 ++ [G] ++ [F])) none (some (((S0 ++ [G]).length : Nat) : Int)) = some (paP (S0 ++ [G])) := by
        have := sl_pa_to (S := S0 ++ [G] ++ [F]) (k := (S0 ++ [G]).length) (by rw [List.length_append (as := S0 ++ [G])]; omega)
        rwa [List.take_left] at this
      have q3 : m__law_stands cl [(dkD cl).obj (dsP b (S0 ++ [G])), kindP b, paP (S0 ++ [G])] = ret (.bl true) := stands_ok hG (by rw [List.length_append, List.length_singleton] at hS; omega)
      walk_at "md"
      exact ⟨rfl, rfl⟩
end
end Mir.k14

namespace Mir.k14
open PySem PySem.Spec PyProof.Rows L2 Mth
section
variable {b : Bool} {ls : List (List Nat)}
theorem init_kind (v : PV) : mi_Desk [.str "set", v] = raise bkE := ex_of fun r => by
  have p0 := kind_bad
  show wpM (bnd (eCall 1 m_check_kind (aCons (eVar 1) (aNil)) [.sh .non, .sh (.str "set"), .sh v]) (fun _ => bnd (eCall 2 m_check_lots (aCons (eVar 1) (aCons (eVar 2) (aNil))) [.sh .non, .sh (.str "set"), .sh v]) fun _ =>
    bnd (eVar 1 [.sh .non, .sh (.str "set"), .sh v]) fun a => bnd (eTup (aCons (eBi gToT (aCons (eCall 2 m_closed_of (aCons (eVar 1) (aCons (eVar 2) (aNil)))) (aNil))) (aNil)) [.sh .non, .sh (.str "set"), .sh v]) fun b => ret (a, b)) r) _ _
  refine w_bnd ?_
  walk_at "mr"
  exact ⟨rfl, rfl⟩
theorem init_lots {v : PV} {e : Exn} (h : m_check_lots [kindP b, v] = raise e) : mi_Desk [kindP b, v] = raise e := ex_of fun r => by
  have p0 := kind_ok b
  show wpM (bnd (eCall 1 m_check_kind (aCons (eVar 1) (aNil)) [.sh .non, .sh (kindP b), .sh v]) (fun _ => bnd (eCall 2 m_check_lots (aCons (eVar 1) (aCons (eVar 2) (aNil))) [.sh .non, .sh (kindP b), .sh v]) fun _ =>
    bnd (eVar 1 [.sh .non, .sh (kindP b), .sh v]) fun a => bnd (eTup (aCons (eBi gToT (aCons (eCall 2 m_closed_of (aCons (eVar 1) (aCons (eVar 2) (aNil)))) (aNil))) (aNil)) [.sh .non, .sh (kindP b), .sh v]) fun b => ret (a, b)) r) _ _
  refine w_bnd ?_
  walk_at "mr"
  refine w_bnd ?_
  walk_at "mr"
  exact ⟨rfl, rfl⟩
theorem wrong_kind (v : PV) : m__law_wrong [.str "set", v] = ret (.str "kind") := pure_of fun r => by
  unfold m__law_wrong
  with_reducible refine w_run ?_
  show wpM (b__law_wrong [.sh (.str "set"), .sh v, .no, .no] r) _ _
  unfold b__law_wrong
  have p0 := init_kind v
  walk_at "md"
  refine w_catch (.one "kind") (.str "kind") (by decide +kernel) (by rfl) (if_pos so14.2.2.1) ⟨rfl, Nat.le_of_ble_eq_true rfl, by decide, Nat.le_of_ble_eq_true rfl⟩ ?_
  walk_at "md"
  exact ⟨rfl, rfl⟩
theorem hv_lots (w : PV) : hV (blsE w) (.lst [.c "lots", .f "index"]) = some (.lst [.str "lots", w]) := by
  have h1 : hItem (blsE w) (.c "lots") = some (.str "lots") := if_pos so14.2.2.2
  have h2 : hItem (blsE w) (.f "index") = some w := rfl
  have h3 : hItems (blsE w) [.c "lots", .f "index"] = some [.str "lots", w] := by
    show (hItem (blsE w) (.c "lots")).bind (fun x => ((hItem (blsE w) (.f "index")).bind fun x => (some []).map (x :: ·)).map (x :: ·)) = _
    rw [h1, h2]; rfl
  show (if 2 ≤ 16777216 then (hItems (blsE w) [.c "lots", .f "index"]).map PV.lst else none) = _
  rw [h3]
  exact if_pos (by decide)
theorem wrong_lots {v : PV} {w : PV} (h : m_check_lots [kindP b, v] = raise (blsE w)) : m__law_wrong [kindP b, v] = ret (.lst [.str "lots", w]) := pure_of fun r => by
  unfold m__law_wrong
  with_reducible refine w_run ?_
  show wpM (b__law_wrong [.sh (kindP b), .sh v, .no, .no] r) _ _
  unfold b__law_wrong
  have p0 := init_lots h
  walk_at "md"
  refine w_catch (.lst [.c "lots", .f "index"]) (.lst [.str "lots", w]) (by show ("BadLots" : Str) ∈ xns; decide +kernel) (by rfl) ?_ ⟨rfl, Nat.le_of_ble_eq_true rfl, by decide, Nat.le_of_ble_eq_true rfl⟩ ?_
  · exact hv_lots w
  walk_at "md"
  exact ⟨rfl, rfl⟩
end
end Mir.k14

namespace Mir.k14
open PySem PySem.Spec PyProof.Rows L2 Mth
/-! the turn of the law's loop: its parts -/
/-- the shapes of the names in the loop: nothing yet; a turn without a copy kept; with one -/
inductive Shp (b : Bool) (ls : List (List Nat)) (a : Addr) (S : List (List (List Nat))) : Env → Prop
  | z : Shp b ls a S [.no, .sh .row, .sh (kindP b), .sh (fL ls), .sh (.at_ a), .sh (paP S), .no, .no, .no, .no, .no, .no, .no, .no, .no]
  | o (v6 v7 v8 v9 v10 v11 v12 : PV) : Shp b ls a S [.no, .sh .row, .sh (kindP b), .sh (fL ls), .sh (.at_ a), .sh (paP S), .sh v6, .sh v7, .sh v8, .sh v9, .sh v10, .sh v11, .sh v12, .no, .no]
  | t (v6 v7 v8 v9 v10 v11 v12 v13 : PV) : Shp b ls a S [.no, .sh .row, .sh (kindP b), .sh (fL ls), .sh (.at_ a), .sh (paP S), .sh v6, .sh v7, .sh v8, .sh v9, .sh v10, .sh v11, .sh v12, .sh v13, .no]
/-- behind a turn -/
def Aft (b : Bool) (ls : List (List Nat)) (a : Addr) (n : Nat) (e : Env) (r : RS) (s : DS) : Prop := ∃ S F, Shp b ls a (S ++ [F]) e ∧ Rok r ∧ s = dsP b (S ++ [F]) ∧ (∀ G ∈ S ++ [F], Fam b G) ∧ S.length ≤ n
section
variable {cl : Str → Addr} {b ch : Bool} {S : List (List (List Nat))} {F G later ls : List (List Nat)} {c : List Nat} {a : Addr} {w due : PV}
theorem ne_there (F : List (List Nat)) : gNe (fL F) (.str "there") = some (.bl true) := by
  have d : (dt 8 (fL F) && dt 8 (.str "there")) = true := by
    rw [show dt 8 (fL F) = true from dt_rows 6 F]; rfl
  have e : pq 8 (fL F) (.str "there") = false := rfl
  unfold gNe
  rw [d, e]; rfl
/-- put in: the step, as law and desk tell it -/
theorem turn_add (hF : Fam b F) (hc : isLt b 4 4 c) (hS : S.length ≤ 500) : Turn cl b S F (.str "add") c (fL (freshL F c)) (famC (F ++ [c])) true where
  tr := fun a => by rw [if_pos rfl]; exact try_add hF hc (by omega)
  fam := fam_of (hF.snoc hc)
  ne := ne_refl (dt_rows 6 _)
  th := ne_there _
theorem turn_take (hF : Fam b F) (hc : isLt b 4 4 c) (hS : S.length ≤ 500) (m : c ∈ F) : Turn cl b S F (.str "take") c (fL (goneL F c)) (keepL F c) true where
  tr := fun a => by rw [if_pos rfl]; exact try_take hF hc (by omega) m
  fam := fam_keep hF
  ne := ne_refl (dt_rows 6 _)
  th := ne_there _
theorem turn_nt (hF : Fam b F) (hc : isLt b 4 4 c) (n : c ∉ F) : Turn cl b S F (.str "take") c (.str "there") F false where
  tr := fun a => by rw [if_neg Bool.false_ne_true]; exact try_nt hc n
  fam := hF
  ne := ne_refl rfl
  th := ne_refl rfl
end
end Mir.k14

namespace Mir.k14
open PySem PySem.Spec PyProof.Rows L2 Mth
/-! the second half of a turn: undo, a copy, a step; then an odd lot -/
/-- what must hold behind a turn -/
def aftK (b : Bool) (ls : List (List Nat)) (a : Addr) (n : Nat) : Fl → RS → DS → Prop
  | .nx e, r, s => Aft b ls a n e r s
  | _, _, _ => False
theorem aftK_nx {b : Bool} {ls : List (List Nat)} {a : Addr} {n : Nat} {e : Env} {r : RS} {s : DS} (h : Aft b ls a n e r s) : aftK b ls a n (.nx e) r s := h
def wdP (wb : Bool) : PV := .str (if wb = true then "add" else "take")
section
variable {cl : Str → Addr} {b ch wb : Bool} {S T : List (List (List Nat))} {F G later ls : List (List Nat)} {c : List Nat} {a : Addr} {due v6 v7 v8 v10 v11 v12 : PV} {n : Nat} {r : RS} {E : Exn → RS → DS → Prop}
theorem tailZ {e13 : Slot} (hz : e13 = .no ∨ ∃ v, e13 = .sh v) (hR : Rok r) (hG : ∀ H ∈ T ++ [G], Fam b H) (hn : T.length ≤ n) (hn5 : n ≤ 500) {e0 : Env} (he : e0 = [.no, .sh .row, .sh (kindP b), .sh (fL ls), .sh (.at_ a), .sh (paP (T ++ [G])), .sh v6, .sh v7, .sh v8, .sh (wdP wb), .sh v10, .sh v11, .sh v12, e13, .no]) : wpD (b_lawZ cl e0 r (dsP b (T ++ [G]))) (aftK b ls a n) E := by
  subst he
  unfold b_lawZ
  have od := odds_ok (b := b)
  have hF := hG G (List.mem_append_right _ List.mem_cons_self)
  have st : m__law_stands cl [(dkD cl).obj (dsP b (T ++ [G])), kindP b, paP (T ++ [G])] = ret (.bl true) := stands_ok hF (by omega)
  have n1 : gNe (.str "lot") (.str "lot") = some (.bl false) := ne_refl rfl
  walk_at "md"
  refine pick_ok (n := 13) (by decide) (by decide) hR fun j r1 hj h1 => ?_
  obtain ⟨w, ix, bad⟩ := odd13 (b := b) hj
  have tb : DOk (m__law_try cl [.at_ a, wdP wb, w]) (dsP b (T ++ [G])) (.str "lot") (dsP b (T ++ [G])) := try_bad (w := wb) bad
  walk_at "md"
  refine aftK_nx ⟨T, G, ?_, h1, rfl, hG, hn⟩
  rcases hz with rfl | ⟨v, rfl⟩
  · exact .o _ _ _ _ _ _ _
  · exact .t _ _ _ _ _ _ _ _
end
end Mir.k14

namespace Mir.k14
open PySem PySem.Spec PyProof.Rows L2 Mth
section
variable {cl : Str → Addr} {b ch wb : Bool} {S T : List (List (List Nat))} {F G later ls : List (List Nat)} {c : List Nat} {a : Addr} {due v6 v8 : PV} {n j : Nat} {r : RS} {E : Exn → RS → DS → Prop}
theorem lawT_ok {e13 : Slot} (T : Turn cl b S F (wdP wb) c due later ch) (hz : e13 = .no ∨ ∃ v, e13 = .sh v) (hR : Rok r) (hA : ∀ H ∈ S ++ [F], Fam b H) (hn : S.length ≤ n) (hn5 : n < 500) {e0 : Env} (he : e0 = [.no, .sh .row, .sh (kindP b), .sh (fL ls), .sh (.at_ a), .sh (paP (S ++ [F])), .sh v6, .sh (.int (j : Nat)), .sh v8, .sh (wdP wb), .sh (row c), .sh (fL later), .sh due, e13, .no]) : wpD (b_lawT cl e0 r (dsP b (S ++ [F]))) (aftK b ls a (n + 1)) E := by
  subst he
  unfold b_lawT
  have hF := hA F (List.mem_append_right _ List.mem_cons_self)
  have q0 : gEq (.int (j : Nat)) (.int 0) = some (.bl (Nat.beq j 0)) := nat_eq j 0
  have q1 : gEq (.int (j : Nat)) (.int 1) = some (.bl (Nat.beq j 1)) := nat_eq j 1
  cases b0 : Nat.beq j 0 with
  | true =>
    rw [b0] at q0
    clear q1
    unfold b_lawU
    rcases List.eq_nil_or_concat S with rfl | ⟨S0, G, rfl⟩
    · have u1 := dk_undo1 (cl := cl) (b := b) (F := F) (a := a)
      have g1 := gl_pa [] F
      have g2 : gInt hGt (.int (([] : List (List (List Nat))).length + 1 : Nat)) (.int 1) = some (.bl false) := gt1 1
      have n3 := bb false
      walk_at "md"
      refine ⟨keepB_nx rfl rfl (by rcases hz with rfl | ⟨v, rfl⟩ <;> rfl), ?_⟩
      refine zw_k ?_
      refine tailZ (n := n + 1) (v6 := v6) (v7 := .int (j : Nat)) (v8 := v8) (wb := wb) (v10 := row c) (v11 := fL later) (v12 := due) (T := []) (G := F) hz hR hA (Nat.zero_le _) (by omega) ?_
      rfl
    · rw [List.concat_eq_append] at *
      have u1 := dk_undo2 (cl := cl) (b := b) (S := S0) (G := G) (F := F) (a := a)
      have g1 := gl_pa (S0 ++ [G]) F
      have g2 := gt1 ((S0 ++ [G]).length + 1)
      rw [decide_eq_true (by rw [List.length_append, List.length_singleton]; omega)] at g2
      have n3 := bb true
      have s2 := sl_pa (S0 ++ [G]) F
      walk_at "md"
      refine ⟨keepB_nx rfl rfl (by rcases hz with rfl | ⟨v, rfl⟩ <;> rfl), ?_⟩
      refine zw_k ?_
      refine tailZ (n := n + 1) (v6 := v6) (v7 := .int (j : Nat)) (v8 := v8) (wb := wb) (v10 := row c) (v11 := fL later) (v12 := due) (T := S0) (G := G) hz hR (fun H hH => hA H (List.mem_append_left _ hH)) (by rw [List.length_append] at hn; omega) (by omega) ?_
      rfl
  | false =>
    rw [b0] at q0
    cases b1 : Nat.beq j 1 with
    | true =>
      rw [b1] at q1
      unfold b_lawC
      have oc : m__law_of_copy cl [(dkD cl).obj (dsP b (S ++ [F])), kindP b, paP (S ++ [F]), .tup [wdP wb, row c], due, fL later] = ret (.bl true) := of_copy_ok T hA (by omega)
      walk_at "md"
      refine tailZ (n := n + 1) (v6 := v6) (v7 := .int (j : Nat)) (v8 := v8) (wb := wb) (v10 := row c) (v11 := fL later) (v12 := due) (T := S) (G := F) hz hR hA (by omega) (by omega) ?_
      rfl
    | false =>
      rw [b1] at q1
      unfold b_lawD
      have tr := T.tr a
      have n1 := T.ne
      have n2 := T.th
      have q2 : m__law_stands cl [(dkD cl).obj (dsP b (S ++ [F])), kindP b, paP (S ++ [F])] = ret (.bl true) := stands_ok hF (by omega)
      cases ch with
      | true =>
        rw [if_pos rfl] at tr
        have a1 : gAdd (paP (S ++ [F])) (.lst [fL later]) = some (paP (S ++ [F] ++ [later])) := pa_snoc (by rw [List.length_append, List.length_singleton]; omega)
        walk_at "md"
        refine ⟨dk_copy, ?_⟩
        walk_at "md"
        refine tailZ (n := n + 1) (v6 := v6) (v7 := .int (j : Nat)) (v8 := v8) (wb := wb) (v10 := row c) (v11 := fL later) (v12 := due) (T := S ++ [F]) (G := later) (.inr ⟨(dkD cl).obj (dsP b (S ++ [F])), rfl⟩) hR (fun H hH => ?_) (by rw [List.length_append, List.length_singleton]; omega) (by omega) ?_
        · rcases List.mem_append.mp hH with z | z
          · exact hA H z
          · rw [List.mem_singleton.mp z]; exact T.fam
        rfl
      | false =>
        rw [if_neg Bool.false_ne_true] at tr
        walk_at "md"
        refine ⟨dk_copy, ?_⟩
        walk_at "md"
        refine tailZ (n := n + 1) (v6 := v6) (v7 := .int (j : Nat)) (v8 := v8) (wb := wb) (v10 := row c) (v11 := fL later) (v12 := due) (T := S) (G := F) (.inr ⟨(dkD cl).obj (dsP b (S ++ [F])), rfl⟩) hR hA (by omega) (by omega) ?_
        rfl
end
end Mir.k14

namespace Mir.k14
open PySem PySem.Spec PyProof.Rows L2 Mth
/-! the first half of a turn: what is drawn, what the law says it must do -/
theorem ixr14 {ls : List (List Nat)} {j : Nat} (h : j < ls.length) : ixP (fL ls) (.int (j : Nat)) = some (row ls[j]) := atI_nat (by rw [List.getElem?_map, List.getElem?_eq_getElem h]; rfl)
theorem fl_app {F N : List (List Nat)} (h : F.length + N.length ≤ 10000) : gAdd (fL F) (fL N) = some (fL (F ++ N)) := by
  unfold fL
  rw [gAdd_lst (by rw [List.length_map, List.length_map]; omega), List.map_append]
section
variable {cl : Str → Addr} {b ch wb : Bool} {S T : List (List (List Nat))} {F G later ls : List (List Nat)} {c : List Nat} {a : Addr} {due v6 v8 : PV} {n j : Nat} {r : RS} {E : Exn → RS → DS → Prop}
theorem lawM_ok {e13 : Slot} (hc : isLt b 4 4 c) (hz : e13 = .no ∨ ∃ v, e13 = .sh v) (hR : Rok r) (hA : ∀ H ∈ S ++ [F], Fam b H) (hn : S.length ≤ n) (hn5 : n < 500) {e0 : Env} (he : e0 = [.no, .sh .row, .sh (kindP b), .sh (fL ls), .sh (.at_ a), .sh (paP (S ++ [F])), .sh v6, .sh (.int (j : Nat)), .sh (fL F), .sh (wdP wb), .sh (row c), .sh (fL F), .sh (.str "there"), e13, .no]) : wpD (b_lawM cl e0 r (dsP b (S ++ [F]))) (aftK b ls a (n + 1)) E := by
  subst he
  unfold b_lawM
  have hF := hA F (List.mem_append_right _ List.mem_cons_self)
  have hl := hF.len
  cases wb with
  | true =>
    have t := turn_add (cl := cl) (S := S) hF hc (by omega)
    have e1 : gEq (wdP true) (.str "add") = some (.bl true) := add_add
    have a1 : gAdd (fL F) (.lst [row c]) = some (fL (F ++ [c])) := fl_app (N := [c]) (by rw [List.length_singleton]; omega)
    have p1 := lcl (ls := F ++ [c]) (hF.snoc hc) (by rw [List.length_append, List.length_singleton]; omega)
    have gl := (fam_of (hF.snoc hc)).len
    have ef := fresh_eq hF hc
    generalize famC (F ++ [c]) = G at *
    rcases hz with rfl | ⟨v, rfl⟩
    all_goals
      walk_at "md"
      refine ⟨⟨by rw [List.length_map]; omega, rfl⟩, ?_⟩
      refine w_lcG row (fun d => !decide (d ∈ F)) row _ _ (fun d hd => ?_) ?_
      · have n3 := nin_rowsD d F
        refine ⟨_, rfl, fun r4 => ⟨?_, fun _ => ?_⟩⟩
        · walk_at "md"
          exact ⟨rfl, rfl⟩
        · walk_at "md"
          exact ⟨rfl, rfl⟩
      rw [ef]
      walk_at "md"
      first
        | ((refine lawT_ok (wb := true) (v6 := v6) (v8 := fL F) (j := j) (e13 := .no) t (.inl rfl) hR hA hn hn5 ?_); rfl)
        | ((refine lawT_ok (wb := true) (v6 := v6) (v8 := fL F) (j := j) (e13 := .sh v) t (.inr ⟨v, rfl⟩) hR hA hn hn5 ?_); rfl)
  | false =>
    have e1 : gEq (wdP false) (.str "add") = some (.bl false) := tak_add
    have n1 := in_rowsD c F
    by_cases m : c ∈ F
    · rw [decide_eq_true m] at n1
      have t := turn_take (cl := cl) (S := S) hF hc (by omega) m
      have eg : goneL F c = F.filter fun d => decide (c ∈ famC [d]) := rfl
      have ek : keepL F c = F.filter fun d => !decide (d ∈ goneL F c) := rfl
      generalize keepL F c = N at *
      generalize goneL F c = M at *
      rcases hz with rfl | ⟨v, rfl⟩
      all_goals
        walk_at "md"
        refine ⟨⟨by rw [List.length_map]; omega, rfl⟩, ?_⟩
        refine w_lcG row (fun d => decide (c ∈ famC [d])) row _ _ (fun d hd => ?_) ?_
        · have p2 : m__law_closed [.lst [row d]] = ret (fL (famC [d])) := lcl (ls := [d]) (in1 (hF.ok d hd)) (Nat.le_of_ble_eq_true rfl)
          have n3 := in_rowsD c (famC [d])
          refine ⟨_, rfl, fun r4 => ⟨?_, fun _ => ?_⟩⟩
          · walk_at "md"
            exact ⟨rfl, rfl⟩
          · walk_at "md"
            exact ⟨rfl, rfl⟩
        rw [← eg]
        walk_at "md"
        refine ⟨⟨by rw [List.length_map]; omega, rfl⟩, ?_⟩
        refine w_lcG row (fun d => !decide (d ∈ M)) row _ _ (fun d hd => ?_) ?_
        · have n3 := nin_rowsB d M
          refine ⟨_, rfl, fun r4 => ⟨?_, fun _ => ?_⟩⟩
          · walk_at "md"
            exact ⟨rfl, rfl⟩
          · walk_at "md"
            exact ⟨rfl, rfl⟩
        rw [← ek]
        walk_at "md"
        first
          | ((refine lawT_ok (wb := false) (v6 := v6) (v8 := fL F) (j := j) (e13 := .no) t (.inl rfl) hR hA hn hn5 ?_); rfl)
          | ((refine lawT_ok (wb := false) (v6 := v6) (v8 := fL F) (j := j) (e13 := .sh v) t (.inr ⟨v, rfl⟩) hR hA hn hn5 ?_); rfl)
    · rw [decide_eq_false m] at n1
      have t := turn_nt (cl := cl) (S := S) hF hc m
      rcases hz with rfl | ⟨v, rfl⟩
      all_goals
        walk_at "md"
        first
          | ((refine lawT_ok (wb := false) (v6 := v6) (v8 := fL F) (j := j) (e13 := .no) t (.inl rfl) hR hA hn hn5 ?_); rfl)
          | ((refine lawT_ok (wb := false) (v6 := v6) (v8 := fL F) (j := j) (e13 := .sh v) t (.inr ⟨v, rfl⟩) hR hA hn hn5 ?_); rfl)
end
end Mir.k14

namespace Mir.k14
open PySem PySem.Spec PyProof.Rows L2 Mth
/-! a whole turn -/
theorem word2 {j : Nat} (h : j < 2) : ∃ wb : Bool, ixP (.lst [.str "add", .str "take"]) (.int (j : Nat)) = some (wdP wb) := by
  match j, h with
  | 0, _ => exact ⟨true, rfl⟩
  | 1, _ => exact ⟨false, rfl⟩
section
variable {cl : Str → Addr} {b : Bool} {S : List (List (List Nat))} {F ls : List (List Nat)} {a : Addr} {x : PV} {n : Nat} {r : RS} {E : Exn → RS → DS → Prop}
theorem lots3 {c : List Nat} {j : Nat} (hF : ∀ d ∈ F, isLt b 4 4 d) (hc : isLt b 4 4 c) (h : j < F.length + 3) : ∃ d, isLt b 4 4 d ∧ ixP (fL (F ++ [c, c, c])) (.int (j : Nat)) = some (row d) := by
  have hj : j < (F ++ [c, c, c]).length := by rw [List.length_append]; exact h
  refine ⟨_, ?_, ixr14 hj⟩
  rcases List.mem_append.mp (List.getElem_mem hj) with z | z
  · exact hF _ z
  · have : ∀ d ∈ [c, c, c], d = c := fun d hd => by
      rcases List.mem_cons.mp hd with z | hd
      · exact z
      rcases List.mem_cons.mp hd with z | hd
      · exact z
      exact List.mem_singleton.mp hd
    rw [this _ z]; exact hc
theorem lawB_ok {e : Env} (sh : Shp b ls a (S ++ [F]) e) (hR : Rok r) (hA : ∀ H ∈ S ++ [F], Fam b H) (hn : S.length ≤ n) (hn5 : n < 500) : ∃ e1, gNm 6 x e = some e1 ∧ keepF 4 e (.nx e1) = true ∧ wpD (b_lawB cl e1 r (dsP b (S ++ [F]))) (aftK b ls a (n + 1)) E := by
  have hF := hA F (List.mem_append_right _ List.mem_cons_self)
  have hl := hF.len
  have f1 := ix_pa S F
  have gl : gLen [fL F] = some (.int (F.length : Nat)) := by
    unfold fL
    rw [gl_lst, List.length_map]
  have e3 : (F.length : Int) + 3 = ((F.length + 3 : Nat) : Int) := by omega
  rcases sh with _ | _ | ⟨w6, w7, w8, w9, w10, w11, w12, v⟩
  all_goals
    refine ⟨_, rfl, keepB_nx rfl rfl rfl, ?_⟩
    unfold b_lawB
    walk_at "md"
    refine pick_ok (n := 6) (by decide) (by decide) hR fun j r1 hj h1 => ?_
    walk_at "md"
    refine pick_ok (n := 2) (by decide) (by decide) h1 fun j2 r2 hj2 h2 => ?_
    obtain ⟨wb, w2⟩ := word2 hj2
    walk_at "md"
    refine law_lot_ok (b := b) (T := 4) (M := 4) (by decide) (by decide) (by decide) h2 fun c0 r3 h3 hc0 => ?_
    have m3 : gMul (.lst [row c0]) (.int 3) = some (fL [c0, c0, c0]) := rfl
    have a3 : gAdd (fL F) (fL [c0, c0, c0]) = some (fL (F ++ [c0, c0, c0])) := fl_app (by show _ + 3 ≤ _; omega)
    walk_at "md"
    rw [e3]
    refine pick_ok (n := F.length + 3) (by omega) (by omega) h3 fun j3 r4 hj3 h4 => ?_
    obtain ⟨c, hc, i3⟩ := lots3 hF.ok hc0 hj3
    walk_at "md"
    first
      | ((refine lawM_ok (wb := wb) (v6 := x) (j := j) (e13 := .no) hc (.inl rfl) h4 hA hn hn5 ?_); rfl)
      | ((refine lawM_ok (wb := wb) (v6 := x) (j := j) (e13 := .sh v) hc (.inr ⟨v, rfl⟩) h4 hA hn hn5 ?_); rfl)
end
end Mir.k14

namespace Mir.k14
open PySem PySem.Spec PyProof.Rows L2 Mth
/-! the law -/
/-- a for with a bound on its turns -/
theorem zw_loopB {K : Fl → RS → DS → Prop} {E : Exn → RS → DS → Prop} {t : TP} {di : Nat} {f : Env → DM Fl} (N : Nat) (I : Nat → Env → RS → DS → Prop) : ∀ (xs : List PV) (i : Nat) (env : Env) (r : RS) (s : DS), i + xs.length = N → I i env r s →
    (∀ i x env r s, i < N → I i env r s → ∃ env1, t x env = some env1 ∧ keepF di env (.nx env1) = true ∧ wpD (f env1 r s) (fun fl r' s' => match fl with | .nx e => I (i + 1) e r' s' | _ => False) E) → (∀ env r s, I N env r s → K (.nx env) r s) → wpD (dLoop t di f xs env r s) K E := by
  intro xs
  induction xs with
  | nil => exact fun i env r s e h _ k => k env r s (by rw [List.length_nil, Nat.add_zero] at e; rw [← e]; exact h)
  | cons x xs ih =>
    intro i env r s e h st k
    rw [List.length_cons] at e
    obtain ⟨env1, e1, e2, w⟩ := st i x env r s (by omega) h
    refine zw_bnd (zw_up (w_ofO ⟨env1, e1, zw_bnd (zw_pos e2 ?_)⟩))
    refine zw_bnd (wpD_mono w (fun fl r1 s1 w1 => ?_) fun _ _ _ z => z)
    cases fl with
    | nx e => exact ih (i + 1) e r1 s1 (by omega) w1 st k
    | rt v => exact w1.elim
    | bk e => exact w1.elim
    | ct e => exact w1.elim
theorem wrong4 {j : Nat} (h : j < 4) : ∃ v, ixP (.lst [.non, .dic [] [], .str "lots", .int 5]) (.int (j : Nat)) = some v ∧ noSeq v = true := by
  match j, h with
  | 0, _ => exact ⟨_, rfl, rfl⟩
  | 1, _ => exact ⟨_, rfl, rfl⟩
  | 2, _ => exact ⟨_, rfl, rfl⟩
  | 3, _ => exact ⟨_, rfl, rfl⟩
section
variable {cl : Str → Addr} {b : Bool} {S : List (List (List Nat))} {F ls : List (List Nat)} {a : Addr} {x : PV} {n : Nat} {r : RS} {E : Exn → RS → DS → Prop}
theorem lawE_ok {e : Env} (sh : Shp b ls a (S ++ [F]) e) (hg : ∀ c ∈ ls, goodR b c) (hl : ls.length ≤ 39) (hR : Rok r) (hF : Fam b F) (hS : S.length ≤ 1000) : wpD (b_lawE cl e r (dsP b (S ++ [F]))) (fun fl _ _ => fl = .rt (.bl true)) E := by
  have w1 : m__law_wrong [.str "set", .non] = ret (.str "kind") := wrong_kind _
  have good : ∀ x ∈ ls.map row, m_is_lot [kindP b, x] = ret (.bl true) := fun x hx => by
    obtain ⟨c, h, rfl⟩ := List.mem_map.mp hx
    obtain ⟨h1, h2, h3⟩ := hg c h
    have := is_lot_row (b := b) (cs := c) h1 h2
    rw [decide_eq_true h3] at this
    exact this
  have c1 : m_check_lots [kindP b, .lst (ls.map row ++ [.non])] = raise (blsE (.int ((ls.map row).length : Nat))) := lots_bad (b := b) (rest := []) r (.inl rfl) good (is_lot_no rfl) fun x hx => nomatch hx
  rw [List.length_map] at c1
  have w2 := wrong_lots c1
  have gA : gAdd (fL ls) (.lst [.non]) = some (.lst (ls.map row ++ [.non])) := gAdd_lst (by rw [List.length_map]; show _ + 1 ≤ _; omega)
  have gl : gLen [fL ls] = some (.int (ls.length : Nat)) := by
    unfold fL
    rw [gl_lst, List.length_map]
  have n1 : gNe (.str "kind") (.str "kind") = some (.bl false) := ne_refl rfl
  have n2 : gNe (.lst [.str "lots", .int (ls.length : Nat)]) (.lst [.str "lots", .int (ls.length : Nat)]) = some (.bl false) := ne_refl rfl
  have n3 : gNe (.lst [.str "lots", .non]) (.lst [.str "lots", .non]) = some (.bl false) := ne_refl rfl
  have st : m__law_stands cl [(dkD cl).obj (dsP b (S ++ [F])), kindP b, paP (S ++ [F])] = ret (.bl true) := stands_ok hF hS
  cases sh
  all_goals
    unfold b_lawE
    walk_at "md"
    refine pick_ok (n := 4) (by decide) (by decide) hR fun j r1 hj h1 => ?_
    obtain ⟨v, iv, hv⟩ := wrong4 hj
    have w3 := wrong_lots (b := b) (lots_none hv)
    walk_at "md"
    exact rfl
end
theorem law_ok : ∀ cl : Str → Addr, LawOkD 15 1 (b_law0 cl) mi_Desk (b_lawA cl) (b_lawP cl) 4 5 (b_law cl) := fun cl xs _ hb => by
  have hR : Rok ⟨xs, 0, 0, 7⟩ := Rok.st hb
  generalize (⟨xs, 0, 0, 7⟩ : RS) = r at *
  show wpM (b_law0 cl [.no, .sh .row, .no, .no, .no, .no, .no, .no, .no, .no, .no, .no, .no, .no, .no] r) _ _
  unfold b_law0
  walk_at "md"
  refine kindL_ok hR fun b r3 h3 => ?_
  walk_at "md"
  refine law_some_ok (b := b) (T := 4) (M := 3) (N := 3) (by decide) (by decide) (by decide) (by decide) h3 fun ls r4 h4 ll lg0 => ?_
  have lg : ∀ c ∈ ls, isLt b 4 4 c := fun c hc => ⟨by have := (lg0 c hc).1; omega, (lg0 c hc).2⟩
  have gg : ∀ c ∈ ls, goodR b c := fun c hc => is4_good (lg c hc)
  clear lg0
  have di := desk_init (b := b) (ls := ls) (by omega) gg
  have pc := lcl lg (by omega)
  have hF := fam_of lg
  have eL : PV.lst (ls.map row) = fL ls := rfl
  rw [eL]
  generalize famC ls = F at *
  walk_at "md"
  refine ⟨rfl, rfl, ?_⟩
  unfold b_lawA
  walk_at "md"
  refine ⟨tp_st _, ?_⟩
  unfold b_lawP
  walk_at "md"
  intro a
  show wpD (b_law cl [.no, .sh .row, .sh (kindP b), .sh (fL ls), .sh (.at_ a), .sh (paP ([] ++ [F])), .no, .no, .no, .no, .no, .no, .no, .no, .no] r4 (dsP b ([] ++ [F]))) _ _
  unfold b_law
  walk_at "md"
  refine pick_ok (n := 13) (by decide) (by decide) h4 fun j r5 hj h5 => ?_
  walk_at "md"
  with_reducible refine w_rg1 ?_ ?_
  · exact okR_of (by omega) (by omega)
  refine zw_loopB (Int.toNat j) (fun i e r s => Aft b ls a i e r s) _ 0 _ _ _ (by rw [rgL_len, Nat.zero_add]) ⟨[], F, .z, h5, rfl, (fun G hG => by rw [List.mem_singleton.mp hG]; exact hF), Nat.zero_le _⟩ (fun i x e r s hi hI => ?_) fun e r s hI => ?_
  · obtain ⟨S, F, sh, h6, rfl, hA, hn⟩ := hI
    obtain ⟨e1, k1, k2, w⟩ := lawB_ok (cl := cl) (E := fun _ _ _ => False) (x := x) sh h6 hA hn (by omega)
    refine ⟨e1, k1, k2, wpD_mono w (fun fl r s h => ?_) fun _ _ _ z => z⟩
    cases fl with
    | nx e => exact h
    | rt v => exact h
    | bk e => exact h
    | ct e => exact h
  · obtain ⟨S, F, sh, h6, rfl, hA, hn⟩ := hI
    refine zw_k ?_
    exact lawE_ok sh gg (by omega) h6 (hA F (List.mem_append_right _ List.mem_cons_self)) (by omega)
end Mir.k14

open PySem PySem.W PyProof.Rows
set_option maxHeartbeats 0 in
theorem PySem.Challenge.cw_sizeshadow_k14_whole_desks_holds : PySem.Challenge.rw_sizeshadow_k14_whole_desks.Holds := by
  w_on; o_law; k_head; (case hw => w_witness2)
  k_fill
  refine L2.walk_ofB (l := PySem.Challenge.rw_sizeshadow_k14_whole_desks) (n := 63) (k := 9) (x := "_law_script") (CX := fun w => L2.CX (PySem.Challenge.rw_sizeshadow_k14_whole_desks).prog w) (sp := fun w => Mir.spLaw _) rfl (by decide) rfl ⟨rfl, by decide, by decide⟩ (fun w h Y => PySem.W.kIn_of Y) ?F (fun _ _ a ns hl hb _ hS => ⟨a, ns, rfl, hS, hl, hb, fun _ => rfl⟩) (fun _ _ _ _ _ h => Mir.cxNo h)
  case F =>
    intro w mg fa h KX G hmg
    refine' Mir.k14.all_mk KX G hmg ?a_is_from ?l_is_from ?c_is_from ?k_is_from ?a_check_kind ?l_check_kind ?c_check_kind ?k_check_kind ?a_choose ?l_choose ?c_choose ?k_choose ?a_is_lot ?l_is_lot ?c_is_lot ?k_is_lot ?a_check_lot ?l_check_lot ?c_check_lot ?k_check_lot ?a_check_lots ?l_check_lots ?c_check_lots ?k_check_lots ?a_place_of ?l_place_of ?c_place_of ?k_place_of ?a_in_order ?l_in_order ?c_in_order ?k_in_order ?a_taken ?l_taken ?c_taken ?k_taken ?a_closed_of ?l_closed_of ?c_closed_of ?k_closed_of ?a_counts_in ?l_counts_in ?c_counts_in ?k_counts_in ?xc_Desk ?df_Desk___init__ ?l_Desk___init__ ?c_Desk___init__ ?k_Desk___init__ ?pa_Desk_kind ?pc_Desk_kind ?pg_Desk_kind ?pt_Desk_kind ?l_Desk_kind ?c_Desk_kind ?k_Desk_kind ?pa_Desk_lots ?pc_Desk_lots ?pg_Desk_lots ?pt_Desk_lots ?l_Desk_lots ?c_Desk_lots ?k_Desk_lots ?pa_Desk_counts ?pc_Desk_counts ?pg_Desk_counts ?pt_Desk_counts ?l_Desk_counts ?c_Desk_counts ?k_Desk_counts ?pa_Desk_steps ?pc_Desk_steps ?pg_Desk_steps ?pt_Desk_steps ?l_Desk_steps ?c_Desk_steps ?k_Desk_steps ?df_Desk_add ?l_Desk_add ?c_Desk_add ?k_Desk_add ?df_Desk_take ?l_Desk_take ?c_Desk_take ?k_Desk_take ?df_Desk_undo ?l_Desk_undo ?c_Desk_undo ?k_Desk_undo ?df_Desk_copy ?l_Desk_copy ?c_Desk_copy ?k_Desk_copy ?df_Desk___len__ ?l_Desk___len__ ?c_Desk___len__ ?k_Desk___len__ ?a__law_draws ?l__law_draws ?c__law_draws ?k__law_draws ?a__law_pick ?l__law_pick ?c__law_pick ?k__law_pick ?a__law_kind ?l__law_kind ?c__law_kind ?k__law_kind ?a__law_taken ?l__law_taken ?c__law_taken ?k__law_taken ?a__law_ordered ?l__law_ordered ?c__law_ordered ?k__law_ordered ?a__law_closed ?l__law_closed ?c__law_closed ?k__law_closed ?a__law_counts ?l__law_counts ?c__law_counts ?k__law_counts ?a__law_lot ?l__law_lot ?c__law_lot ?k__law_lot ?a__law_some ?l__law_some ?c__law_some ?k__law_some ?a__law_odd_lots ?l__law_odd_lots ?c__law_odd_lots ?k__law_odd_lots ?a__law_try ?l__law_try ?c__law_try ?k__law_try ?a__law_wrong ?l__law_wrong ?c__law_wrong ?k__law_wrong ?a__law_stands ?l__law_stands ?c__law_stands ?k__law_stands ?a__law_of_copy ?l__law_of_copy ?c__law_of_copy ?k__law_of_copy ?a_law ?l_law ?c_law ?k_law ?z_isinstance ?z_bool ?z_int ?z_str ?z_range ?z_len ?z_set ?z_list ?z_sorted ?z_all ?z_tuple ?z_enumerate ?z_sum ?z_max ?gc_BAGS ?gc_MOST_THING ?gc_MOST_SIZE ?t_KINDS ?tl_KINDS ?xc_BadKind ?xb_BadKind ?xt_BadKind ?xk_BadKind ?xc_BadLot ?xb_BadLot ?xt_BadLot ?xk_BadLot ?xc_NotThere ?xb_NotThere ?xt_NotThere ?xk_NotThere ?xc_BadLots ?xb_BadLots ?xt_BadLots ?xk_BadLots ?xe_BadKind ?xe_BadLot ?xe_NotThere ?cSz ?xL_BadLots ?sa_BadLots ?ii_BadLots ?it_BadLots ?il_BadLots ?ic_BadLots ?ik_BadLots ?xn ?cSd ?cSt ?xtk ?xg_BadKind ?xq_BadKind ?xd_BadKind ?xa_BadKind ?xm_BadKind ?xs_BadKind ?nf_BadKind_index ?ex_BadKind_BadKind ?ex_BadKind_BadLot ?ex_BadKind_NotThere ?ex_BadKind_BadLots ?xg_BadLot ?xq_BadLot ?xd_BadLot ?xa_BadLot ?xm_BadLot ?xs_BadLot ?nf_BadLot_index ?ex_BadLot_BadKind ?ex_BadLot_BadLot ?ex_BadLot_NotThere ?ex_BadLot_BadLots ?xg_NotThere ?xq_NotThere ?xd_NotThere ?xa_NotThere ?xm_NotThere ?xs_NotThere ?nf_NotThere_index ?ex_NotThere_BadKind ?ex_NotThere_BadLot ?ex_NotThere_NotThere ?ex_NotThere_BadLots ?xg_BadLots ?xq_BadLots ?xd_BadLots ?xa_BadLots ?xm_BadLots ?xs_BadLots ?nf_BadLots_index ?ex_BadLots_BadKind ?ex_BadLots_BadLot ?ex_BadLots_NotThere ?ex_BadLots_BadLots ?dm_Desk ?dk_Desk ?dp_Desk ?dh_Desk ?do_Desk ?ds_Desk ?dn_Desk_own_kind ?dn_Desk_states ?di_Desk___init__ ?di_Desk_add ?di_Desk_take ?di_Desk_undo ?di_Desk_copy ?di_Desk___len__ Mir.k14.law_ok
    (case a_is_from => k_is)
    (case l_is_from => k_is)
    (case c_is_from => k_is)
    (case k_is_from => k_is)
    (case a_check_kind => k_is)
    (case l_check_kind => k_is)
    (case c_check_kind => k_is)
    (case k_check_kind => k_is)
    (case a_choose => k_is)
    (case l_choose => k_is)
    (case c_choose => k_is)
    (case k_choose => k_is)
    (case a_is_lot => k_is)
    (case l_is_lot => k_is)
    (case c_is_lot => k_is)
    (case k_is_lot => k_is)
    (case a_check_lot => k_is)
    (case l_check_lot => k_is)
    (case c_check_lot => k_is)
    (case k_check_lot => k_is)
    (case a_check_lots => k_is)
    (case l_check_lots => k_is)
    (case c_check_lots => k_is)
    (case k_check_lots => k_is)
    (case a_place_of => k_is)
    (case l_place_of => k_is)
    (case c_place_of => k_is)
    (case k_place_of => k_is)
    (case a_in_order => k_is)
    (case l_in_order => k_is)
    (case c_in_order => k_is)
    (case k_in_order => k_is)
    (case a_taken => k_is)
    (case l_taken => k_is)
    (case c_taken => k_is)
    (case k_taken => k_is)
    (case a_closed_of => k_is)
    (case l_closed_of => k_is)
    (case c_closed_of => k_is)
    (case k_closed_of => k_is)
    (case a_counts_in => k_is)
    (case l_counts_in => k_is)
    (case c_counts_in => k_is)
    (case k_counts_in => k_is)
    (case xc_Desk => k_is)
    (case df_Desk___init__ => k_is)
    (case l_Desk___init__ => k_is)
    (case c_Desk___init__ => k_is)
    (case k_Desk___init__ => k_is)
    (case pa_Desk_kind => k_is)
    (case pc_Desk_kind => k_is)
    (case pg_Desk_kind => k_is)
    (case pt_Desk_kind => k_is)
    (case l_Desk_kind => k_is)
    (case c_Desk_kind => k_is)
    (case k_Desk_kind => k_is)
    (case pa_Desk_lots => k_is)
    (case pc_Desk_lots => k_is)
    (case pg_Desk_lots => k_is)
    (case pt_Desk_lots => k_is)
    (case l_Desk_lots => k_is)
    (case c_Desk_lots => k_is)
    (case k_Desk_lots => k_is)
    (case pa_Desk_counts => k_is)
    (case pc_Desk_counts => k_is)
    (case pg_Desk_counts => k_is)
    (case pt_Desk_counts => k_is)
    (case l_Desk_counts => k_is)
    (case c_Desk_counts => k_is)
    (case k_Desk_counts => k_is)
    (case pa_Desk_steps => k_is)
    (case pc_Desk_steps => k_is)
    (case pg_Desk_steps => k_is)
    (case pt_Desk_steps => k_is)
    (case l_Desk_steps => k_is)
    (case c_Desk_steps => k_is)
    (case k_Desk_steps => k_is)
    (case df_Desk_add => k_is)
    (case l_Desk_add => k_is)
    (case c_Desk_add => k_is)
    (case k_Desk_add => k_is)
    (case df_Desk_take => k_is)
    (case l_Desk_take => k_is)
    (case c_Desk_take => k_is)
    (case k_Desk_take => k_is)
    (case df_Desk_undo => k_is)
    (case l_Desk_undo => k_is)
    (case c_Desk_undo => k_is)
    (case k_Desk_undo => k_is)
    (case df_Desk_copy => k_is)
    (case l_Desk_copy => k_is)
    (case c_Desk_copy => k_is)
    (case k_Desk_copy => k_is)
    (case df_Desk___len__ => k_is)
    (case l_Desk___len__ => k_is)
    (case c_Desk___len__ => k_is)
    (case k_Desk___len__ => k_is)
    (case a__law_draws => k_is)
    (case l__law_draws => k_is)
    (case c__law_draws => k_is)
    (case k__law_draws => k_is)
    (case a__law_pick => k_is)
    (case l__law_pick => k_is)
    (case c__law_pick => k_is)
    (case k__law_pick => k_is)
    (case a__law_kind => k_is)
    (case l__law_kind => k_is)
    (case c__law_kind => k_is)
    (case k__law_kind => k_is)
    (case a__law_taken => k_is)
    (case l__law_taken => k_is)
    (case c__law_taken => k_is)
    (case k__law_taken => k_is)
    (case a__law_ordered => k_is)
    (case l__law_ordered => k_is)
    (case c__law_ordered => k_is)
    (case k__law_ordered => k_is)
    (case a__law_closed => k_is)
    (case l__law_closed => k_is)
    (case c__law_closed => k_is)
    (case k__law_closed => k_is)
    (case a__law_counts => k_is)
    (case l__law_counts => k_is)
    (case c__law_counts => k_is)
    (case k__law_counts => k_is)
    (case a__law_lot => k_is)
    (case l__law_lot => k_is)
    (case c__law_lot => k_is)
    (case k__law_lot => k_is)
    (case a__law_some => k_is)
    (case l__law_some => k_is)
    (case c__law_some => k_is)
    (case k__law_some => k_is)
    (case a__law_odd_lots => k_is)
    (case l__law_odd_lots => k_is)
    (case c__law_odd_lots => k_is)
    (case k__law_odd_lots => k_is)
    (case a__law_try => k_is)
    (case l__law_try => k_is)
    (case c__law_try => k_is)
    (case k__law_try => k_is)
    (case a__law_wrong => k_is)
    (case l__law_wrong => k_is)
    (case c__law_wrong => k_is)
    (case k__law_wrong => k_is)
    (case a__law_stands => k_is)
    (case l__law_stands => k_is)
    (case c__law_stands => k_is)
    (case k__law_stands => k_is)
    (case a__law_of_copy => k_is)
    (case l__law_of_copy => k_is)
    (case c__law_of_copy => k_is)
    (case k__law_of_copy => k_is)
    (case a_law => k_is)
    (case l_law => k_is)
    (case c_law => k_is)
    (case k_law => k_is)
    (case z_isinstance => k_is)
    (case z_bool => k_is)
    (case z_int => k_is)
    (case z_str => k_is)
    (case z_range => k_is)
    (case z_len => k_is)
    (case z_set => k_is)
    (case z_list => k_is)
    (case z_sorted => k_is)
    (case z_all => k_is)
    (case z_tuple => k_is)
    (case z_enumerate => k_is)
    (case z_sum => k_is)
    (case z_max => k_is)
    (case gc_BAGS => k_is)
    (case gc_MOST_THING => k_is)
    (case gc_MOST_SIZE => k_is)
    (case t_KINDS => k_is)
    (case tl_KINDS => k_is)
    (case xc_BadKind => k_is)
    (case xb_BadKind => k_is)
    (case xt_BadKind => k_is)
    (case xk_BadKind => k_is)
    (case xc_BadLot => k_is)
    (case xb_BadLot => k_is)
    (case xt_BadLot => k_is)
    (case xk_BadLot => k_is)
    (case xc_NotThere => k_is)
    (case xb_NotThere => k_is)
    (case xt_NotThere => k_is)
    (case xk_NotThere => k_is)
    (case xc_BadLots => k_is)
    (case xb_BadLots => k_is)
    (case xt_BadLots => k_is)
    (case xk_BadLots => k_is)
    (case xe_BadKind => first | k_exc | k_is)
    (case xe_BadLot => first | k_exc | k_is)
    (case xe_NotThere => first | k_exc | k_is)
    (case cSz => k_is)
    (case xL_BadLots => k_is)
    (case sa_BadLots => k_is)
    (case ii_BadLots => k_is)
    (case it_BadLots => k_is)
    (case il_BadLots => k_is)
    (case ic_BadLots => k_is)
    (case ik_BadLots => k_is)
    (case xn => k_is)
    (case cSd => k_is)
    (case cSt => k_is)
    (case xtk => k_is)
    (case xg_BadKind => k_is)
    (case xq_BadKind => k_is)
    (case xd_BadKind => k_is)
    (case xa_BadKind => k_is)
    (case xm_BadKind => k_is)
    (case xs_BadKind => k_is)
    (case nf_BadKind_index => k_is)
    (case ex_BadKind_BadKind => first | rfl | k_is)
    (case ex_BadKind_BadLot => first | rfl | k_is)
    (case ex_BadKind_NotThere => first | rfl | k_is)
    (case ex_BadKind_BadLots => first | rfl | k_is)
    (case xg_BadLot => k_is)
    (case xq_BadLot => k_is)
    (case xd_BadLot => k_is)
    (case xa_BadLot => k_is)
    (case xm_BadLot => k_is)
    (case xs_BadLot => k_is)
    (case nf_BadLot_index => k_is)
    (case ex_BadLot_BadKind => first | rfl | k_is)
    (case ex_BadLot_BadLot => first | rfl | k_is)
    (case ex_BadLot_NotThere => first | rfl | k_is)
    (case ex_BadLot_BadLots => first | rfl | k_is)
    (case xg_NotThere => k_is)
    (case xq_NotThere => k_is)
    (case xd_NotThere => k_is)
    (case xa_NotThere => k_is)
    (case xm_NotThere => k_is)
    (case xs_NotThere => k_is)
    (case nf_NotThere_index => k_is)
    (case ex_NotThere_BadKind => first | rfl | k_is)
    (case ex_NotThere_BadLot => first | rfl | k_is)
    (case ex_NotThere_NotThere => first | rfl | k_is)
    (case ex_NotThere_BadLots => first | rfl | k_is)
    (case xg_BadLots => k_is)
    (case xq_BadLots => k_is)
    (case xd_BadLots => k_is)
    (case xa_BadLots => k_is)
    (case xm_BadLots => k_is)
    (case xs_BadLots => k_is)
    (case nf_BadLots_index => k_is)
    (case ex_BadLots_BadKind => first | rfl | k_is)
    (case ex_BadLots_BadLot => first | rfl | k_is)
    (case ex_BadLots_NotThere => first | rfl | k_is)
    (case ex_BadLots_BadLots => first | rfl | k_is)
    (case dm_Desk => k_is)
    (case dk_Desk => k_is)
    (case dp_Desk => k_is)
    (case dh_Desk => k_is)
    (case do_Desk => k_is)
    (case ds_Desk => k_is)
    (case dn_Desk_own_kind => k_is)
    (case dn_Desk_states => k_is)
    (case di_Desk___init__ => k_is)
    (case di_Desk_add => k_is)
    (case di_Desk_take => k_is)
    (case di_Desk_undo => k_is)
    (case di_Desk_copy => k_is)
    (case di_Desk___len__ => k_is)

