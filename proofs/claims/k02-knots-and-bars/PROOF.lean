import PyProof.Rows.All
import Wide.All
import OpenK.AllK
import Wide.FinOn
import PyProof.EqAt
import PyProof.EqKinds
import PyProof.TupleCall
import HandS.Base
import HandS.Call
import HandS.List
import HandS.Comp
import HandS.Ends
import HandS.Words
import HandS.Style
import HandS.Iter
import HandS.Zip
import PyProof.ReprRoads
import PyProof.StrLawsRepr
import HandS.TupAny
import HandS.Text
import HandS.Deep
import HandS.IsInst
import KE.SortData
import HandS.Conv
import HandS.SetFor
import HandS.WordsExc
import HandS.Defaults
import PyProof.ReprBulk
import PyProof.FitsInt
import KE.KStateDown
import HandS.Head0
import HandS.Head1
import HandS.Head2
import HandS.HeadEnd
import HandS.HeadHook1
import HandS.HeadHook2
import PySem.Challenge.RW_meshmend_k02_knots_and_bars
set_option Elab.async false
set_option linter.all false
set_option maxRecDepth 100000
set_option maxHeartbeats 4000000
set_option autoImplicit false
namespace DL
open PySem PySem.Spec L2

abbrev D := PyData
abbrev En := List (Option D)
abbrev OS := Addr → Prop

def keyD : Key → D
  | .inl i => .int i
  | .inr x => .str x

/-! ### data read in the abstract heap, at addresses outside O -/
mutual
def Rp (H : Hp) (O : OS) : D → V → Prop
  | .none, v => v = .non
  | .bool b, v => v = .bl b
  | .int i, v => v = .int i
  | .str x, v => v = .str x
  | .list ds, v => ∃ a xs, v = .ref a ∧ ¬ O a ∧ H a = some (.lst xs) ∧ RpL H O ds xs
  | .tuple ds, v => ∃ a xs, v = .ref a ∧ ¬ O a ∧ H a = some (.tup xs) ∧ RpL H O ds xs
  | .dict es, v => ∃ a, v = .ref a ∧ ¬ O a ∧ ((∃ kvs, H a = some (.dK kvs) ∧ RpK H O es kvs) ∨ ∃ kvs, H a = some (.dT kvs) ∧ RpT H O es kvs)
def RpL (H : Hp) (O : OS) : List D → List V → Prop
  | [], vs => vs = []
  | d :: ds, vs => ∃ v r, vs = v :: r ∧ Rp H O d v ∧ RpL H O ds r
def RpK (H : Hp) (O : OS) : List (D × D) → List (Key × V) → Prop
  | [], kvs => kvs = []
  | (k, d) :: es, kvs => ∃ key v r, kvs = (key, v) :: r ∧ k = keyD key ∧ Rp H O d v ∧ RpK H O es r
def RpT (H : Hp) (O : OS) : List (D × D) → List (List Key × V) → Prop
  | [], kvs => kvs = []
  | (k, d) :: es, kvs => ∃ key v r, kvs = (key, v) :: r ∧ k = .tuple (key.map keyD) ∧ Rp H O d v ∧ RpT H O es r
end

/-- what is read may lie in O itself, its parts not -/
def Nb (H : Hp) (O : OS) : D → V → Prop
  | .list ds, v => ∃ a xs, v = .ref a ∧ H a = some (.lst xs) ∧ RpL H O ds xs
  | .tuple ds, v => ∃ a xs, v = .ref a ∧ H a = some (.tup xs) ∧ RpL H O ds xs
  | .dict es, v => ∃ a, v = .ref a ∧ ((∃ kvs, H a = some (.dK kvs) ∧ RpK H O es kvs) ∨ ∃ kvs, H a = some (.dT kvs) ∧ RpT H O es kvs)
  | .none, v => v = .non
  | .bool b, v => v = .bl b
  | .int i, v => v = .int i
  | .str x, v => v = .str x
/-- a list or dict that may be changed -/
def Ow (H : Hp) (O : OS) : D → V → Prop
  | .list ds, v => ∃ a xs, v = .ref a ∧ O a ∧ H a = some (.lst xs) ∧ RpL H O ds xs
  | .dict es, v => ∃ a, v = .ref a ∧ O a ∧ ((∃ kvs, H a = some (.dK kvs) ∧ RpK H O es kvs) ∨ ∃ kvs, H a = some (.dT kvs) ∧ RpT H O es kvs)
  | _, _ => False

theorem Rp.nb {H : Hp} {O : OS} : ∀ {d : D} {v : V}, Rp H O d v → Nb H O d v
  | .none, _, h => h
  | .bool _, _, h => h
  | .int _, _, h => h
  | .str _, _, h => h
  | .list _, _, ⟨a, xs, e, _, r, q⟩ => ⟨a, xs, e, r, q⟩
  | .tuple _, _, ⟨a, xs, e, _, r, q⟩ => ⟨a, xs, e, r, q⟩
  | .dict _, _, ⟨a, e, _, q⟩ => ⟨a, e, q⟩
theorem Ow.nb {H : Hp} {O : OS} : ∀ {d : D} {v : V}, Ow H O d v → Nb H O d v
  | .none, _, h => h.elim
  | .bool _, _, h => h.elim
  | .int _, _, h => h.elim
  | .str _, _, h => h.elim
  | .tuple _, _, h => h.elim
  | .list _, _, ⟨a, xs, e, _, r, q⟩ => ⟨a, xs, e, r, q⟩
  | .dict _, _, ⟨a, e, _, q⟩ => ⟨a, e, q⟩
/-- not in O: a clean value -/
theorem Nb.rp {H : Hp} {O : OS} : ∀ {d : D} {v : V}, Nb H O d v → (∀ a, v = .ref a → ¬ O a) → Rp H O d v
  | .none, _, h, _ => h
  | .bool _, _, h, _ => h
  | .int _, _, h, _ => h
  | .str _, _, h, _ => h
  | .list _, _, ⟨a, xs, e, r, q⟩, n => ⟨a, xs, e, n a e, r, q⟩
  | .tuple _, _, ⟨a, xs, e, r, q⟩, n => ⟨a, xs, e, n a e, r, q⟩
  | .dict _, _, ⟨a, e, q⟩, n => ⟨a, e, n a e, q⟩

theorem hp_some {H : Hp} {a : Addr} {u : HO} (r : H a = some u) : H a ≠ none := by rw [r]; exact fun z => nomatch z

section
variable {H H' : Hp} {O O' : OS} (k : ∀ a o, H a = some o → ¬ O a → H' a = some o) (w : ∀ a, O' a → O a ∨ H a = none)
include k w
mutual
theorem Rp.ext : ∀ {d : D} {v : V}, Rp H O d v → Rp H' O' d v
  | .none, _, h => h
  | .bool _, _, h => h
  | .int _, _, h => h
  | .str _, _, h => h
  | .list ds, _, ⟨a, xs, e, n, r, q⟩ => ⟨a, xs, e, fun z => (w a z).elim n (hp_some r), k _ _ r n, RpL.ext q⟩
  | .tuple ds, _, ⟨a, xs, e, n, r, q⟩ => ⟨a, xs, e, fun z => (w a z).elim n (hp_some r), k _ _ r n, RpL.ext q⟩
  | .dict es, _, ⟨a, e, n, .inl ⟨kvs, r, q⟩⟩ => ⟨a, e, fun z => (w a z).elim n (by rw [r]; exact fun z => nomatch z), .inl ⟨kvs, k _ _ r n, RpK.ext q⟩⟩
  | .dict es, _, ⟨a, e, n, .inr ⟨kvs, r, q⟩⟩ => ⟨a, e, fun z => (w a z).elim n (by rw [r]; exact fun z => nomatch z), .inr ⟨kvs, k _ _ r n, RpT.ext q⟩⟩
theorem RpL.ext : ∀ {ds : List D} {vs : List V}, RpL H O ds vs → RpL H' O' ds vs
  | [], _, h => h
  | _ :: _, _, ⟨v, r, e, h, q⟩ => ⟨v, r, e, Rp.ext h, RpL.ext q⟩
theorem RpK.ext : ∀ {es : List (D × D)} {kvs : List (Key × V)}, RpK H O es kvs → RpK H' O' es kvs
  | [], _, h => h
  | (_, _) :: _, _, ⟨key, v, r, e, e2, h, q⟩ => ⟨key, v, r, e, e2, Rp.ext h, RpK.ext q⟩
theorem RpT.ext : ∀ {es : List (D × D)} {kvs : List (List Key × V)}, RpT H O es kvs → RpT H' O' es kvs
  | [], _, h => h
  | (_, _) :: _, _, ⟨key, v, r, e, e2, h, q⟩ => ⟨key, v, r, e, e2, Rp.ext h, RpT.ext q⟩
end
theorem Ow.ext {d : D} {v : V} (kv : ∀ a o, v = .ref a → H a = some o → H' a = some o) (mo : ∀ a, O a → O' a) (h : Ow H O d v) : Ow H' O' d v := by
  match d, h with
  | .list _, ⟨a, xs, e, n, r, q⟩ => exact ⟨a, xs, e, mo a n, kv a _ e r, RpL.ext k w q⟩
  | .dict _, ⟨a, e, n, .inl ⟨kvs, r, q⟩⟩ => exact ⟨a, e, mo a n, .inl ⟨kvs, kv a _ e r, RpK.ext k w q⟩⟩
  | .dict _, ⟨a, e, n, .inr ⟨kvs, r, q⟩⟩ => exact ⟨a, e, mo a n, .inr ⟨kvs, kv a _ e r, RpT.ext k w q⟩⟩
end
/-- fewer things to be avoided -/
theorem Rp.anti {H : Hp} {O O' : OS} (w : ∀ a, O' a → O a) {d : D} {v : V} (h : Rp H O d v) : Rp H O' d v := Rp.ext (fun _ _ e _ => e) (fun a z => .inl (w a z)) h
theorem RpL.anti {H : Hp} {O O' : OS} (w : ∀ a, O' a → O a) {d : List D} {v : List V} (h : RpL H O d v) : RpL H O' d v := RpL.ext (fun _ _ e _ => e) (fun a z => .inl (w a z)) h
theorem Nb.anti {H : Hp} {O O' : OS} (w : ∀ a, O' a → O a) : ∀ {d : D} {v : V}, Nb H O d v → Nb H O' d v
  | .none, _, h => h
  | .bool _, _, h => h
  | .int _, _, h => h
  | .str _, _, h => h
  | .list _, _, ⟨a, xs, e, r, q⟩ => ⟨a, xs, e, r, RpL.anti w q⟩
  | .tuple _, _, ⟨a, xs, e, r, q⟩ => ⟨a, xs, e, r, RpL.anti w q⟩
  | .dict _, _, ⟨a, e, .inl ⟨kvs, r, q⟩⟩ => ⟨a, e, .inl ⟨kvs, r, RpK.ext (fun _ _ e _ => e) (fun a z => .inl (w a z)) q⟩⟩
  | .dict _, _, ⟨a, e, .inr ⟨kvs, r, q⟩⟩ => ⟨a, e, .inr ⟨kvs, r, RpT.ext (fun _ _ e _ => e) (fun a z => .inl (w a z)) q⟩⟩

/-! ### the state: slots and what they hold -/
inductive Kd where
  | val | brw | own | io
  deriving DecidableEq
def Kd.mut : Kd → Bool
  | .own => true
  | .io => true
  | _ => false

structure Gx where
  κ : List Kd
  H0 : Hp
  O0 : OS
  io : List (Nat × Addr)
  hold : List (D × V)
  fr : Bool

def SlotOk (H : Hp) (O : OS) (k : Kd) (d : D) (v : V) : Prop := match k with
  | .val => Rp H O d v
  | .brw => Nb H O d v
  | .own => Ow H O d v
  | .io => Ow H O d v

def mu (κ : List Kd) (i : Nat) : Prop := κ[i]? = some .own ∨ κ[i]? = some .io
def OwnAt (κ : List Kd) (σ : St) (a : Addr) : Prop := ∃ i, mu κ i ∧ σ[i]? = some (some (.ref a))

structure Abs (g : Gx) (O : OS) (H : Hp) (σ : St) (ε : En) : Prop where
  slot : ∀ (i : Nat) (d : D), ε[i]? = some (some d) → ∃ v k, σ[i]? = some (some v) ∧ g.κ[i]? = some k ∧ SlotOk H O k d v
  ownO : ∀ a, OwnAt g.κ σ a → O a
  apart : ∀ (i j : Nat) (a : Addr), mu g.κ i → mu g.κ j → σ[i]? = some (some (.ref a)) → σ[j]? = some (some (.ref a)) → i = j
  brwA : ∀ (i : Nat) (b : Addr), g.κ[i]? = some .brw → σ[i]? = some (some (.ref b)) → g.H0 b ≠ none ∧ ∀ j : Nat, (j, b) ∉ g.io
  new : ∀ (i : Nat) (a : Addr), g.κ[i]? = some .own → σ[i]? = some (some (.ref a)) → g.H0 a = none
  has : ∀ a, O a → H a ≠ none
  has0 : ∀ a, g.O0 a → g.H0 a ≠ none
  sub : ∀ a, g.O0 a → O a
  ioO : ∀ (i : Nat) (a : Addr), (i, a) ∈ g.io → g.O0 a
  ioK : ∀ (i : Nat) (a : Addr), (i, a) ∈ g.io → g.κ[i]? = some .io
  ioS : ∀ (i : Nat) (a : Addr), (i, a) ∈ g.io → σ[i]? = some (some (.ref a))
  ioA : ∀ (i : Nat), g.κ[i]? = some .io → ∃ a, (i, a) ∈ g.io
  fr : ∀ b o, g.H0 b = some o → (∀ i, (i, b) ∉ g.io) → H b = some o
  hold : ∀ p ∈ g.hold, Rp H O p.1 p.2
  len : ε.length = σ.length
  lenK : g.κ.length = σ.length

structure Ext (κ : List Kd) (σ : St) (O : OS) (H : Hp) (O' : OS) (H' : Hp) : Prop where
  keep : ∀ a o, H a = some o → ¬ OwnAt κ σ a → H' a = some o
  own : ∀ a, O' a → O a ∨ H a = none
  mono : ∀ a, O a → O' a
  some : ∀ a, H a ≠ none → H' a ≠ none
theorem Ext.refl {κ : List Kd} {σ : St} {O : OS} {H : Hp} : Ext κ σ O H O H := ⟨fun _ _ e _ => e, fun _ z => .inl z, fun _ z => z, fun _ z => z⟩
theorem Ext.trans {κ : List Kd} {σ : St} {O O1 O2 : OS} {H H1 H2 : Hp} (x : Ext κ σ O H O1 H1) (y : Ext κ σ O1 H1 O2 H2) : Ext κ σ O H O2 H2 :=
  ⟨fun a o e n => y.keep a o (x.keep a o e n) n, fun a z => (y.own a z).elim (fun z => x.own a z) fun z => .inr (Classical.byContradiction fun q => x.some a q z), fun a z => y.mono a (x.mono a z), fun a z => y.some a (x.some a z)⟩

section
variable {g : Gx} {O O' : OS} {H H' : Hp} {σ : St} {ε ε' : En}
theorem Abs.unown (A : Abs g O H σ ε) {a : Addr} (n : ¬ O a) : ¬ OwnAt g.κ σ a := fun z => n (A.ownO a z)
theorem Abs.rp (A : Abs g O H σ ε) (x : Ext g.κ σ O H O' H') {d : D} {v : V} (h : Rp H O d v) : Rp H' O' d v :=
  Rp.ext (fun a o e n => x.keep a o e (A.unown n)) x.own h
theorem Abs.rpL (A : Abs g O H σ ε) (x : Ext g.κ σ O H O' H') {d : List D} {v : List V} (h : RpL H O d v) : RpL H' O' d v :=
  RpL.ext (fun a o e n => x.keep a o e (A.unown n)) x.own h
theorem Abs.nh (A : Abs g O H σ ε) {a : Addr} (h : H a = none) : ¬ O a := fun z => A.has a z h
theorem Abs.n0 (A : Abs g O H σ ε) {a : Addr} (h : H a = none) : g.H0 a = none := by
  cases e : g.H0 a with
  | none => rfl
  | some o =>
    exfalso
    by_cases q : ∃ i, (i, a) ∈ g.io
    · obtain ⟨i, q⟩ := q
      exact A.has a (A.sub a (A.ioO i a q)) h
    · rw [A.fr a o e fun i z => q ⟨i, z⟩] at h
      cases h
theorem Abs.nO0 (A : Abs g O H σ ε) {a : Addr} (h : H a = none) : ¬ g.O0 a := fun z => A.nh h (A.sub a z)

theorem SlotOk.nb {k : Kd} {d : D} {v : V} (h : SlotOk H O k d v) : Nb H O d v := by
  cases k with
  | val => exact Rp.nb h
  | brw => exact h
  | own => exact Ow.nb h
  | io => exact Ow.nb h
theorem SlotOk.same {k : Kd} {d : D} {v : V} (s : Same H H') (w : ∀ a, O' a → O a ∨ H a = none) (mo : ∀ a, O a → O' a) (h : SlotOk H O k d v) : SlotOk H' O' k d v := by
  cases k with
  | val => exact Rp.ext (fun a o e _ => s a o e) w h
  | own => exact Ow.ext (fun a o e _ => s a o e) w (fun a o _ e => s a o e) mo h
  | io => exact Ow.ext (fun a o e _ => s a o e) w (fun a o _ e => s a o e) mo h
  | brw =>
    match d, h with
    | .none, h => exact h
    | .bool _, h => exact h
    | .int _, h => exact h
    | .str _, h => exact h
    | .list _, ⟨a, xs, e, r, q⟩ => exact ⟨a, xs, e, s _ _ r, RpL.ext (fun a o e _ => s a o e) w q⟩
    | .tuple _, ⟨a, xs, e, r, q⟩ => exact ⟨a, xs, e, s _ _ r, RpL.ext (fun a o e _ => s a o e) w q⟩
    | .dict _, ⟨a, e, .inl ⟨kvs, r, q⟩⟩ => exact ⟨a, e, .inl ⟨kvs, s _ _ r, RpK.ext (fun a o e _ => s a o e) w q⟩⟩
    | .dict _, ⟨a, e, .inr ⟨kvs, r, q⟩⟩ => exact ⟨a, e, .inr ⟨kvs, s _ _ r, RpT.ext (fun a o e _ => s a o e) w q⟩⟩
theorem Same.some (s : Same H H') (a : Addr) (h : H a ≠ none) : H' a ≠ none := by
  cases e : H a with
  | none => exact (h e).elim
  | some o => rw [s a o e]; exact fun z => nomatch z
/-- all objects are kept; more may be avoided, of what is new -/
theorem Abs.same' (A : Abs g O H σ ε) (s : Same H H') (w : ∀ a, O' a → O a ∨ (H a = none ∧ H' a ≠ none)) (mo : ∀ a, O a → O' a) : Abs g O' H' σ ε :=
  have w' : ∀ a, O' a → O a ∨ H a = none := fun a z => (w a z).imp_right (·.1)
  { A with
    slot := fun i d e => let ⟨v, k, e1, e2, h⟩ := A.slot i d e; ⟨v, k, e1, e2, h.same s w' mo⟩
    ownO := fun a z => mo a (A.ownO a z)
    has := fun a z => (w a z).elim (fun z => Same.some s a (A.has a z)) fun z => z.2
    sub := fun a z => mo a (A.sub a z)
    fr := fun b o e n => s b o (A.fr b o e n)
    hold := fun p hp => Rp.ext (fun a o e _ => s a o e) w' (A.hold p hp) }
theorem Abs.same (A : Abs g O H σ ε) (s : Same H H') : Abs g O H' σ ε := A.same' s (fun _ z => .inl z) fun _ z => z
theorem Ext.same {κ : List Kd} (s : Same H H') : Ext κ σ O H O H' := ⟨fun a o e _ => s a o e, fun _ z => .inl z, fun _ z => z, fun a => Same.some s a⟩
def OS.add (O : OS) (p : Addr) : OS := fun a => a = p ∨ O a
theorem same_upd {p : Addr} {o : HO} (h : H p = none) : Same H (upd H p o) := fun b u e => by rw [upd_ne (ne_of_none e h)]; exact e
theorem Abs.add (A : Abs g O H σ ε) {p : Addr} {o : HO} (h : H p = none) : Abs g (OS.add O p) (upd H p o) σ ε :=
  A.same' (same_upd h) (fun a z => z.elim (fun e => .inr (by subst e; exact ⟨h, by rw [upd_same]; exact fun z => nomatch z⟩)) .inl) fun _ z => .inr z
theorem Ext.add {κ : List Kd} {p : Addr} {o : HO} (h : H p = none) : Ext κ σ O H (OS.add O p) (upd H p o) :=
  ⟨fun a o e _ => same_upd h a o e, fun a z => z.elim (fun e => .inr (by subst e; exact h)) .inl, fun _ z => .inr z, fun a => Same.some (same_upd h) a⟩
/-- p is avoided no longer -/
def OS.drop (O : OS) (p : Addr) : OS := fun a => O a ∧ a ≠ p
theorem Abs.drop (A : Abs g O H σ ε) {p : Addr} (n : ¬ OwnAt g.κ σ p) (n0 : ¬ g.O0 p) : Abs g (OS.drop O p) H σ ε :=
  { A with
    slot := fun i d e => by
      obtain ⟨v, k, e1, e2, h⟩ := A.slot i d e
      refine ⟨v, k, e1, e2, ?_⟩
      have ow : ∀ {d : D} {v : V}, Ow H O d v → (∀ a, v = .ref a → a ≠ p) → Ow H (OS.drop O p) d v := fun {d v} h q => by
        match d, h with
        | .list _, ⟨a, xs, e, n, r, q'⟩ => exact ⟨a, xs, e, ⟨n, q a e⟩, r, RpL.anti (fun _ z => z.1) q'⟩
        | .dict _, ⟨a, e, n, .inl ⟨kvs, r, q'⟩⟩ => exact ⟨a, e, ⟨n, q a e⟩, .inl ⟨kvs, r, RpK.ext (fun _ _ e _ => e) (fun a z => .inl z.1) q'⟩⟩
        | .dict _, ⟨a, e, n, .inr ⟨kvs, r, q'⟩⟩ => exact ⟨a, e, ⟨n, q a e⟩, .inr ⟨kvs, r, RpT.ext (fun _ _ e _ => e) (fun a z => .inl z.1) q'⟩⟩
      cases k with
      | val => exact Rp.anti (fun _ z => z.1) h
      | brw => exact Nb.anti (fun _ z => z.1) h
      | own => exact ow h fun a ea z => n ⟨i, .inl e2, by rw [e1, ea, z]⟩
      | io => exact ow h fun a ea z => n ⟨i, .inr e2, by rw [e1, ea, z]⟩
    ownO := fun a z => ⟨A.ownO a z, fun e => n (e ▸ z)⟩
    has := fun a z => A.has a z.1
    sub := fun a z => ⟨A.sub a z, fun e => n0 (e ▸ z)⟩
    hold := fun p hp => Rp.anti (fun _ z => z.1) (A.hold p hp) }
theorem Abs.get (A : Abs g O H σ ε) {i : Nat} {d : D} (e : ε[i]? = some (some d)) : ∃ v, σ[i]? = some (some v) ∧ Nb H O d v :=
  let ⟨v, _, e1, _, h⟩ := A.slot i d e
  ⟨v, e1, h.nb⟩
end
end DL

namespace DL
open PySem PySem.Spec L2

/-! ### what a piece of code means over data -/
abbrev WE := En → (D → En → Prop) → Prop
abbrev WT := En → (Bool → En → Prop) → Prop
abbrev WA := En → (List (En → Option D) → En → Prop) → Prop
def Mono (w : WE) : Prop := ∀ ε Q Q', (∀ d ε', Q d ε' → Q' d ε') → w ε Q → w ε Q'
def MonoT (w : WT) : Prop := ∀ ε Q Q', (∀ d ε', Q d ε' → Q' d ε') → w ε Q → w ε Q'

def rdE (g : Gx) (w : WE) : TE := fun σ H Q => ∃ O ε, Abs g O H σ ε ∧ w ε fun d ε' => ∀ v H' O', Abs g O' H' σ ε' → Ext g.κ σ O H O' H' → Rp H' O' d v → Q v H'
def rdF (g : Gx) (w : WE) : TE := fun σ H Q => ∃ O ε, Abs g O H σ ε ∧ w ε fun d ε' => ∀ p H' O', Abs g O' H' σ ε' → Ext g.κ σ O H O' H' → O' p → H p = none → Ow H' O' d (.ref p) → Q (.ref p) H'
def rdT (g : Gx) (w : WT) : TT := fun σ H Q => ∃ O ε, Abs g O H σ ε ∧ w ε fun b ε' => ∀ H' O', Abs g O' H' σ ε' → Ext g.κ σ O H O' H' → Q b H'

/-- an expression whose value is clean; one whose value is new; a test -/
structure DE (X : Cx) (κ : List Kd) (e : Expr) (w : WE) : Prop where
  pe : ∀ g, g.κ = κ → PE X e (rdE g w)
  mono : Mono w
structure DF (X : Cx) (κ : List Kd) (e : Expr) (w : WE) : Prop where
  pe : ∀ g, g.κ = κ → PE X e (rdF g w)
  mono : Mono w
structure DT (X : Cx) (κ : List Kd) (e : Expr) (w : WT) : Prop where
  pt : ∀ g, g.κ = κ → PT X e (rdT g w)
  mono : MonoT w
structure DW (X : Cx) (κ : List Kd) (e : Expr) (w : WT) : Prop where
  pw : ∀ g, g.κ = κ → PW X e (rdT g w)
  mono : MonoT w

/-- an operand: an expression, or a name, read when the operation is done -/
inductive Op where
  | ex (w : WE)
  | nm (i : Nat)
def slF (i : Nat) : En → Option D := fun ε => (ε[i]?).join
def oEv (o : Op) (ε : En) (Q : (En → Option D) → En → Prop) : Prop := match o with
  | .ex w => w ε fun d ε' => Q (fun _ => some d) ε'
  | .nm i => (∃ d, ε[i]? = some (some d)) ∧ Q (slF i) ε
def MonoO : Op → Prop
  | .ex w => Mono w
  | .nm _ => True
theorem oEv_mono {o : Op} (m : MonoO o) {ε : En} {Q Q' : (En → Option D) → En → Prop} (h : ∀ x ε', Q x ε' → Q' x ε') (q : oEv o ε Q) : oEv o ε Q' := by
  cases o with
  | ex w => exact m ε _ _ (fun d ε' z => h _ _ z) q
  | nm i => exact ⟨q.1, h _ _ q.2⟩
def OR (H : Hp) (O : OS) (σ : L2.St) (x : En → Option D) (v : V) : Prop := (∃ d, x = (fun _ => some d) ∧ Rp H O d v) ∨ ∃ i, x = slF i ∧ σ[i]? = some (some v)
theorem OR.ext {g : Gx} {O O' : OS} {H H' : Hp} {σ : L2.St} {ε : En} {x : En → Option D} {v : V} (A : Abs g O H σ ε) (k : Ext g.κ σ O H O' H') (h : OR H O σ x v) : OR H' O' σ x v :=
  h.imp (fun ⟨d, e, r⟩ => ⟨d, e, A.rp k r⟩) id
theorem OR.nb {g : Gx} {O : OS} {H : Hp} {σ : L2.St} {ε : En} {x : En → Option D} {v : V} {d : D} (A : Abs g O H σ ε) (h : OR H O σ x v) (e : x ε = some d) : Nb H O d v := by
  rcases h with ⟨d', rfl, r⟩ | ⟨i, rfl, s⟩
  · cases e
    exact r.nb
  · have e' : ε[i]? = some (some d) := by
      unfold slF at e
      cases q : ε[i]? with
      | none => rw [q] at e; cases e
      | some o => rw [q] at e; exact congrArg some e
    obtain ⟨v', s', h⟩ := A.get e'
    rw [s] at s'
    cases s'
    exact h
def rdO (g : Gx) (o : Op) : TE := fun σ H Q => ∃ O ε, Abs g O H σ ε ∧ oEv o ε fun x ε' => ∀ v H' O', Abs g O' H' σ ε' → Ext g.κ σ O H O' H' → OR H' O' σ x v → Q v H'
structure DO (X : Cx) (κ : List Kd) (e : Expr) (o : Op) : Prop where
  pe : ∀ g, g.κ = κ → PE X e (rdO g o)
  mono : MonoO o

theorem _root_.L2.PE.imp {X : Cx} {e : Expr} {t t' : TE} (h : PE X e t) (k : ∀ σ H Q, t' σ H Q → t σ H Q) : PE X e t' := ⟨fun pins s σ H Q I q => h.run pins s σ H Q I (k _ _ _ q)⟩
theorem _root_.L2.PT.imp {X : Cx} {e : Expr} {t t' : TT} (h : PT X e t) (k : ∀ σ H Q, t' σ H Q → t σ H Q) : PT X e t' := ⟨fun pins s σ H Q I q => h.run pins s σ H Q I (k _ _ _ q)⟩
theorem _root_.L2.PW.imp {X : Cx} {e : Expr} {t t' : TT} (h : PW X e t) (k : ∀ σ H Q, t' σ H Q → t σ H Q) : PW X e t' := ⟨fun wh pins s σ H Q I q => h.run wh pins s σ H Q I (k _ _ _ q)⟩
theorem _root_.L2.PA.imp {X : Cx} {e : List Expr} {t t' : TA} (h : PA X e t) (k : ∀ σ H Q, t' σ H Q → t σ H Q) : PA X e t' := ⟨fun pos pins s σ H Q I q => h.run pos pins s σ H Q I (k _ _ _ q)⟩
theorem _root_.L2.PS.imp {X : Cx} {e : Stmt} {t t' : TS} (h : PS X e t) (k : ∀ D σ H, t' D σ H → t D σ H) : PS X e t' := ⟨fun pins s σ H D I q => h.run pins s σ H D I (k _ _ _ q)⟩
theorem _root_.L2.PSs.imp {X : Cx} {e : List Stmt} {t t' : TS} (h : PSs X e t) (k : ∀ D σ H, t' D σ H → t D σ H) : PSs X e t' := ⟨fun pins s σ H D I q => h.run pins s σ H D I (k _ _ _ q)⟩

section
variable {X : Cx} {κ : List Kd}

/-! ### atoms -/
def eC (d : D) : WE := fun ε Q => Q d ε
def eNm (i : Nat) : WE := fun ε Q => ∃ d, ε[i]? = some (some d) ∧ Q d ε
theorem de_int {i : Int} {j pos} : DE X κ (.Constant (.int i) j pos) (eC (.int i)) :=
  ⟨fun g _ => pe_int.imp fun σ H Q ⟨O, ε, A, h⟩ => h _ H O A .refl rfl, fun _ _ _ h q => h _ _ q⟩
theorem de_str {i : Str} {j pos} : DE X κ (.Constant (.str i) j pos) (eC (.str i)) :=
  ⟨fun g _ => pe_str.imp fun σ H Q ⟨O, ε, A, h⟩ => h _ H O A .refl rfl, fun _ _ _ h q => h _ _ q⟩
theorem de_bl {i : Bool} {j pos} : DE X κ (.Constant (.bool i) j pos) (eC (.bool i)) :=
  ⟨fun g _ => pe_bl.imp fun σ H Q ⟨O, ε, A, h⟩ => h _ H O A .refl rfl, fun _ _ _ h q => h _ _ q⟩
theorem de_non {j pos} : DE X κ (.Constant .none j pos) (eC .none) :=
  ⟨fun g _ => pe_non.imp fun σ H Q ⟨O, ε, A, h⟩ => h _ H O A .refl rfl, fun _ _ _ h q => h _ _ q⟩
/-- a module's constant -/
theorem de_glob {x : Str} {u : Value} {pos : Pos} {d : D} {v : V} (hg : Gl X x) (hm : X.mg x = some u) (r : RelV v u) (hd : ∀ H O, Rp H O d v) (hdb : (x == ("__debug__" : Str)) = false := by decide) : DE X κ (.Name x pos) (eC d) :=
  ⟨fun g _ => (pe_glob hg hm r hdb).imp fun σ H Q ⟨O, ε, A, h⟩ => h _ H O A .refl (hd H O), fun _ _ _ h q => h _ _ q⟩
/-- a name of kind val -/
theorem de_nm (i : Nat) {x : Str} {pos : Pos} (hk : κ[i]? = some .val := by rfl) (hN : X.N[i]? = some x := by rfl) (hv : Vis X.env.scope x := by first | exact Or.inl rfl | exact Or.inr (Or.inl rfl) | exact Or.inr (Or.inr rfl)) (hd : (x == ("__debug__" : Str)) = false := by decide)
    (hcd : (x == ("__classdict__" : Str)) = false := by decide) : DE X κ (.Name x pos) (eNm i) :=
  ⟨fun g hg => (pe_var hN hv hd hcd).imp fun σ H Q ⟨O, ε, A, d, e, h⟩ => by
    obtain ⟨v, k, e1, e2, s⟩ := A.slot i d e
    rw [hg, hk] at e2
    cases e2
    exact ⟨v, e1, h v H O A .refl s⟩, fun ε Q Q' h ⟨d, e, q⟩ => ⟨d, e, h _ _ q⟩⟩
/-- a name as an operand -/
theorem do_nm (i : Nat) {x : Str} {pos : Pos} (hN : X.N[i]? = some x := by rfl) (hv : Vis X.env.scope x := by first | exact Or.inl rfl | exact Or.inr (Or.inl rfl) | exact Or.inr (Or.inr rfl)) (hd : (x == ("__debug__" : Str)) = false := by decide)
    (hcd : (x == ("__classdict__" : Str)) = false := by decide) : DO X κ (.Name x pos) (.nm i) :=
  ⟨fun g hg => (pe_var hN hv hd hcd).imp fun σ H Q ⟨O, ε, A, ⟨d, e⟩, h⟩ => by
    obtain ⟨v, e1, s⟩ := A.get e
    exact ⟨v, e1, h v H O A .refl (.inr ⟨i, rfl, e1⟩)⟩, trivial⟩
theorem DE.op {e : Expr} {w : WE} (h : DE X κ e w) : DO X κ e (.ex w) :=
  ⟨fun g hg => (h.pe g hg).imp fun σ H Q ⟨O, ε, A, q⟩ => ⟨O, ε, A, h.mono _ _ _ (fun d ε' z v H' O' A' x r => z v H' O' A' x (.inl ⟨d, rfl, r⟩)) q⟩, h.mono⟩
theorem DF.de {e : Expr} {w : WE} (h : DF X κ e w) : DE X κ e w :=
  ⟨fun g hg => (h.pe g hg).imp fun σ H Q ⟨O, ε, A, q⟩ => ⟨O, ε, A, h.mono _ _ _ (fun d ε' z p H' O' A' x hp np ow => by
    have nO : ¬ O p := A.nh np
    have nown : ¬ OwnAt g.κ σ p := A.unown nO
    refine z (.ref p) H' (OS.drop O' p) (A'.drop nown (A.nO0 np)) ⟨x.keep, fun a z => x.own a z.1, fun a z => ⟨x.mono a z, fun e => nO (e ▸ z)⟩, x.some⟩ ?_
    exact Nb.rp (Nb.anti (fun _ z => z.1) ow.nb) fun a e z => z.2 (by cases e; rfl)) q⟩, h.mono⟩

/-! ### an operation on two operands, by values -/
def eBin (f : D → D → Option D) (oa ob : Op) : WE := fun ε Q => oEv oa ε fun x ε1 => oEv ob ε1 fun y ε2 => ∃ a b r, x ε2 = some a ∧ y ε2 = some b ∧ f a b = some r ∧ Q r ε2
theorem eBin_mono {f : D → D → Option D} {oa ob : Op} (ma : MonoO oa) (mb : MonoO ob) : Mono (eBin f oa ob) := fun ε Q Q' h q =>
  oEv_mono ma (fun x ε1 q => oEv_mono mb (fun y ε2 ⟨a, b, r, e1, e2, e3, q⟩ => ⟨a, b, r, e1, e2, e3, h _ _ q⟩) q) q
/-- an operation that changes nothing and gives a clean value; one that gives a new thing -/
def OpS (r : R2) (f : D → D → Option D) : Prop := ∀ (H : Hp) (O : OS) (x y : V) (a b c : D) (Q : VK), (∀ a, O a → H a ≠ none) → Nb H O a x → Nb H O b y → f a b = some c → (∀ v H', Same H H' → Rp H' O c v → Q v H') → r x y H Q
def OpN (r : R2) (f : D → D → Option D) : Prop := ∀ (H : Hp) (O : OS) (x y : V) (a b c : D) (Q : VK), (∀ a, O a → H a ≠ none) → Nb H O a x → Nb H O b y → f a b = some c →
  (∀ p o, H p = none → (∀ O', (∀ a, O a → O' a) → (∀ a, O' a → O a ∨ a = p) → O' p → Ow (upd H p o) O' c (.ref p)) → Q (.ref p) (upd H p o)) → r x y H Q
theorem OpN.s {r : R2} {f : D → D → Option D} (h : OpN r f) : OpS r f := fun H O x y a b c Q hO ha hb hf k => h H O x y a b c Q hO ha hb hf fun p o np q =>
  k _ _ (same_upd np) (by
    have ow := q (OS.add O p) (fun _ z => .inr z) (fun a z => z.elim (fun e => .inr e) .inl) (.inl rfl)
    refine Nb.rp (Nb.anti (fun _ z => .inr z) ow.nb) fun a e z => ?_
    cases e
    exact hO p z np)
theorem tOp_of {g : Gx} {r : R2} {f : D → D → Option D} (hr : OpS r f) {oa ob : Op} (ma : MonoO oa) (mb : MonoO ob) {σ : L2.St} {H : Hp} {Q : VK} (h : rdE g (eBin f oa ob) σ H Q) : tOp r (rdO g oa) (rdO g ob) σ H Q := by
  obtain ⟨O, ε, A, h⟩ := h
  refine ⟨O, ε, A, oEv_mono ma (fun x ε1 h v1 H1 O1 A1 x1 r1 => ?_) h⟩
  refine ⟨O1, ε1, A1, oEv_mono mb (fun y ε2 h v2 H2 O2 A2 x2 r2 => ?_) h⟩
  obtain ⟨a, b, c, ea, eb, ec, q⟩ := h
  exact hr H2 O2 v1 v2 a b c Q A2.has ((r1.ext A1 x2).nb A2 ea) (r2.nb A2 eb) ec fun v H' s rp => q v H' O2 (A2.same s) (x1.trans (x2.trans (.same s))) rp
theorem tOp_ofN {g : Gx} {r : R2} {f : D → D → Option D} (hr : OpN r f) {oa ob : Op} (ma : MonoO oa) (mb : MonoO ob) {σ : L2.St} {H : Hp} {Q : VK} (h : rdF g (eBin f oa ob) σ H Q) : tOp r (rdO g oa) (rdO g ob) σ H Q := by
  obtain ⟨O, ε, A, h⟩ := h
  refine ⟨O, ε, A, oEv_mono ma (fun x ε1 h v1 H1 O1 A1 x1 r1 => ?_) h⟩
  refine ⟨O1, ε1, A1, oEv_mono mb (fun y ε2 h v2 H2 O2 A2 x2 r2 => ?_) h⟩
  obtain ⟨a, b, c, ea, eb, ec, q⟩ := h
  refine hr H2 O2 v1 v2 a b c Q A2.has ((r1.ext A1 x2).nb A2 ea) (r2.nb A2 eb) ec fun p o np ow => ?_
  have x12 := x1.trans x2
  have nH : H p = none := Classical.byContradiction fun z => x12.some p z np
  exact q p _ (OS.add O2 p) (A2.add np) (x12.trans (.add np)) (.inl rfl) nH (ow _ (fun _ z => .inr z) (fun a z => z.elim (fun e => .inr e) .inl) (.inl rfl))
variable {a b : Expr} {oa ob : Op} {pos : Pos} {es : List Expr} {os : List Op}
theorem de_op {op : Operator} {r : R2} {f : D → D → Option D} (ho : OpR X (binaryOp op) r) (hf : OpS r f) (ha : DO X κ a oa) (hb : DO X κ b ob) : DE X κ (.BinOp a op b pos) (eBin f oa ob) :=
  ⟨fun g hg => (pe_op ho (ha.pe g hg) (hb.pe g hg)).imp fun _ _ _ h => tOp_of hf ha.mono hb.mono h, eBin_mono ha.mono hb.mono⟩
theorem df_op {op : Operator} {r : R2} {f : D → D → Option D} (ho : OpR X (binaryOp op) r) (hf : OpN r f) (ha : DO X κ a oa) (hb : DO X κ b ob) : DF X κ (.BinOp a op b pos) (eBin f oa ob) :=
  ⟨fun g hg => (pe_op ho (ha.pe g hg) (hb.pe g hg)).imp fun _ _ _ h => tOp_ofN hf ha.mono hb.mono h, eBin_mono ha.mono hb.mono⟩
theorem de_cmp {op : CmpOp} {r : R2} {f : D → D → Option D} (ho : OpR X (compareOp op) r) (hf : OpS r f) (ha : DO X κ a oa) (hb : DO X κ b ob) (hm : behindInMarks op b = false) : DE X κ (.Compare a [op] [b] pos) (eBin f oa ob) :=
  ⟨fun g hg => (pe_cmpR ho (ha.pe g hg) (hb.pe g hg) hm).imp fun _ _ _ h => tOp_of hf ha.mono hb.mono h, eBin_mono ha.mono hb.mono⟩
theorem de_ix {r : R2} {f : D → D → Option D} (ho : IxR X r) (hf : OpS r f) (ha : DO X κ a oa) (hb : DO X κ b ob) (hs : PlainIx b := by exact fun _ _ => rfl) : DE X κ (.Subscript a b pos) (eBin f oa ob) :=
  ⟨fun g hg => (pe_ix ho (ha.pe g hg) (hb.pe g hg) hs).imp fun _ _ _ h => tOp_of hf ha.mono hb.mono h, eBin_mono ha.mono hb.mono⟩

/-! ### tests -/
/-- an expression that gives a bool -/
def tE (w : WE) : WT := fun ε Q => w ε fun d ε' => ∃ b, d = .bool b ∧ Q b ε'
theorem tE_mono {w : WE} (m : Mono w) : MonoT (tE w) := fun ε Q Q' h q => m ε _ _ (fun d ε' ⟨b, e, q⟩ => ⟨b, e, h _ _ q⟩) q
theorem dt_val {e : Expr} {w : WE} (h : DE X κ e w) (he : ∀ whole, isTrue e X.env whole = (do let v ← whole; standAt e.pos; holding [v] (truthy v)) := by intro _; rfl) : DT X κ e (tE w) :=
  ⟨fun g hg => (pt_val (h.pe g hg) he).imp fun σ H Q ⟨O, ε, A, q⟩ => ⟨O, ε, A, h.mono _ _ _ (fun d ε' ⟨b, e, z⟩ v H' O' A' x r => ⟨b, by subst e; exact r, z H' O' A' x⟩) q⟩, tE_mono h.mono⟩
theorem dt_cmp {op : CmpOp} {r : R2} {f : D → D → Option D} (ho : OpR X (compareOp op) r) (hf : OpS r f) (ha : DO X κ a oa) (hb : DO X κ b ob) (hm : behindInMarks op b = false) : DT X κ (.Compare a [op] [b] pos) (tE (eBin f oa ob)) :=
  ⟨fun g hg => (pt_cmpR ho (ha.pe g hg) (hb.pe g hg) hm).imp fun σ H Q ⟨O, ε, A, q⟩ => tOp_of hf ha.mono hb.mono ⟨O, ε, A, eBin_mono ha.mono hb.mono _ _ _ (fun d ε' ⟨b, e, z⟩ v H' O' A' x r => ⟨b, by subst e; exact r, z H' O' A' x⟩) q⟩,
    tE_mono (eBin_mono ha.mono hb.mono)⟩
def tNotW (w : WT) : WT := fun ε Q => w ε fun b ε' => Q (!b) ε'
theorem dt_not {w : WT} (h : DT X κ a w) : DT X κ (.UnaryOp .Not a pos) (tNotW w) :=
  ⟨fun g hg => (pt_not (h.pt g hg)).imp fun σ H Q ⟨O, ε, A, q⟩ => ⟨O, ε, A, h.mono _ _ _ (fun b ε' z H' O' A' x => z H' O' A' x) q⟩, fun ε Q Q' h' q => h.mono _ _ _ (fun b ε' z => h' _ _ z) q⟩
def tAndW (w u : WT) : WT := fun ε Q => w ε fun b ε' => if b = true then u ε' Q else Q false ε'
def tOrW (w u : WT) : WT := fun ε Q => w ε fun b ε' => if b = true then Q true ε' else u ε' Q
theorem MonoT.and {w u : WT} (h : MonoT w) (k : MonoT u) : MonoT (tAndW w u) := fun ε Q Q' h' q => h _ _ _ (fun b ε' z => by
  cases b with
  | true => exact k _ _ _ h' z
  | false => exact h' _ _ z) q
theorem MonoT.or {w u : WT} (h : MonoT w) (k : MonoT u) : MonoT (tOrW w u) := fun ε Q Q' h' q => h _ _ _ (fun b ε' z => by
  cases b with
  | false => exact k _ _ _ h' z
  | true => exact h' _ _ z) q
variable {rest : List Expr}
theorem dw_and1 {w : WT} (h : DT X κ a w) : DW X κ (.BoolOp .And [a] pos) w := ⟨fun g hg => pw_and1 (h.pt g hg), h.mono⟩
theorem dw_or1 {w : WT} (h : DT X κ a w) : DW X κ (.BoolOp .Or [a] pos) w := ⟨fun g hg => pw_or1 (h.pt g hg), h.mono⟩
theorem dw_and {w u : WT} (h : DT X κ a w) (k : DW X κ (.BoolOp .And (b :: rest) pos) u) : DW X κ (.BoolOp .And (a :: b :: rest) pos) (tAndW w u) :=
  ⟨fun g hg => (pw_and (h.pt g hg) (k.pw g hg)).imp fun σ H Q ⟨O, ε, A, q⟩ => ⟨O, ε, A, h.mono _ _ _ (fun c ε' z H' O' A' x => by
    cases c with
    | true => exact ⟨O', ε', A', k.mono _ _ _ (fun d ε2 z H2 O2 A2 x2 => z H2 O2 A2 (x.trans x2)) z⟩
    | false => exact z H' O' A' x) q⟩, h.mono.and k.mono⟩
theorem dw_or {w u : WT} (h : DT X κ a w) (k : DW X κ (.BoolOp .Or (b :: rest) pos) u) : DW X κ (.BoolOp .Or (a :: b :: rest) pos) (tOrW w u) :=
  ⟨fun g hg => (pw_or (h.pt g hg) (k.pw g hg)).imp fun σ H Q ⟨O, ε, A, q⟩ => ⟨O, ε, A, h.mono _ _ _ (fun c ε' z H' O' A' x => by
    cases c with
    | false => exact ⟨O', ε', A', k.mono _ _ _ (fun d ε2 z H2 O2 A2 x2 => z H2 O2 A2 (x.trans x2)) z⟩
    | true => exact z H' O' A' x) q⟩, h.mono.or k.mono⟩
theorem DW.dt {w : WT} (h : DW X κ a w) : DT X κ a w := ⟨fun g hg => (h.pw g hg).pt, h.mono⟩
/-- values that are bools, joined -/
def eAnd (w u : WE) : WE := fun ε Q => w ε fun d ε' => ∃ b, d = .bool b ∧ if b = true then u ε' Q else Q (.bool false) ε'
def eOr (w u : WE) : WE := fun ε Q => w ε fun d ε' => ∃ b, d = .bool b ∧ if b = true then Q (.bool true) ε' else u ε' Q
def eNot (w : WE) : WE := fun ε Q => w ε fun d ε' => ∃ b, d = .bool b ∧ Q (.bool !b) ε'
theorem de_one {op} {w : WE} (h : DE X κ a w) : DE X κ (.BoolOp op [a] pos) w := ⟨fun g hg => pe_one (h.pe g hg), h.mono⟩
theorem de_and {w u : WE} (h : DE X κ a w) (k : DE X κ (.BoolOp .And (b :: rest) pos) u) : DE X κ (.BoolOp .And (a :: b :: rest) pos) (eAnd w u) :=
  ⟨fun g hg => (pe_and (h.pe g hg) (k.pe g hg)).imp fun σ H Q ⟨O, ε, A, q⟩ => ⟨O, ε, A, h.mono _ _ _ (fun d ε' ⟨c, e, z⟩ v H' O' A' x r => by
    subst e
    refine ⟨c, r, ?_⟩
    cases c with
    | true => exact ⟨O', ε', A', k.mono _ _ _ (fun d ε2 z v H2 O2 A2 x2 => z v H2 O2 A2 (x.trans x2)) z⟩
    | false => exact z _ H' O' A' x rfl) q⟩, fun ε Q Q' h' q => h.mono _ _ _ (fun d ε' ⟨c, e, z⟩ => ⟨c, e, by
      cases c with
      | true => exact k.mono _ _ _ h' z
      | false => exact h' _ _ z⟩) q⟩
theorem de_or {w u : WE} (h : DE X κ a w) (k : DE X κ (.BoolOp .Or (b :: rest) pos) u) : DE X κ (.BoolOp .Or (a :: b :: rest) pos) (eOr w u) :=
  ⟨fun g hg => (pe_or (h.pe g hg) (k.pe g hg)).imp fun σ H Q ⟨O, ε, A, q⟩ => ⟨O, ε, A, h.mono _ _ _ (fun d ε' ⟨c, e, z⟩ v H' O' A' x r => by
    subst e
    refine ⟨c, r, ?_⟩
    cases c with
    | false => exact ⟨O', ε', A', k.mono _ _ _ (fun d ε2 z v H2 O2 A2 x2 => z v H2 O2 A2 (x.trans x2)) z⟩
    | true => exact z _ H' O' A' x rfl) q⟩, fun ε Q Q' h' q => h.mono _ _ _ (fun d ε' ⟨c, e, z⟩ => ⟨c, e, by
      cases c with
      | false => exact k.mono _ _ _ h' z
      | true => exact h' _ _ z⟩) q⟩
theorem de_not {w : WE} (h : DE X κ a w) : DE X κ (.UnaryOp .Not a pos) (eNot w) :=
  ⟨fun g hg => (pe_not (h.pe g hg)).imp fun σ H Q ⟨O, ε, A, q⟩ => ⟨O, ε, A, h.mono _ _ _ (fun d ε' ⟨c, e, z⟩ v H' O' A' x r => by
    subst e
    exact ⟨c, r, z _ H' O' A' x rfl⟩) q⟩, fun ε Q Q' h' q => h.mono _ _ _ (fun d ε' ⟨c, e, z⟩ => ⟨c, e, h' _ _ z⟩) q⟩
def eIf (t : WT) (w u : WE) : WE := fun ε Q => t ε fun b ε' => if b = true then w ε' Q else u ε' Q
theorem de_ifExp {c : Expr} {t : WT} {w u : WE} (ht : DT X κ c t) (h : DE X κ a w) (k : DE X κ b u) : DE X κ (.IfExp c a b pos) (eIf t w u) :=
  ⟨fun g hg => (pe_ifExp (ht.pt g hg) (h.pe g hg) (k.pe g hg)).imp fun σ H Q ⟨O, ε, A, q⟩ => ⟨O, ε, A, ht.mono _ _ _ (fun c ε' z H' O' A' x => by
    cases c with
    | true => exact ⟨O', ε', A', h.mono _ _ _ (fun d ε2 z v H2 O2 A2 x2 => z v H2 O2 A2 (x.trans x2)) z⟩
    | false => exact ⟨O', ε', A', k.mono _ _ _ (fun d ε2 z v H2 O2 A2 x2 => z v H2 O2 A2 (x.trans x2)) z⟩) q⟩, fun ε Q Q' h' q => ht.mono _ _ _ (fun c ε' z => by
      cases c with
      | true => exact h.mono _ _ _ h' z
      | false => exact k.mono _ _ _ h' z) q⟩

/-! ### lists of operands -/
def notStar : Expr → Bool
  | .Starred _ _ => false
  | _ => true
theorem st_cons {e : Expr} {es : List Expr} {env : Env} (h : notStar e = true) : starEach (e :: es) env = (false, eval e env) :: starEach es env := by
  cases e <;> first | rfl | exact Bool.noConfusion h
theorem st_any {env : Env} {pos : Pos} : ∀ {es : List Expr}, es.all notStar = true → (backTo pos (starEach es env)).any (·.1) = false
  | [], _ => rfl
  | e :: es, h => by
    rw [List.all_cons, Bool.and_eq_true] at h
    rw [st_cons h.1]
    show ((false, _) :: backTo pos (starEach es env)).any (·.1) = false
    rw [List.any_cons, st_any h.2]
    rfl
theorem st_all {env : Env} {pos : Pos} : ∀ {es : List Expr}, es.all notStar = true → (backTo pos (starEach es env)).all (fun x => !x.1) = true
  | [], _ => rfl
  | e :: es, h => by
    rw [List.all_cons, Bool.and_eq_true] at h
    rw [st_cons h.1]
    show ((false, _) :: backTo pos (starEach es env)).all (fun x => !x.1) = true
    rw [List.all_cons, st_all h.2]
    rfl
def aEv : List Op → WA
  | [], ε, Q => Q [] ε
  | o :: os, ε, Q => oEv o ε fun x ε1 => aEv os ε1 fun xs ε2 => Q (x :: xs) ε2
def MonoA (os : List Op) : Prop := ∀ o ∈ os, MonoO o
theorem aEv_mono : ∀ {os : List Op}, MonoA os → ∀ {ε : En} {Q Q' : List (En → Option D) → En → Prop}, (∀ x ε', Q x ε' → Q' x ε') → aEv os ε Q → aEv os ε Q'
  | [], _, _, _, _, h, q => h _ _ q
  | o :: os, m, _, _, _, h, q => oEv_mono (m o List.mem_cons_self) (fun x ε1 q => aEv_mono (fun o ho => m o (List.mem_cons_of_mem _ ho)) (fun xs ε2 q => h _ _ q) q) q
def ORs (H : Hp) (O : OS) (σ : L2.St) : List (En → Option D) → List V → Prop
  | [], vs => vs = []
  | x :: xs, vs => ∃ v r, vs = v :: r ∧ OR H O σ x v ∧ ORs H O σ xs r
theorem ORs.ext {g : Gx} {O O' : OS} {H H' : Hp} {σ : L2.St} {ε : En} (A : Abs g O H σ ε) (k : Ext g.κ σ O H O' H') : ∀ {xs : List (En → Option D)} {vs : List V}, ORs H O σ xs vs → ORs H' O' σ xs vs
  | [], _, h => h
  | _ :: _, _, ⟨v, r, e, h, q⟩ => ⟨v, r, e, h.ext A k, ORs.ext A k q⟩
/-- the operands' values, read together -/
def vals (ε : En) : List (En → Option D) → List D → Prop
  | [], ds => ds = []
  | x :: xs, ds => ∃ d r, ds = d :: r ∧ x ε = some d ∧ vals ε xs r
def NbL (H : Hp) (O : OS) : List D → List V → Prop
  | [], vs => vs = []
  | d :: ds, vs => ∃ v r, vs = v :: r ∧ Nb H O d v ∧ NbL H O ds r
theorem ORs.nb {g : Gx} {O : OS} {H : Hp} {σ : L2.St} {ε : En} (A : Abs g O H σ ε) : ∀ {xs : List (En → Option D)} {vs : List V} {ds : List D}, ORs H O σ xs vs → vals ε xs ds → NbL H O ds vs
  | [], _, _, h, e => by
    have e' : _ = _ := e
    subst e'
    exact h
  | _ :: _, _, _, ⟨v, r, e, h, q⟩, ⟨d, dr, e2, hd, hr⟩ => by
    subst e2
    exact ⟨v, r, e, h.nb A hd, ORs.nb A q hr⟩
def rdA (g : Gx) (os : List Op) : TA := fun σ H Q => ∃ O ε, Abs g O H σ ε ∧ aEv os ε fun xs ε' => ∀ vs H' O', Abs g O' H' σ ε' → Ext g.κ σ O H O' H' → ORs H' O' σ xs vs → Q vs H'
structure DA (X : Cx) (κ : List Kd) (es : List Expr) (os : List Op) : Prop where
  pa : ∀ g, g.κ = κ → PA X es (rdA g os)
  mono : MonoA os
  st : es.all notStar = true
theorem da_nil : DA X κ [] [] := ⟨fun g _ => pa_nil.imp fun σ H Q ⟨O, ε, A, h⟩ => h [] H O A .refl rfl, fun _ h => (nomatch h), rfl⟩
theorem da_cons {es : List Expr} {os : List Op} (h : DO X κ a oa) (k : DA X κ es os) (hs : notStar a = true := by rfl) : DA X κ (a :: es) (oa :: os) :=
  ⟨fun g hg => (pa_cons (h.pe g hg) (k.pa g hg) (st_cons hs)).imp fun σ H Q ⟨O, ε, A, q⟩ => ⟨O, ε, A, oEv_mono h.mono (fun x ε1 z v H1 O1 A1 x1 r1 => ⟨O1, ε1, A1, aEv_mono k.mono (fun xs ε2 z vs H2 O2 A2 x2 r2 => z _ H2 O2 A2 (x1.trans x2) ⟨v, vs, rfl, r1.ext A1 x2, r2⟩) z⟩) q⟩,
    fun o ho => (List.mem_cons.mp ho).elim (fun e => e ▸ h.mono) fun ho => k.mono o ho, by rw [List.all_cons, hs, k.st]; rfl⟩
theorem DA.hd (h : DA X κ (a :: es) os) : notStar a = true ∧ es.all notStar = true := by
  have := h.st
  rw [List.all_cons, Bool.and_eq_true] at this
  exact this
/-- an operation on a list of operands -/
def eApp (f : List D → Option D) (os : List Op) : WE := fun ε Q => aEv os ε fun xs ε' => ∃ ds r, vals ε' xs ds ∧ f ds = some r ∧ Q r ε'
theorem eApp_mono {f : List D → Option D} {os : List Op} (m : MonoA os) : Mono (eApp f os) := fun ε Q Q' h q => aEv_mono m (fun xs ε' ⟨ds, r, e, e2, q⟩ => ⟨ds, r, e, e2, h _ _ q⟩) q
def CaS (r : List V → Hp → VK → Prop) (f : List D → Option D) : Prop := ∀ (H : Hp) (O : OS) (xs : List V) (ds : List D) (c : D) (Q : VK), (∀ a, O a → H a ≠ none) → NbL H O ds xs → f ds = some c → (∀ v H', Same H H' → Rp H' O c v → Q v H') → r xs H Q
def CaN (r : List V → Hp → VK → Prop) (f : List D → Option D) : Prop := ∀ (H : Hp) (O : OS) (xs : List V) (ds : List D) (c : D) (Q : VK), (∀ a, O a → H a ≠ none) → NbL H O ds xs → f ds = some c →
  (∀ p o, H p = none → (∀ O', (∀ a, O a → O' a) → (∀ a, O' a → O a ∨ a = p) → O' p → Ow (upd H p o) O' c (.ref p)) → Q (.ref p) (upd H p o)) → r xs H Q
theorem CaN.s {r : List V → Hp → VK → Prop} {f : List D → Option D} (h : CaN r f) : CaS r f := fun H O xs ds c Q hO ha hf k => h H O xs ds c Q hO ha hf fun p o np q =>
  k _ _ (same_upd np) (by
    have ow := q (OS.add O p) (fun _ z => .inr z) (fun a z => z.elim (fun e => .inr e) .inl) (.inl rfl)
    refine Nb.rp (Nb.anti (fun _ z => .inr z) ow.nb) fun a e z => ?_
    cases e
    exact hO p z np)
theorem app_of {g : Gx} {r : List V → Hp → VK → Prop} {f : List D → Option D} (hr : CaS r f) {os : List Op} (m : MonoA os) {σ : L2.St} {H : Hp} {Q : VK} (h : rdE g (eApp f os) σ H Q) : rdA g os σ H fun vs H1 => r vs H1 Q := by
  obtain ⟨O, ε, A, h⟩ := h
  refine ⟨O, ε, A, aEv_mono m (fun xs ε1 h vs H1 O1 A1 x1 r1 => ?_) h⟩
  obtain ⟨ds, c, e, ec, q⟩ := h
  exact hr H1 O1 vs ds c Q A1.has (r1.nb A1 e) ec fun v H' s rp => q v H' O1 (A1.same s) (x1.trans (.same s)) rp
theorem app_ofN {g : Gx} {r : List V → Hp → VK → Prop} {f : List D → Option D} (hr : CaN r f) {os : List Op} (m : MonoA os) {σ : L2.St} {H : Hp} {Q : VK} (h : rdF g (eApp f os) σ H Q) : rdA g os σ H fun vs H1 => r vs H1 Q := by
  obtain ⟨O, ε, A, h⟩ := h
  refine ⟨O, ε, A, aEv_mono m (fun xs ε1 h vs H1 O1 A1 x1 r1 => ?_) h⟩
  obtain ⟨ds, c, e, ec, q⟩ := h
  refine hr H1 O1 vs ds c Q A1.has (r1.nb A1 e) ec fun p o np ow => ?_
  have nH : H p = none := Classical.byContradiction fun z => x1.some p z np
  exact q p _ (OS.add O1 p) (A1.add np) (x1.trans (.add np)) (.inl rfl) nH (ow _ (fun _ z => .inr z) (fun a z => z.elim (fun e => .inr e) .inl) (.inl rfl))
variable {x : Str} {p : Pos} {id T : String}
theorem de_callB {r : List V → Hp → VK → Prop} {f : List D → Option D} (hc : CallR X (.builtin id) r) (hf : CaS r f) (hg : Gl X x) (hm : X.mg x = none) (hv : bootBuiltins x = some (.builtin id)) (ha : DA X κ (a :: es) os) (hn : x ≠ "__name__" := by decide) (hdb : (x == ("__debug__" : Str)) = false := by decide) :
    DE X κ (.Call (.Name x p) (a :: es) [] pos) (eApp f os) :=
  ⟨fun g hg' => (pe_callB hc hg hm hv (ha.pa g hg') hn hdb (st_cons ha.hd.1) (st_any ha.hd.2)).imp fun _ _ _ h => app_of hf ha.mono h, eApp_mono ha.mono⟩
theorem df_callB {r : List V → Hp → VK → Prop} {f : List D → Option D} (hc : CallR X (.builtin id) r) (hf : CaN r f) (hg : Gl X x) (hm : X.mg x = none) (hv : bootBuiltins x = some (.builtin id)) (ha : DA X κ (a :: es) os) (hn : x ≠ "__name__" := by decide) (hdb : (x == ("__debug__" : Str)) = false := by decide) :
    DF X κ (.Call (.Name x p) (a :: es) [] pos) (eApp f os) :=
  ⟨fun g hg' => (pe_callB hc hg hm hv (ha.pa g hg') hn hdb (st_cons ha.hd.1) (st_any ha.hd.2)).imp fun _ _ _ h => app_ofN hf ha.mono h, eApp_mono ha.mono⟩
theorem de_callTy {r : List V → Hp → VK → Prop} {f : List D → Option D} (hc : CallR X (.type T) r) (hf : CaS r f) (hg : Gl X x) (hm : X.mg x = none) (hv : bootBuiltins x = some (.type T)) (ha : DA X κ (a :: es) os) (hn : x ≠ "__name__" := by decide) (hdb : (x == ("__debug__" : Str)) = false := by decide) :
    DE X κ (.Call (.Name x p) (a :: es) [] pos) (eApp f os) :=
  ⟨fun g hg' => (pe_callTy hc hg hm hv (ha.pa g hg') hn hdb (st_cons ha.hd.1) (st_any ha.hd.2)).imp fun _ _ _ h => app_of hf ha.mono h, eApp_mono ha.mono⟩
theorem df_callTy {r : List V → Hp → VK → Prop} {f : List D → Option D} (hc : CallR X (.type T) r) (hf : CaN r f) (hg : Gl X x) (hm : X.mg x = none) (hv : bootBuiltins x = some (.type T)) (ha : DA X κ (a :: es) os) (hn : x ≠ "__name__" := by decide) (hdb : (x == ("__debug__" : Str)) = false := by decide) :
    DF X κ (.Call (.Name x p) (a :: es) [] pos) (eApp f os) :=
  ⟨fun g hg' => (pe_callTy hc hg hm hv (ha.pa g hg') hn hdb (st_cons ha.hd.1) (st_any ha.hd.2)).imp fun _ _ _ h => app_ofN hf ha.mono h, eApp_mono ha.mono⟩
/-! ### displays: their items are clean -/
def cEv : List WE → En → (List D → En → Prop) → Prop
  | [], ε, Q => Q [] ε
  | w :: ws, ε, Q => w ε fun d ε1 => cEv ws ε1 fun ds ε2 => Q (d :: ds) ε2
def MonoC (ws : List WE) : Prop := ∀ w ∈ ws, Mono w
theorem cEv_mono : ∀ {ws : List WE}, MonoC ws → ∀ {ε : En} {Q Q' : List D → En → Prop}, (∀ x ε', Q x ε' → Q' x ε') → cEv ws ε Q → cEv ws ε Q'
  | [], _, _, _, _, h, q => h _ _ q
  | w :: ws, m, _, _, _, h, q => m w List.mem_cons_self _ _ _ (fun x ε1 q => cEv_mono (fun o ho => m o (List.mem_cons_of_mem _ ho)) (fun xs ε2 q => h _ _ q) q) q
def rdC (g : Gx) (ws : List WE) : TA := fun σ H Q => ∃ O ε, Abs g O H σ ε ∧ cEv ws ε fun ds ε' => ∀ vs H' O', Abs g O' H' σ ε' → Ext g.κ σ O H O' H' → RpL H' O' ds vs → Q vs H'
structure DC (X : Cx) (κ : List Kd) (es : List Expr) (ws : List WE) : Prop where
  pa : ∀ g, g.κ = κ → PA X es (rdC g ws)
  mono : MonoC ws
theorem dc_nil : DC X κ [] [] := ⟨fun g _ => pa_nil.imp fun σ H Q ⟨O, ε, A, h⟩ => h [] H O A .refl rfl, fun _ h => nomatch h⟩
theorem dc_cons {es : List Expr} {w : WE} {ws : List WE} (h : DE X κ a w) (k : DC X κ es ws) (hs : notStar a = true := by rfl) : DC X κ (a :: es) (w :: ws) :=
  ⟨fun g hg => (pa_cons (h.pe g hg) (k.pa g hg) (st_cons hs)).imp fun σ H Q ⟨O, ε, A, q⟩ => ⟨O, ε, A, h.mono _ _ _ (fun x ε1 z v H1 O1 A1 x1 r1 => ⟨O1, ε1, A1, cEv_mono k.mono (fun xs ε2 z vs H2 O2 A2 x2 r2 => z _ H2 O2 A2 (x1.trans x2) ⟨v, vs, rfl, A1.rp x2 r1, r2⟩) z⟩) q⟩,
    fun o ho => (List.mem_cons.mp ho).elim (fun e => e ▸ h.mono) fun ho => k.mono o ho⟩
theorem RpL.length {H : Hp} {O : OS} : ∀ {ds : List D} {vs : List V}, RpL H O ds vs → vs.length = ds.length
  | [], _, h => by
    have e : _ = _ := h
    rw [e]
    rfl
  | d :: ds, _, ⟨v, r, e, _, q⟩ => by rw [e, List.length_cons, List.length_cons, RpL.length q]
def eTup (ws : List WE) : WE := fun ε Q => cEv ws ε fun ds ε' => ds.length ≤ sizeLine ∧ Q (.tuple ds) ε'
def eLst (ws : List WE) : WE := fun ε Q => cEv ws ε fun ds ε' => ds.length ≤ sizeLine ∧ Q (.list ds) ε'
theorem de_tup {ws : List WE} {k : Nat} (h : DC X κ es ws) : DE X κ (.Tuple es k pos) (eTup ws) :=
  ⟨fun g hg => (pe_tup (h.pa g hg)).imp fun σ H Q ⟨O, ε, A, q⟩ => ⟨O, ε, A, cEv_mono h.mono (fun ds ε' ⟨hl, q⟩ vs H' O' A' x r => ⟨by rw [r.length]; exact hl, fun p np =>
    q (.ref p) _ O' (A'.same (same_upd np)) (x.trans (.same (same_upd np))) ⟨p, vs, rfl, A'.nh np, upd_same, RpL.ext (fun a o e _ => same_upd np a o e) (fun _ z => .inl z) r⟩⟩) q⟩,
    fun ε Q Q' h' q => cEv_mono h.mono (fun ds ε' ⟨hl, q⟩ => ⟨hl, h' _ _ q⟩) q⟩
theorem df_lst {ws : List WE} (h : DC X κ es ws) : DF X κ (.List es pos) (eLst ws) :=
  ⟨fun g hg => (pe_lst (h.pa g hg)).imp fun σ H Q ⟨O, ε, A, q⟩ => ⟨O, ε, A, cEv_mono h.mono (fun ds ε' ⟨hl, q⟩ vs H' O' A' x r => ⟨by rw [r.length]; exact hl, fun p np =>
    q p _ (OS.add O' p) (A'.add np) (x.trans (.add np)) (.inl rfl) (Classical.byContradiction fun z => x.some p z np) ⟨p, vs, rfl, .inl rfl, upd_same, RpL.ext (fun a o e _ => same_upd np a o e) (fun a z => z.elim (fun e => .inr (by rw [e]; exact np)) .inl) r⟩⟩) q⟩,
    fun ε Q Q' h' q => cEv_mono h.mono (fun ds ε' ⟨hl, q⟩ => ⟨hl, h' _ _ q⟩) q⟩
end
end DL

namespace DL
open PySem PySem.Spec L2

/-! ### statements -/
structure WEnds where
  nx : En → Prop
  rt : D → En → Prop
  bk : En → Prop
  ct : En → Prop
abbrev WS := WEnds → En → Prop
structure WEnds.le (E E' : WEnds) : Prop where
  nx : ∀ ε, E.nx ε → E'.nx ε
  rt : ∀ d ε, E.rt d ε → E'.rt d ε
  bk : ∀ ε, E.bk ε → E'.bk ε
  ct : ∀ ε, E.ct ε → E'.ct ε
def MonoS (w : WS) : Prop := ∀ (E E' : WEnds) (ε : En), E.le E' → w E ε → w E' ε
theorem WEnds.le.le_nx {E E' : WEnds} (h : E.le E') {a b : En → Prop} (k : ∀ ε, a ε → b ε) : WEnds.le { E with nx := a } { E' with nx := b } := ⟨k, h.rt, h.bk, h.ct⟩

/-- what a def hands back: a clean value; or (fr) a new thing -/
def RetOk (g : Gx) (O : OS) (H : Hp) (d : D) (v : V) : Prop := if g.fr = true then ∃ p, v = .ref p ∧ O p ∧ g.H0 p = none ∧ Ow H (OS.add g.O0 p) d v else Rp H g.O0 d v
def ends (g : Gx) (Dn : Ends) : WEnds where
  nx := fun ε => ∀ σ H O, Abs g O H σ ε → Dn.nx σ H
  rt := fun d ε => ∀ v H σ O, Abs g O H σ ε → RetOk g O H d v → Dn.rt v H
  bk := fun ε => ∀ σ H O, Abs g O H σ ε → Dn.bk σ H
  ct := fun ε => ∀ σ H O, Abs g O H σ ε → Dn.ct σ H
def rdS (g : Gx) (w : WS) : TS := fun Dn σ H => ∃ O ε, Abs g O H σ ε ∧ w (ends g Dn) ε
structure DS (X : Cx) (κ : List Kd) (fr : Bool) (st : Stmt) (w : WS) : Prop where
  ps : ∀ g, g.κ = κ → g.fr = fr → PS X st (rdS g w)
  mono : MonoS w
structure DSs (X : Cx) (κ : List Kd) (fr : Bool) (st : List Stmt) (w : WS) : Prop where
  ps : ∀ g, g.κ = κ → g.fr = fr → PSs X st (rdS g w)
  mono : MonoS w

section
variable {g : Gx} {O O' : OS} {H H' : Hp} {σ : L2.St} {ε ε' : En}
theorem get_set_ne {α : Type} {l : List α} {i j : Nat} {x : α} (h : i ≠ j) : (l.set i x)[j]? = l[j]? := List.getElem?_set_ne h
theorem Abs.lt (A : Abs g O H σ ε) {i : Nat} {k : Kd} (hk : g.κ[i]? = some k) : i < σ.length ∧ i < ε.length := by
  have h : i < g.κ.length := (List.getElem?_eq_some_iff.mp hk).1
  exact ⟨by rw [← A.lenK]; exact h, by rw [A.len, ← A.lenK]; exact h⟩
/-- a slot of kind val is stored -/
theorem Abs.set (A : Abs g O H σ ε) {i : Nat} (hk : g.κ[i]? = some .val) {d : D} {v : V} (r : Rp H O d v) : Abs g O H (σ.set i (some v)) (ε.set i (some d)) := by
  obtain ⟨l1, l2⟩ := A.lt hk
  have ne : ∀ j, mu g.κ j → i ≠ j := fun j hj e => by
    subst e
    rcases hj with h | h <;> (rw [hk] at h; cases h)
  have s' : ∀ j, mu g.κ j → (σ.set i (some v))[j]? = σ[j]? := fun j hj => get_set_ne (ne j hj)
  exact { A with
    slot := fun j d' e => by
      by_cases h : i = j
      · subst h
        rw [List.getElem?_set_self l2] at e
        cases e
        exact ⟨v, .val, by rw [List.getElem?_set_self l1], hk, r⟩
      · rw [get_set_ne h] at e ⊢
        exact A.slot j d' e
    ownO := fun a ⟨j, hj, e⟩ => A.ownO a ⟨j, hj, by rw [← s' j hj]; exact e⟩
    apart := fun j k a hj hk' e e' => A.apart j k a hj hk' (by rw [← s' j hj]; exact e) (by rw [← s' k hk']; exact e')
    new := fun j a hj e => A.new j a hj (by rw [← s' j (.inl hj)]; exact e)
    brwA := fun j b hj e => A.brwA j b hj (by rw [get_set_ne (fun z => by subst z; rw [hk] at hj; cases hj)] at e; exact e)
    ioS := fun j a h => by rw [s' j (.inr (A.ioK j a h))]; exact A.ioS j a h
    len := by rw [List.length_set, List.length_set]; exact A.len
    lenK := by rw [List.length_set]; exact A.lenK }
/-- a slot of kind own is stored: a new thing -/
theorem Abs.setOwn (A : Abs g O H σ ε) {i : Nat} (hk : g.κ[i]? = some .own) {d : D} {p : Addr} (hp : O p) (n0 : g.H0 p = none) (no : ¬ OwnAt g.κ σ p) (r : Ow H O d (.ref p)) : Abs g O H (σ.set i (some (.ref p))) (ε.set i (some d)) := by
  obtain ⟨l1, l2⟩ := A.lt hk
  have gt : ∀ {j : Nat} {a : Addr}, (σ.set i (some (.ref p)))[j]? = some (some (.ref a)) → (j = i ∧ a = p) ∨ (i ≠ j ∧ σ[j]? = some (some (.ref a))) := fun {j a} e => by
    by_cases h : i = j
    · subst h
      rw [List.getElem?_set_self l1] at e
      cases e
      exact .inl ⟨rfl, rfl⟩
    · rw [get_set_ne h] at e
      exact .inr ⟨h, e⟩
  exact { A with
    slot := fun j d' e => by
      by_cases h : i = j
      · subst h
        rw [List.getElem?_set_self l2] at e
        cases e
        exact ⟨.ref p, .own, by rw [List.getElem?_set_self l1], hk, r⟩
      · rw [get_set_ne h] at e ⊢
        exact A.slot j d' e
    ownO := fun a ⟨j, hj, e⟩ => by
      rcases gt e with ⟨_, rfl⟩ | ⟨_, e⟩
      · exact hp
      · exact A.ownO a ⟨j, hj, e⟩
    apart := fun j k a hj hk' e e' => by
      rcases gt e with ⟨h1, h2⟩ | ⟨h, e⟩
      · rcases gt e' with ⟨h3, _⟩ | ⟨_, e'⟩
        · rw [h1, h3]
        · exact (no ⟨k, hk', by rw [← h2]; exact e'⟩).elim
      · rcases gt e' with ⟨h1, h2⟩ | ⟨_, e'⟩
        · exact (no ⟨j, hj, by rw [← h2]; exact e⟩).elim
        · exact A.apart j k a hj hk' e e'
    brwA := fun j b hj e => A.brwA j b hj (by rw [get_set_ne (fun z => by subst z; rw [hk] at hj; cases hj)] at e; exact e)
    new := fun j a hj e => by
      rcases gt e with ⟨_, rfl⟩ | ⟨_, e⟩
      · exact n0
      · exact A.new j a hj e
    ioS := fun j a h => by
      rw [get_set_ne (fun e => by subst e; rw [A.ioK _ a h] at hk; cases hk)]
      exact A.ioS j a h
    len := by rw [List.length_set, List.length_set]; exact A.len
    lenK := by rw [List.length_set]; exact A.lenK }
/-- an own thing is changed in place: d is what it holds now -/
theorem Abs.mut (A : Abs g O H σ ε) {i : Nat} (hk : mu g.κ i) {a : Addr} (e : σ[i]? = some (some (.ref a))) (k : ∀ b o, b ≠ a → H b = some o → H' b = some o) (hs : H' a ≠ none) {d : D} (r : Ow H' O d (.ref a)) : Abs g O H' σ (ε.set i (some d)) := by
  have hO : O a := A.ownO a ⟨i, hk, e⟩
  have so : ∀ b, H b ≠ none → H' b ≠ none := fun b h => by
    by_cases q : b = a
    · rw [q]; exact hs
    · cases e : H b with
      | none => exact (h e).elim
      | some o => rw [k b o q e]; exact fun z => nomatch z
  have kO : ∀ b o, H b = some o → ¬ O b → H' b = some o := fun b o e n => k b o (fun z => n (z ▸ hO)) e
  have l2 : i < ε.length := by
    rw [A.len]
    exact (List.getElem?_eq_some_iff.mp e).1
  exact { A with
    slot := fun j d' ej => by
      by_cases h : i = j
      · subst h
        rw [List.getElem?_set_self l2] at ej
        cases ej
        rcases hk with hk | hk
        · exact ⟨.ref a, .own, e, hk, r⟩
        · exact ⟨.ref a, .io, e, hk, r⟩
      · rw [get_set_ne h] at ej
        obtain ⟨v, kd, e1, e2, s⟩ := A.slot j d' ej
        refine ⟨v, kd, e1, e2, ?_⟩
        have oth : mu g.κ j → ∀ b o, v = .ref b → H b = some o → H' b = some o := fun hj b o ev eb => k b o (fun z => h (A.apart i j a hk hj e (by rw [e1, ev, z]))) eb
        cases kd with
        | val => exact Rp.ext kO (fun _ z => .inl z) s
        | own => exact Ow.ext kO (fun _ z => .inl z) (oth (.inl e2)) (fun _ z => z) s
        | io => exact Ow.ext kO (fun _ z => .inl z) (oth (.inr e2)) (fun _ z => z) s
        | brw =>
          have nb : ∀ b, v = .ref b → b ≠ a := fun b ev z => by
            obtain ⟨n0, nio⟩ := A.brwA j b e2 (by rw [e1, ev])
            subst z
            rcases hk with hk | hk
            · exact n0 (A.new i b hk e)
            · obtain ⟨c, hc⟩ := A.ioA i hk
              have := A.ioS i c hc
              rw [e] at this
              cases this
              exact nio i hc
          match d', s with
          | .none, h => exact h
          | .bool _, h => exact h
          | .int _, h => exact h
          | .str _, h => exact h
          | .list _, ⟨b, xs, ev, r, q⟩ => exact ⟨b, xs, ev, k _ _ (nb b ev) r, RpL.ext kO (fun _ z => .inl z) q⟩
          | .tuple _, ⟨b, xs, ev, r, q⟩ => exact ⟨b, xs, ev, k _ _ (nb b ev) r, RpL.ext kO (fun _ z => .inl z) q⟩
          | .dict _, ⟨b, ev, .inl ⟨kvs, r, q⟩⟩ => exact ⟨b, ev, .inl ⟨kvs, k _ _ (nb b ev) r, RpK.ext kO (fun _ z => .inl z) q⟩⟩
          | .dict _, ⟨b, ev, .inr ⟨kvs, r, q⟩⟩ => exact ⟨b, ev, .inr ⟨kvs, k _ _ (nb b ev) r, RpT.ext kO (fun _ z => .inl z) q⟩⟩
    has := fun b z => so b (A.has b z)
    fr := fun b o eb n => by
      refine k b o (fun z => ?_) (A.fr b o eb n)
      subst z
      rcases hk with hk | hk
      · rw [A.new i b hk e] at eb
        cases eb
      · obtain ⟨c, hc⟩ := A.ioA i hk
        have := A.ioS i c hc
        rw [e] at this
        cases this
        exact n i hc
    hold := fun p hp => Rp.ext kO (fun _ z => .inl z) (A.hold p hp)
    len := by rw [List.length_set]; exact A.len }
end

/-! ### blocks, small statements -/
section
variable {X : Cx} {κ : List Kd} {fr : Bool} {st : Stmt} {rest : List Stmt} {pos : Pos} {e : Expr}
def sNil : WS := fun E ε => E.nx ε
def sSeq (w u : WS) : WS := fun E ε => w { E with nx := u E } ε
theorem MonoS.seq {w u : WS} (h : MonoS w) (k : MonoS u) : MonoS (sSeq w u) := fun E E' ε l q => h _ _ ε (l.le_nx fun ε' q => k _ _ _ l q) q
theorem dss_nil : DSs X κ fr [] sNil := ⟨fun g _ _ => pss_nil.imp fun D σ H ⟨O, ε, A, q⟩ => q σ H O A, fun E E' ε l q => l.nx _ q⟩
theorem seq_imp {g : Gx} {w u : WS} (h : MonoS w) (k : MonoS u) {D : Ends} {σ : L2.St} {H : Hp} (q : rdS g (sSeq w u) D σ H) : tSeq (rdS g w) (rdS g u) D σ H := by
  obtain ⟨O, ε, A, q⟩ := q
  exact ⟨O, ε, A, h { ends g D with nx := u (ends g D) } _ ε ⟨fun ε' q σ' H' O' A' => ⟨O', ε', A', q⟩, fun _ _ z => z, fun _ z => z, fun _ z => z⟩ q⟩
theorem dss_cons {w u : WS} (h : DS X κ fr st w) (k : DSs X κ fr rest u) : DSs X κ fr (st :: rest) (sSeq w u) :=
  ⟨fun g hg hf => (pss_cons (h.ps g hg hf) (k.ps g hg hf)).imp fun D σ H q => seq_imp h.mono k.mono q, h.mono.seq k.mono⟩
theorem dss_one {w : WS} (h : DS X κ fr st w) : DSs X κ fr [st] w := ⟨fun g hg hf => pss_one (h.ps g hg hf), h.mono⟩
def sSet (i : Nat) (w : WE) : WS := fun E ε => w ε fun d ε' => E.nx (ε'.set i (some d))
theorem sSet_mono {i : Nat} {w : WE} (m : Mono w) : MonoS (sSet i w) := fun E E' ε l q => m _ _ _ (fun d ε' q => l.nx _ q) q
theorem set_imp {g : Gx} {i : Nat} {w : WE} (m : Mono w) (hk : g.κ[i]? = some .val) {D : Ends} {σ : L2.St} {H : Hp} (q : rdS g (sSet i w) D σ H) : tAsg (rdE g w) (gName i) D σ H := by
  obtain ⟨O, ε, A, q⟩ := q
  exact ⟨O, ε, A, m _ _ _ (fun d ε' q v H' O' A' x r => q _ H' O' (A'.set hk r)) q⟩
theorem setF_imp {g : Gx} {i : Nat} {w : WE} (m : Mono w) (hk : g.κ[i]? = some .own) {D : Ends} {σ : L2.St} {H : Hp} (q : rdS g (sSet i w) D σ H) : tAsg (rdF g w) (gName i) D σ H := by
  obtain ⟨O, ε, A, q⟩ := q
  exact ⟨O, ε, A, m _ _ _ (fun d ε' q p H' O' A' x hp np ow => q _ H' O' (A'.setOwn hk hp (A.n0 np) (A.unown (A.nh np)) ow)) q⟩
theorem ds_set {i : Nat} {x : Str} {w : WE} {pos' : Pos} (hN : X.N.Nodup) (h : DE X κ e w) (hk : κ[i]? = some .val := by rfl) (hi : X.N[i]? = some x := by rfl) (hx : Loc X.env.scope x := by first | exact Or.inl rfl | exact Or.inr rfl) (hs : swapsWith e (some (.Name x pos')) pos.line X.env = pure false := by rfl) (hf : X.fn x = true ∨ X.env.scope.names.lookup x = some .local := by first | exact .inl rfl | exact .inr rfl) :
    DS X κ fr (.Assign [.Name x pos'] e pos) (sSet i w) :=
  ⟨fun g hg _ => (ps_set hN hi hx (h.pe g hg) hs hf).imp fun D σ H q => set_imp h.mono (by rw [hg]; exact hk) q, sSet_mono h.mono⟩
theorem ds_setF {i : Nat} {x : Str} {w : WE} {pos' : Pos} (hN : X.N.Nodup) (h : DF X κ e w) (hk : κ[i]? = some .own := by rfl) (hi : X.N[i]? = some x := by rfl) (hx : Loc X.env.scope x := by first | exact Or.inl rfl | exact Or.inr rfl) (hs : swapsWith e (some (.Name x pos')) pos.line X.env = pure false := by rfl) (hf : X.fn x = true ∨ X.env.scope.names.lookup x = some .local := by first | exact .inl rfl | exact .inr rfl) :
    DS X κ fr (.Assign [.Name x pos'] e pos) (sSet i w) :=
  ⟨fun g hg _ => (ps_set hN hi hx (h.pe g hg) hs hf).imp fun D σ H q => setF_imp h.mono (by rw [hg]; exact hk) q, sSet_mono h.mono⟩
def sDo (w : WE) : WS := fun E ε => w ε fun _ ε' => E.nx ε'
theorem ds_expr {w : WE} (h : DE X κ e w) (hs : swapsWith e none pos.line X.env = pure false := by rfl) : DS X κ fr (.Expr e pos) (sDo w) :=
  ⟨fun g hg _ => (ps_expr (h.pe g hg) hs).imp fun D σ H ⟨O, ε, A, q⟩ => ⟨O, ε, A, h.mono _ _ _ (fun d ε' q v H' O' A' x r => q σ H' O' A') q⟩, fun E E' ε l q => h.mono _ _ _ (fun d ε' q => l.nx _ q) q⟩
def sRet (w : WE) : WS := fun E ε => w ε fun d ε' => E.rt d ε'
theorem sRet_mono {w : WE} (m : Mono w) : MonoS (sRet w) := fun E E' ε l q => m _ _ _ (fun d ε' q => l.rt _ _ q) q
theorem ds_ret {w : WE} (h : DE X κ e w) : DS X κ false (.Return (some e) pos) (sRet w) :=
  ⟨fun g hg hf => (ps_ret (h.pe g hg)).imp fun D σ H ⟨O, ε, A, q⟩ => ⟨O, ε, A, h.mono _ _ _ (fun d ε' q v H' O' A' x r => q v H' σ O' A' (by unfold RetOk; rw [hf, if_neg Bool.false_ne_true]; exact Rp.anti A'.sub r)) q⟩, sRet_mono h.mono⟩
theorem ow_add {H : Hp} {O O0 : OS} {d : D} {p : Addr} (hp : O p) (hs : ∀ a, O0 a → O a) (r : Ow H O d (.ref p)) : Ow H (OS.add O0 p) d (.ref p) := by
  have w : ∀ a, OS.add O0 p a → O a := fun a z => z.elim (fun e => e ▸ hp) (hs a)
  match d, r with
  | .list _, ⟨a, xs, e, n, r, q⟩ => exact ⟨a, xs, e, by cases e; exact .inl rfl, r, RpL.anti w q⟩
  | .dict _, ⟨a, e, n, .inl ⟨kvs, r, q⟩⟩ => exact ⟨a, e, by cases e; exact .inl rfl, .inl ⟨kvs, r, RpK.ext (fun _ _ e _ => e) (fun a z => .inl (w a z)) q⟩⟩
  | .dict _, ⟨a, e, n, .inr ⟨kvs, r, q⟩⟩ => exact ⟨a, e, by cases e; exact .inl rfl, .inr ⟨kvs, r, RpT.ext (fun _ _ e _ => e) (fun a z => .inl (w a z)) q⟩⟩
/-- a new thing is handed back -/
theorem ds_retF {w : WE} (h : DF X κ e w) : DS X κ true (.Return (some e) pos) (sRet w) :=
  ⟨fun g hg hf => (ps_ret (h.pe g hg)).imp fun D σ H ⟨O, ε, A, q⟩ => ⟨O, ε, A, h.mono _ _ _ (fun d ε' q p H' O' A' x hp np ow => q (.ref p) H' σ O' A' (by
    unfold RetOk; rw [hf, if_pos rfl]; exact ⟨p, rfl, hp, A.n0 np, ow_add hp A'.sub ow⟩)) q⟩, sRet_mono h.mono⟩
def sRetN : WS := fun E ε => E.rt .none ε
theorem ds_retN : DS X κ false (.Return none pos) sRetN :=
  ⟨fun g hg hf => ps_retN.imp fun D σ H ⟨O, ε, A, q⟩ => q .non H σ O A (by unfold RetOk; rw [hf, if_neg Bool.false_ne_true]; rfl), fun E E' ε l q => l.rt _ _ q⟩
/-- an own list or dict is handed back: as a clean value, as a new thing -/
def sRetO (i : Nat) : WS := fun E ε => ∃ d, ε[i]? = some (some d) ∧ E.rt d ε
theorem own_ret {g : Gx} {O : OS} {H : Hp} {σ : L2.St} {ε : En} (A : Abs g O H σ ε) {i : Nat} {d : D} (hk : g.κ[i]? = some .own) (e : ε[i]? = some (some d)) : ∃ p, σ[i]? = some (some (.ref p)) ∧ O p ∧ g.H0 p = none ∧ Ow H O d (.ref p) := by
  obtain ⟨v, k, e1, e2, s⟩ := A.slot i d e
  rw [hk] at e2
  cases e2
  have s : Ow H O d v := s
  obtain ⟨p, rfl, hp⟩ : ∃ p, v = .ref p ∧ O p := by
    match d, s with
    | .list _, ⟨a, xs, e, n, _⟩ => exact ⟨a, e, n⟩
    | .dict _, ⟨a, e, n, _⟩ => exact ⟨a, e, n⟩
  exact ⟨p, e1, hp, A.new i p hk e1, s⟩
theorem ds_retO {i : Nat} {x : Str} {npos : Pos} (hk : κ[i]? = some .own := by rfl) (hN : X.N[i]? = some x := by rfl) (hv : Vis X.env.scope x := by first | exact Or.inl rfl | exact Or.inr (Or.inl rfl) | exact Or.inr (Or.inr rfl)) (hd : (x == ("__debug__" : Str)) = false := by decide)
    (hcd : (x == ("__classdict__" : Str)) = false := by decide) : DS X κ fr (.Return (some (.Name x npos)) pos) (sRetO i) :=
  ⟨fun g hg hf => (ps_ret (pe_var hN hv hd hcd)).imp fun D σ H ⟨O, ε, A, d, e, q⟩ => by
    obtain ⟨p, e1, hp, n0, ow⟩ := own_ret A (by rw [hg]; exact hk) e
    refine ⟨.ref p, e1, q (.ref p) H σ O A ?_⟩
    unfold RetOk
    rw [hf]
    have ow' := ow_add hp A.sub ow
    cases fr with
    | true => exact ⟨p, rfl, hp, n0, ow'⟩
    | false =>
      refine Nb.rp (Nb.anti (fun _ z => .inr z) ow'.nb) fun a e z => ?_
      cases e
      exact A.has0 p z n0, fun E E' ε l ⟨d, e, q⟩ => ⟨d, e, l.rt _ _ q⟩⟩
def sIf (t : WT) (w u : WS) : WS := fun E ε => t ε fun b ε' => if b = true then w E ε' else u E ε'
theorem ds_if {c : Expr} {a b : List Stmt} {t : WT} {w u : WS} (ht : DT X κ c t) (h : DSs X κ fr a w) (k : DSs X κ fr b u) : DS X κ fr (.If c a b pos) (sIf t w u) :=
  ⟨fun g hg hf => (ps_if (ht.pt g hg) (h.ps g hg hf) (k.ps g hg hf)).imp fun D σ H ⟨O, ε, A, q⟩ => ⟨O, ε, A, ht.mono _ _ _ (fun b ε' q H' O' A' x => by
    cases b with
    | true => exact ⟨O', ε', A', q⟩
    | false => exact ⟨O', ε', A', q⟩) q⟩, fun E E' ε l q => ht.mono _ _ _ (fun b ε' q => by
      cases b with
      | true => exact h.mono _ _ _ l q
      | false => exact k.mono _ _ _ l q) q⟩
def sBrk : WS := fun E ε => E.bk ε
def sCnt : WS := fun E ε => E.ct ε
theorem ds_break : DS X κ fr (.Break pos) sBrk := ⟨fun g _ _ => ps_break.imp fun D σ H ⟨O, ε, A, q⟩ => q σ H O A, fun E E' ε l q => l.bk _ q⟩
theorem ds_continue : DS X κ fr (.Continue pos) sCnt := ⟨fun g _ _ => ps_continue.imp fun D σ H ⟨O, ε, A, q⟩ => q σ H O A, fun E E' ε l q => l.ct _ q⟩
theorem ds_pass : DS X κ fr (.Pass pos) sNil := ⟨fun g _ _ => ps_pass.imp fun D σ H ⟨O, ε, A, q⟩ => q σ H O A, fun E E' ε l q => l.nx _ q⟩
theorem ds_doc {x j pos'} : DS X κ fr (.Expr (.Constant (.str x) j pos) pos') sNil := ⟨fun g _ _ => ps_doc.imp fun D σ H ⟨O, ε, A, q⟩ => q σ H O A, fun E E' ε l q => l.nx _ q⟩
/-! ### while -/
def whGo (t : WT) (w : WS) (E : WEnds) : Nat → En → Prop
  | 0, _ => False
  | n + 1, ε => t ε fun b ε' => if b = true then w { nx := whGo t w E n, rt := E.rt, bk := E.nx, ct := whGo t w E n } ε' else E.nx ε'
def sWhile (t : WT) (w : WS) : WS := fun E ε => ∃ n, whGo t w E n ε
theorem whGo_mono {t : WT} {w : WS} (mt : MonoT t) (m : MonoS w) {E E' : WEnds} (l : E.le E') : ∀ (n : Nat) (ε : En), whGo t w E n ε → whGo t w E' n ε
  | 0, _, h => h
  | n + 1, ε, h => mt _ _ _ (fun b ε' q => by
    cases b with
    | true => exact m { nx := whGo t w E n, rt := E.rt, bk := E.nx, ct := whGo t w E n } _ _ ⟨whGo_mono mt m l n, l.rt, l.nx, whGo_mono mt m l n⟩ q
    | false => exact l.nx _ q) h
theorem ds_while {c : Expr} {body : List Stmt} {t : WT} {w : WS} (hp : PassesOwn (model X.prog X.w) X.A X.env X.xe) (ht : DT X κ c t) (h : DSs X κ fr body w) : DS X κ fr (.While c body [] pos) (sWhile t w) :=
  ⟨fun g hg hf => (ps_while hp (ht.pt g hg) (h.ps g hg hf)).imp fun D σ H ⟨O, ε, A, n, q⟩ => by
    refine ⟨fun m σ H => ∃ O ε, Abs g O H σ ε ∧ whGo t w (ends g D) m ε, ⟨n, O, ε, A, q⟩, ?_⟩
    rintro m σ H ⟨O, ε, A, q⟩
    cases m with
    | zero => exact q.elim
    | succ m =>
      refine ⟨O, ε, A, ht.mono _ _ _ (fun b ε' q H' O' A' x => ?_) q⟩
      cases b with
      | false => exact q σ H' O' A'
      | true =>
        have nxt : ∀ ε2, whGo t w (ends g D) m ε2 → ∀ σ2 H2 O2, Abs g O2 H2 σ2 ε2 → ∃ O ε, Abs g O H2 σ2 ε ∧ whGo t w (ends g D) m ε := fun ε2 z σ2 H2 O2 A2 => ⟨O2, ε2, A2, z⟩
        exact ⟨fun σ' H' => ∃ O ε, Abs g O H' σ' ε ∧ whGo t w (ends g D) m ε, fun σ' H' z => ⟨m, Nat.lt_succ_self m, z⟩, O', ε', A', h.mono { nx := whGo t w (ends g D) m, rt := (ends g D).rt, bk := (ends g D).nx, ct := whGo t w (ends g D) m } _ _ ⟨nxt, fun _ _ z => z, fun _ z => z, nxt⟩ q⟩,
  fun E E' ε l ⟨n, q⟩ => ⟨n, whGo_mono ht.mono h.mono l n ε q⟩⟩
end
end DL

namespace DL
open PySem PySem.Spec L2

/-! ### targets -/
inductive Tg where
  | nm (i : Nat)
  | tup (ts : List Tg)
mutual
def bindD : Tg → D → En → Option En
  | .nm i, d, ε => some (ε.set i (some d))
  | .tup ts, d, ε => match d with
    | .tuple ds => bindL ts ds ε
    | _ => none
def bindL : List Tg → List D → En → Option En
  | [], ds, ε => match ds with
    | [] => some ε
    | _ => none
  | t :: ts, ds, ε => match ds with
    | [] => none
    | d :: r => (bindD t d ε).bind fun ε' => bindL ts r ε'
end
mutual
def slots : Tg → List Nat
  | .nm i => [i]
  | .tup ts => slotsL ts
def slotsL : List Tg → List Nat
  | [] => []
  | t :: ts => slots t ++ slotsL ts
end
def rdG (g : Gx) (t : Tg) : TG := fun v σ H Q => ∃ O ε d ε', Abs g O H σ ε ∧ Rp H O d v ∧ bindD t d ε = some ε' ∧ ∀ σ', Abs g O H σ' ε' → (∀ j, j ∉ slots t → σ'[j]? = σ[j]?) → σ'.length = σ.length → Q σ' H
def rdGs (g : Gx) (ts : List Tg) : TGs := fun vs σ H Q => ∃ O ε ds ε', Abs g O H σ ε ∧ RpL H O ds vs ∧ bindL ts ds ε = some ε' ∧ ∀ σ', Abs g O H σ' ε' → (∀ j, j ∉ slotsL ts → σ'[j]? = σ[j]?) → σ'.length = σ.length → Q σ' H
structure DG (X : Cx) (κ : List Kd) (tg : Expr) (t : Tg) : Prop where
  pg : ∀ g, g.κ = κ → PG X tg (rdG g t)
structure DGs (X : Cx) (κ : List Kd) (tg : List Expr) (t : List Tg) : Prop where
  pg : ∀ g, g.κ = κ → PGs X tg (rdGs g t)
theorem _root_.L2.PG.imp {X : Cx} {e : Expr} {t t' : TG} (h : PG X e t) (k : ∀ v σ H Q, t' v σ H Q → t v σ H Q) : PG X e t' := ⟨fun pins s σ H v u Q I r q => h.run pins s σ H v u Q I r (k _ _ _ _ q)⟩
theorem _root_.L2.PGs.imp {X : Cx} {e : List Expr} {t t' : TGs} (h : PGs X e t) (k : ∀ v σ H Q, t' v σ H Q → t v σ H Q) : PGs X e t' := ⟨fun pins s σ H v u Q I r q => h.run pins s σ H v u Q I r (k _ _ _ _ q)⟩
section
variable {X : Cx} {κ : List Kd} {fr : Bool} {pos : Pos} {e : Expr} {es : List Expr}
theorem dg_nm (i : Nat) {x : Str} (hN : X.N.Nodup) (hk : κ[i]? = some .val := by rfl) (hi : X.N[i]? = some x := by rfl) (hx : Loc X.env.scope x := by first | exact Or.inl rfl | exact Or.inr rfl) (hf : X.fn x = true ∨ X.env.scope.names.lookup x = some .local := by first | exact .inl rfl | exact .inr rfl) :
    DG X κ (.Name x pos) (.nm i) :=
  ⟨fun g hg => (pg_name hN hi hx hf).imp fun v σ H Q ⟨O, ε, d, ε', A, r, b, q⟩ => by
    have e : some (ε.set i (some d)) = some ε' := b
    cases e
    refine q _ (A.set (by rw [hg]; exact hk) r) (fun j hj => ?_) (List.length_set ..)
    exact get_set_ne fun e => hj (by rw [e]; exact List.mem_singleton_self _)⟩
theorem dgs_nil : DGs X κ [] [] := ⟨fun g _ => pgs_nil.imp fun v σ H Q ⟨O, ε, ds, ε', A, r, b, q⟩ => by
  cases ds with
  | nil =>
    have e : v = [] := r
    have e2 : some ε = some ε' := b
    cases e2
    exact ⟨e, q σ A (fun _ _ => rfl) rfl⟩
  | cons d ds => cases (show none = some ε' from b)⟩
theorem dgs_cons {t : Tg} {ts : List Tg} (h : DG X κ e t) (k : DGs X κ es ts) (hs : (assignEach (e :: es) X.env).map (·.2) = assign e X.env :: (assignEach es X.env).map (·.2) := by rfl) : DGs X κ (e :: es) (t :: ts) :=
  ⟨fun g hg => (pgs_cons (h.pg g hg) (k.pg g hg) hs).imp fun vs σ H Q ⟨O, ε, ds, ε', A, r, b, q⟩ => by
    cases ds with
    | nil => cases (show none = some ε' from b)
    | cons d ds =>
      obtain ⟨v, vr, e1, r1, r2⟩ := r
      have b' : (bindD t d ε).bind (fun ε' => bindL ts ds ε') = some ε' := b
      obtain ⟨ε1, b1, b2⟩ := Option.bind_eq_some_iff.mp b'
      exact ⟨v, vr, e1, O, ε, d, ε1, A, r1, b1, fun σ1 A1 h1 l1 => ⟨O, ε1, ds, ε', A1, r2, b2, fun σ2 A2 h2 l2 => q σ2 A2 (fun j hj => by
        have hj' : j ∉ slots t ∧ j ∉ slotsL ts := by
          rw [← not_or]
          exact fun z => hj (List.mem_append.mpr z)
        rw [h2 j hj'.2, h1 j hj'.1]) (l2.trans l1)⟩⟩⟩
theorem dg_tup {k : Nat} {ts : List Tg} (hc : X.calm = true) (h : DGs X κ es ts) (hn : (assignEach es X.env).length = ts.length := by rfl) (hst : (assignEach es X.env).findIdx? (·.1) = none := by rfl) : DG X κ (.Tuple es k pos) (.tup ts) :=
  ⟨fun g hg => (pg_tup hc (h.pg g hg) hn hst).imp fun v σ H Q ⟨O, ε, d, ε', A, r, b, q⟩ => by
    have len : ∀ {ts : List Tg} {ds : List D} {ε ε' : En}, bindL ts ds ε = some ε' → ds.length = ts.length := by
      intro ts
      induction ts with
      | nil =>
        intro ds ε ε' h
        cases ds with
        | nil => rfl
        | cons d ds => cases (show none = some ε' from h)
      | cons t ts ih =>
        intro ds ε ε' h
        cases ds with
        | nil => cases (show none = some ε' from h)
        | cons d ds =>
          obtain ⟨ε1, _, b2⟩ := Option.bind_eq_some_iff.mp (show (bindD t d ε).bind (fun ε' => bindL ts ds ε') = some ε' from h)
          rw [List.length_cons, List.length_cons, ih b2]
    cases d with
    | tuple ds =>
      obtain ⟨a, xs, e, n, r1, r2⟩ := r
      have b' : bindL ts ds ε = some ε' := b
      exact ⟨a, xs, e, SqT.of r1, by rw [r2.length, len b'], O, ε, ds, ε', A, r2, b', q⟩
    | none => cases (show none = some ε' from b)
    | bool _ => cases (show none = some ε' from b)
    | int _ => cases (show none = some ε' from b)
    | str _ => cases (show none = some ε' from b)
    | list _ => cases (show none = some ε' from b)
    | dict _ => cases (show none = some ε' from b)⟩
/-- a, b = e -/
def sUnp (t : Tg) (w : WE) : WS := fun E ε => w ε fun d ε' => ∃ ε2, bindD t d ε' = some ε2 ∧ E.nx ε2
theorem ds_unp {tg : Expr} {t : Tg} {w : WE} (h : DE X κ e w) (hg : DG X κ tg t) (hs : swapsWithSole [tg] e pos.line X.env = pure false := by rfl) (hw : swappedStores [tg] e X.env = pure none := by rfl)
    (h1 : (assignEach [tg] X.env).map (·.2) = [assign tg X.env] := by rfl) : DS X κ fr (.Assign [tg] e pos) (sUnp t w) :=
  ⟨fun g hg' _ => (ps_asg (h.pe g hg') (hg.pg g hg') hs hw h1).imp fun D σ H ⟨O, ε, A, q⟩ => ⟨O, ε, A, h.mono _ _ _ (fun d ε' ⟨ε2, b, q⟩ v H' O' A' x r => ⟨O', ε', d, ε2, A', r, b, fun σ' A2 _ _ => q σ' H' O' A2⟩) q⟩,
    fun E E' ε l q => h.mono _ _ _ (fun d ε' ⟨ε2, b, q⟩ => ⟨ε2, b, l.nx _ q⟩) q⟩

/-! ### a, b = x, y -/
/-- values that are to be stored: clean ones, new ones (their addresses fulfil F, none twice) -/
def PL (κ : List Kd) (H0 : Hp) (H : Hp) (O : OS) : (Addr → Prop) → List Nat → List D → List V → Prop
  | _, [], ds, vs => ds = [] ∧ vs = []
  | F, i :: is, ds, vs => ∃ d r v vr, ds = d :: r ∧ vs = v :: vr ∧ ((κ[i]? = some .val ∧ Rp H O d v ∧ PL κ H0 H O F is r vr) ∨
      ∃ p, κ[i]? = some .own ∧ v = .ref p ∧ O p ∧ H0 p = none ∧ F p ∧ Ow H O d v ∧ PL κ H0 H O (fun q => F q ∧ q ≠ p) is r vr)
theorem PL.mono {κ : List Kd} {H0 H : Hp} {O : OS} : ∀ {is : List Nat} {F G : Addr → Prop} {ds : List D} {vs : List V}, (∀ p, F p → G p) → PL κ H0 H O F is ds vs → PL κ H0 H O G is ds vs
  | [], _, _, _, _, _, h => h
  | i :: is, F, G, _, _, k, ⟨d, r, v, vr, e1, e2, h⟩ => ⟨d, r, v, vr, e1, e2, h.imp (fun ⟨a, b, c⟩ => ⟨a, b, PL.mono k c⟩) fun ⟨p, a, b, c, n, f, w, z⟩ => ⟨p, a, b, c, n, k p f, w, PL.mono (fun q hq => ⟨k q hq.1, hq.2⟩) z⟩⟩
def setL {α : Type} : List Nat → List α → List (Option α) → List (Option α)
  | i :: is, d :: ds, ε => setL is ds (ε.set i (some d))
  | _, _, ε => ε
theorem store_all {g : Gx} {O : OS} {H : Hp} : ∀ {is : List Nat} {F : Addr → Prop} {ds : List D} {vs : List V} {σ : L2.St} {ε : En}, Abs g O H σ ε → (∀ p, F p → ¬ OwnAt g.κ σ p) → PL g.κ g.H0 H O F is ds vs → Abs g O H (setL is vs σ) (setL is ds ε)
  | [], _, _, _, _, _, A, _, ⟨e1, e2⟩ => by
    subst e1 e2
    exact A
  | i :: is, F, _, _, σ, ε, A, hF, ⟨d, r, v, vr, e1, e2, .inl ⟨hk, hr, z⟩⟩ => by
    subst e1 e2
    refine store_all (is := is) (A.set hk hr) (fun p hp ⟨j, hj, e⟩ => hF p hp ⟨j, hj, ?_⟩) z
    rw [get_set_ne (fun q => by subst q; rcases hj with h | h <;> (rw [hk] at h; cases h))] at e
    exact e
  | i :: is, F, _, _, σ, ε, A, hF, ⟨d, r, v, vr, e1, e2, .inr ⟨p, hk, ev, hp, n0, f, w, z⟩⟩ => by
    subst e1 e2 ev
    refine store_all (is := is) (A.setOwn hk hp n0 (hF p f) w) (fun q hq ⟨j, hj, e⟩ => ?_) z
    by_cases hij : i = j
    · subst hij
      rw [List.getElem?_set_self (A.lt hk).1] at e
      cases e
      exact hq.2 rfl
    · rw [get_set_ne hij] at e
      exact hF q hq.1 ⟨j, hj, e⟩
def rdM (g : Gx) (is : List Nat) (ws : List WE) : TA := fun σ H Q => ∃ O ε, Abs g O H σ ε ∧ cEv ws ε fun ds ε' => ∀ vs H' O', Abs g O' H' σ ε' → Ext g.κ σ O H O' H' → PL g.κ g.H0 H' O' (fun p => H p = none) is ds vs → Q vs H'
structure DM (X : Cx) (κ : List Kd) (is : List Nat) (es : List Expr) (ws : List WE) : Prop where
  pa : ∀ g, g.κ = κ → PA X es (rdM g is ws)
  mono : MonoC ws
theorem PL.ext {g : Gx} {O O' : OS} {H H' : Hp} {σ : L2.St} {ε : En} (A : Abs g O H σ ε) (x : Ext g.κ σ O H O' H') : ∀ {is : List Nat} {F : Addr → Prop} {ds : List D} {vs : List V}, (∀ p, F p → ¬ OwnAt g.κ σ p) → PL g.κ g.H0 H O F is ds vs → PL g.κ g.H0 H' O' F is ds vs
  | [], _, _, _, _, h => h
  | i :: is, F, _, _, k, ⟨d, r, v, vr, e1, e2, h⟩ => ⟨d, r, v, vr, e1, e2, h.imp (fun ⟨a, b, c⟩ => ⟨a, A.rp x b, PL.ext A x k c⟩) fun ⟨p, a, b, c, n, f, w, z⟩ =>
      ⟨p, a, b, x.mono p c, n, f, Ow.ext (fun a o e n => x.keep a o e (A.unown n)) x.own (fun a o e1 e2 => x.keep a o e2 (by rw [b] at e1; cases e1; exact k p f)) x.mono w, PL.ext A x (fun q hq => k q hq.1) z⟩⟩
theorem dm_nil : DM X κ [] [] [] := ⟨fun g _ => pa_nil.imp fun σ H Q ⟨O, ε, A, h⟩ => h [] H O A .refl ⟨rfl, rfl⟩, fun _ h => nomatch h⟩
theorem dm_val {i : Nat} {is : List Nat} {w : WE} {ws : List WE} (h : DE X κ e w) (k : DM X κ is es ws) (hk : κ[i]? = some .val := by rfl) (hs : notStar e = true := by rfl) : DM X κ (i :: is) (e :: es) (w :: ws) :=
  ⟨fun g hg => (pa_cons (h.pe g hg) (k.pa g hg) (st_cons hs)).imp fun σ H Q ⟨O, ε, A, q⟩ => ⟨O, ε, A, h.mono _ _ _ (fun d ε1 z v H1 O1 A1 x1 r1 => ⟨O1, ε1, A1, cEv_mono k.mono (fun ds ε2 z vs H2 O2 A2 x2 r2 =>
      z _ H2 O2 A2 (x1.trans x2) ⟨d, ds, v, vs, rfl, rfl, .inl ⟨by rw [hg]; exact hk, A1.rp x2 r1, PL.mono (fun p hp => Classical.byContradiction fun n => x1.some p n hp) r2⟩⟩) z⟩) q⟩,
    fun o ho => (List.mem_cons.mp ho).elim (fun e => e ▸ h.mono) fun ho => k.mono o ho⟩
theorem dm_own {i : Nat} {is : List Nat} {w : WE} {ws : List WE} (h : DF X κ e w) (k : DM X κ is es ws) (hk : κ[i]? = some .own := by rfl) (hs : notStar e = true := by rfl) : DM X κ (i :: is) (e :: es) (w :: ws) :=
  ⟨fun g hg => (pa_cons (h.pe g hg) (k.pa g hg) (st_cons hs)).imp fun σ H Q ⟨O, ε, A, q⟩ => ⟨O, ε, A, h.mono _ _ _ (fun d ε1 z p H1 O1 A1 x1 hp np ow => ⟨O1, ε1, A1, cEv_mono k.mono (fun ds ε2 z vs H2 O2 A2 x2 r2 => by
      have nown : ¬ OwnAt g.κ σ p := A.unown (A.nh np)
      refine z _ H2 O2 A2 (x1.trans x2) ⟨d, ds, _, vs, rfl, rfl, .inr ⟨p, by rw [hg]; exact hk, rfl, x2.mono p hp, A.n0 np, np, ?_, PL.mono (fun q hq => ⟨Classical.byContradiction fun n => x1.some q n hq, fun e => ?_⟩) r2⟩⟩
      · exact Ow.ext (fun a o e n => x2.keep a o e (A1.unown n)) x2.own (fun a o e1 e2 => x2.keep a o e2 (by cases e1; exact nown)) x2.mono ow
      · subst e
        exact A1.has q hp hq) z⟩) q⟩,
    fun o ho => (List.mem_cons.mp ho).elim (fun e => e ▸ h.mono) fun ho => k.mono o ho⟩
theorem PL.length {κ : List Kd} {H0 H : Hp} {O : OS} : ∀ {is : List Nat} {F : Addr → Prop} {ds : List D} {vs : List V}, PL κ H0 H O F is ds vs → vs.length = is.length
  | [], _, _, _, ⟨_, e⟩ => by rw [e]; rfl
  | i :: is, _, _, _, ⟨d, r, v, vr, e1, e2, h⟩ => by
    rw [e2, List.length_cons, List.length_cons]
    rcases h with ⟨_, _, z⟩ | ⟨_, _, _, _, _, _, _, z⟩
    · rw [PL.length z]
    · rw [PL.length z]
def sPar (is : List Nat) (ws : List WE) : WS := fun E ε => cEv ws ε fun ds ε' => E.nx (setL is ds ε')
theorem sPar_mono {is : List Nat} {ws : List WE} (m : MonoC ws) : MonoS (sPar is ws) := fun E E' ε l q => cEv_mono m (fun ds ε' q => l.nx _ q) q
theorem par_imp {g : Gx} {is : List Nat} {ws : List WE} (m : MonoC ws) {D : Ends} {σ : L2.St} {H : Hp} (q : rdS g (sPar is ws) D σ H) : rdM g is ws σ H fun vs H' => vs.length = is.length ∧ D.nx (setL is vs σ) H' ∧ ∀ o p, H' p = none → D.nx (setL is vs σ) (upd H' p o) := by
  obtain ⟨O, ε, A, q⟩ := q
  refine ⟨O, ε, A, cEv_mono m (fun ds ε' q vs H' O' A' x pl => ⟨pl.length, ?_, fun o p np => ?_⟩) q⟩
  · exact q _ H' O' (store_all A' (fun p hp => A.unown (A.nh hp)) pl)
  · have s := same_upd (o := o) np
    have A2 := A'.same s
    exact q _ _ O' (store_all A2 (fun p hp => A.unown (A.nh hp)) (PL.ext A' (.same s) (fun p hp => A.unown (A.nh hp)) pl))
theorem ds_par2 {i j : Nat} {x y : Str} {a b : Expr} {ws : List WE} {px py pt : Pos} {kt k2 pt2} (hc : X.calm = true) (hN : X.N.Nodup) (h : DM X κ [i, j] [a, b] ws)
    (hw : swappedStores [.Tuple [.Name x px, .Name y py] kt pt] (.Tuple [a, b] k2 pt2) X.env = pure (some [x, y]) := by rfl) (hi : X.N[i]? = some x := by rfl) (hj : X.N[j]? = some y := by rfl) (hij : i ≠ j := by decide)
    (hx : X.env.scope.names.lookup x = some .local := by rfl) (hy : X.env.scope.names.lookup y = some .local := by rfl)
    (hs : swapsWithSole [.Tuple [.Name x px, .Name y py] kt pt] (.Tuple [a, b] k2 pt2) pos.line X.env = pure false := by rfl) :
    DS X κ fr (.Assign [.Tuple [.Name x px, .Name y py] kt pt] (.Tuple [a, b] k2 pt2) pos) (sPar [i, j] ws) :=
  ⟨fun g hg _ => (ps_par hc hN hi hj hij hx hy (h.pa g hg) hw hs).imp fun D σ H q => by
    obtain ⟨O, ε, A, q⟩ := par_imp h.mono q
    refine ⟨O, ε, A, cEv_mono h.mono (fun ds ε' q vs H' O' A' x pl => ?_) q⟩
    obtain ⟨hl, q, _⟩ := q vs H' O' A' x pl
    match vs, hl with
    | [v, w], _ => exact ⟨v, w, rfl, q⟩, sPar_mono h.mono⟩
theorem ds_par3 {i j l : Nat} {x y z : Str} {a b c : Expr} {ws : List WE} {px py pz pt : Pos} {kt k2 pt2} (hc : X.calm = true) (hN : X.N.Nodup) (h : DM X κ [i, j, l] [a, b, c] ws)
    (hw : swappedStores [.Tuple [.Name x px, .Name y py, .Name z pz] kt pt] (.Tuple [a, b, c] k2 pt2) X.env = pure (some [x, y, z]) := by rfl) (hi : X.N[i]? = some x := by rfl) (hj : X.N[j]? = some y := by rfl) (hl : X.N[l]? = some z := by rfl) (hij : i ≠ j := by decide) (hil : i ≠ l := by decide) (hjl : j ≠ l := by decide)
    (hx : X.env.scope.names.lookup x = some .local := by rfl) (hy : X.env.scope.names.lookup y = some .local := by rfl) (hz : X.env.scope.names.lookup z = some .local := by rfl)
    (hs : swapsWithSole [.Tuple [.Name x px, .Name y py, .Name z pz] kt pt] (.Tuple [a, b, c] k2 pt2) pos.line X.env = pure false := by rfl) :
    DS X κ fr (.Assign [.Tuple [.Name x px, .Name y py, .Name z pz] kt pt] (.Tuple [a, b, c] k2 pt2) pos) (sPar [i, j, l] ws) :=
  ⟨fun g hg _ => (ps_par3 hc hN hi hj hl hij hil hjl hx hy hz (h.pa g hg) hw hs).imp fun D σ H q => by
    obtain ⟨O, ε, A, q⟩ := par_imp h.mono q
    refine ⟨O, ε, A, cEv_mono h.mono (fun ds ε' q vs H' O' A' x pl => ?_) q⟩
    obtain ⟨hl, q, _⟩ := q vs H' O' A' x pl
    match vs, hl with
    | [u, v, w], _ => exact ⟨u, v, w, rfl, q⟩, sPar_mono h.mono⟩
/-- names, stored from the left -/
def gNs : List Nat → TGs := fun is vs σ H Q => vs.length = is.length ∧ Q (setL is vs σ) H
structure NGs (X : Cx) (ts : List Expr) (is : List Nat) : Prop where
  pg : PGs X ts (gNs is)
theorem ngs_nil : NGs X [] [] := ⟨pgs_nil.imp fun v σ H Q ⟨hl, q⟩ => by
  match v, hl with
  | [], _ => exact ⟨rfl, q⟩⟩
theorem ngs_cons {i : Nat} {is : List Nat} {x : Str} {px : Pos} (hN : X.N.Nodup) (k : NGs X es is) (hi : X.N[i]? = some x := by rfl) (hx : Loc X.env.scope x := by first | exact Or.inl rfl | exact Or.inr rfl) (hf : X.fn x = true ∨ X.env.scope.names.lookup x = some .local := by first | exact .inl rfl | exact .inr rfl)
    (hs : (assignEach (.Name x px :: es) X.env).map (·.2) = assign (.Name x px) X.env :: (assignEach es X.env).map (·.2) := by rfl) : NGs X (.Name x px :: es) (i :: is) :=
  ⟨(pgs_cons (pg_name hN hi hx hf) k.pg hs).imp fun vs σ H Q ⟨hl, q⟩ => by
    match vs, hl with
    | v :: vr, hl => exact ⟨v, vr, rfl, Nat.succ.inj hl, q⟩⟩
/-- the same where the tuple is made (more names, or such as are captured) -/
theorem ds_parT {is : List Nat} {ws : List WE} {ts vs : List Expr} {pt pt2 : Pos} {kt k2 : Nat} (hc : X.calm = true) (h : DM X κ is vs ws) (k : NGs X ts is) (hsz : is.length ≤ sizeLine := by decide) (hn : (assignEach ts X.env).length = is.length := by rfl) (hst : (assignEach ts X.env).findIdx? (·.1) = none := by rfl)
    (hs : swapsWithSole [.Tuple ts kt pt] (.Tuple vs k2 pt2) pos.line X.env = pure false := by rfl) (hw : swappedStores [.Tuple ts kt pt] (.Tuple vs k2 pt2) X.env = pure none := by rfl) (h1 : (assignEach [.Tuple ts kt pt] X.env).map (·.2) = [assign (.Tuple ts kt pt) X.env] := by rfl) :
    DS X κ fr (.Assign [.Tuple ts kt pt] (.Tuple vs k2 pt2) pos) (sPar is ws) :=
  ⟨fun g hg _ => (ps_asg (pe_tup (h.pa g hg)) (pg_tup hc k.pg hn hst) hs hw h1).imp fun D σ H q => by
    obtain ⟨O, ε, A, q⟩ := par_imp h.mono q
    refine ⟨O, ε, A, cEv_mono h.mono (fun ds ε' q vs H' O' A' x pl => ?_) q⟩
    obtain ⟨hl, _, q⟩ := q vs H' O' A' x pl
    exact ⟨by rw [hl]; exact hsz, fun p np => ⟨p, vs, rfl, SqT.of upd_same, hl, hl, q _ p np⟩⟩, sPar_mono h.mono⟩
end
end DL

namespace DL
open PySem PySem.Spec L2

/-! ### what is walked -/
/-- the items; what must be so at each turn (of the slots' contents) -/
abbrev WI := En → (List D → (En → Prop) → En → Prop) → Prop
def MonoI (w : WI) : Prop := ∀ ε Q Q', (∀ d p ε', Q d p ε' → Q' d p ε') → w ε Q → w ε Q'
abbrev Gx.holds (g : Gx) (hl : List (D × V)) : Gx := { g with hold := hl ++ g.hold }
structure ItOk (g : Gx) (J : It) (sg : L2.St → Prop) (inv : En → Prop) (ds : List D) : Prop where
  go : ∀ (i : Nat) (O : OS) (H : Hp) (σ : L2.St) (ε : En), Abs g O H σ ε → sg σ → inv ε → i < ds.length → J.go i H
  yld : ∀ (i : Nat) (O : OS) (H : Hp) (σ : L2.St) (ε : En) (x : V) (H' : Hp), Abs g O H σ ε → sg σ → inv ε → i < ds.length → J.yld i H x H' → ∃ d, ds[i]? = some d ∧ Same H H' ∧ Rp H' O d x
  stop : ∀ (i : Nat) (O : OS) (H : Hp) (σ : L2.St) (ε : En), Abs g O H σ ε → sg σ → inv ε → ds.length ≤ i → J.stop i H
theorem Abs.unhold {g : Gx} {hl : List (D × V)} {O : OS} {H : Hp} {σ : L2.St} {ε : En} (A : Abs (g.holds hl) O H σ ε) : Abs g O H σ ε :=
  { A with hold := fun p hp => A.hold p (List.mem_append_right _ hp) }
theorem Abs.addHold {g : Gx} {O : OS} {H : Hp} {σ : L2.St} {ε : En} (A : Abs g O H σ ε) {hl : List (D × V)} (h : ∀ p ∈ hl, Rp H O p.1 p.2) : Abs (g.holds hl) O H σ ε :=
  { A with hold := fun p hp => (List.mem_append.mp hp).elim (h p) (A.hold p) }
/-- fl: for a loop (no slot is fixed); else for a comprehension (the slots sl are fixed) -/
def rdI (g : Gx) (sl : List Nat) (wi : WI) : TI := fun σ H R => ∃ O ε, Abs g O H σ ε ∧ wi ε fun ds inv ε' => ∀ J H' O' hl, Abs (g.holds hl) O' H' σ ε' → Ext g.κ σ O H O' H' →
  ItOk (g.holds hl) J (fun σ' => ∀ i ∈ sl, σ'[i]? = σ[i]?) inv ds → R J H'
structure DI (X : Cx) (κ : List Kd) (sl : List Nat) (tg iter : Expr) (wi : WI) : Prop where
  pi : ∀ g, g.κ = κ → PI X tg iter (rdI g sl wi)
  mono : MonoI wi
theorem _root_.L2.PI.imp {X : Cx} {tg e : Expr} {t t' : TI} (h : PI X tg e t) (k : ∀ σ H R, t' σ H R → t σ H R) : PI X tg e t' := ⟨fun pins s σ H R I q => h.run pins s σ H R I (k _ _ _ q)⟩
/-- a change of a thing that was not there -/
theorem Ext.trans' {κ : List Kd} {σ : L2.St} {O O1 : OS} {H H1 : Hp} {p : Addr} {o : HO} (x : Ext κ σ O H O1 H1) (no : ¬ OwnAt κ σ p) (np : H p = none) : Ext κ σ O H O1 (upd H1 p o) :=
  ⟨fun a u e n => by rw [upd_ne (ne_of_none e np)]; exact x.keep a u e n, x.own, x.mono, fun a h => by
    by_cases q : a = p
    · subst q; exact (h np).elim
    · rw [upd_ne q]; exact x.some a h⟩
section
variable {X : Cx} {κ : List Kd} {fr : Bool} {tg e : Expr} {sl : List Nat}
/-- a list or a tuple or a text is walked -/
def iSeq (K : PySem.W.Frag) (tl : TE) : TI := fun σ H R => tl σ H fun x H1 => (∃ a, x = .ref a ∧ (((∃ xs, SqL K H1 a xs) ∧ R (Itl K a) H1) ∨ ((∃ xs, SqT K H1 a xs) ∧ R (Itt K a) H1))) ∨ ∃ z, x = .str z ∧ R (Its z) H1
theorem pi_seq {tl : TE} (hl : PE X e tl) : PI X tg e (iSeq X.K tl) := by
  refine ⟨fun pins s σ H R I h => ?_⟩
  refine thn (hl.run pins s σ H _ I h) fun v s1 ⟨x, H1, I1, r1, q1⟩ => ?_
  rcases q1 with ⟨a, e, q⟩ | ⟨z, e, q⟩
  · subst e
    cases r1
    rcases q with ⟨⟨xs, hq⟩, q⟩ | ⟨⟨xs, hq⟩, q⟩
    · obtain ⟨its, rv, p, hz⟩ := I1.list hq
      refine wpAny_pyIter_list p.isList ?_
      refine ⟨s1.heap.objs.size, [s1.heap.objs.size], _, _, H1, rfl, I1.kept (t' := s1.toks) fun b o e => Heap.get?_push_of_some _ e, turn_list a _, ⟨_, Heap.get?_push_size _ rfl, rfl, rfl⟩, fun b hb => ?_, q⟩
      have e : b = s1.heap.objs.size := by simpa using hb
      subst e
      exact I1.fpOk (Nat.le_refl _) (I1.hok.fresh (Nat.le_refl _))
    · obtain ⟨its, rv, p, hz⟩ := I1.tuple hq
      refine wpAny_pyIter_tuple (show s1.heap.IsTuple a its.toArray from p) ?_
      refine ⟨s1.heap.objs.size, [s1.heap.objs.size], _, _, H1, rfl, I1.kept (t' := s1.toks) fun b o e => Heap.get?_push_of_some _ e, turn_tuple a _, ⟨_, Heap.get?_push_size _ rfl, rfl, rfl⟩, fun b hb => ?_, q⟩
      have e : b = s1.heap.objs.size := by simpa using hb
      subst e
      exact I1.fpOk (Nat.le_refl _) (I1.hok.fresh (Nat.le_refl _))
  · subst e
    obtain ⟨t, rfl⟩ := r1
    cases ha : z.cps.all (· < 128)
    · exact wpAny_pyIter_wide ha (pi_one (tk := s1.toks) I1 _ (turn_str _ z t "str_iterator" (.inr rfl)) ⟨_, Heap.get?_push_size _ rfl, rfl, rfl⟩ q)
    · exact wpAny_pyIter_ascii ha (pi_one (tk := s1.toks) I1 _ (turn_str _ z t "str_ascii_iterator" (.inl rfl)) ⟨_, Heap.get?_push_size _ rfl, rfl, rfl⟩ q)
def signs (z : Str) : List D := z.cps.toList.map fun c => .str ⟨#[c]⟩
def seqD : D → Option (List D)
  | .list ds => some ds
  | .tuple ds => some ds
  | .str z => some (signs z)
  | _ => none
def wSeq (w : WE) : WI := fun ε Q => w ε fun d ε' => ∃ ds, seqD d = some ds ∧ Q ds (fun _ => True) ε'
theorem RpL.at {H : Hp} {O : OS} : ∀ {ds : List D} {vs : List V} {i : Nat} {d : D}, RpL H O ds vs → ds[i]? = some d → ∃ v, vs[i]? = some v ∧ Rp H O d v
  | [], _, _, _, _, h => by simp at h
  | d' :: ds, _, 0, d, ⟨v, r, e, h, q⟩, hd => by
    have e' : d' = d := by simpa using hd
    subst e' e
    exact ⟨v, rfl, h⟩
  | d' :: ds, _, i + 1, d, ⟨v, r, e, h, q⟩, hd => by
    subst e
    obtain ⟨v', e', h'⟩ := RpL.at (i := i) q (by simpa using hd)
    exact ⟨v', by simpa using e', h'⟩
theorem itl_ok {g : Gx} {K : PySem.W.Frag} {a : Addr} {ds : List D} {sg : L2.St → Prop} {inv : En → Prop} (h : ∀ O H σ ε, Abs g O H σ ε → sg σ → inv ε → ∃ xs, H a = some (.lst xs) ∧ RpL H O ds xs) : ItOk g (Itl K a) sg inv ds where
  go := fun i O H σ ε A s v hi => by
    obtain ⟨xs, e, r⟩ := h O H σ ε A s v
    obtain ⟨x, ex, _⟩ := r.at (List.getElem?_eq_getElem hi)
    exact ⟨xs, x, SqL.of e, ex⟩
  yld := fun i O H σ ε x H' A s v hi y => by
    obtain ⟨xs, e, r⟩ := h O H σ ε A s v
    obtain ⟨x', ex, rx⟩ := r.at (List.getElem?_eq_getElem hi)
    obtain ⟨e', y⟩ := y
    subst e'
    have := y xs (SqL.of e)
    rw [ex] at this
    cases this
    exact ⟨_, List.getElem?_eq_getElem hi, Same.refl _, rx⟩
  stop := fun i O H σ ε A s v hi => by
    obtain ⟨xs, e, r⟩ := h O H σ ε A s v
    exact ⟨xs, SqL.of e, by rw [r.length]; exact hi⟩
theorem itt_ok {g : Gx} {K : PySem.W.Frag} {a : Addr} {ds : List D} {sg : L2.St → Prop} {inv : En → Prop} (h : ∀ O H σ ε, Abs g O H σ ε → sg σ → inv ε → ∃ xs, H a = some (.tup xs) ∧ RpL H O ds xs) : ItOk g (Itt K a) sg inv ds where
  go := fun i O H σ ε A s v hi => by
    obtain ⟨xs, e, r⟩ := h O H σ ε A s v
    obtain ⟨x, ex, _⟩ := r.at (List.getElem?_eq_getElem hi)
    exact ⟨xs, x, SqT.of e, ex⟩
  yld := fun i O H σ ε x H' A s v hi y => by
    obtain ⟨xs, e, r⟩ := h O H σ ε A s v
    obtain ⟨x', ex, rx⟩ := r.at (List.getElem?_eq_getElem hi)
    obtain ⟨e', y⟩ := y
    subst e'
    have := y xs (SqT.of e)
    rw [ex] at this
    cases this
    exact ⟨_, List.getElem?_eq_getElem hi, Same.refl _, rx⟩
  stop := fun i O H σ ε A s v hi => by
    obtain ⟨xs, e, r⟩ := h O H σ ε A s v
    exact ⟨xs, SqT.of e, by rw [r.length]; exact hi⟩
theorem its_ok {g : Gx} {z : Str} {sg : L2.St → Prop} {inv : En → Prop} : ItOk g (Its z) sg inv (signs z) where
  go := fun i O H σ ε A s v hi => by
    have hi : i < (z.cps.toList.map fun c => (PyData.str ⟨#[c]⟩ : D)).length := hi
    rw [List.length_map, Array.length_toList] at hi
    exact hi
  yld := fun i O H σ ε x H' A s v hi y => by
    obtain ⟨e, c, ec, ex⟩ := y
    subst e ex
    refine ⟨.str ⟨#[c]⟩, ?_, Same.refl _, rfl⟩
    show (z.cps.toList.map _)[i]? = _
    rw [List.getElem?_map, Array.getElem?_toList, ec]
    rfl
  stop := fun i O H σ ε A s v hi => by
    have hi : (z.cps.toList.map fun c => (PyData.str ⟨#[c]⟩ : D)).length ≤ i := hi
    rw [List.length_map, Array.length_toList] at hi
    exact hi
theorem di_seq {w : WE} (h : DE X κ e w) : DI X κ sl tg e (wSeq w) :=
  ⟨fun g hg => (pi_seq (h.pe g hg)).imp fun σ H R ⟨O, ε, A, q⟩ => ⟨O, ε, A, h.mono _ _ _ (fun d ε' ⟨ds, e, q⟩ v H' O' A' x r => by
    have hold : ∀ p ∈ [(d, v)], Rp H' O' p.1 p.2 := fun p hp => by
      have e : p = (d, v) := by simpa using hp
      rw [e]
      exact r
    have at' : ∀ {O2 H2 σ2 ε2}, Abs (g.holds [(d, v)]) O2 H2 σ2 ε2 → Rp H2 O2 d v := fun A2 => A2.hold (d, v) (List.mem_append_left _ (List.mem_singleton_self _))
    match d, e, r with
    | .list ds', e, ⟨a, xs, ev, n, eh, rl⟩ =>
      have e' : ds' = ds := Option.some.inj e
      subst e' ev
      exact .inl ⟨a, rfl, .inl ⟨⟨xs, SqL.of eh⟩, q _ H' O' [(.list ds', .ref a)] (A'.addHold hold) x (itl_ok fun O2 H2 σ2 ε2 A2 _ _ => by
        obtain ⟨b, ys, eb, nb, hb, rb⟩ := at' A2
        cases eb
        exact ⟨ys, hb, rb⟩)⟩⟩
    | .tuple ds', e, ⟨a, xs, ev, n, eh, rl⟩ =>
      have e' : ds' = ds := Option.some.inj e
      subst e' ev
      exact .inl ⟨a, rfl, .inr ⟨⟨xs, SqT.of eh⟩, q _ H' O' [(.tuple ds', .ref a)] (A'.addHold hold) x (itt_ok fun O2 H2 σ2 ε2 A2 _ _ => by
        obtain ⟨b, ys, eb, nb, hb, rb⟩ := at' A2
        cases eb
        exact ⟨ys, hb, rb⟩)⟩⟩
    | .str z, e, r =>
      have e' : signs z = ds := Option.some.inj e
      have ev : v = .str z := r
      subst e' ev
      exact .inr ⟨z, rfl, q _ H' O' [(.str z, .str z)] (A'.addHold hold) x its_ok⟩) q⟩,
    fun ε Q Q' h' q => h.mono _ _ _ (fun d ε' ⟨ds, e, q⟩ => ⟨ds, e, h' _ _ _ q⟩) q⟩
/-- a name of the def's own list or a borrowed one, in a comprehension: its contents stay through the turns -/
def wNm (i : Nat) : WI := fun ε Q => ∃ d ds, ε[i]? = some (some d) ∧ seqD d = some ds ∧ Q ds (fun ε' => ε'[i]? = some (some d)) ε
theorem di_nm (i : Nat) {x : Str} (hs : sl.contains i = true := by decide) (hN : X.N[i]? = some x := by rfl) (hv : Vis X.env.scope x := by first | exact Or.inl rfl | exact Or.inr (Or.inl rfl) | exact Or.inr (Or.inr rfl)) (hd : (x == ("__debug__" : Str)) = false := by decide)
    (hcd : (x == ("__classdict__" : Str)) = false := by decide) {pos : Pos} : DI X κ sl tg (.Name x pos) (wNm i) :=
  ⟨fun g hg => (pi_seq (pe_var hN hv hd hcd)).imp fun σ H R ⟨O, ε, A, d, ds, e, es, q⟩ => by
    obtain ⟨v, ev, nb⟩ := A.get e
    refine ⟨v, ev, ?_⟩
    have hi : i ∈ sl := by simpa using hs
    have A0 : Abs (g.holds []) O H σ ε := A.addHold fun p hp => nomatch hp
    have at' : ∀ {O2 H2 σ2 ε2}, Abs (g.holds []) O2 H2 σ2 ε2 → (∀ i ∈ sl, σ2[i]? = σ[i]?) → ε2[i]? = some (some d) → Nb H2 O2 d v := fun A2 s2 e2 => by
      obtain ⟨v', ev', nb'⟩ := A2.get e2
      rw [s2 i hi, ev] at ev'
      cases ev'
      exact nb'
    match d, es, nb with
    | .list ds', es, ⟨a, xs, ev, eh, rl⟩ =>
      have e' : ds' = ds := Option.some.inj es
      subst e' ev
      exact .inl ⟨a, rfl, .inl ⟨⟨xs, SqL.of eh⟩, q _ H O [] A0 .refl (itl_ok fun O2 H2 σ2 ε2 A2 s2 e2 => by
        obtain ⟨b, ys, eb, hb, rb⟩ := at' A2 s2 e2
        cases eb
        exact ⟨ys, hb, rb⟩)⟩⟩
    | .tuple ds', es, ⟨a, xs, ev, eh, rl⟩ =>
      have e' : ds' = ds := Option.some.inj es
      subst e' ev
      exact .inl ⟨a, rfl, .inr ⟨⟨xs, SqT.of eh⟩, q _ H O [] A0 .refl (itt_ok fun O2 H2 σ2 ε2 A2 s2 e2 => by
        obtain ⟨b, ys, eb, hb, rb⟩ := at' A2 s2 e2
        cases eb
        exact ⟨ys, hb, rb⟩)⟩⟩
    | .str z, es, r =>
      have e' : signs z = ds := Option.some.inj es
      have ev : v = .str z := r
      subst e' ev
      exact .inr ⟨z, rfl, q _ H O [] A0 .refl its_ok⟩,
    fun ε Q Q' h' ⟨d, ds, e, es, q⟩ => ⟨d, ds, e, es, h' _ _ _ q⟩⟩
/-! ### ranges -/
def rngD (lo : Int) (n : Nat) : List D := (List.range n).map fun (k : Nat) => .int (lo + (k : Int))
theorem itr_ok {g : Gx} {lo : Int} {n : Nat} {sg : L2.St → Prop} {inv : En → Prop} : ItOk g (Itr lo n) sg inv (rngD lo n) where
  go := fun i O H σ ε A s v hi => by
    unfold rngD at hi
    rw [List.length_map, List.length_range] at hi
    exact hi
  yld := fun i O H σ ε x H' A s v hi y => by
    obtain ⟨e, ex⟩ := y
    subst e ex
    unfold rngD at hi ⊢
    rw [List.length_map, List.length_range] at hi
    refine ⟨.int (lo + i), ?_, Same.refl _, rfl⟩
    rw [List.getElem?_map, List.getElem?_range hi]
    rfl
  stop := fun i O H σ ε A s v hi => by
    unfold rngD at hi
    rw [List.length_map, List.length_range] at hi
    exact hi
/-- range(b), range(a, b) -/
def rng1 : List D → Option (List D)
  | [.int j] => if -(2 ^ 62) ≤ j ∧ j < 2 ^ 62 then some (rngD 0 j.toNat) else none
  | _ => none
def rng2 : List D → Option (List D)
  | [.int i, .int j] => if (-(2 ^ 62) ≤ i ∧ i < 2 ^ 62) ∧ (-(2 ^ 62) ≤ j ∧ j < 2 ^ 62) then some (rngD i (j - i).toNat) else none
  | _ => none
def wApp (f : List D → Option (List D)) (os : List Op) : WI := fun ε Q => aEv os ε fun xs ε' => ∃ ds r, vals ε' xs ds ∧ f ds = some r ∧ Q r (fun _ => True) ε'
theorem wApp_mono {f : List D → Option (List D)} {os : List Op} (m : MonoA os) : MonoI (wApp f os) := fun ε Q Q' h' q => aEv_mono m (fun xs ε' ⟨ds, r, e, e2, q⟩ => ⟨ds, r, e, e2, h' _ _ _ q⟩) q
theorem nb_int {H : Hp} {O : OS} {i : Int} {v : V} (h : Nb H O (.int i) v) : v = .int i := h
theorem nbl1 {H : Hp} {O : OS} {d : D} {vs : List V} (h : NbL H O [d] vs) : ∃ v, vs = [v] ∧ Nb H O d v := by
  obtain ⟨v, r, e, h, q⟩ := h
  have q : r = [] := q
  subst q
  exact ⟨v, e, h⟩
theorem nbl2 {H : Hp} {O : OS} {d d2 : D} {vs : List V} (h : NbL H O [d, d2] vs) : ∃ v v2, vs = [v, v2] ∧ Nb H O d v ∧ Nb H O d2 v2 := by
  obtain ⟨v, r, e, h, q⟩ := h
  obtain ⟨v2, e2, h2⟩ := nbl1 q
  subst e2
  exact ⟨v, v2, e, h, h2⟩
theorem nbl3 {H : Hp} {O : OS} {d d2 d3 : D} {vs : List V} (h : NbL H O [d, d2, d3] vs) : ∃ v v2 v3, vs = [v, v2, v3] ∧ Nb H O d v ∧ Nb H O d2 v2 ∧ Nb H O d3 v3 := by
  obtain ⟨v, r, e, h, q⟩ := h
  obtain ⟨v2, v3, e2, h2, h3⟩ := nbl2 q
  subst e2
  exact ⟨v, v2, v3, e, h, h2, h3⟩
theorem di_rng1 {p : Pos} {o : Op} (hg : Gl X "range") (hm : X.mg "range" = none) (h : DA X κ [e] [o]) {pos : Pos} : DI X κ sl tg (.Call (.Name "range" p) [e] [] pos) (wApp rng1 [o]) :=
  ⟨fun g hg' => (pi_range1 hg hm (h.pa g hg') (by rw [st_cons h.hd.1]; rfl)).imp fun σ H R ⟨O, ε, A, q⟩ => ⟨O, ε, A, aEv_mono h.mono (fun xs ε' ⟨ds, r, e, e2, q⟩ vs H' O' A' x ors => by
    have nb := ors.nb A' e
    match ds, nb, e2 with
    | [.int j], nb, e2 =>
      obtain ⟨v, ev, hv⟩ := nbl1 nb
      have e2 : (if -(2 ^ 62) ≤ j ∧ j < 2 ^ 62 then some (rngD 0 j.toNat) else none) = some r := e2
      split at e2
      · rename_i hb
        cases e2
        exact ⟨j, by rw [ev, nb_int hv], hb.1, hb.2, q _ H' O' [] (A'.addHold fun p hp => nomatch hp) x itr_ok⟩
      · cases e2) q⟩, wApp_mono h.mono⟩
theorem di_rng2 {p : Pos} {e2 : Expr} {o o2 : Op} (hg : Gl X "range") (hm : X.mg "range" = none) (h : DA X κ [e, e2] [o, o2]) {pos : Pos} : DI X κ sl tg (.Call (.Name "range" p) [e, e2] [] pos) (wApp rng2 [o, o2]) :=
  ⟨fun g hg' => (pi_range2 hg hm (h.pa g hg') (by rw [st_cons h.hd.1, st_cons (by have := h.hd.2; rw [List.all_cons, Bool.and_eq_true] at this; exact this.1)]; rfl) (by rw [st_cons (by have := h.hd.2; rw [List.all_cons, Bool.and_eq_true] at this; exact this.1)]; rfl)).imp fun σ H R ⟨O, ε, A, q⟩ => ⟨O, ε, A, aEv_mono h.mono (fun xs ε' ⟨ds, r, e, e2, q⟩ vs H' O' A' x ors => by
    have nb := ors.nb A' e
    match ds, nb, e2 with
    | [.int i, .int j], nb, e2 =>
      obtain ⟨v, v2, ev, hv, hv2⟩ := nbl2 nb
      have e2 : (if (-(2 ^ 62) ≤ i ∧ i < 2 ^ 62) ∧ (-(2 ^ 62) ≤ j ∧ j < 2 ^ 62) then some (rngD i (j - i).toNat) else none) = some r := e2
      split at e2
      · rename_i hb
        cases e2
        exact ⟨i, j, by rw [ev, nb_int hv, nb_int hv2], ⟨hb.1.1, hb.1.2, hb.2.1, hb.2.2⟩, q _ H' O' [] (A'.addHold fun p hp => nomatch hp) x itr_ok⟩
      · cases e2) q⟩, wApp_mono h.mono⟩

/-! ### for -/
def forGo (t : Tg) (w : WS) (inv : En → Prop) (E : WEnds) : List D → En → Prop
  | [], ε => inv ε ∧ E.nx ε
  | d :: r, ε => inv ε ∧ ∃ ε1, bindD t d ε = some ε1 ∧ w { nx := forGo t w inv E r, rt := E.rt, bk := E.nx, ct := forGo t w inv E r } ε1
def sFor (wi : WI) (t : Tg) (w : WS) : WS := fun E ε => wi ε fun ds inv ε' => forGo t w inv E ds ε'
theorem forGo_mono {t : Tg} {w : WS} {inv : En → Prop} (m : MonoS w) {E E' : WEnds} (l : E.le E') : ∀ (ds : List D) (ε : En), forGo t w inv E ds ε → forGo t w inv E' ds ε
  | [], _, h => ⟨h.1, l.nx _ h.2⟩
  | d :: r, ε, ⟨hi, ε1, b, h⟩ => ⟨hi, ε1, b, m { nx := forGo t w inv E r, rt := E.rt, bk := E.nx, ct := forGo t w inv E r } _ _ ⟨forGo_mono m l r, l.rt, l.nx, forGo_mono m l r⟩ h⟩
theorem forGo_inv {t : Tg} {w : WS} {inv : En → Prop} {E : WEnds} : ∀ {ds : List D} {ε : En}, forGo t w inv E ds ε → inv ε
  | [], _, h => h.1
  | _ :: _, _, h => h.1
theorem ds_for {body : List Stmt} {wi : WI} {t : Tg} {w : WS} {pos : Pos} (hp : PassesOwn (model X.prog X.w) X.A X.env X.xe) (hc : X.calm = true) (hi : DI X κ [] tg e wi) (hg : DG X κ tg t) (h : DSs X κ fr body w)
    (hs : ∀ x, foldedSetIterable e X.env x = pure x := by intro _; rfl) : DS X κ fr (.For tg e body [] pos) (sFor wi t w) :=
  ⟨fun g hg' hf => by
    have pb : PSs X body (fun D σ H => ∃ g, g.κ = κ ∧ g.fr = fr ∧ rdS g w D σ H) := ⟨fun pins s σ H D I ⟨g, h1, h2, q⟩ => (h.ps g h1 h2).run pins s σ H D I q⟩
    have pg : PG X tg (fun v σ H Q => ∃ g, g.κ = κ ∧ rdG g t v σ H Q) := ⟨fun pins s σ H v u Q I r ⟨g, h1, q⟩ => (hg.pg g h1).run pins s σ H v u Q I r q⟩
    refine (ps_for hp hc (hi.pi g hg') pg pb hs).imp fun D σ H ⟨O, ε, A, q⟩ => ⟨O, ε, A, hi.mono _ _ _ (fun ds inv ε' q J H' O' hl A' x ok => ?_) q⟩
    have g' : (g.holds hl).κ = κ := hg'
    refine ⟨fun i m σ H => m = ds.length - i ∧ i ≤ ds.length ∧ ∃ O ε, Abs (g.holds hl) O H σ ε ∧ forGo t w inv (ends g D) (ds.drop i) ε, ⟨ds.length, rfl, Nat.zero_le _, O', ε', A', q⟩, ?_⟩
    rintro i m σ2 H2 ⟨rfl, hil, O2, ε2, A2, q⟩
    have sg : ∀ i ∈ ([] : List Nat), σ2[i]? = σ[i]? := fun i hi => nomatch hi
    by_cases hlt : i < ds.length
    · refine .inr ⟨ok.go i O2 H2 σ2 ε2 A2 sg (forGo_inv q) hlt, fun σ' H' => ∃ O ε, Abs (g.holds hl) O H' σ' ε ∧ forGo t w inv (ends g D) (ds.drop (i + 1)) ε, fun σ' H' z => ⟨ds.length - (i + 1), by omega, rfl, hlt, z⟩, fun v H3 y => ?_⟩
      obtain ⟨d, ed, sm, rd⟩ := ok.yld i O2 H2 σ2 ε2 v H3 A2 sg (forGo_inv q) hlt y
      rw [List.drop_eq_getElem_cons hlt] at q
      obtain ⟨_, ε3, b, q⟩ := q
      rw [List.getElem?_eq_getElem hlt] at ed
      cases ed
      refine ⟨g.holds hl, g', O2, ε2, _, ε3, A2.same sm, rd, b, fun σ3 A3 _ _ => ?_⟩
      refine ⟨g.holds hl, g', hf, O2, ε3, A3, h.mono { nx := forGo t w inv (ends g D) (ds.drop (i + 1)), rt := (ends g D).rt, bk := (ends g D).nx, ct := forGo t w inv (ends g D) (ds.drop (i + 1)) } _ _ ?_ q⟩
      exact ⟨fun ε4 z σ4 H4 O4 A4 => ⟨O4, ε4, A4, z⟩, fun d ε4 z v H4 σ4 O4 A4 r => z v H4 σ4 O4 A4.unhold r, fun ε4 z σ4 H4 O4 A4 => z σ4 H4 O4 A4.unhold, fun ε4 z σ4 H4 O4 A4 => ⟨O4, ε4, A4, z⟩⟩
    · have e : i = ds.length := by omega
      subst e
      rw [List.drop_length] at q
      exact .inl ⟨ok.stop _ O2 H2 σ2 ε2 A2 sg q.1 (Nat.le_refl _), q.2 σ2 H2 O2 A2.unhold⟩,
  fun E E' ε l q => hi.mono _ _ _ (fun ds inv ε' q => forGo_mono h.mono l ds ε' q) q⟩

/-! ### comprehensions -/
def wipeE (ε : En) : List Nat → En
  | [] => ε
  | v :: vs => (wipeE ε vs).set v none
/-- the slots vs as they were -/
def restE (ε ε1 : En) : List Nat → En
  | [] => ε
  | v :: vs => (restE ε ε1 vs).set v (ε1[v]?).join
def lcGo (t : Tg) (wt : WT) (we : WE) (vs : List Nat) (inv : En → Prop) : List D → List D → En → (List D → En → Prop) → Prop
  | [], acc, ε, Q => inv ε ∧ Q acc ε
  | d :: r, acc, ε, Q => inv ε ∧ ∃ ε1, bindD t d ε = some ε1 ∧ wt ε1 fun b ε2 => if b = true then we ε2 fun y ε3 => acc.length < sizeLine ∧ lcGo t wt we vs inv r (acc ++ [y]) (wipeE ε3 vs) Q else lcGo t wt we vs inv r acc (wipeE ε2 vs) Q
def eLc (wi : WI) (t : Tg) (wt : WT) (we : WE) (vs : List Nat) : WE := fun ε Q => wi ε fun ds inv ε1 => lcGo t wt we vs inv ds [] (wipeE ε1 vs) fun acc ε2 => Q (.list acc) (restE ε2 ε1 vs)
theorem lcGo_mono {t : Tg} {wt : WT} {we : WE} {vs : List Nat} {inv : En → Prop} (mt : MonoT wt) (me : Mono we) {Q Q' : List D → En → Prop} (h : ∀ a ε, Q a ε → Q' a ε) : ∀ (ds acc : List D) (ε : En), lcGo t wt we vs inv ds acc ε Q → lcGo t wt we vs inv ds acc ε Q'
  | [], _, _, q => ⟨q.1, h _ _ q.2⟩
  | d :: r, acc, ε, ⟨hi, ε1, b, q⟩ => ⟨hi, ε1, b, mt _ _ _ (fun c ε2 q => by
    cases c with
    | true => exact me _ _ _ (fun y ε3 ⟨hl, q⟩ => ⟨hl, lcGo_mono mt me h r _ _ q⟩) q
    | false => exact lcGo_mono mt me h r _ _ q) q⟩
theorem lcGo_inv {t : Tg} {wt : WT} {we : WE} {vs : List Nat} {inv : En → Prop} {Q : List D → En → Prop} : ∀ {ds acc : List D} {ε : En}, lcGo t wt we vs inv ds acc ε Q → inv ε
  | [], _, _, h => h.1
  | _ :: _, _, _, h => h.1
theorem eLc_mono {wi : WI} {t : Tg} {wt : WT} {we : WE} {vs : List Nat} (mi : MonoI wi) (mt : MonoT wt) (me : Mono we) : Mono (eLc wi t wt we vs) := fun ε Q Q' h q => mi _ _ _ (fun ds inv ε1 q => lcGo_mono mt me (fun a ε2 q => h _ _ q) _ _ _ q) q
/-- a clause's tests -/
structure DTs (X : Cx) (κ : List Kd) (es : List Expr) (w : WT) : Prop where
  pt : ∀ g, g.κ = κ → PTs X es (rdT g w)
  mono : MonoT w
def tYesW : WT := fun ε Q => Q true ε
theorem dts_nil : DTs X κ [] tYesW := ⟨fun g _ => ⟨fun pins s σ H Q I ⟨O, ε, A, h⟩ => pts_nil.run pins s σ H Q I (h H O A .refl)⟩, fun _ _ _ h q => h _ _ q⟩
theorem dts_one {w : WT} (h : DT X κ e w) : DTs X κ [e] w := ⟨fun g hg => pts_one (h.pt g hg), h.mono⟩
theorem wipe_get {σ : L2.St} {j : Nat} : ∀ {vs : List Nat}, j ∉ vs → (wipe σ vs)[j]? = σ[j]? := fun h => wipe_out h
theorem wipeE_eq (ε : En) : ∀ vs : List Nat, ∀ j : Nat, j ∉ vs → (wipeE ε vs)[j]? = ε[j]?
  | [], _, _ => rfl
  | v :: vs, j, h => by
    have h' : j ≠ v ∧ j ∉ vs := by simpa using h
    show ((wipeE ε vs).set v none)[j]? = _
    rw [get_set_ne (Ne.symm h'.1), wipeE_eq ε vs j h'.2]
theorem wipeE_in (ε : En) : ∀ vs : List Nat, ∀ j : Nat, j ∈ vs → ∀ d : D, (wipeE ε vs)[j]? ≠ some (some d)
  | v :: vs, j, h, d, e => by
    have e : ((wipeE ε vs).set v none)[j]? = some (some d) := e
    by_cases q : v = j
    · subst q
      rw [List.getElem?_set] at e
      simp at e
    · rw [get_set_ne q] at e
      have h' : j ∈ vs := by
        rcases List.mem_cons.mp h with z | z
        · exact absurd z.symm q
        · exact z
      exact wipeE_in ε vs j h' d e
theorem wipeE_len (ε : En) : ∀ vs : List Nat, (wipeE ε vs).length = ε.length
  | [] => rfl
  | v :: vs => by
    show ((wipeE ε vs).set v none).length = _
    rw [List.length_set, wipeE_len ε vs]
theorem restE_out (ε ε1 : En) : ∀ vs : List Nat, ∀ j : Nat, j ∉ vs → (restE ε ε1 vs)[j]? = ε[j]?
  | [], _, _ => rfl
  | v :: vs, j, h => by
    have h' : j ≠ v ∧ j ∉ vs := by simpa using h
    show ((restE ε ε1 vs).set v _)[j]? = _
    rw [get_set_ne (Ne.symm h'.1), restE_out ε ε1 vs j h'.2]
theorem restE_in (ε ε1 : En) : ∀ vs : List Nat, ∀ j : Nat, j ∈ vs → ∀ d : D, (restE ε ε1 vs)[j]? = some (some d) → ε1[j]? = some (some d)
  | v :: vs, j, h, d, e => by
    have e : ((restE ε ε1 vs).set v (ε1[v]?).join)[j]? = some (some d) := e
    by_cases q : v = j
    · subst q
      rw [List.getElem?_set] at e
      simp only [if_true] at e
      split at e
      · have e' : (ε1[v]?).join = some d := Option.some.inj e
        cases z : ε1[v]? with
        | none => rw [z] at e'; cases e'
        | some o => rw [z] at e'; exact congrArg some e'
      · cases e
    · rw [get_set_ne q] at e
      have h' : j ∈ vs := by
        rcases List.mem_cons.mp h with z | z
        · exact absurd z.symm q
        · exact z
      exact restE_in ε ε1 vs j h' d e
theorem restE_len (ε ε1 : En) : ∀ vs : List Nat, (restE ε ε1 vs).length = ε.length
  | [] => rfl
  | v :: vs => by
    show ((restE ε ε1 vs).set v _).length = _
    rw [List.length_set, restE_len ε ε1 vs]
section
variable {g : Gx} {O O' : OS} {H H' : Hp} {σ : L2.St} {ε ε' : En} {vs : List Nat}
theorem mu_out (hv : ∀ j ∈ vs, κ[j]? = some .val) {j : Nat} (h : mu κ j) : j ∉ vs := fun z => by
  have := hv j z
  rcases h with h | h <;> (rw [this] at h; cases h)
theorem ownAt_wipe (hv : ∀ j ∈ vs, κ[j]? = some .val) {a : Addr} : OwnAt κ (wipe σ vs) a ↔ OwnAt κ σ a :=
  ⟨fun ⟨j, hj, e⟩ => ⟨j, hj, by rw [← wipe_get (mu_out hv hj)]; exact e⟩, fun ⟨j, hj, e⟩ => ⟨j, hj, by rw [wipe_get (mu_out hv hj)]; exact e⟩⟩
theorem Abs.wipe (A : Abs g O H σ ε) (hv : ∀ j ∈ vs, g.κ[j]? = some .val) : Abs g O H (L2.wipe σ vs) (wipeE ε vs) :=
  have nv : ∀ j k, g.κ[j]? = some k → k ≠ .val → j ∉ vs := fun j k e n z => n (by rw [hv j z] at e; cases e; rfl)
  { A with
    slot := fun i d e => by
      have hi : i ∉ vs := fun z => wipeE_in ε vs i z d e
      rw [wipeE_eq ε vs i hi] at e
      rw [wipe_get hi]
      exact A.slot i d e
    ownO := fun a z => A.ownO a ((ownAt_wipe hv).mp z)
    apart := fun i j a hi hj e e' => A.apart i j a hi hj (by rw [wipe_get (mu_out hv hi)] at e; exact e) (by rw [wipe_get (mu_out hv hj)] at e'; exact e')
    brwA := fun i b hi e => A.brwA i b hi (by rw [wipe_get (nv i _ hi (by decide))] at e; exact e)
    new := fun i a hi e => A.new i a hi (by rw [wipe_get (nv i _ hi (by decide))] at e; exact e)
    ioS := fun i a hi => by rw [wipe_get (nv i _ (A.ioK i a hi) (by decide))]; exact A.ioS i a hi
    len := by rw [wipeE_len, wipe_length]; exact A.len
    lenK := by rw [wipe_length]; exact A.lenK }
/-- behind the block: what it knew besides its own slots, and these as they were -/
theorem Abs.unwipe (A : Abs g O H σ ε) (x : Ext g.κ σ O H O' H') (hv : ∀ j ∈ vs, g.κ[j]? = some .val) (B : Abs g O' H' (L2.wipe σ vs) ε') : Abs g O' H' σ (restE ε' ε vs) :=
  have nv : ∀ j k, g.κ[j]? = some k → k ≠ .val → j ∉ vs := fun j k e n z => n (by rw [hv j z] at e; cases e; rfl)
  { B with
    slot := fun i d e => by
      by_cases hi : i ∈ vs
      · have e1 := restE_in ε' ε vs i hi d e
        obtain ⟨v, k, e2, e3, s⟩ := A.slot i d e1
        rw [hv i hi] at e3
        cases e3
        exact ⟨v, .val, e2, hv i hi, A.rp x s⟩
      · rw [restE_out ε' ε vs i hi] at e
        obtain ⟨v, k, e2, e3, s⟩ := B.slot i d e
        rw [wipe_get hi] at e2
        exact ⟨v, k, e2, e3, s⟩
    ownO := fun a z => B.ownO a ((ownAt_wipe hv).mpr z)
    apart := A.apart
    brwA := A.brwA
    new := A.new
    ioS := A.ioS
    len := by rw [restE_len, ← wipe_length σ vs]; exact B.len
    lenK := A.lenK }
/-- a thing that is no slot's changes -/
theorem Abs.updD (A : Abs g O H σ ε) {p : Addr} {o : HO} (hp : O p) (no : ¬ OwnAt g.κ σ p) (n0 : g.H0 p = none) : Abs g O (upd H p o) σ ε := by
  have k : ∀ b u, b ≠ p → H b = some u → upd H p o b = some u := fun b u n e => by rw [upd_ne n]; exact e
  have kO : ∀ b u, H b = some u → ¬ O b → upd H p o b = some u := fun b u e n => k b u (fun z => n (z ▸ hp)) e
  have so : ∀ b, H b ≠ none → upd H p o b ≠ none := fun b h => by
    by_cases q : b = p
    · subst q; rw [upd_same]; exact fun z => nomatch z
    · rw [upd_ne q]; exact h
  exact { A with
    slot := fun j d' ej => by
      obtain ⟨v, kd, e1, e2, s⟩ := A.slot j d' ej
      refine ⟨v, kd, e1, e2, ?_⟩
      have oth : mu g.κ j → ∀ b u, v = .ref b → H b = some u → upd H p o b = some u := fun hj b u ev eb => k b u (fun z => no ⟨j, hj, by rw [e1, ev, z]⟩) eb
      cases kd with
      | val => exact Rp.ext kO (fun _ z => .inl z) s
      | own => exact Ow.ext kO (fun _ z => .inl z) (oth (.inl e2)) (fun _ z => z) s
      | io => exact Ow.ext kO (fun _ z => .inl z) (oth (.inr e2)) (fun _ z => z) s
      | brw =>
        have nb : ∀ b, v = .ref b → b ≠ p := fun b ev z => by
          obtain ⟨n0', _⟩ := A.brwA j b e2 (by rw [e1, ev])
          exact n0' (z ▸ n0)
        match d', s with
        | .none, h => exact h
        | .bool _, h => exact h
        | .int _, h => exact h
        | .str _, h => exact h
        | .list _, ⟨b, xs, ev, r, q⟩ => exact ⟨b, xs, ev, k _ _ (nb b ev) r, RpL.ext kO (fun _ z => .inl z) q⟩
        | .tuple _, ⟨b, xs, ev, r, q⟩ => exact ⟨b, xs, ev, k _ _ (nb b ev) r, RpL.ext kO (fun _ z => .inl z) q⟩
        | .dict _, ⟨b, ev, .inl ⟨kvs, r, q⟩⟩ => exact ⟨b, ev, .inl ⟨kvs, k _ _ (nb b ev) r, RpK.ext kO (fun _ z => .inl z) q⟩⟩
        | .dict _, ⟨b, ev, .inr ⟨kvs, r, q⟩⟩ => exact ⟨b, ev, .inr ⟨kvs, k _ _ (nb b ev) r, RpT.ext kO (fun _ z => .inl z) q⟩⟩
    has := fun b z => so b (A.has b z)
    fr := fun b u eb n => k b u (fun z => by subst z; rw [n0] at eb; cases eb) (A.fr b u eb n)
    hold := fun q hq => Rp.ext kO (fun _ z => .inl z) (A.hold q hq) }
theorem RpL.snoc {H : Hp} {O : OS} {d : D} {v : V} (h : Rp H O d v) : ∀ {ds : List D} {vs : List V}, RpL H O ds vs → RpL H O (ds ++ [d]) (vs ++ [v])
  | [], vs, e => by
    have e : vs = [] := e
    subst e
    exact ⟨v, [], rfl, h, rfl⟩
  | _ :: _, _, ⟨v', r, e, h', q⟩ => by
    subst e
    exact ⟨v', r ++ [v], rfl, h', RpL.snoc h q⟩
end
theorem lc_imp {g : Gx} {wi : WI} {t : Tg} {wt : WT} {we : WE} {vs sl : List Nat} (hgk : g.κ = κ) (mi : MonoI wi) (mt : MonoT wt) (me : Mono we) (hv : ∀ j ∈ vs, κ[j]? = some .val) (hts : ∀ j ∈ slots t, j ∈ vs) (hsl : ∀ j ∈ sl, j ∉ vs) {σ : L2.St} {H : Hp} {Q : VK} (q : rdF g (eLc wi t wt we vs) σ H Q) :
    tLc (rdI g sl wi) (fun v σ H Q => ∃ g, g.κ = κ ∧ rdG g t v σ H Q) (fun σ H Q => ∃ g, g.κ = κ ∧ rdT g wt σ H Q) (fun σ H Q => ∃ g, g.κ = κ ∧ rdE g we σ H Q) vs σ H Q := by
  obtain ⟨O, ε, A, q⟩ := q
  refine ⟨O, ε, A, mi _ _ _ (fun ds inv ε1 q J H1 O1 hl A1 x1 ok D nD => ?_) q⟩
  have g' : (g.holds hl).κ = κ := hgk
  have hv' : ∀ j ∈ vs, (g.holds hl).κ[j]? = some .val := fun j hj => by rw [g']; exact hv j hj
  have nownD : ¬ OwnAt κ σ D := by rw [← g']; exact A1.unown (A1.nh nD)
  have nownW : ∀ {σ2 : L2.St}, (L2.wipe σ2 vs = L2.wipe σ vs) → ∀ a, OwnAt κ σ2 a → OwnAt κ σ a := fun {σ2} e a z => (ownAt_wipe hv).mp (by rw [← e]; exact (ownAt_wipe hv).mpr z)
  have n0D : g.H0 D = none := A1.n0 nD
  refine ⟨fun i m Hx => m = ds.length - i ∧ i ≤ ds.length ∧ ∃ O2 ε2 acc xs, Abs (g.holds hl) O2 Hx (L2.wipe σ vs) ε2 ∧ Ext κ σ O1 H1 O2 Hx ∧ O2 D ∧ Hx D = some (.lst xs) ∧ RpL Hx O2 acc xs ∧
    lcGo t wt we vs inv (ds.drop i) acc ε2 (fun acc ε2 => ∀ p H' O', Abs g O' H' σ (restE ε2 ε1 vs) → Ext g.κ σ O H O' H' → O' p → H p = none → Ow H' O' (.list acc) (.ref p) → Q (.ref p) H'), ⟨ds.length, rfl, Nat.zero_le _, OS.add O1 D, wipeE ε1 vs, [], [], (A1.add nD).wipe hv', Ext.add nD, .inl rfl, upd_same, rfl, lcGo_mono mt me (fun a ε2 q => q) _ _ _ q⟩, ?_⟩
  rintro i m H2 ⟨rfl, hil, O2, ε2, acc, xs, A2, x2, oD, eD, racc, q⟩
  have sg : ∀ i ∈ sl, (L2.wipe σ vs)[i]? = σ[i]? := fun i hi => wipe_get (hsl i hi)
  by_cases hlt : i < ds.length
  · refine .inr ⟨ok.go i O2 H2 _ ε2 A2 sg (lcGo_inv q) hlt, fun Hx => ∃ O2 ε2 acc xs, Abs (g.holds hl) O2 Hx (L2.wipe σ vs) ε2 ∧ Ext κ σ O1 H1 O2 Hx ∧ O2 D ∧ Hx D = some (.lst xs) ∧ RpL Hx O2 acc xs ∧
      lcGo t wt we vs inv (ds.drop (i + 1)) acc ε2 (fun acc ε2 => ∀ p H' O', Abs g O' H' σ (restE ε2 ε1 vs) → Ext g.κ σ O H O' H' → O' p → H p = none → Ow H' O' (.list acc) (.ref p) → Q (.ref p) H'), fun H' z => ⟨ds.length - (i + 1), by omega, rfl, hlt, z⟩, fun v H3 y => ?_⟩
    obtain ⟨d, ed, sm, rd⟩ := ok.yld i O2 H2 _ ε2 v H3 A2 sg (lcGo_inv q) hlt y
    rw [List.drop_eq_getElem_cons hlt] at q
    obtain ⟨_, ε3, b, q⟩ := q
    rw [List.getElem?_eq_getElem hlt] at ed
    cases ed
    refine ⟨g.holds hl, g', O2, ε2, _, ε3, A2.same sm, rd, b, fun σ3 A3 s3 l3 => ?_⟩
    have wσ : L2.wipe σ3 vs = L2.wipe σ vs := by
      refine List.ext_getElem? fun j => ?_
      by_cases hj : j ∈ vs
      · have : ∀ σ' : L2.St, σ'.length = σ.length → (L2.wipe σ' vs)[j]? = if j < σ.length then some none else none := fun σ' hl' => by
          by_cases hjl : j < σ.length
          · rw [if_pos hjl]
            have hj2 : j < (L2.wipe σ' vs).length := by rw [wipe_length, hl']; exact hjl
            cases e : (L2.wipe σ' vs)[j] with
            | none => rw [List.getElem?_eq_getElem hj2, e]
            | some u => exact absurd hj (wipe_some (by rw [List.getElem?_eq_getElem hj2, e])).2
          · rw [if_neg hjl]
            exact List.getElem?_eq_none (by rw [wipe_length, hl']; omega)
        rw [this σ3 (by rw [l3, wipe_length]), this σ rfl]
      · rw [wipe_get hj, s3 j (fun z => hj (hts j z)), wipe_get hj]
        
    refine ⟨wσ, g.holds hl, g', O2, ε3, A3, mt _ _ _ (fun c ε4 q H4 O4 A4 x4 => ?_) q⟩
    have x24 : Ext κ σ O1 H1 O4 H4 := x2.trans ((Ext.same sm).trans ⟨fun a o e n => x4.keep a o e (fun z => n (nownW wσ a (by rw [← g']; exact z))), x4.own, x4.mono, x4.some⟩)
    have oD4 : O4 D := x4.mono D oD
    have kD4 : H4 D = some (.lst xs) := x4.keep D _ (sm _ _ eD) (fun z => nownD (nownW wσ D (by rw [← g']; exact z)))
    have racc4 : RpL H4 O4 acc xs := A3.rpL x4 (RpL.ext (fun a o e _ => sm a o e) (fun _ z => .inl z) racc)
    have wend : ∀ {O5 : OS} {H5 : Hp} {ε5 : En}, Abs (g.holds hl) O5 H5 σ3 ε5 → Abs (g.holds hl) O5 H5 (L2.wipe σ vs) (wipeE ε5 vs) := fun A5 => by
      rw [← wσ]
      exact A5.wipe hv'
    cases c with
    | false =>
      exact ⟨O4, _, acc, xs, wend A4, x24, oD4, kD4, racc4, q⟩
    | true =>
      refine ⟨g.holds hl, g', O4, ε4, A4, me _ _ _ (fun y ε5 ⟨hacc, q⟩ yv H5 O5 A5 x5 r5 => ?_) q⟩
      have x25 : Ext κ σ O1 H1 O5 H5 := x24.trans ⟨fun a o e n => x5.keep a o e (fun z => n (nownW wσ a (by rw [← g']; exact z))), x5.own, x5.mono, x5.some⟩
      have oD5 : O5 D := x5.mono D oD4
      have kD5 : H5 D = some (.lst xs) := x5.keep D _ kD4 (fun z => nownD (nownW wσ D (by rw [← g']; exact z)))
      have racc5 := A4.rpL x5 racc4
      refine ⟨xs, kD5, by rw [racc.length]; exact hacc, O5, _, acc ++ [y], xs ++ [yv], (wend A5).updD oD5 (fun z => nownD ((ownAt_wipe hv).mp (by rw [← g']; exact z))) n0D, ?_, oD5, upd_same, ?_, q⟩
      · exact x25.trans' nownD nD
      · have kO : ∀ a o, H5 a = some o → ¬ O5 a → upd H5 D (.lst (xs ++ [yv])) a = some o := fun a o e n => by rw [upd_ne (show a ≠ D from fun z => n (by rw [z]; exact oD5))]; exact e
        exact RpL.snoc (Rp.ext kO (fun _ z => .inl z) r5) (RpL.ext kO (fun _ z => .inl z) racc5)
  · have e : i = ds.length := by omega
    subst e
    rw [List.drop_length] at q
    refine .inl ⟨ok.stop _ O2 H2 _ ε2 A2 sg q.1 (Nat.le_refl _), ?_⟩
    refine q.2 D H2 O2 ((A1.unwipe (by rw [g']; exact x2) hv' A2).unhold) (x1.trans (by rw [hgk]; exact x2)) oD (Classical.byContradiction fun z => x1.some D z nD) ⟨D, xs, rfl, oD, eD, racc⟩
def subsetB (a b : List Nat) : Bool := a.all fun j => b.contains j
def apartB (a b : List Nat) : Bool := a.all fun j => !b.contains j
def valB (κ : List Kd) (vs : List Nat) : Bool := vs.all fun j => decide (κ[j]? = some .val)
theorem subsetB_ok {a b : List Nat} (h : subsetB a b = true) : ∀ j ∈ a, j ∈ b := fun j hj => by simpa using List.all_eq_true.mp h j hj
theorem apartB_ok {a b : List Nat} (h : apartB a b = true) : ∀ j ∈ a, j ∉ b := fun j hj => by simpa using List.all_eq_true.mp h j hj
theorem valB_ok {vs : List Nat} (h : valB κ vs = true) : ∀ j ∈ vs, κ[j]? = some .val := fun j hj => of_decide_eq_true (List.all_eq_true.mp h j hj)
section
variable {elt iter : Expr} {ifs : List Expr} {scope : Scope} {own : List (Str × Nat)} {pos : Pos} {wi : WI} {t : Tg} {wt : WT} {we : WE}
theorem df_lc (hc : X.calm = true) (hN : X.N.Nodup) (hi : DI X κ sl tg iter wi) (ok : BlkOk X.N X.env.scope scope own)
    (hg : ∀ (s : Shared) (H : Hp) (C : Addr) (cl : List (Str × Addr)) (fp : List Addr), DG (X.blk s H scope (compEnvC scope cl C X.env) fp) κ tg t) (ht : ∀ (s : Shared) (H : Hp) (C : Addr) (cl : List (Str × Addr)) (fp : List Addr), DTs (X.blk s H scope (compEnvC scope cl C X.env) fp) κ ifs wt)
    (he : ∀ (s : Shared) (H : Hp) (C : Addr) (cl : List (Str × Addr)) (fp : List Addr), DE (X.blk s H scope (compEnvC scope cl C X.env) fp) κ elt we)
    (hv : valB κ (own.map (·.2)) = true := by rfl) (hts : subsetB (slots t) (own.map (·.2)) = true := by rfl) (hsl : apartB sl (own.map (·.2)) = true := by rfl) (hs : ∀ x, foldedSetIterable iter X.env x = pure x := by intro _; rfl) :
    DF X κ (.ListComp elt [⟨tg, iter, ifs, 0⟩] scope pos) (eLc wi t wt we (own.map (·.2))) :=
  have mt : MonoT wt := (ht {} (fun _ => none) 0 [] []).mono
  have me : Mono we := (he {} (fun _ => none) 0 [] []).mono
  have hg' : ∀ (s : Shared) (H : Hp) (C : Addr) (cl : List (Str × Addr)) (fp : List Addr), PG (X.blk s H scope (compEnvC scope cl C X.env) fp) tg (fun v σ H Q => ∃ g, g.κ = κ ∧ rdG g t v σ H Q) := fun s H C cl fp => ⟨fun pins s2 σ H2 v u Q I r ⟨g, h1, q⟩ => ((hg s H C cl fp).pg g h1).run pins s2 σ H2 v u Q I r q⟩
  have ht' : ∀ (s : Shared) (H : Hp) (C : Addr) (cl : List (Str × Addr)) (fp : List Addr), PTs (X.blk s H scope (compEnvC scope cl C X.env) fp) ifs (fun σ H Q => ∃ g, g.κ = κ ∧ rdT g wt σ H Q) := fun s H C cl fp => ⟨fun pins s2 σ H2 Q I ⟨g, h1, q⟩ => ((ht s H C cl fp).pt g h1).run pins s2 σ H2 Q I q⟩
  have he' : ∀ (s : Shared) (H : Hp) (C : Addr) (cl : List (Str × Addr)) (fp : List Addr), PE (X.blk s H scope (compEnvC scope cl C X.env) fp) elt (fun σ H Q => ∃ g, g.κ = κ ∧ rdE g we σ H Q) := fun s H C cl fp => ⟨fun pins s2 σ H2 Q I ⟨g, h1, q⟩ => ((he s H C cl fp).pe g h1).run pins s2 σ H2 Q I q⟩
  ⟨fun g hgk => (pe_lc hc hN (hi.pi g hgk) ok hg' ht' he' hs).imp fun σ H Q q => lc_imp hgk hi.mono mt me (valB_ok hv) (subsetB_ok hts) (apartB_ok hsl) q, eLc_mono hi.mono mt me⟩
/-- y = [..], y one of the def's own; y a value -/
theorem setLc_imp {g : Gx} {i : Nat} {w : WE} {tl : TE} (m : Mono w) (h : ∀ σ H Q, rdF g w σ H Q → tl σ H Q) (hk : g.κ[i]? = some .own) {D : Ends} {σ : L2.St} {H : Hp} (q : rdS g (sSet i w) D σ H) : tAsg tl (gName i) D σ H := by
  refine h σ H _ ?_
  exact setF_imp m hk q
theorem ds_setLc {i : Nat} {y : Str} {py spos : Pos} (hc : X.calm = true) (hN : X.N.Nodup) (hi : DI X κ sl tg iter wi) (ok : BlkOk X.N X.env.scope scope own)
    (hg : ∀ (s : Shared) (H : Hp) (C : Addr) (cl : List (Str × Addr)) (fp : List Addr), DG (X.blk s H scope (compEnvC scope cl C X.env) fp) κ tg t) (ht : ∀ (s : Shared) (H : Hp) (C : Addr) (cl : List (Str × Addr)) (fp : List Addr), DTs (X.blk s H scope (compEnvC scope cl C X.env) fp) κ ifs wt)
    (he : ∀ (s : Shared) (H : Hp) (C : Addr) (cl : List (Str × Addr)) (fp : List Addr), DE (X.blk s H scope (compEnvC scope cl C X.env) fp) κ elt we) (hsw : swapsWith (.ListComp elt [⟨tg, iter, ifs, 0⟩] scope pos) (some (.Name y py)) spos.line X.env = pure true)
    (hk : (decide (κ[i]? = some .own) || decide (κ[i]? = some .val)) = true := by rfl) (hy : X.N[i]? = some y := by rfl) (hyl : X.env.scope.names.lookup y = some .local := by rfl)
    (hv : valB κ (own.map (·.2)) = true := by rfl) (hts : subsetB (slots t) (own.map (·.2)) = true := by rfl) (hsl : apartB sl (own.map (·.2)) = true := by rfl) (hs : ∀ x, foldedSetIterable iter X.env x = pure x := by intro _; rfl) :
    DS X κ fr (.Assign [.Name y py] (.ListComp elt [⟨tg, iter, ifs, 0⟩] scope pos) spos) (sSet i (eLc wi t wt we (own.map (·.2)))) :=
  have mt : MonoT wt := (ht {} (fun _ => none) 0 [] []).mono
  have me : Mono we := (he {} (fun _ => none) 0 [] []).mono
  have hg' : ∀ (s : Shared) (H : Hp) (C : Addr) (cl : List (Str × Addr)) (fp : List Addr), PG (X.blk s H scope (compEnvC scope cl C X.env) fp) tg (fun v σ H Q => ∃ g, g.κ = κ ∧ rdG g t v σ H Q) := fun s H C cl fp => ⟨fun pins s2 σ H2 v u Q I r ⟨g, h1, q⟩ => ((hg s H C cl fp).pg g h1).run pins s2 σ H2 v u Q I r q⟩
  have ht' : ∀ (s : Shared) (H : Hp) (C : Addr) (cl : List (Str × Addr)) (fp : List Addr), PTs (X.blk s H scope (compEnvC scope cl C X.env) fp) ifs (fun σ H Q => ∃ g, g.κ = κ ∧ rdT g wt σ H Q) := fun s H C cl fp => ⟨fun pins s2 σ H2 Q I ⟨g, h1, q⟩ => ((ht s H C cl fp).pt g h1).run pins s2 σ H2 Q I q⟩
  have he' : ∀ (s : Shared) (H : Hp) (C : Addr) (cl : List (Str × Addr)) (fp : List Addr), PE (X.blk s H scope (compEnvC scope cl C X.env) fp) elt (fun σ H Q => ∃ g, g.κ = κ ∧ rdE g we σ H Q) := fun s H C cl fp => ⟨fun pins s2 σ H2 Q I ⟨g, h1, q⟩ => ((he s H C cl fp).pe g h1).run pins s2 σ H2 Q I q⟩
  ⟨fun g hgk _ => (ps_setLc hc hN hy hyl hsw (hi.pi g hgk) ok hg' ht' he' hs).imp fun D σ H q => by
      have m := eLc_mono (t := t) (vs := own.map (·.2)) hi.mono mt me
      refine lc_imp hgk hi.mono mt me (valB_ok hv) (subsetB_ok hts) (apartB_ok hsl) ?_
      rcases (by simpa using hk : κ[i]? = some .own ∨ κ[i]? = some .val) with hk | hk
      · exact setF_imp m (by rw [hgk]; exact hk) q
      · obtain ⟨O, ε, A, q⟩ := q
        refine ⟨O, ε, A, m _ _ _ (fun d ε' z p H' O' A' x hp np ow => ?_) q⟩
        have nO : ¬ O p := A.nh np
        have nown : ¬ OwnAt g.κ σ p := A.unown nO
        refine z _ H' (OS.drop O' p) ((A'.drop nown (A.nO0 np)).set (by rw [hgk]; exact hk) ?_)
        exact Nb.rp (Nb.anti (fun _ z => z.1) ow.nb) fun a e z => z.2 (by cases e; rfl),
    sSet_mono (eLc_mono hi.mono mt me)⟩
end
/-! ### zip, enumerate -/
theorem slF_inj {i j : Nat} (h : slF i = slF j) : i = j := by
  have := congrFun h ((List.replicate i none) ++ [some PyData.none])
  unfold slF at this
  by_cases e : i = j
  · exact e
  · rw [List.getElem?_append_right (by simp)] at this
    simp only [List.length_replicate, Nat.sub_self, List.getElem?_cons_zero, Option.join_some] at this
    by_cases l : j < i
    · rw [List.getElem?_append_left (by simpa using l), List.getElem?_replicate] at this
      simp [l] at this
    · rw [List.getElem?_eq_none (by simp; omega)] at this
      cases this
/-- an operand that is walked: what keeps it -/
theorem OR.src {g : Gx} {O : OS} {H : Hp} {σ : L2.St} {ε : En} {x : En → Option D} {v : V} {d : D} (A : Abs g O H σ ε) (h : OR H O σ x v) (e : x ε = some d) (hs : ∀ i, x = slF i → i ∈ sl) : ∃ hl : List (D × V), (∀ p ∈ hl, Rp H O p.1 p.2) ∧
    ∀ (g2 : Gx) (O2 : OS) (H2 : Hp) (σ2 : L2.St) (ε2 : En), Abs g2 O2 H2 σ2 ε2 → (∀ p ∈ hl, p ∈ g2.hold) → (∀ i ∈ sl, σ2[i]? = σ[i]?) → x ε2 = some d → Nb H2 O2 d v := by
  rcases h with ⟨d', rfl, r⟩ | ⟨i, rfl, s⟩
  · cases e
    refine ⟨[(d, v)], fun p hp => ?_, fun g2 O2 H2 σ2 ε2 A2 hh _ _ => (A2.hold _ (hh _ (List.mem_singleton_self _))).nb⟩
    have e : p = (d, v) := by simpa using hp
    rw [e]
    exact r
  · refine ⟨[], (fun p hp => nomatch hp), fun g2 O2 H2 σ2 ε2 A2 _ s2 e2 => ?_⟩
    have e2' : ε2[i]? = some (some d) := by
      unfold slF at e2
      cases q : ε2[i]? with
      | none => rw [q] at e2; cases e2
      | some o => rw [q] at e2; exact congrArg some e2
    obtain ⟨v', s', nb⟩ := A2.get e2'
    rw [s2 i (hs i rfl), s] at s'
    cases s'
    exact nb
def zipD (xs ys : List D) : List D := (xs.zip ys).map fun p => .tuple [p.1, p.2]
theorem zipD_len (xs ys : List D) : (zipD xs ys).length = min xs.length ys.length := by
  unfold zipD
  rw [List.length_map, List.length_zip]
theorem zipD_get {xs ys : List D} {i : Nat} {x y : D} (hx : xs[i]? = some x) (hy : ys[i]? = some y) : (zipD xs ys)[i]? = some (.tuple [x, y]) := by
  unfold zipD
  rw [List.getElem?_map, (List.getElem?_zip_eq_some (z := (x, y))).mpr ⟨hx, hy⟩]
  rfl
def zip2 : D → D → Option (List D)
  | .list xs, .list ys => some (zipD xs ys)
  | .tuple xs, .tuple ys => some (zipD xs ys)
  | _, _ => none
def wZip (o o2 : Op) : WI := fun ε Q => oEv o ε fun x ε1 => oEv o2 ε1 fun y ε' => ∃ a b r, x ε' = some a ∧ y ε' = some b ∧ zip2 a b = some r ∧ Q r (fun ε2 => x ε2 = some a ∧ y ε2 = some b) ε'
def opIn (sl : List Nat) : Op → Bool
  | .ex _ => true
  | .nm i => sl.contains i
theorem oEv_src {o : Op} {ε : En} {Q : (En → Option D) → En → Prop} (h : opIn sl o = true) (m : MonoO o) (q : oEv o ε Q) : oEv o ε fun x ε' => (∀ i, x = slF i → i ∈ sl) ∧ Q x ε' := by
  cases o with
  | ex w =>
    refine m ε _ _ (fun d ε' z => ⟨fun i e => ?_, z⟩) q
    have := congrFun e []
    simp [slF] at this
  | nm j =>
    refine ⟨q.1, fun i e => ?_, q.2⟩
    rw [← slF_inj e]
    simpa [opIn] using h
theorem itz_ok {g : Gx} {K : PySem.W.Frag} {a b : Addr} {xs ys : List D} {sg : L2.St → Prop} {inv : En → Prop} (h : ∀ O H σ ε, Abs g O H σ ε → sg σ → inv ε → (∃ vs, H a = some (.lst vs) ∧ RpL H O xs vs) ∧ ∃ vs, H b = some (.lst vs) ∧ RpL H O ys vs) : ItOk g (Itz K a b) sg inv (zipD xs ys) where
  go := fun i O H σ ε A s v hi => by
    obtain ⟨⟨us, e, r⟩, ws, e', r'⟩ := h O H σ ε A s v
    rw [zipD_len] at hi
    obtain ⟨x, ex, _⟩ := r.at (List.getElem?_eq_getElem (by omega : i < xs.length))
    obtain ⟨y, ey, _⟩ := r'.at (List.getElem?_eq_getElem (by omega : i < ys.length))
    exact ⟨us, ws, x, y, SqL.of e, SqL.of e', ex, ey⟩
  yld := fun i O H σ ε w H' A s v hi y => by
    obtain ⟨⟨us, e, r⟩, ws, e', r'⟩ := h O H σ ε A s v
    rw [zipD_len] at hi
    have hx := List.getElem?_eq_getElem (by omega : i < xs.length)
    have hy := List.getElem?_eq_getElem (by omega : i < ys.length)
    obtain ⟨x, ex, rx⟩ := r.at hx
    obtain ⟨y', ey, ry⟩ := r'.at hy
    obtain ⟨T, x0, y0, rfl, nT, rfl, f1, f2⟩ := y
    have e1 := f1 us (SqL.of e)
    have e2 := f2 ws (SqL.of e')
    rw [ex] at e1
    rw [ey] at e2
    cases e1
    cases e2
    have k : ∀ a o, H a = some o → ¬ O a → upd H T (.tup [x, y']) a = some o := fun a o e _ => same_upd nT a o e
    exact ⟨_, zipD_get hx hy, same_upd nT, T, [x, y'], rfl, A.nh nT, upd_same, x, [y'], rfl, Rp.ext k (fun _ z => .inl z) rx, y', [], rfl, Rp.ext k (fun _ z => .inl z) ry, rfl⟩
  stop := fun i O H σ ε A s v hi => by
    obtain ⟨⟨us, e, r⟩, ws, e', r'⟩ := h O H σ ε A s v
    rw [zipD_len] at hi
    refine ⟨us, ws, SqL.of e, SqL.of e', ?_⟩
    rw [r.length, r'.length]
    omega
theorem itzT_ok {g : Gx} {K : PySem.W.Frag} {a b : Addr} {xs ys : List D} {sg : L2.St → Prop} {inv : En → Prop} (h : ∀ O H σ ε, Abs g O H σ ε → sg σ → inv ε → (∃ vs, H a = some (.tup vs) ∧ RpL H O xs vs) ∧ ∃ vs, H b = some (.tup vs) ∧ RpL H O ys vs) : ItOk g (RZ.ItzT K a b) sg inv (zipD xs ys) where
  go := fun i O H σ ε A s v hi => by
    obtain ⟨⟨us, e, r⟩, ws, e', r'⟩ := h O H σ ε A s v
    rw [zipD_len] at hi
    obtain ⟨x, ex, _⟩ := r.at (List.getElem?_eq_getElem (by omega : i < xs.length))
    obtain ⟨y, ey, _⟩ := r'.at (List.getElem?_eq_getElem (by omega : i < ys.length))
    exact ⟨us, ws, x, y, SqT.of e, SqT.of e', ex, ey⟩
  yld := fun i O H σ ε w H' A s v hi y => by
    obtain ⟨⟨us, e, r⟩, ws, e', r'⟩ := h O H σ ε A s v
    rw [zipD_len] at hi
    have hx := List.getElem?_eq_getElem (by omega : i < xs.length)
    have hy := List.getElem?_eq_getElem (by omega : i < ys.length)
    obtain ⟨x, ex, rx⟩ := r.at hx
    obtain ⟨y', ey, ry⟩ := r'.at hy
    obtain ⟨T, x0, y0, rfl, nT, rfl, f1, f2⟩ := y
    have e1 := f1 us (SqT.of e)
    have e2 := f2 ws (SqT.of e')
    rw [ex] at e1
    rw [ey] at e2
    cases e1
    cases e2
    have k : ∀ a o, H a = some o → ¬ O a → upd H T (.tup [x, y']) a = some o := fun a o e _ => same_upd nT a o e
    exact ⟨_, zipD_get hx hy, same_upd nT, T, [x, y'], rfl, A.nh nT, upd_same, x, [y'], rfl, Rp.ext k (fun _ z => .inl z) rx, y', [], rfl, Rp.ext k (fun _ z => .inl z) ry, rfl⟩
  stop := fun i O H σ ε A s v hi => by
    obtain ⟨⟨us, e, r⟩, ws, e', r'⟩ := h O H σ ε A s v
    rw [zipD_len] at hi
    refine ⟨us, ws, SqT.of e, SqT.of e', ?_⟩
    rw [r.length, r'.length]
    omega
theorem di_zip {p tpos pos : Pos} {e2 : Expr} {o o2 : Op} {elts : List Expr} {kk : Nat} (hg : Gl X "zip") (hm : X.mg "zip" = none) (h : DA X κ [e, e2] [o, o2]) (h1 : opIn sl o = true := by rfl) (h2 : opIn sl o2 = true := by rfl) :
    DI X κ sl (.Tuple elts kk tpos) (.Call (.Name "zip" p) [e, e2] [] pos) (wZip o o2) :=
  have n2 : notStar e2 = true := by have := h.hd.2; rw [List.all_cons, Bool.and_eq_true] at this; exact this.1
  have m1 : MonoO o := h.mono o List.mem_cons_self
  have m2 : MonoO o2 := h.mono o2 (List.mem_cons_of_mem _ List.mem_cons_self)
  ⟨fun g hg' => (RZ.pi_zipA hg hm (h.pa g hg') (st_cons h.hd.1) (st_any h.hd.2)).imp fun σ H R ⟨O, ε, A, q⟩ => ⟨O, ε, A, oEv_mono m1 (fun x ε1 ⟨sx, q⟩ => oEv_mono m2 (fun y ε' ⟨sy, q⟩ vs H' O' A' xt ors => by
    obtain ⟨a, b, r, ea, eb, ez, q⟩ := q
    obtain ⟨v, vr, rfl, o1, v2, vr2, rfl, o2', e3⟩ := ors
    have e3 : vr2 = [] := e3
    subst e3
    obtain ⟨hl1, k1, f1⟩ := OR.src (sl := sl) A' o1 ea sx
    obtain ⟨hl2, k2, f2⟩ := OR.src (sl := sl) A' o2' eb sy
    have AH : Abs (g.holds (hl1 ++ hl2)) O' H' σ ε' := A'.addHold fun p hp => (List.mem_append.mp hp).elim (k1 p) (k2 p)
    have at1 : ∀ {O2 H2 σ2 ε2}, Abs (g.holds (hl1 ++ hl2)) O2 H2 σ2 ε2 → (∀ i ∈ sl, σ2[i]? = σ[i]?) → (x ε2 = some a ∧ y ε2 = some b) → Nb H2 O2 a v := fun A2 s2 e2 => f1 _ _ _ _ _ A2 (fun p hp => List.mem_append_left _ (List.mem_append_left _ hp)) s2 e2.1
    have at2 : ∀ {O2 H2 σ2 ε2}, Abs (g.holds (hl1 ++ hl2)) O2 H2 σ2 ε2 → (∀ i ∈ sl, σ2[i]? = σ[i]?) → (x ε2 = some a ∧ y ε2 = some b) → Nb H2 O2 b v2 := fun A2 s2 e2 => f2 _ _ _ _ _ A2 (fun p hp => List.mem_append_left _ (List.mem_append_right _ hp)) s2 e2.2
    have na := o1.nb A' ea
    have nb := o2'.nb A' eb
    match a, b, ez, na, nb with
    | .list xs, .list ys, ez, ⟨pa, us, ev, eh, rl⟩, ⟨pb, ws, ev2, eh2, rl2⟩ =>
      cases (show some (zipD xs ys) = some r from ez)
      subst ev ev2
      exact ⟨pa, pb, us, ws, rfl, .inl ⟨SqL.of eh, SqL.of eh2, q _ H' O' _ AH xt (itz_ok fun O2 H2 σ2 ε2 A2 s2 e2 => by
        obtain ⟨c, zs, ec, hc, rc⟩ := at1 A2 s2 e2
        obtain ⟨c', zs', ec', hc', rc'⟩ := at2 A2 s2 e2
        cases ec
        cases ec'
        exact ⟨⟨zs, hc, rc⟩, zs', hc', rc'⟩)⟩⟩
    | .tuple xs, .tuple ys, ez, ⟨pa, us, ev, eh, rl⟩, ⟨pb, ws, ev2, eh2, rl2⟩ =>
      cases (show some (zipD xs ys) = some r from ez)
      subst ev ev2
      exact ⟨pa, pb, us, ws, rfl, .inr ⟨SqT.of eh, SqT.of eh2, q _ H' O' _ AH xt (itzT_ok fun O2 H2 σ2 ε2 A2 s2 e2 => by
        obtain ⟨c, zs, ec, hc, rc⟩ := at1 A2 s2 e2
        obtain ⟨c', zs', ec', hc', rc'⟩ := at2 A2 s2 e2
        cases ec
        cases ec'
        exact ⟨⟨zs, hc, rc⟩, zs', hc', rc'⟩)⟩⟩) (oEv_src h2 m2 q)) (oEv_src h1 m1 q)⟩,
    fun ε Q Q' h' q => oEv_mono m1 (fun x ε1 q => oEv_mono m2 (fun y ε' ⟨a, b, r, ea, eb, ez, q⟩ => ⟨a, b, r, ea, eb, ez, h' _ _ _ q⟩) q) q⟩
end
end DL

namespace DL
open PySem PySem.Spec L2

/-! ### a def's contract where no repr is being written -/
theorem guards_deeper {A : Around} {env : Env} (h : A.guards = some []) : (A.deeper env).guards = some [] := by
  unfold Around.deeper
  exact h
structure FnG (P : Program) (w : World) (K : PySem.W.Frag) (mg : Str → Option Value) (base : Heap) (CX : CXT) (k : Nat) (f : Addr) (fd : FuncData) (ps : List Str) (sp : Sp) : Prop where
  lenG : ∀ vs H Q E, sp vs H Q E → vs.length = ps.length
  runG : ∀ (A : Around), Room k A → A.guards = some [] → ∀ (outer : List Env) (s : Shared) (H : Hp), Env0 P w K mg base A outer s H → ∀ (args : Args) (us : List Value) (vs : List V), BindsTo s fd args (ps.zip us) → Vals vs us →
    ∀ (Q : VK) (E : XK), sp vs H Q E → codeAny (model P w) A (.call (.ref f) args) (CR CX outer P w H s Q E) s
section
variable {P : Program} {w : World} {K : PySem.W.Frag} {mg : Str → Option Value} {base : Heap} {CX : CXT}
theorem FnG.mono {j k : Nat} {f : Addr} {fd : FuncData} {ps : List Str} {sp : Sp} (F : FnG P w K mg base CX j f fd ps sp) (h : j ≤ k) : FnG P w K mg base CX k f fd ps sp :=
  ⟨F.lenG, fun A hr => F.runG A (hr.mono h)⟩
theorem FnG.imp {k : Nat} {f : Addr} {fd : FuncData} {ps : List Str} {sp sp' : Sp} (F : FnG P w K mg base CX k f fd ps sp) (h : ∀ vs H Q E, sp' vs H Q E → sp vs H Q E) : FnG P w K mg base CX k f fd ps sp' :=
  ⟨fun vs H Q E q => F.lenG vs H Q E (h _ _ _ _ q), fun A hr hg outer s H e0 args us vs hb hv Q E q => F.runG A hr hg outer s H e0 args us vs hb hv Q E (h _ _ _ _ q)⟩
theorem fn_g {x qual : Str} {st : Stmt} {f : Addr} {fd : FuncData} {N ps : List Str} {k : Nat} {sp : Sp} (F : Fun K x qual st f fd) (S : FnScope N ps (defScope st)) (len : ∀ vs H Q E, sp vs H Q E → vs.length = ps.length)
    (walk : ∀ (cdv : Value) (A : Around) (outer : List Env) (s : Shared) (H : Hp) (vs : List V) (Q : VK) (E : XK), Room k (A.deeper (PyProof.Rows.envOfC qual (defScope st) s.heap.objs.size f cdv)) → (A.deeper (PyProof.Rows.envOfC qual (defScope st) s.heap.objs.size f cdv)).guards = some [] → sp vs H Q E →
      ∃ t, PSs (cxOf CX P w K mg base N qual (defScope st) f cdv A outer s H E) (defBody st) t ∧ t { nx := fun _ H' => Q .non H', rt := Q } (L2.start N vs) H) : FnG P w K mg base CX (k + 1) f fd ps sp := by
  obtain ⟨oc, od, kV, doc, pm, an, cdv, ct, osl, rfl, lk, hcd⟩ := F.ex
  refine ⟨len, fun A hr hg outer s H e0 args us vs hb hv Q E hsp => ?_⟩
  have up : ∀ b o, base.get? b = some o → s.heap.get? b = some o := fun b o z => (e0.bs b o z).1
  have KX : K.In s.heap := e0.mod.kin.keeps up
  obtain ⟨t, ht, hq⟩ := walk cdv A outer s H vs Q E (hr.deeper _) (guards_deeper hg) hsp
  refine Att.call_fn KX (e0.mod.nolimit.keeps up) lk hcd hr.depth hb ?_ (fun s1 ic => ?_) S.co S.gen S.kind
  · refine List.all_eq_true.mpr fun y hy => ?_
    obtain ⟨n, v⟩ := y
    rcases S.par n (List.of_mem_zip hy).1 with q | q <;> simp [q]
  · have I := inv_start (CX := CX) (E := E) S hr.hd e0 (len _ _ _ _ hsp) hv ic
    refine wpAny_mono (ht.run [] s1 _ H _ I hq) (fun fl s' z => ?_) fun _ _ z => z
    match fl, z with
    | .ret u, ⟨v, σ', H', J, rv, q⟩ => exact ⟨v, H', J.os, J.bare, J.base, J.hok, rv, q⟩
    | .next, ⟨σ', H', J, q⟩ => exact ⟨.non, H', J.os, J.bare, J.base, J.hok, rfl, q⟩
    | .brk, ⟨_, _, _, q⟩ => exact q.elim
    | .cont, ⟨_, _, _, q⟩ => exact q.elim
end
section
variable {X : Cx} {CX : CXT} {k : Nat} {f : Addr} {fd : FuncData} {ps : List Str} {sp : Sp} {E : XK} {x : Str} {p pos : Pos} {e : Expr} {es : List Expr} {t : TA}
theorem pe_callG (F : FnG X.prog X.w X.K X.mg X.base CX k f fd ps sp) (hr : Room k X.A) (hgd : X.A.guards = some []) (hg : Gl X x) (hm : X.mg x = some (.ref f)) (hk : PySem.W.keepIn X.K (.ref f) = true) (hb : Binds X.K fd ps []) (hx : Passes CX X E) (ha : PA X (e :: es) t)
    (hdb : (x == ("__debug__" : Str)) = false) (he : starEach (e :: es) X.env = (false, eval e X.env) :: starEach es X.env) (hpl : (backTo pos (starEach es X.env)).any (·.1) = false) :
    PE X (.Call (.Name x p) (e :: es) [] pos) (fun σ H Q => t σ H fun vs H1 => sp vs H1 Q E) := by
  refine ⟨fun pins s σ H Q I q => ?_⟩
  refine wpAny_Call_Name_kw (ld_glob I hg hm ?_ hdb)
  refine PySem.W.callWith_K (h₀ := X.base) I.ok.mod.kin hk ?_ he hpl
  refine thn (ha.run pos pins s σ H _ I q) fun us s1 z => ?_
  obtain ⟨vs, H1, I1, r, q1⟩ := z
  refine ⟨I1.kIn, ?_⟩
  have hl : us.length = ps.length := by rw [← r.length]; exact F.lenG _ _ _ _ q1
  have bt : BindsTo s1 fd ⟨us, []⟩ (ps.zip us) := by
    have z := hb s1 us I1.kIn (by rw [List.append_nil]; exact hl)
    rwa [List.append_nil] at z
  refine wpAny_call (codeAny_mono (F.runG X.A hr hgd X.stack s1 H1 I1.env0 ⟨us, []⟩ us vs bt r Q E q1) fun res s2 z2 => ?_)
  match res, z2 with
  | .error u, z2 => exact hx pins σ H1 s1 u s2 I1 z2
  | .ok (.ret u), z2 => exact I1.after z2
  | .ok .next, z2 => exact z2.elim
  | .ok .brk, z2 => exact z2.elim
  | .ok .cont, z2 => exact z2.elim
end

/-! ### the law's own def, called by the claim's caller -/
/-- the script alone is tracked, and locked -/
def ScrH (a : Addr) (o : Obj) (ns : List Int) : Hp := fun b => if b = a then some (.frz o (.lst (ns.map V.int))) else none
theorem walk_g {l : PySem.W.OpenLaw} {n k : Nat} {q : Program} {loose : List Str} {XP : (Str → Option Value) → Heap → Prop} {YP : World → Heap → Prop} {d : DefRec} {x : Str}
    (hn : l.most = some n) (hn2 : n ≤ sizeLine) (hdf : d.params.defaults = []) (hr : Room k callerA)
    (F : ∀ (w : World) (mg : Str → Option Value) (fa : Addr) (h : Heap), YP w h → h.Ns mainGlobals mg → mg d.name = some (.ref fa) →
      ∃ (K : PySem.W.Frag) (fd : FuncData) (sp : Sp), K.In h ∧ (∀ (s : Shared) (u : Value), BindsTo s fd ⟨[u], []⟩ [(x, u)]) ∧ (∀ (H : Hp) (a : Addr) (ns : List Int), ns.length ≤ n → SqL K H a (ns.map V.int) → sp [.ref a] H (fun v _ => v = .bl true) fun _ _ _ => False) ∧
        ∀ base : Heap, K.In base → base.Ns mainGlobals mg → FnG l.prog w K mg base CX0 k fa fd [x] sp) :
    PySem.W.WalkO q loose XP YP l.row.toRowW d [] (fun f vs => PySem.call f vs) := by
  refine Att.attach_call hn hdf fun w s₀ s₁ mg mb fa o pm cd doc a vs ns G Y ho hd hcd hmg hobj hints hlen hg => ?_
  obtain ⟨K, fd, sp, KX, hb, hsp, hF⟩ := F w mg fa _ Y G.T.g hmg
  have rv := vals_ints hints
  have lv := hints.length
  -- any abstract heap that tracks at most the script, as it stands
  suffices core : ∀ H : Hp, SqL K H a (ns.map V.int) → HOk l.prog w H s₁.heap → (∀ b u, H b = some u → b = a ∧ K.lookup b = none ∧ ∃ xs, u = .frz { cls := .type "list", data := .seq vs.toArray } (.lst xs)) →
      codeAny (model l.prog w) callerA (.call (.ref fa) ⟨[.ref a], []⟩) (fun r s' => r = .ok (.ret (.bool true)) ∧ OldK s₁.heap s'.heap ∧ s'.os = s₁.os ∧ PyProof.Rows.AllBare s'.gens) s₁ by
    cases hk : K.lookup a with
    | some ob =>
      have e := KX a ob hk
      rw [hobj] at e
      cases e
      refine core (fun _ => none) (.inr ⟨_, vs.toArray, _, hk, rfl, rfl, rfl, ?_, by simpa using rv⟩) (fun b u z => nomatch (show (none : Option HO) = some u from z)) fun b u z => nomatch (show (none : Option HO) = some u from z)
      rw [List.size_toArray, lv]
      exact Nat.le_trans hlen hn2
    | none =>
      refine core (ScrH a { cls := .type "list", data := .seq vs.toArray } ns) (.inl (.inr ⟨_, if_pos rfl⟩)) (fun b u z => ?_) fun b u z => ?_
      · unfold ScrH at z
        split at z
        · rename_i e
          cases z
          subst e
          exact ⟨hobj, by rw [List.length_map]; exact Nat.le_trans hlen hn2, vs, _, rv, hobj⟩
        · cases z
      · unfold ScrH at z
        split at z
        · rename_i e
          cases z
          subst e
          exact ⟨rfl, hk, _, rfl⟩
        · cases z
  intro H hS hok only
  -- what is not tracked
  have free : ∀ {b : Addr} {ob : Obj} {es : Array DictEntry} {ep : Nat}, s₁.heap.get? b = some ob → ob.data = .dict es ep → H b = none := fun {b ob es ep} e dd => by
    cases z : H b with
    | none => rfl
    | some u =>
      obtain ⟨rfl, _⟩ := only b u z
      rw [hobj] at e
      cases e
      cases dd
  have nsB : ∀ {b : Addr} {m : Str → Option Value}, s₁.heap.Ns b m → (hidT s₁.heap H).Ns b m := fun ⟨ob, es, ep, e, dd, r⟩ => ⟨ob, es, ep, hidT_get e (free e dd), dd, r⟩
  have hKb : K.In (hidT s₁.heap H) := fun b ob e => hidT_get (KX b ob e) (by
    cases z : H b with
    | none => rfl
    | some u =>
      obtain ⟨_, z2, _⟩ := only b u z
      rw [z2] at e
      cases e)
  obtain ⟨mc, h1, h2⟩ := G.T.nolimit
  have e0 : Env0 l.prog w K mg (hidT s₁.heap H) callerA [] s₁ H := by
    refine ⟨rfl, ⟨hKb, nsB G.T.g, ⟨mb, nsB G.T.b, G.T.builtins⟩, mc, nsB h1, h2⟩, fun b ob e => of_hidT e, Nat.le_of_eq (hidT_size _ _), trivial, fun b hb => ?_, hok, .of_eq hg⟩
    exact absurd (show b ∈ ([] : List Addr) from hb) (by simp)
  refine codeAny_mono ((hF _ hKb (nsB G.T.g)).runG callerA hr rfl [] s₁ H e0 ⟨[.ref a], []⟩ [.ref a] [.ref a] (hb s₁ (.ref a)) (.cons rfl .nil) _ _ (hsp H a ns hlen hS)) fun r s' z => ?_
  match r, z with
  | .error e, z => exact (show False from z).elim
  | .ok .next, z => exact z.elim
  | .ok .brk, z => exact z.elim
  | .ok .cont, z => exact z.elim
  | .ok (.ret u), ⟨v, H', os, bare, un, hok', rv', q'⟩ =>
    have q' : v = .bl true := q'
    subst q'
    have rv' : u = Value.bool true := rv'
    subst rv'
    refine ⟨rfl, OldK.of_keep fun b ob e => ?_, os, bare⟩
    cases z : H b with
    | none => exact un.keep b ob e z (by intro y; exact absurd (show b ∈ ([] : List Addr) from y) (by simp)) (by simp)
    | some u =>
      obtain ⟨rfl, _, xs, rfl⟩ := only b u z
      obtain ⟨e2, _⟩ := hok' b _ (un.frzs b _ _ z)
      rw [hobj] at e
      cases e
      exact e2
end DL

namespace DL
open PySem PySem.Spec L2

/-! ### several own things changed at once -/
section
variable {g : Gx} {O O' : OS} {H H' : Hp} {σ : L2.St} {ε ε' : En}
theorem Abs.muts (A : Abs g O H σ ε) {S : List Addr} (hS : ∀ a ∈ S, OwnAt g.κ σ a) (k : ∀ b o, H b = some o → b ∉ S → H' b = some o) (so : ∀ b, H b ≠ none → H' b ≠ none) (hl : ε'.length = ε.length)
    (hε : ∀ (j : Nat) (d : D), ε'[j]? = some (some d) → (∃ a, mu g.κ j ∧ σ[j]? = some (some (.ref a)) ∧ a ∈ S ∧ Ow H' O' d (.ref a)) ∨ (ε[j]? = some (some d) ∧ ∀ a, mu g.κ j → σ[j]? = some (some (.ref a)) → a ∉ S))
    (w : ∀ a, O' a → O a ∨ H a = none) (mo : ∀ a, O a → O' a) (hn : ∀ a, O' a → H' a ≠ none) : Abs g O' H' σ ε' := by
  have hO : ∀ a ∈ S, O a := fun a h => A.ownO a (hS a h)
  have kO : ∀ b o, H b = some o → ¬ O b → H' b = some o := fun b o e n => k b o e fun z => n (hO b z)
  exact { A with
    slot := fun j d ej => by
      rcases hε j d ej with ⟨a, hj, ea, ha, ow⟩ | ⟨ej, n⟩
      · rcases hj with hj | hj
        · exact ⟨.ref a, .own, ea, hj, ow⟩
        · exact ⟨.ref a, .io, ea, hj, ow⟩
      · obtain ⟨v, kd, e1, e2, s⟩ := A.slot j d ej
        refine ⟨v, kd, e1, e2, ?_⟩
        have oth : mu g.κ j → ∀ b o, v = .ref b → H b = some o → H' b = some o := fun hj b o ev eb => k b o eb (n b hj (by rw [e1, ev]))
        cases kd with
        | val => exact Rp.ext kO w s
        | own => exact Ow.ext kO w (oth (.inl e2)) mo s
        | io => exact Ow.ext kO w (oth (.inr e2)) mo s
        | brw =>
          have nb : ∀ b, v = .ref b → b ∉ S := fun b ev z => by
            obtain ⟨n0, nio⟩ := A.brwA j b e2 (by rw [e1, ev])
            obtain ⟨i, hi, ei⟩ := hS b z
            rcases hi with hi | hi
            · exact n0 (A.new i b hi ei)
            · obtain ⟨c, hc⟩ := A.ioA i hi
              have := A.ioS i c hc
              rw [ei] at this
              cases this
              exact nio i hc
          match d, s with
          | .none, h => exact h
          | .bool _, h => exact h
          | .int _, h => exact h
          | .str _, h => exact h
          | .list _, ⟨b, xs, ev, r, q⟩ => exact ⟨b, xs, ev, k _ _ r (nb b ev), RpL.ext kO w q⟩
          | .tuple _, ⟨b, xs, ev, r, q⟩ => exact ⟨b, xs, ev, k _ _ r (nb b ev), RpL.ext kO w q⟩
          | .dict _, ⟨b, ev, .inl ⟨kvs, r, q⟩⟩ => exact ⟨b, ev, .inl ⟨kvs, k _ _ r (nb b ev), RpK.ext kO w q⟩⟩
          | .dict _, ⟨b, ev, .inr ⟨kvs, r, q⟩⟩ => exact ⟨b, ev, .inr ⟨kvs, k _ _ r (nb b ev), RpT.ext kO w q⟩⟩
    ownO := fun a z => mo a (A.ownO a z)
    has := hn
    sub := fun a z => mo a (A.sub a z)
    fr := fun b o eb n => by
      refine k b o (A.fr b o eb n) fun z => ?_
      obtain ⟨i, hi, ei⟩ := hS b z
      rcases hi with hi | hi
      · rw [A.new i b hi ei] at eb
        cases eb
      · obtain ⟨c, hc⟩ := A.ioA i hi
        have := A.ioS i c hc
        rw [ei] at this
        cases this
        exact n i hc
    hold := fun p hp => Rp.ext kO w (A.hold p hp)
    len := hl.trans A.len }
theorem muts_ext {κ : List Kd} {S : List Addr} (hS : ∀ a ∈ S, OwnAt κ σ a) (k : ∀ b o, H b = some o → b ∉ S → H' b = some o) (so : ∀ b, H b ≠ none → H' b ≠ none) : Ext κ σ O H O H' :=
  ⟨fun a o e n => k a o e fun z => n (hS a z), fun _ z => .inl z, fun _ z => z, so⟩
theorem mut_ext {κ : List Kd} {i : Nat} (hk : mu κ i) {a : Addr} (e : σ[i]? = some (some (.ref a))) (k : ∀ b o, b ≠ a → H b = some o → H' b = some o) (hs : H' a ≠ none) : Ext κ σ O H O H' :=
  ⟨fun b o eb n => k b o (fun z => n ⟨i, hk, by rw [e, z]⟩) eb, fun _ z => .inl z, fun _ z => z, fun b h => by
    by_cases q : b = a
    · rw [q]; exact hs
    · cases e : H b with
      | none => exact (h e).elim
      | some o => rw [k b o q e]; exact fun z => nomatch z⟩
end

/-! ### what a def promises -/
abbrev DSp := List D → (D → List D → Prop) → Prop
def MonoD (sp : DSp) : Prop := ∀ ds (Q Q' : D → List D → Prop), (∀ d o, Q d o → Q' d o) → sp ds Q → sp ds Q'
/-- a function of its arguments -/
def fnSp (f : List D → Option D) : DSp := fun ds Q => ∃ d, f ds = some d ∧ Q d []
theorem fnSp_mono {f : List D → Option D} : MonoD (fnSp f) := fun ds Q Q' h ⟨d, e, q⟩ => ⟨d, e, h _ _ q⟩
/-- what is asked, what is promised -/
def mkSp (pre : List D → Prop) (post : List D → D → List D → Prop) : DSp := fun ds Q => pre ds ∧ ∀ d o, post ds d o → Q d o
theorem mkSp_mono {pre : List D → Prop} {post : List D → D → List D → Prop} : MonoD (mkSp pre post) := fun ds Q Q' h ⟨a, q⟩ => ⟨a, fun d o z => h _ _ (q d o z)⟩
def ArgsOk (H : Hp) (O : OS) : List Kd → List D → List V → Prop
  | [], ds, vs => ds = [] ∧ vs = []
  | k :: ks, ds, vs => ∃ d r v vr, ds = d :: r ∧ vs = v :: vr ∧ SlotOk H O k d v ∧ ArgsOk H O ks r vr
def ioL : List Kd → List V → List Addr
  | .io :: ks, .ref a :: vs => a :: ioL ks vs
  | _ :: ks, _ :: vs => ioL ks vs
  | _, _ => []
def Outs (H : Hp) (O : OS) : List Kd → List V → List D → Prop
  | [], _, outs => outs = []
  | k :: ks, vs, outs => ∃ v vr, vs = v :: vr ∧ if k = .io then ∃ d r, outs = d :: r ∧ Ow H O d v ∧ Outs H O ks vr r else Outs H O ks vr outs
structure ArgsIn (H : Hp) (O : OS) (pk : List Kd) (ds : List D) (vs : List V) : Prop where
  ok : ArgsOk H O pk ds vs
  nd : (ioL pk vs).Nodup
  brw : ∀ (i : Nat) (b : Addr), pk[i]? = some .brw → vs[i]? = some (.ref b) → b ∉ ioL pk vs
  has : ∀ a, O a → H a ≠ none
/-- the result and what the io arguments hold now -/
def RetC (fr : Bool) (H : Hp) (O : OS) (H' : Hp) (pk : List Kd) (vs : List V) (outs : List D) (d : D) (v : V) : Prop := if fr = true then ∃ p, v = .ref p ∧ H p = none ∧ Ow H' (OS.add O p) d v ∧ Outs H' (OS.add O p) pk vs outs else Rp H' O d v ∧ Outs H' O pk vs outs
def spD (pk : List Kd) (fr : Bool) (sp : DSp) : Sp := fun vs H Q _ => ∃ O ds, ArgsIn H O pk ds vs ∧ sp ds fun d outs => ∀ v H', (∀ b o, H b = some o → b ∉ ioL pk vs → H' b = some o) → (∀ b, H b ≠ none → H' b ≠ none) →
  RetC fr H O H' pk vs outs d v → Q v H'
theorem ArgsOk.len {H : Hp} {O : OS} : ∀ {pk : List Kd} {ds : List D} {vs : List V}, ArgsOk H O pk ds vs → vs.length = pk.length ∧ ds.length = pk.length
  | [], _, _, ⟨e1, e2⟩ => by subst e1 e2; exact ⟨rfl, rfl⟩
  | k :: ks, _, _, ⟨d, r, v, vr, e1, e2, _, h⟩ => by
    subst e1 e2
    obtain ⟨h1, h2⟩ := ArgsOk.len h
    exact ⟨by rw [List.length_cons, List.length_cons, h1], by rw [List.length_cons, List.length_cons, h2]⟩
theorem ArgsOk.get {H : Hp} {O : OS} : ∀ {pk : List Kd} {ds : List D} {vs : List V} {i : Nat} {d : D}, ArgsOk H O pk ds vs → ds[i]? = some d → ∃ v k, vs[i]? = some v ∧ pk[i]? = some k ∧ SlotOk H O k d v
  | [], _, _, i, d, ⟨e1, e2⟩, h => by subst e1; simp at h
  | k :: ks, _, _, 0, d, ⟨d', r, v, vr, e1, e2, s, _⟩, h => by
    subst e1 e2
    have e : d' = d := by simpa using h
    subst e
    exact ⟨v, k, rfl, rfl, s⟩
  | k :: ks, _, _, i + 1, d, ⟨d', r, v, vr, e1, e2, _, q⟩, h => by
    subst e1 e2
    obtain ⟨v', k', h1, h2, h3⟩ := ArgsOk.get (i := i) q (by simpa using h)
    exact ⟨v', k', by simpa using h1, by simpa using h2, h3⟩
theorem ioL_mem : ∀ {pk : List Kd} {vs : List V} {a : Addr}, a ∈ ioL pk vs ↔ ∃ i : Nat, pk[i]? = some .io ∧ vs[i]? = some (.ref a)
  | [], vs, a => by
    constructor
    · intro h; cases vs <;> simp [ioL] at h
    · rintro ⟨i, h, _⟩; simp at h
  | k :: ks, [], a => by
    constructor
    · intro h; cases k <;> simp [ioL] at h
    · rintro ⟨i, _, h⟩; simp at h
  | k :: ks, v :: vs, a => by
    have ih := ioL_mem (pk := ks) (vs := vs) (a := a)
    have tail : (∃ i : Nat, (k :: ks)[i]? = some .io ∧ (v :: vs)[i]? = some (.ref a)) ↔ (k = .io ∧ v = .ref a) ∨ a ∈ ioL ks vs := by
      rw [ih]
      constructor
      · rintro ⟨i, h1, h2⟩
        cases i with
        | zero => exact .inl ⟨by simpa using h1, by simpa using h2⟩
        | succ i => exact .inr ⟨i, by simpa using h1, by simpa using h2⟩
      · rintro (⟨rfl, rfl⟩ | ⟨i, h1, h2⟩)
        · exact ⟨0, rfl, rfl⟩
        · exact ⟨i + 1, by simpa using h1, by simpa using h2⟩
    rw [tail]
    cases k <;> cases v <;> simp [ioL, eq_comm]

/-! ### a def of the text -/
def outsD : List Kd → En → Option (List D)
  | [], _ => some []
  | .io :: ks, (some d) :: ε => (outsD ks ε).map (d :: ·)
  | .val :: ks, _ :: ε => outsD ks ε
  | .brw :: ks, _ :: ε => outsD ks ε
  | .own :: ks, _ :: ε => outsD ks ε
  | _, _ => none
def endsD (pk : List Kd) (fr : Bool) (Q : D → List D → Prop) : WEnds where
  nx := fun ε => fr = false ∧ ∃ outs, outsD pk ε = some outs ∧ Q .none outs
  rt := fun d ε => ∃ outs, outsD pk ε = some outs ∧ Q d outs
  bk := fun _ => False
  ct := fun _ => False
def startE (n : Nat) (ds : List D) : En := ds.map some ++ List.replicate (n - ds.length) none
def ioAt : Nat → List Kd → List V → List (Nat × Addr)
  | n, .io :: ks, .ref a :: vs => (n, a) :: ioAt (n + 1) ks vs
  | n, _ :: ks, _ :: vs => ioAt (n + 1) ks vs
  | _, _, _ => []
theorem ioAt_mem : ∀ {pk : List Kd} {vs : List V} {n i : Nat} {a : Addr}, (i, a) ∈ ioAt n pk vs ↔ ∃ j : Nat, i = n + j ∧ pk[j]? = some .io ∧ vs[j]? = some (.ref a)
  | [], vs, n, i, a => by
    constructor
    · intro h; cases vs <;> simp [ioAt] at h
    · rintro ⟨j, _, h, _⟩; simp at h
  | k :: ks, [], n, i, a => by
    constructor
    · intro h; cases k <;> simp [ioAt] at h
    · rintro ⟨j, _, _, h⟩; simp at h
  | k :: ks, v :: vs, n, i, a => by
    have ih := ioAt_mem (pk := ks) (vs := vs) (n := n + 1) (i := i) (a := a)
    have tail : (∃ j : Nat, i = n + j ∧ (k :: ks)[j]? = some .io ∧ (v :: vs)[j]? = some (.ref a)) ↔ (i = n ∧ k = .io ∧ v = .ref a) ∨ (i, a) ∈ ioAt (n + 1) ks vs := by
      rw [ih]
      constructor
      · rintro ⟨j, h0, h1, h2⟩
        cases j with
        | zero => exact .inl ⟨h0, by simpa using h1, by simpa using h2⟩
        | succ j => exact .inr ⟨j, by omega, by simpa using h1, by simpa using h2⟩
      · rintro (⟨rfl, rfl, rfl⟩ | ⟨j, h0, h1, h2⟩)
        · exact ⟨0, rfl, rfl, rfl⟩
        · exact ⟨j + 1, by omega, by simpa using h1, by simpa using h2⟩
    rw [tail]
    cases k <;> cases v <;> simp [ioAt, eq_comm]
theorem start_get {N : List Str} {vs : List V} {i : Nat} {v : V} : (L2.start N vs)[i]? = some (some v) ↔ vs[i]? = some v := by
  unfold L2.start
  by_cases h : i < vs.length
  · rw [List.getElem?_append_left (by rw [List.length_map]; exact h), List.getElem?_map, List.getElem?_eq_getElem h]
    simp
  · rw [List.getElem?_append_right (by rw [List.length_map]; omega), List.getElem?_replicate, List.getElem?_eq_none (by omega)]
    constructor
    · intro z; split at z <;> cases z
    · intro z; cases z
theorem startE_get {n : Nat} {ds : List D} {i : Nat} {d : D} : (startE n ds)[i]? = some (some d) ↔ ds[i]? = some d := by
  unfold startE
  by_cases h : i < ds.length
  · rw [List.getElem?_append_left (by rw [List.length_map]; exact h), List.getElem?_map, List.getElem?_eq_getElem h]
    simp
  · rw [List.getElem?_append_right (by rw [List.length_map]; omega), List.getElem?_replicate, List.getElem?_eq_none (by omega)]
    constructor
    · intro z; split at z <;> cases z
    · intro z; cases z
/-- io and brw stand among the parameters alone -/
def kindsB (pk κ : List Kd) : Bool := pk.isPrefixOf κ && (κ.drop pk.length).all (fun k => k == .val || k == .own) && pk.all (fun k => k != .own)
theorem abs_start {H : Hp} {O : OS} {pk κ : List Kd} {ds : List D} {vs : List V} {N : List Str} {fr : Bool} (h : ArgsIn H O pk ds vs) (hk : kindsB pk κ = true) (hl : κ.length = N.length) :
    Abs ⟨κ, H, O, ioAt 0 pk vs, [], fr⟩ O H (L2.start N vs) (startE N.length ds) := by
  unfold kindsB at hk
  simp only [Bool.and_eq_true, List.isPrefixOf_iff_prefix] at hk
  obtain ⟨⟨⟨κr, rfl⟩, hr⟩, hp⟩ := hk
  rw [List.drop_left] at hr
  have hr' : ∀ (i : Nat) k, κr[i]? = some k → k = .val ∨ k = .own := fun i k e => by simpa using List.all_eq_true.mp hr k (List.mem_of_getElem? e)
  have hp' : ∀ (i : Nat) k, pk[i]? = some k → k ≠ .own := fun i k e => by simpa using List.all_eq_true.mp hp k (List.mem_of_getElem? e)
  obtain ⟨l1, l2⟩ := h.ok.len
  have lN : pk.length ≤ N.length := by rw [← hl, List.length_append]; omega
  have ls : (L2.start N vs).length = N.length := by unfold L2.start; rw [List.length_append, List.length_map, List.length_replicate]; omega
  -- a defined slot is a parameter
  have par : ∀ {i : Nat} {v : V} {k : Kd}, (L2.start N vs)[i]? = some (some v) → (pk ++ κr)[i]? = some k → vs[i]? = some v ∧ pk[i]? = some k := fun {i v k} e e2 => by
    have e' := start_get.mp e
    have hi : i < pk.length := by rw [← l1]; exact (List.getElem?_eq_some_iff.mp e').1
    rw [List.getElem?_append_left hi] at e2
    exact ⟨e', e2⟩
  have muio : ∀ {i : Nat} {a : Addr}, mu (pk ++ κr) i → (L2.start N vs)[i]? = some (some (.ref a)) → pk[i]? = some .io ∧ vs[i]? = some (.ref a) := fun {i a} hm e => by
    rcases hm with hm | hm
    · exact absurd rfl (hp' i _ (par e hm).2)
    · exact ⟨(par e hm).2, (par e hm).1⟩
  have owO : ∀ {i : Nat} {a : Addr}, pk[i]? = some .io → vs[i]? = some (.ref a) → O a := fun {i a} h1 h2 => by
    have hi : i < ds.length := by rw [l2]; exact (List.getElem?_eq_some_iff.mp h1).1
    obtain ⟨v, k, e1, e2, s⟩ := h.ok.get (List.getElem?_eq_getElem hi)
    rw [h1] at e2
    cases e2
    rw [h2] at e1
    cases e1
    have s : Ow H O ds[i] (.ref a) := s
    match ds[i], s with
    | .list _, ⟨b, xs, e, n, _⟩ => cases e; exact n
    | .dict _, ⟨b, e, n, _⟩ => cases e; exact n
  refine ⟨fun i d e => ?_, fun a ⟨i, hm, e⟩ => ?_, fun i j a hi hj e e' => ?_, fun i b hk e => ?_, fun i a hk e => ?_, h.has, h.has, fun _ z => z, fun i a hi => ?_, fun i a hi => ?_, fun i a hi => ?_, fun i hk => ?_, fun _ _ e _ => e, (fun p hp => nomatch hp), ?_, ?_⟩
  · obtain ⟨v, k, e1, e2, s⟩ := h.ok.get (startE_get.mp e)
    refine ⟨v, k, start_get.mpr e1, ?_, s⟩
    show (pk ++ κr)[i]? = some k
    rw [List.getElem?_append_left (List.getElem?_eq_some_iff.mp e2).1, e2]
  · exact owO (muio hm e).1 (muio hm e).2
  · obtain ⟨h1, h2⟩ := muio hi e
    obtain ⟨h3, h4⟩ := muio hj e'
    -- no address twice
    have nd := h.nd
    have : ∀ {pk : List Kd} {vs : List V}, (ioL pk vs).Nodup → ∀ {i j : Nat} {a : Addr}, pk[i]? = some .io → vs[i]? = some (.ref a) → pk[j]? = some .io → vs[j]? = some (.ref a) → i = j := by
      intro pk
      induction pk with
      | nil => intro vs _ i j a h; simp at h
      | cons k ks ih =>
        intro vs nd i j a h1 h2 h3 h4
        cases vs with
        | nil => simp at h2
        | cons v vs =>
          have ndt : (ioL ks vs).Nodup := by
            cases k <;> cases v <;> first | exact nd | exact (List.nodup_cons.mp nd).2
          cases i with
          | zero =>
            cases j with
            | zero => rfl
            | succ j =>
              have e1 : k = .io := by simpa using h1
              have e2 : v = .ref a := by simpa using h2
              subst e1 e2
              have : a ∈ ioL ks vs := ioL_mem.mpr ⟨j, by simpa using h3, by simpa using h4⟩
              exact absurd this (List.nodup_cons.mp nd).1
          | succ i =>
            cases j with
            | zero =>
              have e1 : k = .io := by simpa using h3
              have e2 : v = .ref a := by simpa using h4
              subst e1 e2
              have : a ∈ ioL ks vs := ioL_mem.mpr ⟨i, by simpa using h1, by simpa using h2⟩
              exact absurd this (List.nodup_cons.mp nd).1
            | succ j => exact congrArg Nat.succ (ih ndt (i := i) (j := j) (a := a) (by simpa using h1) (by simpa using h2) (by simpa using h3) (by simpa using h4))
    exact this nd h1 h2 h3 h4
  · obtain ⟨h1, h2⟩ := par e hk
    refine ⟨?_, fun j hj => ?_⟩
    · have hi : i < ds.length := by rw [l2]; exact (List.getElem?_eq_some_iff.mp h2).1
      obtain ⟨v, k, e1, e2, s⟩ := h.ok.get (List.getElem?_eq_getElem hi)
      rw [h2] at e2
      cases e2
      rw [h1] at e1
      cases e1
      have s : Nb H O ds[i] (.ref b) := s
      match ds[i], s with
      | .none, e => cases (show V.ref b = .non from e)
      | .bool _, e => cases (show V.ref b = .bl _ from e)
      | .int _, e => cases (show V.ref b = .int _ from e)
      | .str _, e => cases (show V.ref b = .str _ from e)
      | .list _, ⟨c, xs, e, n, _⟩ => cases e; exact hp_some n
      | .tuple _, ⟨c, xs, e, n, _⟩ => cases e; exact hp_some n
      | .dict _, ⟨c, e, .inl ⟨kvs, n, _⟩⟩ => cases e; exact hp_some n
      | .dict _, ⟨c, e, .inr ⟨kvs, n, _⟩⟩ => cases e; exact hp_some n
    · obtain ⟨m, _, h3, h4⟩ := ioAt_mem.mp hj
      exact h.brw i b h2 h1 (ioL_mem.mpr ⟨m, h3, h4⟩)
  · exact absurd rfl (hp' i _ (par e hk).2)
  · obtain ⟨m, _, h3, h4⟩ := ioAt_mem.mp hi
    exact owO h3 h4
  · obtain ⟨m, e, h3, h4⟩ := ioAt_mem.mp hi
    have e : i = m := by omega
    subst e
    show (pk ++ κr)[i]? = some .io
    rw [List.getElem?_append_left (List.getElem?_eq_some_iff.mp h3).1, h3]
  · obtain ⟨m, e, h3, h4⟩ := ioAt_mem.mp hi
    have e : i = m := by omega
    subst e
    exact start_get.mpr h4
  · have hk : (pk ++ κr)[i]? = some .io := hk
    by_cases hi : i < pk.length
    · rw [List.getElem?_append_left hi] at hk
      have hid : i < ds.length := by rw [l2]; exact hi
      obtain ⟨v, k, e1, e2, s⟩ := h.ok.get (List.getElem?_eq_getElem hid)
      rw [hk] at e2
      cases e2
      have s : Ow H O ds[i] v := s
      obtain ⟨a, rfl⟩ : ∃ a, v = .ref a := by
        match ds[i], s with
        | .list _, ⟨b, xs, e, _⟩ => exact ⟨b, e⟩
        | .dict _, ⟨b, e, _⟩ => exact ⟨b, e⟩
      exact ⟨a, ioAt_mem.mpr ⟨i, by omega, hk, e1⟩⟩
    · rw [List.getElem?_append_right (by omega)] at hk
      rcases hr' _ _ hk with z | z <;> cases z
  · unfold startE
    rw [ls, List.length_append, List.length_map, List.length_replicate]
    omega
  · show (pk ++ κr).length = _
    rw [ls, hl]
theorem outs_of {H : Hp} {O : OS} {κ pk : List Kd} {vs : List V} {σ : L2.St} : ∀ {n : Nat} {ks : List Kd} {us : List V} {ε : En} {outs : List D}, us.length = ks.length → outsD ks (ε.drop n) = some outs → (∀ (j : Nat) (d : D) (a : Addr), ks[j]? = some .io → us[j]? = some (.ref a) → ε[n + j]? = some (some d) → Ow H O d (.ref a)) → (∀ (j : Nat), ks[j]? = some .io → ∃ a, us[j]? = some (.ref a)) → Outs H O ks us outs
  | n, [], us, ε, outs, hl, h, _, _ => by
    have e : some [] = some outs := h
    exact (Option.some.inj e).symm
  | n, k :: ks, [], ε, outs, hl, h, _, _ => by cases hl
  | n, k :: ks, u :: us, ε, outs, hl, h, ok, ex => by
    cases e : ε.drop n with
    | nil =>
      rw [e] at h
      cases k <;> cases (show none = some outs from h)
    | cons o r =>
      rw [e] at h
      have er : ε.drop (n + 1) = r := by rw [← List.tail_drop, e]; rfl
      have e0 : ε[n]? = some o := by
        have : (ε.drop n)[0]? = some o := by rw [e]; rfl
        rw [List.getElem?_drop] at this
        exact this
      have rc : ∀ {outs}, outsD ks r = some outs → Outs H O ks us outs := fun h' => outs_of (κ := κ) (pk := pk) (vs := vs) (σ := σ) (n := n + 1) (Nat.succ.inj hl) (by rw [er]; exact h') (fun j d a h1 h2 h3 => ok (j + 1) d a (by simpa using h1) (by simpa using h2) (by rw [← h3]; congr 1; omega)) (fun j h1 => by simpa using ex (j + 1) (by simpa using h1))
      refine ⟨u, us, rfl, ?_⟩
      cases k with
      | val => exact rc h
      | brw => exact rc h
      | own => exact rc h
      | io =>
        rw [if_pos rfl]
        cases o with
        | none => cases (show none = some outs from h)
        | some d =>
          obtain ⟨o', h1, h2⟩ := Option.map_eq_some_iff.mp (show (outsD ks r).map (d :: ·) = some outs from h)
          obtain ⟨a, ha⟩ := ex 0 rfl
          have ha : u = .ref a := by simpa using ha
          subst ha
          exact ⟨d, o', h2.symm, ok 0 d a rfl rfl e0, rc h1⟩

section
variable {P : Program} {w : World} {K : PySem.W.Frag} {mg : Str → Option Value} {base : Heap}
/-- THE RULE for a def: its walk (DSs .. w0) and the fact about data -/
theorem fn_okD {x qual : Str} {st : Stmt} {f : Addr} {fd : FuncData} {N ps : List Str} {k : Nat} {κ pk : List Kd} {fr : Bool} {sp : DSp} {w0 : WS} (F : Fun K x qual st f fd) (S : FnScope N ps (defScope st))
    (body : ∀ (cdv : Value) (A : Around) (outer : List Env) (s : Shared) (H : Hp) (E : XK), Room k (A.deeper (PyProof.Rows.envOfC qual (defScope st) s.heap.objs.size f cdv)) → (A.deeper (PyProof.Rows.envOfC qual (defScope st) s.heap.objs.size f cdv)).guards = some [] → DSs (cxOf CX0 P w K mg base N qual (defScope st) f cdv A outer s H E).nox κ fr (defBody st) w0)
    (math : ∀ ds Q, ds.length = ps.length → sp ds Q → w0 (endsD pk fr Q) (startE N.length ds)) (hk : kindsB pk κ = true := by rfl) (hl : κ.length = N.length := by rfl) (hp : pk.length = ps.length := by rfl) : FnG P w K mg base CX0 (k + 1) f fd ps (spD pk fr sp) := by
  refine fn_g F S (fun vs H Q E h => ?_) (fun cdv A outer s H vs Q E hr hgd h => ?_)
  · obtain ⟨O, ds, a, _⟩ := h
    rw [a.ok.len.1, hp]
  · obtain ⟨O, ds, a, q⟩ := h
    refine ⟨_, ((body cdv A outer s H E hr hgd).ps ⟨κ, H, O, ioAt 0 pk vs, [], fr⟩ rfl rfl).nox, O, startE N.length ds, abs_start a hk hl, ?_⟩
    have lv := a.ok.len
    have m := (body cdv A outer s H E hr hgd).mono
    -- the end of the def, from what stands then
    have fin : ∀ {d : D} {outs : List D} {ε : En} {v : V} {H' : Hp} {σ : L2.St} {O' : OS}, Abs ⟨κ, H, O, ioAt 0 pk vs, [], fr⟩ O' H' σ ε → RetOk ⟨κ, H, O, ioAt 0 pk vs, [], fr⟩ O' H' d v → outsD pk ε = some outs →
        (∀ v H', (∀ b o, H b = some o → b ∉ ioL pk vs → H' b = some o) → (∀ b, H b ≠ none → H' b ≠ none) → RetC fr H O H' pk vs outs d v → Q v H') → Q v H' := fun {d outs ε v H' σ O'} A' r e q => by
      have kk : ∀ b o, H b = some o → b ∉ ioL pk vs → H' b = some o := fun b o eb n => A'.fr b o eb fun i hi => n (by
        obtain ⟨j, _, h1, h2⟩ := ioAt_mem.mp hi
        exact ioL_mem.mpr ⟨j, h1, h2⟩)
      have outs' : ∀ O2 : OS, (∀ b, O b → O2 b) → (∀ b, O2 b → O' b) → Outs H' O2 pk vs outs := fun O2 w0 w => by
        refine outs_of (κ := κ) (pk := pk) (vs := vs) (σ := σ) (n := 0) (by rw [lv.1]) (by simpa using e) (fun j d a' h1 h2 h3 => ?_) (fun j h1 => ?_)
        · have h3 : ε[j]? = some (some d) := by simpa using h3
          have hj : (j, a') ∈ ioAt 0 pk vs := ioAt_mem.mpr ⟨j, by omega, h1, h2⟩
          obtain ⟨v', k', e1, e2, s'⟩ := A'.slot j d h3
          rw [A'.ioS j a' hj] at e1
          cases e1
          have e2' := A'.ioK j a' hj
          rw [e2] at e2'
          cases e2'
          have s' : Ow H' O' d (.ref a') := s'
          have hO : O2 a' := w0 _ (A'.ioO j a' hj)
          match d, s' with
          | .list _, ⟨b, xs, e, n, r, q⟩ => exact ⟨b, xs, e, by cases e; exact hO, r, RpL.anti w q⟩
          | .dict _, ⟨b, e, n, .inl ⟨kvs, r, q⟩⟩ => exact ⟨b, e, by cases e; exact hO, .inl ⟨kvs, r, RpK.ext (fun _ _ e _ => e) (fun a z => .inl (w a z)) q⟩⟩
          | .dict _, ⟨b, e, n, .inr ⟨kvs, r, q⟩⟩ => exact ⟨b, e, by cases e; exact hO, .inr ⟨kvs, r, RpT.ext (fun _ _ e _ => e) (fun a z => .inl (w a z)) q⟩⟩
        · have hjd : j < ds.length := by rw [lv.2]; exact (List.getElem?_eq_some_iff.mp h1).1
          obtain ⟨v', k', e1, e2, s'⟩ := a.ok.get (List.getElem?_eq_getElem hjd)
          rw [h1] at e2
          cases e2
          have s' : Ow H O ds[j] v' := s'
          match ds[j], s' with
          | .list _, ⟨b, xs, e, _⟩ => exact ⟨b, by rw [e1, e]⟩
          | .dict _, ⟨b, e, _⟩ => exact ⟨b, by rw [e1, e]⟩
      refine q v H' kk (fun b hb => ?_) ?_
      · by_cases z : b ∈ ioL pk vs
        · obtain ⟨j, h1, h2⟩ := ioL_mem.mp z
          have hj : (j, b) ∈ ioAt 0 pk vs := ioAt_mem.mpr ⟨j, by omega, h1, h2⟩
          exact A'.has b (A'.sub b (A'.ioO j b hj))
        · cases e : H b with
          | none => exact (hb e).elim
          | some o => rw [kk b o e z]; exact fun z => nomatch z
      · unfold RetOk at r
        unfold RetC
        cases fr with
        | true =>
          rw [if_pos rfl] at r ⊢
          obtain ⟨p, ev, hp, n0, ow⟩ := r
          exact ⟨p, ev, n0, ow, outs' _ (fun _ z => .inr z) fun b z => z.elim (fun e => e ▸ hp) (A'.sub b)⟩
        | false =>
          rw [if_neg Bool.false_ne_true] at r ⊢
          exact ⟨r, outs' O (fun _ z => z) A'.sub⟩
    have le : (endsD pk fr fun d outs => ∀ v H', (∀ b o, H b = some o → b ∉ ioL pk vs → H' b = some o) → (∀ b, H b ≠ none → H' b ≠ none) → RetC fr H O H' pk vs outs d v → Q v H').le
        (ends ⟨κ, H, O, ioAt 0 pk vs, [], fr⟩ { nx := fun _ H' => Q .non H', rt := Q }) := by
      refine ⟨fun ε ⟨hf, outs, e, q⟩ σ H' O' A' => ?_, fun d ε ⟨outs, e, q⟩ v H' σ O' A' r => fin A' r e q, fun ε z => z.elim, fun ε z => z.elim⟩
      refine fin A' ?_ e q
      unfold RetOk
      rw [hf, if_neg Bool.false_ne_true]
      rfl
    exact m _ _ _ le (math ds _ (by rw [lv.2, hp]) q)
/-- a def as its callers see it -/
structure Cal (P : Program) (w : World) (K : PySem.W.Frag) (mg : Str → Option Value) (base : Heap) (k : Nat) (x : Str) (ps : List Str) (pk : List Kd) (fr : Bool) (sp : DSp) : Prop where
  ex : ∃ f fd, FnG P w K mg base CX0 k f fd ps (spD pk fr sp) ∧ mg x = some (.ref f) ∧ PySem.W.keepIn K (.ref f) = true ∧ Binds K fd ps []
  mono : MonoD sp
theorem Cal.up {j k : Nat} {x : Str} {ps : List Str} {pk : List Kd} {fr : Bool} {sp : DSp} (C : Cal P w K mg base j x ps pk fr sp) (h : j ≤ k) : Cal P w K mg base k x ps pk fr sp :=
  let ⟨f, fd, F, a, b, c⟩ := C.ex
  ⟨⟨f, fd, F.mono h, a, b, c⟩, C.mono⟩
/-- another promise that follows -/
theorem Cal.imp {k : Nat} {x : Str} {ps : List Str} {pk : List Kd} {fr : Bool} {sp sp' : DSp} (C : Cal P w K mg base k x ps pk fr sp) (m : MonoD sp') (h : ∀ ds Q, sp' ds Q → sp ds Q) : Cal P w K mg base k x ps pk fr sp' :=
  let ⟨f, fd, F, a, b, c⟩ := C.ex
  ⟨⟨f, fd, F.imp fun vs H Q E ⟨O, ds, i, q⟩ => ⟨O, ds, i, h ds _ q⟩, a, b, c⟩, m⟩
end

/-! ### calls of the text's own defs -/
def putO : List Kd → List Op → List D → En → En
  | .io :: ks, .nm i :: os, d :: outs, ε => putO ks os outs (ε.set i (some d))
  | _ :: ks, _ :: os, outs, ε => putO ks os outs ε
  | _, _, _, ε => ε
def eCall (pk : List Kd) (sp : DSp) (os : List Op) : WE := fun ε Q => aEv os ε fun xs ε1 => ∃ ds, vals ε1 xs ds ∧ sp ds fun d outs => Q d (putO pk os outs ε1)
theorem eCall_mono {pk : List Kd} {sp : DSp} {os : List Op} (m : MonoD sp) (ma : MonoA os) : Mono (eCall pk sp os) := fun ε Q Q' h q => aEv_mono ma (fun xs ε1 ⟨ds, e, q⟩ => ⟨ds, e, m _ _ _ (fun d o z => h _ _ z) q⟩) q
def ioIx : List Kd → List Op → List Nat
  | .io :: ks, .nm i :: os => i :: ioIx ks os
  | _ :: ks, _ :: os => ioIx ks os
  | _, _ => []
def argOk1 (κ : List Kd) : Kd → Op → Bool
  | .val, .ex _ => true
  | .val, .nm i => decide (κ[i]? = some .val)
  | .brw, _ => true
  | .io, .nm i => decide (κ[i]? = some .own) || decide (κ[i]? = some .io)
  | .io, .ex _ => false
  | .own, _ => false
def brwIx : List Kd → List Op → List Nat
  | .brw :: ks, .nm i :: os => i :: brwIx ks os
  | _ :: ks, _ :: os => brwIx ks os
  | _, _ => []
def argOks (κ : List Kd) : List Kd → List Op → Bool
  | [], [] => true
  | k :: ks, o :: os => argOk1 κ k o && argOks κ ks os
  | _, _ => false
def argB (κ pk : List Kd) (os : List Op) : Bool := argOks κ pk os && decide (ioIx pk os).Nodup && (brwIx pk os).all fun i => !(ioIx pk os).contains i
def OpX : List Op → List (En → Option D) → Prop
  | [], xs => xs = []
  | .ex _ :: os, xs => ∃ d r, xs = (fun _ => some d) :: r ∧ OpX os r
  | .nm i :: os, xs => ∃ r, xs = slF i :: r ∧ OpX os r
theorem aEv_opx : ∀ {os : List Op}, MonoA os → ∀ {ε : En} {Q : List (En → Option D) → En → Prop}, aEv os ε Q → aEv os ε fun xs ε' => OpX os xs ∧ Q xs ε'
  | [], _, _, _, q => ⟨rfl, q⟩
  | .ex w :: os, m, ε, Q, q => m (.ex w) List.mem_cons_self ε _ _ (fun d ε1 q => aEv_mono (fun o ho => m o (List.mem_cons_of_mem _ ho)) (fun xs ε2 ⟨h, q⟩ => ⟨⟨d, xs, rfl, h⟩, q⟩) (aEv_opx (fun o ho => m o (List.mem_cons_of_mem _ ho)) q)) q
  | .nm i :: os, m, ε, Q, q => ⟨q.1, aEv_mono (fun o ho => m o (List.mem_cons_of_mem _ ho)) (fun xs ε2 ⟨h, q⟩ => ⟨⟨xs, rfl, h⟩, q⟩) (aEv_opx (fun o ho => m o (List.mem_cons_of_mem _ ho)) q.2)⟩
theorem no_const {i : Nat} {d : D} (h : slF i = fun _ => some d) : False := by
  have := congrFun h []
  simp [slF] at this
section
variable {g : Gx} {O : OS} {H : Hp} {σ : L2.St} {ε : En}
theorem slF_get {i : Nat} {d : D} (e : slF i ε = some d) : ε[i]? = some (some d) := by
  unfold slF at e
  cases q : ε[i]? with
  | none => rw [q] at e; cases e
  | some o => rw [q] at e; exact congrArg some e
theorem or_nm {i : Nat} {v : V} (h : OR H O σ (slF i) v) : σ[i]? = some (some v) := by
  rcases h with ⟨d, e, _⟩ | ⟨j, e, s⟩
  · exact (no_const e).elim
  · rw [slF_inj e]
    exact s
theorem or_ex {d : D} {v : V} (h : OR H O σ (fun _ => some d) v) : Rp H O d v := by
  rcases h with ⟨d', e, r⟩ | ⟨j, e, s⟩
  · have := congrFun e []
    cases this
    exact r
  · exact (no_const e.symm).elim
/-- the operands are what the callee asks -/
theorem args_ok (A : Abs g O H σ ε) : ∀ {pk : List Kd} {os : List Op} {xs : List (En → Option D)} {vs : List V} {ds : List D}, argOks g.κ pk os = true → OpX os xs → ORs H O σ xs vs → vals ε xs ds → ArgsOk H O pk ds vs
  | [], [], xs, vs, ds, _, e, ors, e2 => by
    have e : xs = [] := e
    subst e
    exact ⟨e2, ors⟩
  | k :: ks, o :: os, xs, vs, ds, h, ox, ors, e => by
    have h : argOk1 g.κ k o = true ∧ argOks g.κ ks os = true := by simpa [argOks] using h
    cases o with
    | ex w =>
      obtain ⟨d, r, rfl, ox⟩ := ox
      obtain ⟨v, vr, rfl, o1, ors⟩ := ors
      obtain ⟨d', dr, rfl, e1, e⟩ := e
      cases e1
      refine ⟨d, dr, v, vr, rfl, rfl, ?_, args_ok A h.2 ox ors e⟩
      have rp := or_ex o1
      cases k with
      | val => exact rp
      | brw => exact rp.nb
      | io => exact absurd h.1 (by simp [argOk1])
      | own => exact absurd h.1 (by simp [argOk1])
    | nm i =>
      obtain ⟨r, rfl, ox⟩ := ox
      obtain ⟨v, vr, rfl, o1, ors⟩ := ors
      obtain ⟨d, dr, rfl, e1, e⟩ := e
      refine ⟨d, dr, v, vr, rfl, rfl, ?_, args_ok A h.2 ox ors e⟩
      obtain ⟨v', k', s1, s2, s⟩ := A.slot i d (slF_get e1)
      rw [or_nm o1] at s1
      cases s1
      have h1 := h.1
      cases k with
      | val =>
        have : g.κ[i]? = some .val := by simpa [argOk1] using h1
        rw [this] at s2
        cases s2
        exact s
      | brw => exact s.nb
      | io =>
        have : g.κ[i]? = some .own ∨ g.κ[i]? = some .io := by simpa [argOk1] using h1
        rcases this with z | z <;> (rw [z] at s2; cases s2; exact s)
      | own => exact absurd h1 (by simp [argOk1])
  | [], o :: os, _, _, _, h, _, _, _ => by simp [argOks] at h
  | k :: ks, [], _, _, _, h, _, _, _ => by simp [argOks] at h
/-- the io arguments are slots of kind own or io -/
theorem io_slots (A : Abs g O H σ ε) : ∀ {pk : List Kd} {os : List Op} {xs : List (En → Option D)} {vs : List V}, argOks g.κ pk os = true → OpX os xs → ORs H O σ xs vs → ∀ (j : Nat) (a : Addr), pk[j]? = some .io → vs[j]? = some (.ref a) → ∃ i, os[j]? = some (.nm i) ∧ mu g.κ i ∧ σ[i]? = some (some (.ref a)) ∧ i ∈ ioIx pk os
  | [], [], _, _, _, _, _, j, a, h, _ => by simp at h
  | k :: ks, o :: os, xs, vs, h, ox, ors, j, a, h1, h2 => by
    have h : argOk1 g.κ k o = true ∧ argOks g.κ ks os = true := by simpa [argOks] using h
    have step : ∀ {r : List (En → Option D)} {vr : List V}, OpX os r → ORs H O σ r vr → ∀ j, ks[j]? = some .io → vr[j]? = some (.ref a) → ∃ i, (o :: os)[j + 1]? = some (.nm i) ∧ mu g.κ i ∧ σ[i]? = some (some (.ref a)) ∧ i ∈ ioIx (k :: ks) (o :: os) := fun ox ors j h1 h2 => by
      obtain ⟨i, e1, e2, e3, e4⟩ := io_slots A h.2 ox ors j a h1 h2
      refine ⟨i, by simpa using e1, e2, e3, ?_⟩
      cases k <;> cases o <;> first | exact e4 | exact List.mem_cons_of_mem _ e4
    cases o with
    | ex w =>
      obtain ⟨d, r, rfl, ox⟩ := ox
      obtain ⟨v, vr, rfl, o1, ors⟩ := ors
      cases j with
      | zero =>
        have : k = .io := by simpa using h1
        subst this
        exact absurd h.1 (by simp [argOk1])
      | succ j => exact step ox ors j (by simpa using h1) (by simpa using h2)
    | nm i =>
      obtain ⟨r, rfl, ox⟩ := ox
      obtain ⟨v, vr, rfl, o1, ors⟩ := ors
      cases j with
      | zero =>
        have : k = .io := by simpa using h1
        subst this
        have ev : v = .ref a := by simpa using h2
        subst ev
        exact ⟨i, rfl, by simpa [argOk1, mu] using h.1, or_nm o1, List.mem_cons_self⟩
      | succ j => exact step ox ors j (by simpa using h1) (by simpa using h2)
  | [], o :: os, _, _, h, _, _, _, _, _, _ => by simp [argOks] at h
  | k :: ks, [], _, _, h, _, _, _, _, _, _ => by simp [argOks] at h
theorem io_nd (A : Abs g O H σ ε) : ∀ {pk : List Kd} {os : List Op} {xs : List (En → Option D)} {vs : List V}, argOks g.κ pk os = true → OpX os xs → ORs H O σ xs vs → (ioIx pk os).Nodup → (ioL pk vs).Nodup
  | [], [], _, vs, _, _, _, _ => by cases vs <;> exact List.nodup_nil
  | k :: ks, o :: os, xs, vs, h0, ox, ors, nd => by
    have h : argOk1 g.κ k o = true ∧ argOks g.κ ks os = true := by simpa [argOks] using h0
    cases o with
    | ex w =>
      obtain ⟨d, r, rfl, ox⟩ := ox
      obtain ⟨v, vr, rfl, o1, ors⟩ := ors
      cases k with
      | io => exact absurd h.1 (by simp [argOk1])
      | val => exact (show (ioL ks vr).Nodup from io_nd A h.2 ox ors (show (ioIx ks os).Nodup from nd))
      | brw => exact (show (ioL ks vr).Nodup from io_nd A h.2 ox ors (show (ioIx ks os).Nodup from nd))
      | own => exact (show (ioL ks vr).Nodup from io_nd A h.2 ox ors (show (ioIx ks os).Nodup from nd))
    | nm i =>
      obtain ⟨r, rfl, ox⟩ := ox
      obtain ⟨v, vr, rfl, o1, ors⟩ := ors
      cases k with
      | val => exact (show (ioL ks vr).Nodup from io_nd A h.2 ox ors (show (ioIx ks os).Nodup from nd))
      | brw => exact (show (ioL ks vr).Nodup from io_nd A h.2 ox ors (show (ioIx ks os).Nodup from nd))
      | own => exact (show (ioL ks vr).Nodup from io_nd A h.2 ox ors (show (ioIx ks os).Nodup from nd))
      | io =>
        have nd' : i ∉ ioIx ks os ∧ (ioIx ks os).Nodup := List.nodup_cons.mp nd
        have ih := io_nd A h.2 ox ors nd'.2
        cases v with
        | ref a =>
          refine List.nodup_cons.mpr ⟨fun z => ?_, ih⟩
          obtain ⟨j, h1, h2⟩ := ioL_mem.mp z
          obtain ⟨i', _, m', s', e'⟩ := io_slots A h.2 ox ors j a h1 h2
          have : i = i' := A.apart i i' a (by simpa [argOk1, mu] using h.1) m' (or_nm o1) s'
          exact nd'.1 (this ▸ e')
        | non => exact ih
        | bl _ => exact ih
        | int _ => exact ih
        | str _ => exact ih
        | byt _ => exact ih
        | flt _ => exact ih
        | ty _ => exact ih
  | [], o :: os, _, _, h, _, _, _ => by simp [argOks] at h
  | k :: ks, [], _, _, h, _, _, _ => by simp [argOks] at h
theorem brw_ix : ∀ {pk : List Kd} {os : List Op} {j i : Nat}, pk[j]? = some .brw → os[j]? = some (.nm i) → i ∈ brwIx pk os
  | [], _, j, _, h, _ => by simp at h
  | k :: ks, [], j, _, _, h => by simp at h
  | k :: ks, o :: os, 0, i, h1, h2 => by
    have e1 : k = .brw := by simpa using h1
    have e2 : o = .nm i := by simpa using h2
    subst e1 e2
    exact List.mem_cons_self
  | k :: ks, o :: os, j + 1, i, h1, h2 => by
    have ih := brw_ix (pk := ks) (os := os) (j := j) (i := i) (by simpa using h1) (by simpa using h2)
    cases k <;> cases o <;> first | exact ih | exact List.mem_cons_of_mem _ ih
theorem ors_get : ∀ {os : List Op} {xs : List (En → Option D)} {vs : List V} {j : Nat} {v : V}, OpX os xs → ORs H O σ xs vs → vs[j]? = some v → (∃ i : Nat, os[j]? = some (Op.nm i) ∧ σ[i]? = some (some v)) ∨ ∃ d, Rp H O d v
  | [], xs, vs, j, v, e, ors, h => by
    have e : xs = [] := e
    subst e
    have ors : vs = [] := ors
    subst ors
    simp at h
  | .ex w :: os, xs, vs, j, v, ox, ors, h => by
    obtain ⟨d, r, rfl, ox⟩ := ox
    obtain ⟨u, vr, rfl, o1, ors⟩ := ors
    cases j with
    | zero =>
      have e : u = v := by simpa using h
      subst e
      exact .inr ⟨d, or_ex o1⟩
    | succ j => exact (ors_get (j := j) ox ors (by simpa using h)).imp (fun ⟨i, a, b⟩ => ⟨i, by simpa using a, b⟩) id
  | .nm i :: os, xs, vs, j, v, ox, ors, h => by
    obtain ⟨r, rfl, ox⟩ := ox
    obtain ⟨u, vr, rfl, o1, ors⟩ := ors
    cases j with
    | zero =>
      have e : u = v := by simpa using h
      subst e
      exact .inl ⟨i, rfl, or_nm o1⟩
    | succ j => exact (ors_get (j := j) ox ors (by simpa using h)).imp (fun ⟨i, a, b⟩ => ⟨i, by simpa using a, b⟩) id
theorem rp_ref {d : D} {a : Addr} (h : Rp H O d (.ref a)) : ¬ O a := by
  match d, h with
  | .none, e => cases (show V.ref a = .non from e)
  | .bool _, e => cases (show V.ref a = .bl _ from e)
  | .int _, e => cases (show V.ref a = .int _ from e)
  | .str _, e => cases (show V.ref a = .str _ from e)
  | .list _, ⟨c, xs, e, n, _⟩ => cases e; exact n
  | .tuple _, ⟨c, xs, e, n, _⟩ => cases e; exact n
  | .dict _, ⟨c, e, n, _⟩ => cases e; exact n
theorem args_in (A : Abs g O H σ ε) {pk : List Kd} {os : List Op} {xs : List (En → Option D)} {vs : List V} {ds : List D} (h : argB g.κ pk os = true) (ox : OpX os xs) (ors : ORs H O σ xs vs) (e : vals ε xs ds) : ArgsIn H O pk ds vs := by
  unfold argB at h
  simp only [Bool.and_eq_true, decide_eq_true_eq] at h
  obtain ⟨⟨h1, h2⟩, h3⟩ := h
  refine ⟨args_ok A h1 ox ors e, io_nd A h1 ox ors h2, fun j b hj hv z => ?_, A.has⟩
  obtain ⟨m, hm, hv2⟩ := ioL_mem.mp z
  obtain ⟨i, _, mi, si, ii⟩ := io_slots A h1 ox ors m b hm hv2
  rcases ors_get ox ors hv with ⟨i2, o2, s2⟩ | ⟨d, rp⟩
  · have b2 := brw_ix hj o2
    have n2 : ¬ i2 ∈ ioIx pk os := by simpa using List.all_eq_true.mp h3 i2 b2
    have ok := args_ok A h1 ox ors e
    -- the borrowed name is no changed one
    have : i ≠ i2 := fun q => n2 (q ▸ ii)
    have l : j < ds.length := by rw [ok.len.2]; exact (List.getElem?_eq_some_iff.mp hj).1
    by_cases k2 : mu g.κ i2
    · exact this (A.apart i i2 b mi k2 si s2)
    · -- a borrowed or clean slot
      have l2 : i2 < g.κ.length := by rw [A.lenK]; exact (List.getElem?_eq_some_iff.mp s2).1
      cases e2 : g.κ[i2] with
      | own => exact k2 (.inl (by rw [List.getElem?_eq_getElem l2, e2]))
      | io => exact k2 (.inr (by rw [List.getElem?_eq_getElem l2, e2]))
      | brw =>
        obtain ⟨n0, nio⟩ := A.brwA i2 b (by rw [List.getElem?_eq_getElem l2, e2]) s2
        rcases mi with mi | mi
        · exact n0 (A.new i b mi si)
        · obtain ⟨c, hc⟩ := A.ioA i mi
          have := A.ioS i c hc
          rw [si] at this
          cases this
          exact nio i hc
      | val =>
        have : ∀ {os : List Op} {xs : List (En → Option D)} {ds : List D} {j : Nat}, OpX os xs → vals ε xs ds → os[j]? = some (.nm i2) → ∃ d, ε[i2]? = some (some d) := by
          intro os
          induction os with
          | nil => intro xs ds j _ _ h; simp at h
          | cons o os ih =>
            intro xs ds j ox e h
            cases o with
            | ex w =>
              obtain ⟨d, r, rfl, ox⟩ := ox
              obtain ⟨d', dr, rfl, e1, e⟩ := e
              cases j with
              | zero => simp at h
              | succ j => exact ih ox e (by simpa using h)
            | nm i =>
              obtain ⟨r, rfl, ox⟩ := ox
              obtain ⟨d', dr, rfl, e1, e⟩ := e
              cases j with
              | zero =>
                have q : i = i2 := by simpa using h
                subst q
                exact ⟨d', slF_get e1⟩
              | succ j => exact ih ox e (by simpa using h)
        obtain ⟨d, ed⟩ := this ox e o2
        obtain ⟨v', k', s1, s3, s⟩ := A.slot i2 d ed
        rw [List.getElem?_eq_getElem l2, e2] at s3
        cases s3
        rw [s2] at s1
        cases s1
        exact rp_ref s (A.ownO b ⟨i, mi, si⟩)
  · exact rp_ref rp (A.ownO b ⟨i, mi, si⟩)
theorem putO_len : ∀ (pk : List Kd) (os : List Op) (outs : List D) (ε : En), (putO pk os outs ε).length = ε.length
  | [], _, _, _ => rfl
  | k :: ks, [], _, _ => by cases k <;> rfl
  | k :: ks, o :: os, outs, ε => by
    cases k with
    | val => exact putO_len ks os outs ε
    | brw => exact putO_len ks os outs ε
    | own => exact putO_len ks os outs ε
    | io =>
      cases o with
      | ex w => exact putO_len ks os outs ε
      | nm i =>
        cases outs with
        | nil => exact putO_len ks os [] ε
        | cons d outs => exact (putO_len ks os outs _).trans (by rw [List.length_set])
/-- what stands behind a call: each slot holds what the callee told, or what it held -/
theorem putO_get {H' : Hp} {O2 : OS} : ∀ {pk : List Kd} {os : List Op} {xs : List (En → Option D)} {vs : List V} {outs : List D} {ε : En} {j : Nat} {d : D}, argOks g.κ pk os = true → OpX os xs → ORs H O σ xs vs → Outs H' O2 pk vs outs → (ioIx pk os).Nodup → (putO pk os outs ε)[j]? = some (some d) →
    (∃ (m : Nat) (a : Addr), pk[m]? = some .io ∧ os[m]? = some (.nm j) ∧ vs[m]? = some (.ref a) ∧ σ[j]? = some (some (.ref a)) ∧ Ow H' O2 d (.ref a)) ∨ (ε[j]? = some (some d) ∧ j ∉ ioIx pk os)
  | [], os, xs, vs, outs, ε, j, d, _, _, _, _, _, e => .inr ⟨e, by simp [ioIx]⟩
  | k :: ks, [], xs, vs, outs, ε, j, d, _, ox, ors, ou, _, e => by
    refine .inr ⟨?_, ?_⟩
    · cases k <;> exact e
    · cases k <;> simp [ioIx]
  | k :: ks, o :: os, xs, vs, outs, ε, j, d, ha, ox, ors, ou, nd, e => by
    have ha : argOk1 g.κ k o = true ∧ argOks g.κ ks os = true := by simpa [argOks] using ha
    have lift : ∀ {vr : List V} {u : V}, (∃ (m : Nat) (a : Addr), ks[m]? = some .io ∧ os[m]? = some (.nm j) ∧ vr[m]? = some (.ref a) ∧ σ[j]? = some (some (.ref a)) ∧ Ow H' O2 d (.ref a)) → ∃ (m : Nat) (a : Addr), (k :: ks)[m]? = some .io ∧ (o :: os)[m]? = some (.nm j) ∧ (u :: vr)[m]? = some (.ref a) ∧ σ[j]? = some (some (.ref a)) ∧ Ow H' O2 d (.ref a) :=
      fun ⟨m, a, h1, h2, h3, h4, h5⟩ => ⟨m + 1, a, by simpa using h1, by simpa using h2, by simpa using h3, h4, h5⟩
    obtain ⟨u, vr, ev, ou⟩ := ou
    subst ev
    have os' : ∃ r, OpX os r ∧ ORs H O σ r vr ∧ (∀ i, o = .nm i → σ[i]? = some (some u)) := by
      cases o with
      | ex w =>
        obtain ⟨d, r, rfl, ox⟩ := ox
        obtain ⟨v, vr', e, o1, ors⟩ := ors
        cases e
        exact ⟨r, ox, ors, fun i e => nomatch e⟩
      | nm i =>
        obtain ⟨r, rfl, ox⟩ := ox
        obtain ⟨v, vr', e, o1, ors⟩ := ors
        cases e
        exact ⟨r, ox, ors, fun i' e => by cases e; exact or_nm o1⟩
    obtain ⟨r, ox2, ors2, su⟩ := os'
    cases k with
    | val => exact (putO_get ha.2 ox2 ors2 ou (show (ioIx ks os).Nodup by cases o <;> exact nd) e).imp lift (fun z => ⟨z.1, by cases o <;> exact z.2⟩)
    | brw => exact (putO_get ha.2 ox2 ors2 ou (show (ioIx ks os).Nodup by cases o <;> exact nd) e).imp lift (fun z => ⟨z.1, by cases o <;> exact z.2⟩)
    | own => exact (putO_get ha.2 ox2 ors2 ou (show (ioIx ks os).Nodup by cases o <;> exact nd) e).imp lift (fun z => ⟨z.1, by cases o <;> exact z.2⟩)
    | io =>
      rw [if_pos rfl] at ou
      obtain ⟨d0, or', rfl, ow, ou⟩ := ou
      cases o with
      | ex w => exact absurd ha.1 (by simp [argOk1])
      | nm i =>
        have nd' : i ∉ ioIx ks os ∧ (ioIx ks os).Nodup := List.nodup_cons.mp nd
        rcases putO_get (ε := ε.set i (some d0)) ha.2 ox2 ors2 ou nd'.2 e with h | ⟨h, n⟩
        · exact .inl (lift h)
        · by_cases q : i = j
          · subst q
            have hi : i < ε.length := by
              have := (List.getElem?_eq_some_iff.mp h).1
              rwa [List.length_set] at this
            rw [List.getElem?_set_self hi] at h
            cases h
            have s := su i rfl
            obtain ⟨a, rfl⟩ : ∃ a, u = .ref a := by
              match d, ow with
              | .list _, ⟨b, xs, e, _⟩ => exact ⟨b, e⟩
              | .dict _, ⟨b, e, _⟩ => exact ⟨b, e⟩
            exact .inl ⟨0, a, rfl, rfl, rfl, s, ow⟩
          · rw [get_set_ne q] at h
            exact .inr ⟨h, fun z => (List.mem_cons.mp z).elim (fun e => q e.symm) n⟩
end
end DL

namespace DL
open PySem PySem.Spec L2
section
variable {X : Cx} {κ : List Kd} {fr : Bool} {pos : Pos} {e a : Expr} {es : List Expr} {os : List Op}
theorem ow_ref {H : Hp} {O : OS} {d : D} {a : Addr} (h : Ow H O d (.ref a)) : H a ≠ none := by
  match d, h with
  | .list _, ⟨b, xs, e, _, r, _⟩ => cases e; exact hp_some r
  | .dict _, ⟨b, e, _, .inl ⟨kvs, r, _⟩⟩ => cases e; exact hp_some r
  | .dict _, ⟨b, e, _, .inr ⟨kvs, r, _⟩⟩ => cases e; exact hp_some r
theorem call_core {g : Gx} {pk : List Kd} {sp : DSp} {fr : Bool} (m : MonoA os) (ms : MonoD sp) (hb : argB g.κ pk os = true) {σ : L2.St} {H : Hp} {E : XK} {O : OS} {ε : En} {Q : D → En → Prop} {R : VK} (A : Abs g O H σ ε) (q : eCall pk sp os ε Q)
    (k : ∀ d ε' v H1 H' O1, Ext g.κ σ O H O1 H1 → Ext g.κ σ O1 H1 O1 H' → (∀ a, O1 a → H1 a ≠ none) → ((fr = false ∧ Rp H' O1 d v ∧ Abs g O1 H' σ ε') ∨ ∃ p, fr = true ∧ v = .ref p ∧ H1 p = none ∧ Ow H' (OS.add O1 p) d v ∧ Abs g (OS.add O1 p) H' σ ε') → Q d ε' → R v H') : rdA g os σ H fun vs H1 => spD pk fr sp vs H1 R E := by
  refine ⟨O, ε, A, aEv_mono m (fun xs ε1 ⟨ox, ds, e, q⟩ vs H1 O1 A1 x1 ors => ?_) (aEv_opx m q)⟩
  show spD pk fr sp vs H1 R E
  have ai := args_in A1 hb ox ors e
  refine ⟨O1, ds, ai, ms _ _ _ (fun d outs z v H' kk so r => ?_) q⟩
  have hb' := hb
  unfold argB at hb'
  simp only [Bool.and_eq_true, decide_eq_true_eq] at hb'
  have hS : ∀ a ∈ ioL pk vs, OwnAt g.κ σ a := fun a ha => by
    obtain ⟨j, h1, h2⟩ := ioL_mem.mp ha
    obtain ⟨i, _, mi, si, _⟩ := io_slots A1 hb'.1.1 ox ors j a h1 h2
    exact ⟨i, mi, si⟩
  have A2 : ∀ O2 : OS, Outs H' O2 pk vs outs → (∀ a, O2 a → O1 a ∨ H1 a = none) → (∀ a, O1 a → O2 a) → (∀ a, O2 a → H' a ≠ none) → Abs g O2 H' σ (putO pk os outs ε1) := fun O2 ou w mo hn => A1.muts hS kk so (putO_len _ _ _ _) (fun j d' ej => by
    rcases putO_get (g := g) hb'.1.1 ox (ors) ou hb'.1.2 ej with ⟨m', a, h1, h2, h3, h4, h5⟩ | ⟨h1, h2⟩
    · obtain ⟨i, e1, mi, si, _⟩ := io_slots A1 hb'.1.1 ox ors m' a h1 h3
      rw [h2] at e1
      cases e1
      exact .inl ⟨a, mi, h4, ioL_mem.mpr ⟨m', h1, h3⟩, h5⟩
    · refine .inr ⟨h1, fun a mj sj z => ?_⟩
      obtain ⟨m', h3, h4⟩ := ioL_mem.mp z
      obtain ⟨i, e1, mi, si, ii⟩ := io_slots A1 hb'.1.1 ox ors m' a h3 h4
      rw [A1.apart j i a mj mi sj si] at h2
      exact h2 ii) w mo hn
  refine k d _ v H1 H' O1 x1 (muts_ext hS kk so) A1.has ?_ z
  unfold RetC at r
  cases fr with
  | false =>
    rw [if_neg Bool.false_ne_true] at r
    exact .inl ⟨rfl, r.1, A2 O1 r.2 (fun _ z => .inl z) (fun _ z => z) fun a z => so a (A1.has a z)⟩
  | true =>
    rw [if_pos rfl] at r
    obtain ⟨p, ev, np, ow, ou⟩ := r
    refine .inr ⟨p, rfl, ev, np, ow, A2 _ ou (fun a z => z.elim (fun e => .inr (e ▸ np)) .inl) (fun _ z => .inr z) fun a z => z.elim (fun e => ?_) fun z => so a (A1.has a z)⟩
    rw [e]
    rw [ev] at ow
    exact ow_ref ow
theorem de_call {x : Str} {p : Pos} {k : Nat} {ps : List Str} {pk : List Kd} {sp : DSp} (C : Cal X.prog X.w X.K X.mg X.base k x ps pk false sp) (hr : Room k X.A) (hgd : X.A.guards = some []) (ha : DA X κ (a :: es) os) (hg : Gl X x := by rfl) (hb : argB κ pk os = true := by rfl) (hdb : (x == ("__debug__" : Str)) = false := by decide) :
    DE X κ (.Call (.Name x p) (a :: es) [] pos) (eCall pk sp os) := by
  obtain ⟨f, fd, F, hm, hk, hbi⟩ := C.ex
  refine ⟨fun g hg' => (pe_callG F hr hgd hg hm hk hbi (E := E0) pass0 (ha.pa g hg') hdb (st_cons ha.hd.1) (st_any ha.hd.2)).imp fun σ H Q ⟨O, ε, A, q⟩ => ?_, eCall_mono C.mono ha.mono⟩
  refine call_core ha.mono C.mono (by rw [hg']; exact hb) A q fun d ε' v H1 H' O1 x1 x2 _ r z => ?_
  rcases r with ⟨_, rp, A'⟩ | ⟨_, h, _⟩
  · exact z v H' O1 A' (x1.trans x2) rp
  · cases h
theorem df_call {x : Str} {p : Pos} {k : Nat} {ps : List Str} {pk : List Kd} {sp : DSp} (C : Cal X.prog X.w X.K X.mg X.base k x ps pk true sp) (hr : Room k X.A) (hgd : X.A.guards = some []) (ha : DA X κ (a :: es) os) (hg : Gl X x := by rfl) (hb : argB κ pk os = true := by rfl) (hdb : (x == ("__debug__" : Str)) = false := by decide) :
    DF X κ (.Call (.Name x p) (a :: es) [] pos) (eCall pk sp os) := by
  obtain ⟨f, fd, F, hm, hk, hbi⟩ := C.ex
  refine ⟨fun g hg' => (pe_callG F hr hgd hg hm hk hbi (E := E0) pass0 (ha.pa g hg') hdb (st_cons ha.hd.1) (st_any ha.hd.2)).imp fun σ H Q ⟨O, ε, A, q⟩ => ?_, eCall_mono C.mono ha.mono⟩
  refine call_core ha.mono C.mono (by rw [hg']; exact hb) A q fun d ε' v H1 H' O1 x1 x2 hO r z => ?_
  rcases r with ⟨h, _⟩ | ⟨p, _, rfl, np, ow, A'⟩
  · cases h
  · refine z p H' (OS.add O1 p) A' ?_ (.inl rfl) (Classical.byContradiction fun q => x1.some p q np) ow
    have x3 := x1.trans x2
    exact ⟨x3.keep, fun a z => z.elim (fun e => .inr (by rw [e]; exact Classical.byContradiction fun q => x1.some p q np)) (x3.own a), fun a z => .inr (x3.mono a z), x3.some⟩

/-! ### methods that change an own list or dict -/
def MuOk (r : V → List V → Hp → VK → Prop) (f : D → List D → Option (D × D)) : Prop := ∀ (H : Hp) (O : OS) (a : Addr) (cur res new : D) (ds : List D) (xs : List V) (Q : VK), Ow H O cur (.ref a) → RpL H O ds xs → f cur ds = some (res, new) →
  (∀ v H', (∀ b o, b ≠ a → H b = some o → H' b = some o) → H' a ≠ none → Ow H' O new (.ref a) → Rp H' O res v → Q v H') → r (.ref a) xs H Q
def isL : D → Bool
  | .list _ => true
  | _ => false
def eMut (i : Nat) (f : D → List D → Option (D × D)) (ws : List WE) : WE := fun ε Q => (∃ d, ε[i]? = some (some d) ∧ isL d = true) ∧ cEv ws ε fun ds ε1 => ∃ cur res new, ε1[i]? = some (some cur) ∧ f cur ds = some (res, new) ∧ Q res (ε1.set i (some new))
theorem eMut_mono {i : Nat} {f : D → List D → Option (D × D)} {ws : List WE} (m : MonoC ws) : Mono (eMut i f ws) := fun ε Q Q' h ⟨h1, q⟩ => ⟨h1, cEv_mono m (fun ds ε1 ⟨cur, res, new, e1, e2, q⟩ => ⟨cur, res, new, e1, e2, h _ _ q⟩) q⟩
theorem mu_get {g : Gx} {O : OS} {H : Hp} {σ : L2.St} {ε : En} (A : Abs g O H σ ε) {i : Nat} (hk : mu g.κ i) {d : D} (e : ε[i]? = some (some d)) : ∃ a, σ[i]? = some (some (.ref a)) ∧ Ow H O d (.ref a) := by
  obtain ⟨v, k, e1, e2, s⟩ := A.slot i d e
  have ow : Ow H O d v := by
    rcases hk with hk | hk <;> (rw [hk] at e2; cases e2; exact s)
  obtain ⟨a, rfl⟩ : ∃ a, v = .ref a := by
    match d, ow with
    | .list _, ⟨b, xs, e, _⟩ => exact ⟨b, e⟩
    | .dict _, ⟨b, e, _⟩ => exact ⟨b, e⟩
  exact ⟨a, e1, ow⟩
theorem mut_core {g : Gx} {i : Nat} {r : V → List V → Hp → VK → Prop} {f : D → List D → Option (D × D)} {ws : List WE} (hr : MuOk r f) (hk : mu g.κ i) (m : MonoC ws) {σ : L2.St} {H : Hp} {Q : VK} (q : rdE g (eMut i f ws) σ H Q) :
    ∃ v, σ[i]? = some (some v) ∧ tyV X.K "list" v H ∧ rdC g ws σ H fun xs H2 => r v xs H2 Q := by
  obtain ⟨O, ε, A, ⟨d, ed, hd⟩, q⟩ := q
  obtain ⟨a, ea, ow⟩ := mu_get A hk ed
  refine ⟨.ref a, ea, ?_, O, ε, A, cEv_mono m (fun ds ε1 ⟨cur, res, new, e1, e2, q⟩ vs H1 O1 A1 x1 rl => ?_) q⟩
  · cases d with
    | list _ =>
      obtain ⟨b, xs, e, _, r, _⟩ := ow
      cases e
      exact Or.inl ⟨rfl, _, SqL.of r⟩
    | none => cases hd
    | bool _ => cases hd
    | int _ => cases hd
    | str _ => cases hd
    | tuple _ => cases hd
    | dict _ => cases hd
  · obtain ⟨a', ea', ow1⟩ := mu_get A1 hk e1
    rw [ea] at ea'
    cases ea'
    refine hr H1 O1 a cur res new ds vs Q ow1 rl e2 fun v H' kb hs ow2 rp => ?_
    exact q v H' O1 (A1.mut hk ea kb hs ow2) (x1.trans (mut_ext hk ea kb hs)) rp
variable {i : Nat} {x m : Str} {id : String} {npos apos : Pos}
theorem de_mut {r : V → List V → Hp → VK → Prop} {f : D → List D → Option (D × D)} {ws : List WE} (slot : Slot "list" m id) (hty : typeOf (.builtin id) = pure (.type "method_descriptor")) (hm : MtR X id r) (hf : MuOk r f) (ha : DC X κ (e :: es) ws)
    (hk : (decide (κ[i]? = some .own) || decide (κ[i]? = some .io)) = true := by rfl) (hN : X.N[i]? = some x := by rfl) (hv : Vis X.env.scope x := by first | exact Or.inl rfl | exact Or.inr (Or.inl rfl) | exact Or.inr (Or.inr rfl)) (hd : (x == ("__debug__" : Str)) = false := by decide)
    (hcd : (x == ("__classdict__" : Str)) = false := by decide) (hst : (e :: es).all notStar = true := by rfl) (hlen : (decide ((e :: es).length + ([] : List Keyword).length + (if ([] : List Keyword).isEmpty then 0 else 1) < 30)) = true := by rfl)
    (hbase : attributeBase (.Name x npos) m X.env (eval (.Name x npos) X.env) = eval (.Name x npos) X.env := by rfl) (hline : (apos.endLine == pos.line) = true := by rfl) :
    DE X κ (.Call (.Attribute (.Name x npos) m apos) (e :: es) [] pos) (eMut i f ws) := by
  have hs : notStar e = true ∧ es.all notStar = true := by rwa [List.all_cons, Bool.and_eq_true] at hst
  refine ⟨fun g hg => (pe_bm PySem.F.plainAttrs_list slot hty hm (pe_var hN hv hd hcd) (ha.pa g hg) hbase (by rw [st_all hst, hlen]; rfl) hline (st_cons hs.1) (st_any hs.2)).imp fun σ H Q q => ?_, eMut_mono ha.mono⟩
  have hk' : mu g.κ i := by
    rw [hg]
    simpa [mu] using hk
  exact mut_core hf hk' ha.mono q
theorem de_mut0 {r : V → List V → Hp → VK → Prop} {f : D → List D → Option (D × D)} (slot : Slot "list" m id) (hty : typeOf (.builtin id) = pure (.type "method_descriptor")) (hm : MtR X id r) (hf : MuOk r f)
    (hk : (decide (κ[i]? = some .own) || decide (κ[i]? = some .io)) = true := by rfl) (hN : X.N[i]? = some x := by rfl) (hv : Vis X.env.scope x := by first | exact Or.inl rfl | exact Or.inr (Or.inl rfl) | exact Or.inr (Or.inr rfl)) (hd : (x == ("__debug__" : Str)) = false := by decide)
    (hcd : (x == ("__classdict__" : Str)) = false := by decide) (hbase : attributeBase (.Name x npos) m X.env (eval (.Name x npos) X.env) = eval (.Name x npos) X.env := by rfl) (hline : (apos.endLine == pos.line) = true := by rfl) :
    DE X κ (.Call (.Attribute (.Name x npos) m apos) [] [] pos) (eMut i f []) := by
  refine ⟨fun g hg => (pe_bm0 PySem.F.plainAttrs_list slot hty hm (pe_var hN hv hd hcd) hbase hline).imp fun σ H Q q => ?_, eMut_mono fun _ h => nomatch h⟩
  have hk' : mu g.κ i := by
    rw [hg]
    simpa [mu] using hk
  obtain ⟨v, e1, e2, O, ε, A, q⟩ := mut_core (X := X) (ws := []) hf hk' (fun _ h => nomatch h) q
  exact ⟨v, e1, e2, q [] H O A .refl rfl⟩
/-! ### x[k] = e of an own list -/
def PutOk (t : TSet) (f : D → D → D → Option D) : Prop := ∀ (H : Hp) (O : OS) (a : Addr) (cur k d new : D) (kv v : V) (Q : Hp → Prop), Ow H O cur (.ref a) → Rp H O k kv → Rp H O d v → f cur k d = some new →
  (∀ H', (∀ b o, b ≠ a → H b = some o → H' b = some o) → H' a ≠ none → Ow H' O new (.ref a) → Q H') → t (.ref a) kv v H Q
def sPut (i : Nat) (f : D → D → D → Option D) (w wk : WE) : WS := fun E ε => w ε fun d ε1 => (∃ c, ε1[i]? = some (some c)) ∧ wk ε1 fun k ε2 => ∃ cur new, ε2[i]? = some (some cur) ∧ f cur k d = some new ∧ E.nx (ε2.set i (some new))
theorem ds_put {t : TSet} {f : D → D → D → Option D} {k : Expr} {w wk : WE} {tpos : Pos} (ht : PSet X t) (hf : PutOk t f) (h : DE X κ e w) (hki : DE X κ k wk)
    (hk : (decide (κ[i]? = some .own) || decide (κ[i]? = some .io)) = true := by rfl) (hN : X.N[i]? = some x := by rfl) (hv : Vis X.env.scope x := by first | exact Or.inl rfl | exact Or.inr (Or.inl rfl) | exact Or.inr (Or.inr rfl)) (hd : (x == ("__debug__" : Str)) = false := by decide)
    (hcd : (x == ("__classdict__" : Str)) = false := by decide)
    (ha : ∀ v, assign (.Subscript (.Name x npos) k tpos) X.env v = (do
      let ov ← holding [v] (eval (.Name x npos) X.env)
      let iv ← holding [v, ov] (eval k X.env)
      standAt tpos
      holding [v, ov, iv] (setItem ov iv v)
      release [v, ov, iv] []) := by intro _; rfl)
    (hs : swapsWithSole [.Subscript (.Name x npos) k tpos] e pos.line X.env = pure false := by rfl) (hw : swappedStores [.Subscript (.Name x npos) k tpos] e X.env = pure none := by rfl)
    (h1 : (assignEach [.Subscript (.Name x npos) k tpos] X.env).map (·.2) = [assign (.Subscript (.Name x npos) k tpos) X.env] := by rfl) :
    DS X κ fr (.Assign [.Subscript (.Name x npos) k tpos] e pos) (sPut i f w wk) :=
  ⟨fun g hg _ => (ps_asg (h.pe g hg) (pg_sub (pe_var hN hv hd hcd) (hki.pe g hg) ht ha) hs hw h1).imp fun D σ H ⟨O, ε, A, q⟩ => ⟨O, ε, A, h.mono _ _ _ (fun d ε1 ⟨⟨c, ec⟩, q⟩ v H1 O1 A1 x1 r1 => by
      have hk' : mu g.κ i := by
        rw [hg]
        simpa [mu] using hk
      obtain ⟨a, ea, _⟩ := mu_get A1 hk' ec
      refine ⟨.ref a, ea, O1, ε1, A1, hki.mono _ _ _ (fun kd ε2 ⟨cur, new, e1, e2, q⟩ kv H2 O2 A2 x2 r2 => ?_) q⟩
      obtain ⟨a', ea', ow⟩ := mu_get A2 hk' e1
      rw [ea] at ea'
      cases ea'
      exact hf H2 O2 a cur kd d new kv v _ ow r2 (A1.rp x2 r1) e2 fun H' kb hs ow2 => q σ H' O2 (A2.mut hk' ea kb hs ow2)) q⟩,
    fun E E' ε l q => h.mono _ _ _ (fun d ε1 ⟨hc, q⟩ => ⟨hc, hki.mono _ _ _ (fun kd ε2 ⟨cur, new, e1, e2, q⟩ => ⟨cur, new, e1, e2, l.nx _ q⟩) q⟩) q⟩
end
end DL

namespace DL
open PySem PySem.Spec L2

/-! ### numbers -/
def iOp (c : Int → Int → Bool) (g : Int → Int → D) : D → D → Option D
  | .int i, .int j => if c i j then some (g i j) else none
  | _, _ => none
theorem iOp_ok {C : Int → Int → Prop} {c : Int → Int → Bool} {g : Int → Int → V} {g' : Int → Int → D} (hc : ∀ i j, c i j = true → C i j) (hg : ∀ i j H O, Rp H O (g' i j) (g i j)) : OpS (rI C g) (iOp c g') := fun H O x y a b r Q _ ha hb e k => by
  match a, b, ha, hb, e with
  | .int i, .int j, ha, hb, e =>
    have ha : x = .int i := ha
    have hb : y = .int j := hb
    subst ha hb
    have e : (if c i j then some (g' i j) else none) = some r := e
    split at e
    · rename_i h
      cases e
      exact ⟨i, j, rfl, rfl, hc i j h, k _ H (Same.refl _) (hg i j H O)⟩
    · cases e
theorem iOp0_ok {g : Int → Int → V} {g' : Int → Int → D} (hg : ∀ i j H O, Rp H O (g' i j) (g i j)) : OpS (rI0 g) (iOp (fun _ _ => true) g') := fun H O x y a b r Q _ ha hb e k => by
  match a, b, ha, hb, e with
  | .int i, .int j, ha, hb, e =>
    have ha : x = .int i := ha
    have hb : y = .int j := hb
    subst ha hb
    have e : some (g' i j) = some r := e
    cases e
    exact ⟨i, j, rfl, rfl, k _ H (Same.refl _) (hg i j H O)⟩
def dSub := iOp (fun _ _ => true) fun i j => .int (i - j)
def smallI (i : Int) : Bool := decide (-(2 ^ 64) < i) && decide (i < 2 ^ 64)
def dMul := iOp (fun i j => smallI i || smallI j) fun i j => .int (i * j)
def dFdiv := iOp (fun _ j => decide (0 < j) && decide (j < 1073741824)) fun i j => .int (i / j)
def dMod := iOp (fun _ j => decide (0 < j)) fun i j => .int (i % j)
def dPow := iOp (fun i j => decide (0 ≤ j) && decide (j ≤ 1000000) && decide (i.natAbs < 2 ^ 64)) fun i j => .int (i ^ j.toNat)
theorem smallI_ok {i : Int} (h : smallI i = true) : -(2 ^ 64) < i ∧ i < 2 ^ 64 := by
  unfold smallI at h
  simpa using h
theorem sub_ok : OpS (rI0 fun i j => .int (i - j)) dSub := iOp0_ok fun _ _ _ _ => rfl
theorem mul_ok : OpS (rI CMul fun i j => .int (i * j)) dMul := iOp_ok (fun i j h => by
  rcases (by simpa using h : smallI i = true ∨ smallI j = true) with h | h
  · exact .inl (smallI_ok h)
  · exact .inr (smallI_ok h)) fun _ _ _ _ => rfl
theorem fdiv_ok : OpS (rI CDiv fun i j => .int (i / j)) dFdiv := iOp_ok (fun i j h => by simpa [CDiv] using h) fun _ _ _ _ => rfl
theorem mod_ok : OpS (rI (fun _ j => 0 < j) fun i j => .int (i % j)) dMod := iOp_ok (fun i j h => by simpa using h) fun _ _ _ _ => rfl
theorem pow_ok : OpS (rI CPow fun i j => .int (i ^ j.toNat)) dPow := iOp_ok (fun i j h => by
  have h : (0 ≤ j ∧ j ≤ 1000000) ∧ i.natAbs < 2 ^ 64 := by simpa using h
  exact ⟨h.1.1, h.1.2, h.2⟩) fun _ _ _ _ => rfl
def dLt := iOp (fun _ _ => true) fun i j => .bool (decide (i < j))
def dLe := iOp (fun _ _ => true) fun i j => .bool (decide (i ≤ j))
def dGt := iOp (fun _ _ => true) fun i j => .bool (decide (j < i))
def dGe := iOp (fun _ _ => true) fun i j => .bool (decide (j ≤ i))
theorem lt_ok : OpS (rI0 fun i j => .bl (decide (i < j))) dLt := iOp0_ok fun _ _ _ _ => rfl
theorem le_ok : OpS (rI0 fun i j => .bl (decide (i ≤ j))) dLe := iOp0_ok fun _ _ _ _ => rfl
theorem gt_ok : OpS (rI0 fun i j => .bl (decide (j < i))) dGt := iOp0_ok fun _ _ _ _ => rfl
theorem ge_ok : OpS (rI0 fun i j => .bl (decide (j ≤ i))) dGe := iOp0_ok fun _ _ _ _ => rfl

/-! ### + of ints, texts, tuples, lists -/
def dAdd : D → D → Option D
  | .int i, .int j => some (.int (i + j))
  | .str x, .str y => if x.length + y.length ≤ sizeLine then some (.str (x ++ y)) else none
  | .tuple xs, .tuple ys => if xs.length + ys.length ≤ sizeLine then some (.tuple (xs ++ ys)) else none
  | .list xs, .list ys => if xs.length + ys.length ≤ sizeLine then some (.list (xs ++ ys)) else none
  | _, _ => none
theorem RpL.app {H : Hp} {O : OS} : ∀ {ds es : List D} {vs us : List V}, RpL H O ds vs → RpL H O es us → RpL H O (ds ++ es) (vs ++ us)
  | [], es, vs, us, h, q => by
    have h : vs = [] := h
    subst h
    exact q
  | d :: ds, es, _, us, ⟨v, r, e, h, q⟩, q' => by
    subst e
    exact ⟨v, r ++ us, rfl, h, RpL.app q q'⟩
theorem RpL.nil_iff {H : Hp} {O : OS} {ds : List D} {vs : List V} (h : RpL H O ds vs) : vs = [] ↔ ds = [] := by
  have := h.length
  rw [← List.length_eq_zero_iff, this, List.length_eq_zero_iff]
abbrev rAddA (K : PySem.W.Frag) : R2 := fun x y H Q => rI0 (fun i j => .int (i + j)) x y H Q ∨ (∃ i j, x = .str i ∧ y = .str j ∧ i.length + j.length ≤ sizeLine ∧ Q (.str (i ++ j)) H) ∨ rCatA K x y H Q ∨ rCat x y H Q
theorem op_addA {X : Cx} : OpR X (binaryOp .Add) (rAddA X.K) := op_add.or (op_add_str.or (op_catA.or op_cat))
theorem tup_new {H : Hp} {O : OS} {xs : List V} {ds : List D} {p : Addr} (hO : ∀ a, O a → H a ≠ none) (np : H p = none) (r : RpL H O ds xs) : Rp (upd H p (.tup xs)) O (.tuple ds) (.ref p) :=
  ⟨p, xs, rfl, fun z => hO p z np, upd_same, RpL.ext (fun a o e _ => same_upd np a o e) (fun _ z => .inl z) r⟩
theorem lst_new {H : Hp} {O : OS} {xs : List V} {ds : List D} {p : Addr} (hO : ∀ a, O a → H a ≠ none) (np : H p = none) (r : RpL H O ds xs) : Rp (upd H p (.lst xs)) O (.list ds) (.ref p) :=
  ⟨p, xs, rfl, fun z => hO p z np, upd_same, RpL.ext (fun a o e _ => same_upd np a o e) (fun _ z => .inl z) r⟩
theorem lst_own {H : Hp} {O O' : OS} {xs : List V} {ds : List D} {p : Addr} (np : H p = none) (w : ∀ a, O' a → O a ∨ a = p) (hp : O' p) (r : RpL H O ds xs) : Ow (upd H p (.lst xs)) O' (.list ds) (.ref p) :=
  ⟨p, xs, rfl, hp, upd_same, RpL.ext (fun a o e _ => same_upd np a o e) (fun a z => (w a z).imp id fun e => by rw [e]; exact np) r⟩
theorem nb_str {H : Hp} {O : OS} {z : Str} {v : V} (h : Nb H O (.str z) v) : v = .str z := h
theorem nb_bool {H : Hp} {O : OS} {z : Bool} {v : V} (h : Nb H O (.bool z) v) : v = .bl z := h
theorem nb_none {H : Hp} {O : OS} {v : V} (h : Nb H O .none v) : v = .non := h
/-- both are clean: where one is empty the other one is handed on itself -/
theorem add_ok {K : PySem.W.Frag} : ∀ (H : Hp) (O : OS) (x y : V) (a b c : D) (Q : VK), (∀ a, O a → H a ≠ none) → Rp H O a x → Rp H O b y → dAdd a b = some c → (∀ v H', Same H H' → Rp H' O c v → Q v H') → rAddA K x y H Q := fun H O x y a b c Q hO ha hb e k => by
  match a, b, ha, hb, e with
  | .int i, .int j, ha, hb, e =>
    have ha : x = .int i := ha
    have hb : y = .int j := hb
    subst ha hb
    cases (show some (PyData.int (i + j)) = some c from e)
    exact .inl ⟨i, j, rfl, rfl, k _ H (Same.refl _) rfl⟩
  | .str i, .str j, ha, hb, e =>
    have ha : x = .str i := ha
    have hb : y = .str j := hb
    subst ha hb
    have e : (if i.length + j.length ≤ sizeLine then some (PyData.str (i ++ j)) else none) = some c := e
    split at e
    · rename_i h
      cases e
      exact .inr (.inl ⟨i, j, rfl, rfl, h, k _ H (Same.refl _) rfl⟩)
    · cases e
  | .tuple xs, .tuple ys, ⟨p, us, ex, n, hp, r⟩, ⟨q, ws, ey, n2, hq, r2⟩, e =>
    subst ex ey
    have e : (if xs.length + ys.length ≤ sizeLine then some (PyData.tuple (xs ++ ys)) else none) = some c := e
    split at e
    · rename_i h
      cases e
      refine .inr (.inr (.inl ⟨p, q, us, ws, rfl, rfl, SqT.of hp, SqT.of hq, by rw [r.length, r2.length]; exact h, fun z => ?_, fun _ z => ?_, fun _ _ p' np => ?_⟩))
      · have hx : xs = [] := r.nil_iff.mp z
        subst hx
        exact k _ H (Same.refl _) ⟨q, ws, rfl, n2, hq, r2⟩
      · have hy : ys = [] := r2.nil_iff.mp z
        subst hy
        exact k _ H (Same.refl _) ⟨p, us, rfl, n, hp, by rw [List.append_nil]; exact r⟩
      · exact k _ _ (same_upd np) (tup_new hO np (r.app r2))
    · cases e
  | .list xs, .list ys, ⟨p, us, ex, n, hp, r⟩, ⟨q, ws, ey, n2, hq, r2⟩, e =>
    subst ex ey
    have e : (if xs.length + ys.length ≤ sizeLine then some (PyData.list (xs ++ ys)) else none) = some c := e
    split at e
    · rename_i h
      cases e
      exact .inr (.inr (.inr ⟨p, q, us, ws, rfl, rfl, hp, hq, by rw [r.length, r2.length]; exact h, fun p' np => k _ _ (same_upd np) (lst_new hO np (r.app r2))⟩))
    · cases e

/-- an operation on two clean operands -/
theorem de_opC {X : Cx} {κ : List Kd} {a b : Expr} {wa wb : WE} {pos : Pos} {op : Operator} {r : R2} {f : D → D → Option D} (ho : OpR X (binaryOp op) r)
    (hf : ∀ (H : Hp) (O : OS) (x y : V) (a b c : D) (Q : VK), (∀ a, O a → H a ≠ none) → Rp H O a x → Rp H O b y → f a b = some c → (∀ v H', Same H H' → Rp H' O c v → Q v H') → r x y H Q) (ha : DE X κ a wa) (hb : DE X κ b wb) : DE X κ (.BinOp a op b pos) (eBin f (.ex wa) (.ex wb)) :=
  ⟨fun g hg => (pe_op ho (ha.pe g hg) (hb.pe g hg)).imp fun σ H Q ⟨O, ε, A, h⟩ => by
    refine ⟨O, ε, A, ha.mono _ _ _ (fun d ε1 h v1 H1 O1 A1 x1 r1 => ?_) h⟩
    refine ⟨O1, ε1, A1, hb.mono _ _ _ (fun y ε2 h v2 H2 O2 A2 x2 r2 => ?_) h⟩
    obtain ⟨a, b, c, ea, eb, ec, q⟩ := h
    cases ea
    cases eb
    exact hf H2 O2 v1 v2 _ _ c Q A2.has (A1.rp x2 r1) r2 ec fun v H' s rp => q v H' O2 (A2.same s) (x1.trans (x2.trans (.same s))) rp, eBin_mono ha.mono hb.mono⟩
def dCat : D → D → Option D
  | .list xs, .list ys => if xs.length + ys.length ≤ sizeLine then some (.list (xs ++ ys)) else none
  | _, _ => none
theorem cat_okN : OpN rCat dCat := fun H O x y a b c Q hO ha hb e k => by
  match a, b, ha, hb, e with
  | .list xs, .list ys, ⟨p, us, ex, hp, r⟩, ⟨q, ws, ey, hq, r2⟩, e =>
    subst ex ey
    have e : (if xs.length + ys.length ≤ sizeLine then some (PyData.list (xs ++ ys)) else none) = some c := e
    split at e
    · rename_i h
      cases e
      exact ⟨p, q, us, ws, rfl, rfl, hp, hq, by rw [r.length, r2.length]; exact h, fun p' np => k p' _ np fun O' _ w hp' => lst_own np w hp' (r.app r2)⟩
    · cases e

/-! ### == and != of data -/
mutual
theorem rp_dp {K : PySem.W.Frag} {H : Hp} {O : OS} : ∀ {d : D} {v : V}, Rp H O d v → d.hasDict = false → Dp K H v d
  | .none, v, h, _ => by
    have h : v = .non := h
    rw [h]
    exact .non
  | .bool b, v, h, _ => by
    have h : v = .bl b := h
    rw [h]
    exact .bl b
  | .int i, v, h, _ => by
    have h : v = .int i := h
    rw [h]
    exact .int i
  | .str x, v, h, _ => by
    have h : v = .str x := h
    rw [h]
    exact .str x
  | .list ds, v, ⟨a, xs, e, _, r, q⟩, hc => by
    rw [e]
    exact .lst (SqL.of r) (rpL_dp q (by simpa [PyData.hasDict] using hc))
  | .tuple ds, v, ⟨a, xs, e, _, r, q⟩, hc => by
    rw [e]
    exact .tup (SqT.of r) (rpL_dp q (by simpa [PyData.hasDict] using hc))
  | .dict _, _, _, hc => by simp [PyData.hasDict] at hc
theorem rpL_dp {K : PySem.W.Frag} {H : Hp} {O : OS} : ∀ {ds : List D} {vs : List V}, RpL H O ds vs → PyData.hasDictAll ds = false → DpAll K H vs ds
  | [], vs, h, _ => by
    have h : vs = [] := h
    rw [h]
    exact .nil
  | d :: ds, vs, ⟨v, r, e, h, q⟩, hc => by
    have hc : d.hasDict = false ∧ PyData.hasDictAll ds = false := by simpa [PyData.hasDictAll] using hc
    rw [e]
    exact .cons (rp_dp h hc.1) (rpL_dp q hc.2)
end
theorem nb_dp {K : PySem.W.Frag} {H : Hp} {O : OS} {d : D} {v : V} (h : Nb H O d v) (hc : d.hasDict = false) : Dp K H v d := by
  match d, h with
  | .none, h =>
    have h : v = .non := h
    rw [h]
    exact .non
  | .bool b, h =>
    have h : v = .bl b := h
    rw [h]
    exact .bl b
  | .int i, h =>
    have h : v = .int i := h
    rw [h]
    exact .int i
  | .str x, h =>
    have h : v = .str x := h
    rw [h]
    exact .str x
  | .list ds, ⟨a, xs, e, r, q⟩ =>
    rw [e]
    exact .lst (SqL.of r) (rpL_dp q (by simpa [PyData.hasDict] using hc))
  | .tuple ds, ⟨a, xs, e, r, q⟩ =>
    rw [e]
    exact .tup (SqT.of r) (rpL_dp q (by simpa [PyData.hasDict] using hc))
  | .dict _, _ => simp [PyData.hasDict] at hc
def bothS : D → D → Bool
  | .str _, .str _ => true
  | _, _ => false
def dEq (a b : D) : Option D := if bothS a b = true ∨ (SeqAt.shaped a = true ∧ SeqAt.shaped b = true) then some (.bool (PyData.eqv a b)) else none
def dNe (a b : D) : Option D := if bothS a b = true ∨ (SeqAt.shaped a = true ∧ SeqAt.shaped b = true) then some (.bool !(PyData.eqv a b)) else none
theorem eqv_str (x y : Str) : PyData.eqv (.str x) (.str y) = decide (V.str x = V.str y) := by
  show (x == y) = _
  by_cases h : x = y
  · subst h
    rw [decide_eq_true rfl]
    exact beq_self_eq_true x
  · rw [decide_eq_false (fun z => h (V.str.inj z))]
    exact beq_eq_false_iff_ne.mpr h
theorem shaped_can {d : D} (h : SeqAt.shaped d = true) : d.hasDict = false := PyData.hasDict_of_canLay d (SeqAt.canLay_of_shaped h)
theorem eq_ok {K : PySem.W.Frag} : OpS (fun x y H Q => rEq x y H Q ∨ rEqD K x y H Q) dEq := fun H O x y a b c Q hO ha hb e k => by
  unfold dEq at e
  split at e
  · rename_i h
    cases e
    rcases h with h | h
    · match a, b, h, ha, hb, k with
      | .str i, .str j, _, ha, hb, k =>
        have ha : x = .str i := ha
        have hb : y = .str j := hb
        subst ha hb
        exact .inl ⟨rfl, k _ H (Same.refl _) (by rw [eqv_str]; rfl)⟩
    · exact .inr ⟨a, b, nb_dp ha (shaped_can h.1), nb_dp hb (shaped_can h.2), h.1, h.2, k _ H (Same.refl _) rfl⟩
  · cases e
theorem ne_ok {K : PySem.W.Frag} : OpS (fun x y H Q => rNe x y H Q ∨ rNeD K x y H Q) dNe := fun H O x y a b c Q hO ha hb e k => by
  unfold dNe at e
  split at e
  · rename_i h
    cases e
    rcases h with h | h
    · match a, b, h, ha, hb, k with
      | .str i, .str j, _, ha, hb, k =>
        have ha : x = .str i := ha
        have hb : y = .str j := hb
        subst ha hb
        exact .inl ⟨rfl, k _ H (Same.refl _) (by rw [eqv_str]; rfl)⟩
    · exact .inr ⟨a, b, nb_dp ha (shaped_can h.1), nb_dp hb (shaped_can h.2), h.1, h.2, k _ H (Same.refl _) rfl⟩
  · cases e
/-- ints, texts, bools, None alike -/
theorem eqS_ok : OpS rEq (fun a b => match a, b with
    | .int i, .int j => some (.bool (decide (i = j)))
    | .str i, .str j => some (.bool (decide (i = j)))
    | _, _ => none) := fun H O x y a b c Q hO ha hb e k => by
  match a, b, ha, hb, e with
  | .int i, .int j, ha, hb, e =>
    have ha : x = .int i := ha
    have hb : y = .int j := hb
    subst ha hb
    cases e
    refine ⟨rfl, k _ H (Same.refl _) ?_⟩
    show V.bl _ = V.bl _
    congr 1
    exact decide_eq_decide.mpr ⟨fun h => by cases h; rfl, fun h => by rw [h]⟩
  | .str i, .str j, ha, hb, e =>
    have ha : x = .str i := ha
    have hb : y = .str j := hb
    subst ha hb
    cases e
    refine ⟨rfl, k _ H (Same.refl _) ?_⟩
    show V.bl _ = V.bl _
    congr 1
    exact decide_eq_decide.mpr ⟨fun h => by cases h; rfl, fun h => by rw [h]⟩

/-! ### repr -/
def reprOk (d : D) : Bool := d.showable && !d.hasDict && decide (d.shown.length ≤ sizeLine) && decide (d.depth ≤ 64)
def dRepr : List D → Option D
  | [d] => if reprOk d = true then some (.str d.shown) else none
  | _ => none
def rRepr (K : PySem.W.Frag) : List V → Hp → VK → Prop := fun xs H Q => ∃ x d, xs = [x] ∧ Dp K H x d ∧ reprOk d = true ∧ Q (.str d.shown) H
theorem call_repr {X : Cx} {k : Nat} (hr : Room k X.A) (hg : X.A.guards = some []) : CallR X (.builtin "repr") (rRepr X.K) := by
  intro pins s σ H xs us Q I r h
  obtain ⟨x, d, rfl, hd, ok, q⟩ := h
  obtain ⟨u, rfl, rx⟩ := vals1 r
  unfold reprOk at ok
  simp only [Bool.and_eq_true, decide_eq_true_eq, Bool.not_eq_true'] at ok
  obtain ⟨⟨⟨h1, h2⟩, h3⟩, h4⟩ := ok
  obtain ⟨as, rd⟩ := Dp.reads I d x u hd rx
  have un : X.A.units + (d.depth + 1) < cLine := by
    have := hr.un
    omega
  have fin : ∀ (h' : Heap) (t : Tok) (tk : Nat), (∀ b o, s.heap.get? b = some o → h'.get? b = some o) → EP X pins σ Q (.str d.shown t) { s with heap := h', toks := tk } := fun h' t tk kk => ⟨.str d.shown, H, I.kept kk, ⟨t, rfl⟩, q⟩
  cases hd with
  | non =>
    have e : u = .none := rx
    subst e
    exact P.repr_of_none (fin s.heap _ _ fun _ _ e => e)
  | bl b =>
    have e : u = .bool b := rx
    subst e
    exact P.repr_of_bool (fin s.heap _ _ fun _ _ e => e)
  | int i =>
    obtain ⟨t, rfl⟩ := rx
    exact P.repr_of_int (of_decide_eq_true h1) (fin s.heap _ _ fun _ _ e => e)
  | str z =>
    obtain ⟨t, rfl⟩ := rx
    exact P.repr_of_str (fin s.heap _ _ fun _ _ e => e) h3
  | lst _ _ =>
    have e : u = .ref _ := rx
    subst e
    exact repr_of_reads' rd h1 (PyData.noDict_hsm h2) hg un (fun _ _ e => e) (fun h' t tk kk => fin h' t tk kk) h3
  | tup _ _ =>
    have e : u = .ref _ := rx
    subst e
    exact repr_of_reads' rd h1 (PyData.noDict_hsm h2) hg un (fun _ _ e => e) (fun h' t tk kk => fin h' t tk kk) h3
theorem repr_ok {K : PySem.W.Frag} : CaS (rRepr K) dRepr := fun H O xs ds c Q hO ha e k => by
  match ds, ha, e with
  | [d], ha, e =>
    obtain ⟨v, ev, hv⟩ := nbl1 ha
    have e : (if reprOk d = true then some (PyData.str d.shown) else none) = some c := e
    split at e
    · rename_i h
      cases e
      have h' := h
      unfold reprOk at h'
      simp only [Bool.and_eq_true, Bool.not_eq_true'] at h'
      exact ⟨v, d, ev, nb_dp hv h'.1.1.2, h, k _ H (Same.refl _) rfl⟩
    · cases e

/-! ### x[i] -/
def dAt : D → D → Option D
  | .list xs, .int i => atI xs i
  | .tuple xs, .int i => atI xs i
  | .str z, .int i => if z.length ≤ sizeLine then (atI z.cps.toList i).map fun c => .str ⟨#[c]⟩ else none
  | _, _ => none
theorem atI_rp {H : Hp} {O : OS} {ds : List D} {vs : List V} {i : Int} {d : D} (r : RpL H O ds vs) (h : atI ds i = some d) : ∃ v, atI vs i = some v ∧ Rp H O d v := by
  unfold atI at h ⊢
  rw [r.length]
  obtain ⟨j, h1, h2⟩ := Option.bind_eq_some_iff.mp h
  obtain ⟨v, e, h⟩ := r.at h2
  exact ⟨v, by rw [h1]; exact e, h⟩
theorem at_ok {K : PySem.W.Frag} : OpS (rIx K) dAt := fun H O x y a b c Q hO ha hb e k => by
  match a, b, ha, hb, e with
  | .list xs, .int i, ⟨p, us, ex, hp, r⟩, hb, e =>
    have hb : y = .int i := hb
    subst ex hb
    obtain ⟨v, ev, rv⟩ := atI_rp r e
    exact .inl ⟨p, us, i, v, rfl, rfl, SqL.of hp, ev, k _ H (Same.refl _) rv⟩
  | .tuple xs, .int i, ⟨p, us, ex, hp, r⟩, hb, e =>
    have hb : y = .int i := hb
    subst ex hb
    obtain ⟨v, ev, rv⟩ := atI_rp r e
    exact .inr (.inl ⟨p, us, i, v, rfl, rfl, SqT.of hp, ev, k _ H (Same.refl _) rv⟩)
  | .str z, .int i, ha, hb, e =>
    have ha : x = .str z := ha
    have hb : y = .int i := hb
    subst ha hb
    have e : (if z.length ≤ sizeLine then (atI z.cps.toList i).map (fun c => PyData.str ⟨#[c]⟩) else none) = some c := e
    split at e
    · rename_i h
      obtain ⟨u, e1, e2⟩ := Option.map_eq_some_iff.mp e
      subst e2
      exact .inr (.inr ⟨z, i, u, rfl, rfl, h, e1, k _ H (Same.refl _) rfl⟩)
    · cases e

/-! ### x[a:b] -/
inductive Pt where
  | no
  | ex (w : WE)
def ptEv (p : Pt) (ε : En) (Q : Option Int → En → Prop) : Prop := match p with
  | .no => Q none ε
  | .ex w => w ε fun d ε' => ∃ i, d = .int i ∧ Q (some i) ε'
def MonoP : Pt → Prop
  | .no => True
  | .ex w => Mono w
theorem ptEv_mono {p : Pt} (m : MonoP p) {ε : En} {Q Q' : Option Int → En → Prop} (h : ∀ i ε', Q i ε' → Q' i ε') (q : ptEv p ε Q) : ptEv p ε Q' := by
  cases p with
  | no => exact h _ _ q
  | ex w => exact m ε _ _ (fun d ε' ⟨i, e, z⟩ => ⟨i, e, h _ _ z⟩) q
structure DP (X : Cx) (κ : List Kd) (e : Option Expr) (p : Pt) : Prop where
  po : ∀ g, g.κ = κ → PO X e (fun σ H Q => ∃ O ε, Abs g O H σ ε ∧ ptEv p ε fun i ε' => ∀ H' O', Abs g O' H' σ ε' → Ext g.κ σ O H O' H' → Q i H')
  mono : MonoP p
theorem dp_no {X : Cx} {κ : List Kd} : DP X κ none .no := ⟨fun g _ => ⟨fun pins s σ H Q I ⟨O, ε, A, q⟩ => po_none.run pins s σ H Q I (q H O A .refl)⟩, trivial⟩
theorem dp_ex {X : Cx} {κ : List Kd} {e : Expr} {w : WE} (h : DE X κ e w) : DP X κ (some e) (.ex w) :=
  ⟨fun g hg => ⟨fun pins s σ H Q I ⟨O, ε, A, q⟩ => (po_some (h.pe g hg)).run pins s σ H Q I ⟨O, ε, A, h.mono _ _ _ (fun d ε' ⟨i, e, z⟩ v H' O' A' x r => ⟨i, by subst e; exact r, z H' O' A' x⟩) q⟩⟩, h.mono⟩
def eSl (f : D → Option Int → Option Int → Option D) (o : Op) (lo hi : Pt) : WE := fun ε Q => oEv o ε fun x ε1 => ptEv lo ε1 fun l ε2 => ptEv hi ε2 fun u ε3 => ∃ a c, x ε3 = some a ∧ f a l u = some c ∧ Q c ε3
theorem eSl_mono {f : D → Option Int → Option Int → Option D} {o : Op} {lo hi : Pt} (m : MonoO o) (ml : MonoP lo) (mh : MonoP hi) : Mono (eSl f o lo hi) := fun ε Q Q' h q =>
  oEv_mono m (fun x ε1 q => ptEv_mono ml (fun l ε2 q => ptEv_mono mh (fun u ε3 ⟨a, c, e1, e2, q⟩ => ⟨a, c, e1, e2, h _ _ q⟩) q) q) q
def cutD (xs : List D) (lo hi : Option Int) : List D := (xs.drop (HT.sIx xs.length 0 lo)).take (HT.sIx xs.length xs.length hi - HT.sIx xs.length 0 lo)
theorem RpL.drop {H : Hp} {O : OS} : ∀ {ds : List D} {vs : List V} (n : Nat), RpL H O ds vs → RpL H O (ds.drop n) (vs.drop n)
  | _, _, 0, h => h
  | [], vs, n + 1, h => by
    have h : vs = [] := h
    subst h
    exact (rfl : ([] : List V) = [])
  | d :: ds, _, n + 1, ⟨v, r, e, _, q⟩ => by
    subst e
    exact RpL.drop n q
theorem RpL.take {H : Hp} {O : OS} : ∀ {ds : List D} {vs : List V} (n : Nat), RpL H O ds vs → RpL H O (ds.take n) (vs.take n)
  | ds, vs, 0, _ => by
    rw [List.take_zero, List.take_zero]
    exact (rfl : ([] : List V) = [])
  | [], vs, n + 1, h => by
    have h : vs = [] := h
    subst h
    exact (rfl : ([] : List V) = [])
  | d :: ds, _, n + 1, ⟨v, r, e, h, q⟩ => by
    subst e
    exact ⟨v, _, rfl, h, RpL.take n q⟩
theorem cut_rp {H : Hp} {O : OS} {ds : List D} {vs : List V} (r : RpL H O ds vs) (lo hi : Option Int) : RpL H O (cutD ds lo hi) (cutV vs lo hi) := by
  unfold cutD cutV
  rw [r.length]
  exact (r.drop _).take _
def dSl : D → Option Int → Option Int → Option D
  | .list xs, lo, hi => some (.list (cutD xs lo hi))
  | .tuple xs, lo, hi => some (.tuple (cutD xs lo hi))
  | .str z, lo, hi => if z.length ≤ sizeLine then some (.str (cutS z lo hi)) else none
  | _, _, _ => none
abbrev rSlAny (K : PySem.W.Frag) : V → Option Int → Option Int → Hp → VK → Prop := fun x lo hi H Q => rSlL K x lo hi H Q ∨ rSlA K x lo hi H Q ∨ rSlS x lo hi H Q
theorem sl_any {X : Cx} : SlR X (rSlAny X.K) := sl_list.or (sl_tupA.or sl_str)
/-- of a clean thing -/
theorem sl_ok {K : PySem.W.Frag} {H : Hp} {O : OS} {x : V} {a c : D} {lo hi : Option Int} {Q : VK} (hO : ∀ a, O a → H a ≠ none) (ha : Rp H O a x) (e : dSl a lo hi = some c) (k : ∀ v H', Same H H' → Rp H' O c v → Q v H') : rSlAny K x lo hi H Q := by
  match a, ha, e with
  | .list xs, ⟨p, us, ex, n, hp, r⟩, e =>
    cases (show some (PyData.list (cutD xs lo hi)) = some c from e)
    exact .inl ⟨p, us, ex, SqL.of hp, fun p' np => k _ _ (same_upd np) (lst_new hO np (cut_rp r lo hi))⟩
  | .tuple xs, ⟨p, us, ex, n, hp, r⟩, e =>
    cases (show some (PyData.tuple (cutD xs lo hi)) = some c from e)
    refine .inr (.inl ⟨p, us, ex, SqT.of hp, fun hw => ?_, fun _ p' np => k _ _ (same_upd np) (tup_new hO np (cut_rp r lo hi))⟩)
    refine k _ H (Same.refl _) ⟨p, us, rfl, n, hp, ?_⟩
    rw [r.length] at hw
    unfold cutD
    rw [hw.1, hw.2, List.drop_zero, Nat.sub_zero, List.take_length]
    exact r
  | .str z, ha, e =>
    have ha : x = .str z := ha
    subst ha
    have e : (if z.length ≤ sizeLine then some (PyData.str (cutS z lo hi)) else none) = some c := e
    split at e
    · rename_i h
      cases e
      exact .inr (.inr ⟨z, rfl, h, k _ H (Same.refl _) rfl⟩)
    · cases e
theorem de_slice {X : Cx} {κ : List Kd} {e : Expr} {lo hi : Option Expr} {pl ph : Pt} {w : WE} {p2 pos : Pos} (h : DE X κ e w) (hl : DP X κ lo pl) (hh : DP X κ hi ph) : DE X κ (.Subscript e (.Slice lo hi none p2) pos) (eSl dSl (.ex w) pl ph) :=
  ⟨fun g hg => (pe_slice sl_any (h.pe g hg) (hl.po g hg) (hh.po g hg)).imp fun σ H Q ⟨O, ε, A, q⟩ => ⟨O, ε, A, h.mono _ _ _ (fun d ε1 q v1 H1 O1 A1 x1 r1 => ⟨O1, ε1, A1, ptEv_mono hl.mono (fun l ε2 q H2 O2 A2 x2 => ⟨O2, ε2, A2, ptEv_mono hh.mono (fun u ε3 ⟨a, c, e1, e2, q⟩ H3 O3 A3 x3 => by
    cases e1
    exact sl_ok A3.has (A1.rp (x2.trans x3) r1) e2 fun v H' s rp => q v H' O3 (A3.same s) (x1.trans (x2.trans (x3.trans (.same s)))) rp) q⟩) q⟩) q⟩, eSl_mono h.mono hl.mono hh.mono⟩
/-- of an own or borrowed list: a new one -/
def dSlL : D → Option Int → Option Int → Option D
  | .list xs, lo, hi => some (.list (cutD xs lo hi))
  | _, _, _ => none
theorem df_slice {X : Cx} {κ : List Kd} {e : Expr} {lo hi : Option Expr} {pl ph : Pt} {o : Op} {p2 pos : Pos} (h : DO X κ e o) (hl : DP X κ lo pl) (hh : DP X κ hi ph) : DF X κ (.Subscript e (.Slice lo hi none p2) pos) (eSl dSlL o pl ph) :=
  ⟨fun g hg => (pe_slice sl_list (h.pe g hg) (hl.po g hg) (hh.po g hg)).imp fun σ H Q ⟨O, ε, A, q⟩ => ⟨O, ε, A, oEv_mono h.mono (fun x ε1 q v1 H1 O1 A1 x1 r1 => ⟨O1, ε1, A1, ptEv_mono hl.mono (fun l ε2 q H2 O2 A2 x2 => ⟨O2, ε2, A2, ptEv_mono hh.mono (fun u ε3 ⟨a, c, e1, e2, q⟩ H3 O3 A3 x3 => by
    have nb := (r1.ext A1 (x2.trans x3)).nb A3 e1
    match a, nb, e2 with
    | .list xs, ⟨p, us, ex, hp, r⟩, e2 =>
      cases (show some (PyData.list (cutD xs l u)) = some c from e2)
      have x03 := x1.trans (x2.trans x3)
      exact ⟨p, us, ex, SqL.of hp, fun p' np => q p' _ (OS.add O3 p') (A3.add np) (x03.trans (.add np)) (.inl rfl) (Classical.byContradiction fun z => x03.some p' z np) (lst_own np (fun a z => z.elim (fun e => .inr e) .inl) (.inl rfl) (cut_rp r l u))⟩) q⟩) q⟩) q⟩, eSl_mono h.mono hl.mono hh.mono⟩

/-! ### built-ins by value -/
def dLen : List D → Option D
  | [.list xs] => some (.int xs.length)
  | [.tuple xs] => some (.int xs.length)
  | [.str z] => if z.length ≤ sizeLine then some (.int z.length) else none
  | _ => none
theorem len_ok {K : PySem.W.Frag} : CaS (fun xs H Q => ∃ x n, xs = [x] ∧ LenV K x H n ∧ Q (.int n) H) dLen := fun H O xs ds c Q hO ha e k => by
  match ds, ha, e with
  | [.list ys], ha, e =>
    obtain ⟨v, ev, p, us, ex, hp, r⟩ := nbl1 ha
    subst ex
    cases (show some (PyData.int ys.length) = some c from e)
    refine ⟨_, us.length, ev, Or.inl ⟨_, SqL.of hp, rfl⟩, k _ H (Same.refl _) ?_⟩
    rw [r.length]
    rfl
  | [.tuple ys], ha, e =>
    obtain ⟨v, ev, p, us, ex, hp, r⟩ := nbl1 ha
    subst ex
    cases (show some (PyData.int ys.length) = some c from e)
    refine ⟨_, us.length, ev, Or.inr ⟨_, SqT.of hp, rfl⟩, k _ H (Same.refl _) ?_⟩
    rw [r.length]
    rfl
  | [.str z], ha, e =>
    obtain ⟨v, ev, hv⟩ := nbl1 ha
    have hv : v = .str z := hv
    subst hv
    have e : (if z.length ≤ sizeLine then some (PyData.int z.length) else none) = some c := e
    split at e
    · rename_i h
      cases e
      exact ⟨_, z.length, ev, ⟨h, rfl⟩, k _ H (Same.refl _) rfl⟩
    · cases e
def dInt : List D → Option D
  | [.int i] => some (.int i)
  | [.bool b] => some (.int (if b then 1 else 0))
  | _ => none
theorem int_ok : CaS (fun xs H Q => (∃ i, xs = [.int i] ∧ Q (.int i) H) ∨ ∃ k, xs = [.bl k] ∧ Q (.int (if k then 1 else 0)) H) dInt := fun H O xs ds c Q hO ha e k => by
  match ds, ha, e with
  | [.int i], ha, e =>
    obtain ⟨v, ev, hv⟩ := nbl1 ha
    have hv : v = .int i := hv
    subst hv
    cases (show some (PyData.int i) = some c from e)
    exact .inl ⟨i, ev, k _ H (Same.refl _) rfl⟩
  | [.bool b], ha, e =>
    obtain ⟨v, ev, hv⟩ := nbl1 ha
    have hv : v = .bl b := hv
    subst hv
    cases (show some (PyData.int (if b then 1 else 0)) = some c from e)
    exact .inr ⟨b, ev, k _ H (Same.refl _) rfl⟩
def dAbs : List D → Option D
  | [.int i] => some (.int (if i < 0 then -i else i))
  | _ => none
theorem abs_ok : CaS (fun xs H Q => ∃ i, xs = [.int i] ∧ Q (.int (if i < 0 then -i else i)) H) dAbs := fun H O xs ds c Q hO ha e k => by
  match ds, ha, e with
  | [.int i], ha, e =>
    obtain ⟨v, ev, hv⟩ := nbl1 ha
    have hv : v = .int i := hv
    subst hv
    cases e
    exact ⟨i, ev, k _ H (Same.refl _) rfl⟩
def dMax2 : List D → Option D
  | [.int i, .int j] => some (.int (if j > i then j else i))
  | _ => none
def dMin2 : List D → Option D
  | [.int i, .int j] => some (.int (if j < i then j else i))
  | _ => none
theorem max2_ok : CaS (fun xs H Q => ∃ i j, xs = [.int i, .int j] ∧ Q (.int (if j > i then j else i)) H) dMax2 := fun H O xs ds c Q hO ha e k => by
  match ds, ha, e with
  | [.int i, .int j], ha, e =>
    obtain ⟨v, v2, ev, hv, hv2⟩ := nbl2 ha
    have hv : v = .int i := hv
    have hv2 : v2 = .int j := hv2
    subst hv hv2
    cases e
    exact ⟨i, j, ev, k _ H (Same.refl _) rfl⟩
theorem min2_ok : CaS (fun xs H Q => ∃ i j, xs = [.int i, .int j] ∧ Q (.int (if j < i then j else i)) H) dMin2 := fun H O xs ds c Q hO ha e k => by
  match ds, ha, e with
  | [.int i, .int j], ha, e =>
    obtain ⟨v, v2, ev, hv, hv2⟩ := nbl2 ha
    have hv : v = .int i := hv
    have hv2 : v2 = .int j := hv2
    subst hv hv2
    cases e
    exact ⟨i, j, ev, k _ H (Same.refl _) rfl⟩
/-- list(x): a new list; tuple(x): of a list -/
def dList : List D → Option D
  | [.list xs] => some (.list xs)
  | [.tuple xs] => some (.list xs)
  | _ => none
theorem list_ok {K : PySem.W.Frag} : CaN (fun xs H Q => ∃ p ys, xs = [.ref p] ∧ (SqL K H p ys ∨ SqT K H p ys) ∧ ∀ l, H l = none → Q (.ref l) (upd H l (.lst ys))) dList := fun H O xs ds c Q hO ha e k => by
  match ds, ha, e with
  | [.list ys], ha, e =>
    obtain ⟨v, ev, p, us, ex, hp, r⟩ := nbl1 ha
    subst ex
    cases (show some (PyData.list ys) = some c from e)
    exact ⟨p, us, ev, .inl (SqL.of hp), fun l nl => k l _ nl fun O' _ w hl => lst_own nl w hl r⟩
  | [.tuple ys], ha, e =>
    obtain ⟨v, ev, p, us, ex, hp, r⟩ := nbl1 ha
    subst ex
    cases (show some (PyData.list ys) = some c from e)
    exact ⟨p, us, ev, .inr (SqT.of hp), fun l nl => k l _ nl fun O' _ w hl => lst_own nl w hl r⟩
def dTuple : List D → Option D
  | [.list xs] => some (.tuple xs)
  | _ => none
theorem tuple_ok {K : PySem.W.Frag} : CaS (fun xs H Q => ∃ p ys, xs = [.ref p] ∧ ((SqL K H p ys ∧ ∀ l, H l = none → Q (.ref l) (upd H l (.tup ys))) ∨ (SqT K H p ys ∧ Q (.ref p) H))) dTuple := fun H O xs ds c Q hO ha e k => by
  match ds, ha, e with
  | [.list ys], ha, e =>
    obtain ⟨v, ev, p, us, ex, hp, r⟩ := nbl1 ha
    subst ex
    cases (show some (PyData.tuple ys) = some c from e)
    exact ⟨p, us, ev, .inl ⟨SqL.of hp, fun l nl => k _ _ (same_upd nl) (tup_new hO nl r)⟩⟩

/-! ### own lists: append, x[i] = v -/
def fAppend : D → List D → Option (D × D)
  | .list xs, [d] => if xs.length < sizeLine then some (.none, .list (xs ++ [d])) else none
  | _, _ => none
theorem append_ok : MuOk rAppend fAppend := fun H O a cur res new ds xs Q ow rl e k => by
  match cur, ds, ow, rl, e with
  | .list ys, [d], ⟨p, us, ep, hp, hl, r⟩, ⟨v, vr, ev, rv, er⟩, e =>
    cases ep
    have er : vr = [] := er
    subst er ev
    have e : (if ys.length < sizeLine then some (PyData.none, PyData.list (ys ++ [d])) else none) = some (res, new) := e
    split at e
    · rename_i h
      cases e
      refine ⟨a, us, v, rfl, rfl, hl, by rw [r.length]; exact h, k _ _ (fun b o n e => by rw [upd_ne n]; exact e) (by rw [upd_same]; exact fun z => nomatch z) ?_ rfl⟩
      have kO : ∀ b o, H b = some o → ¬ O b → upd H a (.lst (us ++ [v])) b = some o := fun b o e n => by rw [upd_ne (show b ≠ a from fun z => n (by rw [z]; exact hp))]; exact e
      exact ⟨a, _, rfl, hp, upd_same, RpL.snoc (Rp.ext kO (fun _ z => .inl z) rv) (RpL.ext kO (fun _ z => .inl z) r)⟩
    · cases e
def fPop : D → List D → Option (D × D)
  | .list xs, [] => (xs[xs.length - 1]?).map fun d => (d, .list xs.dropLast)
  | _, _ => none
theorem RpL.dropLast {H : Hp} {O : OS} : ∀ {ds : List D} {vs : List V}, RpL H O ds vs → RpL H O ds.dropLast vs.dropLast
  | [], vs, h => by
    have h : vs = [] := h
    subst h
    exact (rfl : ([] : List V) = [])
  | [d], _, ⟨v, r, e, _, q⟩ => by
    have q : r = [] := q
    subst e q
    exact (rfl : ([] : List V) = [])
  | d :: d2 :: ds, _, ⟨v, r, e, h, q⟩ => by
    obtain ⟨v2, r2, e2, h2, q2⟩ := q
    subst e e2
    exact ⟨v, _, rfl, h, RpL.dropLast (ds := d2 :: ds) ⟨v2, r2, rfl, h2, q2⟩⟩
theorem pop_ok : MuOk rPop fPop := fun H O a cur res new ds xs Q ow rl e k => by
  match cur, ds, ow, rl, e with
  | .list ys, [], ⟨p, us, ep, hp, hl, r⟩, rl, e =>
    cases ep
    have rl : xs = [] := rl
    subst rl
    obtain ⟨d, e1, e2⟩ := Option.map_eq_some_iff.mp (show (ys[ys.length - 1]?).map (fun d => (d, PyData.list ys.dropLast)) = some (res, new) from e)
    cases e2
    obtain ⟨v, ev, rv⟩ := r.at e1
    have kO : ∀ b o, H b = some o → ¬ O b → upd H a (.lst us.dropLast) b = some o := fun b o e n => by rw [upd_ne (show b ≠ a from fun z => n (by rw [z]; exact hp))]; exact e
    exact ⟨a, us, v, rfl, rfl, hl, by rw [r.length]; exact ev, k _ _ (fun b o n e => by rw [upd_ne n]; exact e) (by rw [upd_same]; exact fun z => nomatch z) ⟨a, _, rfl, hp, upd_same, RpL.ext kO (fun _ z => .inl z) r.dropLast⟩ (Rp.ext kO (fun _ z => .inl z) rv)⟩
def fSetL : D → D → D → Option D
  | .list xs, .int k, d => (ixN xs.length k).map fun j => .list (xs.set j d)
  | _, _, _ => none
theorem RpL.set {H : Hp} {O : OS} {d : D} {v : V} (h : Rp H O d v) : ∀ {ds : List D} {vs : List V} (j : Nat), RpL H O ds vs → RpL H O (ds.set j d) (vs.set j v)
  | [], vs, j, e => by
    have e : vs = [] := e
    subst e
    exact (rfl : ([] : List V) = [])
  | d' :: ds, _, 0, ⟨v', r, e, h', q⟩ => by
    subst e
    exact ⟨v, r, rfl, h, q⟩
  | d' :: ds, _, j + 1, ⟨v', r, e, h', q⟩ => by
    subst e
    exact ⟨v', _, rfl, h', RpL.set h j q⟩
theorem setL_ok : PutOk rSetL fSetL := fun H O a cur k d new kv v Q ow rk rv e kk => by
  match cur, k, ow, rk, e with
  | .list ys, .int i, ⟨p, us, ep, hp, hl, r⟩, rk, e =>
    cases ep
    have rk : kv = .int i := rk
    subst rk
    obtain ⟨j, e1, e2⟩ := Option.map_eq_some_iff.mp (show (ixN ys.length i).map (fun j => PyData.list (ys.set j d)) = some new from e)
    subst e2
    have kO : ∀ b o, H b = some o → ¬ O b → upd H a (.lst (us.set j v)) b = some o := fun b o e n => by rw [upd_ne (show b ≠ a from fun z => n (by rw [z]; exact hp))]; exact e
    exact ⟨a, us, i, j, rfl, rfl, hl, by rw [r.length]; exact e1, kk _ (fun b o n e => by rw [upd_ne n]; exact e) (by rw [upd_same]; exact fun z => nomatch z) ⟨a, _, rfl, hp, upd_same, RpL.ext kO (fun _ z => .inl z) (RpL.set rv j r)⟩⟩
end DL

namespace DL
open PySem PySem.Spec L2
section
variable {X : Cx} {κ : List Kd} {a b c : Expr} {oa ob oc : Op} {pos : Pos}
/-! ### one operand -/
def eUn (f : D → Option D) (oa : Op) : WE := fun ε Q => oEv oa ε fun x ε1 => ∃ a r, x ε1 = some a ∧ f a = some r ∧ Q r ε1
theorem eUn_mono {f : D → Option D} (m : MonoO oa) : Mono (eUn f oa) := fun ε Q Q' h q => oEv_mono m (fun x ε1 ⟨a, r, e1, e2, q⟩ => ⟨a, r, e1, e2, h _ _ q⟩) q
def UnS (r : V → Hp → VK → Prop) (f : D → Option D) : Prop := ∀ (H : Hp) (O : OS) (x : V) (a c : D) (Q : VK), Nb H O a x → f a = some c → (∀ v, Rp H O c v → Q v H) → r x H Q
theorem de_un {op : UnaryOp} {r : V → Hp → VK → Prop} {f : D → Option D} (ho : UnR X (unaryOp op) r) (hf : UnS r f) (ha : DO X κ a oa) : DE X κ (.UnaryOp op a pos) (eUn f oa) :=
  ⟨fun g hg => (pe_un ho (ha.pe g hg)).imp fun σ H Q ⟨O, ε, A, q⟩ => ⟨O, ε, A, oEv_mono ha.mono (fun x ε1 ⟨a, r, e1, e2, q⟩ v H1 O1 A1 x1 r1 => hf H1 O1 v a r Q (r1.nb A1 e1) e2 fun u rp => q u H1 O1 A1 x1 rp) q⟩, eUn_mono ha.mono⟩
def dNeg : D → Option D
  | .int i => some (.int (-i))
  | _ => none
theorem neg_ok : UnS (rU fun i => .int (-i)) dNeg := fun H O x a c Q ha e k => by
  match a, ha, e with
  | .int i, ha, e =>
    have ha : x = .int i := ha
    subst ha
    cases (show some (PyData.int (-i)) = some c from e)
    exact ⟨i, rfl, k _ rfl⟩
/-! ### a < b < c -/
def eChain (f g : D → D → Option D) (oa ob oc : Op) : WE := fun ε Q => oEv oa ε fun x ε1 => oEv ob ε1 fun y ε2 => ∃ a b k, x ε2 = some a ∧ y ε2 = some b ∧ f a b = some (.bool k) ∧ if k = true then oEv oc ε2 fun z ε3 => ∃ b' c r, y ε3 = some b' ∧ z ε3 = some c ∧ g b' c = some r ∧ Q r ε3 else Q (.bool false) ε2
theorem eChain_mono {f g : D → D → Option D} (ma : MonoO oa) (mb : MonoO ob) (mc : MonoO oc) : Mono (eChain f g oa ob oc) := fun ε Q Q' h q =>
  oEv_mono ma (fun x ε1 q => oEv_mono mb (fun y ε2 ⟨a, b, k, e1, e2, e3, q⟩ => ⟨a, b, k, e1, e2, e3, by
    cases k with
    | true => rw [if_pos rfl] at q ⊢; exact oEv_mono mc (fun z ε3 ⟨b', c, r, h1, h2, h3, q⟩ => ⟨b', c, r, h1, h2, h3, h _ _ q⟩) q
    | false => rw [if_neg (by decide)] at q ⊢; exact h _ _ q⟩) q) q
/-- comparisons that give a bool and change nothing -/
def OpB (r : R2) (f : D → D → Option D) : Prop := ∀ (H : Hp) (O : OS) (x y : V) (a b c : D) (Q : VK), (∀ a, O a → H a ≠ none) → Nb H O a x → Nb H O b y → f a b = some c → (∀ v, Rp H O c v → Q v H) → r x y H Q
theorem iOpB {g : Int → Int → V} {g' : Int → Int → D} (hg : ∀ i j H O, Rp H O (g' i j) (g i j)) : OpB (rI0 g) (iOp (fun _ _ => true) g') := fun H O x y a b r Q _ ha hb e k => by
  match a, b, ha, hb, e with
  | .int i, .int j, ha, hb, e =>
    have ha : x = .int i := ha
    have hb : y = .int j := hb
    subst ha hb
    have e : some (g' i j) = some r := e
    cases e
    exact ⟨i, j, rfl, rfl, k _ (hg i j H O)⟩
theorem lt_okB : OpB (rI0 fun i j => .bl (decide (i < j))) dLt := iOpB fun _ _ _ _ => rfl
theorem le_okB : OpB (rI0 fun i j => .bl (decide (i ≤ j))) dLe := iOpB fun _ _ _ _ => rfl
theorem chain_imp {g : Gx} {r r' : R2} {f f' : D → D → Option D} (hf : OpB r f) (hf' : OpB r' f') (ma : MonoO oa) (mb : MonoO ob) (mc : MonoO oc) {σ : L2.St} {H : Hp} {Q : VK} (q : rdE g (eChain f f' oa ob oc) σ H Q) : tChain r r' (rdO g oa) (rdO g ob) (rdO g oc) σ H Q := by
  obtain ⟨O, ε, A, q⟩ := q
  refine ⟨O, ε, A, oEv_mono ma (fun x ε1 q v1 H1 O1 A1 x1 r1 => ?_) q⟩
  refine ⟨O1, ε1, A1, oEv_mono mb (fun y ε2 ⟨a, b, k, e1, e2, e3, q⟩ v2 H2 O2 A2 x2 r2 => ?_) q⟩
  refine hf H2 O2 v1 v2 a b (.bool k) _ A2.has ((r1.ext A1 x2).nb A2 e1) (r2.nb A2 e2) e3 fun u ru => ?_
  have ru : u = .bl k := ru
  refine ⟨k, ru, ?_⟩
  cases k with
  | false => rw [if_neg (by decide)] at q ⊢; exact q _ H2 O2 A2 (x1.trans x2) rfl
  | true =>
    rw [if_pos rfl] at q ⊢
    refine ⟨O2, ε2, A2, oEv_mono mc (fun z ε3 ⟨b', c, w, h1, h2, h3, q⟩ v3 H3 O3 A3 x3 r3 => ?_) q⟩
    exact hf' H3 O3 v2 v3 b' c w Q A3.has ((r2.ext A2 x3).nb A3 h1) (r3.nb A3 h2) h3 fun u ru => q u H3 O3 A3 (x1.trans (x2.trans x3)) ru
theorem de_chain {op op' : CmpOp} {r r' : R2} {f f' : D → D → Option D} (ho : OpR X (compareOp op) r) (hf : OpB r f) (ho' : OpR X (compareOp op') r') (hf' : OpB r' f') (ha : DO X κ a oa) (hb : DO X κ b ob) (hc : DO X κ c oc) (hm : lastMarks [op, op'] [b, c] = false) : DE X κ (.Compare a [op, op'] [b, c] pos) (eChain f f' oa ob oc) :=
  ⟨fun g hg => (pe_chain ho ho' (ha.pe g hg) (hb.pe g hg) (hc.pe g hg) hm).imp fun σ H Q q => chain_imp hf hf' ha.mono hb.mono hc.mono q, eChain_mono ha.mono hb.mono hc.mono⟩
theorem dt_chain {op op' : CmpOp} {r r' : R2} {f f' : D → D → Option D} (ho : OpR X (compareOp op) r) (hf : OpB r f) (ho' : OpR X (compareOp op') r') (hf' : OpB r' f') (ha : DO X κ a oa) (hb : DO X κ b ob) (hc : DO X κ c oc) (hm : lastMarks [op, op'] [b, c] = false) : DT X κ (.Compare a [op, op'] [b, c] pos) (tE (eChain f f' oa ob oc)) :=
  ⟨fun g hg => (pt_chain ho ho' (ha.pe g hg) (hb.pe g hg) (hc.pe g hg) hm).imp fun σ H Q ⟨O, ε, A, q⟩ => by
    exact chain_imp hf hf' ha.mono hb.mono hc.mono ⟨O, ε, A, eChain_mono ha.mono hb.mono hc.mono _ _ _ (fun d ε' ⟨b, e, z⟩ v H' O' A' x r => ⟨b, by subst e; exact r, z H' O' A' x⟩) q⟩, tE_mono (eChain_mono ha.mono hb.mono hc.mono)⟩
/-! ### is None -/
def dIsN (a _b : D) : Option D := match a with
  | .none => some (.bool true)
  | _ => some (.bool false)
def dNotN (a _b : D) : Option D := match a with
  | .none => some (.bool false)
  | _ => some (.bool true)
theorem nb_non {H : Hp} {O : OS} {d : D} {v : V} (h : Nb H O d v) : (d = .none ∧ v = .non) ∨ (d ≠ .none ∧ v ≠ .non) := by
  match d, h with
  | .none, h => exact .inl ⟨rfl, h⟩
  | .bool _, h => exact .inr ⟨by simp, fun z => by cases (show v = .bl _ from h); cases z⟩
  | .int _, h => exact .inr ⟨by simp, fun z => by cases (show v = .int _ from h); cases z⟩
  | .str _, h => exact .inr ⟨by simp, fun z => by cases (show v = .str _ from h); cases z⟩
  | .list _, ⟨_, _, e, _⟩ => exact .inr ⟨by simp, fun z => by rw [e] at z; cases z⟩
  | .tuple _, ⟨_, _, e, _⟩ => exact .inr ⟨by simp, fun z => by rw [e] at z; cases z⟩
  | .dict _, ⟨_, e, _⟩ => exact .inr ⟨by simp, fun z => by rw [e] at z; cases z⟩
/-- the right side is None as written -/
theorem isN_ok : ∀ (H : Hp) (O : OS) (x y : V) (a c : D) (Q : VK), Nb H O a x → y = .non → dIsN a .none = some c → (∀ v H', Same H H' → Rp H' O c v → Q v H') → (y = .non ∧ Q (.bl (decide (x = .non))) H) := fun H O x y a c Q ha hy e k => by
  refine ⟨hy, ?_⟩
  rcases nb_non ha with ⟨rfl, rfl⟩ | ⟨h1, h2⟩
  · cases (show some (PyData.bool true) = some c from e)
    exact k _ H (Same.refl _) (by rw [decide_eq_true rfl]; rfl)
  · have : dIsN a .none = some (.bool false) := by cases a <;> first | rfl | exact (h1 rfl).elim
    rw [this] at e
    cases e
    exact k _ H (Same.refl _) (by rw [decide_eq_false h2]; rfl)
end
end DL

namespace DL
open PySem PySem.Spec L2
/-! ### a in b, b a list or a tuple -/
def rInA (K : PySem.W.Frag) (neg : Bool) : R2 := fun x y H Q => ∃ d ds, Dp K H x d ∧ (Dp K H y (.list ds) ∨ Dp K H y (.tuple ds)) ∧ SeqAt.shaped d = true ∧ PyData.canLayAll0 ds = true ∧ Q (.bl (if neg then !ds.any fun z => PyData.eqv z d else ds.any fun z => PyData.eqv z d)) H
section
variable {X : Cx}
theorem op_inA (hu : X.A.units + 65 < cLine) : OpR X (compareOp .In) (rInA X.K false) := by
  intro pins s σ H x y v u Q I rx ry h
  obtain ⟨d, ds, hd, he, sd, se, q⟩ := h
  obtain ⟨as, r1⟩ := Dp.reads I d x v hd rx
  rcases he with he | he
  · obtain ⟨bs, r2⟩ := Dp.reads I (.list ds) y u he ry
    exact SeqAt.in_list_reads r2 r1 se (SeqAt.canLay_of_shaped sd) (PyProof.Rows.room_in_shaped sd hu) ⟨.bl _, H, I, rfl, q⟩
  · obtain ⟨bs, r2⟩ := Dp.reads I (.tuple ds) y u he ry
    exact SeqAt.in_tuple_reads r2 r1 se (SeqAt.canLay_of_shaped sd) (PyProof.Rows.room_in_shaped sd hu) ⟨.bl _, H, I, rfl, q⟩
theorem op_notInA (hu : X.A.units + 65 < cLine) : OpR X (compareOp .NotIn) (rInA X.K true) := by
  intro pins s σ H x y v u Q I rx ry h
  obtain ⟨d, ds, hd, he, sd, se, q⟩ := h
  obtain ⟨as, r1⟩ := Dp.reads I d x v hd rx
  rcases he with he | he
  · obtain ⟨bs, r2⟩ := Dp.reads I (.list ds) y u he ry
    exact SeqAt.notIn_list_reads r2 r1 se (SeqAt.canLay_of_shaped sd) (PyProof.Rows.room_in_shaped sd hu) ⟨.bl _, H, I, rfl, q⟩
  · obtain ⟨bs, r2⟩ := Dp.reads I (.tuple ds) y u he ry
    exact SeqAt.notIn_tuple_reads r2 r1 se (SeqAt.canLay_of_shaped sd) (PyProof.Rows.room_in_shaped sd hu) ⟨.bl _, H, I, rfl, q⟩
end
theorem hu65 {k : Nat} {A : Around} (r : Room k A) : A.units + 65 < cLine := by have := r.un; omega
def inD (neg : Bool) (a : D) (ds : List D) : Option D := if SeqAt.shaped a = true ∧ PyData.canLayAll0 ds = true then some (.bool (if neg then !ds.any fun z => PyData.eqv z a else ds.any fun z => PyData.eqv z a)) else none
def dInG (neg : Bool) (a b : D) : Option D := match b with
  | .list ds => inD neg a ds
  | .tuple ds => inD neg a ds
  | _ => none
def dIn := dInG false
def dNotIn := dInG true
theorem inG_ok {K : PySem.W.Frag} {neg : Bool} : OpS (rInA K neg) (dInG neg) := fun H O x y a b c Q hO ha hb e k => by
  match b, hb, e with
  | .list ds, hb, e =>
    have e : inD neg a ds = some c := e
    unfold inD at e
    split at e
    · rename_i h
      cases e
      exact ⟨a, ds, nb_dp ha (shaped_can h.1), .inl (nb_dp hb (PyData.hasDict_of_canLay (.list ds) h.2)), h.1, h.2, k _ H (Same.refl _) rfl⟩
    · cases e
  | .tuple ds, hb, e =>
    have e : inD neg a ds = some c := e
    unfold inD at e
    split at e
    · rename_i h
      cases e
      exact ⟨a, ds, nb_dp ha (shaped_can h.1), .inr (nb_dp hb (PyData.hasDict_of_canLay (.tuple ds) h.2)), h.1, h.2, k _ H (Same.refl _) rfl⟩
    · cases e
theorem in_ok {K : PySem.W.Frag} : OpS (rInA K false) dIn := inG_ok
theorem notIn_ok {K : PySem.W.Frag} : OpS (rInA K true) dNotIn := inG_ok
/-! ### a is None -/
def isNone : D → Bool
  | .none => true
  | _ => false
def dIs (a b : D) : Option D := match b with
  | .none => some (.bool (isNone a))
  | _ => none
def dIsNot (a b : D) : Option D := match b with
  | .none => some (.bool (!isNone a))
  | _ => none
theorem nb_isN {H : Hp} {O : OS} {a : D} {x : V} (h : Nb H O a x) : decide (x = .non) = isNone a := by
  rcases nb_non h with ⟨rfl, rfl⟩ | ⟨h1, h2⟩
  · exact decide_eq_true rfl
  · rw [decide_eq_false h2]
    cases a <;> first | rfl | exact (h1 rfl).elim
theorem is_ok : OpS (fun x y H Q => y = .non ∧ Q (.bl (decide (x = .non))) H) dIs := fun H O x y a b c Q hO ha hb e k => by
  match b, hb, e with
  | .none, hb, e =>
    cases (show some (PyData.bool (isNone a)) = some c from e)
    exact ⟨hb, k _ H (Same.refl _) (by rw [nb_isN ha]; rfl)⟩
theorem isNot_ok : OpS (fun x y H Q => y = .non ∧ Q (.bl (!decide (x = .non))) H) dIsNot := fun H O x y a b c Q hO ha hb e k => by
  match b, hb, e with
  | .none, hb, e =>
    cases (show some (PyData.bool (!isNone a)) = some c from e)
    exact ⟨hb, k _ H (Same.refl _) (by rw [nb_isN ha]; rfl)⟩
/-! ### extend by a list -/
def fExtend : D → List D → Option (D × D)
  | .list xs, [.list ys] => if xs.length + ys.length ≤ sizeLine then some (.none, .list (xs ++ ys)) else none
  | _, _ => none
theorem RpL.append {H : Hp} {O : OS} : ∀ {ds es : List D} {vs us : List V}, RpL H O ds vs → RpL H O es us → RpL H O (ds ++ es) (vs ++ us)
  | [], _, vs, _, h, k => by
    have h : vs = [] := h
    subst h
    exact k
  | d :: ds, _, _, _, ⟨v, r, e, h, q⟩, k => by
    subst e
    exact ⟨v, _, rfl, h, RpL.append q k⟩
theorem extend_ok : MuOk rExtend fExtend := fun H O a cur res new ds xs Q ow rl e k => by
  match cur, ds, ow, rl, e with
  | .list ys, [.list zs], ⟨p, us, ep, hp, hl, r⟩, ⟨v, vr, ev, ⟨b, ws, eb, nb, hb, rb⟩, er⟩, e =>
    cases ep
    have er : vr = [] := er
    subst er ev eb
    have e : (if ys.length + zs.length ≤ sizeLine then some (PyData.none, PyData.list (ys ++ zs)) else none) = some (res, new) := e
    split at e
    · rename_i h
      cases e
      refine ⟨a, b, us, ws, rfl, rfl, hl, hb, by rw [r.length, rb.length]; exact h, k _ _ (fun b o n e => by rw [upd_ne n]; exact e) (by rw [upd_same]; exact fun z => nomatch z) ?_ rfl⟩
      have kO : ∀ b o, H b = some o → ¬ O b → upd H a (.lst (us ++ ws)) b = some o := fun b o e n => by rw [upd_ne (show b ≠ a from fun z => n (by rw [z]; exact hp))]; exact e
      exact ⟨a, _, rfl, hp, upd_same, RpL.append (RpL.ext kO (fun _ z => .inl z) r) (RpL.ext kO (fun _ z => .inl z) rb)⟩
    · cases e
end DL
namespace DL
open PySem PySem.Spec L2
theorem dIs_none {a : D} : dIs a .none = some (.bool (isNone a)) := rfl
theorem dIsNot_none {a : D} : dIsNot a .none = some (.bool !isNone a) := rfl
end DL

namespace DL
open PySem PySem.Spec L2
/-! ### isinstance(x, T), T a built-in class -/
def tyD : D → String
  | .none => "NoneType"
  | .bool _ => "bool"
  | .int _ => "int"
  | .str _ => "str"
  | .list _ => "list"
  | .tuple _ => "tuple"
  | .dict _ => "dict"
def dIsi (T : String) (d : D) : Option D := (kitB (tyD d) T).map .bool
theorem nb_tyx {K : PySem.W.Frag} {H : Hp} {O : OS} {d : D} {v : V} (h : Nb H O d v) : TyX K H v (.type (tyD d)) := by
  match d, h with
  | .none, h => rw [show v = .non from h]; exact .base .non
  | .bool b, h => rw [show v = .bl b from h]; exact .base (.bl b)
  | .int i, h => rw [show v = .int i from h]; exact .base (.int i)
  | .str x, h => rw [show v = .str x from h]; exact .base (.str x)
  | .list ds, ⟨a, xs, e, r, _⟩ => rw [e]; exact .base (.lst r)
  | .tuple ds, ⟨a, xs, e, r, _⟩ => rw [e]; exact .base (.tup r)
  | .dict es, ⟨a, e, .inl ⟨kvs, r, _⟩⟩ => rw [e]; exact .base (.dK r)
  | .dict es, ⟨a, e, .inr ⟨kvs, r, _⟩⟩ => rw [e]; exact .base (.dT r)
section
variable {X : Cx} {κ : List Kd}
theorem de_isi {T : String} {e : Expr} {x : Str} {p q pos : Pos} {oa : Op} (hg : Gl X "isinstance") (hm : X.mg "isinstance" = none) (gT : Gl X x) (mT : X.mg x = none) (bT : bootBuiltins x = some (.type T)) (ha : DO X κ e oa) (hst : notStar e = true := by rfl)
    (hn : x ≠ "__name__" := by decide) (hdb : (x == ("__debug__" : Str)) = false := by decide) : DE X κ (.Call (.Name "isinstance" p) [e, .Name x q] [] pos) (eUn (dIsi T) oa) :=
  ⟨fun g hg' => (pe_callB call_isi hg hm (by decide +kernel) (pa_cons (ha.pe g hg') (pa_cons (pe_bltn (v := .ty T) gT mT bT rfl (hn := hn) (hd := hdb)) pa_nil) (st_cons hst)) (he := st_cons hst)).imp fun σ H Q ⟨O, ε, A, q⟩ =>
    ⟨O, ε, A, oEv_mono ha.mono (fun x ε1 ⟨a, r, e1, e2, q⟩ v H1 O1 A1 x1 r1 => by
      obtain ⟨b, e3, rfl⟩ := Option.map_eq_some_iff.mp (show (kitB (tyD a) T).map PyData.bool = some r from e2)
      exact ⟨v, .ty T, .type (tyD a), .type T, b, rfl, .ty T, nb_tyx (r1.nb A1 e1), kit_ty e3, q _ H1 O1 A1 x1 rfl⟩) q⟩, eUn_mono ha.mono⟩
end
end DL
namespace DL
open PySem PySem.Spec L2
/-! ### methods of a text with one argument -/
def eM1 (f : Str → D → Option D) (w : WE) (oa : Op) : WE := fun ε Q => w ε fun a ε1 => ∃ z, a = .str z ∧ oEv oa ε1 fun y ε2 => ∃ b r, y ε2 = some b ∧ f z b = some r ∧ Q r ε2
def M1S (r : V → List V → Hp → VK → Prop) (f : Str → D → Option D) : Prop := ∀ (H : Hp) (O : OS) (z : Str) (b c : D) (y : V) (Q : VK), (∀ a, O a → H a ≠ none) → Nb H O b y → f z b = some c → (∀ v H', Same H H' → Rp H' O c v → Q v H') → r (.str z) [y] H Q
section
variable {X : Cx} {κ : List Kd} {o e : Expr} {m : Str} {w : WE} {oa : Op} {apos pos : Pos}
theorem eM1_mono {f : Str → D → Option D} (mo : Mono w) (ma : MonoO oa) : Mono (eM1 f w oa) := fun ε Q Q' h q => mo _ _ _ (fun a ε1 ⟨z, e, q⟩ => ⟨z, e, oEv_mono ma (fun y ε2 ⟨b, r, e1, e2, q⟩ => ⟨b, r, e1, e2, h _ _ q⟩) q⟩) q
theorem de_m1 {r : V → List V → Hp → VK → Prop} {f : Str → D → Option D} (hr : M1S r f) (ho : DE X κ o w) (ha : DO X κ e oa)
    (hp : ∀ {to te : TE}, PE X o to → PE X e te → starEach [e] X.env = [(false, eval e X.env)] → PE X (.Call (.Attribute o m apos) [e] [] pos) (tM1 r to te)) (hst : notStar e = true := by rfl) : DE X κ (.Call (.Attribute o m apos) [e] [] pos) (eM1 f w oa) :=
  ⟨fun g hg => (hp (ho.pe g hg) (ha.pe g hg) (st_cons hst)).imp fun σ H Q ⟨O, ε, A, q⟩ => ⟨O, ε, A, ho.mono _ _ _ (fun a ε1 ⟨z, ea, q⟩ v H1 O1 A1 x1 r1 => by
    subst ea
    have r1 : v = .str z := r1
    subst r1
    refine ⟨⟨z, rfl⟩, O1, ε1, A1, oEv_mono ha.mono (fun y ε2 ⟨b, c, e1, e2, q⟩ v2 H2 O2 A2 x2 r2 => ?_) q⟩
    exact hr H2 O2 z b c v2 Q A2.has (r2.nb A2 e1) e2 fun u H3 sm rp => q u H3 O2 (A2.same sm) (x1.trans (x2.trans (.same sm))) rp) q⟩, eM1_mono ho.mono ha.mono⟩
end
def strsOf : List D → Option (List Str)
  | [] => some []
  | .str z :: ds => (strsOf ds).map (z :: ·)
  | _ :: _ => none
theorem RpL.strsOf {H : Hp} {O : OS} : ∀ {ds : List D} {ys : List Str} {us : List V}, DL.strsOf ds = some ys → RpL H O ds us → us = ys.map V.str
  | [], ys, us, e, h => by
    cases (show some ([] : List Str) = some ys from e)
    exact h
  | .str z :: ds, ys, _, e, ⟨v, r, eu, hv, h⟩ => by
    obtain ⟨zs, e2, rfl⟩ := Option.map_eq_some_iff.mp (show (DL.strsOf ds).map (z :: ·) = some ys from e)
    rw [eu, show v = .str z from hv, RpL.strsOf e2 h]
    rfl
def textsOf : D → Option (List Str)
  | .list ds => strsOf ds
  | .tuple ds => strsOf ds
  | _ => none
def dJoin (z : Str) (b : D) : Option D := (textsOf b).bind fun (ys : List Str) => if (ys.map (·.length)).sum + ys.length * z.length ≤ 16777216 then some (.str (Txt.join z ys)) else none
theorem join_ok {X : Cx} : M1S (fun x xs H Q => ∃ a p, ∃ ys : List Str, x = .str a ∧ xs = [.ref p] ∧ (SqL X.K H p (ys.map V.str) ∨ SqT X.K H p (ys.map V.str)) ∧ (ys.map (·.length)).sum + ys.length * a.length ≤ 16777216 ∧ Q (.str (Txt.join a ys)) H) dJoin := fun H O z b c y Q hO hb e k => by
  obtain ⟨ys, e1, e2⟩ := Option.bind_eq_some_iff.mp e
  split at e2
  · rename_i h
    cases e2
    match b, hb, e1 with
    | .list ds, ⟨p, us, ey, hp, r⟩, e1 => exact ⟨z, p, ys, rfl, by rw [ey], .inl (SqL.of (by rw [hp, r.strsOf e1])), h, k _ H (Same.refl _) rfl⟩
    | .tuple ds, ⟨p, us, ey, hp, r⟩, e1 => exact ⟨z, p, ys, rfl, by rw [ey], .inr (SqT.of (by rw [hp, r.strsOf e1])), h, k _ H (Same.refl _) rfl⟩
  · cases e2
def dCount (z : Str) (b : D) : Option D := match b with
  | .str y => some (.int (Txt.count z y))
  | _ => none
theorem count_ok : M1S (fun x xs H Q => ∃ a b, x = .str a ∧ xs = [.str b] ∧ Q (.int (Txt.count a b)) H) dCount := fun H O z b c y Q hO hb e k => by
  match b, hb, e with
  | .str w, hb, e =>
    have hb : y = .str w := hb
    subst hb
    cases (show some (PyData.int (Txt.count z w)) = some c from e)
    exact ⟨z, w, rfl, rfl, k _ H (Same.refl _) rfl⟩
end DL

namespace DL
open PySem PySem.Spec L2
/-! ### sorted(a list) -/
def tup1 : D → Bool
  | .tuple (_ :: _) => true
  | _ => false
def noTup : D → Bool
  | .tuple _ => false
  | .none => false
  | _ => true
def sortB (ds : List D) : Bool := (ds.all fun a => ds.all fun b => PySem.W.alike a b) && (ds.all tup1 || ds.all noTup) && (ds.all fun d => decide (d.depth ≤ 64) && !d.hasDict)
/-- Python's order of data that are alike -/
def leD (a b : D) : Bool := PySem.W.dataLe false (fun d : D => d) a b
def sortD (ds : List D) : List D := ds.mergeSort leD
def dSorted : List D → Option D
  | [.list ds] => if sortB ds = true then some (.list (sortD ds)) else none
  | _ => none
def DpL (K : PySem.W.Frag) (H : Hp) : List V → List D → Prop
  | [], ds => ds = []
  | v :: vs, ds => ∃ d r, ds = d :: r ∧ Dp K H v d ∧ DpL K H vs r
def rSortedD (K : PySem.W.Frag) : List V → Hp → VK → Prop := fun vs H Q => ∃ (a : Addr) (ys : List V) (ds : List D), vs = [V.ref a] ∧ SqL K H a ys ∧ DpL K H ys ds ∧ sortB ds = true ∧
  ∀ p, H p = none → Q (.ref p) (upd H p (.lst (((ys.zip ds).mergeSort (PySem.W.dataLe false (fun b : V × D => b.2))).map (·.1))))
theorem sortB_ok {ds : List D} (h : sortB ds = true) : PySem.W.AllAlike ds ∧ PySem.W.Sortable ds ∧ ∀ d ∈ ds, d.depth ≤ 64 ∧ d.hasDict = false := by
  unfold sortB at h
  simp only [Bool.and_eq_true, Bool.or_eq_true, List.all_eq_true, decide_eq_true_eq, Bool.not_eq_true'] at h
  obtain ⟨⟨h1, h2⟩, h3⟩ := h
  refine ⟨fun d hd d' hd' => h1 d hd d' hd', h2.imp (fun h d hd => ?_) (fun h d hd => ?_), h3⟩
  · have := h d hd
    match d, this with
    | .tuple (x :: r), _ => exact ⟨x, r, rfl⟩
  · have := h d hd
    refine ⟨fun e => ?_, fun xs e => ?_⟩
    · rw [e] at this; cases this
    · rw [e] at this; cases this
theorem each_zip {X : Cx} {pins : List (Addr × Obj)} {σ : L2.St} {H : Hp} {s : Shared} (I : Inv X pins σ H s) : ∀ {ys : List V} {ds : List D} {its : List Value}, Vals ys its → DpL X.K H ys ds →
    PySem.W.EachIs (fun u (b : V × D) => RelV b.1 u) its (ys.zip ds) ∧ PySem.W.EachIs (fun u (b : V × D) => ∃ as, Reads s.heap u b.2 as) its (ys.zip ds) ∧ (ys.zip ds).map (·.2) = ds ∧ (ys.zip ds).length = its.length
  | _, _, _, .nil, h => by
    have h : _ = [] := h
    subst h
    exact ⟨.nil, .nil, rfl, rfl⟩
  | _, _, _, .cons r t, ⟨d, ds', e, hd, h⟩ => by
    subst e
    obtain ⟨a1, a2, a3, a4⟩ := each_zip I t h
    obtain ⟨as, rd⟩ := Dp.reads I d _ _ hd r
    exact ⟨.cons r a1, .cons ⟨as, rd⟩ a2, by rw [List.zip_cons_cons, List.map_cons, a3], by rw [List.zip_cons_cons, List.length_cons, a4]; rfl⟩
theorem each_vals : ∀ {out : List Value} {bs : List (V × D)}, PySem.W.EachIs (fun u (b : V × D) => RelV b.1 u) out bs → Vals (bs.map (·.1)) out
  | _, _, .nil => .nil
  | _, _, .cons r t => .cons r (each_vals t)
theorem cr_sortedD {X : Cx} {k : Nat} (hr : Room k X.A) : CallR X (.builtin "sorted") (rSortedD X.K) := by
  intro pins s σ H vs us Q I r h
  obtain ⟨a, ys, ds, rfl, hs, hd, hb, q⟩ := h
  obtain ⟨its, rv, hl, hz⟩ := I.list hs
  rw [Vals.ref1 r]
  obtain ⟨e1, e2, e3, e4⟩ := each_zip I rv hd
  obtain ⟨b1, b2, b3⟩ := sortB_ok hb
  have hlen : its.length ≤ sizeLine := by rw [← rv.length]; exact hz
  refine PySem.W.sorted_data (enc := fun b : V × D => b.2) hl.isList e1 e2 (by rw [e3]; exact b1) (by rw [e3]; exact b2) (by rw [e4]; exact hlen) (fun b hb' => ?_) fun out ho eo => ?_
  · have : b.2 ∈ ds := by rw [← e3]; exact List.mem_map.mpr ⟨b, hb', rfl⟩
    have h1 := (b3 _ this).1
    have h2 := hr.un
    show X.A.units + 2 + b.2.depth < cLine
    omega
  · obtain ⟨ep, he'⟩ := PyProof.Rows.sortedAll_at s.heap its out.toArray
    have vo := each_vals eo
    have hlen2 : (((ys.zip ds).mergeSort (PySem.W.dataLe false (fun b : V × D => b.2))).map (·.1)).length ≤ sizeLine := by
      rw [List.length_map, List.length_mergeSort, e4]
      exact hlen
    exact ⟨.ref _, upd H (s.heap.objs.size + 1) (.lst (((ys.zip ds).mergeSort (PySem.W.dataLe false (fun b : V × D => b.2))).map (·.1))), I.laid (t' := s.toks) (fun _ _ => PyProof.Rows.sortedAll_old) (Nat.le_succ _) ⟨hlen2, out, ep, vo, he'⟩, rfl, q _ (I.hok.fresh (Nat.le_succ _))⟩
theorem RpL.dpL {K : PySem.W.Frag} {H : Hp} {O : OS} : ∀ {ds : List D} {vs : List V}, RpL H O ds vs → (∀ d ∈ ds, d.hasDict = false) → DpL K H vs ds
  | [], _, h, _ => by
    have h : _ = [] := h
    subst h
    exact (rfl : ([] : List D) = [])
  | d :: ds, _, ⟨v, r, e, h, q⟩, n => by
    subst e
    exact ⟨d, ds, rfl, nb_dp h.nb (n d List.mem_cons_self), RpL.dpL q fun x hx => n x (List.mem_cons_of_mem _ hx)⟩
theorem RpL.zip {H : Hp} {O : OS} : ∀ {ds : List D} {vs : List V}, RpL H O ds vs → (∀ b ∈ vs.zip ds, Rp H O b.2 b.1) ∧ (vs.zip ds).map (·.2) = ds
  | [], _, h => by
    have h : _ = [] := h
    subst h
    exact ⟨fun b hb => absurd hb List.not_mem_nil, rfl⟩
  | d :: ds, _, ⟨v, r, e, h, q⟩ => by
    subst e
    obtain ⟨a, b⟩ := RpL.zip q
    refine ⟨fun x hx => ?_, by rw [List.zip_cons_cons, List.map_cons, b]⟩
    rw [List.zip_cons_cons] at hx
    rcases List.mem_cons.mp hx with rfl | hx
    · exact h
    · exact a x hx
theorem rpL_of {H : Hp} {O : OS} : ∀ {zs : List (V × D)}, (∀ b ∈ zs, Rp H O b.2 b.1) → RpL H O (zs.map (·.2)) (zs.map (·.1))
  | [], _ => (rfl : ([] : List V) = [])
  | b :: zs, h => ⟨b.1, _, rfl, h b List.mem_cons_self, rpL_of fun x hx => h x (List.mem_cons_of_mem _ hx)⟩
theorem sorted_ok {K : PySem.W.Frag} : CaN (rSortedD K) dSorted := fun H O xs ds c Q hO ha e k => by
  match ds, ha, e with
  | [.list ys], ha, e =>
    obtain ⟨v, ev, p, us, ex, hp, r⟩ := nbl1 ha
    subst ex
    have e : (if sortB ys = true then some (PyData.list (sortD ys)) else none) = some c := e
    split at e
    · rename_i hb
      cases e
      obtain ⟨z1, z2⟩ := r.zip
      have em : ((us.zip ys).mergeSort (PySem.W.dataLe false (fun b : V × D => b.2))).map (·.2) = sortD ys := by
        have := List.map_mergeSort (r := PySem.W.dataLe false (fun b : V × D => b.2)) (s := leD) (f := fun b : V × D => b.2) (l := us.zip ys) (fun a _ b _ => rfl)
        rw [this, z2]
        rfl
      refine ⟨p, us, ys, ev, SqL.of hp, r.dpL fun d hd => ((sortB_ok hb).2.2 d hd).2, hb, fun q nq => k _ _ nq fun O' w1 w2 w3 => ?_⟩
      refine ⟨q, _, rfl, w3, upd_same, ?_⟩
      rw [← em]
      refine RpL.ext (fun a o e n => by rw [upd_ne (ne_of_none e nq)]; exact e) (fun a z => (w2 a z).imp id fun e => by rw [e]; exact nq) (rpL_of fun b hb' => z1 b (List.mem_mergeSort.mp hb'))
    · cases e
end DL

namespace DL
open PySem PySem.Spec L2
/-! ### list(range(..)) -/
def intsR (lo : Int) (n : Nat) : List D := (List.range n).map fun (k : Nat) => .int (lo + (k : Int))
def dListR1 : D → Option D
  | .int n => if 0 ≤ n ∧ n ≤ 16777216 then some (.list (intsR 0 n.toNat)) else none
  | _ => none
def dListR2 (a b : D) : Option D := match a, b with
  | .int i, .int j => if (0 ≤ i ∧ i ≤ 16777216) ∧ (0 ≤ j ∧ j ≤ 16777216) then some (.list (intsR i (j - i).toNat)) else none
  | _, _ => none
theorem rpL_ints {H : Hp} {O : OS} {lo : Int} : ∀ (xs : List Nat), RpL H O (xs.map fun (k : Nat) => PyData.int (lo + (k : Int))) (xs.map fun (k : Nat) => V.int (lo + (k : Int)))
  | [] => (rfl : ([] : List V) = [])
  | x :: xs => ⟨_, _, rfl, rfl, rpL_ints xs⟩
section
variable {X : Cx} {κ : List Kd} {a b : Expr} {oa ob : Op} {p p2 pos pos2 : Pos}
theorem df_listR1 (hc : X.calm = true) (hg : Gl X "list") (hm : X.mg "list" = none) (hg2 : Gl X "range") (hm2 : X.mg "range" = none) (ha : DO X κ a oa) (hst : notStar a = true := by rfl) :
    DF X κ (.Call (.Name "list" p) [.Call (.Name "range" p2) [a] [] pos2] [] pos) (eUn dListR1 oa) :=
  ⟨fun g hg' => (pe_listRg hc hg hm (prg_1 hg2 hm2 (ha.pe g hg') (st_cons hst))).imp fun σ H Q ⟨O, ε, A, q⟩ => ⟨O, ε, A, oEv_mono ha.mono (fun x ε1 ⟨d, r, e1, e2, q⟩ v H1 O1 A1 x1 r1 => by
    match d, e1, e2 with
    | .int n, e1, e2 =>
      have e2 : (if 0 ≤ n ∧ n ≤ 16777216 then some (PyData.list (intsR 0 n.toNat)) else none) = some r := e2
      split at e2
      · rename_i h
        cases e2
        refine ⟨n, nb_int (r1.nb A1 e1), RgOk.of_le (by omega) h.2 (by omega) h.1, fun q' np => ?_⟩
        have nH : H q' = none := Classical.byContradiction fun z => x1.some q' z np
        refine q q' _ (OS.add O1 q') (A1.add np) (x1.trans (.add np)) (.inl rfl) nH ⟨q', _, rfl, .inl rfl, upd_same, ?_⟩
        unfold rgV
        rw [show (n : Int) - 0 = n by omega]
        exact rpL_ints _
      · cases e2) q⟩, eUn_mono ha.mono⟩
theorem df_listR2 (hc : X.calm = true) (hg : Gl X "list") (hm : X.mg "list" = none) (hg2 : Gl X "range") (hm2 : X.mg "range" = none) (ha : DO X κ a oa) (hb : DO X κ b ob) (hst : notStar a = true := by rfl) (hst2 : notStar b = true := by rfl) :
    DF X κ (.Call (.Name "list" p) [.Call (.Name "range" p2) [a, b] [] pos2] [] pos) (eBin dListR2 oa ob) :=
  ⟨fun g hg' => (pe_listRg hc hg hm (prg_2 hg2 hm2 (ha.pe g hg') (hb.pe g hg') (st_cons hst) (st_cons hst2) (by rw [st_cons hst2]; rfl))).imp fun σ H Q ⟨O, ε, A, q⟩ => ⟨O, ε, A, oEv_mono ha.mono (fun x ε1 q v H1 O1 A1 x1 r1 => ⟨O1, ε1, A1, oEv_mono hb.mono (fun y ε2 ⟨d, d2, r, e1, e1', e2, q⟩ v2 H2 O2 A2 x2 r2 => by
    match d, d2, e1, e1', e2 with
    | .int i, .int j, e1, e1', e2 =>
      have e2 : (if (0 ≤ i ∧ i ≤ 16777216) ∧ (0 ≤ j ∧ j ≤ 16777216) then some (PyData.list (intsR i (j - i).toNat)) else none) = some r := e2
      split at e2
      · rename_i h
        cases e2
        refine ⟨i, j, nb_int ((r1.ext A1 x2).nb A2 e1), nb_int (r2.nb A2 e1'), RgOk.of_le h.1.1 h.2.2 h.1.2 h.2.1, fun q' np => ?_⟩
        have x12 := x1.trans x2
        have nH : H q' = none := Classical.byContradiction fun z => x12.some q' z np
        exact q q' _ (OS.add O2 q') (A2.add np) (x12.trans (.add np)) (.inl rfl) nH ⟨q', _, rfl, .inl rfl, upd_same, rpL_ints _⟩
      · cases e2) q⟩) q⟩, eBin_mono ha.mono hb.mono⟩
end
/-! ### pop(i), remove(x) -/
def fPopAt : D → List D → Option (D × D)
  | .list xs, [.int i] => if -(2 ^ 63) ≤ i ∧ i < 2 ^ 63 then (seqIndex? i xs.length).bind fun k => (xs[k]?).map fun d => (d, .list (xs.eraseIdx k)) else none
  | _, _ => none
theorem RpL.erase {H : Hp} {O : OS} : ∀ {ds : List D} {vs : List V} (k : Nat), RpL H O ds vs → RpL H O (ds.eraseIdx k) (vs.eraseIdx k)
  | [], vs, k, h => by
    have h : vs = [] := h
    subst h
    exact (rfl : ([] : List V) = [])
  | d :: ds, _, 0, ⟨v, r, e, _, q⟩ => by
    subst e
    exact q
  | d :: ds, _, k + 1, ⟨v, r, e, h, q⟩ => by
    subst e
    exact ⟨v, _, rfl, h, RpL.erase k q⟩
theorem popAt_ok : MuOk rPopAt fPopAt := fun H O a cur res new ds xs Q ow rl e k => by
  match cur, ds, ow, rl, e with
  | .list ys, [.int i], ⟨p, us, ep, hp, hl, r⟩, ⟨v, vr, ev, hv, er⟩, e =>
    cases ep
    have er : vr = [] := er
    have hv : v = .int i := hv
    subst er ev hv
    have e : (if -(2 ^ 63) ≤ i ∧ i < 2 ^ 63 then (seqIndex? i ys.length).bind fun k => (ys[k]?).map fun d => (d, PyData.list (ys.eraseIdx k)) else none) = some (res, new) := e
    split at e
    · rename_i h
      obtain ⟨j, e1, e⟩ := Option.bind_eq_some_iff.mp e
      obtain ⟨d, e2, e⟩ := Option.map_eq_some_iff.mp e
      cases e
      obtain ⟨y, hy, ry⟩ := r.at e2
      have kO : ∀ b o, H b = some o → ¬ O b → upd H a (.lst (us.eraseIdx j)) b = some o := fun b o e n => by rw [upd_ne (show b ≠ a from fun z => n (by rw [z]; exact hp))]; exact e
      refine ⟨a, us, i, j, y, rfl, rfl, hl, h.1, h.2, by rw [r.length]; exact e1, hy, k _ _ (fun b o n e => by rw [upd_ne n]; exact e) (by rw [upd_same]; exact fun z => nomatch z) ?_ (Rp.ext kO (fun _ z => .inl z) ry)⟩
      exact ⟨a, _, rfl, hp, upd_same, RpL.erase j (RpL.ext kO (fun _ z => .inl z) r)⟩
    · cases e
def intsOf : List D → Option (List Int)
  | [] => some []
  | .int z :: ds => (intsOf ds).map (z :: ·)
  | _ :: _ => none
theorem RpL.intsOf {H : Hp} {O : OS} : ∀ {ds : List D} {ys : List Int} {us : List V}, DL.intsOf ds = some ys → RpL H O ds us → us = ys.map V.int
  | [], ys, us, e, h => by
    cases (show some ([] : List Int) = some ys from e)
    exact h
  | .int z :: ds, ys, _, e, ⟨v, r, eu, hv, h⟩ => by
    obtain ⟨zs, e2, rfl⟩ := Option.map_eq_some_iff.mp (show (DL.intsOf ds).map (z :: ·) = some ys from e)
    rw [eu, show v = .int z from hv, RpL.intsOf e2 h]
    rfl
theorem intsOf_map : ∀ (ns : List Int), DL.intsOf (ns.map PyData.int) = some ns
  | [] => rfl
  | n :: ns => by
    show (DL.intsOf (ns.map PyData.int)).map (n :: ·) = _
    rw [intsOf_map ns]
    rfl
def fRemove : D → List D → Option (D × D)
  | .list xs, [.int i] => (intsOf xs).bind fun ns => if i ∈ ns then some (.none, .list ((ns.eraseIdx (ns.idxOf i)).map .int)) else none
  | _, _ => none
theorem rpL_mapInt {H : Hp} {O : OS} : ∀ (ns : List Int), RpL H O (ns.map PyData.int) (ns.map V.int)
  | [] => (rfl : ([] : List V) = [])
  | n :: ns => ⟨_, _, rfl, rfl, rpL_mapInt ns⟩
theorem remove_ok : MuOk rRemI fRemove := fun H O a cur res new ds xs Q ow rl e k => by
  match cur, ds, ow, rl, e with
  | .list ys, [.int i], ⟨p, us, ep, hp, hl, r⟩, ⟨v, vr, ev, hv, er⟩, e =>
    cases ep
    have er : vr = [] := er
    have hv : v = .int i := hv
    subst er ev hv
    obtain ⟨ns, e1, e⟩ := Option.bind_eq_some_iff.mp (show (intsOf ys).bind (fun ns => if i ∈ ns then some (PyData.none, PyData.list ((ns.eraseIdx (ns.idxOf i)).map .int)) else none) = some (res, new) from e)
    split at e
    · rename_i h
      cases e
      have hlt := List.idxOf_lt_length_of_mem h
      refine ⟨a, ns, i, ns.idxOf i, rfl, rfl, by rw [hl, r.intsOf e1], ?_, fun m hm em => ?_, k _ _ (fun b o n e => by rw [upd_ne n]; exact e) (by rw [upd_same]; exact fun z => nomatch z) ⟨a, _, rfl, hp, upd_same, rpL_mapInt _⟩ rfl⟩
      · rw [List.getElem?_eq_getElem hlt, List.getElem_idxOf hlt]
      · obtain ⟨hm2, em⟩ := List.getElem?_eq_some_iff.mp em
        have := List.not_of_lt_findIdx (p := (· == i)) (xs := ns) (show m < ns.findIdx (· == i) from hm)
        simp [em] at this
    · cases e
end DL

namespace DL
open PySem PySem.Spec L2
/-! ### the deck of numbers that a law draws from -/
def W_law_draw : WS := (sSeq (sPut 0 fSetL (eBin dAdd (.ex (eBin dAt (.nm 0) (.ex (eC (.int 3))))) (.ex (eC (.int 1)))) (eC (.int 3)))
  (sSeq (sIf (tE (eBin dGt (.ex (eBin dAt (.nm 0) (.ex (eC (.int 2))))) (.ex (eC (.int 0))))) (sSeq (sSet 2 (eBin dMod (.ex (eApp dInt [(.ex (eBin dAt (.nm 0) (.ex (eC (.int 2)))))])) (.nm 1)))
  (sSeq (sPut 0 fSetL (eBin dFdiv (.ex (eBin dAt (.nm 0) (.ex (eC (.int 2))))) (.nm 1)) (eC (.int 2)))
  (sRet (eNm 2)))) sNil)
  (sSeq (sSet 3 (eC (.int 83)))
  (sSeq (sIf (tE (eBin dNe (.ex (eBin dAt (.nm 0) (.ex (eC (.int 0))))) (.ex (eLst [])))) (sSet 3 (eBin dAt (.ex (eBin dAt (.nm 0) (.ex (eC (.int 0))))) (.ex (eBin dMod (.ex (eApp dInt [(.ex (eBin dAt (.nm 0) (.ex (eC (.int 1)))))])) (.ex (eApp dLen [(.ex (eBin dAt (.nm 0) (.ex (eC (.int 0)))))])))))) sNil)
  (sSeq (sPut 0 fSetL (eBin dAdd (.ex (eBin dAt (.nm 0) (.ex (eC (.int 1))))) (.ex (eC (.int 1)))) (eC (.int 1)))
  (sSeq (sIf (tAndW (tE (eBin dGe (.ex (eApp dAbs [(.nm 3)])) (.ex (eBin dPow (.ex (eC (.int 10))) (.ex (eC (.int 18))))))) (tE (eBin dLe (.ex (eBin dAt (.nm 0) (.ex (eC (.int 1))))) (.ex (eApp dLen [(.ex (eBin dAt (.nm 0) (.ex (eC (.int 0)))))]))))) (sSeq (sPut 0 fSetL (eBin dFdiv (.ex (eApp dAbs [(.nm 3)])) (.nm 1)) (eC (.int 2)))
  (sRet (eBin dMod (.ex (eApp dInt [(.ex (eApp dAbs [(.nm 3)]))])) (.nm 1)))) sNil)
  (sSeq (sSet 4 (eBin dMod (.ex (eBin dPow (.ex (eApp dInt [(.ex (eBin dAdd (.ex (eBin dMod (.ex (eApp dInt [(.nm 3)])) (.ex (eC (.int 2147483563))))) (.ex (eBin dMul (.ex (eC (.int 77232917))) (.ex (eBin dAt (.nm 0) (.ex (eC (.int 3)))))))))])) (.ex (eC (.int 5))))) (.ex (eC (.int 2147483399)))))
  (sSeq (sSet 4 (eBin dMod (.ex (eBin dPow (.ex (eApp dInt [(.ex (eBin dAdd (.ex (eBin dMul (.nm 4) (.ex (eBin dAdd (.ex (eBin dMul (.ex (eC (.int 2))) (.ex (eBin dAt (.nm 0) (.ex (eC (.int 3))))))) (.ex (eC (.int 7))))))) (.ex (eC (.int 6449)))))])) (.ex (eC (.int 3))))) (.ex (eC (.int 2147483647)))))
  (sRet (eBin dMod (.ex (eBin dFdiv (.nm 4) (.ex (eC (.int 32))))) (.nm 1)))))))))))
theorem atI_nat {α : Type} {xs : List α} {i : Int} (h : 0 ≤ i) (h2 : i < xs.length) : atI xs i = xs[i.toNat]? := by
  unfold atI ixN
  rw [if_pos h, if_pos h2]
  rfl
theorem atI_0 {α : Type} {x : α} {xs : List α} : atI (x :: xs) 0 = some x := by
  rw [atI_nat (by decide) (by simp only [List.length_cons]; omega)]
  rfl
theorem atI_1 {α : Type} {x y : α} {xs : List α} : atI (x :: y :: xs) 1 = some y := by
  rw [atI_nat (by decide) (by simp only [List.length_cons]; omega)]
  rfl
theorem atI_2 {α : Type} {x y z : α} {xs : List α} : atI (x :: y :: z :: xs) 2 = some z := by
  rw [atI_nat (by decide) (by simp only [List.length_cons]; omega)]
  rfl
theorem atI_3 {α : Type} {x y z u : α} {xs : List α} : atI (x :: y :: z :: u :: xs) 3 = some u := by
  rw [atI_nat (by decide) (by simp only [List.length_cons]; omega)]
  rfl
theorem dAt_l {xs : List D} {i : Int} : dAt (.list xs) (.int i) = atI xs i := rfl
theorem dAt_t {xs : List D} {i : Int} : dAt (.tuple xs) (.int i) = atI xs i := rfl
theorem dAdd_i {i j : Int} : dAdd (.int i) (.int j) = some (.int (i + j)) := rfl
theorem dSub_i {i j : Int} : dSub (.int i) (.int j) = some (.int (i - j)) := rfl
theorem dMul_i {i j : Int} (h : (smallI i || smallI j) = true) : dMul (.int i) (.int j) = some (.int (i * j)) := if_pos h
theorem dFdiv_i {i j : Int} (h : 0 < j) (h2 : j < 1073741824) : dFdiv (.int i) (.int j) = some (.int (i / j)) := if_pos (by simp [h, h2])
theorem dMod_i {i j : Int} (h : 0 < j) : dMod (.int i) (.int j) = some (.int (i % j)) := if_pos (by simp [h])
theorem dPow_i {i j : Int} (h : 0 ≤ j) (h2 : j ≤ 1000000) (h3 : i.natAbs < 2 ^ 64) : dPow (.int i) (.int j) = some (.int (i ^ j.toNat)) := if_pos (by simp only [decide_eq_true h, decide_eq_true h2, decide_eq_true h3, Bool.and_self])
theorem dGt_i {i j : Int} : dGt (.int i) (.int j) = some (.bool (decide (j < i))) := rfl
theorem dGe_i {i j : Int} : dGe (.int i) (.int j) = some (.bool (decide (j ≤ i))) := rfl
theorem dLt_i {i j : Int} : dLt (.int i) (.int j) = some (.bool (decide (i < j))) := rfl
theorem dLe_i {i j : Int} : dLe (.int i) (.int j) = some (.bool (decide (i ≤ j))) := rfl
theorem dInt_i {i : Int} : dInt [.int i] = some (.int i) := rfl
theorem dAbs_i {i : Int} : dAbs [.int i] = some (.int (if i < 0 then -i else i)) := rfl
theorem dLen_l {xs : List D} : dLen [.list xs] = some (.int xs.length) := rfl
theorem dLen_t {xs : List D} : dLen [.tuple xs] = some (.int xs.length) := rfl
theorem fSetL_0 {x d : D} {xs : List D} : fSetL (.list (x :: xs)) (.int 0) d = some (.list (d :: xs)) := by
  show (ixN (x :: xs).length 0).map _ = _
  unfold ixN
  rw [if_pos (by decide), if_pos (by simp only [List.length_cons]; omega)]
  rfl
theorem fSetL_1 {x y d : D} {xs : List D} : fSetL (.list (x :: y :: xs)) (.int 1) d = some (.list (x :: d :: xs)) := by
  show (ixN (x :: y :: xs).length 1).map _ = _
  unfold ixN
  rw [if_pos (by decide), if_pos (by simp only [List.length_cons]; omega)]
  rfl
theorem fSetL_2 {x y z d : D} {xs : List D} : fSetL (.list (x :: y :: z :: xs)) (.int 2) d = some (.list (x :: y :: d :: xs)) := by
  show (ixN (x :: y :: z :: xs).length 2).map _ = _
  unfold ixN
  rw [if_pos (by decide), if_pos (by simp only [List.length_cons]; omega)]
  rfl
theorem fSetL_3 {x y z u d : D} {xs : List D} : fSetL (.list (x :: y :: z :: u :: xs)) (.int 3) d = some (.list (x :: y :: z :: d :: xs)) := by
  show (ixN (x :: y :: z :: u :: xs).length 3).map _ = _
  unfold ixN
  rw [if_pos (by decide), if_pos (by simp only [List.length_cons]; omega)]
  rfl
/-- one statement behind another: what the first leaves -/
theorem seq_of {w u : WS} {E : WEnds} {ε ε' : En} (h : ∀ K : En → Prop, K ε' → w { E with nx := K } ε) (k : u E ε') : sSeq w u E ε := h _ k
def valsF (ε : En) : List (En → Option D) → Option (List D)
  | [] => some []
  | x :: xs => (x ε).bind fun d => (valsF ε xs).map (d :: ·)
theorem valsF_iff {ε : En} : ∀ {xs : List (En → Option D)} {ds : List D}, vals ε xs ds ↔ valsF ε xs = some ds
  | [], ds => ⟨fun h => by cases (show ds = [] from h); rfl, fun h => by cases (show some [] = some ds from h); exact (rfl : ([] : List D) = [])⟩
  | x :: xs, ds => by
    constructor
    · rintro ⟨d, r, rfl, e, h⟩
      show (x ε).bind _ = _
      rw [e, Option.bind_some, valsF_iff.mp h]
      rfl
    · intro h
      obtain ⟨d, e, h⟩ := Option.bind_eq_some_iff.mp (show (x ε).bind (fun d => (valsF ε xs).map (d :: ·)) = some ds from h)
      obtain ⟨r, e2, h⟩ := Option.map_eq_some_iff.mp h
      exact ⟨d, r, h.symm, e, valsF_iff.mpr e2⟩
theorem eApp_iff {f : List D → Option D} {os : List Op} {ε : En} {Q : D → En → Prop} : eApp f os ε Q ↔ aEv os ε fun xs ε' => ∃ ds, valsF ε' xs = some ds ∧ ∃ r, f ds = some r ∧ Q r ε' := by
  have e : (fun xs ε' => ∃ ds r, vals ε' xs ds ∧ f ds = some r ∧ Q r ε') = (fun xs ε' => ∃ ds, valsF ε' xs = some ds ∧ ∃ r, f ds = some r ∧ Q r ε') := by
    funext xs ε'
    refine propext ⟨fun ⟨ds, r, h, e, q⟩ => ⟨ds, valsF_iff.mp h, r, e, q⟩, fun ⟨ds, h, r, e, q⟩ => ⟨ds, r, valsF_iff.mpr h, e, q⟩⟩
  show aEv os ε _ ↔ _
  rw [e]
/-- a deck as it stands after at most m draws -/
def dkD (ns : List Int) (i l c : Int) : D := .list [.list (ns.map PyData.int), .int i, .int l, .int c]
theorem canAll {xs : List D} (h : ∀ x ∈ xs, PyData.canLay0 x = true) : PyData.canLayAll0 xs = true := by
  induction xs with
  | nil => rfl
  | cons a as ih =>
    show (PyData.canLay0 a && PyData.canLayAll0 as) = true
    rw [h a List.mem_cons_self, ih fun x hx => h x (List.mem_cons_of_mem _ hx)]
    rfl
theorem depAll {xs : List D} {n : Nat} (h : ∀ x ∈ xs, PyData.depth x ≤ n) : PyData.depthAll xs ≤ n := by
  induction xs with
  | nil => exact Nat.zero_le _
  | cons a as ih => exact Nat.max_le.mpr ⟨h a List.mem_cons_self, ih fun x hx => h x (List.mem_cons_of_mem _ hx)⟩
/-- d may be compared, and stands at most n deep -/
def Sh (n : Nat) (d : D) : Prop := PyData.canLay0 d = true ∧ PyData.depth d ≤ n
theorem Sh.int {n : Nat} {i : Int} : Sh n (.int i) := ⟨rfl, Nat.zero_le _⟩
theorem Sh.bool {n : Nat} {i : Bool} : Sh n (.bool i) := ⟨rfl, Nat.zero_le _⟩
theorem Sh.none {n : Nat} : Sh n .none := ⟨rfl, Nat.zero_le _⟩
theorem Sh.str {n : Nat} {z : Str} (h : PyData.canLay0 (.str z) = true) : Sh n (.str z) := ⟨h, Nat.zero_le _⟩
theorem Sh.list {n : Nat} {xs : List D} (h : ∀ x ∈ xs, Sh n x) : Sh (n + 1) (.list xs) := ⟨canAll fun x hx => (h x hx).1, Nat.succ_le_succ (depAll fun x hx => (h x hx).2)⟩
theorem Sh.tuple {n : Nat} {xs : List D} (h : ∀ x ∈ xs, Sh n x) : Sh (n + 1) (.tuple xs) := ⟨canAll fun x hx => (h x hx).1, Nat.succ_le_succ (depAll fun x hx => (h x hx).2)⟩
theorem Sh.le {m n : Nat} {d : D} (h : Sh m d) (l : m ≤ n) : Sh n d := ⟨h.1, Nat.le_trans h.2 l⟩
theorem Sh.ok {n : Nat} {d : D} (h : Sh n d) (l : n ≤ 64 := by decide) : SeqAt.shaped d = true := by
  unfold SeqAt.shaped
  rw [h.1, decide_eq_true (Nat.le_trans h.2 l)]
  rfl
theorem Sh.ints {n : Nat} {ns : List Int} : Sh (n + 1) (.list (ns.map PyData.int)) := Sh.list fun x hx => by
  obtain ⟨i, _, rfl⟩ := List.mem_map.mp hx
  exact Sh.int
theorem dEq_sh {m n : Nat} {a b : D} (ha : Sh m a) (hb : Sh n b) (hm : m ≤ 64 := by decide) (hn : n ≤ 64 := by decide) : dEq a b = some (.bool (PyData.eqv a b)) := if_pos (.inr ⟨ha.ok hm, hb.ok hn⟩)
theorem dEq_str {x y : Str} : dEq (.str x) (.str y) = some (.bool (PyData.eqv (.str x) (.str y))) := if_pos (.inl rfl)
theorem dNe_str {x y : Str} : dNe (.str x) (.str y) = some (.bool !(PyData.eqv (.str x) (.str y))) := if_pos (.inl rfl)
theorem eqv_strs (x : Str) : PyData.eqv (.str x) (.str x) = true := by
  rw [eqv_str]
  exact decide_eq_true rfl
theorem dNe_sh {m n : Nat} {a b : D} (ha : Sh m a) (hb : Sh n b) (hm : m ≤ 64 := by decide) (hn : n ≤ 64 := by decide) : dNe a b = some (.bool !(PyData.eqv a b)) := if_pos (.inr ⟨ha.ok hm, hb.ok hn⟩)
theorem ne_nil (ns : List Int) : dNe (.list (ns.map PyData.int)) (.list []) = some (.bool !ns.isEmpty) := by
  rw [dNe_sh (m := 1) (n := 1) Sh.ints (Sh.list fun x hx => absurd hx List.not_mem_nil)]
  cases ns <;> rfl
theorem draw_math {ns : List Int} {i l c n : Int} {E : WEnds} (h1 : ns.length ≤ 63) (hi : 0 ≤ i) (hc : 0 ≤ c) (hc2 : c < 2 ^ 30 - 1) (hn : 0 < n) (hn2 : n < 1073741824)
    (q : ∀ (r i' l' : Int) (a b d : Option D), 0 ≤ r → r < n → 0 ≤ i' → E.rt (.int r) [some (dkD ns i' l' (c + 1)), some (.int n), a, b, d]) : W_law_draw E (startE 5 [dkD ns i l c, .int n]) := by
  unfold W_law_draw
  simp only [dkD] at q ⊢
  apply seq_of
  · intro K k
    simp only [startE, sPut, eBin, eNm, eC, oEv, slF, List.map_cons, List.map_nil, List.replicate, List.length_cons, List.length_nil, List.cons_append, List.nil_append, List.getElem?_cons_succ, List.getElem?_cons_zero, List.set_cons_succ, List.set_cons_zero, Option.join_some, Option.some.injEq, exists_eq_left', exists_and_left, exists_eq', true_and, dAt_l, atI_3, dAdd_i, fSetL_3]
    exact k
  by_cases hl : 0 < l
  · refine show sIf _ _ _ _ _ from ?_
    simp only [sIf, sNil, tE, tAndW, sSeq, sSet, sRet, sPut, eBin, eNm, eC, eLst, cEv, eApp_iff, aEv, valsF, oEv, slF, List.getElem?_cons_succ, List.getElem?_cons_zero, List.set_cons_succ, List.set_cons_zero, Option.join_some, Option.bind_some, Option.map_some, Option.some.injEq, exists_eq_left', exists_and_left, exists_eq', true_and, PyData.bool.injEq, exists_eq_left, ↓reduceIte, Bool.false_eq_true, Nat.zero_le, List.length_nil, dAt_l, atI_0, atI_1, atI_2, atI_3, dAdd_i, dGt_i, dGe_i, dLe_i, dInt_i, dAbs_i, dLen_l, fSetL_0, fSetL_1, fSetL_2, fSetL_3, decide_eq_true hl, dMod_i hn, dFdiv_i hn hn2]
    exact q _ _ _ _ _ _ (Int.emod_nonneg _ (by omega)) (Int.emod_lt_of_pos _ hn) hi
  apply seq_of
  · intro K k
    simp only [sIf, sNil, tE, tAndW, sSeq, sSet, sRet, sPut, eBin, eNm, eC, eLst, cEv, eApp_iff, aEv, valsF, oEv, slF, List.getElem?_cons_succ, List.getElem?_cons_zero, List.set_cons_succ, List.set_cons_zero, Option.join_some, Option.bind_some, Option.map_some, Option.some.injEq, exists_eq_left', exists_and_left, exists_eq', true_and, PyData.bool.injEq, exists_eq_left, ↓reduceIte, Bool.false_eq_true, Nat.zero_le, List.length_nil, dAt_l, atI_0, atI_1, atI_2, atI_3, dAdd_i, dGt_i, dGe_i, dLe_i, dInt_i, dAbs_i, dLen_l, fSetL_0, fSetL_1, fSetL_2, fSetL_3, decide_eq_false hl]
    exact k
  apply seq_of
  · intro K k
    simp only [sIf, sNil, tE, tAndW, sSeq, sSet, sRet, sPut, eBin, eNm, eC, eLst, cEv, eApp_iff, aEv, valsF, oEv, slF, List.getElem?_cons_succ, List.getElem?_cons_zero, List.set_cons_succ, List.set_cons_zero, Option.join_some, Option.bind_some, Option.map_some, Option.some.injEq, exists_eq_left', exists_and_left, exists_eq', true_and, PyData.bool.injEq, exists_eq_left, ↓reduceIte, Bool.false_eq_true, Nat.zero_le, List.length_nil, dAt_l, atI_0, atI_1, atI_2, atI_3, dAdd_i, dGt_i, dGe_i, dLe_i, dInt_i, dAbs_i, dLen_l, fSetL_0, fSetL_1, fSetL_2, fSetL_3]
    exact k
  -- the cell
  refine seq_of (ε' := [some (PyData.list [.list (ns.map PyData.int), .int i, .int l, .int (c + 1)]), some (.int n), none, some (.int (if ns = [] then 83 else ns.getD (i % ns.length).toNat 0)), none]) (fun K k => ?_) ?_
  · by_cases hz : ns = []
    · subst hz
      simp only [sIf, sNil, tE, tAndW, sSeq, sSet, sRet, sPut, eBin, eNm, eC, eLst, cEv, eApp_iff, aEv, valsF, oEv, slF, List.getElem?_cons_succ, List.getElem?_cons_zero, List.set_cons_succ, List.set_cons_zero, Option.join_some, Option.bind_some, Option.map_some, Option.some.injEq, exists_eq_left', exists_and_left, exists_eq', true_and, PyData.bool.injEq, exists_eq_left, ↓reduceIte, Bool.false_eq_true, Nat.zero_le, List.length_nil, dAt_l, atI_0, atI_1, atI_2, atI_3, dAdd_i, dGt_i, dGe_i, dLe_i, dInt_i, dAbs_i, dLen_l, fSetL_0, fSetL_1, fSetL_2, fSetL_3, ne_nil, List.isEmpty_nil, Bool.not_true]
      exact k
    · have hz' : ns.isEmpty = false := by
        cases ns with
        | nil => exact (hz rfl).elim
        | cons a as => rfl
      have hp : 0 < ns.length := List.length_pos_iff.mpr hz
      have hp2 : (0 : Int) < ((ns.map PyData.int).length : Int) := by rw [List.length_map]; omega
      have a0 : 0 ≤ i % (ns.length : Int) := Int.emod_nonneg _ (by omega)
      have a1 : i % (ns.length : Int) < (ns.length : Int) := Int.emod_lt_of_pos _ (by omega)
      simp only [sIf, sNil, tE, tAndW, sSeq, sSet, sRet, sPut, eBin, eNm, eC, eLst, cEv, eApp_iff, aEv, valsF, oEv, slF, List.getElem?_cons_succ, List.getElem?_cons_zero, List.set_cons_succ, List.set_cons_zero, Option.join_some, Option.bind_some, Option.map_some, Option.some.injEq, exists_eq_left', exists_and_left, exists_eq', true_and, PyData.bool.injEq, exists_eq_left, ↓reduceIte, Bool.false_eq_true, Nat.zero_le, List.length_nil, dAt_l, atI_0, atI_1, atI_2, atI_3, dAdd_i, dGt_i, dGe_i, dLe_i, dInt_i, dAbs_i, dLen_l, fSetL_0, fSetL_1, fSetL_2, fSetL_3, ne_nil, hz', Bool.not_false, dMod_i hp2]
      rw [List.length_map, atI_nat a0 (by rw [List.length_map]; exact a1), List.getElem?_map, List.getElem?_eq_getElem (by omega)]
      refine ⟨_, rfl, ?_⟩
      rw [if_neg hz, List.getD_eq_getElem?_getD, List.getElem?_eq_getElem (by omega)] at k
      exact k
  generalize (if ns = [] then 83 else ns.getD (i % ns.length).toNat 0) = cell
  apply seq_of
  · intro K k
    simp only [sIf, sNil, tE, tAndW, sSeq, sSet, sRet, sPut, eBin, eNm, eC, eLst, cEv, eApp_iff, aEv, valsF, oEv, slF, List.getElem?_cons_succ, List.getElem?_cons_zero, List.set_cons_succ, List.set_cons_zero, Option.join_some, Option.bind_some, Option.map_some, Option.some.injEq, exists_eq_left', exists_and_left, exists_eq', true_and, PyData.bool.injEq, exists_eq_left, ↓reduceIte, Bool.false_eq_true, Nat.zero_le, List.length_nil, dAt_l, atI_0, atI_1, atI_2, atI_3, dAdd_i, dGt_i, dGe_i, dLe_i, dInt_i, dAbs_i, dLen_l, fSetL_0, fSetL_1, fSetL_2, fSetL_3]
    exact k
  have ha : 0 ≤ (if cell < 0 then -cell else cell) := by split <;> omega
  by_cases hb : (10 : Int) ^ (18 : Int).toNat ≤ (if cell < 0 then -cell else cell) ∧ i + 1 ≤ ((ns.map PyData.int).length : Int)
  · refine show sIf _ _ _ _ _ from ?_
    simp only [sIf, sNil, tE, tAndW, sSeq, sSet, sRet, sPut, eBin, eNm, eC, eLst, cEv, eApp_iff, aEv, valsF, oEv, slF, List.getElem?_cons_succ, List.getElem?_cons_zero, List.set_cons_succ, List.set_cons_zero, Option.join_some, Option.bind_some, Option.map_some, Option.some.injEq, exists_eq_left', exists_and_left, exists_eq', true_and, PyData.bool.injEq, exists_eq_left, ↓reduceIte, Bool.false_eq_true, Nat.zero_le, List.length_nil, dAt_l, atI_0, atI_1, atI_2, atI_3, dAdd_i, dGt_i, dGe_i, dLe_i, dInt_i, dAbs_i, dLen_l, fSetL_0, fSetL_1, fSetL_2, fSetL_3, dPow_i (i := 10) (j := 18) (by decide) (by decide) (by decide), decide_eq_true hb.1, decide_eq_true hb.2, dMod_i hn, dFdiv_i hn hn2]
    exact q _ _ _ _ _ _ (Int.emod_nonneg _ (by omega)) (Int.emod_lt_of_pos _ hn) (by omega)
  apply seq_of
  · intro K k
    simp only [sIf, sNil, tE, tAndW, sSeq, sSet, sRet, sPut, eBin, eNm, eC, eLst, cEv, eApp_iff, aEv, valsF, oEv, slF, List.getElem?_cons_succ, List.getElem?_cons_zero, List.set_cons_succ, List.set_cons_zero, Option.join_some, Option.bind_some, Option.map_some, Option.some.injEq, exists_eq_left', exists_and_left, exists_eq', true_and, PyData.bool.injEq, exists_eq_left, ↓reduceIte, Bool.false_eq_true, Nat.zero_le, List.length_nil, dAt_l, atI_0, atI_1, atI_2, atI_3, dAdd_i, dGt_i, dGe_i, dLe_i, dInt_i, dAbs_i, dLen_l, fSetL_0, fSetL_1, fSetL_2, fSetL_3, dPow_i (i := 10) (j := 18) (by decide) (by decide) (by decide)]
    by_cases hb1 : (10 : Int) ^ (18 : Int).toNat ≤ (if cell < 0 then -cell else cell)
    · have hb2 : ¬ i + 1 ≤ ((ns.map PyData.int).length : Int) := fun z => hb ⟨hb1, z⟩
      simp only [decide_eq_true hb1, decide_eq_false hb2, ↓reduceIte, Bool.false_eq_true, exists_eq_left']
      exact k
    · simp only [decide_eq_false hb1, ↓reduceIte, Bool.false_eq_true, exists_eq_left']
      exact k
  have m0 : 0 ≤ cell % 2147483563 := Int.emod_nonneg _ (by decide)
  have m1 : cell % 2147483563 < 2147483563 := Int.emod_lt_of_pos _ (by decide)
  have b0 : (cell % 2147483563 + 77232917 * (c + 1)).natAbs < 2 ^ 64 := by omega
  apply seq_of
  · intro K k
    simp only [sIf, sNil, tE, tAndW, sSeq, sSet, sRet, sPut, eBin, eNm, eC, eLst, cEv, eApp_iff, aEv, valsF, oEv, slF, List.getElem?_cons_succ, List.getElem?_cons_zero, List.set_cons_succ, List.set_cons_zero, Option.join_some, Option.bind_some, Option.map_some, Option.some.injEq, exists_eq_left', exists_and_left, exists_eq', true_and, PyData.bool.injEq, exists_eq_left, ↓reduceIte, Bool.false_eq_true, Nat.zero_le, List.length_nil, dAt_l, atI_0, atI_1, atI_2, atI_3, dAdd_i, dGt_i, dGe_i, dLe_i, dInt_i, dAbs_i, dLen_l, fSetL_0, fSetL_1, fSetL_2, fSetL_3, dMod_i (j := 2147483563) (by decide), dMul_i (i := 77232917) (by rfl), dPow_i (j := 5) (by decide) (by decide) b0, dMod_i (j := 2147483399) (by decide)]
    exact k
  generalize hx : (cell % 2147483563 + 77232917 * (c + 1)) ^ (5 : Int).toNat % 2147483399 = x
  have x0 : 0 ≤ x := by rw [← hx]; exact Int.emod_nonneg _ (by decide)
  have x1 : x < 2147483399 := by rw [← hx]; exact Int.emod_lt_of_pos _ (by decide)
  have b1 : (x * (2 * (c + 1) + 7) + 6449).natAbs < 2 ^ 64 := by
    have p : x * (2 * (c + 1) + 7) ≤ 2147483399 * (2 ^ 31 + 7) := Int.mul_le_mul (by omega) (by omega) (by omega) (by decide)
    have p0 : 0 ≤ x * (2 * (c + 1) + 7) := Int.mul_nonneg x0 (by omega)
    omega
  have sx : (smallI x || smallI (2 * (c + 1) + 7)) = true := by
    have : smallI x = true := by
      unfold smallI
      rw [decide_eq_true (by omega), decide_eq_true (by omega)]
      rfl
    rw [this]
    rfl
  apply seq_of
  · intro K k
    simp only [sIf, sNil, tE, tAndW, sSeq, sSet, sRet, sPut, eBin, eNm, eC, eLst, cEv, eApp_iff, aEv, valsF, oEv, slF, List.getElem?_cons_succ, List.getElem?_cons_zero, List.set_cons_succ, List.set_cons_zero, Option.join_some, Option.bind_some, Option.map_some, Option.some.injEq, exists_eq_left', exists_and_left, exists_eq', true_and, PyData.bool.injEq, exists_eq_left, ↓reduceIte, Bool.false_eq_true, Nat.zero_le, List.length_nil, dAt_l, atI_0, atI_1, atI_2, atI_3, dAdd_i, dGt_i, dGe_i, dLe_i, dInt_i, dAbs_i, dLen_l, fSetL_0, fSetL_1, fSetL_2, fSetL_3, dMul_i (i := 2) (by rfl), dMul_i sx, dPow_i (j := 3) (by decide) (by decide) b1, dMod_i (j := 2147483647) (by decide)]
    exact k
  generalize hy : (x * (2 * (c + 1) + 7) + 6449) ^ (3 : Int).toNat % 2147483647 = y
  simp only [sIf, sNil, tE, tAndW, sSeq, sSet, sRet, sPut, eBin, eNm, eC, eLst, cEv, eApp_iff, aEv, valsF, oEv, slF, List.getElem?_cons_succ, List.getElem?_cons_zero, List.set_cons_succ, List.set_cons_zero, Option.join_some, Option.bind_some, Option.map_some, Option.some.injEq, exists_eq_left', exists_and_left, exists_eq', true_and, PyData.bool.injEq, exists_eq_left, ↓reduceIte, Bool.false_eq_true, Nat.zero_le, List.length_nil, dAt_l, atI_0, atI_1, atI_2, atI_3, dAdd_i, dGt_i, dGe_i, dLe_i, dInt_i, dAbs_i, dLen_l, fSetL_0, fSetL_1, fSetL_2, fSetL_3, dFdiv_i (j := 32) (by decide) (by decide), dMod_i hn]
  exact q _ _ _ _ _ _ (Int.emod_nonneg _ (by omega)) (Int.emod_lt_of_pos _ hn) (by omega)
end DL

namespace DL
open PySem PySem.Spec L2
/-! ### the deck is made; the law's own def -/
def DkH (H H' : Hp) (p : Addr) : Prop := ∃ (q : Addr) (ns : List Int), H p = none ∧ H q = none ∧ p ≠ q ∧ H' p = some (.lst [.ref q, .int 0, .int 0, .int 0]) ∧ H' q = some (.lst (ns.map V.int)) ∧ ns.length ≤ 63 ∧ Same H H'
def spDeck (K : PySem.W.Frag) : Sp := fun vs H Q _ => ∃ (a : Addr) (ns : List Int), vs = [.ref a] ∧ SqL K H a (ns.map V.int) ∧ ns.length ≤ 63 ∧ ∀ p H', DkH H H' p → Q (.ref p) H'
def spLawG (K : PySem.W.Frag) : Sp := fun vs H Q _ => ∃ (a : Addr) (ns : List Int), vs = [.ref a] ∧ SqL K H a (ns.map V.int) ∧ ns.length ≤ 63 ∧ ∀ H', Q (.bl true) H'
def rLof (K : PySem.W.Frag) : List V → Hp → VK → Prop := fun xs H Q => ∃ p ys, xs = [.ref p] ∧ (SqL K H p ys ∨ SqT K H p ys) ∧ ∀ l, H l = none → Q (.ref l) (upd H l (.lst ys))
def tDeck (K : PySem.W.Frag) : TS := tRet (tLst (tCons (tCB (rLof K) (tCons (tSl (rSlL K) (tVar 0) tNoPart (tPart (tC (.int 63)))) tNil)) (tCons (tC (.int 0)) (tCons (tC (.int 0)) (tCons (tC (.int 0)) tNil)))))
theorem cut_ints (ns : List Int) (lo hi : Option Int) : ∃ ms : List Int, cutV (ns.map V.int) lo hi = ms.map V.int ∧ ms.length ≤ ns.length := by
  unfold cutV
  refine ⟨(ns.drop (HT.sIx (ns.map V.int).length 0 lo)).take (HT.sIx (ns.map V.int).length (ns.map V.int).length hi - HT.sIx (ns.map V.int).length 0 lo), by rw [List.map_take, List.map_drop], ?_⟩
  rw [List.length_take, List.length_drop]
  omega
section
variable {P : Program} {w : World} {K : PySem.W.Frag} {mg : Str → Option Value} {base : Heap}
theorem ok_deck {x : Str} {st : Stmt} {f : Addr} {fd : FuncData} (F : Fun K x x st f fd) (S : FnScope ["_law_script"] ["_law_script"] (defScope st))
    (hb : ∀ (cdv : Value) (A : Around) (outer : List Env) (s : Shared) (H : Hp) (E : XK), PSs (cxOf CX0 P w K mg base ["_law_script"] x (defScope st) f cdv A outer s H E) (defBody st) (tDeck K)) : FnG P w K mg base CX0 1 f fd ["_law_script"] (spDeck K) := by
  refine fn_g F S (fun vs H Q E h => ?_) (fun cdv A outer s H vs Q E hr hgd h => ?_)
  · obtain ⟨a, ns, rfl, _⟩ := h
    rfl
  · obtain ⟨a, ns, rfl, hS, hl, k⟩ := h
    refine ⟨_, hb cdv A outer s H E, ?_⟩
    obtain ⟨ms, e, l⟩ := cut_ints ns none (some 63)
    refine ⟨.ref a, rfl, 63, rfl, a, _, rfl, hS, fun r hr => ?_⟩
    refine ⟨r, _, rfl, .inl (SqL.of upd_same), fun q hq => ⟨show 4 ≤ sizeLine by decide, fun p hp => ?_⟩⟩
    rw [e] at hq hp ⊢
    have rq : r ≠ q := fun z => by rw [z, upd_same] at hq; cases hq
    have hq0 : H q = none := by rw [upd_ne rq.symm] at hq; exact hq
    have pq : p ≠ q := fun z => by rw [z, upd_same] at hp; cases hp
    have hp1 : upd H r (.lst (ms.map V.int)) p = none := by rw [upd_ne pq] at hp; exact hp
    have pr : p ≠ r := fun z => by rw [z, upd_same] at hp1; cases hp1
    have hp0 : H p = none := by rw [upd_ne pr] at hp1; exact hp1
    refine k p _ ⟨q, ms, hp0, hq0, pq, upd_same, by rw [upd_ne pq.symm, upd_same], by omega, fun b o eb => ?_⟩
    rw [upd_ne (ne_of_none eb hp0), upd_ne (ne_of_none eb hq0), upd_ne (ne_of_none eb hr)]
    exact eb
/-- a list of statements, whatever stood ahead of it -/
theorem DSs.any {X : Cx} {κ : List Kd} {fr : Bool} {st : List Stmt} {w : WS} (h : DSs X κ fr st w) : PSs X st (fun Dn σ H => ∃ g, g.κ = κ ∧ g.fr = fr ∧ rdS g w Dn σ H) :=
  ⟨fun pins s σ H Dn I ⟨g, h1, h2, q⟩ => (h.ps g h1 h2).run pins s σ H Dn I q⟩
def lawE : WEnds := ⟨fun _ => False, fun d _ => d = .bool true, fun _ => False, fun _ => False⟩
def lawS (n : Nat) (ns : List Int) : En := none :: some (dkD ns 0 0 0) :: List.replicate n none
theorem deck_abs {κr : List Kd} {H H' : Hp} {p : Addr} (hd : DkH H H' p) (hk : κr.all (fun k => k == .val || k == .own) = true) {a : V} : ∃ ns : List Int, ns.length ≤ 63 ∧
    Abs ⟨.val :: .own :: κr, H, fun _ => False, [], [], false⟩ (fun b => b = p) H' (some a :: some (.ref p) :: List.replicate κr.length none) (lawS κr.length ns) := by
  obtain ⟨q, ns, hp, hq, pq, e1, e2, hl, sm⟩ := hd
  refine ⟨ns, hl, ?_⟩
  have kk : ∀ (i : Nat) (k : Kd), (Kd.val :: Kd.own :: κr)[i]? = some k → k = .val ∨ k = .own := fun i k e => by
    match i, e with
    | 0, e => cases e; exact .inl rfl
    | 1, e => cases e; exact .inr rfl
    | i + 2, e =>
      have e : κr[i]? = some k := e
      have := List.all_eq_true.mp hk k (List.mem_of_getElem? e)
      simpa using this
  have s2 : ∀ (i : Nat) (v : V), (some a :: some (V.ref p) :: List.replicate κr.length none)[i]? = some (some v) → (i = 0 ∧ v = a) ∨ (i = 1 ∧ v = .ref p) := fun i v e => by
    match i, e with
    | 0, e => cases e; exact .inl ⟨rfl, rfl⟩
    | 1, e => cases e; exact .inr ⟨rfl, rfl⟩
    | i + 2, e =>
      have e : (List.replicate κr.length none)[i]? = some (some v) := e
      rw [List.getElem?_replicate] at e
      split at e <;> cases e
  have ow : ∀ b, OwnAt (Kd.val :: Kd.own :: κr) (some a :: some (V.ref p) :: List.replicate κr.length none) b → b = p := fun b ⟨i, hm, e⟩ => by
    rcases s2 i _ e with ⟨rfl, _⟩ | ⟨rfl, h⟩
    · rcases hm with h | h <;> cases h
    · cases h; rfl
  have noio : ∀ (i : Nat), (Kd.val :: Kd.own :: κr)[i]? ≠ some Kd.io := fun i e => by rcases kk i _ e with h | h <;> cases h
  refine { slot := ?_, ownO := ow, apart := ?_, brwA := ?_, new := ?_, has := ?_, has0 := fun _ h => h.elim, sub := fun _ h => h.elim, ioO := fun _ _ h => absurd h List.not_mem_nil, ioK := fun _ _ h => absurd h List.not_mem_nil, ioS := fun _ _ h => absurd h List.not_mem_nil, ioA := fun i h => (noio i h).elim, fr := fun b o e _ => sm b o e, hold := fun _ h => absurd h List.not_mem_nil, len := ?_, lenK := ?_ }
  · intro i d e
    match i, e with
    | 0, e => cases e
    | 1, e =>
      cases e
      refine ⟨.ref p, .own, rfl, rfl, p, _, rfl, rfl, e1, .ref q, _, rfl, ⟨q, _, rfl, fun z => pq z.symm, e2, ?_⟩, ?_⟩
      · clear hl e2 e
        induction ns with
        | nil => exact (rfl : ([] : List V) = [])
        | cons n r ih => exact ⟨_, _, rfl, rfl, ih⟩
      · exact ⟨_, _, rfl, rfl, _, _, rfl, rfl, _, _, rfl, rfl, rfl⟩
    | i + 2, e =>
      have e : (List.replicate κr.length none)[i]? = some (some d) := e
      rw [List.getElem?_replicate] at e
      split at e <;> cases e
  · intro i j b hi hj ei ej
    rcases s2 i _ ei with ⟨rfl, _⟩ | ⟨rfl, _⟩
    · rcases hi with h | h <;> cases h
    · rcases s2 j _ ej with ⟨rfl, _⟩ | ⟨rfl, _⟩
      · rcases hj with h | h <;> cases h
      · rfl
  · intro i b e
    rcases kk i _ e with h | h <;> cases h
  · intro i b hi ei
    rcases s2 i _ ei with ⟨rfl, _⟩ | ⟨rfl, h⟩
    · cases hi
    · cases h; exact hp
  · intro b hb
    subst hb
    rw [e1]
    exact fun z => nomatch z
  · simp [lawS]
  · simp
theorem ok_law {x : Str} {st : Stmt} {f : Addr} {fd : FuncData} {N : List Str} {κr : List Kd} {k : Nat} {w0 : WS} {s1 : Stmt} {rest : List Stmt} (F : Fun K x x st f fd) (S : FnScope N ["_law_script"] (defScope st)) (hN : N.length = κr.length + 2)
    (e : defBody st = s1 :: rest)
    (h1 : ∀ (cdv : Value) (A : Around) (outer : List Env) (s : Shared) (H : Hp) (E : XK), Room k (A.deeper (PyProof.Rows.envOfC x (defScope st) s.heap.objs.size f cdv)) → (A.deeper (PyProof.Rows.envOfC x (defScope st) s.heap.objs.size f cdv)).guards = some [] →
      PS (cxOf CX0 P w K mg base N x (defScope st) f cdv A outer s H E).nox s1 (tAsg (fun σ H Q => tCons (tVar 0) tNil σ H fun vs H1 => spDeck K vs H1 Q E0) (gName 1)))
    (body : ∀ (cdv : Value) (A : Around) (outer : List Env) (s : Shared) (H : Hp) (E : XK), Room k (A.deeper (PyProof.Rows.envOfC x (defScope st) s.heap.objs.size f cdv)) → (A.deeper (PyProof.Rows.envOfC x (defScope st) s.heap.objs.size f cdv)).guards = some [] →
      DSs (cxOf CX0 P w K mg base N x (defScope st) f cdv A outer s H E).nox (.val :: .own :: κr) false rest w0)
    (math : ∀ ns : List Int, ns.length ≤ 63 → w0 lawE (lawS κr.length ns)) (hk : κr.all (fun k => k == .val || k == .own) = true := by rfl) : FnG P w K mg base CX0 (k + 1) f fd ["_law_script"] (spLawG K) := by
  refine fn_g F S (fun vs H Q E h => ?_) (fun cdv A outer s H vs Q E hr hgd h => ?_)
  · obtain ⟨a, ns, rfl, _⟩ := h
    rfl
  · obtain ⟨a, ns, rfl, hS, hl, q⟩ := h
    have m := (body cdv A outer s H E hr hgd).mono
    refine ⟨tSeq (tAsg (fun σ H Q => tCons (tVar 0) tNil σ H fun vs H1 => spDeck K vs H1 Q E0) (gName 1)) (fun Dn σ H => ∃ g, g.κ = (.val :: .own :: κr) ∧ g.fr = false ∧ rdS g w0 Dn σ H), ?_, ?_⟩
    · rw [e]
      exact (pss_cons (h1 cdv A outer s H E hr hgd) (body cdv A outer s H E hr hgd).any).nox
    · have es : L2.start N [.ref a] = some (.ref a) :: none :: List.replicate κr.length none := by
        unfold L2.start
        rw [show N.length - [V.ref a].length = κr.length + 1 by rw [hN]; rfl]
        rfl
      rw [es]
      refine ⟨.ref a, rfl, a, ns, rfl, hS, hl, fun p H' hd => ?_⟩
      obtain ⟨ms, hl2, A'⟩ := deck_abs hd hk (a := .ref a)
      refine ⟨⟨.val :: .own :: κr, H, fun _ => False, [], [], false⟩, rfl, rfl, _, _, A', ?_⟩
      refine m lawE _ _ ⟨fun ε z => z.elim, fun d ε z v H2 σ2 O2 A2 r => ?_, fun ε z => z.elim, fun ε z => z.elim⟩ (math ms hl2)
      have z : d = .bool true := z
      subst z
      have r : v = .bl true := r
      subst r
      exact q _
end
end DL

namespace DL
open PySem PySem.Spec L2
/-! ### data of bounded size: may be compared and shown -/
structure Gd (m n : Nat) (d : D) : Prop where
  can : PyData.canLay0 d = true
  ish : PyData.intsShort 80 d = true
  shw : PyData.showable d = true
  dep : PyData.depth d ≤ m
  blk : PyData.bulk d ≤ n
theorem intsAll {xs : List D} (h : ∀ x ∈ xs, PyData.intsShort 80 x = true) : PyData.intsShortAll 80 xs = true := by
  induction xs with
  | nil => rfl
  | cons a as ih =>
    show (PyData.intsShort 80 a && PyData.intsShortAll 80 as) = true
    rw [h a List.mem_cons_self, ih fun x hx => h x (List.mem_cons_of_mem _ hx)]
    rfl
theorem shwAll {xs : List D} (h : ∀ x ∈ xs, PyData.showable x = true) : PyData.showableAll xs = true := by
  induction xs with
  | nil => rfl
  | cons a as ih =>
    show (PyData.showable a && PyData.showableAll as) = true
    rw [h a List.mem_cons_self, ih fun x hx => h x (List.mem_cons_of_mem _ hx)]
    rfl
theorem blkAll {xs : List D} {n : Nat} (h : ∀ x ∈ xs, PyData.bulk x ≤ n) : PyData.bulkAll xs ≤ xs.length * (n + 1) := by
  induction xs with
  | nil => exact Nat.zero_le _
  | cons a as ih =>
    show PyData.bulk a + 1 + PyData.bulkAll as ≤ (as.length + 1) * (n + 1)
    have h1 := h a List.mem_cons_self
    have h2 := ih fun x hx => h x (List.mem_cons_of_mem _ hx)
    rw [Nat.add_mul, Nat.one_mul]
    omega
theorem Gd.none {m n : Nat} : Gd m n .none := ⟨rfl, rfl, rfl, Nat.zero_le _, Nat.zero_le _⟩
theorem Gd.bool {m n : Nat} {b : Bool} : Gd m n (.bool b) := ⟨rfl, rfl, rfl, Nat.zero_le _, Nat.zero_le _⟩
theorem Gd.int {m n : Nat} {i : Int} (h : i.natAbs < 10 ^ 79) : Gd m n (.int i) := by
  refine ⟨rfl, ?_, ?_, Nat.zero_le _, Nat.zero_le _⟩
  · have : (Str.ofString (toString i)).length ≤ 80 := by
      rw [PySem.ofString_length]
      exact PySem.int_text_length_le10 (k := 79) (by decide) h
    exact decide_eq_true this
  · refine decide_eq_true ?_
    by_cases z : i.natAbs = 0
    · rw [z]; decide
    · refine (Nat.log2_lt z).mpr (Nat.lt_trans h ?_)
      exact Nat.lt_of_lt_of_le (by decide : 10 ^ 79 < 2 ^ 255 * 256) (Nat.le_trans (by decide : 2 ^ 255 * 256 ≤ 2 ^ 255 * 2 ^ 8) (by rw [← Nat.pow_add]; exact Nat.pow_le_pow_right (by decide) (by decide)))
theorem Gd.str {m n : Nat} {z : Str} (h : PyData.canLay0 (.str z) = true) (l : z.cps.size ≤ n) : Gd m n (.str z) := ⟨h, rfl, rfl, Nat.zero_le _, l⟩
theorem Gd.list {m n k : Nat} {xs : List D} (h : ∀ x ∈ xs, Gd m n x) (l : xs.length * (n + 1) ≤ k) : Gd (m + 1) k (.list xs) :=
  ⟨canAll fun x hx => (h x hx).can, intsAll fun x hx => (h x hx).ish, shwAll fun x hx => (h x hx).shw, Nat.succ_le_succ (depAll fun x hx => (h x hx).dep), Nat.le_trans (blkAll fun x hx => (h x hx).blk) l⟩
theorem Gd.tuple {m n k : Nat} {xs : List D} (h : ∀ x ∈ xs, Gd m n x) (l : xs.length * (n + 1) ≤ k) : Gd (m + 1) k (.tuple xs) :=
  ⟨canAll fun x hx => (h x hx).can, intsAll fun x hx => (h x hx).ish, shwAll fun x hx => (h x hx).shw, Nat.succ_le_succ (depAll fun x hx => (h x hx).dep), Nat.le_trans (blkAll fun x hx => (h x hx).blk) l⟩
theorem Gd.le {m n m' n' : Nat} {d : D} (h : Gd m n d) (l : m ≤ m') (l' : n ≤ n') : Gd m' n' d := ⟨h.can, h.ish, h.shw, Nat.le_trans h.dep l, Nat.le_trans h.blk l'⟩
theorem Gd.sh {m n : Nat} {d : D} (h : Gd m n d) : Sh m d := ⟨h.can, h.dep⟩
theorem Gd.repr {m n : Nat} {d : D} (h : Gd m n d) (l : m ≤ 64) (l' : n ≤ 200000) : reprOk d = true := by
  have e : d.shown.length ≤ sizeLine := by
    have h1 := PyData.shown_le_bulk 80 (by decide) d (PyData.leavesShort_of_canLay0 80 d h.can h.ish)
    have h2 := h.blk
    have : sizeLine = 16777216 := rfl
    omega
  unfold reprOk
  rw [h.shw, PyData.hasDict_of_canLay d h.can, decide_eq_true e, decide_eq_true (Nat.le_trans h.dep l)]
  rfl
theorem dRepr_gd {m n : Nat} {d : D} (h : Gd m n d) (l : m ≤ 64) (l' : n ≤ 200000) : dRepr [d] = some (.str d.shown) := if_pos (h.repr l l')
/-! ### a deck, by its number of draws -/
def Dk (m : Int) (d : D) : Prop := ∃ ns i l c, d = dkD ns i l c ∧ ns.length ≤ 63 ∧ 0 ≤ i ∧ 0 ≤ c ∧ c ≤ m
theorem Dk.start {ns : List Int} (h : ns.length ≤ 63) : Dk 0 (dkD ns 0 0 0) := ⟨ns, 0, 0, 0, rfl, h, Int.le_refl _, Int.le_refl _, Int.le_refl _⟩
theorem Dk.le {m n : Int} {d : D} (h : Dk m d) (l : m ≤ n) : Dk n d := by
  obtain ⟨ns, i, l', c, e, h1, h2, h3, h4⟩ := h
  exact ⟨ns, i, l', c, e, h1, h2, h3, Int.le_trans h4 l⟩
def sp_law_draw : DSp := fun ds Q => ∃ (m : Int) (dk : D) (n : Int), ds = [dk, .int n] ∧ Dk m dk ∧ m < 1073741823 ∧ 0 < n ∧ n < 1073741824 ∧ ∀ (r : Int) (dk' : D), 0 ≤ r → r < n → Dk (m + 1) dk' → Q (.int r) [dk']
theorem mono_law_draw : MonoD sp_law_draw := fun ds Q Q' h ⟨m, dk, n, e, h1, h2, h3, h4, q⟩ => ⟨m, dk, n, e, h1, h2, h3, h4, fun r dk' a b c => h _ _ (q r dk' a b c)⟩
theorem math_law_draw : ∀ (ds : List DL.D) (Q : DL.D → List DL.D → Prop), ds.length = 2 → sp_law_draw ds Q → W_law_draw (endsD [.io, .val] false Q) (startE 5 ds) := fun ds Q _ ⟨m, dk, n, e, ⟨ns, i, l, c, e2, h1, hi, hc, hcm⟩, h2, h3, h4, q⟩ => by
  subst e e2
  exact draw_math h1 hi hc (by omega) h3 h4 fun r i' l' a b d r0 r1 i0 => ⟨_, rfl, q r _ r0 r1 ⟨ns, i', l', c + 1, rfl, h1, i0, by omega, by omega⟩⟩
theorem draw_at (m : Int) {dk : D} {n : Int} {Q : D → List D → Prop} (h : Dk m dk) (h2 : m < 1073741823) (h3 : 0 < n) (h4 : n < 1073741824) (q : ∀ (r : Int) (dk' : D), 0 ≤ r → r < n → Dk (m + 1) dk' → Q (.int r) [dk']) : sp_law_draw [dk, .int n] Q := ⟨m, dk, n, rfl, h, h2, h3, h4, q⟩
theorem putO_nil {os : List Op} {outs : List D} {ε : En} : putO [] os outs ε = ε := rfl
theorem putO_io {ks : List Kd} {i : Nat} {os : List Op} {d : D} {outs : List D} {ε : En} : putO (.io :: ks) (.nm i :: os) (d :: outs) ε = putO ks os outs (ε.set i (some d)) := rfl
theorem putO_val {ks : List Kd} {o : Op} {os : List Op} {outs : List D} {ε : En} : putO (.val :: ks) (o :: os) outs ε = putO ks os outs ε := rfl
theorem putO_brw {ks : List Kd} {o : Op} {os : List Op} {outs : List D} {ε : En} : putO (.brw :: ks) (o :: os) outs ε = putO ks os outs ε := rfl
/-- one of a list of items -/
def W_law_one (sp_law_draw : DSp) : WS := (sRet (eBin dAt (.nm 1) (.ex (eCall [.io, .val] sp_law_draw [(.nm 0), (.ex (eApp dLen [(.nm 1)]))]))))
def sp_law_one : DSp := fun ds Q => ∃ (m : Int) (dk : D) (xs : List D), (ds = [dk, .list xs] ∨ ds = [dk, .tuple xs]) ∧ Dk m dk ∧ m < 1073741823 ∧ 0 < xs.length ∧ xs.length < 1073741824 ∧ ∀ (x : D) (dk' : D), x ∈ xs → Dk (m + 1) dk' → Q x [dk']
theorem mono_law_one : MonoD sp_law_one := fun ds Q Q' h ⟨m, dk, n, e, h1, h2, h3, h4, q⟩ => ⟨m, dk, n, e, h1, h2, h3, h4, fun r dk' a b => h _ _ (q r dk' a b)⟩
theorem eCall_iff {pk : List Kd} {sp : DSp} {os : List Op} {ε : En} {Q : D → En → Prop} : eCall pk sp os ε Q ↔ aEv os ε fun xs ε1 => ∃ ds, valsF ε1 xs = some ds ∧ sp ds fun d outs => Q d (putO pk os outs ε1) := by
  have e : (fun xs ε1 => ∃ ds, vals ε1 xs ds ∧ sp ds fun d outs => Q d (putO pk os outs ε1)) = (fun xs ε1 => ∃ ds, valsF ε1 xs = some ds ∧ sp ds fun d outs => Q d (putO pk os outs ε1)) := by
    funext xs ε1
    refine propext ⟨fun ⟨ds, h, q⟩ => ⟨ds, valsF_iff.mp h, q⟩, fun ⟨ds, h, q⟩ => ⟨ds, valsF_iff.mpr h, q⟩⟩
  show aEv os ε _ ↔ _
  rw [e]
theorem math_law_one : ∀ (ds : List DL.D) (Q : DL.D → List DL.D → Prop), ds.length = 2 → sp_law_one ds Q → W_law_one sp_law_draw (endsD [.io, .val] false Q) (startE 2 ds) := fun ds Q _ ⟨m, dk, xs, e, hd, hm, h3, h4, q⟩ => by
  have core : ∀ s : D, (dLen [s] = some (.int xs.length)) → (∀ i, dAt s (.int i) = atI xs i) → W_law_one sp_law_draw (endsD [.io, .val] false Q) (startE 2 [dk, s]) := fun s e1 e2 => by
    simp only [W_law_one, startE, List.map_cons, List.map_nil, List.replicate, List.length_cons, List.length_nil, List.cons_append, List.nil_append, List.append_nil, sRet, eBin, eCall_iff, eApp_iff, aEv, valsF, oEv, slF, putO_nil, putO_io, putO_val, List.getElem?_cons_succ, List.getElem?_cons_zero, List.set_cons_succ, List.set_cons_zero, Option.join_some, Option.bind_some, Option.map_some, Option.some.injEq, exists_eq_left', exists_and_left, exists_eq', true_and, exists_eq_left, Nat.reduceAdd, Nat.sub_self, e1]
    refine draw_at m hd hm (by omega) (by omega) fun r dk' r0 r1 hd' => ?_
    have e : atI xs r = xs[r.toNat]? := atI_nat r0 r1
    simp only [putO_nil, putO_io, putO_val, List.getElem?_cons_succ, List.getElem?_cons_zero, List.set_cons_succ, List.set_cons_zero, Option.join_some, Option.some.injEq, exists_eq_left', e2, e]
    exact ⟨xs[r.toNat]'(by omega), List.getElem?_eq_getElem _, _, rfl, q _ _ (List.getElem_mem _) hd'⟩
  rcases e with rfl | rfl
  · exact core _ rfl fun _ => rfl
  · exact core _ rfl fun _ => rfl
theorem one_l (m : Int) {dk : D} {xs : List D} {Q : D → List D → Prop} (h : Dk m dk) (h2 : m < 1073741823) (h3 : 0 < xs.length) (h4 : xs.length < 1073741824) (q : ∀ (x : D) (dk' : D), x ∈ xs → Dk (m + 1) dk' → Q x [dk']) : sp_law_one [dk, .list xs] Q := ⟨m, dk, xs, .inl rfl, h, h2, h3, h4, q⟩
theorem one_t (m : Int) {dk : D} {xs : List D} {Q : D → List D → Prop} (h : Dk m dk) (h2 : m < 1073741823) (h3 : 0 < xs.length) (h4 : xs.length < 1073741824) (q : ∀ (x : D) (dk' : D), x ∈ xs → Dk (m + 1) dk' → Q x [dk']) : sp_law_one [dk, .tuple xs] Q := ⟨m, dk, xs, .inr rfl, h, h2, h3, h4, q⟩
theorem le_size {n : Nat} (h : n ≤ 1000) : n ≤ sizeLine := Nat.le_trans h (by decide)
/-! ### loops -/
theorem for_inv {t : Tg} {w : WS} {inv : En → Prop} {E : WEnds} {ds : List D} {ε : En} (I : Nat → En → Prop) (h0 : I 0 ε) (hi : ∀ i ε, I i ε → inv ε)
    (step : ∀ (i : Nat) (d : D) (ε : En) (K : En → Prop), ds[i]? = some d → I i ε → (∀ ε', I (i + 1) ε' → K ε') → ∃ ε1, bindD t d ε = some ε1 ∧ w { nx := K, rt := E.rt, bk := E.nx, ct := K } ε1)
    (done : ∀ ε, I ds.length ε → E.nx ε) : forGo t w inv E ds ε := by
  induction ds generalizing ε I with
  | nil => exact ⟨hi _ _ h0, done _ h0⟩
  | cons d r ih =>
    obtain ⟨ε1, b, q⟩ := step 0 d ε (forGo t w inv E r) rfl h0 fun ε' h' => ih (fun i => I (i + 1)) h' (fun i ε h => hi (i + 1) ε h) (fun i d' ε K e h k => step (i + 1) d' ε K e h k) done
    exact ⟨hi _ _ h0, ε1, b, q⟩
/-- a comprehension of values alone -/
theorem lc_map {α : Type} {t : Tg} {we : WE} {vs : List Nat} {inv : En → Prop} {ε0 : En} {g f : α → D} (hi : inv ε0) : ∀ {xs : List α} {acc : List D} {Q : List D → En → Prop},
    (∀ x ∈ xs, ∃ ε1, bindD t (g x) ε0 = some ε1 ∧ wipeE ε1 vs = ε0 ∧ ∀ Q : D → En → Prop, Q (f x) ε1 → we ε1 Q) → acc.length + xs.length ≤ sizeLine → Q (acc ++ xs.map f) ε0 → lcGo t tYesW we vs inv (xs.map g) acc ε0 Q
  | [], acc, Q, _, _, q => ⟨hi, by simpa using q⟩
  | x :: xs, acc, Q, h, hl, q => by
    obtain ⟨ε1, b, e, k⟩ := h x List.mem_cons_self
    rw [List.length_cons] at hl
    refine ⟨hi, ε1, b, ?_⟩
    simp only [tYesW, ↓reduceIte]
    refine k _ ⟨by omega, ?_⟩
    rw [e]
    refine lc_map hi (fun y hy => h y (List.mem_cons_of_mem _ hy)) (by rw [List.length_append, List.length_singleton]; omega) ?_
    rw [List.map_cons] at q
    rw [List.append_assoc]
    exact q
theorem rng1_i {n : Int} (h : -(2 ^ 62) ≤ n ∧ n < 2 ^ 62) : rng1 [.int n] = some ((List.range n.toNat).map fun (k : Nat) => PyData.int (k : Int)) := by
  show (if -(2 ^ 62) ≤ n ∧ n < 2 ^ 62 then some (rngD 0 n.toNat) else none) = _
  rw [if_pos h]
  simp only [rngD, Int.zero_add]
theorem dMin_i {i j : Int} : dMin2 [.int i, .int j] = some (.int (min i j)) := by
  show some (PyData.int (if j < i then j else i)) = _
  congr 2
  omega
theorem dMax_i {i j : Int} : dMax2 [.int i, .int j] = some (.int (max i j)) := by
  show some (PyData.int (if j > i then j else i)) = _
  congr 2
  omega
theorem dTuple_l {xs : List D} : dTuple [.list xs] = some (.tuple xs) := rfl
theorem wApp_iff {f : List D → Option (List D)} {os : List Op} {ε : En} {Q : List D → (En → Prop) → En → Prop} : wApp f os ε Q ↔ aEv os ε fun xs ε' => ∃ ds, valsF ε' xs = some ds ∧ ∃ r, f ds = some r ∧ Q r (fun _ => True) ε' := by
  have e : (fun xs ε' => ∃ ds r, vals ε' xs ds ∧ f ds = some r ∧ Q r (fun _ => True) ε') = (fun xs ε' => ∃ ds, valsF ε' xs = some ds ∧ ∃ r, f ds = some r ∧ Q r (fun _ => True) ε') := by
    funext xs ε'
    refine propext ⟨fun ⟨ds, r, h, e, q⟩ => ⟨ds, valsF_iff.mp h, r, e, q⟩, fun ⟨ds, h, r, e, q⟩ => ⟨ds, r, valsF_iff.mpr h, e, q⟩⟩
  show aEv os ε _ ↔ _
  rw [e]
end DL
namespace DL
open PySem PySem.Spec L2
/-- a comprehension of values alone, with a test -/
theorem lc_fm {α : Type} {t : Tg} {wt : WT} {we : WE} {vs : List Nat} {inv : En → Prop} {ε0 : En} {g f : α → D} {p : α → Bool} (hi : inv ε0) : ∀ {xs : List α} {acc : List D} {Q : List D → En → Prop},
    (∀ x ∈ xs, ∃ ε1, bindD t (g x) ε0 = some ε1 ∧ wipeE ε1 vs = ε0 ∧ (∀ Q : Bool → En → Prop, Q (p x) ε1 → wt ε1 Q) ∧ (p x = true → ∀ Q : D → En → Prop, Q (f x) ε1 → we ε1 Q)) → acc.length + xs.length ≤ sizeLine →
    Q (acc ++ (xs.filter p).map f) ε0 → lcGo t wt we vs inv (xs.map g) acc ε0 Q
  | [], acc, Q, _, _, q => ⟨hi, by simpa using q⟩
  | x :: xs, acc, Q, h, hl, q => by
    obtain ⟨ε1, b, e, k1, k2⟩ := h x List.mem_cons_self
    rw [List.length_cons] at hl
    refine ⟨hi, ε1, b, k1 _ ?_⟩
    cases hp : p x with
    | true =>
      rw [if_pos rfl]
      refine k2 hp _ ⟨by omega, ?_⟩
      rw [e]
      refine lc_fm (p := p) hi (fun y hy => h y (List.mem_cons_of_mem _ hy)) (by rw [List.length_append, List.length_singleton]; omega) ?_
      rw [List.filter_cons_of_pos hp, List.map_cons] at q
      rw [List.append_assoc]
      exact q
    | false =>
      rw [if_neg (by decide), e]
      refine lc_fm (p := p) hi (fun y hy => h y (List.mem_cons_of_mem _ hy)) (by omega) ?_
      rw [List.filter_cons_of_neg (by rw [hp]; decide)] at q
      exact q
theorem smallI_of {i : Int} (h : 0 ≤ i) (h2 : i < 2 ^ 64) : smallI i = true := by
  unfold smallI
  rw [decide_eq_true (by omega), decide_eq_true (by omega)]
  rfl
theorem or_l {a b : Bool} (h : a = true) : (a || b) = true := by rw [h]; rfl
theorem or_r {a b : Bool} (h : b = true) : (a || b) = true := by rw [h, Bool.or_true]
theorem dMul_l {i j : Int} (h : 0 ≤ i) (h2 : i < 2 ^ 64) : dMul (.int i) (.int j) = some (.int (i * j)) := dMul_i (or_l (smallI_of h h2))
theorem dMul_r {i j : Int} (h : 0 ≤ j) (h2 : j < 2 ^ 64) : dMul (.int i) (.int j) = some (.int (i * j)) := dMul_i (or_r (smallI_of h h2))
end DL
namespace DL
theorem seqD_l {xs : List D} : seqD (.list xs) = some xs := rfl
theorem seqD_t {xs : List D} : seqD (.tuple xs) = some xs := rfl
end DL
namespace DL
open PySem
theorem fExtend_l {xs ys : List D} (h : xs.length + ys.length ≤ sizeLine) : fExtend (.list xs) [.list ys] = some (.none, .list (xs ++ ys)) := if_pos h
theorem fAppend_l {xs : List D} {d : D} (h : xs.length < sizeLine) : fAppend (.list xs) [d] = some (.none, .list (xs ++ [d])) := if_pos h
end DL
namespace DL
open PySem
/-- a comprehension without a test whose items may change the deck -/
theorem lc_inv {t : Tg} {we : WE} {vs : List Nat} {inv : En → Prop} : ∀ {ds acc : List D} {ε : En} {Q : List D → En → Prop} (I : Nat → List D → En → Prop), I 0 acc ε → (∀ i a ε, I i a ε → inv ε) → acc.length + ds.length ≤ sizeLine →
    (∀ (i : Nat) (d : D) (a : List D) (ε : En) (K : D → En → Prop), ds[i]? = some d → I i a ε → (∀ y ε3, I (i + 1) (a ++ [y]) (wipeE ε3 vs) → K y ε3) → ∃ ε1, bindD t d ε = some ε1 ∧ we ε1 K) →
    (∀ a ε, I ds.length a ε → Q a ε) → lcGo t tYesW we vs inv ds acc ε Q
  | [], acc, ε, Q, I, h0, hi, hl, step, done => ⟨hi _ _ _ h0, done _ _ h0⟩
  | d :: ds, acc, ε, Q, I, h0, hi, hl, step, done => by
    rw [List.length_cons] at hl
    obtain ⟨ε1, b, k⟩ := step 0 d acc ε (fun y ε3 => acc.length < sizeLine ∧ lcGo t tYesW we vs inv ds (acc ++ [y]) (wipeE ε3 vs) Q) rfl h0 fun y ε3 h' => ⟨by omega, lc_inv (fun i => I (i + 1)) h' (fun i => hi (i + 1)) (by rw [List.length_append, List.length_singleton]; omega) (fun i => step (i + 1)) done⟩
    refine ⟨hi _ _ _ h0, ε1, b, ?_⟩
    simp only [tYesW, ↓reduceIte]
    exact k
end DL


namespace FN
open PySem PySem.Spec L2 DL
abbrev PD := DL.D → List DL.D → Prop
/-! ### sheets, knots and bars -/
def sht (R C : Int) : DL.D := .tuple [.int R, .int C]
def pr (a b : Int) : DL.D := .tuple [.int a, .int b]
def pk2 (p : Int × Int) : DL.D := pr p.1 p.2
/- ends_of ['sheet', 'bar', 'r', 'c'] ['val', 'val', 'val', 'val'] -/
def W_ends_of : WS :=
  (sSeq (sPar [2, 3] [(eBin dFdiv (.nm 1) (.ex (eBin dAt (.nm 0) (.ex (eC (.int 1)))))), (eBin dMod (.nm 1) (.ex (eBin dAt (.nm 0) (.ex (eC (.int 1))))))])
  (sSeq (sIf (tE (eBin dEq (.ex (eBin dMod (.ex (eBin dAdd (.ex (eNm 2)) (.ex (eNm 3)))) (.ex (eC (.int 2))))) (.ex (eC (.int 0))))) (sRet (eTup [(eTup [(eNm 2), (eNm 3)]), (eTup [(eBin dAdd (.ex (eNm 2)) (.ex (eC (.int 1)))), (eBin dAdd (.ex (eNm 3)) (.ex (eC (.int 1))))])])) sNil)
  (sRet (eTup [(eTup [(eNm 2), (eBin dAdd (.ex (eNm 3)) (.ex (eC (.int 1))))]), (eTup [(eBin dAdd (.ex (eNm 2)) (.ex (eC (.int 1)))), (eNm 3)])]))))
/- bars_of ['sheet', 'knot', 'r', 'c', 'fields', 'row', 'col'] ['val', 'val', 'val', 'val', 'val', 'val', 'val'] -/
def W_bars_of : WS :=
  (sSeq (sUnp (.tup [(.nm 2), (.nm 3)]) (eNm 1))
  (sSeq (sSet 4 (eLst [(eTup [(eBin dSub (.nm 2) (.ex (eC (.int 1)))), (eBin dSub (.nm 3) (.ex (eC (.int 1))))]), (eTup [(eBin dSub (.nm 2) (.ex (eC (.int 1)))), (eNm 3)]), (eTup [(eNm 2), (eBin dSub (.nm 3) (.ex (eC (.int 1))))]), (eTup [(eNm 2), (eNm 3)])]))
  (sRet (eApp dTuple [(.ex (eLc (wSeq (eNm 4)) (.tup [(.nm 5), (.nm 6)]) (tAndW (tE (eChain dLe dLt (.ex (eC (.int 0))) (.nm 5) (.ex (eBin dAt (.nm 0) (.ex (eC (.int 0))))))) (tE (eChain dLe dLt (.ex (eC (.int 0))) (.nm 6) (.ex (eBin dAt (.nm 0) (.ex (eC (.int 1)))))))) (eBin dAdd (.ex (eBin dMul (.nm 5) (.ex (eBin dAt (.nm 0) (.ex (eC (.int 1))))))) (.ex (eNm 6))) [5, 6]))]))))
/- bar_between ['sheet', 'one', 'other', 'bar'] ['val', 'val', 'val', 'val'] -/
def W_bar_between (sp_bars_of : DSp) (sp_ends_of : DSp) : WS :=
  (sSeq (sFor (wSeq (eCall [.val, .val] sp_bars_of [(.nm 0), (.nm 1)])) (.nm 3) (sIf (tAndW (tE (eBin dNe (.nm 2) (.nm 1))) (tE (eBin dIn (.nm 2) (.ex (eCall [.val, .val] sp_ends_of [(.nm 0), (.nm 3)]))))) (sRet (eNm 3)) sNil))
  (sRet (eC .none)))
/- _law_sheet ['_law_deck_here', '_law_most', '_law_top'] ['io', 'val', 'val'] -/
def W_law_sheet (sp_law_one : DSp) (sp_law_draw : DSp) : WS :=
  (sSeq (sSet 2 (eCall [.io, .val] sp_law_one [(.nm 0), (.ex (eLst [(eNm 1), (eNm 1), (eApp dMin2 [(.nm 1), (.ex (eC (.int 4)))]), (eApp dMin2 [(.nm 1), (.ex (eC (.int 3)))])]))]))
  (sRet (eTup [(eBin dAdd (.ex (eC (.int 1))) (.ex (eCall [.io, .val] sp_law_draw [(.nm 0), (.nm 2)]))), (eBin dAdd (.ex (eC (.int 1))) (.ex (eCall [.io, .val] sp_law_draw [(.nm 0), (.nm 2)])))])))
/- _law_knots ['_law_sheet_here', '_law_found', '_law_r', '_law_c'] ['val', 'own', 'val', 'val'] -/
def W_law_knots : WS :=
  (sSeq (sSet 1 (eLst []))
  (sSeq (sFor (wApp rng1 [(.ex (eBin dAdd (.ex (eBin dAt (.nm 0) (.ex (eC (.int 0))))) (.ex (eC (.int 1)))))]) (.nm 2) (sDo (eMut 1 fExtend [(eLc (wApp rng1 [(.ex (eBin dAdd (.ex (eBin dAt (.nm 0) (.ex (eC (.int 1))))) (.ex (eC (.int 1)))))]) (.nm 3) (tE (eBin dEq (.ex (eBin dMod (.ex (eApp dInt [(.ex (eBin dAdd (.ex (eNm 2)) (.ex (eNm 3))))])) (.ex (eC (.int 2))))) (.ex (eC (.int 0))))) (eTup [(eNm 2), (eNm 3)]) [3])])))
  (sRetO 1)))
/- _law_between ['_law_sheet_here', '_law_one_here', '_law_other'] ['val', 'val', 'val'] -/
def W_law_between : WS :=
  (sSeq (sIf (tOrW (tE (eBin dNe (.ex (eApp dAbs [(.ex (eBin dSub (.ex (eBin dAt (.nm 1) (.ex (eC (.int 0))))) (.ex (eBin dAt (.nm 2) (.ex (eC (.int 0)))))))])) (.ex (eC (.int 1))))) (tE (eBin dNe (.ex (eApp dAbs [(.ex (eBin dSub (.ex (eBin dAt (.nm 1) (.ex (eC (.int 1))))) (.ex (eBin dAt (.nm 2) (.ex (eC (.int 1)))))))])) (.ex (eC (.int 1)))))) (sRet (eC .none)) sNil)
  (sRet (eBin dAdd (.ex (eBin dMul (.ex (eApp dMin2 [(.ex (eBin dAt (.nm 1) (.ex (eC (.int 0))))), (.ex (eBin dAt (.nm 2) (.ex (eC (.int 0)))))])) (.ex (eBin dAt (.nm 0) (.ex (eC (.int 1))))))) (.ex (eApp dMin2 [(.ex (eBin dAt (.nm 1) (.ex (eC (.int 1))))), (.ex (eBin dAt (.nm 2) (.ex (eC (.int 1)))))])))))

def endsI (C b : Int) : (Int × Int) × (Int × Int) := if (b / C + b % C) % 2 = 0 then ((b / C, b % C), (b / C + 1, b % C + 1)) else ((b / C, b % C + 1), (b / C + 1, b % C))
def endsD (C b : Int) : DL.D := .tuple [pk2 (endsI C b).1, pk2 (endsI C b).2]
def sp_ends_of : DSp := fun ds Q => ∃ R C b : Int, ds = [sht R C, .int b] ∧ 0 < C ∧ C < 1073741824 ∧ Q (endsD C b) []
theorem mono_ends_of : MonoD sp_ends_of := fun ds Q Q' h ⟨R, C, b, e, h1, h2, q⟩ => ⟨R, C, b, e, h1, h2, h _ _ q⟩
theorem eqI {m n : Int} : dEq (.int m) (.int n) = some (.bool (decide (m = n))) := by
  rw [dEq_sh (m := 0) (n := 0) Sh.int Sh.int]
  congr 2
theorem math_ends_of : ∀ (ds : List DL.D) (Q : PD), ds.length = 2 → sp_ends_of ds Q → W_ends_of (DL.endsD [.val, .val] false Q) (startE 4 ds) := fun ds Q _ ⟨R, C, b, e, h1, h2, q⟩ => by
  subst e
  unfold W_ends_of
  apply seq_of
  · intro K k
    simp only [sSeq, sSet, sPar, sUnp, sDo, sRet, sRetO, sRetN, sIf, sNil, sPut, tE, tAndW, tOrW, tNotW, tYesW, eBin, eUn, eChain, eNm, eC, eNot, eAnd, eOr, eIf, eLst, eTup, eSl, ptEv, cEv, eApp_iff, eCall_iff, wApp_iff, wSeq, wNm, aEv, valsF, oEv, slF, setL, bindD, DL.bindL, putO_nil, putO_io, putO_val, putO_brw, eMut, isL, seqD_l, seqD_t, List.map_cons, List.map_nil, List.length_cons, List.length_nil, List.cons_append, List.nil_append, List.getElem?_cons_succ, List.getElem?_cons_zero, List.set_cons_succ, List.set_cons_zero, Option.join_some, Option.bind_some, Option.map_some, Option.some.injEq, exists_eq_left', exists_eq_left, exists_and_left, exists_eq', true_and, and_true, le_size, Nat.reduceAdd, Nat.reduceSub, Nat.reduceLeDiff, PyData.bool.injEq, ↓reduceIte, Bool.false_eq_true, if_false, if_true, dAt_l, dAt_t, atI_0, atI_1, atI_2, atI_3, dAdd_i, dSub_i, dGt_i, dGe_i, dLt_i, dLe_i, dInt_i, dAbs_i, dLen_l, dLen_t, dMin_i, dMax_i, dTuple_l, dIs_none, dIsNot_none, startE, List.replicate, List.nil_append, List.cons_append, List.append_nil, sht, dFdiv_i h1 h2, dMod_i h1]
    exact k
  by_cases h : (b / C + b % C) % 2 = 0
  · simp only [sSeq, sSet, sPar, sUnp, sDo, sRet, sRetO, sRetN, sIf, sNil, sPut, tE, tAndW, tOrW, tNotW, tYesW, eBin, eUn, eChain, eNm, eC, eNot, eAnd, eOr, eIf, eLst, eTup, eSl, ptEv, cEv, eApp_iff, eCall_iff, wApp_iff, wSeq, wNm, aEv, valsF, oEv, slF, setL, bindD, DL.bindL, putO_nil, putO_io, putO_val, putO_brw, eMut, isL, seqD_l, seqD_t, List.map_cons, List.map_nil, List.length_cons, List.length_nil, List.cons_append, List.nil_append, List.getElem?_cons_succ, List.getElem?_cons_zero, List.set_cons_succ, List.set_cons_zero, Option.join_some, Option.bind_some, Option.map_some, Option.some.injEq, exists_eq_left', exists_eq_left, exists_and_left, exists_eq', true_and, and_true, le_size, Nat.reduceAdd, Nat.reduceSub, Nat.reduceLeDiff, PyData.bool.injEq, ↓reduceIte, Bool.false_eq_true, if_false, if_true, dAt_l, dAt_t, atI_0, atI_1, atI_2, atI_3, dAdd_i, dSub_i, dGt_i, dGe_i, dLt_i, dLe_i, dInt_i, dAbs_i, dLen_l, dLen_t, dMin_i, dMax_i, dTuple_l, dIs_none, dIsNot_none, dMod_i (j := 2) (by decide), eqI, decide_eq_true h]
    unfold FN.endsD endsI at q
    rw [if_pos h] at q
    exact ⟨_, rfl, q⟩
  · simp only [sSeq, sSet, sPar, sUnp, sDo, sRet, sRetO, sRetN, sIf, sNil, sPut, tE, tAndW, tOrW, tNotW, tYesW, eBin, eUn, eChain, eNm, eC, eNot, eAnd, eOr, eIf, eLst, eTup, eSl, ptEv, cEv, eApp_iff, eCall_iff, wApp_iff, wSeq, wNm, aEv, valsF, oEv, slF, setL, bindD, DL.bindL, putO_nil, putO_io, putO_val, putO_brw, eMut, isL, seqD_l, seqD_t, List.map_cons, List.map_nil, List.length_cons, List.length_nil, List.cons_append, List.nil_append, List.getElem?_cons_succ, List.getElem?_cons_zero, List.set_cons_succ, List.set_cons_zero, Option.join_some, Option.bind_some, Option.map_some, Option.some.injEq, exists_eq_left', exists_eq_left, exists_and_left, exists_eq', true_and, and_true, le_size, Nat.reduceAdd, Nat.reduceSub, Nat.reduceLeDiff, PyData.bool.injEq, ↓reduceIte, Bool.false_eq_true, if_false, if_true, dAt_l, dAt_t, atI_0, atI_1, atI_2, atI_3, dAdd_i, dSub_i, dGt_i, dGe_i, dLt_i, dLe_i, dInt_i, dAbs_i, dLen_l, dLen_t, dMin_i, dMax_i, dTuple_l, dIs_none, dIsNot_none, dMod_i (j := 2) (by decide), eqI, decide_eq_false h]
    unfold FN.endsD endsI at q
    rw [if_neg h] at q
    exact ⟨_, rfl, q⟩
/-! bars at a knot -/
def inS (R C : Int) (p : Int × Int) : Bool := decide (0 ≤ p.1 ∧ p.1 < R) && decide (0 ≤ p.2 ∧ p.2 < C)
def barsI (R C r c : Int) : List Int := ([(r - 1, c - 1), (r - 1, c), (r, c - 1), (r, c)].filter (inS R C)).map fun p => p.1 * C + p.2
def sp_bars_of : DSp := fun ds Q => ∃ R C r c : Int, ds = [sht R C, pr r c] ∧ 0 < C ∧ C < 1073741824 ∧ Q (.tuple ((barsI R C r c).map .int)) []
theorem mono_bars_of : MonoD sp_bars_of := fun ds Q Q' h ⟨R, C, r, c, e, h1, h2, q⟩ => ⟨R, C, r, c, e, h1, h2, h _ _ q⟩
theorem math_bars_of : ∀ (ds : List DL.D) (Q : PD), ds.length = 2 → sp_bars_of ds Q → W_bars_of (DL.endsD [.val, .val] false Q) (startE 7 ds) := fun ds Q _ ⟨R, C, r, c, e, h1, h2, q⟩ => by
  subst e
  unfold W_bars_of
  apply seq_of
  · intro K k
    simp only [sSeq, sSet, sPar, sUnp, sDo, sRet, sRetO, sRetN, sIf, sNil, sPut, tE, tAndW, tOrW, tNotW, tYesW, eBin, eUn, eChain, eNm, eC, eNot, eAnd, eOr, eIf, eLst, eTup, eSl, ptEv, cEv, eApp_iff, eCall_iff, wApp_iff, wSeq, wNm, aEv, valsF, oEv, slF, setL, bindD, DL.bindL, putO_nil, putO_io, putO_val, putO_brw, eMut, isL, seqD_l, seqD_t, List.map_cons, List.map_nil, List.length_cons, List.length_nil, List.cons_append, List.nil_append, List.getElem?_cons_succ, List.getElem?_cons_zero, List.set_cons_succ, List.set_cons_zero, Option.join_some, Option.bind_some, Option.map_some, Option.some.injEq, exists_eq_left', exists_eq_left, exists_and_left, exists_eq', true_and, and_true, le_size, Nat.reduceAdd, Nat.reduceSub, Nat.reduceLeDiff, PyData.bool.injEq, ↓reduceIte, Bool.false_eq_true, if_false, if_true, dAt_l, dAt_t, atI_0, atI_1, atI_2, atI_3, dAdd_i, dSub_i, dGt_i, dGe_i, dLt_i, dLe_i, dInt_i, dAbs_i, dLen_l, dLen_t, dMin_i, dMax_i, dTuple_l, dIs_none, dIsNot_none, startE, List.replicate, List.nil_append, List.cons_append, List.append_nil, sht, pr]
    exact k
  apply seq_of
  · intro K k
    simp only [sSeq, sSet, sPar, sUnp, sDo, sRet, sRetO, sRetN, sIf, sNil, sPut, tE, tAndW, tOrW, tNotW, tYesW, eBin, eUn, eChain, eNm, eC, eNot, eAnd, eOr, eIf, eLst, eTup, eSl, ptEv, cEv, eApp_iff, eCall_iff, wApp_iff, wSeq, wNm, aEv, valsF, oEv, slF, setL, bindD, DL.bindL, putO_nil, putO_io, putO_val, putO_brw, eMut, isL, seqD_l, seqD_t, List.map_cons, List.map_nil, List.length_cons, List.length_nil, List.cons_append, List.nil_append, List.getElem?_cons_succ, List.getElem?_cons_zero, List.set_cons_succ, List.set_cons_zero, Option.join_some, Option.bind_some, Option.map_some, Option.some.injEq, exists_eq_left', exists_eq_left, exists_and_left, exists_eq', true_and, and_true, le_size, Nat.reduceAdd, Nat.reduceSub, Nat.reduceLeDiff, PyData.bool.injEq, ↓reduceIte, Bool.false_eq_true, if_false, if_true, dAt_l, dAt_t, atI_0, atI_1, atI_2, atI_3, dAdd_i, dSub_i, dGt_i, dGe_i, dLt_i, dLe_i, dInt_i, dAbs_i, dLen_l, dLen_t, dMin_i, dMax_i, dTuple_l, dIs_none, dIsNot_none]
    exact k
  simp only [sSeq, sSet, sPar, sUnp, sDo, sRet, sRetO, sRetN, sIf, sNil, sPut, tE, tAndW, tOrW, tNotW, tYesW, eBin, eUn, eChain, eNm, eC, eNot, eAnd, eOr, eIf, eLst, eTup, eSl, ptEv, cEv, eApp_iff, eCall_iff, wApp_iff, wSeq, wNm, aEv, valsF, oEv, slF, setL, bindD, DL.bindL, putO_nil, putO_io, putO_val, putO_brw, eMut, isL, seqD_l, seqD_t, List.map_cons, List.map_nil, List.length_cons, List.length_nil, List.cons_append, List.nil_append, List.getElem?_cons_succ, List.getElem?_cons_zero, List.set_cons_succ, List.set_cons_zero, Option.join_some, Option.bind_some, Option.map_some, Option.some.injEq, exists_eq_left', exists_eq_left, exists_and_left, exists_eq', true_and, and_true, le_size, Nat.reduceAdd, Nat.reduceSub, Nat.reduceLeDiff, PyData.bool.injEq, ↓reduceIte, Bool.false_eq_true, if_false, if_true, dAt_l, dAt_t, atI_0, atI_1, atI_2, atI_3, dAdd_i, dSub_i, dGt_i, dGe_i, dLt_i, dLe_i, dInt_i, dAbs_i, dLen_l, dLen_t, dMin_i, dMax_i, dTuple_l, dIs_none, dIsNot_none, eLc]
  refine lc_fm (xs := [(r - 1, c - 1), (r - 1, c), (r, c - 1), (r, c)]) (g := pk2) (p := inS R C) (f := fun p => .int (p.1 * C + p.2)) trivial (fun p hp => ?_) (by simp only [List.length_cons, List.length_nil, Nat.reduceAdd, le_size, Nat.reduceLeDiff]) ⟨_, rfl, ?_⟩
  · obtain ⟨a, b⟩ := p
    refine ⟨_, rfl, rfl, fun Q q => ?_, fun hp Q q => ?_⟩
    · simp only [sSeq, sSet, sPar, sUnp, sDo, sRet, sRetO, sRetN, sIf, sNil, sPut, tE, tAndW, tOrW, tNotW, tYesW, eBin, eUn, eChain, eNm, eC, eNot, eAnd, eOr, eIf, eLst, eTup, eSl, ptEv, cEv, eApp_iff, eCall_iff, wApp_iff, wSeq, wNm, aEv, valsF, oEv, slF, setL, bindD, DL.bindL, putO_nil, putO_io, putO_val, putO_brw, eMut, isL, seqD_l, seqD_t, List.map_cons, List.map_nil, List.length_cons, List.length_nil, List.cons_append, List.nil_append, List.getElem?_cons_succ, List.getElem?_cons_zero, List.set_cons_succ, List.set_cons_zero, Option.join_some, Option.bind_some, Option.map_some, Option.some.injEq, exists_eq_left', exists_eq_left, exists_and_left, exists_eq', true_and, and_true, le_size, Nat.reduceAdd, Nat.reduceSub, Nat.reduceLeDiff, PyData.bool.injEq, ↓reduceIte, Bool.false_eq_true, if_false, if_true, dAt_l, dAt_t, atI_0, atI_1, atI_2, atI_3, dAdd_i, dSub_i, dGt_i, dGe_i, dLt_i, dLe_i, dInt_i, dAbs_i, dLen_l, dLen_t, dMin_i, dMax_i, dTuple_l, dIs_none, dIsNot_none, wipeE]
      unfold inS at q
      by_cases g1 : 0 ≤ a
      · by_cases g2 : a < R
        · by_cases g3 : 0 ≤ b
          · simp only [sSeq, sSet, sPar, sUnp, sDo, sRet, sRetO, sRetN, sIf, sNil, sPut, tE, tAndW, tOrW, tNotW, tYesW, eBin, eUn, eChain, eNm, eC, eNot, eAnd, eOr, eIf, eLst, eTup, eSl, ptEv, cEv, eApp_iff, eCall_iff, wApp_iff, wSeq, wNm, aEv, valsF, oEv, slF, setL, bindD, DL.bindL, putO_nil, putO_io, putO_val, putO_brw, eMut, isL, seqD_l, seqD_t, List.map_cons, List.map_nil, List.length_cons, List.length_nil, List.cons_append, List.nil_append, List.getElem?_cons_succ, List.getElem?_cons_zero, List.set_cons_succ, List.set_cons_zero, Option.join_some, Option.bind_some, Option.map_some, Option.some.injEq, exists_eq_left', exists_eq_left, exists_and_left, exists_eq', true_and, and_true, le_size, Nat.reduceAdd, Nat.reduceSub, Nat.reduceLeDiff, PyData.bool.injEq, ↓reduceIte, Bool.false_eq_true, if_false, if_true, dAt_l, dAt_t, atI_0, atI_1, atI_2, atI_3, dAdd_i, dSub_i, dGt_i, dGe_i, dLt_i, dLe_i, dInt_i, dAbs_i, dLen_l, dLen_t, dMin_i, dMax_i, dTuple_l, dIs_none, dIsNot_none, g1, g2, g3, decide_true, Bool.decide_and, Bool.true_and] at q ⊢
            exact q
          · simp only [sSeq, sSet, sPar, sUnp, sDo, sRet, sRetO, sRetN, sIf, sNil, sPut, tE, tAndW, tOrW, tNotW, tYesW, eBin, eUn, eChain, eNm, eC, eNot, eAnd, eOr, eIf, eLst, eTup, eSl, ptEv, cEv, eApp_iff, eCall_iff, wApp_iff, wSeq, wNm, aEv, valsF, oEv, slF, setL, bindD, DL.bindL, putO_nil, putO_io, putO_val, putO_brw, eMut, isL, seqD_l, seqD_t, List.map_cons, List.map_nil, List.length_cons, List.length_nil, List.cons_append, List.nil_append, List.getElem?_cons_succ, List.getElem?_cons_zero, List.set_cons_succ, List.set_cons_zero, Option.join_some, Option.bind_some, Option.map_some, Option.some.injEq, exists_eq_left', exists_eq_left, exists_and_left, exists_eq', true_and, and_true, le_size, Nat.reduceAdd, Nat.reduceSub, Nat.reduceLeDiff, PyData.bool.injEq, ↓reduceIte, Bool.false_eq_true, if_false, if_true, dAt_l, dAt_t, atI_0, atI_1, atI_2, atI_3, dAdd_i, dSub_i, dGt_i, dGe_i, dLt_i, dLe_i, dInt_i, dAbs_i, dLen_l, dLen_t, dMin_i, dMax_i, dTuple_l, dIs_none, dIsNot_none, g1, g2, g3, decide_true, decide_false, Bool.decide_and, Bool.true_and, Bool.false_and, Bool.and_false] at q ⊢
            exact q
        · simp only [sSeq, sSet, sPar, sUnp, sDo, sRet, sRetO, sRetN, sIf, sNil, sPut, tE, tAndW, tOrW, tNotW, tYesW, eBin, eUn, eChain, eNm, eC, eNot, eAnd, eOr, eIf, eLst, eTup, eSl, ptEv, cEv, eApp_iff, eCall_iff, wApp_iff, wSeq, wNm, aEv, valsF, oEv, slF, setL, bindD, DL.bindL, putO_nil, putO_io, putO_val, putO_brw, eMut, isL, seqD_l, seqD_t, List.map_cons, List.map_nil, List.length_cons, List.length_nil, List.cons_append, List.nil_append, List.getElem?_cons_succ, List.getElem?_cons_zero, List.set_cons_succ, List.set_cons_zero, Option.join_some, Option.bind_some, Option.map_some, Option.some.injEq, exists_eq_left', exists_eq_left, exists_and_left, exists_eq', true_and, and_true, le_size, Nat.reduceAdd, Nat.reduceSub, Nat.reduceLeDiff, PyData.bool.injEq, ↓reduceIte, Bool.false_eq_true, if_false, if_true, dAt_l, dAt_t, atI_0, atI_1, atI_2, atI_3, dAdd_i, dSub_i, dGt_i, dGe_i, dLt_i, dLe_i, dInt_i, dAbs_i, dLen_l, dLen_t, dMin_i, dMax_i, dTuple_l, dIs_none, dIsNot_none, g1, g2, decide_true, decide_false, Bool.decide_and, Bool.true_and, Bool.false_and, Bool.and_false] at q ⊢
          exact q
      · simp only [sSeq, sSet, sPar, sUnp, sDo, sRet, sRetO, sRetN, sIf, sNil, sPut, tE, tAndW, tOrW, tNotW, tYesW, eBin, eUn, eChain, eNm, eC, eNot, eAnd, eOr, eIf, eLst, eTup, eSl, ptEv, cEv, eApp_iff, eCall_iff, wApp_iff, wSeq, wNm, aEv, valsF, oEv, slF, setL, bindD, DL.bindL, putO_nil, putO_io, putO_val, putO_brw, eMut, isL, seqD_l, seqD_t, List.map_cons, List.map_nil, List.length_cons, List.length_nil, List.cons_append, List.nil_append, List.getElem?_cons_succ, List.getElem?_cons_zero, List.set_cons_succ, List.set_cons_zero, Option.join_some, Option.bind_some, Option.map_some, Option.some.injEq, exists_eq_left', exists_eq_left, exists_and_left, exists_eq', true_and, and_true, le_size, Nat.reduceAdd, Nat.reduceSub, Nat.reduceLeDiff, PyData.bool.injEq, ↓reduceIte, Bool.false_eq_true, if_false, if_true, dAt_l, dAt_t, atI_0, atI_1, atI_2, atI_3, dAdd_i, dSub_i, dGt_i, dGe_i, dLt_i, dLe_i, dInt_i, dAbs_i, dLen_l, dLen_t, dMin_i, dMax_i, dTuple_l, dIs_none, dIsNot_none, g1, decide_true, decide_false, Bool.decide_and, Bool.true_and, Bool.false_and, Bool.and_false] at q ⊢
        exact q
    · simp only [sSeq, sSet, sPar, sUnp, sDo, sRet, sRetO, sRetN, sIf, sNil, sPut, tE, tAndW, tOrW, tNotW, tYesW, eBin, eUn, eChain, eNm, eC, eNot, eAnd, eOr, eIf, eLst, eTup, eSl, ptEv, cEv, eApp_iff, eCall_iff, wApp_iff, wSeq, wNm, aEv, valsF, oEv, slF, setL, bindD, DL.bindL, putO_nil, putO_io, putO_val, putO_brw, eMut, isL, seqD_l, seqD_t, List.map_cons, List.map_nil, List.length_cons, List.length_nil, List.cons_append, List.nil_append, List.getElem?_cons_succ, List.getElem?_cons_zero, List.set_cons_succ, List.set_cons_zero, Option.join_some, Option.bind_some, Option.map_some, Option.some.injEq, exists_eq_left', exists_eq_left, exists_and_left, exists_eq', true_and, and_true, le_size, Nat.reduceAdd, Nat.reduceSub, Nat.reduceLeDiff, PyData.bool.injEq, ↓reduceIte, Bool.false_eq_true, if_false, if_true, dAt_l, dAt_t, atI_0, atI_1, atI_2, atI_3, dAdd_i, dSub_i, dGt_i, dGe_i, dLt_i, dLe_i, dInt_i, dAbs_i, dLen_l, dLen_t, dMin_i, dMax_i, dTuple_l, dIs_none, dIsNot_none, wipeE, dMul_r (j := C) (by omega) (by omega)]
      exact q
  · rw [barsI, List.map_map] at q
    exact q
/-- the bar that two knots share, by the walk -/
def betI (R C : Int) (p q : Int × Int) : Option Int := (barsI R C p.1 p.2).find? fun b => decide (q ≠ p) && (decide ((endsI C b).1 = q) || decide ((endsI C b).2 = q))
def optD : Option Int → DL.D
  | none => .none
  | some i => .int i
def sp_bar_between : DSp := fun ds Q => ∃ (R C : Int) (p q : Int × Int), ds = [sht R C, pk2 p, pk2 q] ∧ 0 < C ∧ C < 1073741824 ∧ Q (optD (betI R C p q)) []
theorem mono_bar_between : MonoD sp_bar_between := fun ds Q Q' h ⟨R, C, p, r, e, h1, h2, q⟩ => ⟨R, C, p, r, e, h1, h2, h _ _ q⟩
theorem sh_pk2 {n : Nat} {p : Int × Int} : Sh (n + 1) (pk2 p) := Sh.tuple fun x hx => by
  simp only [List.mem_cons, List.not_mem_nil, or_false] at hx
  rcases hx with rfl | rfl <;> exact Sh.int
theorem eqv_pk2 (p q : Int × Int) : PyData.eqv (pk2 p) (pk2 q) = decide (p = q) := by
  obtain ⟨a, b⟩ := p
  obtain ⟨c, d⟩ := q
  show ((a == c) && ((b == d) && true)) = _
  rw [Bool.and_true, Bool.eq_iff_iff]
  simp
theorem ne_pk2 (p q : Int × Int) : dNe (pk2 p) (pk2 q) = some (.bool (decide (p ≠ q))) := by
  rw [dNe_sh (m := 1) (n := 1) sh_pk2 sh_pk2, eqv_pk2, decide_not]
theorem in_pk2 (q a b : Int × Int) : dIn (pk2 q) (.tuple [pk2 a, pk2 b]) = some (.bool (decide (a = q) || decide (b = q))) := by
  show inD false (pk2 q) [pk2 a, pk2 b] = _
  unfold inD
  rw [if_pos ⟨(sh_pk2 (n := 0)).ok, canAll fun x hx => by
    simp only [List.mem_cons, List.not_mem_nil, or_false] at hx
    rcases hx with rfl | rfl <;> exact (sh_pk2 (n := 0)).1⟩]
  show some (PyData.bool (PyData.eqv (pk2 a) (pk2 q) || (PyData.eqv (pk2 b) (pk2 q) || false))) = _
  rw [eqv_pk2, eqv_pk2, Bool.or_false]
theorem find_none_take {α : Type} {p : α → Bool} : ∀ {xs : List α} {i : Nat} {x : α}, xs[i]? = some x → (∀ y ∈ xs.take i, p y = false) → p x = true → xs.find? p = some x
  | y :: ys, 0, x, e, _, hp => by
    cases (show some y = some x from e)
    exact List.find?_cons_of_pos hp
  | y :: ys, i + 1, x, e, h, hp => by
    rw [List.find?_cons_of_neg (by rw [h y (by rw [List.take_succ_cons]; exact List.mem_cons_self)]; decide)]
    exact find_none_take (i := i) e (fun z hz => h z (by rw [List.take_succ_cons]; exact List.mem_cons_of_mem _ hz)) hp
theorem take_snoc {α : Type} {p : α → Prop} {xs : List α} {i : Nat} {x : α} (e : xs[i]? = some x) (h : ∀ y ∈ xs.take i, p y) (hx : p x) : ∀ y ∈ xs.take (i + 1), p y := fun y hy => by
  obtain ⟨hl, e⟩ := List.getElem?_eq_some_iff.mp e
  rw [List.take_succ_eq_append_getElem hl, List.mem_append, List.mem_singleton] at hy
  rcases hy with hy | rfl
  · exact h y hy
  · rw [e]; exact hx
theorem math_bar_between : ∀ (ds : List DL.D) (Q : PD), ds.length = 3 → sp_bar_between ds Q → W_bar_between sp_bars_of sp_ends_of (DL.endsD [.val, .val, .val] false Q) (startE 4 ds) := fun ds Q _ ⟨R, C, p, r, e, h1, h2, q⟩ => by
  subst e
  unfold W_bar_between
  have hb : ∀ K : PD, K (.tuple ((barsI R C p.1 p.2).map .int)) [] → sp_bars_of [sht R C, pk2 p] K := fun K k => ⟨R, C, p.1, p.2, rfl, h1, h2, k⟩
  refine show sSeq (sFor _ _ _) _ _ _ from ?_
  simp only [sSeq, sSet, sPar, sUnp, sDo, sRet, sRetO, sRetN, sIf, sNil, sPut, tE, tAndW, tOrW, tNotW, tYesW, eBin, eUn, eChain, eNm, eC, eNot, eAnd, eOr, eIf, eLst, eTup, eSl, ptEv, cEv, eApp_iff, eCall_iff, wApp_iff, wSeq, wNm, aEv, valsF, oEv, slF, setL, bindD, DL.bindL, putO_nil, putO_io, putO_val, putO_brw, eMut, isL, seqD_l, seqD_t, List.map_cons, List.map_nil, List.length_cons, List.length_nil, List.cons_append, List.nil_append, List.getElem?_cons_succ, List.getElem?_cons_zero, List.set_cons_succ, List.set_cons_zero, Option.join_some, Option.bind_some, Option.map_some, Option.some.injEq, exists_eq_left', exists_eq_left, exists_and_left, exists_eq', true_and, and_true, le_size, Nat.reduceAdd, Nat.reduceSub, Nat.reduceLeDiff, PyData.bool.injEq, ↓reduceIte, Bool.false_eq_true, if_false, if_true, dAt_l, dAt_t, atI_0, atI_1, atI_2, atI_3, dAdd_i, dSub_i, dGt_i, dGe_i, dLt_i, dLe_i, dInt_i, dAbs_i, dLen_l, dLen_t, dMin_i, dMax_i, dTuple_l, dIs_none, dIsNot_none, startE, List.replicate, List.nil_append, List.cons_append, List.append_nil, sFor]
  refine hb _ ?_
  simp only [sSeq, sSet, sPar, sUnp, sDo, sRet, sRetO, sRetN, sIf, sNil, sPut, tE, tAndW, tOrW, tNotW, tYesW, eBin, eUn, eChain, eNm, eC, eNot, eAnd, eOr, eIf, eLst, eTup, eSl, ptEv, cEv, eApp_iff, eCall_iff, wApp_iff, wSeq, wNm, aEv, valsF, oEv, slF, setL, bindD, DL.bindL, putO_nil, putO_io, putO_val, putO_brw, eMut, isL, seqD_l, seqD_t, List.map_cons, List.map_nil, List.length_cons, List.length_nil, List.cons_append, List.nil_append, List.getElem?_cons_succ, List.getElem?_cons_zero, List.set_cons_succ, List.set_cons_zero, Option.join_some, Option.bind_some, Option.map_some, Option.some.injEq, exists_eq_left', exists_eq_left, exists_and_left, exists_eq', true_and, and_true, le_size, Nat.reduceAdd, Nat.reduceSub, Nat.reduceLeDiff, PyData.bool.injEq, ↓reduceIte, Bool.false_eq_true, if_false, if_true, dAt_l, dAt_t, atI_0, atI_1, atI_2, atI_3, dAdd_i, dSub_i, dGt_i, dGe_i, dLt_i, dLe_i, dInt_i, dAbs_i, dLen_l, dLen_t, dMin_i, dMax_i, dTuple_l, dIs_none, dIsNot_none]
  refine for_inv (fun i ε => (∃ x, ε = [some (sht R C), some (pk2 p), some (pk2 r), x]) ∧ ∀ b ∈ (barsI R C p.1 p.2).take i, (decide (r ≠ p) && (decide ((endsI C b).1 = r) || decide ((endsI C b).2 = r))) = false) ⟨⟨_, rfl⟩, fun b hb => absurd hb (by simp)⟩ (fun _ _ _ => trivial) (fun i d ε K hd hI k => ?_) fun ε hI => ?_
  · obtain ⟨⟨x, rfl⟩, hn⟩ := hI
    rw [List.getElem?_map] at hd
    obtain ⟨b, hb2, rfl⟩ := Option.map_eq_some_iff.mp hd
    refine ⟨_, rfl, ?_⟩
    simp only [sSeq, sSet, sPar, sUnp, sDo, sRet, sRetO, sRetN, sIf, sNil, sPut, tE, tAndW, tOrW, tNotW, tYesW, eBin, eUn, eChain, eNm, eC, eNot, eAnd, eOr, eIf, eLst, eTup, eSl, ptEv, cEv, eApp_iff, eCall_iff, wApp_iff, wSeq, wNm, aEv, valsF, oEv, slF, setL, bindD, DL.bindL, putO_nil, putO_io, putO_val, putO_brw, eMut, isL, seqD_l, seqD_t, List.map_cons, List.map_nil, List.length_cons, List.length_nil, List.cons_append, List.nil_append, List.getElem?_cons_succ, List.getElem?_cons_zero, List.set_cons_succ, List.set_cons_zero, Option.join_some, Option.bind_some, Option.map_some, Option.some.injEq, exists_eq_left', exists_eq_left, exists_and_left, exists_eq', true_and, and_true, le_size, Nat.reduceAdd, Nat.reduceSub, Nat.reduceLeDiff, PyData.bool.injEq, ↓reduceIte, Bool.false_eq_true, if_false, if_true, dAt_l, dAt_t, atI_0, atI_1, atI_2, atI_3, dAdd_i, dSub_i, dGt_i, dGe_i, dLt_i, dLe_i, dInt_i, dAbs_i, dLen_l, dLen_t, dMin_i, dMax_i, dTuple_l, dIs_none, dIsNot_none, ne_pk2]
    by_cases g : r = p
    · simp only [g, ne_eq, not_true_eq_false, decide_false, Bool.false_eq_true, ↓reduceIte]
      exact k _ ⟨⟨_, by rw [g]⟩, take_snoc hb2 hn (by simp [g])⟩
    · simp only [ne_eq, g, not_false_eq_true, decide_true, ↓reduceIte, sSeq, sSet, sPar, sUnp, sDo, sRet, sRetO, sRetN, sIf, sNil, sPut, tE, tAndW, tOrW, tNotW, tYesW, eBin, eUn, eChain, eNm, eC, eNot, eAnd, eOr, eIf, eLst, eTup, eSl, ptEv, cEv, eApp_iff, eCall_iff, wApp_iff, wSeq, wNm, aEv, valsF, oEv, slF, setL, bindD, DL.bindL, putO_nil, putO_io, putO_val, putO_brw, eMut, isL, seqD_l, seqD_t, List.map_cons, List.map_nil, List.length_cons, List.length_nil, List.cons_append, List.nil_append, List.getElem?_cons_succ, List.getElem?_cons_zero, List.set_cons_succ, List.set_cons_zero, Option.join_some, Option.bind_some, Option.map_some, Option.some.injEq, exists_eq_left', exists_eq_left, exists_and_left, exists_eq', true_and, and_true, le_size, Nat.reduceAdd, Nat.reduceSub, Nat.reduceLeDiff, PyData.bool.injEq, ↓reduceIte, Bool.false_eq_true, if_false, if_true, dAt_l, dAt_t, atI_0, atI_1, atI_2, atI_3, dAdd_i, dSub_i, dGt_i, dGe_i, dLt_i, dLe_i, dInt_i, dAbs_i, dLen_l, dLen_t, dMin_i, dMax_i, dTuple_l, dIs_none, dIsNot_none]
      refine ⟨R, C, b, rfl, h1, h2, ?_⟩
      simp only [sSeq, sSet, sPar, sUnp, sDo, sRet, sRetO, sRetN, sIf, sNil, sPut, tE, tAndW, tOrW, tNotW, tYesW, eBin, eUn, eChain, eNm, eC, eNot, eAnd, eOr, eIf, eLst, eTup, eSl, ptEv, cEv, eApp_iff, eCall_iff, wApp_iff, wSeq, wNm, aEv, valsF, oEv, slF, setL, bindD, DL.bindL, putO_nil, putO_io, putO_val, putO_brw, eMut, isL, seqD_l, seqD_t, List.map_cons, List.map_nil, List.length_cons, List.length_nil, List.cons_append, List.nil_append, List.getElem?_cons_succ, List.getElem?_cons_zero, List.set_cons_succ, List.set_cons_zero, Option.join_some, Option.bind_some, Option.map_some, Option.some.injEq, exists_eq_left', exists_eq_left, exists_and_left, exists_eq', true_and, and_true, le_size, Nat.reduceAdd, Nat.reduceSub, Nat.reduceLeDiff, PyData.bool.injEq, ↓reduceIte, Bool.false_eq_true, if_false, if_true, dAt_l, dAt_t, atI_0, atI_1, atI_2, atI_3, dAdd_i, dSub_i, dGt_i, dGe_i, dLt_i, dLe_i, dInt_i, dAbs_i, dLen_l, dLen_t, dMin_i, dMax_i, dTuple_l, dIs_none, dIsNot_none, endsD, in_pk2]
      by_cases g2 : (decide ((endsI C b).1 = r) || decide ((endsI C b).2 = r)) = true
      · simp only [g2, ↓reduceIte]
        have : betI R C p r = some b := find_none_take hb2 hn (by rw [g2, decide_eq_true g]; rfl)
        rw [this] at q
        exact ⟨_, rfl, q⟩
      · have g3 : (decide ((endsI C b).1 = r) || decide ((endsI C b).2 = r)) = false := by simpa using g2
        simp only [g3, Bool.false_eq_true, ↓reduceIte]
        exact k _ ⟨⟨_, rfl⟩, take_snoc hb2 hn (by rw [g3, Bool.and_false])⟩
  · obtain ⟨⟨x, rfl⟩, hn⟩ := hI
    have : betI R C p r = none := List.find?_eq_none.mpr fun b hb => by
      rw [List.length_map, List.take_length] at hn
      rw [hn b hb]
      decide
    rw [this] at q
    exact ⟨_, rfl, q⟩
/-! the law's own -/
def sp_law_sheet : DSp := fun ds Q => ∃ (m : Int) (dk : DL.D) (n : Int), ds = [dk, .int n] ∧ Dk m dk ∧ m < 1073741800 ∧ 1 ≤ n ∧ n ≤ 1000000 ∧ ∀ (R C : Int) (dk' : DL.D), 1 ≤ R → R ≤ n → 1 ≤ C → C ≤ n → Dk (m + 3) dk' → Q (sht R C) [dk']
theorem mono_law_sheet : MonoD sp_law_sheet := fun ds Q Q' h ⟨m, dk, n, e, h1, h2, h3, h4, q⟩ => ⟨m, dk, n, e, h1, h2, h3, h4, fun R C dk' a b c d e => h _ _ (q R C dk' a b c d e)⟩
theorem math_law_sheet : ∀ (ds : List DL.D) (Q : PD), ds.length = 2 → sp_law_sheet ds Q → W_law_sheet sp_law_one sp_law_draw (DL.endsD [.io, .val] false Q) (startE 3 ds) := fun ds Q _ ⟨m, dk, n, e, hd, hm, h1, h2, q⟩ => by
  subst e
  unfold W_law_sheet
  simp only [sSeq, sSet, sPar, sUnp, sDo, sRet, sRetO, sRetN, sIf, sNil, sPut, tE, tAndW, tOrW, tNotW, tYesW, eBin, eUn, eChain, eNm, eC, eNot, eAnd, eOr, eIf, eLst, eTup, eSl, ptEv, cEv, eApp_iff, eCall_iff, wApp_iff, wSeq, wNm, aEv, valsF, oEv, slF, setL, bindD, DL.bindL, putO_nil, putO_io, putO_val, putO_brw, eMut, isL, seqD_l, seqD_t, List.map_cons, List.map_nil, List.length_cons, List.length_nil, List.cons_append, List.nil_append, List.getElem?_cons_succ, List.getElem?_cons_zero, List.set_cons_succ, List.set_cons_zero, Option.join_some, Option.bind_some, Option.map_some, Option.some.injEq, exists_eq_left', exists_eq_left, exists_and_left, exists_eq', true_and, and_true, le_size, Nat.reduceAdd, Nat.reduceSub, Nat.reduceLeDiff, PyData.bool.injEq, ↓reduceIte, Bool.false_eq_true, if_false, if_true, dAt_l, dAt_t, atI_0, atI_1, atI_2, atI_3, dAdd_i, dSub_i, dGt_i, dGe_i, dLt_i, dLe_i, dInt_i, dAbs_i, dLen_l, dLen_t, dMin_i, dMax_i, dTuple_l, dIs_none, dIsNot_none, startE, List.replicate, List.nil_append, List.cons_append, List.append_nil]
  refine one_l m hd (by omega) (by simp only [List.length_cons]; omega) (by simp only [List.length_cons, List.length_nil]; omega) fun x dk1 hx hd1 => ?_
  obtain ⟨t, rfl, t0, t1⟩ : ∃ t : Int, x = .int t ∧ 0 < t ∧ t ≤ n := by
    simp only [List.mem_cons, List.not_mem_nil, or_false] at hx
    rcases hx with rfl | rfl | rfl | rfl <;> exact ⟨_, rfl, by omega, by omega⟩
  simp only [sSeq, sSet, sPar, sUnp, sDo, sRet, sRetO, sRetN, sIf, sNil, sPut, tE, tAndW, tOrW, tNotW, tYesW, eBin, eUn, eChain, eNm, eC, eNot, eAnd, eOr, eIf, eLst, eTup, eSl, ptEv, cEv, eApp_iff, eCall_iff, wApp_iff, wSeq, wNm, aEv, valsF, oEv, slF, setL, bindD, DL.bindL, putO_nil, putO_io, putO_val, putO_brw, eMut, isL, seqD_l, seqD_t, List.map_cons, List.map_nil, List.length_cons, List.length_nil, List.cons_append, List.nil_append, List.getElem?_cons_succ, List.getElem?_cons_zero, List.set_cons_succ, List.set_cons_zero, Option.join_some, Option.bind_some, Option.map_some, Option.some.injEq, exists_eq_left', exists_eq_left, exists_and_left, exists_eq', true_and, and_true, le_size, Nat.reduceAdd, Nat.reduceSub, Nat.reduceLeDiff, PyData.bool.injEq, ↓reduceIte, Bool.false_eq_true, if_false, if_true, dAt_l, dAt_t, atI_0, atI_1, atI_2, atI_3, dAdd_i, dSub_i, dGt_i, dGe_i, dLt_i, dLe_i, dInt_i, dAbs_i, dLen_l, dLen_t, dMin_i, dMax_i, dTuple_l, dIs_none, dIsNot_none]
  refine draw_at _ hd1 (by omega) t0 (by omega) fun u dk2 u0 u1 hd2 => ?_
  simp only [sSeq, sSet, sPar, sUnp, sDo, sRet, sRetO, sRetN, sIf, sNil, sPut, tE, tAndW, tOrW, tNotW, tYesW, eBin, eUn, eChain, eNm, eC, eNot, eAnd, eOr, eIf, eLst, eTup, eSl, ptEv, cEv, eApp_iff, eCall_iff, wApp_iff, wSeq, wNm, aEv, valsF, oEv, slF, setL, bindD, DL.bindL, putO_nil, putO_io, putO_val, putO_brw, eMut, isL, seqD_l, seqD_t, List.map_cons, List.map_nil, List.length_cons, List.length_nil, List.cons_append, List.nil_append, List.getElem?_cons_succ, List.getElem?_cons_zero, List.set_cons_succ, List.set_cons_zero, Option.join_some, Option.bind_some, Option.map_some, Option.some.injEq, exists_eq_left', exists_eq_left, exists_and_left, exists_eq', true_and, and_true, le_size, Nat.reduceAdd, Nat.reduceSub, Nat.reduceLeDiff, PyData.bool.injEq, ↓reduceIte, Bool.false_eq_true, if_false, if_true, dAt_l, dAt_t, atI_0, atI_1, atI_2, atI_3, dAdd_i, dSub_i, dGt_i, dGe_i, dLt_i, dLe_i, dInt_i, dAbs_i, dLen_l, dLen_t, dMin_i, dMax_i, dTuple_l, dIs_none, dIsNot_none]
  refine draw_at _ hd2 (by omega) t0 (by omega) fun v dk3 v0 v1 hd3 => ?_
  simp only [sSeq, sSet, sPar, sUnp, sDo, sRet, sRetO, sRetN, sIf, sNil, sPut, tE, tAndW, tOrW, tNotW, tYesW, eBin, eUn, eChain, eNm, eC, eNot, eAnd, eOr, eIf, eLst, eTup, eSl, ptEv, cEv, eApp_iff, eCall_iff, wApp_iff, wSeq, wNm, aEv, valsF, oEv, slF, setL, bindD, DL.bindL, putO_nil, putO_io, putO_val, putO_brw, eMut, isL, seqD_l, seqD_t, List.map_cons, List.map_nil, List.length_cons, List.length_nil, List.cons_append, List.nil_append, List.getElem?_cons_succ, List.getElem?_cons_zero, List.set_cons_succ, List.set_cons_zero, Option.join_some, Option.bind_some, Option.map_some, Option.some.injEq, exists_eq_left', exists_eq_left, exists_and_left, exists_eq', true_and, and_true, le_size, Nat.reduceAdd, Nat.reduceSub, Nat.reduceLeDiff, PyData.bool.injEq, ↓reduceIte, Bool.false_eq_true, if_false, if_true, dAt_l, dAt_t, atI_0, atI_1, atI_2, atI_3, dAdd_i, dSub_i, dGt_i, dGe_i, dLt_i, dLe_i, dInt_i, dAbs_i, dLen_l, dLen_t, dMin_i, dMax_i, dTuple_l, dIs_none, dIsNot_none]
  exact ⟨_, rfl, q _ _ _ (by omega) (by omega) (by omega) (by omega) (hd3.le (by omega))⟩
def evenB (p : Int × Int) : Bool := decide ((p.1 + p.2) % 2 = 0)
def rowK (C : Int) (r : Int) : List (Int × Int) := ((List.range (C + 1).toNat).map fun (c : Nat) => (r, (c : Int))).filter evenB
def knotsI (R C : Int) : List (Int × Int) := (List.range (R + 1).toNat).flatMap fun (r : Nat) => rowK C r
theorem mem_knotsI {R C : Int} {p : Int × Int} (h : p ∈ knotsI R C) : (0 ≤ p.1 ∧ p.1 ≤ R) ∧ (0 ≤ p.2 ∧ p.2 ≤ C) ∧ (p.1 + p.2) % 2 = 0 := by
  obtain ⟨r, hr, h⟩ := List.mem_flatMap.mp h
  obtain ⟨h, he⟩ := List.mem_filter.mp h
  obtain ⟨c, hc, rfl⟩ := List.mem_map.mp h
  have hr := List.mem_range.mp hr
  have hc := List.mem_range.mp hc
  have he : ((r : Int) + (c : Int)) % 2 = 0 := by simpa [evenB] using he
  exact ⟨⟨by show 0 ≤ (r : Int); omega, by show (r : Int) ≤ R; omega⟩, ⟨by show 0 ≤ (c : Int); omega, by show (c : Int) ≤ C; omega⟩, he⟩
def sp_law_knots : DSp := fun ds Q => ∃ R C : Int, ds = [sht R C] ∧ 0 ≤ R ∧ R ≤ 1000 ∧ 0 ≤ C ∧ C ≤ 1000 ∧ Q (.list ((knotsI R C).map pk2)) []
theorem mono_law_knots : MonoD sp_law_knots := fun ds Q Q' h ⟨R, C, e, h1, h2, h3, h4, q⟩ => ⟨R, C, e, h1, h2, h3, h4, h _ _ q⟩
theorem rowK_len (C r : Int) : (rowK C r).length ≤ (C + 1).toNat := by
  unfold rowK
  refine Nat.le_trans (List.length_filter_le _ _) ?_
  rw [List.length_map, List.length_range]
  omega
theorem rows_len (C : Int) (n : Nat) : ((List.range n).flatMap fun (r : Nat) => rowK C r).length ≤ n * (C + 1).toNat := by
  induction n with
  | zero => simp
  | succ n ih =>
    rw [List.range_succ, List.flatMap_append, List.length_append, Nat.succ_mul]
    have := rowK_len C n
    simp only [List.flatMap_cons, List.flatMap_nil, List.append_nil]
    omega
theorem math_law_knots : ∀ (ds : List DL.D) (Q : PD), ds.length = 1 → sp_law_knots ds Q → W_law_knots (DL.endsD [.val] false Q) (startE 4 ds) := fun ds Q _ ⟨R, C, e, h1, h2, h3, h4, q⟩ => by
  subst e
  unfold W_law_knots
  apply seq_of
  · intro K k
    simp only [sSeq, sSet, sPar, sUnp, sDo, sRet, sRetO, sRetN, sIf, sNil, sPut, tE, tAndW, tOrW, tNotW, tYesW, eBin, eUn, eChain, eNm, eC, eNot, eAnd, eOr, eIf, eLst, eTup, eSl, ptEv, cEv, eApp_iff, eCall_iff, wApp_iff, wSeq, wNm, aEv, valsF, oEv, slF, setL, bindD, DL.bindL, putO_nil, putO_io, putO_val, putO_brw, eMut, isL, seqD_l, seqD_t, List.map_cons, List.map_nil, List.length_cons, List.length_nil, List.cons_append, List.nil_append, List.getElem?_cons_succ, List.getElem?_cons_zero, List.set_cons_succ, List.set_cons_zero, Option.join_some, Option.bind_some, Option.map_some, Option.some.injEq, exists_eq_left', exists_eq_left, exists_and_left, exists_eq', true_and, and_true, le_size, Nat.reduceAdd, Nat.reduceSub, Nat.reduceLeDiff, PyData.bool.injEq, ↓reduceIte, Bool.false_eq_true, if_false, if_true, dAt_l, dAt_t, atI_0, atI_1, atI_2, atI_3, dAdd_i, dSub_i, dGt_i, dGe_i, dLt_i, dLe_i, dInt_i, dAbs_i, dLen_l, dLen_t, dMin_i, dMax_i, dTuple_l, dIs_none, dIsNot_none, startE, List.replicate, List.nil_append, List.cons_append, List.append_nil, sht]
    exact k
  have len : ∀ i : Nat, i ≤ (R + 1).toNat → ((List.range i).flatMap fun (r : Nat) => rowK C r).length ≤ 1002001 := fun i hi => by
    refine Nat.le_trans (rows_len C i) ?_
    exact Nat.le_trans (Nat.mul_le_mul (show i ≤ 1001 by omega) (show (C + 1).toNat ≤ 1001 by omega)) (by decide)
  simp only [sSeq, sSet, sPar, sUnp, sDo, sRet, sRetO, sRetN, sIf, sNil, sPut, tE, tAndW, tOrW, tNotW, tYesW, eBin, eUn, eChain, eNm, eC, eNot, eAnd, eOr, eIf, eLst, eTup, eSl, ptEv, cEv, eApp_iff, eCall_iff, wApp_iff, wSeq, wNm, aEv, valsF, oEv, slF, setL, bindD, DL.bindL, putO_nil, putO_io, putO_val, putO_brw, eMut, isL, seqD_l, seqD_t, List.map_cons, List.map_nil, List.length_cons, List.length_nil, List.cons_append, List.nil_append, List.getElem?_cons_succ, List.getElem?_cons_zero, List.set_cons_succ, List.set_cons_zero, Option.join_some, Option.bind_some, Option.map_some, Option.some.injEq, exists_eq_left', exists_eq_left, exists_and_left, exists_eq', true_and, and_true, le_size, Nat.reduceAdd, Nat.reduceSub, Nat.reduceLeDiff, PyData.bool.injEq, ↓reduceIte, Bool.false_eq_true, if_false, if_true, dAt_l, dAt_t, atI_0, atI_1, atI_2, atI_3, dAdd_i, dSub_i, dGt_i, dGe_i, dLt_i, dLe_i, dInt_i, dAbs_i, dLen_l, dLen_t, dMin_i, dMax_i, dTuple_l, dIs_none, dIsNot_none, sFor]
  rw [rng1_i (by omega)]
  refine ⟨_, rfl, for_inv (fun i ε => ∃ x, ε = [some (.tuple [.int R, .int C]), some (.list (((List.range i).flatMap fun (r : Nat) => rowK C r).map pk2)), x, none]) ⟨_, rfl⟩ (fun _ _ _ => trivial) (fun i d ε K2 hd hI k2 => ?_) fun ε hI => ?_⟩
  · obtain ⟨x, rfl⟩ := hI
    have hi : i < (R + 1).toNat := by
      have := (List.getElem?_eq_some_iff.mp hd).1
      rwa [List.length_map, List.length_range] at this
    rw [List.getElem?_map, List.getElem?_range hi] at hd
    cases (show some (PyData.int (i : Int)) = some d from hd)
    refine ⟨_, rfl, ?_⟩
    simp only [sSeq, sSet, sPar, sUnp, sDo, sRet, sRetO, sRetN, sIf, sNil, sPut, tE, tAndW, tOrW, tNotW, tYesW, eBin, eUn, eChain, eNm, eC, eNot, eAnd, eOr, eIf, eLst, eTup, eSl, ptEv, cEv, eApp_iff, eCall_iff, wApp_iff, wSeq, wNm, aEv, valsF, oEv, slF, setL, bindD, DL.bindL, putO_nil, putO_io, putO_val, putO_brw, eMut, isL, seqD_l, seqD_t, List.map_cons, List.map_nil, List.length_cons, List.length_nil, List.cons_append, List.nil_append, List.getElem?_cons_succ, List.getElem?_cons_zero, List.set_cons_succ, List.set_cons_zero, Option.join_some, Option.bind_some, Option.map_some, Option.some.injEq, exists_eq_left', exists_eq_left, exists_and_left, exists_eq', true_and, and_true, le_size, Nat.reduceAdd, Nat.reduceSub, Nat.reduceLeDiff, PyData.bool.injEq, ↓reduceIte, Bool.false_eq_true, if_false, if_true, dAt_l, dAt_t, atI_0, atI_1, atI_2, atI_3, dAdd_i, dSub_i, dGt_i, dGe_i, dLt_i, dLe_i, dInt_i, dAbs_i, dLen_l, dLen_t, dMin_i, dMax_i, dTuple_l, dIs_none, dIsNot_none, eLc]
    rw [rng1_i (by omega)]
    refine ⟨_, rfl, lc_fm (p := fun (c : Nat) => evenB ((i : Int), (c : Int))) (f := fun (c : Nat) => pk2 ((i : Int), (c : Int))) trivial (fun c hc => ?_) ?_ ?_⟩
    · refine ⟨_, rfl, rfl, fun Q q => ?_, fun hp Q q => ?_⟩
      · simp only [sSeq, sSet, sPar, sUnp, sDo, sRet, sRetO, sRetN, sIf, sNil, sPut, tE, tAndW, tOrW, tNotW, tYesW, eBin, eUn, eChain, eNm, eC, eNot, eAnd, eOr, eIf, eLst, eTup, eSl, ptEv, cEv, eApp_iff, eCall_iff, wApp_iff, wSeq, wNm, aEv, valsF, oEv, slF, setL, bindD, DL.bindL, putO_nil, putO_io, putO_val, putO_brw, eMut, isL, seqD_l, seqD_t, List.map_cons, List.map_nil, List.length_cons, List.length_nil, List.cons_append, List.nil_append, List.getElem?_cons_succ, List.getElem?_cons_zero, List.set_cons_succ, List.set_cons_zero, Option.join_some, Option.bind_some, Option.map_some, Option.some.injEq, exists_eq_left', exists_eq_left, exists_and_left, exists_eq', true_and, and_true, le_size, Nat.reduceAdd, Nat.reduceSub, Nat.reduceLeDiff, PyData.bool.injEq, ↓reduceIte, Bool.false_eq_true, if_false, if_true, dAt_l, dAt_t, atI_0, atI_1, atI_2, atI_3, dAdd_i, dSub_i, dGt_i, dGe_i, dLt_i, dLe_i, dInt_i, dAbs_i, dLen_l, dLen_t, dMin_i, dMax_i, dTuple_l, dIs_none, dIsNot_none, wipeE, dMod_i (j := 2) (by decide), eqI]
        exact q
      · simp only [sSeq, sSet, sPar, sUnp, sDo, sRet, sRetO, sRetN, sIf, sNil, sPut, tE, tAndW, tOrW, tNotW, tYesW, eBin, eUn, eChain, eNm, eC, eNot, eAnd, eOr, eIf, eLst, eTup, eSl, ptEv, cEv, eApp_iff, eCall_iff, wApp_iff, wSeq, wNm, aEv, valsF, oEv, slF, setL, bindD, DL.bindL, putO_nil, putO_io, putO_val, putO_brw, eMut, isL, seqD_l, seqD_t, List.map_cons, List.map_nil, List.length_cons, List.length_nil, List.cons_append, List.nil_append, List.getElem?_cons_succ, List.getElem?_cons_zero, List.set_cons_succ, List.set_cons_zero, Option.join_some, Option.bind_some, Option.map_some, Option.some.injEq, exists_eq_left', exists_eq_left, exists_and_left, exists_eq', true_and, and_true, le_size, Nat.reduceAdd, Nat.reduceSub, Nat.reduceLeDiff, PyData.bool.injEq, ↓reduceIte, Bool.false_eq_true, if_false, if_true, dAt_l, dAt_t, atI_0, atI_1, atI_2, atI_3, dAdd_i, dSub_i, dGt_i, dGe_i, dLt_i, dLe_i, dInt_i, dAbs_i, dLen_l, dLen_t, dMin_i, dMax_i, dTuple_l, dIs_none, dIsNot_none, wipeE]
        exact q
    · rw [List.length_range]
      simp only [List.length_nil]
      have : sizeLine = 16777216 := rfl
      omega
    · have er : List.map (fun (c : Nat) => pk2 ((i : Int), (c : Int))) ((List.range (C + 1).toNat).filter fun (c : Nat) => evenB ((i : Int), (c : Int))) = (rowK C i).map pk2 := by
        rw [rowK, List.filter_map, List.map_map]
        rfl
      simp only [sSeq, sSet, sPar, sUnp, sDo, sRet, sRetO, sRetN, sIf, sNil, sPut, tE, tAndW, tOrW, tNotW, tYesW, eBin, eUn, eChain, eNm, eC, eNot, eAnd, eOr, eIf, eLst, eTup, eSl, ptEv, cEv, eApp_iff, eCall_iff, wApp_iff, wSeq, wNm, aEv, valsF, oEv, slF, setL, bindD, DL.bindL, putO_nil, putO_io, putO_val, putO_brw, eMut, isL, seqD_l, seqD_t, List.map_cons, List.map_nil, List.length_cons, List.length_nil, List.cons_append, List.nil_append, List.getElem?_cons_succ, List.getElem?_cons_zero, List.set_cons_succ, List.set_cons_zero, Option.join_some, Option.bind_some, Option.map_some, Option.some.injEq, exists_eq_left', exists_eq_left, exists_and_left, exists_eq', true_and, and_true, le_size, Nat.reduceAdd, Nat.reduceSub, Nat.reduceLeDiff, PyData.bool.injEq, ↓reduceIte, Bool.false_eq_true, if_false, if_true, dAt_l, dAt_t, atI_0, atI_1, atI_2, atI_3, dAdd_i, dSub_i, dGt_i, dGe_i, dLt_i, dLe_i, dInt_i, dAbs_i, dLen_l, dLen_t, dMin_i, dMax_i, dTuple_l, dIs_none, dIsNot_none, wipeE, restE, er]
      have l1 := len i (by omega)
      have l2 := rowK_len C i
      refine ⟨_, _, fExtend_l (by
        rw [List.length_map, List.length_map]
        have : sizeLine = 16777216 := rfl
        omega), k2 _ ⟨some (.int i), ?_⟩⟩
      rw [List.range_succ, List.flatMap_append, List.map_append]
      simp only [List.flatMap_cons, List.flatMap_nil, List.append_nil]
  · obtain ⟨x, rfl⟩ := hI
    simp only [sSeq, sSet, sPar, sUnp, sDo, sRet, sRetO, sRetN, sIf, sNil, sPut, tE, tAndW, tOrW, tNotW, tYesW, eBin, eUn, eChain, eNm, eC, eNot, eAnd, eOr, eIf, eLst, eTup, eSl, ptEv, cEv, eApp_iff, eCall_iff, wApp_iff, wSeq, wNm, aEv, valsF, oEv, slF, setL, bindD, DL.bindL, putO_nil, putO_io, putO_val, putO_brw, eMut, isL, seqD_l, seqD_t, List.map_cons, List.map_nil, List.length_cons, List.length_nil, List.cons_append, List.nil_append, List.getElem?_cons_succ, List.getElem?_cons_zero, List.set_cons_succ, List.set_cons_zero, Option.join_some, Option.bind_some, Option.map_some, Option.some.injEq, exists_eq_left', exists_eq_left, exists_and_left, exists_eq', true_and, and_true, le_size, Nat.reduceAdd, Nat.reduceSub, Nat.reduceLeDiff, PyData.bool.injEq, ↓reduceIte, Bool.false_eq_true, if_false, if_true, dAt_l, dAt_t, atI_0, atI_1, atI_2, atI_3, dAdd_i, dSub_i, dGt_i, dGe_i, dLt_i, dLe_i, dInt_i, dAbs_i, dLen_l, dLen_t, dMin_i, dMax_i, dTuple_l, dIs_none, dIsNot_none]
    rw [List.length_map, List.length_range]
    exact ⟨_, rfl, q⟩
def btwI (C : Int) (p q : Int × Int) : Option Int := if (p.1 - q.1).natAbs = 1 ∧ (p.2 - q.2).natAbs = 1 then some (min p.1 q.1 * C + min p.2 q.2) else none
def sp_law_between : DSp := fun ds Q => ∃ (R C : Int) (p q : Int × Int), ds = [sht R C, pk2 p, pk2 q] ∧ 0 < C ∧ C < 1073741824 ∧ Q (optD (btwI C p q)) []
theorem mono_law_between : MonoD sp_law_between := fun ds Q Q' h ⟨R, C, p, r, e, h1, h2, q⟩ => ⟨R, C, p, r, e, h1, h2, h _ _ q⟩
theorem neI {m n : Int} : dNe (.int m) (.int n) = some (.bool (decide (m ≠ n))) := by
  rw [dNe_sh (m := 0) (n := 0) Sh.int Sh.int, decide_not]
  congr 2
theorem math_law_between : ∀ (ds : List DL.D) (Q : PD), ds.length = 3 → sp_law_between ds Q → W_law_between (DL.endsD [.val, .val, .val] false Q) (startE 3 ds) := fun ds Q _ ⟨R, C, p, r, e, h1, h2, q⟩ => by
  subst e
  obtain ⟨a, b⟩ := p
  obtain ⟨c, d⟩ := r
  unfold W_law_between
  have e1 : ∀ x : Int, ((if x < 0 then -x else x) ≠ 1) ↔ ¬ x.natAbs = 1 := fun x => by split <;> omega
  have e2 : ∀ x : Int, decide ((if x < 0 then -x else x) ≠ 1) = !decide (x.natAbs = 1) := fun x => by
    rw [Bool.eq_iff_iff]
    simp only [decide_eq_true_eq, Bool.not_eq_true', decide_eq_false_iff_not]
    exact e1 x
  unfold btwI at q
  by_cases g1 : (a - c).natAbs = 1
  · by_cases g2 : (b - d).natAbs = 1
    · rw [if_pos ⟨g1, g2⟩] at q
      simp only [sSeq, sSet, sPar, sUnp, sDo, sRet, sRetO, sRetN, sIf, sNil, sPut, tE, tAndW, tOrW, tNotW, tYesW, eBin, eUn, eChain, eNm, eC, eNot, eAnd, eOr, eIf, eLst, eTup, eSl, ptEv, cEv, eApp_iff, eCall_iff, wApp_iff, wSeq, wNm, aEv, valsF, oEv, slF, setL, bindD, DL.bindL, putO_nil, putO_io, putO_val, putO_brw, eMut, isL, seqD_l, seqD_t, List.map_cons, List.map_nil, List.length_cons, List.length_nil, List.cons_append, List.nil_append, List.getElem?_cons_succ, List.getElem?_cons_zero, List.set_cons_succ, List.set_cons_zero, Option.join_some, Option.bind_some, Option.map_some, Option.some.injEq, exists_eq_left', exists_eq_left, exists_and_left, exists_eq', true_and, and_true, le_size, Nat.reduceAdd, Nat.reduceSub, Nat.reduceLeDiff, PyData.bool.injEq, ↓reduceIte, Bool.false_eq_true, if_false, if_true, dAt_l, dAt_t, atI_0, atI_1, atI_2, atI_3, dAdd_i, dSub_i, dGt_i, dGe_i, dLt_i, dLe_i, dInt_i, dAbs_i, dLen_l, dLen_t, dMin_i, dMax_i, dTuple_l, dIs_none, dIsNot_none, startE, List.replicate, List.nil_append, List.cons_append, List.append_nil, sht, pk2, pr, neI, e2, g1, g2, decide_true, Bool.not_true, dMul_r (j := C) (by omega) (by omega)]
      exact ⟨_, rfl, q⟩
    · rw [if_neg (fun z => g2 z.2)] at q
      simp only [sSeq, sSet, sPar, sUnp, sDo, sRet, sRetO, sRetN, sIf, sNil, sPut, tE, tAndW, tOrW, tNotW, tYesW, eBin, eUn, eChain, eNm, eC, eNot, eAnd, eOr, eIf, eLst, eTup, eSl, ptEv, cEv, eApp_iff, eCall_iff, wApp_iff, wSeq, wNm, aEv, valsF, oEv, slF, setL, bindD, DL.bindL, putO_nil, putO_io, putO_val, putO_brw, eMut, isL, seqD_l, seqD_t, List.map_cons, List.map_nil, List.length_cons, List.length_nil, List.cons_append, List.nil_append, List.getElem?_cons_succ, List.getElem?_cons_zero, List.set_cons_succ, List.set_cons_zero, Option.join_some, Option.bind_some, Option.map_some, Option.some.injEq, exists_eq_left', exists_eq_left, exists_and_left, exists_eq', true_and, and_true, le_size, Nat.reduceAdd, Nat.reduceSub, Nat.reduceLeDiff, PyData.bool.injEq, ↓reduceIte, Bool.false_eq_true, if_false, if_true, dAt_l, dAt_t, atI_0, atI_1, atI_2, atI_3, dAdd_i, dSub_i, dGt_i, dGe_i, dLt_i, dLe_i, dInt_i, dAbs_i, dLen_l, dLen_t, dMin_i, dMax_i, dTuple_l, dIs_none, dIsNot_none, startE, List.replicate, List.nil_append, List.cons_append, List.append_nil, sht, pk2, pr, neI, e2, g1, g2, decide_true, decide_false, Bool.not_true, Bool.not_false]
      exact ⟨_, rfl, q⟩
  · rw [if_neg (fun z => g1 z.1)] at q
    simp only [sSeq, sSet, sPar, sUnp, sDo, sRet, sRetO, sRetN, sIf, sNil, sPut, tE, tAndW, tOrW, tNotW, tYesW, eBin, eUn, eChain, eNm, eC, eNot, eAnd, eOr, eIf, eLst, eTup, eSl, ptEv, cEv, eApp_iff, eCall_iff, wApp_iff, wSeq, wNm, aEv, valsF, oEv, slF, setL, bindD, DL.bindL, putO_nil, putO_io, putO_val, putO_brw, eMut, isL, seqD_l, seqD_t, List.map_cons, List.map_nil, List.length_cons, List.length_nil, List.cons_append, List.nil_append, List.getElem?_cons_succ, List.getElem?_cons_zero, List.set_cons_succ, List.set_cons_zero, Option.join_some, Option.bind_some, Option.map_some, Option.some.injEq, exists_eq_left', exists_eq_left, exists_and_left, exists_eq', true_and, and_true, le_size, Nat.reduceAdd, Nat.reduceSub, Nat.reduceLeDiff, PyData.bool.injEq, ↓reduceIte, Bool.false_eq_true, if_false, if_true, dAt_l, dAt_t, atI_0, atI_1, atI_2, atI_3, dAdd_i, dSub_i, dGt_i, dGe_i, dLt_i, dLe_i, dInt_i, dAbs_i, dLen_l, dLen_t, dMin_i, dMax_i, dTuple_l, dIs_none, dIsNot_none, startE, List.replicate, List.nil_append, List.cons_append, List.append_nil, sht, pk2, pr, neI, e2, g1, decide_true, decide_false, Bool.not_true, Bool.not_false]
    exact ⟨_, rfl, q⟩
/-! the two ways to find a bar between knots agree -/
theorem ends_fld {C a b : Int} (h0 : 0 ≤ b) (h1 : b < C) : endsI C (a * C + b) = if (a + b) % 2 = 0 then ((a, b), (a + 1, b + 1)) else ((a, b + 1), (a + 1, b)) := by
  have e1 : (a * C + b) / C = a := by
    rw [Int.add_comm, Int.add_mul_ediv_right _ _ (by omega), Int.ediv_eq_zero_of_lt h0 h1, Int.zero_add]
  have e2 : (a * C + b) % C = b := by
    rw [Int.add_comm, Int.add_mul_emod_self_right, Int.emod_eq_of_lt h0 h1]
  unfold endsI
  rw [e1, e2]
theorem bet_eq {R C : Int} {p q : Int × Int} (hp : (0 ≤ p.1 ∧ p.1 ≤ R) ∧ (0 ≤ p.2 ∧ p.2 ≤ C) ∧ (p.1 + p.2) % 2 = 0) (hq : (0 ≤ q.1 ∧ q.1 ≤ R) ∧ (0 ≤ q.2 ∧ q.2 ≤ C) ∧ (q.1 + q.2) % 2 = 0) : betI R C p q = btwI C p q := by
  obtain ⟨r, c⟩ := p
  obtain ⟨u, v⟩ := q
  simp only at hp hq
  have key : ∀ a b n m : Int, (a = r - 1 ∨ a = r) → (b = c - 1 ∨ b = c) → n = 2 * a + 1 - r → m = 2 * b + 1 - c → (inS R C (a, b) && (decide ((u, v) ≠ (r, c)) && (decide ((endsI C (a * C + b)).1 = (u, v)) || decide ((endsI C (a * C + b)).2 = (u, v))))) = decide (u = n ∧ v = m) := fun a b n m ha hb hn hm => by
    by_cases hi : inS R C (a, b) = true
    · rw [hi, Bool.true_and]
      have hi2 : (0 ≤ a ∧ a < R) ∧ (0 ≤ b ∧ b < C) := by
        have := hi
        unfold inS at this
        simpa using this
      rw [ends_fld hi2.2.1 hi2.2.2, Bool.eq_iff_iff]
      by_cases ev : (a + b) % 2 = 0
      · rw [if_pos ev]
        simp only [ne_eq, Prod.mk.injEq, decide_eq_true_eq, Bool.and_eq_true, Bool.or_eq_true]
        omega
      · rw [if_neg ev]
        simp only [ne_eq, Prod.mk.injEq, decide_eq_true_eq, Bool.and_eq_true, Bool.or_eq_true]
        omega
    · have hi' : inS R C (a, b) = false := by simpa using hi
      rw [hi', Bool.false_and]
      symm
      rw [decide_eq_false_iff_not]
      rintro ⟨e1, e2⟩
      refine hi ?_
      unfold inS
      rw [decide_eq_true (by simp only; omega), decide_eq_true (by simp only; omega)]
      rfl
  unfold betI barsI
  rw [List.find?_map, List.find?_filter]
  unfold btwI
  have k1 := key (r - 1) (c - 1) (r - 1) (c - 1) (.inl rfl) (.inl rfl) (by omega) (by omega)
  have k2 := key (r - 1) c (r - 1) (c + 1) (.inl rfl) (.inr rfl) (by omega) (by omega)
  have k3 := key r (c - 1) (r + 1) (c - 1) (.inr rfl) (.inl rfl) (by omega) (by omega)
  have k4 := key r c (r + 1) (c + 1) (.inr rfl) (.inr rfl) (by omega) (by omega)
  simp only [List.find?, Function.comp, Bool.decide_and, Bool.decide_eq_true, k1, k2, k3, k4]
  clear k1 k2 k3 k4 key
  by_cases g1 : u = r - 1 ∧ v = c - 1
  · rw [if_pos (by omega), ← Bool.decide_and, decide_eq_true g1]
    simp only [Option.map_some, Option.some.injEq]
    rw [Int.min_eq_right (by omega), Int.min_eq_right (by omega), g1.1, g1.2]
  by_cases g2 : u = r - 1 ∧ v = c + 1
  · rw [if_pos (by omega), ← Bool.decide_and, decide_eq_false g1, ← Bool.decide_and, decide_eq_true g2]
    simp only [Option.map_some, Option.some.injEq]
    rw [Int.min_eq_right (by omega), Int.min_eq_left (by omega), g2.1]
  by_cases g3 : u = r + 1 ∧ v = c - 1
  · rw [if_pos (by omega), ← Bool.decide_and, decide_eq_false g1, ← Bool.decide_and, decide_eq_false g2, ← Bool.decide_and, decide_eq_true g3]
    simp only [Option.map_some, Option.some.injEq]
    rw [Int.min_eq_left (by omega), Int.min_eq_right (by omega), g3.2]
  by_cases g4 : u = r + 1 ∧ v = c + 1
  · rw [if_pos (by omega), ← Bool.decide_and, decide_eq_false g1, ← Bool.decide_and, decide_eq_false g2, ← Bool.decide_and, decide_eq_false g3, ← Bool.decide_and, decide_eq_true g4]
    simp only [Option.map_some, Option.some.injEq]
    rw [Int.min_eq_left (by omega), Int.min_eq_left (by omega)]
  · rw [if_neg (by omega), ← Bool.decide_and, decide_eq_false g1, ← Bool.decide_and, decide_eq_false g2, ← Bool.decide_and, decide_eq_false g3, ← Bool.decide_and, decide_eq_false g4]
    rfl
end FN


namespace FN
open PySem PySem.Spec L2 DL
/- knots ['sheet', 'found', 'r', 'c'] ['val', 'own', 'val', 'val'] -/
def W_knots : WS :=
  (sSeq (sSet 1 (eLst []))
  (sSeq (sFor (wApp rng1 [(.ex (eBin dAdd (.ex (eBin dAt (.nm 0) (.ex (eC (.int 0))))) (.ex (eC (.int 1)))))]) (.nm 2) (sDo (eMut 1 fExtend [(eLc (wApp rng1 [(.ex (eBin dAdd (.ex (eBin dAt (.nm 0) (.ex (eC (.int 1))))) (.ex (eC (.int 1)))))]) (.nm 3) (tE (eBin dEq (.ex (eBin dMod (.ex (eBin dAdd (.ex (eNm 2)) (.ex (eNm 3)))) (.ex (eC (.int 2))))) (.ex (eC (.int 0))))) (eTup [(eNm 2), (eNm 3)]) [3])])))
  (sRet (eApp dTuple [(.nm 1)]))))
/- _law_ends ['_law_sheet_here', '_law_bar', '_law_r', '_law_c'] ['val', 'val', 'val', 'val'] -/
def W_law_ends : WS :=
  (sSeq (sPar [2, 3] [(eBin dFdiv (.nm 1) (.ex (eBin dAt (.nm 0) (.ex (eC (.int 1)))))), (eBin dMod (.ex (eApp dInt [(.nm 1)])) (.ex (eBin dAt (.nm 0) (.ex (eC (.int 1))))))])
  (sSeq (sIf (tE (eBin dEq (.ex (eBin dMod (.ex (eApp dInt [(.ex (eBin dAdd (.ex (eNm 2)) (.ex (eNm 3))))])) (.ex (eC (.int 2))))) (.ex (eC (.int 0))))) (sRet (eTup [(eTup [(eNm 2), (eNm 3)]), (eTup [(eBin dAdd (.ex (eNm 2)) (.ex (eC (.int 1)))), (eBin dAdd (.ex (eNm 3)) (.ex (eC (.int 1))))])])) sNil)
  (sRet (eTup [(eTup [(eNm 2), (eBin dAdd (.ex (eNm 3)) (.ex (eC (.int 1))))]), (eTup [(eBin dAdd (.ex (eNm 2)) (.ex (eC (.int 1)))), (eNm 3)])]))))
/- _law_at ['_law_sheet_here', '_law_knot', '_law_found', '_law_r', '_law_c'] ['val', 'val', 'own', 'val', 'val'] -/
def W_law_at : WS :=
  (sSeq (sSet 2 (eLst []))
  (sSeq (sFor (wSeq (eTup [(eBin dSub (.ex (eBin dAt (.nm 1) (.ex (eC (.int 0))))) (.ex (eC (.int 1)))), (eBin dAt (.nm 1) (.ex (eC (.int 0))))])) (.nm 3) (sFor (wSeq (eTup [(eBin dSub (.ex (eBin dAt (.nm 1) (.ex (eC (.int 1))))) (.ex (eC (.int 1)))), (eBin dAt (.nm 1) (.ex (eC (.int 1))))])) (.nm 4) (sIf (tAndW (tE (eChain dLe dLt (.ex (eC (.int 0))) (.nm 3) (.ex (eBin dAt (.nm 0) (.ex (eC (.int 0))))))) (tE (eChain dLe dLt (.ex (eC (.int 0))) (.nm 4) (.ex (eBin dAt (.nm 0) (.ex (eC (.int 1)))))))) (sDo (eMut 2 fAppend [(eBin dAdd (.ex (eBin dMul (.nm 3) (.ex (eBin dAt (.nm 0) (.ex (eC (.int 1))))))) (.ex (eNm 4)))])) sNil)))
  (sRetO 2)))

def sp_knots : DSp := fun ds Q => ∃ R C : Int, ds = [sht R C] ∧ 0 ≤ R ∧ R ≤ 1000 ∧ 0 ≤ C ∧ C ≤ 1000 ∧ Q (.tuple ((knotsI R C).map pk2)) []
theorem mono_knots : MonoD sp_knots := fun ds Q Q' h ⟨R, C, e, h1, h2, h3, h4, q⟩ => ⟨R, C, e, h1, h2, h3, h4, h _ _ q⟩
theorem math_knots : ∀ (ds : List DL.D) (Q : PD), ds.length = 1 → sp_knots ds Q → W_knots (DL.endsD [.val] false Q) (startE 4 ds) := fun ds Q _ ⟨R, C, e, h1, h2, h3, h4, q⟩ => by
  subst e
  unfold W_knots
  apply seq_of
  · intro K k
    simp only [sSeq, sSet, sPar, sUnp, sDo, sRet, sRetO, sRetN, sIf, sNil, sPut, tE, tAndW, tOrW, tNotW, tYesW, eBin, eUn, eChain, eNm, eC, eNot, eAnd, eOr, eIf, eLst, eTup, eSl, ptEv, cEv, eApp_iff, eCall_iff, wApp_iff, wSeq, wNm, aEv, valsF, oEv, slF, setL, bindD, DL.bindL, putO_nil, putO_io, putO_val, putO_brw, eMut, isL, seqD_l, seqD_t, List.map_cons, List.map_nil, List.length_cons, List.length_nil, List.cons_append, List.nil_append, List.getElem?_cons_succ, List.getElem?_cons_zero, List.set_cons_succ, List.set_cons_zero, Option.join_some, Option.bind_some, Option.map_some, Option.some.injEq, exists_eq_left', exists_eq_left, exists_and_left, exists_eq', true_and, and_true, le_size, Nat.reduceAdd, Nat.reduceSub, Nat.reduceLeDiff, PyData.bool.injEq, ↓reduceIte, Bool.false_eq_true, if_false, if_true, dAt_l, dAt_t, atI_0, atI_1, atI_2, atI_3, dAdd_i, dSub_i, dGt_i, dGe_i, dLt_i, dLe_i, dInt_i, dAbs_i, dLen_l, dLen_t, dMin_i, dMax_i, dTuple_l, dIs_none, dIsNot_none, startE, List.replicate, List.nil_append, List.cons_append, List.append_nil, sht]
    exact k
  have len : ∀ i : Nat, i ≤ (R + 1).toNat → ((List.range i).flatMap fun (r : Nat) => rowK C r).length ≤ 1002001 := fun i hi => by
    refine Nat.le_trans (rows_len C i) ?_
    exact Nat.le_trans (Nat.mul_le_mul (show i ≤ 1001 by omega) (show (C + 1).toNat ≤ 1001 by omega)) (by decide)
  simp only [sSeq, sSet, sPar, sUnp, sDo, sRet, sRetO, sRetN, sIf, sNil, sPut, tE, tAndW, tOrW, tNotW, tYesW, eBin, eUn, eChain, eNm, eC, eNot, eAnd, eOr, eIf, eLst, eTup, eSl, ptEv, cEv, eApp_iff, eCall_iff, wApp_iff, wSeq, wNm, aEv, valsF, oEv, slF, setL, bindD, DL.bindL, putO_nil, putO_io, putO_val, putO_brw, eMut, isL, seqD_l, seqD_t, List.map_cons, List.map_nil, List.length_cons, List.length_nil, List.cons_append, List.nil_append, List.getElem?_cons_succ, List.getElem?_cons_zero, List.set_cons_succ, List.set_cons_zero, Option.join_some, Option.bind_some, Option.map_some, Option.some.injEq, exists_eq_left', exists_eq_left, exists_and_left, exists_eq', true_and, and_true, le_size, Nat.reduceAdd, Nat.reduceSub, Nat.reduceLeDiff, PyData.bool.injEq, ↓reduceIte, Bool.false_eq_true, if_false, if_true, dAt_l, dAt_t, atI_0, atI_1, atI_2, atI_3, dAdd_i, dSub_i, dGt_i, dGe_i, dLt_i, dLe_i, dInt_i, dAbs_i, dLen_l, dLen_t, dMin_i, dMax_i, dTuple_l, dIs_none, dIsNot_none, sFor]
  rw [rng1_i (by omega)]
  refine ⟨_, rfl, for_inv (fun i ε => ∃ x, ε = [some (.tuple [.int R, .int C]), some (.list (((List.range i).flatMap fun (r : Nat) => rowK C r).map pk2)), x, none]) ⟨_, rfl⟩ (fun _ _ _ => trivial) (fun i d ε K2 hd hI k2 => ?_) fun ε hI => ?_⟩
  · obtain ⟨x, rfl⟩ := hI
    have hi : i < (R + 1).toNat := by
      have := (List.getElem?_eq_some_iff.mp hd).1
      rwa [List.length_map, List.length_range] at this
    rw [List.getElem?_map, List.getElem?_range hi] at hd
    cases (show some (PyData.int (i : Int)) = some d from hd)
    refine ⟨_, rfl, ?_⟩
    simp only [sSeq, sSet, sPar, sUnp, sDo, sRet, sRetO, sRetN, sIf, sNil, sPut, tE, tAndW, tOrW, tNotW, tYesW, eBin, eUn, eChain, eNm, eC, eNot, eAnd, eOr, eIf, eLst, eTup, eSl, ptEv, cEv, eApp_iff, eCall_iff, wApp_iff, wSeq, wNm, aEv, valsF, oEv, slF, setL, bindD, DL.bindL, putO_nil, putO_io, putO_val, putO_brw, eMut, isL, seqD_l, seqD_t, List.map_cons, List.map_nil, List.length_cons, List.length_nil, List.cons_append, List.nil_append, List.getElem?_cons_succ, List.getElem?_cons_zero, List.set_cons_succ, List.set_cons_zero, Option.join_some, Option.bind_some, Option.map_some, Option.some.injEq, exists_eq_left', exists_eq_left, exists_and_left, exists_eq', true_and, and_true, le_size, Nat.reduceAdd, Nat.reduceSub, Nat.reduceLeDiff, PyData.bool.injEq, ↓reduceIte, Bool.false_eq_true, if_false, if_true, dAt_l, dAt_t, atI_0, atI_1, atI_2, atI_3, dAdd_i, dSub_i, dGt_i, dGe_i, dLt_i, dLe_i, dInt_i, dAbs_i, dLen_l, dLen_t, dMin_i, dMax_i, dTuple_l, dIs_none, dIsNot_none, eLc]
    rw [rng1_i (by omega)]
    refine ⟨_, rfl, lc_fm (p := fun (c : Nat) => evenB ((i : Int), (c : Int))) (f := fun (c : Nat) => pk2 ((i : Int), (c : Int))) trivial (fun c hc => ?_) ?_ ?_⟩
    · refine ⟨_, rfl, rfl, fun Q q => ?_, fun hp Q q => ?_⟩
      · simp only [sSeq, sSet, sPar, sUnp, sDo, sRet, sRetO, sRetN, sIf, sNil, sPut, tE, tAndW, tOrW, tNotW, tYesW, eBin, eUn, eChain, eNm, eC, eNot, eAnd, eOr, eIf, eLst, eTup, eSl, ptEv, cEv, eApp_iff, eCall_iff, wApp_iff, wSeq, wNm, aEv, valsF, oEv, slF, setL, bindD, DL.bindL, putO_nil, putO_io, putO_val, putO_brw, eMut, isL, seqD_l, seqD_t, List.map_cons, List.map_nil, List.length_cons, List.length_nil, List.cons_append, List.nil_append, List.getElem?_cons_succ, List.getElem?_cons_zero, List.set_cons_succ, List.set_cons_zero, Option.join_some, Option.bind_some, Option.map_some, Option.some.injEq, exists_eq_left', exists_eq_left, exists_and_left, exists_eq', true_and, and_true, le_size, Nat.reduceAdd, Nat.reduceSub, Nat.reduceLeDiff, PyData.bool.injEq, ↓reduceIte, Bool.false_eq_true, if_false, if_true, dAt_l, dAt_t, atI_0, atI_1, atI_2, atI_3, dAdd_i, dSub_i, dGt_i, dGe_i, dLt_i, dLe_i, dInt_i, dAbs_i, dLen_l, dLen_t, dMin_i, dMax_i, dTuple_l, dIs_none, dIsNot_none, wipeE, dMod_i (j := 2) (by decide), eqI]
        exact q
      · simp only [sSeq, sSet, sPar, sUnp, sDo, sRet, sRetO, sRetN, sIf, sNil, sPut, tE, tAndW, tOrW, tNotW, tYesW, eBin, eUn, eChain, eNm, eC, eNot, eAnd, eOr, eIf, eLst, eTup, eSl, ptEv, cEv, eApp_iff, eCall_iff, wApp_iff, wSeq, wNm, aEv, valsF, oEv, slF, setL, bindD, DL.bindL, putO_nil, putO_io, putO_val, putO_brw, eMut, isL, seqD_l, seqD_t, List.map_cons, List.map_nil, List.length_cons, List.length_nil, List.cons_append, List.nil_append, List.getElem?_cons_succ, List.getElem?_cons_zero, List.set_cons_succ, List.set_cons_zero, Option.join_some, Option.bind_some, Option.map_some, Option.some.injEq, exists_eq_left', exists_eq_left, exists_and_left, exists_eq', true_and, and_true, le_size, Nat.reduceAdd, Nat.reduceSub, Nat.reduceLeDiff, PyData.bool.injEq, ↓reduceIte, Bool.false_eq_true, if_false, if_true, dAt_l, dAt_t, atI_0, atI_1, atI_2, atI_3, dAdd_i, dSub_i, dGt_i, dGe_i, dLt_i, dLe_i, dInt_i, dAbs_i, dLen_l, dLen_t, dMin_i, dMax_i, dTuple_l, dIs_none, dIsNot_none, wipeE]
        exact q
    · rw [List.length_range]
      simp only [List.length_nil]
      have : sizeLine = 16777216 := rfl
      omega
    · have er : List.map (fun (c : Nat) => pk2 ((i : Int), (c : Int))) ((List.range (C + 1).toNat).filter fun (c : Nat) => evenB ((i : Int), (c : Int))) = (rowK C i).map pk2 := by
        rw [rowK, List.filter_map, List.map_map]
        rfl
      simp only [sSeq, sSet, sPar, sUnp, sDo, sRet, sRetO, sRetN, sIf, sNil, sPut, tE, tAndW, tOrW, tNotW, tYesW, eBin, eUn, eChain, eNm, eC, eNot, eAnd, eOr, eIf, eLst, eTup, eSl, ptEv, cEv, eApp_iff, eCall_iff, wApp_iff, wSeq, wNm, aEv, valsF, oEv, slF, setL, bindD, DL.bindL, putO_nil, putO_io, putO_val, putO_brw, eMut, isL, seqD_l, seqD_t, List.map_cons, List.map_nil, List.length_cons, List.length_nil, List.cons_append, List.nil_append, List.getElem?_cons_succ, List.getElem?_cons_zero, List.set_cons_succ, List.set_cons_zero, Option.join_some, Option.bind_some, Option.map_some, Option.some.injEq, exists_eq_left', exists_eq_left, exists_and_left, exists_eq', true_and, and_true, le_size, Nat.reduceAdd, Nat.reduceSub, Nat.reduceLeDiff, PyData.bool.injEq, ↓reduceIte, Bool.false_eq_true, if_false, if_true, dAt_l, dAt_t, atI_0, atI_1, atI_2, atI_3, dAdd_i, dSub_i, dGt_i, dGe_i, dLt_i, dLe_i, dInt_i, dAbs_i, dLen_l, dLen_t, dMin_i, dMax_i, dTuple_l, dIs_none, dIsNot_none, wipeE, restE, er]
      have l1 := len i (by omega)
      have l2 := rowK_len C i
      refine ⟨_, _, fExtend_l (by
        rw [List.length_map, List.length_map]
        have : sizeLine = 16777216 := rfl
        omega), k2 _ ⟨some (.int i), ?_⟩⟩
      rw [List.range_succ, List.flatMap_append, List.map_append]
      simp only [List.flatMap_cons, List.flatMap_nil, List.append_nil]
  · obtain ⟨x, rfl⟩ := hI
    simp only [sSeq, sSet, sPar, sUnp, sDo, sRet, sRetO, sRetN, sIf, sNil, sPut, tE, tAndW, tOrW, tNotW, tYesW, eBin, eUn, eChain, eNm, eC, eNot, eAnd, eOr, eIf, eLst, eTup, eSl, ptEv, cEv, eApp_iff, eCall_iff, wApp_iff, wSeq, wNm, aEv, valsF, oEv, slF, setL, bindD, DL.bindL, putO_nil, putO_io, putO_val, putO_brw, eMut, isL, seqD_l, seqD_t, List.map_cons, List.map_nil, List.length_cons, List.length_nil, List.cons_append, List.nil_append, List.getElem?_cons_succ, List.getElem?_cons_zero, List.set_cons_succ, List.set_cons_zero, Option.join_some, Option.bind_some, Option.map_some, Option.some.injEq, exists_eq_left', exists_eq_left, exists_and_left, exists_eq', true_and, and_true, le_size, Nat.reduceAdd, Nat.reduceSub, Nat.reduceLeDiff, PyData.bool.injEq, ↓reduceIte, Bool.false_eq_true, if_false, if_true, dAt_l, dAt_t, atI_0, atI_1, atI_2, atI_3, dAdd_i, dSub_i, dGt_i, dGe_i, dLt_i, dLe_i, dInt_i, dAbs_i, dLen_l, dLen_t, dMin_i, dMax_i, dTuple_l, dIs_none, dIsNot_none]
    rw [List.length_map, List.length_range]
    exact ⟨_, rfl, q⟩
def sp_law_ends : DSp := fun ds Q => ∃ R C b : Int, ds = [sht R C, .int b] ∧ 0 < C ∧ C < 1073741824 ∧ Q (endsD C b) []
theorem mono_law_ends : MonoD sp_law_ends := fun ds Q Q' h ⟨R, C, b, e, h1, h2, q⟩ => ⟨R, C, b, e, h1, h2, h _ _ q⟩
theorem math_law_ends : ∀ (ds : List DL.D) (Q : PD), ds.length = 2 → sp_law_ends ds Q → W_law_ends (DL.endsD [.val, .val] false Q) (startE 4 ds) := fun ds Q _ ⟨R, C, b, e, h1, h2, q⟩ => by
  subst e
  unfold W_law_ends
  apply seq_of
  · intro K k
    simp only [sSeq, sSet, sPar, sUnp, sDo, sRet, sRetO, sRetN, sIf, sNil, sPut, tE, tAndW, tOrW, tNotW, tYesW, eBin, eUn, eChain, eNm, eC, eNot, eAnd, eOr, eIf, eLst, eTup, eSl, ptEv, cEv, eApp_iff, eCall_iff, wApp_iff, wSeq, wNm, aEv, valsF, oEv, slF, setL, bindD, DL.bindL, putO_nil, putO_io, putO_val, putO_brw, eMut, isL, seqD_l, seqD_t, List.map_cons, List.map_nil, List.length_cons, List.length_nil, List.cons_append, List.nil_append, List.getElem?_cons_succ, List.getElem?_cons_zero, List.set_cons_succ, List.set_cons_zero, Option.join_some, Option.bind_some, Option.map_some, Option.some.injEq, exists_eq_left', exists_eq_left, exists_and_left, exists_eq', true_and, and_true, le_size, Nat.reduceAdd, Nat.reduceSub, Nat.reduceLeDiff, PyData.bool.injEq, ↓reduceIte, Bool.false_eq_true, if_false, if_true, dAt_l, dAt_t, atI_0, atI_1, atI_2, atI_3, dAdd_i, dSub_i, dGt_i, dGe_i, dLt_i, dLe_i, dInt_i, dAbs_i, dLen_l, dLen_t, dMin_i, dMax_i, dTuple_l, dIs_none, dIsNot_none, startE, List.replicate, List.nil_append, List.cons_append, List.append_nil, sht, dFdiv_i h1 h2, dMod_i h1]
    exact k
  by_cases h : (b / C + b % C) % 2 = 0
  · simp only [sSeq, sSet, sPar, sUnp, sDo, sRet, sRetO, sRetN, sIf, sNil, sPut, tE, tAndW, tOrW, tNotW, tYesW, eBin, eUn, eChain, eNm, eC, eNot, eAnd, eOr, eIf, eLst, eTup, eSl, ptEv, cEv, eApp_iff, eCall_iff, wApp_iff, wSeq, wNm, aEv, valsF, oEv, slF, setL, bindD, DL.bindL, putO_nil, putO_io, putO_val, putO_brw, eMut, isL, seqD_l, seqD_t, List.map_cons, List.map_nil, List.length_cons, List.length_nil, List.cons_append, List.nil_append, List.getElem?_cons_succ, List.getElem?_cons_zero, List.set_cons_succ, List.set_cons_zero, Option.join_some, Option.bind_some, Option.map_some, Option.some.injEq, exists_eq_left', exists_eq_left, exists_and_left, exists_eq', true_and, and_true, le_size, Nat.reduceAdd, Nat.reduceSub, Nat.reduceLeDiff, PyData.bool.injEq, ↓reduceIte, Bool.false_eq_true, if_false, if_true, dAt_l, dAt_t, atI_0, atI_1, atI_2, atI_3, dAdd_i, dSub_i, dGt_i, dGe_i, dLt_i, dLe_i, dInt_i, dAbs_i, dLen_l, dLen_t, dMin_i, dMax_i, dTuple_l, dIs_none, dIsNot_none, dMod_i (j := 2) (by decide), eqI, decide_eq_true h]
    unfold FN.endsD endsI at q
    rw [if_pos h] at q
    exact ⟨_, rfl, q⟩
  · simp only [sSeq, sSet, sPar, sUnp, sDo, sRet, sRetO, sRetN, sIf, sNil, sPut, tE, tAndW, tOrW, tNotW, tYesW, eBin, eUn, eChain, eNm, eC, eNot, eAnd, eOr, eIf, eLst, eTup, eSl, ptEv, cEv, eApp_iff, eCall_iff, wApp_iff, wSeq, wNm, aEv, valsF, oEv, slF, setL, bindD, DL.bindL, putO_nil, putO_io, putO_val, putO_brw, eMut, isL, seqD_l, seqD_t, List.map_cons, List.map_nil, List.length_cons, List.length_nil, List.cons_append, List.nil_append, List.getElem?_cons_succ, List.getElem?_cons_zero, List.set_cons_succ, List.set_cons_zero, Option.join_some, Option.bind_some, Option.map_some, Option.some.injEq, exists_eq_left', exists_eq_left, exists_and_left, exists_eq', true_and, and_true, le_size, Nat.reduceAdd, Nat.reduceSub, Nat.reduceLeDiff, PyData.bool.injEq, ↓reduceIte, Bool.false_eq_true, if_false, if_true, dAt_l, dAt_t, atI_0, atI_1, atI_2, atI_3, dAdd_i, dSub_i, dGt_i, dGe_i, dLt_i, dLe_i, dInt_i, dAbs_i, dLen_l, dLen_t, dMin_i, dMax_i, dTuple_l, dIs_none, dIsNot_none, dMod_i (j := 2) (by decide), eqI, decide_eq_false h]
    unfold FN.endsD endsI at q
    rw [if_neg h] at q
    exact ⟨_, rfl, q⟩
def sp_law_at : DSp := fun ds Q => ∃ R C r c : Int, ds = [sht R C, pr r c] ∧ 0 < C ∧ C < 1073741824 ∧ Q (.list ((barsI R C r c).map .int)) []
theorem mono_law_at : MonoD sp_law_at := fun ds Q Q' h ⟨R, C, r, c, e, h1, h2, q⟩ => ⟨R, C, r, c, e, h1, h2, h _ _ q⟩
def atE (R C r c : Int) (ps : List (Int × Int)) (x y : Option DL.D) : En := [some (sht R C), some (pr r c), some (.list (((ps.filter (inS R C)).map fun p => p.1 * C + p.2).map .int)), x, y]
theorem math_law_at : ∀ (ds : List DL.D) (Q : PD), ds.length = 2 → sp_law_at ds Q → W_law_at (DL.endsD [.val, .val] false Q) (startE 5 ds) := fun ds Q _ ⟨R, C, r, c, e, h1, h2, q⟩ => by
  subst e
  unfold W_law_at
  apply seq_of
  · intro K k
    simp only [sSeq, sSet, sPar, sUnp, sDo, sRet, sRetO, sRetN, sIf, sNil, sPut, tE, tAndW, tOrW, tNotW, tYesW, eBin, eUn, eChain, eNm, eC, eNot, eAnd, eOr, eIf, eLst, eTup, eSl, ptEv, cEv, eApp_iff, eCall_iff, wApp_iff, wSeq, wNm, aEv, valsF, oEv, slF, setL, bindD, DL.bindL, putO_nil, putO_io, putO_val, putO_brw, eMut, isL, seqD_l, seqD_t, List.map_cons, List.map_nil, List.length_cons, List.length_nil, List.cons_append, List.nil_append, List.getElem?_cons_succ, List.getElem?_cons_zero, List.set_cons_succ, List.set_cons_zero, Option.join_some, Option.bind_some, Option.map_some, Option.some.injEq, exists_eq_left', exists_eq_left, exists_and_left, exists_eq', true_and, and_true, le_size, Nat.reduceAdd, Nat.reduceSub, Nat.reduceLeDiff, PyData.bool.injEq, ↓reduceIte, Bool.false_eq_true, if_false, if_true, dAt_l, dAt_t, atI_0, atI_1, atI_2, atI_3, dAdd_i, dSub_i, dGt_i, dGe_i, dLt_i, dLe_i, dInt_i, dAbs_i, dLen_l, dLen_t, dMin_i, dMax_i, dTuple_l, dIs_none, dIsNot_none, startE, List.replicate, List.nil_append, List.cons_append, List.append_nil]
    exact k
  -- one field
  have one : ∀ (a b : Int) (ps : List (Int × Int)) (x y : Option DL.D) (E : WEnds), ps.length ≤ 4 → (E.nx (atE R C r c (ps ++ [(a, b)]) (some (.int a)) (some (.int b)))) →
      (sIf (tAndW (tE (eChain dLe dLt (.ex (eC (.int 0))) (.nm 3) (.ex (eBin dAt (.nm 0) (.ex (eC (.int 0))))))) (tE (eChain dLe dLt (.ex (eC (.int 0))) (.nm 4) (.ex (eBin dAt (.nm 0) (.ex (eC (.int 1)))))))) (sDo (eMut 2 fAppend [(eBin dAdd (.ex (eBin dMul (.nm 3) (.ex (eBin dAt (.nm 0) (.ex (eC (.int 1))))))) (.ex (eNm 4)))])) sNil) E (atE R C r c ps (some (.int a)) (some (.int b))) := fun a b ps x y E hl k => by
    unfold atE sht at *
    rw [List.filter_append] at k
    by_cases g : inS R C (a, b) = true
    · have g' : (0 ≤ a ∧ a < R) ∧ (0 ≤ b ∧ b < C) := by
        have := g
        unfold inS at this
        simpa using this
      rw [List.filter_cons_of_pos g, List.filter_nil, List.map_append, List.map_append] at k
      have l : (((ps.filter (inS R C)).map fun p => p.1 * C + p.2).map PyData.int).length < sizeLine := by
        rw [List.length_map, List.length_map]
        have := List.length_filter_le (inS R C) ps
        have : sizeLine = 16777216 := rfl
        omega
      simp only [sSeq, sSet, sPar, sUnp, sDo, sRet, sRetO, sRetN, sIf, sNil, sPut, tE, tAndW, tOrW, tNotW, tYesW, eBin, eUn, eChain, eNm, eC, eNot, eAnd, eOr, eIf, eLst, eTup, eSl, ptEv, cEv, eApp_iff, eCall_iff, wApp_iff, wSeq, wNm, aEv, valsF, oEv, slF, setL, bindD, DL.bindL, putO_nil, putO_io, putO_val, putO_brw, eMut, isL, seqD_l, seqD_t, List.map_cons, List.map_nil, List.length_cons, List.length_nil, List.cons_append, List.nil_append, List.getElem?_cons_succ, List.getElem?_cons_zero, List.set_cons_succ, List.set_cons_zero, Option.join_some, Option.bind_some, Option.map_some, Option.some.injEq, exists_eq_left', exists_eq_left, exists_and_left, exists_eq', true_and, and_true, le_size, Nat.reduceAdd, Nat.reduceSub, Nat.reduceLeDiff, PyData.bool.injEq, ↓reduceIte, Bool.false_eq_true, if_false, if_true, dAt_l, dAt_t, atI_0, atI_1, atI_2, atI_3, dAdd_i, dSub_i, dGt_i, dGe_i, dLt_i, dLe_i, dInt_i, dAbs_i, dLen_l, dLen_t, dMin_i, dMax_i, dTuple_l, dIs_none, dIsNot_none, g'.1.1, g'.1.2, g'.2.1, g'.2.2, decide_true, dMul_r (j := C) (by omega) (by omega), fAppend_l l]
      exact ⟨_, _, rfl, k⟩
    · have g1 : inS R C (a, b) = false := by simpa using g
      rw [List.filter_cons_of_neg (by rw [g1]; decide), List.filter_nil, List.append_nil] at k
      unfold inS at g1
      by_cases e1 : 0 ≤ a
      · by_cases e2 : a < R
        · by_cases e3 : 0 ≤ b
          · have e4 : ¬ b < C := fun z => by simp [e1, e2, e3, z] at g1
            simp only [sSeq, sSet, sPar, sUnp, sDo, sRet, sRetO, sRetN, sIf, sNil, sPut, tE, tAndW, tOrW, tNotW, tYesW, eBin, eUn, eChain, eNm, eC, eNot, eAnd, eOr, eIf, eLst, eTup, eSl, ptEv, cEv, eApp_iff, eCall_iff, wApp_iff, wSeq, wNm, aEv, valsF, oEv, slF, setL, bindD, DL.bindL, putO_nil, putO_io, putO_val, putO_brw, eMut, isL, seqD_l, seqD_t, List.map_cons, List.map_nil, List.length_cons, List.length_nil, List.cons_append, List.nil_append, List.getElem?_cons_succ, List.getElem?_cons_zero, List.set_cons_succ, List.set_cons_zero, Option.join_some, Option.bind_some, Option.map_some, Option.some.injEq, exists_eq_left', exists_eq_left, exists_and_left, exists_eq', true_and, and_true, le_size, Nat.reduceAdd, Nat.reduceSub, Nat.reduceLeDiff, PyData.bool.injEq, ↓reduceIte, Bool.false_eq_true, if_false, if_true, dAt_l, dAt_t, atI_0, atI_1, atI_2, atI_3, dAdd_i, dSub_i, dGt_i, dGe_i, dLt_i, dLe_i, dInt_i, dAbs_i, dLen_l, dLen_t, dMin_i, dMax_i, dTuple_l, dIs_none, dIsNot_none, e1, e2, e3, e4, decide_true, decide_false]
            exact k
          · simp only [sSeq, sSet, sPar, sUnp, sDo, sRet, sRetO, sRetN, sIf, sNil, sPut, tE, tAndW, tOrW, tNotW, tYesW, eBin, eUn, eChain, eNm, eC, eNot, eAnd, eOr, eIf, eLst, eTup, eSl, ptEv, cEv, eApp_iff, eCall_iff, wApp_iff, wSeq, wNm, aEv, valsF, oEv, slF, setL, bindD, DL.bindL, putO_nil, putO_io, putO_val, putO_brw, eMut, isL, seqD_l, seqD_t, List.map_cons, List.map_nil, List.length_cons, List.length_nil, List.cons_append, List.nil_append, List.getElem?_cons_succ, List.getElem?_cons_zero, List.set_cons_succ, List.set_cons_zero, Option.join_some, Option.bind_some, Option.map_some, Option.some.injEq, exists_eq_left', exists_eq_left, exists_and_left, exists_eq', true_and, and_true, le_size, Nat.reduceAdd, Nat.reduceSub, Nat.reduceLeDiff, PyData.bool.injEq, ↓reduceIte, Bool.false_eq_true, if_false, if_true, dAt_l, dAt_t, atI_0, atI_1, atI_2, atI_3, dAdd_i, dSub_i, dGt_i, dGe_i, dLt_i, dLe_i, dInt_i, dAbs_i, dLen_l, dLen_t, dMin_i, dMax_i, dTuple_l, dIs_none, dIsNot_none, e1, e2, e3, decide_true, decide_false]
            exact k
        · simp only [sSeq, sSet, sPar, sUnp, sDo, sRet, sRetO, sRetN, sIf, sNil, sPut, tE, tAndW, tOrW, tNotW, tYesW, eBin, eUn, eChain, eNm, eC, eNot, eAnd, eOr, eIf, eLst, eTup, eSl, ptEv, cEv, eApp_iff, eCall_iff, wApp_iff, wSeq, wNm, aEv, valsF, oEv, slF, setL, bindD, DL.bindL, putO_nil, putO_io, putO_val, putO_brw, eMut, isL, seqD_l, seqD_t, List.map_cons, List.map_nil, List.length_cons, List.length_nil, List.cons_append, List.nil_append, List.getElem?_cons_succ, List.getElem?_cons_zero, List.set_cons_succ, List.set_cons_zero, Option.join_some, Option.bind_some, Option.map_some, Option.some.injEq, exists_eq_left', exists_eq_left, exists_and_left, exists_eq', true_and, and_true, le_size, Nat.reduceAdd, Nat.reduceSub, Nat.reduceLeDiff, PyData.bool.injEq, ↓reduceIte, Bool.false_eq_true, if_false, if_true, dAt_l, dAt_t, atI_0, atI_1, atI_2, atI_3, dAdd_i, dSub_i, dGt_i, dGe_i, dLt_i, dLe_i, dInt_i, dAbs_i, dLen_l, dLen_t, dMin_i, dMax_i, dTuple_l, dIs_none, dIsNot_none, e1, e2, decide_true, decide_false]
          exact k
      · simp only [sSeq, sSet, sPar, sUnp, sDo, sRet, sRetO, sRetN, sIf, sNil, sPut, tE, tAndW, tOrW, tNotW, tYesW, eBin, eUn, eChain, eNm, eC, eNot, eAnd, eOr, eIf, eLst, eTup, eSl, ptEv, cEv, eApp_iff, eCall_iff, wApp_iff, wSeq, wNm, aEv, valsF, oEv, slF, setL, bindD, DL.bindL, putO_nil, putO_io, putO_val, putO_brw, eMut, isL, seqD_l, seqD_t, List.map_cons, List.map_nil, List.length_cons, List.length_nil, List.cons_append, List.nil_append, List.getElem?_cons_succ, List.getElem?_cons_zero, List.set_cons_succ, List.set_cons_zero, Option.join_some, Option.bind_some, Option.map_some, Option.some.injEq, exists_eq_left', exists_eq_left, exists_and_left, exists_eq', true_and, and_true, le_size, Nat.reduceAdd, Nat.reduceSub, Nat.reduceLeDiff, PyData.bool.injEq, ↓reduceIte, Bool.false_eq_true, if_false, if_true, dAt_l, dAt_t, atI_0, atI_1, atI_2, atI_3, dAdd_i, dSub_i, dGt_i, dGe_i, dLt_i, dLe_i, dInt_i, dAbs_i, dLen_l, dLen_t, dMin_i, dMax_i, dTuple_l, dIs_none, dIsNot_none, e1, decide_false]
        exact k
  generalize hB : (sIf (tAndW (tE (eChain dLe dLt (.ex (eC (.int 0))) (.nm 3) (.ex (eBin dAt (.nm 0) (.ex (eC (.int 0))))))) (tE (eChain dLe dLt (.ex (eC (.int 0))) (.nm 4) (.ex (eBin dAt (.nm 0) (.ex (eC (.int 1)))))))) (sDo (eMut 2 fAppend [(eBin dAdd (.ex (eBin dMul (.nm 3) (.ex (eBin dAt (.nm 0) (.ex (eC (.int 1))))))) (.ex (eNm 4)))])) sNil) = B at one ⊢
  have row : ∀ (a : Int) (ps : List (Int × Int)) (y : Option DL.D) (E : WEnds), ps.length ≤ 2 → (∀ y, E.nx (atE R C r c (ps ++ [(a, c - 1), (a, c)]) (some (.int a)) y)) →
      sFor (wSeq (eTup [(eBin dSub (.ex (eBin dAt (.nm 1) (.ex (eC (.int 1))))) (.ex (eC (.int 1)))), (eBin dAt (.nm 1) (.ex (eC (.int 1))))])) (.nm 4) B E (atE R C r c ps (some (.int a)) y) := fun a ps y E hl k => by
    unfold atE at *
    simp only [sSeq, sSet, sPar, sUnp, sDo, sRet, sRetO, sRetN, sIf, sNil, sPut, tE, tAndW, tOrW, tNotW, tYesW, eBin, eUn, eChain, eNm, eC, eNot, eAnd, eOr, eIf, eLst, eTup, eSl, ptEv, cEv, eApp_iff, eCall_iff, wApp_iff, wSeq, wNm, aEv, valsF, oEv, slF, setL, bindD, DL.bindL, putO_nil, putO_io, putO_val, putO_brw, eMut, isL, seqD_l, seqD_t, List.map_cons, List.map_nil, List.length_cons, List.length_nil, List.cons_append, List.nil_append, List.getElem?_cons_succ, List.getElem?_cons_zero, List.set_cons_succ, List.set_cons_zero, Option.join_some, Option.bind_some, Option.map_some, Option.some.injEq, exists_eq_left', exists_eq_left, exists_and_left, exists_eq', true_and, and_true, le_size, Nat.reduceAdd, Nat.reduceSub, Nat.reduceLeDiff, PyData.bool.injEq, ↓reduceIte, Bool.false_eq_true, if_false, if_true, dAt_l, dAt_t, atI_0, atI_1, atI_2, atI_3, dAdd_i, dSub_i, dGt_i, dGe_i, dLt_i, dLe_i, dInt_i, dAbs_i, dLen_l, dLen_t, dMin_i, dMax_i, dTuple_l, dIs_none, dIsNot_none, sFor, pr]
    refine ⟨trivial, _, rfl, one a (c - 1) ps none none _ (by omega) ⟨trivial, _, rfl, one a c (ps ++ [(a, c - 1)]) none none _ (by rw [List.length_append, List.length_singleton]; omega) ⟨trivial, ?_⟩⟩⟩
    rw [List.append_assoc]
    exact k _
  refine show sFor _ _ _ _ _ from ?_
  simp only [sSeq, sSet, sPar, sUnp, sDo, sRet, sRetO, sRetN, sIf, sNil, sPut, tE, tAndW, tOrW, tNotW, tYesW, eBin, eUn, eChain, eNm, eC, eNot, eAnd, eOr, eIf, eLst, eTup, eSl, ptEv, cEv, eApp_iff, eCall_iff, wApp_iff, wSeq, wNm, aEv, valsF, oEv, slF, setL, bindD, DL.bindL, putO_nil, putO_io, putO_val, putO_brw, eMut, isL, seqD_l, seqD_t, List.map_cons, List.map_nil, List.length_cons, List.length_nil, List.cons_append, List.nil_append, List.getElem?_cons_succ, List.getElem?_cons_zero, List.set_cons_succ, List.set_cons_zero, Option.join_some, Option.bind_some, Option.map_some, Option.some.injEq, exists_eq_left', exists_eq_left, exists_and_left, exists_eq', true_and, and_true, le_size, Nat.reduceAdd, Nat.reduceSub, Nat.reduceLeDiff, PyData.bool.injEq, ↓reduceIte, Bool.false_eq_true, if_false, if_true, dAt_l, dAt_t, atI_0, atI_1, atI_2, atI_3, dAdd_i, dSub_i, dGt_i, dGe_i, dLt_i, dLe_i, dInt_i, dAbs_i, dLen_l, dLen_t, dMin_i, dMax_i, dTuple_l, dIs_none, dIsNot_none, sFor, pr]
  refine ⟨trivial, _, rfl, row (r - 1) [] none _ (by simp) fun y => ⟨trivial, _, rfl, row r _ y _ (by simp) fun y => ⟨trivial, ?_⟩⟩⟩
  unfold barsI at q
  exact ⟨_, rfl, _, rfl, q⟩
end FN

namespace L02
open PySem PySem.Spec L2 DL

def top (i : Nat) : Stmt := PySem.Challenge.pw_meshmend_k02_knots_and_bars.main.body.getD i (.Pass ⟨0, 0, 0, 0⟩)
/-- what the text's names are -/
structure Tx (mg : Str → Option Value) : Prop where
  abs : mg "abs" = none
  int : mg "int" = none
  len : mg "len" = none
  list : mg "list" = none
  min : mg "min" = none
  range : mg "range" = none
  repr : mg "repr" = none
  tuple : mg "tuple" = none
abbrev s_knots : Stmt := top 1
abbrev ps_knots : List Str := ["sheet"]
abbrev N_knots : List Str := ["sheet", "found", "r", "c"]
theorem sc_knots : FnScope N_knots ps_knots (defScope s_knots) := ⟨rfl, rfl, rfl, by decide +kernel, rfl, by decide +kernel, by decide +kernel⟩
abbrev pk_knots : List Kd := [.val]
abbrev κ_knots : List Kd := [.val, .own, .val, .val]
abbrev fr_knots : Bool := false
abbrev s_ends_of : Stmt := top 2
abbrev ps_ends_of : List Str := ["sheet", "bar"]
abbrev N_ends_of : List Str := ["sheet", "bar", "r", "c"]
theorem sc_ends_of : FnScope N_ends_of ps_ends_of (defScope s_ends_of) := ⟨rfl, rfl, rfl, by decide +kernel, rfl, by decide +kernel, by decide +kernel⟩
abbrev pk_ends_of : List Kd := [.val, .val]
abbrev κ_ends_of : List Kd := [.val, .val, .val, .val]
abbrev fr_ends_of : Bool := false
abbrev s_bars_of : Stmt := top 3
abbrev ps_bars_of : List Str := ["sheet", "knot"]
abbrev N_bars_of : List Str := ["sheet", "knot", "r", "c", "fields", "row", "col"]
theorem sc_bars_of : FnScope N_bars_of ps_bars_of (defScope s_bars_of) := ⟨rfl, rfl, rfl, by decide +kernel, rfl, by decide +kernel, by decide +kernel⟩
abbrev pk_bars_of : List Kd := [.val, .val]
abbrev κ_bars_of : List Kd := [.val, .val, .val, .val, .val, .val, .val]
abbrev fr_bars_of : Bool := false
abbrev s_law_deck : Stmt := top 5
abbrev ps_law_deck : List Str := ["_law_script"]
abbrev N_law_deck : List Str := ["_law_script"]
theorem sc_law_deck : FnScope N_law_deck ps_law_deck (defScope s_law_deck) := ⟨rfl, rfl, rfl, by decide +kernel, rfl, by decide +kernel, by decide +kernel⟩
abbrev s_law_draw : Stmt := top 6
abbrev ps_law_draw : List Str := ["_law_deck_here", "_law_many"]
abbrev N_law_draw : List Str := ["_law_deck_here", "_law_many", "_law_found", "_law_cell", "_law_mixed"]
theorem sc_law_draw : FnScope N_law_draw ps_law_draw (defScope s_law_draw) := ⟨rfl, rfl, rfl, by decide +kernel, rfl, by decide +kernel, by decide +kernel⟩
abbrev pk_law_draw : List Kd := [.io, .val]
abbrev κ_law_draw : List Kd := [.io, .val, .val, .val, .val]
abbrev fr_law_draw : Bool := false
abbrev s_law_one : Stmt := top 7
abbrev ps_law_one : List Str := ["_law_deck_here", "_law_items"]
abbrev N_law_one : List Str := ["_law_deck_here", "_law_items"]
theorem sc_law_one : FnScope N_law_one ps_law_one (defScope s_law_one) := ⟨rfl, rfl, rfl, by decide +kernel, rfl, by decide +kernel, by decide +kernel⟩
abbrev pk_law_one : List Kd := [.io, .val]
abbrev κ_law_one : List Kd := [.io, .val]
abbrev fr_law_one : Bool := false
abbrev s_law_sheet : Stmt := top 8
abbrev ps_law_sheet : List Str := ["_law_deck_here", "_law_most"]
abbrev N_law_sheet : List Str := ["_law_deck_here", "_law_most", "_law_top"]
theorem sc_law_sheet : FnScope N_law_sheet ps_law_sheet (defScope s_law_sheet) := ⟨rfl, rfl, rfl, by decide +kernel, rfl, by decide +kernel, by decide +kernel⟩
abbrev pk_law_sheet : List Kd := [.io, .val]
abbrev κ_law_sheet : List Kd := [.io, .val, .val]
abbrev fr_law_sheet : Bool := false
abbrev s_law_ends : Stmt := top 9
abbrev ps_law_ends : List Str := ["_law_sheet_here", "_law_bar"]
abbrev N_law_ends : List Str := ["_law_sheet_here", "_law_bar", "_law_r", "_law_c"]
theorem sc_law_ends : FnScope N_law_ends ps_law_ends (defScope s_law_ends) := ⟨rfl, rfl, rfl, by decide +kernel, rfl, by decide +kernel, by decide +kernel⟩
abbrev pk_law_ends : List Kd := [.val, .val]
abbrev κ_law_ends : List Kd := [.val, .val, .val, .val]
abbrev fr_law_ends : Bool := false
abbrev s_law_knots : Stmt := top 10
abbrev ps_law_knots : List Str := ["_law_sheet_here"]
abbrev N_law_knots : List Str := ["_law_sheet_here", "_law_found", "_law_r", "_law_c"]
theorem sc_law_knots : FnScope N_law_knots ps_law_knots (defScope s_law_knots) := ⟨rfl, rfl, rfl, by decide +kernel, rfl, by decide +kernel, by decide +kernel⟩
abbrev pk_law_knots : List Kd := [.val]
abbrev κ_law_knots : List Kd := [.val, .own, .val, .val]
abbrev fr_law_knots : Bool := false
abbrev s_law_at : Stmt := top 11
abbrev ps_law_at : List Str := ["_law_sheet_here", "_law_knot"]
abbrev N_law_at : List Str := ["_law_sheet_here", "_law_knot", "_law_found", "_law_r", "_law_c"]
theorem sc_law_at : FnScope N_law_at ps_law_at (defScope s_law_at) := ⟨rfl, rfl, rfl, by decide +kernel, rfl, by decide +kernel, by decide +kernel⟩
abbrev pk_law_at : List Kd := [.val, .val]
abbrev κ_law_at : List Kd := [.val, .val, .own, .val, .val]
abbrev fr_law_at : Bool := false
abbrev s_law : Stmt := top 12
abbrev ps_law : List Str := ["_law_script"]
abbrev N_law : List Str := ["_law_script", "_law_deck_here", "_law_turn", "_law_sheet_here", "_law_told", "_law_due", "_law_bars", "_law_bar", "_law_knot"]
theorem sc_law : FnScope N_law ps_law (defScope s_law) := ⟨rfl, rfl, rfl, by decide +kernel, rfl, by decide +kernel, by decide +kernel⟩
abbrev pk_law : List Kd := [.val]
abbrev κ_law : List Kd := [.val, .own, .val, .val, .val, .val, .val, .val, .val]
abbrev fr_law : Bool := false
section
variable {P : Program} {w : World} {K : PySem.W.Frag} {mg : Str → Option Value} {base : Heap}
abbrev W_knots : WS := FN.W_knots
theorem body_knots (T : Tx mg) {f : Addr} {cdv : Value} {A : Around} {outer : List Env} {s : Shared} {H : Hp} {E : XK} (hr : Room 0 (A.deeper (PyProof.Rows.envOfC "knots" (defScope s_knots) s.heap.objs.size f cdv))) (hgd : (A.deeper (PyProof.Rows.envOfC "knots" (defScope s_knots) s.heap.objs.size f cdv)).guards = some []) :
    DSs (cxOf CX0 P w K mg base N_knots "knots" (defScope s_knots) f cdv A outer s H E).nox κ_knots fr_knots (defBody s_knots) (W_knots) :=
  (dss_cons (ds_setF (i := 1) sc_knots.nd (df_lst dc_nil))
  (dss_cons (ds_for PassesOwn.never rfl (di_rng1 (by rfl) T.range (da_cons ((de_opC op_addA add_ok (de_ix ix_seq at_ok (do_nm 0) (de_int).op) de_int)).op da_nil)) (dg_nm 2 sc_knots.nd) (dss_one (ds_expr (de_mut (i := 1) PySem.F.slot_list_extend PySem.F.type_list_extend mt_extend extend_ok (dc_cons ((df_lc (own := [("c", 3)]) (sl := []) rfl sc_knots.nd (di_rng1 (by rfl) T.range (da_cons ((de_opC op_addA add_ok (de_ix ix_seq at_ok (do_nm 0) (de_int).op) de_int)).op da_nil)) (blkOk_by (by first | exact (show blkC N_knots (defScope s_knots) _ _ = true from by decide +kernel) | rfl)) (fun _ _ _ _ _ => (dg_nm 3 sc_knots.nd)) (fun _ _ _ _ _ => (dts_one (dt_cmp (op_eq.or (op_eqD hr.units)) eq_ok ((de_op op_mod mod_ok ((de_opC op_addA add_ok (de_nm 2) (de_nm 3))).op (de_int).op)).op (de_int).op (nomark _)))) (fun _ _ _ _ _ => (de_tup (dc_cons (de_nm 2) (dc_cons (de_nm 3) dc_nil)))))).de dc_nil)))))
  (dss_one (ds_ret (de_callTy call_tuple_of tuple_ok (by rfl) T.tuple (by decide +kernel) (da_cons (do_nm 1) da_nil))))))
theorem cal_knots (T : Tx mg) {f : Addr} {fd : FuncData} (F : Fun K "knots" "knots" s_knots f fd) (g : mg "knots" = some (.ref f)) {sp : DSp} (math : ∀ (ds : List DL.D) (Q : DL.D → List DL.D → Prop), ds.length = ps_knots.length → sp ds Q → W_knots (endsD pk_knots fr_knots Q) (startE N_knots.length ds)) (m : MonoD sp) : Cal P w K mg base 1 "knots" ps_knots pk_knots fr_knots sp :=
  ⟨⟨f, fd, fn_okD F sc_knots (fun cdv A outer s H E hr hgd => body_knots T hr hgd) math, g, F.kp, F.binds fun _ _ _ _ _ _ us hl => match us, hl with | [_], _ => rfl⟩, m⟩
abbrev W_ends_of : WS := FN.W_ends_of
theorem body_ends_of (T : Tx mg) {f : Addr} {cdv : Value} {A : Around} {outer : List Env} {s : Shared} {H : Hp} {E : XK} (hr : Room 0 (A.deeper (PyProof.Rows.envOfC "ends_of" (defScope s_ends_of) s.heap.objs.size f cdv))) (hgd : (A.deeper (PyProof.Rows.envOfC "ends_of" (defScope s_ends_of) s.heap.objs.size f cdv)).guards = some []) :
    DSs (cxOf CX0 P w K mg base N_ends_of "ends_of" (defScope s_ends_of) f cdv A outer s H E).nox κ_ends_of fr_ends_of (defBody s_ends_of) (W_ends_of) :=
  (dss_cons (ds_par2 rfl sc_ends_of.nd (dm_val (de_op op_fdiv fdiv_ok (do_nm 1) ((de_ix ix_seq at_ok (do_nm 0) (de_int).op)).op) (dm_val (de_op op_mod mod_ok (do_nm 1) ((de_ix ix_seq at_ok (do_nm 0) (de_int).op)).op) dm_nil)))
  (dss_cons (ds_if (dt_cmp (op_eq.or (op_eqD hr.units)) eq_ok ((de_op op_mod mod_ok ((de_opC op_addA add_ok (de_nm 2) (de_nm 3))).op (de_int).op)).op (de_int).op (nomark _)) (dss_one (ds_ret (de_tup (dc_cons (de_tup (dc_cons (de_nm 2) (dc_cons (de_nm 3) dc_nil))) (dc_cons (de_tup (dc_cons (de_opC op_addA add_ok (de_nm 2) de_int) (dc_cons (de_opC op_addA add_ok (de_nm 3) de_int) dc_nil))) dc_nil))))) dss_nil)
  (dss_one (ds_ret (de_tup (dc_cons (de_tup (dc_cons (de_nm 2) (dc_cons (de_opC op_addA add_ok (de_nm 3) de_int) dc_nil))) (dc_cons (de_tup (dc_cons (de_opC op_addA add_ok (de_nm 2) de_int) (dc_cons (de_nm 3) dc_nil))) dc_nil)))))))
theorem cal_ends_of (T : Tx mg) {f : Addr} {fd : FuncData} (F : Fun K "ends_of" "ends_of" s_ends_of f fd) (g : mg "ends_of" = some (.ref f)) {sp : DSp} (math : ∀ (ds : List DL.D) (Q : DL.D → List DL.D → Prop), ds.length = ps_ends_of.length → sp ds Q → W_ends_of (endsD pk_ends_of fr_ends_of Q) (startE N_ends_of.length ds)) (m : MonoD sp) : Cal P w K mg base 1 "ends_of" ps_ends_of pk_ends_of fr_ends_of sp :=
  ⟨⟨f, fd, fn_okD F sc_ends_of (fun cdv A outer s H E hr hgd => body_ends_of T hr hgd) math, g, F.kp, F.binds fun _ _ _ _ _ _ us hl => match us, hl with | [_, _], _ => rfl⟩, m⟩
abbrev W_bars_of : WS := FN.W_bars_of
theorem body_bars_of (T : Tx mg) {f : Addr} {cdv : Value} {A : Around} {outer : List Env} {s : Shared} {H : Hp} {E : XK} (hr : Room 0 (A.deeper (PyProof.Rows.envOfC "bars_of" (defScope s_bars_of) s.heap.objs.size f cdv))) (hgd : (A.deeper (PyProof.Rows.envOfC "bars_of" (defScope s_bars_of) s.heap.objs.size f cdv)).guards = some []) :
    DSs (cxOf CX0 P w K mg base N_bars_of "bars_of" (defScope s_bars_of) f cdv A outer s H E).nox κ_bars_of fr_bars_of (defBody s_bars_of) (W_bars_of) :=
  (dss_cons (ds_unp (de_nm 1) (dg_tup rfl (dgs_cons (dg_nm 2 sc_bars_of.nd) (dgs_cons (dg_nm 3 sc_bars_of.nd) dgs_nil))))
  (dss_cons (ds_set (i := 4) sc_bars_of.nd ((df_lst (dc_cons (de_tup (dc_cons (de_op op_sub sub_ok (do_nm 2) (de_int).op) (dc_cons (de_op op_sub sub_ok (do_nm 3) (de_int).op) dc_nil))) (dc_cons (de_tup (dc_cons (de_op op_sub sub_ok (do_nm 2) (de_int).op) (dc_cons (de_nm 3) dc_nil))) (dc_cons (de_tup (dc_cons (de_nm 2) (dc_cons (de_op op_sub sub_ok (do_nm 3) (de_int).op) dc_nil))) (dc_cons (de_tup (dc_cons (de_nm 2) (dc_cons (de_nm 3) dc_nil))) dc_nil)))))).de)
  (dss_one (ds_ret (de_callTy call_tuple_of tuple_ok (by rfl) T.tuple (by decide +kernel) (da_cons (((df_lc (own := [("row", 5), ("col", 6)]) (sl := []) rfl sc_bars_of.nd (di_seq (de_nm 4)) (blkOk_by (by first | exact (show blkC N_bars_of (defScope s_bars_of) _ _ = true from by decide +kernel) | rfl)) (fun _ _ _ _ _ => (dg_tup rfl (dgs_cons (dg_nm 5 sc_bars_of.nd) (dgs_cons (dg_nm 6 sc_bars_of.nd) dgs_nil)))) (fun _ _ _ _ _ => (dts_one ((dw_and (dt_chain op_le le_okB op_lt lt_okB (de_int).op (do_nm 5) ((de_ix ix_seq at_ok (do_nm 0) (de_int).op)).op (by rfl)) (dw_and1 (dt_chain op_le le_okB op_lt lt_okB (de_int).op (do_nm 6) ((de_ix ix_seq at_ok (do_nm 0) (de_int).op)).op (by rfl))))).dt)) (fun _ _ _ _ _ => (de_opC op_addA add_ok (de_op op_mul mul_ok (do_nm 5) ((de_ix ix_seq at_ok (do_nm 0) (de_int).op)).op) (de_nm 6))))).de).op da_nil))))))
theorem cal_bars_of (T : Tx mg) {f : Addr} {fd : FuncData} (F : Fun K "bars_of" "bars_of" s_bars_of f fd) (g : mg "bars_of" = some (.ref f)) {sp : DSp} (math : ∀ (ds : List DL.D) (Q : DL.D → List DL.D → Prop), ds.length = ps_bars_of.length → sp ds Q → W_bars_of (endsD pk_bars_of fr_bars_of Q) (startE N_bars_of.length ds)) (m : MonoD sp) : Cal P w K mg base 1 "bars_of" ps_bars_of pk_bars_of fr_bars_of sp :=
  ⟨⟨f, fd, fn_okD F sc_bars_of (fun cdv A outer s H E hr hgd => body_bars_of T hr hgd) math, g, F.kp, F.binds fun _ _ _ _ _ _ us hl => match us, hl with | [_, _], _ => rfl⟩, m⟩
abbrev W_law_draw : WS := DL.W_law_draw
theorem body_law_draw (T : Tx mg) {f : Addr} {cdv : Value} {A : Around} {outer : List Env} {s : Shared} {H : Hp} {E : XK} (hr : Room 0 (A.deeper (PyProof.Rows.envOfC "_law_draw" (defScope s_law_draw) s.heap.objs.size f cdv))) (hgd : (A.deeper (PyProof.Rows.envOfC "_law_draw" (defScope s_law_draw) s.heap.objs.size f cdv)).guards = some []) :
    DSs (cxOf CX0 P w K mg base N_law_draw "_law_draw" (defScope s_law_draw) f cdv A outer s H E).nox κ_law_draw fr_law_draw (defBody s_law_draw) (W_law_draw) :=
  (dss_cons (ds_put (i := 0) set_list setL_ok (de_opC op_addA add_ok (de_ix ix_seq at_ok (do_nm 0) (de_int).op) de_int) de_int)
  (dss_cons (ds_if (dt_cmp op_gt gt_ok ((de_ix ix_seq at_ok (do_nm 0) (de_int).op)).op (de_int).op (nomark _)) (dss_cons (ds_set (i := 2) sc_law_draw.nd (de_op op_mod mod_ok ((de_callTy call_int1 int_ok (by rfl) T.int (by decide +kernel) (da_cons ((de_ix ix_seq at_ok (do_nm 0) (de_int).op)).op da_nil))).op (do_nm 1)))
  (dss_cons (ds_put (i := 0) set_list setL_ok (de_op op_fdiv fdiv_ok ((de_ix ix_seq at_ok (do_nm 0) (de_int).op)).op (do_nm 1)) de_int)
  (dss_one (ds_ret (de_nm 2))))) dss_nil)
  (dss_cons (ds_set (i := 3) sc_law_draw.nd de_int)
  (dss_cons (ds_if (dt_cmp (op_ne.or (op_neD hr.units)) ne_ok ((de_ix ix_seq at_ok (do_nm 0) (de_int).op)).op (((df_lst dc_nil)).de).op (nomark _)) (dss_one (ds_set (i := 3) sc_law_draw.nd (de_ix ix_seq at_ok ((de_ix ix_seq at_ok (do_nm 0) (de_int).op)).op ((de_op op_mod mod_ok ((de_callTy call_int1 int_ok (by rfl) T.int (by decide +kernel) (da_cons ((de_ix ix_seq at_ok (do_nm 0) (de_int).op)).op da_nil))).op ((de_callB call_len len_ok (by rfl) T.len (by decide +kernel) (da_cons ((de_ix ix_seq at_ok (do_nm 0) (de_int).op)).op da_nil))).op)).op))) dss_nil)
  (dss_cons (ds_put (i := 0) set_list setL_ok (de_opC op_addA add_ok (de_ix ix_seq at_ok (do_nm 0) (de_int).op) de_int) de_int)
  (dss_cons (ds_if ((dw_and (dt_cmp op_ge ge_ok ((de_callB call_abs abs_ok (by rfl) T.abs (by decide +kernel) (da_cons (do_nm 3) da_nil))).op ((de_op op_pow pow_ok (de_int).op (de_int).op)).op (nomark _)) (dw_and1 (dt_cmp op_le le_ok ((de_ix ix_seq at_ok (do_nm 0) (de_int).op)).op ((de_callB call_len len_ok (by rfl) T.len (by decide +kernel) (da_cons ((de_ix ix_seq at_ok (do_nm 0) (de_int).op)).op da_nil))).op (nomark _))))).dt (dss_cons (ds_put (i := 0) set_list setL_ok (de_op op_fdiv fdiv_ok ((de_callB call_abs abs_ok (by rfl) T.abs (by decide +kernel) (da_cons (do_nm 3) da_nil))).op (do_nm 1)) de_int)
  (dss_one (ds_ret (de_op op_mod mod_ok ((de_callTy call_int1 int_ok (by rfl) T.int (by decide +kernel) (da_cons ((de_callB call_abs abs_ok (by rfl) T.abs (by decide +kernel) (da_cons (do_nm 3) da_nil))).op da_nil))).op (do_nm 1))))) dss_nil)
  (dss_cons (ds_set (i := 4) sc_law_draw.nd (de_op op_mod mod_ok ((de_op op_pow pow_ok ((de_callTy call_int1 int_ok (by rfl) T.int (by decide +kernel) (da_cons ((de_opC op_addA add_ok (de_op op_mod mod_ok ((de_callTy call_int1 int_ok (by rfl) T.int (by decide +kernel) (da_cons (do_nm 3) da_nil))).op (de_int).op) (de_op op_mul mul_ok (de_int).op ((de_ix ix_seq at_ok (do_nm 0) (de_int).op)).op))).op da_nil))).op (de_int).op)).op (de_int).op))
  (dss_cons (ds_set (i := 4) sc_law_draw.nd (de_op op_mod mod_ok ((de_op op_pow pow_ok ((de_callTy call_int1 int_ok (by rfl) T.int (by decide +kernel) (da_cons ((de_opC op_addA add_ok (de_op op_mul mul_ok (do_nm 4) ((de_opC op_addA add_ok (de_op op_mul mul_ok (de_int).op ((de_ix ix_seq at_ok (do_nm 0) (de_int).op)).op) de_int)).op) de_int)).op da_nil))).op (de_int).op)).op (de_int).op))
  (dss_one (ds_ret (de_op op_mod mod_ok ((de_op op_fdiv fdiv_ok (do_nm 4) (de_int).op)).op (do_nm 1))))))))))))
theorem cal_law_draw (T : Tx mg) {f : Addr} {fd : FuncData} (F : Fun K "_law_draw" "_law_draw" s_law_draw f fd) (g : mg "_law_draw" = some (.ref f)) {sp : DSp} (math : ∀ (ds : List DL.D) (Q : DL.D → List DL.D → Prop), ds.length = ps_law_draw.length → sp ds Q → W_law_draw (endsD pk_law_draw fr_law_draw Q) (startE N_law_draw.length ds)) (m : MonoD sp) : Cal P w K mg base 1 "_law_draw" ps_law_draw pk_law_draw fr_law_draw sp :=
  ⟨⟨f, fd, fn_okD F sc_law_draw (fun cdv A outer s H E hr hgd => body_law_draw T hr hgd) math, g, F.kp, F.binds fun _ _ _ _ _ _ us hl => match us, hl with | [_, _], _ => rfl⟩, m⟩
abbrev W_law_ends : WS := FN.W_law_ends
theorem body_law_ends (T : Tx mg) {f : Addr} {cdv : Value} {A : Around} {outer : List Env} {s : Shared} {H : Hp} {E : XK} (hr : Room 0 (A.deeper (PyProof.Rows.envOfC "_law_ends" (defScope s_law_ends) s.heap.objs.size f cdv))) (hgd : (A.deeper (PyProof.Rows.envOfC "_law_ends" (defScope s_law_ends) s.heap.objs.size f cdv)).guards = some []) :
    DSs (cxOf CX0 P w K mg base N_law_ends "_law_ends" (defScope s_law_ends) f cdv A outer s H E).nox κ_law_ends fr_law_ends (defBody s_law_ends) (W_law_ends) :=
  (dss_cons (ds_par2 rfl sc_law_ends.nd (dm_val (de_op op_fdiv fdiv_ok (do_nm 1) ((de_ix ix_seq at_ok (do_nm 0) (de_int).op)).op) (dm_val (de_op op_mod mod_ok ((de_callTy call_int1 int_ok (by rfl) T.int (by decide +kernel) (da_cons (do_nm 1) da_nil))).op ((de_ix ix_seq at_ok (do_nm 0) (de_int).op)).op) dm_nil)))
  (dss_cons (ds_if (dt_cmp (op_eq.or (op_eqD hr.units)) eq_ok ((de_op op_mod mod_ok ((de_callTy call_int1 int_ok (by rfl) T.int (by decide +kernel) (da_cons ((de_opC op_addA add_ok (de_nm 2) (de_nm 3))).op da_nil))).op (de_int).op)).op (de_int).op (nomark _)) (dss_one (ds_ret (de_tup (dc_cons (de_tup (dc_cons (de_nm 2) (dc_cons (de_nm 3) dc_nil))) (dc_cons (de_tup (dc_cons (de_opC op_addA add_ok (de_nm 2) de_int) (dc_cons (de_opC op_addA add_ok (de_nm 3) de_int) dc_nil))) dc_nil))))) dss_nil)
  (dss_one (ds_ret (de_tup (dc_cons (de_tup (dc_cons (de_nm 2) (dc_cons (de_opC op_addA add_ok (de_nm 3) de_int) dc_nil))) (dc_cons (de_tup (dc_cons (de_opC op_addA add_ok (de_nm 2) de_int) (dc_cons (de_nm 3) dc_nil))) dc_nil)))))))
theorem cal_law_ends (T : Tx mg) {f : Addr} {fd : FuncData} (F : Fun K "_law_ends" "_law_ends" s_law_ends f fd) (g : mg "_law_ends" = some (.ref f)) {sp : DSp} (math : ∀ (ds : List DL.D) (Q : DL.D → List DL.D → Prop), ds.length = ps_law_ends.length → sp ds Q → W_law_ends (endsD pk_law_ends fr_law_ends Q) (startE N_law_ends.length ds)) (m : MonoD sp) : Cal P w K mg base 1 "_law_ends" ps_law_ends pk_law_ends fr_law_ends sp :=
  ⟨⟨f, fd, fn_okD F sc_law_ends (fun cdv A outer s H E hr hgd => body_law_ends T hr hgd) math, g, F.kp, F.binds fun _ _ _ _ _ _ us hl => match us, hl with | [_, _], _ => rfl⟩, m⟩
abbrev W_law_knots : WS := FN.W_law_knots
theorem body_law_knots (T : Tx mg) {f : Addr} {cdv : Value} {A : Around} {outer : List Env} {s : Shared} {H : Hp} {E : XK} (hr : Room 0 (A.deeper (PyProof.Rows.envOfC "_law_knots" (defScope s_law_knots) s.heap.objs.size f cdv))) (hgd : (A.deeper (PyProof.Rows.envOfC "_law_knots" (defScope s_law_knots) s.heap.objs.size f cdv)).guards = some []) :
    DSs (cxOf CX0 P w K mg base N_law_knots "_law_knots" (defScope s_law_knots) f cdv A outer s H E).nox κ_law_knots fr_law_knots (defBody s_law_knots) (W_law_knots) :=
  (dss_cons (ds_setF (i := 1) sc_law_knots.nd (df_lst dc_nil))
  (dss_cons (ds_for PassesOwn.never rfl (di_rng1 (by rfl) T.range (da_cons ((de_opC op_addA add_ok (de_ix ix_seq at_ok (do_nm 0) (de_int).op) de_int)).op da_nil)) (dg_nm 2 sc_law_knots.nd) (dss_one (ds_expr (de_mut (i := 1) PySem.F.slot_list_extend PySem.F.type_list_extend mt_extend extend_ok (dc_cons ((df_lc (own := [("_law_c", 3)]) (sl := []) rfl sc_law_knots.nd (di_rng1 (by rfl) T.range (da_cons ((de_opC op_addA add_ok (de_ix ix_seq at_ok (do_nm 0) (de_int).op) de_int)).op da_nil)) (blkOk_by (by first | exact (show blkC N_law_knots (defScope s_law_knots) _ _ = true from by decide +kernel) | rfl)) (fun _ _ _ _ _ => (dg_nm 3 sc_law_knots.nd)) (fun _ _ _ _ _ => (dts_one (dt_cmp (op_eq.or (op_eqD hr.units)) eq_ok ((de_op op_mod mod_ok ((de_callTy call_int1 int_ok (by rfl) T.int (by decide +kernel) (da_cons ((de_opC op_addA add_ok (de_nm 2) (de_nm 3))).op da_nil))).op (de_int).op)).op (de_int).op (nomark _)))) (fun _ _ _ _ _ => (de_tup (dc_cons (de_nm 2) (dc_cons (de_nm 3) dc_nil)))))).de dc_nil)))))
  (dss_one (ds_retO (i := 1)))))
theorem cal_law_knots (T : Tx mg) {f : Addr} {fd : FuncData} (F : Fun K "_law_knots" "_law_knots" s_law_knots f fd) (g : mg "_law_knots" = some (.ref f)) {sp : DSp} (math : ∀ (ds : List DL.D) (Q : DL.D → List DL.D → Prop), ds.length = ps_law_knots.length → sp ds Q → W_law_knots (endsD pk_law_knots fr_law_knots Q) (startE N_law_knots.length ds)) (m : MonoD sp) : Cal P w K mg base 1 "_law_knots" ps_law_knots pk_law_knots fr_law_knots sp :=
  ⟨⟨f, fd, fn_okD F sc_law_knots (fun cdv A outer s H E hr hgd => body_law_knots T hr hgd) math, g, F.kp, F.binds fun _ _ _ _ _ _ us hl => match us, hl with | [_], _ => rfl⟩, m⟩
abbrev W_law_at : WS := FN.W_law_at
theorem body_law_at (T : Tx mg) {f : Addr} {cdv : Value} {A : Around} {outer : List Env} {s : Shared} {H : Hp} {E : XK} (hr : Room 0 (A.deeper (PyProof.Rows.envOfC "_law_at" (defScope s_law_at) s.heap.objs.size f cdv))) (hgd : (A.deeper (PyProof.Rows.envOfC "_law_at" (defScope s_law_at) s.heap.objs.size f cdv)).guards = some []) :
    DSs (cxOf CX0 P w K mg base N_law_at "_law_at" (defScope s_law_at) f cdv A outer s H E).nox κ_law_at fr_law_at (defBody s_law_at) (W_law_at) :=
  (dss_cons (ds_setF (i := 2) sc_law_at.nd (df_lst dc_nil))
  (dss_cons (ds_for PassesOwn.never rfl (di_seq (de_tup (dc_cons (de_op op_sub sub_ok ((de_ix ix_seq at_ok (do_nm 1) (de_int).op)).op (de_int).op) (dc_cons (de_ix ix_seq at_ok (do_nm 1) (de_int).op) dc_nil)))) (dg_nm 3 sc_law_at.nd) (dss_one (ds_for PassesOwn.never rfl (di_seq (de_tup (dc_cons (de_op op_sub sub_ok ((de_ix ix_seq at_ok (do_nm 1) (de_int).op)).op (de_int).op) (dc_cons (de_ix ix_seq at_ok (do_nm 1) (de_int).op) dc_nil)))) (dg_nm 4 sc_law_at.nd) (dss_one (ds_if ((dw_and (dt_chain op_le le_okB op_lt lt_okB (de_int).op (do_nm 3) ((de_ix ix_seq at_ok (do_nm 0) (de_int).op)).op (by rfl)) (dw_and1 (dt_chain op_le le_okB op_lt lt_okB (de_int).op (do_nm 4) ((de_ix ix_seq at_ok (do_nm 0) (de_int).op)).op (by rfl))))).dt (dss_one (ds_expr (de_mut (i := 2) PySem.F.slot_list_append PySem.F.type_list_append mt_append append_ok (dc_cons (de_opC op_addA add_ok (de_op op_mul mul_ok (do_nm 3) ((de_ix ix_seq at_ok (do_nm 0) (de_int).op)).op) (de_nm 4)) dc_nil)))) dss_nil)))))
  (dss_one (ds_retO (i := 2)))))
theorem cal_law_at (T : Tx mg) {f : Addr} {fd : FuncData} (F : Fun K "_law_at" "_law_at" s_law_at f fd) (g : mg "_law_at" = some (.ref f)) {sp : DSp} (math : ∀ (ds : List DL.D) (Q : DL.D → List DL.D → Prop), ds.length = ps_law_at.length → sp ds Q → W_law_at (endsD pk_law_at fr_law_at Q) (startE N_law_at.length ds)) (m : MonoD sp) : Cal P w K mg base 1 "_law_at" ps_law_at pk_law_at fr_law_at sp :=
  ⟨⟨f, fd, fn_okD F sc_law_at (fun cdv A outer s H E hr hgd => body_law_at T hr hgd) math, g, F.kp, F.binds fun _ _ _ _ _ _ us hl => match us, hl with | [_, _], _ => rfl⟩, m⟩
abbrev W_law_one (sp : DSp) : WS := DL.W_law_one sp
theorem body_law_one (T : Tx mg) {sp_law_draw : DSp} (C_law_draw : Cal P w K mg base 1 "_law_draw" ps_law_draw pk_law_draw fr_law_draw sp_law_draw) {f : Addr} {cdv : Value} {A : Around} {outer : List Env} {s : Shared} {H : Hp} {E : XK} (hr : Room 1 (A.deeper (PyProof.Rows.envOfC "_law_one" (defScope s_law_one) s.heap.objs.size f cdv))) (hgd : (A.deeper (PyProof.Rows.envOfC "_law_one" (defScope s_law_one) s.heap.objs.size f cdv)).guards = some []) :
    DSs (cxOf CX0 P w K mg base N_law_one "_law_one" (defScope s_law_one) f cdv A outer s H E).nox κ_law_one fr_law_one (defBody s_law_one) (W_law_one sp_law_draw) :=
  (dss_one (ds_ret (de_ix ix_seq at_ok (do_nm 1) ((de_call C_law_draw (hr.mono (by decide)) hgd (da_cons (do_nm 0) (da_cons ((de_callB call_len len_ok (by rfl) T.len (by decide +kernel) (da_cons (do_nm 1) da_nil))).op da_nil)))).op)))
theorem cal_law_one (T : Tx mg) {sp_law_draw : DSp} (C_law_draw : Cal P w K mg base 1 "_law_draw" ps_law_draw pk_law_draw fr_law_draw sp_law_draw) {f : Addr} {fd : FuncData} (F : Fun K "_law_one" "_law_one" s_law_one f fd) (g : mg "_law_one" = some (.ref f)) {sp : DSp} (math : ∀ (ds : List DL.D) (Q : DL.D → List DL.D → Prop), ds.length = ps_law_one.length → sp ds Q → W_law_one sp_law_draw (endsD pk_law_one fr_law_one Q) (startE N_law_one.length ds)) (m : MonoD sp) : Cal P w K mg base 2 "_law_one" ps_law_one pk_law_one fr_law_one sp :=
  ⟨⟨f, fd, fn_okD F sc_law_one (fun cdv A outer s H E hr hgd => body_law_one T C_law_draw hr hgd) math, g, F.kp, F.binds fun _ _ _ _ _ _ us hl => match us, hl with | [_, _], _ => rfl⟩, m⟩
abbrev W_law_sheet (sp_law_one : DSp) (sp_law_draw : DSp) : WS := FN.W_law_sheet sp_law_one sp_law_draw
theorem body_law_sheet (T : Tx mg) {sp_law_one : DSp} {sp_law_draw : DSp} (C_law_one : Cal P w K mg base 2 "_law_one" ps_law_one pk_law_one fr_law_one sp_law_one) (C_law_draw : Cal P w K mg base 1 "_law_draw" ps_law_draw pk_law_draw fr_law_draw sp_law_draw) {f : Addr} {cdv : Value} {A : Around} {outer : List Env} {s : Shared} {H : Hp} {E : XK} (hr : Room 2 (A.deeper (PyProof.Rows.envOfC "_law_sheet" (defScope s_law_sheet) s.heap.objs.size f cdv))) (hgd : (A.deeper (PyProof.Rows.envOfC "_law_sheet" (defScope s_law_sheet) s.heap.objs.size f cdv)).guards = some []) :
    DSs (cxOf CX0 P w K mg base N_law_sheet "_law_sheet" (defScope s_law_sheet) f cdv A outer s H E).nox κ_law_sheet fr_law_sheet (defBody s_law_sheet) (W_law_sheet sp_law_one sp_law_draw) :=
  (dss_cons (ds_set (i := 2) sc_law_sheet.nd (de_call C_law_one (hr.mono (by decide)) hgd (da_cons (do_nm 0) (da_cons (((df_lst (dc_cons (de_nm 1) (dc_cons (de_nm 1) (dc_cons (de_callB (call_min2 rfl) min2_ok (by rfl) T.min (by decide +kernel) (da_cons (do_nm 1) (da_cons (de_int).op da_nil))) (dc_cons (de_callB (call_min2 rfl) min2_ok (by rfl) T.min (by decide +kernel) (da_cons (do_nm 1) (da_cons (de_int).op da_nil))) dc_nil)))))).de).op da_nil))))
  (dss_one (ds_ret (de_tup (dc_cons (de_opC op_addA add_ok de_int (de_call C_law_draw (hr.mono (by decide)) hgd (da_cons (do_nm 0) (da_cons (do_nm 2) da_nil)))) (dc_cons (de_opC op_addA add_ok de_int (de_call C_law_draw (hr.mono (by decide)) hgd (da_cons (do_nm 0) (da_cons (do_nm 2) da_nil)))) dc_nil))))))
theorem cal_law_sheet (T : Tx mg) {sp_law_one : DSp} {sp_law_draw : DSp} (C_law_one : Cal P w K mg base 2 "_law_one" ps_law_one pk_law_one fr_law_one sp_law_one) (C_law_draw : Cal P w K mg base 1 "_law_draw" ps_law_draw pk_law_draw fr_law_draw sp_law_draw) {f : Addr} {fd : FuncData} (F : Fun K "_law_sheet" "_law_sheet" s_law_sheet f fd) (g : mg "_law_sheet" = some (.ref f)) {sp : DSp} (math : ∀ (ds : List DL.D) (Q : DL.D → List DL.D → Prop), ds.length = ps_law_sheet.length → sp ds Q → W_law_sheet sp_law_one sp_law_draw (endsD pk_law_sheet fr_law_sheet Q) (startE N_law_sheet.length ds)) (m : MonoD sp) : Cal P w K mg base 3 "_law_sheet" ps_law_sheet pk_law_sheet fr_law_sheet sp :=
  ⟨⟨f, fd, fn_okD F sc_law_sheet (fun cdv A outer s H E hr hgd => body_law_sheet T C_law_one C_law_draw hr hgd) math, g, F.kp, F.binds fun _ _ _ _ _ _ us hl => match us, hl with | [_, _], _ => rfl⟩, m⟩
def W_law (sp_law_sheet : DSp) (sp_knots : DSp) (sp_law_knots : DSp) (sp_ends_of : DSp) (sp_law_ends : DSp) (sp_bars_of : DSp) (sp_law_at : DSp) : WS :=
  (sSeq (sFor (wApp rng1 [(.ex (eC (.int 6)))]) (.nm 2) (sSeq (sSet 3 (eCall pk_law_sheet sp_law_sheet [(.nm 1), (.ex (eC (.int 8)))]))
  (sSeq (sPar [4, 5] [(eCall pk_knots sp_knots [(.nm 3)]), (eCall pk_law_knots sp_law_knots [(.nm 3)])])
  (sSeq (sIf (tE (eBin dNe (.ex (eApp dRepr [(.nm 4)])) (.ex (eApp dRepr [(.ex (eApp dTuple [(.nm 5)]))])))) (sRet (eC (.bool false))) sNil)
  (sSeq (sSet 6 (eUn dListR1 (.ex (eBin dMul (.ex (eBin dAt (.nm 3) (.ex (eC (.int 0))))) (.ex (eBin dAt (.nm 3) (.ex (eC (.int 1)))))))))
  (sSeq (sIf (tE (eBin dNe (.ex (eApp dRepr [(.ex (eLc (wSeq (eNm 6)) (.nm 7) tYesW (eCall pk_ends_of sp_ends_of [(.nm 3), (.nm 7)]) [7]))])) (.ex (eApp dRepr [(.ex (eLc (wSeq (eNm 6)) (.nm 7) tYesW (eCall pk_law_ends sp_law_ends [(.nm 3), (.nm 7)]) [7]))])))) (sRet (eC (.bool false))) sNil)
  (sSeq (sFor (wSeq (eNm 5)) (.nm 8) (sIf (tE (eBin dNe (.ex (eApp dRepr [(.ex (eCall pk_bars_of sp_bars_of [(.nm 3), (.nm 8)]))])) (.ex (eApp dRepr [(.ex (eApp dTuple [(.ex (eCall pk_law_at sp_law_at [(.nm 3), (.nm 8)]))]))])))) (sRet (eC (.bool false))) sNil))
  (sIf (tE (eBin dNe (.ex (eApp dRepr [(.ex (eLst [(eCall pk_knots sp_knots [(.nm 3)]), (eNm 3)]))])) (.ex (eApp dRepr [(.ex (eLst [(eNm 4), (eTup [(eBin dAt (.nm 3) (.ex (eC (.int 0)))), (eBin dAt (.nm 3) (.ex (eC (.int 1))))])]))])))) (sRet (eC (.bool false))) sNil))))))))
  (sRet (eC (.bool true))))
theorem body_law (T : Tx mg) {sp_law_sheet : DSp} {sp_knots : DSp} {sp_law_knots : DSp} {sp_ends_of : DSp} {sp_law_ends : DSp} {sp_bars_of : DSp} {sp_law_at : DSp} (C_law_sheet : Cal P w K mg base 3 "_law_sheet" ps_law_sheet pk_law_sheet fr_law_sheet sp_law_sheet) (C_knots : Cal P w K mg base 1 "knots" ps_knots pk_knots fr_knots sp_knots) (C_law_knots : Cal P w K mg base 1 "_law_knots" ps_law_knots pk_law_knots fr_law_knots sp_law_knots) (C_ends_of : Cal P w K mg base 1 "ends_of" ps_ends_of pk_ends_of fr_ends_of sp_ends_of) (C_law_ends : Cal P w K mg base 1 "_law_ends" ps_law_ends pk_law_ends fr_law_ends sp_law_ends) (C_bars_of : Cal P w K mg base 1 "bars_of" ps_bars_of pk_bars_of fr_bars_of sp_bars_of) (C_law_at : Cal P w K mg base 1 "_law_at" ps_law_at pk_law_at fr_law_at sp_law_at) {f : Addr} {cdv : Value} {A : Around} {outer : List Env} {s : Shared} {H : Hp} {E : XK} (hr : Room 3 (A.deeper (PyProof.Rows.envOfC "law" (defScope s_law) s.heap.objs.size f cdv))) (hgd : (A.deeper (PyProof.Rows.envOfC "law" (defScope s_law) s.heap.objs.size f cdv)).guards = some []) :
    DSs (cxOf CX0 P w K mg base N_law "law" (defScope s_law) f cdv A outer s H E).nox κ_law fr_law ((defBody s_law).tail) (W_law sp_law_sheet sp_knots sp_law_knots sp_ends_of sp_law_ends sp_bars_of sp_law_at) :=
  (dss_cons (ds_for PassesOwn.never rfl (di_rng1 (by rfl) T.range (da_cons (de_int).op da_nil)) (dg_nm 2 sc_law.nd) (dss_cons (ds_set (i := 3) sc_law.nd (de_call C_law_sheet (hr.mono (by decide)) hgd (da_cons (do_nm 1) (da_cons (de_int).op da_nil))))
  (dss_cons (ds_par2 rfl sc_law.nd (dm_val (de_call C_knots (hr.mono (by decide)) hgd (da_cons (do_nm 3) da_nil)) (dm_val (de_call C_law_knots (hr.mono (by decide)) hgd (da_cons (do_nm 3) da_nil)) dm_nil)))
  (dss_cons (ds_if (dt_cmp (op_ne.or (op_neD hr.units)) ne_ok ((de_callB (call_repr hr hgd) repr_ok (by rfl) T.repr (by decide +kernel) (da_cons (do_nm 4) da_nil))).op ((de_callB (call_repr hr hgd) repr_ok (by rfl) T.repr (by decide +kernel) (da_cons ((de_callTy call_tuple_of tuple_ok (by rfl) T.tuple (by decide +kernel) (da_cons (do_nm 5) da_nil))).op da_nil))).op (nomark _)) (dss_one (ds_ret de_bl)) dss_nil)
  (dss_cons (ds_set (i := 6) sc_law.nd ((df_listR1 rfl (by rfl) T.list (by rfl) T.range ((de_op op_mul mul_ok ((de_ix ix_seq at_ok (do_nm 3) (de_int).op)).op ((de_ix ix_seq at_ok (do_nm 3) (de_int).op)).op)).op)).de)
  (dss_cons (ds_if (dt_cmp (op_ne.or (op_neD hr.units)) ne_ok ((de_callB (call_repr hr hgd) repr_ok (by rfl) T.repr (by decide +kernel) (da_cons (((df_lc (own := [("_law_bar", 7)]) (sl := []) rfl sc_law.nd (di_seq (de_nm 6)) (blkOk_by (by first | exact (show blkC N_law (defScope s_law) _ _ = true from by decide +kernel) | rfl)) (fun _ _ _ _ _ => (dg_nm 7 sc_law.nd)) (fun _ _ _ _ _ => dts_nil) (fun _ _ _ _ _ => (de_call C_ends_of (hr.mono (by decide)) hgd (da_cons (do_nm 3) (da_cons (do_nm 7) da_nil)))))).de).op da_nil))).op ((de_callB (call_repr hr hgd) repr_ok (by rfl) T.repr (by decide +kernel) (da_cons (((df_lc (own := [("_law_bar", 7)]) (sl := []) rfl sc_law.nd (di_seq (de_nm 6)) (blkOk_by (by first | exact (show blkC N_law (defScope s_law) _ _ = true from by decide +kernel) | rfl)) (fun _ _ _ _ _ => (dg_nm 7 sc_law.nd)) (fun _ _ _ _ _ => dts_nil) (fun _ _ _ _ _ => (de_call C_law_ends (hr.mono (by decide)) hgd (da_cons (do_nm 3) (da_cons (do_nm 7) da_nil)))))).de).op da_nil))).op (nomark _)) (dss_one (ds_ret de_bl)) dss_nil)
  (dss_cons (ds_for PassesOwn.never rfl (di_seq (de_nm 5)) (dg_nm 8 sc_law.nd) (dss_one (ds_if (dt_cmp (op_ne.or (op_neD hr.units)) ne_ok ((de_callB (call_repr hr hgd) repr_ok (by rfl) T.repr (by decide +kernel) (da_cons ((de_call C_bars_of (hr.mono (by decide)) hgd (da_cons (do_nm 3) (da_cons (do_nm 8) da_nil)))).op da_nil))).op ((de_callB (call_repr hr hgd) repr_ok (by rfl) T.repr (by decide +kernel) (da_cons ((de_callTy call_tuple_of tuple_ok (by rfl) T.tuple (by decide +kernel) (da_cons ((de_call C_law_at (hr.mono (by decide)) hgd (da_cons (do_nm 3) (da_cons (do_nm 8) da_nil)))).op da_nil))).op da_nil))).op (nomark _)) (dss_one (ds_ret de_bl)) dss_nil)))
  (dss_one (ds_if (dt_cmp (op_ne.or (op_neD hr.units)) ne_ok ((de_callB (call_repr hr hgd) repr_ok (by rfl) T.repr (by decide +kernel) (da_cons (((df_lst (dc_cons (de_call C_knots (hr.mono (by decide)) hgd (da_cons (do_nm 3) da_nil)) (dc_cons (de_nm 3) dc_nil)))).de).op da_nil))).op ((de_callB (call_repr hr hgd) repr_ok (by rfl) T.repr (by decide +kernel) (da_cons (((df_lst (dc_cons (de_nm 4) (dc_cons (de_tup (dc_cons (de_ix ix_seq at_ok (do_nm 3) (de_int).op) (dc_cons (de_ix ix_seq at_ok (do_nm 3) (de_int).op) dc_nil))) dc_nil)))).de).op da_nil))).op (nomark _)) (dss_one (ds_ret de_bl)) dss_nil)))))))))
  (dss_one (ds_ret de_bl)))
theorem okg_law (T : Tx mg) {sp_law_sheet : DSp} {sp_knots : DSp} {sp_law_knots : DSp} {sp_ends_of : DSp} {sp_law_ends : DSp} {sp_bars_of : DSp} {sp_law_at : DSp} (C_law_sheet : Cal P w K mg base 3 "_law_sheet" ps_law_sheet pk_law_sheet fr_law_sheet sp_law_sheet) (C_knots : Cal P w K mg base 1 "knots" ps_knots pk_knots fr_knots sp_knots) (C_law_knots : Cal P w K mg base 1 "_law_knots" ps_law_knots pk_law_knots fr_law_knots sp_law_knots) (C_ends_of : Cal P w K mg base 1 "ends_of" ps_ends_of pk_ends_of fr_ends_of sp_ends_of) (C_law_ends : Cal P w K mg base 1 "_law_ends" ps_law_ends pk_law_ends fr_law_ends sp_law_ends) (C_bars_of : Cal P w K mg base 1 "bars_of" ps_bars_of pk_bars_of fr_bars_of sp_bars_of) (C_law_at : Cal P w K mg base 1 "_law_at" ps_law_at pk_law_at fr_law_at sp_law_at) {f fD : Addr} {fd fdD : FuncData} (F : Fun K "law" "law" s_law f fd) (FD : Fun K "_law_deck" "_law_deck" s_law_deck fD fdD) (gD : mg "_law_deck" = some (.ref fD)) (math : ∀ ns : List Int, ns.length ≤ 63 → W_law sp_law_sheet sp_knots sp_law_knots sp_ends_of sp_law_ends sp_bars_of sp_law_at lawE (lawS 7 ns)) : FnG P w K mg base CX0 4 f fd ["_law_script"] (spLawG K) :=
  ok_law (κr := κ_law.tail.tail) F sc_law rfl (s1 := (defBody s_law).headD (.Pass ⟨0, 0, 0, 0⟩)) (rest := (defBody s_law).tail) rfl
    (fun cdv A outer s H E hr hgd => ps_set (i := 1) sc_law.nd rfl (by first | exact Or.inl rfl | exact Or.inr rfl) (pe_callG (ok_deck FD sc_law_deck fun cdv A outer s H E => pss_one (ps_ret (pe_lst (pa_cons (pe_callTy call_list_of (by rfl) T.list (by decide +kernel) (pa_cons (pe_slice sl_list (pv 0) po_none (po_some pe_int)) pa_nil)) (pa_cons pe_int (pa_cons pe_int (pa_cons pe_int pa_nil)))))))
      (hr.mono (by decide)) hgd rfl gD FD.kp (FD.binds fun _ _ _ _ _ _ us hl => match us, hl with | [_], _ => rfl) pass0 (pa_cons (pv 0) pa_nil) (by decide) rfl rfl))
    (fun cdv A outer s H E hr hgd => body_law T C_law_sheet C_knots C_law_knots C_ends_of C_law_ends C_bars_of C_law_at hr hgd) math
end
abbrev sp_knots := FN.sp_knots
abbrev sp_ends_of := FN.sp_ends_of
abbrev sp_bars_of := FN.sp_bars_of
abbrev sp_law_ends := FN.sp_law_ends
abbrev sp_law_knots := FN.sp_law_knots
abbrev sp_law_at := FN.sp_law_at
abbrev sp_law_sheet := FN.sp_law_sheet
abbrev sp_law_draw := DL.sp_law_draw
abbrev sp_law_one := DL.sp_law_one
theorem mono_knots : MonoD sp_knots := FN.mono_knots
theorem math_knots : ∀ (ds : List DL.D) (Q : DL.D → List DL.D → Prop), ds.length = ps_knots.length → sp_knots ds Q → W_knots (endsD pk_knots fr_knots Q) (startE N_knots.length ds) := FN.math_knots
theorem mono_ends_of : MonoD sp_ends_of := FN.mono_ends_of
theorem math_ends_of : ∀ (ds : List DL.D) (Q : DL.D → List DL.D → Prop), ds.length = ps_ends_of.length → sp_ends_of ds Q → W_ends_of (endsD pk_ends_of fr_ends_of Q) (startE N_ends_of.length ds) := FN.math_ends_of
theorem mono_bars_of : MonoD sp_bars_of := FN.mono_bars_of
theorem math_bars_of : ∀ (ds : List DL.D) (Q : DL.D → List DL.D → Prop), ds.length = ps_bars_of.length → sp_bars_of ds Q → W_bars_of (endsD pk_bars_of fr_bars_of Q) (startE N_bars_of.length ds) := FN.math_bars_of
theorem mono_law_ends : MonoD sp_law_ends := FN.mono_law_ends
theorem math_law_ends : ∀ (ds : List DL.D) (Q : DL.D → List DL.D → Prop), ds.length = ps_law_ends.length → sp_law_ends ds Q → W_law_ends (endsD pk_law_ends fr_law_ends Q) (startE N_law_ends.length ds) := FN.math_law_ends
theorem mono_law_knots : MonoD sp_law_knots := FN.mono_law_knots
theorem math_law_knots : ∀ (ds : List DL.D) (Q : DL.D → List DL.D → Prop), ds.length = ps_law_knots.length → sp_law_knots ds Q → W_law_knots (endsD pk_law_knots fr_law_knots Q) (startE N_law_knots.length ds) := FN.math_law_knots
theorem mono_law_at : MonoD sp_law_at := FN.mono_law_at
theorem math_law_at : ∀ (ds : List DL.D) (Q : DL.D → List DL.D → Prop), ds.length = ps_law_at.length → sp_law_at ds Q → W_law_at (endsD pk_law_at fr_law_at Q) (startE N_law_at.length ds) := FN.math_law_at
theorem mono_law_sheet : MonoD sp_law_sheet := FN.mono_law_sheet
theorem math_law_sheet : ∀ (ds : List DL.D) (Q : DL.D → List DL.D → Prop), ds.length = ps_law_sheet.length → sp_law_sheet ds Q → W_law_sheet sp_law_one sp_law_draw (endsD pk_law_sheet fr_law_sheet Q) (startE N_law_sheet.length ds) := FN.math_law_sheet
theorem mono_law_draw : MonoD sp_law_draw := DL.mono_law_draw
theorem math_law_draw : ∀ (ds : List DL.D) (Q : DL.D → List DL.D → Prop), ds.length = ps_law_draw.length → sp_law_draw ds Q → W_law_draw (endsD pk_law_draw fr_law_draw Q) (startE N_law_draw.length ds) := DL.math_law_draw
theorem mono_law_one : MonoD sp_law_one := DL.mono_law_one
theorem math_law_one : ∀ (ds : List DL.D) (Q : DL.D → List DL.D → Prop), ds.length = ps_law_one.length → sp_law_one ds Q → W_law_one sp_law_draw (endsD pk_law_one fr_law_one Q) (startE N_law_one.length ds) := DL.math_law_one
end L02


namespace L02
open PySem PySem.Spec L2 DL FN
def Inv (m : Int) (ε : En) : Prop := ∃ dk a2 a3 a4 a5 a6 a7 a8, ε = [none, some dk, a2, a3, a4, a5, a6, a7, a8] ∧ Dk m dk
theorem gd_pk2 {m n : Nat} {p : Int × Int} (h : p.1.natAbs < 10 ^ 79) (h2 : p.2.natAbs < 10 ^ 79) : Gd (m + 1) (n + 2) (pk2 p) := Gd.tuple (n := 0) (fun x hx => by
  simp only [List.mem_cons, List.not_mem_nil, or_false] at hx
  rcases hx with rfl | rfl
  · exact Gd.int h
  · exact Gd.int h2) (by simp only [List.length_cons, List.length_nil]; omega)
theorem gd_knots {R C : Int} (r2 : R ≤ 8) (c2 : C ≤ 8) : ∀ x ∈ (knotsI R C).map pk2, Gd 1 2 x := fun x hx => by
  obtain ⟨p, hp, rfl⟩ := List.mem_map.mp hx
  have := mem_knotsI hp
  have b : (10 : Nat) ^ 79 > 100 := by decide
  exact gd_pk2 (by omega) (by omega)
theorem knots_len {R C : Int} (r1 : 0 ≤ R) (c1 : 0 ≤ C) (r2 : R ≤ 8) (c2 : C ≤ 8) : (knotsI R C).length ≤ 81 :=
  Nat.le_trans (rows_len C _) (Nat.le_trans (Nat.mul_le_mul (show (R + 1).toNat ≤ 9 by omega) (show (C + 1).toNat ≤ 9 by omega)) (by decide))
theorem gd_ends {C b : Int} (h0 : 0 ≤ b) (h1 : b ≤ 1000) (c1 : 1 ≤ C) (c2 : C ≤ 8) : Gd 2 6 (endsD C b) := by
  have d0 : 0 ≤ b / C := Int.ediv_nonneg h0 (by omega)
  have d1 : b / C ≤ b := Int.ediv_le_self _ h0
  have e0 : 0 ≤ b % C := Int.emod_nonneg _ (by omega)
  have e1 : b % C < C := Int.emod_lt_of_pos _ (by omega)
  have bb : (10 : Nat) ^ 79 > 10000 := by decide
  refine Gd.tuple (n := 2) (fun x hx => ?_) (by simp only [List.length_cons, List.length_nil]; omega)
  simp only [List.mem_cons, List.not_mem_nil, or_false] at hx
  unfold endsI at hx
  split at hx <;> rcases hx with rfl | rfl <;> exact gd_pk2 (by simp only; omega) (by simp only; omega)
theorem gd_bars {R C r c : Int} (r2 : R ≤ 8) (c1 : 1 ≤ C) (c2 : C ≤ 8) : Gd 1 4 (.tuple ((barsI R C r c).map .int)) := by
  have bb : (10 : Nat) ^ 79 > 10000 := by decide
  refine Gd.tuple (n := 0) (fun x hx => ?_) ?_
  · obtain ⟨b, hb, rfl⟩ := List.mem_map.mp hx
    obtain ⟨p, hp, rfl⟩ := List.mem_map.mp hb
    have hi := (List.mem_filter.mp hp).2
    have hi : (0 ≤ p.1 ∧ p.1 < R) ∧ (0 ≤ p.2 ∧ p.2 < C) := by
      unfold inS at hi
      simpa using hi
    have : p.1 * C ≤ 8 * 8 := Int.mul_le_mul (by omega) c2 (by omega) (by omega)
    have : 0 ≤ p.1 * C := Int.mul_nonneg (by omega) (by omega)
    exact Gd.int (by omega)
  · rw [List.length_map]
    unfold barsI
    rw [List.length_map]
    have := List.length_filter_le (inS R C) [(r - 1, c - 1), (r - 1, c), (r, c - 1), (r, c)]
    simp only [List.length_cons, List.length_nil] at this
    omega
theorem dList_int {n : Int} (h : 0 ≤ n ∧ n ≤ 16777216) : dListR1 (.int n) = some (.list (intsR 0 n.toNat)) := if_pos h
theorem math_law : ∀ ns : List Int, ns.length ≤ 63 → W_law sp_law_sheet sp_knots sp_law_knots sp_ends_of sp_law_ends sp_bars_of sp_law_at lawE (lawS 7 ns) := fun ns hl => by
  unfold W_law
  refine show sFor _ _ _ _ _ from ?_
  simp only [sSeq, sSet, sPar, sUnp, sDo, sRet, sRetO, sRetN, sIf, sNil, sPut, tE, tAndW, tOrW, tNotW, tYesW, eBin, eUn, eChain, eNm, eC, eNot, eAnd, eOr, eIf, eLst, eTup, eSl, ptEv, cEv, eApp_iff, eCall_iff, wApp_iff, wSeq, wNm, aEv, valsF, oEv, slF, setL, bindD, DL.bindL, putO_nil, putO_io, putO_val, putO_brw, eMut, isL, seqD_l, seqD_t, List.map_cons, List.map_nil, List.length_cons, List.length_nil, List.cons_append, List.nil_append, List.getElem?_cons_succ, List.getElem?_cons_zero, List.set_cons_succ, List.set_cons_zero, Option.join_some, Option.bind_some, Option.map_some, Option.some.injEq, exists_eq_left', exists_eq_left, exists_and_left, exists_eq', true_and, and_true, le_size, Nat.reduceAdd, Nat.reduceSub, Nat.reduceLeDiff, PyData.bool.injEq, ↓reduceIte, Bool.false_eq_true, if_false, if_true, dAt_l, dAt_t, atI_0, atI_1, atI_2, atI_3, dAdd_i, dSub_i, dGt_i, dGe_i, dLt_i, dLe_i, dInt_i, dAbs_i, dLen_l, dLen_t, dMin_i, dMax_i, dTuple_l, dIs_none, dIsNot_none, sFor]
  rw [rng1_i (by omega)]
  refine ⟨_, rfl, for_inv (fun i ε => Inv (3 * i) ε) ⟨_, _, _, _, _, _, _, _, rfl, (Dk.start hl).le (by omega)⟩ (fun _ _ _ => trivial) (fun i d ε K hd hI k => ?_) fun ε _ => rfl⟩
  have hi : i < 6 := by
    have := (List.getElem?_eq_some_iff.mp hd).1
    simpa using this
  obtain ⟨dk, a2, a3, a4, a5, a6, a7, a8, rfl, hdk⟩ := hI
  refine ⟨_, rfl, ?_⟩
  simp only [sSeq, sSet, sPar, sUnp, sDo, sRet, sRetO, sRetN, sIf, sNil, sPut, tE, tAndW, tOrW, tNotW, tYesW, eBin, eUn, eChain, eNm, eC, eNot, eAnd, eOr, eIf, eLst, eTup, eSl, ptEv, cEv, eApp_iff, eCall_iff, wApp_iff, wSeq, wNm, aEv, valsF, oEv, slF, setL, bindD, DL.bindL, putO_nil, putO_io, putO_val, putO_brw, eMut, isL, seqD_l, seqD_t, List.map_cons, List.map_nil, List.length_cons, List.length_nil, List.cons_append, List.nil_append, List.getElem?_cons_succ, List.getElem?_cons_zero, List.set_cons_succ, List.set_cons_zero, Option.join_some, Option.bind_some, Option.map_some, Option.some.injEq, exists_eq_left', exists_eq_left, exists_and_left, exists_eq', true_and, and_true, le_size, Nat.reduceAdd, Nat.reduceSub, Nat.reduceLeDiff, PyData.bool.injEq, ↓reduceIte, Bool.false_eq_true, if_false, if_true, dAt_l, dAt_t, atI_0, atI_1, atI_2, atI_3, dAdd_i, dSub_i, dGt_i, dGe_i, dLt_i, dLe_i, dInt_i, dAbs_i, dLen_l, dLen_t, dMin_i, dMax_i, dTuple_l, dIs_none, dIsNot_none]
  refine ⟨_, dk, 8, rfl, hdk, by omega, by decide, by decide, fun R C dk1 r1 r2 c1 c2 hd1 => ?_⟩
  simp only [sSeq, sSet, sPar, sUnp, sDo, sRet, sRetO, sRetN, sIf, sNil, sPut, tE, tAndW, tOrW, tNotW, tYesW, eBin, eUn, eChain, eNm, eC, eNot, eAnd, eOr, eIf, eLst, eTup, eSl, ptEv, cEv, eApp_iff, eCall_iff, wApp_iff, wSeq, wNm, aEv, valsF, oEv, slF, setL, bindD, DL.bindL, putO_nil, putO_io, putO_val, putO_brw, eMut, isL, seqD_l, seqD_t, List.map_cons, List.map_nil, List.length_cons, List.length_nil, List.cons_append, List.nil_append, List.getElem?_cons_succ, List.getElem?_cons_zero, List.set_cons_succ, List.set_cons_zero, Option.join_some, Option.bind_some, Option.map_some, Option.some.injEq, exists_eq_left', exists_eq_left, exists_and_left, exists_eq', true_and, and_true, le_size, Nat.reduceAdd, Nat.reduceSub, Nat.reduceLeDiff, PyData.bool.injEq, ↓reduceIte, Bool.false_eq_true, if_false, if_true, dAt_l, dAt_t, atI_0, atI_1, atI_2, atI_3, dAdd_i, dSub_i, dGt_i, dGe_i, dLt_i, dLe_i, dInt_i, dAbs_i, dLen_l, dLen_t, dMin_i, dMax_i, dTuple_l, dIs_none, dIsNot_none]
  refine ⟨R, C, rfl, by omega, by omega, by omega, by omega, ?_⟩
  simp only [sSeq, sSet, sPar, sUnp, sDo, sRet, sRetO, sRetN, sIf, sNil, sPut, tE, tAndW, tOrW, tNotW, tYesW, eBin, eUn, eChain, eNm, eC, eNot, eAnd, eOr, eIf, eLst, eTup, eSl, ptEv, cEv, eApp_iff, eCall_iff, wApp_iff, wSeq, wNm, aEv, valsF, oEv, slF, setL, bindD, DL.bindL, putO_nil, putO_io, putO_val, putO_brw, eMut, isL, seqD_l, seqD_t, List.map_cons, List.map_nil, List.length_cons, List.length_nil, List.cons_append, List.nil_append, List.getElem?_cons_succ, List.getElem?_cons_zero, List.set_cons_succ, List.set_cons_zero, Option.join_some, Option.bind_some, Option.map_some, Option.some.injEq, exists_eq_left', exists_eq_left, exists_and_left, exists_eq', true_and, and_true, le_size, Nat.reduceAdd, Nat.reduceSub, Nat.reduceLeDiff, PyData.bool.injEq, ↓reduceIte, Bool.false_eq_true, if_false, if_true, dAt_l, dAt_t, atI_0, atI_1, atI_2, atI_3, dAdd_i, dSub_i, dGt_i, dGe_i, dLt_i, dLe_i, dInt_i, dAbs_i, dLen_l, dLen_t, dMin_i, dMax_i, dTuple_l, dIs_none, dIsNot_none]
  refine ⟨R, C, rfl, by omega, by omega, by omega, by omega, ?_⟩
  have kl := knots_len (R := R) (C := C) (by omega) (by omega) r2 c2
  have g1 : Gd 2 300 (.tuple ((knotsI R C).map pk2)) := Gd.tuple (n := 2) (gd_knots r2 c2) (by rw [List.length_map]; omega)
  simp only [sSeq, sSet, sPar, sUnp, sDo, sRet, sRetO, sRetN, sIf, sNil, sPut, tE, tAndW, tOrW, tNotW, tYesW, eBin, eUn, eChain, eNm, eC, eNot, eAnd, eOr, eIf, eLst, eTup, eSl, ptEv, cEv, eApp_iff, eCall_iff, wApp_iff, wSeq, wNm, aEv, valsF, oEv, slF, setL, bindD, DL.bindL, putO_nil, putO_io, putO_val, putO_brw, eMut, isL, seqD_l, seqD_t, List.map_cons, List.map_nil, List.length_cons, List.length_nil, List.cons_append, List.nil_append, List.getElem?_cons_succ, List.getElem?_cons_zero, List.set_cons_succ, List.set_cons_zero, Option.join_some, Option.bind_some, Option.map_some, Option.some.injEq, exists_eq_left', exists_eq_left, exists_and_left, exists_eq', true_and, and_true, le_size, Nat.reduceAdd, Nat.reduceSub, Nat.reduceLeDiff, PyData.bool.injEq, ↓reduceIte, Bool.false_eq_true, if_false, if_true, dAt_l, dAt_t, atI_0, atI_1, atI_2, atI_3, dAdd_i, dSub_i, dGt_i, dGe_i, dLt_i, dLe_i, dInt_i, dAbs_i, dLen_l, dLen_t, dMin_i, dMax_i, dTuple_l, dIs_none, dIsNot_none, dRepr_gd g1 (by decide) (by decide), dNe_str, eqv_strs, Bool.not_true]
  have m0 : 0 ≤ R * C := Int.mul_nonneg (by omega) (by omega)
  have m1 : R * C ≤ 8 * 8 := Int.mul_le_mul r2 c2 (by omega) (by omega)
  have sa : dAt (sht R C) (.int 0) = some (.int R) := by unfold sht; rw [dAt_t, atI_0]
  have sb : dAt (sht R C) (.int 1) = some (.int C) := by unfold sht; rw [dAt_t, atI_1]
  simp only [sSeq, sSet, sPar, sUnp, sDo, sRet, sRetO, sRetN, sIf, sNil, sPut, tE, tAndW, tOrW, tNotW, tYesW, eBin, eUn, eChain, eNm, eC, eNot, eAnd, eOr, eIf, eLst, eTup, eSl, ptEv, cEv, eApp_iff, eCall_iff, wApp_iff, wSeq, wNm, aEv, valsF, oEv, slF, setL, bindD, DL.bindL, putO_nil, putO_io, putO_val, putO_brw, eMut, isL, seqD_l, seqD_t, List.map_cons, List.map_nil, List.length_cons, List.length_nil, List.cons_append, List.nil_append, List.getElem?_cons_succ, List.getElem?_cons_zero, List.set_cons_succ, List.set_cons_zero, Option.join_some, Option.bind_some, Option.map_some, Option.some.injEq, exists_eq_left', exists_eq_left, exists_and_left, exists_eq', true_and, and_true, le_size, Nat.reduceAdd, Nat.reduceSub, Nat.reduceLeDiff, PyData.bool.injEq, ↓reduceIte, Bool.false_eq_true, if_false, if_true, dAt_l, dAt_t, atI_0, atI_1, atI_2, atI_3, dAdd_i, dSub_i, dGt_i, dGe_i, dLt_i, dLe_i, dInt_i, dAbs_i, dLen_l, dLen_t, dMin_i, dMax_i, dTuple_l, dIs_none, dIsNot_none, sa, sb, dMul_r (j := C) (by omega) (by omega), dList_int ⟨m0, by omega⟩, eLc]
  have lm : ∀ (sp : DSp) (dk : DL.D) (b2 b4 b5 b7 b8 : Option DL.D) (b6 : DL.D) (Q : List DL.D → En → Prop), (∀ (b : Int) (K : PD), K (endsD C b) [] → sp [sht R C, .int b] K) →
      Q ((List.range (R * C).toNat).map fun (k : Nat) => endsD C (0 + (k : Int))) [none, some dk, b2, some (sht R C), b4, b5, some b6, none, b8] →
      lcGo (.nm 7) tYesW (eCall [.val, .val] sp [(.nm 3), (.nm 7)]) [7] (fun _ => True) (intsR 0 (R * C).toNat) [] [none, some dk, b2, some (sht R C), b4, b5, some b6, none, b8] Q := fun sp dk b2 b4 b5 b7 b8 b6 Q hsp q => by
    refine lc_map (f := fun (k : Nat) => endsD C (0 + (k : Int))) trivial (fun k hk => ⟨_, rfl, rfl, fun Q q => ?_⟩) (by
      rw [List.length_range]
      have : sizeLine = 16777216 := rfl
      simp only [List.length_nil]
      omega) q
    simp only [sSeq, sSet, sPar, sUnp, sDo, sRet, sRetO, sRetN, sIf, sNil, sPut, tE, tAndW, tOrW, tNotW, tYesW, eBin, eUn, eChain, eNm, eC, eNot, eAnd, eOr, eIf, eLst, eTup, eSl, ptEv, cEv, eApp_iff, eCall_iff, wApp_iff, wSeq, wNm, aEv, valsF, oEv, slF, setL, bindD, DL.bindL, putO_nil, putO_io, putO_val, putO_brw, eMut, isL, seqD_l, seqD_t, List.map_cons, List.map_nil, List.length_cons, List.length_nil, List.cons_append, List.nil_append, List.getElem?_cons_succ, List.getElem?_cons_zero, List.set_cons_succ, List.set_cons_zero, Option.join_some, Option.bind_some, Option.map_some, Option.some.injEq, exists_eq_left', exists_eq_left, exists_and_left, exists_eq', true_and, and_true, le_size, Nat.reduceAdd, Nat.reduceSub, Nat.reduceLeDiff, PyData.bool.injEq, ↓reduceIte, Bool.false_eq_true, if_false, if_true, dAt_l, dAt_t, atI_0, atI_1, atI_2, atI_3, dAdd_i, dSub_i, dGt_i, dGe_i, dLt_i, dLe_i, dInt_i, dAbs_i, dLen_l, dLen_t, dMin_i, dMax_i, dTuple_l, dIs_none, dIsNot_none]
    exact hsp _ _ q
  simp only [wipeE, List.set_cons_succ, List.set_cons_zero]
  refine lm _ _ _ _ _ none _ _ _ (fun b K k => ⟨R, C, b, rfl, by omega, by omega, k⟩) ?_
  have g2 : Gd 3 448 (.list ((List.range (R * C).toNat).map fun (k : Nat) => endsD C (0 + (k : Int)))) := Gd.list (n := 6) (fun x hx => by
    obtain ⟨b, hb, rfl⟩ := List.mem_map.mp hx
    have hb := List.mem_range.mp hb
    exact gd_ends (by omega) (by omega) c1 c2) (by rw [List.length_map, List.length_range]; omega)
  simp only [sSeq, sSet, sPar, sUnp, sDo, sRet, sRetO, sRetN, sIf, sNil, sPut, tE, tAndW, tOrW, tNotW, tYesW, eBin, eUn, eChain, eNm, eC, eNot, eAnd, eOr, eIf, eLst, eTup, eSl, ptEv, cEv, eApp_iff, eCall_iff, wApp_iff, wSeq, wNm, aEv, valsF, oEv, slF, setL, bindD, DL.bindL, putO_nil, putO_io, putO_val, putO_brw, eMut, isL, seqD_l, seqD_t, List.map_cons, List.map_nil, List.length_cons, List.length_nil, List.cons_append, List.nil_append, List.getElem?_cons_succ, List.getElem?_cons_zero, List.set_cons_succ, List.set_cons_zero, Option.join_some, Option.bind_some, Option.map_some, Option.some.injEq, exists_eq_left', exists_eq_left, exists_and_left, exists_eq', true_and, and_true, le_size, Nat.reduceAdd, Nat.reduceSub, Nat.reduceLeDiff, PyData.bool.injEq, ↓reduceIte, Bool.false_eq_true, if_false, if_true, dAt_l, dAt_t, atI_0, atI_1, atI_2, atI_3, dAdd_i, dSub_i, dGt_i, dGe_i, dLt_i, dLe_i, dInt_i, dAbs_i, dLen_l, dLen_t, dMin_i, dMax_i, dTuple_l, dIs_none, dIsNot_none, restE, dRepr_gd g2 (by decide) (by decide)]
  refine lm _ _ _ _ _ none _ _ _ (fun b K k => ⟨R, C, b, rfl, by omega, by omega, k⟩) ?_
  simp only [sSeq, sSet, sPar, sUnp, sDo, sRet, sRetO, sRetN, sIf, sNil, sPut, tE, tAndW, tOrW, tNotW, tYesW, eBin, eUn, eChain, eNm, eC, eNot, eAnd, eOr, eIf, eLst, eTup, eSl, ptEv, cEv, eApp_iff, eCall_iff, wApp_iff, wSeq, wNm, aEv, valsF, oEv, slF, setL, bindD, DL.bindL, putO_nil, putO_io, putO_val, putO_brw, eMut, isL, seqD_l, seqD_t, List.map_cons, List.map_nil, List.length_cons, List.length_nil, List.cons_append, List.nil_append, List.getElem?_cons_succ, List.getElem?_cons_zero, List.set_cons_succ, List.set_cons_zero, Option.join_some, Option.bind_some, Option.map_some, Option.some.injEq, exists_eq_left', exists_eq_left, exists_and_left, exists_eq', true_and, and_true, le_size, Nat.reduceAdd, Nat.reduceSub, Nat.reduceLeDiff, PyData.bool.injEq, ↓reduceIte, Bool.false_eq_true, if_false, if_true, dAt_l, dAt_t, atI_0, atI_1, atI_2, atI_3, dAdd_i, dSub_i, dGt_i, dGe_i, dLt_i, dLe_i, dInt_i, dAbs_i, dLen_l, dLen_t, dMin_i, dMax_i, dTuple_l, dIs_none, dIsNot_none, restE, dRepr_gd g2 (by decide) (by decide), dNe_str, eqv_strs, Bool.not_true, sFor]
  refine for_inv (fun _ ε => ∃ b8, ε = [none, some dk1, some d, some (sht R C), some (.tuple ((knotsI R C).map pk2)), some (.list ((knotsI R C).map pk2)), some (.list (intsR 0 (R * C).toNat)), a7, b8]) ⟨_, rfl⟩ (fun _ _ _ => trivial) (fun j d2 ε K2 hd hI k2 => ?_) fun ε hI => ?_
  · obtain ⟨b8, rfl⟩ := hI
    rw [List.getElem?_map] at hd
    obtain ⟨p, hp, rfl⟩ := Option.map_eq_some_iff.mp hd
    refine ⟨_, rfl, ?_⟩
    simp only [sSeq, sSet, sPar, sUnp, sDo, sRet, sRetO, sRetN, sIf, sNil, sPut, tE, tAndW, tOrW, tNotW, tYesW, eBin, eUn, eChain, eNm, eC, eNot, eAnd, eOr, eIf, eLst, eTup, eSl, ptEv, cEv, eApp_iff, eCall_iff, wApp_iff, wSeq, wNm, aEv, valsF, oEv, slF, setL, bindD, DL.bindL, putO_nil, putO_io, putO_val, putO_brw, eMut, isL, seqD_l, seqD_t, List.map_cons, List.map_nil, List.length_cons, List.length_nil, List.cons_append, List.nil_append, List.getElem?_cons_succ, List.getElem?_cons_zero, List.set_cons_succ, List.set_cons_zero, Option.join_some, Option.bind_some, Option.map_some, Option.some.injEq, exists_eq_left', exists_eq_left, exists_and_left, exists_eq', true_and, and_true, le_size, Nat.reduceAdd, Nat.reduceSub, Nat.reduceLeDiff, PyData.bool.injEq, ↓reduceIte, Bool.false_eq_true, if_false, if_true, dAt_l, dAt_t, atI_0, atI_1, atI_2, atI_3, dAdd_i, dSub_i, dGt_i, dGe_i, dLt_i, dLe_i, dInt_i, dAbs_i, dLen_l, dLen_t, dMin_i, dMax_i, dTuple_l, dIs_none, dIsNot_none]
    refine ⟨R, C, p.1, p.2, rfl, by omega, by omega, ?_⟩
    simp only [sSeq, sSet, sPar, sUnp, sDo, sRet, sRetO, sRetN, sIf, sNil, sPut, tE, tAndW, tOrW, tNotW, tYesW, eBin, eUn, eChain, eNm, eC, eNot, eAnd, eOr, eIf, eLst, eTup, eSl, ptEv, cEv, eApp_iff, eCall_iff, wApp_iff, wSeq, wNm, aEv, valsF, oEv, slF, setL, bindD, DL.bindL, putO_nil, putO_io, putO_val, putO_brw, eMut, isL, seqD_l, seqD_t, List.map_cons, List.map_nil, List.length_cons, List.length_nil, List.cons_append, List.nil_append, List.getElem?_cons_succ, List.getElem?_cons_zero, List.set_cons_succ, List.set_cons_zero, Option.join_some, Option.bind_some, Option.map_some, Option.some.injEq, exists_eq_left', exists_eq_left, exists_and_left, exists_eq', true_and, and_true, le_size, Nat.reduceAdd, Nat.reduceSub, Nat.reduceLeDiff, PyData.bool.injEq, ↓reduceIte, Bool.false_eq_true, if_false, if_true, dAt_l, dAt_t, atI_0, atI_1, atI_2, atI_3, dAdd_i, dSub_i, dGt_i, dGe_i, dLt_i, dLe_i, dInt_i, dAbs_i, dLen_l, dLen_t, dMin_i, dMax_i, dTuple_l, dIs_none, dIsNot_none, dRepr_gd (gd_bars r2 c1 c2) (by decide) (by decide)]
    refine ⟨R, C, p.1, p.2, rfl, by omega, by omega, ?_⟩
    simp only [sSeq, sSet, sPar, sUnp, sDo, sRet, sRetO, sRetN, sIf, sNil, sPut, tE, tAndW, tOrW, tNotW, tYesW, eBin, eUn, eChain, eNm, eC, eNot, eAnd, eOr, eIf, eLst, eTup, eSl, ptEv, cEv, eApp_iff, eCall_iff, wApp_iff, wSeq, wNm, aEv, valsF, oEv, slF, setL, bindD, DL.bindL, putO_nil, putO_io, putO_val, putO_brw, eMut, isL, seqD_l, seqD_t, List.map_cons, List.map_nil, List.length_cons, List.length_nil, List.cons_append, List.nil_append, List.getElem?_cons_succ, List.getElem?_cons_zero, List.set_cons_succ, List.set_cons_zero, Option.join_some, Option.bind_some, Option.map_some, Option.some.injEq, exists_eq_left', exists_eq_left, exists_and_left, exists_eq', true_and, and_true, le_size, Nat.reduceAdd, Nat.reduceSub, Nat.reduceLeDiff, PyData.bool.injEq, ↓reduceIte, Bool.false_eq_true, if_false, if_true, dAt_l, dAt_t, atI_0, atI_1, atI_2, atI_3, dAdd_i, dSub_i, dGt_i, dGe_i, dLt_i, dLe_i, dInt_i, dAbs_i, dLen_l, dLen_t, dMin_i, dMax_i, dTuple_l, dIs_none, dIsNot_none, dRepr_gd (gd_bars r2 c1 c2) (by decide) (by decide), dNe_str, eqv_strs, Bool.not_true]
    exact k2 _ ⟨_, rfl⟩
  · obtain ⟨b8, rfl⟩ := hI
    dsimp only
    simp only [sSeq, sSet, sPar, sUnp, sDo, sRet, sRetO, sRetN, sIf, sNil, sPut, tE, tAndW, tOrW, tNotW, tYesW, eBin, eUn, eChain, eNm, eC, eNot, eAnd, eOr, eIf, eLst, eTup, eSl, ptEv, cEv, eApp_iff, eCall_iff, wApp_iff, wSeq, wNm, aEv, valsF, oEv, slF, setL, bindD, DL.bindL, putO_nil, putO_io, putO_val, putO_brw, eMut, isL, seqD_l, seqD_t, List.map_cons, List.map_nil, List.length_cons, List.length_nil, List.cons_append, List.nil_append, List.getElem?_cons_succ, List.getElem?_cons_zero, List.set_cons_succ, List.set_cons_zero, Option.join_some, Option.bind_some, Option.map_some, Option.some.injEq, exists_eq_left', exists_eq_left, exists_and_left, exists_eq', true_and, and_true, le_size, Nat.reduceAdd, Nat.reduceSub, Nat.reduceLeDiff, PyData.bool.injEq, ↓reduceIte, Bool.false_eq_true, if_false, if_true, dAt_l, dAt_t, atI_0, atI_1, atI_2, atI_3, dAdd_i, dSub_i, dGt_i, dGe_i, dLt_i, dLe_i, dInt_i, dAbs_i, dLen_l, dLen_t, dMin_i, dMax_i, dTuple_l, dIs_none, dIsNot_none]
    refine ⟨R, C, rfl, by omega, by omega, by omega, by omega, ?_⟩
    have g3 : Gd 3 700 (.list [.tuple ((knotsI R C).map pk2), sht R C]) := Gd.list (n := 300) (fun x hx => by
      simp only [List.mem_cons, List.not_mem_nil, or_false] at hx
      have bb : (10 : Nat) ^ 79 > 10000 := by decide
      rcases hx with rfl | rfl
      · exact g1
      · exact (gd_pk2 (p := (R, C)) (m := 1) (n := 298) (by simp only; omega) (by simp only; omega))) (by simp only [List.length_cons, List.length_nil]; omega)
    have g4 : (PyData.tuple [.int R, .int C]) = sht R C := rfl
    simp only [sSeq, sSet, sPar, sUnp, sDo, sRet, sRetO, sRetN, sIf, sNil, sPut, tE, tAndW, tOrW, tNotW, tYesW, eBin, eUn, eChain, eNm, eC, eNot, eAnd, eOr, eIf, eLst, eTup, eSl, ptEv, cEv, eApp_iff, eCall_iff, wApp_iff, wSeq, wNm, aEv, valsF, oEv, slF, setL, bindD, DL.bindL, putO_nil, putO_io, putO_val, putO_brw, eMut, isL, seqD_l, seqD_t, List.map_cons, List.map_nil, List.length_cons, List.length_nil, List.cons_append, List.nil_append, List.getElem?_cons_succ, List.getElem?_cons_zero, List.set_cons_succ, List.set_cons_zero, Option.join_some, Option.bind_some, Option.map_some, Option.some.injEq, exists_eq_left', exists_eq_left, exists_and_left, exists_eq', true_and, and_true, le_size, Nat.reduceAdd, Nat.reduceSub, Nat.reduceLeDiff, PyData.bool.injEq, ↓reduceIte, Bool.false_eq_true, if_false, if_true, dAt_l, dAt_t, atI_0, atI_1, atI_2, atI_3, dAdd_i, dSub_i, dGt_i, dGe_i, dLt_i, dLe_i, dInt_i, dAbs_i, dLen_l, dLen_t, dMin_i, dMax_i, dTuple_l, dIs_none, dIsNot_none, sa, sb, g4, dRepr_gd g3 (by decide) (by decide), dNe_str, eqv_strs, Bool.not_true]
    exact k _ ⟨_, _, _, _, _, _, _, _, rfl, hd1.le (by omega)⟩
end L02

namespace L02
open PySem PySem.Spec L2 DL
def d_knots : He.DefD := ⟨("knots", none), "knots", "knots", defArgs s_knots, defBody s_knots, defScope s_knots, [], []⟩
def d_ends_of : He.DefD := ⟨("ends_of", none), "ends_of", "ends_of", defArgs s_ends_of, defBody s_ends_of, defScope s_ends_of, [], []⟩
def d_bars_of : He.DefD := ⟨("bars_of", none), "bars_of", "bars_of", defArgs s_bars_of, defBody s_bars_of, defScope s_bars_of, [], []⟩
def d_law_deck : He.DefD := ⟨("_law_deck", none), "_law_deck", "_law_deck", defArgs s_law_deck, defBody s_law_deck, defScope s_law_deck, [], []⟩
def d_law_draw : He.DefD := ⟨("_law_draw", none), "_law_draw", "_law_draw", defArgs s_law_draw, defBody s_law_draw, defScope s_law_draw, [], []⟩
def d_law_one : He.DefD := ⟨("_law_one", none), "_law_one", "_law_one", defArgs s_law_one, defBody s_law_one, defScope s_law_one, [], []⟩
def d_law_sheet : He.DefD := ⟨("_law_sheet", none), "_law_sheet", "_law_sheet", defArgs s_law_sheet, defBody s_law_sheet, defScope s_law_sheet, [], []⟩
def d_law_ends : He.DefD := ⟨("_law_ends", none), "_law_ends", "_law_ends", defArgs s_law_ends, defBody s_law_ends, defScope s_law_ends, [], []⟩
def d_law_knots : He.DefD := ⟨("_law_knots", none), "_law_knots", "_law_knots", defArgs s_law_knots, defBody s_law_knots, defScope s_law_knots, [], []⟩
def d_law_at : He.DefD := ⟨("_law_at", none), "_law_at", "_law_at", defArgs s_law_at, defBody s_law_at, defScope s_law_at, [], []⟩
def d_law : He.DefD := ⟨("law", none), "law", "law", defArgs s_law, defBody s_law, defScope s_law, [], []⟩
def fn : List He.DefD := [d_knots, d_ends_of, d_bars_of, d_law_deck, d_law_draw, d_law_one, d_law_sheet, d_law_ends, d_law_knots, d_law_at, d_law]
def fa : List He.Fa := [.glo "knots", .glo "ends_of", .glo "bars_of", .glo "_law_deck", .glo "_law_draw", .glo "_law_one", .glo "_law_sheet", .glo "_law_ends", .glo "_law_knots", .glo "_law_at", .glo "law", .free "abs", .free "int", .free "len", .free "list", .free "min", .free "range", .free "repr", .free "tuple"]
abbrev R : PySem.W.OpenRow := PySem.W.OpenLaw.row PySem.Challenge.rw_meshmend_k02_knots_and_bars
abbrev hk : PySem.W.Hook := He.hookD 4 fa fn
def ob (s : PySem.W.SharedT) : He.AlD := He.obsDG 4 fa fn (HandSHeadRun.getT s)
theorem ob_eq (s : PySem.W.SharedT) : ob s = hk.obs s.abs := He.obsDG_eq (HandSHeadRun.getT_eq s)
def lo0 : List Str := ["knots", "ends_of", "bars_of", "_law_deck", "_law_draw", "_law_one", "_law_sheet", "_law_ends", "_law_knots", "_law_at"]
def lo : List Str := lo0
theorem run (w : World) : HandSHeadRun.RunEq R (PySem.W.view R.prog [12]) hk ob 880 lo w := by
  intro os
  kernel_rfl
theorem funOf {K : PySem.W.Frag} {x qual : Str} {st : Stmt} {f : Addr} {fd : FuncData} (F : FunD K x qual (defArgs st) (defBody st) (defScope st) [] [] f fd) : Fun K x qual st f fd := by
  obtain ⟨oc, od, dV, kV, doc, pm, an, cdv, ct, osl, e, lk, hcd, hD, _⟩ := F.ex
  rcases hD with ⟨_, rfl⟩ | ⟨e2, _⟩
  · exact ⟨⟨oc, od, kV, doc, pm, an, cdv, ct, osl, e, lk, hcd⟩, F.kp⟩
  · exact absurd rfl e2
theorem facts {P : Program} {w : World} {K : PySem.W.Frag} {h : Heap} {mg : Str → Option Value} {f : Addr} (X : K.In h) (G : h.Ns mainGlobals mg) (hfa : mg ("law" : Str) = some (.ref f)) (c : He.SaysD fa fn K) :
    ∃ fd : FuncData, (∀ (s : Shared) (v : Value), BindsTo s fd ⟨[v], []⟩ [("_law_script", v)]) ∧ ∀ base : Heap, K.In base → base.Ns mainGlobals mg → FnG P w K mg base CX0 4 f fd ["_law_script"] (spLawG K) := by
  obtain ⟨fd_knots, F_knots⟩ := c.def_ 0 (d := d_knots) rfl
  obtain ⟨fd_ends_of, F_ends_of⟩ := c.def_ 1 (d := d_ends_of) rfl
  obtain ⟨fd_bars_of, F_bars_of⟩ := c.def_ 2 (d := d_bars_of) rfl
  obtain ⟨fd_law_deck, F_law_deck⟩ := c.def_ 3 (d := d_law_deck) rfl
  obtain ⟨fd_law_draw, F_law_draw⟩ := c.def_ 4 (d := d_law_draw) rfl
  obtain ⟨fd_law_one, F_law_one⟩ := c.def_ 5 (d := d_law_one) rfl
  obtain ⟨fd_law_sheet, F_law_sheet⟩ := c.def_ 6 (d := d_law_sheet) rfl
  obtain ⟨fd_law_ends, F_law_ends⟩ := c.def_ 7 (d := d_law_ends) rfl
  obtain ⟨fd_law_knots, F_law_knots⟩ := c.def_ 8 (d := d_law_knots) rfl
  obtain ⟨fd_law_at, F_law_at⟩ := c.def_ 9 (d := d_law_at) rfl
  obtain ⟨fd_law, F_law⟩ := c.def_ 10 (d := d_law) rfl
  have T : Tx mg := ⟨He.free_ok X G (c.fact 11 (f := .free "abs") rfl), He.free_ok X G (c.fact 12 (f := .free "int") rfl), He.free_ok X G (c.fact 13 (f := .free "len") rfl), He.free_ok X G (c.fact 14 (f := .free "list") rfl), He.free_ok X G (c.fact 15 (f := .free "min") rfl), He.free_ok X G (c.fact 16 (f := .free "range") rfl), He.free_ok X G (c.fact 17 (f := .free "repr") rfl), He.free_ok X G (c.fact 18 (f := .free "tuple") rfl)⟩
  have e := hfa.symm.trans (He.glo_ok X G (c.fact 10 (f := .glo "law") rfl))
  cases e
  have bl := FunD.bindsA (ps := ["_law_script"]) F_law fun _ _ _ _ _ _ us hl => match us, hl with | [_], _ => rfl
  refine ⟨fd_law, fun s v => bl s [v] rfl, fun base _ _ => ?_⟩
  have C_knots : Cal P w K mg base 1 "knots" ps_knots pk_knots fr_knots sp_knots := cal_knots T (funOf F_knots) (He.glo_ok X G (c.fact 0 (f := .glo "knots") rfl)) math_knots mono_knots
  have C_ends_of : Cal P w K mg base 1 "ends_of" ps_ends_of pk_ends_of fr_ends_of sp_ends_of := cal_ends_of T (funOf F_ends_of) (He.glo_ok X G (c.fact 1 (f := .glo "ends_of") rfl)) math_ends_of mono_ends_of
  have C_bars_of : Cal P w K mg base 1 "bars_of" ps_bars_of pk_bars_of fr_bars_of sp_bars_of := cal_bars_of T (funOf F_bars_of) (He.glo_ok X G (c.fact 2 (f := .glo "bars_of") rfl)) math_bars_of mono_bars_of
  have C_law_draw : Cal P w K mg base 1 "_law_draw" ps_law_draw pk_law_draw fr_law_draw sp_law_draw := cal_law_draw T (funOf F_law_draw) (He.glo_ok X G (c.fact 4 (f := .glo "_law_draw") rfl)) math_law_draw mono_law_draw
  have C_law_ends : Cal P w K mg base 1 "_law_ends" ps_law_ends pk_law_ends fr_law_ends sp_law_ends := cal_law_ends T (funOf F_law_ends) (He.glo_ok X G (c.fact 7 (f := .glo "_law_ends") rfl)) math_law_ends mono_law_ends
  have C_law_knots : Cal P w K mg base 1 "_law_knots" ps_law_knots pk_law_knots fr_law_knots sp_law_knots := cal_law_knots T (funOf F_law_knots) (He.glo_ok X G (c.fact 8 (f := .glo "_law_knots") rfl)) math_law_knots mono_law_knots
  have C_law_at : Cal P w K mg base 1 "_law_at" ps_law_at pk_law_at fr_law_at sp_law_at := cal_law_at T (funOf F_law_at) (He.glo_ok X G (c.fact 9 (f := .glo "_law_at") rfl)) math_law_at mono_law_at
  have C_law_one : Cal P w K mg base 2 "_law_one" ps_law_one pk_law_one fr_law_one sp_law_one := cal_law_one T C_law_draw (funOf F_law_one) (He.glo_ok X G (c.fact 5 (f := .glo "_law_one") rfl)) math_law_one mono_law_one
  have C_law_sheet : Cal P w K mg base 3 "_law_sheet" ps_law_sheet pk_law_sheet fr_law_sheet sp_law_sheet := cal_law_sheet T C_law_one C_law_draw (funOf F_law_sheet) (He.glo_ok X G (c.fact 6 (f := .glo "_law_sheet") rfl)) math_law_sheet mono_law_sheet
  exact okg_law T C_law_sheet C_knots C_law_knots C_ends_of C_law_ends C_bars_of C_law_at (funOf F_law) (funOf F_law_deck) (He.glo_ok X G (c.fact 3 (f := .glo "_law_deck") rfl)) math_law
end L02
open PySem PySem.W PySem.Calls PyProof.Rows in
set_option maxHeartbeats 0 in
theorem PySem.Challenge.cw_meshmend_k02_knots_and_bars_holds : PySem.Challenge.rw_meshmend_k02_knots_and_bars.Holds := by
  w_on; o_law
  refine HandSHeadRun.head_any (r := OpenLaw.row PySem.Challenge.rw_meshmend_k02_knots_and_bars) (q := view (OpenLaw.row PySem.Challenge.rw_meshmend_k02_knots_and_bars).prog [12]) (H := L02.hk) (ob := L02.ob) (M := 880) (loose := L02.lo) (d := HandSHeadRun.topDef (OpenLaw.row PySem.Challenge.rw_meshmend_k02_knots_and_bars).prog 12) (kwd := []) L02.ob_eq
    (by kernel_rfl) (fun s => by kernel_rfl) L02.run (by kernel_rfl) (by kernel_rfl) (by kernel_rfl) (by rfl) (by first | assumption | decide +kernel) (by decide +kernel) ⟨rfl, rfl, rfl, rfl, rfl, by decide +kernel⟩ ?hw ?hc
  case hw => w_witness2
  case hc =>
    refine DL.walk_g (l := PySem.Challenge.rw_meshmend_k02_knots_and_bars) (n := 63) (k := 4) (x := "_law_script") rfl (by decide) (by kernel_rfl) ⟨rfl, by decide, by decide⟩ ?F
    intro w mg fa h Y G hmg0
    obtain ⟨K, KX, c⟩ := Y
    have hmg : mg ("law" : PySem.Str) = some (.ref fa) := by
      have e : (HandSHeadRun.topDef (OpenLaw.row PySem.Challenge.rw_meshmend_k02_knots_and_bars).prog 12).name = ("law" : PySem.Str) := by kernel_rfl
      rw [← e]
      exact hmg0
    obtain ⟨fd, hb, hF⟩ := L02.facts (P := (PySem.Challenge.rw_meshmend_k02_knots_and_bars).prog) (w := w) KX G hmg c
    exact ⟨K, fd, DL.spLawG K, KX, hb, fun H a ns hl hS => ⟨a, ns, rfl, hS, hl, fun _ => rfl⟩, hF⟩
#print axioms PySem.Challenge.cw_meshmend_k02_knots_and_bars_holds
