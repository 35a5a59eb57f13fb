import PyProof.Rows.All
import Wide.All
import OpenK.AllK
import Wide.FinOn
import PyProof.EqAt
import PyProof.EqKinds
import PyProof.TupleCall
import HandS.Base
import HandS.Call
import HandS.List
import HandS.Comp
import HandS.Ends
import HandS.Words
import HandS.Exc
import HandS.ExcInit
import KE.KeyNested
import HandS.Style
import HandS.Iter
import HandS.Zip
import PyProof.ReprRoads
import PyProof.StrLawsRepr
import HandS.TupAny
import HandS.Text
import PyProof.StrBlock2
import KE.KDictKeyed
import KE.KDictSum
import KE.KDictDisplayH
import HandS.Dict
import HandS.Deep
import HandS.IsInst
import KE.SortData
import KE.KDictCopyH
import HandS.Conv
import HandS.SetFor
import HandS.WordsExc
import HandS.Defaults
import PyProof.ReprBulk
import PyProof.FitsInt
import KE.GoesEnum
import KE.GoesMore
import KE.DataMinMax
import HandS.ExcOwn
import HandS.ExcIs
import HandS.ExcField
import KE.KExcIs
import HandS.HeadHook1
import HandS.HeadHook2
import HandS.TryMany
import HandS.Property
import HandS.MakeKwOnly
import HandS.TupSets
import PyProof.ZipIter
import HandS.Zip0
import KE.KDictZip
import PyProof.ListNew
import PyProof.ListCopy
import HandS.TupMul
import HandS.DictComp
import KE.KDictWalk
import KE.KDictPairs
import PyProof.TupleOfSeq
import HandS.NoneIn
import KE.KStateDown
import HandS.Head0
import HandS.Head1
import HandS.Head2
import HandS.HeadEnd
import PySem.Challenge.RW_meshmend_k32_errors_and_bounds
set_option Elab.async false
set_option linter.all false
set_option maxRecDepth 100000
set_option maxHeartbeats 4000000
set_option autoImplicit false
def SsM (ns : List Lean.Name) (as : Array Lean.Syntax) (l : Option (Lean.TSyntax `Lean.Parser.Tactic.location)) : Lean.MacroM Lean.Syntax := do
  let mut out : Array (Lean.TSyntax `Lean.Parser.Tactic.simpLemma) := #[]
  let mut hit := false
  for a in as do
    if a.getKind == `Lean.Parser.Tactic.simpLemma && a[2].isIdent && a[2].getId.eraseMacroScopes == `ss_ then
      hit := true
      for n in ns do out := out.push (← `(Lean.Parser.Tactic.simpLemma| $(Lean.mkIdent n):term))
    else out := out.push ⟨a⟩
  unless hit do Lean.Macro.throwUnsupported
  `(tactic| simp only [$[$out:simpLemma],*] $[$l]?)
def SsH0 : List Lean.Name := []
def SsL0 : List Lean.Name := [`Nat.reduceAdd, `Nat.reduceSub, `Nat.reduceLeDiff, `decide_true, `decide_false]
namespace DL
open PySem PySem.Spec L2
abbrev D := PyData
abbrev En := List (Option D)
/-- what is avoided (o), what of it may change anywhere (m: a law's own state) -/
structure OS where
  o : Addr → Prop
  m : Addr → Prop
instance : CoeFun OS fun _ => Addr → Prop := ⟨OS.o⟩
def OS.non : OS := ⟨fun _ => False, fun _ => False⟩
def OS.one (p : Addr) : OS := ⟨fun b => b = p, fun _ => False⟩
def keyD : Key → D
  | .inl i => .int i
  | .inr x => .str x
structure NEnt where
  key : NestedKey
  at_ : Addr
  val : V
mutual
def nkInt : NestedKey → Bool
  | .num _ => true
  | .tup ks => nkInts ks
  | _ => false
def nkInts : List NestedKey → Bool
  | [] => true
  | k :: ks => nkInt k && nkInts ks
end
mutual
def hkHash : NestedKey → Int
  | .num i => hashInt i
  | .tup ks => reduceHash (Builtin.Tuple.tupleHashOf (hkHashes ks))
  | _ => 0
def hkHashes : List NestedKey → List Int
  | [] => []
  | k :: ks => hkHash k :: hkHashes ks
end
/-- what may be a key: a tuple -/
def keyT (k : NestedKey) : Bool := nkInt k && decide (k.depth ≤ 8)
def KeyP (k : NestedKey) : Prop := keyT k = true ∧ ∃ ks, k = .tup ks
def EntIs (x : NEnt) (t : NestedKey × Addr × Value) : Prop := x.key = t.1 ∧ x.at_ = t.2.1 ∧ RelV x.val t.2.2
def NDφ (a : Addr) (xs : List NEnt) : Heap → Prop := fun h => xs.length ≤ sizeLine ∧ (a == sysModules) = false ∧ (∀ x ∈ xs, keyT x.key = true) ∧ (xs.map (·.key)).Nodup ∧ ∃ ts : List (NestedKey × Addr × Value), Paired EntIs xs ts ∧ ∃ o es ep, h.get? a = some o ∧ o.ExactDict ∧ o.data = .dict es ep ∧
  es.toList = ts.map fun t => ⟨hkHash t.1, .ref t.2.1, t.2.2⟩
/-- a tuple, perhaps one that stood before -/
@[irreducible] def RdT (H : Hp) (a : Addr) (xs : List V) : Prop := Rd H a (.tup xs)
theorem RdT.rd {H : Hp} {a : Addr} {xs : List V} (h : RdT H a xs) : Rd H a (.tup xs) := by
  unfold RdT at h
  exact h
theorem RdT.mk {H : Hp} {a : Addr} {xs : List V} (h : Rd H a (.tup xs)) : RdT H a xs := by
  unfold RdT
  exact h
theorem RdT.of {H : Hp} {a : Addr} {xs : List V} (h : H a = some (.tup xs)) : RdT H a xs := .mk (.inl h)
theorem sqt {K : PySem.W.Frag} {H : Hp} {a : Addr} {xs : List V} (h : RdT H a xs) : SqT K H a xs := .inl h.rd
mutual
def Rp (H : Hp) (O : OS) : D → V → Prop
  | .none, v => v = .non
  | .bool b, v => v = .bl b
  | .int i, v => v = .int i
  | .str x, v => v = .str x
  | .list ds, v => ∃ a xs, v = .ref a ∧ ¬ O a ∧ H a = some (.lst xs) ∧ RpL H O ds xs
  | .tuple ds, v => ∃ a xs, v = .ref a ∧ ¬ O a ∧ RdT H a xs ∧ RpL H O ds xs
  | .dict es, v => ∃ a u, v = .ref a ∧ ¬ O a ∧ H a = some u ∧ ((∃ kvs, u = .dK kvs ∧ RpK H O es kvs) ∨ (∃ xs, u = .ext (NDφ a xs) ∧ xs ≠ [] ∧ RpN H O es xs) ∨ RpJ H O a es u)
def RpL (H : Hp) (O : OS) : List D → List V → Prop
  | [], vs => vs = []
  | d :: ds, vs => ∃ v r, vs = v :: r ∧ Rp H O d v ∧ RpL H O ds r
def RpK (H : Hp) (O : OS) : List (D × D) → List (Key × V) → Prop
  | [], kvs => kvs = []
  | (k, d) :: es, kvs => ∃ key v r, kvs = (key, v) :: r ∧ k = keyD key ∧ Rp H O d v ∧ RpK H O es r
def RpN (H : Hp) (O : OS) : List (D × D) → List (NEnt) → Prop
  | [], xs => xs = []
  | (k, d) :: es, xs => ∃ key p v r, xs = ⟨key, p, v⟩ :: r ∧ k = key.data ∧ KeyP key ∧ Rp H O k (.ref p) ∧ Rp H O d v ∧ RpN H O es r
/-- an instance: its class's address under {} (no key of a dict), its attributes -/
def RpJ (H : Hp) (O : OS) : Addr → List (D × D) → HO → Prop
  | _, [], _ => False
  | a, (k, d) :: es, u => k = .dict [] ∧ ((∃ C dx fs, d = .int ((C : Nat) : Int) ∧ u = .ins C dx fs ∧ RpI H O es fs) ∨ (∃ C n dd fs, d = .tuple [.int ((C : Nat) : Int), .str n] ∧ u = exo a C dd ∧ ((dd = none ∧ es = []) ∨ ∃ p, dd = some p ∧ ¬ O p ∧ H p = some (exd p fs)) ∧ RpF H O es fs))
/-- an exception's fields -/
def RpF (H : Hp) (O : OS) : List (D × D) → List (Str × V) → Prop
  | [], _ => True
  | (k, d) :: es, fs => ∃ n v, fs.lookup n = some v ∧ k = .str n ∧ Rp H O d v ∧ RpF H O es fs
def RpI (H : Hp) (O : OS) : List (D × D) → List (Str × V) → Prop
  | [], fs => fs = []
  | (k, d) :: es, fs => ∃ n v r, fs = (n, v) :: r ∧ k = .str n ∧ Rp H O d v ∧ RpI H O es r
end
/-- a dict's data and what stands at its place -/
def RpE (H : Hp) (O : OS) (a : Addr) (es : List (D × D)) (u : HO) : Prop := (∃ kvs, u = .dK kvs ∧ RpK H O es kvs) ∨ (∃ xs, u = .ext (NDφ a xs) ∧ xs ≠ [] ∧ RpN H O es xs) ∨ RpJ H O a es u
/-- the data of a law's own state: [sheet, what stood, what is taken back], the two lists its own -/
def stD (s : D) (st tk : List D) : D := .dict [(.dict [], .none), (.none, s), (.none, .list st), (.none, .list tk)]
def StE (es : List (D × D)) : Prop := ∃ r, es = (.dict [], .none) :: r
/-- what is borrowed -/
def NbC (H : Hp) (O : OS) : D → V → Prop
  | .list ds, v => ∃ a xs, v = .ref a ∧ H a = some (.lst xs) ∧ RpL H O ds xs
  | .tuple ds, v => ∃ a xs, v = .ref a ∧ RdT H a xs ∧ RpL H O ds xs
  | .dict es, v => ∃ a u, v = .ref a ∧ H a = some u ∧ RpE H O a es u
  | .none, v => v = .non
  | .bool b, v => v = .bl b
  | .int i, v => v = .int i
  | .str x, v => v = .str x
/-- what is read may lie in O itself, its parts not -/
def Nb (H : Hp) (O : OS) : D → V → Prop
  | .list ds, v => ∃ a xs, v = .ref a ∧ H a = some (.lst xs) ∧ RpL H O ds xs
  | .tuple ds, v => ∃ a xs, v = .ref a ∧ RdT H a xs ∧ RpL H O ds xs
  | .dict es, v => ∃ a u, v = .ref a ∧ H a = some u ∧ (RpE H O a es u ∨ StE es)
  | .none, v => v = .non
  | .bool b, v => v = .bl b
  | .int i, v => v = .int i
  | .str x, v => v = .str x
/-- a list or dict that may be changed -/
def Ow (H : Hp) (O : OS) : D → V → Prop
  | .list ds, v => ∃ a xs, v = .ref a ∧ O a ∧ H a = some (.lst xs) ∧ RpL H O ds xs
  | .dict es, v => ∃ a u, v = .ref a ∧ O a ∧ H a = some u ∧ RpE H O a es u
  | _, _ => False
/-- a law's own state: its list at a, the inner ones at a1, a2 -/
def OwS (H : Hp) (O : OS) (d : D) (v : V) : Prop := ∃ (s : D) (st tk : List D) (a a1 a2 : Addr) (vs : V) (xs1 xs2 : List V), d = stD s st tk ∧ v = .ref a ∧ (O.m a ∧ O.m a1 ∧ O.m a2) ∧ (a ≠ a1 ∧ a ≠ a2 ∧ a1 ≠ a2) ∧
  H a = some (.lst [vs, .ref a1, .ref a2]) ∧ Rp H O s vs ∧ (H a1 = some (.lst xs1) ∧ RpL H O st xs1) ∧ H a2 = some (.lst xs2) ∧ RpL H O tk xs2
theorem Rp.nbC {H : Hp} {O : OS} : ∀ {d : D} {v : V}, Rp H O d v → NbC H O d v
  | .none, _, h => h
  | .bool _, _, h => h
  | .int _, _, h => h
  | .str _, _, h => h
  | .list _, _, ⟨a, xs, e, _, r, q⟩ => ⟨a, xs, e, r, q⟩
  | .tuple _, _, ⟨a, xs, e, _, r, q⟩ => ⟨a, xs, e, r, q⟩
  | .dict _, _, ⟨a, u, e, _, r, q⟩ => ⟨a, u, e, r, q⟩
theorem Ow.nbC {H : Hp} {O : OS} : ∀ {d : D} {v : V}, Ow H O d v → NbC H O d v
  | .none, _, h => h.elim
  | .bool _, _, h => h.elim
  | .int _, _, h => h.elim
  | .str _, _, h => h.elim
  | .tuple _, _, h => h.elim
  | .list _, _, ⟨a, xs, e, _, r, q⟩ => ⟨a, xs, e, r, q⟩
  | .dict _, _, ⟨a, u, e, _, r, q⟩ => ⟨a, u, e, r, q⟩
theorem NbC.nb {H : Hp} {O : OS} : ∀ {d : D} {v : V}, NbC H O d v → Nb H O d v
  | .none, _, h => h
  | .bool _, _, h => h
  | .int _, _, h => h
  | .str _, _, h => h
  | .list _, _, h => h
  | .tuple _, _, h => h
  | .dict _, _, ⟨a, u, e, r, q⟩ => ⟨a, u, e, r, .inl q⟩
theorem Rp.nb {H : Hp} {O : OS} {d : D} {v : V} (h : Rp H O d v) : Nb H O d v := h.nbC.nb
theorem Ow.nb {H : Hp} {O : OS} {d : D} {v : V} (h : Ow H O d v) : Nb H O d v := h.nbC.nb
theorem OwS.nb {H : Hp} {O : OS} {d : D} {v : V} (h : OwS H O d v) : Nb H O d v := by
  obtain ⟨s, st, tk, a, a1, a2, vs, xs1, xs2, rfl, e, _, _, h1, _⟩ := h
  exact ⟨a, _, e, h1, .inr ⟨_, rfl⟩⟩
theorem hp_some {H : Hp} {a : Addr} {u : HO} (r : H a = some u) : H a ≠ none := by rw [r]; exact fun z => nomatch z
theorem rd_some {H : Hp} {a : Addr} {xs : List V} (r : RdT H a xs) : H a ≠ none := by
  rcases r.rd with r | ⟨o, r⟩ <;> exact hp_some r
theorem rd_keep {H H' : Hp} {a : Addr} {xs : List V} (k : ∀ o, H a = some o → H' a = some o) (r : RdT H a xs) : RdT H' a xs := by
  rcases r.rd with r | ⟨o, r⟩
  · exact .mk (.inl (k _ r))
  · exact .mk (.inr ⟨o, k _ r⟩)
section
variable {H H' : Hp} {O O' : OS} (k : ∀ a o, H a = some o → ¬ O a → H' a = some o) (w : ∀ a, O' a → O a ∨ H a = none)
include k w
mutual
theorem Rp.ext : ∀ {d : D} {v : V}, Rp H O d v → Rp H' O' d v
  | .none, _, h => h
  | .bool _, _, h => h
  | .int _, _, h => h
  | .str _, _, h => h
  | .list ds, _, ⟨a, xs, e, n, r, q⟩ => ⟨a, xs, e, fun z => (w a z).elim n (hp_some r), k _ _ r n, RpL.ext q⟩
  | .tuple ds, _, ⟨a, xs, e, n, r, q⟩ => ⟨a, xs, e, fun z => (w a z).elim n (rd_some r), rd_keep (fun o z => k _ o z n) r, RpL.ext q⟩
  | .dict es, _, ⟨a, u, e, n, r, .inl ⟨kvs, eu, q⟩⟩ => ⟨a, u, e, fun z => (w a z).elim n (hp_some r), k _ _ r n, .inl ⟨kvs, eu, RpK.ext q⟩⟩
  | .dict es, _, ⟨a, u, e, n, r, .inr (.inl ⟨xs, eu, ne, q⟩)⟩ => ⟨a, u, e, fun z => (w a z).elim n (hp_some r), k _ _ r n, .inr (.inl ⟨xs, eu, ne, RpN.ext q⟩)⟩
  | .dict es, _, ⟨a, u, e, n, r, .inr (.inr q)⟩ => ⟨a, u, e, fun z => (w a z).elim n (hp_some r), k _ _ r n, .inr (.inr (RpJ.ext q))⟩
theorem RpL.ext : ∀ {ds : List D} {vs : List V}, RpL H O ds vs → RpL H' O' ds vs
  | [], _, h => h
  | _ :: _, _, ⟨v, r, e, h, q⟩ => ⟨v, r, e, Rp.ext h, RpL.ext q⟩
theorem RpK.ext : ∀ {es : List (D × D)} {kvs : List (Key × V)}, RpK H O es kvs → RpK H' O' es kvs
  | [], _, h => h
  | (_, _) :: _, _, ⟨key, v, r, e, e2, h, q⟩ => ⟨key, v, r, e, e2, Rp.ext h, RpK.ext q⟩
theorem RpN.ext : ∀ {es : List (D × D)} {xs : List NEnt}, RpN H O es xs → RpN H' O' es xs
  | [], _, h => h
  | (_, _) :: _, _, ⟨key, p, v, r, e, e2, e3, hk, h, q⟩ => ⟨key, p, v, r, e, e2, e3, Rp.ext hk, Rp.ext h, RpN.ext q⟩
theorem RpJ.ext : ∀ {a : Addr} {es : List (D × D)} {u : HO}, RpJ H O a es u → RpJ H' O' a es u
  | _, [], _, h => h
  | _, (_, _) :: _, _, ⟨e, .inl ⟨C, dx, fs, e2, e3, q⟩⟩ => ⟨e, .inl ⟨C, dx, fs, e2, e3, RpI.ext q⟩⟩
  | _, (_, _) :: _, _, ⟨e, .inr ⟨C, n, dd, fs, e2, e3, .inl z, q⟩⟩ => ⟨e, .inr ⟨C, n, dd, fs, e2, e3, .inl z, RpF.ext q⟩⟩
  | _, (_, _) :: _, _, ⟨e, .inr ⟨C, n, dd, fs, e2, e3, .inr ⟨p, e4, no, hp⟩, q⟩⟩ => ⟨e, .inr ⟨C, n, dd, fs, e2, e3, .inr ⟨p, e4, fun z => (w p z).elim no (hp_some hp), k _ _ hp no⟩, RpF.ext q⟩⟩
theorem RpF.ext : ∀ {es : List (D × D)} {fs : List (Str × V)}, RpF H O es fs → RpF H' O' es fs
  | [], _, h => h
  | (_, _) :: _, _, ⟨n, v, l, e, h, q⟩ => ⟨n, v, l, e, Rp.ext h, RpF.ext q⟩
theorem RpI.ext : ∀ {es : List (D × D)} {fs : List (Str × V)}, RpI H O es fs → RpI H' O' es fs
  | [], _, h => h
  | (_, _) :: _, _, ⟨n, v, r, e, e2, h, q⟩ => ⟨n, v, r, e, e2, Rp.ext h, RpI.ext q⟩
end
theorem RpE.ext {a : Addr} {es : List (D × D)} {u : HO} : RpE H O a es u → RpE H' O' a es u
  | .inl ⟨kvs, eu, q⟩ => .inl ⟨kvs, eu, RpK.ext k w q⟩
  | .inr (.inl ⟨xs, eu, ne, q⟩) => .inr (.inl ⟨xs, eu, ne, RpN.ext k w q⟩)
  | .inr (.inr q) => .inr (.inr (RpJ.ext k w q))
theorem Ow.ext {d : D} {v : V} (kv : ∀ a o, v = .ref a → H a = some o → H' a = some o) (mo : ∀ a, O a → O' a) (h : Ow H O d v) : Ow H' O' d v := by
  match d, h with
  | .list _, ⟨a, xs, e, n, r, q⟩ => exact ⟨a, xs, e, mo a n, kv a _ e r, RpL.ext k w q⟩
  | .dict _, ⟨a, u, e, n, r, q⟩ => exact ⟨a, u, e, mo a n, kv a _ e r, RpE.ext k w q⟩
end
/-- fewer things to be avoided -/
theorem Rp.anti {H : Hp} {O O' : OS} (w : ∀ a, O' a → O a) {d : D} {v : V} (h : Rp H O d v) : Rp H O' d v := Rp.ext (fun _ _ e _ => e) (fun a z => .inl (w a z)) h
theorem RpL.anti {H : Hp} {O O' : OS} (w : ∀ a, O' a → O a) {d : List D} {v : List V} (h : RpL H O d v) : RpL H O' d v := RpL.ext (fun _ _ e _ => e) (fun a z => .inl (w a z)) h
theorem RpE.anti {H : Hp} {O O' : OS} (w : ∀ a, O' a → O a) {a : Addr} {d : List (D × D)} {v : HO} (h : RpE H O a d v) : RpE H O' a d v := RpE.ext (fun _ _ e _ => e) (fun a z => .inl (w a z)) h
theorem Nb.anti {H : Hp} {O O' : OS} (w : ∀ a, O' a → O a) : ∀ {d : D} {v : V}, Nb H O d v → Nb H O' d v
  | .none, _, h => h
  | .bool _, _, h => h
  | .int _, _, h => h
  | .str _, _, h => h
  | .list _, _, ⟨a, xs, e, r, q⟩ => ⟨a, xs, e, r, RpL.anti w q⟩
  | .tuple _, _, ⟨a, xs, e, r, q⟩ => ⟨a, xs, e, r, RpL.anti w q⟩
  | .dict _, _, ⟨a, u, e, r, q⟩ => ⟨a, u, e, r, q.imp_left (RpE.anti w)⟩
theorem NbC.anti {H : Hp} {O O' : OS} (w : ∀ a, O' a → O a) : ∀ {d : D} {v : V}, NbC H O d v → NbC H O' d v
  | .none, _, h => h
  | .bool _, _, h => h
  | .int _, _, h => h
  | .str _, _, h => h
  | .list _, _, ⟨a, xs, e, r, q⟩ => ⟨a, xs, e, r, RpL.anti w q⟩
  | .tuple _, _, ⟨a, xs, e, r, q⟩ => ⟨a, xs, e, r, RpL.anti w q⟩
  | .dict _, _, ⟨a, u, e, r, q⟩ => ⟨a, u, e, r, RpE.anti w q⟩
theorem Nb.rpN {H : Hp} {O : OS} : ∀ {d : D} {v : V}, (∀ es, d ≠ .dict es) → Nb H O d v → (∀ a, v = .ref a → ¬ O a) → Rp H O d v
  | .none, _, _, h, _ => h
  | .bool _, _, _, h, _ => h
  | .int _, _, _, h, _ => h
  | .str _, _, _, h, _ => h
  | .list _, _, _, ⟨a, xs, e, r, q⟩, n => ⟨a, xs, e, n a e, r, q⟩
  | .tuple _, _, _, ⟨a, xs, e, r, q⟩, n => ⟨a, xs, e, n a e, r, q⟩
  | .dict es, _, k, _, _ => (k es rfl).elim
/-- what is no longer avoided is clean -/
theorem Ow.toRp {H : Hp} {O O' : OS} (w : ∀ a, O' a → O a) : ∀ {d : D} {v : V}, Ow H O d v → (∀ a, v = .ref a → ¬ O' a) → Rp H O' d v
  | .none, _, h, _ => h.elim
  | .bool _, _, h, _ => h.elim
  | .int _, _, h, _ => h.elim
  | .str _, _, h, _ => h.elim
  | .tuple _, _, h, _ => h.elim
  | .list _, _, ⟨a, xs, e, _, r, q⟩, n => ⟨a, xs, e, n a e, r, RpL.anti w q⟩
  | .dict _, _, ⟨a, u, e, _, r, q⟩, n => ⟨a, u, e, n a e, r, RpE.anti w q⟩
theorem OwS.ext {H H' : Hp} {O O' : OS} (k : ∀ a o, H a = some o → ¬ O a → H' a = some o) (w : ∀ a, O' a → O a ∨ H a = none) (km : ∀ a o, O.m a → H a = some o → H' a = some o) (mm : ∀ a, O.m a → O'.m a) {d : D} {v : V} (h : OwS H O d v) : OwS H' O' d v := by
  obtain ⟨s, st, tk, a, a1, a2, vs, xs1, xs2, ed, e, ⟨m0, m1, m2⟩, ne, h1, r, ⟨h2, q1⟩, h3, q2⟩ := h
  exact ⟨s, st, tk, a, a1, a2, vs, xs1, xs2, ed, e, ⟨mm _ m0, mm _ m1, mm _ m2⟩, ne, km _ _ m0 h1, Rp.ext k w r, ⟨km _ _ m1 h2, RpL.ext k w q1⟩, km _ _ m2 h3, RpL.ext k w q2⟩
inductive Kd where
  | val | brw | own | io | st | sl
  deriving DecidableEq
def Kd.mut : Kd → Bool
  | .own => true
  | .io => true
  | _ => false
structure Gx where
  κ : List Kd
  H0 : Hp
  O0 : OS
  io : List (Nat × Addr)
  hold : List (D × V)
  fr : Bool
  fz : Option St
def SlotOk (H : Hp) (O : OS) (k : Kd) (d : D) (v : V) : Prop := match k with
  | .val => Rp H O d v
  | .brw => NbC H O d v
  | .own => Ow H O d v
  | .io => Ow H O d v
  | .st => OwS H O d v
  | .sl => OwS H O d v
def mu (κ : List Kd) (i : Nat) : Prop := κ[i]? = some .own ∨ κ[i]? = some .io
def SlotAt (κ : List Kd) (σ : St) (a : Addr) : Prop := ∃ i, mu κ i ∧ σ[i]? = some (some (.ref a))
def OwnAt (O : OS) (κ : List Kd) (σ : St) (a : Addr) : Prop := SlotAt κ σ a ∨ O.m a
structure Abs (g : Gx) (O : OS) (H : Hp) (σ : St) (ε : En) : Prop where
  slot : ∀ (i : Nat) (d : D), ε[i]? = some (some d) → ∃ v k, σ[i]? = some (some v) ∧ g.κ[i]? = some k ∧ SlotOk H O k d v
  ownO : ∀ a, OwnAt O g.κ σ a → O a
  apm : ∀ (i : Nat) (a : Addr), mu g.κ i → σ[i]? = some (some (.ref a)) → ¬ O.m a
  apart : ∀ (i j : Nat) (a : Addr), mu g.κ i → mu g.κ j → σ[i]? = some (some (.ref a)) → σ[j]? = some (some (.ref a)) → i = j
  brwA : ∀ (i : Nat) (b : Addr), g.κ[i]? = some .brw → σ[i]? = some (some (.ref b)) → g.H0 b ≠ none ∧ (∀ j : Nat, (j, b) ∉ g.io) ∧ ¬ g.O0.m b
  new : ∀ (i : Nat) (a : Addr), g.κ[i]? = some .own → σ[i]? = some (some (.ref a)) → g.H0 a = none
  newm : ∀ a, O.m a → g.H0 a = none ∨ g.O0.m a
  has : ∀ a, O a → H a ≠ none
  has0 : ∀ a, g.O0 a → g.H0 a ≠ none
  sub : ∀ a, g.O0 a → O a
  subm : ∀ a, g.O0.m a → O.m a
  ioO : ∀ (i : Nat) (a : Addr), (i, a) ∈ g.io → g.O0 a
  ioK : ∀ (i : Nat) (a : Addr), (i, a) ∈ g.io → g.κ[i]? = some .io ∨ g.κ[i]? = some .st
  ioS : ∀ (i : Nat) (a : Addr), (i, a) ∈ g.io → σ[i]? = some (some (.ref a))
  ioA : ∀ (i : Nat), g.κ[i]? = some .io → ∃ a, (i, a) ∈ g.io
  fr : ∀ b o, g.H0 b = some o → (∀ i, (i, b) ∉ g.io) → ¬ g.O0.m b → H b = some o
  hold : ∀ p ∈ g.hold, Rp H O p.1 p.2
  len : ε.length = σ.length
  lenK : g.κ.length = σ.length
  fz : ∀ σ0, g.fz = some σ0 → ∀ i : Nat, g.κ[i]? = some .brw → σ[i]? = σ0[i]?
structure Ext (κ : List Kd) (σ : St) (O : OS) (H : Hp) (O' : OS) (H' : Hp) : Prop where
  keep : ∀ a o, H a = some o → ¬ OwnAt O κ σ a → H' a = some o
  own : ∀ a, O' a → O a ∨ H a = none
  mono : ∀ a, O a → O' a
  some : ∀ a, H a ≠ none → H' a ≠ none
  ownm : ∀ a, O'.m a → O.m a ∨ H a = none
  monom : ∀ a, O.m a → O'.m a
theorem Ext.refl {κ : List Kd} {σ : St} {O : OS} {H : Hp} : Ext κ σ O H O H := ⟨fun _ _ e _ => e, fun _ z => .inl z, fun _ z => z, fun _ z => z, fun _ z => .inl z, fun _ z => z⟩
theorem Ext.trans {κ : List Kd} {σ : St} {O O1 O2 : OS} {H H1 H2 : Hp} (x : Ext κ σ O H O1 H1) (y : Ext κ σ O1 H1 O2 H2) : Ext κ σ O H O2 H2 :=
  ⟨fun a o e n => y.keep a o (x.keep a o e n) fun z => n (z.imp_right fun z => (x.ownm a z).elim id fun z => nomatch (e.symm.trans z)), fun a z => (y.own a z).elim (fun z => x.own a z) fun z => .inr (Classical.byContradiction fun q => x.some a q z), fun a z => y.mono a (x.mono a z), fun a z => y.some a (x.some a z), fun a z => (y.ownm a z).elim (fun z => x.ownm a z) fun z => .inr (Classical.byContradiction fun q => x.some a q z), fun a z => y.monom a (x.monom a z)⟩
section
variable {g : Gx} {O O' : OS} {H H' : Hp} {σ : St} {ε ε' : En}
theorem Abs.unown (A : Abs g O H σ ε) {a : Addr} (n : ¬ O a) : ¬ OwnAt O g.κ σ a := fun z => n (A.ownO a z)
theorem Abs.rp (A : Abs g O H σ ε) (x : Ext g.κ σ O H O' H') {d : D} {v : V} (h : Rp H O d v) : Rp H' O' d v :=
  Rp.ext (fun a o e n => x.keep a o e (A.unown n)) x.own h
theorem Abs.rpL (A : Abs g O H σ ε) (x : Ext g.κ σ O H O' H') {d : List D} {v : List V} (h : RpL H O d v) : RpL H' O' d v :=
  RpL.ext (fun a o e n => x.keep a o e (A.unown n)) x.own h
theorem Abs.nh (A : Abs g O H σ ε) {a : Addr} (h : H a = none) : ¬ O a := fun z => A.has a z h
/-- avoided, but no part of a law's own state -/
def OS.sl (O : OS) (p : Addr) : Prop := O p ∧ ¬ O.m p
theorem Abs.nm (A : Abs g O H σ ε) {a : Addr} (h : H a = none) : ¬ O.m a := fun z => A.nh h (A.ownO a (.inr z))
theorem Abs.unslot (A : Abs g O H σ ε) {a : Addr} (h : H a = none) : ¬ SlotAt g.κ σ a := fun z => A.nh h (A.ownO a (.inl z))
theorem Ext.sl {κ : List Kd} {σ : St} {O O' : OS} {H H' : Hp} (x : Ext κ σ O H O' H') {p : Addr} (h : O.sl p) (hn : H p ≠ none) : O'.sl p := ⟨x.mono p h.1, fun z => (x.ownm p z).elim h.2 hn⟩
/-- a new thing stands in no slot -/
theorem Abs.unownN {g : Gx} {O O' : OS} {H : Hp} {σ : St} {ε : En} (A : Abs g O H σ ε) {p : Addr} (np : H p = none) (hp : O'.sl p) : ¬ OwnAt O' g.κ σ p := fun z => z.elim (fun z => A.nh np (A.ownO p (.inl z))) hp.2
theorem Abs.n0 (A : Abs g O H σ ε) {a : Addr} (h : H a = none) : g.H0 a = none := by
  cases e : g.H0 a with
  | none => rfl
  | some o =>
    exfalso
    by_cases q : ∃ i, (i, a) ∈ g.io
    · obtain ⟨i, q⟩ := q
      exact A.has a (A.sub a (A.ioO i a q)) h
    · rw [A.fr a o e (fun i z => q ⟨i, z⟩) fun z => A.has a (A.ownO a (.inr (A.subm a z))) h] at h
      cases h
theorem Abs.nO0 (A : Abs g O H σ ε) {a : Addr} (h : H a = none) : ¬ g.O0 a := fun z => A.nh h (A.sub a z)
theorem SlotOk.nb {k : Kd} {d : D} {v : V} (h : SlotOk H O k d v) : Nb H O d v := by
  cases k with
  | val => exact Rp.nb h
  | brw => exact NbC.nb h
  | own => exact Ow.nb h
  | io => exact Ow.nb h
  | st => exact OwS.nb h
  | sl => exact OwS.nb h
theorem SlotOk.same {k : Kd} {d : D} {v : V} (s : Same H H') (w : ∀ a, O' a → O a ∨ H a = none) (mo : ∀ a, O a → O' a) (mm : ∀ a, O.m a → O'.m a) (h : SlotOk H O k d v) : SlotOk H' O' k d v := by
  cases k with
  | val => exact Rp.ext (fun a o e _ => s a o e) w h
  | own => exact Ow.ext (fun a o e _ => s a o e) w (fun a o _ e => s a o e) mo h
  | io => exact Ow.ext (fun a o e _ => s a o e) w (fun a o _ e => s a o e) mo h
  | st => exact OwS.ext (fun a o e _ => s a o e) w (fun a o _ e => s a o e) mm h
  | sl => exact OwS.ext (fun a o e _ => s a o e) w (fun a o _ e => s a o e) mm h
  | brw =>
    match d, h with
    | .none, h => exact h
    | .bool _, h => exact h
    | .int _, h => exact h
    | .str _, h => exact h
    | .list _, ⟨a, xs, e, r, q⟩ => exact ⟨a, xs, e, s _ _ r, RpL.ext (fun a o e _ => s a o e) w q⟩
    | .tuple _, ⟨a, xs, e, r, q⟩ => exact ⟨a, xs, e, rd_keep (fun o z => s _ o z) r, RpL.ext (fun a o e _ => s a o e) w q⟩
    | .dict _, ⟨a, u, e, r, q⟩ => exact ⟨a, u, e, s _ _ r, RpE.ext (fun a o e _ => s a o e) w q⟩
theorem Same.some (s : Same H H') (a : Addr) (h : H a ≠ none) : H' a ≠ none := by
  cases e : H a with
  | none => exact (h e).elim
  | some o => rw [s a o e]; exact fun z => nomatch z
/-- all objects are kept; more may be avoided, of what is new -/
theorem Abs.same' (A : Abs g O H σ ε) (s : Same H H') (w : ∀ a, O' a → O a ∨ (H a = none ∧ H' a ≠ none)) (mo : ∀ a, O a → O' a) (hm : ∀ a, O'.m a ↔ O.m a := by exact fun _ => Iff.rfl) : Abs g O' H' σ ε :=
  have w' : ∀ a, O' a → O a ∨ H a = none := fun a z => (w a z).imp_right (·.1)
  { A with
    slot := fun i d e => let ⟨v, k, e1, e2, h⟩ := A.slot i d e; ⟨v, k, e1, e2, h.same s w' mo fun a => (hm a).mpr⟩
    ownO := fun a z => mo a (A.ownO a (z.imp_right (hm a).mp))
    apm := fun i a h e z => A.apm i a h e ((hm a).mp z)
    newm := fun a z => A.newm a ((hm a).mp z)
    has := fun a z => (w a z).elim (fun z => Same.some s a (A.has a z)) fun z => z.2
    sub := fun a z => mo a (A.sub a z)
    subm := fun a z => (hm a).mpr (A.subm a z)
    fr := fun b o e n n2 => s b o (A.fr b o e n n2)
    hold := fun p hp => Rp.ext (fun a o e _ => s a o e) w' (A.hold p hp) }
theorem Abs.same (A : Abs g O H σ ε) (s : Same H H') : Abs g O H' σ ε := A.same' s (fun _ z => .inl z) fun _ z => z
theorem Ext.same {κ : List Kd} (s : Same H H') : Ext κ σ O H O H' := ⟨fun a o e _ => s a o e, fun _ z => .inl z, fun _ z => z, fun a => Same.some s a, fun _ z => .inl z, fun _ z => z⟩
def OS.add (O : OS) (p : Addr) : OS := ⟨fun a => a = p ∨ O a, O.m⟩
theorem OS.add_or {O : OS} {p a : Addr} (h : (OS.add O p) a) : a = p ∨ O a := h
theorem OS.add_of {O : OS} {p a : Addr} (h : O a) : (OS.add O p) a := .inr h
theorem same_upd {p : Addr} {o : HO} (h : H p = none) : Same H (upd H p o) := fun b u e => by rw [upd_ne (ne_of_none e h)]; exact e
theorem Abs.add (A : Abs g O H σ ε) {p : Addr} {o : HO} (h : H p = none) : Abs g (OS.add O p) (upd H p o) σ ε :=
  A.same' (same_upd h) (fun a z => (OS.add_or z).elim (fun e => .inr (by subst e; exact ⟨h, by rw [upd_same]; exact fun z => nomatch z⟩)) .inl) fun _ z => OS.add_of z
theorem Ext.add {κ : List Kd} {p : Addr} {o : HO} (h : H p = none) : Ext κ σ O H (OS.add O p) (upd H p o) :=
  ⟨fun a o e _ => same_upd h a o e, fun a z => (OS.add_or z).elim (fun e => .inr (by subst e; exact h)) .inl, fun _ z => OS.add_of z, fun a => Same.some (same_upd h) a, fun _ z => .inl z, fun _ z => z⟩
theorem Abs.addSl (A : Abs g O H σ ε) {p : Addr} (h : H p = none) : (OS.add O p).sl p := ⟨.inl rfl, A.nm h⟩
def OS.drop (O : OS) (p : Addr) : OS := ⟨fun a => O a ∧ a ≠ p, O.m⟩
theorem OS.drop_1 {O : OS} {p a : Addr} (h : (OS.drop O p) a) : O a := h.1
theorem Abs.drop (A : Abs g O H σ ε) {p : Addr} (n : ¬ OwnAt O g.κ σ p) (n0 : ¬ g.O0 p) : Abs g (OS.drop O p) H σ ε :=
  { A with
    slot := fun i d e => by
      obtain ⟨v, k, e1, e2, h⟩ := A.slot i d e
      refine ⟨v, k, e1, e2, ?_⟩
      have ow : ∀ {d : D} {v : V}, Ow H O d v → (∀ a, v = .ref a → a ≠ p) → Ow H (OS.drop O p) d v := fun {d v} h q => by
        match d, h with
        | .list _, ⟨a, xs, e, n, r, q'⟩ => exact ⟨a, xs, e, ⟨n, q a e⟩, r, RpL.anti (fun _ z => OS.drop_1 z) q'⟩
        | .dict _, ⟨a, u, e, n, r, q'⟩ => exact ⟨a, u, e, ⟨n, q a e⟩, r, RpE.anti (fun _ z => OS.drop_1 z) q'⟩
      cases k with
      | val => exact Rp.anti (fun _ z => OS.drop_1 z) h
      | brw => exact NbC.anti (fun _ z => OS.drop_1 z) h
      | own => exact ow h fun a ea z => n (.inl ⟨i, .inl e2, by rw [e1, ea, z]⟩)
      | io => exact ow h fun a ea z => n (.inl ⟨i, .inr e2, by rw [e1, ea, z]⟩)
      | st => exact OwS.ext (fun _ _ e _ => e) (fun _ z => .inl (OS.drop_1 z)) (fun _ _ _ e => e) (fun _ z => z) h
      | sl => exact OwS.ext (fun _ _ e _ => e) (fun _ z => .inl (OS.drop_1 z)) (fun _ _ _ e => e) (fun _ z => z) h
    ownO := fun a z => ⟨A.ownO a z, fun e => n (e ▸ z)⟩
    has := fun a z => A.has a z.1
    sub := fun a z => ⟨A.sub a z, fun e => n0 (e ▸ z)⟩
    hold := fun p hp => Rp.anti (fun _ z => OS.drop_1 z) (A.hold p hp) }
theorem Abs.get (A : Abs g O H σ ε) {i : Nat} {d : D} (e : ε[i]? = some (some d)) : ∃ v, σ[i]? = some (some v) ∧ Nb H O d v :=
  let ⟨v, _, e1, _, h⟩ := A.slot i d e
  ⟨v, e1, h.nb⟩
end
end DL
namespace DL
open PySem PySem.Spec L2
/-- what is raised -/
structure Exn where
  cls : Str
  fs : List (Str × D)
abbrev RX := Exn → En → Prop
/-- objects that stand, data that is held -/
structure Kn where
  os : List (Addr × HO)
  ds : List (D × V)
def KnOk (k : Kn) (g : Gx) : Prop := (∀ p ∈ k.os, g.H0 p.1 = some p.2 ∧ ∀ i, (i, p.1) ∉ g.io) ∧ ∀ p ∈ k.ds, p ∈ g.hold
structure CxD extends L2.Cx where
  rx : RX
  kn : Kn
instance : Coe CxD L2.Cx := ⟨CxD.toCx⟩
/-- an exception over data: its class by name, its fields -/
def XR (mg : Str → Option Value) (x : Exn) (cls : Value) (d : Option Addr) (H : Hp) (O : OS) : Prop :=
  (∃ C, cls = .ref C ∧ mg x.cls = some (.ref C)) ∧ match d with
  | none => x.fs = []
  | some a => ∃ fs : List (Str × V), H a = some (.xd fs) ∧ ¬ O a ∧ ∀ p ∈ x.fs, ∃ v, fs.lookup p.1 = some v ∧ Rp H O p.2 v
def WD (X : CxD) (g : Gx) : L2.WX := fun cls d σ H => ∃ O ε x, Abs g O H σ ε ∧ XR X.mg x cls d H O ∧ X.rx x ε
structure GX (X : CxD) extends Gx where
  tk : L2.Takes X.toCx (WD X toGx)
  gk : KnOk X.kn toGx
instance {X : CxD} : CoeOut (GX X) Gx := ⟨GX.toGx⟩
end DL
namespace DL
open PySem PySem.Spec L2
abbrev WE := En → (D → En → Prop) → Prop
abbrev WT := En → (Bool → En → Prop) → Prop
abbrev WA := En → (List (En → Option D) → En → Prop) → Prop
def Mono (w : WE) : Prop := ∀ ε Q Q', (∀ d ε', Q d ε' → Q' d ε') → w ε Q → w ε Q'
def MonoT (w : WT) : Prop := ∀ ε Q Q', (∀ d ε', Q d ε' → Q' d ε') → w ε Q → w ε Q'
def rdE (g : Gx) (w : WE) : TE := fun σ H Q => ∃ O ε, Abs g O H σ ε ∧ w ε fun d ε' => ∀ v H' O', Abs g O' H' σ ε' → Ext g.κ σ O H O' H' → Rp H' O' d v → Q v H'
def rdF (g : Gx) (w : WE) : TE := fun σ H Q => ∃ O ε, Abs g O H σ ε ∧ w ε fun d ε' => ∀ p H' O', Abs g O' H' σ ε' → Ext g.κ σ O H O' H' → O'.sl p → H p = none → Ow H' O' d (.ref p) → Q (.ref p) H'
def rdT (g : Gx) (w : WT) : TT := fun σ H Q => ∃ O ε, Abs g O H σ ε ∧ w ε fun b ε' => ∀ H' O', Abs g O' H' σ ε' → Ext g.κ σ O H O' H' → Q b H'
/-- an expression whose value is clean; one whose value is new; a test -/
structure DE (X : CxD) (κ : List Kd) (e : Expr) (w : WE) : Prop where
  pe : ∀ g : GX X, g.κ = κ → PE X e (rdE g w)
  mono : Mono w
structure DF (X : CxD) (κ : List Kd) (e : Expr) (w : WE) : Prop where
  pe : ∀ g : GX X, g.κ = κ → PE X e (rdF g w)
  mono : Mono w
structure DT (X : CxD) (κ : List Kd) (e : Expr) (w : WT) : Prop where
  pt : ∀ g : GX X, g.κ = κ → PT X e (rdT g w)
  mono : MonoT w
structure DW (X : CxD) (κ : List Kd) (e : Expr) (w : WT) : Prop where
  pw : ∀ g : GX X, g.κ = κ → PW X e (rdT g w)
  mono : MonoT w
/-- an operand: an expression, or a name, read when the operation is done -/
inductive Op where
  | ex (w : WE)
  | nm (i : Nat)
def slF (i : Nat) : En → Option D := fun ε => (ε[i]?).join
def oEv (o : Op) (ε : En) (Q : (En → Option D) → En → Prop) : Prop := match o with
  | .ex w => w ε fun d ε' => Q (fun _ => some d) ε'
  | .nm i => (∃ d, ε[i]? = some (some d)) ∧ Q (slF i) ε
def MonoO : Op → Prop
  | .ex w => Mono w
  | .nm _ => True
theorem oEv_mono {o : Op} (m : MonoO o) {ε : En} {Q Q' : (En → Option D) → En → Prop} (h : ∀ x ε', Q x ε' → Q' x ε') (q : oEv o ε Q) : oEv o ε Q' := by
  cases o with
  | ex w => exact m ε _ _ (fun d ε' z => h _ _ z) q
  | nm i => exact ⟨q.1, h _ _ q.2⟩
def OR (H : Hp) (O : OS) (σ : L2.St) (x : En → Option D) (v : V) : Prop := (∃ d, x = (fun _ => some d) ∧ Rp H O d v) ∨ ∃ i, x = slF i ∧ σ[i]? = some (some v)
theorem OR.ext {g : Gx} {O O' : OS} {H H' : Hp} {σ : L2.St} {ε : En} {x : En → Option D} {v : V} (A : Abs g O H σ ε) (k : Ext g.κ σ O H O' H') (h : OR H O σ x v) : OR H' O' σ x v :=
  h.imp (fun ⟨d, e, r⟩ => ⟨d, e, A.rp k r⟩) id
theorem OR.nb {g : Gx} {O : OS} {H : Hp} {σ : L2.St} {ε : En} {x : En → Option D} {v : V} {d : D} (A : Abs g O H σ ε) (h : OR H O σ x v) (e : x ε = some d) : Nb H O d v := by
  rcases h with ⟨d', rfl, r⟩ | ⟨i, rfl, s⟩
  · cases e
    exact r.nb
  · have e' : ε[i]? = some (some d) := by
      unfold slF at e
      cases q : ε[i]? with
      | none => rw [q] at e; cases e
      | some o => rw [q] at e; exact congrArg some e
    obtain ⟨v', s', h⟩ := A.get e'
    rw [s] at s'
    cases s'
    exact h
def rdO (g : Gx) (o : Op) : TE := fun σ H Q => ∃ O ε, Abs g O H σ ε ∧ oEv o ε fun x ε' => ∀ v H' O', Abs g O' H' σ ε' → Ext g.κ σ O H O' H' → OR H' O' σ x v → Q v H'
structure DO (X : CxD) (κ : List Kd) (e : Expr) (o : Op) : Prop where
  pe : ∀ g : GX X, g.κ = κ → PE X e (rdO g o)
  mono : MonoO o
theorem _root_.L2.PE.imp {X : CxD} {e : Expr} {t t' : TE} (h : PE X e t) (k : ∀ σ H Q, t' σ H Q → t σ H Q) : PE X e t' := ⟨fun pins s σ H Q I q => h.run pins s σ H Q I (k _ _ _ q)⟩
theorem _root_.L2.PT.imp {X : CxD} {e : Expr} {t t' : TT} (h : PT X e t) (k : ∀ σ H Q, t' σ H Q → t σ H Q) : PT X e t' := ⟨fun pins s σ H Q I q => h.run pins s σ H Q I (k _ _ _ q)⟩
theorem _root_.L2.PW.imp {X : CxD} {e : Expr} {t t' : TT} (h : PW X e t) (k : ∀ σ H Q, t' σ H Q → t σ H Q) : PW X e t' := ⟨fun wh pins s σ H Q I q => h.run wh pins s σ H Q I (k _ _ _ q)⟩
theorem _root_.L2.PA.imp {X : CxD} {e : List Expr} {t t' : TA} (h : PA X e t) (k : ∀ σ H Q, t' σ H Q → t σ H Q) : PA X e t' := ⟨fun pos pins s σ H Q I q => h.run pos pins s σ H Q I (k _ _ _ q)⟩
theorem _root_.L2.PS.imp {X : CxD} {e : Stmt} {t t' : TS} (h : PS X e t) (k : ∀ D σ H, t' D σ H → t D σ H) : PS X e t' := ⟨fun pins s σ H D I q => h.run pins s σ H D I (k _ _ _ q)⟩
theorem _root_.L2.PSs.imp {X : CxD} {e : List Stmt} {t t' : TS} (h : PSs X e t) (k : ∀ D σ H, t' D σ H → t D σ H) : PSs X e t' := ⟨fun pins s σ H D I q => h.run pins s σ H D I (k _ _ _ q)⟩
section
variable {X : CxD} {κ : List Kd}
def eC (d : D) : WE := fun ε Q => Q d ε
def eNm (i : Nat) : WE := fun ε Q => ∃ d, ε[i]? = some (some d) ∧ Q d ε
theorem de_int {i : Int} {j pos} : DE X κ (.Constant (.int i) j pos) (eC (.int i)) :=
  ⟨fun g _ => pe_int.imp fun σ H Q ⟨O, ε, A, h⟩ => h _ H O A .refl rfl, fun _ _ _ h q => h _ _ q⟩
theorem de_str {i : Str} {j pos} : DE X κ (.Constant (.str i) j pos) (eC (.str i)) :=
  ⟨fun g _ => pe_str.imp fun σ H Q ⟨O, ε, A, h⟩ => h _ H O A .refl rfl, fun _ _ _ h q => h _ _ q⟩
theorem de_bl {i : Bool} {j pos} : DE X κ (.Constant (.bool i) j pos) (eC (.bool i)) :=
  ⟨fun g _ => pe_bl.imp fun σ H Q ⟨O, ε, A, h⟩ => h _ H O A .refl rfl, fun _ _ _ h q => h _ _ q⟩
theorem de_non {j pos} : DE X κ (.Constant .none j pos) (eC .none) :=
  ⟨fun g _ => pe_non.imp fun σ H Q ⟨O, ε, A, h⟩ => h _ H O A .refl rfl, fun _ _ _ h q => h _ _ q⟩
/-- a module's constant -/
theorem de_glob {x : Str} {u : Value} {pos : Pos} {d : D} {v : V} (hg : Gl X x) (hm : X.mg x = some u) (r : RelV v u) (hd : ∀ H O, Rp H O d v) (hdb : (x == ("__debug__" : Str)) = false := by decide) : DE X κ (.Name x pos) (eC d) :=
  ⟨fun g _ => (pe_glob hg hm r hdb).imp fun σ H Q ⟨O, ε, A, h⟩ => h _ H O A .refl (hd H O), fun _ _ _ h q => h _ _ q⟩
/-- a name of kind val -/
theorem de_nm (i : Nat) {x : Str} {pos : Pos} (hk : κ[i]? = some .val := by rfl) (hN : X.N[i]? = some x := by rfl) (hv : Vis X.env.scope x := by first | exact Or.inl rfl | exact Or.inr (Or.inl rfl) | exact Or.inr (Or.inr rfl)) (hd : (x == ("__debug__" : Str)) = false := by decide)
    (hcd : (x == ("__classdict__" : Str)) = false := by decide) : DE X κ (.Name x pos) (eNm i) :=
  ⟨fun g hg => (pe_var hN hv hd hcd).imp fun σ H Q ⟨O, ε, A, d, e, h⟩ => by
    obtain ⟨v, k, e1, e2, s⟩ := A.slot i d e
    rw [hg, hk] at e2
    cases e2
    exact ⟨v, e1, h v H O A .refl s⟩, fun ε Q Q' h ⟨d, e, q⟩ => ⟨d, e, h _ _ q⟩⟩
/-- a name as an operand -/
theorem do_nm (i : Nat) {x : Str} {pos : Pos} (hN : X.N[i]? = some x := by rfl) (hv : Vis X.env.scope x := by first | exact Or.inl rfl | exact Or.inr (Or.inl rfl) | exact Or.inr (Or.inr rfl)) (hd : (x == ("__debug__" : Str)) = false := by decide)
    (hcd : (x == ("__classdict__" : Str)) = false := by decide) : DO X κ (.Name x pos) (.nm i) :=
  ⟨fun g hg => (pe_var hN hv hd hcd).imp fun σ H Q ⟨O, ε, A, ⟨d, e⟩, h⟩ => by
    obtain ⟨v, e1, s⟩ := A.get e
    exact ⟨v, e1, h v H O A .refl (.inr ⟨i, rfl, e1⟩)⟩, trivial⟩
theorem DE.op {e : Expr} {w : WE} (h : DE X κ e w) : DO X κ e (.ex w) :=
  ⟨fun g hg => (h.pe g hg).imp fun σ H Q ⟨O, ε, A, q⟩ => ⟨O, ε, A, h.mono _ _ _ (fun d ε' z v H' O' A' x r => z v H' O' A' x (.inl ⟨d, rfl, r⟩)) q⟩, h.mono⟩
theorem DF.de {e : Expr} {w : WE} (h : DF X κ e w) : DE X κ e w :=
  ⟨fun g hg => (h.pe g hg).imp fun σ H Q ⟨O, ε, A, q⟩ => ⟨O, ε, A, h.mono _ _ _ (fun d ε' z p H' O' A' x hp np ow => by
    have nO : ¬ O p := A.nh np
    have nown : ¬ OwnAt O' g.κ σ p := A.unownN np hp
    refine z (.ref p) H' (OS.drop O' p) (A'.drop nown (A.nO0 np)) ⟨x.keep, fun a z => x.own a z.1, fun a z => ⟨x.mono a z, fun e => nO (e ▸ z)⟩, x.some, x.ownm, x.monom⟩ ?_
    exact Ow.toRp (fun _ z => OS.drop_1 z) ow fun a e z => z.2 (by cases e; rfl)) q⟩, h.mono⟩
def eBin (f : D → D → Option D) (oa ob : Op) : WE := fun ε Q => oEv oa ε fun x ε1 => oEv ob ε1 fun y ε2 => ∃ a b r, x ε2 = some a ∧ y ε2 = some b ∧ f a b = some r ∧ Q r ε2
theorem eBin_mono {f : D → D → Option D} {oa ob : Op} (ma : MonoO oa) (mb : MonoO ob) : Mono (eBin f oa ob) := fun ε Q Q' h q =>
  oEv_mono ma (fun x ε1 q => oEv_mono mb (fun y ε2 ⟨a, b, r, e1, e2, e3, q⟩ => ⟨a, b, r, e1, e2, e3, h _ _ q⟩) q) q
/-- an operation that changes nothing and gives a clean value; one that gives a new thing -/
def OpS (r : R2) (f : D → D → Option D) : Prop := ∀ (H : Hp) (O : OS) (x y : V) (a b c : D) (Q : VK), (∀ a, O a → H a ≠ none) → Nb H O a x → Nb H O b y → f a b = some c → (∀ v H', Same H H' → Rp H' O c v → Q v H') → r x y H Q
def OpN (r : R2) (f : D → D → Option D) : Prop := ∀ (H : Hp) (O : OS) (x y : V) (a b c : D) (Q : VK), (∀ a, O a → H a ≠ none) → Nb H O a x → Nb H O b y → f a b = some c →
  (∀ p o, H p = none → (∀ O', (∀ a, O a → O' a) → (∀ a, O' a → O a ∨ a = p) → O' p → Ow (upd H p o) O' c (.ref p)) → Q (.ref p) (upd H p o)) → r x y H Q
theorem OpN.s {r : R2} {f : D → D → Option D} (h : OpN r f) : OpS r f := fun H O x y a b c Q hO ha hb hf k => h H O x y a b c Q hO ha hb hf fun p o np q =>
  k _ _ (same_upd np) (by
    have ow := q (OS.add O p) (fun _ z => OS.add_of z) (fun a z => (OS.add_or z).elim (fun e => .inr e) .inl) (.inl rfl)
    refine Ow.toRp (fun _ z => OS.add_of z) ow fun a e z => ?_
    cases e
    exact hO p z np)
theorem tOp_of {g : Gx} {r : R2} {f : D → D → Option D} (hr : OpS r f) {oa ob : Op} (ma : MonoO oa) (mb : MonoO ob) {σ : L2.St} {H : Hp} {Q : VK} (h : rdE g (eBin f oa ob) σ H Q) : tOp r (rdO g oa) (rdO g ob) σ H Q := by
  obtain ⟨O, ε, A, h⟩ := h
  refine ⟨O, ε, A, oEv_mono ma (fun x ε1 h v1 H1 O1 A1 x1 r1 => ?_) h⟩
  refine ⟨O1, ε1, A1, oEv_mono mb (fun y ε2 h v2 H2 O2 A2 x2 r2 => ?_) h⟩
  obtain ⟨a, b, c, ea, eb, ec, q⟩ := h
  exact hr H2 O2 v1 v2 a b c Q A2.has ((r1.ext A1 x2).nb A2 ea) (r2.nb A2 eb) ec fun v H' s rp => q v H' O2 (A2.same s) (x1.trans (x2.trans (.same s))) rp
theorem tOp_ofN {g : Gx} {r : R2} {f : D → D → Option D} (hr : OpN r f) {oa ob : Op} (ma : MonoO oa) (mb : MonoO ob) {σ : L2.St} {H : Hp} {Q : VK} (h : rdF g (eBin f oa ob) σ H Q) : tOp r (rdO g oa) (rdO g ob) σ H Q := by
  obtain ⟨O, ε, A, h⟩ := h
  refine ⟨O, ε, A, oEv_mono ma (fun x ε1 h v1 H1 O1 A1 x1 r1 => ?_) h⟩
  refine ⟨O1, ε1, A1, oEv_mono mb (fun y ε2 h v2 H2 O2 A2 x2 r2 => ?_) h⟩
  obtain ⟨a, b, c, ea, eb, ec, q⟩ := h
  refine hr H2 O2 v1 v2 a b c Q A2.has ((r1.ext A1 x2).nb A2 ea) (r2.nb A2 eb) ec fun p o np ow => ?_
  have x12 := x1.trans x2
  have nH : H p = none := Classical.byContradiction fun z => x12.some p z np
  exact q p _ (OS.add O2 p) (A2.add np) (x12.trans (.add np)) (A2.addSl np) nH (ow _ (fun _ z => OS.add_of z) (fun a z => (OS.add_or z).elim (fun e => .inr e) .inl) (.inl rfl))
variable {a b : Expr} {oa ob : Op} {pos : Pos} {es : List Expr} {os : List Op}
theorem de_op {op : Operator} {r : R2} {f : D → D → Option D} (ho : OpR X (binaryOp op) r) (hf : OpS r f) (ha : DO X κ a oa) (hb : DO X κ b ob) : DE X κ (.BinOp a op b pos) (eBin f oa ob) :=
  ⟨fun g hg => (pe_op ho (ha.pe g hg) (hb.pe g hg)).imp fun _ _ _ h => tOp_of hf ha.mono hb.mono h, eBin_mono ha.mono hb.mono⟩
theorem df_op {op : Operator} {r : R2} {f : D → D → Option D} (ho : OpR X (binaryOp op) r) (hf : OpN r f) (ha : DO X κ a oa) (hb : DO X κ b ob) : DF X κ (.BinOp a op b pos) (eBin f oa ob) :=
  ⟨fun g hg => (pe_op ho (ha.pe g hg) (hb.pe g hg)).imp fun _ _ _ h => tOp_ofN hf ha.mono hb.mono h, eBin_mono ha.mono hb.mono⟩
theorem de_cmp {op : CmpOp} {r : R2} {f : D → D → Option D} (ho : OpR X (compareOp op) r) (hf : OpS r f) (ha : DO X κ a oa) (hb : DO X κ b ob) (hm : behindInMarks op b = false) : DE X κ (.Compare a [op] [b] pos) (eBin f oa ob) :=
  ⟨fun g hg => (pe_cmpR ho (ha.pe g hg) (hb.pe g hg) hm).imp fun _ _ _ h => tOp_of hf ha.mono hb.mono h, eBin_mono ha.mono hb.mono⟩
theorem de_ix {r : R2} {f : D → D → Option D} (ho : IxR X r) (hf : OpS r f) (ha : DO X κ a oa) (hb : DO X κ b ob) (hs : PlainIx b := by exact fun _ _ => rfl) : DE X κ (.Subscript a b pos) (eBin f oa ob) :=
  ⟨fun g hg => (pe_ix ho (ha.pe g hg) (hb.pe g hg) hs).imp fun _ _ _ h => tOp_of hf ha.mono hb.mono h, eBin_mono ha.mono hb.mono⟩
/-- an expression that gives a bool -/
def tE (w : WE) : WT := fun ε Q => w ε fun d ε' => ∃ b, d = .bool b ∧ Q b ε'
theorem tE_mono {w : WE} (m : Mono w) : MonoT (tE w) := fun ε Q Q' h q => m ε _ _ (fun d ε' ⟨b, e, q⟩ => ⟨b, e, h _ _ q⟩) q
theorem dt_val {e : Expr} {w : WE} (h : DE X κ e w) (he : ∀ whole, isTrue e X.env whole = (do let v ← whole; standAt e.pos; holding [v] (truthy v)) := by intro _; rfl) : DT X κ e (tE w) :=
  ⟨fun g hg => (pt_val (h.pe g hg) he).imp fun σ H Q ⟨O, ε, A, q⟩ => ⟨O, ε, A, h.mono _ _ _ (fun d ε' ⟨b, e, z⟩ v H' O' A' x r => ⟨b, by subst e; exact r, z H' O' A' x⟩) q⟩, tE_mono h.mono⟩
theorem dt_cmp {op : CmpOp} {r : R2} {f : D → D → Option D} (ho : OpR X (compareOp op) r) (hf : OpS r f) (ha : DO X κ a oa) (hb : DO X κ b ob) (hm : behindInMarks op b = false) : DT X κ (.Compare a [op] [b] pos) (tE (eBin f oa ob)) :=
  ⟨fun g hg => (pt_cmpR ho (ha.pe g hg) (hb.pe g hg) hm).imp fun σ H Q ⟨O, ε, A, q⟩ => tOp_of hf ha.mono hb.mono ⟨O, ε, A, eBin_mono ha.mono hb.mono _ _ _ (fun d ε' ⟨b, e, z⟩ v H' O' A' x r => ⟨b, by subst e; exact r, z H' O' A' x⟩) q⟩,
    tE_mono (eBin_mono ha.mono hb.mono)⟩
def tNotW (w : WT) : WT := fun ε Q => w ε fun b ε' => Q (!b) ε'
theorem dt_not {w : WT} (h : DT X κ a w) : DT X κ (.UnaryOp .Not a pos) (tNotW w) :=
  ⟨fun g hg => (pt_not (h.pt g hg)).imp fun σ H Q ⟨O, ε, A, q⟩ => ⟨O, ε, A, h.mono _ _ _ (fun b ε' z H' O' A' x => z H' O' A' x) q⟩, fun ε Q Q' h' q => h.mono _ _ _ (fun b ε' z => h' _ _ z) q⟩
def tAndW (w u : WT) : WT := fun ε Q => w ε fun b ε' => if b = true then u ε' Q else Q false ε'
def tOrW (w u : WT) : WT := fun ε Q => w ε fun b ε' => if b = true then Q true ε' else u ε' Q
theorem MonoT.and {w u : WT} (h : MonoT w) (k : MonoT u) : MonoT (tAndW w u) := fun ε Q Q' h' q => h _ _ _ (fun b ε' z => by
  cases b with
  | true => exact k _ _ _ h' z
  | false => exact h' _ _ z) q
theorem MonoT.or {w u : WT} (h : MonoT w) (k : MonoT u) : MonoT (tOrW w u) := fun ε Q Q' h' q => h _ _ _ (fun b ε' z => by
  cases b with
  | false => exact k _ _ _ h' z
  | true => exact h' _ _ z) q
variable {rest : List Expr}
theorem dw_and1 {w : WT} (h : DT X κ a w) : DW X κ (.BoolOp .And [a] pos) w := ⟨fun g hg => pw_and1 (h.pt g hg), h.mono⟩
theorem dw_or1 {w : WT} (h : DT X κ a w) : DW X κ (.BoolOp .Or [a] pos) w := ⟨fun g hg => pw_or1 (h.pt g hg), h.mono⟩
theorem dw_and {w u : WT} (h : DT X κ a w) (k : DW X κ (.BoolOp .And (b :: rest) pos) u) : DW X κ (.BoolOp .And (a :: b :: rest) pos) (tAndW w u) :=
  ⟨fun g hg => (pw_and (h.pt g hg) (k.pw g hg)).imp fun σ H Q ⟨O, ε, A, q⟩ => ⟨O, ε, A, h.mono _ _ _ (fun c ε' z H' O' A' x => by
    cases c with
    | true => exact ⟨O', ε', A', k.mono _ _ _ (fun d ε2 z H2 O2 A2 x2 => z H2 O2 A2 (x.trans x2)) z⟩
    | false => exact z H' O' A' x) q⟩, h.mono.and k.mono⟩
theorem dw_or {w u : WT} (h : DT X κ a w) (k : DW X κ (.BoolOp .Or (b :: rest) pos) u) : DW X κ (.BoolOp .Or (a :: b :: rest) pos) (tOrW w u) :=
  ⟨fun g hg => (pw_or (h.pt g hg) (k.pw g hg)).imp fun σ H Q ⟨O, ε, A, q⟩ => ⟨O, ε, A, h.mono _ _ _ (fun c ε' z H' O' A' x => by
    cases c with
    | false => exact ⟨O', ε', A', k.mono _ _ _ (fun d ε2 z H2 O2 A2 x2 => z H2 O2 A2 (x.trans x2)) z⟩
    | true => exact z H' O' A' x) q⟩, h.mono.or k.mono⟩
theorem DW.dt {w : WT} (h : DW X κ a w) : DT X κ a w := ⟨fun g hg => (h.pw g hg).pt, h.mono⟩
def notStar : Expr → Bool
  | .Starred _ _ => false
  | _ => true
theorem st_cons {e : Expr} {es : List Expr} {env : Env} (h : notStar e = true) : starEach (e :: es) env = (false, eval e env) :: starEach es env := by
  cases e <;> first | rfl | exact Bool.noConfusion h
theorem st_any {env : Env} {pos : Pos} : ∀ {es : List Expr}, es.all notStar = true → (backTo pos (starEach es env)).any (·.1) = false
  | [], _ => rfl
  | e :: es, h => by
    rw [List.all_cons, Bool.and_eq_true] at h
    rw [st_cons h.1]
    show ((false, _) :: backTo pos (starEach es env)).any (·.1) = false
    rw [List.any_cons, st_any h.2]
    rfl
theorem st_all {env : Env} {pos : Pos} : ∀ {es : List Expr}, es.all notStar = true → (backTo pos (starEach es env)).all (fun x => !x.1) = true
  | [], _ => rfl
  | e :: es, h => by
    rw [List.all_cons, Bool.and_eq_true] at h
    rw [st_cons h.1]
    show ((false, _) :: backTo pos (starEach es env)).all (fun x => !x.1) = true
    rw [List.all_cons, st_all h.2]
    rfl
def aEv : List Op → WA
  | [], ε, Q => Q [] ε
  | o :: os, ε, Q => oEv o ε fun x ε1 => aEv os ε1 fun xs ε2 => Q (x :: xs) ε2
def MonoA (os : List Op) : Prop := ∀ o ∈ os, MonoO o
theorem aEv_mono : ∀ {os : List Op}, MonoA os → ∀ {ε : En} {Q Q' : List (En → Option D) → En → Prop}, (∀ x ε', Q x ε' → Q' x ε') → aEv os ε Q → aEv os ε Q'
  | [], _, _, _, _, h, q => h _ _ q
  | o :: os, m, _, _, _, h, q => oEv_mono (m o List.mem_cons_self) (fun x ε1 q => aEv_mono (fun o ho => m o (List.mem_cons_of_mem _ ho)) (fun xs ε2 q => h _ _ q) q) q
def ORs (H : Hp) (O : OS) (σ : L2.St) : List (En → Option D) → List V → Prop
  | [], vs => vs = []
  | x :: xs, vs => ∃ v r, vs = v :: r ∧ OR H O σ x v ∧ ORs H O σ xs r
theorem ORs.ext {g : Gx} {O O' : OS} {H H' : Hp} {σ : L2.St} {ε : En} (A : Abs g O H σ ε) (k : Ext g.κ σ O H O' H') : ∀ {xs : List (En → Option D)} {vs : List V}, ORs H O σ xs vs → ORs H' O' σ xs vs
  | [], _, h => h
  | _ :: _, _, ⟨v, r, e, h, q⟩ => ⟨v, r, e, h.ext A k, ORs.ext A k q⟩
/-- the operands' values, read together -/
def vals (ε : En) : List (En → Option D) → List D → Prop
  | [], ds => ds = []
  | x :: xs, ds => ∃ d r, ds = d :: r ∧ x ε = some d ∧ vals ε xs r
def NbL (H : Hp) (O : OS) : List D → List V → Prop
  | [], vs => vs = []
  | d :: ds, vs => ∃ v r, vs = v :: r ∧ Nb H O d v ∧ NbL H O ds r
theorem ORs.nb {g : Gx} {O : OS} {H : Hp} {σ : L2.St} {ε : En} (A : Abs g O H σ ε) : ∀ {xs : List (En → Option D)} {vs : List V} {ds : List D}, ORs H O σ xs vs → vals ε xs ds → NbL H O ds vs
  | [], _, _, h, e => by
    have e' : _ = _ := e
    subst e'
    exact h
  | _ :: _, _, _, ⟨v, r, e, h, q⟩, ⟨d, dr, e2, hd, hr⟩ => by
    subst e2
    exact ⟨v, r, e, h.nb A hd, ORs.nb A q hr⟩
def rdA (g : Gx) (os : List Op) : TA := fun σ H Q => ∃ O ε, Abs g O H σ ε ∧ aEv os ε fun xs ε' => ∀ vs H' O', Abs g O' H' σ ε' → Ext g.κ σ O H O' H' → ORs H' O' σ xs vs → Q vs H'
structure DA (X : CxD) (κ : List Kd) (es : List Expr) (os : List Op) : Prop where
  pa : ∀ g : GX X, g.κ = κ → PA X es (rdA g os)
  mono : MonoA os
  st : es.all notStar = true
theorem da_nil : DA X κ [] [] := ⟨fun g _ => pa_nil.imp fun σ H Q ⟨O, ε, A, h⟩ => h [] H O A .refl rfl, fun _ h => (nomatch h), rfl⟩
theorem da_cons {es : List Expr} {os : List Op} (h : DO X κ a oa) (k : DA X κ es os) (hs : notStar a = true := by rfl) : DA X κ (a :: es) (oa :: os) :=
  ⟨fun g hg => (pa_cons (h.pe g hg) (k.pa g hg) (st_cons hs)).imp fun σ H Q ⟨O, ε, A, q⟩ => ⟨O, ε, A, oEv_mono h.mono (fun x ε1 z v H1 O1 A1 x1 r1 => ⟨O1, ε1, A1, aEv_mono k.mono (fun xs ε2 z vs H2 O2 A2 x2 r2 => z _ H2 O2 A2 (x1.trans x2) ⟨v, vs, rfl, r1.ext A1 x2, r2⟩) z⟩) q⟩,
    fun o ho => (List.mem_cons.mp ho).elim (fun e => e ▸ h.mono) fun ho => k.mono o ho, by rw [List.all_cons, hs, k.st]; rfl⟩
theorem DA.hd (h : DA X κ (a :: es) os) : notStar a = true ∧ es.all notStar = true := by
  have := h.st
  rw [List.all_cons, Bool.and_eq_true] at this
  exact this
/-- an operation on a list of operands -/
def eApp (f : List D → Option D) (os : List Op) : WE := fun ε Q => aEv os ε fun xs ε' => ∃ ds r, vals ε' xs ds ∧ f ds = some r ∧ Q r ε'
theorem eApp_mono {f : List D → Option D} {os : List Op} (m : MonoA os) : Mono (eApp f os) := fun ε Q Q' h q => aEv_mono m (fun xs ε' ⟨ds, r, e, e2, q⟩ => ⟨ds, r, e, e2, h _ _ q⟩) q
def CaS (r : List V → Hp → VK → Prop) (f : List D → Option D) : Prop := ∀ (H : Hp) (O : OS) (xs : List V) (ds : List D) (c : D) (Q : VK), (∀ a, O a → H a ≠ none) → NbL H O ds xs → f ds = some c → (∀ v H', Same H H' → Rp H' O c v → Q v H') → r xs H Q
def CaN (r : List V → Hp → VK → Prop) (f : List D → Option D) : Prop := ∀ (H : Hp) (O : OS) (xs : List V) (ds : List D) (c : D) (Q : VK), (∀ a, O a → H a ≠ none) → NbL H O ds xs → f ds = some c →
  (∀ p o, H p = none → (∀ O', (∀ a, O a → O' a) → (∀ a, O' a → O a ∨ a = p) → O' p → Ow (upd H p o) O' c (.ref p)) → Q (.ref p) (upd H p o)) → r xs H Q
theorem CaN.s {r : List V → Hp → VK → Prop} {f : List D → Option D} (h : CaN r f) : CaS r f := fun H O xs ds c Q hO ha hf k => h H O xs ds c Q hO ha hf fun p o np q =>
  k _ _ (same_upd np) (by
    have ow := q (OS.add O p) (fun _ z => OS.add_of z) (fun a z => (OS.add_or z).elim (fun e => .inr e) .inl) (.inl rfl)
    refine Ow.toRp (fun _ z => OS.add_of z) ow fun a e z => ?_
    cases e
    exact hO p z np)
theorem app_of {g : Gx} {r : List V → Hp → VK → Prop} {f : List D → Option D} (hr : CaS r f) {os : List Op} (m : MonoA os) {σ : L2.St} {H : Hp} {Q : VK} (h : rdE g (eApp f os) σ H Q) : rdA g os σ H fun vs H1 => r vs H1 Q := by
  obtain ⟨O, ε, A, h⟩ := h
  refine ⟨O, ε, A, aEv_mono m (fun xs ε1 h vs H1 O1 A1 x1 r1 => ?_) h⟩
  obtain ⟨ds, c, e, ec, q⟩ := h
  exact hr H1 O1 vs ds c Q A1.has (r1.nb A1 e) ec fun v H' s rp => q v H' O1 (A1.same s) (x1.trans (.same s)) rp
theorem app_ofN {g : Gx} {r : List V → Hp → VK → Prop} {f : List D → Option D} (hr : CaN r f) {os : List Op} (m : MonoA os) {σ : L2.St} {H : Hp} {Q : VK} (h : rdF g (eApp f os) σ H Q) : rdA g os σ H fun vs H1 => r vs H1 Q := by
  obtain ⟨O, ε, A, h⟩ := h
  refine ⟨O, ε, A, aEv_mono m (fun xs ε1 h vs H1 O1 A1 x1 r1 => ?_) h⟩
  obtain ⟨ds, c, e, ec, q⟩ := h
  refine hr H1 O1 vs ds c Q A1.has (r1.nb A1 e) ec fun p o np ow => ?_
  have nH : H p = none := Classical.byContradiction fun z => x1.some p z np
  exact q p _ (OS.add O1 p) (A1.add np) (x1.trans (.add np)) (A1.addSl np) nH (ow _ (fun _ z => OS.add_of z) (fun a z => (OS.add_or z).elim (fun e => .inr e) .inl) (.inl rfl))
variable {x : Str} {p : Pos} {id T : String}
theorem de_callB {r : List V → Hp → VK → Prop} {f : List D → Option D} (hc : CallR X (.builtin id) r) (hf : CaS r f) (hg : Gl X x) (hm : X.mg x = none) (hv : bootBuiltins x = some (.builtin id)) (ha : DA X κ (a :: es) os) (hn : x ≠ "__name__" := by decide) (hdb : (x == ("__debug__" : Str)) = false := by decide) :
    DE X κ (.Call (.Name x p) (a :: es) [] pos) (eApp f os) :=
  ⟨fun g hg' => (pe_callB hc hg hm hv (ha.pa g hg') hn hdb (st_cons ha.hd.1) (st_any ha.hd.2)).imp fun _ _ _ h => app_of hf ha.mono h, eApp_mono ha.mono⟩
theorem de_callTy {r : List V → Hp → VK → Prop} {f : List D → Option D} (hc : CallR X (.type T) r) (hf : CaS r f) (hg : Gl X x) (hm : X.mg x = none) (hv : bootBuiltins x = some (.type T)) (ha : DA X κ (a :: es) os) (hn : x ≠ "__name__" := by decide) (hdb : (x == ("__debug__" : Str)) = false := by decide) :
    DE X κ (.Call (.Name x p) (a :: es) [] pos) (eApp f os) :=
  ⟨fun g hg' => (pe_callTy hc hg hm hv (ha.pa g hg') hn hdb (st_cons ha.hd.1) (st_any ha.hd.2)).imp fun _ _ _ h => app_of hf ha.mono h, eApp_mono ha.mono⟩
theorem df_callTy {r : List V → Hp → VK → Prop} {f : List D → Option D} (hc : CallR X (.type T) r) (hf : CaN r f) (hg : Gl X x) (hm : X.mg x = none) (hv : bootBuiltins x = some (.type T)) (ha : DA X κ (a :: es) os) (hn : x ≠ "__name__" := by decide) (hdb : (x == ("__debug__" : Str)) = false := by decide) :
    DF X κ (.Call (.Name x p) (a :: es) [] pos) (eApp f os) :=
  ⟨fun g hg' => (pe_callTy hc hg hm hv (ha.pa g hg') hn hdb (st_cons ha.hd.1) (st_any ha.hd.2)).imp fun _ _ _ h => app_ofN hf ha.mono h, eApp_mono ha.mono⟩
def cEv : List WE → En → (List D → En → Prop) → Prop
  | [], ε, Q => Q [] ε
  | w :: ws, ε, Q => w ε fun d ε1 => cEv ws ε1 fun ds ε2 => Q (d :: ds) ε2
def MonoC (ws : List WE) : Prop := ∀ w ∈ ws, Mono w
theorem cEv_mono : ∀ {ws : List WE}, MonoC ws → ∀ {ε : En} {Q Q' : List D → En → Prop}, (∀ x ε', Q x ε' → Q' x ε') → cEv ws ε Q → cEv ws ε Q'
  | [], _, _, _, _, h, q => h _ _ q
  | w :: ws, m, _, _, _, h, q => m w List.mem_cons_self _ _ _ (fun x ε1 q => cEv_mono (fun o ho => m o (List.mem_cons_of_mem _ ho)) (fun xs ε2 q => h _ _ q) q) q
def rdC (g : Gx) (ws : List WE) : TA := fun σ H Q => ∃ O ε, Abs g O H σ ε ∧ cEv ws ε fun ds ε' => ∀ vs H' O', Abs g O' H' σ ε' → Ext g.κ σ O H O' H' → RpL H' O' ds vs → Q vs H'
structure DC (X : CxD) (κ : List Kd) (es : List Expr) (ws : List WE) : Prop where
  pa : ∀ g : GX X, g.κ = κ → PA X es (rdC g ws)
  mono : MonoC ws
theorem dc_nil : DC X κ [] [] := ⟨fun g _ => pa_nil.imp fun σ H Q ⟨O, ε, A, h⟩ => h [] H O A .refl rfl, fun _ h => nomatch h⟩
theorem dc_cons {es : List Expr} {w : WE} {ws : List WE} (h : DE X κ a w) (k : DC X κ es ws) (hs : notStar a = true := by rfl) : DC X κ (a :: es) (w :: ws) :=
  ⟨fun g hg => (pa_cons (h.pe g hg) (k.pa g hg) (st_cons hs)).imp fun σ H Q ⟨O, ε, A, q⟩ => ⟨O, ε, A, h.mono _ _ _ (fun x ε1 z v H1 O1 A1 x1 r1 => ⟨O1, ε1, A1, cEv_mono k.mono (fun xs ε2 z vs H2 O2 A2 x2 r2 => z _ H2 O2 A2 (x1.trans x2) ⟨v, vs, rfl, A1.rp x2 r1, r2⟩) z⟩) q⟩,
    fun o ho => (List.mem_cons.mp ho).elim (fun e => e ▸ h.mono) fun ho => k.mono o ho⟩
theorem RpL.length {H : Hp} {O : OS} : ∀ {ds : List D} {vs : List V}, RpL H O ds vs → vs.length = ds.length
  | [], _, h => by
    have e : _ = _ := h
    rw [e]
    rfl
  | d :: ds, _, ⟨v, r, e, _, q⟩ => by rw [e, List.length_cons, List.length_cons, RpL.length q]
def eTup (ws : List WE) : WE := fun ε Q => cEv ws ε fun ds ε' => ds.length ≤ sizeLine ∧ Q (.tuple ds) ε'
def eLst (ws : List WE) : WE := fun ε Q => cEv ws ε fun ds ε' => ds.length ≤ sizeLine ∧ Q (.list ds) ε'
theorem de_tup {ws : List WE} {k : Nat} (h : DC X κ es ws) : DE X κ (.Tuple es k pos) (eTup ws) :=
  ⟨fun g hg => (pe_tup (h.pa g hg)).imp fun σ H Q ⟨O, ε, A, q⟩ => ⟨O, ε, A, cEv_mono h.mono (fun ds ε' ⟨hl, q⟩ vs H' O' A' x r => ⟨by rw [r.length]; exact hl, fun p np =>
    q (.ref p) _ O' (A'.same (same_upd np)) (x.trans (.same (same_upd np))) ⟨p, vs, rfl, A'.nh np, RdT.of upd_same, RpL.ext (fun a o e _ => same_upd np a o e) (fun _ z => .inl z) r⟩⟩) q⟩,
    fun ε Q Q' h' q => cEv_mono h.mono (fun ds ε' ⟨hl, q⟩ => ⟨hl, h' _ _ q⟩) q⟩
theorem df_lst {ws : List WE} (h : DC X κ es ws) : DF X κ (.List es pos) (eLst ws) :=
  ⟨fun g hg => (pe_lst (h.pa g hg)).imp fun σ H Q ⟨O, ε, A, q⟩ => ⟨O, ε, A, cEv_mono h.mono (fun ds ε' ⟨hl, q⟩ vs H' O' A' x r => ⟨by rw [r.length]; exact hl, fun p np =>
    q p _ (OS.add O' p) (A'.add np) (x.trans (.add np)) (A'.addSl np) (Classical.byContradiction fun z => x.some p z np) ⟨p, vs, rfl, .inl rfl, upd_same, RpL.ext (fun a o e _ => same_upd np a o e) (fun a z => (OS.add_or z).elim (fun e => .inr (by rw [e]; exact np)) .inl) r⟩⟩) q⟩,
    fun ε Q Q' h' q => cEv_mono h.mono (fun ds ε' ⟨hl, q⟩ => ⟨hl, h' _ _ q⟩) q⟩
end
end DL
namespace DL
open PySem PySem.Spec L2
structure WEnds where
  nx : En → Prop
  rt : D → En → Prop
  bk : En → Prop
  ct : En → Prop
abbrev WS := WEnds → En → Prop
structure WEnds.le (E E' : WEnds) : Prop where
  nx : ∀ ε, E.nx ε → E'.nx ε
  rt : ∀ d ε, E.rt d ε → E'.rt d ε
  bk : ∀ ε, E.bk ε → E'.bk ε
  ct : ∀ ε, E.ct ε → E'.ct ε
def MonoS (w : WS) : Prop := ∀ (E E' : WEnds) (ε : En), E.le E' → w E ε → w E' ε
theorem WEnds.le.le_nx {E E' : WEnds} (h : E.le E') {a b : En → Prop} (k : ∀ ε, a ε → b ε) : WEnds.le { E with nx := a } { E' with nx := b } := ⟨k, h.rt, h.bk, h.ct⟩
/-- what a def hands back: a clean value; or (fr) a new thing -/
def OS.grow (O : OS) (Om : Addr → Prop) : OS := ⟨fun a => O a ∨ Om a, Om⟩
def RetOk (g : Gx) (O : OS) (H : Hp) (d : D) (v : V) : Prop := if g.fr = true then ∃ p, v = .ref p ∧ O.sl p ∧ g.H0 p = none ∧ Ow H (OS.add (OS.grow g.O0 O.m) p) d v else Rp H (OS.grow g.O0 O.m) d v
theorem Abs.retSub {g : Gx} {O : OS} {H : Hp} {σ : L2.St} {ε : En} (A : Abs g O H σ ε) : ∀ a, OS.grow g.O0 O.m a → O a := fun a z => z.elim (A.sub a) fun z => A.ownO a (.inr z)
def ends (g : Gx) (Dn : Ends) : WEnds where
  nx := fun ε => ∀ σ H O, Abs g O H σ ε → Dn.nx σ H
  rt := fun d ε => ∀ v H σ O, Abs g O H σ ε → RetOk g O H d v → Dn.rt v H
  bk := fun ε => ∀ σ H O, Abs g O H σ ε → Dn.bk σ H
  ct := fun ε => ∀ σ H O, Abs g O H σ ε → Dn.ct σ H
def rdS (g : Gx) (w : WS) : TS := fun Dn σ H => ∃ O ε, Abs g O H σ ε ∧ w (ends g Dn) ε
structure DS (X : CxD) (κ : List Kd) (fr : Bool) (st : Stmt) (w : WS) : Prop where
  ps : ∀ g : GX X, g.κ = κ → g.fr = fr → PS X st (rdS g w)
  mono : MonoS w
structure DSs (X : CxD) (κ : List Kd) (fr : Bool) (st : List Stmt) (w : WS) : Prop where
  ps : ∀ g : GX X, g.κ = κ → g.fr = fr → PSs X st (rdS g w)
  mono : MonoS w
section
variable {g : Gx} {O O' : OS} {H H' : Hp} {σ : L2.St} {ε ε' : En}
theorem get_set_ne {α : Type} {l : List α} {i j : Nat} {x : α} (h : i ≠ j) : (l.set i x)[j]? = l[j]? := List.getElem?_set_ne h
theorem Abs.lt (A : Abs g O H σ ε) {i : Nat} {k : Kd} (hk : g.κ[i]? = some k) : i < σ.length ∧ i < ε.length := by
  have h : i < g.κ.length := (List.getElem?_eq_some_iff.mp hk).1
  exact ⟨by rw [← A.lenK]; exact h, by rw [A.len, ← A.lenK]; exact h⟩
/-- a slot of kind val is stored -/
theorem Abs.set (A : Abs g O H σ ε) {i : Nat} (hk : g.κ[i]? = some .val) {d : D} {v : V} (r : Rp H O d v) : Abs g O H (σ.set i (some v)) (ε.set i (some d)) := by
  obtain ⟨l1, l2⟩ := A.lt hk
  have ne : ∀ j, mu g.κ j → i ≠ j := fun j hj e => by
    subst e
    rcases hj with h | h <;> (rw [hk] at h; cases h)
  have s' : ∀ j, mu g.κ j → (σ.set i (some v))[j]? = σ[j]? := fun j hj => get_set_ne (ne j hj)
  exact { A with
    slot := fun j d' e => by
      by_cases h : i = j
      · subst h
        rw [List.getElem?_set_self l2] at e
        cases e
        exact ⟨v, .val, by rw [List.getElem?_set_self l1], hk, r⟩
      · rw [get_set_ne h] at e ⊢
        exact A.slot j d' e
    ownO := fun a z => A.ownO a (z.imp_left fun ⟨j, hj, e⟩ => ⟨j, hj, by rw [← s' j hj]; exact e⟩)
    apm := fun j a hj e => A.apm j a hj (by rw [← s' j hj]; exact e)
    apart := fun j k a hj hk' e e' => A.apart j k a hj hk' (by rw [← s' j hj]; exact e) (by rw [← s' k hk']; exact e')
    new := fun j a hj e => A.new j a hj (by rw [← s' j (.inl hj)]; exact e)
    brwA := fun j b hj e => A.brwA j b hj (by rw [get_set_ne (fun z => by subst z; rw [hk] at hj; cases hj)] at e; exact e)
    ioS := fun j a h => by
      rw [get_set_ne (fun e => by subst e; rcases A.ioK _ a h with z | z <;> (rw [z] at hk; cases hk))]
      exact A.ioS j a h
    len := by rw [List.length_set, List.length_set]; exact A.len
    lenK := by rw [List.length_set]; exact A.lenK
    fz := fun σ0 e j hj => by
      rw [get_set_ne (fun z => by subst z; rw [hk] at hj; cases hj)]
      exact A.fz σ0 e j hj }
/-- a slot of kind own is stored: a new thing -/
theorem Abs.setOwn (A : Abs g O H σ ε) {i : Nat} (hk : g.κ[i]? = some .own) {d : D} {p : Addr} (hp : O p) (n0 : g.H0 p = none) (no : ¬ OwnAt O g.κ σ p) (r : Ow H O d (.ref p)) : Abs g O H (σ.set i (some (.ref p))) (ε.set i (some d)) := by
  obtain ⟨l1, l2⟩ := A.lt hk
  have gt : ∀ {j : Nat} {a : Addr}, (σ.set i (some (.ref p)))[j]? = some (some (.ref a)) → (j = i ∧ a = p) ∨ (i ≠ j ∧ σ[j]? = some (some (.ref a))) := fun {j a} e => by
    by_cases h : i = j
    · subst h
      rw [List.getElem?_set_self l1] at e
      cases e
      exact .inl ⟨rfl, rfl⟩
    · rw [get_set_ne h] at e
      exact .inr ⟨h, e⟩
  exact { A with
    slot := fun j d' e => by
      by_cases h : i = j
      · subst h
        rw [List.getElem?_set_self l2] at e
        cases e
        exact ⟨.ref p, .own, by rw [List.getElem?_set_self l1], hk, r⟩
      · rw [get_set_ne h] at e ⊢
        exact A.slot j d' e
    ownO := fun a z => by
      rcases z with ⟨j, hj, e⟩ | z
      · rcases gt e with ⟨_, rfl⟩ | ⟨_, e⟩
        · exact hp
        · exact A.ownO a (.inl ⟨j, hj, e⟩)
      · exact A.ownO a (.inr z)
    apm := fun j a hj e => by
      rcases gt e with ⟨_, rfl⟩ | ⟨_, e⟩
      · exact fun z => no (.inr z)
      · exact A.apm j a hj e
    apart := fun j k a hj hk' e e' => by
      rcases gt e with ⟨h1, h2⟩ | ⟨h, e⟩
      · rcases gt e' with ⟨h3, _⟩ | ⟨_, e'⟩
        · rw [h1, h3]
        · exact (no (.inl ⟨k, hk', by rw [← h2]; exact e'⟩)).elim
      · rcases gt e' with ⟨h1, h2⟩ | ⟨_, e'⟩
        · exact (no (.inl ⟨j, hj, by rw [← h2]; exact e⟩)).elim
        · exact A.apart j k a hj hk' e e'
    brwA := fun j b hj e => A.brwA j b hj (by rw [get_set_ne (fun z => by subst z; rw [hk] at hj; cases hj)] at e; exact e)
    new := fun j a hj e => by
      rcases gt e with ⟨_, rfl⟩ | ⟨_, e⟩
      · exact n0
      · exact A.new j a hj e
    ioS := fun j a h => by
      rw [get_set_ne (fun e => by subst e; rcases A.ioK _ a h with z | z <;> (rw [z] at hk; cases hk))]
      exact A.ioS j a h
    len := by rw [List.length_set, List.length_set]; exact A.len
    lenK := by rw [List.length_set]; exact A.lenK
    fz := fun σ0 e j hj => by
      rw [get_set_ne (fun z => by subst z; rw [hk] at hj; cases hj)]
      exact A.fz σ0 e j hj }
/-- an own thing is changed in place: d is what it holds now -/
theorem Abs.mut (A : Abs g O H σ ε) {i : Nat} (hk : mu g.κ i) {a : Addr} (e : σ[i]? = some (some (.ref a))) (k : ∀ b o, b ≠ a → H b = some o → H' b = some o) (hs : H' a ≠ none) {d : D} (r : Ow H' O d (.ref a)) : Abs g O H' σ (ε.set i (some d)) := by
  have hO : O a := A.ownO a (.inl ⟨i, hk, e⟩)
  have so : ∀ b, H b ≠ none → H' b ≠ none := fun b h => by
    by_cases q : b = a
    · rw [q]; exact hs
    · cases e : H b with
      | none => exact (h e).elim
      | some o => rw [k b o q e]; exact fun z => nomatch z
  have kO : ∀ b o, H b = some o → ¬ O b → H' b = some o := fun b o e n => k b o (fun z => n (z ▸ hO)) e
  have l2 : i < ε.length := by
    rw [A.len]
    exact (List.getElem?_eq_some_iff.mp e).1
  exact { A with
    slot := fun j d' ej => by
      by_cases h : i = j
      · subst h
        rw [List.getElem?_set_self l2] at ej
        cases ej
        rcases hk with hk | hk
        · exact ⟨.ref a, .own, e, hk, r⟩
        · exact ⟨.ref a, .io, e, hk, r⟩
      · rw [get_set_ne h] at ej
        obtain ⟨v, kd, e1, e2, s⟩ := A.slot j d' ej
        refine ⟨v, kd, e1, e2, ?_⟩
        have oth : mu g.κ j → ∀ b o, v = .ref b → H b = some o → H' b = some o := fun hj b o ev eb => k b o (fun z => h (A.apart i j a hk hj e (by rw [e1, ev, z]))) eb
        cases kd with
        | val => exact Rp.ext kO (fun _ z => .inl z) s
        | own => exact Ow.ext kO (fun _ z => .inl z) (oth (.inl e2)) (fun _ z => z) s
        | io => exact Ow.ext kO (fun _ z => .inl z) (oth (.inr e2)) (fun _ z => z) s
        | st => exact OwS.ext kO (fun _ z => .inl z) (fun b o m eb => k b o (fun z => A.apm i a hk e (z ▸ m)) eb) (fun _ z => z) s
        | sl => exact OwS.ext kO (fun _ z => .inl z) (fun b o m eb => k b o (fun z => A.apm i a hk e (z ▸ m)) eb) (fun _ z => z) s
        | brw =>
          have nb : ∀ b, v = .ref b → b ≠ a := fun b ev z => by
            obtain ⟨n0, nio, _⟩ := A.brwA j b e2 (by rw [e1, ev])
            subst z
            rcases hk with hk | hk
            · exact n0 (A.new i b hk e)
            · obtain ⟨c, hc⟩ := A.ioA i hk
              have := A.ioS i c hc
              rw [e] at this
              cases this
              exact nio i hc
          match d', s with
          | .none, h => exact h
          | .bool _, h => exact h
          | .int _, h => exact h
          | .str _, h => exact h
          | .list _, ⟨b, xs, ev, r, q⟩ => exact ⟨b, xs, ev, k _ _ (nb b ev) r, RpL.ext kO (fun _ z => .inl z) q⟩
          | .tuple _, ⟨b, xs, ev, r, q⟩ => exact ⟨b, xs, ev, rd_keep (fun o z => k _ o (nb b ev) z) r, RpL.ext kO (fun _ z => .inl z) q⟩
          | .dict _, ⟨b, u, ev, r, q⟩ => exact ⟨b, u, ev, k _ _ (nb b ev) r, RpE.ext kO (fun _ z => .inl z) q⟩
    has := fun b z => so b (A.has b z)
    fr := fun b o eb n n2 => by
      refine k b o (fun z => ?_) (A.fr b o eb n n2)
      subst z
      rcases hk with hk | hk
      · rw [A.new i b hk e] at eb
        cases eb
      · obtain ⟨c, hc⟩ := A.ioA i hk
        have := A.ioS i c hc
        rw [e] at this
        cases this
        exact n i hc
    hold := fun p hp => Rp.ext kO (fun _ z => .inl z) (A.hold p hp)
    len := by rw [List.length_set]; exact A.len }
end
section
variable {X : CxD} {κ : List Kd} {fr : Bool} {st : Stmt} {rest : List Stmt} {pos : Pos} {e : Expr}
def sNil : WS := fun E ε => E.nx ε
def sSeq (w u : WS) : WS := fun E ε => w { E with nx := u E } ε
theorem MonoS.seq {w u : WS} (h : MonoS w) (k : MonoS u) : MonoS (sSeq w u) := fun E E' ε l q => h _ _ ε (l.le_nx fun ε' q => k _ _ _ l q) q
theorem dss_nil : DSs X κ fr [] sNil := ⟨fun g _ _ => pss_nil.imp fun D σ H ⟨O, ε, A, q⟩ => q σ H O A, fun E E' ε l q => l.nx _ q⟩
theorem seq_imp {g : Gx} {w u : WS} (h : MonoS w) (k : MonoS u) {D : Ends} {σ : L2.St} {H : Hp} (q : rdS g (sSeq w u) D σ H) : tSeq (rdS g w) (rdS g u) D σ H := by
  obtain ⟨O, ε, A, q⟩ := q
  exact ⟨O, ε, A, h { ends g D with nx := u (ends g D) } _ ε ⟨fun ε' q σ' H' O' A' => ⟨O', ε', A', q⟩, fun _ _ z => z, fun _ z => z, fun _ z => z⟩ q⟩
theorem dss_cons {w u : WS} (h : DS X κ fr st w) (k : DSs X κ fr rest u) : DSs X κ fr (st :: rest) (sSeq w u) :=
  ⟨fun g hg hf => (pss_cons (h.ps g hg hf) (k.ps g hg hf)).imp fun D σ H q => seq_imp h.mono k.mono q, h.mono.seq k.mono⟩
theorem dss_one {w : WS} (h : DS X κ fr st w) : DSs X κ fr [st] w := ⟨fun g hg hf => pss_one (h.ps g hg hf), h.mono⟩
def sSet (i : Nat) (w : WE) : WS := fun E ε => w ε fun d ε' => E.nx (ε'.set i (some d))
theorem sSet_mono {i : Nat} {w : WE} (m : Mono w) : MonoS (sSet i w) := fun E E' ε l q => m _ _ _ (fun d ε' q => l.nx _ q) q
theorem set_imp {g : Gx} {i : Nat} {w : WE} (m : Mono w) (hk : g.κ[i]? = some .val) {D : Ends} {σ : L2.St} {H : Hp} (q : rdS g (sSet i w) D σ H) : tAsg (rdE g w) (gName i) D σ H := by
  obtain ⟨O, ε, A, q⟩ := q
  exact ⟨O, ε, A, m _ _ _ (fun d ε' q v H' O' A' x r => q _ H' O' (A'.set hk r)) q⟩
theorem setF_imp {g : Gx} {i : Nat} {w : WE} (m : Mono w) (hk : g.κ[i]? = some .own) {D : Ends} {σ : L2.St} {H : Hp} (q : rdS g (sSet i w) D σ H) : tAsg (rdF g w) (gName i) D σ H := by
  obtain ⟨O, ε, A, q⟩ := q
  exact ⟨O, ε, A, m _ _ _ (fun d ε' q p H' O' A' x hp np ow => q _ H' O' (A'.setOwn hk hp.1 (A.n0 np) (A.unownN np hp) ow)) q⟩
theorem ds_set {i : Nat} {x : Str} {w : WE} {pos' : Pos} (hN : X.N.Nodup) (h : DE X κ e w) (hk : κ[i]? = some .val := by rfl) (hi : X.N[i]? = some x := by rfl) (hx : Loc X.env.scope x := by first | exact Or.inl rfl | exact Or.inr rfl) (hs : swapsWith e (some (.Name x pos')) pos.line X.env = pure false := by rfl) (hf : X.fn x = true ∨ X.env.scope.names.lookup x = some .local := by first | exact .inl rfl | exact .inr rfl) :
    DS X κ fr (.Assign [.Name x pos'] e pos) (sSet i w) :=
  ⟨fun g hg _ => (ps_set hN hi hx (h.pe g hg) hs hf).imp fun D σ H q => set_imp h.mono (by rw [hg]; exact hk) q, sSet_mono h.mono⟩
theorem ds_setF {i : Nat} {x : Str} {w : WE} {pos' : Pos} (hN : X.N.Nodup) (h : DF X κ e w) (hk : κ[i]? = some .own := by rfl) (hi : X.N[i]? = some x := by rfl) (hx : Loc X.env.scope x := by first | exact Or.inl rfl | exact Or.inr rfl) (hs : swapsWith e (some (.Name x pos')) pos.line X.env = pure false := by rfl) (hf : X.fn x = true ∨ X.env.scope.names.lookup x = some .local := by first | exact .inl rfl | exact .inr rfl) :
    DS X κ fr (.Assign [.Name x pos'] e pos) (sSet i w) :=
  ⟨fun g hg _ => (ps_set hN hi hx (h.pe g hg) hs hf).imp fun D σ H q => setF_imp h.mono (by rw [hg]; exact hk) q, sSet_mono h.mono⟩
def sDo (w : WE) : WS := fun E ε => w ε fun _ ε' => E.nx ε'
theorem ds_expr {w : WE} (h : DE X κ e w) (hs : swapsWith e none pos.line X.env = pure false := by rfl) : DS X κ fr (.Expr e pos) (sDo w) :=
  ⟨fun g hg _ => (ps_expr (h.pe g hg) hs).imp fun D σ H ⟨O, ε, A, q⟩ => ⟨O, ε, A, h.mono _ _ _ (fun d ε' q v H' O' A' x r => q σ H' O' A') q⟩, fun E E' ε l q => h.mono _ _ _ (fun d ε' q => l.nx _ q) q⟩
def sRet (w : WE) : WS := fun E ε => w ε fun d ε' => E.rt d ε'
theorem sRet_mono {w : WE} (m : Mono w) : MonoS (sRet w) := fun E E' ε l q => m _ _ _ (fun d ε' q => l.rt _ _ q) q
theorem ds_ret {w : WE} (h : DE X κ e w) : DS X κ false (.Return (some e) pos) (sRet w) :=
  ⟨fun g hg hf => (ps_ret (h.pe g hg)).imp fun D σ H ⟨O, ε, A, q⟩ => ⟨O, ε, A, h.mono _ _ _ (fun d ε' q v H' O' A' x r => q v H' σ O' A' (by unfold RetOk; rw [hf, if_neg Bool.false_ne_true]; exact Rp.anti A'.retSub r)) q⟩, sRet_mono h.mono⟩
def sIf (t : WT) (w u : WS) : WS := fun E ε => t ε fun b ε' => if b = true then w E ε' else u E ε'
theorem ds_if {c : Expr} {a b : List Stmt} {t : WT} {w u : WS} (ht : DT X κ c t) (h : DSs X κ fr a w) (k : DSs X κ fr b u) : DS X κ fr (.If c a b pos) (sIf t w u) :=
  ⟨fun g hg hf => (ps_if (ht.pt g hg) (h.ps g hg hf) (k.ps g hg hf)).imp fun D σ H ⟨O, ε, A, q⟩ => ⟨O, ε, A, ht.mono _ _ _ (fun b ε' q H' O' A' x => by
    cases b with
    | true => exact ⟨O', ε', A', q⟩
    | false => exact ⟨O', ε', A', q⟩) q⟩, fun E E' ε l q => ht.mono _ _ _ (fun b ε' q => by
      cases b with
      | true => exact h.mono _ _ _ l q
      | false => exact k.mono _ _ _ l q) q⟩
end
end DL
namespace DL
open PySem PySem.Spec L2
inductive Tg where
  | nm (i : Nat)
  | tup (ts : List Tg)
mutual
def bindD : Tg → D → En → Option En
  | .nm i, d, ε => some (ε.set i (some d))
  | .tup ts, d, ε => match d with
    | .tuple ds => bindL ts ds ε
    | _ => none
def bindL : List Tg → List D → En → Option En
  | [], ds, ε => match ds with
    | [] => some ε
    | _ => none
  | t :: ts, ds, ε => match ds with
    | [] => none
    | d :: r => (bindD t d ε).bind fun ε' => bindL ts r ε'
end
mutual
def slots : Tg → List Nat
  | .nm i => [i]
  | .tup ts => slotsL ts
def slotsL : List Tg → List Nat
  | [] => []
  | t :: ts => slots t ++ slotsL ts
end
def rdG (g : Gx) (t : Tg) : TG := fun v σ H Q => ∃ O ε d ε', Abs g O H σ ε ∧ Rp H O d v ∧ bindD t d ε = some ε' ∧ ∀ σ', Abs g O H σ' ε' → (∀ j, j ∉ slots t → σ'[j]? = σ[j]?) → σ'.length = σ.length → Q σ' H
structure DG (X : CxD) (κ : List Kd) (tg : Expr) (t : Tg) : Prop where
  pg : ∀ g : GX X, g.κ = κ → PG X tg (rdG g t)
theorem _root_.L2.PG.imp {X : CxD} {e : Expr} {t t' : TG} (h : PG X e t) (k : ∀ v σ H Q, t' v σ H Q → t v σ H Q) : PG X e t' := ⟨fun pins s σ H v u Q I r q => h.run pins s σ H v u Q I r (k _ _ _ _ q)⟩
theorem _root_.L2.PGs.imp {X : CxD} {e : List Expr} {t t' : TGs} (h : PGs X e t) (k : ∀ v σ H Q, t' v σ H Q → t v σ H Q) : PGs X e t' := ⟨fun pins s σ H v u Q I r q => h.run pins s σ H v u Q I r (k _ _ _ _ q)⟩
section
variable {X : CxD} {κ : List Kd} {fr : Bool} {pos : Pos} {e : Expr} {es : List Expr}
theorem dg_nm (i : Nat) {x : Str} (hN : X.N.Nodup) (hk : κ[i]? = some .val := by rfl) (hi : X.N[i]? = some x := by rfl) (hx : Loc X.env.scope x := by first | exact Or.inl rfl | exact Or.inr rfl) (hf : X.fn x = true ∨ X.env.scope.names.lookup x = some .local := by first | exact .inl rfl | exact .inr rfl) :
    DG X κ (.Name x pos) (.nm i) :=
  ⟨fun g hg => (pg_name hN hi hx hf).imp fun v σ H Q ⟨O, ε, d, ε', A, r, b, q⟩ => by
    have e : some (ε.set i (some d)) = some ε' := b
    cases e
    refine q _ (A.set (by rw [hg]; exact hk) r) (fun j hj => ?_) (List.length_set ..)
    exact get_set_ne fun e => hj (by rw [e]; exact List.mem_singleton_self _)⟩
/-- values that are to be stored: clean ones, new ones (their addresses fulfil F, none twice) -/
def PL (κ : List Kd) (H0 : Hp) (H : Hp) (O : OS) : (Addr → Prop) → List Nat → List D → List V → Prop
  | _, [], ds, vs => ds = [] ∧ vs = []
  | F, i :: is, ds, vs => ∃ d r v vr, ds = d :: r ∧ vs = v :: vr ∧ ((κ[i]? = some .val ∧ Rp H O d v ∧ PL κ H0 H O F is r vr) ∨
      ∃ p, κ[i]? = some .own ∧ v = .ref p ∧ O.sl p ∧ H0 p = none ∧ F p ∧ Ow H O d v ∧ PL κ H0 H O (fun q => F q ∧ q ≠ p) is r vr)
theorem PL.mono {κ : List Kd} {H0 H : Hp} {O : OS} : ∀ {is : List Nat} {F G : Addr → Prop} {ds : List D} {vs : List V}, (∀ p, F p → G p) → PL κ H0 H O F is ds vs → PL κ H0 H O G is ds vs
  | [], _, _, _, _, _, h => h
  | i :: is, F, G, _, _, k, ⟨d, r, v, vr, e1, e2, h⟩ => ⟨d, r, v, vr, e1, e2, h.imp (fun ⟨a, b, c⟩ => ⟨a, b, PL.mono k c⟩) fun ⟨p, a, b, c, n, f, w, z⟩ => ⟨p, a, b, c, n, k p f, w, PL.mono (fun q hq => ⟨k q hq.1, hq.2⟩) z⟩⟩
def setL {α : Type} : List Nat → List α → List (Option α) → List (Option α)
  | i :: is, d :: ds, ε => setL is ds (ε.set i (some d))
  | _, _, ε => ε
theorem store_all {g : Gx} {O : OS} {H : Hp} : ∀ {is : List Nat} {F : Addr → Prop} {ds : List D} {vs : List V} {σ : L2.St} {ε : En}, Abs g O H σ ε → (∀ p, F p → ¬ SlotAt g.κ σ p) → PL g.κ g.H0 H O F is ds vs → Abs g O H (setL is vs σ) (setL is ds ε)
  | [], _, _, _, _, _, A, _, ⟨e1, e2⟩ => by
    subst e1 e2
    exact A
  | i :: is, F, _, _, σ, ε, A, hF, ⟨d, r, v, vr, e1, e2, .inl ⟨hk, hr, z⟩⟩ => by
    subst e1 e2
    refine store_all (is := is) (A.set hk hr) (fun p hp ⟨j, hj, e⟩ => hF p hp ⟨j, hj, ?_⟩) z
    rw [get_set_ne (fun q => by subst q; rcases hj with h | h <;> (rw [hk] at h; cases h))] at e
    exact e
  | i :: is, F, _, _, σ, ε, A, hF, ⟨d, r, v, vr, e1, e2, .inr ⟨p, hk, ev, hp, n0, f, w, z⟩⟩ => by
    subst e1 e2 ev
    refine store_all (is := is) (A.setOwn hk hp.1 n0 (fun z => z.elim (hF p f) hp.2) w) (fun q hq ⟨j, hj, e⟩ => ?_) z
    by_cases hij : i = j
    · subst hij
      rw [List.getElem?_set_self (A.lt hk).1] at e
      cases e
      exact hq.2 rfl
    · rw [get_set_ne hij] at e
      exact hF q hq.1 ⟨j, hj, e⟩
def rdM (g : Gx) (is : List Nat) (ws : List WE) : TA := fun σ H Q => ∃ O ε, Abs g O H σ ε ∧ cEv ws ε fun ds ε' => ∀ vs H' O', Abs g O' H' σ ε' → Ext g.κ σ O H O' H' → PL g.κ g.H0 H' O' (fun p => H p = none) is ds vs → Q vs H'
structure DM (X : CxD) (κ : List Kd) (is : List Nat) (es : List Expr) (ws : List WE) : Prop where
  pa : ∀ g : GX X, g.κ = κ → PA X es (rdM g is ws)
  mono : MonoC ws
theorem PL.ext {g : Gx} {O O' : OS} {H H' : Hp} {σ : L2.St} {ε : En} (A : Abs g O H σ ε) (x : Ext g.κ σ O H O' H') : ∀ {is : List Nat} {F : Addr → Prop} {ds : List D} {vs : List V}, (∀ p, F p → ¬ SlotAt g.κ σ p) → PL g.κ g.H0 H O F is ds vs → PL g.κ g.H0 H' O' F is ds vs
  | [], _, _, _, _, h => h
  | i :: is, F, _, _, k, ⟨d, r, v, vr, e1, e2, h⟩ => ⟨d, r, v, vr, e1, e2, h.imp (fun ⟨a, b, c⟩ => ⟨a, A.rp x b, PL.ext A x k c⟩) fun ⟨p, a, b, c, n, f, w, z⟩ =>
      ⟨p, a, b, x.sl c (A.has p c.1), n, f, Ow.ext (fun a o e n => x.keep a o e (A.unown n)) x.own (fun a o e1 e2 => x.keep a o e2 (by rw [b] at e1; cases e1; exact fun z => z.elim (k p f) c.2)) x.mono w, PL.ext A x (fun q hq => k q hq.1) z⟩⟩
theorem dm_nil : DM X κ [] [] [] := ⟨fun g _ => pa_nil.imp fun σ H Q ⟨O, ε, A, h⟩ => h [] H O A .refl ⟨rfl, rfl⟩, fun _ h => nomatch h⟩
theorem dm_val {i : Nat} {is : List Nat} {w : WE} {ws : List WE} (h : DE X κ e w) (k : DM X κ is es ws) (hk : κ[i]? = some .val := by rfl) (hs : notStar e = true := by rfl) : DM X κ (i :: is) (e :: es) (w :: ws) :=
  ⟨fun g hg => (pa_cons (h.pe g hg) (k.pa g hg) (st_cons hs)).imp fun σ H Q ⟨O, ε, A, q⟩ => ⟨O, ε, A, h.mono _ _ _ (fun d ε1 z v H1 O1 A1 x1 r1 => ⟨O1, ε1, A1, cEv_mono k.mono (fun ds ε2 z vs H2 O2 A2 x2 r2 =>
      z _ H2 O2 A2 (x1.trans x2) ⟨d, ds, v, vs, rfl, rfl, .inl ⟨by rw [hg]; exact hk, A1.rp x2 r1, PL.mono (fun p hp => Classical.byContradiction fun n => x1.some p n hp) r2⟩⟩) z⟩) q⟩,
    fun o ho => (List.mem_cons.mp ho).elim (fun e => e ▸ h.mono) fun ho => k.mono o ho⟩
theorem PL.length {κ : List Kd} {H0 H : Hp} {O : OS} : ∀ {is : List Nat} {F : Addr → Prop} {ds : List D} {vs : List V}, PL κ H0 H O F is ds vs → vs.length = is.length
  | [], _, _, _, ⟨_, e⟩ => by rw [e]; rfl
  | i :: is, _, _, _, ⟨d, r, v, vr, e1, e2, h⟩ => by
    rw [e2, List.length_cons, List.length_cons]
    rcases h with ⟨_, _, z⟩ | ⟨_, _, _, _, _, _, _, z⟩
    · rw [PL.length z]
    · rw [PL.length z]
def sPar (is : List Nat) (ws : List WE) : WS := fun E ε => cEv ws ε fun ds ε' => E.nx (setL is ds ε')
theorem sPar_mono {is : List Nat} {ws : List WE} (m : MonoC ws) : MonoS (sPar is ws) := fun E E' ε l q => cEv_mono m (fun ds ε' q => l.nx _ q) q
theorem par_imp {g : Gx} {is : List Nat} {ws : List WE} (m : MonoC ws) {D : Ends} {σ : L2.St} {H : Hp} (q : rdS g (sPar is ws) D σ H) : rdM g is ws σ H fun vs H' => vs.length = is.length ∧ D.nx (setL is vs σ) H' ∧ ∀ o p, H' p = none → D.nx (setL is vs σ) (upd H' p o) := by
  obtain ⟨O, ε, A, q⟩ := q
  refine ⟨O, ε, A, cEv_mono m (fun ds ε' q vs H' O' A' x pl => ⟨pl.length, ?_, fun o p np => ?_⟩) q⟩
  · exact q _ H' O' (store_all A' (fun p hp => A.unslot hp) pl)
  · have s := same_upd (o := o) np
    have A2 := A'.same s
    exact q _ _ O' (store_all A2 (fun p hp => A.unslot hp) (PL.ext A' (.same s) (fun p hp => A.unslot hp) pl))
theorem ds_par2 {i j : Nat} {x y : Str} {a b : Expr} {ws : List WE} {px py pt : Pos} {kt k2 pt2} (hc : X.calm = true) (hN : X.N.Nodup) (h : DM X κ [i, j] [a, b] ws)
    (hw : swappedStores [.Tuple [.Name x px, .Name y py] kt pt] (.Tuple [a, b] k2 pt2) X.env = pure (some [x, y]) := by rfl) (hi : X.N[i]? = some x := by rfl) (hj : X.N[j]? = some y := by rfl) (hij : i ≠ j := by decide)
    (hx : X.env.scope.names.lookup x = some .local := by rfl) (hy : X.env.scope.names.lookup y = some .local := by rfl)
    (hs : swapsWithSole [.Tuple [.Name x px, .Name y py] kt pt] (.Tuple [a, b] k2 pt2) pos.line X.env = pure false := by rfl) :
    DS X κ fr (.Assign [.Tuple [.Name x px, .Name y py] kt pt] (.Tuple [a, b] k2 pt2) pos) (sPar [i, j] ws) :=
  ⟨fun g hg _ => (ps_par hc hN hi hj hij hx hy (h.pa g hg) hw hs).imp fun D σ H q => by
    obtain ⟨O, ε, A, q⟩ := par_imp h.mono q
    refine ⟨O, ε, A, cEv_mono h.mono (fun ds ε' q vs H' O' A' x pl => ?_) q⟩
    obtain ⟨hl, q, _⟩ := q vs H' O' A' x pl
    match vs, hl with
    | [v, w], _ => exact ⟨v, w, rfl, q⟩, sPar_mono h.mono⟩
end
end DL
namespace DL
open PySem PySem.Spec L2
/-- the items; what must be so at each turn (of the slots' contents) -/
abbrev WI := En → (List D → (En → Prop) → En → Prop) → Prop
def MonoI (w : WI) : Prop := ∀ ε Q Q', (∀ d p ε', Q d p ε' → Q' d p ε') → w ε Q → w ε Q'
abbrev Gx.holds (g : Gx) (hl : List (D × V)) : Gx := { g with hold := hl ++ g.hold }
structure ItOk (g : Gx) (J : It) (sg : L2.St → Prop) (inv : En → Prop) (ds : List D) : Prop where
  go : ∀ (i : Nat) (O : OS) (H : Hp) (σ : L2.St) (ε : En), Abs g O H σ ε → sg σ → inv ε → i < ds.length → J.go i H
  yld : ∀ (i : Nat) (O : OS) (H : Hp) (σ : L2.St) (ε : En) (x : V) (H' : Hp), Abs g O H σ ε → sg σ → inv ε → i < ds.length → J.yld i H x H' → ∃ d, ds[i]? = some d ∧ Same H H' ∧ Rp H' O d x
  stop : ∀ (i : Nat) (O : OS) (H : Hp) (σ : L2.St) (ε : En), Abs g O H σ ε → sg σ → inv ε → ds.length = i → J.stop i H
theorem Abs.unhold {g : Gx} {hl : List (D × V)} {O : OS} {H : Hp} {σ : L2.St} {ε : En} (A : Abs (g.holds hl) O H σ ε) : Abs g O H σ ε :=
  { A with hold := fun p hp => A.hold p (List.mem_append_right _ hp) }
theorem Abs.addHold {g : Gx} {O : OS} {H : Hp} {σ : L2.St} {ε : En} (A : Abs g O H σ ε) {hl : List (D × V)} (h : ∀ p ∈ hl, Rp H O p.1 p.2) : Abs (g.holds hl) O H σ ε :=
  { A with hold := fun p hp => (List.mem_append.mp hp).elim (h p) (A.hold p) }
/-- fl: for a loop (no slot is fixed); else for a comprehension (the slots sl are fixed) -/
abbrev GX.holds {X : CxD} (g : GX X) (hl : List (D × V)) : GX X := ⟨g.toGx.holds hl, g.tk.imp fun _ _ _ _ ⟨O, ε, x, A, r⟩ => ⟨O, ε, x, A.unhold, r⟩, g.gk.1, fun p hp => List.mem_append_right _ (g.gk.2 p hp)⟩
abbrev CxD.no (Y : L2.Cx) : CxD := ⟨Y, fun _ _ => False, ⟨[], []⟩⟩
theorem takes_none {X : L2.Cx} {W : L2.WX} (h : ∀ c d σ H, ¬ W c d σ H) : L2.Takes X W := fun _ _ ⟨_, _, _, _, _, _, _, _, _, _, _, _, _, _, _, _, w⟩ => (h _ _ _ _ w).elim
abbrev Gx.no {Y : L2.Cx} (g : Gx) : GX (CxD.no Y) := ⟨g, takes_none fun _ _ _ _ ⟨_, _, _, _, _, r⟩ => r, ⟨(fun _ h => nomatch h), (fun _ h => nomatch h)⟩⟩
def rdI (g : Gx) (sl : List Nat) (wi : WI) : TI := fun σ H R => ∃ O ε, Abs g O H σ ε ∧ wi ε fun ds inv ε' => ∀ J H' O' hl, Abs (g.holds hl) O' H' σ ε' → Ext g.κ σ O H O' H' →
  ItOk (g.holds hl) J (fun σ' => ∀ i ∈ sl, σ'[i]? = σ[i]?) inv ds → R J H'
structure DI (X : CxD) (κ : List Kd) (sl : List Nat) (tg iter : Expr) (wi : WI) : Prop where
  pi : ∀ g : GX X, g.κ = κ → PI X tg iter (rdI g sl wi)
  mono : MonoI wi
theorem _root_.L2.PI.imp {X : CxD} {tg e : Expr} {t t' : TI} (h : PI X tg e t) (k : ∀ σ H R, t' σ H R → t σ H R) : PI X tg e t' := ⟨fun pins s σ H R I q => h.run pins s σ H R I (k _ _ _ q)⟩
/-- a change of a thing that was not there -/
theorem Ext.trans' {κ : List Kd} {σ : L2.St} {O O1 : OS} {H H1 : Hp} {p : Addr} {o : HO} (x : Ext κ σ O H O1 H1) (np : H p = none) : Ext κ σ O H O1 (upd H1 p o) :=
  ⟨fun a u e n => by rw [upd_ne (ne_of_none e np)]; exact x.keep a u e n, x.own, x.mono, fun a h => by
    by_cases q : a = p
    · subst q; exact (h np).elim
    · rw [upd_ne q]; exact x.some a h, x.ownm, x.monom⟩
section
variable {X : CxD} {κ : List Kd} {fr : Bool} {tg e : Expr} {sl : List Nat}
/-- a list or a tuple or a text is walked -/
def iSeq (K : PySem.W.Frag) (tl : TE) : TI := fun σ H R => tl σ H fun x H1 => (∃ a, x = .ref a ∧ (((∃ xs, SqL K H1 a xs) ∧ R (Itl K a) H1) ∨ ((∃ xs, SqT K H1 a xs) ∧ R (Itt K a) H1))) ∨ ∃ z, x = .str z ∧ R (Its z) H1
theorem pi_seq {tl : TE} (hl : PE X e tl) : PI X tg e (iSeq X.K tl) := by
  refine ⟨fun pins s σ H R I h => ?_⟩
  refine thn (hl.run pins s σ H _ I h) fun v s1 ⟨x, H1, I1, r1, q1⟩ => ?_
  rcases q1 with ⟨a, e, q⟩ | ⟨z, e, q⟩
  · subst e
    cases r1
    rcases q with ⟨⟨xs, hq⟩, q⟩ | ⟨⟨xs, hq⟩, q⟩
    · obtain ⟨its, rv, p, hz⟩ := I1.list hq
      refine wpAny_pyIter_list p.isList ?_
      refine ⟨s1.heap.objs.size, [s1.heap.objs.size], _, _, H1, rfl, I1.kept (t' := s1.toks) fun b o e => Heap.get?_push_of_some _ e, turn_list a _, ⟨_, Heap.get?_push_size _ rfl, rfl, rfl⟩, fun b hb => ?_, q⟩
      have e : b = s1.heap.objs.size := by simpa using hb
      subst e
      exact I1.fpOk (Nat.le_refl _) (I1.hok.fresh (Nat.le_refl _))
    · obtain ⟨its, rv, p, hz⟩ := I1.tuple hq
      refine wpAny_pyIter_tuple (show s1.heap.IsTuple a its.toArray from p) ?_
      refine ⟨s1.heap.objs.size, [s1.heap.objs.size], _, _, H1, rfl, I1.kept (t' := s1.toks) fun b o e => Heap.get?_push_of_some _ e, turn_tuple a _, ⟨_, Heap.get?_push_size _ rfl, rfl, rfl⟩, fun b hb => ?_, q⟩
      have e : b = s1.heap.objs.size := by simpa using hb
      subst e
      exact I1.fpOk (Nat.le_refl _) (I1.hok.fresh (Nat.le_refl _))
  · subst e
    obtain ⟨t, rfl⟩ := r1
    cases ha : z.cps.all (· < 128)
    · exact wpAny_pyIter_wide ha (pi_one (tk := s1.toks) I1 _ (turn_str _ z t "str_iterator" (.inr rfl)) ⟨_, Heap.get?_push_size _ rfl, rfl, rfl⟩ q)
    · exact wpAny_pyIter_ascii ha (pi_one (tk := s1.toks) I1 _ (turn_str _ z t "str_ascii_iterator" (.inl rfl)) ⟨_, Heap.get?_push_size _ rfl, rfl, rfl⟩ q)
def signs (z : Str) : List D := z.cps.toList.map fun c => .str ⟨#[c]⟩
def seqD : D → Option (List D)
  | .list ds => some ds
  | .tuple ds => some ds
  | .str z => some (signs z)
  | _ => none
def wSeq (w : WE) : WI := fun ε Q => w ε fun d ε' => ∃ ds, seqD d = some ds ∧ Q ds (fun _ => True) ε'
theorem RpL.at {H : Hp} {O : OS} : ∀ {ds : List D} {vs : List V} {i : Nat} {d : D}, RpL H O ds vs → ds[i]? = some d → ∃ v, vs[i]? = some v ∧ Rp H O d v
  | [], _, _, _, _, h => by simp at h
  | d' :: ds, _, 0, d, ⟨v, r, e, h, q⟩, hd => by
    have e' : d' = d := by simpa using hd
    subst e' e
    exact ⟨v, rfl, h⟩
  | d' :: ds, _, i + 1, d, ⟨v, r, e, h, q⟩, hd => by
    subst e
    obtain ⟨v', e', h'⟩ := RpL.at (i := i) q (by simpa using hd)
    exact ⟨v', by simpa using e', h'⟩
theorem itl_ok {g : Gx} {K : PySem.W.Frag} {a : Addr} {ds : List D} {sg : L2.St → Prop} {inv : En → Prop} (h : ∀ O H σ ε, Abs g O H σ ε → sg σ → inv ε → ∃ xs, H a = some (.lst xs) ∧ RpL H O ds xs) : ItOk g (Itl K a) sg inv ds where
  go := fun i O H σ ε A s v hi => by
    obtain ⟨xs, e, r⟩ := h O H σ ε A s v
    obtain ⟨x, ex, _⟩ := r.at (List.getElem?_eq_getElem hi)
    exact ⟨xs, x, SqL.of e, ex⟩
  yld := fun i O H σ ε x H' A s v hi y => by
    obtain ⟨xs, e, r⟩ := h O H σ ε A s v
    obtain ⟨x', ex, rx⟩ := r.at (List.getElem?_eq_getElem hi)
    obtain ⟨e', y⟩ := y
    subst e'
    have := y xs (SqL.of e)
    rw [ex] at this
    cases this
    exact ⟨_, List.getElem?_eq_getElem hi, Same.refl _, rx⟩
  stop := fun i O H σ ε A s v hi => by
    have hi := Nat.le_of_eq hi
    obtain ⟨xs, e, r⟩ := h O H σ ε A s v
    exact ⟨xs, SqL.of e, by rw [r.length]; exact hi⟩
theorem itt_ok {g : Gx} {K : PySem.W.Frag} {a : Addr} {ds : List D} {sg : L2.St → Prop} {inv : En → Prop} (h : ∀ O H σ ε, Abs g O H σ ε → sg σ → inv ε → ∃ xs, RdT H a xs ∧ RpL H O ds xs) : ItOk g (Itt K a) sg inv ds where
  go := fun i O H σ ε A s v hi => by
    obtain ⟨xs, e, r⟩ := h O H σ ε A s v
    obtain ⟨x, ex, _⟩ := r.at (List.getElem?_eq_getElem hi)
    exact ⟨xs, x, sqt e, ex⟩
  yld := fun i O H σ ε x H' A s v hi y => by
    obtain ⟨xs, e, r⟩ := h O H σ ε A s v
    obtain ⟨x', ex, rx⟩ := r.at (List.getElem?_eq_getElem hi)
    obtain ⟨e', y⟩ := y
    subst e'
    have := y xs (sqt e)
    rw [ex] at this
    cases this
    exact ⟨_, List.getElem?_eq_getElem hi, Same.refl _, rx⟩
  stop := fun i O H σ ε A s v hi => by
    have hi := Nat.le_of_eq hi
    obtain ⟨xs, e, r⟩ := h O H σ ε A s v
    exact ⟨xs, sqt e, by rw [r.length]; exact hi⟩
theorem its_ok {g : Gx} {z : Str} {sg : L2.St → Prop} {inv : En → Prop} : ItOk g (Its z) sg inv (signs z) where
  go := fun i O H σ ε A s v hi => by
    have hi : i < (z.cps.toList.map fun c => (PyData.str ⟨#[c]⟩ : D)).length := hi
    rw [List.length_map, Array.length_toList] at hi
    exact hi
  yld := fun i O H σ ε x H' A s v hi y => by
    obtain ⟨e, c, ec, ex⟩ := y
    subst e ex
    refine ⟨.str ⟨#[c]⟩, ?_, Same.refl _, rfl⟩
    show (z.cps.toList.map _)[i]? = _
    rw [List.getElem?_map, Array.getElem?_toList, ec]
    rfl
  stop := fun i O H σ ε A s v hi => by
    have hi := Nat.le_of_eq hi
    have hi : (z.cps.toList.map fun c => (PyData.str ⟨#[c]⟩ : D)).length ≤ i := hi
    rw [List.length_map, Array.length_toList] at hi
    exact hi
theorem di_seq {w : WE} (h : DE X κ e w) : DI X κ sl tg e (wSeq w) :=
  ⟨fun g hg => (pi_seq (h.pe g hg)).imp fun σ H R ⟨O, ε, A, q⟩ => ⟨O, ε, A, h.mono _ _ _ (fun d ε' ⟨ds, e, q⟩ v H' O' A' x r => by
    have hold : ∀ p ∈ [(d, v)], Rp H' O' p.1 p.2 := fun p hp => by
      have e : p = (d, v) := by simpa using hp
      rw [e]
      exact r
    have at' : ∀ {O2 H2 σ2 ε2}, Abs (g.holds [(d, v)]) O2 H2 σ2 ε2 → Rp H2 O2 d v := fun A2 => A2.hold (d, v) (List.mem_append_left _ (List.mem_singleton_self _))
    match d, e, r with
    | .list ds', e, ⟨a, xs, ev, n, eh, rl⟩ =>
      have e' : ds' = ds := Option.some.inj e
      subst e' ev
      exact .inl ⟨a, rfl, .inl ⟨⟨xs, SqL.of eh⟩, q _ H' O' [(.list ds', .ref a)] (A'.addHold hold) x (itl_ok fun O2 H2 σ2 ε2 A2 _ _ => by
        obtain ⟨b, ys, eb, nb, hb, rb⟩ := at' A2
        cases eb
        exact ⟨ys, hb, rb⟩)⟩⟩
    | .tuple ds', e, ⟨a, xs, ev, n, eh, rl⟩ =>
      have e' : ds' = ds := Option.some.inj e
      subst e' ev
      exact .inl ⟨a, rfl, .inr ⟨⟨xs, sqt eh⟩, q _ H' O' [(.tuple ds', .ref a)] (A'.addHold hold) x (itt_ok fun O2 H2 σ2 ε2 A2 _ _ => by
        obtain ⟨b, ys, eb, nb, hb, rb⟩ := at' A2
        cases eb
        exact ⟨ys, hb, rb⟩)⟩⟩
    | .str z, e, r =>
      have e' : signs z = ds := Option.some.inj e
      have ev : v = .str z := r
      subst e' ev
      exact .inr ⟨z, rfl, q _ H' O' [(.str z, .str z)] (A'.addHold hold) x its_ok⟩) q⟩,
    fun ε Q Q' h' q => h.mono _ _ _ (fun d ε' ⟨ds, e, q⟩ => ⟨ds, e, h' _ _ _ q⟩) q⟩
def rngD (lo : Int) (n : Nat) : List D := (List.range n).map fun (k : Nat) => .int (lo + (k : Int))
theorem itr_ok {g : Gx} {lo : Int} {n : Nat} {sg : L2.St → Prop} {inv : En → Prop} : ItOk g (Itr lo n) sg inv (rngD lo n) where
  go := fun i O H σ ε A s v hi => by
    unfold rngD at hi
    rw [List.length_map, List.length_range] at hi
    exact hi
  yld := fun i O H σ ε x H' A s v hi y => by
    obtain ⟨e, ex⟩ := y
    subst e ex
    unfold rngD at hi ⊢
    rw [List.length_map, List.length_range] at hi
    refine ⟨.int (lo + i), ?_, Same.refl _, rfl⟩
    rw [List.getElem?_map, List.getElem?_range hi]
    rfl
  stop := fun i O H σ ε A s v hi => by
    have hi := Nat.le_of_eq hi
    unfold rngD at hi
    rw [List.length_map, List.length_range] at hi
    exact hi
/-- range(b), range(a, b) -/
def rng1 : List D → Option (List D)
  | [.int j] => if -(2 ^ 62) ≤ j ∧ j < 2 ^ 62 then some (rngD 0 j.toNat) else none
  | _ => none
def wApp (f : List D → Option (List D)) (os : List Op) : WI := fun ε Q => aEv os ε fun xs ε' => ∃ ds r, vals ε' xs ds ∧ f ds = some r ∧ Q r (fun _ => True) ε'
theorem wApp_mono {f : List D → Option (List D)} {os : List Op} (m : MonoA os) : MonoI (wApp f os) := fun ε Q Q' h' q => aEv_mono m (fun xs ε' ⟨ds, r, e, e2, q⟩ => ⟨ds, r, e, e2, h' _ _ _ q⟩) q
theorem nb_int {H : Hp} {O : OS} {i : Int} {v : V} (h : Nb H O (.int i) v) : v = .int i := h
theorem nbl1 {H : Hp} {O : OS} {d : D} {vs : List V} (h : NbL H O [d] vs) : ∃ v, vs = [v] ∧ Nb H O d v := by
  obtain ⟨v, r, e, h, q⟩ := h
  have q : r = [] := q
  subst q
  exact ⟨v, e, h⟩
theorem di_rng1 {p : Pos} {o : Op} (hg : Gl X "range") (hm : X.mg "range" = none) (h : DA X κ [e] [o]) {pos : Pos} : DI X κ sl tg (.Call (.Name "range" p) [e] [] pos) (wApp rng1 [o]) :=
  ⟨fun g hg' => (pi_range1 hg hm (h.pa g hg') (by rw [st_cons h.hd.1]; rfl)).imp fun σ H R ⟨O, ε, A, q⟩ => ⟨O, ε, A, aEv_mono h.mono (fun xs ε' ⟨ds, r, e, e2, q⟩ vs H' O' A' x ors => by
    have nb := ors.nb A' e
    match ds, nb, e2 with
    | [.int j], nb, e2 =>
      obtain ⟨v, ev, hv⟩ := nbl1 nb
      have e2 : (if -(2 ^ 62) ≤ j ∧ j < 2 ^ 62 then some (rngD 0 j.toNat) else none) = some r := e2
      split at e2
      · rename_i hb
        cases e2
        exact ⟨j, by rw [ev, nb_int hv], hb.1, hb.2, q _ H' O' [] (A'.addHold fun p hp => nomatch hp) x itr_ok⟩
      · cases e2) q⟩, wApp_mono h.mono⟩
def forGo (t : Tg) (w : WS) (inv : En → Prop) (E : WEnds) : List D → En → Prop
  | [], ε => inv ε ∧ E.nx ε
  | d :: r, ε => inv ε ∧ ∃ ε1, bindD t d ε = some ε1 ∧ w { nx := forGo t w inv E r, rt := E.rt, bk := E.nx, ct := forGo t w inv E r } ε1
def sFor (wi : WI) (t : Tg) (w : WS) : WS := fun E ε => wi ε fun ds inv ε' => forGo t w inv E ds ε'
theorem forGo_mono {t : Tg} {w : WS} {inv : En → Prop} (m : MonoS w) {E E' : WEnds} (l : E.le E') : ∀ (ds : List D) (ε : En), forGo t w inv E ds ε → forGo t w inv E' ds ε
  | [], _, h => ⟨h.1, l.nx _ h.2⟩
  | d :: r, ε, ⟨hi, ε1, b, h⟩ => ⟨hi, ε1, b, m { nx := forGo t w inv E r, rt := E.rt, bk := E.nx, ct := forGo t w inv E r } _ _ ⟨forGo_mono m l r, l.rt, l.nx, forGo_mono m l r⟩ h⟩
theorem forGo_inv {t : Tg} {w : WS} {inv : En → Prop} {E : WEnds} : ∀ {ds : List D} {ε : En}, forGo t w inv E ds ε → inv ε
  | [], _, h => h.1
  | _ :: _, _, h => h.1
theorem ds_for {body : List Stmt} {wi : WI} {t : Tg} {w : WS} {pos : Pos} (hp : PassesOwn (model X.prog X.w) X.A X.env X.xe) (hc : X.calm = true) (hi : DI X κ [] tg e wi) (hg : DG X κ tg t) (h : DSs X κ fr body w)
    (hs : ∀ x, foldedSetIterable e X.env x = pure x := by intro _; rfl) : DS X κ fr (.For tg e body [] pos) (sFor wi t w) :=
  ⟨fun g hg' hf => by
    have pb : PSs X body (fun D σ H => ∃ g : GX X, g.κ = κ ∧ g.fr = fr ∧ rdS g w D σ H) := ⟨fun pins s σ H D I ⟨g, h1, h2, q⟩ => (h.ps g h1 h2).run pins s σ H D I q⟩
    have pg : PG X tg (fun v σ H Q => ∃ g : GX X, g.κ = κ ∧ rdG g t v σ H Q) := ⟨fun pins s σ H v u Q I r ⟨g, h1, q⟩ => (hg.pg g h1).run pins s σ H v u Q I r q⟩
    refine (ps_for hp hc (hi.pi g hg') pg pb hs).imp fun D σ H ⟨O, ε, A, q⟩ => ⟨O, ε, A, hi.mono _ _ _ (fun ds inv ε' q J H' O' hl A' x ok => ?_) q⟩
    have g' : (g.holds hl).κ = κ := hg'
    refine ⟨fun i m σ H => m = ds.length - i ∧ i ≤ ds.length ∧ ∃ O ε, Abs (g.holds hl) O H σ ε ∧ forGo t w inv (ends g D) (ds.drop i) ε, ⟨ds.length, rfl, Nat.zero_le _, O', ε', A', q⟩, ?_⟩
    rintro i m σ2 H2 ⟨rfl, hil, O2, ε2, A2, q⟩
    have sg : ∀ i ∈ ([] : List Nat), σ2[i]? = σ[i]? := fun i hi => nomatch hi
    by_cases hlt : i < ds.length
    · refine .inr ⟨ok.go i O2 H2 σ2 ε2 A2 sg (forGo_inv q) hlt, fun σ' H' => ∃ O ε, Abs (g.holds hl) O H' σ' ε ∧ forGo t w inv (ends g D) (ds.drop (i + 1)) ε, fun σ' H' z => ⟨ds.length - (i + 1), by omega, rfl, hlt, z⟩, fun v H3 y => ?_⟩
      obtain ⟨d, ed, sm, rd⟩ := ok.yld i O2 H2 σ2 ε2 v H3 A2 sg (forGo_inv q) hlt y
      rw [List.drop_eq_getElem_cons hlt] at q
      obtain ⟨_, ε3, b, q⟩ := q
      rw [List.getElem?_eq_getElem hlt] at ed
      cases ed
      refine ⟨g.holds hl, g', O2, ε2, _, ε3, A2.same sm, rd, b, fun σ3 A3 _ _ => ?_⟩
      refine ⟨g.holds hl, g', hf, O2, ε3, A3, h.mono { nx := forGo t w inv (ends g D) (ds.drop (i + 1)), rt := (ends g D).rt, bk := (ends g D).nx, ct := forGo t w inv (ends g D) (ds.drop (i + 1)) } _ _ ?_ q⟩
      exact ⟨fun ε4 z σ4 H4 O4 A4 => ⟨O4, ε4, A4, z⟩, fun d ε4 z v H4 σ4 O4 A4 r => z v H4 σ4 O4 A4.unhold r, fun ε4 z σ4 H4 O4 A4 => z σ4 H4 O4 A4.unhold, fun ε4 z σ4 H4 O4 A4 => ⟨O4, ε4, A4, z⟩⟩
    · have e : i = ds.length := by omega
      subst e
      rw [List.drop_length] at q
      exact .inl ⟨ok.stop _ O2 H2 σ2 ε2 A2 sg q.1 rfl, q.2 σ2 H2 O2 A2.unhold⟩,
  fun E E' ε l q => hi.mono _ _ _ (fun ds inv ε' q => forGo_mono h.mono l ds ε' q) q⟩
def wipeE (ε : En) : List Nat → En
  | [] => ε
  | v :: vs => (wipeE ε vs).set v none
/-- the slots vs as they were -/
def restE (ε ε1 : En) : List Nat → En
  | [] => ε
  | v :: vs => (restE ε ε1 vs).set v (ε1[v]?).join
def lcGo (t : Tg) (wt : WT) (we : WE) (vs : List Nat) (inv : En → Prop) : List D → List D → En → (List D → En → Prop) → Prop
  | [], acc, ε, Q => inv ε ∧ Q acc ε
  | d :: r, acc, ε, Q => inv ε ∧ ∃ ε1, bindD t d ε = some ε1 ∧ wt ε1 fun b ε2 => if b = true then we ε2 fun y ε3 => acc.length < sizeLine ∧ lcGo t wt we vs inv r (acc ++ [y]) (wipeE ε3 vs) Q else lcGo t wt we vs inv r acc (wipeE ε2 vs) Q
def eLc (wi : WI) (t : Tg) (wt : WT) (we : WE) (vs : List Nat) : WE := fun ε Q => wi ε fun ds inv ε1 => lcGo t wt we vs inv ds [] (wipeE ε1 vs) fun acc ε2 => Q (.list acc) (restE ε2 ε1 vs)
theorem lcGo_mono {t : Tg} {wt : WT} {we : WE} {vs : List Nat} {inv : En → Prop} (mt : MonoT wt) (me : Mono we) {Q Q' : List D → En → Prop} (h : ∀ a ε, Q a ε → Q' a ε) : ∀ (ds acc : List D) (ε : En), lcGo t wt we vs inv ds acc ε Q → lcGo t wt we vs inv ds acc ε Q'
  | [], _, _, q => ⟨q.1, h _ _ q.2⟩
  | d :: r, acc, ε, ⟨hi, ε1, b, q⟩ => ⟨hi, ε1, b, mt _ _ _ (fun c ε2 q => by
    cases c with
    | true => exact me _ _ _ (fun y ε3 ⟨hl, q⟩ => ⟨hl, lcGo_mono mt me h r _ _ q⟩) q
    | false => exact lcGo_mono mt me h r _ _ q) q⟩
theorem lcGo_inv {t : Tg} {wt : WT} {we : WE} {vs : List Nat} {inv : En → Prop} {Q : List D → En → Prop} : ∀ {ds acc : List D} {ε : En}, lcGo t wt we vs inv ds acc ε Q → inv ε
  | [], _, _, h => h.1
  | _ :: _, _, _, h => h.1
theorem eLc_mono {wi : WI} {t : Tg} {wt : WT} {we : WE} {vs : List Nat} (mi : MonoI wi) (mt : MonoT wt) (me : Mono we) : Mono (eLc wi t wt we vs) := fun ε Q Q' h q => mi _ _ _ (fun ds inv ε1 q => lcGo_mono mt me (fun a ε2 q => h _ _ q) _ _ _ q) q
/-- a clause's tests -/
structure DTs (X : CxD) (κ : List Kd) (es : List Expr) (w : WT) : Prop where
  pt : ∀ g : GX X, g.κ = κ → PTs X es (rdT g w)
  mono : MonoT w
def tYesW : WT := fun ε Q => Q true ε
theorem dts_nil : DTs X κ [] tYesW := ⟨fun g _ => ⟨fun pins s σ H Q I ⟨O, ε, A, h⟩ => pts_nil.run pins s σ H Q I (h H O A .refl)⟩, fun _ _ _ h q => h _ _ q⟩
theorem wipe_get {σ : L2.St} {j : Nat} : ∀ {vs : List Nat}, j ∉ vs → (wipe σ vs)[j]? = σ[j]? := fun h => wipe_out h
theorem wipeE_eq (ε : En) : ∀ vs : List Nat, ∀ j : Nat, j ∉ vs → (wipeE ε vs)[j]? = ε[j]?
  | [], _, _ => rfl
  | v :: vs, j, h => by
    have h' : j ≠ v ∧ j ∉ vs := by simpa using h
    show ((wipeE ε vs).set v none)[j]? = _
    rw [get_set_ne (Ne.symm h'.1), wipeE_eq ε vs j h'.2]
theorem wipeE_in (ε : En) : ∀ vs : List Nat, ∀ j : Nat, j ∈ vs → ∀ d : D, (wipeE ε vs)[j]? ≠ some (some d)
  | v :: vs, j, h, d, e => by
    have e : ((wipeE ε vs).set v none)[j]? = some (some d) := e
    by_cases q : v = j
    · subst q
      rw [List.getElem?_set] at e
      simp at e
    · rw [get_set_ne q] at e
      have h' : j ∈ vs := by
        rcases List.mem_cons.mp h with z | z
        · exact absurd z.symm q
        · exact z
      exact wipeE_in ε vs j h' d e
theorem wipeE_len (ε : En) : ∀ vs : List Nat, (wipeE ε vs).length = ε.length
  | [] => rfl
  | v :: vs => by
    show ((wipeE ε vs).set v none).length = _
    rw [List.length_set, wipeE_len ε vs]
theorem restE_out (ε ε1 : En) : ∀ vs : List Nat, ∀ j : Nat, j ∉ vs → (restE ε ε1 vs)[j]? = ε[j]?
  | [], _, _ => rfl
  | v :: vs, j, h => by
    have h' : j ≠ v ∧ j ∉ vs := by simpa using h
    show ((restE ε ε1 vs).set v _)[j]? = _
    rw [get_set_ne (Ne.symm h'.1), restE_out ε ε1 vs j h'.2]
theorem restE_in (ε ε1 : En) : ∀ vs : List Nat, ∀ j : Nat, j ∈ vs → ∀ d : D, (restE ε ε1 vs)[j]? = some (some d) → ε1[j]? = some (some d)
  | v :: vs, j, h, d, e => by
    have e : ((restE ε ε1 vs).set v (ε1[v]?).join)[j]? = some (some d) := e
    by_cases q : v = j
    · subst q
      rw [List.getElem?_set] at e
      simp only [if_true] at e
      split at e
      · have e' : (ε1[v]?).join = some d := Option.some.inj e
        cases z : ε1[v]? with
        | none => rw [z] at e'; cases e'
        | some o => rw [z] at e'; exact congrArg some e'
      · cases e
    · rw [get_set_ne q] at e
      have h' : j ∈ vs := by
        rcases List.mem_cons.mp h with z | z
        · exact absurd z.symm q
        · exact z
      exact restE_in ε ε1 vs j h' d e
theorem restE_len (ε ε1 : En) : ∀ vs : List Nat, (restE ε ε1 vs).length = ε.length
  | [] => rfl
  | v :: vs => by
    show ((restE ε ε1 vs).set v _).length = _
    rw [List.length_set, restE_len ε ε1 vs]
section
variable {g : Gx} {O O' : OS} {H H' : Hp} {σ : L2.St} {ε ε' : En} {vs : List Nat}
theorem mu_out (hv : ∀ j ∈ vs, κ[j]? = some .val) {j : Nat} (h : mu κ j) : j ∉ vs := fun z => by
  have := hv j z
  rcases h with h | h <;> (rw [this] at h; cases h)
theorem slotAt_wipe (hv : ∀ j ∈ vs, κ[j]? = some .val) {a : Addr} : SlotAt κ (wipe σ vs) a ↔ SlotAt κ σ a :=
  ⟨fun ⟨j, hj, e⟩ => ⟨j, hj, by rw [← wipe_get (mu_out hv hj)]; exact e⟩, fun ⟨j, hj, e⟩ => ⟨j, hj, by rw [wipe_get (mu_out hv hj)]; exact e⟩⟩
theorem Abs.wipe (A : Abs g O H σ ε) (hv : ∀ j ∈ vs, g.κ[j]? = some .val) : Abs g O H (L2.wipe σ vs) (wipeE ε vs) :=
  have nv : ∀ j k, g.κ[j]? = some k → k ≠ .val → j ∉ vs := fun j k e n z => n (by rw [hv j z] at e; cases e; rfl)
  { A with
    slot := fun i d e => by
      have hi : i ∉ vs := fun z => wipeE_in ε vs i z d e
      rw [wipeE_eq ε vs i hi] at e
      rw [wipe_get hi]
      exact A.slot i d e
    ownO := fun a z => A.ownO a (z.imp_left (slotAt_wipe hv).mp)
    apm := fun i a hi e => A.apm i a hi (by rw [wipe_get (mu_out hv hi)] at e; exact e)
    apart := fun i j a hi hj e e' => A.apart i j a hi hj (by rw [wipe_get (mu_out hv hi)] at e; exact e) (by rw [wipe_get (mu_out hv hj)] at e'; exact e')
    brwA := fun i b hi e => A.brwA i b hi (by rw [wipe_get (nv i _ hi (by decide))] at e; exact e)
    new := fun i a hi e => A.new i a hi (by rw [wipe_get (nv i _ hi (by decide))] at e; exact e)
    ioS := fun i a hi => by rw [wipe_get ((A.ioK i a hi).elim (fun z => nv i _ z (by decide)) fun z => nv i _ z (by decide))]; exact A.ioS i a hi
    len := by rw [wipeE_len, wipe_length]; exact A.len
    lenK := by rw [wipe_length]; exact A.lenK
    fz := fun σ0 e i hi => by rw [wipe_get (nv i _ hi (by decide))]; exact A.fz σ0 e i hi }
/-- behind the block: what it knew besides its own slots, and these as they were -/
theorem Abs.unwipe (A : Abs g O H σ ε) (x : Ext g.κ σ O H O' H') (hv : ∀ j ∈ vs, g.κ[j]? = some .val) (B : Abs g O' H' (L2.wipe σ vs) ε') : Abs g O' H' σ (restE ε' ε vs) :=
  have nv : ∀ j k, g.κ[j]? = some k → k ≠ .val → j ∉ vs := fun j k e n z => n (by rw [hv j z] at e; cases e; rfl)
  { B with
    slot := fun i d e => by
      by_cases hi : i ∈ vs
      · have e1 := restE_in ε' ε vs i hi d e
        obtain ⟨v, k, e2, e3, s⟩ := A.slot i d e1
        rw [hv i hi] at e3
        cases e3
        exact ⟨v, .val, e2, hv i hi, A.rp x s⟩
      · rw [restE_out ε' ε vs i hi] at e
        obtain ⟨v, k, e2, e3, s⟩ := B.slot i d e
        rw [wipe_get hi] at e2
        exact ⟨v, k, e2, e3, s⟩
    ownO := fun a z => B.ownO a (z.imp_left (slotAt_wipe hv).mpr)
    apm := fun i a hi e => B.apm i a hi (by rw [wipe_get (mu_out hv hi)]; exact e)
    apart := A.apart
    brwA := A.brwA
    new := A.new
    ioS := A.ioS
    len := by rw [restE_len, ← wipe_length σ vs]; exact B.len
    lenK := A.lenK
    fz := A.fz }
/-- a thing that is no slot's changes -/
theorem Abs.updD (A : Abs g O H σ ε) {p : Addr} {o : HO} (hp : O p) (no : ¬ OwnAt O g.κ σ p) (n0 : g.H0 p = none) : Abs g O (upd H p o) σ ε := by
  have k : ∀ b u, b ≠ p → H b = some u → upd H p o b = some u := fun b u n e => by rw [upd_ne n]; exact e
  have kO : ∀ b u, H b = some u → ¬ O b → upd H p o b = some u := fun b u e n => k b u (fun z => n (z ▸ hp)) e
  have so : ∀ b, H b ≠ none → upd H p o b ≠ none := fun b h => by
    by_cases q : b = p
    · subst q; rw [upd_same]; exact fun z => nomatch z
    · rw [upd_ne q]; exact h
  exact { A with
    slot := fun j d' ej => by
      obtain ⟨v, kd, e1, e2, s⟩ := A.slot j d' ej
      refine ⟨v, kd, e1, e2, ?_⟩
      have oth : mu g.κ j → ∀ b u, v = .ref b → H b = some u → upd H p o b = some u := fun hj b u ev eb => k b u (fun z => no (.inl ⟨j, hj, by rw [e1, ev, z]⟩)) eb
      cases kd with
      | val => exact Rp.ext kO (fun _ z => .inl z) s
      | own => exact Ow.ext kO (fun _ z => .inl z) (oth (.inl e2)) (fun _ z => z) s
      | io => exact Ow.ext kO (fun _ z => .inl z) (oth (.inr e2)) (fun _ z => z) s
      | st => exact OwS.ext kO (fun _ z => .inl z) (fun b u m eb => k b u (fun z => no (.inr (z ▸ m))) eb) (fun _ z => z) s
      | sl => exact OwS.ext kO (fun _ z => .inl z) (fun b u m eb => k b u (fun z => no (.inr (z ▸ m))) eb) (fun _ z => z) s
      | brw =>
        have nb : ∀ b, v = .ref b → b ≠ p := fun b ev z => by
          obtain ⟨n0', _⟩ := A.brwA j b e2 (by rw [e1, ev])
          exact n0' (z ▸ n0)
        match d', s with
        | .none, h => exact h
        | .bool _, h => exact h
        | .int _, h => exact h
        | .str _, h => exact h
        | .list _, ⟨b, xs, ev, r, q⟩ => exact ⟨b, xs, ev, k _ _ (nb b ev) r, RpL.ext kO (fun _ z => .inl z) q⟩
        | .tuple _, ⟨b, xs, ev, r, q⟩ => exact ⟨b, xs, ev, rd_keep (fun o z => k _ o (nb b ev) z) r, RpL.ext kO (fun _ z => .inl z) q⟩
        | .dict _, ⟨b, u, ev, r, q⟩ => exact ⟨b, u, ev, k _ _ (nb b ev) r, RpE.ext kO (fun _ z => .inl z) q⟩
    has := fun b z => so b (A.has b z)
    fr := fun b u eb n n2 => k b u (fun z => by subst z; rw [n0] at eb; cases eb) (A.fr b u eb n n2)
    hold := fun q hq => Rp.ext kO (fun _ z => .inl z) (A.hold q hq) }
theorem RpL.snoc {H : Hp} {O : OS} {d : D} {v : V} (h : Rp H O d v) : ∀ {ds : List D} {vs : List V}, RpL H O ds vs → RpL H O (ds ++ [d]) (vs ++ [v])
  | [], vs, e => by
    have e : vs = [] := e
    subst e
    exact ⟨v, [], rfl, h, rfl⟩
  | _ :: _, _, ⟨v', r, e, h', q⟩ => by
    subst e
    exact ⟨v', r ++ [v], rfl, h', RpL.snoc h q⟩
end
theorem lc_imp {g : Gx} {wi : WI} {t : Tg} {wt : WT} {we : WE} {vs sl : List Nat} (hgk : g.κ = κ) (mi : MonoI wi) (mt : MonoT wt) (me : Mono we) (hv : ∀ j ∈ vs, κ[j]? = some .val) (hts : ∀ j ∈ slots t, j ∈ vs) (hsl : ∀ j ∈ sl, j ∉ vs) {σ : L2.St} {H : Hp} {Q : VK} (q : rdF g (eLc wi t wt we vs) σ H Q) :
    tLc (rdI g sl wi) (fun v σ H Q => ∃ g, g.κ = κ ∧ rdG g t v σ H Q) (fun σ H Q => ∃ g, g.κ = κ ∧ rdT g wt σ H Q) (fun σ H Q => ∃ g, g.κ = κ ∧ rdE g we σ H Q) vs σ H Q := by
  obtain ⟨O, ε, A, q⟩ := q
  refine ⟨O, ε, A, mi _ _ _ (fun ds inv ε1 q J H1 O1 hl A1 x1 ok D nD => ?_) q⟩
  have g' : (g.holds hl).κ = κ := hgk
  have hv' : ∀ j ∈ vs, (g.holds hl).κ[j]? = some .val := fun j hj => by rw [g']; exact hv j hj
  have nownD : ¬ SlotAt κ σ D := by rw [← g']; exact A1.unslot nD
  have nownW : ∀ {σ2 : L2.St}, (L2.wipe σ2 vs = L2.wipe σ vs) → ∀ a, SlotAt κ σ2 a → SlotAt κ σ a := fun {σ2} e a z => (slotAt_wipe hv).mp (by rw [← e]; exact (slotAt_wipe hv).mpr z)
  have n0D : g.H0 D = none := A1.n0 nD
  refine ⟨fun i m Hx => m = ds.length - i ∧ i ≤ ds.length ∧ ∃ O2 ε2 acc xs, Abs (g.holds hl) O2 Hx (L2.wipe σ vs) ε2 ∧ Ext κ σ O1 H1 O2 Hx ∧ O2.sl D ∧ Hx D = some (.lst xs) ∧ RpL Hx O2 acc xs ∧
    lcGo t wt we vs inv (ds.drop i) acc ε2 (fun acc ε2 => ∀ p H' O', Abs g O' H' σ (restE ε2 ε1 vs) → Ext g.κ σ O H O' H' → O'.sl p → H p = none → Ow H' O' (.list acc) (.ref p) → Q (.ref p) H'), ⟨ds.length, rfl, Nat.zero_le _, OS.add O1 D, wipeE ε1 vs, [], [], (A1.add nD).wipe hv', Ext.add nD, A1.addSl nD, upd_same, rfl, lcGo_mono mt me (fun a ε2 q => q) _ _ _ q⟩, ?_⟩
  rintro i m H2 ⟨rfl, hil, O2, ε2, acc, xs, A2, x2, oD, eD, racc, q⟩
  have sg : ∀ i ∈ sl, (L2.wipe σ vs)[i]? = σ[i]? := fun i hi => wipe_get (hsl i hi)
  by_cases hlt : i < ds.length
  · refine .inr ⟨ok.go i O2 H2 _ ε2 A2 sg (lcGo_inv q) hlt, fun Hx => ∃ O2 ε2 acc xs, Abs (g.holds hl) O2 Hx (L2.wipe σ vs) ε2 ∧ Ext κ σ O1 H1 O2 Hx ∧ O2.sl D ∧ Hx D = some (.lst xs) ∧ RpL Hx O2 acc xs ∧
      lcGo t wt we vs inv (ds.drop (i + 1)) acc ε2 (fun acc ε2 => ∀ p H' O', Abs g O' H' σ (restE ε2 ε1 vs) → Ext g.κ σ O H O' H' → O'.sl p → H p = none → Ow H' O' (.list acc) (.ref p) → Q (.ref p) H'), fun H' z => ⟨ds.length - (i + 1), by omega, rfl, hlt, z⟩, fun v H3 y => ?_⟩
    obtain ⟨d, ed, sm, rd⟩ := ok.yld i O2 H2 _ ε2 v H3 A2 sg (lcGo_inv q) hlt y
    rw [List.drop_eq_getElem_cons hlt] at q
    obtain ⟨_, ε3, b, q⟩ := q
    rw [List.getElem?_eq_getElem hlt] at ed
    cases ed
    refine ⟨g.holds hl, g', O2, ε2, _, ε3, A2.same sm, rd, b, fun σ3 A3 s3 l3 => ?_⟩
    have wσ : L2.wipe σ3 vs = L2.wipe σ vs := by
      refine List.ext_getElem? fun j => ?_
      by_cases hj : j ∈ vs
      · have : ∀ σ' : L2.St, σ'.length = σ.length → (L2.wipe σ' vs)[j]? = if j < σ.length then some none else none := fun σ' hl' => by
          by_cases hjl : j < σ.length
          · rw [if_pos hjl]
            have hj2 : j < (L2.wipe σ' vs).length := by rw [wipe_length, hl']; exact hjl
            cases e : (L2.wipe σ' vs)[j] with
            | none => rw [List.getElem?_eq_getElem hj2, e]
            | some u => exact absurd hj (wipe_some (by rw [List.getElem?_eq_getElem hj2, e])).2
          · rw [if_neg hjl]
            exact List.getElem?_eq_none (by rw [wipe_length, hl']; omega)
        rw [this σ3 (by rw [l3, wipe_length]), this σ rfl]
      · rw [wipe_get hj, s3 j (fun z => hj (hts j z)), wipe_get hj]
        
    refine ⟨wσ, g.holds hl, g', O2, ε3, A3, mt _ _ _ (fun c ε4 q H4 O4 A4 x4 => ?_) q⟩
    have x24 : Ext κ σ O1 H1 O4 H4 := x2.trans ((Ext.same sm).trans ⟨fun a o e n => x4.keep a o e (fun z => n (z.imp_left fun z => nownW wσ a (by rw [← g']; exact z))), x4.own, x4.mono, x4.some, x4.ownm, x4.monom⟩)
    have oD4 : O4.sl D := x4.sl oD (by rw [sm _ _ eD]; exact fun z => nomatch z)
    have kD4 : H4 D = some (.lst xs) := x4.keep D _ (sm _ _ eD) (fun z => z.elim (fun z => nownD (nownW wσ D (by rw [← g']; exact z))) oD.2)
    have racc4 : RpL H4 O4 acc xs := A3.rpL x4 (RpL.ext (fun a o e _ => sm a o e) (fun _ z => .inl z) racc)
    have wend : ∀ {O5 : OS} {H5 : Hp} {ε5 : En}, Abs (g.holds hl) O5 H5 σ3 ε5 → Abs (g.holds hl) O5 H5 (L2.wipe σ vs) (wipeE ε5 vs) := fun A5 => by
      rw [← wσ]
      exact A5.wipe hv'
    cases c with
    | false =>
      exact ⟨O4, _, acc, xs, wend A4, x24, oD4, kD4, racc4, q⟩
    | true =>
      refine ⟨g.holds hl, g', O4, ε4, A4, me _ _ _ (fun y ε5 ⟨hacc, q⟩ yv H5 O5 A5 x5 r5 => ?_) q⟩
      have x25 : Ext κ σ O1 H1 O5 H5 := x24.trans ⟨fun a o e n => x5.keep a o e (fun z => n (z.imp_left fun z => nownW wσ a (by rw [← g']; exact z))), x5.own, x5.mono, x5.some, x5.ownm, x5.monom⟩
      have oD5 : O5.sl D := x5.sl oD4 (by rw [kD4]; exact fun z => nomatch z)
      have kD5 : H5 D = some (.lst xs) := x5.keep D _ kD4 (fun z => z.elim (fun z => nownD (nownW wσ D (by rw [← g']; exact z))) oD4.2)
      have racc5 := A4.rpL x5 racc4
      refine ⟨xs, kD5, by rw [racc.length]; exact hacc, O5, _, acc ++ [y], xs ++ [yv], (wend A5).updD oD5.1 (fun z => z.elim (fun z => nownD ((slotAt_wipe hv).mp (by rw [← g']; exact z))) oD5.2) n0D, ?_, oD5, upd_same, ?_, q⟩
      · exact x25.trans' nD
      · have kO : ∀ a o, H5 a = some o → ¬ O5 a → upd H5 D (.lst (xs ++ [yv])) a = some o := fun a o e n => by rw [upd_ne (show a ≠ D from fun z => n (by rw [z]; exact oD5.1))]; exact e
        exact RpL.snoc (Rp.ext kO (fun _ z => .inl z) r5) (RpL.ext kO (fun _ z => .inl z) racc5)
  · have e : i = ds.length := by omega
    subst e
    rw [List.drop_length] at q
    refine .inl ⟨ok.stop _ O2 H2 _ ε2 A2 sg q.1 rfl, ?_⟩
    refine q.2 D H2 O2 ((A1.unwipe (by rw [g']; exact x2) hv' A2).unhold) (x1.trans (by rw [hgk]; exact x2)) oD (Classical.byContradiction fun z => x1.some D z nD) ⟨D, xs, rfl, oD.1, eD, racc⟩
def subsetB (a b : List Nat) : Bool := a.all fun j => b.contains j
def apartB (a b : List Nat) : Bool := a.all fun j => !b.contains j
def valB (κ : List Kd) (vs : List Nat) : Bool := vs.all fun j => decide (κ[j]? = some .val)
theorem subsetB_ok {a b : List Nat} (h : subsetB a b = true) : ∀ j ∈ a, j ∈ b := fun j hj => by simpa using List.all_eq_true.mp h j hj
theorem apartB_ok {a b : List Nat} (h : apartB a b = true) : ∀ j ∈ a, j ∉ b := fun j hj => by simpa using List.all_eq_true.mp h j hj
theorem valB_ok {vs : List Nat} (h : valB κ vs = true) : ∀ j ∈ vs, κ[j]? = some .val := fun j hj => of_decide_eq_true (List.all_eq_true.mp h j hj)
section
variable {elt iter : Expr} {ifs : List Expr} {scope : Scope} {own : List (Str × Nat)} {pos : Pos} {wi : WI} {t : Tg} {wt : WT} {we : WE}
theorem df_lc (hc : X.calm = true) (hN : X.N.Nodup) (hi : DI X κ sl tg iter wi) (ok : BlkOk X.N X.env.scope scope own)
    (hg : ∀ (s : Shared) (H : Hp) (C : Addr) (cl : List (Str × Addr)) (fp : List Addr), DG (CxD.no (X.toCx.blk s H scope (compEnvC scope cl C X.env) fp)) κ tg t) (ht : ∀ (s : Shared) (H : Hp) (C : Addr) (cl : List (Str × Addr)) (fp : List Addr), DTs (CxD.no (X.toCx.blk s H scope (compEnvC scope cl C X.env) fp)) κ ifs wt)
    (he : ∀ (s : Shared) (H : Hp) (C : Addr) (cl : List (Str × Addr)) (fp : List Addr), DE (CxD.no (X.toCx.blk s H scope (compEnvC scope cl C X.env) fp)) κ elt we)
    (hv : valB κ (own.map (·.2)) = true := by rfl) (hts : subsetB (slots t) (own.map (·.2)) = true := by rfl) (hsl : apartB sl (own.map (·.2)) = true := by rfl) (hs : ∀ x, foldedSetIterable iter X.env x = pure x := by intro _; rfl) :
    DF X κ (.ListComp elt [⟨tg, iter, ifs, 0⟩] scope pos) (eLc wi t wt we (own.map (·.2))) :=
  have mt : MonoT wt := (ht {} (fun _ => none) 0 [] []).mono
  have me : Mono we := (he {} (fun _ => none) 0 [] []).mono
  have hg' : ∀ (s : Shared) (H : Hp) (C : Addr) (cl : List (Str × Addr)) (fp : List Addr), PG (CxD.no (X.toCx.blk s H scope (compEnvC scope cl C X.env) fp)) tg (fun v σ H Q => ∃ g, g.κ = κ ∧ rdG g t v σ H Q) := fun s H C cl fp => ⟨fun pins s2 σ H2 v u Q I r ⟨g, h1, q⟩ => ((hg s H C cl fp).pg g.no h1).run pins s2 σ H2 v u Q I r q⟩
  have ht' : ∀ (s : Shared) (H : Hp) (C : Addr) (cl : List (Str × Addr)) (fp : List Addr), PTs (CxD.no (X.toCx.blk s H scope (compEnvC scope cl C X.env) fp)) ifs (fun σ H Q => ∃ g, g.κ = κ ∧ rdT g wt σ H Q) := fun s H C cl fp => ⟨fun pins s2 σ H2 Q I ⟨g, h1, q⟩ => ((ht s H C cl fp).pt g.no h1).run pins s2 σ H2 Q I q⟩
  have he' : ∀ (s : Shared) (H : Hp) (C : Addr) (cl : List (Str × Addr)) (fp : List Addr), PE (CxD.no (X.toCx.blk s H scope (compEnvC scope cl C X.env) fp)) elt (fun σ H Q => ∃ g, g.κ = κ ∧ rdE g we σ H Q) := fun s H C cl fp => ⟨fun pins s2 σ H2 Q I ⟨g, h1, q⟩ => ((he s H C cl fp).pe g.no h1).run pins s2 σ H2 Q I q⟩
  ⟨fun g hgk => (pe_lc hc hN (hi.pi g hgk) ok hg' ht' he' hs).imp fun σ H Q q => lc_imp hgk hi.mono mt me (valB_ok hv) (subsetB_ok hts) (apartB_ok hsl) q, eLc_mono hi.mono mt me⟩
end
theorem slF_inj {i j : Nat} (h : slF i = slF j) : i = j := by
  have := congrFun h ((List.replicate i none) ++ [some PyData.none])
  unfold slF at this
  by_cases e : i = j
  · exact e
  · rw [List.getElem?_append_right (by simp)] at this
    simp only [List.length_replicate, Nat.sub_self, List.getElem?_cons_zero, Option.join_some] at this
    by_cases l : j < i
    · rw [List.getElem?_append_left (by simpa using l), List.getElem?_replicate] at this
      simp [l] at this
    · rw [List.getElem?_eq_none (by simp; omega)] at this
      cases this
def zipD (xs ys : List D) : List D := (xs.zip ys).map fun p => .tuple [p.1, p.2]
theorem zipD_len (xs ys : List D) : (zipD xs ys).length = min xs.length ys.length := by
  unfold zipD
  rw [List.length_map, List.length_zip]
theorem zipD_get {xs ys : List D} {i : Nat} {x y : D} (hx : xs[i]? = some x) (hy : ys[i]? = some y) : (zipD xs ys)[i]? = some (.tuple [x, y]) := by
  unfold zipD
  rw [List.getElem?_map, (List.getElem?_zip_eq_some (z := (x, y))).mpr ⟨hx, hy⟩]
  rfl
def zip2 : D → D → Option (List D)
  | .list xs, .list ys => some (zipD xs ys)
  | .tuple xs, .tuple ys => some (zipD xs ys)
  | _, _ => none
end
end DL
namespace DL
open PySem PySem.Spec L2
theorem guards_deeper {A : Around} {env : Env} (h : A.guards = some []) : (A.deeper env).guards = some [] := by
  unfold Around.deeper
  exact h
structure FnG (P : Program) (w : World) (K : PySem.W.Frag) (mg : Str → Option Value) (base : Heap) (CX : CXT) (k : Nat) (f : Addr) (fd : FuncData) (ps : List Str) (sp : Sp) : Prop where
  lenG : ∀ vs H Q E, sp vs H Q E → vs.length = ps.length
  runG : ∀ (A : Around), Room k A → A.guards = some [] → ∀ (outer : List Env) (s : Shared) (H : Hp), Env0 P w K mg base A outer s H → ∀ (args : Args) (us : List Value) (vs : List V), BindsTo s fd args (ps.zip us) → Vals vs us →
    ∀ (Q : VK) (E : XK), sp vs H Q E → codeAny (model P w) A (.call (.ref f) args) (CR CX outer P w H s Q E) s
section
variable {P : Program} {w : World} {K : PySem.W.Frag} {mg : Str → Option Value} {base : Heap} {CX : CXT}
theorem FnG.mono {j k : Nat} {f : Addr} {fd : FuncData} {ps : List Str} {sp : Sp} (F : FnG P w K mg base CX j f fd ps sp) (h : j ≤ k) : FnG P w K mg base CX k f fd ps sp :=
  ⟨F.lenG, fun A hr => F.runG A (hr.mono h)⟩
theorem FnG.imp {k : Nat} {f : Addr} {fd : FuncData} {ps : List Str} {sp sp' : Sp} (F : FnG P w K mg base CX k f fd ps sp) (h : ∀ vs H Q E, sp' vs H Q E → sp vs H Q E) : FnG P w K mg base CX k f fd ps sp' :=
  ⟨fun vs H Q E q => F.lenG vs H Q E (h _ _ _ _ q), fun A hr hg outer s H e0 args us vs hb hv Q E q => F.runG A hr hg outer s H e0 args us vs hb hv Q E (h _ _ _ _ q)⟩
theorem fn_g {x qual : Str} {st : Stmt} {f : Addr} {fd : FuncData} {N ps : List Str} {k : Nat} {sp : Sp} (F : Fun K x qual st f fd) (S : FnScope N ps (defScope st)) (len : ∀ vs H Q E, sp vs H Q E → vs.length = ps.length)
    (walk : ∀ (cdv : Value) (A : Around) (outer : List Env) (s : Shared) (H : Hp) (vs : List V) (Q : VK) (E : XK), Room k (A.deeper (PyProof.Rows.envOfC qual (defScope st) s.heap.objs.size f cdv)) → (A.deeper (PyProof.Rows.envOfC qual (defScope st) s.heap.objs.size f cdv)).guards = some [] → sp vs H Q E →
      ∃ t, PSs (cxOf CX P w K mg base N qual (defScope st) f cdv A outer s H E) (defBody st) t ∧ t { nx := fun _ H' => Q .non H', rt := Q } (L2.start N vs) H) : FnG P w K mg base CX (k + 1) f fd ps sp := by
  obtain ⟨oc, od, kV, doc, pm, an, cdv, ct, osl, rfl, lk, hcd⟩ := F.ex
  refine ⟨len, fun A hr hg outer s H e0 args us vs hb hv Q E hsp => ?_⟩
  have up : ∀ b o, base.get? b = some o → s.heap.get? b = some o := fun b o z => (e0.bs b o z).1
  have KX : K.In s.heap := e0.mod.kin.keeps up
  obtain ⟨t, ht, hq⟩ := walk cdv A outer s H vs Q E (hr.deeper _) (guards_deeper hg) hsp
  refine Att.call_fn KX (e0.mod.nolimit.keeps up) lk hcd hr.depth hb ?_ (fun s1 ic => ?_) S.co S.gen S.kind
  · refine List.all_eq_true.mpr fun y hy => ?_
    obtain ⟨n, v⟩ := y
    rcases S.par n (List.of_mem_zip hy).1 with q | q <;> simp [q]
  · have I := inv_start (CX := CX) (E := E) S hr.hd e0 (len _ _ _ _ hsp) hv ic
    refine wpAny_mono (ht.run [] s1 _ H _ I hq) (fun fl s' z => ?_) fun _ _ z => z
    match fl, z with
    | .ret u, ⟨v, σ', H', J, rv, q⟩ => exact ⟨v, H', J.os, J.bare, J.base, J.hok, rv, q⟩
    | .next, ⟨σ', H', J, q⟩ => exact ⟨.non, H', J.os, J.bare, J.base, J.hok, rfl, q⟩
    | .brk, ⟨_, _, _, q⟩ => exact q.elim
    | .cont, ⟨_, _, _, q⟩ => exact q.elim
end
section
variable {X : Cx} {CX : CXT} {k : Nat} {f : Addr} {fd : FuncData} {ps : List Str} {sp : Sp} {E : XK} {x : Str} {p pos : Pos} {e : Expr} {es : List Expr} {t : TA}
theorem pe_callG (F : FnG X.prog X.w X.K X.mg X.base CX k f fd ps sp) (hr : Room k X.A) (hgd : X.A.guards = some []) (hg : Gl X x) (hm : X.mg x = some (.ref f)) (hk : PySem.W.keepIn X.K (.ref f) = true) (hb : Binds X.K fd ps []) (hx : Passes CX X E) (ha : PA X (e :: es) t)
    (hdb : (x == ("__debug__" : Str)) = false) (he : starEach (e :: es) X.env = (false, eval e X.env) :: starEach es X.env) (hpl : (backTo pos (starEach es X.env)).any (·.1) = false) :
    PE X (.Call (.Name x p) (e :: es) [] pos) (fun σ H Q => t σ H fun vs H1 => sp vs H1 Q E) := by
  refine ⟨fun pins s σ H Q I q => ?_⟩
  refine wpAny_Call_Name_kw (ld_glob I hg hm ?_ hdb)
  refine PySem.W.callWith_K (h₀ := X.base) I.ok.mod.kin hk ?_ he hpl
  refine thn (ha.run pos pins s σ H _ I q) fun us s1 z => ?_
  obtain ⟨vs, H1, I1, r, q1⟩ := z
  refine ⟨I1.kIn, ?_⟩
  have hl : us.length = ps.length := by rw [← r.length]; exact F.lenG _ _ _ _ q1
  have bt : BindsTo s1 fd ⟨us, []⟩ (ps.zip us) := by
    have z := hb s1 us I1.kIn (by rw [List.append_nil]; exact hl)
    rwa [List.append_nil] at z
  refine wpAny_call (codeAny_mono (F.runG X.A hr hgd X.stack s1 H1 I1.env0 ⟨us, []⟩ us vs bt r Q E q1) fun res s2 z2 => ?_)
  match res, z2 with
  | .error u, z2 => exact hx pins σ H1 s1 u s2 I1 z2
  | .ok (.ret u), z2 => exact I1.after z2
  | .ok .next, z2 => exact z2.elim
  | .ok .brk, z2 => exact z2.elim
  | .ok .cont, z2 => exact z2.elim
end
/-- the script alone is tracked, and locked -/
def ScrH (a : Addr) (o : Obj) (ns : List Int) : Hp := fun b => if b = a then some (.frz o (.lst (ns.map V.int))) else none
theorem walk_g {l : PySem.W.OpenLaw} {n k : Nat} {q : Program} {loose : List Str} {XP : (Str → Option Value) → Heap → Prop} {YP : World → Heap → Prop} {d : DefRec} {x : Str}
    (hn : l.most = some n) (hn2 : n ≤ sizeLine) (hdf : d.params.defaults = []) (hr : Room k callerA)
    (F : ∀ (w : World) (mg : Str → Option Value) (fa : Addr) (h : Heap), YP w h → h.Ns mainGlobals mg → mg d.name = some (.ref fa) →
      ∃ (K : PySem.W.Frag) (fd : FuncData) (sp : Sp), K.In h ∧ (∀ (s : Shared) (u : Value), BindsTo s fd ⟨[u], []⟩ [(x, u)]) ∧ (∀ (H : Hp) (a : Addr) (ns : List Int), ns.length ≤ n → SqL K H a (ns.map V.int) → sp [.ref a] H (fun v _ => v = .bl true) fun _ _ _ => False) ∧
        ∀ base : Heap, K.In base → base.Ns mainGlobals mg → FnG l.prog w K mg base CX0 k fa fd [x] sp) :
    PySem.W.WalkO q loose XP YP l.row.toRowW d [] (fun f vs => PySem.call f vs) := by
  refine Att.attach_call hn hdf fun w s₀ s₁ mg mb fa o pm cd doc a vs ns G Y ho hd hcd hmg hobj hints hlen hg => ?_
  obtain ⟨K, fd, sp, KX, hb, hsp, hF⟩ := F w mg fa _ Y G.T.g hmg
  have rv := vals_ints hints
  have lv := hints.length
  -- any abstract heap that tracks at most the script, as it stands
  suffices core : ∀ H : Hp, SqL K H a (ns.map V.int) → HOk l.prog w H s₁.heap → (∀ b u, H b = some u → b = a ∧ K.lookup b = none ∧ ∃ xs, u = .frz { cls := .type "list", data := .seq vs.toArray } (.lst xs)) →
      codeAny (model l.prog w) callerA (.call (.ref fa) ⟨[.ref a], []⟩) (fun r s' => r = .ok (.ret (.bool true)) ∧ OldK s₁.heap s'.heap ∧ s'.os = s₁.os ∧ PyProof.Rows.AllBare s'.gens) s₁ by
    cases hk : K.lookup a with
    | some ob =>
      have e := KX a ob hk
      rw [hobj] at e
      cases e
      refine core (fun _ => none) (.inr ⟨_, vs.toArray, _, hk, rfl, rfl, rfl, ?_, by simpa using rv⟩) (fun b u z => nomatch (show (none : Option HO) = some u from z)) fun b u z => nomatch (show (none : Option HO) = some u from z)
      rw [List.size_toArray, lv]
      exact Nat.le_trans hlen hn2
    | none =>
      refine core (ScrH a { cls := .type "list", data := .seq vs.toArray } ns) (.inl (.inr ⟨_, if_pos rfl⟩)) (fun b u z => ?_) fun b u z => ?_
      · unfold ScrH at z
        split at z
        · rename_i e
          cases z
          subst e
          exact ⟨hobj, by rw [List.length_map]; exact Nat.le_trans hlen hn2, vs, _, rv, hobj⟩
        · cases z
      · unfold ScrH at z
        split at z
        · rename_i e
          cases z
          subst e
          exact ⟨rfl, hk, _, rfl⟩
        · cases z
  intro H hS hok only
  -- what is not tracked
  have free : ∀ {b : Addr} {ob : Obj} {es : Array DictEntry} {ep : Nat}, s₁.heap.get? b = some ob → ob.data = .dict es ep → H b = none := fun {b ob es ep} e dd => by
    cases z : H b with
    | none => rfl
    | some u =>
      obtain ⟨rfl, _⟩ := only b u z
      rw [hobj] at e
      cases e
      cases dd
  have nsB : ∀ {b : Addr} {m : Str → Option Value}, s₁.heap.Ns b m → (hidT s₁.heap H).Ns b m := fun ⟨ob, es, ep, e, dd, r⟩ => ⟨ob, es, ep, hidT_get e (free e dd), dd, r⟩
  have hKb : K.In (hidT s₁.heap H) := fun b ob e => hidT_get (KX b ob e) (by
    cases z : H b with
    | none => rfl
    | some u =>
      obtain ⟨_, z2, _⟩ := only b u z
      rw [z2] at e
      cases e)
  obtain ⟨mc, h1, h2⟩ := G.T.nolimit
  have e0 : Env0 l.prog w K mg (hidT s₁.heap H) callerA [] s₁ H := by
    refine ⟨rfl, ⟨hKb, nsB G.T.g, ⟨mb, nsB G.T.b, G.T.builtins⟩, mc, nsB h1, h2⟩, fun b ob e => of_hidT e, Nat.le_of_eq (hidT_size _ _), trivial, fun b hb => ?_, hok, .of_eq hg⟩
    exact absurd (show b ∈ ([] : List Addr) from hb) (by simp)
  refine codeAny_mono ((hF _ hKb (nsB G.T.g)).runG callerA hr rfl [] s₁ H e0 ⟨[.ref a], []⟩ [.ref a] [.ref a] (hb s₁ (.ref a)) (.cons rfl .nil) _ _ (hsp H a ns hlen hS)) fun r s' z => ?_
  match r, z with
  | .error e, z => exact (show False from z).elim
  | .ok .next, z => exact z.elim
  | .ok .brk, z => exact z.elim
  | .ok .cont, z => exact z.elim
  | .ok (.ret u), ⟨v, H', os, bare, un, hok', rv', q'⟩ =>
    have q' : v = .bl true := q'
    subst q'
    have rv' : u = Value.bool true := rv'
    subst rv'
    refine ⟨rfl, OldK.of_keep fun b ob e => ?_, os, bare⟩
    cases z : H b with
    | none => exact un.keep b ob e z (by intro y; exact absurd (show b ∈ ([] : List Addr) from y) (by simp)) (by simp)
    | some u =>
      obtain ⟨rfl, _, xs, rfl⟩ := only b u z
      obtain ⟨e2, _⟩ := hok' b _ (un.frzs b _ _ z)
      rw [hobj] at e
      cases e
      exact e2
end DL
namespace DL
open PySem PySem.Spec L2
section
variable {g : Gx} {O O' : OS} {H H' : Hp} {σ : L2.St} {ε ε' : En}
theorem Abs.mutsM (A : Abs g O H σ ε) {S : List Addr} {Mx : Addr → Prop} (hMx : ∀ b, Mx b → O.m b) (hS : ∀ a ∈ S, SlotAt g.κ σ a) (k : ∀ b o, H b = some o → b ∉ S → ¬ Mx b → H' b = some o) (so : ∀ b, H b ≠ none → H' b ≠ none) (hl : ε'.length = ε.length)
    (hε : ∀ (j : Nat) (d : D), ε'[j]? = some (some d) → (∃ a, mu g.κ j ∧ σ[j]? = some (some (.ref a)) ∧ a ∈ S ∧ Ow H' O' d (.ref a)) ∨ (∃ v, σ[j]? = some (some v) ∧ (g.κ[j]? = some .st ∨ g.κ[j]? = some .sl) ∧ OwS H' O' d v) ∨ (ε[j]? = some (some d) ∧ (∀ a, mu g.κ j → σ[j]? = some (some (.ref a)) → a ∉ S) ∧ (g.κ[j]? = some .st ∨ g.κ[j]? = some .sl → ∀ b, ¬ Mx b)))
    (w : ∀ a, O' a → O a ∨ H a = none) (mo : ∀ a, O a → O' a) (hn : ∀ a, O' a → H' a ≠ none) (wm : ∀ a, O'.m a → O.m a ∨ H a = none := by exact fun _ z => .inl z) (mm : ∀ a, O.m a → O'.m a := by exact fun _ z => z) (mo' : ∀ a, O'.m a → O' a := by assumption) : Abs g O' H' σ ε' := by
  have hO : ∀ a ∈ S, O a := fun a h => A.ownO a (.inl (hS a h))
  have nm : ∀ a ∈ S, ¬ O.m a := fun a h => let ⟨i, hi, ei⟩ := hS a h; A.apm i a hi ei
  have kO : ∀ b o, H b = some o → ¬ O b → H' b = some o := fun b o e n => k b o e (fun z => n (hO b z)) fun z => n (A.ownO b (.inr (hMx b z)))
  exact { A with
    slot := fun j d ej => by
      rcases hε j d ej with ⟨a, hj, ea, ha, ow⟩ | ⟨v, ev, hk, os⟩ | ⟨ej, n, n2⟩
      · rcases hj with hj | hj
        · exact ⟨.ref a, .own, ea, hj, ow⟩
        · exact ⟨.ref a, .io, ea, hj, ow⟩
      · rcases hk with hk | hk
        · exact ⟨v, .st, ev, hk, os⟩
        · exact ⟨v, .sl, ev, hk, os⟩
      · obtain ⟨v, kd, e1, e2, s⟩ := A.slot j d ej
        refine ⟨v, kd, e1, e2, ?_⟩
        have oth : mu g.κ j → ∀ b o, v = .ref b → H b = some o → H' b = some o := fun hj b o ev eb => k b o eb (n b hj (by rw [e1, ev])) fun z => A.apm j b hj (by rw [e1, ev]) (hMx b z)
        cases kd with
        | val => exact Rp.ext kO w s
        | own => exact Ow.ext kO w (oth (.inl e2)) mo s
        | io => exact Ow.ext kO w (oth (.inr e2)) mo s
        | st => exact OwS.ext kO w (fun b o m eb => k b o eb (fun z => nm b z m) (n2 (.inl e2) b)) mm s
        | sl => exact OwS.ext kO w (fun b o m eb => k b o eb (fun z => nm b z m) (n2 (.inr e2) b)) mm s
        | brw =>
          have nb : ∀ b, v = .ref b → b ∉ S := fun b ev z => by
            obtain ⟨n0, nio, _⟩ := A.brwA j b e2 (by rw [e1, ev])
            obtain ⟨i, hi, ei⟩ := hS b z
            rcases hi with hi | hi
            · exact n0 (A.new i b hi ei)
            · obtain ⟨c, hc⟩ := A.ioA i hi
              have := A.ioS i c hc
              rw [ei] at this
              cases this
              exact nio i hc
          have nx : ∀ b, v = .ref b → ¬ Mx b := fun b ev z => by
            obtain ⟨n0, _, n1⟩ := A.brwA j b e2 (by rw [e1, ev])
            exact (A.newm b (hMx b z)).elim n0 n1
          match d, s with
          | .none, h => exact h
          | .bool _, h => exact h
          | .int _, h => exact h
          | .str _, h => exact h
          | .list _, ⟨b, xs, ev, r, q⟩ => exact ⟨b, xs, ev, k _ _ r (nb b ev) (nx b ev), RpL.ext kO w q⟩
          | .tuple _, ⟨b, xs, ev, r, q⟩ => exact ⟨b, xs, ev, rd_keep (fun o z => k _ o z (nb b ev) (nx b ev)) r, RpL.ext kO w q⟩
          | .dict _, ⟨b, u, ev, r, q⟩ => exact ⟨b, u, ev, k _ _ r (nb b ev) (nx b ev), RpE.ext kO w q⟩
    ownO := fun a z => z.elim (fun z => mo a (A.ownO a (.inl z))) (mo' a)
    apm := fun i a hi e z => (wm a z).elim (A.apm i a hi e) fun z => A.unslot z ⟨i, hi, e⟩
    newm := fun a z => (wm a z).elim (A.newm a) fun z => .inl (A.n0 z)
    has := hn
    sub := fun a z => mo a (A.sub a z)
    subm := fun a z => mm a (A.subm a z)
    fr := fun b o eb n n2 => by
      refine k b o (A.fr b o eb n n2) (fun z => ?_) fun z => (A.newm b (hMx b z)).elim (fun z => by rw [z] at eb; cases eb) n2
      obtain ⟨i, hi, ei⟩ := hS b z
      rcases hi with hi | hi
      · rw [A.new i b hi ei] at eb
        cases eb
      · obtain ⟨c, hc⟩ := A.ioA i hi
        have := A.ioS i c hc
        rw [ei] at this
        cases this
        exact n i hc
    hold := fun p hp => Rp.ext kO w (A.hold p hp)
    len := hl.trans A.len }
theorem mut_ext {κ : List Kd} {i : Nat} (hk : mu κ i) {a : Addr} (e : σ[i]? = some (some (.ref a))) (k : ∀ b o, b ≠ a → H b = some o → H' b = some o) (hs : H' a ≠ none) : Ext κ σ O H O H' :=
  ⟨fun b o eb n => k b o (fun z => n (Or.inl ⟨i, hk, by rw [e, z]⟩)) eb, fun _ z => .inl z, fun _ z => z, (fun b h => by
    by_cases q : b = a
    · rw [q]; exact hs
    · cases e : H b with
      | none => exact (h e).elim
      | some o => exact hp_some (k b o q e)), fun _ z => .inl z, fun _ z => z⟩
end
abbrev DSp := List D → (D → List D → Prop) → Prop
def MonoD (sp : DSp) : Prop := ∀ ds (Q Q' : D → List D → Prop), (∀ d o, Q d o → Q' d o) → sp ds Q → sp ds Q'
def ArgsOk (H : Hp) (O : OS) : List Kd → List D → List V → Prop
  | [], ds, vs => ds = [] ∧ vs = []
  | k :: ks, ds, vs => ∃ d r v vr, ds = d :: r ∧ vs = v :: vr ∧ SlotOk H O k d v ∧ ArgsOk H O ks r vr
def ioL : List Kd → List V → List Addr
  | .io :: ks, .ref a :: vs => a :: ioL ks vs
  | _ :: ks, _ :: vs => ioL ks vs
  | _, _ => []
/-- what a def may change and hands back -/
def Kd.out : Kd → Bool
  | .io => true
  | .st => true
  | _ => false
def Outs (H : Hp) (O : OS) : List Kd → List V → List D → Prop
  | [], _, outs => outs = []
  | k :: ks, vs, outs => ∃ v vr, vs = v :: vr ∧ if k.out = true then ∃ d r, outs = d :: r ∧ SlotOk H O k d v ∧ Outs H O ks vr r else Outs H O ks vr outs
structure ArgsIn (H : Hp) (O : OS) (pk : List Kd) (ds : List D) (vs : List V) : Prop where
  ok : ArgsOk H O pk ds vs
  nd : (ioL pk vs).Nodup
  brw : ∀ (i : Nat) (b : Addr), pk[i]? = some .brw → vs[i]? = some (.ref b) → b ∉ ioL pk vs
  has : ∀ a, O a → H a ≠ none
  hasm : ∀ a, O.m a → O a
  apm : ∀ a ∈ ioL pk vs, ¬ O.m a
  brm : ∀ (i : Nat) (b : Addr), pk[i]? = some .brw → vs[i]? = some (.ref b) → ¬ O.m b
/-- the result and what the io arguments hold now -/
def RetC (fr : Bool) (H : Hp) (O : OS) (H' : Hp) (pk : List Kd) (vs : List V) (outs : List D) (d : D) (v : V) : Prop := ∃ Om : Addr → Prop, ((∀ a, O.m a → Om a) ∧ (∀ a, Om a → O.m a ∨ H a = none) ∧ ∀ a, Om a → H' a ≠ none) ∧
  if fr = true then ∃ p, v = .ref p ∧ H p = none ∧ ¬ Om p ∧ Ow H' (OS.add (OS.grow O Om) p) d v ∧ Outs H' (OS.add (OS.grow O Om) p) pk vs outs else Rp H' (OS.grow O Om) d v ∧ Outs H' (OS.grow O Om) pk vs outs
def spD (pk : List Kd) (fr : Bool) (sp : DSp) : Sp := fun vs H Q _ => ∃ O ds, ArgsIn H O pk ds vs ∧ sp ds fun d outs => ∀ v H', (∀ b o, H b = some o → b ∉ ioL pk vs → ¬ O.m b → H' b = some o) → (∀ b, H b ≠ none → H' b ≠ none) →
  RetC fr H O H' pk vs outs d v → Q v H'
theorem ArgsOk.len {H : Hp} {O : OS} : ∀ {pk : List Kd} {ds : List D} {vs : List V}, ArgsOk H O pk ds vs → vs.length = pk.length ∧ ds.length = pk.length
  | [], _, _, ⟨e1, e2⟩ => by subst e1 e2; exact ⟨rfl, rfl⟩
  | k :: ks, _, _, ⟨d, r, v, vr, e1, e2, _, h⟩ => by
    subst e1 e2
    obtain ⟨h1, h2⟩ := ArgsOk.len h
    exact ⟨by rw [List.length_cons, List.length_cons, h1], by rw [List.length_cons, List.length_cons, h2]⟩
theorem ArgsOk.get {H : Hp} {O : OS} : ∀ {pk : List Kd} {ds : List D} {vs : List V} {i : Nat} {d : D}, ArgsOk H O pk ds vs → ds[i]? = some d → ∃ v k, vs[i]? = some v ∧ pk[i]? = some k ∧ SlotOk H O k d v
  | [], _, _, i, d, ⟨e1, e2⟩, h => by subst e1; simp at h
  | k :: ks, _, _, 0, d, ⟨d', r, v, vr, e1, e2, s, _⟩, h => by
    subst e1 e2
    have e : d' = d := by simpa using h
    subst e
    exact ⟨v, k, rfl, rfl, s⟩
  | k :: ks, _, _, i + 1, d, ⟨d', r, v, vr, e1, e2, _, q⟩, h => by
    subst e1 e2
    obtain ⟨v', k', h1, h2, h3⟩ := ArgsOk.get (i := i) q (by simpa using h)
    exact ⟨v', k', by simpa using h1, by simpa using h2, h3⟩
theorem ioL_mem : ∀ {pk : List Kd} {vs : List V} {a : Addr}, a ∈ ioL pk vs ↔ ∃ i : Nat, pk[i]? = some .io ∧ vs[i]? = some (.ref a)
  | [], vs, a => by
    constructor
    · intro h; cases vs <;> simp [ioL] at h
    · rintro ⟨i, h, _⟩; simp at h
  | k :: ks, [], a => by
    constructor
    · intro h; cases k <;> simp [ioL] at h
    · rintro ⟨i, _, h⟩; simp at h
  | k :: ks, v :: vs, a => by
    have ih := ioL_mem (pk := ks) (vs := vs) (a := a)
    have tail : (∃ i : Nat, (k :: ks)[i]? = some .io ∧ (v :: vs)[i]? = some (.ref a)) ↔ (k = .io ∧ v = .ref a) ∨ a ∈ ioL ks vs := by
      rw [ih]
      constructor
      · rintro ⟨i, h1, h2⟩
        cases i with
        | zero => exact .inl ⟨by simpa using h1, by simpa using h2⟩
        | succ i => exact .inr ⟨i, by simpa using h1, by simpa using h2⟩
      · rintro (⟨rfl, rfl⟩ | ⟨i, h1, h2⟩)
        · exact ⟨0, rfl, rfl⟩
        · exact ⟨i + 1, by simpa using h1, by simpa using h2⟩
    rw [tail]
    cases k <;> cases v <;> simp [ioL, eq_comm]
def outsD : List Kd → En → Option (List D)
  | [], _ => some []
  | .io :: ks, (some d) :: ε => (outsD ks ε).map (d :: ·)
  | .st :: ks, (some d) :: ε => (outsD ks ε).map (d :: ·)
  | .val :: ks, _ :: ε => outsD ks ε
  | .brw :: ks, _ :: ε => outsD ks ε
  | .own :: ks, _ :: ε => outsD ks ε
  | .sl :: ks, _ :: ε => outsD ks ε
  | _, _ => none
def endsD (pk : List Kd) (fr : Bool) (Q : D → List D → Prop) : WEnds where
  nx := fun ε => fr = false ∧ ∃ outs, outsD pk ε = some outs ∧ Q .none outs
  rt := fun d ε => ∃ outs, outsD pk ε = some outs ∧ Q d outs
  bk := fun _ => False
  ct := fun _ => False
def startE (n : Nat) (ds : List D) : En := ds.map some ++ List.replicate (n - ds.length) none
def ioAt : Nat → List Kd → List V → List (Nat × Addr)
  | n, .io :: ks, .ref a :: vs => (n, a) :: ioAt (n + 1) ks vs
  | n, .st :: ks, .ref a :: vs => (n, a) :: ioAt (n + 1) ks vs
  | n, _ :: ks, _ :: vs => ioAt (n + 1) ks vs
  | _, _, _ => []
theorem ioAt_mem : ∀ {pk : List Kd} {vs : List V} {n i : Nat} {a : Addr}, (i, a) ∈ ioAt n pk vs ↔ ∃ (j : Nat) (k : Kd), i = n + j ∧ pk[j]? = some k ∧ k.out = true ∧ vs[j]? = some (.ref a)
  | [], vs, n, i, a => by
    constructor
    · intro h; cases vs <;> simp [ioAt] at h
    · rintro ⟨j, _, _, h, _⟩; simp at h
  | k :: ks, [], n, i, a => by
    constructor
    · intro h; cases k <;> simp [ioAt] at h
    · rintro ⟨j, _, _, _, _, h⟩; simp at h
  | k :: ks, v :: vs, n, i, a => by
    have ih := ioAt_mem (pk := ks) (vs := vs) (n := n + 1) (i := i) (a := a)
    have tail : (∃ (j : Nat) (k' : Kd), i = n + j ∧ (k :: ks)[j]? = some k' ∧ k'.out = true ∧ (v :: vs)[j]? = some (.ref a)) ↔ (i = n ∧ k.out = true ∧ v = .ref a) ∨ (i, a) ∈ ioAt (n + 1) ks vs := by
      rw [ih]
      constructor
      · rintro ⟨j, k', h0, h1, ho, h2⟩
        cases j with
        | zero =>
          have e : k = k' := by simpa using h1
          subst e
          exact .inl ⟨h0, ho, by simpa using h2⟩
        | succ j => exact .inr ⟨j, k', by omega, by simpa using h1, ho, by simpa using h2⟩
      · rintro (⟨rfl, ho, rfl⟩ | ⟨j, k', h0, h1, ho, h2⟩)
        · exact ⟨0, k, rfl, rfl, ho, rfl⟩
        · exact ⟨j + 1, k', by omega, by simpa using h1, ho, by simpa using h2⟩
    rw [tail]
    cases k <;> cases v <;> simp [ioAt, eq_comm, Kd.out]
theorem start_get {N : List Str} {vs : List V} {i : Nat} {v : V} : (L2.start N vs)[i]? = some (some v) ↔ vs[i]? = some v := by
  unfold L2.start
  by_cases h : i < vs.length
  · rw [List.getElem?_append_left (by rw [List.length_map]; exact h), List.getElem?_map, List.getElem?_eq_getElem h]
    simp
  · rw [List.getElem?_append_right (by rw [List.length_map]; omega), List.getElem?_replicate, List.getElem?_eq_none (by omega)]
    constructor
    · intro z; split at z <;> cases z
    · intro z; cases z
theorem startE_get {n : Nat} {ds : List D} {i : Nat} {d : D} : (startE n ds)[i]? = some (some d) ↔ ds[i]? = some d := by
  unfold startE
  by_cases h : i < ds.length
  · rw [List.getElem?_append_left (by rw [List.length_map]; exact h), List.getElem?_map, List.getElem?_eq_getElem h]
    simp
  · rw [List.getElem?_append_right (by rw [List.length_map]; omega), List.getElem?_replicate, List.getElem?_eq_none (by omega)]
    constructor
    · intro z; split at z <;> cases z
    · intro z; cases z
/-- io and brw stand among the parameters alone -/
def kindsB (pk κ : List Kd) : Bool := pk.isPrefixOf κ && (κ.drop pk.length).all (fun k => k == .val || k == .own || k == .sl) && pk.all (fun k => k != .own && k != .sl)
theorem abs_start {H : Hp} {O : OS} {pk κ : List Kd} {ds : List D} {vs : List V} {N : List Str} {fr : Bool} (h : ArgsIn H O pk ds vs) (hk : kindsB pk κ = true) (hl : κ.length = N.length) :
    Abs ⟨κ, H, O, ioAt 0 pk vs, [], fr, none⟩ O H (L2.start N vs) (startE N.length ds) := by
  unfold kindsB at hk
  simp only [Bool.and_eq_true, List.isPrefixOf_iff_prefix] at hk
  obtain ⟨⟨⟨κr, rfl⟩, hr⟩, hp⟩ := hk
  rw [List.drop_left] at hr
  have hr' : ∀ (i : Nat) k, κr[i]? = some k → k = .val ∨ k = .own ∨ k = .sl := fun i k e => by simpa [or_assoc] using List.all_eq_true.mp hr k (List.mem_of_getElem? e)
  have hp' : ∀ (i : Nat) k, pk[i]? = some k → k ≠ .own ∧ k ≠ .sl := fun i k e => by simpa using List.all_eq_true.mp hp k (List.mem_of_getElem? e)
  obtain ⟨l1, l2⟩ := h.ok.len
  have lN : pk.length ≤ N.length := by rw [← hl, List.length_append]; omega
  have ls : (L2.start N vs).length = N.length := by unfold L2.start; rw [List.length_append, List.length_map, List.length_replicate]; omega
  -- a defined slot is a parameter
  have par : ∀ {i : Nat} {v : V} {k : Kd}, (L2.start N vs)[i]? = some (some v) → (pk ++ κr)[i]? = some k → vs[i]? = some v ∧ pk[i]? = some k := fun {i v k} e e2 => by
    have e' := start_get.mp e
    have hi : i < pk.length := by rw [← l1]; exact (List.getElem?_eq_some_iff.mp e').1
    rw [List.getElem?_append_left hi] at e2
    exact ⟨e', e2⟩
  have muio : ∀ {i : Nat} {a : Addr}, mu (pk ++ κr) i → (L2.start N vs)[i]? = some (some (.ref a)) → pk[i]? = some .io ∧ vs[i]? = some (.ref a) := fun {i a} hm e => by
    rcases hm with hm | hm
    · exact absurd rfl (hp' i _ (par e hm).2).1
    · exact ⟨(par e hm).2, (par e hm).1⟩
  have owO : ∀ {i : Nat} {a : Addr}, pk[i]? = some .io → vs[i]? = some (.ref a) → O a := fun {i a} h1 h2 => by
    have hi : i < ds.length := by rw [l2]; exact (List.getElem?_eq_some_iff.mp h1).1
    obtain ⟨v, k, e1, e2, s⟩ := h.ok.get (List.getElem?_eq_getElem hi)
    rw [h1] at e2
    cases e2
    rw [h2] at e1
    cases e1
    have s : Ow H O ds[i] (.ref a) := s
    match ds[i], s with
    | .list _, ⟨b, xs, e, n, _⟩ => cases e; exact n
    | .dict _, ⟨b, _, e, n, _⟩ => cases e; exact n
  have stO : ∀ {i : Nat} {a : Addr}, pk[i]? = some .st → vs[i]? = some (.ref a) → O.m a := fun {i a} h1 h2 => by
    have hi : i < ds.length := by rw [l2]; exact (List.getElem?_eq_some_iff.mp h1).1
    obtain ⟨v, k, e1, e2, s⟩ := h.ok.get (List.getElem?_eq_getElem hi)
    rw [h1] at e2
    cases e2
    rw [h2] at e1
    cases e1
    obtain ⟨_, _, _, b, _, _, _, _, _, _, e, m, _⟩ := (show OwS H O ds[i] (.ref a) from s)
    cases e
    exact m.1
  refine ⟨fun i d e => ?_, fun a z => z.elim (fun ⟨i, hm, e⟩ => ?_) (h.hasm a), fun i a hm e => h.apm a (ioL_mem.mpr ⟨i, (muio hm e).1, (muio hm e).2⟩), fun i j a hi hj e e' => ?_, fun i b hk e => ?_, fun i a hk e => ?_, fun a z => .inr z, h.has, h.has, fun _ z => z, fun _ z => z, fun i a hi => ?_, fun i a hi => ?_, fun i a hi => ?_, fun i hk => ?_, fun _ _ e _ _ => e, (fun p hp => nomatch hp), ?_, ?_, (fun _ z => nomatch z)⟩
  · obtain ⟨v, k, e1, e2, s⟩ := h.ok.get (startE_get.mp e)
    refine ⟨v, k, start_get.mpr e1, ?_, s⟩
    show (pk ++ κr)[i]? = some k
    rw [List.getElem?_append_left (List.getElem?_eq_some_iff.mp e2).1, e2]
  · exact owO (muio hm e).1 (muio hm e).2
  · obtain ⟨h1, h2⟩ := muio hi e
    obtain ⟨h3, h4⟩ := muio hj e'
    -- no address twice
    have nd := h.nd
    have : ∀ {pk : List Kd} {vs : List V}, (ioL pk vs).Nodup → ∀ {i j : Nat} {a : Addr}, pk[i]? = some .io → vs[i]? = some (.ref a) → pk[j]? = some .io → vs[j]? = some (.ref a) → i = j := by
      intro pk
      induction pk with
      | nil => intro vs _ i j a h; simp at h
      | cons k ks ih =>
        intro vs nd i j a h1 h2 h3 h4
        cases vs with
        | nil => simp at h2
        | cons v vs =>
          have ndt : (ioL ks vs).Nodup := by
            cases k <;> cases v <;> first | exact nd | exact (List.nodup_cons.mp nd).2
          cases i with
          | zero =>
            cases j with
            | zero => rfl
            | succ j =>
              have e1 : k = .io := by simpa using h1
              have e2 : v = .ref a := by simpa using h2
              subst e1 e2
              have : a ∈ ioL ks vs := ioL_mem.mpr ⟨j, by simpa using h3, by simpa using h4⟩
              exact absurd this (List.nodup_cons.mp nd).1
          | succ i =>
            cases j with
            | zero =>
              have e1 : k = .io := by simpa using h3
              have e2 : v = .ref a := by simpa using h4
              subst e1 e2
              have : a ∈ ioL ks vs := ioL_mem.mpr ⟨i, by simpa using h1, by simpa using h2⟩
              exact absurd this (List.nodup_cons.mp nd).1
            | succ j => exact congrArg Nat.succ (ih ndt (i := i) (j := j) (a := a) (by simpa using h1) (by simpa using h2) (by simpa using h3) (by simpa using h4))
    exact this nd h1 h2 h3 h4
  · obtain ⟨h1, h2⟩ := par e hk
    refine ⟨?_, fun j hj => ?_, h.brm i b h2 h1⟩
    · have hi : i < ds.length := by rw [l2]; exact (List.getElem?_eq_some_iff.mp h2).1
      obtain ⟨v, k, e1, e2, s⟩ := h.ok.get (List.getElem?_eq_getElem hi)
      rw [h2] at e2
      cases e2
      rw [h1] at e1
      cases e1
      have s : NbC H O ds[i] (.ref b) := s
      match ds[i], s with
      | .none, e => cases (show V.ref b = .non from e)
      | .bool _, e => cases (show V.ref b = .bl _ from e)
      | .int _, e => cases (show V.ref b = .int _ from e)
      | .str _, e => cases (show V.ref b = .str _ from e)
      | .list _, ⟨c, xs, e, n, _⟩ => cases e; exact hp_some n
      | .tuple _, ⟨c, xs, e, n, _⟩ => cases e; exact rd_some n
      | .dict _, ⟨c, _, e, n, _⟩ => cases e; exact hp_some n
    · obtain ⟨m, k, _, h3, ho, h4⟩ := ioAt_mem.mp hj
      cases k <;> first | (exact absurd ho (by decide)) | skip
      · exact h.brw i b h2 h1 (ioL_mem.mpr ⟨m, h3, h4⟩)
      · exact h.brm i b h2 h1 (stO h3 h4)
  · exact absurd rfl (hp' i _ (par e hk).2).1
  · obtain ⟨m, k, _, h3, ho, h4⟩ := ioAt_mem.mp hi
    cases k <;> first | (exact absurd ho (by decide)) | skip
    · exact owO h3 h4
    · exact h.hasm a (stO h3 h4)
  · obtain ⟨m, k, e, h3, ho, h4⟩ := ioAt_mem.mp hi
    have e : i = m := by omega
    subst e
    show (pk ++ κr)[i]? = some .io ∨ (pk ++ κr)[i]? = some .st
    rw [List.getElem?_append_left (List.getElem?_eq_some_iff.mp h3).1, h3]
    cases k <;> first | (exact absurd ho (by decide)) | (exact .inl rfl) | exact .inr rfl
  · obtain ⟨m, k, e, h3, ho, h4⟩ := ioAt_mem.mp hi
    have e : i = m := by omega
    subst e
    exact start_get.mpr h4
  · have hk : (pk ++ κr)[i]? = some .io := hk
    by_cases hi : i < pk.length
    · rw [List.getElem?_append_left hi] at hk
      have hid : i < ds.length := by rw [l2]; exact hi
      obtain ⟨v, k, e1, e2, s⟩ := h.ok.get (List.getElem?_eq_getElem hid)
      rw [hk] at e2
      cases e2
      have s : Ow H O ds[i] v := s
      obtain ⟨a, rfl⟩ : ∃ a, v = .ref a := by
        match ds[i], s with
        | .list _, ⟨b, xs, e, _⟩ => exact ⟨b, e⟩
        | .dict _, ⟨b, _, e, _⟩ => exact ⟨b, e⟩
      exact ⟨a, ioAt_mem.mpr ⟨i, .io, by omega, hk, rfl, e1⟩⟩
    · rw [List.getElem?_append_right (by omega)] at hk
      rcases hr' _ _ hk with z | z | z <;> cases z
  · unfold startE
    rw [ls, List.length_append, List.length_map, List.length_replicate]
    omega
  · show (pk ++ κr).length = _
    rw [ls, hl]
theorem outs_of {H : Hp} {O : OS} {κ pk : List Kd} {vs : List V} {σ : L2.St} : ∀ {n : Nat} {ks : List Kd} {us : List V} {ε : En} {outs : List D}, us.length = ks.length → outsD ks (ε.drop n) = some outs → (∀ (j : Nat) (d : D) (k : Kd) (u : V), ks[j]? = some k → k.out = true → us[j]? = some u → ε[n + j]? = some (some d) → SlotOk H O k d u) → Outs H O ks us outs
  | n, [], us, ε, outs, hl, h, _ => by
    have e : some [] = some outs := h
    exact (Option.some.inj e).symm
  | n, k :: ks, [], ε, outs, hl, h, _ => by cases hl
  | n, k :: ks, u :: us, ε, outs, hl, h, ok => by
    cases e : ε.drop n with
    | nil =>
      rw [e] at h
      cases k <;> cases (show none = some outs from h)
    | cons o r =>
      rw [e] at h
      have er : ε.drop (n + 1) = r := by rw [← List.tail_drop, e]; rfl
      have e0 : ε[n]? = some o := by
        have : (ε.drop n)[0]? = some o := by rw [e]; rfl
        rw [List.getElem?_drop] at this
        exact this
      have rc : ∀ {outs}, outsD ks r = some outs → Outs H O ks us outs := fun h' => outs_of (κ := κ) (pk := pk) (vs := vs) (σ := σ) (n := n + 1) (Nat.succ.inj hl) (by rw [er]; exact h') (fun j d k u h1 h0 h2 h3 => ok (j + 1) d k u (by simpa using h1) h0 (by simpa using h2) (by rw [← h3]; congr 1; omega))
      refine ⟨u, us, rfl, ?_⟩
      cases k with
      | val => exact rc h
      | brw => exact rc h
      | own => exact rc h
      | sl => exact rc h
      | io =>
        rw [if_pos (show Kd.io.out = true from rfl)]
        cases o with
        | none => cases (show none = some outs from h)
        | some d =>
          obtain ⟨o', h1, h2⟩ := Option.map_eq_some_iff.mp (show (outsD ks r).map (d :: ·) = some outs from h)
          exact ⟨d, o', h2.symm, ok 0 d .io u rfl rfl rfl e0, rc h1⟩
      | st =>
        rw [if_pos (show Kd.st.out = true from rfl)]
        cases o with
        | none => cases (show none = some outs from h)
        | some d =>
          obtain ⟨o', h1, h2⟩ := Option.map_eq_some_iff.mp (show (outsD ks r).map (d :: ·) = some outs from h)
          exact ⟨d, o', h2.symm, ok 0 d .st u rfl rfl rfl e0, rc h1⟩
/-- the end of a def, from what stands then -/
theorem abs_fin {H : Hp} {O : OS} {pk κ : List Kd} {ds : List D} {vs : List V} {fr : Bool} {hl : List (D × V)} (a : ArgsIn H O pk ds vs) (hk : kindsB pk κ = true) {d : D} {outs : List D} {ε : En} {v : V} {H' : Hp} {σ : L2.St} {O' : OS} {Q : VK} (A' : Abs ⟨κ, H, O, ioAt 0 pk vs, hl, fr, none⟩ O' H' σ ε)
    (r : RetOk ⟨κ, H, O, ioAt 0 pk vs, hl, fr, none⟩ O' H' d v) (e : outsD pk ε = some outs) (q : ∀ v H', (∀ b o, H b = some o → b ∉ ioL pk vs → ¬ O.m b → H' b = some o) → (∀ b, H b ≠ none → H' b ≠ none) → RetC fr H O H' pk vs outs d v → Q v H') : Q v H' := by
  have lv := a.ok.len
  have prm : ∀ (j : Nat) (k : Kd), pk[j]? = some k → κ[j]? = some k := fun j k h1 => by
    unfold kindsB at hk
    simp only [Bool.and_eq_true, List.isPrefixOf_iff_prefix] at hk
    obtain ⟨⟨⟨κr, rfl⟩, _⟩, _⟩ := hk
    rw [List.getElem?_append_left (List.getElem?_eq_some_iff.mp h1).1, h1]
  have kk : ∀ b o, H b = some o → b ∉ ioL pk vs → ¬ O.m b → H' b = some o := fun b o eb n nm => by
    refine A'.fr b o eb (fun i hi => ?_) nm
    obtain ⟨j, k, _, h1, ho, h2⟩ := ioAt_mem.mp hi
    cases k <;> first | (exact absurd ho (by decide)) | skip
    · exact n (ioL_mem.mpr ⟨j, h1, h2⟩)
    · have hi' : j < ds.length := by rw [lv.2]; exact (List.getElem?_eq_some_iff.mp h1).1
      obtain ⟨v', k', e1, e2, s⟩ := a.ok.get (List.getElem?_eq_getElem hi')
      rw [h1] at e2
      cases e2
      rw [h2] at e1
      cases e1
      obtain ⟨_, _, _, b', _, _, _, _, _, _, e, m, _⟩ := (show OwS H O ds[j] (.ref b) from s)
      cases e
      exact nm m.1
  have outs' : ∀ O2 : OS, (∀ b, O b → O2 b) → (∀ b, O2 b → O' b) → (∀ b, O'.m b → O2.m b) → Outs H' O2 pk vs outs := fun O2 w0 w wm => by
    refine outs_of (κ := κ) (pk := pk) (vs := vs) (σ := σ) (n := 0) (by rw [lv.1]) (by simpa using e) (fun j d k u h1 ho hu h3 => ?_)
    have h3 : ε[j]? = some (some d) := by simpa using h3
    obtain ⟨v', k', e1, e2, s'⟩ := A'.slot j d h3
    have ek : k' = k := by
      have := prm j k h1
      rw [show κ[j]? = some k' from e2] at this
      exact Option.some.inj this
    subst ek
    have hjd : j < ds.length := by rw [lv.2]; exact (List.getElem?_eq_some_iff.mp h1).1
    obtain ⟨u', k2, f1, f2, s0⟩ := a.ok.get (List.getElem?_eq_getElem hjd)
    rw [hu] at f1
    cases f1
    rw [h1] at f2
    cases f2
    have isr : ∃ a', u = .ref a' := by
      cases k' <;> first | (exact absurd ho (by decide)) | skip
      · have s0 : Ow H O ds[j] u := s0
        match ds[j], s0 with
        | .list _, ⟨b, xs, e, _⟩ => exact ⟨b, e⟩
        | .dict _, ⟨b, _, e, _⟩ => exact ⟨b, e⟩
      · obtain ⟨_, _, _, b, _, _, _, _, _, _, e, _⟩ := (show OwS H O ds[j] u from s0)
        exact ⟨b, e⟩
    obtain ⟨a', rfl⟩ := isr
    have hj : (j, a') ∈ ioAt 0 pk vs := ioAt_mem.mpr ⟨j, k', by omega, h1, ho, hu⟩
    rw [A'.ioS j a' hj] at e1
    cases e1
    have hO : O2 a' := w0 _ (A'.ioO j a' hj)
    cases k' <;> first | (exact absurd ho (by decide)) | skip
    · have s' : Ow H' O' d (.ref a') := s'
      match d, s' with
      | .list _, ⟨b, xs, e, n, r, q⟩ => exact ⟨b, xs, e, by cases e; exact hO, r, RpL.anti w q⟩
      | .dict _, ⟨b, u, e, n, r, q⟩ => exact ⟨b, u, e, by cases e; exact hO, r, RpE.anti w q⟩
    · exact OwS.ext (fun _ _ e _ => e) (fun b z => .inl (w b z)) (fun _ _ _ e => e) wm (show OwS H' O' d (.ref a') from s')
  refine q v H' kk (fun b hb => ?_) ?_
  · by_cases z : b ∈ ioL pk vs
    · obtain ⟨j, h1, h2⟩ := ioL_mem.mp z
      have hj : (j, b) ∈ ioAt 0 pk vs := ioAt_mem.mpr ⟨j, .io, by omega, h1, rfl, h2⟩
      exact A'.has b (A'.sub b (A'.ioO j b hj))
    · by_cases m : O.m b
      · exact A'.has b (A'.ownO b (.inr (A'.subm b m)))
      · cases e : H b with
        | none => exact (hb e).elim
        | some o => exact hp_some (kk b o e z m)
  · unfold RetOk at r
    refine ⟨O'.m, ⟨A'.subm, fun b z => (A'.newm b z).symm, fun b z => A'.has b (A'.ownO b (.inr z))⟩, ?_⟩
    cases fr with
    | true =>
      rw [if_pos rfl] at r ⊢
      obtain ⟨p, ev, hp, n0, ow⟩ := r
      exact ⟨p, ev, n0, hp.2, ow, outs' _ (fun _ z => OS.add_of (.inl z)) (fun b z => (OS.add_or z).elim (fun e => e ▸ hp.1) (A'.retSub b)) fun _ z => z⟩
    | false =>
      rw [if_neg Bool.false_ne_true] at r ⊢
      exact ⟨r, outs' _ (fun _ z => .inl z) A'.retSub fun _ z => z⟩
section
variable {P : Program} {w : World} {K : PySem.W.Frag} {mg : Str → Option Value} {base : Heap}
/-- THE RULE for a def: its walk (DSs .. w0) and the fact about data -/
theorem fn_okD {x qual : Str} {st : Stmt} {f : Addr} {fd : FuncData} {N ps : List Str} {k : Nat} {κ pk : List Kd} {fr : Bool} {sp : DSp} {w0 : WS} (F : Fun K x qual st f fd) (S : FnScope N ps (defScope st))
    (body : ∀ (cdv : Value) (A : Around) (outer : List Env) (s : Shared) (H : Hp) (E : XK), Room k (A.deeper (PyProof.Rows.envOfC qual (defScope st) s.heap.objs.size f cdv)) → (A.deeper (PyProof.Rows.envOfC qual (defScope st) s.heap.objs.size f cdv)).guards = some [] → DSs (CxD.no (cxOf CX0 P w K mg base N qual (defScope st) f cdv A outer s H E).nox) κ fr (defBody st) w0)
    (math : ∀ ds Q, ds.length = ps.length → sp ds Q → w0 (endsD pk fr Q) (startE N.length ds)) (hk : kindsB pk κ = true := by rfl) (hl : κ.length = N.length := by rfl) (hp : pk.length = ps.length := by rfl) : FnG P w K mg base CX0 (k + 1) f fd ps (spD pk fr sp) := by
  refine fn_g F S (fun vs H Q E h => ?_) (fun cdv A outer s H vs Q E hr hgd h => ?_)
  · obtain ⟨O, ds, a, _⟩ := h
    rw [a.ok.len.1, hp]
  · obtain ⟨O, ds, a, q⟩ := h
    refine ⟨_, ((body cdv A outer s H E hr hgd).ps (Gx.no ⟨κ, H, O, ioAt 0 pk vs, [], fr, none⟩) rfl rfl).nox, O, startE N.length ds, abs_start a hk hl, ?_⟩
    have lv := a.ok.len
    have m := (body cdv A outer s H E hr hgd).mono
    -- the end of the def, from what stands then
    have fin : ∀ {d : D} {outs : List D} {ε : En} {v : V} {H' : Hp} {σ : L2.St} {O' : OS}, Abs ⟨κ, H, O, ioAt 0 pk vs, [], fr, none⟩ O' H' σ ε → RetOk ⟨κ, H, O, ioAt 0 pk vs, [], fr, none⟩ O' H' d v → outsD pk ε = some outs →
        (∀ v H', (∀ b o, H b = some o → b ∉ ioL pk vs → ¬ O.m b → H' b = some o) → (∀ b, H b ≠ none → H' b ≠ none) → RetC fr H O H' pk vs outs d v → Q v H') → Q v H' := fun {d outs ε v H' σ O'} A' r e q => abs_fin a hk A' r e q
    have le : (endsD pk fr fun d outs => ∀ v H', (∀ b o, H b = some o → b ∉ ioL pk vs → ¬ O.m b → H' b = some o) → (∀ b, H b ≠ none → H' b ≠ none) → RetC fr H O H' pk vs outs d v → Q v H').le
        (ends ⟨κ, H, O, ioAt 0 pk vs, [], fr, none⟩ { nx := fun _ H' => Q .non H', rt := Q }) := by
      refine ⟨fun ε ⟨hf, outs, e, q⟩ σ H' O' A' => ?_, fun d ε ⟨outs, e, q⟩ v H' σ O' A' r => fin A' r e q, fun ε z => z.elim, fun ε z => z.elim⟩
      refine fin A' ?_ e q
      unfold RetOk
      rw [hf, if_neg Bool.false_ne_true]
      rfl
    exact m _ _ _ le (math ds _ (by rw [lv.2, hp]) q)
/-- a def as its callers see it -/
structure Cal (P : Program) (w : World) (K : PySem.W.Frag) (mg : Str → Option Value) (base : Heap) (k : Nat) (x : Str) (ps : List Str) (pk : List Kd) (fr : Bool) (sp : DSp) : Prop where
  ex : ∃ f fd, FnG P w K mg base CX0 k f fd ps (spD pk fr sp) ∧ mg x = some (.ref f) ∧ PySem.W.keepIn K (.ref f) = true ∧ Binds K fd ps []
  mono : MonoD sp
/-- another promise that follows -/
theorem Cal.imp {k : Nat} {x : Str} {ps : List Str} {pk : List Kd} {fr : Bool} {sp sp' : DSp} (C : Cal P w K mg base k x ps pk fr sp) (m : MonoD sp') (h : ∀ ds Q, sp' ds Q → sp ds Q) : Cal P w K mg base k x ps pk fr sp' :=
  let ⟨f, fd, F, a, b, c⟩ := C.ex
  ⟨⟨f, fd, F.imp fun vs H Q E ⟨O, ds, i, q⟩ => ⟨O, ds, i, h ds _ q⟩, a, b, c⟩, m⟩
end
def putO : List Kd → List Op → List D → En → En
  | .io :: ks, .nm i :: os, d :: outs, ε => putO ks os outs (ε.set i (some d))
  | .st :: ks, .nm i :: os, d :: outs, ε => putO ks os outs (ε.set i (some d))
  | _ :: ks, _ :: os, outs, ε => putO ks os outs ε
  | _, _, _, ε => ε
def eCall (pk : List Kd) (sp : DSp) (os : List Op) : WE := fun ε Q => aEv os ε fun xs ε1 => ∃ ds, vals ε1 xs ds ∧ sp ds fun d outs => Q d (putO pk os outs ε1)
theorem eCall_mono {pk : List Kd} {sp : DSp} {os : List Op} (m : MonoD sp) (ma : MonoA os) : Mono (eCall pk sp os) := fun ε Q Q' h q => aEv_mono ma (fun xs ε1 ⟨ds, e, q⟩ => ⟨ds, e, m _ _ _ (fun d o z => h _ _ z) q⟩) q
def ioIx : List Kd → List Op → List Nat
  | .io :: ks, .nm i :: os => i :: ioIx ks os
  | .st :: ks, .nm i :: os => i :: ioIx ks os
  | _ :: ks, _ :: os => ioIx ks os
  | _, _ => []
def isSt : Kd → Bool
  | .st => true
  | .sl => true
  | _ => false
def argOk1 (κ : List Kd) : Kd → Op → Bool
  | .val, .ex _ => true
  | .val, .nm i => decide (κ[i]? = some .val)
  | .brw, .ex _ => true
  | .brw, .nm i => !isSt ((κ[i]?).getD .val)
  | .io, .nm i => decide (κ[i]? = some .own) || decide (κ[i]? = some .io)
  | .io, .ex _ => false
  | .own, _ => false
  | .st, .nm i => decide (κ[i]? = some .st) || decide (κ[i]? = some .sl)
  | .st, .ex _ => false
  | .sl, _ => false
def brwIx : List Kd → List Op → List Nat
  | .brw :: ks, .nm i :: os => i :: brwIx ks os
  | _ :: ks, _ :: os => brwIx ks os
  | _, _ => []
def argOks (κ : List Kd) : List Kd → List Op → Bool
  | [], [] => true
  | k :: ks, o :: os => argOk1 κ k o && argOks κ ks os
  | _, _ => false
/-- a law's own state is handed to all who may change one -/
def stB (κ pk : List Kd) (os : List Op) : Bool := !pk.contains .st || κ.zipIdx.all fun p => !isSt p.1 || (ioIx pk os).contains p.2
def argB (κ pk : List Kd) (os : List Op) : Bool := argOks κ pk os && decide (ioIx pk os).Nodup && ((brwIx pk os).all fun i => !(ioIx pk os).contains i) && stB κ pk os
/-- what is handed on of what is avoided -/
def OS.pas (O : OS) (b : Bool) : OS := ⟨O.o, fun a => b = true ∧ O.m a⟩
def OpX : List Op → List (En → Option D) → Prop
  | [], xs => xs = []
  | .ex _ :: os, xs => ∃ d r, xs = (fun _ => some d) :: r ∧ OpX os r
  | .nm i :: os, xs => ∃ r, xs = slF i :: r ∧ OpX os r
theorem aEv_opx : ∀ {os : List Op}, MonoA os → ∀ {ε : En} {Q : List (En → Option D) → En → Prop}, aEv os ε Q → aEv os ε fun xs ε' => OpX os xs ∧ Q xs ε'
  | [], _, _, _, q => ⟨rfl, q⟩
  | .ex w :: os, m, ε, Q, q => m (.ex w) List.mem_cons_self ε _ _ (fun d ε1 q => aEv_mono (fun o ho => m o (List.mem_cons_of_mem _ ho)) (fun xs ε2 ⟨h, q⟩ => ⟨⟨d, xs, rfl, h⟩, q⟩) (aEv_opx (fun o ho => m o (List.mem_cons_of_mem _ ho)) q)) q
  | .nm i :: os, m, ε, Q, q => ⟨q.1, aEv_mono (fun o ho => m o (List.mem_cons_of_mem _ ho)) (fun xs ε2 ⟨h, q⟩ => ⟨⟨xs, rfl, h⟩, q⟩) (aEv_opx (fun o ho => m o (List.mem_cons_of_mem _ ho)) q.2)⟩
theorem no_const {i : Nat} {d : D} (h : slF i = fun _ => some d) : False := by
  have := congrFun h []
  simp [slF] at this
section
variable {g : Gx} {O : OS} {H : Hp} {σ : L2.St} {ε : En}
theorem slF_get {i : Nat} {d : D} (e : slF i ε = some d) : ε[i]? = some (some d) := by
  unfold slF at e
  cases q : ε[i]? with
  | none => rw [q] at e; cases e
  | some o => rw [q] at e; exact congrArg some e
theorem or_nm {i : Nat} {v : V} (h : OR H O σ (slF i) v) : σ[i]? = some (some v) := by
  rcases h with ⟨d, e, _⟩ | ⟨j, e, s⟩
  · exact (no_const e).elim
  · rw [slF_inj e]
    exact s
theorem or_ex {d : D} {v : V} (h : OR H O σ (fun _ => some d) v) : Rp H O d v := by
  rcases h with ⟨d', e, r⟩ | ⟨j, e, s⟩
  · have := congrFun e []
    cases this
    exact r
  · exact (no_const e.symm).elim
theorem Rp.pas {b : Bool} {d : D} {v : V} (h : Rp H O d v) : Rp H (O.pas b) d v := Rp.anti (O := O) (O' := O.pas b) (fun _ z => z) h
theorem NbC.pas {b : Bool} {d : D} {v : V} (h : NbC H O d v) : NbC H (O.pas b) d v := NbC.anti (O := O) (O' := O.pas b) (fun _ z => z) h
theorem Ow.pas {b : Bool} {d : D} {v : V} (h : Ow H O d v) : Ow H (O.pas b) d v := Ow.ext (O := O) (O' := O.pas b) (fun _ _ e _ => e) (fun _ z => .inl z) (fun _ _ _ e => e) (fun _ z => z) h
theorem OwS.pas {b : Bool} (hb : b = true) {d : D} {v : V} (h : OwS H O d v) : OwS H (O.pas b) d v := OwS.ext (O := O) (O' := O.pas b) (fun _ _ e _ => e) (fun _ z => .inl z) (fun _ _ _ e => e) (fun _ z => ⟨hb, z⟩) h
/-- the operands are what the callee asks -/
theorem args_ok (A : Abs g O H σ ε) {b : Bool} : ∀ {pk : List Kd} {os : List Op} {xs : List (En → Option D)} {vs : List V} {ds : List D}, (Kd.st ∈ pk → b = true) → argOks g.κ pk os = true → OpX os xs → ORs H O σ xs vs → vals ε xs ds → ArgsOk H (O.pas b) pk ds vs
  | [], [], xs, vs, ds, _, _, e, ors, e2 => by
    have e : xs = [] := e
    subst e
    exact ⟨e2, ors⟩
  | k :: ks, o :: os, xs, vs, ds, hb, h, ox, ors, e => by
    have h : argOk1 g.κ k o = true ∧ argOks g.κ ks os = true := by simpa [argOks] using h
    have hb' : Kd.st ∈ ks → b = true := fun z => hb (List.mem_cons_of_mem _ z)
    cases o with
    | ex w =>
      obtain ⟨d, r, rfl, ox⟩ := ox
      obtain ⟨v, vr, rfl, o1, ors⟩ := ors
      obtain ⟨d', dr, rfl, e1, e⟩ := e
      cases e1
      refine ⟨d, dr, v, vr, rfl, rfl, ?_, args_ok A hb' h.2 ox ors e⟩
      have rp := or_ex o1
      cases k with
      | val => exact Rp.pas rp
      | brw => exact NbC.pas rp.nbC
      | io => exact absurd h.1 (by simp [argOk1])
      | own => exact absurd h.1 (by simp [argOk1])
      | st => exact absurd h.1 (by simp [argOk1])
      | sl => exact absurd h.1 (by simp [argOk1])
    | nm i =>
      obtain ⟨r, rfl, ox⟩ := ox
      obtain ⟨v, vr, rfl, o1, ors⟩ := ors
      obtain ⟨d, dr, rfl, e1, e⟩ := e
      refine ⟨d, dr, v, vr, rfl, rfl, ?_, args_ok A hb' h.2 ox ors e⟩
      obtain ⟨v', k', s1, s2, s⟩ := A.slot i d (slF_get e1)
      rw [or_nm o1] at s1
      cases s1
      have h1 := h.1
      cases k with
      | val =>
        have : g.κ[i]? = some .val := by simpa [argOk1] using h1
        rw [this] at s2
        cases s2
        exact Rp.pas (show Rp H O d v from s)
      | brw =>
        have hk : isSt ((g.κ[i]?).getD .val) = false := by simpa [argOk1] using h1
        rw [s2] at hk
        cases k' with
        | val => exact NbC.pas (Rp.nbC s)
        | brw => exact NbC.pas s
        | own => exact NbC.pas (Ow.nbC s)
        | io => exact NbC.pas (Ow.nbC s)
        | st => cases hk
        | sl => cases hk
      | io =>
        have : g.κ[i]? = some .own ∨ g.κ[i]? = some .io := by simpa [argOk1] using h1
        rcases this with z | z <;> (rw [z] at s2; cases s2; exact Ow.pas (show Ow H O d v from s))
      | own => exact absurd h1 (by simp [argOk1])
      | st =>
        have : g.κ[i]? = some .st ∨ g.κ[i]? = some .sl := by simpa [argOk1] using h1
        rcases this with z | z <;> (rw [z] at s2; cases s2; exact OwS.pas (hb List.mem_cons_self) (show OwS H O d v from s))
      | sl => exact absurd h1 (by simp [argOk1])
  | [], o :: os, _, _, _, _, h, _, _, _ => by simp [argOks] at h
  | k :: ks, [], _, _, _, _, h, _, _, _ => by simp [argOks] at h
/-- a law's own state is handed on by its name -/
theorem st_slots (A : Abs g O H σ ε) : ∀ {pk : List Kd} {os : List Op} {xs : List (En → Option D)} {vs : List V}, argOks g.κ pk os = true → OpX os xs → ORs H O σ xs vs → ∀ (j : Nat), pk[j]? = some .st → ∃ i, os[j]? = some (.nm i) ∧ (g.κ[i]? = some .st ∨ g.κ[i]? = some .sl) ∧ i ∈ ioIx pk os
  | [], [], _, _, _, _, _, j, h => by simp at h
  | k :: ks, o :: os, xs, vs, h, ox, ors, j, h1 => by
    have h : argOk1 g.κ k o = true ∧ argOks g.κ ks os = true := by simpa [argOks] using h
    cases j with
    | zero =>
      have e : k = .st := by simpa using h1
      subst e
      cases o with
      | ex w => exact absurd h.1 (by simp [argOk1])
      | nm i => exact ⟨i, rfl, by simpa [argOk1] using h.1, List.mem_cons_self⟩
    | succ j =>
      have : ∃ r vr, OpX os r ∧ ORs H O σ r vr := by
        cases o with
        | ex w =>
          obtain ⟨d, r, rfl, ox⟩ := ox
          obtain ⟨v, vr, rfl, o1, ors⟩ := ors
          exact ⟨r, vr, ox, ors⟩
        | nm i =>
          obtain ⟨r, rfl, ox⟩ := ox
          obtain ⟨v, vr, rfl, o1, ors⟩ := ors
          exact ⟨r, vr, ox, ors⟩
      obtain ⟨r, vr, ox, ors⟩ := this
      obtain ⟨i, e1, e2, e3⟩ := st_slots A h.2 ox ors j (by simpa using h1)
      refine ⟨i, by simpa using e1, e2, ?_⟩
      cases k <;> cases o <;> first | exact e3 | exact List.mem_cons_of_mem _ e3
  | [], o :: os, _, _, h, _, _, _, _ => by simp [argOks] at h
  | k :: ks, [], _, _, h, _, _, _, _ => by simp [argOks] at h
/-- the io arguments are slots of kind own or io -/
theorem io_slots (A : Abs g O H σ ε) : ∀ {pk : List Kd} {os : List Op} {xs : List (En → Option D)} {vs : List V}, argOks g.κ pk os = true → OpX os xs → ORs H O σ xs vs → ∀ (j : Nat) (a : Addr), pk[j]? = some .io → vs[j]? = some (.ref a) → ∃ i, os[j]? = some (.nm i) ∧ mu g.κ i ∧ σ[i]? = some (some (.ref a)) ∧ i ∈ ioIx pk os
  | [], [], _, _, _, _, _, j, a, h, _ => by simp at h
  | k :: ks, o :: os, xs, vs, h, ox, ors, j, a, h1, h2 => by
    have h : argOk1 g.κ k o = true ∧ argOks g.κ ks os = true := by simpa [argOks] using h
    have step : ∀ {r : List (En → Option D)} {vr : List V}, OpX os r → ORs H O σ r vr → ∀ j, ks[j]? = some .io → vr[j]? = some (.ref a) → ∃ i, (o :: os)[j + 1]? = some (.nm i) ∧ mu g.κ i ∧ σ[i]? = some (some (.ref a)) ∧ i ∈ ioIx (k :: ks) (o :: os) := fun ox ors j h1 h2 => by
      obtain ⟨i, e1, e2, e3, e4⟩ := io_slots A h.2 ox ors j a h1 h2
      refine ⟨i, by simpa using e1, e2, e3, ?_⟩
      cases k <;> cases o <;> first | exact e4 | exact List.mem_cons_of_mem _ e4
    cases o with
    | ex w =>
      obtain ⟨d, r, rfl, ox⟩ := ox
      obtain ⟨v, vr, rfl, o1, ors⟩ := ors
      cases j with
      | zero =>
        have : k = .io := by simpa using h1
        subst this
        exact absurd h.1 (by simp [argOk1])
      | succ j => exact step ox ors j (by simpa using h1) (by simpa using h2)
    | nm i =>
      obtain ⟨r, rfl, ox⟩ := ox
      obtain ⟨v, vr, rfl, o1, ors⟩ := ors
      cases j with
      | zero =>
        have : k = .io := by simpa using h1
        subst this
        have ev : v = .ref a := by simpa using h2
        subst ev
        exact ⟨i, rfl, by simpa [argOk1, mu] using h.1, or_nm o1, List.mem_cons_self⟩
      | succ j => exact step ox ors j (by simpa using h1) (by simpa using h2)
  | [], o :: os, _, _, h, _, _, _, _, _, _ => by simp [argOks] at h
  | k :: ks, [], _, _, h, _, _, _, _, _, _ => by simp [argOks] at h
theorem io_nd (A : Abs g O H σ ε) : ∀ {pk : List Kd} {os : List Op} {xs : List (En → Option D)} {vs : List V}, argOks g.κ pk os = true → OpX os xs → ORs H O σ xs vs → (ioIx pk os).Nodup → (ioL pk vs).Nodup
  | [], [], _, vs, _, _, _, _ => by cases vs <;> exact List.nodup_nil
  | k :: ks, o :: os, xs, vs, h0, ox, ors, nd => by
    have h : argOk1 g.κ k o = true ∧ argOks g.κ ks os = true := by simpa [argOks] using h0
    cases o with
    | ex w =>
      obtain ⟨d, r, rfl, ox⟩ := ox
      obtain ⟨v, vr, rfl, o1, ors⟩ := ors
      cases k with
      | io => exact absurd h.1 (by simp [argOk1])
      | val => exact (show (ioL ks vr).Nodup from io_nd A h.2 ox ors (show (ioIx ks os).Nodup from nd))
      | brw => exact (show (ioL ks vr).Nodup from io_nd A h.2 ox ors (show (ioIx ks os).Nodup from nd))
      | own => exact (show (ioL ks vr).Nodup from io_nd A h.2 ox ors (show (ioIx ks os).Nodup from nd))
      | st => exact absurd h.1 (by simp [argOk1])
      | sl => exact absurd h.1 (by simp [argOk1])
    | nm i =>
      obtain ⟨r, rfl, ox⟩ := ox
      obtain ⟨v, vr, rfl, o1, ors⟩ := ors
      cases k with
      | val => exact (show (ioL ks vr).Nodup from io_nd A h.2 ox ors (show (ioIx ks os).Nodup from nd))
      | brw => exact (show (ioL ks vr).Nodup from io_nd A h.2 ox ors (show (ioIx ks os).Nodup from nd))
      | own => exact (show (ioL ks vr).Nodup from io_nd A h.2 ox ors (show (ioIx ks os).Nodup from nd))
      | st => exact (show (ioL ks vr).Nodup from io_nd A h.2 ox ors (List.nodup_cons.mp (show (i :: ioIx ks os).Nodup from nd)).2)
      | sl => exact absurd h.1 (by simp [argOk1])
      | io =>
        have nd' : i ∉ ioIx ks os ∧ (ioIx ks os).Nodup := List.nodup_cons.mp nd
        have ih := io_nd A h.2 ox ors nd'.2
        cases v with
        | ref a =>
          refine List.nodup_cons.mpr ⟨fun z => ?_, ih⟩
          obtain ⟨j, h1, h2⟩ := ioL_mem.mp z
          obtain ⟨i', _, m', s', e'⟩ := io_slots A h.2 ox ors j a h1 h2
          have : i = i' := A.apart i i' a (by simpa [argOk1, mu] using h.1) m' (or_nm o1) s'
          exact nd'.1 (this ▸ e')
        | non => exact ih
        | bl _ => exact ih
        | int _ => exact ih
        | str _ => exact ih
        | byt _ => exact ih
        | flt _ => exact ih
        | ty _ => exact ih
  | [], o :: os, _, _, h, _, _, _ => by simp [argOks] at h
  | k :: ks, [], _, _, h, _, _, _ => by simp [argOks] at h
theorem brw_ix : ∀ {pk : List Kd} {os : List Op} {j i : Nat}, pk[j]? = some .brw → os[j]? = some (.nm i) → i ∈ brwIx pk os
  | [], _, j, _, h, _ => by simp at h
  | k :: ks, [], j, _, _, h => by simp at h
  | k :: ks, o :: os, 0, i, h1, h2 => by
    have e1 : k = .brw := by simpa using h1
    have e2 : o = .nm i := by simpa using h2
    subst e1 e2
    exact List.mem_cons_self
  | k :: ks, o :: os, j + 1, i, h1, h2 => by
    have ih := brw_ix (pk := ks) (os := os) (j := j) (i := i) (by simpa using h1) (by simpa using h2)
    cases k <;> cases o <;> first | exact ih | exact List.mem_cons_of_mem _ ih
theorem ors_get : ∀ {os : List Op} {xs : List (En → Option D)} {vs : List V} {j : Nat} {v : V}, OpX os xs → ORs H O σ xs vs → vs[j]? = some v → (∃ i : Nat, os[j]? = some (Op.nm i) ∧ σ[i]? = some (some v)) ∨ ∃ d, Rp H O d v
  | [], xs, vs, j, v, e, ors, h => by
    have e : xs = [] := e
    subst e
    have ors : vs = [] := ors
    subst ors
    simp at h
  | .ex w :: os, xs, vs, j, v, ox, ors, h => by
    obtain ⟨d, r, rfl, ox⟩ := ox
    obtain ⟨u, vr, rfl, o1, ors⟩ := ors
    cases j with
    | zero =>
      have e : u = v := by simpa using h
      subst e
      exact .inr ⟨d, or_ex o1⟩
    | succ j => exact (ors_get (j := j) ox ors (by simpa using h)).imp (fun ⟨i, a, b⟩ => ⟨i, by simpa using a, b⟩) id
  | .nm i :: os, xs, vs, j, v, ox, ors, h => by
    obtain ⟨r, rfl, ox⟩ := ox
    obtain ⟨u, vr, rfl, o1, ors⟩ := ors
    cases j with
    | zero =>
      have e : u = v := by simpa using h
      subst e
      exact .inl ⟨i, rfl, or_nm o1⟩
    | succ j => exact (ors_get (j := j) ox ors (by simpa using h)).imp (fun ⟨i, a, b⟩ => ⟨i, by simpa using a, b⟩) id
theorem rp_ref {d : D} {a : Addr} (h : Rp H O d (.ref a)) : ¬ O a := by
  match d, h with
  | .none, e => cases (show V.ref a = .non from e)
  | .bool _, e => cases (show V.ref a = .bl _ from e)
  | .int _, e => cases (show V.ref a = .int _ from e)
  | .str _, e => cases (show V.ref a = .str _ from e)
  | .list _, ⟨c, xs, e, n, _⟩ => cases e; exact n
  | .tuple _, ⟨c, xs, e, n, _⟩ => cases e; exact n
  | .dict _, ⟨c, _, e, n, _⟩ => cases e; exact n
theorem vals_nm {i2 : Nat} : ∀ {os : List Op} {xs : List (En → Option D)} {ds : List D} {j : Nat}, OpX os xs → vals ε xs ds → os[j]? = some (.nm i2) → ∃ d, ε[i2]? = some (some d) := by
  intro os
  induction os with
  | nil => intro xs ds j _ _ h; simp at h
  | cons o os ih =>
    intro xs ds j ox e h
    cases o with
    | ex w =>
      obtain ⟨d, r, rfl, ox⟩ := ox
      obtain ⟨d', dr, rfl, e1, e⟩ := e
      cases j with
      | zero => simp at h
      | succ j => exact ih ox e (by simpa using h)
    | nm i =>
      obtain ⟨r, rfl, ox⟩ := ox
      obtain ⟨d', dr, rfl, e1, e⟩ := e
      cases j with
      | zero =>
        have q : i = i2 := by simpa using h
        subst q
        exact ⟨d', slF_get e1⟩
      | succ j => exact ih ox e (by simpa using h)
theorem args_in (A : Abs g O H σ ε) {pk : List Kd} {os : List Op} {xs : List (En → Option D)} {vs : List V} {ds : List D} (h : argB g.κ pk os = true) (ox : OpX os xs) (ors : ORs H O σ xs vs) (e : vals ε xs ds) : ArgsIn H (O.pas (pk.contains .st)) pk ds vs := by
  unfold argB at h
  simp only [Bool.and_eq_true, decide_eq_true_eq] at h
  obtain ⟨⟨⟨h1, h2⟩, h3⟩, h4⟩ := h
  have hst : Kd.st ∈ pk → pk.contains .st = true := fun z => by simpa using z
  refine ⟨args_ok A hst h1 ox ors e, io_nd A h1 ox ors h2, fun j b hj hv z => ?_, A.has, fun a z => A.ownO a (.inr z.2), fun a ha z => ?_, fun j b hj hv z => ?_⟩
  rotate_left
  · obtain ⟨m, hm, hv2⟩ := ioL_mem.mp ha
    obtain ⟨i, _, mi, si, _⟩ := io_slots A h1 ox ors m a hm hv2
    exact A.apm i a mi si z.2
  · rcases ors_get ox ors hv with ⟨i2, o2, s2⟩ | ⟨d, rp⟩
    · have b2 := brw_ix hj o2
      have n2 : ¬ i2 ∈ ioIx pk os := by simpa using List.all_eq_true.mp h3 i2 b2
      have l2 : i2 < g.κ.length := by rw [A.lenK]; exact (List.getElem?_eq_some_iff.mp s2).1
      have notst : g.κ[i2]? = some .st ∨ g.κ[i2]? = some .sl → False := fun q => by
        unfold stB at h4
        rw [z.1] at h4
        have h4 : (g.κ.zipIdx.all fun p => !isSt p.1 || (ioIx pk os).contains p.2) = true := h4
        have mem : (g.κ[i2], i2) ∈ g.κ.zipIdx := List.mem_iff_getElem?.mpr ⟨i2, by rw [List.getElem?_zipIdx, List.getElem?_eq_getElem l2]; simp⟩
        have := List.all_eq_true.mp h4 _ mem
        have e2 : isSt g.κ[i2] = true := by
          rw [List.getElem?_eq_getElem l2] at q
          rcases q with q | q <;> (rw [Option.some.inj q]; rfl)
        rw [e2] at this
        exact n2 (by simpa using this)
      have ok := args_ok A hst h1 ox ors e
      have l : j < ds.length := by rw [ok.len.2]; exact (List.getElem?_eq_some_iff.mp hj).1
      have hd : ∃ d, ε[i2]? = some (some d) := vals_nm ox e o2
      obtain ⟨d, ed⟩ := hd
      obtain ⟨v', k', s1, s3, s⟩ := A.slot i2 d ed
      rw [s2] at s1
      cases s1
      cases k' with
      | val => exact rp_ref (show Rp H O d (.ref b) from s) (A.ownO b (.inr z.2))
      | own => exact A.apm i2 b (.inl s3) s2 z.2
      | io => exact A.apm i2 b (.inr s3) s2 z.2
      | brw =>
        obtain ⟨n0, _, n1⟩ := A.brwA i2 b s3 s2
        exact (A.newm b z.2).elim n0 n1
      | st => exact notst (.inl s3)
      | sl => exact notst (.inr s3)
    · exact rp_ref rp (A.ownO b (.inr z.2))
  obtain ⟨m, hm, hv2⟩ := ioL_mem.mp z
  obtain ⟨i, _, mi, si, ii⟩ := io_slots A h1 ox ors m b hm hv2
  have stslot : ∀ (i2 : Nat), (g.κ[i2]? = some .st ∨ g.κ[i2]? = some .sl) → σ[i2]? = some (some (.ref b)) → OpX os xs → vals ε xs ds → os[j]? = some (.nm i2) → ¬ O.m b → False := fun i2 hk s2 ox e o2 nm => by
    obtain ⟨d, ed⟩ := vals_nm ox e o2
    obtain ⟨v', k', s1, s3, s⟩ := A.slot i2 d ed
    rw [s2] at s1
    cases s1
    have os' : OwS H O d (.ref b) := by
      rcases hk with hk | hk <;> (rw [hk] at s3; cases s3; exact s)
    obtain ⟨_, _, _, b', _, _, _, _, _, _, e', m, _⟩ := os'
    cases e'
    exact nm m.1
  rcases ors_get ox ors hv with ⟨i2, o2, s2⟩ | ⟨d, rp⟩
  · have b2 := brw_ix hj o2
    have n2 : ¬ i2 ∈ ioIx pk os := by simpa using List.all_eq_true.mp h3 i2 b2
    have ok := args_ok A hst h1 ox ors e
    -- the borrowed name is no changed one
    have : i ≠ i2 := fun q => n2 (q ▸ ii)
    have l : j < ds.length := by rw [ok.len.2]; exact (List.getElem?_eq_some_iff.mp hj).1
    by_cases k2 : mu g.κ i2
    · exact this (A.apart i i2 b mi k2 si s2)
    · -- a borrowed or clean slot
      have l2 : i2 < g.κ.length := by rw [A.lenK]; exact (List.getElem?_eq_some_iff.mp s2).1
      cases e2 : g.κ[i2] with
      | own => exact k2 (.inl (by rw [List.getElem?_eq_getElem l2, e2]))
      | io => exact k2 (.inr (by rw [List.getElem?_eq_getElem l2, e2]))
      | brw =>
        obtain ⟨n0, nio, _⟩ := A.brwA i2 b (by rw [List.getElem?_eq_getElem l2, e2]) s2
        rcases mi with mi | mi
        · exact n0 (A.new i b mi si)
        · obtain ⟨c, hc⟩ := A.ioA i mi
          have := A.ioS i c hc
          rw [si] at this
          cases this
          exact nio i hc
      | val =>
        obtain ⟨d, ed⟩ := vals_nm ox e o2
        obtain ⟨v', k', s1, s3, s⟩ := A.slot i2 d ed
        rw [List.getElem?_eq_getElem l2, e2] at s3
        cases s3
        rw [s2] at s1
        cases s1
        exact rp_ref (show Rp H O d (.ref b) from s) (A.ownO b (.inl ⟨i, mi, si⟩))
      | st => exact stslot i2 (.inl (by rw [List.getElem?_eq_getElem l2, e2])) s2 ox e o2 (A.apm i b mi si)
      | sl => exact stslot i2 (.inr (by rw [List.getElem?_eq_getElem l2, e2])) s2 ox e o2 (A.apm i b mi si)
  · exact rp_ref rp (A.ownO b (.inl ⟨i, mi, si⟩))
theorem putO_len : ∀ (pk : List Kd) (os : List Op) (outs : List D) (ε : En), (putO pk os outs ε).length = ε.length
  | [], _, _, _ => rfl
  | k :: ks, [], _, _ => by cases k <;> rfl
  | k :: ks, o :: os, outs, ε => by
    cases k with
    | val => exact putO_len ks os outs ε
    | brw => exact putO_len ks os outs ε
    | own => exact putO_len ks os outs ε
    | sl => exact putO_len ks os outs ε
    | st =>
      cases o with
      | ex w => exact putO_len ks os outs ε
      | nm i =>
        cases outs with
        | nil => exact putO_len ks os [] ε
        | cons d outs => exact (putO_len ks os outs _).trans (by rw [List.length_set])
    | io =>
      cases o with
      | ex w => exact putO_len ks os outs ε
      | nm i =>
        cases outs with
        | nil => exact putO_len ks os [] ε
        | cons d outs => exact (putO_len ks os outs _).trans (by rw [List.length_set])
/-- what stands behind a call: each slot holds what the callee told, or what it held -/
theorem putO_get {H' : Hp} {O2 : OS} : ∀ {pk : List Kd} {os : List Op} {xs : List (En → Option D)} {vs : List V} {outs : List D} {ε : En} {j : Nat} {d : D}, argOks g.κ pk os = true → OpX os xs → ORs H O σ xs vs → Outs H' O2 pk vs outs → (ioIx pk os).Nodup → (putO pk os outs ε)[j]? = some (some d) →
    (∃ (m : Nat) (k : Kd) (v : V), pk[m]? = some k ∧ k.out = true ∧ os[m]? = some (.nm j) ∧ vs[m]? = some v ∧ σ[j]? = some (some v) ∧ SlotOk H' O2 k d v) ∨ (ε[j]? = some (some d) ∧ j ∉ ioIx pk os)
  | [], os, xs, vs, outs, ε, j, d, _, _, _, _, _, e => .inr ⟨e, by simp [ioIx]⟩
  | k :: ks, [], xs, vs, outs, ε, j, d, _, ox, ors, ou, _, e => by
    refine .inr ⟨?_, ?_⟩
    · cases k <;> exact e
    · cases k <;> simp [ioIx]
  | k :: ks, o :: os, xs, vs, outs, ε, j, d, ha, ox, ors, ou, nd, e => by
    have ha : argOk1 g.κ k o = true ∧ argOks g.κ ks os = true := by simpa [argOks] using ha
    have lift : ∀ {vr : List V} {u : V}, (∃ (m : Nat) (k : Kd) (v : V), ks[m]? = some k ∧ k.out = true ∧ os[m]? = some (.nm j) ∧ vr[m]? = some v ∧ σ[j]? = some (some v) ∧ SlotOk H' O2 k d v) → ∃ (m : Nat) (k' : Kd) (v : V), (k :: ks)[m]? = some k' ∧ k'.out = true ∧ (o :: os)[m]? = some (.nm j) ∧ (u :: vr)[m]? = some v ∧ σ[j]? = some (some v) ∧ SlotOk H' O2 k' d v :=
      fun ⟨m, k', v, h1, h0, h2, h3, h4, h5⟩ => ⟨m + 1, k', v, by simpa using h1, h0, by simpa using h2, by simpa using h3, h4, h5⟩
    obtain ⟨u, vr, ev, ou⟩ := ou
    subst ev
    have os' : ∃ r, OpX os r ∧ ORs H O σ r vr ∧ (∀ i, o = .nm i → σ[i]? = some (some u)) := by
      cases o with
      | ex w =>
        obtain ⟨d, r, rfl, ox⟩ := ox
        obtain ⟨v, vr', e, o1, ors⟩ := ors
        cases e
        exact ⟨r, ox, ors, fun i e => nomatch e⟩
      | nm i =>
        obtain ⟨r, rfl, ox⟩ := ox
        obtain ⟨v, vr', e, o1, ors⟩ := ors
        cases e
        exact ⟨r, ox, ors, fun i' e => by cases e; exact or_nm o1⟩
    obtain ⟨r, ox2, ors2, su⟩ := os'
    have outC : ∀ i d0 or', o = .nm i → k.out = true → SlotOk H' O2 k d0 u → Outs H' O2 ks vr or' → i ∉ ioIx ks os → (ioIx ks os).Nodup → (putO ks os or' (ε.set i (some d0)))[j]? = some (some d) →
        (∃ (m : Nat) (k' : Kd) (v : V), (k :: ks)[m]? = some k' ∧ k'.out = true ∧ (o :: os)[m]? = some (.nm j) ∧ (u :: vr)[m]? = some v ∧ σ[j]? = some (some v) ∧ SlotOk H' O2 k' d v) ∨ (ε[j]? = some (some d) ∧ j ∉ i :: ioIx ks os) := fun i d0 or' eo ho ow ou ni nd' e => by
      rcases putO_get (ε := ε.set i (some d0)) ha.2 ox2 ors2 ou nd' e with h | ⟨h, n⟩
      · exact .inl (lift h)
      · by_cases q : i = j
        · subst q
          have hi : i < ε.length := by
            have := (List.getElem?_eq_some_iff.mp h).1
            rwa [List.length_set] at this
          rw [List.getElem?_set_self hi] at h
          cases h
          exact .inl ⟨0, k, u, rfl, ho, by rw [eo]; rfl, rfl, su i eo, ow⟩
        · rw [get_set_ne q] at h
          exact .inr ⟨h, fun z => (List.mem_cons.mp z).elim (fun e => q e.symm) n⟩
    cases k with
    | val => exact (putO_get ha.2 ox2 ors2 ou (show (ioIx ks os).Nodup by cases o <;> exact nd) e).imp lift (fun z => ⟨z.1, by cases o <;> exact z.2⟩)
    | brw => exact (putO_get ha.2 ox2 ors2 ou (show (ioIx ks os).Nodup by cases o <;> exact nd) e).imp lift (fun z => ⟨z.1, by cases o <;> exact z.2⟩)
    | own => exact (putO_get ha.2 ox2 ors2 ou (show (ioIx ks os).Nodup by cases o <;> exact nd) e).imp lift (fun z => ⟨z.1, by cases o <;> exact z.2⟩)
    | sl => exact (putO_get ha.2 ox2 ors2 ou (show (ioIx ks os).Nodup by cases o <;> exact nd) e).imp lift (fun z => ⟨z.1, by cases o <;> exact z.2⟩)
    | io =>
      rw [if_pos (show Kd.io.out = true from rfl)] at ou
      obtain ⟨d0, or', rfl, ow, ou⟩ := ou
      cases o with
      | ex w => exact absurd ha.1 (by simp [argOk1])
      | nm i =>
        have nd' : i ∉ ioIx ks os ∧ (ioIx ks os).Nodup := List.nodup_cons.mp nd
        exact outC i d0 or' rfl rfl ow ou nd'.1 nd'.2 e
    | st =>
      rw [if_pos (show Kd.st.out = true from rfl)] at ou
      obtain ⟨d0, or', rfl, ow, ou⟩ := ou
      cases o with
      | ex w => exact absurd ha.1 (by simp [argOk1])
      | nm i =>
        have nd' : i ∉ ioIx ks os ∧ (ioIx ks os).Nodup := List.nodup_cons.mp nd
        exact outC i d0 or' rfl rfl ow ou nd'.1 nd'.2 e
end
end DL
namespace DL
open PySem PySem.Spec L2
section
variable {X : CxD} {κ : List Kd} {fr : Bool} {pos : Pos} {e a : Expr} {es : List Expr} {os : List Op}
theorem ow_ref {H : Hp} {O : OS} {d : D} {a : Addr} (h : Ow H O d (.ref a)) : H a ≠ none := by
  match d, h with
  | .list _, ⟨b, xs, e, _, r, _⟩ => cases e; exact hp_some r
  | .dict _, ⟨b, _, e, _, r, _⟩ => cases e; exact hp_some r
theorem SlotOk.to {H : Hp} {O O' : OS} (w : ∀ a, O' a ↔ O a) (mm : ∀ a, O.m a → O'.m a) {k : Kd} {d : D} {v : V} (h : SlotOk H O k d v) : SlotOk H O' k d v := by
  cases k with
  | val => exact Rp.anti (fun a z => (w a).mp z) h
  | brw => exact NbC.anti (fun a z => (w a).mp z) h
  | own => exact Ow.ext (fun _ _ e _ => e) (fun a z => .inl ((w a).mp z)) (fun _ _ _ e => e) (fun a z => (w a).mpr z) h
  | io => exact Ow.ext (fun _ _ e _ => e) (fun a z => .inl ((w a).mp z)) (fun _ _ _ e => e) (fun a z => (w a).mpr z) h
  | st => exact OwS.ext (fun _ _ e _ => e) (fun a z => .inl ((w a).mp z)) (fun _ _ _ e => e) mm h
  | sl => exact OwS.ext (fun _ _ e _ => e) (fun a z => .inl ((w a).mp z)) (fun _ _ _ e => e) mm h
theorem Outs.to {H : Hp} {O O' : OS} (w : ∀ a, O' a ↔ O a) (mm : ∀ a, O.m a → O'.m a) : ∀ {ks : List Kd} {vs : List V} {outs : List D}, Outs H O ks vs outs → Outs H O' ks vs outs
  | [], _, _, h => h
  | k :: ks, _, _, ⟨v, vr, e, h⟩ => by
    refine ⟨v, vr, e, ?_⟩
    by_cases c : k.out = true
    · rw [if_pos c] at h ⊢
      obtain ⟨d, r, e2, s, h⟩ := h
      exact ⟨d, r, e2, s.to w mm, Outs.to w mm h⟩
    · rw [if_neg c] at h ⊢
      exact Outs.to w mm h
theorem stB_in {κ pk : List Kd} {os : List Op} (h : stB κ pk os = true) (hc : pk.contains .st = true) {j : Nat} (hk : κ[j]? = some .st ∨ κ[j]? = some .sl) : j ∈ ioIx pk os := by
  unfold stB at h
  rw [hc] at h
  have h : (κ.zipIdx.all fun p => !isSt p.1 || (ioIx pk os).contains p.2) = true := h
  obtain ⟨k, ek, hs⟩ : ∃ k, κ[j]? = some k ∧ isSt k = true := by
    rcases hk with z | z
    · exact ⟨_, z, rfl⟩
    · exact ⟨_, z, rfl⟩
  have mem : (k, j) ∈ κ.zipIdx := List.mem_iff_getElem?.mpr ⟨j, by rw [List.getElem?_zipIdx, ek]; simp⟩
  have := List.all_eq_true.mp h _ mem
  rw [hs] at this
  simpa using this
/-- what is avoided behind a call -/
def OS.aft (O : OS) (Om : Addr → Prop) : OS := ⟨fun a => O a ∨ Om a, fun a => O.m a ∨ Om a⟩
theorem call_core {g : Gx} {pk : List Kd} {sp : DSp} {fr : Bool} (m : MonoA os) (ms : MonoD sp) (hb : argB g.κ pk os = true) {σ : L2.St} {H : Hp} {E : XK} {O : OS} {ε : En} {Q : D → En → Prop} {R : VK} (A : Abs g O H σ ε) (q : eCall pk sp os ε Q)
    (k : ∀ d ε' v H1 H' O1 O2, Ext g.κ σ O H O1 H1 → Ext g.κ σ O1 H1 O2 H' → (∀ a, O1 a → H1 a ≠ none) → ((fr = false ∧ Rp H' O2 d v ∧ Abs g O2 H' σ ε') ∨ ∃ p, fr = true ∧ v = .ref p ∧ H1 p = none ∧ (OS.add O2 p).sl p ∧ Ow H' (OS.add O2 p) d v ∧ Abs g (OS.add O2 p) H' σ ε') → Q d ε' → R v H') : rdA g os σ H fun vs H1 => spD pk fr sp vs H1 R E := by
  refine ⟨O, ε, A, aEv_mono m (fun xs ε1 ⟨ox, ds, e, q⟩ vs H1 O1 A1 x1 ors => ?_) (aEv_opx m q)⟩
  show spD pk fr sp vs H1 R E
  have ai := args_in A1 hb ox ors e
  refine ⟨O1.pas (pk.contains .st), ds, ai, ms _ _ _ (fun d outs z v H' kk so r => ?_) q⟩
  have hb' := hb
  unfold argB at hb'
  simp only [Bool.and_eq_true, decide_eq_true_eq] at hb'
  have hS : ∀ a ∈ ioL pk vs, SlotAt g.κ σ a := fun a ha => by
    obtain ⟨j, h1, h2⟩ := ioL_mem.mp ha
    obtain ⟨i, _, mi, si, _⟩ := io_slots A1 hb'.1.1.1 ox ors j a h1 h2
    exact ⟨i, mi, si⟩
  have A2 : ∀ O2 : OS, Outs H' O2 pk vs outs → (∀ a, O2 a → O1 a ∨ H1 a = none) → (∀ a, O1 a → O2 a) → (∀ a, O2 a → H' a ≠ none) → (∀ a, O2.m a → O1.m a ∨ H1 a = none) → (∀ a, O1.m a → O2.m a) → (∀ a, O2.m a → O2 a) → Abs g O2 H' σ (putO pk os outs ε1) := fun O2 ou w mo hn wm mm mo' => A1.mutsM (Mx := (O1.pas (pk.contains .st)).m) (fun _ z => z.2) hS kk so (putO_len _ _ _ _) (fun j d' ej => by
    rcases putO_get (g := g) hb'.1.1.1 ox (ors) ou hb'.1.1.2 ej with ⟨m', kd, v', h1, ho, h2, h3, h4, h5⟩ | ⟨h1, h2⟩
    · cases kd <;> first | (exact absurd ho (by decide)) | skip
      · have h5 : Ow H' O2 d' v' := h5
        obtain ⟨a, rfl⟩ : ∃ a, v' = .ref a := by
          match d', h5 with
          | .list _, ⟨b, xs, e, _⟩ => exact ⟨b, e⟩
          | .dict _, ⟨b, _, e, _⟩ => exact ⟨b, e⟩
        obtain ⟨i, e1, mi, si, _⟩ := io_slots A1 hb'.1.1.1 ox ors m' a h1 h3
        rw [h2] at e1
        cases e1
        exact .inl ⟨a, mi, h4, ioL_mem.mpr ⟨m', h1, h3⟩, h5⟩
      · obtain ⟨i, e1, hk, _⟩ := st_slots A1 hb'.1.1.1 ox ors m' h1
        rw [h2] at e1
        cases e1
        exact .inr (.inl ⟨v', h4, hk, h5⟩)
    · refine .inr (.inr ⟨h1, fun a mj sj z => ?_, fun hk b mb => h2 (stB_in hb'.2 mb.1 hk)⟩)
      obtain ⟨m', h3, h4⟩ := ioL_mem.mp z
      obtain ⟨i, e1, mi, si, ii⟩ := io_slots A1 hb'.1.1.1 ox ors m' a h3 h4
      rw [A1.apart j i a mj mi sj si] at h2
      exact h2 ii) w mo hn wm mm mo'
  obtain ⟨Om, ⟨g1, g2, g3⟩, r⟩ := r
  have g2' : ∀ a, Om a → O1.m a ∨ H1 a = none := fun a z => (g2 a z).imp_left (·.2)
  have x2 : Ext g.κ σ O1 H1 (OS.aft O1 Om) H' := ⟨fun a o e n => kk a o e (fun z => n (.inl (hS a z))) (fun z => n (.inr z.2)), fun a z => z.elim .inl fun z => (g2' a z).imp_left fun z => A1.ownO a (.inr z), fun a z => .inl z, so, fun a z => z.elim .inl (g2' a), fun a z => .inl z⟩
  refine k d _ v H1 H' O1 (OS.aft O1 Om) x1 x2 A1.has ?_ z
  have hn : ∀ a, (OS.aft O1 Om) a → H' a ≠ none := fun a z => z.elim (fun z => so a (A1.has a z)) (g3 a)
  have mo' : ∀ a, (OS.aft O1 Om).m a → (OS.aft O1 Om) a := fun a z => z.imp_left fun z => A1.ownO a (.inr z)
  cases fr with
  | false =>
    rw [if_neg Bool.false_ne_true] at r
    exact .inl ⟨rfl, Rp.anti (O := (O1.pas (pk.contains .st)).grow Om) (O' := OS.aft O1 Om) (fun _ z => z) r.1, A2 _ (r.2.to (O := (O1.pas (pk.contains .st)).grow Om) (O' := OS.aft O1 Om) (fun _ => Iff.rfl) fun _ z => .inr z) x2.own x2.mono hn x2.ownm x2.monom mo'⟩
  | true =>
    rw [if_pos rfl] at r
    obtain ⟨p, ev, np, nOm, ow, ou⟩ := r
    have ow' : Ow H' (OS.add (OS.aft O1 Om) p) d v := SlotOk.to (k := .own) (O := OS.add ((O1.pas (pk.contains .st)).grow Om) p) (O' := OS.add (OS.aft O1 Om) p) (fun _ => Iff.rfl) (fun _ z => .inr z) ow
    refine .inr ⟨p, rfl, ev, np, ⟨.inl rfl, fun z => z.elim (fun z => A1.nm np z) nOm⟩, ow', A2 _ (ou.to (O := OS.add ((O1.pas (pk.contains .st)).grow Om) p) (O' := OS.add (OS.aft O1 Om) p) (fun _ => Iff.rfl) fun _ z => .inr z) (fun a z => (OS.add_or z).elim (fun e => .inr (e ▸ np)) (x2.own a)) (fun a z => OS.add_of (x2.mono a z)) (fun a z => (OS.add_or z).elim (fun e => ?_) (hn a)) x2.ownm x2.monom fun a z => OS.add_of (mo' a z)⟩
    rw [e]
    rw [ev] at ow'
    exact ow_ref ow'
theorem de_call {x : Str} {p : Pos} {k : Nat} {ps : List Str} {pk : List Kd} {sp : DSp} (C : Cal X.prog X.w X.K X.mg X.base k x ps pk false sp) (hr : Room k X.A) (hgd : X.A.guards = some []) (ha : DA X κ (a :: es) os) (hg : Gl X x := by rfl) (hb : argB κ pk os = true := by rfl) (hdb : (x == ("__debug__" : Str)) = false := by decide) :
    DE X κ (.Call (.Name x p) (a :: es) [] pos) (eCall pk sp os) := by
  obtain ⟨f, fd, F, hm, hk, hbi⟩ := C.ex
  refine ⟨fun g hg' => (pe_callG F hr hgd hg hm hk hbi (E := E0) pass0 (ha.pa g hg') hdb (st_cons ha.hd.1) (st_any ha.hd.2)).imp fun σ H Q ⟨O, ε, A, q⟩ => ?_, eCall_mono C.mono ha.mono⟩
  refine call_core ha.mono C.mono (by rw [hg']; exact hb) A q fun d ε' v H1 H' O1 O2 x1 x2 _ r z => ?_
  rcases r with ⟨_, rp, A'⟩ | ⟨_, h, _⟩
  · exact z v H' O2 A' (x1.trans x2) rp
  · cases h
def MuOk (r : V → List V → Hp → VK → Prop) (f : D → List D → Option (D × D)) : Prop := ∀ (H : Hp) (O : OS) (a : Addr) (cur res new : D) (ds : List D) (xs : List V) (Q : VK), Ow H O cur (.ref a) → RpL H O ds xs → f cur ds = some (res, new) →
  (∀ v H', (∀ b o, b ≠ a → H b = some o → H' b = some o) → H' a ≠ none → Ow H' O new (.ref a) → Rp H' O res v → Q v H') → r (.ref a) xs H Q
def isL : D → Bool
  | .list _ => true
  | _ => false
def eMut (i : Nat) (f : D → List D → Option (D × D)) (ws : List WE) : WE := fun ε Q => (∃ d, ε[i]? = some (some d) ∧ isL d = true) ∧ cEv ws ε fun ds ε1 => ∃ cur res new, ε1[i]? = some (some cur) ∧ f cur ds = some (res, new) ∧ Q res (ε1.set i (some new))
theorem eMut_mono {i : Nat} {f : D → List D → Option (D × D)} {ws : List WE} (m : MonoC ws) : Mono (eMut i f ws) := fun ε Q Q' h ⟨h1, q⟩ => ⟨h1, cEv_mono m (fun ds ε1 ⟨cur, res, new, e1, e2, q⟩ => ⟨cur, res, new, e1, e2, h _ _ q⟩) q⟩
theorem mu_get {g : Gx} {O : OS} {H : Hp} {σ : L2.St} {ε : En} (A : Abs g O H σ ε) {i : Nat} (hk : mu g.κ i) {d : D} (e : ε[i]? = some (some d)) : ∃ a, σ[i]? = some (some (.ref a)) ∧ Ow H O d (.ref a) := by
  obtain ⟨v, k, e1, e2, s⟩ := A.slot i d e
  have ow : Ow H O d v := by
    rcases hk with hk | hk <;> (rw [hk] at e2; cases e2; exact s)
  obtain ⟨a, rfl⟩ : ∃ a, v = .ref a := by
    match d, ow with
    | .list _, ⟨b, xs, e, _⟩ => exact ⟨b, e⟩
    | .dict _, ⟨b, _, e, _⟩ => exact ⟨b, e⟩
  exact ⟨a, e1, ow⟩
theorem mut_core {g : Gx} {i : Nat} {r : V → List V → Hp → VK → Prop} {f : D → List D → Option (D × D)} {ws : List WE} (hr : MuOk r f) (hk : mu g.κ i) (m : MonoC ws) {σ : L2.St} {H : Hp} {Q : VK} (q : rdE g (eMut i f ws) σ H Q) :
    ∃ v, σ[i]? = some (some v) ∧ tyV X.K "list" v H ∧ rdC g ws σ H fun xs H2 => r v xs H2 Q := by
  obtain ⟨O, ε, A, ⟨d, ed, hd⟩, q⟩ := q
  obtain ⟨a, ea, ow⟩ := mu_get A hk ed
  refine ⟨.ref a, ea, ?_, O, ε, A, cEv_mono m (fun ds ε1 ⟨cur, res, new, e1, e2, q⟩ vs H1 O1 A1 x1 rl => ?_) q⟩
  · cases d with
    | list _ =>
      obtain ⟨b, xs, e, _, r, _⟩ := ow
      cases e
      exact Or.inl ⟨rfl, _, SqL.of r⟩
    | none => cases hd
    | bool _ => cases hd
    | int _ => cases hd
    | str _ => cases hd
    | tuple _ => cases hd
    | dict _ => cases hd
  · obtain ⟨a', ea', ow1⟩ := mu_get A1 hk e1
    rw [ea] at ea'
    cases ea'
    refine hr H1 O1 a cur res new ds vs Q ow1 rl e2 fun v H' kb hs ow2 rp => ?_
    exact q v H' O1 (A1.mut hk ea kb hs ow2) (x1.trans (mut_ext hk ea kb hs)) rp
variable {i : Nat} {x m : Str} {id : String} {npos apos : Pos}
theorem de_mut {r : V → List V → Hp → VK → Prop} {f : D → List D → Option (D × D)} {ws : List WE} (slot : Slot "list" m id) (hty : typeOf (.builtin id) = pure (.type "method_descriptor")) (hm : MtR X id r) (hf : MuOk r f) (ha : DC X κ (e :: es) ws)
    (hk : (decide (κ[i]? = some .own) || decide (κ[i]? = some .io)) = true := by rfl) (hN : X.N[i]? = some x := by rfl) (hv : Vis X.env.scope x := by first | exact Or.inl rfl | exact Or.inr (Or.inl rfl) | exact Or.inr (Or.inr rfl)) (hd : (x == ("__debug__" : Str)) = false := by decide)
    (hcd : (x == ("__classdict__" : Str)) = false := by decide) (hst : (e :: es).all notStar = true := by rfl) (hlen : (decide ((e :: es).length + ([] : List Keyword).length + (if ([] : List Keyword).isEmpty then 0 else 1) < 30)) = true := by rfl)
    (hbase : attributeBase (.Name x npos) m X.env (eval (.Name x npos) X.env) = eval (.Name x npos) X.env := by rfl) (hline : (apos.endLine == pos.line) = true := by rfl) :
    DE X κ (.Call (.Attribute (.Name x npos) m apos) (e :: es) [] pos) (eMut i f ws) := by
  have hs : notStar e = true ∧ es.all notStar = true := by rwa [List.all_cons, Bool.and_eq_true] at hst
  refine ⟨fun g hg => (pe_bm PySem.F.plainAttrs_list slot hty hm (pe_var hN hv hd hcd) (ha.pa g hg) hbase (by rw [st_all hst, hlen]; rfl) hline (st_cons hs.1) (st_any hs.2)).imp fun σ H Q q => ?_, eMut_mono ha.mono⟩
  have hk' : mu g.κ i := by
    rw [hg]
    simpa [mu] using hk
  exact mut_core hf hk' ha.mono q
def PutOk (t : TSet) (f : D → D → D → Option D) : Prop := ∀ (H : Hp) (O : OS) (a : Addr) (cur k d new : D) (kv v : V) (Q : Hp → Prop), Ow H O cur (.ref a) → Rp H O k kv → Rp H O d v → f cur k d = some new →
  (∀ H', (∀ b o, b ≠ a → H b = some o → H' b = some o) → H' a ≠ none → Ow H' O new (.ref a) → Q H') → t (.ref a) kv v H Q
def sPut (i : Nat) (f : D → D → D → Option D) (w wk : WE) : WS := fun E ε => w ε fun d ε1 => (∃ c, ε1[i]? = some (some c)) ∧ wk ε1 fun k ε2 => ∃ cur new, ε2[i]? = some (some cur) ∧ f cur k d = some new ∧ E.nx (ε2.set i (some new))
theorem ds_put {t : TSet} {f : D → D → D → Option D} {k : Expr} {w wk : WE} {tpos : Pos} (ht : PSet X t) (hf : PutOk t f) (h : DE X κ e w) (hki : DE X κ k wk)
    (hk : (decide (κ[i]? = some .own) || decide (κ[i]? = some .io)) = true := by rfl) (hN : X.N[i]? = some x := by rfl) (hv : Vis X.env.scope x := by first | exact Or.inl rfl | exact Or.inr (Or.inl rfl) | exact Or.inr (Or.inr rfl)) (hd : (x == ("__debug__" : Str)) = false := by decide)
    (hcd : (x == ("__classdict__" : Str)) = false := by decide)
    (ha : ∀ v, assign (.Subscript (.Name x npos) k tpos) X.env v = (do
      let ov ← holding [v] (eval (.Name x npos) X.env)
      let iv ← holding [v, ov] (eval k X.env)
      standAt tpos
      holding [v, ov, iv] (setItem ov iv v)
      release [v, ov, iv] []) := by intro _; rfl)
    (hs : swapsWithSole [.Subscript (.Name x npos) k tpos] e pos.line X.env = pure false := by rfl) (hw : swappedStores [.Subscript (.Name x npos) k tpos] e X.env = pure none := by rfl)
    (h1 : (assignEach [.Subscript (.Name x npos) k tpos] X.env).map (·.2) = [assign (.Subscript (.Name x npos) k tpos) X.env] := by rfl) :
    DS X κ fr (.Assign [.Subscript (.Name x npos) k tpos] e pos) (sPut i f w wk) :=
  ⟨fun g hg _ => (ps_asg (h.pe g hg) (pg_sub (pe_var hN hv hd hcd) (hki.pe g hg) ht ha) hs hw h1).imp fun D σ H ⟨O, ε, A, q⟩ => ⟨O, ε, A, h.mono _ _ _ (fun d ε1 ⟨⟨c, ec⟩, q⟩ v H1 O1 A1 x1 r1 => by
      have hk' : mu g.κ i := by
        rw [hg]
        simpa [mu] using hk
      obtain ⟨a, ea, _⟩ := mu_get A1 hk' ec
      refine ⟨.ref a, ea, O1, ε1, A1, hki.mono _ _ _ (fun kd ε2 ⟨cur, new, e1, e2, q⟩ kv H2 O2 A2 x2 r2 => ?_) q⟩
      obtain ⟨a', ea', ow⟩ := mu_get A2 hk' e1
      rw [ea] at ea'
      cases ea'
      exact hf H2 O2 a cur kd d new kv v _ ow r2 (A1.rp x2 r1) e2 fun H' kb hs ow2 => q σ H' O2 (A2.mut hk' ea kb hs ow2)) q⟩,
    fun E E' ε l q => h.mono _ _ _ (fun d ε1 ⟨hc, q⟩ => ⟨hc, hki.mono _ _ _ (fun kd ε2 ⟨cur, new, e1, e2, q⟩ => ⟨cur, new, e1, e2, l.nx _ q⟩) q⟩) q⟩
end
end DL
namespace DL
open PySem PySem.Spec L2
def iOp (c : Int → Int → Bool) (g : Int → Int → D) : D → D → Option D
  | .int i, .int j => if c i j then some (g i j) else none
  | _, _ => none
theorem iOp_ok {C : Int → Int → Prop} {c : Int → Int → Bool} {g : Int → Int → V} {g' : Int → Int → D} (hc : ∀ i j, c i j = true → C i j) (hg : ∀ i j H O, Rp H O (g' i j) (g i j)) : OpS (rI C g) (iOp c g') := fun H O x y a b r Q _ ha hb e k => by
  match a, b, ha, hb, e with
  | .int i, .int j, ha, hb, e =>
    have ha : x = .int i := ha
    have hb : y = .int j := hb
    subst ha hb
    have e : (if c i j then some (g' i j) else none) = some r := e
    split at e
    · rename_i h
      cases e
      exact ⟨i, j, rfl, rfl, hc i j h, k _ H (Same.refl _) (hg i j H O)⟩
    · cases e
theorem iOp0_ok {g : Int → Int → V} {g' : Int → Int → D} (hg : ∀ i j H O, Rp H O (g' i j) (g i j)) : OpS (rI0 g) (iOp (fun _ _ => true) g') := fun H O x y a b r Q _ ha hb e k => by
  match a, b, ha, hb, e with
  | .int i, .int j, ha, hb, e =>
    have ha : x = .int i := ha
    have hb : y = .int j := hb
    subst ha hb
    have e : some (g' i j) = some r := e
    cases e
    exact ⟨i, j, rfl, rfl, k _ H (Same.refl _) (hg i j H O)⟩
def dSub := iOp (fun _ _ => true) fun i j => .int (i - j)
def smallI (i : Int) : Bool := decide (-(2 ^ 64) < i) && decide (i < 2 ^ 64)
def dMulI := iOp (fun i j => smallI i || smallI j) fun i j => .int (i * j)
def dFdiv := iOp (fun _ j => decide (0 < j) && decide (j < 1073741824)) fun i j => .int (i / j)
def dMod := iOp (fun _ j => decide (0 < j)) fun i j => .int (i % j)
def dPow := iOp (fun i j => decide (0 ≤ j) && decide (j ≤ 1000000) && decide (i.natAbs < 2 ^ 64)) fun i j => .int (i ^ j.toNat)
theorem smallI_ok {i : Int} (h : smallI i = true) : -(2 ^ 64) < i ∧ i < 2 ^ 64 := by
  unfold smallI at h
  simpa using h
theorem sub_ok : OpS (rI0 fun i j => .int (i - j)) dSub := iOp0_ok fun _ _ _ _ => rfl
theorem mulI_ok : OpS (rI CMul fun i j => .int (i * j)) dMulI := iOp_ok (fun i j h => by
  rcases (by simpa using h : smallI i = true ∨ smallI j = true) with h | h
  · exact .inl (smallI_ok h)
  · exact .inr (smallI_ok h)) fun _ _ _ _ => rfl
/-- a text written several times -/
def rMulS : R2 := fun x y H Q => ∃ (z : Str) (n : Int), x = .str z ∧ y = .int n ∧ MulOk z n ∧ Q (.str (Txt.mul z n)) H
theorem op_mulS {X : CxD} : OpR X (binaryOp .Mult) rMulS := by
  intro pins s σ H x y v u Q I rx ry h
  obtain ⟨z, n, ex, ey, ok, q⟩ := h
  subst ex ey
  obtain ⟨t, rfl⟩ := rx
  obtain ⟨t2, rfl⟩ := ry
  exact SB.mul ok fun t' k => ⟨.str (Txt.mul z n), H, I.tok _, ⟨_, rfl⟩, q⟩
def mulFit (z : Str) (n : Int) : Prop := (0 ≤ n ∧ n ≤ 1048576) ∧ z.length * n.toNat ≤ sizeLine
theorem mulFit.ok {z : Str} {n : Int} (h : mulFit z n) : MulOk z n := by
  obtain ⟨⟨h0, h1⟩, h2⟩ := h
  have hz : sizeLine = 16777216 := rfl
  refine ⟨?_, fun h3 _ => ?_, fun _ _ => ?_⟩
  · rw [Bool.or_eq_false_iff, decide_eq_false_iff_not, decide_eq_false_iff_not]
    omega
  · intro h4
    have p : 0 < n := by omega
    have h5 := Int.lt_ediv_add_one_mul_self ((2 : Int) ^ 63 - 1) p
    have h6 : (((2 : Int) ^ 63 - 1) / n + 1) * n ≤ (z.length : Int) * n := Int.mul_le_mul_of_nonneg_right (by omega) (by omega)
    have h7 : ((z.length * n.toNat : Nat) : Int) = (z.length : Int) * n := by
      rw [Int.natCast_mul, Int.toNat_of_nonneg h0]
    omega
  · show decide (z.length * n.toNat > sizeLine) = false
    rw [decide_eq_false_iff_not]
    omega
instance {z : Str} {n : Int} : Decidable (mulFit z n) := inferInstanceAs (Decidable (_ ∧ _))
def dMul : D → D → Option D
  | .str z, .int n => if mulFit z n then some (.str (Txt.mul z n)) else none
  | a, b => dMulI a b
abbrev rMulA : R2 := fun x y H Q => rI CMul (fun i j => .int (i * j)) x y H Q ∨ rMulS x y H Q
theorem op_mulA {X : CxD} : OpR X (binaryOp .Mult) rMulA := op_mul.or op_mulS
theorem mul_ok : OpS rMulA dMul := fun H O x y a b c Q hO ha hb e k => by
  match a, b, ha, hb, e with
  | .int i, .int j, ha, hb, e => exact .inl (mulI_ok H O x y (.int i) (.int j) c Q hO ha hb e k)
  | .str z, .int n, ha, hb, e =>
    have ha : x = .str z := ha
    have hb : y = .int n := hb
    subst ha hb
    have e : (if mulFit z n then some (PyData.str (Txt.mul z n)) else none) = some c := e
    split at e
    · rename_i h
      cases e
      exact .inr ⟨z, n, rfl, rfl, h.ok, k _ H (Same.refl _) rfl⟩
    · cases e
theorem fdiv_ok : OpS (rI CDiv fun i j => .int (i / j)) dFdiv := iOp_ok (fun i j h => by simpa [CDiv] using h) fun _ _ _ _ => rfl
theorem mod_ok : OpS (rI (fun _ j => 0 < j) fun i j => .int (i % j)) dMod := iOp_ok (fun i j h => by simpa using h) fun _ _ _ _ => rfl
theorem pow_ok : OpS (rI CPow fun i j => .int (i ^ j.toNat)) dPow := iOp_ok (fun i j h => by
  have h : (0 ≤ j ∧ j ≤ 1000000) ∧ i.natAbs < 2 ^ 64 := by simpa using h
  exact ⟨h.1.1, h.1.2, h.2⟩) fun _ _ _ _ => rfl
def dLt := iOp (fun _ _ => true) fun i j => .bool (decide (i < j))
def dLe := iOp (fun _ _ => true) fun i j => .bool (decide (i ≤ j))
def dGt := iOp (fun _ _ => true) fun i j => .bool (decide (j < i))
def dGe := iOp (fun _ _ => true) fun i j => .bool (decide (j ≤ i))
theorem le_ok : OpS (rI0 fun i j => .bl (decide (i ≤ j))) dLe := iOp0_ok fun _ _ _ _ => rfl
theorem gt_ok : OpS (rI0 fun i j => .bl (decide (j < i))) dGt := iOp0_ok fun _ _ _ _ => rfl
theorem ge_ok : OpS (rI0 fun i j => .bl (decide (j ≤ i))) dGe := iOp0_ok fun _ _ _ _ => rfl
def dAdd : D → D → Option D
  | .int i, .int j => some (.int (i + j))
  | .str x, .str y => if x.length + y.length ≤ sizeLine then some (.str (x ++ y)) else none
  | .tuple xs, .tuple ys => if xs.length + ys.length ≤ sizeLine then some (.tuple (xs ++ ys)) else none
  | .list xs, .list ys => if xs.length + ys.length ≤ sizeLine then some (.list (xs ++ ys)) else none
  | _, _ => none
theorem RpL.app {H : Hp} {O : OS} : ∀ {ds es : List D} {vs us : List V}, RpL H O ds vs → RpL H O es us → RpL H O (ds ++ es) (vs ++ us)
  | [], es, vs, us, h, q => by
    have h : vs = [] := h
    subst h
    exact q
  | d :: ds, es, _, us, ⟨v, r, e, h, q⟩, q' => by
    subst e
    exact ⟨v, r ++ us, rfl, h, RpL.app q q'⟩
theorem RpL.nil_iff {H : Hp} {O : OS} {ds : List D} {vs : List V} (h : RpL H O ds vs) : vs = [] ↔ ds = [] := by
  have := h.length
  rw [← List.length_eq_zero_iff, this, List.length_eq_zero_iff]
abbrev rAddA (K : PySem.W.Frag) : R2 := fun x y H Q => rI0 (fun i j => .int (i + j)) x y H Q ∨ (∃ i j, x = .str i ∧ y = .str j ∧ i.length + j.length ≤ sizeLine ∧ Q (.str (i ++ j)) H) ∨ rCatA K x y H Q ∨ rCat x y H Q
theorem op_addA {X : CxD} : OpR X (binaryOp .Add) (rAddA X.K) := op_add.or (op_add_str.or (op_catA.or op_cat))
theorem tup_new {H : Hp} {O : OS} {xs : List V} {ds : List D} {p : Addr} (hO : ∀ a, O a → H a ≠ none) (np : H p = none) (r : RpL H O ds xs) : Rp (upd H p (.tup xs)) O (.tuple ds) (.ref p) :=
  ⟨p, xs, rfl, fun z => hO p z np, RdT.of upd_same, RpL.ext (fun a o e _ => same_upd np a o e) (fun _ z => .inl z) r⟩
theorem lst_new {H : Hp} {O : OS} {xs : List V} {ds : List D} {p : Addr} (hO : ∀ a, O a → H a ≠ none) (np : H p = none) (r : RpL H O ds xs) : Rp (upd H p (.lst xs)) O (.list ds) (.ref p) :=
  ⟨p, xs, rfl, fun z => hO p z np, upd_same, RpL.ext (fun a o e _ => same_upd np a o e) (fun _ z => .inl z) r⟩
theorem lst_own {H : Hp} {O O' : OS} {xs : List V} {ds : List D} {p : Addr} (np : H p = none) (w : ∀ a, O' a → O a ∨ a = p) (hp : O' p) (r : RpL H O ds xs) : Ow (upd H p (.lst xs)) O' (.list ds) (.ref p) :=
  ⟨p, xs, rfl, hp, upd_same, RpL.ext (fun a o e _ => same_upd np a o e) (fun a z => (w a z).imp id fun e => by rw [e]; exact np) r⟩
/-- both are clean: where one is empty the other one is handed on itself -/
theorem add_ok {K : PySem.W.Frag} : ∀ (H : Hp) (O : OS) (x y : V) (a b c : D) (Q : VK), (∀ a, O a → H a ≠ none) → Rp H O a x → Rp H O b y → dAdd a b = some c → (∀ v H', Same H H' → Rp H' O c v → Q v H') → rAddA K x y H Q := fun H O x y a b c Q hO ha hb e k => by
  match a, b, ha, hb, e with
  | .int i, .int j, ha, hb, e =>
    have ha : x = .int i := ha
    have hb : y = .int j := hb
    subst ha hb
    cases (show some (PyData.int (i + j)) = some c from e)
    exact .inl ⟨i, j, rfl, rfl, k _ H (Same.refl _) rfl⟩
  | .str i, .str j, ha, hb, e =>
    have ha : x = .str i := ha
    have hb : y = .str j := hb
    subst ha hb
    have e : (if i.length + j.length ≤ sizeLine then some (PyData.str (i ++ j)) else none) = some c := e
    split at e
    · rename_i h
      cases e
      exact .inr (.inl ⟨i, j, rfl, rfl, h, k _ H (Same.refl _) rfl⟩)
    · cases e
  | .tuple xs, .tuple ys, ⟨p, us, ex, n, hp, r⟩, ⟨q, ws, ey, n2, hq, r2⟩, e =>
    subst ex ey
    have e : (if xs.length + ys.length ≤ sizeLine then some (PyData.tuple (xs ++ ys)) else none) = some c := e
    split at e
    · rename_i h
      cases e
      refine .inr (.inr (.inl ⟨p, q, us, ws, rfl, rfl, sqt hp, sqt hq, by rw [r.length, r2.length]; exact h, fun z => ?_, fun _ z => ?_, fun _ _ p' np => ?_⟩))
      · have hx : xs = [] := r.nil_iff.mp z
        subst hx
        exact k _ H (Same.refl _) ⟨q, ws, rfl, n2, hq, r2⟩
      · have hy : ys = [] := r2.nil_iff.mp z
        subst hy
        exact k _ H (Same.refl _) ⟨p, us, rfl, n, hp, by rw [List.append_nil]; exact r⟩
      · exact k _ _ (same_upd np) (tup_new hO np (r.app r2))
    · cases e
  | .list xs, .list ys, ⟨p, us, ex, n, hp, r⟩, ⟨q, ws, ey, n2, hq, r2⟩, e =>
    subst ex ey
    have e : (if xs.length + ys.length ≤ sizeLine then some (PyData.list (xs ++ ys)) else none) = some c := e
    split at e
    · rename_i h
      cases e
      exact .inr (.inr (.inr ⟨p, q, us, ws, rfl, rfl, hp, hq, by rw [r.length, r2.length]; exact h, fun p' np => k _ _ (same_upd np) (lst_new hO np (r.app r2))⟩))
    · cases e
/-- an operation on two clean operands -/
theorem de_opC {X : CxD} {κ : List Kd} {a b : Expr} {wa wb : WE} {pos : Pos} {op : Operator} {r : R2} {f : D → D → Option D} (ho : OpR X (binaryOp op) r)
    (hf : ∀ (H : Hp) (O : OS) (x y : V) (a b c : D) (Q : VK), (∀ a, O a → H a ≠ none) → Rp H O a x → Rp H O b y → f a b = some c → (∀ v H', Same H H' → Rp H' O c v → Q v H') → r x y H Q) (ha : DE X κ a wa) (hb : DE X κ b wb) : DE X κ (.BinOp a op b pos) (eBin f (.ex wa) (.ex wb)) :=
  ⟨fun g hg => (pe_op ho (ha.pe g hg) (hb.pe g hg)).imp fun σ H Q ⟨O, ε, A, h⟩ => by
    refine ⟨O, ε, A, ha.mono _ _ _ (fun d ε1 h v1 H1 O1 A1 x1 r1 => ?_) h⟩
    refine ⟨O1, ε1, A1, hb.mono _ _ _ (fun y ε2 h v2 H2 O2 A2 x2 r2 => ?_) h⟩
    obtain ⟨a, b, c, ea, eb, ec, q⟩ := h
    cases ea
    cases eb
    exact hf H2 O2 v1 v2 _ _ c Q A2.has (A1.rp x2 r1) r2 ec fun v H' s rp => q v H' O2 (A2.same s) (x1.trans (x2.trans (.same s))) rp, eBin_mono ha.mono hb.mono⟩
def dCat : D → D → Option D
  | .list xs, .list ys => if xs.length + ys.length ≤ sizeLine then some (.list (xs ++ ys)) else none
  | _, _ => none
theorem cat_okN : OpN rCat dCat := fun H O x y a b c Q hO ha hb e k => by
  match a, b, ha, hb, e with
  | .list xs, .list ys, ⟨p, us, ex, hp, r⟩, ⟨q, ws, ey, hq, r2⟩, e =>
    subst ex ey
    have e : (if xs.length + ys.length ≤ sizeLine then some (PyData.list (xs ++ ys)) else none) = some c := e
    split at e
    · rename_i h
      cases e
      exact ⟨p, q, us, ws, rfl, rfl, hp, hq, by rw [r.length, r2.length]; exact h, fun p' np => k p' _ np fun O' _ w hp' => lst_own np w hp' (r.app r2)⟩
    · cases e
mutual
theorem rp_dp {K : PySem.W.Frag} {H : Hp} {O : OS} : ∀ {d : D} {v : V}, Rp H O d v → d.hasDict = false → Dp K H v d
  | .none, v, h, _ => by
    have h : v = .non := h
    rw [h]
    exact .non
  | .bool b, v, h, _ => by
    have h : v = .bl b := h
    rw [h]
    exact .bl b
  | .int i, v, h, _ => by
    have h : v = .int i := h
    rw [h]
    exact .int i
  | .str x, v, h, _ => by
    have h : v = .str x := h
    rw [h]
    exact .str x
  | .list ds, v, ⟨a, xs, e, _, r, q⟩, hc => by
    rw [e]
    exact .lst (SqL.of r) (rpL_dp q (by simpa [PyData.hasDict] using hc))
  | .tuple ds, v, ⟨a, xs, e, _, r, q⟩, hc => by
    rw [e]
    exact .tup (sqt r) (rpL_dp q (by simpa [PyData.hasDict] using hc))
  | .dict _, _, _, hc => by simp [PyData.hasDict] at hc
theorem rpL_dp {K : PySem.W.Frag} {H : Hp} {O : OS} : ∀ {ds : List D} {vs : List V}, RpL H O ds vs → PyData.hasDictAll ds = false → DpAll K H vs ds
  | [], vs, h, _ => by
    have h : vs = [] := h
    rw [h]
    exact .nil
  | d :: ds, vs, ⟨v, r, e, h, q⟩, hc => by
    have hc : d.hasDict = false ∧ PyData.hasDictAll ds = false := by simpa [PyData.hasDictAll] using hc
    rw [e]
    exact .cons (rp_dp h hc.1) (rpL_dp q hc.2)
end
theorem nb_dp {K : PySem.W.Frag} {H : Hp} {O : OS} {d : D} {v : V} (h : Nb H O d v) (hc : d.hasDict = false) : Dp K H v d := by
  match d, h with
  | .none, h =>
    have h : v = .non := h
    rw [h]
    exact .non
  | .bool b, h =>
    have h : v = .bl b := h
    rw [h]
    exact .bl b
  | .int i, h =>
    have h : v = .int i := h
    rw [h]
    exact .int i
  | .str x, h =>
    have h : v = .str x := h
    rw [h]
    exact .str x
  | .list ds, ⟨a, xs, e, r, q⟩ =>
    rw [e]
    exact .lst (SqL.of r) (rpL_dp q (by simpa [PyData.hasDict] using hc))
  | .tuple ds, ⟨a, xs, e, r, q⟩ =>
    rw [e]
    exact .tup (sqt r) (rpL_dp q (by simpa [PyData.hasDict] using hc))
  | .dict _, _ => simp [PyData.hasDict] at hc
def bothS : D → D → Bool
  | .str _, .str _ => true
  | _, _ => false
def dEq (a b : D) : Option D := if bothS a b = true ∨ (SeqAt.shaped a = true ∧ SeqAt.shaped b = true) then some (.bool (PyData.eqv a b)) else none
def dNe (a b : D) : Option D := if bothS a b = true ∨ (SeqAt.shaped a = true ∧ SeqAt.shaped b = true) then some (.bool !(PyData.eqv a b)) else none
theorem eqv_str (x y : Str) : PyData.eqv (.str x) (.str y) = decide (V.str x = V.str y) := by
  show (x == y) = _
  by_cases h : x = y
  · subst h
    rw [decide_eq_true rfl]
    exact beq_self_eq_true x
  · rw [decide_eq_false (fun z => h (V.str.inj z))]
    exact beq_eq_false_iff_ne.mpr h
theorem shaped_can {d : D} (h : SeqAt.shaped d = true) : d.hasDict = false := PyData.hasDict_of_canLay d (SeqAt.canLay_of_shaped h)
theorem eq_ok {K : PySem.W.Frag} : OpS (fun x y H Q => rEq x y H Q ∨ rEqD K x y H Q) dEq := fun H O x y a b c Q hO ha hb e k => by
  unfold dEq at e
  split at e
  · rename_i h
    cases e
    rcases h with h | h
    · match a, b, h, ha, hb, k with
      | .str i, .str j, _, ha, hb, k =>
        have ha : x = .str i := ha
        have hb : y = .str j := hb
        subst ha hb
        exact .inl ⟨rfl, k _ H (Same.refl _) (by rw [eqv_str]; rfl)⟩
    · exact .inr ⟨a, b, nb_dp ha (shaped_can h.1), nb_dp hb (shaped_can h.2), h.1, h.2, k _ H (Same.refl _) rfl⟩
  · cases e
theorem ne_ok {K : PySem.W.Frag} : OpS (fun x y H Q => rNe x y H Q ∨ rNeD K x y H Q) dNe := fun H O x y a b c Q hO ha hb e k => by
  unfold dNe at e
  split at e
  · rename_i h
    cases e
    rcases h with h | h
    · match a, b, h, ha, hb, k with
      | .str i, .str j, _, ha, hb, k =>
        have ha : x = .str i := ha
        have hb : y = .str j := hb
        subst ha hb
        exact .inl ⟨rfl, k _ H (Same.refl _) (by rw [eqv_str]; rfl)⟩
    · exact .inr ⟨a, b, nb_dp ha (shaped_can h.1), nb_dp hb (shaped_can h.2), h.1, h.2, k _ H (Same.refl _) rfl⟩
  · cases e
def reprOk (d : D) : Bool := d.showable && !d.hasDict && decide (d.shown.length ≤ sizeLine) && decide (d.depth ≤ 64)
def dAt0 : D → D → Option D
  | .list xs, .int i => atI xs i
  | .tuple xs, .int i => atI xs i
  | .str z, .int i => if z.length ≤ sizeLine then (atI z.cps.toList i).map fun c => .str ⟨#[c]⟩ else none
  | _, _ => none
theorem atI_rp {H : Hp} {O : OS} {ds : List D} {vs : List V} {i : Int} {d : D} (r : RpL H O ds vs) (h : atI ds i = some d) : ∃ v, atI vs i = some v ∧ Rp H O d v := by
  unfold atI at h ⊢
  rw [r.length]
  obtain ⟨j, h1, h2⟩ := Option.bind_eq_some_iff.mp h
  obtain ⟨v, e, h⟩ := r.at h2
  exact ⟨v, by rw [h1]; exact e, h⟩
theorem at0_ok {K : PySem.W.Frag} : OpS (rIx K) dAt0 := fun H O x y a b c Q hO ha hb e k => by
  match a, b, ha, hb, e with
  | .list xs, .int i, ⟨p, us, ex, hp, r⟩, hb, e =>
    have hb : y = .int i := hb
    subst ex hb
    obtain ⟨v, ev, rv⟩ := atI_rp r e
    exact .inl ⟨p, us, i, v, rfl, rfl, SqL.of hp, ev, k _ H (Same.refl _) rv⟩
  | .tuple xs, .int i, ⟨p, us, ex, hp, r⟩, hb, e =>
    have hb : y = .int i := hb
    subst ex hb
    obtain ⟨v, ev, rv⟩ := atI_rp r e
    exact .inr (.inl ⟨p, us, i, v, rfl, rfl, sqt hp, ev, k _ H (Same.refl _) rv⟩)
  | .str z, .int i, ha, hb, e =>
    have ha : x = .str z := ha
    have hb : y = .int i := hb
    subst ha hb
    have e : (if z.length ≤ sizeLine then (atI z.cps.toList i).map (fun c => PyData.str ⟨#[c]⟩) else none) = some c := e
    split at e
    · rename_i h
      obtain ⟨u, e1, e2⟩ := Option.map_eq_some_iff.mp e
      subst e2
      exact .inr (.inr ⟨z, i, u, rfl, rfl, h, e1, k _ H (Same.refl _) rfl⟩)
    · cases e
def cutD (xs : List D) (lo hi : Option Int) : List D := (xs.drop (HT.sIx xs.length 0 lo)).take (HT.sIx xs.length xs.length hi - HT.sIx xs.length 0 lo)
theorem RpL.drop {H : Hp} {O : OS} : ∀ {ds : List D} {vs : List V} (n : Nat), RpL H O ds vs → RpL H O (ds.drop n) (vs.drop n)
  | _, _, 0, h => h
  | [], vs, n + 1, h => by
    have h : vs = [] := h
    subst h
    exact (rfl : ([] : List V) = [])
  | d :: ds, _, n + 1, ⟨v, r, e, _, q⟩ => by
    subst e
    exact RpL.drop n q
theorem RpL.take {H : Hp} {O : OS} : ∀ {ds : List D} {vs : List V} (n : Nat), RpL H O ds vs → RpL H O (ds.take n) (vs.take n)
  | ds, vs, 0, _ => by
    rw [List.take_zero, List.take_zero]
    exact (rfl : ([] : List V) = [])
  | [], vs, n + 1, h => by
    have h : vs = [] := h
    subst h
    exact (rfl : ([] : List V) = [])
  | d :: ds, _, n + 1, ⟨v, r, e, h, q⟩ => by
    subst e
    exact ⟨v, _, rfl, h, RpL.take n q⟩
def dSl : D → Option Int → Option Int → Option D
  | .list xs, lo, hi => some (.list (cutD xs lo hi))
  | .tuple xs, lo, hi => some (.tuple (cutD xs lo hi))
  | .str z, lo, hi => if z.length ≤ sizeLine then some (.str (cutS z lo hi)) else none
  | _, _, _ => none
def dLen : List D → Option D
  | [.list xs] => some (.int xs.length)
  | [.tuple xs] => some (.int xs.length)
  | [.str z] => if z.length ≤ sizeLine then some (.int z.length) else none
  | _ => none
theorem len_ok {K : PySem.W.Frag} : CaS (fun xs H Q => ∃ x n, xs = [x] ∧ LenV K x H n ∧ Q (.int n) H) dLen := fun H O xs ds c Q hO ha e k => by
  match ds, ha, e with
  | [.list ys], ha, e =>
    obtain ⟨v, ev, p, us, ex, hp, r⟩ := nbl1 ha
    subst ex
    cases (show some (PyData.int ys.length) = some c from e)
    refine ⟨_, us.length, ev, Or.inl ⟨_, SqL.of hp, rfl⟩, k _ H (Same.refl _) ?_⟩
    rw [r.length]
    rfl
  | [.tuple ys], ha, e =>
    obtain ⟨v, ev, p, us, ex, hp, r⟩ := nbl1 ha
    subst ex
    cases (show some (PyData.int ys.length) = some c from e)
    refine ⟨_, us.length, ev, Or.inr ⟨_, sqt hp, rfl⟩, k _ H (Same.refl _) ?_⟩
    rw [r.length]
    rfl
  | [.str z], ha, e =>
    obtain ⟨v, ev, hv⟩ := nbl1 ha
    have hv : v = .str z := hv
    subst hv
    have e : (if z.length ≤ sizeLine then some (PyData.int z.length) else none) = some c := e
    split at e
    · rename_i h
      cases e
      exact ⟨_, z.length, ev, ⟨h, rfl⟩, k _ H (Same.refl _) rfl⟩
    · cases e
def dInt : List D → Option D
  | [.int i] => some (.int i)
  | [.bool b] => some (.int (if b then 1 else 0))
  | _ => none
theorem int_ok : CaS (fun xs H Q => (∃ i, xs = [.int i] ∧ Q (.int i) H) ∨ ∃ k, xs = [.bl k] ∧ Q (.int (if k then 1 else 0)) H) dInt := fun H O xs ds c Q hO ha e k => by
  match ds, ha, e with
  | [.int i], ha, e =>
    obtain ⟨v, ev, hv⟩ := nbl1 ha
    have hv : v = .int i := hv
    subst hv
    cases (show some (PyData.int i) = some c from e)
    exact .inl ⟨i, ev, k _ H (Same.refl _) rfl⟩
  | [.bool b], ha, e =>
    obtain ⟨v, ev, hv⟩ := nbl1 ha
    have hv : v = .bl b := hv
    subst hv
    cases (show some (PyData.int (if b then 1 else 0)) = some c from e)
    exact .inr ⟨b, ev, k _ H (Same.refl _) rfl⟩
def dAbs : List D → Option D
  | [.int i] => some (.int (if i < 0 then -i else i))
  | _ => none
theorem abs_ok : CaS (fun xs H Q => ∃ i, xs = [.int i] ∧ Q (.int (if i < 0 then -i else i)) H) dAbs := fun H O xs ds c Q hO ha e k => by
  match ds, ha, e with
  | [.int i], ha, e =>
    obtain ⟨v, ev, hv⟩ := nbl1 ha
    have hv : v = .int i := hv
    subst hv
    cases e
    exact ⟨i, ev, k _ H (Same.refl _) rfl⟩
def dMax2 : List D → Option D
  | [.int i, .int j] => some (.int (if j > i then j else i))
  | _ => none
def dMin2 : List D → Option D
  | [.int i, .int j] => some (.int (if j < i then j else i))
  | _ => none
/-- list(x): a new list; tuple(x): of a list -/
def dList : List D → Option D
  | [.list xs] => some (.list xs)
  | [.tuple xs] => some (.list xs)
  | [.str z] => if z.length ≤ sizeLine then some (.list (z.cps.toList.map fun c => .str ⟨#[c]⟩)) else none
  | _ => none
def dTuple : List D → Option D
  | [.list xs] => some (.tuple xs)
  | _ => none
theorem tuple_ok {K : PySem.W.Frag} : CaS (fun xs H Q => ∃ p ys, xs = [.ref p] ∧ ((SqL K H p ys ∧ ∀ l, H l = none → Q (.ref l) (upd H l (.tup ys))) ∨ (SqT K H p ys ∧ Q (.ref p) H))) dTuple := fun H O xs ds c Q hO ha e k => by
  match ds, ha, e with
  | [.list ys], ha, e =>
    obtain ⟨v, ev, p, us, ex, hp, r⟩ := nbl1 ha
    subst ex
    cases (show some (PyData.tuple ys) = some c from e)
    exact ⟨p, us, ev, .inl ⟨SqL.of hp, fun l nl => k _ _ (same_upd nl) (tup_new hO nl r)⟩⟩
def fAppend : D → List D → Option (D × D)
  | .list xs, [d] => if xs.length < sizeLine then some (.none, .list (xs ++ [d])) else none
  | _, _ => none
theorem append_ok : MuOk rAppend fAppend := fun H O a cur res new ds xs Q ow rl e k => by
  match cur, ds, ow, rl, e with
  | .list ys, [d], ⟨p, us, ep, hp, hl, r⟩, ⟨v, vr, ev, rv, er⟩, e =>
    cases ep
    have er : vr = [] := er
    subst er ev
    have e : (if ys.length < sizeLine then some (PyData.none, PyData.list (ys ++ [d])) else none) = some (res, new) := e
    split at e
    · rename_i h
      cases e
      refine ⟨a, us, v, rfl, rfl, hl, by rw [r.length]; exact h, k _ _ (fun b o n e => by rw [upd_ne n]; exact e) (by rw [upd_same]; exact fun z => nomatch z) ?_ rfl⟩
      have kO : ∀ b o, H b = some o → ¬ O b → upd H a (.lst (us ++ [v])) b = some o := fun b o e n => by rw [upd_ne (show b ≠ a from fun z => n (by rw [z]; exact hp))]; exact e
      exact ⟨a, _, rfl, hp, upd_same, RpL.snoc (Rp.ext kO (fun _ z => .inl z) rv) (RpL.ext kO (fun _ z => .inl z) r)⟩
    · cases e
def fPop : D → List D → Option (D × D)
  | .list xs, [] => (xs[xs.length - 1]?).map fun d => (d, .list xs.dropLast)
  | _, _ => none
theorem RpL.dropLast {H : Hp} {O : OS} : ∀ {ds : List D} {vs : List V}, RpL H O ds vs → RpL H O ds.dropLast vs.dropLast
  | [], vs, h => by
    have h : vs = [] := h
    subst h
    exact (rfl : ([] : List V) = [])
  | [d], _, ⟨v, r, e, _, q⟩ => by
    have q : r = [] := q
    subst e q
    exact (rfl : ([] : List V) = [])
  | d :: d2 :: ds, _, ⟨v, r, e, h, q⟩ => by
    obtain ⟨v2, r2, e2, h2, q2⟩ := q
    subst e e2
    exact ⟨v, _, rfl, h, RpL.dropLast (ds := d2 :: ds) ⟨v2, r2, rfl, h2, q2⟩⟩
def fSetL0 : D → D → D → Option D
  | .list xs, .int k, d => (ixN xs.length k).map fun j => .list (xs.set j d)
  | _, _, _ => none
theorem RpL.set {H : Hp} {O : OS} {d : D} {v : V} (h : Rp H O d v) : ∀ {ds : List D} {vs : List V} (j : Nat), RpL H O ds vs → RpL H O (ds.set j d) (vs.set j v)
  | [], vs, j, e => by
    have e : vs = [] := e
    subst e
    exact (rfl : ([] : List V) = [])
  | d' :: ds, _, 0, ⟨v', r, e, h', q⟩ => by
    subst e
    exact ⟨v, r, rfl, h, q⟩
  | d' :: ds, _, j + 1, ⟨v', r, e, h', q⟩ => by
    subst e
    exact ⟨v', _, rfl, h', RpL.set h j q⟩
theorem setL0_ok : PutOk rSetL fSetL0 := fun H O a cur k d new kv v Q ow rk rv e kk => by
  match cur, k, ow, rk, e with
  | .list ys, .int i, ⟨p, us, ep, hp, hl, r⟩, rk, e =>
    cases ep
    have rk : kv = .int i := rk
    subst rk
    obtain ⟨j, e1, e2⟩ := Option.map_eq_some_iff.mp (show (ixN ys.length i).map (fun j => PyData.list (ys.set j d)) = some new from e)
    subst e2
    have kO : ∀ b o, H b = some o → ¬ O b → upd H a (.lst (us.set j v)) b = some o := fun b o e n => by rw [upd_ne (show b ≠ a from fun z => n (by rw [z]; exact hp))]; exact e
    exact ⟨a, us, i, j, rfl, rfl, hl, by rw [r.length]; exact e1, kk _ (fun b o n e => by rw [upd_ne n]; exact e) (by rw [upd_same]; exact fun z => nomatch z) ⟨a, _, rfl, hp, upd_same, RpL.ext kO (fun _ z => .inl z) (RpL.set rv j r)⟩⟩
end DL
namespace DL
open PySem PySem.Spec L2
section
variable {X : CxD} {κ : List Kd} {a b c : Expr} {oa ob oc : Op} {pos : Pos}
def eUn (f : D → Option D) (oa : Op) : WE := fun ε Q => oEv oa ε fun x ε1 => ∃ a r, x ε1 = some a ∧ f a = some r ∧ Q r ε1
theorem eUn_mono {f : D → Option D} (m : MonoO oa) : Mono (eUn f oa) := fun ε Q Q' h q => oEv_mono m (fun x ε1 ⟨a, r, e1, e2, q⟩ => ⟨a, r, e1, e2, h _ _ q⟩) q
def UnS (r : V → Hp → VK → Prop) (f : D → Option D) : Prop := ∀ (H : Hp) (O : OS) (x : V) (a c : D) (Q : VK), Nb H O a x → f a = some c → (∀ v, Rp H O c v → Q v H) → r x H Q
theorem de_un {op : UnaryOp} {r : V → Hp → VK → Prop} {f : D → Option D} (ho : UnR X (unaryOp op) r) (hf : UnS r f) (ha : DO X κ a oa) : DE X κ (.UnaryOp op a pos) (eUn f oa) :=
  ⟨fun g hg => (pe_un ho (ha.pe g hg)).imp fun σ H Q ⟨O, ε, A, q⟩ => ⟨O, ε, A, oEv_mono ha.mono (fun x ε1 ⟨a, r, e1, e2, q⟩ v H1 O1 A1 x1 r1 => hf H1 O1 v a r Q (r1.nb A1 e1) e2 fun u rp => q u H1 O1 A1 x1 rp) q⟩, eUn_mono ha.mono⟩
def dNeg : D → Option D
  | .int i => some (.int (-i))
  | _ => none
theorem neg_ok : UnS (rU fun i => .int (-i)) dNeg := fun H O x a c Q ha e k => by
  match a, ha, e with
  | .int i, ha, e =>
    have ha : x = .int i := ha
    subst ha
    cases (show some (PyData.int (-i)) = some c from e)
    exact ⟨i, rfl, k _ rfl⟩
end
end DL
namespace DL
open PySem PySem.Spec L2
mutual
def unN : D → Option NestedKey
  | .int i => some (.num i)
  | .tuple ds => (unNs ds).map .tup
  | _ => none
def unNs : List D → Option (List NestedKey)
  | [] => some []
  | d :: ds => (unN d).bind fun k => (unNs ds).map (k :: ·)
end
mutual
theorem unN_ok : ∀ {d : D} {k : NestedKey}, unN d = some k → d = k.data ∧ nkInt k = true
  | .int i, k, h => by cases (show some (NestedKey.num i) = some k from h); exact ⟨rfl, rfl⟩
  | .tuple ds, k, h => by
    obtain ⟨ks, e, rfl⟩ := Option.map_eq_some_iff.mp (show (unNs ds).map .tup = some k from h)
    obtain ⟨h1, h2⟩ := unNs_ok e
    exact ⟨by rw [h1]; rfl, h2⟩
  | .none, _, h => nomatch h
  | .bool _, _, h => nomatch h
  | .str _, _, h => nomatch h
  | .list _, _, h => nomatch h
  | .dict _, _, h => nomatch h
theorem unNs_ok : ∀ {ds : List D} {ks : List NestedKey}, unNs ds = some ks → ds = NestedKey.datas ks ∧ nkInts ks = true
  | [], ks, h => by cases (show some ([] : List NestedKey) = some ks from h); exact ⟨rfl, rfl⟩
  | d :: ds, ks, h => by
    obtain ⟨k, e1, h⟩ := Option.bind_eq_some_iff.mp (show (unN d).bind (fun k => (unNs ds).map (k :: ·)) = some ks from h)
    obtain ⟨r, e2, rfl⟩ := Option.map_eq_some_iff.mp h
    obtain ⟨a1, a2⟩ := unN_ok e1
    obtain ⟨b1, b2⟩ := unNs_ok e2
    refine ⟨by rw [a1, b1]; rfl, ?_⟩
    show (nkInt k && nkInts r) = true
    rw [a2, b2]
    rfl
end
def keyN (d : D) : Option NestedKey := match d with
  | .tuple _ => (unN d).bind fun k => if k.depth ≤ 8 then some k else none
  | _ => none
theorem keyN_ok {d : D} {k : NestedKey} (h : keyN d = some k) : d = k.data ∧ keyT k = true ∧ ∃ ks, k = .tup ks := by
  match d, h with
  | .tuple ds, h =>
    obtain ⟨k', e, h⟩ := Option.bind_eq_some_iff.mp (show (unN (.tuple ds)).bind (fun k => if k.depth ≤ 8 then some k else none) = some k from h)
    split at h
    · rename_i hd
      cases h
      obtain ⟨h1, h2⟩ := unN_ok e
      refine ⟨h1, ?_, ?_⟩
      · unfold keyT
        rw [h2, decide_eq_true hd]
        rfl
      · obtain ⟨ks, _, e2⟩ := Option.map_eq_some_iff.mp (show (unNs ds).map .tup = some k from e)
        exact ⟨ks, e2.symm⟩
    · cases h
/-- false: ints and texts; true: tuples -/
def keyTag (d : D) : Option Bool := match d with
  | .int _ => some false
  | .str _ => some false
  | .tuple ds => (keyN (.tuple ds)).map fun _ => true
  | _ => none
def dictOk (es : List (D × D)) (k : D) : Bool := (keyTag k).isSome && es.all fun e => keyTag e.1 == keyTag k
def findD (es : List (D × D)) (k : D) : Option D := (es.find? fun e => PyData.eqv e.1 k).map (·.2)
def putD (es : List (D × D)) (k d : D) : List (D × D) := if (es.any fun e => PyData.eqv e.1 k) = true then es.map fun e => if PyData.eqv e.1 k = true then (e.1, d) else e else es ++ [(k, d)]
theorem eqv_keyD (a b : Key) : PyData.eqv (keyD a) (keyD b) = decide (a = b) := by
  match a, b with
  | .inl i, .inl j =>
    show (i == j) = _
    rw [Bool.eq_iff_iff]
    simp
  | .inr x, .inr y =>
    show (x == y) = _
    rw [Bool.eq_iff_iff]
    simp
  | .inl i, .inr y => exact (decide_eq_false (fun z => nomatch z)).symm
  | .inr x, .inl j => exact (decide_eq_false (fun z => nomatch z)).symm
mutual
theorem eqv_data : ∀ (a b : NestedKey), nkInt a = true → nkInt b = true → PyData.eqv a.data b.data = NestedKey.beq a b
  | .num i, .num j, _, _ => by
    show (i == j) = decide (i = j)
    rw [Bool.eq_iff_iff]
    simp
  | .tup as, .tup bs, h, k => eqv_datas as bs h k
  | .num _, .tup _, _, _ => rfl
  | .tup _, .num _, _, _ => rfl
  | .none, _, h, _ => nomatch h
  | .text _, _, h, _ => nomatch h
  | .num _, .none, _, h => nomatch h
  | .num _, .text _, _, h => nomatch h
  | .tup _, .none, _, h => nomatch h
  | .tup _, .text _, _, h => nomatch h
theorem eqv_datas : ∀ (as bs : List NestedKey), nkInts as = true → nkInts bs = true → PyData.eqvAll (NestedKey.datas as) (NestedKey.datas bs) = NestedKey.beqAll as bs
  | [], [], _, _ => rfl
  | [], _ :: _, _, _ => rfl
  | _ :: _, [], _, _ => rfl
  | a :: as, b :: bs, h, k => by
    have h : (nkInt a && nkInts as) = true := h
    have k : (nkInt b && nkInts bs) = true := k
    rw [Bool.and_eq_true] at h k
    show (PyData.eqv a.data b.data && PyData.eqvAll (NestedKey.datas as) (NestedKey.datas bs)) = (NestedKey.beq a b && NestedKey.beqAll as bs)
    rw [eqv_data a b h.1 k.1, eqv_datas as bs h.2 k.2]
end
theorem eqv_nk {a b : NestedKey} (h : keyT a = true) (k : keyT b = true) : PyData.eqv a.data b.data = decide (a = b) := by
  unfold keyT at h k
  rw [Bool.and_eq_true] at h k
  rw [NestedKey.decide_eq, eqv_data a b h.1 k.1]
mutual
theorem hash_nk {w : World} : ∀ (a : NestedKey), nkInt a = true → a.hash w = hkHash a
  | .num i, _ => rfl
  | .tup ks, h => by
    show reduceHash (Builtin.Tuple.tupleHashOf (NestedKey.hashes w ks)) = reduceHash (Builtin.Tuple.tupleHashOf (hkHashes ks))
    rw [hashes_nk ks h]
  | .none, h => nomatch h
  | .text _, h => nomatch h
theorem hashes_nk {w : World} : ∀ (as : List NestedKey), nkInts as = true → NestedKey.hashes w as = hkHashes as
  | [], _ => rfl
  | a :: as, h => by
    have h : (nkInt a && nkInts as) = true := h
    rw [Bool.and_eq_true] at h
    show a.hash w :: NestedKey.hashes w as = hkHash a :: hkHashes as
    rw [hash_nk a h.1, hashes_nk as h.2]
end
def findN (xs : List NEnt) (k : NestedKey) : Option V := (xs.find? fun x => decide (x.key = k)).map (·.val)
def putN (xs : List NEnt) (k : NestedKey) (p : Addr) (v : V) : List NEnt := if (xs.any fun x => decide (x.key = k)) = true then xs.map fun x => if x.key = k then { x with val := v } else x else xs ++ [⟨k, p, v⟩]
theorem findN_cons {x : NEnt} {xs : List NEnt} {k : NestedKey} : findN (x :: xs) k = if x.key = k then some x.val else findN xs k := by
  unfold findN
  rw [List.find?_cons]
  by_cases h : x.key = k
  · rw [decide_eq_true h, if_pos h]; rfl
  · rw [decide_eq_false h, if_neg h]
theorem atKey_cons {t : NestedKey × Addr × Value} {ts : List (NestedKey × Addr × Value)} {k : NestedKey} : (atKey (t :: ts) k).map (·.2) = if t.1 = k then some t.2.2 else (atKey ts k).map (·.2) := by
  unfold atKey
  rw [List.find?_cons]
  by_cases h : t.1 = k
  · rw [decide_eq_true h, if_pos h]; rfl
  · rw [decide_eq_false h, if_neg h]
theorem ents_val {xs : List NEnt} {ts : List (NestedKey × Addr × Value)} (r : Paired EntIs xs ts) (k : NestedKey) : RelO (findN xs k) ((atKey ts k).map (·.2)) := by
  induction r with
  | nil => exact True.intro
  | @cons x t xs ts h _ ih =>
    rw [findN_cons, atKey_cons, h.1]
    by_cases e : t.1 = k
    · rw [if_pos e, if_pos e]; exact h.2.2
    · rw [if_neg e, if_neg e]; exact ih
theorem ents_any {xs : List NEnt} {ts : List (NestedKey × Addr × Value)} (r : Paired EntIs xs ts) (k : NestedKey) : (xs.any fun x => decide (x.key = k)) = (atKey ts k).isSome := by
  induction r with
  | nil => rfl
  | @cons x t xs ts h _ ih =>
    have e1 : (atKey (t :: ts) k).isSome = ((atKey (t :: ts) k).map (·.2)).isSome := (Option.isSome_map).symm
    have e2 : (atKey ts k).isSome = ((atKey ts k).map (·.2)).isSome := (Option.isSome_map).symm
    rw [e1, atKey_cons, List.any_cons, ih, h.1, e2]
    by_cases e : t.1 = k
    · rw [decide_eq_true e, if_pos e]; rfl
    · rw [decide_eq_false e, if_neg e]; rfl
theorem ents_put {xs : List NEnt} {ts : List (NestedKey × Addr × Value)} (r : Paired EntIs xs ts) {k : NestedKey} {p : Addr} {v : V} {u : Value} (rv : RelV v u) : Paired EntIs (putN xs k p v) (storedH ts k p u) := by
  unfold putN storedH
  rw [ents_any r]
  by_cases q : (atKey ts k).isSome = true
  · rw [if_pos q, if_pos q]
    clear q
    induction r with
    | nil => exact .nil
    | @cons x t xs ts h _ ih =>
      refine .cons ?_ ih
      show EntIs (if x.key = k then { x with val := v } else x) (putAt k u t)
      unfold putAt
      rw [h.1]
      by_cases e : t.1 = k
      · rw [if_pos e, if_pos e]; exact ⟨rfl, h.2.1, rv⟩
      · rw [if_neg e, if_neg e]; exact h
  · rw [if_neg q, if_neg q]
    clear q
    induction r with
    | nil => exact .cons ⟨rfl, rfl, rv⟩ .nil
    | cons h _ ih => exact .cons h ih
theorem putN_len (xs : List NEnt) (k : NestedKey) (p : Addr) (v : V) : (putN xs k p v).length ≤ xs.length + 1 := by
  unfold putN
  split
  · rw [List.length_map]; omega
  · rw [List.length_append]; exact Nat.le_refl _
theorem putN_keys {xs : List NEnt} {k : NestedKey} {p : Addr} {v : V} : ∀ x ∈ putN xs k p v, x.key = k ∨ ∃ y ∈ xs, y.key = x.key := fun x hx => by
  unfold putN at hx
  split at hx
  · obtain ⟨y, hy, rfl⟩ := List.mem_map.mp hx
    refine .inr ⟨y, hy, ?_⟩
    split <;> rfl
  · rcases List.mem_append.mp hx with h | h
    · exact .inr ⟨x, h, rfl⟩
    · rw [List.mem_singleton.mp h]; exact .inl rfl
/-- no key twice -/
theorem putN_nd {xs : List NEnt} {k : NestedKey} {p : Addr} {v : V} (h : (xs.map (·.key)).Nodup) : ((putN xs k p v).map (·.key)).Nodup := by
  unfold putN
  split
  · rw [List.map_map]
    have : ((fun x : NEnt => x.key) ∘ fun x : NEnt => if x.key = k then { x with val := v } else x) = fun x => x.key := by
      funext x
      show (if x.key = k then { x with val := v } else x).key = x.key
      split <;> rfl
    rw [this]
    exact h
  · rename_i q
    rw [List.map_append, List.nodup_append]
    refine ⟨h, by simp, fun a ha b hb e => q ?_⟩
    rw [List.map_singleton, List.mem_singleton] at hb
    obtain ⟨x, hx, ex⟩ := List.mem_map.mp ha
    exact List.any_eq_true.mpr ⟨x, hx, decide_eq_true (by rw [ex, e, hb])⟩
def OF : OS := ⟨fun _ => False, fun _ => False⟩
section
variable {P : Program} {w : World} {H : Hp} {h : Heap} {O : OS}
mutual
theorem nest_of (ok : HOk P w H h) : ∀ {k : NestedKey} {v : V} {u : Value}, nkInt k = true → Rp H O k.data v → RelV v u → NestedIs h k u
  | .num i, v, u, _, r, rv => by
    have r : v = .int i := r
    subst r
    obtain ⟨t, rfl⟩ := rv
    exact .int i t
  | .tup ks, v, u, hk, ⟨a, xs, e, _, ha, r⟩, rv => by
    subst e
    have rv : u = .ref a := rv
    subst rv
    obtain ⟨_, its, rs, o, h1, h2, n, h3⟩ := (show ObjOk P w H h a (.tup xs) from (Rd.ok ha.rd ok))
    exact .tup h1 h2 h3 (by simpa using nests_of ok hk r rs)
  | .none, _, _, hk, _, _ => nomatch hk
  | .text _, _, _, hk, _, _ => nomatch hk
theorem nests_of (ok : HOk P w H h) : ∀ {ks : List NestedKey} {vs : List V} {us : List Value}, nkInts ks = true → RpL H O (NestedKey.datas ks) vs → Vals vs us → NestedAll h ks us
  | [], vs, us, _, r, rs => by
    have r : vs = [] := r
    subst r
    cases rs
    exact .nil
  | k :: ks, vs, us, hk, ⟨v, vr, e, r, q⟩, rs => by
    subst e
    have hk : (nkInt k && nkInts ks) = true := hk
    rw [Bool.and_eq_true] at hk
    cases rs with
    | cons r1 r2 => exact .cons (nest_of ok hk.1 r r1) (nests_of ok hk.2 q r2)
end
/-- a dict with tuples as keys, perhaps empty -/
def NdAt (H : Hp) (a : Addr) (xs : List NEnt) : Prop := ((xs = [] ∧ H a = some (.dK [])) ∨ H a = some (.ext (NDφ a xs))) ∧ ∀ x ∈ xs, Rp H OF x.key.data (.ref x.at_)
theorem nd_at (ok : HOk P w H h) {a : Addr} {xs : List NEnt} (g : NdAt H a xs) : xs.length ≤ sizeLine ∧ (a == sysModules) = false ∧ (∀ x ∈ xs, keyT x.key = true) ∧ (xs.map (·.key)).Nodup ∧ ∃ ts, Paired EntIs xs ts ∧ h.DictOfH (nestedKind P w) a ts := by
  obtain ⟨g, gk⟩ := g
  rcases g with ⟨rfl, e⟩ | e
  · obtain ⟨_, hd, vs, rel, o, es, ep, h1, h2, h3, h4, h5, h6⟩ := dk_of ok e
    cases rel
    refine ⟨Nat.zero_le _, hd, (fun _ hx => absurd hx List.not_mem_nil), List.nodup_nil, [], .nil, o, es, ep, h1, h2, h3, ?_, (fun _ hx => absurd hx List.not_mem_nil), List.nodup_nil⟩
    cases h5l : es.toList with
    | nil => rfl
    | cons x r => rw [h5l] at h5; cases h5
  · obtain ⟨⟨z, hd, kt, nd, ts, r, o, es, ep, h1, h2, h3, h4⟩, _⟩ := (show ObjOk P w H h a (.ext (NDφ a xs)) from ok a _ e)
    have al : ∀ {xs : List NEnt} {ts : List (NestedKey × Addr × Value)}, Paired EntIs xs ts → (∀ x ∈ xs, Rp H OF x.key.data (.ref x.at_)) → (∀ x ∈ xs, keyT x.key = true) →
        (ts.map fun t => (⟨hkHash t.1, .ref t.2.1, t.2.2⟩ : DictEntry)) = ts.map (entryOfKey (nestedKind P w)) ∧ (∀ t ∈ ts, (nestedKind P w).is h t.1 t.2.1) ∧ xs.map (·.key) = ts.map (·.1) := by
      intro xs ts r
      induction r with
      | nil => exact fun _ _ => ⟨rfl, (fun _ hx => absurd hx List.not_mem_nil), rfl⟩
      | @cons x t xs ts e _ ih =>
        intro hr hk
        obtain ⟨i1, i2, i3⟩ := ih (fun y hy => hr y (List.mem_cons_of_mem _ hy)) fun y hy => hk y (List.mem_cons_of_mem _ hy)
        have k1 := hk x List.mem_cons_self
        have k2 := k1
        unfold keyT at k2
        rw [Bool.and_eq_true, decide_eq_true_eq] at k2
        have e1 : (⟨hkHash t.1, .ref t.2.1, t.2.2⟩ : DictEntry) = entryOfKey (nestedKind P w) t := by
          unfold entryOfKey
          show (⟨hkHash t.1, .ref t.2.1, t.2.2⟩ : DictEntry) = ⟨t.1.hash w, .ref t.2.1, t.2.2⟩
          rw [← e.1, hash_nk x.key k2.1]
        refine ⟨by rw [List.map_cons, List.map_cons, i1, e1], fun y hy => ?_, by rw [List.map_cons, List.map_cons, i3, e.1]⟩
        rcases List.mem_cons.mp hy with rfl | hy
        · refine ⟨?_, by rw [← e.1]; exact k2.2⟩
          rw [← e.1, ← e.2.1]
          exact nest_of ok k2.1 (hr x List.mem_cons_self) rfl
        · exact i2 y hy
    obtain ⟨a1, a2, a3⟩ := al r gk kt
    exact ⟨z, hd, kt, nd, ts, r, o, es, ep, h1, h2, h3, by rw [h4, a1], a2, by rw [← a3]; exact nd⟩
end
/-- what the dict at a holds at y -/
def DGx (H : Hp) (a : Addr) (y : V) (o : Option V) : Prop := (∃ kvs k, H a = some (.dK kvs) ∧ y = kV k ∧ o = valV kvs k) ∨ ∃ xs k, NdAt H a xs ∧ keyT k = true ∧ (∃ ks, k = .tup ks) ∧ Rp H OF k.data y ∧ o = findN xs k
def DPx (H : Hp) (a : Addr) (y v : V) (H' : Hp) : Prop := (∃ kvs k, H a = some (.dK kvs) ∧ y = kV k ∧ kvs.length < sizeLine ∧ H' = upd H a (.dK (putK kvs k v))) ∨
  ∃ xs k p, NdAt H a xs ∧ keyT k = true ∧ y = .ref p ∧ Rp H OF k.data y ∧ xs.length < sizeLine ∧ H' = upd H a (.ext (NDφ a (putN xs k p v)))
theorem key_at {P : Program} {w : World} {H : Hp} {h : Heap} (ok : HOk P w H h) {k : NestedKey} {y : V} (hk : keyT k = true) (ht : ∃ ks, k = .tup ks) (r : Rp H OF k.data y) : ∃ b, y = .ref b ∧ (nestedKind P w).is h k b := by
  obtain ⟨ks, rfl⟩ := ht
  obtain ⟨b, xs, e, n, hb, q⟩ := r
  unfold keyT at hk
  rw [Bool.and_eq_true, decide_eq_true_eq] at hk
  exact ⟨b, e, nest_of ok (O := OF) hk.1 ⟨b, xs, rfl, n, hb, q⟩ rfl, hk.2⟩
section
variable {X : CxD} {pins : List (Addr × Obj)} {σ : L2.St} {H : Hp} {s : Shared} {a : Addr} {y v : V} {u r : Value} {o : Option V} {A : Around} {E : Value → Shared → Prop}
theorem x_get {Q : Value → Shared → Prop} (hu : A.units + 9 < cLine) (I : Inv X pins σ H s) (g : DGx H a y (some v)) (ry : RelV y u) (k : ∀ w' s', Inv X pins σ H s' → RelV v w' → Q w' s') : wpAny (model X.prog X.w) A (getItem (.ref a) u) Q E s := by
  rcases g with ⟨kvs, key, e, ey, l⟩ | ⟨xs, key, g, hk, ht, rk, l⟩
  · exact d_getItem (by omega) I (.inl ⟨kvs, key, .inl e, ey, l⟩) ry k
  · obtain ⟨_, hd, _, _, ts, rel, dd⟩ := nd_at I.hok g
    obtain ⟨b, rfl, ik⟩ := key_at I.hok hk ht rk
    have ry : u = .ref b := ry
    subst ry
    obtain ⟨w', hw, rw'⟩ := RelO.some_of (v := v) (o := (atKey ts key).map (·.2)) (by rw [l]; exact ents_val rel key)
    obtain ⟨p, hp, hp2⟩ := Option.map_eq_some_iff.mp hw
    refine wpAny_getItem_heap (knd := nestedKind X.prog X.w) (show A.in1.units + 8 < cLine from by show A.units + 1 + 8 < cLine; omega) ik dd hp ?_
    rw [hp2]
    exact k w' _ (I.tok _) rw'
theorem x_put {H' : Hp} {Q : Unit → Shared → Prop} (hu : A.units + 9 < cLine) (I : Inv X pins σ H s) (g : DPx H a y v H') (ry : RelV y u) (rv : RelV v r) (k : ∀ s', Inv X pins σ H' s' → Q () s') : wpAny (model X.prog X.w) A (setItem (.ref a) u r) Q E s := by
  rcases g with ⟨kvs, key, e, ey, l, eH⟩ | ⟨xs, key, p, g, hk, ey, rk, l, eH⟩
  · exact d_setItem (by omega) I (.inl ⟨kvs, key, e, ey, l, eH⟩) ry rv k
  · subst ey eH
    have ht : ∃ ks, key = .tup ks := by
      match key, rk with
      | .num i, rk => cases (show V.ref p = .int i from rk)
      | .none, rk => cases (show V.ref p = .non from rk)
      | .text x, rk => cases (show V.ref p = .str x from rk)
      | .tup ks, _ => exact ⟨ks, rfl⟩
    obtain ⟨hz, hd, kt, nd, ts, rel, dd⟩ := nd_at I.hok g
    obtain ⟨b, eb, ik⟩ := key_at I.hok hk ht rk
    cases eb
    have ry : u = .ref p := ry
    subst ry
    have mu : Mut (H a) := by
      rcases g.1 with ⟨_, e⟩ | e <;> (rw [e]; exact True.intro)
    refine wpAny_setItem_heap (knd := nestedKind X.prog X.w) (hsz := by rw [← Paired.length rel]; exact hz) (show A.in1.units + 8 < cLine from by show A.units + 1 + 8 < cLine; omega) ik dd fun h' dd' hs => k _ ?_
    obtain ⟨q, es, ep, hq, h2, h3, h4, _, h5⟩ := dd'
    have rel' := ents_put (k := key) (p := p) rel rv
    have kt' : ∀ x ∈ putN xs key p v, keyT x.key = true := fun x hx => by
      rcases putN_keys x hx with e | ⟨y, hy, e⟩
      · rw [e]; exact hk
      · rw [← e]; exact kt y hy
    refine d_write I mu hs ⟨q, hq⟩ ⟨⟨by have := putN_len xs key p v; omega, hd, kt', putN_nd nd, _, rel', q, es, ep, hq, h2, h3, ?_⟩, ⟨q, hq⟩, ?_⟩
    · rw [h4]
      have al : ∀ {xs : List NEnt} {ts : List (NestedKey × Addr × Value)}, Paired EntIs xs ts → (∀ x ∈ xs, keyT x.key = true) → ts.map (entryOfKey (nestedKind X.prog X.w)) = ts.map fun t => (⟨hkHash t.1, .ref t.2.1, t.2.2⟩ : DictEntry) := by
        intro xs ts r
        induction r with
        | nil => exact fun _ => rfl
        | @cons x t xs ts e _ ih =>
          intro hk
          have k2 := hk x List.mem_cons_self
          unfold keyT at k2
          rw [Bool.and_eq_true] at k2
          rw [List.map_cons, List.map_cons, ih fun y hy => hk y (List.mem_cons_of_mem _ hy)]
          congr 1
          show (⟨t.1.hash X.w, .ref t.2.1, t.2.2⟩ : DictEntry) = _
          rw [← e.1, hash_nk x.key k2.1]
      exact al rel' kt'
    · intro h1 h2' ⟨z1, z2, z3, z4, ts', z5, o1, es1, ep1, e1, c1, d1, l1⟩ kk
      exact ⟨z1, z2, z3, z4, ts', z5, o1, es1, ep1, kk _ e1, c1, d1, l1⟩
end
theorem keyTag_f {k : D} (h : keyTag k = some false) : ∃ key, k = keyD key := by
  match k, h with
  | .int i, _ => exact ⟨.inl i, rfl⟩
  | .str x, _ => exact ⟨.inr x, rfl⟩
  | .tuple ds, h =>
    obtain ⟨_, _, e⟩ := Option.map_eq_some_iff.mp (show (keyN (.tuple ds)).map (fun _ => true) = some false from h)
    cases e
theorem keyTag_t {k : D} (h : keyTag k = some true) : ∃ nk, k = nk.data ∧ keyT nk = true ∧ ∃ ks, nk = .tup ks := by
  match k, h with
  | .tuple ds, h =>
    obtain ⟨nk, e, _⟩ := Option.map_eq_some_iff.mp (show (keyN (.tuple ds)).map (fun _ => true) = some true from h)
    exact ⟨nk, keyN_ok e⟩
  | .int _, h => cases h
  | .str _, h => cases h
theorem keyTag_keyD (k : Key) : keyTag (keyD k) = some false := by cases k <;> rfl
theorem keyTag_nk {k : NestedKey} (h : ∃ ks, k = .tup ks) : keyTag k.data ≠ some false := fun z => by
  obtain ⟨ks, rfl⟩ := h
  obtain ⟨_, _, e⟩ := Option.map_eq_some_iff.mp (show (keyN (NestedKey.tup ks).data).map (fun _ => true) = some false from z)
  cases e
/-- what is found, in data and in the heap -/
def FndOk (H : Hp) (O : OS) (d : Option D) (o : Option V) : Prop := (d = none ∧ o = none) ∨ ∃ x v, d = some x ∧ o = some v ∧ Rp H O x v
theorem findD_cons {e : D × D} {es : List (D × D)} {k : D} : findD (e :: es) k = if PyData.eqv e.1 k = true then some e.2 else findD es k := by
  unfold findD
  rw [List.find?_cons]
  cases h : PyData.eqv e.1 k <;> rfl
theorem rpK_find {H : Hp} {O : OS} {k : Key} : ∀ {es : List (D × D)} {kvs : List (Key × V)}, RpK H O es kvs → FndOk H O (findD es (keyD k)) (valV kvs k)
  | [], kvs, h => by
    have h : kvs = [] := h
    subst h
    exact .inl ⟨rfl, rfl⟩
  | (k', d) :: es, _, ⟨key, v, r, e, e2, h, q⟩ => by
    subst e e2
    have ih := rpK_find (k := k) q
    rw [findD_cons, eqv_keyD]
    by_cases z : key = k
    · rw [if_pos (decide_eq_true z), valV_pos (p := (key, v)) z]
      exact .inr ⟨d, v, rfl, rfl, h⟩
    · rw [if_neg (by rw [decide_eq_false z]; decide), valV_neg (p := (key, v)) z]
      exact ih
theorem rpN_find {H : Hp} {O : OS} {k : NestedKey} (hk : keyT k = true) : ∀ {es : List (D × D)} {xs : List NEnt}, RpN H O es xs → FndOk H O (findD es k.data) (findN xs k)
  | [], xs, h => by
    have h : xs = [] := h
    subst h
    exact .inl ⟨rfl, rfl⟩
  | (k', d) :: es, _, ⟨key, p, v, r, e, e2, e3, _, h, q⟩ => by
    subst e e2
    have ih := rpN_find hk q
    rw [findD_cons, findN_cons, eqv_nk e3.1 hk]
    by_cases z : key = k
    · rw [if_pos (decide_eq_true z), if_pos z]
      exact .inr ⟨d, v, rfl, rfl, h⟩
    · rw [if_neg (by rw [decide_eq_false z]; decide), if_neg z]
      exact ih
theorem rpK_len {H : Hp} {O : OS} : ∀ {es : List (D × D)} {kvs : List (Key × V)}, RpK H O es kvs → kvs.length = es.length
  | [], kvs, h => by
    have h : kvs = [] := h
    subst h
    rfl
  | (_, _) :: es, _, ⟨key, v, r, e, _, _, q⟩ => by
    subst e
    rw [List.length_cons, List.length_cons, rpK_len q]
theorem rpN_len {H : Hp} {O : OS} : ∀ {es : List (D × D)} {xs : List NEnt}, RpN H O es xs → xs.length = es.length
  | [], xs, h => by
    have h : xs = [] := h
    subst h
    rfl
  | (_, _) :: es, _, ⟨key, p, v, r, e, _, _, _, _, q⟩ => by
    subst e
    rw [List.length_cons, List.length_cons, rpN_len q]
theorem rpN_at {H : Hp} {O : OS} : ∀ {es : List (D × D)} {xs : List NEnt}, RpN H O es xs → ∀ x ∈ xs, Rp H O x.key.data (.ref x.at_)
  | [], xs, h, x, hx => by
    have h : xs = [] := h
    subst h
    exact absurd hx List.not_mem_nil
  | (_, _) :: es, _, ⟨key, p, v, r, e, e2, _, rk, _, q⟩, x, hx => by
    subst e e2
    rcases List.mem_cons.mp hx with rfl | hx
    · exact rk
    · exact rpN_at q x hx
theorem rpK_put {H : Hp} {O : OS} {k : Key} {d : D} {v : V} (hv : Rp H O d v) {es : List (D × D)} {kvs : List (Key × V)} (r : RpK H O es kvs) : RpK H O (putD es (keyD k) d) (putK kvs k v) := by
  have any : ∀ {es : List (D × D)} {kvs : List (Key × V)}, RpK H O es kvs → (es.any fun e => PyData.eqv e.1 (keyD k)) = kvs.any fun kv => decide (kv.1 = k) := by
    intro es
    induction es with
    | nil =>
      intro kvs h
      have h : kvs = [] := h
      subst h
      rfl
    | cons e es ih =>
      intro kvs h
      obtain ⟨k', d'⟩ := e
      obtain ⟨key, v', r, e, e2, _, q⟩ := h
      subst e e2
      rw [List.any_cons, List.any_cons, ih q, eqv_keyD]
  have snoc : ∀ {es : List (D × D)} {kvs : List (Key × V)}, RpK H O es kvs → RpK H O (es ++ [(keyD k, d)]) (kvs ++ [(k, v)]) := by
    intro es
    induction es with
    | nil =>
      intro kvs h
      have h : kvs = [] := h
      subst h
      exact ⟨k, v, [], rfl, rfl, hv, rfl⟩
    | cons e es ih =>
      intro kvs h
      obtain ⟨k', d'⟩ := e
      obtain ⟨key, v', r, e, e2, h, q⟩ := h
      subst e
      exact ⟨key, v', _, rfl, e2, h, ih q⟩
  have map : ∀ {es : List (D × D)} {kvs : List (Key × V)}, RpK H O es kvs → RpK H O (es.map fun e => if PyData.eqv e.1 (keyD k) = true then (e.1, d) else e) (kvs.map fun kv => if kv.1 = k then (kv.1, v) else kv) := by
    intro es
    induction es with
    | nil =>
      intro kvs h
      have h : kvs = [] := h
      subst h
      exact (rfl : ([] : List (Key × V)) = [])
    | cons e es ih =>
      intro kvs h
      obtain ⟨k', d'⟩ := e
      obtain ⟨key, v', r, e, e2, h, q⟩ := h
      subst e e2
      rw [List.map_cons, List.map_cons, eqv_keyD]
      by_cases z : key = k
      · rw [if_pos (decide_eq_true z), if_pos z]
        exact ⟨key, v, _, rfl, rfl, hv, ih q⟩
      · rw [if_neg (by rw [decide_eq_false z]; decide), if_neg z]
        exact ⟨key, v', _, rfl, rfl, h, ih q⟩
  unfold putD putK
  rw [any r]
  split
  · exact map r
  · exact snoc r
theorem rpN_put {H : Hp} {O : OS} {k : NestedKey} (hk : keyT k = true) (ht : ∃ ks, k = .tup ks) {d : D} {v : V} {p : Addr} (hp : Rp H O k.data (.ref p)) (hv : Rp H O d v) {es : List (D × D)} {xs : List NEnt} (r : RpN H O es xs) : RpN H O (putD es k.data d) (putN xs k p v) := by
  have any : ∀ {es : List (D × D)} {xs : List NEnt}, RpN H O es xs → (es.any fun e => PyData.eqv e.1 k.data) = xs.any fun x => decide (x.key = k) := by
    intro es
    induction es with
    | nil =>
      intro kvs h
      have h : kvs = [] := h
      subst h
      rfl
    | cons e es ih =>
      intro kvs h
      obtain ⟨k', d'⟩ := e
      obtain ⟨key, p', v', r, e, e2, e3, _, _, q⟩ := h
      subst e e2
      rw [List.any_cons, List.any_cons, ih q, eqv_nk e3.1 hk]
  have snoc : ∀ {es : List (D × D)} {xs : List NEnt}, RpN H O es xs → RpN H O (es ++ [(k.data, d)]) (xs ++ [⟨k, p, v⟩]) := by
    intro es
    induction es with
    | nil =>
      intro kvs h
      have h : kvs = [] := h
      subst h
      exact ⟨k, p, v, [], rfl, rfl, ⟨hk, ht⟩, hp, hv, rfl⟩
    | cons e es ih =>
      intro kvs h
      obtain ⟨k', d'⟩ := e
      obtain ⟨key, p', v', r, e, e2, e3, rk, h, q⟩ := h
      subst e
      exact ⟨key, p', v', _, rfl, e2, e3, rk, h, ih q⟩
  have map : ∀ {es : List (D × D)} {xs : List NEnt}, RpN H O es xs → RpN H O (es.map fun e => if PyData.eqv e.1 k.data = true then (e.1, d) else e) (xs.map fun x => if x.key = k then { x with val := v } else x) := by
    intro es
    induction es with
    | nil =>
      intro kvs h
      have h : kvs = [] := h
      subst h
      exact (rfl : ([] : List NEnt) = [])
    | cons e es ih =>
      intro kvs h
      obtain ⟨k', d'⟩ := e
      obtain ⟨key, p', v', r, e, e2, e3, rk, h, q⟩ := h
      subst e e2
      have ih' := ih q
      rw [List.map_cons, List.map_cons, eqv_nk e3.1 hk]
      by_cases z : key = k
      · rw [if_pos (decide_eq_true z), if_pos z]
        exact ⟨key, p', v, _, rfl, rfl, e3, rk, hv, ih'⟩
      · rw [if_neg (by rw [decide_eq_false z]; decide), if_neg z]
        exact ⟨key, p', v', _, rfl, rfl, e3, rk, h, ih'⟩
  unfold putD putN
  rw [any r]
  split
  · exact map r
  · exact snoc r
theorem dictOk_tag {es : List (D × D)} {k : D} (h : dictOk es k = true) : (∃ b, keyTag k = some b) ∧ ∀ e ∈ es, keyTag e.1 = keyTag k := by
  unfold dictOk at h
  rw [Bool.and_eq_true, Option.isSome_iff_exists, List.all_eq_true] at h
  exact ⟨h.1, fun e he => by simpa using h.2 e he⟩
theorem nb_keyD {H : Hp} {O : OS} {k : Key} {y : V} (h : Nb H O (keyD k) y) : y = kV k := by
  cases k with
  | inl i => exact h
  | inr x => exact h
theorem rpJ_no {H : Hp} {O : OS} {a : Addr} {es : List (D × D)} {u : HO} {k : D} {b : Bool} (h : RpJ H O a es u) (tags : ∀ e ∈ es, keyTag e.1 = keyTag k) (hb : keyTag k = some b) : False := by
  match es, h with
  | (k', d) :: es, ⟨ek, _⟩ =>
    have z := tags _ List.mem_cons_self
    rw [hb] at z
    have z : keyTag k' = some b := z
    rw [ek] at z
    cases z
/-- a tuple of ints is clean, wherever it is read -/
theorem nb_of {H : Hp} {O : OS} {k : NestedKey} {y : V} (h : Nb H O k.data y) : Rp H OF k.data y := Nb.rpN (fun es e => by cases k <;> cases e) (Nb.anti (O' := OF) (fun _ z => z.elim) h) fun _ _ z => z
theorem stE_no {es : List (D × D)} {k : D} {b : Bool} (h : StE es) (tags : ∀ e ∈ es, keyTag e.1 = keyTag k) (hb : keyTag k = some b) : False := by
  obtain ⟨r, rfl⟩ := h
  have z := tags _ List.mem_cons_self
  rw [hb] at z
  cases z
theorem dgx_of {H : Hp} {O : OS} {es : List (D × D)} {k : D} {x y : V} (hx : Nb H O (.dict es) x) (hy : Nb H O k y) (ok : dictOk es k = true) : ∃ a o, x = .ref a ∧ DGx H a y o ∧ FndOk H O (findD es k) o := by
  obtain ⟨⟨b, hb⟩, tags⟩ := dictOk_tag ok
  obtain ⟨a, u, e, ha, re | qs⟩ := hx
  rotate_left
  · exact (stE_no qs tags hb).elim
  cases b with
  | false =>
    obtain ⟨key, rfl⟩ := keyTag_f hb
    rcases re with ⟨kvs, rfl, q⟩ | ⟨xs, rfl, ne, q⟩ | qj
    · exact ⟨a, _, e, .inl ⟨kvs, key, ha, nb_keyD hy, rfl⟩, rpK_find q⟩
    · match es, xs, ne, q with
      | [], _, ne, q => exact absurd (show _ = [] from q) ne
      | (k', d) :: es, _, _, ⟨key', p, v, r', _, ek, et, _⟩ =>
        have z := tags _ List.mem_cons_self
        rw [hb] at z
        exact absurd (by rw [← ek]; exact z) (keyTag_nk et.2)
    · exact (rpJ_no qj tags hb).elim
  | true =>
    obtain ⟨nk, rfl, kk, ht⟩ := keyTag_t hb
    rcases re with ⟨kvs, rfl, q⟩ | ⟨xs, rfl, ne, q⟩ | qj
    · have he : es = [] ∧ kvs = [] := by
        match es, q with
        | [], q => exact ⟨rfl, q⟩
        | (k', d) :: es, ⟨key', v, r', _, ek, _⟩ =>
          have z := tags _ List.mem_cons_self
          rw [hb] at z
          have z : keyTag k' = some true := z
          rw [ek, keyTag_keyD] at z
          cases z
      obtain ⟨rfl, rfl⟩ := he
      exact ⟨a, none, e, .inr ⟨[], nk, ⟨.inl ⟨rfl, ha⟩, fun _ hx => absurd hx List.not_mem_nil⟩, kk, ht, nb_of hy, rfl⟩, .inl ⟨rfl, rfl⟩⟩
    · exact ⟨a, _, e, .inr ⟨xs, nk, ⟨.inr ha, fun x hx => Rp.anti (O' := OF) (fun _ z => z.elim) (rpN_at q x hx)⟩, kk, ht, nb_of hy, rfl⟩, rpN_find kk q⟩
    · exact (rpJ_no qj tags hb).elim
/-- a store into an own dict -/
theorem dpx_of {H : Hp} {O : OS} {es : List (D × D)} {k d : D} {a : Addr} {y v : V} (hx : Ow H O (.dict es) (.ref a)) (hy : Rp H O k y) (hv : Rp H O d v) (ok : dictOk es k = true) (hl : es.length < sizeLine) :
    ∃ u, DPx H a y v (upd H a u) ∧ Ow (upd H a u) O (.dict (putD es k d)) (.ref a) := by
  obtain ⟨⟨b, hb⟩, tags⟩ := dictOk_tag ok
  obtain ⟨a', u, e, oa, ha, re⟩ := hx
  cases e
  have kO : ∀ (u : HO) (b : Addr) (o : HO), H b = some o → ¬ O b → upd H a u b = some o := fun u b o e n => by rw [upd_ne (fun z => n (by rw [z]; exact oa))]; exact e
  cases b with
  | false =>
    obtain ⟨key, rfl⟩ := keyTag_f hb
    rcases re with ⟨kvs, rfl, q⟩ | ⟨xs, rfl, ne, q⟩ | qj
    · refine ⟨.dK (putK kvs key v), .inl ⟨kvs, key, ha, nb_keyD hy.nb, by rw [rpK_len q]; exact hl, rfl⟩, a, _, rfl, oa, upd_same, .inl ⟨_, rfl, ?_⟩⟩
      exact RpK.ext (kO _) (fun _ z => .inl z) (rpK_put hv q)
    · match es, xs, ne, q with
      | [], _, ne, q => exact absurd (show _ = [] from q) ne
      | (k', d) :: es, _, _, ⟨key', p, v, r', _, ek, et, _⟩ =>
        have z := tags _ List.mem_cons_self
        rw [hb] at z
        exact absurd (by rw [← ek]; exact z) (keyTag_nk et.2)
    · exact (rpJ_no qj tags hb).elim
  | true =>
    obtain ⟨nk, rfl, kk, ht⟩ := keyTag_t hb
    obtain ⟨p, rfl⟩ : ∃ p, y = .ref p := by
      obtain ⟨ks, rfl⟩ := ht
      obtain ⟨p, _, e, _⟩ := hy
      exact ⟨p, e⟩
    rcases re with ⟨kvs, rfl, q⟩ | ⟨xs, rfl, ne, q⟩ | qj
    · have he : es = [] ∧ kvs = [] := by
        match es, q with
        | [], q => exact ⟨rfl, q⟩
        | (k', d) :: es, ⟨key', v, r', _, ek, _⟩ =>
          have z := tags _ List.mem_cons_self
          rw [hb] at z
          have z : keyTag k' = some true := z
          rw [ek, keyTag_keyD] at z
          cases z
      obtain ⟨rfl, rfl⟩ := he
      refine ⟨.ext (NDφ a (putN [] nk p v)), .inr ⟨[], nk, p, ⟨.inl ⟨rfl, ha⟩, fun _ hx => absurd hx List.not_mem_nil⟩, kk, rfl, nb_of hy.nb, hl, rfl⟩, a, _, rfl, oa, upd_same, .inr (.inl ⟨_, rfl, (fun z => nomatch z), ?_⟩)⟩
      exact RpN.ext (kO _) (fun _ z => .inl z) (rpN_put kk ht hy hv (es := []) (xs := []) rfl)
    · refine ⟨.ext (NDφ a (putN xs nk p v)), .inr ⟨xs, nk, p, ⟨.inr ha, fun x hx => Rp.anti (O' := OF) (fun _ z => z.elim) (rpN_at q x hx)⟩, kk, rfl, nb_of hy.nb, by rw [rpN_len q]; exact hl, rfl⟩, a, _, rfl, oa, upd_same, .inr (.inl ⟨_, rfl, ?_, ?_⟩)⟩
      · intro z
        unfold putN at z
        split at z
        · exact ne (List.map_eq_nil_iff.mp z)
        · simp at z
      · exact RpN.ext (kO _) (fun _ z => .inl z) (rpN_put kk ht hy hv q)
    · exact (rpJ_no qj tags hb).elim
def rIxX : R2 := fun x y H Q => ∃ a v, x = .ref a ∧ DGx H a y (some v) ∧ Q v H
def rSetX : TSet := fun x y v H Q => ∃ a H', x = .ref a ∧ DPx H a y v H' ∧ Q H'
section
variable {X : CxD}
theorem dgx_ty {pins : List (Addr × Obj)} {σ : L2.St} {H : Hp} {s : Shared} {a : Addr} {y : V} {o : Option V} (I : Inv X pins σ H s) (g : DGx H a y o) : s.TypeIs (.ref a) "dict" := by
  rcases g with ⟨kvs, key, e, _⟩ | ⟨xs, key, g, _⟩
  · obtain ⟨_, _, vs, _, dd⟩ := dk_of I.hok e
    exact dd.typeIs
  · obtain ⟨_, _, _, _, ts, _, dd⟩ := nd_at I.hok g
    exact dd.typeIs
theorem ix_X (hu : X.A.units + 65 < cLine) : IxR X rIxX := by
  intro value slice pins s σ H x y v u Q I rx ry h hs
  obtain ⟨a, w, ex, g, q⟩ := h
  subst ex
  have rx : v = .ref a := rx
  subst rx
  exact PyProof.Rows.tail_any (dgx_ty I g) PySem.F.slot_dict_getitem.lookup (x_get (by omega) I g ry fun w' s' I' rw' => ⟨w, H, I', rw', q⟩) hs
theorem set_X (hu : X.A.units + 65 < cLine) : PSet X rSetX := by
  intro pins s σ H o i v ov iv u Q I ro ri rv h
  obtain ⟨a, H', eo, g, q⟩ := h
  subst eo
  have ro : ov = .ref a := ro
  subst ro
  exact x_put (by omega) I g ri rv fun s' I' => ⟨H', I', q⟩
end
def dAt (x k : D) : Option D := match x with
  | .dict es => if dictOk es k = true then findD es k else none
  | x => dAt0 x k
def rAt (K : PySem.W.Frag) : R2 := fun x y H Q => rIx K x y H Q ∨ rIxX x y H Q
theorem ix_all {X : CxD} (hu : X.A.units + 65 < cLine) : IxR X (rAt X.K) := ix_seq.or (ix_X hu)
theorem at_ok {K : PySem.W.Frag} : OpS (rAt K) dAt := fun H O x y a b c Q hO ha hb e k => by
  match a, ha, e with
  | .dict es, ha, e =>
    have e : (if dictOk es b = true then findD es b else none) = some c := e
    split at e
    · rename_i h
      obtain ⟨p, o, ex, g, f⟩ := dgx_of ha hb h
      rcases f with ⟨f, _⟩ | ⟨d, v, f1, f2, rv⟩
      · rw [f] at e; cases e
      · rw [e] at f1
        cases f1
        subst f2
        exact .inr ⟨p, v, ex, g, k v H (Same.refl _) rv⟩
    · cases e
  | .none, ha, e => exact .inl (at0_ok H O x y .none b c Q hO ha hb e k)
  | .bool z, ha, e => exact .inl (at0_ok H O x y (.bool z) b c Q hO ha hb e k)
  | .int i, ha, e => exact .inl (at0_ok H O x y (.int i) b c Q hO ha hb e k)
  | .str z, ha, e => exact .inl (at0_ok H O x y (.str z) b c Q hO ha hb e k)
  | .list xs, ha, e => exact .inl (at0_ok H O x y (.list xs) b c Q hO ha hb e k)
  | .tuple xs, ha, e => exact .inl (at0_ok H O x y (.tuple xs) b c Q hO ha hb e k)
def fSetL (x k d : D) : Option D := match x with
  | .dict es => if dictOk es k = true ∧ es.length < sizeLine then some (.dict (putD es k d)) else none
  | x => fSetL0 x k d
def rSetA : TSet := fun x y v H Q => rSetL x y v H Q ∨ rSetX x y v H Q
theorem set_all {X : CxD} (hu : X.A.units + 65 < cLine) : PSet X rSetA := by
  intro pins s σ H o i v ov iv u Q I ro ri rv h
  rcases h with h | h
  · exact set_list pins s σ H o i v ov iv u Q I ro ri rv h
  · exact set_X hu pins s σ H o i v ov iv u Q I ro ri rv h
theorem setL_ok : PutOk rSetA fSetL := fun H O a cur k d new kv v Q ow rk rv e kk => by
  match cur, ow, e with
  | .dict es, ow, e =>
    have e : (if dictOk es k = true ∧ es.length < sizeLine then some (PyData.dict (putD es k d)) else none) = some new := e
    split at e
    · rename_i h
      cases e
      obtain ⟨u, g, ow'⟩ := dpx_of ow rk rv h.1 h.2
      exact .inr ⟨a, _, rfl, g, kk _ (fun b o n e => by rw [upd_ne n]; exact e) (by rw [upd_same]; exact fun z => nomatch z) ow'⟩
    · cases e
  | .none, ow, e => exact ow.elim
  | .bool z, ow, e => exact ow.elim
  | .int i, ow, e => exact ow.elim
  | .str z, ow, e => exact ow.elim
  | .tuple xs, ow, e => exact ow.elim
  | .list xs, ow, e => exact .inl (setL0_ok H O a (.list xs) k d new kv v Q ow rk rv e kk)
end DL
namespace DL
open PySem PySem.Spec L2
theorem hu65 {k : Nat} {A : Around} (r : Room k A) : A.units + 65 < cLine := by have := r.un; omega
def inD (neg : Bool) (a : D) (ds : List D) : Option D := if SeqAt.shaped a = true ∧ PyData.canLayAll0 ds = true then some (.bool (if neg then !ds.any fun z => PyData.eqv z a else ds.any fun z => PyData.eqv z a)) else none
def dInG (neg : Bool) (a b : D) : Option D := match b with
  | .dict es => if dictOk es a = true then some (.bool (if neg = true then !(findD es a).isSome else (findD es a).isSome)) else none
  | .list ds => inD neg a ds
  | .tuple ds => inD neg a ds
  | .str y => match a with
    | .str x => some (.bool (if neg = true then !(!(Builtin.Str.occurrences y x 0 y.length 1).isEmpty) else !(Builtin.Str.occurrences y x 0 y.length 1).isEmpty))
    | _ => none
  | _ => none
def dIn := dInG false
def dNotIn := dInG true
def isNone : D → Bool
  | .none => true
  | _ => false
theorem RpL.append {H : Hp} {O : OS} : ∀ {ds es : List D} {vs us : List V}, RpL H O ds vs → RpL H O es us → RpL H O (ds ++ es) (vs ++ us)
  | [], _, vs, _, h, k => by
    have h : vs = [] := h
    subst h
    exact k
  | d :: ds, _, _, _, ⟨v, r, e, h, q⟩, k => by
    subst e
    exact ⟨v, _, rfl, h, RpL.append q k⟩
end DL
namespace DL
open PySem PySem.Spec L2
end DL
namespace DL
open PySem PySem.Spec L2
def tyD : D → String
  | .none => "NoneType"
  | .bool _ => "bool"
  | .int _ => "int"
  | .str _ => "str"
  | .list _ => "list"
  | .tuple _ => "tuple"
  | .dict _ => "dict"
/-- no dict whose keys are tuples -/
def plainK : D × D → Bool
  | (.int _, _) => true
  | (.str _, _) => true
  | _ => false
def flatD : D → Bool
  | .dict es => es.all plainK
  | _ => true
def dIsi (T : String) (d : D) : Option D := if flatD d = true then (kitB (tyD d) T).map .bool else none
end DL
namespace DL
open PySem PySem.Spec L2
end DL
namespace DL
open PySem PySem.Spec L2
def tup1 : D → Bool
  | .tuple (_ :: _) => true
  | _ => false
def noTup : D → Bool
  | .tuple _ => false
  | .none => false
  | _ => true
def sortB (ds : List D) : Bool := (ds.all fun a => ds.all fun b => PySem.W.alike a b) && (ds.all tup1 || ds.all noTup) && (ds.all fun d => decide (d.depth ≤ 64) && !d.hasDict)
/-- Python's order of data that are alike -/
def leD (a b : D) : Bool := PySem.W.dataLe false (fun d : D => d) a b
def sortD (ds : List D) : List D := ds.mergeSort leD
def dSorted0 : List D → Option D
  | [.list ds] => if sortB ds = true then some (.list (sortD ds)) else none
  | _ => none
theorem RpL.zip {H : Hp} {O : OS} : ∀ {ds : List D} {vs : List V}, RpL H O ds vs → (∀ b ∈ vs.zip ds, Rp H O b.2 b.1) ∧ (vs.zip ds).map (·.2) = ds
  | [], _, h => by
    have h : _ = [] := h
    subst h
    exact ⟨fun b hb => absurd hb List.not_mem_nil, rfl⟩
  | d :: ds, _, ⟨v, r, e, h, q⟩ => by
    subst e
    obtain ⟨a, b⟩ := RpL.zip q
    refine ⟨fun x hx => ?_, by rw [List.zip_cons_cons, List.map_cons, b]⟩
    rw [List.zip_cons_cons] at hx
    rcases List.mem_cons.mp hx with rfl | hx
    · exact h
    · exact a x hx
end DL
namespace DL
open PySem PySem.Spec L2
def dSorted : List D → Option D
  | [.dict es] => if sortB (es.map (·.1)) = true then some (.list (sortD (es.map (·.1)))) else none
  | ds => dSorted0 ds
end DL
namespace DL
open PySem PySem.Spec L2
def intsOf : List D → Option (List Int)
  | [] => some []
  | .int z :: ds => (intsOf ds).map (z :: ·)
  | _ :: _ => none
end DL
namespace DL
open PySem PySem.Spec L2
def W_law_draw : WS := (sSeq (sPut 0 fSetL (eBin dAdd (.ex (eBin dAt (.nm 0) (.ex (eC (.int 3))))) (.ex (eC (.int 1)))) (eC (.int 3)))
  (sSeq (sIf (tE (eBin dGt (.ex (eBin dAt (.nm 0) (.ex (eC (.int 2))))) (.ex (eC (.int 0))))) (sSeq (sSet 2 (eBin dMod (.ex (eApp dInt [(.ex (eBin dAt (.nm 0) (.ex (eC (.int 2)))))])) (.nm 1)))
  (sSeq (sPut 0 fSetL (eBin dFdiv (.ex (eBin dAt (.nm 0) (.ex (eC (.int 2))))) (.nm 1)) (eC (.int 2)))
  (sRet (eNm 2)))) sNil)
  (sSeq (sSet 3 (eC (.int 83)))
  (sSeq (sIf (tE (eBin dNe (.ex (eBin dAt (.nm 0) (.ex (eC (.int 0))))) (.ex (eLst [])))) (sSet 3 (eBin dAt (.ex (eBin dAt (.nm 0) (.ex (eC (.int 0))))) (.ex (eBin dMod (.ex (eApp dInt [(.ex (eBin dAt (.nm 0) (.ex (eC (.int 1)))))])) (.ex (eApp dLen [(.ex (eBin dAt (.nm 0) (.ex (eC (.int 0)))))])))))) sNil)
  (sSeq (sPut 0 fSetL (eBin dAdd (.ex (eBin dAt (.nm 0) (.ex (eC (.int 1))))) (.ex (eC (.int 1)))) (eC (.int 1)))
  (sSeq (sIf (tAndW (tE (eBin dGe (.ex (eApp dAbs [(.nm 3)])) (.ex (eBin dPow (.ex (eC (.int 10))) (.ex (eC (.int 18))))))) (tE (eBin dLe (.ex (eBin dAt (.nm 0) (.ex (eC (.int 1))))) (.ex (eApp dLen [(.ex (eBin dAt (.nm 0) (.ex (eC (.int 0)))))]))))) (sSeq (sPut 0 fSetL (eBin dFdiv (.ex (eApp dAbs [(.nm 3)])) (.nm 1)) (eC (.int 2)))
  (sRet (eBin dMod (.ex (eApp dInt [(.ex (eApp dAbs [(.nm 3)]))])) (.nm 1)))) sNil)
  (sSeq (sSet 4 (eBin dMod (.ex (eBin dPow (.ex (eApp dInt [(.ex (eBin dAdd (.ex (eBin dMod (.ex (eApp dInt [(.nm 3)])) (.ex (eC (.int 2147483563))))) (.ex (eBin dMul (.ex (eC (.int 77232917))) (.ex (eBin dAt (.nm 0) (.ex (eC (.int 3)))))))))])) (.ex (eC (.int 5))))) (.ex (eC (.int 2147483399)))))
  (sSeq (sSet 4 (eBin dMod (.ex (eBin dPow (.ex (eApp dInt [(.ex (eBin dAdd (.ex (eBin dMul (.nm 4) (.ex (eBin dAdd (.ex (eBin dMul (.ex (eC (.int 2))) (.ex (eBin dAt (.nm 0) (.ex (eC (.int 3))))))) (.ex (eC (.int 7))))))) (.ex (eC (.int 6449)))))])) (.ex (eC (.int 3))))) (.ex (eC (.int 2147483647)))))
  (sRet (eBin dMod (.ex (eBin dFdiv (.nm 4) (.ex (eC (.int 32))))) (.nm 1)))))))))))
theorem atI_nat {α : Type} {xs : List α} {i : Int} (h : 0 ≤ i) (h2 : i < xs.length) : atI xs i = xs[i.toNat]? := by
  unfold atI ixN
  rw [if_pos h, if_pos h2]
  rfl
theorem atI_0 {α : Type} {x : α} {xs : List α} : atI (x :: xs) 0 = some x := by
  rw [atI_nat (by decide) (by simp only [List.length_cons]; omega)]
  rfl
theorem atI_1 {α : Type} {x y : α} {xs : List α} : atI (x :: y :: xs) 1 = some y := by
  rw [atI_nat (by decide) (by simp only [List.length_cons]; omega)]
  rfl
theorem atI_2 {α : Type} {x y z : α} {xs : List α} : atI (x :: y :: z :: xs) 2 = some z := by
  rw [atI_nat (by decide) (by simp only [List.length_cons]; omega)]
  rfl
theorem atI_3 {α : Type} {x y z u : α} {xs : List α} : atI (x :: y :: z :: u :: xs) 3 = some u := by
  rw [atI_nat (by decide) (by simp only [List.length_cons]; omega)]
  rfl
theorem dMul_i {i j : Int} (h : (smallI i || smallI j) = true) : dMul (.int i) (.int j) = some (.int (i * j)) := if_pos h
theorem dFdiv_i {i j : Int} (h : 0 < j) (h2 : j < 1073741824) : dFdiv (.int i) (.int j) = some (.int (i / j)) := if_pos (by simp [h, h2])
theorem dMod_i {i j : Int} (h : 0 < j) : dMod (.int i) (.int j) = some (.int (i % j)) := if_pos (by simp [h])
theorem dPow_i {i j : Int} (h : 0 ≤ j) (h2 : j ≤ 1000000) (h3 : i.natAbs < 2 ^ 64) : dPow (.int i) (.int j) = some (.int (i ^ j.toNat)) := if_pos (by simp only [decide_eq_true h, decide_eq_true h2, decide_eq_true h3, Bool.and_self])
theorem fSetL_0 {x d : D} {xs : List D} : fSetL (.list (x :: xs)) (.int 0) d = some (.list (d :: xs)) := by
  show (ixN (x :: xs).length 0).map _ = _
  unfold ixN
  rw [if_pos (by decide), if_pos (by simp only [List.length_cons]; omega)]
  rfl
theorem fSetL_1 {x y d : D} {xs : List D} : fSetL (.list (x :: y :: xs)) (.int 1) d = some (.list (x :: d :: xs)) := by
  show (ixN (x :: y :: xs).length 1).map _ = _
  unfold ixN
  rw [if_pos (by decide), if_pos (by simp only [List.length_cons]; omega)]
  rfl
theorem fSetL_2 {x y z d : D} {xs : List D} : fSetL (.list (x :: y :: z :: xs)) (.int 2) d = some (.list (x :: y :: d :: xs)) := by
  show (ixN (x :: y :: z :: xs).length 2).map _ = _
  unfold ixN
  rw [if_pos (by decide), if_pos (by simp only [List.length_cons]; omega)]
  rfl
theorem fSetL_3 {x y z u d : D} {xs : List D} : fSetL (.list (x :: y :: z :: u :: xs)) (.int 3) d = some (.list (x :: y :: z :: d :: xs)) := by
  show (ixN (x :: y :: z :: u :: xs).length 3).map _ = _
  unfold ixN
  rw [if_pos (by decide), if_pos (by simp only [List.length_cons]; omega)]
  rfl
def valsF (ε : En) : List (En → Option D) → Option (List D)
  | [] => some []
  | x :: xs => (x ε).bind fun d => (valsF ε xs).map (d :: ·)
theorem valsF_iff {ε : En} : ∀ {xs : List (En → Option D)} {ds : List D}, vals ε xs ds ↔ valsF ε xs = some ds
  | [], ds => ⟨fun h => by cases (show ds = [] from h); rfl, fun h => by cases (show some [] = some ds from h); exact (rfl : ([] : List D) = [])⟩
  | x :: xs, ds => by
    constructor
    · rintro ⟨d, r, rfl, e, h⟩
      show (x ε).bind _ = _
      rw [e, Option.bind_some, valsF_iff.mp h]
      rfl
    · intro h
      obtain ⟨d, e, h⟩ := Option.bind_eq_some_iff.mp (show (x ε).bind (fun d => (valsF ε xs).map (d :: ·)) = some ds from h)
      obtain ⟨r, e2, h⟩ := Option.map_eq_some_iff.mp h
      exact ⟨d, r, h.symm, e, valsF_iff.mpr e2⟩
/-- a deck as it stands after at most m draws -/
def dkD (ns : List Int) (i l c : Int) : D := .list [.list (ns.map PyData.int), .int i, .int l, .int c]
theorem canAll {xs : List D} (h : ∀ x ∈ xs, PyData.canLay0 x = true) : PyData.canLayAll0 xs = true := by
  induction xs with
  | nil => rfl
  | cons a as ih =>
    show (PyData.canLay0 a && PyData.canLayAll0 as) = true
    rw [h a List.mem_cons_self, ih fun x hx => h x (List.mem_cons_of_mem _ hx)]
    rfl
theorem depAll {xs : List D} {n : Nat} (h : ∀ x ∈ xs, PyData.depth x ≤ n) : PyData.depthAll xs ≤ n := by
  induction xs with
  | nil => exact Nat.zero_le _
  | cons a as ih => exact Nat.max_le.mpr ⟨h a List.mem_cons_self, ih fun x hx => h x (List.mem_cons_of_mem _ hx)⟩
/-- d may be compared, and stands at most n deep -/
def Sh (n : Nat) (d : D) : Prop := PyData.canLay0 d = true ∧ PyData.depth d ≤ n
theorem Sh.int {n : Nat} {i : Int} : Sh n (.int i) := ⟨rfl, Nat.zero_le _⟩
theorem Sh.bool {n : Nat} {i : Bool} : Sh n (.bool i) := ⟨rfl, Nat.zero_le _⟩
theorem Sh.none {n : Nat} : Sh n .none := ⟨rfl, Nat.zero_le _⟩
theorem Sh.str {n : Nat} {z : Str} (h : PyData.canLay0 (.str z) = true) : Sh n (.str z) := ⟨h, Nat.zero_le _⟩
theorem Sh.list {n : Nat} {xs : List D} (h : ∀ x ∈ xs, Sh n x) : Sh (n + 1) (.list xs) := ⟨canAll fun x hx => (h x hx).1, Nat.succ_le_succ (depAll fun x hx => (h x hx).2)⟩
theorem Sh.tuple {n : Nat} {xs : List D} (h : ∀ x ∈ xs, Sh n x) : Sh (n + 1) (.tuple xs) := ⟨canAll fun x hx => (h x hx).1, Nat.succ_le_succ (depAll fun x hx => (h x hx).2)⟩
theorem Sh.le {m n : Nat} {d : D} (h : Sh m d) (l : m ≤ n) : Sh n d := ⟨h.1, Nat.le_trans h.2 l⟩
theorem Sh.ok {n : Nat} {d : D} (h : Sh n d) (l : n ≤ 64 := by decide) : SeqAt.shaped d = true := by
  unfold SeqAt.shaped
  rw [h.1, decide_eq_true (Nat.le_trans h.2 l)]
  rfl
theorem Sh.ints {n : Nat} {ns : List Int} : Sh (n + 1) (.list (ns.map PyData.int)) := Sh.list fun x hx => by
  obtain ⟨i, _, rfl⟩ := List.mem_map.mp hx
  exact Sh.int
theorem dEq_sh {m n : Nat} {a b : D} (ha : Sh m a) (hb : Sh n b) (hm : m ≤ 64 := by decide) (hn : n ≤ 64 := by decide) : dEq a b = some (.bool (PyData.eqv a b)) := if_pos (.inr ⟨ha.ok hm, hb.ok hn⟩)
theorem dEq_str {x y : Str} : dEq (.str x) (.str y) = some (.bool (PyData.eqv (.str x) (.str y))) := if_pos (.inl rfl)
theorem dNe_str {x y : Str} : dNe (.str x) (.str y) = some (.bool !(PyData.eqv (.str x) (.str y))) := if_pos (.inl rfl)
theorem dNe_sh {m n : Nat} {a b : D} (ha : Sh m a) (hb : Sh n b) (hm : m ≤ 64 := by decide) (hn : n ≤ 64 := by decide) : dNe a b = some (.bool !(PyData.eqv a b)) := if_pos (.inr ⟨ha.ok hm, hb.ok hn⟩)
theorem ne_nil (ns : List Int) : dNe (.list (ns.map PyData.int)) (.list []) = some (.bool !ns.isEmpty) := by
  rw [dNe_sh (m := 1) (n := 1) Sh.ints (Sh.list fun x hx => absurd hx List.not_mem_nil)]
  cases ns <;> rfl
end DL
namespace DL
open PySem PySem.Spec L2
def DkH (H H' : Hp) (p : Addr) : Prop := ∃ (q : Addr) (ns : List Int), H p = none ∧ H q = none ∧ p ≠ q ∧ H' p = some (.lst [.ref q, .int 0, .int 0, .int 0]) ∧ H' q = some (.lst (ns.map V.int)) ∧ ns.length ≤ 63 ∧ Same H H'
def spDeck (K : PySem.W.Frag) : Sp := fun vs H Q _ => ∃ (a : Addr) (ns : List Int), vs = [.ref a] ∧ SqL K H a (ns.map V.int) ∧ ns.length ≤ 63 ∧ ∀ p H', DkH H H' p → Q (.ref p) H'
def spLawG (K : PySem.W.Frag) : Sp := fun vs H Q _ => ∃ (a : Addr) (ns : List Int), vs = [.ref a] ∧ SqL K H a (ns.map V.int) ∧ ns.length ≤ 63 ∧ ∀ H', Q (.bl true) H'
def rLof (K : PySem.W.Frag) : List V → Hp → VK → Prop := fun xs H Q => ∃ p ys, xs = [.ref p] ∧ (SqL K H p ys ∨ SqT K H p ys) ∧ ∀ l, H l = none → Q (.ref l) (upd H l (.lst ys))
def tDeck (K : PySem.W.Frag) : TS := tRet (tLst (tCons (tCB (rLof K) (tCons (tSl (rSlL K) (tVar 0) tNoPart (tPart (tC (.int 63)))) tNil)) (tCons (tC (.int 0)) (tCons (tC (.int 0)) (tCons (tC (.int 0)) tNil)))))
theorem cut_ints (ns : List Int) (lo hi : Option Int) : ∃ ms : List Int, cutV (ns.map V.int) lo hi = ms.map V.int ∧ ms.length ≤ ns.length := by
  unfold cutV
  refine ⟨(ns.drop (HT.sIx (ns.map V.int).length 0 lo)).take (HT.sIx (ns.map V.int).length (ns.map V.int).length hi - HT.sIx (ns.map V.int).length 0 lo), by rw [List.map_take, List.map_drop], ?_⟩
  rw [List.length_take, List.length_drop]
  omega
section
variable {P : Program} {w : World} {K : PySem.W.Frag} {mg : Str → Option Value} {base : Heap}
theorem ok_deck {x : Str} {st : Stmt} {f : Addr} {fd : FuncData} (F : Fun K x x st f fd) (S : FnScope ["_law_script"] ["_law_script"] (defScope st))
    (hb : ∀ (cdv : Value) (A : Around) (outer : List Env) (s : Shared) (H : Hp) (E : XK), PSs (cxOf CX0 P w K mg base ["_law_script"] x (defScope st) f cdv A outer s H E) (defBody st) (tDeck K)) : FnG P w K mg base CX0 1 f fd ["_law_script"] (spDeck K) := by
  refine fn_g F S (fun vs H Q E h => ?_) (fun cdv A outer s H vs Q E hr hgd h => ?_)
  · obtain ⟨a, ns, rfl, _⟩ := h
    rfl
  · obtain ⟨a, ns, rfl, hS, hl, k⟩ := h
    refine ⟨_, hb cdv A outer s H E, ?_⟩
    obtain ⟨ms, e, l⟩ := cut_ints ns none (some 63)
    refine ⟨.ref a, rfl, 63, rfl, a, _, rfl, hS, fun r hr => ?_⟩
    refine ⟨r, _, rfl, .inl (SqL.of upd_same), fun q hq => ⟨show 4 ≤ sizeLine by decide, fun p hp => ?_⟩⟩
    rw [e] at hq hp ⊢
    have rq : r ≠ q := fun z => by rw [z, upd_same] at hq; cases hq
    have hq0 : H q = none := by rw [upd_ne rq.symm] at hq; exact hq
    have pq : p ≠ q := fun z => by rw [z, upd_same] at hp; cases hp
    have hp1 : upd H r (.lst (ms.map V.int)) p = none := by rw [upd_ne pq] at hp; exact hp
    have pr : p ≠ r := fun z => by rw [z, upd_same] at hp1; cases hp1
    have hp0 : H p = none := by rw [upd_ne pr] at hp1; exact hp1
    refine k p _ ⟨q, ms, hp0, hq0, pq, upd_same, by rw [upd_ne pq.symm, upd_same], by omega, fun b o eb => ?_⟩
    rw [upd_ne (ne_of_none eb hp0), upd_ne (ne_of_none eb hq0), upd_ne (ne_of_none eb hr)]
    exact eb
/-- a list of statements, whatever stood ahead of it -/
theorem DSs.any {Y : L2.Cx} {κ : List Kd} {fr : Bool} {st : List Stmt} {w : WS} (h : DSs (CxD.no Y) κ fr st w) : PSs Y st (fun Dn σ H => ∃ g, g.κ = κ ∧ g.fr = fr ∧ rdS g w Dn σ H) :=
  ⟨fun pins s σ H Dn I ⟨g, h1, h2, q⟩ => (h.ps g.no h1 h2).run pins s σ H Dn I q⟩
def lawE : WEnds := ⟨fun _ => False, fun d _ => d = .bool true, fun _ => False, fun _ => False⟩
def lawS (n : Nat) (ns : List Int) : En := none :: some (dkD ns 0 0 0) :: List.replicate n none
theorem deck_abs {κr : List Kd} {H H' : Hp} {p : Addr} (hd : DkH H H' p) (hk : κr.all (fun k => k == .val || k == .own || k == .sl) = true) {a : V} : ∃ ns : List Int, ns.length ≤ 63 ∧
    Abs ⟨.val :: .own :: κr, H, OS.non, [], [], false, none⟩ (OS.one p) H' (some a :: some (.ref p) :: List.replicate κr.length none) (lawS κr.length ns) := by
  obtain ⟨q, ns, hp, hq, pq, e1, e2, hl, sm⟩ := hd
  refine ⟨ns, hl, ?_⟩
  have kk : ∀ (i : Nat) (k : Kd), (Kd.val :: Kd.own :: κr)[i]? = some k → k = .val ∨ k = .own ∨ k = .sl := fun i k e => by
    match i, e with
    | 0, e => cases e; exact .inl rfl
    | 1, e => cases e; exact .inr (.inl rfl)
    | i + 2, e =>
      have e : κr[i]? = some k := e
      have := List.all_eq_true.mp hk k (List.mem_of_getElem? e)
      simpa [or_assoc] using this
  have s2 : ∀ (i : Nat) (v : V), (some a :: some (V.ref p) :: List.replicate κr.length none)[i]? = some (some v) → (i = 0 ∧ v = a) ∨ (i = 1 ∧ v = .ref p) := fun i v e => by
    match i, e with
    | 0, e => cases e; exact .inl ⟨rfl, rfl⟩
    | 1, e => cases e; exact .inr ⟨rfl, rfl⟩
    | i + 2, e =>
      have e : (List.replicate κr.length none)[i]? = some (some v) := e
      rw [List.getElem?_replicate] at e
      split at e <;> cases e
  have ow : ∀ b, OwnAt (OS.one p) (Kd.val :: Kd.own :: κr) (some a :: some (V.ref p) :: List.replicate κr.length none) b → b = p := fun b z => by
    rcases z with ⟨i, hm, e⟩ | z
    rotate_left
    · exact z.elim
    rcases s2 i _ e with ⟨rfl, _⟩ | ⟨rfl, h⟩
    · rcases hm with h | h <;> cases h
    · cases h; rfl
  have noio : ∀ (i : Nat), (Kd.val :: Kd.own :: κr)[i]? ≠ some Kd.io := fun i e => by rcases kk i _ e with h | h | h <;> cases h
  refine { slot := ?_, ownO := ow, apm := fun _ _ _ _ z => z.elim, newm := fun _ z => z.elim, subm := fun _ z => z.elim, apart := ?_, brwA := ?_, new := ?_, has := ?_, has0 := fun _ h => h.elim, sub := fun _ h => h.elim, ioO := fun _ _ h => absurd h List.not_mem_nil, ioK := fun _ _ h => absurd h List.not_mem_nil, ioS := fun _ _ h => absurd h List.not_mem_nil, ioA := fun i h => (noio i h).elim, fr := fun b o e _ _ => sm b o e, hold := fun _ h => absurd h List.not_mem_nil, len := ?_, lenK := ?_, fz := fun _ z => nomatch z }
  · intro i d e
    match i, e with
    | 0, e => cases e
    | 1, e =>
      cases e
      refine ⟨.ref p, .own, rfl, rfl, p, _, rfl, rfl, e1, .ref q, _, rfl, ⟨q, _, rfl, fun z => pq z.symm, e2, ?_⟩, ?_⟩
      · clear hl e2 e
        induction ns with
        | nil => exact (rfl : ([] : List V) = [])
        | cons n r ih => exact ⟨_, _, rfl, rfl, ih⟩
      · exact ⟨_, _, rfl, rfl, _, _, rfl, rfl, _, _, rfl, rfl, rfl⟩
    | i + 2, e =>
      have e : (List.replicate κr.length none)[i]? = some (some d) := e
      rw [List.getElem?_replicate] at e
      split at e <;> cases e
  · intro i j b hi hj ei ej
    rcases s2 i _ ei with ⟨rfl, _⟩ | ⟨rfl, _⟩
    · rcases hi with h | h <;> cases h
    · rcases s2 j _ ej with ⟨rfl, _⟩ | ⟨rfl, _⟩
      · rcases hj with h | h <;> cases h
      · rfl
  · intro i b e
    rcases kk i _ e with h | h | h <;> cases h
  · intro i b hi ei
    rcases s2 i _ ei with ⟨rfl, _⟩ | ⟨rfl, h⟩
    · cases hi
    · cases h; exact hp
  · intro b hb
    subst hb
    rw [e1]
    exact fun z => nomatch z
  · simp [lawS]
  · simp
theorem ok_law {x : Str} {st : Stmt} {f : Addr} {fd : FuncData} {N : List Str} {κr : List Kd} {k : Nat} {w0 : WS} {s1 : Stmt} {rest : List Stmt} (F : Fun K x x st f fd) (S : FnScope N ["_law_script"] (defScope st)) (hN : N.length = κr.length + 2)
    (e : defBody st = s1 :: rest)
    (h1 : ∀ (cdv : Value) (A : Around) (outer : List Env) (s : Shared) (H : Hp) (E : XK), Room k (A.deeper (PyProof.Rows.envOfC x (defScope st) s.heap.objs.size f cdv)) → (A.deeper (PyProof.Rows.envOfC x (defScope st) s.heap.objs.size f cdv)).guards = some [] →
      PS (cxOf CX0 P w K mg base N x (defScope st) f cdv A outer s H E).nox s1 (tAsg (fun σ H Q => tCons (tVar 0) tNil σ H fun vs H1 => spDeck K vs H1 Q E0) (gName 1)))
    (body : ∀ (cdv : Value) (A : Around) (outer : List Env) (s : Shared) (H : Hp) (E : XK), Room k (A.deeper (PyProof.Rows.envOfC x (defScope st) s.heap.objs.size f cdv)) → (A.deeper (PyProof.Rows.envOfC x (defScope st) s.heap.objs.size f cdv)).guards = some [] →
      DSs (CxD.no (cxOf CX0 P w K mg base N x (defScope st) f cdv A outer s H E).nox) (.val :: .own :: κr) false rest w0)
    (math : ∀ ns : List Int, ns.length ≤ 63 → w0 lawE (lawS κr.length ns)) (hk : κr.all (fun k => k == .val || k == .own || k == .sl) = true := by rfl) : FnG P w K mg base CX0 (k + 1) f fd ["_law_script"] (spLawG K) := by
  refine fn_g F S (fun vs H Q E h => ?_) (fun cdv A outer s H vs Q E hr hgd h => ?_)
  · obtain ⟨a, ns, rfl, _⟩ := h
    rfl
  · obtain ⟨a, ns, rfl, hS, hl, q⟩ := h
    have m := (body cdv A outer s H E hr hgd).mono
    refine ⟨tSeq (tAsg (fun σ H Q => tCons (tVar 0) tNil σ H fun vs H1 => spDeck K vs H1 Q E0) (gName 1)) (fun Dn σ H => ∃ g, g.κ = (.val :: .own :: κr) ∧ g.fr = false ∧ rdS g w0 Dn σ H), ?_, ?_⟩
    · rw [e]
      exact (pss_cons (h1 cdv A outer s H E hr hgd) (body cdv A outer s H E hr hgd).any).nox
    · have es : L2.start N [.ref a] = some (.ref a) :: none :: List.replicate κr.length none := by
        unfold L2.start
        rw [show N.length - [V.ref a].length = κr.length + 1 by rw [hN]; rfl]
        rfl
      rw [es]
      refine ⟨.ref a, rfl, a, ns, rfl, hS, hl, fun p H' hd => ?_⟩
      obtain ⟨ms, hl2, A'⟩ := deck_abs hd hk (a := .ref a)
      refine ⟨⟨.val :: .own :: κr, H, OS.non, [], [], false, none⟩, rfl, rfl, _, _, A', ?_⟩
      refine m lawE _ _ ⟨fun ε z => z.elim, fun d ε z v H2 σ2 O2 A2 r => ?_, fun ε z => z.elim, fun ε z => z.elim⟩ (math ms hl2)
      have z : d = .bool true := z
      subst z
      have r : v = .bl true := r
      subst r
      exact q _
end
end DL
namespace DL
open PySem PySem.Spec L2
structure Gd (m n : Nat) (d : D) : Prop where
  can : PyData.canLay0 d = true
  ish : PyData.intsShort 80 d = true
  shw : PyData.showable d = true
  dep : PyData.depth d ≤ m
  blk : PyData.bulk d ≤ n
theorem intsAll {xs : List D} (h : ∀ x ∈ xs, PyData.intsShort 80 x = true) : PyData.intsShortAll 80 xs = true := by
  induction xs with
  | nil => rfl
  | cons a as ih =>
    show (PyData.intsShort 80 a && PyData.intsShortAll 80 as) = true
    rw [h a List.mem_cons_self, ih fun x hx => h x (List.mem_cons_of_mem _ hx)]
    rfl
theorem shwAll {xs : List D} (h : ∀ x ∈ xs, PyData.showable x = true) : PyData.showableAll xs = true := by
  induction xs with
  | nil => rfl
  | cons a as ih =>
    show (PyData.showable a && PyData.showableAll as) = true
    rw [h a List.mem_cons_self, ih fun x hx => h x (List.mem_cons_of_mem _ hx)]
    rfl
theorem blkAll {xs : List D} {n : Nat} (h : ∀ x ∈ xs, PyData.bulk x ≤ n) : PyData.bulkAll xs ≤ xs.length * (n + 1) := by
  induction xs with
  | nil => exact Nat.zero_le _
  | cons a as ih =>
    show PyData.bulk a + 1 + PyData.bulkAll as ≤ (as.length + 1) * (n + 1)
    have h1 := h a List.mem_cons_self
    have h2 := ih fun x hx => h x (List.mem_cons_of_mem _ hx)
    rw [Nat.add_mul, Nat.one_mul]
    omega
theorem Gd.none {m n : Nat} : Gd m n .none := ⟨rfl, rfl, rfl, Nat.zero_le _, Nat.zero_le _⟩
theorem Gd.bool {m n : Nat} {b : Bool} : Gd m n (.bool b) := ⟨rfl, rfl, rfl, Nat.zero_le _, Nat.zero_le _⟩
theorem Gd.int {m n : Nat} {i : Int} (h : i.natAbs < 10 ^ 79) : Gd m n (.int i) := by
  refine ⟨rfl, ?_, ?_, Nat.zero_le _, Nat.zero_le _⟩
  · have : (Str.ofString (toString i)).length ≤ 80 := by
      rw [PySem.ofString_length]
      exact PySem.int_text_length_le10 (k := 79) (by decide) h
    exact decide_eq_true this
  · refine decide_eq_true ?_
    by_cases z : i.natAbs = 0
    · rw [z]; decide
    · refine (Nat.log2_lt z).mpr (Nat.lt_trans h ?_)
      exact Nat.lt_of_lt_of_le (by decide : 10 ^ 79 < 2 ^ 255 * 256) (Nat.le_trans (by decide : 2 ^ 255 * 256 ≤ 2 ^ 255 * 2 ^ 8) (by rw [← Nat.pow_add]; exact Nat.pow_le_pow_right (by decide) (by decide)))
theorem Gd.str {m n : Nat} {z : Str} (h : PyData.canLay0 (.str z) = true) (l : z.cps.size ≤ n) : Gd m n (.str z) := ⟨h, rfl, rfl, Nat.zero_le _, l⟩
theorem Gd.list {m n k : Nat} {xs : List D} (h : ∀ x ∈ xs, Gd m n x) (l : xs.length * (n + 1) ≤ k) : Gd (m + 1) k (.list xs) :=
  ⟨canAll fun x hx => (h x hx).can, intsAll fun x hx => (h x hx).ish, shwAll fun x hx => (h x hx).shw, Nat.succ_le_succ (depAll fun x hx => (h x hx).dep), Nat.le_trans (blkAll fun x hx => (h x hx).blk) l⟩
theorem Gd.tuple {m n k : Nat} {xs : List D} (h : ∀ x ∈ xs, Gd m n x) (l : xs.length * (n + 1) ≤ k) : Gd (m + 1) k (.tuple xs) :=
  ⟨canAll fun x hx => (h x hx).can, intsAll fun x hx => (h x hx).ish, shwAll fun x hx => (h x hx).shw, Nat.succ_le_succ (depAll fun x hx => (h x hx).dep), Nat.le_trans (blkAll fun x hx => (h x hx).blk) l⟩
theorem Gd.le {m n m' n' : Nat} {d : D} (h : Gd m n d) (l : m ≤ m') (l' : n ≤ n') : Gd m' n' d := ⟨h.can, h.ish, h.shw, Nat.le_trans h.dep l, Nat.le_trans h.blk l'⟩
theorem Gd.sh {m n : Nat} {d : D} (h : Gd m n d) : Sh m d := ⟨h.can, h.dep⟩
theorem Gd.repr {m n : Nat} {d : D} (h : Gd m n d) (l : m ≤ 64) (l' : n ≤ 200000) : reprOk d = true := by
  have e : d.shown.length ≤ sizeLine := by
    have h1 := PyData.shown_le_bulk 80 (by decide) d (PyData.leavesShort_of_canLay0 80 d h.can h.ish)
    have h2 := h.blk
    have : sizeLine = 16777216 := rfl
    omega
  unfold reprOk
  rw [h.shw, PyData.hasDict_of_canLay d h.can, decide_eq_true e, decide_eq_true (Nat.le_trans h.dep l)]
  rfl
def Dk (m : Int) (d : D) : Prop := ∃ ns i l c, d = dkD ns i l c ∧ ns.length ≤ 63 ∧ 0 ≤ i ∧ 0 ≤ c ∧ c ≤ m
theorem Dk.start {ns : List Int} (h : ns.length ≤ 63) : Dk 0 (dkD ns 0 0 0) := ⟨ns, 0, 0, 0, rfl, h, Int.le_refl _, Int.le_refl _, Int.le_refl _⟩
theorem Dk.le {m n : Int} {d : D} (h : Dk m d) (l : m ≤ n) : Dk n d := by
  obtain ⟨ns, i, l', c, e, h1, h2, h3, h4⟩ := h
  exact ⟨ns, i, l', c, e, h1, h2, h3, Int.le_trans h4 l⟩
def sp_law_draw : DSp := fun ds Q => ∃ (m : Int) (dk : D) (n : Int), ds = [dk, .int n] ∧ Dk m dk ∧ m < 1073741823 ∧ 0 < n ∧ n < 1073741824 ∧ ∀ (r : Int) (dk' : D), 0 ≤ r → r < n → Dk (m + 1) dk' → Q (.int r) [dk']
/-- one of a list of items -/
def W_law_one (sp_law_draw : DSp) : WS := (sRet (eBin dAt (.nm 1) (.ex (eCall [.io, .val] sp_law_draw [(.nm 0), (.ex (eApp dLen [(.nm 1)]))]))))
def sp_law_one : DSp := fun ds Q => ∃ (m : Int) (dk : D) (xs : List D), (ds = [dk, .list xs] ∨ ds = [dk, .tuple xs]) ∧ Dk m dk ∧ m < 1073741823 ∧ 0 < xs.length ∧ xs.length < 1073741824 ∧ ∀ (x : D) (dk' : D), x ∈ xs → Dk (m + 1) dk' → Q x [dk']
theorem le_size {n : Nat} (h : n ≤ 1000) : n ≤ sizeLine := Nat.le_trans h (by decide)
/-- a comprehension of values alone -/
theorem lc_map {α : Type} {t : Tg} {we : WE} {vs : List Nat} {inv : En → Prop} {ε0 : En} {g f : α → D} (hi : inv ε0) : ∀ {xs : List α} {acc : List D} {Q : List D → En → Prop},
    (∀ x ∈ xs, ∃ ε1, bindD t (g x) ε0 = some ε1 ∧ wipeE ε1 vs = ε0 ∧ ∀ Q : D → En → Prop, Q (f x) ε1 → we ε1 Q) → acc.length + xs.length ≤ sizeLine → Q (acc ++ xs.map f) ε0 → lcGo t tYesW we vs inv (xs.map g) acc ε0 Q
  | [], acc, Q, _, _, q => ⟨hi, by simpa using q⟩
  | x :: xs, acc, Q, h, hl, q => by
    obtain ⟨ε1, b, e, k⟩ := h x List.mem_cons_self
    rw [List.length_cons] at hl
    refine ⟨hi, ε1, b, ?_⟩
    simp only [tYesW, ↓reduceIte]
    refine k _ ⟨by omega, ?_⟩
    rw [e]
    refine lc_map hi (fun y hy => h y (List.mem_cons_of_mem _ hy)) (by rw [List.length_append, List.length_singleton]; omega) ?_
    rw [List.map_cons] at q
    rw [List.append_assoc]
    exact q
theorem rng1_i {n : Int} (h : -(2 ^ 62) ≤ n ∧ n < 2 ^ 62) : rng1 [.int n] = some ((List.range n.toNat).map fun (k : Nat) => PyData.int (k : Int)) := by
  show (if -(2 ^ 62) ≤ n ∧ n < 2 ^ 62 then some (rngD 0 n.toNat) else none) = _
  rw [if_pos h]
  simp only [rngD, Int.zero_add]
theorem dMin_i {i j : Int} : dMin2 [.int i, .int j] = some (.int (min i j)) := by
  show some (PyData.int (if j < i then j else i)) = _
  congr 2
  omega
theorem dMax_i {i j : Int} : dMax2 [.int i, .int j] = some (.int (max i j)) := by
  show some (PyData.int (if j > i then j else i)) = _
  congr 2
  omega
end DL
namespace DL
open PySem PySem.Spec L2
theorem smallI_of {i : Int} (h : 0 ≤ i) (h2 : i < 2 ^ 64) : smallI i = true := by
  unfold smallI
  rw [decide_eq_true (by omega), decide_eq_true (by omega)]
  rfl
theorem or_l {a b : Bool} (h : a = true) : (a || b) = true := by rw [h]; rfl
theorem or_r {a b : Bool} (h : b = true) : (a || b) = true := by rw [h, Bool.or_true]
theorem dMul_l {i j : Int} (h : 0 ≤ i) (h2 : i < 2 ^ 64) : dMul (.int i) (.int j) = some (.int (i * j)) := dMul_i (or_l (smallI_of h h2))
theorem dMul_r {i j : Int} (h : 0 ≤ j) (h2 : j < 2 ^ 64) : dMul (.int i) (.int j) = some (.int (i * j)) := dMul_i (or_r (smallI_of h h2))
end DL
namespace DL
end DL
namespace DL
open PySem
end DL
namespace DL
open PySem
end DL
namespace PySem
open Sem (wp)
end PySem
namespace DL
open PySem PySem.Spec L2
inductive Src where
  | L (a : Addr)
  | T (a : Addr)
  | S (z : Str)
def enumD (xs : List D) : List D := xs.zipIdx.map fun p => .tuple [.int (p.2 : Nat), p.1]
def boolsOf : List D → Option (List Bool)
  | [] => some []
  | .bool b :: r => (boolsOf r).map (b :: ·)
  | _ :: _ => none
def dAny : List D → Option D
  | [.list xs] => (boolsOf xs).map fun bs => .bool (bs.any id)
  | _ => none
def dAll : List D → Option D
  | [.list xs] => (boolsOf xs).map fun bs => .bool (bs.all id)
  | _ => none
def dSum : List D → Option D
  | [.list xs] => (intsOf xs).map fun bs => .int bs.sum
  | [.tuple xs] => (intsOf xs).map fun bs => .int bs.sum
  | _ => none
def dRep : D → D → Option D
  | .list xs, .int k => if (-(2 ^ 63) ≤ k ∧ k < 2 ^ 63) ∧ xs.length * k.toNat ≤ sizeLine then some (.list (List.replicate k.toNat xs).flatten) else none
  | _, _ => none
theorem RpL.rep {H : Hp} {O : OS} {ds : List D} {vs : List V} (h : RpL H O ds vs) : ∀ n : Nat, RpL H O (List.replicate n ds).flatten (List.replicate n vs).flatten
  | 0 => rfl
  | n + 1 => by
    rw [List.replicate_succ, List.replicate_succ, List.flatten_cons, List.flatten_cons]
    exact RpL.append h (RpL.rep h n)
theorem rep_ok : OpN rRep dRep := fun H O x y a b c Q hO ha hb e k => by
  match a, b, ha, hb, e with
  | .list xs, .int n, ⟨p, us, ex, hp, r⟩, hb, e =>
    have hb : y = .int n := hb
    subst ex hb
    have e : (if (-(2 ^ 63) ≤ n ∧ n < 2 ^ 63) ∧ xs.length * n.toNat ≤ sizeLine then some (PyData.list (List.replicate n.toNat xs).flatten) else none) = some c := e
    split at e
    · rename_i h
      cases e
      refine ⟨p, n, us, rfl, rfl, ?_, h.1.1, h.1.2, by rw [r.length]; exact h.2, fun q np => k q _ np fun O' mo w hp' => ?_⟩
      · exact hp
      · have kO : ∀ a o, H a = some o → ¬ O a → upd H q (.lst (List.replicate n.toNat us).flatten) a = some o := fun a o e _ => same_upd np a o e
        exact ⟨q, _, rfl, hp', upd_same, RpL.rep (RpL.ext kO (fun a z => (w a z).imp_right fun z => by rw [z]; exact np) r) _⟩
    · cases e
end DL
namespace DL
open PySem PySem.Spec L2
section
variable {X : CxD} {κ : List Kd} {k v : Expr} {pos : Pos} {wk wv : WE}
theorem _root_.L2.PE.ex {X : CxD} {e : Expr} {α : Type} {t : α → TE} (h : ∀ a, PE X e (t a)) : PE X e (fun σ H Q => ∃ a, t a σ H Q) := ⟨fun pins s σ H Q I ⟨a, q⟩ => (h a).run pins s σ H Q I q⟩
end
end DL
namespace DL
open PySem PySem.Spec L2
def dGet (d k z : D) : Option D := match d with
  | .dict es => if dictOk es k = true then some ((findD es k).getD z) else none
  | _ => none
def keysT (es : List (D × D)) : List D := (es.filter fun e => match findD es e.1 with | some (.bool true) => true | _ => false).map (·.1)
def keyB (e : D × D) : Bool := match e with
  | (.int _, .bool _) => true
  | _ => false
end DL
namespace DL
open PySem PySem.Spec L2
end DL
namespace DL
open PySem PySem.Spec L2
theorem pe_ownInit {X : Cx} {B : Str} {C0 : Addr} {e : Expr} {es : List Expr} {ta : TA} {p1 p2 pos : Pos} {pl : Sem Bool} (hg : Gl X B) (hm : X.mg B = some (.ref C0)) (hdb : (B == ("__debug__" : Str)) = false) (hga : PySem.W.specialIn X.K (.ref C0) "__getattribute__" = some (some (.builtin "type.__getattribute__")))
    (hr : PySem.W.readsIn X.K C0 (.type "type") = true) (vV : PySem.W.findCls X.K (.ref C0) (.type "type") "__init__" = some (.val (.builtin "ValueError.__init__"))) (ha : PA X (e :: es) ta)
    (hc : eval (.Call (.Attribute (.Name B p1) "__init__" p2) (e :: es) [] pos) X.env = (do
      let ov ← eval (.Name B p1) X.env
      standAt p2.atName
      let (f, first) ← holding [ov] (getMethod ov "__init__" pl)
      callWith pos f first (backTo pos (starEach (e :: es) X.env)) (backToKw pos (keywordEach [] X.env))) := by rfl)
    (he : starEach (e :: es) X.env = (false, eval e X.env) :: starEach es X.env := by rfl) (hpl : (backTo pos (starEach es X.env)).any (·.1) = false := by rfl) :
    PE X (.Call (.Attribute (.Name B p1) "__init__" p2) (e :: es) [] pos) (tVeI X.K ta) := by
  refine ⟨fun pins s σ H Q I h => ?_⟩
  refine PySem.W.methodCall_KW (ld_glob I hg hm ?_ hdb) hc
  refine PySem.W.method_cls I.kIn hga ?_
  refine PySem.W.cls_value I.kIn hr vV (by decide +kernel) ?_
  show wpAny _ _ (callWith pos (Value.builtin "ValueError.__init__") [] (backTo pos (starEach (e :: es) X.env)) []) _ _ _
  refine PyProof.Rows.callWith_method1 (thn (ha.run pos pins _ σ H _ (I.tok _) h) fun us s1 ⟨vs, H1, I1, r1, a, C, ws, ev, hl, T, ea, q⟩ => ?_) he hpl
  subst ev
  cases r1 with
  | @cons _ u0 _ ur ra rw' =>
    obtain rfl : u0 = Value.ref a := ra
    have hlen : ur.length ≤ sizeLine := by
      rw [← Paired.length rw', sizeLine_eq]
      omega
    exact oinit_ok T I1 ea hlen fun s' J => ⟨.non, H1, J, rfl, q⟩
end DL
namespace DL
open PySem PySem.Spec L2
end DL
namespace DL
open PySem PySem.Spec L2
end DL
namespace DL
open PySem PySem.Spec L2
def killE (ε : En) : List Nat → En
  | [] => ε
  | v :: vs => killE (ε.set v none) vs
theorem killE_get : ∀ {vs : List Nat} {ε : En} {i : Nat} {d : D}, (killE ε vs)[i]? = some (some d) → ε[i]? = some (some d)
  | [], _, _, _, h => h
  | v :: vs, ε, i, d, h => by
    have h := killE_get (vs := vs) h
    by_cases e : v = i
    · subst e
      rw [List.getElem?_set] at h
      simp at h
    · rwa [get_set_ne e] at h
theorem killE_len : ∀ {vs : List Nat} {ε : En}, (killE ε vs).length = ε.length
  | [], _ => rfl
  | v :: vs, ε => by rw [killE, killE_len, List.length_set]
theorem Abs.kill {g : Gx} {O : OS} {H : Hp} {σ : L2.St} {ε : En} (A : Abs g O H σ ε) (vs : List Nat) : Abs g O H σ (killE ε vs) :=
  { A with
    slot := fun i d e => A.slot i d (killE_get e)
    len := killE_len.trans A.len }
def sKill (vs : List Nat) (w : WS) : WS := fun E ε => w E (killE ε vs)
section
variable {X : CxD} {κ : List Kd} {fr : Bool} {st : Stmt} {rest : List Stmt}
theorem dss_kill {w : WS} (vs : List Nat) (h : DSs X κ fr rest w) : DSs X κ fr rest (sKill vs w) :=
  ⟨fun g hg hf => (h.ps g hg hf).imp fun D σ H ⟨O, ε, A, q⟩ => ⟨O, _, A.kill vs, q⟩, fun E E' ε l q => h.mono _ _ _ l q⟩
end
/-- kills at the block's end -/
def sEnd (vs : List Nat) (w : WS) : WS := fun E ε => w { E with nx := fun ε => E.nx (killE ε vs), ct := fun ε => E.ct (killE ε vs) } ε
theorem dss_end {X : CxD} {κ : List Kd} {fr : Bool} {rest : List Stmt} {w : WS} (vs : List Nat) (h : DSs X κ fr rest w) : DSs X κ fr rest (sEnd vs w) :=
  ⟨fun g hg hf => (h.ps g hg hf).imp fun D σ H ⟨O, ε, A, q⟩ => ⟨O, ε, A, h.mono { ends g D with nx := fun ε => (ends g D).nx (killE ε vs), ct := fun ε => (ends g D).ct (killE ε vs) } _ _ ⟨fun ε z σ H O A => z σ H O (A.kill vs), fun _ _ z => z, fun _ z => z, fun ε z σ H O A => z σ H O (A.kill vs)⟩ q⟩,
    fun E E' ε l q => h.mono { E with nx := fun ε => E.nx (killE ε vs), ct := fun ε => E.ct (killE ε vs) } { E' with nx := fun ε => E'.nx (killE ε vs), ct := fun ε => E'.ct (killE ε vs) } _ ⟨fun ε z => l.nx _ z, l.rt, l.bk, fun ε z => l.ct _ z⟩ q⟩
end DL
namespace DL
open PySem PySem.Spec L2
end DL
namespace PySem
open Sem (wp)
open AutoSeq1
end PySem
namespace DL
open PySem PySem.Spec L2
def fExtA : D → List D → Option (D × D)
  | .list xs, [.list ys] => if xs.length + ys.length ≤ sizeLine then some (.none, .list (xs ++ ys)) else none
  | .list xs, [.tuple ys] => if xs.length + ys.length ≤ sizeLine then some (.none, .list (xs ++ ys)) else none
  | _, _ => none
section
variable {X : CxD} {κ : List Kd}
theorem de_globI {x : Str} {n : Int} {pos : Pos} (hg : Gl X x) (hm : ∃ t, X.mg x = some (.int n t)) (hdb : (x == ("__debug__" : Str)) = false := by decide) : DE X κ (.Name x pos) (eC (.int n)) :=
  let ⟨_, h⟩ := hm
  de_glob (d := .int n) (v := V.int n) hg h ⟨_, rfl⟩ (fun _ _ => rfl) hdb
end
end DL
namespace PySem
open Sem (wp)
open PyProof.Rows
end PySem
namespace DL
open PySem PySem.Spec L2 PyProof.Rows
theorem RpL.reverse {H : Hp} {O : OS} : ∀ {ds : List D} {vs : List V}, RpL H O ds vs → RpL H O ds.reverse vs.reverse
  | [], vs, h => by
    have h : vs = [] := h
    subst h
    exact (rfl : ([] : List V) = [])
  | d :: ds, _, ⟨v, r, e, h, q⟩ => by
    subst e
    rw [List.reverse_cons, List.reverse_cons]
    exact RpL.append (RpL.reverse q) ⟨v, [], rfl, h, rfl⟩
def dRevL : D → Option D
  | .list xs => some (.list xs.reverse)
  | _ => none
end DL
namespace DL
open PySem PySem.Spec L2
end DL
namespace DL
open PySem PySem.Spec L2
theorem _root_.L2.PK.imp {X : CxD} {kws : List Keyword} {t t' : TA} (h : PK X kws t) (k : ∀ σ H Q, t' σ H Q → t σ H Q) : PK X kws t' := ⟨fun pos pins s σ H Q I q => h.run pos pins s σ H Q I (k _ _ _ q)⟩
end DL
namespace DL
open PySem PySem.Spec L2
/-- what is asked of the base -/
structure BaseF (K : PySem.W.Frag) (B : Addr) : Prop where
  ga : PySem.W.specialIn K (.ref B) "__getattribute__" = some (some (.builtin "type.__getattribute__"))
  rd : PySem.W.readsIn K B (.type "type") = true
  vV : PySem.W.findCls K (.ref B) (.type "type") "__init__" = some (.val (.builtin "ValueError.__init__"))
/-- what __init__ leaves: the fields -/
def IniEnd (H : Hp) (a C : Addr) (fn : List Str) (ws : List V) (H2 : Hp) : Prop :=
  (fn = [] ∧ H2 = H) ∨ ∃ dx fs, H dx = none ∧ dx ≠ a ∧ H2 a = some (exo a C (some dx)) ∧ H2 dx = some (exd dx fs) ∧ (∀ b, b ≠ a → b ≠ dx → H2 b = H b) ∧ ∀ (i : Nat) f v, fn[i]? = some f → ws[i]? = some v → fs.lookup f = some v
def spI (fn : List Str) (C : Addr) : Sp := fun vs H Q _ => ∃ a ws, vs = .ref a :: ws ∧ ws.length = fn.length ∧ H a = some (exo a C none) ∧ ∀ H2, IniEnd H a C fn ws H2 → Q .non H2
section
variable {K : PySem.W.Frag} {C : Addr} {m : Str} {N : List Str} {vs : List V} {H : Hp} {Q : VK} {E : XK}
theorem ini0_rd (T : OexC K C) (h : spI [] C vs H Q E) : tDrop (tVeI K (tCons (tVar 0) (tCons (tC (.str m)) tNil))) { nx := fun _ H' => Q .non H', rt := Q } (L2.start N vs) H := by
  obtain ⟨a, ws, rfl, hl, ea, q⟩ := h
  have e : ws = [] := List.length_eq_zero_iff.mp hl
  subst e
  exact ⟨_, rfl, a, C, _, rfl, Nat.le_of_ble_eq_true rfl, T, ea, q _ (.inl ⟨rfl, rfl⟩)⟩
theorem ini1_rd {f : Str} (T : OexC K C) (n1 : PySem.W.findIn K (.ref C) f = some none) (h : spI [f] C vs H Q E) :
    tSeq (tDrop (tVeI K (tCons (tVar 0) (tCons (tC (.str m)) tNil)))) (tOst K f (tVar 0) (tVar 1)) { nx := fun _ H' => Q .non H', rt := Q } (L2.start N vs) H := by
  obtain ⟨a, ws, rfl, hl, ea, q⟩ := h
  obtain ⟨v, rfl⟩ : ∃ v, ws = [v] := List.length_eq_one_iff.mp hl
  refine ⟨_, rfl, a, C, _, rfl, Nat.le_of_ble_eq_true rfl, T, ea, ?_⟩
  refine ⟨_, rfl, _, rfl, a, C, rfl, T, n1, .inl ⟨ea, fun dx hd hne => q _ (.inr ⟨dx, [(f, v)], hd, hne, ?_, ?_, fun b h1 h2 => ?_, fun i g u hg hu => ?_⟩)⟩⟩
  · rw [upd_same]
  · rw [upd_ne hne, upd_same]
  · rw [upd_ne h1, upd_ne h2]
  · cases i with
    | zero => cases hg; cases hu; simp [List.lookup]
    | succ i => cases hg
theorem ini2_rd {f1 f2 : Str} (T : OexC K C) (n1 : PySem.W.findIn K (.ref C) f1 = some none) (n2 : PySem.W.findIn K (.ref C) f2 = some none) (hne12 : f1 ≠ f2) (h : spI [f1, f2] C vs H Q E) :
    tSeq (tDrop (tVeI K (tCons (tVar 0) (tCons (tC (.str m)) tNil)))) (tSeq (tOst K f1 (tVar 0) (tVar 1)) (tOst K f2 (tVar 0) (tVar 2))) { nx := fun _ H' => Q .non H', rt := Q } (L2.start N vs) H := by
  obtain ⟨a, ws, rfl, hl, ea, q⟩ := h
  obtain ⟨v, u, rfl⟩ : ∃ v u, ws = [v, u] := by
    match ws, hl with
    | [v, u], _ => exact ⟨v, u, rfl⟩
  refine ⟨_, rfl, a, C, _, rfl, Nat.le_of_ble_eq_true rfl, T, ea, ?_⟩
  refine ⟨_, rfl, _, rfl, a, C, rfl, T, n1, .inl ⟨ea, fun dx hd hne => ?_⟩⟩
  refine ⟨_, rfl, _, rfl, a, C, rfl, T, n2, .inr ⟨dx, [(f1, v)], by rw [upd_same], by rw [upd_ne hne, upd_same], Nat.le_of_ble_eq_true rfl, q _ (.inr ⟨dx, [(f2, u), (f1, v)], hd, hne, ?_, ?_, fun b h1 h2 => ?_, fun i g z hg hz => ?_⟩)⟩⟩
  · rw [upd_ne (Ne.symm hne), upd_same]
  · rw [upd_same]
  · rw [upd_ne h2, upd_ne h1, upd_ne h2]
  · match i, hg, hz with
    | 0, hg, hz =>
      cases hg; cases hz
      rw [lookup_put, if_neg hne12]
      simp [List.lookup]
    | 1, hg, hz =>
      cases hg; cases hz
      rw [lookup_put, if_pos rfl]
    | i + 2, hg, _ => cases hg
end
structure XCls (P : Program) (w : World) (K : PySem.W.Frag) (mg : Str → Option Value) (base : Heap) (x : Str) (ps fn : List Str) : Prop where
  ex : ∃ C fI fd, mg x = some (.ref C) ∧ OexC K C ∧ PySem.W.findIn K (.ref C) "__init__" = some (some (.ref fI)) ∧ PySem.W.typeIn K (.ref fI) = some (.type "function") ∧ FnOk P w K mg base CX0 1 fI fd ps (spI fn C) ∧ Binds K fd ps []
theorem rpL_len2 {H : Hp} {O : OS} : ∀ {ds : List D} {vs : List V}, RpL H O ds vs → vs.length = ds.length
  | [], _, e => by cases e; rfl
  | d :: ds, _, ⟨v, r, e, _, q⟩ => by subst e; rw [List.length_cons, List.length_cons, rpL_len2 q]
theorem cEv_len : ∀ {ws : List WE}, MonoC ws → ∀ {ε : En} {Q : List D → En → Prop}, cEv ws ε Q → cEv ws ε fun ds ε' => ds.length = ws.length ∧ Q ds ε'
  | [], _, _, _, q => ⟨rfl, q⟩
  | w :: ws, m, ε, Q, q => m w List.mem_cons_self ε _ _ (fun d ε1 q => cEv_mono (fun o ho => m o (List.mem_cons_of_mem _ ho)) (fun ds ε2 ⟨h, q⟩ => ⟨by rw [List.length_cons, List.length_cons, h], q⟩) (cEv_len (fun o ho => m o (List.mem_cons_of_mem _ ho)) q)) q
end DL
namespace DL
open PySem PySem.Spec L2
end DL
namespace DL
open PySem PySem.Spec L2
def subX (c h : Str) : Bool := c == h || h == ("NetError" : Str)
/-- what an exception's class must say -/
structure ExcF (K : PySem.W.Frag) (C : Addr) : Prop where
  hcl : (PySem.W.clsIn K C).isSome = true
  hga : PySem.W.findIn K (.ref C) "__getattribute__" = some (some (.builtin "BaseException.__getattribute__"))
  hgt : PySem.W.findIn K (.ref C) "__getattr__" = some none
  hsub : PySem.W.subIn K (.ref C) (.type "BaseException") = some true
  ha : PySem.W.findIn K (.ref C) "__class__" = some (some (.builtin "object.__class__"))
  hn : PySem.W.specialIn K (.builtin "object.__class__") "__get__" = some (some (.builtin "getset_descriptor.__get__"))
  ht : PySem.W.takesIn K (.builtin "object.__class__") = some true
  hm : PySem.W.mroIn K C (.type "object") = some true
  hd : PySem.W.hasDictIn K C = true
  ve : PySem.W.kitOne K (.ref C) (.type "ValueError") = some true
structure SubOk (K : PySem.W.Frag) (mg : Str → Option Value) (cs hs fs : List Str) : Prop where
  at_ : ∀ c ∈ cs, ∃ C, mg c = some (.ref C) ∧ ExcF K C ∧ ∀ f ∈ fs, PySem.W.findIn K (.ref C) f = some none
  ath : ∀ h ∈ hs, ∃ D, mg h = some (.ref D)
  ok : ∀ c ∈ cs, ∀ h ∈ hs, ∀ C D, mg c = some (.ref C) → mg h = some (.ref D) → PySem.W.exmOne K (.ref C) (.ref D) = some (subX c h) ∧ PySem.W.kitOne K (.ref C) (.ref D) = some (subX c h)
structure SKn (mg : Str → Option Value) (i : Option Nat) (a : Addr) (cls : Value) (d : Option Addr) (x : Exn) (O : OS) (σ : L2.St) (H : Hp) : Prop where
  at_ : ∀ j, i = some j → σ[j]? = some (some (.ref a))
  xr : XR mg x cls d H O
  has : ∀ b, O b → H b ≠ none
theorem XR.same {mg : Str → Option Value} {x : Exn} {cls : Value} {d : Option Addr} {H H' : Hp} {O : OS} (s : Same H H') (h : XR mg x cls d H O) : XR mg x cls d H' O := by
  obtain ⟨hc, h⟩ := h
  refine ⟨hc, ?_⟩
  cases d with
  | none => exact h
  | some a =>
    obtain ⟨fs, e, n, k⟩ := h
    exact ⟨fs, s _ _ e, n, fun p hp => let ⟨v, e, r⟩ := k p hp; ⟨v, e, Rp.ext (fun a o e _ => s a o e) (fun _ z => .inl z) r⟩⟩
theorem SKn.same {mg : Str → Option Value} {i : Option Nat} {a : Addr} {cls : Value} {d : Option Addr} {x : Exn} {O : OS} {σ : L2.St} {H H' : Hp} (s : Same H H') (h : SKn mg i a cls d x O σ H) : SKn mg i a cls d x O σ H' :=
  ⟨h.at_, h.xr.same s, fun b z => Same.some s b (h.has b z)⟩
/-- where the suite stands -/
structure SCx where
  X : L2.Cx
  i : Option Nat
  a : Addr
  oe : Obj
  pn : List (Addr × Obj)
  cls : Value
  d : Option Addr
  hz : Zc cls d oe
  hf : ∃ vs, oe.data = .fields vs
abbrev SCx.Y (S : SCx) : L2.Cx := S.X.suite S.a ((S.a, S.oe) :: S.pn)
def SCx.Kn (S : SCx) (x : Exn) (O : OS) (σ : L2.St) (H : Hp) : Prop := SKn S.X.mg S.i S.a S.cls S.d x O σ H
def rdB (S : SCx) (f : Exn → Option Bool) : TT := fun σ H Q => ∃ x O b, S.Kn x O σ H ∧ f x = some b ∧ ∀ H', Same H H' → Q b H'
structure SB (S : SCx) (e : Expr) (f : Exn → Option Bool) : Prop where
  pt : PT S.Y e (rdB S f)
section
variable {S : SCx} {e e2 : Expr} {f g : Exn → Option D} {p q pos : Pos}
/-- e.f -/
def fldX (cs : List Str) (f : Str) (x : Exn) : Option D := if cs.contains x.cls = true then (x.fs.lookup f) else none
def isX (cs : List Str) (h : Str) (x : Exn) : Option D := if cs.contains x.cls = true then some (.bool (subX x.cls h)) else none
def isVE (cs : List Str) (x : Exn) : Option D := if cs.contains x.cls = true then some (.bool true) else none
def asB : D → Option Bool
  | .bool b => some b
  | _ => none
theorem asB_b {b : Bool} : asB (.bool b) = some b := rfl
def andX (f g : Exn → Option D) : Exn → Option D := fun x => (f x).bind fun d => (asB d).bind fun b => if b = true then g x else some (.bool false)
def orX (f g : Exn → Option D) : Exn → Option D := fun x => (f x).bind fun d => (asB d).bind fun b => if b = true then some (.bool true) else g x
def tX (f : Exn → Option D) : Exn → Option Bool := fun x => (f x).bind asB
section
variable {t u : Exn → Option Bool}
def notT (t : Exn → Option Bool) : Exn → Option Bool := fun x => (t x).map fun b => !b
def andT (t u : Exn → Option Bool) : Exn → Option Bool := fun x => (t x).bind fun b => if b = true then u x else some false
def orT (t u : Exn → Option Bool) : Exn → Option Bool := fun x => (t x).bind fun b => if b = true then some true else u x
def ifX (t : Exn → Option Bool) (f g : Exn → Option D) : Exn → Option D := fun x => (t x).bind fun b => if b = true then f x else g x
end
end
end DL
namespace DL
open PySem PySem.Spec L2
end DL
namespace DL
open PySem PySem.Spec L2
section
variable {S : SCx} {e e2 : Expr} {f g : Exn → Option D} {p q pos : Pos}
def reprI : D → Option D
  | .int i => if (PyData.int i).showable = true then some (.str (PyData.int i).shown) else none
  | _ => none
def reprIX (f : Exn → Option D) : Exn → Option D := fun x => (f x).bind reprI
def eqS : D → D → Option D := fun a b => match a, b with
  | .int i, .int j => some (.bool (decide (i = j)))
  | .str i, .str j => some (.bool (decide (i = j)))
  | _, _ => none
theorem eqS_s {i j : Str} : eqS (.str i) (.str j) = some (.bool (decide (i = j))) := rfl
def eqX (f g : Exn → Option D) : Exn → Option D := fun x => (f x).bind fun a => (g x).bind fun b => eqS a b
end
end DL
namespace DL
open PySem PySem.Spec L2 PyProof.Rows
def inS (i : Option Nat) (a : Addr) (τ : L2.St) : L2.St := match i with
  | none => τ
  | some j => τ.set j (some (.ref a))
abbrev HdF := Str × Option Nat × (Exn → Option D)
def unE (i : Option Nat) (ε : En) : En := match i with
  | none => ε
  | some j => ε.set j none
end DL
namespace DL
open PySem PySem.Spec L2
def lookF (f : Str) : List (D × D) → Option D
  | [] => none
  | (k, d) :: er => match k with
    | .str n => if n = f then some d else lookF f er
    | _ => none
theorem rpE_hd {H : Hp} {O : OS} {a : Addr} {c : D} {er : List (D × D)} {u : HO} (re : RpE H O a ((.dict [], c) :: er) u) : (∃ C dx fs, c = .int ((C : Nat) : Int) ∧ u = .ins C dx fs ∧ RpI H O er fs) ∨ ∃ C n dd fs, c = .tuple [.int ((C : Nat) : Int), .str n] ∧ u = exo a C dd ∧ ((dd = none ∧ er = []) ∨ ∃ p, dd = some p ∧ ¬ O p ∧ H p = some (exd p fs)) ∧ RpF H O er fs := by
  rcases re with ⟨kvs, _, key, _, _, _, ek, _⟩ | ⟨xs, _, _, key, _, _, _, _, ek, ⟨_, ks, ek2⟩, _⟩ | ⟨_, h⟩
  · cases key <;> cases ek
  · rw [ek2] at ek
    cases ek
  · exact h
end DL
namespace DLK
open PySem PySem.HandSPX
section
variable {prog : Program} {w : World} {A : Around} {E : Value → Shared → Prop} {R : Result → Shared → Prop} {h : Heap} {g : Array GenState} {d : Drawn} {t : Nat} {os : OsState}
variable {nm q : Str} {C N : Addr} {bs bm bmB : List Value} {hdct : Bool} {sn : List Str} {sub : List Value} {ab : Bool} {col : Option Bool} {dd : Option Addr} {k0 k1 k2 k3 k5 : Option Value} {B newId initId : String}
theorem check_new_k {M : Model} {kw : List (Str × Value)} (F : ExcBaseFacts B newId initId bmB) (hT : ∀ X : String, bm.contains (.type X) = bmB.contains (.type X)) {rest : List Value} {Q : Unit → Shared → Prop}
    (hC : h.get? C = some (excClassObj nm q C N bs bm hdct sn sub ab col dd k0 k1 k2 k3 k5 newId)) (hq : Q () ⟨h, g, d, t, os⟩) : wpAny M A (checkBuiltinCall newId ⟨.ref C :: rest, kw⟩) Q E ⟨h, g, d, t, os⟩ := by
  have hcont : (Value.ref C :: bm).contains (.type B) = true := by rw [List.contains_cons, hT, F.hasB, Bool.or_true]
  have hstar := F.noStar
  simp only [checkBuiltinCall, F.newKind, F.newSplit, F.newRow]
  repeat (first | refine wpAny_loadPart_at hC ?_ | (refine wpAny_isSubtype_exc hC ?_; rw [hcont]) | refine wpAny_staticBase_exc hC ?_ | refine wpAny_madeBy_exc hC ?_ | simp only [bne_self_eq_false, Bool.false_eq_true, if_false] | wp_step)
  exact hq
theorem new_k {kw : List (Str × Value)} (F : ExcBaseFacts B newId initId bmB) (hT : ∀ X : String, bm.contains (.type X) = bmB.contains (.type X)) {rest : List Value}
    (hC : h.get? C = some (excClassObj nm q C N bs bm hdct sn sub ab col dd k0 k1 k2 k3 k5 newId))
    (hq : R (.ok (.ret (.ref (h.objs.size + 1)))) ⟨(h.push { cls := .type "tuple", data := .seq rest.toArray }).push
      { cls := .ref C, data := .fields #[.ref h.objs.size, .none, .none, .none, .bool false, .none] }, g, d, t, os⟩) (hrest : rest.length ≤ sizeLine) :
    codeAny (model prog w) A (.builtin newId ⟨.ref C :: rest, kw⟩) R ⟨h, g, d, t, os⟩ := by
  have hends := F.ends
  have hcB : (Value.ref C :: bm).contains (.type B) = true := by rw [List.contains_cons, hT, F.hasB, Bool.or_true]
  have hcA : (Value.ref C :: bm).contains (.type "AttributeError") = false := by rw [List.contains_cons, hT, F.noAttr]; rfl
  have hcN : (Value.ref C :: bm).contains (.type "NameError") = false := by rw [List.contains_cons, hT, F.noName]; rfl
  refine codeAny_builtinAt F.entry ?_
  unfold Builtin.«BaseException.__new__»
  refine wpAt_bind ?_
  show wpAt _ _ _ (stack >>= _) _ _ _
  refine wpAt_bind (wpAt_stack fun p below => wpAt_of_wpAny ?_)
  wp_walk
  refine wpAt_of_wpAny ?_
  rw [F.owner]
  repeat (first | with_reducible refine wpAny_madeHere_exc F.canon hC ?_ | with_reducible refine wpAny_loadPart_at hC ?_ | (with_reducible refine wpAny_isSubtype_exc hC ?_; first | rw [hcB] | rw [hcA] | rw [hcN]) | wp_step)
  show R _ _
  rw [Heap.size_push]
  exact hq
theorem type_call_k {kw : List (Str × Value)} (F : ExcBaseFacts B newId initId bmB) (hT : ∀ X : String, bm.contains (.type X) = bmB.contains (.type X)) {rest : List Value} {fI : Addr} {Q : Fin → Shared → Prop}
    (hC : h.get? C = some (excClassObj nm q C N bs bm hdct sn sub ab col dd k0 k1 k2 k3 k5 newId))
    (hi : W.Looks (model prog w) h (typeLookup (.ref C) "__init__") (some (.ref fI))) (hb : ∀ self, W.Looks (model prog w) h (bindSpecial (.ref fI) self) (.ref fI, [self])) (hrest : rest.length ≤ sizeLine)
    (hq : codeAny (model prog w) A (.call (.ref fI) ⟨.ref (h.objs.size + 1) :: rest, kw⟩)
      (fun r s' => match r with | .ok (.ret v) => v = .none ∧ Q (.done (.ret (.ref (h.objs.size + 1)))) s' | .ok _ => False | .error e => E e s')
      ⟨(h.push (W.kdv_tup rest)).push (excO C h.objs.size), g, d, t, os⟩) :
    wpAny (model prog w) A (Builtin.«type.__call__» ⟨.ref C :: rest, kw⟩) Q E ⟨h, g, d, t, os⟩ := by
  repeat (first | with_reducible refine wpAny_loadPart_at hC ?_ | with_reducible refine wpAny_madeBy_exc hC ?_ | wp_step)
  refine codeAny_call_builtin_code (Code.quiet_builtin _ F.quiet) (check_new_k F hT hC ?_)
  refine new_k F hT hC ?_ hrest
  show wpAny _ _ _ _ _ _
  have k : ∀ b o, h.get? b = some o → ((h.push (W.kdv_tup rest)).push (excO C h.objs.size)).get? b = some o := fun b o e => Heap.get?_push_of_some _ (Heap.get?_push_of_some _ e)
  have hC₁ := k _ _ hC
  have hget : ((h.push (W.kdv_tup rest)).push (excO C h.objs.size)).get? (h.objs.size + 1) = some (excO C h.objs.size) := by heap_get
  have hcC : (Value.ref C :: bm).contains (.ref C) = true := by simp
  have i1 := hi.keeps k
  have b1 := (hb (.ref (h.objs.size + 1))).keeps k
  unfold isInstance
  repeat (first | with_reducible refine wpAny_loadPart_at hget ?_ | (with_reducible refine wpAny_isSubtype_exc hC₁ ?_; rw [hcC]) | wp_step)
  show wpAny _ _ (typeLookup (.ref C) _) _ _ _
  refine i1.at ?_
  refine wpAny_holding (wpAny_bind (b1.at ?_))
  refine wpAny_bind (wpAny_call (codeAny_mono hq fun r s' z => ?_))
  rcases r with e | (v | _ | _ | _) <;> first | exact z | exact z.elim | skip
  obtain ⟨rfl, z⟩ := z
  first
    | exact wpAny_pure (wpAny_pure z)
    | (wp_walk; exact z)
theorem call_k {kw : List (Str × Value)} (F : ExcBaseFacts B newId initId bmB) (hT : ∀ X : String, bm.contains (.type X) = bmB.contains (.type X)) {rest : List Value} {fI : Addr}
    (hC : h.get? C = some (excClassObj nm q C N bs bm hdct sn sub ab col dd k0 k1 k2 k3 k5 newId))
    (hi : W.Looks (model prog w) h (typeLookup (.ref C) "__init__") (some (.ref fI))) (hb : ∀ self, W.Looks (model prog w) h (bindSpecial (.ref fI) self) (.ref fI, [self])) (hrest : rest.length ≤ sizeLine)
    (hq : codeAny (model prog w) (A.under (.builtin "type.__call__" ⟨.ref C :: rest, kw⟩)) (.call (.ref fI) ⟨.ref (h.objs.size + 1) :: rest, kw⟩) (W.InitBack (h.objs.size + 1) R)
      ⟨(h.push (W.kdv_tup rest)).push (excO C h.objs.size), g, d, t, os⟩) :
    codeAny (model prog w) A (.call (.ref C) ⟨rest, kw⟩) R ⟨h, g, d, t, os⟩ := by
  have f1 := tc_lookup
  have f2 := tc_bind (.ref C)
  have hTy : (⟨h, g, d, t, os⟩ : Shared).TypeIs (.ref C) "type" := ⟨_, hC, rfl⟩
  refine codeAny_of_tree ?_
  show wpAny _ _ (callAny (.ref C) _) _ _ _
  repeat (any_goals (first | assumption | with_reducible refine wpAny_loadPart_at hC ?_ | wp_step))
  refine ⟨rfl, ?_⟩
  refine codeAny_call_builtin_at (Code.quiet_builtin _ (by decide +kernel)) entry_typeCall (wpAny_check_type_call_sub hC (type_call_k F hT hC hi hb hrest ?_))
  refine codeAny_mono hq fun r s' z => ?_
  rcases r with e | (v | _ | _ | _) <;> exact z
end
end DLK
namespace DL
open PySem PySem.Spec L2
/-- the keywords' values in the parameters' order -/
def permV {α : Type} (rev : Bool) (l : List α) : List α := if rev = true then l.reverse else l
/-- C(..): a new exception, then __init__ -/
def tMkV (C : Addr) (sp : Sp) (gV : List V → List V → List V) (t tk : TA) : TE := fun σ H Q => t σ H fun vs H1 => tk σ H1 fun zs H2 => vs.length ≤ 1000 ∧ ∀ a, H2 a = none → sp (gV (.ref a :: vs) zs) (upd H2 a (exo a C none)) (fun v H3 => v = .non ∧ Q (.ref a) H3) (fun _ _ _ => False)
section
variable {X : Cx} {CX : CXT} {k : Nat} {C fI : Addr} {fd : FuncData} {ps ks : List Str} {sp : Sp} {x : Str} {p pos : Pos} {e : Expr} {es : List Expr} {kws : List Keyword} {t tk : TA} {g : List Value → List Value → List Value} {gV : List V → List V → List V}
theorem run_mkV {pins : List (Addr × Obj)} {σ : L2.St} {H : Hp} {s : Shared} {Q : VK} {us ws : List Value} {vs zs : List V} (T : OexC X.K C) (iC : PySem.W.findIn X.K (.ref C) "__init__" = some (some (.ref fI))) (tI : PySem.W.typeIn X.K (.ref fI) = some (.type "function"))
    (F1 : FnOk X.prog X.w X.K X.mg X.base CX k fI fd ps sp) (hr : Room (k + 1) X.A) (hb : KBinds X.K fd ps ks g gV) (hx : Passes CX X (fun _ _ _ => False))
    (I : Inv X pins σ H s) (r : Vals vs us) (rz : Vals zs ws) (hz : vs.length ≤ 1000) (h : ∀ a, H a = none → sp (gV (.ref a :: vs) zs) (upd H a (exo a C none)) (fun v H3 => v = .non ∧ Q (.ref a) H3) (fun _ _ _ => False)) :
    wpAny (model X.prog X.w) X.A (call (.ref C) us (ks.zip ws)) (EP X pins σ Q) X.xe s := by
  obtain ⟨nm, q, N, bs, bm, sn, sub, ab, col, dd, k0, k1, k2, k3, k5, hC, hbm⟩ := T.cls
  obtain ⟨hp, gg, dr, tk', os⟩ := s
  have hsz : hp.objs.size ≤ hp.objs.size + 1 := Nat.le_succ _
  have hn : H (hp.objs.size + 1) = none := I.hok.fresh hsz
  have hq := h (hp.objs.size + 1) hn
  have kk : ∀ b o, hp.get? b = some o → ((hp.push (PySem.W.kdv_tup us)).push (PySem.HandSPX.excO C hp.objs.size)).get? b = some o := fun b o e => Heap.get?_push_of_some _ (Heap.get?_push_of_some _ e)
  have hget : ((hp.push (PySem.W.kdv_tup us)).push (PySem.HandSPX.excO C hp.objs.size)).get? (hp.objs.size + 1) = some (PySem.HandSPX.excO C hp.objs.size) := by heap_get
  have I2 : Inv X pins σ (upd H (hp.objs.size + 1) (exo (hp.objs.size + 1) C none)) ⟨(hp.push (PySem.W.kdv_tup us)).push (PySem.HandSPX.excO C hp.objs.size), gg, dr, tk', os⟩ :=
    I.laid (t' := tk') (a := hp.objs.size + 1) (o := exo (hp.objs.size + 1) C none) (h' := (hp.push (PySem.W.kdv_tup us)).push (PySem.HandSPX.excO C hp.objs.size)) kk hsz (exo_ok hget)
  have r1 : Vals (V.ref (hp.objs.size + 1) :: vs) (Value.ref (hp.objs.size + 1) :: us) := .cons rfl r
  have r2 := hb.rel r1 rz
  have hl : (g (Value.ref (hp.objs.size + 1) :: us) ws).length = ps.length := by rw [← r2.length]; exact F1.len _ _ _ _ hq
  have hus : us.length ≤ sizeLine := by
    rw [← Paired.length r, sizeLine_eq]
    omega
  refine wpAny_call (DLK.call_k F.excBase_ValueError (fun Y => PySem.HandSPX.refsVE_contains Y bm hbm) (I.kIn _ _ hC) (PySem.W.looks_findIn I.kIn iC) (fun self => PySem.W.bind_fn I.kIn self tI) hus
    (codeAny_mono (F1.run _ X.stack _ _ ⟨Value.ref (hp.objs.size + 1) :: us, ks.zip ws⟩ (g (Value.ref (hp.objs.size + 1) :: us) ws) _ _ (fun _ _ _ => False) (hr.make C us (ks.zip ws)) (I2.env0.make C us (ks.zip ws)) (hb.to _ (Value.ref (hp.objs.size + 1) :: us) ws I2.kIn hl) r2 hq) fun r s' hq' => ?_))
  cases r with
  | error er => exact hx pins σ _ _ er s' I2 hq'
  | ok fl =>
    cases fl with
    | ret u =>
      obtain ⟨v, H', I3, rv, ev, q3⟩ := I2.after hq'
      subst ev
      exact ⟨rv, ⟨V.ref (hp.objs.size + 1), H', I3, rfl, q3⟩⟩
    | next => exact False.elim hq'
    | brk => exact False.elim hq'
    | cont => exact False.elim hq'
theorem pe_mkV (T : OexC X.K C) (iC : PySem.W.findIn X.K (.ref C) "__init__" = some (some (.ref fI))) (tI : PySem.W.typeIn X.K (.ref fI) = some (.type "function"))
    (F1 : FnOk X.prog X.w X.K X.mg X.base CX k fI fd ps sp) (hr : Room (k + 1) X.A) (hb : KBinds X.K fd ps [] g gV) (hx : Passes CX X (fun _ _ _ => False)) (hg : Gl X x) (hm : X.mg x = some (.ref C)) (ha : PA X (e :: es) t)
    (hdb : (x == ("__debug__" : Str)) = false := by decide) (he : starEach (e :: es) X.env = (false, eval e X.env) :: starEach es X.env := by rfl) (hpl : (backTo pos (starEach es X.env)).any (·.1) = false := by rfl) :
    PE X (.Call (.Name x p) (e :: es) [] pos) (tMkV C sp gV t tNil) := by
  refine ⟨fun pins s σ H Q I h => ?_⟩
  refine wpAny_Call_Name_kw (ld_glob I hg hm ?_ hdb)
  refine PySem.W.callWith_K (h₀ := X.base) I.ok.mod.kin T.kC (thn (ha.run pos pins s σ H _ I h) fun us s1 ⟨vs, H1, I1, r1, hz, q1⟩ => ⟨I1.kIn, ?_⟩) he hpl
  exact run_mkV (ws := []) T iC tI F1 hr hb hx I1 r1 .nil hz q1
theorem pe_mkV0 (T : OexC X.K C) (iC : PySem.W.findIn X.K (.ref C) "__init__" = some (some (.ref fI))) (tI : PySem.W.typeIn X.K (.ref fI) = some (.type "function"))
    (F1 : FnOk X.prog X.w X.K X.mg X.base CX k fI fd ps sp) (hr : Room (k + 1) X.A) (hb : KBinds X.K fd ps [] g gV) (hx : Passes CX X (fun _ _ _ => False)) (hg : Gl X x) (hm : X.mg x = some (.ref C))
    (hdb : (x == ("__debug__" : Str)) = false := by decide) :
    PE X (.Call (.Name x p) [] [] pos) (tMkV C sp gV tNil tNil) := by
  refine ⟨fun pins s σ H Q I h => ?_⟩
  refine wpAny_Call_Name_kw (ld_glob I hg hm ?_ hdb)
  refine PySem.W.callWith_K0 I.kIn T.kC ?_
  exact run_mkV (us := []) (ws := []) T iC tI F1 hr hb hx I .nil .nil h.1 h.2
theorem pe_mkVK (T : OexC X.K C) (iC : PySem.W.findIn X.K (.ref C) "__init__" = some (some (.ref fI))) (tI : PySem.W.typeIn X.K (.ref fI) = some (.type "function"))
    (F1 : FnOk X.prog X.w X.K X.mg X.base CX k fI fd ps sp) (hr : Room (k + 1) X.A) (hb : KBinds X.K fd ps ks g gV) (hx : Passes CX X (fun _ _ _ => False)) (hg : Gl X x) (hm : X.mg x = some (.ref C)) (hkw : PK X kws tk)
    (hall : (backToKw pos (keywordEach kws X.env)).all (·.1.isSome) = true := by rfl) (hks : (backToKw pos (keywordEach kws X.env)).filterMap (·.1) = ks := by rfl) (hdb : (x == ("__debug__" : Str)) = false := by decide)
    (hpl : ((backTo pos (starEach [] X.env)).any (·.1) || (backToKw pos (keywordEach kws X.env)).any (·.1.isNone)) = false := by rfl) :
    PE X (.Call (.Name x p) [] kws pos) (tMkV C sp gV tNil tk) := by
  refine ⟨fun pins s σ H Q I h => ?_⟩
  refine wpAny_Call_Name_kw (ld_glob I hg hm ?_ hdb)
  refine PySem.W.callWith_KW0 (h₀ := X.base) I.ok.mod.kin T.kC hall ?_ hpl
  refine thn (hkw.run pos pins s σ H _ I h) fun ws s2 ⟨zs, H2, I2, rz, hz, q2⟩ => ⟨I2.kIn, ?_⟩
  rw [hks]
  exact run_mkV (us := []) (vs := []) T iC tI F1 hr hb hx I2 .nil rz hz q2
theorem kb_pos {K : PySem.W.Frag} (h : Binds K fd ps []) : KBinds K fd ps [] (fun us _ => us) (fun us _ => us) where
  to := fun s us ws hk hl => by
    have b := h s us hk (by rw [List.append_nil]; exact hl)
    rw [List.append_nil] at b
    exact b
  rel := fun r _ => r
end
abbrev exD (C : Addr) (n : Str) (er : List (D × D)) : D := .dict ((.dict [], .tuple [.int ((C : Nat) : Int), .str n]) :: er)
theorem nb_ex {H : Hp} {O : OS} {c : Int} {n : Str} {er : List (D × D)} {v : V} (h : Nb H O (.dict ((.dict [], .tuple [.int c, .str n]) :: er)) v) : ∃ a C dd fs, v = .ref a ∧ c = ((C : Nat) : Int) ∧ H a = some (exo a C dd) ∧ ((dd = none ∧ er = []) ∨ ∃ p, dd = some p ∧ H p = some (exd p fs)) ∧ RpF H O er fs := by
  obtain ⟨a, u, e, ha, re | ⟨_, qs⟩⟩ := h
  · rcases rpE_hd re with ⟨C, dx, fs, e2, _⟩ | ⟨C, n', dd, fs, e2, e3, h, q⟩
    · cases e2
    · injection e2 with e2
      injection e2 with e2 e4
      injection e2 with e2
      exact ⟨a, C, dd, fs, e, e2, by rw [ha, e3], h.imp id fun ⟨p, h1, _, h2⟩ => ⟨p, h1, h2⟩, q⟩
  · cases qs
/-- which class is under which, over several bases -/
def fieldsD : List Str → List D → List (D × D)
  | f :: fs, d :: ds => (.str f, d) :: fieldsD fs ds
  | _, _ => []
theorem fieldsD_nil : fieldsD [] [] = [] := rfl
theorem fieldsD_cons {f : Str} {fs : List Str} {d : D} {ds : List D} : fieldsD (f :: fs) (d :: ds) = (.str f, d) :: fieldsD fs ds := rfl
/-- making one -/
def dMkX (XC : Str → Addr) (x : Str) (fn : List Str) (ds : List D) : Option D := if ds.length = fn.length then some (exD (XC x) x (fieldsD fn ds)) else none
/-- reading a field -/
def dXf (XC : Str → Addr) (cs : List Str) (f : Str) : D → Option D
  | .dict ((.dict [], .tuple [.int c, .str n]) :: er) => if c = ((XC n : Nat) : Int) ∧ cs.contains n = true then lookF f er else none
  | _ => none
/-- isinstance -/
def dXis (XC : Str → Addr) (cs : List Str) (b : Str → Bool) : D → Option D
  | .dict ((.dict [], .tuple [.int c, .str n]) :: _) => if c = ((XC n : Nat) : Int) ∧ cs.contains n = true then some (.bool (b n)) else none
  | _ => none
theorem dXf_some {XC : Str → Addr} {cs : List Str} {f : Str} {d r : D} (h : dXf XC cs f d = some r) : ∃ n er, d = exD (XC n) n er ∧ n ∈ cs ∧ lookF f er = some r := by
  unfold dXf at h
  split at h
  · rename_i c n er
    split at h
    · rename_i e
      obtain ⟨e, m⟩ := e
      subst e
      exact ⟨n, er, rfl, by simpa using m, h⟩
    · cases h
  · cases h
theorem dXis_some {XC : Str → Addr} {cs : List Str} {b : Str → Bool} {d r : D} (h : dXis XC cs b d = some r) : ∃ n er, d = exD (XC n) n er ∧ n ∈ cs ∧ r = .bool (b n) := by
  unfold dXis at h
  split at h
  · rename_i c n er
    split at h
    · rename_i e
      obtain ⟨e, m⟩ := e
      subst e
      cases h
      exact ⟨n, er, rfl, by simpa using m, rfl⟩
    · cases h
  · cases h
theorem rpF_look {H : Hp} {O : OS} {f : Str} : ∀ {er : List (D × D)} {fs : List (Str × V)} {d : D}, RpF H O er fs → lookF f er = some d → ∃ v, fs.lookup f = some v ∧ Rp H O d v
  | [], _, _, _, h => by cases h
  | (k, y) :: er, fs, d, ⟨n, v, l, ek, rp, q⟩, h => by
    subst ek
    have h : (if n = f then some y else lookF f er) = some d := h
    by_cases c : n = f
    · rw [if_pos c] at h
      cases h
      subst c
      exact ⟨v, l, rp⟩
    · rw [if_neg c] at h
      exact rpF_look q h
structure ExV (mg : Str → Option Value) (XC : Str → Addr) (cs : List Str) : Prop where
  at_ : ∀ c ∈ cs, mg c = some (.ref (XC c))
theorem exo_inst {X : Cx} {H : Hp} {pins : List (Addr × Obj)} {σ : L2.St} {s : Shared} {a C : Addr} {dd : Option Addr} {fs : List (Str × V)} {er : List (D × D)} (I : Inv X pins σ H s) (ha : H a = some (exo a C dd)) (h : (dd = none ∧ er = []) ∨ ∃ p, dd = some p ∧ H p = some (exd p fs)) :
    ∃ (oe : Obj) (od : Option Obj), PySem.W.InstAt s.heap a oe C od ∧ ∀ f v, er ≠ [] → fs.lookup f = some v → ∃ u ob, od = some ob ∧ PySem.W.lookIn f ob = some (some u) ∧ RelV v u := by
  obtain ⟨t, he⟩ := exo_at I.hok ha
  rcases h with ⟨rfl, e⟩ | ⟨p, rfl, hp⟩
  · exact ⟨_, none, ⟨he, rfl, rfl, trivial⟩, fun f v n => (n e).elim⟩
  · obtain ⟨mA, hn, hr⟩ := exd_at I.hok hp
    obtain ⟨ob, ho, hl⟩ := lookIn_ns hn
    refine ⟨_, some ob, ⟨he, rfl, rfl, ho⟩, fun f v _ lf => ?_⟩
    obtain ⟨u, hu, ru⟩ := RelO.some_of (v := v) (o := mA f) (by rw [← lf]; exact hr f)
    exact ⟨u, ob, rfl, by rw [hl, hu], ru⟩
end DL
namespace FL
open PySem PySem.Spec L2 DL
inductive R (α : Type) where
  | ok (a : α) (ε : En)
  | ex (x : Exn) (ε : En)
inductive Fl where
  | nx
  | rt (d : DL.D)
  | bk
  | ct
inductive RD where
  | ok (d : DL.D) (outs : List DL.D)
  | ex (x : Exn) (outs : List DL.D)
abbrev FP := En → Option DL.D
abbrev FT := En → Option Bool
abbrev M (α : Type) := En → Option (R α)
abbrev FS := M Fl
def RX.no : DL.RX := fun _ _ => False
def bd {α β : Type} (m : Option (R α)) (k : α → En → Option (R β)) : Option (R β) := match m with
  | some (.ok a ε) => k a ε
  | some (.ex x ε) => some (.ex x ε)
  | none => none
def K {α : Type} (Rx : RX) (Q : α → En → Prop) : Option (R α) → Prop
  | some (.ok a ε) => Q a ε
  | some (.ex x ε) => Rx x ε
  | none => False
section
variable {α β γ : Type} {Rx : RX}
theorem bd_ok {a : α} {ε : En} {k : α → En → Option (R β)} : bd (some (.ok a ε)) k = k a ε := rfl
theorem bd_ex {x : Exn} {ε : En} {k : α → En → Option (R β)} : bd (some (.ex x ε)) k = some (.ex x ε) := rfl
theorem K_bd {Q : β → En → Prop} {m : Option (R α)} {k : α → En → Option (R β)} : K Rx Q (bd m k) → K Rx (fun a ε => K Rx Q (k a ε)) m := fun h => by
  cases m with
  | none => exact h
  | some r => cases r <;> exact h
theorem K_mono {Q Q' : α → En → Prop} {m : Option (R α)} (h : ∀ a ε, Q a ε → Q' a ε) (q : K Rx Q m) : K Rx Q' m := by
  cases m with
  | none => exact q
  | some r =>
    cases r with
    | ok a ε => exact h _ _ q
    | ex x ε => exact q
theorem K_obind {Q : β → En → Prop} {o : Option γ} {f : γ → Option (R β)} (q : K Rx Q (o.bind f)) : ∃ c, o = some c ∧ K Rx Q (f c) := by
  cases o with
  | none => exact q.elim
  | some c => exact ⟨c, rfl, q⟩
theorem K_omap {Q : β → En → Prop} {o : Option γ} {f : γ → R β} (q : K Rx Q (o.map f)) : ∃ c, o = some c ∧ K Rx Q (some (f c)) := by
  cases o with
  | none => exact q.elim
  | some c => exact ⟨c, rfl, q⟩
/-- a piece that changes nothing -/
def lf (p : En → Option α) : M α := fun ε => (p ε).map fun a => .ok a ε
end
def IE (Rx : RX) (w : WE) (m : M DL.D) : Prop := ∀ ε Q, K Rx Q (m ε) → w ε Q
def IP (w : WE) (p : FP) : Prop := ∀ ε d Q, p ε = some d → Q d ε → w ε Q
def IT (Rx : RX) (w : WT) (m : M Bool) : Prop := ∀ ε Q, K Rx Q (m ε) → w ε Q
def ITP (w : WT) (p : FT) : Prop := ∀ ε b Q, p ε = some b → Q b ε → w ε Q
def KS (Rx : RX) (E : WEnds) (m : Option (R Fl)) : Prop := K Rx (fun fl ε => match fl with
  | .nx => E.nx ε
  | .rt d => E.rt d ε
  | .bk => E.bk ε
  | .ct => E.ct ε) m
def IS (Rx : RX) (w : WS) (m : FS) : Prop := ∀ E ε, KS Rx E (m ε) → w E ε
section
variable {Rx : RX} {w u : WE} {p q : FP}
theorem IP.e (h : IP w p) : IE Rx w (lf p) := fun ε Q k => by
  obtain ⟨d, e, k⟩ := K_omap k
  exact h ε d Q e k
theorem ITP.t {w : WT} {p : FT} (h : ITP w p) : IT Rx w (lf p) := fun ε Q k => by
  obtain ⟨d, e, k⟩ := K_omap k
  exact h ε d Q e k
def pC (d : DL.D) : FP := fun _ => some d
def pNm (i : Nat) : FP := fun ε => (ε[i]?).join
theorem join_some {α : Type} {o : Option (Option α)} {d : α} (h : o.join = some d) : o = some (some d) := by
  cases o with
  | none => cases h
  | some x => exact congrArg some h
theorem ip_C {d : DL.D} : IP (eC d) (pC d) := fun ε x Q e q => by cases e; exact q
theorem ip_nm {i : Nat} : IP (eNm i) (pNm i) := fun ε x Q e q => ⟨x, join_some e, q⟩
def IPO (o : Op) (p : FP) : Prop := ∀ (ε : En) (d : DL.D) (Q : (En → Option DL.D) → En → Prop), p ε = some d → (∀ x, x ε = some d → Q x ε) → oEv o ε Q
theorem IP.o (h : IP w p) : IPO (.ex w) p := fun ε d Q e q => h ε d _ e (q _ rfl)
theorem ipo_nm {i : Nat} : IPO (.nm i) (pNm i) := fun ε d Q e q => ⟨⟨d, join_some e⟩, q _ e⟩
def pBin (f : DL.D → DL.D → Option DL.D) (a b : FP) : FP := fun ε => (a ε).bind fun x => (b ε).bind fun y => f x y
theorem ip_bin {f : DL.D → DL.D → Option DL.D} {oa ob : Op} {a b : FP} (ha : IPO oa a) (hb : IPO ob b) : IP (eBin f oa ob) (pBin f a b) := fun ε d Q e q => by
  obtain ⟨x, e1, e⟩ := Option.bind_eq_some_iff.mp e
  obtain ⟨y, e2, e⟩ := Option.bind_eq_some_iff.mp e
  exact ha ε x _ e1 fun fx ex => hb ε y _ e2 fun fy ey => ⟨x, y, d, ex, ey, e, q⟩
def pUn (f : DL.D → Option DL.D) (a : FP) : FP := fun ε => (a ε).bind f
theorem ip_un {f : DL.D → Option DL.D} {oa : Op} {a : FP} (ha : IPO oa a) : IP (eUn f oa) (pUn f a) := fun ε d Q e q => by
  obtain ⟨x, e1, e⟩ := Option.bind_eq_some_iff.mp e
  exact ha ε x _ e1 fun fx ex => ⟨x, d, ex, e, q⟩
def bO {β : Type} (d : DL.D) (k : Bool → Option β) : Option β := match d with
  | .bool b => k b
  | _ => none
theorem bO_b {β : Type} {b : Bool} {k : Bool → Option β} : bO (.bool b) k = k b := rfl
theorem bO_some {β : Type} {d : DL.D} {k : Bool → Option β} {r : β} (h : bO d k = some r) : ∃ b, d = .bool b ∧ k b = some r := by
  cases d <;> first | exact ⟨_, rfl, h⟩ | cases h
def pChain (f g : DL.D → DL.D → Option DL.D) (a b c : FP) : FP := fun ε => (a ε).bind fun x => (b ε).bind fun y => (f x y).bind fun k => bO k fun k => if k = true then (c ε).bind fun z => g y z else some (.bool false)
def pAnd (a b : FP) : FP := fun ε => (a ε).bind fun x => bO x fun k => if k = true then b ε else some (.bool false)
def pOr (a b : FP) : FP := fun ε => (a ε).bind fun x => bO x fun k => if k = true then some (.bool true) else b ε
def pNot (a : FP) : FP := fun ε => (a ε).bind fun x => bO x fun k => some (.bool !k)
def pIf {α : Type} (t : FT) (a b : En → Option α) : En → Option α := fun ε => (t ε).bind fun k => if k = true then a ε else b ε
def tP (a : FP) : FT := fun ε => (a ε).bind fun x => bO x some
def tAnd (a b : FT) : FT := fun ε => (a ε).bind fun k => if k = true then b ε else some false
def tOr (a b : FT) : FT := fun ε => (a ε).bind fun k => if k = true then some true else b ε
def tNot (a : FT) : FT := fun ε => (a ε).map fun k => !k
def tYes : FT := fun _ => some true
theorem it_P {a : FP} (ha : IP w a) : ITP (tE w) (tP a) := fun ε b Q e q => by
  obtain ⟨x, e1, e⟩ := Option.bind_eq_some_iff.mp e
  obtain ⟨k, rfl, e⟩ := bO_some e
  cases e
  exact ha ε _ _ e1 ⟨_, rfl, q⟩
theorem it_and {w u : WT} {a b : FT} (ha : ITP w a) (hb : ITP u b) : ITP (tAndW w u) (tAnd a b) := fun ε d Q e q => by
  obtain ⟨k, e1, e⟩ := Option.bind_eq_some_iff.mp e
  refine ha ε _ _ e1 ?_
  cases k with
  | true => exact hb ε _ _ e q
  | false => cases e; exact q
theorem it_or {w u : WT} {a b : FT} (ha : ITP w a) (hb : ITP u b) : ITP (tOrW w u) (tOr a b) := fun ε d Q e q => by
  obtain ⟨k, e1, e⟩ := Option.bind_eq_some_iff.mp e
  refine ha ε _ _ e1 ?_
  cases k with
  | false => exact hb ε _ _ e q
  | true => cases e; exact q
theorem it_not {w : WT} {a : FT} (ha : ITP w a) : ITP (tNotW w) (tNot a) := fun ε d Q e q => by
  obtain ⟨k, e1, e⟩ := Option.map_eq_some_iff.mp e
  subst e
  exact ha ε _ _ e1 q
theorem it_yes : ITP tYesW tYes := fun ε d Q e q => by cases e; exact q
def pArgs : List FP → En → Option (List DL.D)
  | [], _ => some []
  | p :: ps, ε => (p ε).bind fun d => (pArgs ps ε).bind fun ds => some (d :: ds)
theorem pArgs_nil {ε : En} : pArgs [] ε = some [] := rfl
theorem pArgs_cons {p : FP} {ps : List FP} {ε : En} : pArgs (p :: ps) ε = (p ε).bind fun d => (pArgs ps ε).bind fun ds => some (d :: ds) := rfl
def IPA : List Op → List FP → Prop
  | [], [] => True
  | o :: os, p :: ps => IPO o p ∧ IPA os ps
  | _, _ => False
theorem ipa_n : IPA [] [] := trivial
theorem ipa_c {o : Op} {os : List Op} {p : FP} {ps : List FP} (h : IPO o p) (k : IPA os ps) : IPA (o :: os) (p :: ps) := ⟨h, k⟩
theorem ipa_ev : ∀ {os : List Op} {ps : List FP} {ε : En} {ds : List DL.D} {Q : List (En → Option DL.D) → En → Prop}, IPA os ps → pArgs ps ε = some ds → (∀ xs, vals ε xs ds → Q xs ε) → aEv os ε Q
  | [], [], _, ds, _, _, e, q => by cases e; exact q [] rfl
  | o :: os, p :: ps, ε, ds, Q, h, e, q => by
    obtain ⟨d, e1, e⟩ := Option.bind_eq_some_iff.mp e
    obtain ⟨r, e2, e⟩ := Option.bind_eq_some_iff.mp e
    cases e
    exact h.1 ε d _ e1 fun x ex => ipa_ev h.2 e2 fun xs v => q _ ⟨d, r, rfl, ex, v⟩
  | [], _ :: _, _, _, _, h, _, _ => h.elim
  | _ :: _, [], _, _, _, h, _, _ => h.elim
def IPC : List WE → List FP → Prop
  | [], [] => True
  | o :: os, p :: ps => IP o p ∧ IPC os ps
  | _, _ => False
theorem ipc_n : IPC [] [] := trivial
theorem ipc_c {o : WE} {os : List WE} {p : FP} {ps : List FP} (h : IP o p) (k : IPC os ps) : IPC (o :: os) (p :: ps) := ⟨h, k⟩
theorem ipc_ev : ∀ {os : List WE} {ps : List FP} {ε : En} {ds : List DL.D} {Q : List DL.D → En → Prop}, IPC os ps → pArgs ps ε = some ds → Q ds ε → cEv os ε Q
  | [], [], _, ds, _, _, e, q => by cases e; exact q
  | o :: os, p :: ps, ε, ds, Q, h, e, q => by
    obtain ⟨d, e1, e⟩ := Option.bind_eq_some_iff.mp e
    obtain ⟨r, e2, e⟩ := Option.bind_eq_some_iff.mp e
    cases e
    exact h.1 ε d _ e1 (ipc_ev h.2 e2 q)
  | [], _ :: _, _, _, _, h, _, _ => h.elim
  | _ :: _, [], _, _, _, h, _, _ => h.elim
theorem pArgs_len : ∀ {ps : List FP} {ε : En} {ds : List DL.D}, pArgs ps ε = some ds → ds.length = ps.length
  | [], _, _, e => by cases e; rfl
  | p :: ps, ε, ds, e => by
    obtain ⟨d, e1, e⟩ := Option.bind_eq_some_iff.mp e
    obtain ⟨r, e2, e⟩ := Option.bind_eq_some_iff.mp e
    cases e
    rw [List.length_cons, List.length_cons, pArgs_len e2]
def pApp (f : List DL.D → Option DL.D) (ps : List FP) : FP := fun ε => (pArgs ps ε).bind f
theorem ip_app {f : List DL.D → Option DL.D} {os : List Op} {ps : List FP} (h : IPA os ps) : IP (eApp f os) (pApp f ps) := fun ε d Q e q => by
  obtain ⟨ds, e1, e⟩ := Option.bind_eq_some_iff.mp e
  exact ipa_ev h e1 fun xs v => ⟨ds, d, v, e, q⟩
def pTup (ps : List FP) : FP := fun ε => (pArgs ps ε).map .tuple
def pLst (ps : List FP) : FP := fun ε => (pArgs ps ε).map .list
theorem ip_tup {ws : List WE} {ps : List FP} (h : IPC ws ps) (l : ps.length ≤ 1000 := by decide) : IP (eTup ws) (pTup ps) := fun ε d Q e q => by
  obtain ⟨ds, e1, e⟩ := Option.map_eq_some_iff.mp e
  subst e
  exact ipc_ev h e1 ⟨le_size (by rw [pArgs_len e1]; exact l), q⟩
theorem ip_lst {ws : List WE} {ps : List FP} (h : IPC ws ps) (l : ps.length ≤ 1000 := by decide) : IP (eLst ws) (pLst ps) := fun ε d Q e q => by
  obtain ⟨ds, e1, e⟩ := Option.map_eq_some_iff.mp e
  subst e
  exact ipc_ev h e1 ⟨le_size (by rw [pArgs_len e1]; exact l), q⟩
/-- a function of the text that only tells a value -/
abbrev FD := List DL.D → Option DL.D
abbrev FM := List DL.D → Option RD
def spP (F : FD) : DSp := fun ds Q => ∃ d, F ds = some d ∧ Q d []
theorem spP_mono {F : FD} : MonoD (spP F) := fun ds Q Q' h ⟨d, e, q⟩ => ⟨d, e, h _ _ q⟩
theorem putO_none : ∀ {pk : List Kd} {os : List Op} {ε : En}, putO pk os [] ε = ε
  | [], _, _ => rfl
  | .val :: ks, [], _ => rfl
  | .brw :: ks, [], _ => rfl
  | .own :: ks, [], _ => rfl
  | .io :: ks, [], _ => rfl
  | .st :: ks, [], _ => rfl
  | .sl :: ks, [], _ => rfl
  | .sl :: ks, o :: os, ε => putO_none (pk := ks) (os := os)
  | .st :: ks, .ex _ :: os, ε => putO_none (pk := ks) (os := os)
  | .st :: ks, .nm _ :: os, ε => putO_none (pk := ks) (os := os)
  | .val :: ks, o :: os, ε => putO_none (pk := ks) (os := os)
  | .brw :: ks, o :: os, ε => putO_none (pk := ks) (os := os)
  | .own :: ks, o :: os, ε => putO_none (pk := ks) (os := os)
  | .io :: ks, .ex _ :: os, ε => putO_none (pk := ks) (os := os)
  | .io :: ks, .nm _ :: os, ε => putO_none (pk := ks) (os := os)
def pCall (F : FD) (ps : List FP) : FP := fun ε => (pArgs ps ε).bind F
theorem ip_call {F : FD} {pk : List Kd} {os : List Op} {ps : List FP} (h : IPA os ps) : IP (eCall pk (spP F) os) (pCall F ps) := fun ε d Q e q => by
  obtain ⟨ds, e1, e⟩ := Option.bind_eq_some_iff.mp e
  exact ipa_ev h e1 fun xs v => ⟨ds, v, d, e, by show Q d (putO pk os [] ε); rw [putO_none]; exact q⟩
def iO : DL.D → Option Int
  | .int i => some i
  | _ => none
theorem iO_i {i : Int} : iO (.int i) = some i := rfl
def ptF : Option FP → En → Option (Option Int)
  | none, _ => some none
  | some p, ε => (p ε).bind fun d => (iO d).bind fun i => some (some i)
theorem ptF_no {ε : En} : ptF none ε = some none := rfl
theorem ptF_ex {p : FP} {ε : En} : ptF (some p) ε = (p ε).bind fun d => (iO d).bind fun i => some (some i) := rfl
def pSl (f : DL.D → Option Int → Option Int → Option DL.D) (a : FP) (lo hi : Option FP) : FP := fun ε => (a ε).bind fun x => (ptF lo ε).bind fun l => (ptF hi ε).bind fun u => f x l u
def sO {β : Type} (d : DL.D) (k : Str → Option β) : Option β := match d with
  | .str b => k b
  | _ => none
theorem sO_s {β : Type} {b : Str} {k : Str → Option β} : sO (.str b) k = k b := rfl
def pM1 (f : Str → DL.D → Option DL.D) (a b : FP) : FP := fun ε => (a ε).bind fun x => sO x fun z => (b ε).bind fun y => f z y
abbrev FI := En → Option (List DL.D)
/-- sl: slots that stay while it is walked -/
def II (sl : List Nat) (wi : WI) (f : FI) : Prop := ∀ (ε : En) (ds : List DL.D) (Q : List DL.D → (En → Prop) → En → Prop), f ε = some ds → (∀ inv : En → Prop, (∀ ε', (∀ i ∈ sl, ε'[i]? = ε[i]?) → inv ε') → Q ds inv ε) → wi ε Q
def iSeq (p : FP) : FI := fun ε => (p ε).bind seqD
theorem ii_seq {sl : List Nat} (h : IP w p) : II sl (wSeq w) (iSeq p) := fun ε ds Q e q => by
  obtain ⟨d, e1, e⟩ := Option.bind_eq_some_iff.mp e
  exact h ε d _ e1 ⟨ds, e, q _ fun _ _ => trivial⟩
def iApp (f : List DL.D → Option (List DL.D)) (ps : List FP) : FI := fun ε => (pArgs ps ε).bind f
theorem ii_app {sl : List Nat} {f : List DL.D → Option (List DL.D)} {os : List Op} {ps : List FP} (h : IPA os ps) : II sl (wApp f os) (iApp f ps) := fun ε ds Q e q => by
  obtain ⟨xs, e1, e⟩ := Option.bind_eq_some_iff.mp e
  exact ipa_ev h e1 fun fs v => ⟨xs, ds, v, e, q _ fun _ _ => trivial⟩
def iZip (a b : FP) : FI := fun ε => (a ε).bind fun x => (b ε).bind fun y => zip2 x y
end
section
def lcF {α β : Type} (q : α → Option Bool) (e : α → Option β) : List α → Option (List β)
  | [] => some []
  | a :: r => (q a).bind fun b => if b = true then (e a).bind fun y => (lcF q e r).bind fun ys => some (y :: ys) else lcF q e r
def pLc (it : FI) (t : Tg) (q : FT) (e : FP) (vs : List Nat) : FP := fun ε => (it ε).bind fun ds => if ds.length ≤ sizeLine then (lcF (fun d => (bindD t d (wipeE ε vs)).bind q) (fun d => (bindD t d (wipeE ε vs)).bind e) ds).bind fun ys => some (.list ys) else none
mutual
theorem bind_out : ∀ {t : Tg} {d : DL.D} {ε ε' : En} {vs : List Nat}, (∀ j ∈ slots t, j ∈ vs) → bindD t d ε = some ε' → ε'.length = ε.length ∧ ∀ j, j ∉ vs → ε'[j]? = ε[j]?
  | .nm i, d, ε, ε', vs, hs, e => by
    cases e
    refine ⟨List.length_set .., fun j hj => get_set_ne fun z => hj (z ▸ hs i List.mem_cons_self)⟩
  | .tup ts, d, ε, ε', vs, hs, e => by
    cases d with
    | tuple ds => exact bindL_out (ts := ts) (ds := ds) hs e
    | none => cases e
    | bool _ => cases e
    | int _ => cases e
    | str _ => cases e
    | list _ => cases e
    | dict _ => cases e
theorem bindL_out : ∀ {ts : List Tg} {ds : List DL.D} {ε ε' : En} {vs : List Nat}, (∀ j ∈ slotsL ts, j ∈ vs) → bindL ts ds ε = some ε' → ε'.length = ε.length ∧ ∀ j, j ∉ vs → ε'[j]? = ε[j]?
  | [], ds, ε, ε', vs, _, e => by
    cases ds with
    | nil => cases e; exact ⟨rfl, fun _ _ => rfl⟩
    | cons _ _ => cases e
  | t :: ts, ds, ε, ε', vs, hs, e => by
    cases ds with
    | nil => cases e
    | cons d r =>
      obtain ⟨ε1, e1, e⟩ := Option.bind_eq_some_iff.mp (show (bindD t d ε).bind (fun ε' => bindL ts r ε') = some ε' from e)
      obtain ⟨l1, k1⟩ := bind_out (fun j hj => hs j (List.mem_append_left _ hj)) e1
      obtain ⟨l2, k2⟩ := bindL_out (fun j hj => hs j (List.mem_append_right _ hj)) e
      exact ⟨l2.trans l1, fun j hj => (k2 j hj).trans (k1 j hj)⟩
end
theorem wipe_len (ε : En) : ∀ vs : List Nat, (wipeE ε vs).length = ε.length
  | [] => rfl
  | v :: vs => by rw [wipeE, List.length_set, wipe_len ε vs]
theorem wipe_at (ε : En) : ∀ (vs : List Nat) (j : Nat), j ∈ vs → j < ε.length → (wipeE ε vs)[j]? = some none
  | v :: vs, j, hj, hl => by
    rw [wipeE]
    by_cases e : v = j
    · subst e
      rw [List.getElem?_set_self (by rw [wipe_len]; exact hl)]
    · rw [get_set_ne e]
      exact wipe_at ε vs j ((List.mem_cons.mp hj).elim (fun z => (e z.symm).elim) id) hl
theorem wipe_ext {ε ε' : En} {vs : List Nat} (l : ε'.length = ε.length) (k : ∀ j, j ∉ vs → ε'[j]? = ε[j]?) : wipeE ε' vs = wipeE ε vs := by
  refine List.ext_getElem? fun j => ?_
  by_cases h : j ∈ vs
  · by_cases hl : j < ε.length
    · rw [wipe_at ε vs j h hl, wipe_at ε' vs j h (by rw [l]; exact hl)]
    · rw [List.getElem?_eq_none (by rw [wipe_len, l]; omega), List.getElem?_eq_none (by rw [wipe_len]; omega)]
  · rw [wipeE_eq _ vs j h, wipeE_eq _ vs j h, k j h]
theorem rest_len (ε ε1 : En) : ∀ vs : List Nat, (restE ε ε1 vs).length = ε.length
  | [] => rfl
  | v :: vs => by rw [restE, List.length_set, rest_len ε ε1 vs]
theorem rest_get (ε ε1 : En) : ∀ (vs : List Nat) (j : Nat), (restE ε ε1 vs)[j]? = if j ∈ vs ∧ j < ε.length then some (ε1[j]?).join else ε[j]?
  | [], j => by simp [restE]
  | v :: vs, j => by
    rw [restE]
    by_cases e : v = j
    · subst e
      by_cases hl : v < ε.length
      · rw [List.getElem?_set_self (by rw [rest_len]; exact hl), if_pos ⟨List.mem_cons_self, hl⟩]
      · rw [List.getElem?_eq_none (by rw [List.length_set, rest_len]; omega), if_neg fun z => hl z.2, List.getElem?_eq_none (by omega)]
    · rw [get_set_ne e, rest_get ε ε1 vs j]
      have : (j ∈ v :: vs ∧ j < ε.length) ↔ (j ∈ vs ∧ j < ε.length) := by
        rw [List.mem_cons]
        exact ⟨fun z => ⟨z.1.elim (fun y => (e y.symm).elim) id, z.2⟩, fun z => ⟨.inr z.1, z.2⟩⟩
      by_cases h : j ∈ vs ∧ j < ε.length
      · rw [if_pos h, if_pos (this.mpr h)]
      · rw [if_neg h, if_neg fun z => h (this.mp z)]
theorem rest_wipe (ε : En) (vs : List Nat) : restE (wipeE ε vs) ε vs = ε := by
  refine List.ext_getElem? fun j => ?_
  rw [rest_get, wipe_len]
  by_cases h : j ∈ vs ∧ j < ε.length
  · rw [if_pos h, List.getElem?_eq_getElem h.2]
    rfl
  · rw [if_neg h]
    by_cases hv : j ∈ vs
    · rw [List.getElem?_eq_none (by rw [wipe_len]; exact Nat.le_of_not_lt fun z => h ⟨hv, z⟩), List.getElem?_eq_none (Nat.le_of_not_lt fun z => h ⟨hv, z⟩)]
    · rw [wipeE_eq _ vs j hv]
theorem ip_lc {sl vs : List Nat} {wi : WI} {it : FI} {t : Tg} {wt : WT} {q : FT} {we : WE} {e : FP} (hi : II sl wi it) (hq : ITP wt q) (he : IP we e) (hs : subsetB (slots t) vs = true := by rfl) (hsl : apartB sl vs = true := by rfl) : IP (eLc wi t wt we vs) (pLc it t q e vs) := fun ε d Q ee qq => by
  obtain ⟨ds, e1, ee⟩ := Option.bind_eq_some_iff.mp ee
  refine hi ε ds _ e1 fun inv hinv => ?_
  have hw : inv (wipeE ε vs) := hinv _ fun i hi => wipeE_eq ε vs i (apartB_ok hsl i hi)
  have l : ds.length ≤ sizeLine := Classical.byContradiction fun l => by rw [if_neg l] at ee; cases ee
  rw [if_pos l] at ee
  obtain ⟨ys, e2, ee⟩ := Option.bind_eq_some_iff.mp ee
  cases ee
  have key : ∀ (ds : List DL.D) (acc ys : List DL.D) (P : List DL.D → En → Prop), acc.length + ds.length ≤ sizeLine → lcF (fun d => (bindD t d (wipeE ε vs)).bind q) (fun d => (bindD t d (wipeE ε vs)).bind e) ds = some ys → P (acc ++ ys) (wipeE ε vs) → lcGo t wt we vs inv ds acc (wipeE ε vs) P := by
    intro ds
    induction ds with
    | nil =>
      intro acc ys P _ h p
      cases h
      rw [List.append_nil] at p
      exact ⟨hw, p⟩
    | cons d r ih =>
      intro acc ys P hl h p
      rw [List.length_cons] at hl
      obtain ⟨b, h1, h⟩ := Option.bind_eq_some_iff.mp h
      obtain ⟨ε1, h2, h3⟩ := Option.bind_eq_some_iff.mp h1
      have bo := bind_out (subsetB_ok hs) h2
      have w1 : wipeE ε1 vs = wipeE ε vs := (wipe_ext bo.1 bo.2).trans (wipe_ext (wipe_len ε vs) fun j hj => wipeE_eq ε vs j hj)
      refine ⟨hw, ε1, h2, hq ε1 b _ h3 ?_⟩
      cases b with
      | true =>
        obtain ⟨y, h4, h⟩ := Option.bind_eq_some_iff.mp h
        obtain ⟨zs, h5, h⟩ := Option.bind_eq_some_iff.mp h
        cases h
        have h4 : (bindD t d (wipeE ε vs)).bind e = some y := h4
        rw [h2] at h4
        rw [if_pos rfl]
        refine he ε1 y _ h4 ⟨by omega, ?_⟩
        rw [w1]
        refine ih (acc ++ [y]) zs P ?_ h5 (by rw [List.append_assoc]; exact p)
        rw [List.length_append, List.length_singleton]
        omega
      | false =>
        show lcGo t wt we vs inv r acc (wipeE ε1 vs) P
        rw [w1]
        exact ih acc ys P (by omega) h p
  refine key ds [] ys _ (by rw [List.length_nil]; omega) e2 ?_
  rw [rest_wipe]
  exact qq
end
end FL
namespace FL
open PySem PySem.Spec L2 DL
abbrev MV := M (En → Option DL.D)
theorem slF_at {i : Nat} {ε : En} : slF i ε = (ε[i]?).join := rfl
section
variable {Rx : RX} {w u : WE}
def IMO (Rx : RX) (o : Op) (m : MV) : Prop := ∀ ε Q, K Rx Q (m ε) → oEv o ε Q
def mEx (m : M DL.D) : MV := fun ε => bd (m ε) fun d ε1 => some (.ok (fun _ => some d) ε1)
def mNm (i : Nat) : MV := fun ε => ((ε[i]?).join).bind fun _ => some (.ok (slF i) ε)
theorem IE.o {m : M DL.D} (h : IE Rx w m) : IMO Rx (.ex w) (mEx m) := fun ε Q k => h ε _ (K_mono (fun _ _ z => z) (K_bd k))
theorem imo_nm {i : Nat} : IMO Rx (.nm i) (mNm i) := fun ε Q k => by
  obtain ⟨d, e, k⟩ := K_obind k
  exact ⟨⟨d, join_some e⟩, k⟩
def mArgs : List MV → M (List (En → Option DL.D))
  | [], ε => some (.ok [] ε)
  | m :: ms, ε => bd (m ε) fun x ε1 => bd (mArgs ms ε1) fun xs ε2 => some (.ok (x :: xs) ε2)
theorem mArgs_nil {ε : En} : mArgs [] ε = some (.ok [] ε) := rfl
theorem mArgs_cons {m : MV} {ms : List MV} {ε : En} : mArgs (m :: ms) ε = bd (m ε) fun x ε1 => bd (mArgs ms ε1) fun xs ε2 => some (.ok (x :: xs) ε2) := rfl
def IMA (Rx : RX) : List Op → List MV → Prop
  | [], [] => True
  | o :: os, p :: ps => IMO Rx o p ∧ IMA Rx os ps
  | _, _ => False
theorem ima_n : IMA Rx [] [] := trivial
theorem ima_c {o : Op} {os : List Op} {p : MV} {ps : List MV} (h : IMO Rx o p) (k : IMA Rx os ps) : IMA Rx (o :: os) (p :: ps) := ⟨h, k⟩
theorem ima_ev : ∀ {os : List Op} {ms : List MV} {ε : En} {Q : List (En → Option DL.D) → En → Prop}, IMA Rx os ms → K Rx Q (mArgs ms ε) → aEv os ε Q
  | [], [], _, _, _, k => k
  | o :: os, m :: ms, ε, Q, h, k => h.1 ε _ (K_mono (fun x ε1 k => ima_ev h.2 (K_mono (fun _ _ z => z) (K_bd k))) (K_bd k))
  | [], _ :: _, _, _, h, _ => h.elim
  | _ :: _, [], _, _, h, _ => h.elim
def mArgsC : List (M DL.D) → M (List DL.D)
  | [], ε => some (.ok [] ε)
  | m :: ms, ε => bd (m ε) fun x ε1 => bd (mArgsC ms ε1) fun xs ε2 => some (.ok (x :: xs) ε2)
theorem mArgsC_nil {ε : En} : mArgsC [] ε = some (.ok [] ε) := rfl
theorem mArgsC_cons {m : M DL.D} {ms : List (M DL.D)} {ε : En} : mArgsC (m :: ms) ε = bd (m ε) fun x ε1 => bd (mArgsC ms ε1) fun xs ε2 => some (.ok (x :: xs) ε2) := rfl
def IMC (Rx : RX) : List WE → List (M DL.D) → Prop
  | [], [] => True
  | o :: os, p :: ps => IE Rx o p ∧ IMC Rx os ps
  | _, _ => False
theorem imc_n : IMC Rx [] [] := trivial
theorem imc_c {o : WE} {os : List WE} {p : M DL.D} {ps : List (M DL.D)} (h : IE Rx o p) (k : IMC Rx os ps) : IMC Rx (o :: os) (p :: ps) := ⟨h, k⟩
theorem imc_ev : ∀ {os : List WE} {ms : List (M DL.D)} {ε : En} {Q : List DL.D → En → Prop}, IMC Rx os ms → K Rx Q (mArgsC ms ε) → cEv os ε Q
  | [], [], _, _, _, k => k
  | o :: os, m :: ms, ε, Q, h, k => h.1 ε _ (K_mono (fun x ε1 k => imc_ev h.2 (K_mono (fun _ _ z => z) (K_bd k))) (K_bd k))
  | [], _ :: _, _, _, h, _ => h.elim
  | _ :: _, [], _, _, h, _ => h.elim
def mTup (ms : List (M DL.D)) : M DL.D := fun ε => bd (mArgsC ms ε) fun ds ε1 => if ds.length ≤ 1000 then some (.ok (.tuple ds) ε1) else none
def mLst (ms : List (M DL.D)) : M DL.D := fun ε => bd (mArgsC ms ε) fun ds ε1 => if ds.length ≤ 1000 then some (.ok (.list ds) ε1) else none
theorem K_if {α : Type} {c : Prop} [Decidable c] {m : Option (R α)} {Q : α → En → Prop} (k : K Rx Q (if c then m else none)) : c ∧ K Rx Q m := by
  by_cases h : c
  · rw [if_pos h] at k; exact ⟨h, k⟩
  · rw [if_neg h] at k; exact k.elim
def mBin (f : DL.D → DL.D → Option DL.D) (a b : MV) : M DL.D := fun ε => bd (a ε) fun x ε1 => bd (b ε1) fun y ε2 => (x ε2).bind fun u => (y ε2).bind fun v => (f u v).bind fun r => some (.ok r ε2)
theorem ie_bin {f : DL.D → DL.D → Option DL.D} {oa ob : Op} {a b : MV} (ha : IMO Rx oa a) (hb : IMO Rx ob b) : IE Rx (eBin f oa ob) (mBin f a b) := fun ε Q k =>
  ha ε _ (K_mono (fun x ε1 k => hb ε1 _ (K_mono (fun y ε2 k => by
    obtain ⟨c, e1, k⟩ := K_obind k
    obtain ⟨d, e2, k⟩ := K_obind k
    obtain ⟨r, e3, k⟩ := K_obind k
    exact ⟨c, d, r, e1, e2, e3, k⟩) (K_bd k))) (K_bd k))
def mUn (f : DL.D → Option DL.D) (a : MV) : M DL.D := fun ε => bd (a ε) fun x ε1 => (x ε1).bind fun u => (f u).bind fun r => some (.ok r ε1)
theorem valsF_nil {ε : En} : valsF ε [] = some [] := rfl
theorem valsF_cons {ε : En} {x : En → Option DL.D} {xs : List (En → Option DL.D)} : valsF ε (x :: xs) = (x ε).bind fun d => (valsF ε xs).map (d :: ·) := rfl
def mApp (f : List DL.D → Option DL.D) (ms : List MV) : M DL.D := fun ε => bd (mArgs ms ε) fun xs ε1 => (valsF ε1 xs).bind fun ds => (f ds).bind fun r => some (.ok r ε1)
/-- a function of the text that changes what it is handed -/
def spM (F : FM) : DSp := fun ds Q => ∃ d o, F ds = some (.ok d o) ∧ Q d o
theorem spM_mono {F : FM} : MonoD (spM F) := fun ds Q Q' h ⟨d, o, e, q⟩ => ⟨d, o, e, h _ _ q⟩
theorem putO_set : ∀ {pk : List Kd} {os : List Op} {outs : List DL.D} {ε : En}, putO pk os outs ε = setL (ioIx pk os) outs ε
  | [], _, outs, _ => by cases outs <;> rfl
  | .val :: ks, [], outs, _ => by cases outs <;> rfl
  | .brw :: ks, [], outs, _ => by cases outs <;> rfl
  | .own :: ks, [], outs, _ => by cases outs <;> rfl
  | .io :: ks, [], outs, _ => by cases outs <;> rfl
  | .st :: ks, [], outs, _ => by cases outs <;> rfl
  | .sl :: ks, [], outs, _ => by cases outs <;> rfl
  | .sl :: ks, o :: os, outs, ε => by cases o <;> exact putO_set (pk := ks) (os := os)
  | .st :: ks, .ex _ :: os, outs, ε => putO_set (pk := ks) (os := os)
  | .st :: ks, .nm i :: os, [], ε => putO_none
  | .st :: ks, .nm i :: os, d :: outs, ε => putO_set (pk := ks) (os := os)
  | .val :: ks, o :: os, outs, ε => by cases o <;> exact putO_set (pk := ks) (os := os)
  | .brw :: ks, o :: os, outs, ε => by cases o <;> exact putO_set (pk := ks) (os := os)
  | .own :: ks, o :: os, outs, ε => by cases o <;> exact putO_set (pk := ks) (os := os)
  | .io :: ks, .ex _ :: os, outs, ε => putO_set (pk := ks) (os := os)
  | .io :: ks, .nm i :: os, [], ε => putO_none
  | .io :: ks, .nm i :: os, d :: outs, ε => putO_set (pk := ks) (os := os)
theorem setL_nil {is : List Nat} {ε : En} : setL is ([] : List DL.D) ε = ε := by cases is <;> rfl
theorem setL_nil2 {ds : List DL.D} {ε : En} : setL [] ds ε = ε := by cases ds <;> rfl
theorem setL_cons {i : Nat} {is : List Nat} {d : DL.D} {ds : List DL.D} {ε : En} : setL (i :: is) (d :: ds) ε = setL is ds (ε.set i (some d)) := rfl
def rdO {β : Type} (r : RD) (k : DL.D → List DL.D → Option (R β)) (x : Exn → List DL.D → Option (R β)) : Option (R β) := match r with
  | .ok d o => k d o
  | .ex e o => x e o
theorem rdO_ok {β : Type} {d : DL.D} {o : List DL.D} {k : DL.D → List DL.D → Option (R β)} {x : Exn → List DL.D → Option (R β)} : rdO (.ok d o) k x = k d o := rfl
theorem rdO_ex {β : Type} {d : Exn} {o : List DL.D} {k : DL.D → List DL.D → Option (R β)} {x : Exn → List DL.D → Option (R β)} : rdO (.ex d o) k x = x d o := rfl
/-- a call of what may change its arguments; is: the places of those that may -/
def mCall (F : FM) (is : List Nat) (ms : List MV) : M DL.D := fun ε => bd (mArgs ms ε) fun xs ε1 => (valsF ε1 xs).bind fun ds => (F ds).bind fun r => rdO r (fun d o => some (.ok d (setL is o ε1))) fun _ _ => none
theorem ie_call {F : FM} {pk : List Kd} {is : List Nat} {os : List Op} {ms : List MV} (h : IMA Rx os ms) (hi : ioIx pk os = is := by rfl) : IE Rx (eCall pk (spM F) os) (mCall F is ms) := fun ε Q k =>
  ima_ev h (K_mono (fun xs ε1 k => by
    obtain ⟨ds, e1, k⟩ := K_obind k
    obtain ⟨r, e3, k⟩ := K_obind k
    cases r with
    | ex x o => exact k.elim
    | ok d o =>
      refine ⟨ds, valsF_iff.mpr e1, d, o, e3, ?_⟩
      show Q d (putO pk os o ε1)
      rw [putO_set, hi]
      exact k) (K_bd k))
/-- a call of what only tells a value, with arguments that change something -/
def mCallP (F : FD) (ms : List MV) : M DL.D := mApp F ms
def mIf {α : Type} (t : M Bool) (a b : M α) : M α := fun ε => bd (t ε) fun c ε1 => if c = true then a ε1 else b ε1
def mAnd (a b : M DL.D) : M DL.D := fun ε => bd (a ε) fun x ε1 => bO x fun k => if k = true then b ε1 else some (.ok (.bool false) ε1)
def mOr (a b : M DL.D) : M DL.D := fun ε => bd (a ε) fun x ε1 => bO x fun k => if k = true then some (.ok (.bool true) ε1) else b ε1
def mNot (a : M DL.D) : M DL.D := fun ε => bd (a ε) fun x ε1 => bO x fun k => some (.ok (.bool !k) ε1)
theorem K_bO {β : Type} {d : DL.D} {k : Bool → Option (R β)} {Q : β → En → Prop} (h : K Rx Q (bO d k)) : ∃ b, d = .bool b ∧ K Rx Q (k b) := by
  cases d <;> first | exact ⟨_, rfl, h⟩ | exact h.elim
def tM (a : M DL.D) : M Bool := fun ε => bd (a ε) fun x ε1 => bO x fun k => some (.ok k ε1)
def tAndM (a b : M Bool) : M Bool := fun ε => bd (a ε) fun k ε1 => if k = true then b ε1 else some (.ok false ε1)
def tOrM (a b : M Bool) : M Bool := fun ε => bd (a ε) fun k ε1 => if k = true then some (.ok true ε1) else b ε1
def tNotM (a : M Bool) : M Bool := fun ε => bd (a ε) fun k ε1 => some (.ok (!k) ε1)
theorem it_M {a : M DL.D} (ha : IE Rx w a) : IT Rx (tE w) (tM a) := fun ε Q k =>
  ha ε _ (K_mono (fun c ε1 k => by
    obtain ⟨x, rfl, k⟩ := K_bO k
    exact ⟨x, rfl, k⟩) (K_bd k))
theorem it_orM {w u : WT} {a b : M Bool} (ha : IT Rx w a) (hb : IT Rx u b) : IT Rx (tOrW w u) (tOrM a b) := fun ε Q k =>
  ha ε _ (K_mono (fun c ε1 k => by
    cases c with
    | false => exact hb ε1 _ k
    | true => exact k) (K_bd k))
def mM1 (f : Str → DL.D → Option DL.D) (a : M DL.D) (b : MV) : M DL.D := fun ε => bd (a ε) fun x ε1 => sO x fun z => bd (b ε1) fun y ε2 => (y ε2).bind fun v => (f z v).bind fun r => some (.ok r ε2)
def ptM : Option (M DL.D) → M (Option Int)
  | none, ε => some (.ok none ε)
  | some p, ε => bd (p ε) fun d ε1 => (iO d).bind fun i => some (.ok (some i) ε1)
theorem ptM_no {ε : En} : ptM none ε = some (.ok none ε) := rfl
theorem ptM_ex {p : M DL.D} {ε : En} : ptM (some p) ε = bd (p ε) fun d ε1 => (iO d).bind fun i => some (.ok (some i) ε1) := rfl
def mSl (f : DL.D → Option Int → Option Int → Option DL.D) (a : MV) (lo hi : Option (M DL.D)) : M DL.D := fun ε => bd (a ε) fun x ε1 => bd (ptM lo ε1) fun l ε2 => bd (ptM hi ε2) fun u ε3 => (x ε3).bind fun v => (f v l u).bind fun r => some (.ok r ε3)
theorem isL_l {xs : List DL.D} : isL (.list xs) = true := rfl
def mMut (i : Nat) (f : DL.D → List DL.D → Option (DL.D × DL.D)) (ms : List (M DL.D)) : M DL.D := fun ε => ((ε[i]?).join).bind fun c0 => if isL c0 = true then bd (mArgsC ms ε) fun ds ε1 => ((ε1[i]?).join).bind fun c => (f c ds).bind fun rn => some (.ok rn.1 (ε1.set i (some rn.2))) else none
theorem ie_mut {i : Nat} {f : DL.D → List DL.D → Option (DL.D × DL.D)} {ws : List WE} {ms : List (M DL.D)} (h : IMC Rx ws ms) : IE Rx (eMut i f ws) (mMut i f ms) := fun ε Q k => by
  obtain ⟨c0, e0, k⟩ := K_obind k
  obtain ⟨hl, k⟩ := K_if k
  refine ⟨⟨c0, join_some e0, hl⟩, imc_ev h (K_mono (fun ds ε1 k => ?_) (K_bd k))⟩
  obtain ⟨c, e1, k⟩ := K_obind k
  obtain ⟨⟨r, n⟩, e2, k⟩ := K_obind k
  exact ⟨c, r, n, join_some e1, e2, k⟩
def IIM (Rx : RX) (wi : WI) (m : M (List DL.D)) : Prop := ∀ (ε : En) (Q : List DL.D → (En → Prop) → En → Prop), K Rx (fun ds ε' => ∀ inv : En → Prop, (∀ ε, inv ε) → Q ds inv ε') (m ε) → wi ε Q
theorem II.m {wi : WI} {f : FI} (h : II [] wi f) : IIM Rx wi (lf f) := fun ε Q k => by
  obtain ⟨ds, e, k⟩ := K_omap k
  exact h ε ds Q e fun inv hi => k inv fun ε' => hi ε' fun i hi => nomatch hi
def jSeq (m : M DL.D) : M (List DL.D) := fun ε => bd (m ε) fun d ε1 => (seqD d).bind fun ds => some (.ok ds ε1)
def jApp (f : List DL.D → Option (List DL.D)) (ms : List MV) : M (List DL.D) := fun ε => bd (mArgs ms ε) fun xs ε1 => (valsF ε1 xs).bind fun ds => (f ds).bind fun r => some (.ok r ε1)
theorem iim_app {f : List DL.D → Option (List DL.D)} {os : List Op} {ms : List MV} (h : IMA Rx os ms) : IIM Rx (wApp f os) (jApp f ms) := fun ε Q k =>
  ima_ev h (K_mono (fun xs ε1 k => by
    obtain ⟨ds, e1, k⟩ := K_obind k
    obtain ⟨r, e3, k⟩ := K_obind k
    exact ⟨ds, r, valsF_iff.mpr e1, e3, k _ fun _ => trivial⟩) (K_bd k))
/-- nothing may be raised in a comprehension -/
def bn {α β : Type} (m : Option (R α)) (k : α → En → Option (R β)) : Option (R β) := match m with
  | some (.ok a ε) => k a ε
  | _ => none
theorem bn_ok {α β : Type} {a : α} {ε : En} {k : α → En → Option (R β)} : bn (some (.ok a ε)) k = k a ε := rfl
theorem K_bn {α β : Type} {Q : β → En → Prop} {m : Option (R α)} {k : α → En → Option (R β)} (h : K Rx Q (bn m k)) : ∃ a ε, m = some (.ok a ε) ∧ K Rx Q (k a ε) := by
  match m, h with
  | some (.ok a ε), h => exact ⟨a, ε, rfl, h⟩
  | some (.ex _ _), h => exact h.elim
  | none, h => exact h.elim
def lcM (t : Tg) (q : M Bool) (e : M DL.D) (vs : List Nat) : List DL.D → M (List DL.D)
  | [], ε => some (.ok [] ε)
  | d :: r, ε => (bindD t d ε).bind fun ε1 => bn (q ε1) fun b ε2 => if b = true then bn (e ε2) fun y ε3 => bn (lcM t q e vs r (wipeE ε3 vs)) fun ys ε4 => some (.ok (y :: ys) ε4) else lcM t q e vs r (wipeE ε2 vs)
def mLc (it : M (List DL.D)) (t : Tg) (q : M Bool) (e : M DL.D) (vs : List Nat) : M DL.D := fun ε => bd (it ε) fun ds ε1 => if ds.length ≤ sizeLine then bn (lcM t q e vs ds (wipeE ε1 vs)) fun ys ε2 => some (.ok (.list ys) (restE ε2 ε1 vs)) else none
theorem ie_lc {vs : List Nat} {wi : WI} {it : M (List DL.D)} {t : Tg} {wt : WT} {q : M Bool} {we : WE} {e : M DL.D} (hi : IIM Rx wi it) (hq : IT RX.no wt q) (he : IE RX.no we e) : IE Rx (eLc wi t wt we vs) (mLc it t q e vs) := fun ε Q k => by
  refine hi ε _ (K_mono (fun ds ε1 k inv hinv => ?_) (K_bd k))
  obtain ⟨l, k⟩ := K_if k
  obtain ⟨ys, ε2, e2, k⟩ := K_bn k
  have key : ∀ (ds : List DL.D) (acc ys : List DL.D) (ε ε2 : En) (P : List DL.D → En → Prop), acc.length + ds.length ≤ sizeLine → lcM t q e vs ds ε = some (.ok ys ε2) → P (acc ++ ys) ε2 → lcGo t wt we vs inv ds acc ε P := by
    intro ds
    induction ds with
    | nil =>
      intro acc ys ε ε2 P _ h p
      cases h
      rw [List.append_nil] at p
      exact ⟨hinv _, p⟩
    | cons d r ih =>
      intro acc ys ε ε2 P hl h p
      rw [List.length_cons] at hl
      obtain ⟨ε1, h1, h⟩ := Option.bind_eq_some_iff.mp h
      have ok : ∀ {α : Type} {m : Option (R α)} {f : α → En → Option (R (List DL.D))}, bn m f = some (.ok ys ε2) → ∃ a ε', m = some (.ok a ε') ∧ f a ε' = some (.ok ys ε2) := fun {α m f} h => by
        match m, h with
        | some (.ok a ε), h => exact ⟨a, ε, rfl, h⟩
        | some (.ex _ _), h => cases h
        | none, h => cases h
      obtain ⟨b, ε3, h2, h⟩ := ok h
      refine ⟨hinv _, ε1, h1, hq ε1 _ ?_⟩
      rw [h2]
      cases b with
      | true =>
        obtain ⟨y, ε4, h3, h⟩ := ok h
        obtain ⟨zs, ε5, h4, h⟩ := ok h
        cases h
        show (if true = true then we ε3 (fun y ε3 => acc.length < sizeLine ∧ lcGo t wt we vs inv r (acc ++ [y]) (wipeE ε3 vs) P) else lcGo t wt we vs inv r acc (wipeE ε3 vs) P)
        rw [if_pos rfl]
        refine he ε3 _ ?_
        rw [h3]
        refine ⟨by omega, ih (acc ++ [y]) zs _ _ P ?_ h4 (by rw [List.append_assoc]; exact p)⟩
        rw [List.length_append, List.length_singleton]
        omega
      | false => exact ih acc ys _ _ P (by omega) h p
  exact key ds [] ys _ _ _ (by rw [List.length_nil]; omega) e2 k
end
end FL
namespace DL
open PySem PySem.Spec L2
end DL
namespace FL
open PySem PySem.Spec L2 DL
def sq (m : Option (R Fl)) (k : En → Option (R Fl)) : Option (R Fl) := match m with
  | some (.ok .nx ε) => k ε
  | r => r
theorem sq_nx {ε : En} {k : En → Option (R Fl)} : sq (some (.ok .nx ε)) k = k ε := rfl
theorem sq_rt {d : DL.D} {ε : En} {k : En → Option (R Fl)} : sq (some (.ok (.rt d) ε)) k = some (.ok (.rt d) ε) := rfl
theorem sq_bk {ε : En} {k : En → Option (R Fl)} : sq (some (.ok .bk ε)) k = some (.ok .bk ε) := rfl
theorem sq_ct {ε : En} {k : En → Option (R Fl)} : sq (some (.ok .ct ε)) k = some (.ok .ct ε) := rfl
theorem sq_ex {x : Exn} {ε : En} {k : En → Option (R Fl)} : sq (some (.ex x ε)) k = some (.ex x ε) := rfl
/-- a turn's end: go on with k, or leave the loop -/
def lp (m : Option (R Fl)) (k : En → Option (R Fl)) : Option (R Fl) := match m with
  | some (.ok .nx ε) => k ε
  | some (.ok .ct ε) => k ε
  | some (.ok .bk ε) => some (.ok .nx ε)
  | r => r
theorem lp_nx {ε : En} {k : En → Option (R Fl)} : lp (some (.ok .nx ε)) k = k ε := rfl
theorem lp_ct {ε : En} {k : En → Option (R Fl)} : lp (some (.ok .ct ε)) k = k ε := rfl
theorem lp_bk {ε : En} {k : En → Option (R Fl)} : lp (some (.ok .bk ε)) k = some (.ok .nx ε) := rfl
theorem lp_rt {d : DL.D} {ε : En} {k : En → Option (R Fl)} : lp (some (.ok (.rt d) ε)) k = some (.ok (.rt d) ε) := rfl
theorem lp_ex {x : Exn} {ε : En} {k : En → Option (R Fl)} : lp (some (.ex x ε)) k = some (.ex x ε) := rfl
/-- a block's end: what is not needed is forgotten -/
def en (vs : List Nat) (m : Option (R Fl)) : Option (R Fl) := match m with
  | some (.ok .nx ε) => some (.ok .nx (killE ε vs))
  | some (.ok .ct ε) => some (.ok .ct (killE ε vs))
  | r => r
theorem en_nx {vs : List Nat} {ε : En} : en vs (some (.ok .nx ε)) = some (.ok .nx (killE ε vs)) := rfl
theorem en_ct {vs : List Nat} {ε : En} : en vs (some (.ok .ct ε)) = some (.ok .ct (killE ε vs)) := rfl
theorem en_bk {vs : List Nat} {ε : En} : en vs (some (.ok .bk ε)) = some (.ok .bk ε) := rfl
theorem en_rt {vs : List Nat} {ε : En} {d : DL.D} : en vs (some (.ok (.rt d) ε)) = some (.ok (.rt d) ε) := rfl
theorem en_ex {vs : List Nat} {ε : En} {x : Exn} : en vs (some (.ex x ε)) = some (.ex x ε) := rfl
theorem killE_nil {ε : En} : killE ε [] = ε := rfl
theorem killE_cons {ε : En} {v : Nat} {vs : List Nat} : killE ε (v :: vs) = killE (ε.set v none) vs := rfl
section
variable {Rx : RX}
def fNil : FS := fun ε => some (.ok .nx ε)
def fSeq (s t : FS) : FS := fun ε => sq (s ε) t
def fSet (i : Nat) (m : M DL.D) : FS := fun ε => bd (m ε) fun d ε1 => some (.ok .nx (ε1.set i (some d)))
def fDo (m : M DL.D) : FS := fun ε => bd (m ε) fun _ ε1 => some (.ok .nx ε1)
def fRet (m : M DL.D) : FS := fun ε => bd (m ε) fun d ε1 => some (.ok (.rt d) ε1)
def fRetO (i : Nat) : FS := fun ε => ((ε[i]?).join).bind fun d => some (.ok (.rt d) ε)
def fRetN : FS := fun ε => some (.ok (.rt .none) ε)
def fIf (t : M Bool) (a b : FS) : FS := fun ε => bd (t ε) fun c ε1 => if c = true then a ε1 else b ε1
def fBrk : FS := fun ε => some (.ok .bk ε)
def fCnt : FS := fun ε => some (.ok .ct ε)
def fUnp (t : Tg) (m : M DL.D) : FS := fun ε => bd (m ε) fun d ε1 => (bindD t d ε1).bind fun ε2 => some (.ok .nx ε2)
def fPar (is : List Nat) (ms : List (M DL.D)) : FS := fun ε => bd (mArgsC ms ε) fun ds ε1 => some (.ok .nx (setL is ds ε1))
def fPut (i : Nat) (f : DL.D → DL.D → DL.D → Option DL.D) (m mk : M DL.D) : FS := fun ε => bd (m ε) fun d ε1 => ((ε1[i]?).join).bind fun _ => bd (mk ε1) fun k ε2 => ((ε2[i]?).join).bind fun cur => (f cur k d).bind fun new => some (.ok .nx (ε2.set i (some new)))
def putK (i : Nat) (f : DL.D → DL.D → DL.D → Option DL.D) (d : DL.D) (mk : M DL.D) (K : En → Option (R Fl)) : En → Option (R Fl) := fun ε1 => ((ε1[i]?).join).bind fun _ => bd (mk ε1) fun k ε2 => ((ε2[i]?).join).bind fun cur => (f cur k d).bind fun new => K (ε2.set i (some new))
def two : DL.D → Option (DL.D × DL.D)
  | .tuple [a, b] => some (a, b)
  | _ => none
def fIx2 (i j : Nat) (f f2 : DL.D → DL.D → DL.D → Option DL.D) (m mk ml : M DL.D) : FS := fun ε => bd (m ε) fun d ε1 => (two d).bind fun p => putK i f p.1 mk (putK j f2 p.2 ml fun ε => some (.ok .nx ε)) ε1
def fKill (vs : List Nat) (s : FS) : FS := fun ε => s (killE ε vs)
def fEnd (vs : List Nat) (s : FS) : FS := fun ε => en vs (s ε)
theorem is_nil : IS Rx sNil fNil := fun E ε k => k
theorem KS_sq {E : WEnds} {m : Option (R Fl)} {k : En → Option (R Fl)} (h : KS Rx E (sq m k)) : KS Rx { E with nx := fun ε => KS Rx E (k ε) } m := by
  match m, h with
  | some (.ok .nx ε), h => exact h
  | some (.ok (.rt d) ε), h => exact h
  | some (.ok .bk ε), h => exact h
  | some (.ok .ct ε), h => exact h
  | some (.ex x ε), h => exact h
  | none, h => exact h
theorem KS_mono {E E' : WEnds} {m : Option (R Fl)} (l : E.le E') (h : KS Rx E m) : KS Rx E' m := by
  match m, h with
  | some (.ok .nx ε), h => exact l.nx _ h
  | some (.ok (.rt d) ε), h => exact l.rt _ _ h
  | some (.ok .bk ε), h => exact l.bk _ h
  | some (.ok .ct ε), h => exact l.ct _ h
  | some (.ex x ε), h => exact h
  | none, h => exact h
theorem is_seq {w u : WS} {s t : FS} (h : IS Rx w s) (k : IS Rx u t) : IS Rx (sSeq w u) (fSeq s t) := fun E ε q =>
  h { E with nx := u E } ε (KS_mono (E := { E with nx := fun ε => KS Rx E (t ε) }) ⟨fun ε' z => k E ε' z, fun _ _ z => z, fun _ z => z, fun _ z => z⟩ (KS_sq q))
theorem is_set {i : Nat} {w : WE} {m : M DL.D} (h : IE Rx w m) : IS Rx (sSet i w) (fSet i m) := fun E ε q => h ε _ (K_mono (fun _ _ z => z) (K_bd q))
theorem is_do {w : WE} {m : M DL.D} (h : IE Rx w m) : IS Rx (sDo w) (fDo m) := fun E ε q => h ε _ (K_mono (fun _ _ z => z) (K_bd q))
theorem is_ret {w : WE} {m : M DL.D} (h : IE Rx w m) : IS Rx (sRet w) (fRet m) := fun E ε q => h ε _ (K_mono (fun _ _ z => z) (K_bd q))
theorem is_if {t : WT} {mt : M Bool} {w u : WS} {a b : FS} (ht : IT Rx t mt) (ha : IS Rx w a) (hb : IS Rx u b) : IS Rx (sIf t w u) (fIf mt a b) := fun E ε q =>
  ht ε _ (K_mono (fun c ε1 k => by
    cases c with
    | true => exact ha E ε1 k
    | false => exact hb E ε1 k) (K_bd q))
theorem is_par {is : List Nat} {ws : List WE} {ms : List (M DL.D)} (h : IMC Rx ws ms) : IS Rx (sPar is ws) (fPar is ms) := fun E ε q => imc_ev h (K_mono (fun _ _ z => z) (K_bd q))
theorem is_put {i : Nat} {f : DL.D → DL.D → DL.D → Option DL.D} {w wk : WE} {m mk : M DL.D} (h : IE Rx w m) (hk : IE Rx wk mk) : IS Rx (sPut i f w wk) (fPut i f m mk) := fun E ε q => h ε _ (K_mono (fun d ε1 z => by
  obtain ⟨c, e, z⟩ := K_obind z
  refine ⟨⟨c, join_some e⟩, hk ε1 _ (K_mono (fun k ε2 z => ?_) (K_bd z))⟩
  obtain ⟨cur, e1, z⟩ := K_obind z
  obtain ⟨new, e2, z⟩ := K_obind z
  exact ⟨cur, new, join_some e1, e2, z⟩) (K_bd q))
theorem is_kill {vs : List Nat} {w : WS} {s : FS} (h : IS Rx w s) : IS Rx (sKill vs w) (fKill vs s) := fun E ε q => h E _ q
theorem is_end {vs : List Nat} {w : WS} {s : FS} (h : IS Rx w s) : IS Rx (sEnd vs w) (fEnd vs s) := fun E ε q => h _ ε (by
  have q : KS Rx E (en vs (s ε)) := q
  revert q
  match s ε with
  | some (.ok .nx ε) => exact fun h => h
  | some (.ok (.rt d) ε) => exact fun h => h
  | some (.ok .bk ε) => exact fun h => h
  | some (.ok .ct ε) => exact fun h => h
  | some (.ex x ε) => exact fun h => h
  | none => exact fun h => h)
theorem KS_lp {E : WEnds} {m : Option (R Fl)} {k : En → Option (R Fl)} (h : KS Rx E (lp m k)) : KS Rx { nx := fun ε => KS Rx E (k ε), rt := E.rt, bk := E.nx, ct := fun ε => KS Rx E (k ε) } m := by
  match m, h with
  | some (.ok .nx ε), h => exact h
  | some (.ok (.rt d) ε), h => exact h
  | some (.ok .bk ε), h => exact h
  | some (.ok .ct ε), h => exact h
  | some (.ex x ε), h => exact h
  | none, h => exact h
def forL (t : Tg) (s : FS) : List DL.D → FS
  | [], ε => some (.ok .nx ε)
  | d :: r, ε => (bindD t d ε).bind fun ε1 => lp (s ε1) (forL t s r)
theorem forL_nil {t : Tg} {s : FS} {ε : En} : forL t s [] ε = some (.ok .nx ε) := rfl
theorem forL_cons {t : Tg} {s : FS} {d : DL.D} {r : List DL.D} {ε : En} : forL t s (d :: r) ε = (bindD t d ε).bind fun ε1 => lp (s ε1) (forL t s r) := rfl
def fFor (it : M (List DL.D)) (t : Tg) (s : FS) : FS := fun ε => bd (it ε) fun ds ε1 => forL t s ds ε1
theorem is_for {wi : WI} {it : M (List DL.D)} {t : Tg} {w : WS} {s : FS} (hi : IIM Rx wi it) (h : IS Rx w s) : IS Rx (sFor wi t w) (fFor it t s) := fun E ε q => by
  have go : ∀ (ds : List DL.D) (ε : En) (inv : En → Prop), (∀ ε, inv ε) → KS Rx E (forL t s ds ε) → forGo t w inv E ds ε := by
    intro ds
    induction ds with
    | nil => exact fun ε inv hinv k => ⟨hinv _, k⟩
    | cons d r ih =>
      intro ε inv hinv k
      obtain ⟨ε2, e, k⟩ := K_obind k
      exact ⟨hinv _, ε2, e, h _ ε2 (KS_mono (E := { nx := fun ε => KS Rx E (forL t s r ε), rt := E.rt, bk := E.nx, ct := fun ε => KS Rx E (forL t s r ε) }) ⟨fun ε z => ih ε inv hinv z, fun _ _ z => z, fun _ z => z, fun ε z => ih ε inv hinv z⟩ (KS_lp k))⟩
  exact hi ε _ (K_mono (fun ds ε1 k inv hinv => go ds ε1 inv hinv k) (K_bd q))
def whN (t : M Bool) (s : FS) : Nat → FS
  | 0, _ => none
  | n + 1, ε => bd (t ε) fun c ε1 => if c = true then lp (s ε1) (whN t s n) else some (.ok .nx ε1)
theorem whN_up {t : M Bool} {s : FS} : ∀ {n : Nat} {ε : En} {r : R Fl}, whN t s n ε = some r → whN t s (n + 1) ε = some r
  | 0, _, _, h => by cases h
  | n + 1, ε, r, h => by
    have h : bd (t ε) (fun c ε1 => if c = true then lp (s ε1) (whN t s n) else some (.ok .nx ε1)) = some r := h
    show bd (t ε) (fun c ε1 => if c = true then lp (s ε1) (whN t s (n + 1)) else some (.ok .nx ε1)) = some r
    match t ε, h with
    | none, h => exact h
    | some (.ex x ε1), h => exact h
    | some (.ok c ε1), h =>
      cases c with
      | false => exact h
      | true =>
        have h : lp (s ε1) (whN t s n) = some r := h
        show lp (s ε1) (whN t s (n + 1)) = some r
        match s ε1, h with
        | some (.ok .nx ε2), h => exact whN_up (n := n) h
        | some (.ok .ct ε2), h => exact whN_up (n := n) h
        | some (.ok .bk ε2), h => exact h
        | some (.ok (.rt d) ε2), h => exact h
        | some (.ex x ε2), h => exact h
        | none, h => exact h
theorem whN_le {t : M Bool} {s : FS} {n m : Nat} {ε : En} {r : R Fl} (l : n ≤ m) (h : whN t s n ε = some r) : whN t s m ε = some r := by
  induction l with
  | refl => exact h
  | step _ ih => exact whN_up ih
open Classical in
noncomputable def fWhile (t : M Bool) (s : FS) : FS := fun ε => if h : ∃ n r, whN t s n ε = some r then some (Classical.choose (Classical.choose_spec h)) else none
open Classical in
theorem fWhile_of {t : M Bool} {s : FS} {n : Nat} {ε : En} {r : R Fl} (h : whN t s n ε = some r) : fWhile t s ε = some r := by
  have hh : ∃ n r, whN t s n ε = some r := ⟨n, r, h⟩
  have e := Classical.choose_spec (Classical.choose_spec hh)
  show (if h : ∃ n r, whN t s n ε = some r then some (Classical.choose (Classical.choose_spec h)) else none) = some r
  rw [dif_pos hh]
  exact (whN_le (Nat.le_max_left (Classical.choose hh) n) e).symm.trans (whN_le (Nat.le_max_right (Classical.choose hh) n) h)
open Classical in
theorem fWhile_some {t : M Bool} {s : FS} {ε : En} {r : R Fl} (h : fWhile t s ε = some r) : ∃ n, whN t s n ε = some r := by
  have h : (if h : ∃ n r, whN t s n ε = some r then some (Classical.choose (Classical.choose_spec h)) else none) = some r := h
  by_cases hh : ∃ n r, whN t s n ε = some r
  · rw [dif_pos hh] at h
    cases h
    exact ⟨_, Classical.choose_spec (Classical.choose_spec hh)⟩
  · rw [dif_neg hh] at h
    cases h
/-- a while's turn -/
theorem fWhile_eq {t : M Bool} {s : FS} {ε : En} : fWhile t s ε = bd (t ε) fun c ε1 => if c = true then lp (s ε1) (fWhile t s) else some (.ok .nx ε1) := by
  have go : ∀ {x : Option (R Fl)}, (∀ r, x = some r → fWhile t s ε = some r) → (∀ r, fWhile t s ε = some r → x = some r) → fWhile t s ε = x := fun {x} h1 h2 => by
    cases x with
    | some r => exact h1 r rfl
    | none =>
      cases e : fWhile t s ε with
      | none => rfl
      | some r => exact (h2 r e).symm
  refine go (fun r h => ?_) fun r h => ?_
  · -- from the turn to the while
    have : ∃ n, whN t s n ε = some r := by
      match e : t ε, h with
      | some (.ex x ε1), h =>
        refine ⟨1, ?_⟩
        show bd (t ε) _ = _
        rw [e]
        exact h
      | some (.ok false ε1), h =>
        refine ⟨1, ?_⟩
        show bd (t ε) _ = _
        rw [e]
        exact h
      | some (.ok true ε1), h =>
        have h : lp (s ε1) (fWhile t s) = some r := h
        have : ∃ n, lp (s ε1) (whN t s n) = some r := by
          match s ε1, h with
          | some (.ok .nx ε2), h => exact fWhile_some h
          | some (.ok .ct ε2), h => exact fWhile_some h
          | some (.ok .bk ε2), h => exact ⟨0, h⟩
          | some (.ok (.rt d) ε2), h => exact ⟨0, h⟩
          | some (.ex x ε2), h => exact ⟨0, h⟩
        obtain ⟨n, hn⟩ := this
        refine ⟨n + 1, ?_⟩
        show bd (t ε) _ = _
        rw [e]
        exact hn
    obtain ⟨n, hn⟩ := this
    exact fWhile_of hn
  · obtain ⟨n, hn⟩ := fWhile_some h
    cases n with
    | zero => cases hn
    | succ n =>
      have hn : bd (t ε) (fun c ε1 => if c = true then lp (s ε1) (whN t s n) else some (.ok .nx ε1)) = some r := hn
      match t ε, hn with
      | some (.ex x ε1), h => exact h
      | some (.ok false ε1), h => exact h
      | some (.ok true ε1), h =>
        have h : lp (s ε1) (whN t s n) = some r := h
        show lp (s ε1) (fWhile t s) = some r
        match s ε1, h with
        | some (.ok .nx ε2), h => exact fWhile_of h
        | some (.ok .ct ε2), h => exact fWhile_of h
        | some (.ok .bk ε2), h => exact h
        | some (.ok (.rt d) ε2), h => exact h
        | some (.ex x ε2), h => exact h
def endR (pk : List Kd) (fr : Bool) (m : Option (R Fl)) : Option RD := match m with
  | some (.ok .nx ε) => if fr = true then none else (outsD pk ε).map fun o => .ok .none o
  | some (.ok (.rt d) ε) => (outsD pk ε).map fun o => .ok d o
  | some (.ex x ε) => (outsD pk ε).map fun o => .ex x o
  | _ => none
theorem endR_nx {pk : List Kd} {ε : En} : endR pk false (some (.ok .nx ε)) = (outsD pk ε).map fun o => .ok .none o := rfl
theorem endR_rt {pk : List Kd} {fr : Bool} {d : DL.D} {ε : En} : endR pk fr (some (.ok (.rt d) ε)) = (outsD pk ε).map fun o => .ok d o := rfl
theorem endR_ex {pk : List Kd} {fr : Bool} {x : Exn} {ε : En} : endR pk fr (some (.ex x ε)) = (outsD pk ε).map fun o => .ex x o := rfl
theorem outsD_nil {ε : En} : outsD [] ε = some [] := rfl
theorem outsD_io {ks : List Kd} {d : DL.D} {ε : En} : outsD (.io :: ks) (some d :: ε) = (outsD ks ε).map (d :: ·) := rfl
theorem outsD_st {ks : List Kd} {d : DL.D} {ε : En} : outsD (.st :: ks) (some d :: ε) = (outsD ks ε).map (d :: ·) := rfl
theorem outsD_val {ks : List Kd} {o : Option DL.D} {ε : En} : outsD (.val :: ks) (o :: ε) = outsD ks ε := by cases o <;> rfl
theorem outsD_brw {ks : List Kd} {o : Option DL.D} {ε : En} : outsD (.brw :: ks) (o :: ε) = outsD ks ε := by cases o <;> rfl
def runM (pk : List Kd) (fr : Bool) (n : Nat) (s : FS) : FM := fun ds => endR pk fr (s (startE n ds))
def valR : RD → Option DL.D
  | .ok d _ => some d
  | .ex _ _ => none
theorem valR_ok {d : DL.D} {o : List DL.D} : valR (.ok d o) = some d := rfl
def runP (pk : List Kd) (fr : Bool) (n : Nat) (s : FS) : FD := fun ds => (endR pk fr (s (startE n ds))).bind valR
def noIo (pk : List Kd) : Bool := pk.all fun k => k != .io && k != .st
theorem outs_no : ∀ {pk : List Kd} {ε : En} {o : List DL.D}, noIo pk = true → outsD pk ε = some o → o = []
  | [], _, _, _, h => by cases h; rfl
  | k :: ks, ε, o, hn, h => by
    unfold noIo at hn
    rw [List.all_cons, Bool.and_eq_true] at hn
    cases k with
    | io => exact absurd hn.1 (by decide)
    | st => exact absurd hn.1 (by decide)
    | sl =>
      cases ε with
      | nil => cases h
      | cons a ε => exact outs_no (by unfold noIo; exact hn.2) (show outsD ks ε = some o by cases a <;> exact h)
    | val =>
      cases ε with
      | nil => cases h
      | cons a ε => rw [outsD_val] at h; exact outs_no (by unfold noIo; exact hn.2) h
    | brw =>
      cases ε with
      | nil => cases h
      | cons a ε => rw [outsD_brw] at h; exact outs_no (by unfold noIo; exact hn.2) h
    | own =>
      cases ε with
      | nil => cases h
      | cons a ε => exact outs_no (by unfold noIo; exact hn.2) (show outsD ks ε = some o by cases a <;> exact h)
theorem snd_M {w : WS} {s : FS} {pk : List Kd} {fr : Bool} {n : Nat} (h : IS RX.no w s) : ∀ (ds : List DL.D) (Q : DL.D → List DL.D → Prop), spM (runM pk fr n s) ds Q → w (endsD pk fr Q) (startE n ds) := fun ds Q ⟨d, o, e, q⟩ => h _ _ (by
  have e : endR pk fr (s (startE n ds)) = some (.ok d o) := e
  revert e
  match s (startE n ds) with
  | some (.ok .nx ε) =>
    intro e
    cases fr with
    | true => cases e
    | false =>
      obtain ⟨o', e1, e2⟩ := Option.map_eq_some_iff.mp (show (outsD pk ε).map (fun o => RD.ok .none o) = _ from e)
      cases e2
      exact ⟨rfl, o, e1, q⟩
  | some (.ok (.rt d') ε) =>
    intro e
    obtain ⟨o', e1, e2⟩ := Option.map_eq_some_iff.mp (show (outsD pk ε).map (fun o => RD.ok d' o) = _ from e)
    cases e2
    exact ⟨o, e1, q⟩
  | some (.ok .bk ε) => intro e; cases e
  | some (.ok .ct ε) => intro e; cases e
  | some (.ex x ε) =>
    intro e
    obtain ⟨o', e1, e2⟩ := Option.map_eq_some_iff.mp (show (outsD pk ε).map (fun o => RD.ex x o) = _ from e)
    cases e2
  | none => intro e; cases e)
theorem runM_outs {s : FS} {pk : List Kd} {fr : Bool} {n : Nat} (hp : noIo pk = true) {ds : List DL.D} {d : DL.D} {o : List DL.D} (e : runM pk fr n s ds = some (.ok d o)) : o = [] := by
  have e : endR pk fr (s (startE n ds)) = some (.ok d o) := e
  revert e
  match s (startE n ds) with
  | some (.ok .nx ε) =>
    intro e
    cases fr with
    | true => cases e
    | false =>
      obtain ⟨o', e1, e2⟩ := Option.map_eq_some_iff.mp (show (outsD pk ε).map (fun o => RD.ok .none o) = _ from e)
      cases e2
      exact outs_no hp e1
  | some (.ok (.rt d') ε) =>
    intro e
    obtain ⟨o', e1, e2⟩ := Option.map_eq_some_iff.mp (show (outsD pk ε).map (fun o => RD.ok d' o) = _ from e)
    cases e2
    exact outs_no hp e1
  | some (.ok .bk ε) => intro e; cases e
  | some (.ok .ct ε) => intro e; cases e
  | some (.ex x ε) =>
    intro e
    obtain ⟨o', e1, e2⟩ := Option.map_eq_some_iff.mp (show (outsD pk ε).map (fun o => RD.ex x o) = _ from e)
    cases e2
  | none => intro e; cases e
theorem snd_P {w : WS} {s : FS} {pk : List Kd} {fr : Bool} {n : Nat} (h : IS RX.no w s) (hp : noIo pk = true := by rfl) : ∀ (ds : List DL.D) (Q : DL.D → List DL.D → Prop), spP (runP pk fr n s) ds Q → w (endsD pk fr Q) (startE n ds) := fun ds Q ⟨d, e, q⟩ => by
  obtain ⟨r, e1, e2⟩ := Option.bind_eq_some_iff.mp (show (endR pk fr (s (startE n ds))).bind valR = some d from e)
  cases r with
  | ex x o => cases e2
  | ok d' o =>
    cases e2
    have eo := runM_outs (s := s) (fr := fr) (n := n) hp (ds := ds) e1
    subst eo
    exact snd_M h ds Q ⟨d, [], e1, q⟩
/-- the law itself -/
theorem snd_law {w : WS} {s : FS} {n : Nat} {ns : List Int} (h : IS RX.no w s) (e : ∃ ε, s (lawS n ns) = some (.ok (.rt (.bool true)) ε)) : w lawE (lawS n ns) := h _ _ (by
  obtain ⟨ε, e⟩ := e
  rw [e]
  exact (rfl : PyData.bool true = .bool true))
end
end FL
namespace FL
open PySem PySem.Spec L2 DL
section
variable {α β : Type}
theorem g_succ {l : List α} {a : α} {i : Nat} : (a :: l)[i + 1]? = l[i]? := List.getElem?_cons_succ
theorem g_zero {l : List α} {a : α} : (a :: l)[0]? = some a := List.getElem?_cons_zero
theorem s_succ {l : List α} {a b : α} {i : Nat} : (a :: l).set (i + 1) b = a :: l.set i b := List.set_cons_succ
theorem s_zero {l : List α} {a b : α} : (a :: l).set 0 b = b :: l := List.set_cons_zero
theorem j_some {a : Option α} : (some a).join = a := Option.join_some
theorem b_some {a : α} {f : α → Option β} : (some a).bind f = f a := Option.bind_some ..
theorem b_none {f : α → Option β} : (none : Option α).bind f = none := Option.bind_none ..
theorem m_some {a : α} {f : α → β} : (some a).map f = some (f a) := Option.map_some ..
theorem start_c {n : Nat} {d : DL.D} {ds : List DL.D} : startE (n + 1) (d :: ds) = some d :: startE n ds := by
  unfold startE
  rw [List.map_cons, List.length_cons, Nat.add_sub_add_right]
  rfl
theorem start_n {n : Nat} : startE (n + 1) [] = none :: startE n [] := by
  unfold startE
  rw [List.map_nil, List.length_nil, Nat.sub_zero, Nat.sub_zero, List.nil_append, List.nil_append, List.replicate_succ]
theorem start_0 : startE 0 [] = [] := rfl
theorem wipe_nil {ε : En} : wipeE ε [] = ε := rfl
theorem wipe_cons {ε : En} {v : Nat} {vs : List Nat} : wipeE ε (v :: vs) = (wipeE ε vs).set v none := rfl
theorem rest_nil {ε ε1 : En} : restE ε ε1 [] = ε := rfl
theorem rest_cons {ε ε1 : En} {v : Nat} {vs : List Nat} : restE ε ε1 (v :: vs) = (restE ε ε1 vs).set v (ε1[v]?).join := rfl
theorem bindD_nm {i : Nat} {d : DL.D} {ε : En} : bindD (.nm i) d ε = some (ε.set i (some d)) := rfl
theorem bindD_tup {ts : List Tg} {ds : List DL.D} {ε : En} : bindD (.tup ts) (.tuple ds) ε = bindL ts ds ε := rfl
theorem bindL_nil {ε : En} : bindL [] [] ε = some ε := rfl
theorem bindL_cons {t : Tg} {ts : List Tg} {d : DL.D} {ds : List DL.D} {ε : En} : bindL (t :: ts) (d :: ds) ε = (bindD t d ε).bind fun ε' => bindL ts ds ε' := rfl
theorem i_t {a b : α} : (if true = true then a else b) = a := rfl
theorem i_f {a b : α} : (if false = true then a else b) = b := rfl
theorem i_T {a b : α} : (if True then a else b) = a := if_pos trivial
theorem i_F {a b : α} : (if False then a else b) = b := if_neg id
theorem e_tt : (true = true) = True := eq_self true
theorem e_ft : (false = true) = False := Bool.false_eq_true
theorem n_t : (!true) = false := rfl
theorem n_f : (!false) = true := rfl
theorem and_t {b : Bool} : (true && b) = b := Bool.true_and b
theorem and_f {b : Bool} : (false && b) = false := Bool.false_and b
theorem sq_if {c : Prop} [Decidable c] {a b : Option (R Fl)} {k : En → Option (R Fl)} : sq (if c then a else b) k = if c then sq a k else sq b k := by split <;> rfl
theorem len_n : ([] : List α).length = 0 := rfl
theorem len_c {a : α} {l : List α} : (a :: l).length = l.length + 1 := rfl
theorem len_m {f : α → β} {l : List α} : (l.map f).length = l.length := List.length_map ..
theorem lc_nil {q : α → Option Bool} {e : α → Option β} : lcF q e [] = some [] := rfl
theorem lc_cons {q : α → Option Bool} {e : α → Option β} {a : α} {r : List α} : lcF q e (a :: r) = (q a).bind fun b => if b = true then (e a).bind fun y => (lcF q e r).bind fun ys => some (y :: ys) else lcF q e r := rfl
theorem lc_map {γ : Type} {q : α → Option Bool} {e : α → Option β} {g : γ → α} : ∀ {xs : List γ}, lcF q e (xs.map g) = lcF (fun x => q (g x)) (fun x => e (g x)) xs
  | [] => rfl
  | x :: xs => by
    rw [List.map_cons, lc_cons, lc_cons, lc_map]
theorem lc_all {f : α → β} : ∀ {xs : List α}, lcF (fun _ => some true) (fun a => some (f a)) xs = some (xs.map f)
  | [] => rfl
  | x :: xs => by rw [lc_cons, lc_all]; rfl
theorem lc_filter {p : α → Bool} {f : α → β} : ∀ {xs : List α}, lcF (fun a => some (p a)) (fun a => some (f a)) xs = some ((xs.filter p).map f)
  | [] => rfl
  | x :: xs => by
    rw [lc_cons, lc_filter, Option.bind_some]
    cases h : p x with
    | true => rw [List.filter_cons_of_pos h]; rfl
    | false => rw [List.filter_cons_of_neg (by rw [h]; decide)]; rfl
theorem lc_allD {f : α → DL.D} {xs : List α} : lcF (fun _ => some true) (fun a => some (f a)) xs = some (xs.map f) := lc_all
theorem lc_filterD {p : α → Bool} {f : α → DL.D} {xs : List α} : lcF (fun a => some (p a)) (fun a => some (f a)) xs = some ((xs.filter p).map f) := lc_filter
theorem lc_mem {q : α → Option Bool} {e : α → Option β} {p : α → Bool} {f : α → β} : ∀ {xs : List α}, (∀ x ∈ xs, q x = some (p x) ∧ (p x = true → e x = some (f x))) → lcF q e xs = some ((xs.filter p).map f)
  | [], _ => rfl
  | x :: xs, h => by
    obtain ⟨h1, h2⟩ := h x List.mem_cons_self
    rw [lc_cons, lc_mem (xs := xs) fun y hy => h y (List.mem_cons_of_mem _ hy), h1, Option.bind_some]
    cases hp : p x with
    | true => rw [List.filter_cons_of_pos hp, h2 hp]; rfl
    | false => rw [List.filter_cons_of_neg (by rw [hp]; decide)]; rfl
theorem lc_memA {q : α → Option Bool} {e : α → Option β} {f : α → β} {xs : List α} (h : ∀ x ∈ xs, q x = some true ∧ e x = some (f x)) : lcF q e xs = some (xs.map f) := by
  rw [lc_mem (p := fun _ => true) fun x hx => ⟨(h x hx).1, fun _ => (h x hx).2⟩, List.filter_eq_self.mpr fun _ _ => rfl]
end
theorem r_atl {xs : List DL.D} {i : Int} : dAt (.list xs) (.int i) = atI xs i := rfl
theorem r_att {xs : List DL.D} {i : Int} : dAt (.tuple xs) (.int i) = atI xs i := rfl
section
variable {α : Type}
theorem r_at0 {x : α} {xs : List α} : atI (x :: xs) 0 = some x := atI_0
theorem r_at1 {x y : α} {xs : List α} : atI (x :: y :: xs) 1 = some y := atI_1
theorem r_at2 {x y z : α} {xs : List α} : atI (x :: y :: z :: xs) 2 = some z := atI_2
theorem r_at3 {x y z u : α} {xs : List α} : atI (x :: y :: z :: u :: xs) 3 = some u := atI_3
end
section
variable {i j : Int} {xs : List DL.D} {d : DL.D} {x y : Str} {b : Bool}
theorem r_add : dAdd (.int i) (.int j) = some (.int (i + j)) := rfl
theorem r_sub : dSub (.int i) (.int j) = some (.int (i - j)) := rfl
theorem r_gt : dGt (.int i) (.int j) = some (.bool (decide (j < i))) := rfl
theorem r_ge : dGe (.int i) (.int j) = some (.bool (decide (j ≤ i))) := rfl
theorem r_lt : dLt (.int i) (.int j) = some (.bool (decide (i < j))) := rfl
theorem r_le : dLe (.int i) (.int j) = some (.bool (decide (i ≤ j))) := rfl
theorem r_int : dInt [.int i] = some (.int i) := rfl
theorem r_intb : dInt [.bool b] = some (.int (if b = true then 1 else 0)) := by cases b <;> rfl
theorem r_abs : dAbs [.int i] = some (.int (if i < 0 then -i else i)) := rfl
theorem r_neg : dNeg (.int i) = some (.int (-i)) := rfl
theorem r_lenl : dLen [.list xs] = some (.int xs.length) := rfl
theorem r_lent : dLen [.tuple xs] = some (.int xs.length) := rfl
theorem r_min : dMin2 [.int i, .int j] = some (.int (min i j)) := dMin_i
theorem r_max : dMax2 [.int i, .int j] = some (.int (max i j)) := dMax_i
theorem r_tup : dTuple [.list xs] = some (.tuple xs) := rfl
theorem r_seql : seqD (.list xs) = some xs := rfl
theorem r_seqt : seqD (.tuple xs) = some xs := rfl
theorem r_mod2 : dMod (.int i) (.int 2) = some (.int (i % 2)) := dMod_i (by decide)
theorem r_mul2 : dMul (.int 2) (.int i) = some (.int (2 * i)) := dMul_l (by decide) (by decide)
theorem r_eqi : dEq (.int i) (.int j) = some (.bool (decide (i = j))) := by
  rw [dEq_sh (m := 0) (n := 0) Sh.int Sh.int]
  congr 2
theorem r_nei : dNe (.int i) (.int j) = some (.bool (decide (i ≠ j))) := by
  rw [dNe_sh (m := 0) (n := 0) Sh.int Sh.int, decide_not]
  congr 2
theorem eqv_str : PyData.eqv (.str x) (.str y) = decide (x = y) := by
  show (x == y) = _
  rw [Bool.eq_iff_iff]
  simp
theorem r_eqs : dEq (.str x) (.str y) = some (.bool (decide (x = y))) := by rw [dEq_str, eqv_str]
theorem r_nes : dNe (.str x) (.str y) = some (.bool (decide (x ≠ y))) := by rw [dNe_str, eqv_str, decide_not]
end
theorem r_append {xs : List DL.D} {d : DL.D} (h : xs.length < sizeLine) : fAppend (.list xs) [d] = some (.none, .list (xs ++ [d])) := if_pos h
theorem r_extend {xs ys : List DL.D} (h : xs.length + ys.length ≤ sizeLine) : fExtA (.list xs) [.list ys] = some (.none, .list (xs ++ ys)) := if_pos h
theorem size_eq : sizeLine = 16777216 := rfl
section
variable {α β : Type} {t : Tg} {s : FS}
/-- a loop that looks for something: r tells what is handed back at an item -/
theorem for_find {g : α → DL.D} {ε : En} {r : α → Option DL.D} {ee : α → En} : ∀ {xs : List α}, (∀ x ∈ xs, (bindD t (g x) ε).bind s = match r x with
      | some d => some (.ok (.rt d) (ee x))
      | none => some (.ok .nx ε)) → forL t s (xs.map g) ε = match xs.find? fun x => (r x).isSome with
      | some x => (r x).bind fun d => some (.ok (.rt d) (ee x))
      | none => some (.ok .nx ε)
  | [], _ => rfl
  | x :: xs, h => by
    rw [List.map_cons, forL_cons]
    have h1 := h x List.mem_cons_self
    have ih := for_find (xs := xs) fun y hy => h y (List.mem_cons_of_mem _ hy)
    cases q : bindD t (g x) ε with
    | none =>
      rw [q] at h1
      revert h1
      cases r x <;> exact fun z => nomatch z
    | some ε1 =>
      rw [q] at h1
      have h1 : s ε1 = _ := h1
      rw [Option.bind_some, h1]
      cases hr : r x with
      | none =>
        rw [lp_nx, ih, List.find?_cons_of_neg (by rw [hr]; decide)]
      | some d =>
        rw [lp_rt, List.find?_cons_of_pos (by rw [hr]; rfl)]
        show _ = (r x).bind _
        rw [hr]
        rfl
end
def S_draw : FS := (fSeq (fPut 0 fSetL (lf (pBin dAdd (pBin dAt (pNm 0) (pC (.int 3))) (pC (.int 1)))) (lf (pC (.int 3))))
  (fSeq (fIf (lf (tP (pBin dGt (pBin dAt (pNm 0) (pC (.int 2))) (pC (.int 0))))) (fSeq (fSet 2 (lf (pBin dMod (pApp dInt [(pBin dAt (pNm 0) (pC (.int 2)))]) (pNm 1))))
  (fSeq (fPut 0 fSetL (lf (pBin dFdiv (pBin dAt (pNm 0) (pC (.int 2))) (pNm 1))) (lf (pC (.int 2))))
  (fRet (lf (pNm 2))))) fNil)
  (fSeq (fSet 3 (lf (pC (.int 83))))
  (fSeq (fIf (lf (tP (pBin dNe (pBin dAt (pNm 0) (pC (.int 0))) (pLst [])))) (fSet 3 (lf (pBin dAt (pBin dAt (pNm 0) (pC (.int 0))) (pBin dMod (pApp dInt [(pBin dAt (pNm 0) (pC (.int 1)))]) (pApp dLen [(pBin dAt (pNm 0) (pC (.int 0)))]))))) fNil)
  (fSeq (fPut 0 fSetL (lf (pBin dAdd (pBin dAt (pNm 0) (pC (.int 1))) (pC (.int 1)))) (lf (pC (.int 1))))
  (fSeq (fIf (lf (tAnd (tP (pBin dGe (pApp dAbs [(pNm 3)]) (pBin dPow (pC (.int 10)) (pC (.int 18))))) (tP (pBin dLe (pBin dAt (pNm 0) (pC (.int 1))) (pApp dLen [(pBin dAt (pNm 0) (pC (.int 0)))]))))) (fSeq (fPut 0 fSetL (lf (pBin dFdiv (pApp dAbs [(pNm 3)]) (pNm 1))) (lf (pC (.int 2))))
  (fRet (lf (pBin dMod (pApp dInt [(pApp dAbs [(pNm 3)])]) (pNm 1))))) fNil)
  (fSeq (fSet 4 (lf (pBin dMod (pBin dPow (pApp dInt [(pBin dAdd (pBin dMod (pApp dInt [(pNm 3)]) (pC (.int 2147483563))) (pBin dMul (pC (.int 77232917)) (pBin dAt (pNm 0) (pC (.int 3)))))]) (pC (.int 5))) (pC (.int 2147483399)))))
  (fSeq (fSet 4 (lf (pBin dMod (pBin dPow (pApp dInt [(pBin dAdd (pBin dMul (pNm 4) (pBin dAdd (pBin dMul (pC (.int 2)) (pBin dAt (pNm 0) (pC (.int 3)))) (pC (.int 7)))) (pC (.int 6449)))]) (pC (.int 3))) (pC (.int 2147483647)))))
  (fRet (lf (pBin dMod (pBin dFdiv (pNm 4) (pC (.int 32))) (pNm 1))))))))))))
def F_draw : FM := runM [.io, .val] false 5 S_draw
theorem r_set0 {x d : DL.D} {xs : List DL.D} : fSetL (.list (x :: xs)) (.int 0) d = some (.list (d :: xs)) := fSetL_0
theorem r_set1 {x y d : DL.D} {xs : List DL.D} : fSetL (.list (x :: y :: xs)) (.int 1) d = some (.list (x :: d :: xs)) := fSetL_1
theorem r_set2 {x y z d : DL.D} {xs : List DL.D} : fSetL (.list (x :: y :: z :: xs)) (.int 2) d = some (.list (x :: y :: d :: xs)) := fSetL_2
theorem r_set3 {x y z u d : DL.D} {xs : List DL.D} : fSetL (.list (x :: y :: z :: u :: xs)) (.int 3) d = some (.list (x :: y :: z :: d :: xs)) := fSetL_3
def _root_.SsH1 : List Lean.Name := SsH0 ++ []
def _root_.SsL1 : List Lean.Name := SsL0 ++ [`DL.subX, `DL.fldX, `DL.isX, `DL.isVE, `DL.asB_b, `DL.andX, `DL.orX, `DL.tX, `DL.notT, `DL.andT, `DL.orT, `DL.ifX, `DL.reprI, `DL.reprIX, `DL.eqS_s, `DL.eqX, `DL.fieldsD_nil, `DL.fieldsD_cons, `FL.bd_ok, `FL.bd_ex, `FL.lf, `FL.pC, `FL.pNm, `FL.pBin, `FL.pUn, `FL.bO_b, `FL.pChain, `FL.pAnd, `FL.pOr, `FL.pNot, `FL.pIf, `FL.tP, `FL.tAnd, `FL.tOr, `FL.tNot, `FL.tYes, `FL.pArgs_nil, `FL.pArgs_cons, `FL.pApp, `FL.pTup, `FL.pLst, `FL.pCall, `FL.iO_i, `FL.ptF_no, `FL.ptF_ex, `FL.pSl, `FL.sO_s, `FL.pM1, `FL.iSeq, `FL.iApp, `FL.iZip, `FL.pLc, `FL.slF_at, `FL.mEx, `FL.mNm, `FL.mArgs_nil, `FL.mArgs_cons, `FL.mArgsC_nil, `FL.mArgsC_cons, `FL.mTup, `FL.mLst, `FL.mBin, `FL.mUn, `FL.valsF_nil, `FL.valsF_cons, `FL.mApp, `FL.setL_nil, `FL.setL_nil2, `FL.setL_cons, `FL.rdO_ok, `FL.rdO_ex, `FL.mCall, `FL.mCallP, `FL.mIf, `FL.mAnd, `FL.mOr, `FL.mNot, `FL.tM, `FL.tAndM, `FL.tOrM, `FL.tNotM, `FL.mM1, `FL.ptM_no, `FL.ptM_ex, `FL.mSl, `FL.isL_l, `FL.mMut, `FL.jSeq, `FL.jApp, `FL.bn_ok, `FL.mLc, `FL.sq_nx, `FL.sq_rt, `FL.sq_bk, `FL.sq_ct, `FL.sq_ex, `FL.lp_nx, `FL.lp_ct, `FL.lp_bk, `FL.lp_rt, `FL.lp_ex, `FL.en_nx, `FL.en_ct, `FL.en_bk, `FL.en_rt, `FL.en_ex, `FL.killE_nil, `FL.killE_cons, `FL.fNil, `FL.fSeq, `FL.fSet, `FL.fDo, `FL.fRet, `FL.fRetO, `FL.fRetN, `FL.fIf, `FL.fBrk, `FL.fCnt, `FL.fUnp, `FL.fPar, `FL.fPut, `FL.putK, `FL.two, `FL.fIx2, `FL.fKill, `FL.fEnd, `FL.forL_nil, `FL.fFor, `FL.endR_nx, `FL.endR_rt, `FL.endR_ex, `FL.outsD_nil, `FL.outsD_io, `FL.outsD_st, `FL.outsD_val, `FL.outsD_brw, `FL.valR_ok, `FL.g_succ, `FL.g_zero, `FL.s_succ, `FL.s_zero, `FL.j_some, `FL.b_some, `FL.b_none, `FL.m_some, `FL.start_c, `FL.start_n, `FL.start_0, `FL.wipe_nil, `FL.wipe_cons, `FL.rest_nil, `FL.rest_cons, `FL.bindD_nm, `FL.bindD_tup, `FL.bindL_nil, `FL.bindL_cons, `FL.i_t, `FL.i_f, `FL.i_T, `FL.i_F, `FL.e_tt, `FL.e_ft, `FL.n_t, `FL.n_f, `FL.and_t, `FL.and_f, `FL.sq_if, `FL.len_n, `FL.len_c, `FL.len_m, `FL.lc_nil, `FL.lc_map, `FL.lc_allD, `FL.lc_filterD, `FL.r_atl, `FL.r_att, `FL.r_at0, `FL.r_at1, `FL.r_at2, `FL.r_at3, `FL.r_add, `FL.r_sub, `FL.r_gt, `FL.r_ge, `FL.r_lt, `FL.r_le, `FL.r_int, `FL.r_intb, `FL.r_abs, `FL.r_neg, `FL.r_lenl, `FL.r_lent, `FL.r_min, `FL.r_max, `FL.r_tup, `FL.r_seql, `FL.r_seqt, `FL.r_mod2, `FL.r_mul2, `FL.r_eqi, `FL.r_nei, `FL.r_eqs, `FL.r_nes, `FL.r_set0, `FL.r_set1, `FL.r_set2, `FL.r_set3]
local macro_rules | `(tactic| simp only [$as,*] $[$l]?) => SsM (`word_snoc :: SsH1 ++ SsL1) as.getElems l
theorem draw_F {ns : List Int} {i l c n : Int} (hi : 0 ≤ i) (hc : 0 ≤ c) (hc2 : c < 2 ^ 30 - 1) (hn : 0 < n) (hn2 : n < 1073741824) :
    ∃ r i' l' : Int, F_draw [dkD ns i l c, .int n] = some (.ok (.int r) [dkD ns i' l' (c + 1)]) ∧ 0 ≤ r ∧ r < n ∧ 0 ≤ i' := by
  have md : ∀ z : Int, 0 ≤ z % n ∧ z % n < n := fun z => ⟨Int.emod_nonneg _ (by omega), Int.emod_lt_of_pos _ hn⟩
  unfold F_draw runM dkD
  by_cases hl : 0 < l
  · refine ⟨l % n, i, l / n, ?_, (md _).1, (md _).2, hi⟩
    simp only [S_draw, ss_, decide_eq_true hl, dMod_i hn, dFdiv_i hn hn2]
  -- the cell
  obtain ⟨cell, hcell⟩ : ∃ cell : Int, ∀ k : En → Option (R Fl), sq (fIf (lf (tP (pBin dNe (pBin dAt (pNm 0) (pC (.int 0))) (pLst [])))) (fSet 3 (lf (pBin dAt (pBin dAt (pNm 0) (pC (.int 0))) (pBin dMod (pApp dInt [(pBin dAt (pNm 0) (pC (.int 1)))]) (pApp dLen [(pBin dAt (pNm 0) (pC (.int 0)))]))))) fNil
      [some (PyData.list [.list (ns.map PyData.int), .int i, .int l, .int (c + 1)]), some (.int n), none, some (.int 83), none]) k = k [some (PyData.list [.list (ns.map PyData.int), .int i, .int l, .int (c + 1)]), some (.int n), none, some (.int cell), none] := by
    by_cases hz : ns = []
    · subst hz
      refine ⟨83, fun k => ?_⟩
      simp only [ss_, ne_nil, List.isEmpty_nil, show dNe (.list []) (.list []) = some (.bool false) from ne_nil []]
    · have hz' : ns.isEmpty = false := by
        cases ns with
        | nil => exact (hz rfl).elim
        | cons a as => rfl
      have hp : 0 < ns.length := List.length_pos_iff.mpr hz
      have hp2 : (0 : Int) < (ns.length : Int) := by omega
      have a0 : 0 ≤ i % (ns.length : Int) := Int.emod_nonneg _ (by omega)
      have a1 : i % (ns.length : Int) < (ns.length : Int) := Int.emod_lt_of_pos _ (by omega)
      refine ⟨ns[(i % (ns.length : Int)).toNat]'(by omega), fun k => ?_⟩
      have e : atI (ns.map PyData.int) (i % (ns.length : Int)) = some (PyData.int (ns[(i % (ns.length : Int)).toNat]'(by omega))) := by
        rw [atI_nat a0 (by rw [List.length_map]; exact a1), List.getElem?_map, List.getElem?_eq_getElem (by omega)]
        rfl
      simp only [ss_, ne_nil, hz', dMod_i hp2, e]
  have ha : 0 ≤ (if cell < 0 then -cell else cell) := by split <;> omega
  have p18 : dPow (.int 10) (.int 18) = some (.int (10 ^ 18)) := dPow_i (i := 10) (j := 18) (by decide) (by decide) (by decide)
  by_cases hb : (10 : Int) ^ 18 ≤ (if cell < 0 then -cell else cell) ∧ i + 1 ≤ (ns.length : Int)
  · refine ⟨(if cell < 0 then -cell else cell) % n, i + 1, (if cell < 0 then -cell else cell) / n, ?_, (md _).1, (md _).2, by omega⟩
    simp only [fIf, ss_] at hcell
    simp only [S_draw, ss_, decide_eq_false hl, hcell, p18, decide_eq_true hb.1, decide_eq_true hb.2, dMod_i hn, dFdiv_i hn hn2]
  · have m0 : 0 ≤ cell % 2147483563 := Int.emod_nonneg _ (by decide)
    have m1 : cell % 2147483563 < 2147483563 := Int.emod_lt_of_pos _ (by decide)
    have b0 : (cell % 2147483563 + 77232917 * (c + 1)).natAbs < 2 ^ 64 := by omega
    have x0 : 0 ≤ (cell % 2147483563 + 77232917 * (c + 1)) ^ (5 : Int).toNat % 2147483399 := Int.emod_nonneg _ (by decide)
    have x1 : (cell % 2147483563 + 77232917 * (c + 1)) ^ (5 : Int).toNat % 2147483399 < 2147483399 := Int.emod_lt_of_pos _ (by decide)
    have d1 := dPow_i (i := cell % 2147483563 + 77232917 * (c + 1)) (j := 5) (by decide) (by decide) b0
    generalize (cell % 2147483563 + 77232917 * (c + 1)) ^ (5 : Int).toNat = y at *
    have d2 := dMod_i (i := y) (j := 2147483399) (by decide)
    generalize y % 2147483399 = x at *
    have b1 : (x * (2 * (c + 1) + 7) + 6449).natAbs < 2 ^ 64 := by
      have p : x * (2 * (c + 1) + 7) ≤ 2147483399 * (2 ^ 31 + 7) := Int.mul_le_mul (by omega) (by omega) (by omega) (by decide)
      have p0 : 0 ≤ x * (2 * (c + 1) + 7) := Int.mul_nonneg x0 (by omega)
      omega
    have d3 := dPow_i (i := x * (2 * (c + 1) + 7) + 6449) (j := 3) (by decide) (by decide) b1
    have d4 := dMul_l (j := 2 * (c + 1) + 7) x0 (by omega)
    generalize (x * (2 * (c + 1) + 7) + 6449) ^ (3 : Int).toNat = z at *
    refine ⟨z % 2147483647 / 32 % n, i + 1, l, ?_, (md _).1, (md _).2, by omega⟩
    have tst : (if decide ((10 : Int) ^ 18 ≤ (if cell < 0 then -cell else cell)) = true then some (decide (i + 1 ≤ (ns.length : Int))) else some false) = some false := by
      by_cases h1 : (10 : Int) ^ 18 ≤ (if cell < 0 then -cell else cell)
      · rw [if_pos (decide_eq_true h1), decide_eq_false fun z => hb ⟨h1, z⟩]
      · rw [decide_eq_false h1, if_neg (by decide)]
    simp only [fIf, ss_] at hcell
    simp only [S_draw, ss_, decide_eq_false hl, hcell, p18, tst, dMod_i (j := 2147483563) (by decide), dMul_i (i := 77232917) (j := c + 1) rfl, d1, d2, d4, d3, dMod_i (i := z) (j := 2147483647) (by decide), dFdiv_i (j := 32) (by decide) (by decide), dMod_i hn]
theorem draw_ok {m : Int} {dk : DL.D} {n : Int} (h : Dk m dk) (h2 : m < 1073741823 := by omega) (h3 : 0 < n := by omega) (h4 : n < 1073741824 := by omega) : ∃ (r : Int) (dk' : DL.D), F_draw [dk, .int n] = some (.ok (.int r) [dk']) ∧ 0 ≤ r ∧ r < n ∧ Dk (m + 1) dk' := by
  obtain ⟨ns, i, l, c, rfl, a1, a2, a3, a4⟩ := h
  obtain ⟨r, i', l', e, b1, b2, b3⟩ := draw_F (ns := ns) (i := i) (l := l) (c := c) (n := n) a2 a3 (by omega) h3 h4
  exact ⟨r, _, e, b1, b2, ns, i', l', c + 1, rfl, a1, b3, by omega, by omega⟩
end FL
namespace FL
open PySem PySem.Spec L2 DL
local macro_rules | `(tactic| simp only [$as,*] $[$l]?) => SsM (`word_snoc :: SsH1 ++ SsL1) as.getElems l
end FL
namespace FL
open PySem PySem.Spec L2 DL
def pk (p : Int × Int) : DL.D := .tuple [.int p.1, .int p.2]
def tL {α : Type} (f : α → DL.D) (xs : List α) : DL.D := .tuple (xs.map f)
def lL {α : Type} (f : α → DL.D) (xs : List α) : DL.D := .list (xs.map f)
/-- f may be compared: equal just for equal ones, at most k deep -/
class EncF {α : Type} [DecidableEq α] (f : α → DL.D) (k : outParam Nat) : Prop where
  can : ∀ a, PyData.canLay0 (f a) = true
  dep : ∀ a, PyData.depth (f a) ≤ k
  eqv : ∀ a b, PyData.eqv (f a) (f b) = decide (a = b)
instance : EncF PyData.int 0 := ⟨fun _ => rfl, fun _ => Nat.le_refl _, fun _ _ => rfl⟩
instance : EncF PyData.bool 0 := ⟨fun _ => rfl, fun _ => Nat.le_refl _, fun a b => by cases a <;> cases b <;> rfl⟩
instance : EncF pk 1 := ⟨fun _ => rfl, fun _ => Nat.le_refl _, fun p q => by
  obtain ⟨a, b⟩ := p
  obtain ⟨c, d⟩ := q
  show ((a == c) && ((b == d) && true)) = _
  rw [Bool.and_true, Bool.eq_iff_iff]
  simp⟩
section
variable {α : Type} [DecidableEq α] {f : α → DL.D} {k : Nat}
theorem EncF.sh [EncF f k] (a : α) : Sh k (f a) := ⟨EncF.can a, EncF.dep a⟩
theorem eqvAll [EncF f k] : ∀ {xs ys : List α}, PyData.eqvAll (xs.map f) (ys.map f) = decide (xs = ys)
  | [], [] => rfl
  | [], _ :: _ => rfl
  | _ :: _, [] => rfl
  | x :: xs, y :: ys => by
    show (PyData.eqv (f x) (f y) && PyData.eqvAll (xs.map f) (ys.map f)) = _
    rw [EncF.eqv, eqvAll, Bool.eq_iff_iff]
    simp
instance [EncF f k] : EncF (tL f) (k + 1) := ⟨fun xs => canAll fun x hx => by
    obtain ⟨a, _, rfl⟩ := List.mem_map.mp hx
    exact EncF.can a, fun xs => Nat.succ_le_succ (depAll fun x hx => by
    obtain ⟨a, _, rfl⟩ := List.mem_map.mp hx
    exact EncF.dep a), fun xs ys => eqvAll⟩
instance [EncF f k] : EncF (lL f) (k + 1) := ⟨fun xs => canAll fun x hx => by
    obtain ⟨a, _, rfl⟩ := List.mem_map.mp hx
    exact EncF.can a, fun xs => Nat.succ_le_succ (depAll fun x hx => by
    obtain ⟨a, _, rfl⟩ := List.mem_map.mp hx
    exact EncF.dep a), fun xs ys => eqvAll⟩
theorem r_eq [EncF f k] (hk : k ≤ 64) {a b : α} : dEq (f a) (f b) = some (.bool (decide (a = b))) := by
  rw [dEq_sh (EncF.sh a) (EncF.sh b) hk hk, EncF.eqv]
theorem r_ne [EncF f k] (hk : k ≤ 64) {a b : α} : dNe (f a) (f b) = some (.bool (decide (a ≠ b))) := by
  rw [dNe_sh (EncF.sh a) (EncF.sh b) hk hk, EncF.eqv, decide_not]
theorem any_eqv [EncF f k] {a : α} : ∀ {xs : List α} [Decidable (a ∈ xs)], (xs.map f).any (fun z => PyData.eqv z (f a)) = decide (a ∈ xs)
  | [], _ => by simp
  | x :: xs, i => by
    rw [List.map_cons, List.any_cons, any_eqv, EncF.eqv, Bool.eq_iff_iff]
    simp only [Bool.or_eq_true, decide_eq_true_eq, List.mem_cons]
    exact ⟨fun h => h.imp Eq.symm id, fun h => h.imp Eq.symm id⟩
theorem inD_map [EncF f k] (hk : k ≤ 64) {a : α} {xs : List α} [Decidable (a ∈ xs)] : inD false (f a) (xs.map f) = some (.bool (decide (a ∈ xs))) := by
  unfold inD
  rw [if_pos ⟨(EncF.sh (f := f) a).ok hk, canAll fun x hx => by
    obtain ⟨b, _, rfl⟩ := List.mem_map.mp hx
    exact EncF.can b⟩]
  show some (PyData.bool ((xs.map f).any fun z => PyData.eqv z (f a))) = _
  rw [any_eqv]
theorem notInD_map [EncF f k] (hk : k ≤ 64) {a : α} {xs : List α} [Decidable (a ∈ xs)] : inD true (f a) (xs.map f) = some (.bool (decide (a ∉ xs))) := by
  unfold inD
  rw [if_pos ⟨(EncF.sh (f := f) a).ok hk, canAll fun x hx => by
    obtain ⟨b, _, rfl⟩ := List.mem_map.mp hx
    exact EncF.can b⟩]
  show some (PyData.bool !((xs.map f).any fun z => PyData.eqv z (f a))) = _
  rw [any_eqv, decide_not]
theorem r_inT [EncF f k] (hk : k ≤ 64) {a : α} {xs : List α} [Decidable (a ∈ xs)] : dIn (f a) (tL f xs) = some (.bool (decide (a ∈ xs))) := inD_map hk
theorem r_inL [EncF f k] (hk : k ≤ 64) {a : α} {xs : List α} [Decidable (a ∈ xs)] : dIn (f a) (lL f xs) = some (.bool (decide (a ∈ xs))) := inD_map hk
theorem r_ninT [EncF f k] (hk : k ≤ 64) {a : α} {xs : List α} [Decidable (a ∈ xs)] : dNotIn (f a) (tL f xs) = some (.bool !(decide (a ∈ xs))) := (notInD_map hk).trans (by rw [decide_not])
theorem r_ninL [EncF f k] (hk : k ≤ 64) {a : α} {xs : List α} [Decidable (a ∈ xs)] : dNotIn (f a) (lL f xs) = some (.bool !(decide (a ∈ xs))) := (notInD_map hk).trans (by rw [decide_not])
theorem r_nnl : dNe (.list []) (.list []) = some (.bool false) := rfl
theorem r_nnt : dNe (.tuple []) (.tuple []) = some (.bool false) := rfl
theorem r_eel : dEq (.list []) (.list []) = some (.bool true) := rfl
theorem r_eet : dEq (.tuple []) (.tuple []) = some (.bool true) := rfl
/-- written pairs and triples -/
theorem r_in2 [EncF f k] (hk : k ≤ 64) {a b c : α} : dIn (f a) (.tuple [f b, f c]) = some (.bool (decide (a = b ∨ a = c))) := by
  refine (inD_map (f := f) (xs := [b, c]) hk).trans ?_
  simp
theorem r_in3 [EncF f k] (hk : k ≤ 64) {a b c d : α} : dIn (f a) (.tuple [f b, f c, f d]) = some (.bool (decide (a = b ∨ a = c ∨ a = d))) := by
  refine (inD_map (f := f) (xs := [b, c, d]) hk).trans ?_
  simp
theorem r_eq0 [EncF f k] (hk : k ≤ 63) {xs : List α} : dEq (tL f xs) (.tuple []) = some (.bool (decide (xs = []))) := r_eq (f := tL f) (b := []) (Nat.succ_le_succ hk)
theorem r_eq0l [EncF f k] (hk : k ≤ 63) {xs : List α} : dEq (lL f xs) (.list []) = some (.bool (decide (xs = []))) := r_eq (f := lL f) (b := []) (Nat.succ_le_succ hk)
theorem r_ne0 [EncF f k] (hk : k ≤ 63) {xs : List α} : dNe (tL f xs) (.tuple []) = some (.bool (decide (xs ≠ []))) := r_ne (f := tL f) (b := []) (Nat.succ_le_succ hk)
theorem r_ne0l [EncF f k] (hk : k ≤ 63) {xs : List α} : dNe (lL f xs) (.list []) = some (.bool (decide (xs ≠ []))) := r_ne (f := lL f) (b := []) (Nat.succ_le_succ hk)
end
section
variable {α β : Type} {f : α → DL.D} {xs ys : List α} {p : Int × Int} {a b : Int} {ε : En} {i j : Nat}
theorem pk_fold : PyData.tuple [.int a, .int b] = pk (a, b) := rfl
theorem p_eta {p : Int × Int} : (p.1, p.2) = p := rfl
theorem tL_fold : PyData.tuple (xs.map f) = tL f xs := rfl
theorem lL_fold : PyData.list (xs.map f) = lL f xs := rfl
theorem r_pk0 : dAt (pk p) (.int 0) = some (.int p.1) := rfl
theorem r_pk1 : dAt (pk p) (.int 1) = some (.int p.2) := rfl
theorem seq_pk : seqD (pk p) = some [.int p.1, .int p.2] := rfl
theorem seq_tL : seqD (tL f xs) = some (xs.map f) := rfl
theorem seq_lL : seqD (lL f xs) = some (xs.map f) := rfl
theorem len_pk : dLen [pk p] = some (.int 2) := rfl
theorem len_tL : dLen [tL f xs] = some (.int xs.length) := by show some (PyData.int ((xs.map f).length : Nat)) = _; rw [List.length_map]
theorem len_lL : dLen [lL f xs] = some (.int xs.length) := by show some (PyData.int ((xs.map f).length : Nat)) = _; rw [List.length_map]
theorem tup_lL : dTuple [lL f xs] = some (tL f xs) := rfl
theorem list_lL : dList [lL f xs] = some (lL f xs) := rfl
theorem list_tL : dList [tL f xs] = some (lL f xs) := rfl
theorem isL_lL : isL (lL f xs) = true := rfl
theorem bind_pk : bindD (.tup [.nm i, .nm j]) (pk p) ε = some ((ε.set i (some (.int p.1))).set j (some (.int p.2))) := rfl
theorem app_lL {x : α} (h : xs.length < sizeLine) : fAppend (lL f xs) [f x] = some (.none, lL f (xs ++ [x])) := by
  show fAppend (.list (xs.map f)) [f x] = _
  rw [r_append (by rw [List.length_map]; exact h)]
  unfold lL
  rw [List.map_append]
  rfl
theorem ext_lL (h : xs.length + ys.length ≤ sizeLine) : fExtA (lL f xs) [lL f ys] = some (.none, lL f (xs ++ ys)) := by
  show fExtA (.list (xs.map f)) [.list (ys.map f)] = _
  rw [r_extend (by rw [List.length_map, List.length_map]; exact h)]
  unfold lL
  rw [List.map_append]
end
section
variable {c : Prop} [Decidable c]
theorem d_t : (decide c = true) = c := decide_eq_true_eq
theorem if_some {a b : DL.D} : (if c then some a else some b) = some (if c then a else b) := by split <;> rfl
theorem if_someB {a b : Bool} : (if c then some a else some b) = some (if c then a else b) := by split <;> rfl
theorem if_and {a : Bool} : (if c then a else false) = (decide c && a) := by split <;> simp_all
theorem if_or {a : Bool} : (if c then true else a) = (decide c || a) := by split <;> simp_all
theorem if_nt : (if c then false else true) = !decide c := by split <;> simp_all
theorem dec_and {a b : Prop} [Decidable a] [Decidable b] : decide (a ∧ b) = (decide a && decide b) := Bool.decide_and ..
theorem dec_or {a b : Prop} [Decidable a] [Decidable b] : decide (a ∨ b) = (decide a || decide b) := Bool.decide_or ..
theorem dec_not : decide (¬ c) = !decide c := decide_not
theorem dec_ne {α : Type} [DecidableEq α] {a b : α} : decide (a ≠ b) = !decide (a = b) := decide_not
theorem and_eq {a b : Bool} : ((a && b) = true) = (a = true ∧ b = true) := by rw [Bool.and_eq_true]
theorem or_eq {a b : Bool} : ((a || b) = true) = (a = true ∨ b = true) := by rw [Bool.or_eq_true]
theorem not_eq {a : Bool} : ((!a) = true) = ¬ (a = true) := by cases a <;> simp
theorem if_int {a b : Int} : (if c then PyData.int a else PyData.int b) = PyData.int (if c then a else b) := by split <;> rfl
theorem if_bool {a b : Bool} : (if c then PyData.bool a else PyData.bool b) = PyData.bool (if c then a else b) := by split <;> rfl
theorem if_str {a b : Str} : (if c then PyData.str a else PyData.str b) = PyData.str (if c then a else b) := by split <;> rfl
theorem if_pk {a b : Int × Int} : (if c then pk a else pk b) = pk (if c then a else b) := by split <;> rfl
end
section
variable {c : Prop} [Decidable c] {α β : Type}
theorem lp_if {a b : Option (R Fl)} {k : En → Option (R Fl)} : lp (if c then a else b) k = if c then lp a k else lp b k := by split <;> rfl
theorem en_if {a b : Option (R Fl)} {vs : List Nat} : en vs (if c then a else b) = if c then en vs a else en vs b := by split <;> rfl
theorem endR_if {a b : Option (R Fl)} {pk : List Kd} {fr : Bool} : endR pk fr (if c then a else b) = if c then endR pk fr a else endR pk fr b := by split <;> rfl
theorem bd_if {a b : Option (R α)} {k : α → En → Option (R β)} : bd (if c then a else b) k = if c then bd a k else bd b k := by split <;> rfl
theorem bind_if {a b : Option α} {k : α → Option β} : (if c then a else b).bind k = if c then a.bind k else b.bind k := by split <;> rfl
theorem omap_if {a b : Option α} {k : α → β} : (if c then a else b).map k = if c then a.map k else b.map k := by split <;> rfl
end
section
variable {α : Type} {p : α → Bool} {f : α → Int} {xs : List α}
theorem bools_map : ∀ {xs : List α}, boolsOf (xs.map fun x => PyData.bool (p x)) = some (xs.map p)
  | [] => rfl
  | x :: xs => by
    show (boolsOf (xs.map fun x => PyData.bool (p x))).map (p x :: ·) = _
    rw [bools_map]
    rfl
theorem any_lL : dAny [lL (fun x => PyData.bool (p x)) xs] = some (.bool (xs.any p)) := by
  show (boolsOf (xs.map fun x => PyData.bool (p x))).map _ = _
  rw [bools_map, Option.map_some, List.any_map]
  rfl
theorem all_lL : dAll [lL (fun x => PyData.bool (p x)) xs] = some (.bool (xs.all p)) := by
  show (boolsOf (xs.map fun x => PyData.bool (p x))).map _ = _
  rw [bools_map, Option.map_some, List.all_map]
  rfl
theorem ints_map : ∀ {xs : List α}, intsOf (xs.map fun x => PyData.int (f x)) = some (xs.map f)
  | [] => rfl
  | x :: xs => by
    show (intsOf (xs.map fun x => PyData.int (f x))).map (f x :: ·) = _
    rw [ints_map]
    rfl
theorem sum_lL : dSum [lL (fun x => PyData.int (f x)) xs] = some (.int (xs.map f).sum) := by
  show (intsOf (xs.map fun x => PyData.int (f x))).map _ = _
  rw [ints_map]
  rfl
/-- the numbers of a range as whole numbers -/
def rgI (n : Int) : List Int := (List.range n.toNat).map fun (k : Nat) => (k : Int)
theorem rgI_fold {n : Int} : (List.range n.toNat).map (fun (k : Nat) => PyData.int (k : Int)) = (rgI n).map PyData.int := by unfold rgI; rw [List.map_map]; rfl
theorem mem_rgI {n i : Int} : i ∈ rgI n ↔ 0 ≤ i ∧ i < n := by
  unfold rgI
  simp only [List.mem_map, List.mem_range]
  constructor
  · rintro ⟨k, hk, rfl⟩; omega
  · intro h; exact ⟨i.toNat, by omega, by omega⟩
theorem rgI_len {n : Int} : (rgI n).length = n.toNat := by unfold rgI; rw [List.length_map, List.length_range]
end
section
variable {α : Type} {q : α → Bool}
theorem lc_int {f : α → Int} {xs : List α} : lcF (fun a => some (q a)) (fun a => some (PyData.int (f a))) xs = some (((xs.filter q).map f).map .int) := by rw [lc_filter, List.map_map]; rfl
theorem lc_int1 {f : α → Int} {xs : List α} : lcF (fun _ => some true) (fun a => some (PyData.int (f a))) xs = some ((xs.map f).map .int) := by rw [lc_all, List.map_map]; rfl
theorem lc_pk {f : α → Int × Int} {xs : List α} : lcF (fun a => some (q a)) (fun a => some (pk (f a))) xs = some (((xs.filter q).map f).map pk) := by rw [lc_filter, List.map_map]; rfl
theorem lc_pk1 {f : α → Int × Int} {xs : List α} : lcF (fun _ => some true) (fun a => some (pk (f a))) xs = some ((xs.map f).map pk) := by rw [lc_all, List.map_map]; rfl
theorem filter_all {xs : List α} : xs.filter (fun _ => true) = xs := List.filter_eq_self.mpr fun _ _ => rfl
theorem map_id2 {xs : List α} : xs.map (fun a => a) = xs := List.map_id'' (fun _ => rfl) xs
theorem lc_tL {β : Type} {g : β → DL.D} {f : α → List β} {xs : List α} : lcF (fun a => some (q a)) (fun a => some (tL g (f a))) xs = some (((xs.filter q).map f).map (tL g)) := by rw [lc_filter, List.map_map]; rfl
theorem lc_tL1 {β : Type} {g : β → DL.D} {f : α → List β} {xs : List α} : lcF (fun _ => some true) (fun a => some (tL g (f a))) xs = some ((xs.map f).map (tL g)) := by rw [lc_all, List.map_map]; rfl
end
structure Sheet where
  R : Int
  C : Int
  r1 : 1 ≤ R
  r2 : R ≤ 8
  c1 : 1 ≤ C
  c2 : C ≤ 8
def Sheet.d (S : Sheet) : DL.D := pk (S.R, S.C)
section
variable {S : Sheet} {a : Int}
theorem sh_0 : dAt S.d (.int 0) = some (.int S.R) := rfl
theorem sh_1 : dAt S.d (.int 1) = some (.int S.C) := rfl
theorem sh_fdiv : dFdiv (.int a) (.int S.C) = some (.int (a / S.C)) := dFdiv_i (by have := S.c1; omega) (by have := S.c2; omega)
theorem sh_mod : dMod (.int a) (.int S.C) = some (.int (a % S.C)) := dMod_i (by have := S.c1; omega)
theorem sh_mul : dMul (.int a) (.int S.C) = some (.int (a * S.C)) := dMul_r (by have := S.c1; omega) (by have := S.c2; omega)
theorem sh_rngR : rng1 [.int (S.R + 1)] = some ((List.range (S.R + 1).toNat).map fun (k : Nat) => PyData.int (k : Int)) := rng1_i (by have := S.r1; have := S.r2; omega)
theorem sh_rngC : rng1 [.int (S.C + 1)] = some ((List.range (S.C + 1).toNat).map fun (k : Nat) => PyData.int (k : Int)) := rng1_i (by have := S.c1; have := S.c2; omega)
theorem sh_rngR0 : rng1 [.int S.R] = some ((List.range S.R.toNat).map fun (k : Nat) => PyData.int (k : Int)) := rng1_i (by have := S.r1; have := S.r2; omega)
theorem sh_rngC0 : rng1 [.int S.C] = some ((List.range S.C.toNat).map fun (k : Nat) => PyData.int (k : Int)) := rng1_i (by have := S.c1; have := S.c2; omega)
end
end FL
namespace FL
open PySem PySem.Spec L2 DL
def pDict0 : FP := fun _ => some (.dict [])
def pDict1 (k v : FP) : FP := fun ε => (k ε).bind fun x => (v ε).bind fun y => (keyTag x).bind fun _ => some (.dict [(x, y)])
def mDict1 (k v : M DL.D) : M DL.D := fun ε => bd (k ε) fun x ε1 => bd (v ε1) fun y ε2 => (keyTag x).bind fun _ => some (.ok (.dict [(x, y)]) ε2)
/-- a dict's data: keys by f, values by g -/
def dcL {α β : Type} (f : α → DL.D) (g : β → DL.D) (xs : List (α × β)) : DL.D := .dict (xs.map fun p => (f p.1, g p.2))
/-- f makes keys of one kind -/
class KeyF {α : Type} (f : α → DL.D) (t : outParam Bool) : Prop where
  tag : ∀ a, keyTag (f a) = some t
instance : KeyF PyData.int false := ⟨fun _ => rfl⟩
instance : KeyF PyData.str false := ⟨fun _ => rfl⟩
instance : KeyF pk true := ⟨fun _ => rfl⟩
/-- b stands at a -/
def putX {α β : Type} [DecidableEq α] (xs : List (α × β)) (a : α) (b : β) : List (α × β) := if (xs.any fun p => decide (p.1 = a)) = true then xs.map fun p => if p.1 = a then (p.1, b) else p else xs ++ [(a, b)]
section
variable {α β : Type} [DecidableEq α] {f : α → DL.D} {g : β → DL.D} {k : Nat} {t : Bool} {xs : List (α × β)} {a : α} {b : β}
theorem dcL_ok [KeyF f t] : dictOk (xs.map fun p => (f p.1, g p.2)) (f a) = true := by
  unfold dictOk
  rw [KeyF.tag (f := f) a, Bool.and_eq_true]
  refine ⟨rfl, List.all_eq_true.mpr fun e he => ?_⟩
  obtain ⟨p, _, rfl⟩ := List.mem_map.mp he
  show (keyTag (f p.1) == some t) = true
  rw [KeyF.tag (f := f)]
  exact beq_self_eq_true _
theorem dcL_find [EncF f k] : findD (xs.map fun p => (f p.1, g p.2)) (f a) = (xs.find? fun p => decide (p.1 = a)).map fun p => g p.2 := by
  induction xs with
  | nil => rfl
  | cons x xs ih =>
    rw [List.map_cons, findD_cons, ih, EncF.eqv (f := f), List.find?_cons]
    by_cases h : x.1 = a
    · rw [if_pos (decide_eq_true h), decide_eq_true h]; rfl
    · rw [if_neg (by rw [decide_eq_false h]; decide), decide_eq_false h]
theorem dcL_put [EncF f k] : putD (xs.map fun p => (f p.1, g p.2)) (f a) (g b) = (putX xs a b).map fun p => (f p.1, g p.2) := by
  have any : ((xs.map fun p => (f p.1, g p.2)).any fun e => PyData.eqv e.1 (f a)) = xs.any fun p => decide (p.1 = a) := by
    rw [List.any_map]
    congr 1
    funext p
    exact EncF.eqv p.1 a
  unfold putD putX
  rw [any]
  split
  · rw [List.map_map, List.map_map]
    refine List.map_congr_left fun p _ => ?_
    show (if PyData.eqv (f p.1) (f a) = true then (f p.1, g b) else (f p.1, g p.2)) = (fun p => (f p.1, g p.2)) (if p.1 = a then (p.1, b) else p)
    rw [EncF.eqv]
    by_cases h : p.1 = a
    · rw [if_pos (decide_eq_true h), if_pos h]
    · rw [if_neg (by rw [decide_eq_false h]; decide), if_neg h]
  · rw [List.map_append]; rfl
theorem in_dc [KeyF f t] [EncF f k] : dIn (f a) (dcL f g xs) = some (.bool (decide (a ∈ xs.map (·.1)))) := by
  show (if dictOk _ (f a) = true then some (PyData.bool (if false = true then _ else _)) else none) = _
  rw [if_pos dcL_ok, if_neg Bool.false_ne_true, dcL_find, Option.isSome_map]
  congr 2
  rw [Bool.eq_iff_iff, List.find?_isSome, decide_eq_true_eq, List.mem_map]
  constructor
  · rintro ⟨p, h1, h2⟩; exact ⟨p, h1, of_decide_eq_true h2⟩
  · rintro ⟨p, h1, h2⟩; exact ⟨p, h1, decide_eq_true h2⟩
theorem nin_dc [KeyF f t] [EncF f k] : dNotIn (f a) (dcL f g xs) = some (.bool !(decide (a ∈ xs.map (·.1)))) := by
  have h := in_dc (f := f) (g := g) (xs := xs) (a := a)
  have h1 : (if dictOk (xs.map fun p => (f p.1, g p.2)) (f a) = true then some (PyData.bool (findD (xs.map fun p => (f p.1, g p.2)) (f a)).isSome) else none) = some (PyData.bool (decide (a ∈ xs.map (·.1)))) := h
  show (if dictOk (xs.map fun p => (f p.1, g p.2)) (f a) = true then some (PyData.bool !(findD (xs.map fun p => (f p.1, g p.2)) (f a)).isSome) else none) = _
  rw [if_pos dcL_ok] at h1 ⊢
  injection h1 with h1
  injection h1 with h1
  rw [h1]
theorem set_dc [KeyF f t] [EncF f k] (h : xs.length < sizeLine) : fSetL (dcL f g xs) (f a) (g b) = some (dcL f g (putX xs a b)) := by
  show (if dictOk _ (f a) = true ∧ (xs.map fun p => (f p.1, g p.2)).length < sizeLine then _ else none) = _
  rw [if_pos ⟨dcL_ok, by rw [List.length_map]; exact h⟩, dcL_put]
  rfl
theorem sorted_dc : dSorted [dcL f g xs] = dSorted [lL f (xs.map (·.1))] := by
  show (if sortB ((xs.map fun p => (f p.1, g p.2)).map (·.1)) = true then _ else _) = (if sortB ((xs.map (·.1)).map f) = true then _ else _)
  rw [List.map_map, List.map_map]
  rfl
theorem putX_new (h : a ∉ xs.map (·.1)) : putX xs a b = xs ++ [(a, b)] := by
  unfold putX
  rw [if_neg]
  intro z
  obtain ⟨p, hp, e⟩ := List.any_eq_true.mp z
  exact h (List.mem_map.mpr ⟨p, hp, of_decide_eq_true e⟩)
end
def dsL {α : Type} (f : α → DL.D) (F : List α) : DL.D := dcL f PyData.bool (F.map fun a => (a, true))
section
variable {α : Type} [DecidableEq α] {f : α → DL.D} {k : Nat} {t : Bool} {F : List α} {a : α}
theorem ds_keys : (F.map fun a => (a, true)).map (·.1) = F := by rw [List.map_map]; exact List.map_id'' (fun _ => rfl) F
theorem in_ds [KeyF f t] [EncF f k] : dIn (f a) (dsL f F) = some (.bool (decide (a ∈ F))) := by
  unfold dsL
  rw [in_dc]
  simp only [ds_keys]
theorem nin_ds [KeyF f t] [EncF f k] : dNotIn (f a) (dsL f F) = some (.bool !(decide (a ∈ F))) := by
  unfold dsL
  rw [nin_dc]
  simp only [ds_keys]
theorem set_ds [KeyF f t] [EncF f k] (h : F.length < sizeLine) (n : a ∉ F) : fSetL (dsL f F) (f a) (.bool true) = some (dsL f (F ++ [a])) := by
  unfold dsL
  rw [set_dc (g := PyData.bool) (by rw [List.length_map]; exact h), putX_new (by rw [ds_keys]; exact n), List.map_append]
  rfl
theorem sorted_ds : dSorted [dsL f F] = dSorted [lL f F] := by
  unfold dsL
  rw [sorted_dc, ds_keys]
end
theorem ds_oneI {b : Int} : PyData.dict [(.int b, .bool true)] = dsL PyData.int [b] := rfl
theorem ds_oneP {b : Int × Int} : PyData.dict [(pk b, .bool true)] = dsL pk [b] := rfl
theorem keyTag_int {b : Int} : keyTag (.int b) = some false := rfl
theorem keyTag_str {b : Str} : keyTag (.str b) = some false := rfl
theorem keyTag_pk {b : Int × Int} : keyTag (pk b) = some true := rfl
def iEnu (a : FP) : FI := fun ε => (a ε).bind fun x => (seqD x).bind fun r => some (enumD r)
end FL
namespace FL
open PySem PySem.Spec L2 DL
def rdX (r : RD) (ε : En) : R DL.D := match r with
  | .ok d _ => .ok d ε
  | .ex x _ => .ex x ε
theorem rdX_ok {d : DL.D} {o : List DL.D} {ε : En} : rdX (.ok d o) ε = .ok d ε := rfl
theorem rdX_ex {x : Exn} {o : List DL.D} {ε : En} : rdX (.ex x o) ε = .ex x ε := rfl
section
variable {Rx : RX}
def mCallX (F : FM) (ms : List MV) : M DL.D := fun ε => bd (mArgs ms ε) fun xs ε1 => (valsF ε1 xs).bind fun ds => (F ds).bind fun r => some (rdX r ε1)
def fRaise (C : Str) (fn : List Str) (ms : List (M DL.D)) : FS := fun ε => bd (mArgsC ms ε) fun ds ε1 => some (.ex ⟨C, fn.zip ds⟩ ε1)
/-- what becomes of what the body raises -/
def tryO (i : Nat) (cs : List Str) (h : Str) (f : Exn → Option DL.D) (m : Option (R Fl)) : Option (R Fl) := match m with
  | some (.ex x ε1) => if cs.contains x.cls = true then if subX x.cls h = true then (f x).bind fun dd => some (.ok (.rt dd) (ε1.set i none)) else some (.ex x ε1) else none
  | r => r
theorem tryO_nx {i : Nat} {cs : List Str} {h : Str} {f : Exn → Option DL.D} {ε : En} : tryO i cs h f (some (.ok .nx ε)) = some (.ok .nx ε) := rfl
theorem tryO_rt {i : Nat} {cs : List Str} {h : Str} {f : Exn → Option DL.D} {d : DL.D} {ε : En} : tryO i cs h f (some (.ok (.rt d) ε)) = some (.ok (.rt d) ε) := rfl
theorem tryO_ex {i : Nat} {cs : List Str} {h : Str} {f : Exn → Option DL.D} {x : Exn} {ε1 : En} : tryO i cs h f (some (.ex x ε1)) = if cs.contains x.cls = true then if subX x.cls h = true then (f x).bind fun dd => some (.ok (.rt dd) (ε1.set i none)) else some (.ex x ε1) else none := rfl
def fTry1 (i : Nat) (cs : List Str) (h : Str) (s : FS) (f : Exn → Option DL.D) : FS := fun ε => tryO i cs h f (s ε)
end
/-- a promise that asks for what can't be -/
theorem fn_never {P : Program} {w : World} {K : PySem.W.Frag} {mg : Str → Option Value} {base : Heap} {CX : CXT} {k : Nat} {f : Addr} {fd : FuncData} {ps : List Str} {pk : List Kd} {fr : Bool} : FnG P w K mg base CX k f fd ps (spD pk fr (spM fun _ => none)) :=
  ⟨fun _ _ _ _ ⟨_, _, _, _, _, e, _⟩ => (nomatch e), fun _ _ _ _ _ _ _ _ _ _ _ _ _ _ ⟨_, _, _, _, _, e, _⟩ => (nomatch e)⟩
end FL
namespace DL
open PySem PySem.Spec L2
section
variable {X : L2.Cx}
/-- e.f, e an exception kept as a value -/
theorem pe_xfV {e : Expr} {f : Str} {te : TE} {pos : Pos} (he : PE X e te) (hb : attributeBase e f X.env (eval e X.env) = eval e X.env) :
    PE X (.Attribute e f pos) (fun σ H Q => te σ H fun x H1 => ∃ (a C : Addr) (dd : Option Addr) (fs : List (Str × V)) (er : List (D × D)) (v : V), x = .ref a ∧ H1 a = some (exo a C dd) ∧ ((dd = none ∧ er = []) ∨ ∃ p, dd = some p ∧ H1 p = some (exd p fs)) ∧ er ≠ [] ∧ ExcF X.K C ∧ PySem.W.findIn X.K (.ref C) f = some none ∧ fs.lookup f = some v ∧ Q v H1) := by
  refine ⟨fun pins s σ H Q I h => ?_⟩
  refine attr_of hb (thn (he.run pins s σ H _ I h) fun u s1 hh => ?_)
  obtain ⟨x, H1, I1, rx, a, C, dd, fs, er, v, ex, ha, hd, ne, F, hno, l, q⟩ := hh
  subst ex
  obtain rfl : u = Value.ref a := rx
  obtain ⟨oe, od, J, k⟩ := exo_inst (er := er) I1 ha hd
  obtain ⟨uv, ob, eo, hl, ru⟩ := k f v ne l
  subst eo
  exact HandSPX.exc_get I1.kIn J F.hga F.hgt F.hsub (PySem.W.findObj_own F.hd hno rfl hl) (handed_of ru) ⟨v, H1, I1.tok _, ru, q⟩
def rIsV (K : PySem.W.Frag) : List V → Hp → VK → Prop := fun xs H Q => ∃ (a C : Addr) (dd : Option Addr) (fs : List (Str × V)) (er : List (D × D)) (c : V) (cv : Value) (b : Bool), xs = [.ref a, c] ∧ H a = some (exo a C dd) ∧ ((dd = none ∧ er = []) ∨ ∃ p, dd = some p ∧ H p = some (exd p fs)) ∧ ExcF K C ∧ (∀ u, RelV c u → u = cv) ∧ PySem.W.kitOne K (.ref C) cv = some b ∧ Q (.bl b) H
theorem call_isV : CallR X (.builtin "isinstance") (rIsV X.K) := by
  intro pins s σ H xs us Q I r h
  obtain ⟨a, C, dd, fs, er, c, cv, b, rfl, ha, hd, F, hcv, e, q⟩ := h
  cases r with
  | cons rx rr =>
    cases rr with
    | cons rt rr =>
      cases rr
      cases rx
      have ec' := hcv _ rt
      subst ec'
      obtain ⟨oe, od, J, _⟩ := exo_inst (er := er) I ha hd
      exact PySem.W.kia_one (PySem.W.kitx_exc F.hcl F.hga F.hgt F.hsub F.ha F.hn F.ht F.hm) I.kIn J e (fun z => nomatch z) fun tk => ⟨.bl b, H, I.kept (t' := tk) fun _ _ z => z, rfl, q⟩
end
section
variable {X : CxD} {κ : List Kd} {XC : Str → Addr} {cs hs fs : List Str} {e : Expr} {f h : Str} {oa : Op} {p1 p2 p3 pos : Pos}
theorem de_xf (T : SubOk X.K X.mg cs hs fs) (V : ExV X.mg XC cs) (ha : DO X κ e oa) (hf : f ∈ fs := by decide) (hb : attributeBase e f X.env (eval e X.env) = eval e X.env := by rfl) : DE X κ (.Attribute e f pos) (eUn (dXf XC cs f) oa) :=
  ⟨fun g hg' => (pe_xfV (ha.pe g hg') hb).imp fun σ H Q ⟨O, ε, A, q⟩ => ⟨O, ε, A, oEv_mono ha.mono (fun x ε1 ⟨a, r, e1, e2, q⟩ v H1 O1 A1 x1 r1 => by
    obtain ⟨n, er, rfl, hn, lf⟩ := dXf_some e2
    obtain ⟨a, C, dd, gs, rfl, ec, hx, hd, rf⟩ := nb_ex (r1.nb A1 e1)
    have ec : XC n = C := Int.ofNat.inj ec
    subst ec
    obtain ⟨C', mC, F, nf⟩ := T.at_ n hn
    rw [V.at_ n hn] at mC
    cases mC
    obtain ⟨u, lu, ru⟩ := rpF_look rf lf
    exact ⟨a, _, dd, gs, er, u, rfl, hx, hd, (fun z => by rw [z] at lf; cases lf), F, nf f hf, lu, q u H1 O1 A1 x1 ru⟩) q⟩, eUn_mono ha.mono⟩
theorem de_xis (T : SubOk X.K X.mg cs hs fs) (V : ExV X.mg XC cs) (hg : Gl X "isinstance") (hm : X.mg "isinstance" = none) (gh : Gl X h) (ha : DO X κ e oa) (hmem : h ∈ hs := by decide) (hst : notStar e = true := by rfl) (hdb2 : (h == ("__debug__" : Str)) = false := by decide) :
    DE X κ (.Call (.Name "isinstance" p1) [e, .Name h p3] [] pos) (eUn (dXis XC cs fun n => subX n h) oa) := by
  obtain ⟨D', mD⟩ := T.ath h hmem
  refine ⟨fun g hg' => (pe_callB call_isV hg hm (by decide +kernel) (pa_cons (ha.pe g hg') (pa_cons (pe_glob (v := .ref D') gh mD rfl hdb2) pa_nil) (st_cons hst)) (he := st_cons hst)).imp fun σ H Q ⟨O, ε, A, q⟩ =>
    ⟨O, ε, A, oEv_mono ha.mono (fun x ε1 ⟨a, r, e1, e2, q⟩ v H1 O1 A1 x1 r1 => by
      obtain ⟨n, er, rfl, hn, rfl⟩ := dXis_some e2
      obtain ⟨a, C, dd, gs, rfl, ec, hx, hd, rf⟩ := nb_ex (r1.nb A1 e1)
      have ec : XC n = C := Int.ofNat.inj ec
      subst ec
      obtain ⟨C', mC, F, nf⟩ := T.at_ n hn
      rw [V.at_ n hn] at mC
      cases mC
      exact ⟨a, _, dd, gs, er, _, _, _, rfl, hx, hd, F, fun u r => r, (T.ok n hn h hmem _ _ (V.at_ n hn) mD).2, q _ H1 O1 A1 x1 rfl⟩) q⟩, eUn_mono ha.mono⟩
theorem de_xisVE (T : SubOk X.K X.mg cs hs fs) (V : ExV X.mg XC cs) (hg : Gl X "isinstance") (hm : X.mg "isinstance" = none) (gh : Gl X "ValueError") (mh : X.mg "ValueError" = none) (ha : DO X κ e oa) (hst : notStar e = true := by rfl) :
    DE X κ (.Call (.Name "isinstance" p1) [e, .Name "ValueError" p3] [] pos) (eUn (dXis XC cs fun _ => true) oa) := by
  refine ⟨fun g hg' => (pe_callB call_isV hg hm (by decide +kernel) (pa_cons (ha.pe g hg') (pa_cons (pe_bltn (v := .ty "ValueError") gh mh (by decide +kernel) rfl) pa_nil) (st_cons hst)) (he := st_cons hst)).imp fun σ H Q ⟨O, ε, A, q⟩ =>
    ⟨O, ε, A, oEv_mono ha.mono (fun x ε1 ⟨a, r, e1, e2, q⟩ v H1 O1 A1 x1 r1 => by
      obtain ⟨n, er, rfl, hn, rfl⟩ := dXis_some e2
      obtain ⟨a, C, dd, gs, rfl, ec, hx, hd, rf⟩ := nb_ex (r1.nb A1 e1)
      have ec : XC n = C := Int.ofNat.inj ec
      subst ec
      obtain ⟨C', mC, F, nf⟩ := T.at_ n hn
      rw [V.at_ n hn] at mC
      cases mC
      exact ⟨a, _, dd, gs, er, _, .type "ValueError", _, rfl, hx, hd, F, fun u r => r, F.ve, q _ H1 O1 A1 x1 rfl⟩) q⟩, eUn_mono ha.mono⟩
/-- a function of clean values -/
def eCon (f : List D → Option D) (ws : List WE) : WE := fun ε Q => cEv ws ε fun ds ε' => ∃ r, f ds = some r ∧ Q r ε'
theorem eCon_mono {f : List D → Option D} {ws : List WE} (m : MonoC ws) : Mono (eCon f ws) := fun ε Q Q' h q => cEv_mono m (fun ds ε' ⟨r, e, q⟩ => ⟨r, e, h _ _ q⟩) q
/-- the fields of a new exception -/
theorem rpF_of {H : Hp} {O : OS} {fs : List (Str × V)} : ∀ {fn : List Str} {ds : List D} {vs : List V}, RpL H O ds vs → fn.length = ds.length → (∀ (i : Nat) f v, fn[i]? = some f → vs[i]? = some v → fs.lookup f = some v) → RpF H O (fieldsD fn ds) fs
  | [], [], _, _, _, _ => True.intro
  | [], _ :: _, _, _, h, _ => by cases h
  | _ :: _, [], _, _, h, _ => by cases h
  | f :: fn, d :: ds, _, ⟨v, r, e, rp, q⟩, h, k => by
    subst e
    refine ⟨f, v, k 0 f v rfl rfl, rfl, rp, ?_⟩
    exact rpF_of q (Nat.succ.inj h) fun i g u h1 h2 => k (i + 1) g u (by simpa using h1) (by simpa using h2)
theorem mkV_core {g : Gx} {C : Addr} {x : Str} {fn fk : List Str} {perm : List V → List V} (hx : XC x = C) {σ : L2.St} {H : Hp} {Q : VK} {O : OS} {ε' : En} {ds : List D} {vs : List V} {H1 : Hp} {O1 : OS} (A1 : Abs g O1 H1 σ ε') (x1 : Ext g.κ σ O H O1 H1) (rl : RpL H1 O1 ds vs) (hl : ds.length = fk.length) (hfl : fk.length = fn.length) (hpl : (perm vs).length = vs.length)
    (hp : ∀ (i : Nat) (f : Str) (v : V), fk[i]? = some f → vs[i]? = some v → ∃ j : Nat, fn[j]? = some f ∧ (perm vs)[j]? = some v)
    (q : ∀ v H' O', Abs g O' H' σ ε' → Ext g.κ σ O H O' H' → Rp H' O' (exD (XC x) x (fieldsD fk ds)) v → Q v H') {a : Addr} (na : H1 a = none) :
    spI fn C (.ref a :: perm vs) (upd H1 a (exo a C none)) (fun v H3 => v = .non ∧ Q (.ref a) H3) (fun _ _ _ => False) := by
  subst hx
  have lv := rpL_len2 rl
  refine ⟨a, perm vs, rfl, by rw [hpl, lv, hl, hfl], upd_same, fun H2 hi => ⟨rfl, ?_⟩⟩
  rcases hi with ⟨e0, rfl⟩ | ⟨dx, fs, hd, hne, ea, ed, eo, hf⟩
  · have s := same_upd (o := exo a (XC x) none) na
    have fk0 : fk = [] := List.length_eq_zero_iff.mp (by rw [hfl, e0]; rfl)
    subst fk0
    have ds0 : ds = [] := List.length_eq_zero_iff.mp hl
    subst ds0
    exact q _ _ O1 (A1.same s) (x1.trans (.same s)) ⟨a, _, rfl, A1.nh na, upd_same, .inr (.inr ⟨rfl, .inr ⟨XC x, x, none, [], rfl, rfl, .inl ⟨rfl, rfl⟩, True.intro⟩⟩)⟩
  · have hd1 : H1 dx = none := by rw [← hd, upd_ne hne]
    have s : Same H1 H2 := fun b o e => by
      have hb : b ≠ a := ne_of_none e na
      have hb2 : b ≠ dx := ne_of_none e hd1
      rw [eo b hb hb2, upd_ne hb]
      exact e
    refine q _ _ O1 (A1.same s) (x1.trans (.same s)) ⟨a, _, rfl, A1.nh na, ea, .inr (.inr ⟨rfl, .inr ⟨XC x, x, some dx, fs, rfl, rfl, .inr ⟨dx, rfl, A1.nh hd1, ed⟩, ?_⟩⟩)⟩
    refine RpF.ext (fun a o e _ => s a o e) (fun _ z => .inl z) (rpF_of rl hl.symm fun i f v h1 h2 => ?_)
    obtain ⟨j, h3, h4⟩ := hp i f v h1 h2
    exact hf j f v h3 h4
theorem permV_len {α : Type} {rev : Bool} {l : List α} : (permV rev l).length = l.length := by
  cases rev
  · rfl
  · exact List.length_reverse
theorem permV_at {rev : Bool} {fn : List Str} {vs : List V} (hl : vs.length = fn.length) (i : Nat) (f : Str) (v : V) (h1 : (permV rev fn)[i]? = some f) (h2 : vs[i]? = some v) : ∃ j : Nat, fn[j]? = some f ∧ (permV rev vs)[j]? = some v := by
  cases rev
  · exact ⟨i, h1, h2⟩
  · have hi : i < vs.length := by
      rcases Nat.lt_or_ge i vs.length with h | h
      · exact h
      · rw [List.getElem?_eq_none h] at h2
        cases h2
    refine ⟨fn.length - 1 - i, ?_, ?_⟩
    · have h1 : fn.reverse[i]? = some f := h1
      rw [List.getElem?_reverse (by omega)] at h1
      exact h1
    · show vs.reverse[fn.length - 1 - i]? = some v
      rw [List.getElem?_reverse (by omega), show vs.length - 1 - (fn.length - 1 - i) = i by omega]
      exact h2
/-- keywords whose values are clean -/
structure DKC (X : CxD) (κ : List Kd) (kws : List Keyword) (ws : List WE) : Prop where
  pk : ∀ g : GX X, g.κ = κ → PK X kws (rdC g ws)
  mono : MonoC ws
theorem dkc_nil {X : CxD} {κ : List Kd} : DKC X κ [] [] := ⟨fun g _ => pk_nil.imp fun σ H Q ⟨O, ε, A, h⟩ => h [] H O A .refl rfl, fun _ h => nomatch h⟩
theorem dkc_cons {X : CxD} {κ : List Kd} {nm : Option Str} {a : Expr} {kpos : Pos} {kws : List Keyword} {w : WE} {ws : List WE} (h : DE X κ a w) (k : DKC X κ kws ws) : DKC X κ (⟨nm, a, kpos⟩ :: kws) (w :: ws) :=
  ⟨fun g hg => (pk_cons (h.pe g hg) (k.pk g hg)).imp fun σ H Q ⟨O, ε, A, q⟩ => ⟨O, ε, A, h.mono _ _ _ (fun x ε1 z v H1 O1 A1 x1 r1 => ⟨O1, ε1, A1, cEv_mono k.mono (fun xs ε2 z vs H2 O2 A2 x2 r2 => z _ H2 O2 A2 (x1.trans x2) ⟨v, vs, rfl, A1.rp x2 r1, r2⟩) z⟩) q⟩,
    fun o ho => (List.mem_cons.mp ho).elim (fun e => e ▸ h.mono) fun ho => k.mono o ho⟩
def gK {α : Type} (n : Nat) (rev : Bool) (us ws : List α) : List α := if us.length = 1 ∧ ws.length = n then us ++ permV rev ws else []
theorem gK_ok {α : Type} {n : Nat} {rev : Bool} {u : α} {ws : List α} (h : ws.length = n) : gK n rev [u] ws = u :: permV rev ws := if_pos ⟨rfl, h⟩
theorem vals_rev : ∀ {vs : List V} {us : List Value}, Vals vs us → Vals vs.reverse us.reverse
  | _, _, .nil => .nil
  | _, _, .cons r q => by
    rw [List.reverse_cons, List.reverse_cons]
    exact (vals_rev q).append (.cons r .nil)
theorem fun_kbx {K : PySem.W.Frag} {x qual : Str} {st : Stmt} {f : Addr} {fd : FuncData} {ps : List Str} {n : Nat} {rev : Bool} (F : Fun K x qual st f fd) (hps : ps.length = n + 1)
    (h : ∀ (kV doc pm : Value) (an : Option Addr) (cdv ct : Value) (u : Value) (ws : List Value), ws.length = n → bindArgs (PySem.W.fnOf x qual (defArgs st) (defBody st) (defScope st) .none kV doc pm an cdv ct) ⟨[u], (permV rev ps.tail).zip ws⟩ = pure (ps.zip (u :: permV rev ws))) : KBinds K fd ps (permV rev ps.tail) (gK n rev) (gK n rev) := by
  obtain ⟨oc, od, kV, doc, pm, an, cdv, ct, osl, rfl, lk, hcd⟩ := F.ex
  refine ⟨fun s us ws _ hl => ?_, fun {vs us zs ws} r q => ?_⟩
  · unfold gK at hl ⊢
    by_cases c : us.length = 1 ∧ ws.length = n
    · rw [if_pos c]
      obtain ⟨u, rfl⟩ := List.length_eq_one_iff.mp c.1
      exact .of_eq (h kV doc pm an cdv ct u ws c.2)
    · rw [if_neg c, hps] at hl
      cases hl
  · unfold gK
    have l1 : vs.length = us.length := r.length
    have l2 : zs.length = ws.length := q.length
    rw [l1, l2]
    by_cases c : us.length = 1 ∧ ws.length = n
    · rw [if_pos c, if_pos c]
      refine r.append ?_
      cases rev
      · exact q
      · exact vals_rev q
    · rw [if_neg c, if_neg c]
      exact .nil
/-- a class as callers with keywords see it -/
structure XClsK (P : Program) (w : World) (K : PySem.W.Frag) (mg : Str → Option Value) (base : Heap) (x : Str) (ps fn : List Str) (rev : Bool) : Prop where
  ex : ∃ C fI fd, mg x = some (.ref C) ∧ OexC K C ∧ PySem.W.findIn K (.ref C) "__init__" = some (some (.ref fI)) ∧ PySem.W.typeIn K (.ref fI) = some (.type "function") ∧ FnOk P w K mg base CX0 1 fI fd ps (spI fn C) ∧ KBinds K fd ps (permV rev ps.tail) (gK fn.length rev) (gK fn.length rev)
variable {x : Str} {ps fn : List Str} {es : List Expr} {ws : List WE} {p : Pos}
theorem mkE_core {mg : Str → Option Value} {g : Gx} {C : Addr} {rev : Bool} (m : MonoC ws) (hx : mg x = some (.ref C)) (V : ExV mg XC cs) (hmem : x ∈ cs) (hl : ws.length = fn.length) (hl2 : ws.length ≤ 1000) {σ : L2.St} {H : Hp} {Q : VK}
    (h : rdE g (eCon (dMkX XC x (permV rev fn)) ws) σ H Q) : rdC g ws σ H fun vs H1 => vs.length ≤ 1000 ∧ ∀ a, H1 a = none → spI fn C (.ref a :: permV rev vs) (upd H1 a (exo a C none)) (fun v H3 => v = .non ∧ Q (.ref a) H3) (fun _ _ _ => False) := by
  obtain ⟨O, ε, A, q⟩ := h
  have ex : XC x = C := by
    have e := V.at_ x hmem
    rw [hx] at e
    cases e
    rfl
  refine ⟨O, ε, A, cEv_mono m (fun ds ε1 ⟨el, r, er, q⟩ vs H1 O1 A1 x1 rl => ?_) (cEv_len m q)⟩
  have lv := rpL_len2 rl
  refine ⟨by omega, fun a na => ?_⟩
  unfold dMkX at er
  split at er
  · rename_i e
    cases er
    rw [permV_len] at e
    exact mkV_core (perm := permV rev) ex A1 x1 rl (by rw [permV_len]; exact e) permV_len permV_len (fun i f v h1 h2 => permV_at (by omega) i f v h1 h2) q na
  · cases er
theorem de_mkX (c : XCls X.prog X.w X.K X.mg X.base x ps fn) (V : ExV X.mg XC cs) (hr : Room 2 X.A) (ha : DC X κ (e :: es) ws) (hmem : x ∈ cs := by decide) (hl : ws.length = fn.length := by rfl) (hl2 : ws.length ≤ 1000 := by exact Nat.le_of_ble_eq_true rfl) (hg : Gl X x := by rfl) (hdb : (x == ("__debug__" : Str)) = false := by decide)
    (he : starEach (e :: es) X.env = (false, eval e X.env) :: starEach es X.env := by rfl) (hpl : (backTo pos (starEach es X.env)).any (·.1) = false := by rfl) :
    DE X κ (.Call (.Name x p) (e :: es) [] pos) (eCon (dMkX XC x fn) ws) := by
  obtain ⟨C, fI, fd, hx, T, iC, tI, F, hb⟩ := c.ex
  exact ⟨fun g hg' => (pe_mkV T iC tI F hr (kb_pos hb) pass0 hg hx (ha.pa g hg') hdb he hpl).imp fun σ H Q h => mkE_core (rev := false) ha.mono hx V hmem hl hl2 h, eCon_mono ha.mono⟩
theorem de_mkX0 (c : XCls X.prog X.w X.K X.mg X.base x ps []) (V : ExV X.mg XC cs) (hr : Room 2 X.A) (hmem : x ∈ cs := by decide) (hg : Gl X x := by rfl) (hdb : (x == ("__debug__" : Str)) = false := by decide) :
    DE X κ (.Call (.Name x p) [] [] pos) (eCon (dMkX XC x []) []) := by
  obtain ⟨C, fI, fd, hx, T, iC, tI, F, hb⟩ := c.ex
  refine ⟨fun g hg' => (pe_mkV0 T iC tI F hr (kb_pos hb) pass0 hg hx hdb).imp fun σ H Q h => ?_, eCon_mono fun _ h => nomatch h⟩
  obtain ⟨O, ε, A, k⟩ := mkE_core (rev := false) (fn := []) (ws := []) (fun _ h => nomatch h) hx V hmem rfl (by decide) h
  exact k [] H O A .refl rfl
theorem de_mkXK {kws : List Keyword} {rev : Bool} {fk : List Str} (c : XClsK X.prog X.w X.K X.mg X.base x ps fn rev) (V : ExV X.mg XC cs) (hr : Room 2 X.A) (ha : DKC X κ kws ws) (hmem : x ∈ cs := by decide) (hl : ws.length = fn.length := by rfl) (hl2 : ws.length ≤ 1000 := by exact Nat.le_of_ble_eq_true rfl) (hg : Gl X x := by rfl) (hdb : (x == ("__debug__" : Str)) = false := by decide)
    (hall : (backToKw pos (keywordEach kws X.env)).all (·.1.isSome) = true := by rfl) (hks : (backToKw pos (keywordEach kws X.env)).filterMap (·.1) = permV rev ps.tail := by rfl)
    (hpl : ((backTo pos (starEach [] X.env)).any (·.1) || (backToKw pos (keywordEach kws X.env)).any (·.1.isNone)) = false := by rfl) (hfk : fk = permV rev fn := by rfl) :
    DE X κ (.Call (.Name x p) [] kws pos) (eCon (dMkX XC x fk) ws) := by
  subst hfk
  obtain ⟨C, fI, fd, hx, T, iC, tI, F, hb⟩ := c.ex
  refine ⟨fun g hg' => (pe_mkVK T iC tI F hr hb pass0 hg hx (ha.pk g hg') hall hks hdb hpl).imp fun σ H Q h => ?_, eCon_mono ha.mono⟩
  obtain ⟨O, ε, A, k⟩ := mkE_core ha.mono hx V hmem hl hl2 h
  exact ⟨O, ε, A, cEv_mono ha.mono (fun ds ε' ⟨el, k⟩ vs H1 O1 A1 x1 rl => ⟨Nat.zero_le _, fun a na => by
    rw [gK_ok (by rw [rpL_len2 rl, el, hl])]
    exact (k vs H1 O1 A1 x1 rl).2 a na⟩) (cEv_len ha.mono k)⟩
end
end DL
namespace FL
open DL
theorem ip_con {f : List DL.D → Option DL.D} {ws : List WE} {ps : List FP} (h : IPC ws ps) : IP (eCon f ws) (pApp f ps) := fun ε d Q e q => by
  obtain ⟨ds, e1, e⟩ := Option.bind_eq_some_iff.mp e
  exact ipc_ev h e1 ⟨d, e, q⟩
end FL
namespace FL
open PySem PySem.Spec L2 DL
def sortI (xs : List Int) : List Int := xs.mergeSort fun a b => decide (a ≤ b)
theorem leD_int {a b : Int} : leD (.int a) (.int b) = decide (a ≤ b) := by
  show (!PyProof.Rows.lexLt PyProof.Rows.itemOrd [.inl b] [.inl a]) = _
  by_cases h : b < a
  · have : PyProof.Rows.lexLt PyProof.Rows.itemOrd [.inl b] [.inl a] = true := by
      simp [PyProof.Rows.lexLt, PyProof.Rows.itemLt, h]
    rw [this, decide_eq_false (by omega)]; rfl
  · have : PyProof.Rows.lexLt PyProof.Rows.itemOrd [.inl b] [.inl a] = false := by
      simp [PyProof.Rows.lexLt, PyProof.Rows.itemLt, h]
    rw [this, decide_eq_true (by omega)]; rfl
theorem sortB_int {xs : List Int} : sortB (xs.map .int) = true := by
  unfold sortB
  have h1 : ((xs.map PyData.int).all fun a => (xs.map PyData.int).all fun b => PySem.W.alike a b) = true := by
    refine List.all_eq_true.mpr fun x hx => List.all_eq_true.mpr fun y hy => ?_
    obtain ⟨a, _, rfl⟩ := List.mem_map.mp hx
    obtain ⟨b, _, rfl⟩ := List.mem_map.mp hy
    rfl
  have h2 : ((xs.map PyData.int).all noTup) = true := by
    simp only [List.all_map, List.all_eq_true]
    intro a _
    rfl
  have h3 : ((xs.map PyData.int).all fun d => decide (d.depth ≤ 64) && !d.hasDict) = true := by
    simp only [List.all_map, List.all_eq_true]
    intro a _
    rfl
  rw [h1, h2, h3, Bool.or_true]
  rfl
theorem sorted_int {xs : List Int} : dSorted [lL .int xs] = some (lL .int (sortI xs)) := by
  show (if sortB (xs.map .int) = true then some (PyData.list (sortD (xs.map .int))) else none) = _
  rw [if_pos sortB_int]
  unfold sortD sortI lL
  rw [List.map_mergeSort (r := fun a b : Int => decide (a ≤ b)) (s := leD) (f := PyData.int) (fun a _ b _ => leD_int.symm)]
theorem sortI_perm (xs : List Int) : (sortI xs).Perm xs := List.mergeSort_perm _ _
theorem sortI_mem {xs : List Int} {a : Int} : a ∈ sortI xs ↔ a ∈ xs := (sortI_perm xs).mem_iff
theorem sortI_le (xs : List Int) : (sortI xs).Pairwise (· ≤ ·) := by
  have := List.pairwise_mergeSort (le := fun a b : Int => decide (a ≤ b)) (fun a b c h1 h2 => by simp at *; omega) (fun a b => by simp; omega) xs
  exact this.imp fun h => by simpa using h
/-- ascending, none twice -/
def Asc (xs : List Int) : Prop := xs.Pairwise (· < ·)
theorem sortI_asc {xs : List Int} (h : xs.Nodup) : Asc (sortI xs) := by
  have n : (sortI xs).Nodup := (sortI_perm xs).nodup_iff.mpr h
  have l := sortI_le xs
  unfold Asc
  have n : (sortI xs).Pairwise (· ≠ ·) := n
  exact (l.and n).imp fun h => by have := h.1; have := h.2; omega
theorem Asc.nodup {xs : List Int} (h : Asc xs) : xs.Nodup := (show xs.Pairwise (· < ·) from h).imp fun h => by omega
/-- two ascending lists with the same items are one -/
theorem asc_ext : ∀ {xs ys : List Int}, Asc xs → Asc ys → (∀ a, a ∈ xs ↔ a ∈ ys) → xs = ys
  | [], [], _, _, _ => rfl
  | [], y :: ys, _, _, h => absurd ((h y).mpr List.mem_cons_self) (by simp)
  | x :: xs, [], _, _, h => absurd ((h x).mp List.mem_cons_self) (by simp)
  | x :: xs, y :: ys, hx, hy, h => by
    obtain ⟨hx1, hx2⟩ := List.pairwise_cons.mp hx
    obtain ⟨hy1, hy2⟩ := List.pairwise_cons.mp hy
    have e : x = y := by
      rcases List.mem_cons.mp ((h x).mp List.mem_cons_self) with e | e
      · exact e
      · rcases List.mem_cons.mp ((h y).mpr List.mem_cons_self) with e2 | e2
        · exact e2.symm
        · have := hx1 y e2
          have := hy1 x e
          omega
    subst e
    rw [asc_ext hx2 hy2 fun a => ?_]
    constructor
    · intro ha
      have := hx1 a ha
      rcases List.mem_cons.mp ((h a).mp (List.mem_cons_of_mem _ ha)) with e | e
      · omega
      · exact e
    · intro ha
      have := hy1 a ha
      rcases List.mem_cons.mp ((h a).mpr (List.mem_cons_of_mem _ ha)) with e | e
      · omega
      · exact e
theorem asc_rgI {n : Int} : Asc (rgI n) := by
  unfold Asc rgI
  rw [List.pairwise_map]
  exact List.pairwise_lt_range.imp fun h => by omega
theorem Asc.filter {xs : List Int} (h : Asc xs) (p : Int → Bool) : Asc (xs.filter p) := List.Pairwise.filter p h
theorem Asc.sub {xs ys : List Int} (h : Asc xs) (s : ys.Sublist xs) : Asc ys := List.Pairwise.sublist s h
/-- an ascending list of numbers below n has at most n items -/
theorem asc_len {xs : List Int} {n : Int} (h : Asc xs) (hb : ∀ a ∈ xs, 0 ≤ a ∧ a < n) : xs.length ≤ n.toNat := by
  have e : xs = (rgI n).filter fun a => decide (a ∈ xs) := asc_ext h (asc_rgI.filter _) fun a => by
    rw [List.mem_filter, mem_rgI, decide_eq_true_eq]
    exact ⟨fun z => ⟨hb a z, z⟩, fun z => z.2⟩
  rw [e]
  refine Nat.le_trans (List.length_filter_le _ _) ?_
  rw [rgI_len]
  exact Nat.le_refl _
end FL
namespace FL
open PySem PySem.Spec L2 DL
def pGet (a b z : FP) : FP := fun ε => (a ε).bind fun x => (b ε).bind fun y => (z ε).bind fun w => dGet x y w
def dKeysT (d : DL.D) : Option DL.D := match d with
  | .dict es => if es.length < sizeLine ∧ es.all keyB = true then some (.list (keysT es)) else none
  | _ => none
def pKeysT (i : Nat) : FP := fun ε => ((ε[i]?).join).bind dKeysT
end FL
namespace DL
open PySem PySem.Spec L2
def keyOf : D → Option Key
  | .int i => some (.inl i)
  | .str x => some (.inr x)
  | _ => none
def pairsK : List D → Option (List (Key × D))
  | [] => some []
  | .tuple [k, d] :: r => (keyOf k).bind fun key => (pairsK r).map ((key, d) :: ·)
  | _ => none
def dDictP : List D → Option D
  | [.list xs] => (pairsK xs).bind fun ps => if (ps.map (·.1)).Nodup then some (.dict (ps.map fun p => (keyD p.1, p.2))) else none
  | _ => none
theorem keyOf_some {d : D} {k : Key} (h : keyOf d = some k) : d = keyD k := by
  match d, h with
  | .int i, h => cases h; rfl
  | .str x, h => cases h; rfl
theorem rp_key {H : Hp} {O : OS} {k : Key} {v : V} (h : Rp H O (keyD k) v) : v = kV k := by
  cases k with
  | inl i => exact h
  | inr x => exact h
theorem merge_new : ∀ (more kvs : List (Key × V)), ((kvs ++ more).map (·.1)).Nodup → mergeK kvs more = kvs ++ more
  | [], kvs, _ => by rw [List.append_nil]; rfl
  | p :: r, kvs, h => by
    have e : putK kvs p.1 p.2 = kvs ++ [p] := by
      unfold putK
      rw [if_neg]
      intro c
      obtain ⟨q, hq, e⟩ := List.any_eq_true.mp c
      have e := of_decide_eq_true e
      rw [List.map_append, List.map_cons] at h
      exact (List.nodup_append.mp h).2.2 q.1 (List.mem_map_of_mem hq) p.1 List.mem_cons_self e
    show mergeK (putK kvs p.1 p.2) r = _
    rw [e, merge_new r (kvs ++ [p]) (by rw [List.append_assoc]; exact h), List.append_assoc]
    rfl
theorem pairs_rel {H : Hp} {O : OS} : ∀ {xs : List D} {ps : List (Key × D)} {vs : List V}, RpL H O xs vs → pairsK xs = some ps → ∃ (as : List Addr) (kvs : List (Key × V)), vs = as.map V.ref ∧ Paired (fun p kv => RdT H p [kV kv.1, kv.2]) as kvs ∧ kvs.map (·.1) = ps.map (·.1) ∧ RpK H O (ps.map fun p => (keyD p.1, p.2)) kvs
  | [], ps, vs, r, e => by
    cases e
    have r : vs = [] := r
    subst r
    exact ⟨[], [], rfl, .nil, rfl, rfl⟩
  | x :: xs, ps, vs, r, e => by
    obtain ⟨v, vr, rfl, rp, rl⟩ := r
    match x, rp, e with
    | .tuple [k, d], rp, e =>
      have e : ((keyOf k).bind fun key => (pairsK xs).map ((key, d) :: ·)) = some ps := e
      obtain ⟨key, e1, e⟩ := Option.bind_eq_some_iff.mp e
      obtain ⟨pr, e2, e3⟩ := Option.map_eq_some_iff.mp e
      subst e3
      have ek := keyOf_some e1
      subst ek
      obtain ⟨a, us, rfl, _, hH, u1, ur, e4, r1, u2, ur2, e5, r2, e6⟩ := rp
      have e6 : ur2 = [] := e6
      subst e6 e5 e4
      have ev := rp_key r1
      subst ev
      obtain ⟨as, kvs, h1, h2, h3, h4⟩ := pairs_rel rl e2
      refine ⟨a :: as, (key, u2) :: kvs, by rw [h1]; rfl, .cons hH h2, by rw [List.map_cons, List.map_cons, h3], key, u2, kvs, rfl, rfl, r2, h4⟩
theorem dict_ok {K : PySem.W.Frag} : CaN (fun xs H Q => ∃ (a : Addr) (ps : List Addr) (kvs : List (Key × V)), xs = [.ref a] ∧ SqL K H a (ps.map V.ref) ∧ Paired (fun p kv => SqT K H p [kV kv.1, kv.2]) ps kvs ∧
    ∀ p, H p = none → Q (.ref p) (upd H p (.dK (mergeK [] kvs)))) dDictP := fun H O xs ds c Q hO ha e k => by
  match ds, ha, e with
  | [.list ys], ha, e =>
    obtain ⟨v, ev, p, us, ex, hp, r⟩ := nbl1 ha
    subst ex
    have e : ((pairsK ys).bind fun ps => if (ps.map (·.1)).Nodup then some (PyData.dict (ps.map fun p => (keyD p.1, p.2))) else none) = some c := e
    obtain ⟨ps, e1, e⟩ := Option.bind_eq_some_iff.mp e
    split at e
    · rename_i nd
      cases e
      obtain ⟨as, kvs, h1, h2, h3, h4⟩ := pairs_rel r e1
      subst h1
      have em : mergeK [] kvs = kvs := merge_new kvs [] (by rw [List.nil_append, h3]; exact nd)
      refine ⟨p, as, kvs, ev, SqL.of hp, Paired.mapP h2 (fun a b h => sqt h), fun l nl => ?_⟩
      rw [em]
      exact k l _ nl fun O' _ w hl => ⟨l, .dK kvs, rfl, hl, upd_same, .inl ⟨kvs, rfl, RpK.ext (fun a o e _ => same_upd nl a o e) (fun a z => (w a z).imp id fun e => by rw [e]; exact nl) h4⟩⟩
    · cases e
end DL
namespace DL
open PySem PySem.Spec L2
/-- the fragment knows where the modules stand: no list stands there -/
def sysB (K : PySem.W.Frag) : Bool := (K.lookup sysModules).isSome
mutual
def flatA : D → Bool
  | .list ds => flatL ds
  | .tuple ds => flatL ds
  | .dict es => flatK es
  | _ => true
def flatL : List D → Bool
  | [] => true
  | d :: ds => flatA d && flatL ds
def flatK : List (D × D) → Bool
  | [] => true
  | (k, d) :: es => plainK (k, d) && (flatA d && flatK es)
end
section
variable {X : CxD} {pins : List (Addr × Obj)} {σ : L2.St} {H : Hp} {s : Shared} {O : OS}
theorem sys_none (hK : sysB X.K = true) (I : L2.Inv X.toCx pins σ H s) : H sysModules = none := by
  obtain ⟨o, ho⟩ := Option.isSome_iff_exists.mp hK
  exact (I.bs sysModules o (I.mod.kin _ _ ho)).2
theorem sys_ne (hK : sysB X.K = true) (I : L2.Inv X.toCx pins σ H s) {a : Addr} {o : HO} (h : H a = some o) : sysModules ≠ a := fun e => by
  rw [← e, sys_none hK I] at h
  cases h
theorem keys_read {h : Heap} {P : Program} {w : World} : ∀ {es : List DictEntry} {vs : List (Key × Value)}, Pairs (mixKind P w) es vs → ReadsAll h (es.map (·.key)) (vs.map fun p => keyD p.1) []
  | _, _, .nil => .nil
  | _, _, .cons (kv := kv) h1 _ r => by
    have ih := keys_read (h := h) r
    rcases keyIs_shape h1 with ⟨i, t, e1, e2⟩ | ⟨x, t, e1, e2⟩
    · rw [List.map_cons, List.map_cons, e1, e2]
      exact .cons (as := []) (.int i t) ih
    · rw [List.map_cons, List.map_cons, e1, e2]
      exact .cons (as := []) (.str x t) ih
theorem vals_of {P : Program} {w : World} : ∀ {es : List DictEntry} {vs : List (Key × Value)}, Pairs (mixKind P w) es vs → es.map (·.val) = vs.map (·.2)
  | _, _, .nil => rfl
  | _, _, .cons _ h2 r => by rw [List.map_cons, List.map_cons, h2, vals_of r]
mutual
theorem rp_reads (hK : sysB X.K = true) (I : L2.Inv X.toCx pins σ H s) : ∀ (d : D) (v : V) (u : Value), Rp H O d v → flatA d = true → RelV v u → ∃ as, Reads s.heap u d as ∧ sysModules ∉ as
  | .none, v, u, h, _, r => by
    have h : v = .non := h
    subst h
    cases r
    exact ⟨_, Reads.none, List.not_mem_nil⟩
  | .bool b, v, u, h, _, r => by
    have h : v = .bl b := h
    subst h
    cases r
    exact ⟨_, Reads.bool b, List.not_mem_nil⟩
  | .int i, v, u, h, _, r => by
    have h : v = .int i := h
    subst h
    obtain ⟨t, rfl⟩ := r
    exact ⟨_, Reads.int i t, List.not_mem_nil⟩
  | .str x, v, u, h, _, r => by
    have h : v = .str x := h
    subst h
    obtain ⟨t, rfl⟩ := r
    exact ⟨_, Reads.str x t, List.not_mem_nil⟩
  | .list ds, v, u, ⟨a, xs, e, _, ha, q⟩, f, r => by
    subst e
    cases r
    obtain ⟨its, rv, ⟨o, n, ho, hc, _, hd⟩, _⟩ := I.list (SqL.of ha)
    obtain ⟨as, hr, nm⟩ := rpl_reads hK I ds xs its q f rv
    exact ⟨_, Reads.list ho hc hd hr, fun hm => (List.mem_cons.mp hm).elim (sys_ne hK I ha) nm⟩
  | .tuple ds, v, u, ⟨a, xs, e, _, ha, q⟩, f, r => by
    subst e
    cases r
    obtain ⟨its, rv, ⟨o, ho, hc, n, hd⟩, _⟩ := I.tuple (sqt ha)
    obtain ⟨as, hr, nm⟩ := rpl_reads hK I ds xs its q f rv
    exact ⟨_, Reads.tuple ho hc hd hr, nm⟩
  | .dict es, v, u, ⟨a, x, e, _, ha, q⟩, f, r => by
    subst e
    cases r
    rcases q with ⟨kvs, e, q⟩ | ⟨xs, e, ne, q⟩ | qj
    · subst e
      obtain ⟨_, _, vs, kv, o, es', ep, ho, hx, hd, _, pr, _⟩ := I.hok a _ ha
      obtain ⟨bs, hr, nm, ek⟩ := rpk_reads hK I es kvs vs q f kv
      have hk := keys_read (h := s.heap) pr
      rw [ek] at hk
      have hv := vals_of pr
      rw [← hv] at hr
      refine ⟨_, Reads.dict ho hx.1 hd hk hr, fun hm => ?_⟩
      rcases List.mem_append.mp hm with hm | hm
      · rcases List.mem_cons.mp hm with hm | hm
        · exact sys_ne hK I ha hm
        · cases hm
      · exact nm hm
    · match es, xs, ne, q, f with
      | [], _, ne, q, _ => exact absurd (show _ = [] from q) ne
      | (k, d) :: es, _, _, ⟨key, p, v, r', _, ek, ⟨_, ks, ek2⟩, _⟩, f =>
        have f : (plainK (k, d) && (flatA d && flatK es)) = true := f
        rw [ek, ek2] at f
        exact Bool.noConfusion f
    · match es, qj, f with
      | (k, d) :: es, ⟨ek, _⟩, f =>
        have f : (plainK (k, d) && (flatA d && flatK es)) = true := f
        rw [ek] at f
        exact Bool.noConfusion f
theorem rpl_reads (hK : sysB X.K = true) (I : L2.Inv X.toCx pins σ H s) : ∀ (ds : List D) (vs : List V) (us : List Value), RpL H O ds vs → flatL ds = true → Vals vs us → ∃ as, ReadsAll s.heap us ds as ∧ sysModules ∉ as
  | [], vs, us, h, _, r => by
    have h : vs = [] := h
    subst h
    cases r
    exact ⟨_, ReadsAll.nil, List.not_mem_nil⟩
  | d :: ds, vs, us, ⟨v, vr, e, h1, h2⟩, f, r => by
    subst e
    have f : (flatA d && flatL ds) = true := f
    rw [Bool.and_eq_true] at f
    cases r with
    | cons r1 r2 =>
      obtain ⟨as, q1, n1⟩ := rp_reads hK I d v _ h1 f.1 r1
      obtain ⟨bs, q2, n2⟩ := rpl_reads hK I ds vr _ h2 f.2 r2
      exact ⟨_, ReadsAll.cons q1 q2, fun hm => (List.mem_append.mp hm).elim n1 n2⟩
theorem rpk_reads (hK : sysB X.K = true) (I : L2.Inv X.toCx pins σ H s) : ∀ (es : List (D × D)) (kvs : List (Key × V)) (vs : List (Key × Value)), RpK H O es kvs → flatK es = true → KV kvs vs → ∃ as, ReadsAll s.heap (vs.map (·.2)) (es.map (·.2)) as ∧ sysModules ∉ as ∧ (vs.map fun p => keyD p.1) = es.map (·.1)
  | [], kvs, vs, h, _, r => by
    have h : kvs = [] := h
    subst h
    cases r
    exact ⟨_, ReadsAll.nil, List.not_mem_nil, rfl⟩
  | (k, d) :: es, kvs, vs, ⟨key, v, kr, e, ek, h1, h2⟩, f, r => by
    subst e
    have f : (plainK (k, d) && (flatA d && flatK es)) = true := f
    rw [Bool.and_eq_true, Bool.and_eq_true] at f
    cases r with
    | cons r1 r2 =>
      rename_i b l₂
      obtain ⟨as, q1, n1⟩ := rp_reads hK I d v b.2 h1 f.2.1 r1.2
      obtain ⟨bs, q2, n2, e2⟩ := rpk_reads hK I es kr _ h2 f.2.2 r2
      refine ⟨_, ReadsAll.cons q1 q2, fun hm => (List.mem_append.mp hm).elim n1 n2, ?_⟩
      rw [List.map_cons, List.map_cons, e2, ← r1.1, ek]
end
end
def reprOkX (d : D) : Bool := d.showable && flatA d && decide (d.shown.length ≤ sizeLine) && decide (d.depth ≤ 64)
def dReprX : List D → Option D
  | [d] => if reprOkX d = true then some (.str d.shown) else none
  | _ => none
/-- what is read, wherever it lies -/
def RpX (H : Hp) (d : D) (v : V) : Prop := ∃ O, Rp H O d v
theorem nb_free {H : Hp} {O : OS} {d : D} {v : V} (h : Nb H O d v) (hf : flatA d = true) : RpX H d v := ⟨OS.non, by
  match d, h, hf with
  | .none, h, _ => exact h
  | .bool _, h, _ => exact h
  | .int _, h, _ => exact h
  | .str _, h, _ => exact h
  | .list ds, ⟨a, xs, e, ha, q⟩, _ => exact ⟨a, xs, e, id, ha, RpL.ext (O' := OS.non) (fun _ _ e _ => e) (fun _ z => z.elim) q⟩
  | .tuple ds, ⟨a, xs, e, ha, q⟩, _ => exact ⟨a, xs, e, id, ha, RpL.ext (O' := OS.non) (fun _ _ e _ => e) (fun _ z => z.elim) q⟩
  | .dict es, ⟨a, u, e, ha, .inr ⟨_, qs⟩⟩, hf =>
    rw [qs] at hf
    exact Bool.noConfusion hf
  | .dict es, ⟨a, u, e, ha, .inl (.inl ⟨kvs, ek, q⟩)⟩, _ => exact ⟨a, u, e, id, ha, .inl ⟨kvs, ek, RpK.ext (O' := OS.non) (fun _ _ e _ => e) (fun _ z => z.elim) q⟩⟩
  | .dict es, ⟨a, u, e, ha, .inl (.inr (.inl ⟨xs, ek, ne, q⟩))⟩, _ => exact ⟨a, u, e, id, ha, .inr (.inl ⟨xs, ek, ne, RpN.ext (O' := OS.non) (fun _ _ e _ => e) (fun _ z => z.elim) q⟩)⟩
  | .dict es, ⟨a, u, e, ha, .inl (.inr (.inr q))⟩, _ => exact ⟨a, u, e, id, ha, .inr (.inr (RpJ.ext (O' := OS.non) (fun _ _ e _ => e) (fun _ z => z.elim) q))⟩⟩
def rReprX : List V → Hp → VK → Prop := fun xs H Q => ∃ x d, xs = [x] ∧ RpX H d x ∧ reprOkX d = true ∧ Q (.str d.shown) H
theorem call_reprX {X : CxD} {k : Nat} (hr : Room k X.A) (hg : X.A.guards = some []) (hK : sysB X.K = true) : CallR X (.builtin "repr") rReprX := by
  intro pins s σ H xs us Q I r h
  obtain ⟨x, d, rfl, ⟨O, hd⟩, ok, q⟩ := h
  obtain ⟨u, rfl, rx⟩ := vals1 r
  unfold reprOkX at ok
  simp only [Bool.and_eq_true, decide_eq_true_eq] at ok
  obtain ⟨⟨⟨h1, h2⟩, h3⟩, h4⟩ := ok
  obtain ⟨as, rd, nm⟩ := rp_reads hK I d x u hd h2 rx
  have un : X.A.units + (d.depth + 1) < cLine := by
    have := hr.un
    omega
  have fin : ∀ (h' : Heap) (t : Tok) (tk : Nat), (∀ b o, s.heap.get? b = some o → h'.get? b = some o) → EP X pins σ Q (.str d.shown t) { s with heap := h', toks := tk } := fun h' t tk kk => ⟨.str d.shown, H, I.kept kk, ⟨t, rfl⟩, q⟩
  match d, hd with
  | .none, hd =>
    have e : x = .non := hd
    subst e
    have e : u = .none := rx
    subst e
    exact P.repr_of_none (fin s.heap _ _ fun _ _ e => e)
  | .bool b, hd =>
    have e : x = .bl b := hd
    subst e
    have e : u = .bool b := rx
    subst e
    exact P.repr_of_bool (fin s.heap _ _ fun _ _ e => e)
  | .int i, hd =>
    have e : x = .int i := hd
    subst e
    obtain ⟨t, rfl⟩ := rx
    exact P.repr_of_int (of_decide_eq_true h1) (fin s.heap _ _ fun _ _ e => e)
  | .str z, hd =>
    have e : x = .str z := hd
    subst e
    obtain ⟨t, rfl⟩ := rx
    exact P.repr_of_str (fin s.heap _ _ fun _ _ e => e) h3
  | .list _, ⟨_, _, e, _⟩ =>
    subst e
    have e : u = .ref _ := rx
    subst e
    exact repr_of_reads' rd h1 (fun _ => nm) hg un (fun _ _ e => e) (fun h' t tk kk => fin h' t tk kk) h3
  | .tuple _, ⟨_, _, e, _⟩ =>
    subst e
    have e : u = .ref _ := rx
    subst e
    exact repr_of_reads' rd h1 (fun _ => nm) hg un (fun _ _ e => e) (fun h' t tk kk => fin h' t tk kk) h3
  | .dict _, ⟨_, _, e, _⟩ =>
    subst e
    have e : u = .ref _ := rx
    subst e
    exact repr_of_reads' rd h1 (fun _ => nm) hg un (fun _ _ e => e) (fun h' t tk kk => fin h' t tk kk) h3
theorem reprX_ok : CaS rReprX dReprX := fun H O xs ds c Q hO ha e k => by
  match ds, ha, e with
  | [d], ha, e =>
    obtain ⟨v, ev, hv⟩ := nbl1 ha
    have e : (if reprOkX d = true then some (PyData.str d.shown) else none) = some c := e
    split at e
    · rename_i h
      cases e
      exact ⟨v, d, ev, nb_free hv (by unfold reprOkX at h; simp only [Bool.and_eq_true] at h; exact h.1.1.2), h, k _ H (Same.refl _) rfl⟩
    · cases e
end DL
namespace DL
open PySem PySem.Spec L2 PyProof.Rows
end DL
namespace PySem
open Sem (wp)
open PyProof.Rows
end PySem
namespace DL
open PySem PySem.Spec L2 PyProof.Rows
end DL
namespace DL
open PySem PySem.Spec L2 PyProof.Rows
end DL
namespace FL
open PySem PySem.Spec L2 DL
end FL
namespace ZN
open PySem
open PySem.Sem (wp)
/-- what is walked: whether it is a list, its iterator, its place, its items -/
structure Src where
  k : Bool
  i : Addr
  l : Addr
  xs : Array Value
def Sq (h : Heap) (c : Src) : Prop := match c.k with
  | true => h.IsList c.l c.xs
  | false => h.IsTuple c.l c.xs
def SI (h : Heap) (c : Src) (n : Nat) : Prop := match c.k with
  | true => h.IsListIter c.i c.l n
  | false => h.IsTupleIter c.i c.l n
theorem Sq.at {h h' : Heap} {c : Src} (x : Sq h c) (q : ∀ o, h.get? c.l = some o → h'.get? c.l = some o) : Sq h' c := by
  unfold Sq at x ⊢
  split at x
  · obtain ⟨o, e, r⟩ := x; exact ⟨o, q o e, r⟩
  · obtain ⟨o, e, r⟩ := x; exact ⟨o, q o e, r⟩
theorem SI.at {h h' : Heap} {c : Src} {n : Nat} (x : SI h c n) (q : ∀ o, h.get? c.i = some o → h'.get? c.i = some o) : SI h' c n := by
  unfold SI at x ⊢
  split at x
  · obtain ⟨o, e, r⟩ := x; exact ⟨o, q o e, r⟩
  · obtain ⟨o, e, r⟩ := x; exact ⟨o, q o e, r⟩
theorem SI.data {h : Heap} {c : Src} {n : Nat} (x : SI h c n) : ∃ o, h.get? c.i = some o ∧ ∀ v q, o.data ≠ .seq v q := by
  unfold SI at x
  split at x
  · obtain ⟨o, e, _, d⟩ := x; exact ⟨o, e, fun v q z => by rw [d] at z; cases z⟩
  · obtain ⟨o, e, _, d⟩ := x; exact ⟨o, e, fun v q z => by rw [d] at z; cases z⟩
section
variable {prog : Program} {w : World} {A : Around} {E : Value → Shared → Prop} {s : Shared}
/-- the zip at z: what it has given out last, its iterators, its own tuple -/
abbrev ZAt (h : Heap) (z TI TO : Addr) (f0 : Value) (f1 : Bool) : Prop :=
  h.get? z = some { cls := .type "zip", dict := none, data := .fields #[f0, .bool f1, .bool false, .ref TI, .ref TO], slots := #[] }
abbrev TAt (h : Heap) (T : Addr) (vs : List Value) : Prop := h.get? T = some { cls := .type "tuple", data := .seq vs.toArray }
def its (cs : List Src) : List Value := cs.map fun c => .ref c.i
def ch (z TI TO : Addr) (cs : List Src) : List Addr := z :: TI :: TO :: cs.map (·.i)
structure Ap (z TI TO : Addr) (cs : List Src) : Prop where
  nd : (ch z TI TO cs).Nodup
  l : ∀ c ∈ cs, c.l ∉ ch z TI TO cs
  n : 0 < cs.length ∧ cs.length ≤ 9
/-- the items numbered n -/
def row (cs : List Src) (n : Nat) : List Value := cs.map fun c => c.xs.getD n .none
abbrev Keep (l : List Addr) (h h' : Heap) : Prop := ∀ b o, b ∉ l → h.get? b = some o → h'.get? b = some o
theorem Keep.refl {l : List Addr} {h : Heap} : Keep l h h := fun _ _ _ e => e
theorem Keep.trans {l : List Addr} {h h' h2 : Heap} (x : Keep l h h') (y : Keep l h' h2) : Keep l h h2 := fun b o n e => y b o n (x b o n e)
theorem keep_of {l : List Addr} {a : Addr} {h h' : Heap} (x : Heap.ExtBut a h h') (m : a ∈ l) : Keep l h h' := fun b o n e => x b o (fun z => n (z ▸ m)) e
/-- amid a draw: the iterators of the first sources have gone on -/
structure Mid (h0 h : Heap) (z TI TO : Addr) (f0 : Value) (f1 : Bool) (a b : List Src) (n : Nat) : Prop where
  zz : ZAt h z TI TO f0 f1
  ti : TAt h TI (its (a ++ b))
  i1 : ∀ c ∈ a, SI h c (n + 1)
  i2 : ∀ c ∈ b, SI h c n
  l : ∀ c ∈ a ++ b, Sq h c
  keep : Keep (ch z TI TO (a ++ b)) h0 h
  size : h.objs.size = h0.objs.size
theorem mem_ch {z TI TO : Addr} {cs : List Src} {c : Src} (h : c ∈ cs) : c.i ∈ ch z TI TO cs := List.mem_cons_of_mem _ (List.mem_cons_of_mem _ (List.mem_cons_of_mem _ (List.mem_map_of_mem h)))
theorem Ap.ne {z TI TO : Addr} {cs : List Src} (D : Ap z TI TO cs) : TI ≠ z ∧ TO ≠ z ∧ TI ≠ TO ∧ ∀ c ∈ cs, c.i ≠ z ∧ c.i ≠ TI ∧ c.i ≠ TO := by
  have h := D.nd
  unfold ch at h
  rw [List.nodup_cons, List.nodup_cons, List.nodup_cons] at h
  obtain ⟨h1, h2, h3, h4⟩ := h
  refine ⟨fun e => h1 (by simp [e]), fun e => h1 (by simp [e]), fun e => h2 (by simp [e]), fun c hc => ⟨fun e => h1 ?_, fun e => h2 ?_, fun e => h3 ?_⟩⟩
  · rw [← e]; exact List.mem_cons_of_mem _ (List.mem_cons_of_mem _ (List.mem_map_of_mem hc))
  · rw [← e]; exact List.mem_cons_of_mem _ (List.mem_map_of_mem hc)
  · rw [← e]; exact List.mem_map_of_mem hc
theorem Ap.ine {z TI TO : Addr} {a b : List Src} {c : Src} (D : Ap z TI TO (a ++ c :: b)) : ∀ d, (d ∈ a ∨ d ∈ b) → d.i ≠ c.i := by
  have h := D.nd
  unfold ch at h
  rw [List.nodup_cons, List.nodup_cons, List.nodup_cons, List.map_append, List.map_cons, List.nodup_append, List.nodup_cons] at h
  obtain ⟨_, _, _, _, ⟨h1, _⟩, h2⟩ := h
  rintro d (hd | hd) e
  · exact h2 d.i (List.mem_map_of_mem hd) c.i List.mem_cons_self e
  · exact h1 (e ▸ List.mem_map_of_mem hd)
/-- one more iterator goes on -/
theorem Mid.step {h0 h h' : Heap} {z TI TO : Addr} {f0 : Value} {f1 : Bool} {a b : List Src} {c : Src} {n : Nat} (D : Ap z TI TO (a ++ c :: b)) (M : Mid h0 h z TI TO f0 f1 a (c :: b) n) (hc : SI h' c (n + 1)) (sb : Heap.SameBut c.i h h') :
    Mid h0 h' z TI TO f0 f1 (a ++ [c]) b n := by
  have hm : c ∈ a ++ c :: b := List.mem_append_right _ List.mem_cons_self
  have e : (a ++ [c]) ++ b = a ++ c :: b := by simp
  have ex := sb.extBut
  have ne := D.ne.2.2.2 c hm
  refine ⟨ex _ _ ne.1.symm M.zz, ?_, fun d hd => ?_, fun d hd => ?_, fun d hd => ?_, ?_, sb.1.trans M.size⟩
  · rw [e]; exact ex _ _ ne.2.1.symm M.ti
  · rcases List.mem_append.mp hd with hd | hd
    · exact (M.i1 d hd).at fun o q => ex _ _ (D.ine d (.inl hd)) q
    · rw [List.mem_singleton.mp hd]; exact hc
  · exact (M.i2 d (List.mem_cons_of_mem _ hd)).at fun o q => ex _ _ (D.ine d (.inr hd)) q
  · rw [e] at hd
    exact (M.l d hd).at fun o q => ex _ _ (fun z => D.l d hd (z ▸ mem_ch hm)) q
  · rw [e]; exact M.keep.trans (keep_of ex (mem_ch hm))
/-- a change at TO -/
theorem Mid.out {h0 h h' : Heap} {z TI TO : Addr} {f0 : Value} {f1 : Bool} {a b : List Src} {n : Nat} (D : Ap z TI TO (a ++ b)) (M : Mid h0 h z TI TO f0 f1 a b n) (sb : Heap.SameBut TO h h') : Mid h0 h' z TI TO f0 f1 a b n := by
  have ex := sb.extBut
  obtain ⟨n1, n2, n3, n4⟩ := D.ne
  have hm : TO ∈ ch z TI TO (a ++ b) := by simp [ch]
  refine ⟨ex _ _ n2.symm M.zz, ex _ _ n3 M.ti, fun d hd => ?_, fun d hd => ?_, fun d hd => ?_, M.keep.trans (keep_of ex hm), sb.1.trans M.size⟩
  · exact (M.i1 d hd).at fun o q => ex _ _ (n4 d (List.mem_append_left _ hd)).2.2 q
  · exact (M.i2 d hd).at fun o q => ex _ _ (n4 d (List.mem_append_right _ hd)).2.2 q
  · exact (M.l d hd).at fun o q => ex _ _ (fun z => D.l d hd (z ▸ hm)) q
end
end ZN
namespace ZN
open PySem
open PySem.Sem (wp)
/-- the sources with iterators from b on -/
def mk : Nat → List (Bool × Addr × Array Value) → List Src
  | _, [] => []
  | b, (k, l, xs) :: r => ⟨k, b, l, xs⟩ :: mk (b + 1) r
theorem mk_i : ∀ {b : Nat} {ls : List (Bool × Addr × Array Value)} {c : Src}, c ∈ mk b ls → b ≤ c.i ∧ c.i < b + ls.length ∧ (c.k, c.l, c.xs) ∈ ls
  | _, [], _, h => nomatch h
  | b, (k, l, xs) :: r, c, h => by
    rcases List.mem_cons.mp h with rfl | h
    · exact ⟨Nat.le_refl _, by simp, List.mem_cons_self⟩
    · obtain ⟨h1, h2, h3⟩ := mk_i h
      exact ⟨Nat.le_of_succ_le h1, by rw [List.length_cons, ← Nat.add_assoc, Nat.add_right_comm]; exact h2, List.mem_cons_of_mem _ h3⟩
def Sq0 (h : Heap) (x : Bool × Addr × Array Value) : Prop := Sq h ⟨x.1, 0, x.2.1, x.2.2⟩
theorem Sq0.at {h h' : Heap} {x : Bool × Addr × Array Value} (y : Sq0 h x) (q : ∀ b o, h.get? b = some o → h'.get? b = some o) : Sq0 h' x := Sq.at y fun o => q _ o
def names (ls : List (Bool × Addr × Array Value)) : List Value := ls.map fun x => .ref x.2.1
end ZN
namespace ZN
open PySem PySem.Spec PyProof.Rows L2
open PySem.Sem (wp)
def SqK (K : PySem.W.Frag) (H : Hp) (a : Bool × Addr) (xs : List V) : Prop := match a.1 with
  | true => SqL K H a.2 xs
  | false => SqT K H a.2 xs
def SqA (K : PySem.W.Frag) (H : Hp) : List (Bool × Addr) → List (List V) → Prop
  | [], [] => True
  | a :: as, xs :: xss => SqK K H a xs ∧ SqA K H as xss
  | _, _ => False
def nm (ls : List (Bool × Addr × Array Value)) : List (Bool × Addr) := ls.map fun x => (x.1, x.2.1)
def rowV (xss : List (List V)) (i : Nat) : List V := xss.map fun xs => xs.getD i .non
section
variable {X : Cx} {pins : List (Addr × Obj)} {σ : L2.St} {H : Hp} {s : Shared}
theorem SqK.inj (I : Inv X pins σ H s) {a : Bool × Addr} {xs ys : List V} (h : SqK X.K H a xs) (h' : SqK X.K H a ys) : xs = ys := by
  obtain ⟨k, a⟩ := a
  cases k with
  | true => exact I.list_inj h h'
  | false => exact I.tuple_inj h h'
theorem SqA.inj (I : Inv X pins σ H s) : ∀ {as : List (Bool × Addr)} {xss yss : List (List V)}, SqA X.K H as xss → SqA X.K H as yss → xss = yss
  | [], [], [], _, _ => rfl
  | a :: as, xs :: xss, ys :: yss, h, h' => by rw [SqK.inj I h.1 h'.1, SqA.inj I h.2 h'.2]
end
def zch (b n : Nat) : List Addr := (b + n + 2) :: (b + n) :: (b + n + 1) :: (List.range' b n)
/-- the zip stands with its iterators at n -/
def ZT (b : Nat) (as : List (Bool × Addr)) (h : Heap) (f0 : Value) (f1 : Bool) (n : Nat) : Prop :=
  ZAt h (b + as.length + 2) (b + as.length) (b + as.length + 1) f0 f1 ∧ TAt h (b + as.length) (its (mk b (as.map fun a => (a.1, a.2, #[])))) ∧ (∃ vs, vs.length = as.length ∧ TAt h (b + as.length + 1) vs) ∧ ∀ c ∈ mk b (as.map fun a => (a.1, a.2, #[])), SI h c n
theorem ZT.keep {b : Nat} {as : List (Bool × Addr)} {h h' : Heap} {f0 : Value} {f1 : Bool} {n : Nat} (S : ZT b as h f0 f1 n) (k : ∀ c ∈ zch b as.length, ∀ o, h.get? c = some o → h'.get? c = some o) : ZT b as h' f0 f1 n := by
  obtain ⟨h1, h2, ⟨vs, hv, h3⟩, h4⟩ := S
  refine ⟨k _ (by simp [zch]) _ h1, k _ (by simp [zch]) _ h2, ⟨vs, hv, k _ (by simp [zch]) _ h3⟩, fun c hc => (h4 c hc).at fun o e => k _ ?_ o e⟩
  have := mk_i hc
  simp only [List.length_map] at this
  simp only [zch, List.mem_cons, List.mem_range'_1]
  exact .inr (.inr (.inr ⟨this.1, this.2.1⟩))
theorem Sq0.lt {h : Heap} {x : Bool × Addr × Array Value} (y : Sq0 h x) : x.2.1 < h.objs.size := by
  obtain ⟨k, l, xs⟩ := x
  cases k with
  | true => obtain ⟨o, e, _⟩ := y; exact Heap.lt_size e
  | false => obtain ⟨o, e, _⟩ := y; exact Heap.lt_size e
theorem SqA.len {K : PySem.W.Frag} {H : Hp} : ∀ {as : List (Bool × Addr)} {xss : List (List V)}, SqA K H as xss → as.length = xss.length
  | [], [], _ => rfl
  | _ :: as, _ :: xss, h => congrArg (· + 1) (SqA.len h.2)
end ZN
namespace ZN
open PySem PySem.Spec PyProof.Rows L2
open PySem.Sem (wp)
theorem SqK.ext {K : PySem.W.Frag} {H H' : Hp} {a : Bool × Addr} {xs : List V} (h : SqK K H a xs) (e : ∀ b o, H b = some o → H' b = some o) : SqK K H' a xs := by
  obtain ⟨k, a⟩ := a
  cases k with
  | true => exact (show SqL K H a xs from h).elim (fun h => .inl (h.elim (fun h => .inl (e _ _ h)) fun ⟨o, h⟩ => .inr ⟨o, e _ _ h⟩)) fun h => .inr h
  | false => exact (show SqT K H a xs from h).elim (fun h => .inl (h.elim (fun h => .inl (e _ _ h)) fun ⟨o, h⟩ => .inr ⟨o, e _ _ h⟩)) fun h => .inr h
theorem SqA.ext {K : PySem.W.Frag} {H H' : Hp} (e : ∀ b o, H b = some o → H' b = some o) : ∀ {as : List (Bool × Addr)} {xss : List (List V)}, SqA K H as xss → SqA K H' as xss
  | [], [], _ => trivial
  | _ :: _, _ :: _, h => ⟨h.1.ext e, SqA.ext e h.2⟩
def Rows (H : Hp) (xss : List (List V)) (Ts : List Addr) : Prop := ∀ j T, Ts[j]? = some T → H T = some (.tup (rowV xss j))
end ZN
namespace DL
open PySem PySem.Spec L2
def seqLT : D → Option (List D)
  | .list ds => some ds
  | .tuple ds => some ds
  | _ => none
def seqsLT : List D → Option (List (List D))
  | [] => some []
  | d :: ds => (seqLT d).bind fun xs => (seqsLT ds).map (xs :: ·)
def minL : List (List D) → Nat
  | [] => 0
  | [xs] => xs.length
  | xs :: r => min xs.length (minL r)
def rowD (xss : List (List D)) (i : Nat) : List D := xss.map fun xs => xs.getD i .none
def zipG (xss : List (List D)) : List D := (List.range (minL xss)).map fun i => .tuple (rowD xss i)
def zipN (ds : List D) : Option (List D) := (seqsLT ds).map zipG
def dListZip (ds : List D) : Option D := (zipN ds).map .list
def RLL (H : Hp) (O : OS) : List (List D) → List (List V) → Prop
  | [], [] => True
  | x :: xs, v :: vs => RpL H O x v ∧ RLL H O xs vs
  | _, _ => False
theorem RLL.row {H : Hp} {O : OS} {i : Nat} : ∀ {xss : List (List D)} {vss : List (List V)}, RLL H O xss vss → (∀ vs ∈ vss, i < vs.length) → RpL H O (rowD xss i) (ZN.rowV vss i)
  | [], [], _, _ => rfl
  | xs :: xss, vs :: vss, h, q => by
    have hl := q vs List.mem_cons_self
    have hx : i < xs.length := by rw [← h.1.length]; exact hl
    obtain ⟨v, e, r⟩ := h.1.at (List.getElem?_eq_getElem hx)
    have e1 : xs.getD i .none = xs[i] := by rw [List.getD_eq_getElem?_getD, List.getElem?_eq_getElem hx]; rfl
    have e2 : vs.getD i .non = v := by rw [List.getD_eq_getElem?_getD, e]; rfl
    refine ⟨v, ZN.rowV vss i, ?_, ?_, RLL.row h.2 fun vs hv => q vs (List.mem_cons_of_mem _ hv)⟩
    · show vs.getD i .non :: _ = _
      rw [e2]
      rfl
    · show Rp H O (xs.getD i .none) v
      rw [e1]
      exact r
theorem zipG_len (xss : List (List D)) : (zipG xss).length = minL xss := by simp [zipG]
theorem zipG_get {xss : List (List D)} {i : Nat} (h : i < minL xss) : (zipG xss)[i]? = some (.tuple (rowD xss i)) := by
  unfold zipG
  rw [List.getElem?_map, List.getElem?_range h]
  rfl
section
variable {X : CxD} {κ : List Kd} {sl : List Nat} {e : Expr} {rest : List Expr} {os : List Op}
theorem ORs.len {H : Hp} {O : OS} {σ : L2.St} : ∀ {xs : List (En → Option D)} {vs : List V}, ORs H O σ xs vs → vs.length = xs.length
  | [], _, e => by
    have e : _ = _ := e
    rw [e]
    rfl
  | _ :: _, _, ⟨_, _, rfl, _, h⟩ => congrArg (· + 1) (ORs.len h)
end
theorem zipN_two (x y : List D) (a b : D) (ha : seqLT a = some x) (hb : seqLT b = some y) : zipN [a, b] = some (zipD x y) := by
  unfold zipN seqsLT seqsLT seqsLT
  rw [ha, hb]
  show some (zipG [x, y]) = _
  congr 1
  refine List.ext_getElem? fun i => ?_
  by_cases h : i < min x.length y.length
  · rw [zipG_get (show i < minL [x, y] from h)]
    have hx : i < x.length := Nat.lt_of_lt_of_le h (Nat.min_le_left _ _)
    have hy : i < y.length := Nat.lt_of_lt_of_le h (Nat.min_le_right _ _)
    rw [zipD_get (List.getElem?_eq_getElem hx) (List.getElem?_eq_getElem hy)]
    simp [rowD, List.getD_eq_getElem?_getD, List.getElem?_eq_getElem hx, List.getElem?_eq_getElem hy]
  · rw [List.getElem?_eq_none (by rw [zipG_len]; exact Nat.le_of_not_lt h), List.getElem?_eq_none (by rw [zipD_len]; exact Nat.le_of_not_lt h)]
def zip3D (xs ys zs : List D) : List D := (xs.zip (ys.zip zs)).map fun p => .tuple [p.1, p.2.1, p.2.2]
theorem zipN_three (x y z : List D) (a b c : D) (ha : seqLT a = some x) (hb : seqLT b = some y) (hc : seqLT c = some z) : zipN [a, b, c] = some (zip3D x y z) := by
  unfold zipN seqsLT seqsLT seqsLT seqsLT
  rw [ha, hb, hc]
  show some (zipG [x, y, z]) = _
  congr 1
  refine List.ext_getElem? fun i => ?_
  have hl : (zip3D x y z).length = min x.length (min y.length z.length) := by simp [zip3D]
  by_cases h : i < min x.length (min y.length z.length)
  · rw [zipG_get (show i < minL [x, y, z] from h)]
    have hx : i < x.length := Nat.lt_of_lt_of_le h (Nat.min_le_left _ _)
    have hyz : i < min y.length z.length := Nat.lt_of_lt_of_le h (Nat.min_le_right _ _)
    have hy : i < y.length := Nat.lt_of_lt_of_le hyz (Nat.min_le_left _ _)
    have hz : i < z.length := Nat.lt_of_lt_of_le hyz (Nat.min_le_right _ _)
    unfold zip3D
    rw [List.getElem?_map, (List.getElem?_zip_eq_some (z := (x[i], y[i], z[i]))).mpr ⟨List.getElem?_eq_getElem hx, (List.getElem?_zip_eq_some (z := (y[i], z[i]))).mpr ⟨List.getElem?_eq_getElem hy, List.getElem?_eq_getElem hz⟩⟩]
    simp [rowD, List.getD_eq_getElem?_getD, List.getElem?_eq_getElem hx, List.getElem?_eq_getElem hy, List.getElem?_eq_getElem hz]
  · rw [List.getElem?_eq_none (by rw [zipG_len]; exact Nat.le_of_not_lt h), List.getElem?_eq_none (by rw [hl]; exact Nat.le_of_not_lt h)]
end DL
namespace FL
open PySem PySem.Spec L2 DL
def iZipM (a b : FP) : FI := fun ε => (a ε).bind fun x => (b ε).bind fun y => zipN [x, y]
def iZip3 (a b c : FP) : FI := fun ε => (a ε).bind fun x => (b ε).bind fun y => (c ε).bind fun z => zipN [x, y, z]
section
variable {x y z : List DL.D}
theorem zipN_tt : zipN [.tuple x, .tuple y] = some (zipD x y) := zipN_two _ _ _ _ rfl rfl
theorem zipN_tl : zipN [.tuple x, .list y] = some (zipD x y) := zipN_two _ _ _ _ rfl rfl
theorem zipN_lt : zipN [.list x, .tuple y] = some (zipD x y) := zipN_two _ _ _ _ rfl rfl
theorem zipN_ll : zipN [.list x, .list y] = some (zipD x y) := zipN_two _ _ _ _ rfl rfl
theorem zipN_ttt : zipN [.tuple x, .tuple y, .tuple z] = some (zip3D x y z) := zipN_three _ _ _ _ _ _ rfl rfl rfl
theorem zipN_ltl : zipN [.list x, .tuple y, .list z] = some (zip3D x y z) := zipN_three _ _ _ _ _ _ rfl rfl rfl
theorem listZip_ttt : dListZip [.tuple x, .tuple y, .tuple z] = some (.list (zip3D x y z)) := by
  unfold dListZip
  rw [zipN_ttt]
  rfl
end
end FL
namespace DL
open PySem PySem.Spec L2 PyProof.Rows
end DL
namespace DL
open PySem PySem.Spec L2
end DL
namespace DL
open PySem PySem.Spec L2 PyProof.Rows
end DL
namespace DL
open PySem PySem.Spec L2 PyProof.Rows
def firstsGo : List (D × D) → List (D × D) → Option (List (D × D))
  | [], acc => some acc
  | (k, d) :: r, acc => (dAt d (.int 0)).bind fun y => if dictOk acc k = true then firstsGo r (putD acc k y) else none
def keyIsT (e : D × D) : Bool := match e.1 with
  | .tuple _ => true
  | _ => false
end DL
namespace DL
open PySem PySem.Spec L2
def dIndex (a b : D) : Option D := match a with
  | .list ds => if SeqAt.shaped (.list ds) = true ∧ SeqAt.shaped b = true ∧ ds.findIdx (fun z => PyData.eqv z b) < ds.length then some (.int (ds.findIdx (fun z => PyData.eqv z b) : Nat)) else none
  | _ => none
def namesAt (ε : En) : List Nat → Option (List D)
  | [] => some []
  | i :: is => ((ε[i]?).join).bind fun d => (namesAt ε is).bind fun ds => some (d :: ds)
end DL
namespace FL
open PySem PySem.Spec L2 DL
def dcF {α : Type} (q : α → Option Bool) (k e : α → Option DL.D) : List α → List (DL.D × DL.D) → Option (List (DL.D × DL.D))
  | [], acc => some acc
  | a :: r, acc => (q a).bind fun b => if b = true then (k a).bind fun kd => (e a).bind fun y => if dictOk acc kd = true then dcF q k e r (putD acc kd y) else none else dcF q k e r acc
def pDc (it : FI) (t : Tg) (q : FT) (k e : FP) (vs : List Nat) : FP := fun ε => (it ε).bind fun ds => if ds.length ≤ sizeLine then (dcF (fun d => (bindD t d (wipeE ε vs)).bind q) (fun d => (bindD t d (wipeE ε vs)).bind k) (fun d => (bindD t d (wipeE ε vs)).bind e) ds []).bind fun es => some (.dict es) else none
def pFirsts (i : Nat) : FP := fun ε => ((ε[i]?).join).bind dFirsts
where dFirsts (d : DL.D) : Option DL.D := match d with
  | .dict es => if es.length < sizeLine ∧ es.all keyIsT = true then (firstsGo es []).bind fun rs => some (.dict rs) else none
  | _ => none
def pIdx (a b : FP) : FP := fun ε => (a ε).bind fun x => (b ε).bind fun y => dIndex x y
def fRetT (m : M DL.D) (is : List Nat) : FS := fun ε => bd (m ε) fun d ε1 => (namesAt ε1 is).bind fun ds => if is.length < 100 then some (.ok (.rt (.tuple (d :: ds))) ε1) else none
theorem namesAt_n {ε : En} : namesAt ε [] = some [] := rfl
theorem namesAt_c {ε : En} {i : Nat} {is : List Nat} : namesAt ε (i :: is) = ((ε[i]?).join).bind fun d => (namesAt ε is).bind fun ds => some (d :: ds) := rfl
end FL
namespace DL
open PySem PySem.Spec L2 PyProof.Rows
end DL
namespace DL
open PySem PySem.Spec L2 PyProof.Rows
end DL
namespace DL
open PySem PySem.Spec L2 PyProof.Rows
end DL
namespace DL
open PySem PySem.Spec L2
end DL
namespace PySem
open Sem (wp)
open PyProof.Rows
end PySem
namespace DL
open PySem PySem.Spec L2 PyProof.Rows
end DL
namespace FL
open PySem PySem.Spec L2 DL
def pChain3 (f g h : DL.D → DL.D → Option DL.D) (a b c d : FP) : FP := fun ε => (a ε).bind fun x => (b ε).bind fun y => (f x y).bind fun k => bO k fun k => if k = true then (c ε).bind fun z => (g y z).bind fun k' => bO k' fun k' => if k' = true then (d ε).bind fun w => h z w else some (.bool false) else some (.bool false)
end FL
namespace DL
open PySem PySem.Spec L2
end DL
namespace FL
open PySem PySem.Spec L2 DL
def mNeed {α : Type} (d : Nat) (m : M α) : M α := fun ε => ((ε[d]?).join).bind fun _ => m ε
end FL
namespace DL
open PySem PySem.Spec L2
end DL
namespace DL
open PySem PySem.Spec L2
section
variable {S : SCx} {e e2 : Expr} {f g : Exn → Option D} {p q pos p1 p2 p3 : Pos}
def eqDX (f g : Exn → Option D) : Exn → Option D := fun x => (f x).bind fun a => (g x).bind fun b => dEq a b
def negX (f : Exn → Option D) : Exn → Option D := fun x => (f x).bind dNeg
theorem SKn.set {mg : Str → Option Value} {i : Option Nat} {a : Addr} {cls : Value} {d : Option Addr} {x : Exn} {O : OS} {σ : L2.St} {H : Hp} {k : Nat} {v : V} (hne : ∀ j, i = some j → j ≠ k) (h : SKn mg i a cls d x O σ H) : SKn mg i a cls d x O (σ.set k (some v)) H :=
  ⟨fun j e => by rw [List.getElem?_set_ne (hne j e).symm]; exact h.at_ j e, h.xr, h.has⟩
end
end DL
namespace DL
open PySem PySem.Spec L2
def dLtT : D → D → Option D
  | .tuple xs, .tuple ys => (intsOf xs).bind fun ns => (intsOf ys).bind fun ms => some (.bool (HT.lexLt ns ms))
  | _, _ => none
end DL
namespace FL
open PySem PySem.Spec L2 DL
theorem ltT_pk {a b : Int × Int} : dLtT (pk a) (pk b) = some (.bool (decide (a.1 < b.1 ∨ a.1 = b.1 ∧ a.2 < b.2))) := by
  show some (PyData.bool (HT.lexLt [a.1, a.2] [b.1, b.2])) = _
  refine congrArg (fun z => some (PyData.bool z)) ?_
  show (if a.1 = b.1 then (if a.2 = b.2 then false else decide (a.2 < b.2)) else decide (a.1 < b.1)) = _
  by_cases h1 : a.1 = b.1
  · rw [if_pos h1]
    by_cases h2 : a.2 = b.2
    · rw [if_pos h2]
      exact (decide_eq_false (by omega)).symm
    · rw [if_neg h2]
      exact decide_eq_decide.mpr (by omega)
  · rw [if_neg h1]
    exact decide_eq_decide.mpr (by omega)
end FL
namespace DL
open PySem PySem.Spec L2
def dEqE : D → D → Option D
  | .tuple xs, .tuple [] => some (.bool xs.isEmpty)
  | _, _ => none
end DL
namespace FL
open PySem PySem.Spec L2 DL
theorem eqE_r {xs : List DL.D} : dEqE (.tuple xs) (.tuple []) = some (.bool xs.isEmpty) := rfl
end FL
namespace DL
open PySem PySem.Spec L2
def bindU (ts : List Tg) (d : D) (ε : En) : Option En := match d with
  | .list ds => bindL ts ds ε
  | _ => none
end DL
namespace FL
open PySem PySem.Spec L2 DL
def fUnpL (ts : List Tg) (m : M DL.D) : FS := fun ε => bd (m ε) fun d ε1 => (bindU ts d ε1).bind fun ε2 => some (.ok .nx ε2)
theorem bindU_l {ts : List Tg} {ds : List DL.D} {ε : En} : bindU ts (.list ds) ε = bindL ts ds ε := rfl
end FL
namespace FL
open PySem PySem.Spec L2 DL
section
variable {Rx : RX}
def tryC (x : Exn) (ε : En) : List HdF → Option (R Fl)
  | [] => some (.ex x ε)
  | h :: hs => if subX x.cls h.1 = true then (h.2.2 x).bind fun dd => some (.ok (.rt dd) (unE h.2.1 ε)) else tryC x ε hs
theorem tryC_nil {x : Exn} {ε : En} : tryC x ε [] = some (.ex x ε) := rfl
theorem tryC_cons {x : Exn} {ε : En} {h : Str} {i : Option Nat} {f : Exn → Option DL.D} {hs : List HdF} : tryC x ε ((h, i, f) :: hs) = if subX x.cls h = true then (f x).bind fun dd => some (.ok (.rt dd) (unE i ε)) else tryC x ε hs := rfl
theorem unE_some {i : Nat} {ε : En} : unE (some i) ε = ε.set i none := rfl
theorem unE_none {ε : En} : unE none ε = ε := rfl
def tryN (cs : List Str) (hs : List HdF) (m : Option (R Fl)) : Option (R Fl) := match m with
  | some (.ex x ε1) => if cs.contains x.cls = true then tryC x ε1 hs else none
  | r => r
theorem tryN_nx {cs : List Str} {hs : List HdF} {ε : En} : tryN cs hs (some (.ok .nx ε)) = some (.ok .nx ε) := rfl
theorem tryN_rt {cs : List Str} {hs : List HdF} {d : DL.D} {ε : En} : tryN cs hs (some (.ok (.rt d) ε)) = some (.ok (.rt d) ε) := rfl
theorem tryN_ex {cs : List Str} {hs : List HdF} {x : Exn} {ε1 : En} : tryN cs hs (some (.ex x ε1)) = if cs.contains x.cls = true then tryC x ε1 hs else none := rfl
def fTryN (cs : List Str) (hs : List HdF) (s : FS) : FS := fun ε => tryN cs hs (s ε)
end
end FL
namespace L2
open PySem PySem.Spec PyProof.Rows
end L2
namespace DL
open PySem PySem.Spec L2 PyProof.Rows
abbrev cd (p : Addr × List Int) : Int := TS.code 64 p.2
end DL
namespace DL
open PySem PySem.Spec L2
end DL
namespace FL
open PySem PySem.Spec L2 DL
def mCallN (F : FM) (ms : List MV) : M DL.D := fun ε => bd (mArgs ms ε) fun xs ε1 => (valsF ε1 xs).bind fun ds => (F (ds ++ [.dict []])).bind fun r => rdO r (fun d _ => some (.ok d ε1)) fun _ _ => none
end FL
namespace DL
open PySem PySem.Spec L2 PyProof.Rows
def dTupT : D → Option D
  | .tuple xs => some (.tuple xs)
  | _ => none
end DL
namespace FL
open PySem PySem.Spec L2 DL
theorem tupT_t {xs : List DL.D} : dTupT (.tuple xs) = some (.tuple xs) := rfl
end FL
namespace FL
open PySem PySem.Spec L2 DL
def S_ends_of : FS :=
  (fSeq (fPar [2, 3] [(lf (pBin dFdiv (pNm 1) (pBin dAt (pNm 0) (pC (.int 1))))), (lf (pBin dMod (pNm 1) (pBin dAt (pNm 0) (pC (.int 1)))))])
  (fSeq (fIf (lf (tP (pBin dEq (pBin dMod (pBin dAdd (pNm 2) (pNm 3)) (pC (.int 2))) (pC (.int 0))))) (fRet (lf (pTup [(pTup [(pNm 2), (pNm 3)]), (pTup [(pBin dAdd (pNm 2) (pC (.int 1))), (pBin dAdd (pNm 3) (pC (.int 1)))])]))) fNil)
  (fRet (lf (pTup [(pTup [(pNm 2), (pBin dAdd (pNm 3) (pC (.int 1)))]), (pTup [(pBin dAdd (pNm 2) (pC (.int 1))), (pNm 3)])])))))
def F_ends_of : FD := runP [.val, .val] false 4 S_ends_of
def S_far_end : FS :=
  (fSeq (fUnp (.tup [(.nm 3), (.nm 4)]) (lf (pCall F_ends_of [(pNm 0), (pNm 1)])))
  (fRet (lf (pIf (tP (pBin dEq (pNm 2) (pNm 3))) (pNm 4) (pNm 3)))))
def F_far_end : FD := runP [.val, .val, .val] false 5 S_far_end
def S_side_of : FS :=
  (fSeq (fUnp (.tup [(.nm 3), (.nm 4)]) (lf (pCall F_far_end [(pNm 0), (pNm 1), (pNm 2)])))
  (fRet (lf (pBin dAdd (pBin dMul (pC (.int 2)) (pApp dInt [(pBin dGt (pNm 3) (pBin dAt (pNm 2) (pC (.int 0))))])) (pApp dInt [(pBin dGt (pNm 4) (pBin dAt (pNm 2) (pC (.int 1))))])))))
def F_side_of : FD := runP [.val, .val, .val] false 5 S_side_of
def B_are_opposite : FS :=
  (fEnd [3] (fIf (lf (tP (pBin dIn (pNm 3) (pCall F_ends_of [(pNm 0), (pNm 2)])))) (fRet (lf (pBin dEq (pBin dAdd (pCall F_side_of [(pNm 0), (pNm 1), (pNm 3)]) (pCall F_side_of [(pNm 0), (pNm 2), (pNm 3)])) (pC (.int 3))))) fNil))
def S_are_opposite : FS :=
  (fKill [3] (fSeq (fFor (lf (iSeq (pCall F_ends_of [(pNm 0), (pNm 1)]))) (.nm 3) B_are_opposite)
  (fRet (lf (pC (.bool false))))))
def F_are_opposite : FD := runP [.val, .val, .val] false 4 S_are_opposite
def S_law_ends : FS :=
  (fSeq (fPar [2, 3] [(lf (pBin dFdiv (pNm 1) (pBin dAt (pNm 0) (pC (.int 1))))), (lf (pBin dMod (pApp dInt [(pNm 1)]) (pBin dAt (pNm 0) (pC (.int 1)))))])
  (fSeq (fIf (lf (tP (pBin dEq (pBin dMod (pApp dInt [(pBin dAdd (pNm 2) (pNm 3))]) (pC (.int 2))) (pC (.int 0))))) (fRet (lf (pTup [(pTup [(pNm 2), (pNm 3)]), (pTup [(pBin dAdd (pNm 2) (pC (.int 1))), (pBin dAdd (pNm 3) (pC (.int 1)))])]))) fNil)
  (fRet (lf (pTup [(pTup [(pNm 2), (pBin dAdd (pNm 3) (pC (.int 1)))]), (pTup [(pBin dAdd (pNm 2) (pC (.int 1))), (pNm 3)])])))))
def F_law_ends : FD := runP [.val, .val] false 4 S_law_ends
def S_law_one : FS :=
  (fRet (mBin dAt (mNm 1) (mEx (mCall F_draw [0] [(mNm 0), (mEx (lf (pApp dLen [(pNm 1)])))]))))
def F_law_one : FM := runM [.io, .val] false 2 S_law_one
def B_law_knots : FS :=
  (fEnd [2] (fDo (mMut 1 fExtA [(lf (pLc (iApp rng1 [(pBin dAdd (pBin dAt (pNm 0) (pC (.int 1))) (pC (.int 1)))]) (.nm 3) (tP (pBin dEq (pBin dMod (pApp dInt [(pBin dAdd (pNm 2) (pNm 3))]) (pC (.int 2))) (pC (.int 0)))) (pTup [(pNm 2), (pNm 3)]) [3]))])))
def S_law_knots : FS :=
  (fSeq (fSet 1 (lf (pLst [])))
  (fKill [2] (fSeq (fFor (lf (iApp rng1 [(pBin dAdd (pBin dAt (pNm 0) (pC (.int 0))) (pC (.int 1)))])) (.nm 2) B_law_knots)
  (fRetO 1))))
def F_law_knots : FD := runP [.val] false 4 S_law_knots
def B_law_at_1 : FS :=
  (fEnd [4] (fIf (lf (tAnd (tP (pChain dLe dLt (pC (.int 0)) (pNm 3) (pBin dAt (pNm 0) (pC (.int 0))))) (tP (pChain dLe dLt (pC (.int 0)) (pNm 4) (pBin dAt (pNm 0) (pC (.int 1))))))) (fDo (mMut 2 fAppend [(lf (pBin dAdd (pBin dMul (pNm 3) (pBin dAt (pNm 0) (pC (.int 1)))) (pNm 4)))])) fNil))
def B_law_at_2 : FS :=
  (fEnd [3, 4] (fKill [4] (fFor (lf (iSeq (pTup [(pBin dSub (pBin dAt (pNm 1) (pC (.int 1))) (pC (.int 1))), (pBin dAt (pNm 1) (pC (.int 1)))]))) (.nm 4) B_law_at_1)))
def S_law_at : FS :=
  (fSeq (fSet 2 (lf (pLst [])))
  (fKill [3, 4] (fSeq (fFor (lf (iSeq (pTup [(pBin dSub (pBin dAt (pNm 1) (pC (.int 0))) (pC (.int 1))), (pBin dAt (pNm 1) (pC (.int 0)))]))) (.nm 3) B_law_at_2)
  (fRetO 2))))
def F_law_at : FD := runP [.val, .val] false 5 S_law_at
def S_bars_of : FS :=
  (fSeq (fUnp (.tup [(.nm 2), (.nm 3)]) (lf (pNm 1)))
  (fSeq (fSet 4 (lf (pLst [(pTup [(pBin dSub (pNm 2) (pC (.int 1))), (pBin dSub (pNm 3) (pC (.int 1)))]), (pTup [(pBin dSub (pNm 2) (pC (.int 1))), (pNm 3)]), (pTup [(pNm 2), (pBin dSub (pNm 3) (pC (.int 1)))]), (pTup [(pNm 2), (pNm 3)])])))
  (fRet (lf (pApp dTuple [(pLc (iSeq (pNm 4)) (.tup [(.nm 5), (.nm 6)]) (tAnd (tP (pChain dLe dLt (pC (.int 0)) (pNm 5) (pBin dAt (pNm 0) (pC (.int 0))))) (tP (pChain dLe dLt (pC (.int 0)) (pNm 6) (pBin dAt (pNm 0) (pC (.int 1)))))) (pBin dAdd (pBin dMul (pNm 5) (pBin dAt (pNm 0) (pC (.int 1)))) (pNm 6)) [5, 6])])))))
def F_bars_of : FD := runP [.val, .val] false 7 S_bars_of
def B_bar_between : FS :=
  (fEnd [3] (fIf (lf (tAnd (tP (pBin dNe (pNm 2) (pNm 1))) (tP (pBin dIn (pNm 2) (pCall F_ends_of [(pNm 0), (pNm 3)]))))) (fRet (lf (pNm 3))) fNil))
def S_bar_between : FS :=
  (fKill [3] (fSeq (fFor (lf (iSeq (pCall F_bars_of [(pNm 0), (pNm 1)]))) (.nm 3) B_bar_between)
  (fRet (lf (pC .none)))))
def F_bar_between : FD := runP [.val, .val, .val] false 4 S_bar_between
def S_law_between : FS :=
  (fSeq (fIf (lf (tOr (tP (pBin dNe (pApp dAbs [(pBin dSub (pBin dAt (pNm 1) (pC (.int 0))) (pBin dAt (pNm 2) (pC (.int 0))))]) (pC (.int 1)))) (tP (pBin dNe (pApp dAbs [(pBin dSub (pBin dAt (pNm 1) (pC (.int 1))) (pBin dAt (pNm 2) (pC (.int 1))))]) (pC (.int 1)))))) (fRet (lf (pC .none))) fNil)
  (fRet (lf (pBin dAdd (pBin dMul (pApp dMin2 [(pBin dAt (pNm 1) (pC (.int 0))), (pBin dAt (pNm 2) (pC (.int 0)))]) (pBin dAt (pNm 0) (pC (.int 1)))) (pApp dMin2 [(pBin dAt (pNm 1) (pC (.int 1))), (pBin dAt (pNm 2) (pC (.int 1)))])))))
def F_law_between : FD := runP [.val, .val, .val] false 3 S_law_between
def B_knots : FS :=
  (fEnd [2] (fDo (mMut 1 fExtA [(lf (pLc (iApp rng1 [(pBin dAdd (pBin dAt (pNm 0) (pC (.int 1))) (pC (.int 1)))]) (.nm 3) (tP (pBin dEq (pBin dMod (pBin dAdd (pNm 2) (pNm 3)) (pC (.int 2))) (pC (.int 0)))) (pTup [(pNm 2), (pNm 3)]) [3]))])))
def S_knots : FS :=
  (fSeq (fSet 1 (lf (pLst [])))
  (fKill [2] (fSeq (fFor (lf (iApp rng1 [(pBin dAdd (pBin dAt (pNm 0) (pC (.int 0))) (pC (.int 1)))])) (.nm 2) B_knots)
  (fRet (lf (pApp dTuple [(pNm 1)]))))))
def F_knots : FD := runP [.val] false 4 S_knots
def endsI (S : Sheet) (b : Int) : (Int × Int) × (Int × Int) := if (b / S.C + b % S.C) % 2 = 0 then ((b / S.C, b % S.C), (b / S.C + 1, b % S.C + 1)) else ((b / S.C, b % S.C + 1), (b / S.C + 1, b % S.C))
def endsD (S : Sheet) (b : Int) : DL.D := .tuple [pk (endsI S b).1, pk (endsI S b).2]
def _root_.SsH2 : List Lean.Name := SsH1 ++ [`FL.lc_int, `FL.lc_int1, `FL.lc_pk, `FL.lc_pk1, `FL.lc_tL, `FL.lc_tL1]
def _root_.SsL2 : List Lean.Name := SsL1 ++ [`FL.r_eq, `FL.r_ne, `FL.r_inT, `FL.r_inL, `FL.r_ninT, `FL.r_ninL, `FL.r_nnl, `FL.r_nnt, `FL.r_eel, `FL.r_eet, `FL.r_in2, `FL.r_in3, `FL.r_eq0, `FL.r_eq0l, `FL.r_ne0, `FL.r_ne0l, `FL.pk_fold, `FL.p_eta, `FL.tL_fold, `FL.lL_fold, `FL.r_pk0, `FL.r_pk1, `FL.seq_pk, `FL.seq_tL, `FL.seq_lL, `FL.len_pk, `FL.len_tL, `FL.len_lL, `FL.tup_lL, `FL.list_lL, `FL.list_tL, `FL.isL_lL, `FL.bind_pk, `FL.d_t, `FL.if_some, `FL.if_someB, `FL.if_and, `FL.if_or, `FL.if_nt, `FL.dec_and, `FL.dec_or, `FL.dec_not, `FL.dec_ne, `FL.and_eq, `FL.or_eq, `FL.not_eq, `FL.if_int, `FL.if_bool, `FL.if_str, `FL.if_pk, `FL.lp_if, `FL.en_if, `FL.endR_if, `FL.bd_if, `FL.bind_if, `FL.omap_if, `FL.any_lL, `FL.all_lL, `FL.sum_lL, `FL.rgI_fold, `FL.filter_all, `FL.map_id2, `FL.sh_0, `FL.sh_1, `FL.sh_fdiv, `FL.sh_mod, `FL.sh_mul, `FL.sh_rngR, `FL.sh_rngC, `FL.sh_rngR0, `FL.sh_rngC0, `FL.pDict0, `FL.pDict1, `FL.mDict1, `FL.in_dc, `FL.nin_dc, `FL.in_ds, `FL.nin_ds, `FL.sorted_ds, `FL.ds_oneI, `FL.ds_oneP, `FL.keyTag_int, `FL.keyTag_str, `FL.keyTag_pk, `FL.iEnu, `FL.rdX_ok, `FL.rdX_ex, `FL.mCallX, `FL.fRaise, `FL.tryO_nx, `FL.tryO_rt, `FL.tryO_ex, `FL.fTry1, `FL.sorted_int, `FL.pGet, `FL.pKeysT, `FL.iZipM, `FL.iZip3, `FL.zipN_tt, `FL.zipN_tl, `FL.zipN_lt, `FL.zipN_ll, `FL.zipN_ttt, `FL.zipN_ltl, `FL.listZip_ttt, `FL.pDc, `FL.pFirsts, `FL.pIdx, `FL.fRetT, `FL.namesAt_n, `FL.namesAt_c, `FL.pChain3, `FL.mNeed, `DL.eqDX, `DL.negX, `FL.ltT_pk, `FL.eqE_r, `FL.fUnpL, `FL.bindU_l, `FL.tryC_nil, `FL.tryC_cons, `FL.unE_some, `FL.unE_none, `FL.tryN_nx, `FL.tryN_rt, `FL.tryN_ex, `FL.fTryN, `FL.mCallN, `FL.tupT_t]
local macro_rules | `(tactic| simp only [$as,*] $[$l]?) => SsM (`word_snoc :: SsH2 ++ SsL2) as.getElems l
theorem ends_of_eq {S : Sheet} {b : Int} : F_ends_of [S.d, .int b] = some (endsD S b) := by
  unfold endsD endsI
  by_cases h : (b / S.C + b % S.C) % 2 = 0 <;>
  simp only [F_ends_of, S_ends_of, runP, ss_, h]
def _root_.SsH3 : List Lean.Name := SsH2 ++ []
def _root_.SsL3 : List Lean.Name := SsL2 ++ [`FL.ends_of_eq]
local macro_rules | `(tactic| simp only [$as,*] $[$l]?) => SsM (`word_snoc :: SsH3 ++ SsL3) as.getElems l
theorem law_ends_eq {S : Sheet} {b : Int} : F_law_ends [S.d, .int b] = some (endsD S b) := by
  unfold endsD endsI
  by_cases h : (b / S.C + b % S.C) % 2 = 0 <;>
  simp only [F_law_ends, S_law_ends, runP, ss_, h]
def farI (S : Sheet) (b : Int) (p : Int × Int) : Int × Int := if p = (endsI S b).1 then (endsI S b).2 else (endsI S b).1
def _root_.SsH4 : List Lean.Name := SsH3 ++ []
def _root_.SsL4 : List Lean.Name := SsL3 ++ [`FL.law_ends_eq]
local macro_rules | `(tactic| simp only [$as,*] $[$l]?) => SsM (`word_snoc :: SsH4 ++ SsL4) as.getElems l
theorem far_end_eq {S : Sheet} {b : Int} {p : Int × Int} : F_far_end [S.d, .int b, pk p] = some (pk (farI S b p)) := by
  simp only [F_far_end, S_far_end, runP, ss_, endsD, farI]
def sideI (S : Sheet) (b : Int) (p : Int × Int) : Int := 2 * (if p.1 < (farI S b p).1 then 1 else 0) + (if p.2 < (farI S b p).2 then 1 else 0)
def _root_.SsH5 : List Lean.Name := SsH4 ++ []
def _root_.SsL5 : List Lean.Name := SsL4 ++ [`FL.far_end_eq]
local macro_rules | `(tactic| simp only [$as,*] $[$l]?) => SsM (`word_snoc :: SsH5 ++ SsL5) as.getElems l
theorem side_of_eq {S : Sheet} {b : Int} {p : Int × Int} : F_side_of [S.d, .int b, pk p] = some (.int (sideI S b p)) := by
  simp only [F_side_of, S_side_of, runP, ss_, sideI]
def oppI (S : Sheet) (a b : Int) : Bool :=
  if (endsI S a).1 = (endsI S b).1 ∨ (endsI S a).1 = (endsI S b).2 then decide (sideI S a (endsI S a).1 + sideI S b (endsI S a).1 = 3)
  else (decide ((endsI S a).2 = (endsI S b).1 ∨ (endsI S a).2 = (endsI S b).2) && decide (sideI S a (endsI S a).2 + sideI S b (endsI S a).2 = 3))
def _root_.SsH6 : List Lean.Name := SsH5 ++ []
def _root_.SsL6 : List Lean.Name := SsL5 ++ [`FL.side_of_eq]
local macro_rules | `(tactic| simp only [$as,*] $[$l]?) => SsM (`word_snoc :: SsH6 ++ SsL6) as.getElems l
theorem are_opposite_eq {S : Sheet} {a b : Int} : F_are_opposite [S.d, .int a, .int b] = some (.bool (oppI S a b)) := by
  unfold oppI
  simp only [F_are_opposite, S_are_opposite, B_are_opposite, runP, ss_, endsD, forL_cons]
def inS (S : Sheet) (p : Int × Int) : Bool := (decide (0 ≤ p.1) && decide (p.1 < S.R)) && (decide (0 ≤ p.2) && decide (p.2 < S.C))
def barsI (S : Sheet) (p : Int × Int) : List Int := ([(p.1 - 1, p.2 - 1), (p.1 - 1, p.2), (p.1, p.2 - 1), p].filter (inS S)).map fun p => p.1 * S.C + p.2
theorem lc4 {α : Type} {q : DL.D → Option Bool} {e : DL.D → Option α} {a b c d : Int × Int} : lcF q e [pk a, pk b, pk c, pk d] = lcF (fun x => q (pk x)) (fun x => e (pk x)) [a, b, c, d] := lc_map (xs := [a, b, c, d])
def _root_.SsH7 : List Lean.Name := SsH6 ++ []
def _root_.SsL7 : List Lean.Name := SsL6 ++ [`FL.are_opposite_eq]
local macro_rules | `(tactic| simp only [$as,*] $[$l]?) => SsM (`word_snoc :: SsH7 ++ SsL7) as.getElems l
theorem bars_of_eq {S : Sheet} {p : Int × Int} : F_bars_of [S.d, pk p] = some (tL .int (barsI S p)) := by
  simp only [F_bars_of, S_bars_of, runP, ss_, lc4, size_eq]
  rfl
def _root_.SsH8 : List Lean.Name := SsH7 ++ []
def _root_.SsL8 : List Lean.Name := SsL7 ++ [`FL.bars_of_eq]
local macro_rules | `(tactic| simp only [$as,*] $[$l]?) => SsM (`word_snoc :: SsH8 ++ SsL8) as.getElems l
theorem at_one {S : Sheet} {p : Int × Int} {acc : List Int} {r c : Int} (h : acc.length ≤ 100) : B_law_at_1 [some S.d, some (pk p), some (lL .int acc), some (.int r), some (.int c)] = some (.ok .nx [some S.d, some (pk p), some (lL .int (acc ++ ([(r, c)].filter (inS S)).map fun p => p.1 * S.C + p.2)), some (.int r), none]) := by
  by_cases g : inS S (r, c) = true
  · rw [List.filter_cons_of_pos g]
    unfold inS at g
    simp only [ss_] at g
    simp only [B_law_at_1, ss_, g, app_lL (f := PyData.int) (show acc.length < sizeLine by rw [size_eq]; omega)]
    rfl
  · rw [List.filter_cons_of_neg g]
    unfold inS at g
    simp only [ss_] at g
    simp only [B_law_at_1, ss_, g, List.append_nil, List.filter_nil, List.map_nil]
theorem law_at_eq {S : Sheet} {p : Int × Int} : F_law_at [S.d, pk p] = some (lL .int (barsI S p)) := by
  have e0 : (PyData.list [] : DL.D) = lL .int [] := rfl
  have b : ∀ xs : List (Int × Int), ((xs.filter (inS S)).map fun p => p.1 * S.C + p.2).length ≤ xs.length := fun xs => by rw [List.length_map]; exact List.length_filter_le _ _
  simp only [F_law_at, S_law_at, runP, B_law_at_2, ss_, forL_cons]
  rw [e0]
  rw [at_one (acc := []) (Nat.zero_le _)]
  simp only [ss_, forL_cons]
  rw [at_one (by rw [List.nil_append]; exact Nat.le_trans (b _) (show (1 : Nat) ≤ 100 by decide))]
  simp only [ss_, forL_cons]
  rw [at_one (by rw [List.nil_append, List.length_append]; exact Nat.le_trans (Nat.add_le_add (b _) (b _)) (show (2 : Nat) ≤ 100 by decide))]
  simp only [ss_, forL_cons]
  rw [at_one (by rw [List.nil_append, List.length_append, List.length_append]; exact Nat.le_trans (Nat.add_le_add (Nat.add_le_add (b _) (b _)) (b _)) (show (3 : Nat) ≤ 100 by decide))]
  simp only [ss_, ← List.map_append, ← List.filter_append, List.nil_append, List.append_assoc, List.cons_append]
  rfl
def evenB (p : Int × Int) : Bool := decide ((p.1 + p.2) % 2 = 0)
def rowK (S : Sheet) (r : Int) : List (Int × Int) := ((rgI (S.C + 1)).map fun c => (r, c)).filter evenB
def knotsI (S : Sheet) : List (Int × Int) := (rgI (S.R + 1)).flatMap fun r => rowK S r
theorem rowK_len {S : Sheet} {r : Int} : (rowK S r).length ≤ 9 := by
  unfold rowK
  refine Nat.le_trans (List.length_filter_le _ _) ?_
  rw [List.length_map, rgI_len]
  have := S.c2
  omega
theorem flat_len {α β : Type} {f : α → List β} {k : Nat} (h : ∀ a, (f a).length ≤ k) : ∀ xs : List α, (xs.flatMap f).length ≤ xs.length * k
  | [] => by simp
  | x :: xs => by
    rw [List.flatMap_cons, List.length_append, List.length_cons, Nat.succ_mul]
    have := flat_len h xs
    have := h x
    omega
theorem knots_len {S : Sheet} : (knotsI S).length ≤ 81 := by
  refine Nat.le_trans (flat_len (fun _ => rowK_len) _) ?_
  rw [rgI_len]
  have := S.r2
  omega
theorem row_eq {S : Sheet} {r : Int} : List.map (fun c => (r, c)) (List.filter (fun c => decide ((r + c) % 2 = 0)) (rgI (S.C + 1))) = rowK S r := by
  unfold rowK
  rw [List.filter_map]
  rfl
def _root_.SsH9 : List Lean.Name := SsH8 ++ []
def _root_.SsL9 : List Lean.Name := SsL8 ++ [`FL.law_at_eq]
local macro_rules | `(tactic| simp only [$as,*] $[$l]?) => SsM (`word_snoc :: SsH9 ++ SsL9) as.getElems l
theorem knots_loop {S : Sheet} {s : FS} (h : ∀ (acc : List (Int × Int)) (r : Int), acc.length ≤ 100 → s [some S.d, some (lL pk acc), some (.int r), none] = some (.ok .nx [some S.d, some (lL pk (acc ++ rowK S r)), none, none])) :
    forL (.nm 2) s ((rgI (S.R + 1)).map .int) [some S.d, some (.list []), none, none] = some (.ok .nx [some S.d, some (lL pk (knotsI S)), none, none]) := by
  have h2 : (rgI (S.R + 1)).length ≤ 9 := by rw [rgI_len]; have := S.r2; omega
  have go : ∀ (rs : List Int) (acc : List (Int × Int)), acc.length + rs.length * 9 ≤ 90 → forL (.nm 2) s (rs.map .int) [some S.d, some (lL pk acc), none, none] = some (.ok .nx [some S.d, some (lL pk (acc ++ rs.flatMap fun r => rowK S r)), none, none]) := by
    intro rs
    induction rs with
    | nil => intro acc _; simp only [List.map_nil, ss_, List.flatMap_nil, List.append_nil]
    | cons r rs ih =>
      intro acc hl
      rw [List.length_cons] at hl
      have := rowK_len (S := S) (r := r)
      simp only [List.map_cons, forL_cons, ss_, h acc r (by omega)]
      rw [ih (acc ++ rowK S r) (by rw [List.length_append]; omega), List.flatMap_cons, List.append_assoc]
  exact go (rgI (S.R + 1)) [] (by rw [List.length_nil]; omega)
theorem ext_row {S : Sheet} {acc : List (Int × Int)} {r : Int} (h : acc.length ≤ 100) : fExtA (lL pk acc) [lL pk (rowK S r)] = some (.none, lL pk (acc ++ rowK S r)) := ext_lL (by have := rowK_len (S := S) (r := r); rw [size_eq]; omega)
theorem size_C {S : Sheet} : ((S.C + 1).toNat ≤ sizeLine) = True := by rw [size_eq]; have := S.c2; exact eq_true (by omega)
theorem knots_eq {S : Sheet} : F_knots [S.d] = some (tL pk (knotsI S)) := by
  simp only [F_knots, S_knots, runP, ss_]
  rw [knots_loop fun acc r h => by simp only [B_knots, ss_, rgI_len, size_C, row_eq, ext_row h]]
  simp only [ss_]
def _root_.SsH10 : List Lean.Name := SsH9 ++ []
def _root_.SsL10 : List Lean.Name := SsL9 ++ [`FL.knots_eq]
local macro_rules | `(tactic| simp only [$as,*] $[$l]?) => SsM (`word_snoc :: SsH10 ++ SsL10) as.getElems l
theorem law_knots_eq {S : Sheet} : F_law_knots [S.d] = some (lL pk (knotsI S)) := by
  simp only [F_law_knots, S_law_knots, runP, ss_]
  rw [knots_loop fun acc r h => by simp only [B_law_knots, ss_, rgI_len, size_C, row_eq, ext_row h]]
  simp only [ss_]
theorem mem_knotsI {S : Sheet} {p : Int × Int} : p ∈ knotsI S ↔ (0 ≤ p.1 ∧ p.1 ≤ S.R) ∧ (0 ≤ p.2 ∧ p.2 ≤ S.C) ∧ (p.1 + p.2) % 2 = 0 := by
  unfold knotsI rowK
  simp only [List.mem_flatMap, List.mem_filter, List.mem_map, mem_rgI, evenB, decide_eq_true_eq]
  constructor
  · rintro ⟨r, hr, ⟨c, hc, rfl⟩, e⟩
    exact ⟨⟨hr.1, by show r ≤ _; omega⟩, ⟨hc.1, by show c ≤ _; omega⟩, e⟩
  · rintro ⟨h1, h2, h3⟩
    exact ⟨p.1, ⟨h1.1, by omega⟩, ⟨p.2, ⟨h2.1, by omega⟩, rfl⟩, h3⟩
def optD : Option Int → DL.D
  | none => .none
  | some i => .int i
def betI (S : Sheet) (p q : Int × Int) : Option Int := (barsI S p).find? fun b => !decide (q = p) && (decide (q = (endsI S b).1) || decide (q = (endsI S b).2))
def _root_.SsH11 : List Lean.Name := SsH10 ++ []
def _root_.SsL11 : List Lean.Name := SsL10 ++ [`FL.law_knots_eq]
local macro_rules | `(tactic| simp only [$as,*] $[$l]?) => SsM (`word_snoc :: SsH11 ++ SsL11) as.getElems l
theorem bar_between_eq {S : Sheet} {p q : Int × Int} : F_bar_between [S.d, pk p, pk q] = some (optD (betI S p q)) := by
  simp only [F_bar_between, S_bar_between, runP, ss_]
  rw [for_find (r := fun b : Int => if (!decide (q = p) && (decide (q = (endsI S b).1) || decide (q = (endsI S b).2))) = true then some (.int b) else none) (ee := fun b => [some S.d, some (pk p), some (pk q), some (.int b)]) fun b _ => by
    simp only [B_bar_between, ss_, endsD]
    split <;> rfl]
  have e : ∀ b : Int, (if (!decide (q = p) && (decide (q = (endsI S b).1) || decide (q = (endsI S b).2))) = true then some (PyData.int b) else none).isSome = (!decide (q = p) && (decide (q = (endsI S b).1) || decide (q = (endsI S b).2))) := fun b => by split <;> simp_all
  simp only [e]
  unfold betI
  cases h : List.find? (fun b => !decide (q = p) && (decide (q = (endsI S b).1) || decide (q = (endsI S b).2))) (barsI S p) with
  | none => simp only [ss_, optD]
  | some b =>
    have := List.find?_some h
    simp only [this, ↓reduceIte, ss_, optD]
def btwI (S : Sheet) (p q : Int × Int) : Option Int := if (p.1 - q.1).natAbs = 1 ∧ (p.2 - q.2).natAbs = 1 then some (min p.1 q.1 * S.C + min p.2 q.2) else none
theorem abs1 (x : Int) : ((if x < 0 then -x else x) = 1) = (x.natAbs = 1) := by
  refine propext ?_
  split <;> omega
def _root_.SsH12 : List Lean.Name := SsH11 ++ []
def _root_.SsL12 : List Lean.Name := SsL11 ++ [`FL.bar_between_eq]
local macro_rules | `(tactic| simp only [$as,*] $[$l]?) => SsM (`word_snoc :: SsH12 ++ SsL12) as.getElems l
theorem law_between_eq {S : Sheet} {p q : Int × Int} : F_law_between [S.d, pk p, pk q] = some (optD (btwI S p q)) := by
  unfold btwI
  by_cases h1 : (p.1 - q.1).natAbs = 1 <;> by_cases h2 : (p.2 - q.2).natAbs = 1 <;>
  simp only [F_law_between, S_law_between, runP, ss_, abs1, h1, h2, optD, not_true, not_false_eq_true, if_true, if_false, and_self, and_false, false_and, or_self, or_true, true_or]
end FL
namespace FL
open PySem PySem.Spec L2 DL
section
variable {α : Type} {f : α → DL.D} {xs : List α} {m n k : Nat}
theorem gd_int {i : Int} (h : -1000000000 ≤ i ∧ i ≤ 1000000000) : Gd m n (.int i) := Gd.int (by
  have : (10 : Nat) ^ 79 > 1000000000 := by decide
  omega)
theorem e_self {α : Type} {a : α} : (a = a) = True := eq_self a
theorem n_T : (¬ True) = False := by simp
theorem n_F : (¬ False) = True := by simp
theorem or_FF : (False ∨ False) = False := by simp
theorem dec_T : decide True = true := rfl
theorem dec_F : decide False = false := rfl
end
theorem law_for {s : FS} {k : Nat} (E : DL.D → En) (K : Nat) (body : ∀ (m : Int) (dk : DL.D) (i : Int), Dk m dk → m ≤ 1000000000 → ∃ dk', s ((E dk).set k (some (.int i))) = some (.ok .nx (E dk')) ∧ Dk (m + K) dk') :
    ∀ (is : List Int) (m : Int) (dk : DL.D), Dk m dk → m + is.length * K ≤ 1000000000 → ∃ dk', forL (.nm k) s (is.map .int) (E dk) = some (.ok .nx (E dk')) ∧ Dk (m + is.length * K) dk'
  | [], m, dk, hd, _ => ⟨dk, rfl, hd.le (by simp)⟩
  | i :: is, m, dk, hd, hm => by
    have e : ((i :: is).length : Int) * K = K + is.length * K := by
      rw [List.length_cons, Int.natCast_add, Int.add_mul]
      omega
    rw [e] at hm ⊢
    have p : 0 ≤ (is.length : Int) * K := Int.mul_nonneg (by omega) (by omega)
    obtain ⟨dk1, e1, hd1⟩ := body m dk i hd (by omega)
    obtain ⟨dk2, e2, hd2⟩ := law_for E K body is (m + K) dk1 hd1 (by omega)
    refine ⟨dk2, ?_, hd2.le (by omega)⟩
    rw [List.map_cons, forL_cons, bindD_nm, b_some, e1, lp_nx, e2]
theorem lawS_eq {n : Nat} {ns : List Int} : lawS n ns = none :: some (dkD ns 0 0 0) :: List.replicate n none := rfl
theorem rng_n {n : Int} (h : 0 ≤ n ∧ n ≤ 100000) : rng1 [.int n] = some ((rgI n).map .int) := by rw [rng1_i (by omega), rgI_fold]
end FL
namespace FL
open PySem PySem.Spec L2 DL
def st (cs : List Nat) : Str := ⟨cs.toArray⟩
def ts (cs : List Nat) : DL.D := .str (st cs)
theorem st_inj {a b : List Nat} : st a = st b ↔ a = b := by
  constructor
  · intro h
    have := congrArg (fun x : Str => x.cps.toList) h
    simpa [st] using this
  · intro h; rw [h]
theorem st_app {a b : List Nat} : st a ++ st b = st (a ++ b) := by
  show Str.mk (a.toArray ++ b.toArray) = _
  unfold st
  rw [List.append_toArray]
theorem st_len {a : List Nat} : (st a).length = a.length := by
  show (a.toArray).size = _
  rw [List.size_toArray]
theorem str_ts {cs : List Nat} : PyData.str (st cs) = ts cs := rfl
theorem c_dot : (Str.ofString "." : Str) = st [46] := by decide +kernel
theorem c_back : (Str.ofString "\\" : Str) = st [92] := by decide +kernel
theorem c_slash : (Str.ofString "/" : Str) = st [47] := by decide +kernel
theorem c_nl : (Str.ofString "\n" : Str) = st [10] := by decide +kernel
theorem c_empty : (Str.ofString "" : Str) = st [] := by decide +kernel
section
variable {a b : List Nat} {α : Type} {f : α → List Nat} {xs : List α} {q : α → Bool}
theorem t_eq : dEq (ts a) (ts b) = some (.bool (decide (a = b))) := by
  show dEq (.str (st a)) (.str (st b)) = _
  rw [r_eqs]
  congr 3
  exact propext st_inj
theorem t_ne : dNe (ts a) (ts b) = some (.bool !(decide (a = b))) := by
  show dNe (.str (st a)) (.str (st b)) = _
  rw [r_nes, decide_not]
  congr 4
  exact propext st_inj
theorem t_add (h : a.length + b.length ≤ sizeLine) : dAdd (ts a) (ts b) = some (ts (a ++ b)) := by
  show (if (st a).length + (st b).length ≤ sizeLine then some (PyData.str (st a ++ st b)) else none) = _
  rw [st_len, st_len, if_pos h, st_app]
  rfl
theorem sO_ts {β : Type} {k : Str → Option β} : sO (ts a) k = k (st a) := rfl
theorem mul_st {n : Int} : Txt.mul (st a) n = st (List.replicate n.toNat a).flatten := by
  have fold : ∀ (m : Nat) (b : List Nat), (List.replicate m (st a).cps).foldl (· ++ ·) b.toArray = (b ++ (List.replicate m a).flatten).toArray := by
    intro m
    induction m with
    | zero => intro b; simp
    | succ m ih =>
      intro b
      rw [List.replicate_succ, List.foldl_cons, show b.toArray ++ (st a).cps = (b ++ a).toArray from by unfold st; simp, ih, List.replicate_succ, List.flatten_cons, List.append_assoc]
  unfold Txt.mul
  split
  · rename_i h
    rw [show n.toNat = 0 by omega]
    rfl
  · split
    · rename_i h1 h2
      rw [Bool.or_eq_true, beq_iff_eq, beq_iff_eq] at h2
      rcases h2 with h2 | h2
      · subst h2
        simp
      · have e : a = [] := List.eq_nil_of_length_eq_zero (by rw [← st_len]; exact h2)
        subst e
        simp [List.flatten_replicate_nil]
    · have := fold n.toNat []
      rw [List.nil_append] at this
      show Str.mk (List.foldl (· ++ ·) #[] _) = _
      rw [show (#[] : Array Nat) = ([] : List Nat).toArray from rfl, this]
      rfl
theorem t_mul {n : Int} (h : 0 ≤ n) (h1 : n ≤ 1048576) (h2 : a.length * n.toNat ≤ 16777216) : dMul (ts a) (.int n) = some (ts (List.replicate n.toNat a).flatten) := by
  show (if mulFit (st a) n then some (PyData.str (Txt.mul (st a) n)) else none) = _
  rw [if_pos ⟨⟨h, h1⟩, by rw [st_len]; exact h2⟩, mul_st]
  rfl
theorem ix_0 {n d : Nat} : HT.sIx n d none = d := rfl
theorem ix_s {n d : Nat} {v : Int} (h : 0 ≤ v) : HT.sIx n d (some v) = min v.toNat n := by
  show (if v < 0 then (v + (n : Int)).toNat else min v.toNat n) = _
  rw [if_neg (by omega)]
theorem cut_to {α : Type} {xs : List α} {v : Int} (h : 0 ≤ v) : (xs.drop (HT.sIx xs.length 0 none)).take (HT.sIx xs.length xs.length (some v) - HT.sIx xs.length 0 none) = xs.take v.toNat := by
  rw [ix_0, ix_s h, List.drop_zero, Nat.sub_zero, ← List.take_take, List.take_length]
theorem sl_st {lo hi : Option Int} : cutS (st a) lo hi = st ((a.drop (HT.sIx a.length 0 lo)).take (HT.sIx a.length a.length hi - HT.sIx a.length 0 lo)) := by
  show Str.mk (List.toArray (List.take (HT.sIx (st a).length (st a).length hi - HT.sIx (st a).length 0 lo) (List.drop (HT.sIx (st a).length 0 lo) (st a).cps.toList))) = _
  rw [st_len]
  rfl
theorem t_sl {lo hi : Option Int} (l : a.length ≤ sizeLine) : dSl (ts a) lo hi = some (ts ((a.drop (HT.sIx a.length 0 lo)).take (HT.sIx a.length a.length hi - HT.sIx a.length 0 lo))) := by
  show (if (st a).length ≤ sizeLine then some (PyData.str (cutS (st a) lo hi)) else none) = _
  rw [if_pos (by rw [st_len]; exact l), sl_st]
  rfl
theorem t_to {v : Int} (h : 0 ≤ v) (l : a.length ≤ sizeLine) : dSl (ts a) none (some v) = some (ts (a.take v.toNat)) := by rw [t_sl l, cut_to h]
theorem lc_ts : lcF (fun a => some (q a)) (fun a => some (ts (f a))) xs = some (((xs.filter q).map f).map ts) := by rw [lc_filter, List.map_map]; rfl
theorem if_ts {c : Prop} [Decidable c] : (if c then ts a else ts b) = ts (if c then a else b) := by split <;> rfl
theorem gd_ts {m n : Nat} (h : ∀ c ∈ a, c < 1114112) (l : a.length ≤ n) : Gd m n (ts a) := Gd.str (by
  show PyData.strOk (st a) = true
  unfold PyData.strOk st
  simpa using h) (by show a.toArray.size ≤ n; rw [List.size_toArray]; exact l)
end
end FL
namespace FL
open PySem PySem.Spec L2 DL
mutual
theorem eqv_me : ∀ d : DL.D, PyData.canLay0 d = true → PyData.eqv d d = true
  | .none, _ => rfl
  | .bool b, _ => by cases b <;> rfl
  | .int i, _ => beq_self_eq_true i
  | .str x, _ => beq_self_eq_true x
  | .list xs, h => eqvAll_me xs h
  | .tuple xs, h => eqvAll_me xs h
  | .dict _, h => nomatch (show false = true from h)
theorem eqvAll_me : ∀ ds : List DL.D, PyData.canLayAll0 ds = true → PyData.eqvAll ds ds = true
  | [], _ => rfl
  | d :: ds, h => by
    have h : (PyData.canLay0 d && PyData.canLayAll0 ds) = true := h
    rw [Bool.and_eq_true] at h
    show (PyData.eqv d d && PyData.eqvAll ds ds) = true
    rw [eqv_me d h.1, eqvAll_me ds h.2]
    rfl
end
theorem dNe_me {m n : Nat} {d : DL.D} (h : Gd m n d) (l : m ≤ 64 := by decide) : dNe d d = some (.bool false) := by
  rw [dNe_sh h.sh h.sh l l, eqv_me d h.can]
  rfl
end FL
namespace FL
open PySem PySem.Spec L2 DL
theorem atI_mem {α : Type} {xs : List α} {i : Int} (h : 0 ≤ i) (h2 : i < xs.length) : ∃ x, atI xs i = some x ∧ x ∈ xs := by
  refine ⟨xs[i.toNat]'(by omega), ?_, List.getElem_mem _⟩
  rw [atI_nat h h2, List.getElem?_eq_getElem (by omega)]
def _root_.SsH13 : List Lean.Name := SsH12 ++ [`FL.lc_ts]
def _root_.SsL13 : List Lean.Name := SsL12 ++ [`FL.law_between_eq, `FL.e_self, `FL.n_T, `FL.n_F, `FL.or_FF, `FL.dec_T, `FL.dec_F, `FL.str_ts, `FL.c_dot, `FL.c_back, `FL.c_slash, `FL.c_nl, `FL.c_empty, `FL.t_eq, `FL.t_ne, `FL.sO_ts, `FL.if_ts]
local macro_rules | `(tactic| simp only [$as,*] $[$l]?) => SsM (`word_snoc :: SsH13 ++ SsL13) as.getElems l
theorem one_ok {m : Int} {dk : DL.D} {xs : List DL.D} (h : Dk m dk) (h2 : m < 1073741823 := by omega) (h3 : 0 < xs.length := by simp) (h4 : xs.length < 1073741824 := by simp) :
    ∃ (x : DL.D) (dk' : DL.D), F_law_one [dk, .list xs] = some (.ok x [dk']) ∧ x ∈ xs ∧ Dk (m + 1) dk' := by
  obtain ⟨r, dk', e, r0, r1, hd⟩ := draw_ok (n := (xs.length : Int)) h h2 (by omega) (by omega)
  obtain ⟨x, ex, hx⟩ := atI_mem r0 r1
  exact ⟨x, dk', by simp only [F_law_one, S_law_one, runM, ss_, e, ex], hx, hd⟩
def S_lacking : FS :=
  (fRet (lf (pApp dTuple [(pLc (iSeq (pCall F_bars_of [(pNm 0), (pNm 2)])) (.nm 3) (tP (pBin dIn (pNm 3) (pNm 1))) (pNm 3) [3])])))
def F_lacking : FD := runP [.val, .val, .val] false 4 S_lacking
def S_lacks : FS :=
  (fRet (lf (pApp dLen [(pCall F_lacking [(pNm 0), (pNm 1), (pNm 2)])])))
def F_lacks : FD := runP [.val, .val, .val] false 3 S_lacks
def S_odd : FS :=
  (fRet (lf (pApp dTuple [(pLc (iSeq (pCall F_knots [(pNm 0)])) (.nm 2) (tP (pBin dEq (pBin dMod (pCall F_lacks [(pNm 0), (pNm 1), (pNm 2)]) (pC (.int 2))) (pC (.int 1)))) (pNm 2) [2])])))
def F_odd : FD := runP [.val, .val] false 3 S_odd
def S_lost : FS :=
  (fRet (lf (pApp dTuple [(pLc (iSeq (pCall F_knots [(pNm 0)])) (.nm 2) (tP (pBin dEq (pCall F_lacks [(pNm 0), (pNm 1), (pNm 2)]) (pApp dLen [(pCall F_bars_of [(pNm 0), (pNm 2)])]))) (pNm 2) [2])])))
def F_lost : FD := runP [.val, .val] false 3 S_lost
def S_law_is_near : FS :=
  (fSeq (fUnp (.tup [(.nm 3), (.nm 4)]) (lf (pCall F_law_ends [(pNm 0), (pNm 1)])))
  (fRet (lf (pOr (pBin dIn (pNm 3) (pNm 2)) (pBin dIn (pNm 4) (pNm 2))))))
def F_law_is_near : FD := runP [.val, .val, .brw] false 5 S_law_is_near
def S_law_lacks : FS :=
  (fRet (lf (pApp dLen [(pLc (iSeq (pCall F_law_at [(pNm 0), (pNm 2)])) (.nm 3) (tP (pBin dIn (pNm 3) (pNm 1))) (pNm 3) [3])])))
def F_law_lacks : FD := runP [.val, .val, .val] false 4 S_law_lacks
def S_law_odd : FS :=
  (fRet (lf (pApp dTuple [(pLc (iSeq (pCall F_law_knots [(pNm 0)])) (.nm 2) (tP (pBin dEq (pBin dMod (pApp dInt [(pCall F_law_lacks [(pNm 0), (pNm 1), (pNm 2)])]) (pC (.int 2))) (pC (.int 1)))) (pNm 2) [2])])))
def F_law_odd : FD := runP [.val, .val] false 3 S_law_odd
theorem bars_len {S : Sheet} {p : Int × Int} : (barsI S p).length ≤ 4 := by
  unfold barsI
  rw [List.length_map]
  exact List.length_filter_le _ _
theorem fits {n : Nat} (h : n ≤ 100000) : (n ≤ sizeLine) = True := by rw [size_eq]; exact eq_true (by omega)
theorem bars_fit {S : Sheet} {p : Int × Int} : ((barsI S p).length ≤ sizeLine) = True := fits (Nat.le_trans bars_len (by decide))
theorem knots_fit {S : Sheet} : ((knotsI S).length ≤ sizeLine) = True := fits (Nat.le_trans knots_len (by decide))
def lackI (S : Sheet) (T : List Int) (p : Int × Int) : List Int := (barsI S p).filter fun b => decide (b ∈ T)
theorem lacking_eq {S : Sheet} {T : List Int} {p : Int × Int} : F_lacking [S.d, tL .int T, pk p] = some (tL .int (lackI S T p)) := by
  simp only [F_lacking, S_lacking, runP, ss_, bars_fit, lackI]
def _root_.SsH14 : List Lean.Name := SsH13 ++ []
def _root_.SsL14 : List Lean.Name := SsL13 ++ [`FL.lacking_eq]
local macro_rules | `(tactic| simp only [$as,*] $[$l]?) => SsM (`word_snoc :: SsH14 ++ SsL14) as.getElems l
theorem lacks_eq {S : Sheet} {T : List Int} {p : Int × Int} : F_lacks [S.d, tL .int T, pk p] = some (.int (lackI S T p).length) := by
  simp only [F_lacks, S_lacks, runP, ss_]
def _root_.SsH15 : List Lean.Name := SsH14 ++ []
def _root_.SsL15 : List Lean.Name := SsL14 ++ [`FL.lacks_eq]
local macro_rules | `(tactic| simp only [$as,*] $[$l]?) => SsM (`word_snoc :: SsH15 ++ SsL15) as.getElems l
theorem law_lacks_eq {S : Sheet} {T : List Int} {p : Int × Int} : F_law_lacks [S.d, tL .int T, pk p] = some (.int (lackI S T p).length) := by
  simp only [F_law_lacks, S_law_lacks, runP, ss_, bars_fit, lackI]
def oddI (S : Sheet) (T : List Int) : List (Int × Int) := (knotsI S).filter fun p => decide (((lackI S T p).length : Int) % 2 = 1)
def _root_.SsH16 : List Lean.Name := SsH15 ++ []
def _root_.SsL16 : List Lean.Name := SsL15 ++ [`FL.law_lacks_eq]
local macro_rules | `(tactic| simp only [$as,*] $[$l]?) => SsM (`word_snoc :: SsH16 ++ SsL16) as.getElems l
theorem odd_eq {S : Sheet} {T : List Int} : F_odd [S.d, tL .int T] = some (tL pk (oddI S T)) := by
  simp only [F_odd, S_odd, runP, ss_, knots_fit, oddI]
def _root_.SsH17 : List Lean.Name := SsH16 ++ []
def _root_.SsL17 : List Lean.Name := SsL16 ++ [`FL.odd_eq]
local macro_rules | `(tactic| simp only [$as,*] $[$l]?) => SsM (`word_snoc :: SsH17 ++ SsL17) as.getElems l
theorem law_odd_eq {S : Sheet} {T : List Int} : F_law_odd [S.d, tL .int T] = some (tL pk (oddI S T)) := by
  simp only [F_law_odd, S_law_odd, runP, ss_, knots_fit, oddI]
def lostI (S : Sheet) (T : List Int) : List (Int × Int) := (knotsI S).filter fun p => decide ((lackI S T p).length = (barsI S p).length)
def _root_.SsH18 : List Lean.Name := SsH17 ++ []
def _root_.SsL18 : List Lean.Name := SsL17 ++ [`FL.law_odd_eq]
local macro_rules | `(tactic| simp only [$as,*] $[$l]?) => SsM (`word_snoc :: SsH18 ++ SsL18) as.getElems l
theorem lost_eq {S : Sheet} {T : List Int} : F_lost [S.d, tL .int T] = some (tL pk (lostI S T)) := by
  simp only [F_lost, S_lost, runP, ss_, knots_fit, lostI, Int.natCast_inj]
structure IsTear (S : Sheet) (T : List Int) : Prop where
  asc : Asc T
  inb : ∀ b ∈ T, 0 ≤ b ∧ b < S.R * S.C
theorem Sheet.many (S : Sheet) : 1 ≤ S.R * S.C ∧ S.R * S.C ≤ 64 := by
  have := S.r1; have := S.r2; have := S.c1; have := S.c2
  have h1 : S.R * S.C ≤ 8 * 8 := Int.mul_le_mul (by omega) (by omega) (by omega) (by omega)
  have h2 : 1 * 1 ≤ S.R * S.C := Int.mul_le_mul (by omega) (by omega) (by omega) (by omega)
  omega
theorem IsTear.len {S : Sheet} {T : List Int} (h : IsTear S T) : T.length ≤ 64 := by
  have := asc_len h.asc h.inb
  have := S.many
  omega
theorem IsTear.sub {S : Sheet} {T U : List Int} (h : IsTear S T) (s : U.Sublist T) : IsTear S U := ⟨h.asc.sub s, fun b hb => h.inb b (s.subset hb)⟩
theorem sh_many {S : Sheet} : dMul (.int S.R) (.int S.C) = some (.int (S.R * S.C)) := sh_mul
/-- a comprehension whose test draws -/
def _root_.SsH19 : List Lean.Name := SsH18 ++ []
def _root_.SsL19 : List Lean.Name := SsL18 ++ [`FL.lost_eq, `FL.sh_many]
local macro_rules | `(tactic| simp only [$as,*] $[$l]?) => SsM (`word_snoc :: SsH19 ++ SsL19) as.getElems l
def endsL (S : Sheet) (b : Int) : List (Int × Int) := [(endsI S b).1, (endsI S b).2]
theorem list_ends {S : Sheet} {b : Int} : dList [endsD S b] = some (lL pk (endsL S b)) := rfl
theorem in_endsD {S : Sheet} {b : Int} {p : Int × Int} : dIn (pk p) (endsD S b) = some (.bool (decide (p ∈ endsL S b))) := r_inT (f := pk) (xs := endsL S b) (by decide)
theorem ninn_endsD {S : Sheet} {b : Int} {p : Int × Int} : dNotIn (pk p) (endsD S b) = some (.bool !(decide (p ∈ endsL S b))) := r_ninT (f := pk) (xs := endsL S b) (by decide)
theorem bind_ends {S : Sheet} {b : Int} {i j : Nat} {ε : En} : bindD (.tup [.nm i, .nm j]) (endsD S b) ε = some ((ε.set i (some (pk (endsI S b).1))).set j (some (pk (endsI S b).2))) := rfl
def _root_.SsH20 : List Lean.Name := SsH19 ++ []
def _root_.SsL20 : List Lean.Name := SsL19 ++ [`FL.list_ends, `FL.in_endsD, `FL.ninn_endsD, `FL.bind_ends]
local macro_rules | `(tactic| simp only [$as,*] $[$l]?) => SsM (`word_snoc :: SsH20 ++ SsL20) as.getElems l
theorem law_is_near_eq {S : Sheet} {b : Int} {P : List (Int × Int)} : F_law_is_near [S.d, .int b, lL pk P] = some (.bool (decide ((endsI S b).1 ∈ P) || decide ((endsI S b).2 ∈ P))) := by
  simp only [F_law_is_near, S_law_is_near, runP, ss_]
theorem at_last {α : Type} {f : α → DL.D} {xs : List α} {x : α} : dAt (lL f (xs ++ [x])) (.int (-1)) = some (f x) := by
  show atI ((xs ++ [x]).map f) (-1) = _
  unfold atI
  rw [List.length_map, List.length_append, List.length_singleton, show ixN (xs.length + 1) (-1) = some xs.length by
    unfold ixN
    rw [if_neg (by decide), if_pos (by omega)]
    congr 1
    omega, Option.bind_some, List.getElem?_map, List.getElem?_append_right (Nat.le_refl _)]
  simp
def _root_.SsH21 : List Lean.Name := SsH20 ++ []
def _root_.SsL21 : List Lean.Name := SsL20 ++ [`FL.law_is_near_eq]
local macro_rules | `(tactic| simp only [$as,*] $[$l]?) => SsM (`word_snoc :: SsH21 ++ SsL21) as.getElems l
end FL
namespace FL
open PySem PySem.Spec L2 DL
theorem c_NTB : (Str.ofString "NTB" : Str) = st [78, 84, 66] := by decide +kernel
theorem c_NB : (Str.ofString "NB" : Str) = st [78, 66] := by decide +kernel
theorem c_TB : (Str.ofString "TB" : Str) = st [84, 66] := by decide +kernel
theorem c_NT : (Str.ofString "NT" : Str) = st [78, 84] := by decide +kernel
theorem c_B : (Str.ofString "B" : Str) = st [66] := by decide +kernel
theorem c_N : (Str.ofString "N" : Str) = st [78] := by decide +kernel
theorem c_T : (Str.ofString "T" : Str) = st [84] := by decide +kernel
theorem c_NBBB : (Str.ofString "NBBB" : Str) = st [78, 66, 66, 66] := by decide +kernel
def IsL (c : Nat) : Prop := c = 66 ∨ c = 78 ∨ c = 84
structure IsEdge (cs : List Nat) (m : Nat) : Prop where
  pos : 1 ≤ cs.length
  len : cs.length ≤ m
  ltr : ∀ c ∈ cs, IsL c
def _root_.SsH22 : List Lean.Name := SsH21 ++ []
def _root_.SsL22 : List Lean.Name := SsL21 ++ [`FL.c_NTB, `FL.c_NB, `FL.c_TB, `FL.c_NT, `FL.c_B, `FL.c_N, `FL.c_T, `FL.c_NBBB]
local macro_rules | `(tactic| simp only [$as,*] $[$l]?) => SsM (`word_snoc :: SsH22 ++ SsL22) as.getElems l
theorem for_all {t : Tg} {s : FS} {ε : En} : ∀ {ds : List DL.D}, (∀ d ∈ ds, (bindD t d ε).bind s = some (.ok .nx ε)) → forL t s ds ε = some (.ok .nx ε)
  | [], _ => rfl
  | d :: ds, h => by
    have h1 := h d List.mem_cons_self
    have ih := for_all (t := t) (s := s) (ε := ε) fun d hd => h d (List.mem_cons_of_mem _ hd)
    rw [forL_cons]
    cases q : bindD t d ε with
    | none => rw [q] at h1; cases h1
    | some ε1 =>
      rw [q, Option.bind_some] at h1
      rw [Option.bind_some, h1]
      simp only [ss_]
      exact ih
theorem IsEdge.mono {cs : List Nat} {m k : Nat} (h : IsEdge cs m) (hm : m ≤ k := by decide) : IsEdge cs k := ⟨h.pos, Nat.le_trans h.len hm, h.ltr⟩
theorem IsEdge.take {cs : List Nat} {m k : Nat} (h : IsEdge cs m) (h0 : 1 ≤ k) : IsEdge (cs.take k) m := ⟨by have := h.pos; rw [List.length_take]; omega, by have := h.len; rw [List.length_take]; omega, fun c hc => h.ltr c (List.mem_of_mem_take hc)⟩
end FL
namespace FL
open PySem PySem.Spec L2 DL
noncomputable section
def S_law_any (Frec : FM) : FS :=
  (fSeq (fSet 2 (lf (pLst [(pC .none), (pC (.bool true)), (pC (.bool false)), (pC (.int 0)), (pC (.int 1)), (pUn dNeg (pC (.int 1))), (pC (.int 2)), (pC (.int 7)), (pBin dPow (pC (.int 10)) (pC (.int 39))), (pC (.str "")), (pC (.str "N")), (pC (.str "plan")), (pC (.str "./")), (pC (.str "0"))])))
  (fSeq (fIf (tOrM (lf (tP (pBin dEq (pNm 1) (pC (.int 0))))) (tM (mBin dEq (mEx (mCall F_draw [0] [(mNm 0), (mEx (lf (pC (.int 3))))])) (mEx (lf (pC (.int 0))))))) (fRet (mCall F_law_one [0] [(mNm 0), (mNm 2)])) fNil)
  (fSeq (fSet 3 (mLc (jApp rng1 [(mEx (mCall F_draw [0] [(mNm 0), (mEx (lf (pC (.int 4))))]))]) (.nm 4) (lf tYes) (mCall Frec [0] [(mNm 0), (mEx (lf (pBin dSub (pNm 1) (pC (.int 1)))))]) [4]))
  (fRet (mCall F_law_one [0] [(mNm 0), (mEx (lf (pLst [(pApp dTuple [(pNm 3)]), (pApp dTuple [(pNm 3)]), (pNm 3), (pApp dDictP [(pLc (iApp rng1 [(pApp dLen [(pNm 3)])]) (.nm 4) tYes (pTup [(pNm 4), (pBin dAt (pNm 3) (pNm 4))]) [4])])])))])))))
def F_law_any : Nat → FM
  | 0 => fun _ => none
  | n + 1 => runM [.io, .val] false 5 (S_law_any (F_law_any n))
end
theorem isi_of {T t : String} {b : Bool} {r : Option DL.D} (h : kitB t T = some b) (e : (kitB t T).map PyData.bool = r) : r = some (.bool b) := by rw [← e, h]; rfl
theorem isi_int_none : dIsi "int" .none = some (.bool false) := isi_of (T := "int") (t := "NoneType") (by decide +kernel) rfl
theorem isi_int_bool {b : Bool} : dIsi "int" (.bool b) = some (.bool true) := isi_of (T := "int") (t := "bool") (by decide +kernel) rfl
theorem isi_int_int {i : Int} : dIsi "int" (.int i) = some (.bool true) := isi_of (T := "int") (t := "int") (by decide +kernel) rfl
theorem isi_int_str {z : Str} : dIsi "int" (.str z) = some (.bool false) := isi_of (T := "int") (t := "str") (by decide +kernel) rfl
theorem isi_int_list {ds : List DL.D} : dIsi "int" (.list ds) = some (.bool false) := isi_of (T := "int") (t := "list") (by decide +kernel) rfl
theorem isi_int_tuple {ds : List DL.D} : dIsi "int" (.tuple ds) = some (.bool false) := isi_of (T := "int") (t := "tuple") (by decide +kernel) rfl
theorem isi_bool_none : dIsi "bool" .none = some (.bool false) := isi_of (T := "bool") (t := "NoneType") (by decide +kernel) rfl
theorem isi_bool_bool {b : Bool} : dIsi "bool" (.bool b) = some (.bool true) := isi_of (T := "bool") (t := "bool") (by decide +kernel) rfl
theorem isi_bool_int {i : Int} : dIsi "bool" (.int i) = some (.bool false) := isi_of (T := "bool") (t := "int") (by decide +kernel) rfl
theorem isi_bool_str {z : Str} : dIsi "bool" (.str z) = some (.bool false) := isi_of (T := "bool") (t := "str") (by decide +kernel) rfl
theorem isi_bool_list {ds : List DL.D} : dIsi "bool" (.list ds) = some (.bool false) := isi_of (T := "bool") (t := "list") (by decide +kernel) rfl
theorem isi_bool_tuple {ds : List DL.D} : dIsi "bool" (.tuple ds) = some (.bool false) := isi_of (T := "bool") (t := "tuple") (by decide +kernel) rfl
theorem isi_tuple_none : dIsi "tuple" .none = some (.bool false) := isi_of (T := "tuple") (t := "NoneType") (by decide +kernel) rfl
theorem isi_tuple_bool {b : Bool} : dIsi "tuple" (.bool b) = some (.bool false) := isi_of (T := "tuple") (t := "bool") (by decide +kernel) rfl
theorem isi_tuple_int {i : Int} : dIsi "tuple" (.int i) = some (.bool false) := isi_of (T := "tuple") (t := "int") (by decide +kernel) rfl
theorem isi_tuple_str {z : Str} : dIsi "tuple" (.str z) = some (.bool false) := isi_of (T := "tuple") (t := "str") (by decide +kernel) rfl
theorem isi_tuple_list {ds : List DL.D} : dIsi "tuple" (.list ds) = some (.bool false) := isi_of (T := "tuple") (t := "list") (by decide +kernel) rfl
theorem isi_tuple_tuple {ds : List DL.D} : dIsi "tuple" (.tuple ds) = some (.bool true) := isi_of (T := "tuple") (t := "tuple") (by decide +kernel) rfl
theorem isi_str_none : dIsi "str" .none = some (.bool false) := isi_of (T := "str") (t := "NoneType") (by decide +kernel) rfl
theorem isi_str_bool {b : Bool} : dIsi "str" (.bool b) = some (.bool false) := isi_of (T := "str") (t := "bool") (by decide +kernel) rfl
theorem isi_str_int {i : Int} : dIsi "str" (.int i) = some (.bool false) := isi_of (T := "str") (t := "int") (by decide +kernel) rfl
theorem isi_str_str {z : Str} : dIsi "str" (.str z) = some (.bool true) := isi_of (T := "str") (t := "str") (by decide +kernel) rfl
theorem isi_str_list {ds : List DL.D} : dIsi "str" (.list ds) = some (.bool false) := isi_of (T := "str") (t := "list") (by decide +kernel) rfl
theorem isi_str_tuple {ds : List DL.D} : dIsi "str" (.tuple ds) = some (.bool false) := isi_of (T := "str") (t := "tuple") (by decide +kernel) rfl
structure Gw (m n : Nat) (d : DL.D) : Prop where
  lsh : PyData.leavesShort 80 d = true
  shw : PyData.showable d = true
  dep : PyData.depth d ≤ m
  blk : PyData.bulk d ≤ n
  flt : flatA d = true
  chr : ∀ z, d = .str z → ∀ c ∈ z.cps.toList, c < 1114112
section
variable {m n k : Nat}
theorem Gw.le {m' n' : Nat} {d : DL.D} (h : Gw m n d) (l : m ≤ m' := by decide) (l' : n ≤ n' := by decide) : Gw m' n' d := ⟨h.lsh, h.shw, Nat.le_trans h.dep l, Nat.le_trans h.blk l', h.flt, h.chr⟩
theorem reprX {d : DL.D} (h : Gw m n d) (l : m ≤ 64 := by decide) (l' : n ≤ 200000 := by decide) : dReprX [d] = some (.str d.shown) := by
  have e : d.shown.length ≤ sizeLine := by
    have h1 := PyData.shown_le_bulk 80 (by decide) d h.lsh
    have h2 := h.blk
    rw [size_eq]
    omega
  refine if_pos ?_
  unfold reprOkX
  rw [h.shw, h.flt, decide_eq_true e, decide_eq_true (Nat.le_trans h.dep l)]
  rfl
mutual
theorem flat_no : ∀ d : DL.D, d.hasDict = false → flatA d = true
  | .none, _ => rfl
  | .bool _, _ => rfl
  | .int _, _ => rfl
  | .str _, _ => rfl
  | .list ds, h => flat_noL ds (by simpa [PyData.hasDict] using h)
  | .tuple ds, h => flat_noL ds (by simpa [PyData.hasDict] using h)
  | .dict _, h => by simp [PyData.hasDict] at h
theorem flat_noL : ∀ ds : List DL.D, PyData.hasDictAll ds = false → flatL ds = true
  | [], _ => rfl
  | d :: ds, h => by
    have h : (d.hasDict || PyData.hasDictAll ds) = false := h
    rw [Bool.or_eq_false_iff] at h
    show (flatA d && flatL ds) = true
    rw [flat_no d h.1, flat_noL ds h.2]
    rfl
end
theorem Gd.gw {d : DL.D} (h : Gd m n d) : Gw m n d := ⟨PyData.leavesShort_of_canLay0 80 d h.can h.ish, h.shw, h.dep, h.blk, flat_no d (PyData.hasDict_of_canLay d h.can), fun z e c hc => by
  subst e
  have q : PyData.strOk z = true := h.can
  unfold PyData.strOk at q
  simp only [Array.all_eq_true_iff_forall_mem, decide_eq_true_eq] at q
  exact q c (Array.mem_toList_iff.mp hc)⟩
theorem all_parts {xs : List DL.D} (h : ∀ x ∈ xs, Gw m n x) : PyData.leavesShortAll 80 xs = true ∧ PyData.showableAll xs = true ∧ PyData.depthAll xs ≤ m ∧ PyData.bulkAll xs ≤ xs.length * (n + 1) ∧ flatL xs = true := by
  induction xs with
  | nil => exact ⟨rfl, rfl, Nat.zero_le _, Nat.zero_le _, rfl⟩
  | cons x xs ih =>
    obtain ⟨h1, h2, h3, h4, h5⟩ := ih fun y hy => h y (List.mem_cons_of_mem _ hy)
    have hx := h x List.mem_cons_self
    refine ⟨?_, ?_, ?_, ?_, ?_⟩
    · show (PyData.leavesShort 80 x && PyData.leavesShortAll 80 xs) = true
      rw [hx.lsh, h1]; rfl
    · show (PyData.showable x && PyData.showableAll xs) = true
      rw [hx.shw, h2]; rfl
    · show max (PyData.depth x) (PyData.depthAll xs) ≤ m
      exact Nat.max_le.mpr ⟨hx.dep, h3⟩
    · show PyData.bulk x + 1 + PyData.bulkAll xs ≤ (xs.length + 1) * (n + 1)
      have := hx.blk
      rw [Nat.add_mul, Nat.one_mul]
      omega
    · show (flatA x && flatL xs) = true
      rw [hx.flt, h5]; rfl
theorem Gw.list {xs : List DL.D} (h : ∀ x ∈ xs, Gw m n x) (l : xs.length * (n + 1) ≤ k) : Gw (m + 1) k (.list xs) := by
  obtain ⟨h1, h2, h3, h4, h5⟩ := all_parts h
  exact ⟨h1, h2, Nat.succ_le_succ h3, Nat.le_trans h4 l, h5, fun _ e => nomatch e⟩
theorem Gw.tuple {xs : List DL.D} (h : ∀ x ∈ xs, Gw m n x) (l : xs.length * (n + 1) ≤ k) : Gw (m + 1) k (.tuple xs) := by
  obtain ⟨h1, h2, h3, h4, h5⟩ := all_parts h
  exact ⟨h1, h2, Nat.succ_le_succ h3, Nat.le_trans h4 l, h5, fun _ e => nomatch e⟩
theorem kv_parts {es : List (Int × DL.D)} (hk : ∀ p ∈ es, -1000 ≤ p.1 ∧ p.1 ≤ 1000) (h : ∀ p ∈ es, Gw m n p.2) :
    PyData.leavesShortKv 80 (es.map fun p => (PyData.int p.1, p.2)) = true ∧ PyData.showableKv (es.map fun p => (PyData.int p.1, p.2)) = true ∧ PyData.depthKv (es.map fun p => (PyData.int p.1, p.2)) ≤ m ∧ PyData.bulkKv (es.map fun p => (PyData.int p.1, p.2)) ≤ es.length * (n + 2) ∧ flatK (es.map fun p => (PyData.int p.1, p.2)) = true := by
  induction es with
  | nil => exact ⟨rfl, rfl, Nat.zero_le _, Nat.zero_le _, rfl⟩
  | cons p es ih =>
    obtain ⟨h1, h2, h3, h4, h5⟩ := ih (fun y hy => hk y (List.mem_cons_of_mem _ hy)) fun y hy => h y (List.mem_cons_of_mem _ hy)
    have hx := h p List.mem_cons_self
    have gi : Gw m n (.int p.1) := Gd.gw (gd_int (by have := hk p List.mem_cons_self; omega))
    refine ⟨?_, ?_, ?_, ?_, ?_⟩
    · show (PyData.leavesShort 80 (.int p.1) && PyData.leavesShort 80 p.2 && PyData.leavesShortKv 80 _) = true
      rw [gi.lsh, hx.lsh, h1]; rfl
    · show (PyData.showable (.int p.1) && PyData.showable p.2 && PyData.showableKv _) = true
      rw [gi.shw, hx.shw, h2]; rfl
    · show max (max (PyData.depth (.int p.1)) (PyData.depth p.2)) (PyData.depthKv _) ≤ m
      exact Nat.max_le.mpr ⟨Nat.max_le.mpr ⟨Nat.zero_le _, hx.dep⟩, h3⟩
    · show 0 + PyData.bulk p.2 + 2 + PyData.bulkKv _ ≤ (es.length + 1) * (n + 2)
      have := hx.blk
      rw [Nat.add_mul, Nat.one_mul]
      omega
    · show (plainK (PyData.int p.1, p.2) && (flatA p.2 && flatK _)) = true
      rw [hx.flt, h5]; rfl
theorem Gw.dict {es : List (Int × DL.D)} (hk : ∀ p ∈ es, -1000 ≤ p.1 ∧ p.1 ≤ 1000) (h : ∀ p ∈ es, Gw m n p.2) (l : es.length * (n + 2) ≤ k) : Gw (m + 1) k (.dict (es.map fun p => (PyData.int p.1, p.2))) := by
  obtain ⟨h1, h2, h3, h4, h5⟩ := kv_parts hk h
  exact ⟨h1, h2, Nat.succ_le_succ h3, Nat.le_trans h4 l, h5, fun _ e => nomatch e⟩
end
/-- text of bounded length with signs of a text -/
structure TxL (n : Nat) (cs : List Nat) : Prop where
  s : ∀ c ∈ cs, c < 128
  l : cs.length ≤ n
theorem TxL.mono {n m : Nat} {cs : List Nat} (h : TxL n cs) (l : n ≤ m := by decide) : TxL m cs := ⟨h.s, Nat.le_trans h.l l⟩
theorem TxL.app {n m : Nat} {a b : List Nat} (h : TxL n a) (h2 : TxL m b) : TxL (n + m) (a ++ b) := ⟨fun c hc => (List.mem_append.mp hc).elim (h.s c) (h2.s c), by rw [List.length_append]; exact Nat.add_le_add h.l h2.l⟩
theorem TxL.take {n k : Nat} {a : List Nat} (h : TxL n a) : TxL n (a.take k) := ⟨fun c hc => h.s c (List.mem_of_mem_take hc), by have := h.l; rw [List.length_take]; omega⟩
theorem TxL.to {n k : Nat} {a : List Nat} (h : TxL n a) : TxL k (a.take k) := ⟨fun c hc => h.s c (List.mem_of_mem_take hc), by rw [List.length_take]; omega⟩
theorem TxL.drop {n k : Nat} {a : List Nat} (h : TxL n a) : TxL n (a.drop k) := ⟨fun c hc => h.s c (List.mem_of_mem_drop hc), by have := h.l; rw [List.length_drop]; omega⟩
def TT (n : Nat) (d : DL.D) : Prop := ∃ cs, d = ts cs ∧ TxL n cs
section
variable {n m : Nat} {x y : DL.D}
theorem TT.add (h : TT n x) (h2 : TT m y) (l : n + m ≤ 1000000 := by decide) : ∃ d, dAdd x y = some d ∧ TT (n + m) d := by
  obtain ⟨a, rfl, h⟩ := h
  obtain ⟨b, rfl, h2⟩ := h2
  exact ⟨_, t_add (by have := h.l; have := h2.l; rw [size_eq]; omega), _, rfl, h.app h2⟩
theorem TT.to (h : TT n x) {v : Int} (h0 : 0 ≤ v) (l : n ≤ 1000000 := by decide) : ∃ d, dSl x none (some v) = some d ∧ TT v.toNat d := by
  obtain ⟨a, rfl, h⟩ := h
  exact ⟨_, t_to h0 (by have := h.l; rw [size_eq]; omega), _, rfl, h.to⟩
theorem TT.mul (h : TT n x) {v : Int} (h0 : 0 ≤ v) (h1 : v ≤ 1000) (l : n ≤ 1000 := by decide) : ∃ d, dMul x (.int v) = some d ∧ TT (n * v.toNat) d := by
  obtain ⟨a, rfl, h⟩ := h
  have hl := Nat.mul_le_mul_right v.toNat h.l
  have h2 : n * v.toNat ≤ 1000 * 1000 := Nat.mul_le_mul l (by omega)
  refine ⟨_, t_mul h0 (by omega) (by omega), _, rfl, fun c hc => ?_, ?_⟩
  · obtain ⟨b, hb, hc⟩ := List.mem_flatten.mp hc
    rw [(List.mem_replicate.mp hb).2] at hc
    exact h.s c hc
  · rw [List.length_flatten, List.map_replicate, List.sum_replicate_nat, Nat.mul_comm]
    exact hl
theorem TT.mono (h : TT n x) (l : n ≤ m := by decide) : TT m x := by
  obtain ⟨a, e, h⟩ := h
  exact ⟨a, e, h.mono l⟩
end
def _root_.SsH23 : List Lean.Name := SsH22 ++ []
def _root_.SsL23 : List Lean.Name := SsL22 ++ [`FL.isi_int_none, `FL.isi_int_bool, `FL.isi_int_int, `FL.isi_int_str, `FL.isi_int_list, `FL.isi_int_tuple, `FL.isi_bool_none, `FL.isi_bool_bool, `FL.isi_bool_int, `FL.isi_bool_str, `FL.isi_bool_list, `FL.isi_bool_tuple, `FL.isi_tuple_none, `FL.isi_tuple_bool, `FL.isi_tuple_int, `FL.isi_tuple_str, `FL.isi_tuple_list, `FL.isi_tuple_tuple, `FL.isi_str_none, `FL.isi_str_bool, `FL.isi_str_int, `FL.isi_str_str, `FL.isi_str_list, `FL.isi_str_tuple]
local macro_rules | `(tactic| simp only [$as,*] $[$l]?) => SsM (`word_snoc :: SsH23 ++ SsL23) as.getElems l
theorem lc_vals {e : M DL.D} {k : Nat} {b : Int} {Mx : Int} {P : DL.D → Prop} (b0 : 0 ≤ b) (E : DL.D → En) (hw : ∀ dk x, ((E dk).set k (some (.int x))).set k none = E dk)
    (he : ∀ (m : Int) (dk : DL.D) (x : Int), Dk m dk → m < Mx → ∃ c dk', e ((E dk).set k (some (.int x))) = some (.ok c ((E dk').set k (some (.int x)))) ∧ P c ∧ Dk (m + b) dk') :
    ∀ (xs : List Int) (m : Int) (dk : DL.D), Dk m dk → m + xs.length * b < Mx → ∃ (cs : List DL.D) (dk' : DL.D), cs.length = xs.length ∧ (∀ c ∈ cs, P c) ∧ lcM (.nm k) (lf tYes) e [k] (xs.map .int) (E dk) = some (.ok cs (E dk')) ∧ Dk (m + xs.length * b) dk'
  | [], m, dk, hd, _ => ⟨[], dk, rfl, (fun _ h => nomatch h), rfl, hd.le (by simp)⟩
  | x :: xs, m, dk, hd, hm => by
    have el : (((x :: xs).length : Nat) : Int) * b = (xs.length : Int) * b + b := by rw [List.length_cons, Int.natCast_succ, Int.add_mul, Int.one_mul]
    rw [el] at hm ⊢
    have nn : 0 ≤ (xs.length : Int) * b := Int.mul_nonneg (by omega) b0
    obtain ⟨c, dk1, e1, pc, hd1⟩ := he m dk x hd (by omega)
    obtain ⟨cs, dk2, l, ps, e2, hd2⟩ := lc_vals b0 E hw he xs (m + b) dk1 hd1 (by omega)
    refine ⟨c :: cs, dk2, by rw [List.length_cons, List.length_cons, l], fun y hy => (List.mem_cons.mp hy).elim (fun z => z ▸ pc) (ps y), ?_, hd2.le (by omega)⟩
    simp only [List.map_cons, lcM, ss_, bn, e1, hw, e2]
def consts : List DL.D := [.none, .bool true, .bool false, .int 0, .int 1, .int (-1), .int 2, .int 7, .int (10 ^ 39), ts [], ts [78], ts [112, 108, 97, 110], ts [46, 47], ts [48]]
theorem consts_gw {d : DL.D} (h : d ∈ consts) : Gw 0 10 d := by
  unfold consts at h
  simp only [List.mem_cons, List.not_mem_nil, or_false] at h
  rcases h with rfl | rfl | rfl | rfl | rfl | rfl | rfl | rfl | rfl | rfl | rfl | rfl | rfl | rfl
  · exact Gd.gw Gd.none
  · exact Gd.gw Gd.bool
  · exact Gd.gw Gd.bool
  · exact Gd.gw (gd_int (by decide))
  · exact Gd.gw (gd_int (by decide))
  · exact Gd.gw (gd_int (by decide))
  · exact Gd.gw (gd_int (by decide))
  · exact Gd.gw (gd_int (by decide))
  · exact Gd.gw (Gd.int (by decide))
  all_goals exact Gd.gw (gd_ts (by decide) (by decide))
theorem dict_any {ds : List DL.D} {m n : Nat} (h : ds.length ≤ 3) (g : ∀ d ∈ ds, Gw m n d) {z0 z1 z2 : Option DL.D} : ∃ d, (pApp dDictP [(pLc (iApp rng1 [(pApp dLen [(pNm 3)])]) (.nm 4) tYes (pTup [(pNm 4), (pBin dAt (pNm 3) (pNm 4))]) [4])]) [z0, z1, z2, some (.list ds), none] = some d ∧ Gw (m + 1) (3 * (n + 2)) d := by
  match ds, h, g with
  | [], _, g =>
    refine ⟨.dict [], ?_, Gw.dict (es := []) (by simp) (fun _ hp => nomatch hp) (by show 0 * (n + 2) ≤ _; omega)⟩
    have ln : dLen [.list []] = some (.int 0) := rfl
    have rg : rng1 [.int 0] = some [] := rng_n (by decide)
    have sz : ((0 : Nat) ≤ sizeLine) = True := eq_true (by rw [size_eq]; decide)
    have dd : dDictP [.list []] = some (.dict []) := by simp [dDictP, pairsK, DL.keyOf, keyD]
    simp only [ss_, ln, rg, sz, lc_cons, lcF, ↓reduceIte, dd]
  | [a], _, g =>
    refine ⟨.dict [(.int 0, a)], ?_, Gw.dict (es := [((0 : Int), a)]) (by simp) (fun p hp => g _ (by
      simp only [List.mem_cons, List.not_mem_nil, or_false] at hp
      rcases hp with rfl <;> simp)) (by show 1 * (n + 2) ≤ _; omega)⟩
    have ln : dLen [.list [a]] = some (.int 1) := rfl
    have rg : rng1 [.int 1] = some [PyData.int 0] := rng_n (by decide)
    have sz : ((1 : Nat) ≤ sizeLine) = True := eq_true (by rw [size_eq]; decide)
    have a0 : dAt (.list [a]) (.int 0) = some a := rfl
    have dd : dDictP [.list [.tuple [.int 0, a]]] = some (.dict [(.int 0, a)]) := by simp [dDictP, pairsK, DL.keyOf, keyD]
    simp only [ss_, ln, rg, sz, lc_cons, lcF, ↓reduceIte, dd, a0]
  | [a, b], _, g =>
    refine ⟨.dict [(.int 0, a), (.int 1, b)], ?_, Gw.dict (es := [((0 : Int), a), ((1 : Int), b)]) (by simp) (fun p hp => g _ (by
      simp only [List.mem_cons, List.not_mem_nil, or_false] at hp
      rcases hp with rfl | rfl <;> simp)) (by show 2 * (n + 2) ≤ _; omega)⟩
    have ln : dLen [.list [a, b]] = some (.int 2) := rfl
    have rg : rng1 [.int 2] = some [PyData.int 0, PyData.int 1] := rng_n (by decide)
    have sz : ((2 : Nat) ≤ sizeLine) = True := eq_true (by rw [size_eq]; decide)
    have a0 : dAt (.list [a, b]) (.int 0) = some a := rfl
    have a1 : dAt (.list [a, b]) (.int 1) = some b := rfl
    have dd : dDictP [.list [.tuple [.int 0, a], .tuple [.int 1, b]]] = some (.dict [(.int 0, a), (.int 1, b)]) := by simp [dDictP, pairsK, DL.keyOf, keyD]
    simp only [ss_, ln, rg, sz, lc_cons, lcF, ↓reduceIte, dd, a0, a1]
  | [a, b, c], _, g =>
    refine ⟨.dict [(.int 0, a), (.int 1, b), (.int 2, c)], ?_, Gw.dict (es := [((0 : Int), a), ((1 : Int), b), ((2 : Int), c)]) (by simp) (fun p hp => g _ (by
      simp only [List.mem_cons, List.not_mem_nil, or_false] at hp
      rcases hp with rfl | rfl | rfl <;> simp)) (by show 3 * (n + 2) ≤ _; omega)⟩
    have ln : dLen [.list [a, b, c]] = some (.int 3) := rfl
    have rg : rng1 [.int 3] = some [PyData.int 0, PyData.int 1, PyData.int 2] := rng_n (by decide)
    have sz : ((3 : Nat) ≤ sizeLine) = True := eq_true (by rw [size_eq]; decide)
    have a0 : dAt (.list [a, b, c]) (.int 0) = some a := rfl
    have a1 : dAt (.list [a, b, c]) (.int 1) = some b := rfl
    have a2 : dAt (.list [a, b, c]) (.int 2) = some c := rfl
    have dd : dDictP [.list [.tuple [.int 0, a], .tuple [.int 1, b], .tuple [.int 2, c]]] = some (.dict [(.int 0, a), (.int 1, b), (.int 2, c)]) := by simp [dDictP, pairsK, DL.keyOf, keyD]
    simp only [ss_, ln, rg, sz, lc_cons, lcF, ↓reduceIte, dd, a0, a1, a2]
  | a :: b :: c :: d :: r, h, _ => exact absurd h (by simp only [List.length_cons]; omega)
theorem p39 : dPow (.int 10) (.int 39) = some (.int (10 ^ 39)) := by
  show (if (decide ((0 : Int) ≤ 39) && decide ((39 : Int) ≤ 1000000) && decide ((10 : Int).natAbs < 2 ^ 64)) = true then some (PyData.int ((10 : Int) ^ (39 : Int).toNat)) else none) = _
  rw [if_pos (by decide)]
  rfl
theorem c_plan : (Str.ofString "plan" : Str) = st [112, 108, 97, 110] := by decide +kernel
theorem c_ds : (Str.ofString "./" : Str) = st [46, 47] := by decide +kernel
theorem c_0 : (Str.ofString "0" : Str) = st [48] := by decide +kernel
theorem any_zero {Frec : FM} {m : Int} {dk : DL.D} (hd : Dk m dk) (hm : m < 1073741000) : ∃ d dk', runM [.io, .val] false 5 (S_law_any Frec) [dk, .int 0] = some (.ok d [dk']) ∧ Gw 0 10 d ∧ Dk (m + 1) dk' := by
  obtain ⟨x, dk1, e1, hx, hd1⟩ := one_ok (xs := consts) hd (by omega) (by unfold consts; simp) (by unfold consts; simp)
  refine ⟨x, dk1, ?_, consts_gw hx, hd1⟩
  unfold consts at e1
  obtain ⟨q, hq⟩ : ∃ q : DL.D, PyData.int (10 ^ 39) = q := ⟨_, rfl⟩
  have p := p39
  rw [hq] at e1 p
  simp only [S_law_any, runM, ss_, p, c_plan, c_ds, c_0, e1]
theorem any_step {Frec : FM} {g n : Nat} (n0 : 10 ≤ n) {b M : Int} (hM : M ≤ 1073741000) (b0 : 0 ≤ b) {k : Int} (hk : 0 < k) (rec : ∀ (m : Int) (dk : DL.D), Dk m dk → m < M → ∃ d dk', Frec [dk, .int (k - 1)] = some (.ok d [dk']) ∧ Gw g n d ∧ Dk (m + b) dk') {m : Int} {dk : DL.D} (hd : Dk m dk) (hm : m < M - 3 * b - 10) :
    ∃ d dk', runM [.io, .val] false 5 (S_law_any Frec) [dk, .int k] = some (.ok d [dk']) ∧ Gw (g + 1) (3 * (n + 2)) d ∧ Dk (m + (3 * b + 3)) dk' := by
  obtain ⟨r, dk1, e1, r0, r1, hd1⟩ := draw_ok (n := 3) hd
  obtain ⟨q, hq⟩ : ∃ q : DL.D, PyData.int (10 ^ 39) = q := ⟨_, rfl⟩
  have p := p39
  have k0 : ¬ k = 0 := by omega
  rw [hq] at p
  by_cases h : r = 0
  · obtain ⟨x, dk2, e2, hx, hd2⟩ := one_ok (xs := consts) hd1 (by omega) (by unfold consts; simp) (by unfold consts; simp)
    refine ⟨x, dk2, ?_, (consts_gw hx).le (Nat.zero_le _) (by omega), hd2.le (by omega)⟩
    unfold consts at e2
    rw [hq] at e2
    simp only [S_law_any, runM, ss_, p, c_plan, c_ds, c_0, k0, e1, h, e2]
  · obtain ⟨s, dk2, e2, s0, s1, hd2⟩ := draw_ok (n := 4) hd1
    have rg : rng1 [.int s] = some ((rgI s).map .int) := rng_n (by omega)
    have rf : ((rgI s).length ≤ sizeLine) = True := eq_true (by rw [rgI_len, size_eq]; omega)
    obtain ⟨C, hC⟩ : ∃ C : DL.D, .list [.none, .bool true, .bool false, .int 0, .int 1, .int (-1), .int 2, .int 7, q, ts [], ts [78], ts [112, 108, 97, 110], ts [46, 47], ts [48]] = C := ⟨_, rfl⟩
    have sb : (s : Int) * b ≤ 3 * b := Int.mul_le_mul_of_nonneg_right (by omega) b0
    obtain ⟨ds, dk3, ln, gs, e3, hd3⟩ := lc_vals (P := Gw g n) (e := mCall Frec [0] [(mNm 0), (mEx (lf (pBin dSub (pNm 1) (pC (.int 1)))))]) (k := 4) (b := b) (Mx := M) b0 (fun dk => [some dk, some (.int k), some C, none, none]) (fun _ _ => rfl) (fun m dk x hd hm => by
      obtain ⟨d, dk', e, gd, hd'⟩ := rec m dk hd hm
      exact ⟨d, dk', by simp only [ss_, e], gd, hd'⟩) (rgI s) (m + 1 + 1) dk2 hd2 (by rw [rgI_len, Int.toNat_of_nonneg s0]; omega)
    rw [rgI_len] at ln hd3
    rw [Int.toNat_of_nonneg s0] at hd3
    obtain ⟨dd, e4, nd⟩ := dict_any (ds := ds) (by omega) gs (z0 := some dk3) (z1 := some (.int k)) (z2 := some C)
    obtain ⟨x, dk4, e5, hx, hd4⟩ := one_ok (xs := [.tuple ds, .tuple ds, .list ds, dd]) hd3
    refine ⟨x, dk4, ?_, ?_, hd4.le (by omega)⟩
    · have tp : dTuple [.list ds] = some (.tuple ds) := rfl
      obtain ⟨G, hG⟩ : ∃ G, (pApp dDictP [(pLc (iApp rng1 [(pApp dLen [(pNm 3)])]) (.nm 4) tYes (pTup [(pNm 4), (pBin dAt (pNm 3) (pNm 4))]) [4])]) = G := ⟨_, rfl⟩
      rw [hG] at e4
      unfold S_law_any
      rw [hG]
      simp only [runM, ss_, p, c_plan, c_ds, c_0, k0, e1, h, hC, e2, rg, rf, e3, tp, e4, e5]
    · simp only [List.mem_cons, List.not_mem_nil, or_false] at hx
      have lb : ds.length * (n + 1) ≤ 3 * (n + 2) := Nat.mul_le_mul (by omega) (by omega)
      rcases hx with rfl | rfl | rfl | rfl
      · exact Gw.tuple gs lb
      · exact Gw.tuple gs lb
      · exact Gw.list gs lb
      · exact nd
theorem any2_ok {m : Int} {dk : DL.D} (hd : Dk m dk) (hm : m < 1073740000) : ∃ d dk', F_law_any 3 [dk, .int 2] = some (.ok d [dk']) ∧ Gw 2 114 d ∧ Dk (m + 100) dk' := by
  obtain ⟨d, dk', e, a, h⟩ := any_step (Frec := F_law_any 2) (g := 1) (n := 36) (by decide) (b := 6) (M := 1073740900) (k := 2) (by decide) (by decide) (by decide) (fun m dk hd hm => any_step (Frec := F_law_any 1) (g := 0) (n := 10) (by decide) (b := 1) (M := 1073741000) (k := 1) (by decide) (by decide) (by decide) (fun m dk hd hm => any_zero (Frec := F_law_any 0) hd hm) hd (by omega)) hd (by omega)
  exact ⟨d, dk', e, a, h.le (by omega)⟩
end FL
namespace L32
open PySem PySem.Spec L2 DL FL
noncomputable section
def S_law_sorts (LC : Str → Addr) : FS :=
  (fSeq (fSet 1 (lf (pLst [(pUn (dXis LC ["NotOne", "TooMany", "NoTrim", "NoPaper", "NotEven", "NoRing", "BadExchange", "BadPlan", "BadText", "NoEdge", "BadSheet", "BadTear", "NoBar", "BadBars", "BadTwine", "Full", "NothingDone", "NothingUndone", "NoListener"] fun n => subX n "NotOne") (pNm 0)), (pUn (dXis LC ["NotOne", "TooMany", "NoTrim", "NoPaper", "NotEven", "NoRing", "BadExchange", "BadPlan", "BadText", "NoEdge", "BadSheet", "BadTear", "NoBar", "BadBars", "BadTwine", "Full", "NothingDone", "NothingUndone", "NoListener"] fun n => subX n "TooMany") (pNm 0)), (pUn (dXis LC ["NotOne", "TooMany", "NoTrim", "NoPaper", "NotEven", "NoRing", "BadExchange", "BadPlan", "BadText", "NoEdge", "BadSheet", "BadTear", "NoBar", "BadBars", "BadTwine", "Full", "NothingDone", "NothingUndone", "NoListener"] fun n => subX n "NoTrim") (pNm 0)), (pUn (dXis LC ["NotOne", "TooMany", "NoTrim", "NoPaper", "NotEven", "NoRing", "BadExchange", "BadPlan", "BadText", "NoEdge", "BadSheet", "BadTear", "NoBar", "BadBars", "BadTwine", "Full", "NothingDone", "NothingUndone", "NoListener"] fun n => subX n "NoPaper") (pNm 0))])))
  (fSeq (fSet 1 (lf (pBin dCat (pNm 1) (pLst [(pUn (dXis LC ["NotOne", "TooMany", "NoTrim", "NoPaper", "NotEven", "NoRing", "BadExchange", "BadPlan", "BadText", "NoEdge", "BadSheet", "BadTear", "NoBar", "BadBars", "BadTwine", "Full", "NothingDone", "NothingUndone", "NoListener"] fun n => subX n "NotEven") (pNm 0)), (pUn (dXis LC ["NotOne", "TooMany", "NoTrim", "NoPaper", "NotEven", "NoRing", "BadExchange", "BadPlan", "BadText", "NoEdge", "BadSheet", "BadTear", "NoBar", "BadBars", "BadTwine", "Full", "NothingDone", "NothingUndone", "NoListener"] fun n => subX n "NoRing") (pNm 0)), (pUn (dXis LC ["NotOne", "TooMany", "NoTrim", "NoPaper", "NotEven", "NoRing", "BadExchange", "BadPlan", "BadText", "NoEdge", "BadSheet", "BadTear", "NoBar", "BadBars", "BadTwine", "Full", "NothingDone", "NothingUndone", "NoListener"] fun n => subX n "BadExchange") (pNm 0)), (pUn (dXis LC ["NotOne", "TooMany", "NoTrim", "NoPaper", "NotEven", "NoRing", "BadExchange", "BadPlan", "BadText", "NoEdge", "BadSheet", "BadTear", "NoBar", "BadBars", "BadTwine", "Full", "NothingDone", "NothingUndone", "NoListener"] fun n => subX n "NoEdge") (pNm 0))]))))
  (fSeq (fSet 1 (lf (pBin dCat (pNm 1) (pLst [(pUn (dXis LC ["NotOne", "TooMany", "NoTrim", "NoPaper", "NotEven", "NoRing", "BadExchange", "BadPlan", "BadText", "NoEdge", "BadSheet", "BadTear", "NoBar", "BadBars", "BadTwine", "Full", "NothingDone", "NothingUndone", "NoListener"] fun n => subX n "BadSheet") (pNm 0)), (pUn (dXis LC ["NotOne", "TooMany", "NoTrim", "NoPaper", "NotEven", "NoRing", "BadExchange", "BadPlan", "BadText", "NoEdge", "BadSheet", "BadTear", "NoBar", "BadBars", "BadTwine", "Full", "NothingDone", "NothingUndone", "NoListener"] fun n => subX n "BadTear") (pNm 0)), (pUn (dXis LC ["NotOne", "TooMany", "NoTrim", "NoPaper", "NotEven", "NoRing", "BadExchange", "BadPlan", "BadText", "NoEdge", "BadSheet", "BadTear", "NoBar", "BadBars", "BadTwine", "Full", "NothingDone", "NothingUndone", "NoListener"] fun n => subX n "NoBar") (pNm 0)), (pUn (dXis LC ["NotOne", "TooMany", "NoTrim", "NoPaper", "NotEven", "NoRing", "BadExchange", "BadPlan", "BadText", "NoEdge", "BadSheet", "BadTear", "NoBar", "BadBars", "BadTwine", "Full", "NothingDone", "NothingUndone", "NoListener"] fun n => subX n "BadBars") (pNm 0))]))))
  (fSeq (fSet 1 (lf (pBin dCat (pNm 1) (pLst [(pUn (dXis LC ["NotOne", "TooMany", "NoTrim", "NoPaper", "NotEven", "NoRing", "BadExchange", "BadPlan", "BadText", "NoEdge", "BadSheet", "BadTear", "NoBar", "BadBars", "BadTwine", "Full", "NothingDone", "NothingUndone", "NoListener"] fun n => subX n "BadTwine") (pNm 0)), (pUn (dXis LC ["NotOne", "TooMany", "NoTrim", "NoPaper", "NotEven", "NoRing", "BadExchange", "BadPlan", "BadText", "NoEdge", "BadSheet", "BadTear", "NoBar", "BadBars", "BadTwine", "Full", "NothingDone", "NothingUndone", "NoListener"] fun n => subX n "BadPlan") (pNm 0)), (pUn (dXis LC ["NotOne", "TooMany", "NoTrim", "NoPaper", "NotEven", "NoRing", "BadExchange", "BadPlan", "BadText", "NoEdge", "BadSheet", "BadTear", "NoBar", "BadBars", "BadTwine", "Full", "NothingDone", "NothingUndone", "NoListener"] fun n => subX n "Full") (pNm 0)), (pUn (dXis LC ["NotOne", "TooMany", "NoTrim", "NoPaper", "NotEven", "NoRing", "BadExchange", "BadPlan", "BadText", "NoEdge", "BadSheet", "BadTear", "NoBar", "BadBars", "BadTwine", "Full", "NothingDone", "NothingUndone", "NoListener"] fun n => subX n "NothingDone") (pNm 0))]))))
  (fRet (lf (pBin dCat (pNm 1) (pLst [(pUn (dXis LC ["NotOne", "TooMany", "NoTrim", "NoPaper", "NotEven", "NoRing", "BadExchange", "BadPlan", "BadText", "NoEdge", "BadSheet", "BadTear", "NoBar", "BadBars", "BadTwine", "Full", "NothingDone", "NothingUndone", "NoListener"] fun n => subX n "NothingUndone") (pNm 0)), (pUn (dXis LC ["NotOne", "TooMany", "NoTrim", "NoPaper", "NotEven", "NoRing", "BadExchange", "BadPlan", "BadText", "NoEdge", "BadSheet", "BadTear", "NoBar", "BadBars", "BadTwine", "Full", "NothingDone", "NothingUndone", "NoListener"] fun n => subX n "NoListener") (pNm 0)), (pUn (dXis LC ["NotOne", "TooMany", "NoTrim", "NoPaper", "NotEven", "NoRing", "BadExchange", "BadPlan", "BadText", "NoEdge", "BadSheet", "BadTear", "NoBar", "BadBars", "BadTwine", "Full", "NothingDone", "NothingUndone", "NoListener"] fun n => subX n "BadText") (pNm 0))]))))))))
def F_law_sorts (LC : Str → Addr) : FD := runP [.val] false 2 (S_law_sorts LC)
def B_law_1 (LC : Str → Addr) : FS :=
  (fEnd [0, 2, 6, 8, 9, 10, 11] (fSeq (fIf (lf (tP (pBin dNe (pCall (F_law_sorts LC) [(pBin dAt (pNm 5) (pNm 6))]) (pLc (iApp rng1 [(pC (.int 19))]) (.nm 7) tYes (pBin dEq (pNm 7) (pNm 6)) [7])))) (fRet (lf (pC (.bool false)))) fNil)
  (fIf (lf (tOr (tNot (tP (pUn (dXis LC ["NotOne", "TooMany", "NoTrim", "NoPaper", "NotEven", "NoRing", "BadExchange", "BadPlan", "BadText", "NoEdge", "BadSheet", "BadTear", "NoBar", "BadBars", "BadTwine", "Full", "NothingDone", "NothingUndone", "NoListener"] fun n => subX n "NetError") (pBin dAt (pNm 5) (pNm 6))))) (tNot (tP (pUn (dXis LC ["NotOne", "TooMany", "NoTrim", "NoPaper", "NotEven", "NoRing", "BadExchange", "BadPlan", "BadText", "NoEdge", "BadSheet", "BadTear", "NoBar", "BadBars", "BadTwine", "Full", "NothingDone", "NothingUndone", "NoListener"] fun _ => true) (pBin dAt (pNm 5) (pNm 6))))))) (fRet (lf (pC (.bool false)))) fNil)))
def B_law_2 (LC : Str → Addr) : FS :=
  (fEnd [0, 2, 5, 6, 8, 9, 11] (fDo (mMut 10 fAppend [(lf (pLst [(pUn (dXf LC ["NotOne", "TooMany", "NoTrim", "NoPaper", "NotEven", "NoRing", "BadExchange", "BadPlan", "BadText", "NoEdge", "BadSheet", "BadTear", "NoBar", "BadBars", "BadTwine", "Full", "NothingDone", "NothingUndone", "NoListener"] "word") (pNm 11)), (pUn (dXf LC ["NotOne", "TooMany", "NoTrim", "NoPaper", "NotEven", "NoRing", "BadExchange", "BadPlan", "BadText", "NoEdge", "BadSheet", "BadTear", "NoBar", "BadBars", "BadTwine", "Full", "NothingDone", "NothingUndone", "NoListener"] "number") (pNm 11))]))])))
def B_law_3 (LC : Str → Addr) : FS :=
  (fEnd [0, 2, 5, 6, 8, 9, 11] (fDo (mMut 10 fAppend [(lf (pLst [(pUn (dXf LC ["NotOne", "TooMany", "NoTrim", "NoPaper", "NotEven", "NoRing", "BadExchange", "BadPlan", "BadText", "NoEdge", "BadSheet", "BadTear", "NoBar", "BadBars", "BadTwine", "Full", "NothingDone", "NothingUndone", "NoListener"] "number") (pNm 11)), (pUn (dXf LC ["NotOne", "TooMany", "NoTrim", "NoPaper", "NotEven", "NoRing", "BadExchange", "BadPlan", "BadText", "NoEdge", "BadSheet", "BadTear", "NoBar", "BadBars", "BadTwine", "Full", "NothingDone", "NothingUndone", "NoListener"] "word") (pNm 11))]))])))
def B_law_4 (LC : Str → Addr) : FS :=
  (fEnd [0, 2, 5, 6, 8, 9, 11] (fDo (mMut 10 fAppend [(lf (pLst [(pUn (dXf LC ["NotOne", "TooMany", "NoTrim", "NoPaper", "NotEven", "NoRing", "BadExchange", "BadPlan", "BadText", "NoEdge", "BadSheet", "BadTear", "NoBar", "BadBars", "BadTwine", "Full", "NothingDone", "NothingUndone", "NoListener"] "line") (pNm 11)), (pUn (dXf LC ["NotOne", "TooMany", "NoTrim", "NoPaper", "NotEven", "NoRing", "BadExchange", "BadPlan", "BadText", "NoEdge", "BadSheet", "BadTear", "NoBar", "BadBars", "BadTwine", "Full", "NothingDone", "NothingUndone", "NoListener"] "sign") (pNm 11))]))])))
def B_law_5 (LC : Str → Addr) : FS :=
  (fEnd [0, 2, 3, 4, 5, 6, 8, 9, 10, 11] (fSeq (fPar [3, 4] [(mCall (F_law_any 3) [1] [(mNm 1), (mEx (lf (pC (.int 2))))]), (mCall (F_law_any 3) [1] [(mNm 1), (mEx (lf (pC (.int 2))))])])
  (fSeq (fSet 5 (lf (pLst [(pApp (dMkX LC "NotOne" ["number"]) [(pNm 3)]), (pApp (dMkX LC "TooMany" ["number"]) [(pNm 3)]), (pApp (dMkX LC "NoTrim" ["lot"]) [(pNm 3)]), (pApp (dMkX LC "NoPaper" ["word", "number"]) [(pNm 3), (pNm 4)]), (pApp (dMkX LC "NotEven" ["knot"]) [(pNm 3)]), (pApp (dMkX LC "NoRing" ["value"]) [(pNm 3)]), (pApp (dMkX LC "BadExchange" ["number"]) [(pNm 3)])])))
  (fSeq (fSet 5 (lf (pBin dCat (pNm 5) (pLst [(pApp (dMkX LC "NoEdge" []) []), (pApp (dMkX LC "BadSheet" ["word"]) [(pNm 3)]), (pApp (dMkX LC "BadTear" ["number"]) [(pNm 3)]), (pApp (dMkX LC "NoBar" ["bar"]) [(pNm 3)]), (pApp (dMkX LC "BadBars" ["number"]) [(pNm 3)]), (pApp (dMkX LC "BadTwine" ["word"]) [(pNm 3)]), (pApp (dMkX LC "BadPlan" ["number", "word"]) [(pNm 3), (pNm 4)])]))))
  (fSeq (fSet 5 (lf (pBin dCat (pNm 5) (pLst [(pApp (dMkX LC "Full" []) []), (pApp (dMkX LC "NothingDone" []) []), (pApp (dMkX LC "NothingUndone" []) []), (pApp (dMkX LC "NoListener" ["number"]) [(pNm 3)]), (pApp (dMkX LC "BadText" ["line", "sign"]) [(pNm 3), (pNm 4)])]))))
  (fKill [0, 2, 6, 8, 9, 10, 11] (fSeq (fFor (lf (iApp rng1 [(pApp dLen [(pNm 5)])])) (.nm 6) (B_law_1 LC))
  (fSeq (fSet 8 (lf (pLst [(pUn (dXf LC ["NotOne", "TooMany", "NoTrim", "NoPaper", "NotEven", "NoRing", "BadExchange", "BadPlan", "BadText", "NoEdge", "BadSheet", "BadTear", "NoBar", "BadBars", "BadTwine", "Full", "NothingDone", "NothingUndone", "NoListener"] "number") (pApp (dMkX LC "NotOne" ["number"]) [(pNm 3)])), (pUn (dXf LC ["NotOne", "TooMany", "NoTrim", "NoPaper", "NotEven", "NoRing", "BadExchange", "BadPlan", "BadText", "NoEdge", "BadSheet", "BadTear", "NoBar", "BadBars", "BadTwine", "Full", "NothingDone", "NothingUndone", "NoListener"] "number") (pApp (dMkX LC "TooMany" ["number"]) [(pNm 3)])), (pUn (dXf LC ["NotOne", "TooMany", "NoTrim", "NoPaper", "NotEven", "NoRing", "BadExchange", "BadPlan", "BadText", "NoEdge", "BadSheet", "BadTear", "NoBar", "BadBars", "BadTwine", "Full", "NothingDone", "NothingUndone", "NoListener"] "lot") (pApp (dMkX LC "NoTrim" ["lot"]) [(pNm 3)])), (pUn (dXf LC ["NotOne", "TooMany", "NoTrim", "NoPaper", "NotEven", "NoRing", "BadExchange", "BadPlan", "BadText", "NoEdge", "BadSheet", "BadTear", "NoBar", "BadBars", "BadTwine", "Full", "NothingDone", "NothingUndone", "NoListener"] "knot") (pApp (dMkX LC "NotEven" ["knot"]) [(pNm 3)]))])))
  (fSeq (fSet 8 (lf (pBin dCat (pNm 8) (pLst [(pUn (dXf LC ["NotOne", "TooMany", "NoTrim", "NoPaper", "NotEven", "NoRing", "BadExchange", "BadPlan", "BadText", "NoEdge", "BadSheet", "BadTear", "NoBar", "BadBars", "BadTwine", "Full", "NothingDone", "NothingUndone", "NoListener"] "value") (pApp (dMkX LC "NoRing" ["value"]) [(pNm 3)])), (pUn (dXf LC ["NotOne", "TooMany", "NoTrim", "NoPaper", "NotEven", "NoRing", "BadExchange", "BadPlan", "BadText", "NoEdge", "BadSheet", "BadTear", "NoBar", "BadBars", "BadTwine", "Full", "NothingDone", "NothingUndone", "NoListener"] "number") (pApp (dMkX LC "BadExchange" ["number"]) [(pNm 3)])), (pUn (dXf LC ["NotOne", "TooMany", "NoTrim", "NoPaper", "NotEven", "NoRing", "BadExchange", "BadPlan", "BadText", "NoEdge", "BadSheet", "BadTear", "NoBar", "BadBars", "BadTwine", "Full", "NothingDone", "NothingUndone", "NoListener"] "word") (pApp (dMkX LC "BadSheet" ["word"]) [(pNm 3)]))]))))
  (fSeq (fSet 8 (lf (pBin dCat (pNm 8) (pLst [(pUn (dXf LC ["NotOne", "TooMany", "NoTrim", "NoPaper", "NotEven", "NoRing", "BadExchange", "BadPlan", "BadText", "NoEdge", "BadSheet", "BadTear", "NoBar", "BadBars", "BadTwine", "Full", "NothingDone", "NothingUndone", "NoListener"] "number") (pApp (dMkX LC "BadTear" ["number"]) [(pNm 3)])), (pUn (dXf LC ["NotOne", "TooMany", "NoTrim", "NoPaper", "NotEven", "NoRing", "BadExchange", "BadPlan", "BadText", "NoEdge", "BadSheet", "BadTear", "NoBar", "BadBars", "BadTwine", "Full", "NothingDone", "NothingUndone", "NoListener"] "bar") (pApp (dMkX LC "NoBar" ["bar"]) [(pNm 3)])), (pUn (dXf LC ["NotOne", "TooMany", "NoTrim", "NoPaper", "NotEven", "NoRing", "BadExchange", "BadPlan", "BadText", "NoEdge", "BadSheet", "BadTear", "NoBar", "BadBars", "BadTwine", "Full", "NothingDone", "NothingUndone", "NoListener"] "number") (pApp (dMkX LC "BadBars" ["number"]) [(pNm 3)]))]))))
  (fSeq (fSet 8 (lf (pBin dCat (pNm 8) (pLst [(pUn (dXf LC ["NotOne", "TooMany", "NoTrim", "NoPaper", "NotEven", "NoRing", "BadExchange", "BadPlan", "BadText", "NoEdge", "BadSheet", "BadTear", "NoBar", "BadBars", "BadTwine", "Full", "NothingDone", "NothingUndone", "NoListener"] "word") (pApp (dMkX LC "BadTwine" ["word"]) [(pNm 3)])), (pUn (dXf LC ["NotOne", "TooMany", "NoTrim", "NoPaper", "NotEven", "NoRing", "BadExchange", "BadPlan", "BadText", "NoEdge", "BadSheet", "BadTear", "NoBar", "BadBars", "BadTwine", "Full", "NothingDone", "NothingUndone", "NoListener"] "number") (pApp (dMkX LC "NoListener" ["number"]) [(pNm 3)]))]))))
  (fSeq (fSet 9 (lf (pLst [(pUn (dXf LC ["NotOne", "TooMany", "NoTrim", "NoPaper", "NotEven", "NoRing", "BadExchange", "BadPlan", "BadText", "NoEdge", "BadSheet", "BadTear", "NoBar", "BadBars", "BadTwine", "Full", "NothingDone", "NothingUndone", "NoListener"] "number") (pBin dAt (pNm 5) (pC (.int 0)))), (pUn (dXf LC ["NotOne", "TooMany", "NoTrim", "NoPaper", "NotEven", "NoRing", "BadExchange", "BadPlan", "BadText", "NoEdge", "BadSheet", "BadTear", "NoBar", "BadBars", "BadTwine", "Full", "NothingDone", "NothingUndone", "NoListener"] "number") (pBin dAt (pNm 5) (pC (.int 1)))), (pUn (dXf LC ["NotOne", "TooMany", "NoTrim", "NoPaper", "NotEven", "NoRing", "BadExchange", "BadPlan", "BadText", "NoEdge", "BadSheet", "BadTear", "NoBar", "BadBars", "BadTwine", "Full", "NothingDone", "NothingUndone", "NoListener"] "lot") (pBin dAt (pNm 5) (pC (.int 2)))), (pUn (dXf LC ["NotOne", "TooMany", "NoTrim", "NoPaper", "NotEven", "NoRing", "BadExchange", "BadPlan", "BadText", "NoEdge", "BadSheet", "BadTear", "NoBar", "BadBars", "BadTwine", "Full", "NothingDone", "NothingUndone", "NoListener"] "knot") (pBin dAt (pNm 5) (pC (.int 4)))), (pUn (dXf LC ["NotOne", "TooMany", "NoTrim", "NoPaper", "NotEven", "NoRing", "BadExchange", "BadPlan", "BadText", "NoEdge", "BadSheet", "BadTear", "NoBar", "BadBars", "BadTwine", "Full", "NothingDone", "NothingUndone", "NoListener"] "value") (pBin dAt (pNm 5) (pC (.int 5)))), (pUn (dXf LC ["NotOne", "TooMany", "NoTrim", "NoPaper", "NotEven", "NoRing", "BadExchange", "BadPlan", "BadText", "NoEdge", "BadSheet", "BadTear", "NoBar", "BadBars", "BadTwine", "Full", "NothingDone", "NothingUndone", "NoListener"] "number") (pBin dAt (pNm 5) (pC (.int 6))))])))
  (fSeq (fSet 9 (lf (pBin dCat (pNm 9) (pLst [(pUn (dXf LC ["NotOne", "TooMany", "NoTrim", "NoPaper", "NotEven", "NoRing", "BadExchange", "BadPlan", "BadText", "NoEdge", "BadSheet", "BadTear", "NoBar", "BadBars", "BadTwine", "Full", "NothingDone", "NothingUndone", "NoListener"] "word") (pBin dAt (pNm 5) (pC (.int 8)))), (pUn (dXf LC ["NotOne", "TooMany", "NoTrim", "NoPaper", "NotEven", "NoRing", "BadExchange", "BadPlan", "BadText", "NoEdge", "BadSheet", "BadTear", "NoBar", "BadBars", "BadTwine", "Full", "NothingDone", "NothingUndone", "NoListener"] "number") (pBin dAt (pNm 5) (pC (.int 9)))), (pUn (dXf LC ["NotOne", "TooMany", "NoTrim", "NoPaper", "NotEven", "NoRing", "BadExchange", "BadPlan", "BadText", "NoEdge", "BadSheet", "BadTear", "NoBar", "BadBars", "BadTwine", "Full", "NothingDone", "NothingUndone", "NoListener"] "bar") (pBin dAt (pNm 5) (pC (.int 10)))), (pUn (dXf LC ["NotOne", "TooMany", "NoTrim", "NoPaper", "NotEven", "NoRing", "BadExchange", "BadPlan", "BadText", "NoEdge", "BadSheet", "BadTear", "NoBar", "BadBars", "BadTwine", "Full", "NothingDone", "NothingUndone", "NoListener"] "number") (pBin dAt (pNm 5) (pC (.int 11))))]))))
  (fSeq (fSet 9 (lf (pBin dCat (pNm 9) (pLst [(pUn (dXf LC ["NotOne", "TooMany", "NoTrim", "NoPaper", "NotEven", "NoRing", "BadExchange", "BadPlan", "BadText", "NoEdge", "BadSheet", "BadTear", "NoBar", "BadBars", "BadTwine", "Full", "NothingDone", "NothingUndone", "NoListener"] "word") (pBin dAt (pNm 5) (pC (.int 12)))), (pUn (dXf LC ["NotOne", "TooMany", "NoTrim", "NoPaper", "NotEven", "NoRing", "BadExchange", "BadPlan", "BadText", "NoEdge", "BadSheet", "BadTear", "NoBar", "BadBars", "BadTwine", "Full", "NothingDone", "NothingUndone", "NoListener"] "number") (pBin dAt (pNm 5) (pC (.int 17))))]))))
  (fSeq (fIf (lf (tP (pBin dNe (pApp dReprX [(pBin dAdd (pNm 8) (pNm 9))]) (pApp dReprX [(pBin dRep (pLst [(pNm 3)]) (pC (.int 24)))])))) (fRet (lf (pC (.bool false)))) fNil)
  (fSeq (fSet 10 (lf (pLst [])))
  (fKill [0, 2, 5, 6, 8, 9, 11] (fSeq (fFor (lf (iSeq (pLst [(pApp (dMkX LC "NoPaper" ["word", "number"]) [(pNm 3), (pNm 4)]), (pApp (dMkX LC "NoPaper" ["number", "word"]) [(pNm 4), (pNm 3)])]))) (.nm 11) (B_law_2 LC))
  (fKill [0, 2, 5, 6, 8, 9, 11] (fSeq (fFor (lf (iSeq (pLst [(pApp (dMkX LC "BadPlan" ["number", "word"]) [(pNm 3), (pNm 4)]), (pApp (dMkX LC "BadPlan" ["word", "number"]) [(pNm 4), (pNm 3)])]))) (.nm 11) (B_law_3 LC))
  (fKill [0, 2, 5, 6, 8, 9, 11] (fSeq (fFor (lf (iSeq (pLst [(pApp (dMkX LC "BadText" ["line", "sign"]) [(pNm 3), (pNm 4)]), (pApp (dMkX LC "BadText" ["sign", "line"]) [(pNm 4), (pNm 3)])]))) (.nm 11) (B_law_4 LC))
  (fIf (lf (tP (pBin dNe (pApp dReprX [(pNm 10)]) (pApp dReprX [(pBin dRep (pLst [(pLst [(pNm 3), (pNm 4)])]) (pC (.int 6)))])))) (fRet (lf (pC (.bool false)))) fNil)))))))))))))))))))))))
def S_law (LC : Str → Addr) : FS :=
  (fSeq (fIf (lf (tP (pBin dNe (pLst [(pC (.int 8)), (pC (.int 8)), (pC (.int 200)), (pC (.int 30))]) (pLst [(pC (.int 8)), (pC (.int 8)), (pC (.int 200)), (pC (.int 30))])))) (fRet (lf (pC (.bool false)))) fNil)
  (fKill [0, 2, 3, 4, 5, 6, 8, 9, 10, 11] (fSeq (fFor (lf (iApp rng1 [(pC (.int 4))])) (.nm 2) (B_law_5 LC))
  (fRet (lf (pC (.bool true)))))))
end
end L32
namespace DL
open PySem PySem.Spec L2
abbrev cA (K : PySem.W.Frag) (c : Str) : Addr := He.ga K c
abbrev iA (K : PySem.W.Frag) (c : Str) : Addr := He.ma K (He.ga K c) "__init__"
def isCls (K : PySem.W.Frag) (C : Addr) : Bool := match K.lookup C with
  | some ⟨.type t, _, .cls cd, ⟨[_, _, _, _, some (.builtin n), _]⟩⟩ => decide (t = "type") && (decide (n = "ValueError.__new__") && (cd.hasDict && (!cd.hasDel && (match cd.mro with
    | .ref D :: bm => decide (D = C) && HandSPX.refsVE bm
    | _ => false))))
  | _ => false
theorem isCls_ok {K : PySem.W.Frag} {C : Addr} (h : isCls K C = true) : ∃ nm q N bs bm sn sub ab col dd k0 k1 k2 k3 k5, K.lookup C = some (excClassObj nm q C N bs bm true sn sub ab col dd k0 k1 k2 k3 k5 "ValueError.__new__") ∧ HandSPX.refsVE bm = true := by
  unfold isCls at h
  split at h
  · rename_i t dd cd k0 k1 k2 k3 n k5 hl
    simp only [Bool.and_eq_true, decide_eq_true_eq, Bool.not_eq_true'] at h
    obtain ⟨rfl, rfl, h1, h2, h3⟩ := h
    obtain ⟨nm, bs, mro, ns, qn, hd, sn, sub, ab, col, del⟩ := cd
    dsimp only at h1 h2 h3
    subst h1 h2
    split at h3
    · rename_i D bm
      simp only [Bool.and_eq_true, decide_eq_true_eq] at h3
      obtain ⟨rfl, h3⟩ := h3
      exact ⟨nm, qn, ns, bs, bm, sn, sub, ab, col, dd, k0, k1, k2, k3, k5, hl, h3⟩
    · cases h3
  · cases h
def oexB (K : PySem.W.Frag) (C : Addr) : Bool := isCls K C && (decide (PySem.W.findIn K (.ref C) "__setattr__" = some (some (.builtin "object.__setattr__"))) && (decide (PySem.W.subIn K (.ref C) (.type "BaseException") = some true) && (decide (PySem.W.typeIn K (.ref C) = some (.type "type")) && PySem.W.keepIn K (.ref C))))
theorem oexB_ok {K : PySem.W.Frag} {C : Addr} (h : oexB K C = true) : OexC K C := by
  unfold oexB at h
  simp only [Bool.and_eq_true, decide_eq_true_eq] at h
  exact ⟨isCls_ok h.1, h.2.1, h.2.2.1, h.2.2.2.1, h.2.2.2.2⟩
def exfB (K : PySem.W.Frag) (C : Addr) : Bool := (PySem.W.clsIn K C).isSome && (decide (PySem.W.findIn K (.ref C) "__getattribute__" = some (some (.builtin "BaseException.__getattribute__"))) && (decide (PySem.W.findIn K (.ref C) "__getattr__" = some none) && (decide (PySem.W.subIn K (.ref C) (.type "BaseException") = some true) &&
  (decide (PySem.W.findIn K (.ref C) "__class__" = some (some (.builtin "object.__class__"))) && (decide (PySem.W.specialIn K (.builtin "object.__class__") "__get__" = some (some (.builtin "getset_descriptor.__get__"))) && (decide (PySem.W.takesIn K (.builtin "object.__class__") = some true) && (decide (PySem.W.mroIn K C (.type "object") = some true) &&
  (PySem.W.hasDictIn K C && decide (PySem.W.kitOne K (.ref C) (.type "ValueError") = some true)))))))))
theorem exfB_ok {K : PySem.W.Frag} {C : Addr} (h : exfB K C = true) : ExcF K C := by
  unfold exfB at h
  simp only [Bool.and_eq_true, decide_eq_true_eq] at h
  obtain ⟨h1, h2, h3, h4, h5, h6, h7, h8, h9, h10⟩ := h
  exact ⟨h1, h2, h3, h4, h5, h6, h7, h8, h9, h10⟩
def baseB (K : PySem.W.Frag) (B : Addr) : Bool := decide (PySem.W.specialIn K (.ref B) "__getattribute__" = some (some (.builtin "type.__getattribute__"))) && (PySem.W.readsIn K B (.type "type") && (match PySem.W.findCls K (.ref B) (.type "type") "__init__" with
  | some (.val (.builtin n)) => decide (n = "ValueError.__init__")
  | _ => false))
theorem baseB_ok {K : PySem.W.Frag} {B : Addr} (h : baseB K B = true) : BaseF K B := by
  unfold baseB at h
  simp only [Bool.and_eq_true, decide_eq_true_eq] at h
  obtain ⟨h1, h2, h3⟩ := h
  refine ⟨h1, h2, ?_⟩
  split at h3
  · rename_i n e
    rw [e, of_decide_eq_true h3]
  · cases h3
/-- a class that is raised: its fields' names are no attributes -/
def clsB (K : PySem.W.Frag) (fs : List Str) (c : Str) : Bool := oexB K (cA K c) && (exfB K (cA K c) && (fs.all (fun f => decide (PySem.W.findIn K (.ref (cA K c)) f = some none)) && (decide (PySem.W.findIn K (.ref (cA K c)) "__init__" = some (some (.ref (iA K c)))) && decide (PySem.W.typeIn K (.ref (iA K c)) = some (.type "function")))))
structure ClsOk (K : PySem.W.Frag) (fs : List Str) (c : Str) : Prop where
  o : OexC K (cA K c)
  f : ExcF K (cA K c)
  n : ∀ f ∈ fs, PySem.W.findIn K (.ref (cA K c)) f = some none
  i : PySem.W.findIn K (.ref (cA K c)) "__init__" = some (some (.ref (iA K c)))
  t : PySem.W.typeIn K (.ref (iA K c)) = some (.type "function")
theorem clsB_ok {K : PySem.W.Frag} {fs : List Str} {c : Str} (h : clsB K fs c = true) : ClsOk K fs c := by
  unfold clsB at h
  simp only [Bool.and_eq_true, decide_eq_true_eq, List.all_eq_true] at h
  exact ⟨oexB_ok h.1, exfB_ok h.2.1, h.2.2.1, h.2.2.2.1, h.2.2.2.2⟩
def pairB (K : PySem.W.Frag) (cs hs : List Str) : Bool := cs.all fun c => hs.all fun h => decide (PySem.W.exmOne K (.ref (cA K c)) (.ref (cA K h)) = some (subX c h)) && decide (PySem.W.kitOne K (.ref (cA K c)) (.ref (cA K h)) = some (subX c h))
def excB (cs hs fs : List Str) (B : Str) (K : PySem.W.Frag) : Bool := baseB K (cA K B) && (cs.all (clsB K fs) && pairB K cs hs)
structure ExcOk (K : PySem.W.Frag) (cs hs fs : List Str) (B : Str) : Prop where
  b : BaseF K (cA K B)
  c : ∀ c ∈ cs, ClsOk K fs c
  p : ∀ c ∈ cs, ∀ h ∈ hs, PySem.W.exmOne K (.ref (cA K c)) (.ref (cA K h)) = some (subX c h) ∧ PySem.W.kitOne K (.ref (cA K c)) (.ref (cA K h)) = some (subX c h)
theorem excB_ok {K : PySem.W.Frag} {cs hs fs : List Str} {B : Str} (h : excB cs hs fs B K = true) : ExcOk K cs hs fs B := by
  unfold excB pairB at h
  simp only [Bool.and_eq_true, List.all_eq_true, decide_eq_true_eq] at h
  exact ⟨baseB_ok h.1, fun c hc => clsB_ok (h.2.1 c hc), h.2.2⟩
theorem ExcOk.sub {K : PySem.W.Frag} {mg : Str → Option Value} {cs hs fs : List Str} {B : Str} (E : ExcOk K cs hs fs B) (g : ∀ c ∈ cs ++ hs, mg c = some (.ref (cA K c))) : SubOk K mg cs hs fs :=
  ⟨fun c hc => ⟨_, g c (List.mem_append_left _ hc), (E.c c hc).f, (E.c c hc).n⟩, fun h hh => ⟨_, g h (List.mem_append_right _ hh)⟩, fun c hc h hh C D mC mD => by
    rw [g c (List.mem_append_left _ hc)] at mC
    rw [g h (List.mem_append_right _ hh)] at mD
    cases mC
    cases mD
    exact E.p c hc h hh⟩
abbrev AlY : Type := He.AlD × Bool
/-- what is looked at: what hangs on the module, and the interpreter's own table -/
def kY (n : Nat) (g : Addr → Option Obj) : PySem.W.Frag := He.frG g (He.asD g n ++ [cStatics, sysModules])
def obsY (n : Nat) (fa : List He.Fa) (fn : List He.DefD) (ex : PySem.W.Frag → Bool) (g : Addr → Option Obj) : AlY := (He.obsD fa fn (kY n g), ex (kY n g))
structure SaysY (fa : List He.Fa) (fn : List He.DefD) (ex : PySem.W.Frag → Bool) (K : PySem.W.Frag) : Prop where
  d : He.SaysD fa fn K
  x : ex K = true
def hookY (n : Nat) (fa : List He.Fa) (fn : List He.DefD) (ex : PySem.W.Frag → Bool) : PySem.W.Hook where
  α := AlY
  obs := fun s => obsY n fa fn ex s.heap.get?
  val := fun _ => (He.valD fn, true)
  says := fun _ h => ∃ K : PySem.W.Frag, K.In h ∧ SaysY fa fn ex K
  of := fun _ _ e => ⟨_, He.frG_in, ⟨congrArg (fun z : AlY => z.1) e, congrArg (fun z : AlY => z.2) e⟩⟩
  keeps := fun _ _ _ ⟨K, hK, c⟩ k => ⟨K, PySem.W.Frag.In.keeps hK k, c⟩
theorem obsY_eq {n : Nat} {fa : List He.Fa} {fn : List He.DefD} {ex : PySem.W.Frag → Bool} {g : Addr → Option Obj} {s : Shared} (h : ∀ a, g a = s.heap.get? a) : obsY n fa fn ex g = (hookY n fa fn ex).obs s := by
  have e : g = s.heap.get? := funext h
  rw [e] <;> rfl
end DL
namespace L32
open PySem PySem.Spec L2 DL FL
def top (i : Nat) : Stmt := PySem.Challenge.pw_meshmend_k32_errors_and_bounds.main.body.getD i (.Pass ⟨0, 0, 0, 0⟩)
structure Tx (mg : Str → Option Value) : Prop where
  ValueError : mg "ValueError" = none
  abs : mg "abs" = none
  dict : mg "dict" = none
  int : mg "int" = none
  isinstance : mg "isinstance" = none
  len : mg "len" = none
  list : mg "list" = none
  range : mg "range" = none
  repr : mg "repr" = none
  tuple : mg "tuple" = none
  c_MAX_DEEDS : ∃ t, mg "MAX_DEEDS" = some (.int 30 t)
  c_MAX_EDGE : ∃ t, mg "MAX_EDGE" = some (.int 200 t)
  c_MAX_SIDE : ∃ t, mg "MAX_SIDE" = some (.int 8 t)
  c_MAX_WRONG : ∃ t, mg "MAX_WRONG" = some (.int 8 t)
abbrev s_law_draw : Stmt := top 27
abbrev ps_law_draw : List Str := ["_law_deck_here", "_law_many"]
abbrev N_law_draw : List Str := ["_law_deck_here", "_law_many", "_law_found", "_law_cell", "_law_mixed"]
theorem sc_law_draw : FnScope N_law_draw ps_law_draw (defScope s_law_draw) := ⟨rfl, rfl, rfl, by decide +kernel, rfl, by decide +kernel, by decide +kernel⟩
abbrev pk_law_draw : List Kd := [.io, .val]
abbrev κ_law_draw : List Kd := [.io, .val, .val, .val, .val]
abbrev fr_law_draw : Bool := false
abbrev s_law_one : Stmt := top 28
abbrev ps_law_one : List Str := ["_law_deck_here", "_law_items"]
abbrev N_law_one : List Str := ["_law_deck_here", "_law_items"]
theorem sc_law_one : FnScope N_law_one ps_law_one (defScope s_law_one) := ⟨rfl, rfl, rfl, by decide +kernel, rfl, by decide +kernel, by decide +kernel⟩
abbrev pk_law_one : List Kd := [.io, .val]
abbrev κ_law_one : List Kd := [.io, .val]
abbrev fr_law_one : Bool := false
abbrev s_law_any : Stmt := top 29
abbrev ps_law_any : List Str := ["_law_deck_here", "_law_deep"]
abbrev N_law_any : List Str := ["_law_deck_here", "_law_deep", "_law_some", "_law_items", "_law_k"]
theorem sc_law_any : FnScope N_law_any ps_law_any (defScope s_law_any) := ⟨rfl, rfl, rfl, by decide +kernel, rfl, by decide +kernel, by decide +kernel⟩
abbrev pk_law_any : List Kd := [.io, .val]
abbrev κ_law_any : List Kd := [.io, .val, .val, .val, .val]
abbrev fr_law_any : Bool := false
abbrev s_law_sorts : Stmt := top 30
abbrev ps_law_sorts : List Str := ["_law_e"]
abbrev N_law_sorts : List Str := ["_law_e", "_law_some"]
theorem sc_law_sorts : FnScope N_law_sorts ps_law_sorts (defScope s_law_sorts) := ⟨rfl, rfl, rfl, by decide +kernel, rfl, by decide +kernel, by decide +kernel⟩
abbrev pk_law_sorts : List Kd := [.val]
abbrev κ_law_sorts : List Kd := [.val, .val]
abbrev fr_law_sorts : Bool := false
abbrev s_law : Stmt := top 31
abbrev ps_law : List Str := ["_law_script"]
abbrev N_law : List Str := ["_law_script", "_law_deck_here", "_law_turn", "_law_a", "_law_b", "_law_every", "_law_k", "_law_j", "_law_named", "_law_told", "_law_pairs", "_law_e"]
theorem sc_law : FnScope N_law ps_law (defScope s_law) := ⟨rfl, rfl, rfl, by decide +kernel, rfl, by decide +kernel, by decide +kernel⟩
abbrev κ_law : List Kd := [.val, .own, .val, .val, .val, .val, .val, .val, .val, .val, .own, .val]
abbrev fr_law : Bool := false
abbrev s_law_deck : Stmt := top 26
abbrev ps_law_deck : List Str := ["_law_script"]
abbrev N_law_deck : List Str := ["_law_script"]
theorem sc_law_deck : FnScope N_law_deck ps_law_deck (defScope s_law_deck) := ⟨rfl, rfl, rfl, by decide +kernel, rfl, by decide +kernel, by decide +kernel⟩
section
variable {P : Program} {w : World} {K : PySem.W.Frag} {mg : Str → Option Value} {base : Heap}
abbrev cs0 : List Str := ["NotOne", "TooMany", "NoTrim", "NoPaper", "NotEven", "NoRing", "BadExchange", "BadPlan", "BadText", "NoEdge", "BadSheet", "BadTear", "NoBar", "BadBars", "BadTwine", "Full", "NothingDone", "NothingUndone", "NoListener"]
abbrev hs0 : List Str := ["NotOne", "TooMany", "NoTrim", "NoPaper", "NotEven", "NoRing", "BadExchange", "NoEdge", "BadSheet", "BadTear", "NoBar", "BadBars", "BadTwine", "BadPlan", "Full", "NothingDone", "NothingUndone", "NoListener", "BadText", "NetError"]
abbrev fs0 : List Str := ["number", "lot", "word", "knot", "value", "line", "sign", "bar"]
structure Xs (P : Program) (w : World) (K : PySem.W.Frag) (mg : Str → Option Value) (base : Heap) : Prop where
  c_NotOne : XCls P w K mg base "NotOne" ["self", "number"] ["number"]
  c_TooMany : XCls P w K mg base "TooMany" ["self", "number"] ["number"]
  c_NoTrim : XCls P w K mg base "NoTrim" ["self", "lot"] ["lot"]
  c_NoPaper : XCls P w K mg base "NoPaper" ["self", "word", "number"] ["word", "number"]
  c_NotEven : XCls P w K mg base "NotEven" ["self", "knot"] ["knot"]
  c_NoRing : XCls P w K mg base "NoRing" ["self", "value"] ["value"]
  c_BadExchange : XCls P w K mg base "BadExchange" ["self", "number"] ["number"]
  c_BadPlan : XCls P w K mg base "BadPlan" ["self", "number", "word"] ["number", "word"]
  c_BadText : XCls P w K mg base "BadText" ["self", "line", "sign"] ["line", "sign"]
  c_NoEdge : XCls P w K mg base "NoEdge" ["self"] []
  c_BadSheet : XCls P w K mg base "BadSheet" ["self", "word"] ["word"]
  c_BadTear : XCls P w K mg base "BadTear" ["self", "number"] ["number"]
  c_NoBar : XCls P w K mg base "NoBar" ["self", "bar"] ["bar"]
  c_BadBars : XCls P w K mg base "BadBars" ["self", "number"] ["number"]
  c_BadTwine : XCls P w K mg base "BadTwine" ["self", "word"] ["word"]
  c_Full : XCls P w K mg base "Full" ["self"] []
  c_NothingDone : XCls P w K mg base "NothingDone" ["self"] []
  c_NothingUndone : XCls P w K mg base "NothingUndone" ["self"] []
  c_NoListener : XCls P w K mg base "NoListener" ["self", "number"] ["number"]
  sub : SubOk K mg cs0 hs0 fs0
abbrev si_NotOne : Stmt := inClass (top 2) 0
theorem sci_NotOne : FnScope ["self", "number"] ["self", "number"] (defScope si_NotOne) := ⟨rfl, rfl, rfl, by decide +kernel, rfl, by decide +kernel, by decide +kernel⟩
theorem ini_NotOne {B0 C f : Addr} {fd : FuncData} (gB : mg "NetError" = some (.ref B0)) (b : BaseF K B0) (T : OexC K C) (nf : ∀ f ∈ fs0, PySem.W.findIn K (.ref C) f = some none) (F : Fun K "__init__" "NotOne.__init__" si_NotOne f fd) : FnOk P w K mg base CX0 1 f fd ["self", "number"] (spI ["number"] C) :=
  F.ok sci_NotOne (fun vs H Q E h => by obtain ⟨a, ws, rfl, hl, _⟩ := h; rw [List.length_cons, hl]; rfl) fun cdv A outer s H vs Q E hr hsp => ⟨_, pss_cons (ps_expr (pe_ownInit (by rfl) gB (by decide) b.ga b.rd b.vV (pa_cons (pv 0) (pa_cons pe_str pa_nil)))) (pss_one (ps_ost (pv 0) (pv 1))), ini1_rd T (nf _ (by decide)) hsp⟩
abbrev si_TooMany : Stmt := inClass (top 3) 0
theorem sci_TooMany : FnScope ["self", "number"] ["self", "number"] (defScope si_TooMany) := ⟨rfl, rfl, rfl, by decide +kernel, rfl, by decide +kernel, by decide +kernel⟩
theorem ini_TooMany {B0 C f : Addr} {fd : FuncData} (gB : mg "NetError" = some (.ref B0)) (b : BaseF K B0) (T : OexC K C) (nf : ∀ f ∈ fs0, PySem.W.findIn K (.ref C) f = some none) (F : Fun K "__init__" "TooMany.__init__" si_TooMany f fd) : FnOk P w K mg base CX0 1 f fd ["self", "number"] (spI ["number"] C) :=
  F.ok sci_TooMany (fun vs H Q E h => by obtain ⟨a, ws, rfl, hl, _⟩ := h; rw [List.length_cons, hl]; rfl) fun cdv A outer s H vs Q E hr hsp => ⟨_, pss_cons (ps_expr (pe_ownInit (by rfl) gB (by decide) b.ga b.rd b.vV (pa_cons (pv 0) (pa_cons pe_str pa_nil)))) (pss_one (ps_ost (pv 0) (pv 1))), ini1_rd T (nf _ (by decide)) hsp⟩
abbrev si_NoTrim : Stmt := inClass (top 4) 0
theorem sci_NoTrim : FnScope ["self", "lot"] ["self", "lot"] (defScope si_NoTrim) := ⟨rfl, rfl, rfl, by decide +kernel, rfl, by decide +kernel, by decide +kernel⟩
theorem ini_NoTrim {B0 C f : Addr} {fd : FuncData} (gB : mg "NetError" = some (.ref B0)) (b : BaseF K B0) (T : OexC K C) (nf : ∀ f ∈ fs0, PySem.W.findIn K (.ref C) f = some none) (F : Fun K "__init__" "NoTrim.__init__" si_NoTrim f fd) : FnOk P w K mg base CX0 1 f fd ["self", "lot"] (spI ["lot"] C) :=
  F.ok sci_NoTrim (fun vs H Q E h => by obtain ⟨a, ws, rfl, hl, _⟩ := h; rw [List.length_cons, hl]; rfl) fun cdv A outer s H vs Q E hr hsp => ⟨_, pss_cons (ps_expr (pe_ownInit (by rfl) gB (by decide) b.ga b.rd b.vV (pa_cons (pv 0) (pa_cons pe_str pa_nil)))) (pss_one (ps_ost (pv 0) (pv 1))), ini1_rd T (nf _ (by decide)) hsp⟩
abbrev si_NoPaper : Stmt := inClass (top 5) 0
theorem sci_NoPaper : FnScope ["self", "word", "number"] ["self", "word", "number"] (defScope si_NoPaper) := ⟨rfl, rfl, rfl, by decide +kernel, rfl, by decide +kernel, by decide +kernel⟩
theorem ini_NoPaper {B0 C f : Addr} {fd : FuncData} (gB : mg "NetError" = some (.ref B0)) (b : BaseF K B0) (T : OexC K C) (nf : ∀ f ∈ fs0, PySem.W.findIn K (.ref C) f = some none) (F : Fun K "__init__" "NoPaper.__init__" si_NoPaper f fd) : FnOk P w K mg base CX0 1 f fd ["self", "word", "number"] (spI ["word", "number"] C) :=
  F.ok sci_NoPaper (fun vs H Q E h => by obtain ⟨a, ws, rfl, hl, _⟩ := h; rw [List.length_cons, hl]; rfl) fun cdv A outer s H vs Q E hr hsp => ⟨_, pss_cons (ps_expr (pe_ownInit (by rfl) gB (by decide) b.ga b.rd b.vV (pa_cons (pv 0) (pa_cons pe_str pa_nil)))) (pss_cons (ps_ost (pv 0) (pv 1)) (pss_one (ps_ost (pv 0) (pv 2)))), ini2_rd T (nf _ (by decide)) (nf _ (by decide)) (by decide) hsp⟩
abbrev si_NotEven : Stmt := inClass (top 6) 0
theorem sci_NotEven : FnScope ["self", "knot"] ["self", "knot"] (defScope si_NotEven) := ⟨rfl, rfl, rfl, by decide +kernel, rfl, by decide +kernel, by decide +kernel⟩
theorem ini_NotEven {B0 C f : Addr} {fd : FuncData} (gB : mg "NetError" = some (.ref B0)) (b : BaseF K B0) (T : OexC K C) (nf : ∀ f ∈ fs0, PySem.W.findIn K (.ref C) f = some none) (F : Fun K "__init__" "NotEven.__init__" si_NotEven f fd) : FnOk P w K mg base CX0 1 f fd ["self", "knot"] (spI ["knot"] C) :=
  F.ok sci_NotEven (fun vs H Q E h => by obtain ⟨a, ws, rfl, hl, _⟩ := h; rw [List.length_cons, hl]; rfl) fun cdv A outer s H vs Q E hr hsp => ⟨_, pss_cons (ps_expr (pe_ownInit (by rfl) gB (by decide) b.ga b.rd b.vV (pa_cons (pv 0) (pa_cons pe_str pa_nil)))) (pss_one (ps_ost (pv 0) (pv 1))), ini1_rd T (nf _ (by decide)) hsp⟩
abbrev si_NoRing : Stmt := inClass (top 7) 0
theorem sci_NoRing : FnScope ["self", "value"] ["self", "value"] (defScope si_NoRing) := ⟨rfl, rfl, rfl, by decide +kernel, rfl, by decide +kernel, by decide +kernel⟩
theorem ini_NoRing {B0 C f : Addr} {fd : FuncData} (gB : mg "NetError" = some (.ref B0)) (b : BaseF K B0) (T : OexC K C) (nf : ∀ f ∈ fs0, PySem.W.findIn K (.ref C) f = some none) (F : Fun K "__init__" "NoRing.__init__" si_NoRing f fd) : FnOk P w K mg base CX0 1 f fd ["self", "value"] (spI ["value"] C) :=
  F.ok sci_NoRing (fun vs H Q E h => by obtain ⟨a, ws, rfl, hl, _⟩ := h; rw [List.length_cons, hl]; rfl) fun cdv A outer s H vs Q E hr hsp => ⟨_, pss_cons (ps_expr (pe_ownInit (by rfl) gB (by decide) b.ga b.rd b.vV (pa_cons (pv 0) (pa_cons pe_str pa_nil)))) (pss_one (ps_ost (pv 0) (pv 1))), ini1_rd T (nf _ (by decide)) hsp⟩
abbrev si_BadExchange : Stmt := inClass (top 8) 0
theorem sci_BadExchange : FnScope ["self", "number"] ["self", "number"] (defScope si_BadExchange) := ⟨rfl, rfl, rfl, by decide +kernel, rfl, by decide +kernel, by decide +kernel⟩
theorem ini_BadExchange {B0 C f : Addr} {fd : FuncData} (gB : mg "NetError" = some (.ref B0)) (b : BaseF K B0) (T : OexC K C) (nf : ∀ f ∈ fs0, PySem.W.findIn K (.ref C) f = some none) (F : Fun K "__init__" "BadExchange.__init__" si_BadExchange f fd) : FnOk P w K mg base CX0 1 f fd ["self", "number"] (spI ["number"] C) :=
  F.ok sci_BadExchange (fun vs H Q E h => by obtain ⟨a, ws, rfl, hl, _⟩ := h; rw [List.length_cons, hl]; rfl) fun cdv A outer s H vs Q E hr hsp => ⟨_, pss_cons (ps_expr (pe_ownInit (by rfl) gB (by decide) b.ga b.rd b.vV (pa_cons (pv 0) (pa_cons pe_str pa_nil)))) (pss_one (ps_ost (pv 0) (pv 1))), ini1_rd T (nf _ (by decide)) hsp⟩
abbrev si_BadPlan : Stmt := inClass (top 15) 0
theorem sci_BadPlan : FnScope ["self", "number", "word"] ["self", "number", "word"] (defScope si_BadPlan) := ⟨rfl, rfl, rfl, by decide +kernel, rfl, by decide +kernel, by decide +kernel⟩
theorem ini_BadPlan {B0 C f : Addr} {fd : FuncData} (gB : mg "NetError" = some (.ref B0)) (b : BaseF K B0) (T : OexC K C) (nf : ∀ f ∈ fs0, PySem.W.findIn K (.ref C) f = some none) (F : Fun K "__init__" "BadPlan.__init__" si_BadPlan f fd) : FnOk P w K mg base CX0 1 f fd ["self", "number", "word"] (spI ["number", "word"] C) :=
  F.ok sci_BadPlan (fun vs H Q E h => by obtain ⟨a, ws, rfl, hl, _⟩ := h; rw [List.length_cons, hl]; rfl) fun cdv A outer s H vs Q E hr hsp => ⟨_, pss_cons (ps_expr (pe_ownInit (by rfl) gB (by decide) b.ga b.rd b.vV (pa_cons (pv 0) (pa_cons pe_str pa_nil)))) (pss_cons (ps_ost (pv 0) (pv 1)) (pss_one (ps_ost (pv 0) (pv 2)))), ini2_rd T (nf _ (by decide)) (nf _ (by decide)) (by decide) hsp⟩
abbrev si_BadText : Stmt := inClass (top 20) 0
theorem sci_BadText : FnScope ["self", "line", "sign"] ["self", "line", "sign"] (defScope si_BadText) := ⟨rfl, rfl, rfl, by decide +kernel, rfl, by decide +kernel, by decide +kernel⟩
theorem ini_BadText {B0 C f : Addr} {fd : FuncData} (gB : mg "NetError" = some (.ref B0)) (b : BaseF K B0) (T : OexC K C) (nf : ∀ f ∈ fs0, PySem.W.findIn K (.ref C) f = some none) (F : Fun K "__init__" "BadText.__init__" si_BadText f fd) : FnOk P w K mg base CX0 1 f fd ["self", "line", "sign"] (spI ["line", "sign"] C) :=
  F.ok sci_BadText (fun vs H Q E h => by obtain ⟨a, ws, rfl, hl, _⟩ := h; rw [List.length_cons, hl]; rfl) fun cdv A outer s H vs Q E hr hsp => ⟨_, pss_cons (ps_expr (pe_ownInit (by rfl) gB (by decide) b.ga b.rd b.vV (pa_cons (pv 0) (pa_cons pe_str pa_nil)))) (pss_cons (ps_ost (pv 0) (pv 1)) (pss_one (ps_ost (pv 0) (pv 2)))), ini2_rd T (nf _ (by decide)) (nf _ (by decide)) (by decide) hsp⟩
abbrev si_NoEdge : Stmt := inClass (top 9) 0
theorem sci_NoEdge : FnScope ["self"] ["self"] (defScope si_NoEdge) := ⟨rfl, rfl, rfl, by decide +kernel, rfl, by decide +kernel, by decide +kernel⟩
theorem ini_NoEdge {B0 C f : Addr} {fd : FuncData} (gB : mg "NetError" = some (.ref B0)) (b : BaseF K B0) (T : OexC K C) (nf : ∀ f ∈ fs0, PySem.W.findIn K (.ref C) f = some none) (F : Fun K "__init__" "NoEdge.__init__" si_NoEdge f fd) : FnOk P w K mg base CX0 1 f fd ["self"] (spI [] C) :=
  F.ok sci_NoEdge (fun vs H Q E h => by obtain ⟨a, ws, rfl, hl, _⟩ := h; rw [List.length_cons, hl]; rfl) fun cdv A outer s H vs Q E hr hsp => ⟨_, pss_one (ps_expr (pe_ownInit (by rfl) gB (by decide) b.ga b.rd b.vV (pa_cons (pv 0) (pa_cons pe_str pa_nil)))), ini0_rd T hsp⟩
abbrev si_BadSheet : Stmt := inClass (top 10) 0
theorem sci_BadSheet : FnScope ["self", "word"] ["self", "word"] (defScope si_BadSheet) := ⟨rfl, rfl, rfl, by decide +kernel, rfl, by decide +kernel, by decide +kernel⟩
theorem ini_BadSheet {B0 C f : Addr} {fd : FuncData} (gB : mg "NetError" = some (.ref B0)) (b : BaseF K B0) (T : OexC K C) (nf : ∀ f ∈ fs0, PySem.W.findIn K (.ref C) f = some none) (F : Fun K "__init__" "BadSheet.__init__" si_BadSheet f fd) : FnOk P w K mg base CX0 1 f fd ["self", "word"] (spI ["word"] C) :=
  F.ok sci_BadSheet (fun vs H Q E h => by obtain ⟨a, ws, rfl, hl, _⟩ := h; rw [List.length_cons, hl]; rfl) fun cdv A outer s H vs Q E hr hsp => ⟨_, pss_cons (ps_expr (pe_ownInit (by rfl) gB (by decide) b.ga b.rd b.vV (pa_cons (pv 0) (pa_cons pe_str pa_nil)))) (pss_one (ps_ost (pv 0) (pv 1))), ini1_rd T (nf _ (by decide)) hsp⟩
abbrev si_BadTear : Stmt := inClass (top 11) 0
theorem sci_BadTear : FnScope ["self", "number"] ["self", "number"] (defScope si_BadTear) := ⟨rfl, rfl, rfl, by decide +kernel, rfl, by decide +kernel, by decide +kernel⟩
theorem ini_BadTear {B0 C f : Addr} {fd : FuncData} (gB : mg "NetError" = some (.ref B0)) (b : BaseF K B0) (T : OexC K C) (nf : ∀ f ∈ fs0, PySem.W.findIn K (.ref C) f = some none) (F : Fun K "__init__" "BadTear.__init__" si_BadTear f fd) : FnOk P w K mg base CX0 1 f fd ["self", "number"] (spI ["number"] C) :=
  F.ok sci_BadTear (fun vs H Q E h => by obtain ⟨a, ws, rfl, hl, _⟩ := h; rw [List.length_cons, hl]; rfl) fun cdv A outer s H vs Q E hr hsp => ⟨_, pss_cons (ps_expr (pe_ownInit (by rfl) gB (by decide) b.ga b.rd b.vV (pa_cons (pv 0) (pa_cons pe_str pa_nil)))) (pss_one (ps_ost (pv 0) (pv 1))), ini1_rd T (nf _ (by decide)) hsp⟩
abbrev si_NoBar : Stmt := inClass (top 12) 0
theorem sci_NoBar : FnScope ["self", "bar"] ["self", "bar"] (defScope si_NoBar) := ⟨rfl, rfl, rfl, by decide +kernel, rfl, by decide +kernel, by decide +kernel⟩
theorem ini_NoBar {B0 C f : Addr} {fd : FuncData} (gB : mg "NetError" = some (.ref B0)) (b : BaseF K B0) (T : OexC K C) (nf : ∀ f ∈ fs0, PySem.W.findIn K (.ref C) f = some none) (F : Fun K "__init__" "NoBar.__init__" si_NoBar f fd) : FnOk P w K mg base CX0 1 f fd ["self", "bar"] (spI ["bar"] C) :=
  F.ok sci_NoBar (fun vs H Q E h => by obtain ⟨a, ws, rfl, hl, _⟩ := h; rw [List.length_cons, hl]; rfl) fun cdv A outer s H vs Q E hr hsp => ⟨_, pss_cons (ps_expr (pe_ownInit (by rfl) gB (by decide) b.ga b.rd b.vV (pa_cons (pv 0) (pa_cons pe_str pa_nil)))) (pss_one (ps_ost (pv 0) (pv 1))), ini1_rd T (nf _ (by decide)) hsp⟩
abbrev si_BadBars : Stmt := inClass (top 13) 0
theorem sci_BadBars : FnScope ["self", "number"] ["self", "number"] (defScope si_BadBars) := ⟨rfl, rfl, rfl, by decide +kernel, rfl, by decide +kernel, by decide +kernel⟩
theorem ini_BadBars {B0 C f : Addr} {fd : FuncData} (gB : mg "NetError" = some (.ref B0)) (b : BaseF K B0) (T : OexC K C) (nf : ∀ f ∈ fs0, PySem.W.findIn K (.ref C) f = some none) (F : Fun K "__init__" "BadBars.__init__" si_BadBars f fd) : FnOk P w K mg base CX0 1 f fd ["self", "number"] (spI ["number"] C) :=
  F.ok sci_BadBars (fun vs H Q E h => by obtain ⟨a, ws, rfl, hl, _⟩ := h; rw [List.length_cons, hl]; rfl) fun cdv A outer s H vs Q E hr hsp => ⟨_, pss_cons (ps_expr (pe_ownInit (by rfl) gB (by decide) b.ga b.rd b.vV (pa_cons (pv 0) (pa_cons pe_str pa_nil)))) (pss_one (ps_ost (pv 0) (pv 1))), ini1_rd T (nf _ (by decide)) hsp⟩
abbrev si_BadTwine : Stmt := inClass (top 14) 0
theorem sci_BadTwine : FnScope ["self", "word"] ["self", "word"] (defScope si_BadTwine) := ⟨rfl, rfl, rfl, by decide +kernel, rfl, by decide +kernel, by decide +kernel⟩
theorem ini_BadTwine {B0 C f : Addr} {fd : FuncData} (gB : mg "NetError" = some (.ref B0)) (b : BaseF K B0) (T : OexC K C) (nf : ∀ f ∈ fs0, PySem.W.findIn K (.ref C) f = some none) (F : Fun K "__init__" "BadTwine.__init__" si_BadTwine f fd) : FnOk P w K mg base CX0 1 f fd ["self", "word"] (spI ["word"] C) :=
  F.ok sci_BadTwine (fun vs H Q E h => by obtain ⟨a, ws, rfl, hl, _⟩ := h; rw [List.length_cons, hl]; rfl) fun cdv A outer s H vs Q E hr hsp => ⟨_, pss_cons (ps_expr (pe_ownInit (by rfl) gB (by decide) b.ga b.rd b.vV (pa_cons (pv 0) (pa_cons pe_str pa_nil)))) (pss_one (ps_ost (pv 0) (pv 1))), ini1_rd T (nf _ (by decide)) hsp⟩
abbrev si_Full : Stmt := inClass (top 16) 0
theorem sci_Full : FnScope ["self"] ["self"] (defScope si_Full) := ⟨rfl, rfl, rfl, by decide +kernel, rfl, by decide +kernel, by decide +kernel⟩
theorem ini_Full {B0 C f : Addr} {fd : FuncData} (gB : mg "NetError" = some (.ref B0)) (b : BaseF K B0) (T : OexC K C) (nf : ∀ f ∈ fs0, PySem.W.findIn K (.ref C) f = some none) (F : Fun K "__init__" "Full.__init__" si_Full f fd) : FnOk P w K mg base CX0 1 f fd ["self"] (spI [] C) :=
  F.ok sci_Full (fun vs H Q E h => by obtain ⟨a, ws, rfl, hl, _⟩ := h; rw [List.length_cons, hl]; rfl) fun cdv A outer s H vs Q E hr hsp => ⟨_, pss_one (ps_expr (pe_ownInit (by rfl) gB (by decide) b.ga b.rd b.vV (pa_cons (pv 0) (pa_cons pe_str pa_nil)))), ini0_rd T hsp⟩
abbrev si_NothingDone : Stmt := inClass (top 17) 0
theorem sci_NothingDone : FnScope ["self"] ["self"] (defScope si_NothingDone) := ⟨rfl, rfl, rfl, by decide +kernel, rfl, by decide +kernel, by decide +kernel⟩
theorem ini_NothingDone {B0 C f : Addr} {fd : FuncData} (gB : mg "NetError" = some (.ref B0)) (b : BaseF K B0) (T : OexC K C) (nf : ∀ f ∈ fs0, PySem.W.findIn K (.ref C) f = some none) (F : Fun K "__init__" "NothingDone.__init__" si_NothingDone f fd) : FnOk P w K mg base CX0 1 f fd ["self"] (spI [] C) :=
  F.ok sci_NothingDone (fun vs H Q E h => by obtain ⟨a, ws, rfl, hl, _⟩ := h; rw [List.length_cons, hl]; rfl) fun cdv A outer s H vs Q E hr hsp => ⟨_, pss_one (ps_expr (pe_ownInit (by rfl) gB (by decide) b.ga b.rd b.vV (pa_cons (pv 0) (pa_cons pe_str pa_nil)))), ini0_rd T hsp⟩
abbrev si_NothingUndone : Stmt := inClass (top 18) 0
theorem sci_NothingUndone : FnScope ["self"] ["self"] (defScope si_NothingUndone) := ⟨rfl, rfl, rfl, by decide +kernel, rfl, by decide +kernel, by decide +kernel⟩
theorem ini_NothingUndone {B0 C f : Addr} {fd : FuncData} (gB : mg "NetError" = some (.ref B0)) (b : BaseF K B0) (T : OexC K C) (nf : ∀ f ∈ fs0, PySem.W.findIn K (.ref C) f = some none) (F : Fun K "__init__" "NothingUndone.__init__" si_NothingUndone f fd) : FnOk P w K mg base CX0 1 f fd ["self"] (spI [] C) :=
  F.ok sci_NothingUndone (fun vs H Q E h => by obtain ⟨a, ws, rfl, hl, _⟩ := h; rw [List.length_cons, hl]; rfl) fun cdv A outer s H vs Q E hr hsp => ⟨_, pss_one (ps_expr (pe_ownInit (by rfl) gB (by decide) b.ga b.rd b.vV (pa_cons (pv 0) (pa_cons pe_str pa_nil)))), ini0_rd T hsp⟩
abbrev si_NoListener : Stmt := inClass (top 19) 0
theorem sci_NoListener : FnScope ["self", "number"] ["self", "number"] (defScope si_NoListener) := ⟨rfl, rfl, rfl, by decide +kernel, rfl, by decide +kernel, by decide +kernel⟩
theorem ini_NoListener {B0 C f : Addr} {fd : FuncData} (gB : mg "NetError" = some (.ref B0)) (b : BaseF K B0) (T : OexC K C) (nf : ∀ f ∈ fs0, PySem.W.findIn K (.ref C) f = some none) (F : Fun K "__init__" "NoListener.__init__" si_NoListener f fd) : FnOk P w K mg base CX0 1 f fd ["self", "number"] (spI ["number"] C) :=
  F.ok sci_NoListener (fun vs H Q E h => by obtain ⟨a, ws, rfl, hl, _⟩ := h; rw [List.length_cons, hl]; rfl) fun cdv A outer s H vs Q E hr hsp => ⟨_, pss_cons (ps_expr (pe_ownInit (by rfl) gB (by decide) b.ga b.rd b.vV (pa_cons (pv 0) (pa_cons pe_str pa_nil)))) (pss_one (ps_ost (pv 0) (pv 1))), ini1_rd T (nf _ (by decide)) hsp⟩
structure Xv (P : Program) (w : World) (K : PySem.W.Frag) (mg : Str → Option Value) (base : Heap) (LC : Str → Addr) : Prop where
  v : ExV mg LC cs0
  k_NotOne : XClsK P w K mg base "NotOne" ["self", "number"] ["number"] false
  k_TooMany : XClsK P w K mg base "TooMany" ["self", "number"] ["number"] false
  k_NoTrim : XClsK P w K mg base "NoTrim" ["self", "lot"] ["lot"] false
  k_NotEven : XClsK P w K mg base "NotEven" ["self", "knot"] ["knot"] false
  k_NoRing : XClsK P w K mg base "NoRing" ["self", "value"] ["value"] false
  k_BadExchange : XClsK P w K mg base "BadExchange" ["self", "number"] ["number"] false
  k_BadSheet : XClsK P w K mg base "BadSheet" ["self", "word"] ["word"] false
  k_BadTear : XClsK P w K mg base "BadTear" ["self", "number"] ["number"] false
  k_NoBar : XClsK P w K mg base "NoBar" ["self", "bar"] ["bar"] false
  k_BadBars : XClsK P w K mg base "BadBars" ["self", "number"] ["number"] false
  k_BadTwine : XClsK P w K mg base "BadTwine" ["self", "word"] ["word"] false
  k_NoListener : XClsK P w K mg base "NoListener" ["self", "number"] ["number"] false
  k_NoPaper_r : XClsK P w K mg base "NoPaper" ["self", "word", "number"] ["word", "number"] true
  k_BadPlan_r : XClsK P w K mg base "BadPlan" ["self", "number", "word"] ["number", "word"] true
  k_BadText_r : XClsK P w K mg base "BadText" ["self", "line", "sign"] ["line", "sign"] true
def W_law_draw : WS :=
  (sSeq (sPut 0 fSetL (eBin dAdd (.ex (eBin dAt (.nm 0) (.ex (eC (.int 3))))) (.ex (eC (.int 1)))) (eC (.int 3)))
  (sSeq (sIf (tE (eBin dGt (.ex (eBin dAt (.nm 0) (.ex (eC (.int 2))))) (.ex (eC (.int 0))))) (sSeq (sSet 2 (eBin dMod (.ex (eApp dInt [(.ex (eBin dAt (.nm 0) (.ex (eC (.int 2)))))])) (.nm 1)))
  (sSeq (sPut 0 fSetL (eBin dFdiv (.ex (eBin dAt (.nm 0) (.ex (eC (.int 2))))) (.nm 1)) (eC (.int 2)))
  (sRet (eNm 2)))) sNil)
  (sSeq (sSet 3 (eC (.int 83)))
  (sSeq (sIf (tE (eBin dNe (.ex (eBin dAt (.nm 0) (.ex (eC (.int 0))))) (.ex (eLst [])))) (sSet 3 (eBin dAt (.ex (eBin dAt (.nm 0) (.ex (eC (.int 0))))) (.ex (eBin dMod (.ex (eApp dInt [(.ex (eBin dAt (.nm 0) (.ex (eC (.int 1)))))])) (.ex (eApp dLen [(.ex (eBin dAt (.nm 0) (.ex (eC (.int 0)))))])))))) sNil)
  (sSeq (sPut 0 fSetL (eBin dAdd (.ex (eBin dAt (.nm 0) (.ex (eC (.int 1))))) (.ex (eC (.int 1)))) (eC (.int 1)))
  (sSeq (sIf (tAndW (tE (eBin dGe (.ex (eApp dAbs [(.nm 3)])) (.ex (eBin dPow (.ex (eC (.int 10))) (.ex (eC (.int 18))))))) (tE (eBin dLe (.ex (eBin dAt (.nm 0) (.ex (eC (.int 1))))) (.ex (eApp dLen [(.ex (eBin dAt (.nm 0) (.ex (eC (.int 0)))))]))))) (sSeq (sPut 0 fSetL (eBin dFdiv (.ex (eApp dAbs [(.nm 3)])) (.nm 1)) (eC (.int 2)))
  (sRet (eBin dMod (.ex (eApp dInt [(.ex (eApp dAbs [(.nm 3)]))])) (.nm 1)))) sNil)
  (sSeq (sSet 4 (eBin dMod (.ex (eBin dPow (.ex (eApp dInt [(.ex (eBin dAdd (.ex (eBin dMod (.ex (eApp dInt [(.nm 3)])) (.ex (eC (.int 2147483563))))) (.ex (eBin dMul (.ex (eC (.int 77232917))) (.ex (eBin dAt (.nm 0) (.ex (eC (.int 3)))))))))])) (.ex (eC (.int 5))))) (.ex (eC (.int 2147483399)))))
  (sSeq (sSet 4 (eBin dMod (.ex (eBin dPow (.ex (eApp dInt [(.ex (eBin dAdd (.ex (eBin dMul (.nm 4) (.ex (eBin dAdd (.ex (eBin dMul (.ex (eC (.int 2))) (.ex (eBin dAt (.nm 0) (.ex (eC (.int 3))))))) (.ex (eC (.int 7))))))) (.ex (eC (.int 6449)))))])) (.ex (eC (.int 3))))) (.ex (eC (.int 2147483647)))))
  (sRet (eBin dMod (.ex (eBin dFdiv (.nm 4) (.ex (eC (.int 32))))) (.nm 1)))))))))))
theorem body_law_draw (T : Tx mg) (hsy : sysB K = true) {f : Addr} {cdv : Value} {A : Around} {outer : List Env} {s : Shared} {H : Hp} {E : XK} (hr : Room 0 (A.deeper (PyProof.Rows.envOfC "_law_draw" (defScope s_law_draw) s.heap.objs.size f cdv))) (hgd : (A.deeper (PyProof.Rows.envOfC "_law_draw" (defScope s_law_draw) s.heap.objs.size f cdv)).guards = some []) :
    DSs (CxD.no (cxOf CX0 P w K mg base N_law_draw "_law_draw" (defScope s_law_draw) f cdv A outer s H E).nox) κ_law_draw fr_law_draw (defBody s_law_draw) (W_law_draw) :=
  (dss_cons (ds_put (i := 0) (set_all (hu65 hr)) setL_ok (de_opC op_addA add_ok (de_ix (ix_all (hu65 hr)) at_ok (do_nm 0) (de_int).op) de_int) de_int)
  (dss_cons (ds_if (dt_cmp op_gt gt_ok ((de_ix (ix_all (hu65 hr)) at_ok (do_nm 0) (de_int).op)).op (de_int).op (nomark _)) (dss_cons (ds_set (i := 2) sc_law_draw.nd (de_op op_mod mod_ok ((de_callTy call_int1 int_ok (by rfl) T.int (by decide +kernel) (da_cons ((de_ix (ix_all (hu65 hr)) at_ok (do_nm 0) (de_int).op)).op da_nil))).op (do_nm 1)))
  (dss_cons (ds_put (i := 0) (set_all (hu65 hr)) setL_ok (de_op op_fdiv fdiv_ok ((de_ix (ix_all (hu65 hr)) at_ok (do_nm 0) (de_int).op)).op (do_nm 1)) de_int)
  (dss_one (ds_ret (de_nm 2))))) dss_nil)
  (dss_cons (ds_set (i := 3) sc_law_draw.nd de_int)
  (dss_cons (ds_if (dt_cmp (op_ne.or (op_neD hr.units)) ne_ok ((de_ix (ix_all (hu65 hr)) at_ok (do_nm 0) (de_int).op)).op (((df_lst dc_nil)).de).op (nomark _)) (dss_one (ds_set (i := 3) sc_law_draw.nd (de_ix (ix_all (hu65 hr)) at_ok ((de_ix (ix_all (hu65 hr)) at_ok (do_nm 0) (de_int).op)).op ((de_op op_mod mod_ok ((de_callTy call_int1 int_ok (by rfl) T.int (by decide +kernel) (da_cons ((de_ix (ix_all (hu65 hr)) at_ok (do_nm 0) (de_int).op)).op da_nil))).op ((de_callB call_len len_ok (by rfl) T.len (by decide +kernel) (da_cons ((de_ix (ix_all (hu65 hr)) at_ok (do_nm 0) (de_int).op)).op da_nil))).op)).op))) dss_nil)
  (dss_cons (ds_put (i := 0) (set_all (hu65 hr)) setL_ok (de_opC op_addA add_ok (de_ix (ix_all (hu65 hr)) at_ok (do_nm 0) (de_int).op) de_int) de_int)
  (dss_cons (ds_if ((dw_and (dt_cmp op_ge ge_ok ((de_callB call_abs abs_ok (by rfl) T.abs (by decide +kernel) (da_cons (do_nm 3) da_nil))).op ((de_op op_pow pow_ok (de_int).op (de_int).op)).op (nomark _)) (dw_and1 (dt_cmp op_le le_ok ((de_ix (ix_all (hu65 hr)) at_ok (do_nm 0) (de_int).op)).op ((de_callB call_len len_ok (by rfl) T.len (by decide +kernel) (da_cons ((de_ix (ix_all (hu65 hr)) at_ok (do_nm 0) (de_int).op)).op da_nil))).op (nomark _))))).dt (dss_cons (ds_put (i := 0) (set_all (hu65 hr)) setL_ok (de_op op_fdiv fdiv_ok ((de_callB call_abs abs_ok (by rfl) T.abs (by decide +kernel) (da_cons (do_nm 3) da_nil))).op (do_nm 1)) de_int)
  (dss_one (ds_ret (de_op op_mod mod_ok ((de_callTy call_int1 int_ok (by rfl) T.int (by decide +kernel) (da_cons ((de_callB call_abs abs_ok (by rfl) T.abs (by decide +kernel) (da_cons (do_nm 3) da_nil))).op da_nil))).op (do_nm 1))))) dss_nil)
  (dss_cons (ds_set (i := 4) sc_law_draw.nd (de_op op_mod mod_ok ((de_op op_pow pow_ok ((de_callTy call_int1 int_ok (by rfl) T.int (by decide +kernel) (da_cons ((de_opC op_addA add_ok (de_op op_mod mod_ok ((de_callTy call_int1 int_ok (by rfl) T.int (by decide +kernel) (da_cons (do_nm 3) da_nil))).op (de_int).op) (de_op op_mulA mul_ok (de_int).op ((de_ix (ix_all (hu65 hr)) at_ok (do_nm 0) (de_int).op)).op))).op da_nil))).op (de_int).op)).op (de_int).op))
  (dss_cons (ds_set (i := 4) sc_law_draw.nd (de_op op_mod mod_ok ((de_op op_pow pow_ok ((de_callTy call_int1 int_ok (by rfl) T.int (by decide +kernel) (da_cons ((de_opC op_addA add_ok (de_op op_mulA mul_ok (do_nm 4) ((de_opC op_addA add_ok (de_op op_mulA mul_ok (de_int).op ((de_ix (ix_all (hu65 hr)) at_ok (do_nm 0) (de_int).op)).op) de_int)).op) de_int)).op da_nil))).op (de_int).op)).op (de_int).op))
  (dss_one (ds_ret (de_op op_mod mod_ok ((de_op op_fdiv fdiv_ok (do_nm 4) (de_int).op)).op (do_nm 1))))))))))))
theorem is_law_draw : IS RX.no (W_law_draw) FL.S_draw :=
  (is_seq (is_put ((ip_bin ((ip_bin ipo_nm (ip_C).o)).o (ip_C).o)).e (ip_C).e)
  (is_seq (is_if ((it_P (ip_bin ((ip_bin ipo_nm (ip_C).o)).o (ip_C).o))).t (is_seq (is_set ((ip_bin ((ip_app (ipa_c ((ip_bin ipo_nm (ip_C).o)).o ipa_n))).o ipo_nm)).e)
  (is_seq (is_put ((ip_bin ((ip_bin ipo_nm (ip_C).o)).o ipo_nm)).e (ip_C).e)
  (is_ret (ip_nm).e))) is_nil)
  (is_seq (is_set (ip_C).e)
  (is_seq (is_if ((it_P (ip_bin ((ip_bin ipo_nm (ip_C).o)).o ((ip_lst ipc_n)).o))).t (is_set ((ip_bin ((ip_bin ipo_nm (ip_C).o)).o ((ip_bin ((ip_app (ipa_c ((ip_bin ipo_nm (ip_C).o)).o ipa_n))).o ((ip_app (ipa_c ((ip_bin ipo_nm (ip_C).o)).o ipa_n))).o)).o)).e) is_nil)
  (is_seq (is_put ((ip_bin ((ip_bin ipo_nm (ip_C).o)).o (ip_C).o)).e (ip_C).e)
  (is_seq (is_if ((it_and (it_P (ip_bin ((ip_app (ipa_c ipo_nm ipa_n))).o ((ip_bin (ip_C).o (ip_C).o)).o)) (it_P (ip_bin ((ip_bin ipo_nm (ip_C).o)).o ((ip_app (ipa_c ((ip_bin ipo_nm (ip_C).o)).o ipa_n))).o)))).t (is_seq (is_put ((ip_bin ((ip_app (ipa_c ipo_nm ipa_n))).o ipo_nm)).e (ip_C).e)
  (is_ret ((ip_bin ((ip_app (ipa_c ((ip_app (ipa_c ipo_nm ipa_n))).o ipa_n))).o ipo_nm)).e)) is_nil)
  (is_seq (is_set ((ip_bin ((ip_bin ((ip_app (ipa_c ((ip_bin ((ip_bin ((ip_app (ipa_c ipo_nm ipa_n))).o (ip_C).o)).o ((ip_bin (ip_C).o ((ip_bin ipo_nm (ip_C).o)).o)).o)).o ipa_n))).o (ip_C).o)).o (ip_C).o)).e)
  (is_seq (is_set ((ip_bin ((ip_bin ((ip_app (ipa_c ((ip_bin ((ip_bin ipo_nm ((ip_bin ((ip_bin (ip_C).o ((ip_bin ipo_nm (ip_C).o)).o)).o (ip_C).o)).o)).o (ip_C).o)).o ipa_n))).o (ip_C).o)).o (ip_C).o)).e)
  (is_ret ((ip_bin ((ip_bin ipo_nm (ip_C).o)).o ipo_nm)).e)))))))))
theorem cal_law_draw (T : Tx mg) (hsy : sysB K = true) {f : Addr} {fd : FuncData} (F : Fun K "_law_draw" "_law_draw" s_law_draw f fd) (g : mg "_law_draw" = some (.ref f)) : Cal P w K mg base 1 "_law_draw" ps_law_draw pk_law_draw fr_law_draw (spM F_draw) :=
  ⟨⟨f, fd, fn_okD F sc_law_draw (fun cdv A outer s H E hr hgd => body_law_draw T hsy hr hgd) (fun ds Q _ h => snd_M is_law_draw ds Q h), g, F.kp, F.binds fun _ _ _ _ _ _ us hl => match us, hl with | [_, _], _ => rfl⟩, spM_mono⟩
def W_law_one (sp_law_draw : DSp) : WS :=
  (sRet (eBin dAt (.nm 1) (.ex (eCall pk_law_draw sp_law_draw [(.nm 0), (.ex (eApp dLen [(.nm 1)]))]))))
theorem body_law_one (T : Tx mg) (hsy : sysB K = true) {sp_law_draw : DSp} (C_law_draw : Cal P w K mg base 1 "_law_draw" ps_law_draw pk_law_draw fr_law_draw sp_law_draw) {f : Addr} {cdv : Value} {A : Around} {outer : List Env} {s : Shared} {H : Hp} {E : XK} (hr : Room 1 (A.deeper (PyProof.Rows.envOfC "_law_one" (defScope s_law_one) s.heap.objs.size f cdv))) (hgd : (A.deeper (PyProof.Rows.envOfC "_law_one" (defScope s_law_one) s.heap.objs.size f cdv)).guards = some []) :
    DSs (CxD.no (cxOf CX0 P w K mg base N_law_one "_law_one" (defScope s_law_one) f cdv A outer s H E).nox) κ_law_one fr_law_one (defBody s_law_one) (W_law_one sp_law_draw) :=
  (dss_one (ds_ret (de_ix (ix_all (hu65 hr)) at_ok (do_nm 1) ((de_call C_law_draw (hr.mono (by decide)) hgd (da_cons (do_nm 0) (da_cons ((de_callB call_len len_ok (by rfl) T.len (by decide +kernel) (da_cons (do_nm 1) da_nil))).op da_nil)))).op)))
theorem is_law_one : IS RX.no (W_law_one (spM F_draw)) S_law_one :=
  (is_ret (ie_bin imo_nm (IE.o (ie_call (ima_c imo_nm (ima_c (IE.o ((ip_app (ipa_c ipo_nm ipa_n))).e) ima_n))))))
theorem cal_law_one (T : Tx mg) (hsy : sysB K = true) (C_law_draw : Cal P w K mg base 1 "_law_draw" ps_law_draw pk_law_draw fr_law_draw (spM F_draw)) {f : Addr} {fd : FuncData} (F : Fun K "_law_one" "_law_one" s_law_one f fd) (g : mg "_law_one" = some (.ref f)) : Cal P w K mg base 2 "_law_one" ps_law_one pk_law_one fr_law_one (spM F_law_one) :=
  ⟨⟨f, fd, fn_okD F sc_law_one (fun cdv A outer s H E hr hgd => body_law_one T hsy C_law_draw hr hgd) (fun ds Q _ h => snd_M is_law_one ds Q h), g, F.kp, F.binds fun _ _ _ _ _ _ us hl => match us, hl with | [_, _], _ => rfl⟩, spM_mono⟩
def W_law_any (sp_law_draw : DSp) (sp_law_one : DSp) (sp_law_any : DSp) : WS :=
  (sSeq (sSet 2 (eLst [(eC .none), (eC (.bool true)), (eC (.bool false)), (eC (.int 0)), (eC (.int 1)), (eUn dNeg (.ex (eC (.int 1)))), (eC (.int 2)), (eC (.int 7)), (eBin dPow (.ex (eC (.int 10))) (.ex (eC (.int 39)))), (eC (.str "")), (eC (.str "N")), (eC (.str "plan")), (eC (.str "./")), (eC (.str "0"))]))
  (sSeq (sIf (tOrW (tE (eBin dEq (.nm 1) (.ex (eC (.int 0))))) (tE (eBin dEq (.ex (eCall pk_law_draw sp_law_draw [(.nm 0), (.ex (eC (.int 3)))])) (.ex (eC (.int 0)))))) (sRet (eCall pk_law_one sp_law_one [(.nm 0), (.nm 2)])) sNil)
  (sSeq (sSet 3 (eLc (wApp rng1 [(.ex (eCall pk_law_draw sp_law_draw [(.nm 0), (.ex (eC (.int 4)))]))]) (.nm 4) tYesW (eCall pk_law_any sp_law_any [(.nm 0), (.ex (eBin dSub (.nm 1) (.ex (eC (.int 1)))))]) [4]))
  (sRet (eCall pk_law_one sp_law_one [(.nm 0), (.ex (eLst [(eApp dTuple [(.nm 3)]), (eApp dTuple [(.nm 3)]), (eNm 3), (eApp dDictP [(.ex (eLc (wApp rng1 [(.ex (eApp dLen [(.nm 3)]))]) (.nm 4) tYesW (eTup [(eNm 4), (eBin dAt (.nm 3) (.nm 4))]) [4]))])]))])))))
theorem body_law_any (T : Tx mg) (hsy : sysB K = true) {sp_law_draw : DSp} {sp_law_one : DSp} {sp_law_any : DSp} {n : Nat} (C_law_draw : Cal P w K mg base 1 "_law_draw" ps_law_draw pk_law_draw fr_law_draw sp_law_draw) (C_law_one : Cal P w K mg base 2 "_law_one" ps_law_one pk_law_one fr_law_one sp_law_one) (C_law_any : Cal P w K mg base (3 + n) "_law_any" ps_law_any pk_law_any fr_law_any sp_law_any) {f : Addr} {cdv : Value} {A : Around} {outer : List Env} {s : Shared} {H : Hp} {E : XK} (hr : Room (3 + n) (A.deeper (PyProof.Rows.envOfC "_law_any" (defScope s_law_any) s.heap.objs.size f cdv))) (hgd : (A.deeper (PyProof.Rows.envOfC "_law_any" (defScope s_law_any) s.heap.objs.size f cdv)).guards = some []) :
    DSs (CxD.no (cxOf CX0 P w K mg base N_law_any "_law_any" (defScope s_law_any) f cdv A outer s H E).nox) κ_law_any fr_law_any (defBody s_law_any) (W_law_any sp_law_draw sp_law_one sp_law_any) :=
  (dss_cons (ds_set (i := 2) sc_law_any.nd ((df_lst (dc_cons de_non (dc_cons de_bl (dc_cons de_bl (dc_cons de_int (dc_cons de_int (dc_cons (de_un un_neg neg_ok (de_int).op) (dc_cons de_int (dc_cons de_int (dc_cons (de_op op_pow pow_ok (de_int).op (de_int).op) (dc_cons de_str (dc_cons de_str (dc_cons de_str (dc_cons de_str (dc_cons de_str dc_nil)))))))))))))))).de)
  (dss_cons (ds_if ((dw_or (dt_cmp (op_eq.or (op_eqD hr.units)) eq_ok (do_nm 1) (de_int).op (nomark _)) (dw_or1 (dt_cmp (op_eq.or (op_eqD hr.units)) eq_ok ((de_call C_law_draw (hr.mono (by omega)) hgd (da_cons (do_nm 0) (da_cons (de_int).op da_nil)))).op (de_int).op (nomark _))))).dt (dss_one (ds_ret (de_call C_law_one (hr.mono (by omega)) hgd (da_cons (do_nm 0) (da_cons (do_nm 2) da_nil))))) dss_nil)
  (dss_cons (ds_set (i := 3) sc_law_any.nd ((df_lc (own := [("_law_k", 4)]) (sl := []) rfl sc_law_any.nd (di_rng1 (by rfl) T.range (da_cons ((de_call C_law_draw (hr.mono (by omega)) hgd (da_cons (do_nm 0) (da_cons (de_int).op da_nil)))).op da_nil)) (blkOk_by (by first | exact (show blkC N_law_any (defScope s_law_any) _ _ = true from by decide +kernel) | rfl)) (fun _ _ _ _ _ => (dg_nm 4 sc_law_any.nd)) (fun _ _ _ _ _ => dts_nil) (fun _ _ _ _ _ => (de_call C_law_any (hr.mono (by omega)) hgd (da_cons (do_nm 0) (da_cons ((de_op op_sub sub_ok (do_nm 1) (de_int).op)).op da_nil)))))).de)
  (dss_one (ds_ret (de_call C_law_one (hr.mono (by omega)) hgd (da_cons (do_nm 0) (da_cons (((df_lst (dc_cons (de_callTy call_tuple_of tuple_ok (by rfl) T.tuple (by decide +kernel) (da_cons (do_nm 3) da_nil)) (dc_cons (de_callTy call_tuple_of tuple_ok (by rfl) T.tuple (by decide +kernel) (da_cons (do_nm 3) da_nil)) (dc_cons (de_nm 3) (dc_cons ((df_callTy (call_dictP rfl) dict_ok (by rfl) T.dict (by decide +kernel) (da_cons (((df_lc (own := [("_law_k", 4)]) (sl := []) rfl sc_law_any.nd (di_rng1 (by rfl) T.range (da_cons ((de_callB call_len len_ok (by rfl) T.len (by decide +kernel) (da_cons (do_nm 3) da_nil))).op da_nil)) (blkOk_by (by first | exact (show blkC N_law_any (defScope s_law_any) _ _ = true from by decide +kernel) | rfl)) (fun _ _ _ _ _ => (dg_nm 4 sc_law_any.nd)) (fun _ _ _ _ _ => dts_nil) (fun _ _ _ _ _ => (de_tup (dc_cons (de_nm 4) (dc_cons (de_ix (ix_all (hu65 hr)) at_ok (do_nm 3) (do_nm 4)) dc_nil)))))).de).op da_nil))).de dc_nil)))))).de).op da_nil))))))))
theorem is_law_any (Frec : FM) : IS RX.no (W_law_any (spM F_draw) (spM F_law_one) (spM Frec)) (S_law_any Frec) :=
  (is_seq (is_set ((ip_lst (ipc_c ip_C (ipc_c ip_C (ipc_c ip_C (ipc_c ip_C (ipc_c ip_C (ipc_c (ip_un (ip_C).o) (ipc_c ip_C (ipc_c ip_C (ipc_c (ip_bin (ip_C).o (ip_C).o) (ipc_c ip_C (ipc_c ip_C (ipc_c ip_C (ipc_c ip_C (ipc_c ip_C ipc_n)))))))))))))))).e)
  (is_seq (is_if (it_orM ((it_P (ip_bin ipo_nm (ip_C).o))).t (it_M (ie_bin (IE.o (ie_call (ima_c imo_nm (ima_c (IE.o (ip_C).e) ima_n)))) (IE.o (ip_C).e)))) (is_ret (ie_call (ima_c imo_nm (ima_c imo_nm ima_n)))) is_nil)
  (is_seq (is_set (ie_lc (iim_app (ima_c (IE.o (ie_call (ima_c imo_nm (ima_c (IE.o (ip_C).e) ima_n)))) ima_n)) (it_yes).t (ie_call (ima_c imo_nm (ima_c (IE.o ((ip_bin ipo_nm (ip_C).o)).e) ima_n)))))
  (is_ret (ie_call (ima_c imo_nm (ima_c (IE.o ((ip_lst (ipc_c (ip_app (ipa_c ipo_nm ipa_n)) (ipc_c (ip_app (ipa_c ipo_nm ipa_n)) (ipc_c ip_nm (ipc_c (ip_app (ipa_c ((ip_lc (sl := []) (ii_app (ipa_c ((ip_app (ipa_c ipo_nm ipa_n))).o ipa_n)) it_yes (ip_tup (ipc_c ip_nm (ipc_c (ip_bin ipo_nm ipo_nm) ipc_n))))).o ipa_n)) ipc_n)))))).e) ima_n)))))))
theorem cal_law_any (T : Tx mg) (hsy : sysB K = true) (C_law_draw : Cal P w K mg base 1 "_law_draw" ps_law_draw pk_law_draw fr_law_draw (spM F_draw)) (C_law_one : Cal P w K mg base 2 "_law_one" ps_law_one pk_law_one fr_law_one (spM F_law_one)) {f : Addr} {fd : FuncData} (F : Fun K "_law_any" "_law_any" s_law_any f fd) (g : mg "_law_any" = some (.ref f)) : ∀ n : Nat, Cal P w K mg base (3 + n) "_law_any" ps_law_any pk_law_any fr_law_any (spM (F_law_any n))
  | 0 => ⟨⟨f, fd, fn_never, g, F.kp, F.binds fun _ _ _ _ _ _ us hl => match us, hl with | [_, _], _ => rfl⟩, spM_mono⟩
  | n + 1 => ⟨⟨f, fd, fn_okD F sc_law_any (fun cdv A outer s H E hr hgd => body_law_any T hsy C_law_draw C_law_one (cal_law_any T hsy C_law_draw C_law_one F g n) hr hgd) (fun ds Q _ h => snd_M (is_law_any (F_law_any n)) ds Q h), g, F.kp, F.binds fun _ _ _ _ _ _ us hl => match us, hl with | [_, _], _ => rfl⟩, spM_mono⟩
def W_law_sorts (LC : Str → Addr) : WS :=
  (sSeq (sSet 1 (eLst [(eUn (dXis LC ["NotOne", "TooMany", "NoTrim", "NoPaper", "NotEven", "NoRing", "BadExchange", "BadPlan", "BadText", "NoEdge", "BadSheet", "BadTear", "NoBar", "BadBars", "BadTwine", "Full", "NothingDone", "NothingUndone", "NoListener"] fun n => subX n "NotOne") (.nm 0)), (eUn (dXis LC ["NotOne", "TooMany", "NoTrim", "NoPaper", "NotEven", "NoRing", "BadExchange", "BadPlan", "BadText", "NoEdge", "BadSheet", "BadTear", "NoBar", "BadBars", "BadTwine", "Full", "NothingDone", "NothingUndone", "NoListener"] fun n => subX n "TooMany") (.nm 0)), (eUn (dXis LC ["NotOne", "TooMany", "NoTrim", "NoPaper", "NotEven", "NoRing", "BadExchange", "BadPlan", "BadText", "NoEdge", "BadSheet", "BadTear", "NoBar", "BadBars", "BadTwine", "Full", "NothingDone", "NothingUndone", "NoListener"] fun n => subX n "NoTrim") (.nm 0)), (eUn (dXis LC ["NotOne", "TooMany", "NoTrim", "NoPaper", "NotEven", "NoRing", "BadExchange", "BadPlan", "BadText", "NoEdge", "BadSheet", "BadTear", "NoBar", "BadBars", "BadTwine", "Full", "NothingDone", "NothingUndone", "NoListener"] fun n => subX n "NoPaper") (.nm 0))]))
  (sSeq (sSet 1 (eBin dCat (.nm 1) (.ex (eLst [(eUn (dXis LC ["NotOne", "TooMany", "NoTrim", "NoPaper", "NotEven", "NoRing", "BadExchange", "BadPlan", "BadText", "NoEdge", "BadSheet", "BadTear", "NoBar", "BadBars", "BadTwine", "Full", "NothingDone", "NothingUndone", "NoListener"] fun n => subX n "NotEven") (.nm 0)), (eUn (dXis LC ["NotOne", "TooMany", "NoTrim", "NoPaper", "NotEven", "NoRing", "BadExchange", "BadPlan", "BadText", "NoEdge", "BadSheet", "BadTear", "NoBar", "BadBars", "BadTwine", "Full", "NothingDone", "NothingUndone", "NoListener"] fun n => subX n "NoRing") (.nm 0)), (eUn (dXis LC ["NotOne", "TooMany", "NoTrim", "NoPaper", "NotEven", "NoRing", "BadExchange", "BadPlan", "BadText", "NoEdge", "BadSheet", "BadTear", "NoBar", "BadBars", "BadTwine", "Full", "NothingDone", "NothingUndone", "NoListener"] fun n => subX n "BadExchange") (.nm 0)), (eUn (dXis LC ["NotOne", "TooMany", "NoTrim", "NoPaper", "NotEven", "NoRing", "BadExchange", "BadPlan", "BadText", "NoEdge", "BadSheet", "BadTear", "NoBar", "BadBars", "BadTwine", "Full", "NothingDone", "NothingUndone", "NoListener"] fun n => subX n "NoEdge") (.nm 0))]))))
  (sSeq (sSet 1 (eBin dCat (.nm 1) (.ex (eLst [(eUn (dXis LC ["NotOne", "TooMany", "NoTrim", "NoPaper", "NotEven", "NoRing", "BadExchange", "BadPlan", "BadText", "NoEdge", "BadSheet", "BadTear", "NoBar", "BadBars", "BadTwine", "Full", "NothingDone", "NothingUndone", "NoListener"] fun n => subX n "BadSheet") (.nm 0)), (eUn (dXis LC ["NotOne", "TooMany", "NoTrim", "NoPaper", "NotEven", "NoRing", "BadExchange", "BadPlan", "BadText", "NoEdge", "BadSheet", "BadTear", "NoBar", "BadBars", "BadTwine", "Full", "NothingDone", "NothingUndone", "NoListener"] fun n => subX n "BadTear") (.nm 0)), (eUn (dXis LC ["NotOne", "TooMany", "NoTrim", "NoPaper", "NotEven", "NoRing", "BadExchange", "BadPlan", "BadText", "NoEdge", "BadSheet", "BadTear", "NoBar", "BadBars", "BadTwine", "Full", "NothingDone", "NothingUndone", "NoListener"] fun n => subX n "NoBar") (.nm 0)), (eUn (dXis LC ["NotOne", "TooMany", "NoTrim", "NoPaper", "NotEven", "NoRing", "BadExchange", "BadPlan", "BadText", "NoEdge", "BadSheet", "BadTear", "NoBar", "BadBars", "BadTwine", "Full", "NothingDone", "NothingUndone", "NoListener"] fun n => subX n "BadBars") (.nm 0))]))))
  (sSeq (sSet 1 (eBin dCat (.nm 1) (.ex (eLst [(eUn (dXis LC ["NotOne", "TooMany", "NoTrim", "NoPaper", "NotEven", "NoRing", "BadExchange", "BadPlan", "BadText", "NoEdge", "BadSheet", "BadTear", "NoBar", "BadBars", "BadTwine", "Full", "NothingDone", "NothingUndone", "NoListener"] fun n => subX n "BadTwine") (.nm 0)), (eUn (dXis LC ["NotOne", "TooMany", "NoTrim", "NoPaper", "NotEven", "NoRing", "BadExchange", "BadPlan", "BadText", "NoEdge", "BadSheet", "BadTear", "NoBar", "BadBars", "BadTwine", "Full", "NothingDone", "NothingUndone", "NoListener"] fun n => subX n "BadPlan") (.nm 0)), (eUn (dXis LC ["NotOne", "TooMany", "NoTrim", "NoPaper", "NotEven", "NoRing", "BadExchange", "BadPlan", "BadText", "NoEdge", "BadSheet", "BadTear", "NoBar", "BadBars", "BadTwine", "Full", "NothingDone", "NothingUndone", "NoListener"] fun n => subX n "Full") (.nm 0)), (eUn (dXis LC ["NotOne", "TooMany", "NoTrim", "NoPaper", "NotEven", "NoRing", "BadExchange", "BadPlan", "BadText", "NoEdge", "BadSheet", "BadTear", "NoBar", "BadBars", "BadTwine", "Full", "NothingDone", "NothingUndone", "NoListener"] fun n => subX n "NothingDone") (.nm 0))]))))
  (sRet (eBin dCat (.nm 1) (.ex (eLst [(eUn (dXis LC ["NotOne", "TooMany", "NoTrim", "NoPaper", "NotEven", "NoRing", "BadExchange", "BadPlan", "BadText", "NoEdge", "BadSheet", "BadTear", "NoBar", "BadBars", "BadTwine", "Full", "NothingDone", "NothingUndone", "NoListener"] fun n => subX n "NothingUndone") (.nm 0)), (eUn (dXis LC ["NotOne", "TooMany", "NoTrim", "NoPaper", "NotEven", "NoRing", "BadExchange", "BadPlan", "BadText", "NoEdge", "BadSheet", "BadTear", "NoBar", "BadBars", "BadTwine", "Full", "NothingDone", "NothingUndone", "NoListener"] fun n => subX n "NoListener") (.nm 0)), (eUn (dXis LC ["NotOne", "TooMany", "NoTrim", "NoPaper", "NotEven", "NoRing", "BadExchange", "BadPlan", "BadText", "NoEdge", "BadSheet", "BadTear", "NoBar", "BadBars", "BadTwine", "Full", "NothingDone", "NothingUndone", "NoListener"] fun n => subX n "BadText") (.nm 0))]))))))))
theorem body_law_sorts (T : Tx mg) (hsy : sysB K = true) (U : Xs P w K mg base) {LC : Str → Addr} (TI : Xv P w K mg base LC) {f : Addr} {cdv : Value} {A : Around} {outer : List Env} {s : Shared} {H : Hp} {E : XK} (hr : Room 2 (A.deeper (PyProof.Rows.envOfC "_law_sorts" (defScope s_law_sorts) s.heap.objs.size f cdv))) (hgd : (A.deeper (PyProof.Rows.envOfC "_law_sorts" (defScope s_law_sorts) s.heap.objs.size f cdv)).guards = some []) :
    DSs (CxD.no (cxOf CX0 P w K mg base N_law_sorts "_law_sorts" (defScope s_law_sorts) f cdv A outer s H E).nox) κ_law_sorts fr_law_sorts (defBody s_law_sorts) (W_law_sorts LC) :=
  (dss_cons (ds_set (i := 1) sc_law_sorts.nd ((df_lst (dc_cons (de_xis U.sub TI.v (by rfl) T.isinstance (by rfl) (do_nm 0)) (dc_cons (de_xis U.sub TI.v (by rfl) T.isinstance (by rfl) (do_nm 0)) (dc_cons (de_xis U.sub TI.v (by rfl) T.isinstance (by rfl) (do_nm 0)) (dc_cons (de_xis U.sub TI.v (by rfl) T.isinstance (by rfl) (do_nm 0)) dc_nil)))))).de)
  (dss_cons (ds_set (i := 1) sc_law_sorts.nd ((df_op op_cat cat_okN (do_nm 1) (((df_lst (dc_cons (de_xis U.sub TI.v (by rfl) T.isinstance (by rfl) (do_nm 0)) (dc_cons (de_xis U.sub TI.v (by rfl) T.isinstance (by rfl) (do_nm 0)) (dc_cons (de_xis U.sub TI.v (by rfl) T.isinstance (by rfl) (do_nm 0)) (dc_cons (de_xis U.sub TI.v (by rfl) T.isinstance (by rfl) (do_nm 0)) dc_nil)))))).de).op)).de)
  (dss_cons (ds_set (i := 1) sc_law_sorts.nd ((df_op op_cat cat_okN (do_nm 1) (((df_lst (dc_cons (de_xis U.sub TI.v (by rfl) T.isinstance (by rfl) (do_nm 0)) (dc_cons (de_xis U.sub TI.v (by rfl) T.isinstance (by rfl) (do_nm 0)) (dc_cons (de_xis U.sub TI.v (by rfl) T.isinstance (by rfl) (do_nm 0)) (dc_cons (de_xis U.sub TI.v (by rfl) T.isinstance (by rfl) (do_nm 0)) dc_nil)))))).de).op)).de)
  (dss_cons (ds_set (i := 1) sc_law_sorts.nd ((df_op op_cat cat_okN (do_nm 1) (((df_lst (dc_cons (de_xis U.sub TI.v (by rfl) T.isinstance (by rfl) (do_nm 0)) (dc_cons (de_xis U.sub TI.v (by rfl) T.isinstance (by rfl) (do_nm 0)) (dc_cons (de_xis U.sub TI.v (by rfl) T.isinstance (by rfl) (do_nm 0)) (dc_cons (de_xis U.sub TI.v (by rfl) T.isinstance (by rfl) (do_nm 0)) dc_nil)))))).de).op)).de)
  (dss_one (ds_ret ((df_op op_cat cat_okN (do_nm 1) (((df_lst (dc_cons (de_xis U.sub TI.v (by rfl) T.isinstance (by rfl) (do_nm 0)) (dc_cons (de_xis U.sub TI.v (by rfl) T.isinstance (by rfl) (do_nm 0)) (dc_cons (de_xis U.sub TI.v (by rfl) T.isinstance (by rfl) (do_nm 0)) dc_nil))))).de).op)).de))))))
theorem is_law_sorts {LC : Str → Addr} : IS RX.no (W_law_sorts LC) (S_law_sorts LC) :=
  (is_seq (is_set ((ip_lst (ipc_c (ip_un ipo_nm) (ipc_c (ip_un ipo_nm) (ipc_c (ip_un ipo_nm) (ipc_c (ip_un ipo_nm) ipc_n)))) (Nat.le_of_ble_eq_true rfl))).e)
  (is_seq (is_set ((ip_bin ipo_nm ((ip_lst (ipc_c (ip_un ipo_nm) (ipc_c (ip_un ipo_nm) (ipc_c (ip_un ipo_nm) (ipc_c (ip_un ipo_nm) ipc_n)))) (Nat.le_of_ble_eq_true rfl))).o)).e)
  (is_seq (is_set ((ip_bin ipo_nm ((ip_lst (ipc_c (ip_un ipo_nm) (ipc_c (ip_un ipo_nm) (ipc_c (ip_un ipo_nm) (ipc_c (ip_un ipo_nm) ipc_n)))) (Nat.le_of_ble_eq_true rfl))).o)).e)
  (is_seq (is_set ((ip_bin ipo_nm ((ip_lst (ipc_c (ip_un ipo_nm) (ipc_c (ip_un ipo_nm) (ipc_c (ip_un ipo_nm) (ipc_c (ip_un ipo_nm) ipc_n)))) (Nat.le_of_ble_eq_true rfl))).o)).e)
  (is_ret ((ip_bin ipo_nm ((ip_lst (ipc_c (ip_un ipo_nm) (ipc_c (ip_un ipo_nm) (ipc_c (ip_un ipo_nm) ipc_n))) (Nat.le_of_ble_eq_true rfl))).o)).e)))))
theorem cal_law_sorts (T : Tx mg) (hsy : sysB K = true) (U : Xs P w K mg base) {LC : Str → Addr} (TI : Xv P w K mg base LC) {f : Addr} {fd : FuncData} (F : Fun K "_law_sorts" "_law_sorts" s_law_sorts f fd) (g : mg "_law_sorts" = some (.ref f)) : Cal P w K mg base 3 "_law_sorts" ps_law_sorts pk_law_sorts fr_law_sorts (spP (F_law_sorts LC)) :=
  ⟨⟨f, fd, fn_okD F sc_law_sorts (fun cdv A outer s H E hr hgd => body_law_sorts T hsy U TI hr hgd) (fun ds Q _ h => snd_P is_law_sorts (by rfl) ds Q h), g, F.kp, F.binds fun _ _ _ _ _ _ us hl => match us, hl with | [_], _ => rfl⟩, spP_mono⟩
def W_law (LC : Str → Addr) (sp_law_any : DSp) (sp_law_sorts : DSp) : WS :=
  (sSeq (sIf (tE (eBin dNe (.ex (eLst [(eC (.int 8)), (eC (.int 8)), (eC (.int 200)), (eC (.int 30))])) (.ex (eLst [(eC (.int 8)), (eC (.int 8)), (eC (.int 200)), (eC (.int 30))])))) (sRet (eC (.bool false))) sNil)
  (sKill [0, 2, 3, 4, 5, 6, 8, 9, 10, 11] (sSeq (sFor (wApp rng1 [(.ex (eC (.int 4)))]) (.nm 2) (sEnd [0, 2, 3, 4, 5, 6, 8, 9, 10, 11] (sSeq (sPar [3, 4] [(eCall pk_law_any sp_law_any [(.nm 1), (.ex (eC (.int 2)))]), (eCall pk_law_any sp_law_any [(.nm 1), (.ex (eC (.int 2)))])])
  (sSeq (sSet 5 (eLst [(eCon (dMkX LC "NotOne" ["number"]) [(eNm 3)]), (eCon (dMkX LC "TooMany" ["number"]) [(eNm 3)]), (eCon (dMkX LC "NoTrim" ["lot"]) [(eNm 3)]), (eCon (dMkX LC "NoPaper" ["word", "number"]) [(eNm 3), (eNm 4)]), (eCon (dMkX LC "NotEven" ["knot"]) [(eNm 3)]), (eCon (dMkX LC "NoRing" ["value"]) [(eNm 3)]), (eCon (dMkX LC "BadExchange" ["number"]) [(eNm 3)])]))
  (sSeq (sSet 5 (eBin dCat (.nm 5) (.ex (eLst [(eCon (dMkX LC "NoEdge" []) []), (eCon (dMkX LC "BadSheet" ["word"]) [(eNm 3)]), (eCon (dMkX LC "BadTear" ["number"]) [(eNm 3)]), (eCon (dMkX LC "NoBar" ["bar"]) [(eNm 3)]), (eCon (dMkX LC "BadBars" ["number"]) [(eNm 3)]), (eCon (dMkX LC "BadTwine" ["word"]) [(eNm 3)]), (eCon (dMkX LC "BadPlan" ["number", "word"]) [(eNm 3), (eNm 4)])]))))
  (sSeq (sSet 5 (eBin dCat (.nm 5) (.ex (eLst [(eCon (dMkX LC "Full" []) []), (eCon (dMkX LC "NothingDone" []) []), (eCon (dMkX LC "NothingUndone" []) []), (eCon (dMkX LC "NoListener" ["number"]) [(eNm 3)]), (eCon (dMkX LC "BadText" ["line", "sign"]) [(eNm 3), (eNm 4)])]))))
  (sKill [0, 2, 6, 8, 9, 10, 11] (sSeq (sFor (wApp rng1 [(.ex (eApp dLen [(.nm 5)]))]) (.nm 6) (sEnd [0, 2, 6, 8, 9, 10, 11] (sSeq (sIf (tE (eBin dNe (.ex (eCall pk_law_sorts sp_law_sorts [(.ex (eBin dAt (.nm 5) (.nm 6)))])) (.ex (eLc (wApp rng1 [(.ex (eC (.int 19)))]) (.nm 7) tYesW (eBin dEq (.nm 7) (.nm 6)) [7])))) (sRet (eC (.bool false))) sNil)
  (sIf (tOrW (tNotW (tE (eUn (dXis LC ["NotOne", "TooMany", "NoTrim", "NoPaper", "NotEven", "NoRing", "BadExchange", "BadPlan", "BadText", "NoEdge", "BadSheet", "BadTear", "NoBar", "BadBars", "BadTwine", "Full", "NothingDone", "NothingUndone", "NoListener"] fun n => subX n "NetError") (.ex (eBin dAt (.nm 5) (.nm 6)))))) (tNotW (tE (eUn (dXis LC ["NotOne", "TooMany", "NoTrim", "NoPaper", "NotEven", "NoRing", "BadExchange", "BadPlan", "BadText", "NoEdge", "BadSheet", "BadTear", "NoBar", "BadBars", "BadTwine", "Full", "NothingDone", "NothingUndone", "NoListener"] fun _ => true) (.ex (eBin dAt (.nm 5) (.nm 6))))))) (sRet (eC (.bool false))) sNil))))
  (sSeq (sSet 8 (eLst [(eUn (dXf LC ["NotOne", "TooMany", "NoTrim", "NoPaper", "NotEven", "NoRing", "BadExchange", "BadPlan", "BadText", "NoEdge", "BadSheet", "BadTear", "NoBar", "BadBars", "BadTwine", "Full", "NothingDone", "NothingUndone", "NoListener"] "number") (.ex (eCon (dMkX LC "NotOne" ["number"]) [(eNm 3)]))), (eUn (dXf LC ["NotOne", "TooMany", "NoTrim", "NoPaper", "NotEven", "NoRing", "BadExchange", "BadPlan", "BadText", "NoEdge", "BadSheet", "BadTear", "NoBar", "BadBars", "BadTwine", "Full", "NothingDone", "NothingUndone", "NoListener"] "number") (.ex (eCon (dMkX LC "TooMany" ["number"]) [(eNm 3)]))), (eUn (dXf LC ["NotOne", "TooMany", "NoTrim", "NoPaper", "NotEven", "NoRing", "BadExchange", "BadPlan", "BadText", "NoEdge", "BadSheet", "BadTear", "NoBar", "BadBars", "BadTwine", "Full", "NothingDone", "NothingUndone", "NoListener"] "lot") (.ex (eCon (dMkX LC "NoTrim" ["lot"]) [(eNm 3)]))), (eUn (dXf LC ["NotOne", "TooMany", "NoTrim", "NoPaper", "NotEven", "NoRing", "BadExchange", "BadPlan", "BadText", "NoEdge", "BadSheet", "BadTear", "NoBar", "BadBars", "BadTwine", "Full", "NothingDone", "NothingUndone", "NoListener"] "knot") (.ex (eCon (dMkX LC "NotEven" ["knot"]) [(eNm 3)])))]))
  (sSeq (sSet 8 (eBin dCat (.nm 8) (.ex (eLst [(eUn (dXf LC ["NotOne", "TooMany", "NoTrim", "NoPaper", "NotEven", "NoRing", "BadExchange", "BadPlan", "BadText", "NoEdge", "BadSheet", "BadTear", "NoBar", "BadBars", "BadTwine", "Full", "NothingDone", "NothingUndone", "NoListener"] "value") (.ex (eCon (dMkX LC "NoRing" ["value"]) [(eNm 3)]))), (eUn (dXf LC ["NotOne", "TooMany", "NoTrim", "NoPaper", "NotEven", "NoRing", "BadExchange", "BadPlan", "BadText", "NoEdge", "BadSheet", "BadTear", "NoBar", "BadBars", "BadTwine", "Full", "NothingDone", "NothingUndone", "NoListener"] "number") (.ex (eCon (dMkX LC "BadExchange" ["number"]) [(eNm 3)]))), (eUn (dXf LC ["NotOne", "TooMany", "NoTrim", "NoPaper", "NotEven", "NoRing", "BadExchange", "BadPlan", "BadText", "NoEdge", "BadSheet", "BadTear", "NoBar", "BadBars", "BadTwine", "Full", "NothingDone", "NothingUndone", "NoListener"] "word") (.ex (eCon (dMkX LC "BadSheet" ["word"]) [(eNm 3)])))]))))
  (sSeq (sSet 8 (eBin dCat (.nm 8) (.ex (eLst [(eUn (dXf LC ["NotOne", "TooMany", "NoTrim", "NoPaper", "NotEven", "NoRing", "BadExchange", "BadPlan", "BadText", "NoEdge", "BadSheet", "BadTear", "NoBar", "BadBars", "BadTwine", "Full", "NothingDone", "NothingUndone", "NoListener"] "number") (.ex (eCon (dMkX LC "BadTear" ["number"]) [(eNm 3)]))), (eUn (dXf LC ["NotOne", "TooMany", "NoTrim", "NoPaper", "NotEven", "NoRing", "BadExchange", "BadPlan", "BadText", "NoEdge", "BadSheet", "BadTear", "NoBar", "BadBars", "BadTwine", "Full", "NothingDone", "NothingUndone", "NoListener"] "bar") (.ex (eCon (dMkX LC "NoBar" ["bar"]) [(eNm 3)]))), (eUn (dXf LC ["NotOne", "TooMany", "NoTrim", "NoPaper", "NotEven", "NoRing", "BadExchange", "BadPlan", "BadText", "NoEdge", "BadSheet", "BadTear", "NoBar", "BadBars", "BadTwine", "Full", "NothingDone", "NothingUndone", "NoListener"] "number") (.ex (eCon (dMkX LC "BadBars" ["number"]) [(eNm 3)])))]))))
  (sSeq (sSet 8 (eBin dCat (.nm 8) (.ex (eLst [(eUn (dXf LC ["NotOne", "TooMany", "NoTrim", "NoPaper", "NotEven", "NoRing", "BadExchange", "BadPlan", "BadText", "NoEdge", "BadSheet", "BadTear", "NoBar", "BadBars", "BadTwine", "Full", "NothingDone", "NothingUndone", "NoListener"] "word") (.ex (eCon (dMkX LC "BadTwine" ["word"]) [(eNm 3)]))), (eUn (dXf LC ["NotOne", "TooMany", "NoTrim", "NoPaper", "NotEven", "NoRing", "BadExchange", "BadPlan", "BadText", "NoEdge", "BadSheet", "BadTear", "NoBar", "BadBars", "BadTwine", "Full", "NothingDone", "NothingUndone", "NoListener"] "number") (.ex (eCon (dMkX LC "NoListener" ["number"]) [(eNm 3)])))]))))
  (sSeq (sSet 9 (eLst [(eUn (dXf LC ["NotOne", "TooMany", "NoTrim", "NoPaper", "NotEven", "NoRing", "BadExchange", "BadPlan", "BadText", "NoEdge", "BadSheet", "BadTear", "NoBar", "BadBars", "BadTwine", "Full", "NothingDone", "NothingUndone", "NoListener"] "number") (.ex (eBin dAt (.nm 5) (.ex (eC (.int 0)))))), (eUn (dXf LC ["NotOne", "TooMany", "NoTrim", "NoPaper", "NotEven", "NoRing", "BadExchange", "BadPlan", "BadText", "NoEdge", "BadSheet", "BadTear", "NoBar", "BadBars", "BadTwine", "Full", "NothingDone", "NothingUndone", "NoListener"] "number") (.ex (eBin dAt (.nm 5) (.ex (eC (.int 1)))))), (eUn (dXf LC ["NotOne", "TooMany", "NoTrim", "NoPaper", "NotEven", "NoRing", "BadExchange", "BadPlan", "BadText", "NoEdge", "BadSheet", "BadTear", "NoBar", "BadBars", "BadTwine", "Full", "NothingDone", "NothingUndone", "NoListener"] "lot") (.ex (eBin dAt (.nm 5) (.ex (eC (.int 2)))))), (eUn (dXf LC ["NotOne", "TooMany", "NoTrim", "NoPaper", "NotEven", "NoRing", "BadExchange", "BadPlan", "BadText", "NoEdge", "BadSheet", "BadTear", "NoBar", "BadBars", "BadTwine", "Full", "NothingDone", "NothingUndone", "NoListener"] "knot") (.ex (eBin dAt (.nm 5) (.ex (eC (.int 4)))))), (eUn (dXf LC ["NotOne", "TooMany", "NoTrim", "NoPaper", "NotEven", "NoRing", "BadExchange", "BadPlan", "BadText", "NoEdge", "BadSheet", "BadTear", "NoBar", "BadBars", "BadTwine", "Full", "NothingDone", "NothingUndone", "NoListener"] "value") (.ex (eBin dAt (.nm 5) (.ex (eC (.int 5)))))), (eUn (dXf LC ["NotOne", "TooMany", "NoTrim", "NoPaper", "NotEven", "NoRing", "BadExchange", "BadPlan", "BadText", "NoEdge", "BadSheet", "BadTear", "NoBar", "BadBars", "BadTwine", "Full", "NothingDone", "NothingUndone", "NoListener"] "number") (.ex (eBin dAt (.nm 5) (.ex (eC (.int 6))))))]))
  (sSeq (sSet 9 (eBin dCat (.nm 9) (.ex (eLst [(eUn (dXf LC ["NotOne", "TooMany", "NoTrim", "NoPaper", "NotEven", "NoRing", "BadExchange", "BadPlan", "BadText", "NoEdge", "BadSheet", "BadTear", "NoBar", "BadBars", "BadTwine", "Full", "NothingDone", "NothingUndone", "NoListener"] "word") (.ex (eBin dAt (.nm 5) (.ex (eC (.int 8)))))), (eUn (dXf LC ["NotOne", "TooMany", "NoTrim", "NoPaper", "NotEven", "NoRing", "BadExchange", "BadPlan", "BadText", "NoEdge", "BadSheet", "BadTear", "NoBar", "BadBars", "BadTwine", "Full", "NothingDone", "NothingUndone", "NoListener"] "number") (.ex (eBin dAt (.nm 5) (.ex (eC (.int 9)))))), (eUn (dXf LC ["NotOne", "TooMany", "NoTrim", "NoPaper", "NotEven", "NoRing", "BadExchange", "BadPlan", "BadText", "NoEdge", "BadSheet", "BadTear", "NoBar", "BadBars", "BadTwine", "Full", "NothingDone", "NothingUndone", "NoListener"] "bar") (.ex (eBin dAt (.nm 5) (.ex (eC (.int 10)))))), (eUn (dXf LC ["NotOne", "TooMany", "NoTrim", "NoPaper", "NotEven", "NoRing", "BadExchange", "BadPlan", "BadText", "NoEdge", "BadSheet", "BadTear", "NoBar", "BadBars", "BadTwine", "Full", "NothingDone", "NothingUndone", "NoListener"] "number") (.ex (eBin dAt (.nm 5) (.ex (eC (.int 11))))))]))))
  (sSeq (sSet 9 (eBin dCat (.nm 9) (.ex (eLst [(eUn (dXf LC ["NotOne", "TooMany", "NoTrim", "NoPaper", "NotEven", "NoRing", "BadExchange", "BadPlan", "BadText", "NoEdge", "BadSheet", "BadTear", "NoBar", "BadBars", "BadTwine", "Full", "NothingDone", "NothingUndone", "NoListener"] "word") (.ex (eBin dAt (.nm 5) (.ex (eC (.int 12)))))), (eUn (dXf LC ["NotOne", "TooMany", "NoTrim", "NoPaper", "NotEven", "NoRing", "BadExchange", "BadPlan", "BadText", "NoEdge", "BadSheet", "BadTear", "NoBar", "BadBars", "BadTwine", "Full", "NothingDone", "NothingUndone", "NoListener"] "number") (.ex (eBin dAt (.nm 5) (.ex (eC (.int 17))))))]))))
  (sSeq (sIf (tE (eBin dNe (.ex (eApp dReprX [(.ex (eBin dAdd (.ex (eNm 8)) (.ex (eNm 9))))])) (.ex (eApp dReprX [(.ex (eBin dRep (.ex (eLst [(eNm 3)])) (.ex (eC (.int 24)))))])))) (sRet (eC (.bool false))) sNil)
  (sSeq (sSet 10 (eLst []))
  (sKill [0, 2, 5, 6, 8, 9, 11] (sSeq (sFor (wSeq (eLst [(eCon (dMkX LC "NoPaper" ["word", "number"]) [(eNm 3), (eNm 4)]), (eCon (dMkX LC "NoPaper" ["number", "word"]) [(eNm 4), (eNm 3)])])) (.nm 11) (sEnd [0, 2, 5, 6, 8, 9, 11] (sDo (eMut 10 fAppend [(eLst [(eUn (dXf LC ["NotOne", "TooMany", "NoTrim", "NoPaper", "NotEven", "NoRing", "BadExchange", "BadPlan", "BadText", "NoEdge", "BadSheet", "BadTear", "NoBar", "BadBars", "BadTwine", "Full", "NothingDone", "NothingUndone", "NoListener"] "word") (.nm 11)), (eUn (dXf LC ["NotOne", "TooMany", "NoTrim", "NoPaper", "NotEven", "NoRing", "BadExchange", "BadPlan", "BadText", "NoEdge", "BadSheet", "BadTear", "NoBar", "BadBars", "BadTwine", "Full", "NothingDone", "NothingUndone", "NoListener"] "number") (.nm 11))])]))))
  (sKill [0, 2, 5, 6, 8, 9, 11] (sSeq (sFor (wSeq (eLst [(eCon (dMkX LC "BadPlan" ["number", "word"]) [(eNm 3), (eNm 4)]), (eCon (dMkX LC "BadPlan" ["word", "number"]) [(eNm 4), (eNm 3)])])) (.nm 11) (sEnd [0, 2, 5, 6, 8, 9, 11] (sDo (eMut 10 fAppend [(eLst [(eUn (dXf LC ["NotOne", "TooMany", "NoTrim", "NoPaper", "NotEven", "NoRing", "BadExchange", "BadPlan", "BadText", "NoEdge", "BadSheet", "BadTear", "NoBar", "BadBars", "BadTwine", "Full", "NothingDone", "NothingUndone", "NoListener"] "number") (.nm 11)), (eUn (dXf LC ["NotOne", "TooMany", "NoTrim", "NoPaper", "NotEven", "NoRing", "BadExchange", "BadPlan", "BadText", "NoEdge", "BadSheet", "BadTear", "NoBar", "BadBars", "BadTwine", "Full", "NothingDone", "NothingUndone", "NoListener"] "word") (.nm 11))])]))))
  (sKill [0, 2, 5, 6, 8, 9, 11] (sSeq (sFor (wSeq (eLst [(eCon (dMkX LC "BadText" ["line", "sign"]) [(eNm 3), (eNm 4)]), (eCon (dMkX LC "BadText" ["sign", "line"]) [(eNm 4), (eNm 3)])])) (.nm 11) (sEnd [0, 2, 5, 6, 8, 9, 11] (sDo (eMut 10 fAppend [(eLst [(eUn (dXf LC ["NotOne", "TooMany", "NoTrim", "NoPaper", "NotEven", "NoRing", "BadExchange", "BadPlan", "BadText", "NoEdge", "BadSheet", "BadTear", "NoBar", "BadBars", "BadTwine", "Full", "NothingDone", "NothingUndone", "NoListener"] "line") (.nm 11)), (eUn (dXf LC ["NotOne", "TooMany", "NoTrim", "NoPaper", "NotEven", "NoRing", "BadExchange", "BadPlan", "BadText", "NoEdge", "BadSheet", "BadTear", "NoBar", "BadBars", "BadTwine", "Full", "NothingDone", "NothingUndone", "NoListener"] "sign") (.nm 11))])]))))
  (sIf (tE (eBin dNe (.ex (eApp dReprX [(.nm 10)])) (.ex (eApp dReprX [(.ex (eBin dRep (.ex (eLst [(eLst [(eNm 3), (eNm 4)])])) (.ex (eC (.int 6)))))])))) (sRet (eC (.bool false))) sNil))))))))))))))))))))))))
  (sRet (eC (.bool true))))))
theorem body_law (T : Tx mg) (hsy : sysB K = true) {sp_law_any : DSp} {sp_law_sorts : DSp} (U : Xs P w K mg base) {LC : Str → Addr} (TI : Xv P w K mg base LC) (C_law_any : Cal P w K mg base 6 "_law_any" ps_law_any pk_law_any fr_law_any sp_law_any) (C_law_sorts : Cal P w K mg base 3 "_law_sorts" ps_law_sorts pk_law_sorts fr_law_sorts sp_law_sorts) {f : Addr} {cdv : Value} {A : Around} {outer : List Env} {s : Shared} {H : Hp} {E : XK} (hr : Room 8 (A.deeper (PyProof.Rows.envOfC "law" (defScope s_law) s.heap.objs.size f cdv))) (hgd : (A.deeper (PyProof.Rows.envOfC "law" (defScope s_law) s.heap.objs.size f cdv)).guards = some []) :
    DSs (CxD.no (cxOf CX0 P w K mg base N_law "law" (defScope s_law) f cdv A outer s H E).nox) κ_law fr_law ((defBody s_law).tail) (W_law LC sp_law_any sp_law_sorts) :=
  (dss_cons (ds_if (dt_cmp (op_ne.or (op_neD hr.units)) ne_ok (((df_lst (dc_cons (de_globI (by rfl) T.c_MAX_SIDE) (dc_cons (de_globI (by rfl) T.c_MAX_WRONG) (dc_cons (de_globI (by rfl) T.c_MAX_EDGE) (dc_cons (de_globI (by rfl) T.c_MAX_DEEDS) dc_nil)))))).de).op (((df_lst (dc_cons de_int (dc_cons de_int (dc_cons de_int (dc_cons de_int dc_nil)))))).de).op (nomark _)) (dss_one (ds_ret de_bl)) dss_nil)
  (dss_kill [0, 2, 3, 4, 5, 6, 8, 9, 10, 11] (dss_cons (ds_for PassesOwn.never rfl (di_rng1 (by rfl) T.range (da_cons (de_int).op da_nil)) (dg_nm 2 sc_law.nd) (dss_end [0, 2, 3, 4, 5, 6, 8, 9, 10, 11] (dss_cons (ds_par2 rfl sc_law.nd (dm_val (de_call C_law_any (hr.mono (by decide)) hgd (da_cons (do_nm 1) (da_cons (de_int).op da_nil))) (dm_val (de_call C_law_any (hr.mono (by decide)) hgd (da_cons (do_nm 1) (da_cons (de_int).op da_nil))) dm_nil)))
  (dss_cons (ds_set (i := 5) sc_law.nd ((df_lst (dc_cons (de_mkX U.c_NotOne TI.v (hr.mono (by decide)) (dc_cons (de_nm 3) dc_nil)) (dc_cons (de_mkX U.c_TooMany TI.v (hr.mono (by decide)) (dc_cons (de_nm 3) dc_nil)) (dc_cons (de_mkX U.c_NoTrim TI.v (hr.mono (by decide)) (dc_cons (de_nm 3) dc_nil)) (dc_cons (de_mkX U.c_NoPaper TI.v (hr.mono (by decide)) (dc_cons (de_nm 3) (dc_cons (de_nm 4) dc_nil))) (dc_cons (de_mkX U.c_NotEven TI.v (hr.mono (by decide)) (dc_cons (de_nm 3) dc_nil)) (dc_cons (de_mkX U.c_NoRing TI.v (hr.mono (by decide)) (dc_cons (de_nm 3) dc_nil)) (dc_cons (de_mkX U.c_BadExchange TI.v (hr.mono (by decide)) (dc_cons (de_nm 3) dc_nil)) dc_nil))))))))).de)
  (dss_cons (ds_set (i := 5) sc_law.nd ((df_op op_cat cat_okN (do_nm 5) (((df_lst (dc_cons (de_mkX0 U.c_NoEdge TI.v (hr.mono (by decide))) (dc_cons (de_mkX U.c_BadSheet TI.v (hr.mono (by decide)) (dc_cons (de_nm 3) dc_nil)) (dc_cons (de_mkX U.c_BadTear TI.v (hr.mono (by decide)) (dc_cons (de_nm 3) dc_nil)) (dc_cons (de_mkX U.c_NoBar TI.v (hr.mono (by decide)) (dc_cons (de_nm 3) dc_nil)) (dc_cons (de_mkX U.c_BadBars TI.v (hr.mono (by decide)) (dc_cons (de_nm 3) dc_nil)) (dc_cons (de_mkX U.c_BadTwine TI.v (hr.mono (by decide)) (dc_cons (de_nm 3) dc_nil)) (dc_cons (de_mkX U.c_BadPlan TI.v (hr.mono (by decide)) (dc_cons (de_nm 3) (dc_cons (de_nm 4) dc_nil))) dc_nil))))))))).de).op)).de)
  (dss_cons (ds_set (i := 5) sc_law.nd ((df_op op_cat cat_okN (do_nm 5) (((df_lst (dc_cons (de_mkX0 U.c_Full TI.v (hr.mono (by decide))) (dc_cons (de_mkX0 U.c_NothingDone TI.v (hr.mono (by decide))) (dc_cons (de_mkX0 U.c_NothingUndone TI.v (hr.mono (by decide))) (dc_cons (de_mkX U.c_NoListener TI.v (hr.mono (by decide)) (dc_cons (de_nm 3) dc_nil)) (dc_cons (de_mkX U.c_BadText TI.v (hr.mono (by decide)) (dc_cons (de_nm 3) (dc_cons (de_nm 4) dc_nil))) dc_nil))))))).de).op)).de)
  (dss_kill [0, 2, 6, 8, 9, 10, 11] (dss_cons (ds_for PassesOwn.never rfl (di_rng1 (by rfl) T.range (da_cons ((de_callB call_len len_ok (by rfl) T.len (by decide +kernel) (da_cons (do_nm 5) da_nil))).op da_nil)) (dg_nm 6 sc_law.nd) (dss_end [0, 2, 6, 8, 9, 10, 11] (dss_cons (ds_if (dt_cmp (op_ne.or (op_neD hr.units)) ne_ok ((de_call C_law_sorts (hr.mono (by decide)) hgd (da_cons ((de_ix (ix_all (hu65 hr)) at_ok (do_nm 5) (do_nm 6))).op da_nil))).op (((df_lc (own := [("_law_j", 7)]) (sl := []) rfl sc_law.nd (di_rng1 (by rfl) T.range (da_cons (de_int).op da_nil)) (blkOk_by (by first | exact (show blkC N_law (defScope s_law) _ _ = true from by decide +kernel) | rfl)) (fun _ _ _ _ _ => (dg_nm 7 sc_law.nd)) (fun _ _ _ _ _ => dts_nil) (fun _ _ _ _ _ => (de_cmp (op_eq.or (op_eqD hr.units)) eq_ok (do_nm 7) (do_nm 6) (nomark _))))).de).op (nomark _)) (dss_one (ds_ret de_bl)) dss_nil)
  (dss_one (ds_if ((dw_or (dt_not (dt_val (de_xis U.sub TI.v (by rfl) T.isinstance (by rfl) ((de_ix (ix_all (hu65 hr)) at_ok (do_nm 5) (do_nm 6))).op))) (dw_or1 (dt_not (dt_val (de_xisVE U.sub TI.v (by rfl) T.isinstance (by rfl) T.ValueError ((de_ix (ix_all (hu65 hr)) at_ok (do_nm 5) (do_nm 6))).op)))))).dt (dss_one (ds_ret de_bl)) dss_nil)))))
  (dss_cons (ds_set (i := 8) sc_law.nd ((df_lst (dc_cons (de_xf U.sub TI.v (DE.op (de_mkXK TI.k_NotOne TI.v (hr.mono (by decide)) (dkc_cons (de_nm 3) dkc_nil)))) (dc_cons (de_xf U.sub TI.v (DE.op (de_mkXK TI.k_TooMany TI.v (hr.mono (by decide)) (dkc_cons (de_nm 3) dkc_nil)))) (dc_cons (de_xf U.sub TI.v (DE.op (de_mkXK TI.k_NoTrim TI.v (hr.mono (by decide)) (dkc_cons (de_nm 3) dkc_nil)))) (dc_cons (de_xf U.sub TI.v (DE.op (de_mkXK TI.k_NotEven TI.v (hr.mono (by decide)) (dkc_cons (de_nm 3) dkc_nil)))) dc_nil)))))).de)
  (dss_cons (ds_set (i := 8) sc_law.nd ((df_op op_cat cat_okN (do_nm 8) (((df_lst (dc_cons (de_xf U.sub TI.v (DE.op (de_mkXK TI.k_NoRing TI.v (hr.mono (by decide)) (dkc_cons (de_nm 3) dkc_nil)))) (dc_cons (de_xf U.sub TI.v (DE.op (de_mkXK TI.k_BadExchange TI.v (hr.mono (by decide)) (dkc_cons (de_nm 3) dkc_nil)))) (dc_cons (de_xf U.sub TI.v (DE.op (de_mkXK TI.k_BadSheet TI.v (hr.mono (by decide)) (dkc_cons (de_nm 3) dkc_nil)))) dc_nil))))).de).op)).de)
  (dss_cons (ds_set (i := 8) sc_law.nd ((df_op op_cat cat_okN (do_nm 8) (((df_lst (dc_cons (de_xf U.sub TI.v (DE.op (de_mkXK TI.k_BadTear TI.v (hr.mono (by decide)) (dkc_cons (de_nm 3) dkc_nil)))) (dc_cons (de_xf U.sub TI.v (DE.op (de_mkXK TI.k_NoBar TI.v (hr.mono (by decide)) (dkc_cons (de_nm 3) dkc_nil)))) (dc_cons (de_xf U.sub TI.v (DE.op (de_mkXK TI.k_BadBars TI.v (hr.mono (by decide)) (dkc_cons (de_nm 3) dkc_nil)))) dc_nil))))).de).op)).de)
  (dss_cons (ds_set (i := 8) sc_law.nd ((df_op op_cat cat_okN (do_nm 8) (((df_lst (dc_cons (de_xf U.sub TI.v (DE.op (de_mkXK TI.k_BadTwine TI.v (hr.mono (by decide)) (dkc_cons (de_nm 3) dkc_nil)))) (dc_cons (de_xf U.sub TI.v (DE.op (de_mkXK TI.k_NoListener TI.v (hr.mono (by decide)) (dkc_cons (de_nm 3) dkc_nil)))) dc_nil)))).de).op)).de)
  (dss_cons (ds_set (i := 9) sc_law.nd ((df_lst (dc_cons (de_xf U.sub TI.v ((de_ix (ix_all (hu65 hr)) at_ok (do_nm 5) (de_int).op)).op) (dc_cons (de_xf U.sub TI.v ((de_ix (ix_all (hu65 hr)) at_ok (do_nm 5) (de_int).op)).op) (dc_cons (de_xf U.sub TI.v ((de_ix (ix_all (hu65 hr)) at_ok (do_nm 5) (de_int).op)).op) (dc_cons (de_xf U.sub TI.v ((de_ix (ix_all (hu65 hr)) at_ok (do_nm 5) (de_int).op)).op) (dc_cons (de_xf U.sub TI.v ((de_ix (ix_all (hu65 hr)) at_ok (do_nm 5) (de_int).op)).op) (dc_cons (de_xf U.sub TI.v ((de_ix (ix_all (hu65 hr)) at_ok (do_nm 5) (de_int).op)).op) dc_nil)))))))).de)
  (dss_cons (ds_set (i := 9) sc_law.nd ((df_op op_cat cat_okN (do_nm 9) (((df_lst (dc_cons (de_xf U.sub TI.v ((de_ix (ix_all (hu65 hr)) at_ok (do_nm 5) (de_int).op)).op) (dc_cons (de_xf U.sub TI.v ((de_ix (ix_all (hu65 hr)) at_ok (do_nm 5) (de_int).op)).op) (dc_cons (de_xf U.sub TI.v ((de_ix (ix_all (hu65 hr)) at_ok (do_nm 5) (de_int).op)).op) (dc_cons (de_xf U.sub TI.v ((de_ix (ix_all (hu65 hr)) at_ok (do_nm 5) (de_int).op)).op) dc_nil)))))).de).op)).de)
  (dss_cons (ds_set (i := 9) sc_law.nd ((df_op op_cat cat_okN (do_nm 9) (((df_lst (dc_cons (de_xf U.sub TI.v ((de_ix (ix_all (hu65 hr)) at_ok (do_nm 5) (de_int).op)).op) (dc_cons (de_xf U.sub TI.v ((de_ix (ix_all (hu65 hr)) at_ok (do_nm 5) (de_int).op)).op) dc_nil)))).de).op)).de)
  (dss_cons (ds_if (dt_cmp (op_ne.or (op_neD hr.units)) ne_ok ((de_callB (call_reprX hr hgd hsy) reprX_ok (by rfl) T.repr (by decide +kernel) (da_cons ((de_opC op_addA add_ok (de_nm 8) (de_nm 9))).op da_nil))).op ((de_callB (call_reprX hr hgd hsy) reprX_ok (by rfl) T.repr (by decide +kernel) (da_cons (((df_op op_rep rep_ok (((df_lst (dc_cons (de_nm 3) dc_nil))).de).op (de_int).op)).de).op da_nil))).op (nomark _)) (dss_one (ds_ret de_bl)) dss_nil)
  (dss_cons (ds_setF (i := 10) sc_law.nd (df_lst dc_nil))
  (dss_kill [0, 2, 5, 6, 8, 9, 11] (dss_cons (ds_for PassesOwn.never rfl (di_seq ((df_lst (dc_cons (de_mkX U.c_NoPaper TI.v (hr.mono (by decide)) (dc_cons (de_nm 3) (dc_cons (de_nm 4) dc_nil))) (dc_cons (de_mkXK TI.k_NoPaper_r TI.v (hr.mono (by decide)) (dkc_cons (de_nm 4) (dkc_cons (de_nm 3) dkc_nil))) dc_nil)))).de) (dg_nm 11 sc_law.nd) (dss_end [0, 2, 5, 6, 8, 9, 11] (dss_one (ds_expr (de_mut (i := 10) PySem.F.slot_list_append PySem.F.type_list_append mt_append append_ok (dc_cons ((df_lst (dc_cons (de_xf U.sub TI.v (do_nm 11)) (dc_cons (de_xf U.sub TI.v (do_nm 11)) dc_nil)))).de dc_nil))))))
  (dss_kill [0, 2, 5, 6, 8, 9, 11] (dss_cons (ds_for PassesOwn.never rfl (di_seq ((df_lst (dc_cons (de_mkX U.c_BadPlan TI.v (hr.mono (by decide)) (dc_cons (de_nm 3) (dc_cons (de_nm 4) dc_nil))) (dc_cons (de_mkXK TI.k_BadPlan_r TI.v (hr.mono (by decide)) (dkc_cons (de_nm 4) (dkc_cons (de_nm 3) dkc_nil))) dc_nil)))).de) (dg_nm 11 sc_law.nd) (dss_end [0, 2, 5, 6, 8, 9, 11] (dss_one (ds_expr (de_mut (i := 10) PySem.F.slot_list_append PySem.F.type_list_append mt_append append_ok (dc_cons ((df_lst (dc_cons (de_xf U.sub TI.v (do_nm 11)) (dc_cons (de_xf U.sub TI.v (do_nm 11)) dc_nil)))).de dc_nil))))))
  (dss_kill [0, 2, 5, 6, 8, 9, 11] (dss_cons (ds_for PassesOwn.never rfl (di_seq ((df_lst (dc_cons (de_mkX U.c_BadText TI.v (hr.mono (by decide)) (dc_cons (de_nm 3) (dc_cons (de_nm 4) dc_nil))) (dc_cons (de_mkXK TI.k_BadText_r TI.v (hr.mono (by decide)) (dkc_cons (de_nm 4) (dkc_cons (de_nm 3) dkc_nil))) dc_nil)))).de) (dg_nm 11 sc_law.nd) (dss_end [0, 2, 5, 6, 8, 9, 11] (dss_one (ds_expr (de_mut (i := 10) PySem.F.slot_list_append PySem.F.type_list_append mt_append append_ok (dc_cons ((df_lst (dc_cons (de_xf U.sub TI.v (do_nm 11)) (dc_cons (de_xf U.sub TI.v (do_nm 11)) dc_nil)))).de dc_nil))))))
  (dss_one (ds_if (dt_cmp (op_ne.or (op_neD hr.units)) ne_ok ((de_callB (call_reprX hr hgd hsy) reprX_ok (by rfl) T.repr (by decide +kernel) (da_cons (do_nm 10) da_nil))).op ((de_callB (call_reprX hr hgd hsy) reprX_ok (by rfl) T.repr (by decide +kernel) (da_cons (((df_op op_rep rep_ok (((df_lst (dc_cons ((df_lst (dc_cons (de_nm 3) (dc_cons (de_nm 4) dc_nil)))).de dc_nil))).de).op (de_int).op)).de).op da_nil))).op (nomark _)) (dss_one (ds_ret de_bl)) dss_nil)))))))))))))))))))))))))
  (dss_one (ds_ret de_bl)))))
theorem is_law {LC : Str → Addr} : IS RX.no (W_law LC (spM (F_law_any 3)) (spP (F_law_sorts LC))) (S_law LC) :=
  (is_seq (is_if ((it_P (ip_bin ((ip_lst (ipc_c ip_C (ipc_c ip_C (ipc_c ip_C (ipc_c ip_C ipc_n)))))).o ((ip_lst (ipc_c ip_C (ipc_c ip_C (ipc_c ip_C (ipc_c ip_C ipc_n)))))).o))).t (is_ret (ip_C).e) is_nil)
  (is_kill (is_seq (is_for (II.m (ii_app (ipa_c (ip_C).o ipa_n))) (is_end (is_seq (is_par (imc_c (ie_call (ima_c imo_nm (ima_c (IE.o (ip_C).e) ima_n))) (imc_c (ie_call (ima_c imo_nm (ima_c (IE.o (ip_C).e) ima_n))) imc_n)))
  (is_seq (is_set ((ip_lst (ipc_c (ip_con (ipc_c ip_nm ipc_n)) (ipc_c (ip_con (ipc_c ip_nm ipc_n)) (ipc_c (ip_con (ipc_c ip_nm ipc_n)) (ipc_c (ip_con (ipc_c ip_nm (ipc_c ip_nm ipc_n))) (ipc_c (ip_con (ipc_c ip_nm ipc_n)) (ipc_c (ip_con (ipc_c ip_nm ipc_n)) (ipc_c (ip_con (ipc_c ip_nm ipc_n)) ipc_n))))))) (Nat.le_of_ble_eq_true rfl))).e)
  (is_seq (is_set ((ip_bin ipo_nm ((ip_lst (ipc_c (ip_con ipc_n) (ipc_c (ip_con (ipc_c ip_nm ipc_n)) (ipc_c (ip_con (ipc_c ip_nm ipc_n)) (ipc_c (ip_con (ipc_c ip_nm ipc_n)) (ipc_c (ip_con (ipc_c ip_nm ipc_n)) (ipc_c (ip_con (ipc_c ip_nm ipc_n)) (ipc_c (ip_con (ipc_c ip_nm (ipc_c ip_nm ipc_n))) ipc_n))))))) (Nat.le_of_ble_eq_true rfl))).o)).e)
  (is_seq (is_set ((ip_bin ipo_nm ((ip_lst (ipc_c (ip_con ipc_n) (ipc_c (ip_con ipc_n) (ipc_c (ip_con ipc_n) (ipc_c (ip_con (ipc_c ip_nm ipc_n)) (ipc_c (ip_con (ipc_c ip_nm (ipc_c ip_nm ipc_n))) ipc_n))))) (Nat.le_of_ble_eq_true rfl))).o)).e)
  (is_kill (is_seq (is_for (II.m (ii_app (ipa_c ((ip_app (ipa_c ipo_nm ipa_n))).o ipa_n))) (is_end (is_seq (is_if ((it_P (ip_bin ((ip_call (ipa_c ((ip_bin ipo_nm ipo_nm)).o ipa_n))).o ((ip_lc (sl := []) (ii_app (ipa_c (ip_C).o ipa_n)) it_yes (ip_bin ipo_nm ipo_nm))).o))).t (is_ret (ip_C).e) is_nil)
  (is_if ((it_or (it_not (it_P (ip_un ((ip_bin ipo_nm ipo_nm)).o))) (it_not (it_P (ip_un ((ip_bin ipo_nm ipo_nm)).o))))).t (is_ret (ip_C).e) is_nil))))
  (is_seq (is_set ((ip_lst (ipc_c (ip_un ((ip_con (ipc_c ip_nm ipc_n))).o) (ipc_c (ip_un ((ip_con (ipc_c ip_nm ipc_n))).o) (ipc_c (ip_un ((ip_con (ipc_c ip_nm ipc_n))).o) (ipc_c (ip_un ((ip_con (ipc_c ip_nm ipc_n))).o) ipc_n)))) (Nat.le_of_ble_eq_true rfl))).e)
  (is_seq (is_set ((ip_bin ipo_nm ((ip_lst (ipc_c (ip_un ((ip_con (ipc_c ip_nm ipc_n))).o) (ipc_c (ip_un ((ip_con (ipc_c ip_nm ipc_n))).o) (ipc_c (ip_un ((ip_con (ipc_c ip_nm ipc_n))).o) ipc_n))) (Nat.le_of_ble_eq_true rfl))).o)).e)
  (is_seq (is_set ((ip_bin ipo_nm ((ip_lst (ipc_c (ip_un ((ip_con (ipc_c ip_nm ipc_n))).o) (ipc_c (ip_un ((ip_con (ipc_c ip_nm ipc_n))).o) (ipc_c (ip_un ((ip_con (ipc_c ip_nm ipc_n))).o) ipc_n))) (Nat.le_of_ble_eq_true rfl))).o)).e)
  (is_seq (is_set ((ip_bin ipo_nm ((ip_lst (ipc_c (ip_un ((ip_con (ipc_c ip_nm ipc_n))).o) (ipc_c (ip_un ((ip_con (ipc_c ip_nm ipc_n))).o) ipc_n)) (Nat.le_of_ble_eq_true rfl))).o)).e)
  (is_seq (is_set ((ip_lst (ipc_c (ip_un ((ip_bin ipo_nm (ip_C).o)).o) (ipc_c (ip_un ((ip_bin ipo_nm (ip_C).o)).o) (ipc_c (ip_un ((ip_bin ipo_nm (ip_C).o)).o) (ipc_c (ip_un ((ip_bin ipo_nm (ip_C).o)).o) (ipc_c (ip_un ((ip_bin ipo_nm (ip_C).o)).o) (ipc_c (ip_un ((ip_bin ipo_nm (ip_C).o)).o) ipc_n)))))) (Nat.le_of_ble_eq_true rfl))).e)
  (is_seq (is_set ((ip_bin ipo_nm ((ip_lst (ipc_c (ip_un ((ip_bin ipo_nm (ip_C).o)).o) (ipc_c (ip_un ((ip_bin ipo_nm (ip_C).o)).o) (ipc_c (ip_un ((ip_bin ipo_nm (ip_C).o)).o) (ipc_c (ip_un ((ip_bin ipo_nm (ip_C).o)).o) ipc_n)))) (Nat.le_of_ble_eq_true rfl))).o)).e)
  (is_seq (is_set ((ip_bin ipo_nm ((ip_lst (ipc_c (ip_un ((ip_bin ipo_nm (ip_C).o)).o) (ipc_c (ip_un ((ip_bin ipo_nm (ip_C).o)).o) ipc_n)) (Nat.le_of_ble_eq_true rfl))).o)).e)
  (is_seq (is_if ((it_P (ip_bin ((ip_app (ipa_c ((ip_bin (ip_nm).o (ip_nm).o)).o ipa_n))).o ((ip_app (ipa_c ((ip_bin ((ip_lst (ipc_c ip_nm ipc_n))).o (ip_C).o)).o ipa_n))).o))).t (is_ret (ip_C).e) is_nil)
  (is_seq (is_set ((ip_lst ipc_n)).e)
  (is_kill (is_seq (is_for (II.m (ii_seq (ip_lst (ipc_c (ip_con (ipc_c ip_nm (ipc_c ip_nm ipc_n))) (ipc_c (ip_con (ipc_c ip_nm (ipc_c ip_nm ipc_n))) ipc_n)) (Nat.le_of_ble_eq_true rfl)))) (is_end (is_do (ie_mut (imc_c ((ip_lst (ipc_c (ip_un ipo_nm) (ipc_c (ip_un ipo_nm) ipc_n)) (Nat.le_of_ble_eq_true rfl))).e imc_n)))))
  (is_kill (is_seq (is_for (II.m (ii_seq (ip_lst (ipc_c (ip_con (ipc_c ip_nm (ipc_c ip_nm ipc_n))) (ipc_c (ip_con (ipc_c ip_nm (ipc_c ip_nm ipc_n))) ipc_n)) (Nat.le_of_ble_eq_true rfl)))) (is_end (is_do (ie_mut (imc_c ((ip_lst (ipc_c (ip_un ipo_nm) (ipc_c (ip_un ipo_nm) ipc_n)) (Nat.le_of_ble_eq_true rfl))).e imc_n)))))
  (is_kill (is_seq (is_for (II.m (ii_seq (ip_lst (ipc_c (ip_con (ipc_c ip_nm (ipc_c ip_nm ipc_n))) (ipc_c (ip_con (ipc_c ip_nm (ipc_c ip_nm ipc_n))) ipc_n)) (Nat.le_of_ble_eq_true rfl)))) (is_end (is_do (ie_mut (imc_c ((ip_lst (ipc_c (ip_un ipo_nm) (ipc_c (ip_un ipo_nm) ipc_n)) (Nat.le_of_ble_eq_true rfl))).e imc_n)))))
  (is_if ((it_P (ip_bin ((ip_app (ipa_c ipo_nm ipa_n))).o ((ip_app (ipa_c ((ip_bin ((ip_lst (ipc_c (ip_lst (ipc_c ip_nm (ipc_c ip_nm ipc_n))) ipc_n))).o (ip_C).o)).o ipa_n))).o))).t (is_ret (ip_C).e) is_nil))))))))))))))))))))))))
  (is_ret (ip_C).e))))
theorem okg_law {LC : Str → Addr} (main : ∀ ns : List Int, ns.length ≤ 63 → ∃ ε, S_law LC (lawS 10 ns) = some (.ok (.rt (.bool true)) ε)) (T : Tx mg) (hsy : sysB K = true) (U : Xs P w K mg base) (TI : Xv P w K mg base LC) (C_law_any : Cal P w K mg base 6 "_law_any" ps_law_any pk_law_any fr_law_any (spM (F_law_any 3))) (C_law_sorts : Cal P w K mg base 3 "_law_sorts" ps_law_sorts pk_law_sorts fr_law_sorts (spP (F_law_sorts LC))) {f fD : Addr} {fd fdD : FuncData} (F : Fun K "law" "law" s_law f fd) (FD : Fun K "_law_deck" "_law_deck" s_law_deck fD fdD) (gD : mg "_law_deck" = some (.ref fD)) : FnG P w K mg base CX0 9 f fd ["_law_script"] (spLawG K) :=
  ok_law (κr := κ_law.tail.tail) F sc_law rfl (s1 := (defBody s_law).headD (.Pass ⟨0, 0, 0, 0⟩)) (rest := (defBody s_law).tail) rfl
    (fun cdv A outer s H E hr hgd => ps_set (i := 1) sc_law.nd rfl (by first | exact Or.inl rfl | exact Or.inr rfl) (pe_callG (ok_deck FD sc_law_deck fun cdv A outer s H E => pss_one (ps_ret (pe_lst (pa_cons (pe_callTy call_list_of (by rfl) T.list (by decide +kernel) (pa_cons (pe_slice sl_list (pv 0) po_none (po_some pe_int)) pa_nil)) (pa_cons pe_int (pa_cons pe_int (pa_cons pe_int pa_nil)))))))
      (hr.mono (by decide)) hgd rfl gD FD.kp (FD.binds fun _ _ _ _ _ _ us hl => match us, hl with | [_], _ => rfl) pass0 (pa_cons (pv 0) pa_nil) (by decide) rfl rfl))
    (fun cdv A outer s H E hr hgd => body_law T hsy U TI C_law_any C_law_sorts hr hgd) fun ns hl => snd_law is_law (main ns hl)
end
end L32
namespace FL
open PySem PySem.Spec L2 DL
end FL
namespace FL
open PySem PySem.Spec L2 DL
section
variable {α : Type} [DecidableEq α]
inductive Reach (nb : α → List α) (b : α) : α → Prop
  | refl : Reach nb b b
  | step {x y : α} : Reach nb b x → y ∈ nb x → Reach nb b y
theorem Reach.trans {nb : α → List α} {a b c : α} (h : Reach nb a b) (k : Reach nb b c) : Reach nb a c := by
  induction k with
  | refl => exact h
  | step _ h2 ih => exact .step ih h2
theorem Reach.symm {nb : α → List α} (sy : ∀ x y, y ∈ nb x → x ∈ nb y) {a b : α} (h : Reach nb a b) : Reach nb b a := by
  induction h with
  | refl => exact .refl
  | step _ h2 ih => exact Reach.trans (.step .refl (sy _ _ h2)) ih
theorem Reach.inv {nb : α → List α} {P : α → Prop} {b : α} (hb : P b) (hs : ∀ x y, P x → y ∈ nb x → P y) {c : α} (h : Reach nb b c) : P c := by
  induction h with
  | refl => exact hb
  | step _ h2 ih => exact hs _ _ ih h2
theorem Reach.mono {nb nb' : α → List α} {b : α} {P : α → Prop} (hb : P b) (h : ∀ x y, P x → y ∈ nb x → y ∈ nb' x ∧ P y) {c : α} (r : Reach nb b c) : Reach nb' b c := by
  have : Reach nb' b c ∧ P c := by
    induction r with
    | refl => exact ⟨.refl, hb⟩
    | step _ h2 ih => exact ⟨.step ih.1 (h _ _ ih.2 h2).1, (h _ _ ih.2 h2).2⟩
  exact this.1
def addN (s : List α × List α) (o : α) : List α × List α := if o ∈ s.1 then s else (s.1 ++ [o], s.2 ++ [o])
theorem addN_fold : ∀ (os : List α) (F W : List α), ∃ N : List α, os.foldl addN (F, W) = (F ++ N, W ++ N) ∧ N.Nodup ∧ ∀ x, x ∈ N ↔ x ∈ os ∧ x ∉ F
  | [], F, W => ⟨[], by simp, List.nodup_nil, fun x => by simp⟩
  | o :: os, F, W => by
    rw [List.foldl_cons]
    by_cases h : o ∈ F
    · obtain ⟨N, h1, h2, h3⟩ := addN_fold os F W
      refine ⟨N, by rw [show addN (F, W) o = (F, W) from if_pos h, h1], h2, fun x => ?_⟩
      rw [h3, List.mem_cons]
      exact ⟨fun ⟨a, b⟩ => ⟨.inr a, b⟩, fun ⟨a, b⟩ => ⟨a.resolve_left fun e => b (e ▸ h), b⟩⟩
    · obtain ⟨N, h1, h2, h3⟩ := addN_fold os (F ++ [o]) (W ++ [o])
      refine ⟨o :: N, by rw [show addN (F, W) o = (F ++ [o], W ++ [o]) from if_neg h, h1]; simp, List.nodup_cons.mpr ⟨fun z => ((h3 o).mp z).2 (by simp), h2⟩, fun x => ?_⟩
      rw [List.mem_cons, h3, List.mem_append, List.mem_singleton, List.mem_cons]
      constructor
      · rintro (rfl | ⟨a, b⟩)
        · exact ⟨.inl rfl, h⟩
        · exact ⟨.inr a, fun z => b (.inl z)⟩
      · rintro ⟨a, b⟩
        by_cases e : x = o
        · exact .inl e
        · exact .inr ⟨a.resolve_left e, fun z => z.elim b e⟩
/-- a walk that takes the last one that waits -/
theorem dfs_while {t : M Bool} {s : FS} {e : List α → List α → En} {nb : α → List α} {U : List α} {b : α} (ht : ∀ F W, t (e F W) = some (.ok (!decide (W = [])) (e F W)))
    (hs : ∀ F W x, F.length ≤ U.length → W.length ≤ U.length → x ∈ U → (∀ y ∈ F, y ∈ U) → s (e F (W ++ [x])) = some (.ok .nx (e ((nb x).foldl addN (F, W)).1 ((nb x).foldl addN (F, W)).2)))
    (hU : ∀ x ∈ U, ∀ y ∈ nb x, y ∈ U) (hb : b ∈ U) : ∃ F, fWhile t s (e [b] [b]) = some (.ok .nx (e F [])) ∧ F.Nodup ∧ ∀ x, x ∈ F ↔ Reach nb b x := by
  have go : ∀ (n : Nat) (F W : List α), 2 * (U.length - F.length) + W.length ≤ n → F.Nodup → W.Nodup → (∀ x ∈ F, x ∈ U) → (∀ x ∈ W, x ∈ F) → b ∈ F → (∀ x ∈ F, Reach nb b x) → (∀ x ∈ F, x ∉ W → ∀ y ∈ nb x, y ∈ F) →
      ∃ F', fWhile t s (e F W) = some (.ok .nx (e F' [])) ∧ F'.Nodup ∧ ∀ x, x ∈ F' ↔ Reach nb b x := by
    intro n
    induction n with
    | zero =>
      intro F W hn fn wn fu wf hb' re cl
      have w0 : W = [] := List.length_eq_zero_iff.mp (by omega)
      subst w0
      refine ⟨F, ?_, fn, fun x => ⟨re x, fun r => Reach.inv hb' (fun x y hx hy => cl x hx (by simp) y hy) r⟩⟩
      rw [fWhile_eq, ht]
      rfl
    | succ n ih =>
      intro F W hn fn wn fu wf hb' re cl
      rcases List.eq_nil_or_concat W with w0 | ⟨W0, x, rfl⟩
      · subst w0
        refine ⟨F, ?_, fn, fun x => ⟨re x, fun r => Reach.inv hb' (fun x y hx hy => cl x hx (by simp) y hy) r⟩⟩
        rw [fWhile_eq, ht]
        rfl
      · rw [List.concat_eq_append] at *
        have fl : F.length ≤ U.length := fn.length_le_of_subset fun y hy => fu y hy
        have wl : (W0 ++ [x]).length ≤ F.length := wn.length_le_of_subset fun y hy => wf y hy
        have xF : x ∈ F := wf x (by simp)
        have ne : (W0 ++ [x] = []) = False := by simp
        obtain ⟨N, h1, h2, h3⟩ := addN_fold (nb x) F W0
        obtain ⟨wn1, _, wn3⟩ := List.nodup_append.mp wn
        have x0 : x ∉ W0 := fun z => wn3 x z x (by simp) rfl
        have fN : (F ++ N).Nodup := List.nodup_append.mpr ⟨fn, h2, fun a ha c hc e => ((h3 c).mp hc).2 (e ▸ ha)⟩
        have fU : ∀ y ∈ F ++ N, y ∈ U := fun y hy => (List.mem_append.mp hy).elim (fu y) fun hy => hU x (fu x xF) y ((h3 y).mp hy).1
        have l2 : (F ++ N).length ≤ U.length := fN.length_le_of_subset fun y hy => fU y hy
        rw [List.length_append] at l2 wl hn
        rw [List.length_singleton] at wl hn
        obtain ⟨F', e', r'⟩ := ih (F ++ N) (W0 ++ N) (by rw [List.length_append, List.length_append]; omega) fN
          (List.nodup_append.mpr ⟨wn1, h2, fun a ha c hc e => ((h3 c).mp hc).2 (e ▸ wf a (List.mem_append_left _ ha))⟩) fU
          (fun y hy => (List.mem_append.mp hy).elim (fun hy => List.mem_append_left _ (wf y (List.mem_append_left _ hy))) fun hy => List.mem_append_right _ hy)
          (List.mem_append_left _ hb')
          (fun y hy => (List.mem_append.mp hy).elim (re y) fun hy => .step (re x xF) ((h3 y).mp hy).1)
          (fun y hy hw z hz => by
            have hy : y ∈ F := (List.mem_append.mp hy).resolve_right fun q => hw (List.mem_append_right _ q)
            by_cases q : y = x
            · subst q
              by_cases zf : z ∈ F
              · exact List.mem_append_left _ zf
              · exact List.mem_append_right _ ((h3 z).mpr ⟨hz, zf⟩)
            · refine List.mem_append_left _ (cl y hy (fun q2 => ?_) z hz)
              rcases List.mem_append.mp q2 with q2 | q2
              · exact hw (List.mem_append_left _ q2)
              · exact q (List.mem_singleton.mp q2))
        refine ⟨F', ?_, r'⟩
        rw [fWhile_eq, ht]
        simp only [bd_ok, ne, decide_false, Bool.not_false, if_true]
        rw [hs F W0 x fl (by omega) (fu x xF) fu, lp_nx, h1]
        exact e'
  exact go _ [b] [b] (Nat.le_refl _) (by simp) (by simp) (by simpa using hb) (by simp) (by simp) (by intro x hx; rw [List.mem_singleton.mp hx]; exact .refl) (by intro x hx hn; exact absurd hx hn)
/-- the same where what is left is kept: L left, H done, W waiting -/
theorem dfs2_while {t : M Bool} {s : FS} {e : List α → List α → List α → En} {near : α → α → Bool} {L0 : List α} {b : α} (ht : ∀ L H W, t (e L H W) = some (.ok (!decide (W = [])) (e L H W)))
    (hs : ∀ L H W x, L.length ≤ L0.length → H.length ≤ L0.length + 1 → W.length ≤ L0.length + 1 → x ∈ b :: L0 → s (e L H (W ++ [x])) = some (.ok .nx (e (L.filter fun y => !decide (y ∈ W ++ L.filter (near x))) (H ++ [x]) (W ++ L.filter (near x)))))
    (hn : L0.Nodup) (hb : b ∉ L0) : ∃ H, fWhile t s (e L0 [] [b]) = some (.ok .nx (e (L0.filter fun y => !decide (y ∈ H)) H [])) ∧ H.Nodup ∧ ∀ x, x ∈ H ↔ Reach (fun x => L0.filter (near x)) b x := by
  have go : ∀ (n : Nat) (L H W : List α), 2 * L.length + W.length ≤ n → L = (L0.filter fun y => !decide (y ∈ H ++ W)) → (H ++ W).Nodup → (∀ x ∈ H ++ W, x ∈ b :: L0) → b ∈ H ++ W → (∀ x ∈ H ++ W, Reach (fun x => L0.filter (near x)) b x) → (∀ x ∈ H, ∀ y ∈ L0, near x y = true → y ∈ H ++ W) →
      ∃ H', fWhile t s (e L H W) = some (.ok .nx (e (L0.filter fun y => !decide (y ∈ H')) H' [])) ∧ H'.Nodup ∧ ∀ x, x ∈ H' ↔ Reach (fun x => L0.filter (near x)) b x := by
    intro n
    induction n with
    | zero =>
      intro L H W hm eL nd su hb' re cl
      have w0 : W = [] := List.length_eq_zero_iff.mp (by omega)
      subst w0
      rw [List.append_nil] at *
      refine ⟨H, ?_, nd, fun x => ⟨re x, fun r => Reach.inv hb' (fun x y hx hy => cl x hx y (List.mem_filter.mp hy).1 (List.mem_filter.mp hy).2) r⟩⟩
      rw [fWhile_eq, ht, eL]
      rfl
    | succ n ih =>
      intro L H W hm eL nd su hb' re cl
      rcases List.eq_nil_or_concat W with w0 | ⟨W0, x, rfl⟩
      · subst w0
        rw [List.append_nil] at *
        refine ⟨H, ?_, nd, fun x => ⟨re x, fun r => Reach.inv hb' (fun x y hx hy => cl x hx y (List.mem_filter.mp hy).1 (List.mem_filter.mp hy).2) r⟩⟩
        rw [fWhile_eq, ht, eL]
        rfl
      · rw [List.concat_eq_append] at *
        have ne : (W0 ++ [x] = []) = False := by simp
        have all := nd.length_le_of_subset (l₂ := b :: L0) fun y hy => su y hy
        rw [List.length_append, List.length_append, List.length_singleton, List.length_cons] at all
        have ll : L.length ≤ L0.length := by rw [eL]; exact List.length_filter_le _ _
        have xF : x ∈ H ++ (W0 ++ [x]) := by simp
        have memL : ∀ y, y ∈ L ↔ y ∈ L0 ∧ y ∉ H ++ (W0 ++ [x]) := fun y => by rw [eL, List.mem_filter, Bool.not_eq_true', decide_eq_false_iff_not]
        generalize hN : L.filter (near x) = N at *
        have memN : ∀ y, y ∈ N ↔ y ∈ L ∧ near x y = true := fun y => by rw [← hN, List.mem_filter]
        have Lnd : L.Nodup := by rw [eL]; exact hn.filter _
        have Nnd : N.Nodup := by rw [← hN]; exact Lnd.filter _
        -- what waits then
        have nd' : ((H ++ [x]) ++ (W0 ++ N)).Nodup := by
          have p : ((H ++ (W0 ++ [x])) ++ N).Nodup := List.nodup_append.mpr ⟨nd, Nnd, fun a ha c hc e => ((memL c).mp ((memN c).mp hc).1).2 (e ▸ ha)⟩
          refine (List.Perm.nodup_iff ?_).mpr p
          rw [List.append_assoc, List.append_assoc, List.append_assoc]
          refine List.Perm.append_left H ?_
          exact (List.perm_middle (l₁ := W0) (a := x) (l₂ := N)).symm
        have mem' : ∀ y, y ∈ (H ++ [x]) ++ (W0 ++ N) ↔ y ∈ H ++ (W0 ++ [x]) ∨ y ∈ N := fun y => by
          simp only [List.mem_append, List.mem_singleton]
          constructor
          · rintro ((h | h) | h | h)
            · exact .inl (.inl h)
            · exact .inl (.inr (.inr h))
            · exact .inl (.inr (.inl h))
            · exact .inr h
          · rintro ((h | h | h) | h)
            · exact .inl (.inl h)
            · exact .inr (.inl h)
            · exact .inl (.inr h)
            · exact .inr (.inr h)
        have eL' : (L.filter fun y => !decide (y ∈ W0 ++ N)) = L0.filter fun y => !decide (y ∈ (H ++ [x]) ++ (W0 ++ N)) := by
          rw [eL, List.filter_filter]
          refine List.filter_congr fun y _ => ?_
          rw [Bool.eq_iff_iff]
          simp only [Bool.and_eq_true, Bool.not_eq_true', decide_eq_false_iff_not, mem', List.mem_append]
          constructor
          · rintro ⟨h1, h2⟩ (h | h)
            · exact h2 h
            · exact h1 (.inr h)
          · intro h
            exact ⟨fun z => z.elim (fun z => h (.inl (.inr (.inl z)))) fun z => h (.inr z), fun z => h (.inl z)⟩
        have less : (L.filter fun y => !decide (y ∈ W0 ++ N)).length + N.length ≤ L.length := by
          have p : ((L.filter fun y => !decide (y ∈ W0 ++ N)) ++ N).Nodup := List.nodup_append.mpr ⟨Lnd.filter _, Nnd, fun a ha c hc e => by
            have := (List.mem_filter.mp ha).2
            simp only [Bool.not_eq_true', decide_eq_false_iff_not] at this
            exact this (List.mem_append_right _ (e ▸ hc))⟩
          have := p.length_le_of_subset (l₂ := L) fun y hy => (List.mem_append.mp hy).elim (fun h => (List.mem_filter.mp h).1) fun h => ((memN y).mp h).1
          rwa [List.length_append] at this
        rw [List.length_append, List.length_singleton] at hm
        obtain ⟨H', e', r'⟩ := ih (L.filter fun y => !decide (y ∈ W0 ++ N)) (H ++ [x]) (W0 ++ N) (by rw [List.length_append]; omega) eL' nd'
          (fun y hy => ((mem' y).mp hy).elim (su y) fun h => List.mem_cons_of_mem _ ((memL y).mp ((memN y).mp h).1).1)
          ((mem' b).mpr (.inl hb'))
          (fun y hy => ((mem' y).mp hy).elim (re y) fun h => .step (re x xF) (List.mem_filter.mpr ⟨((memL y).mp ((memN y).mp h).1).1, ((memN y).mp h).2⟩))
          (fun y hy z hz nz => by
            refine (mem' z).mpr ?_
            rcases List.mem_append.mp hy with hy | hy
            · exact .inl (cl y hy z hz nz)
            · rw [List.mem_singleton.mp hy] at nz
              by_cases q : z ∈ H ++ (W0 ++ [x])
              · exact .inl q
              · exact .inr ((memN z).mpr ⟨(memL z).mpr ⟨hz, q⟩, nz⟩))
        refine ⟨H', ?_, r'⟩
        rw [fWhile_eq, ht]
        simp only [bd_ok, ne, decide_false, Bool.not_false, if_true]
        rw [hs L H W0 x ll (by omega) (by omega) (su x xF), lp_nx, hN]
        exact e'
  exact go _ L0 [] [b] (Nat.le_refl _) (by
    refine (List.filter_eq_self.mpr fun y hy => ?_).symm
    simp only [List.nil_append, List.mem_singleton, Bool.not_eq_true', decide_eq_false_iff_not]
    exact fun e => hb (e ▸ hy)) (by simp) (by simp) (by simp) (fun x hx => (show x = b by simpa using hx) ▸ .refl) (fun x hx => absurd hx List.not_mem_nil)
end
theorem divmod {x y C : Int} (h0 : 0 ≤ y) (h1 : y < C) : (x * C + y) / C = x ∧ (x * C + y) % C = y := by
  have hC : C ≠ 0 := by omega
  constructor
  · rw [Int.add_comm, Int.add_mul_ediv_right _ _ hC, Int.ediv_eq_zero_of_lt h0 h1, Int.zero_add]
  · rw [Int.add_comm, Int.add_mul_emod_self_right, Int.emod_eq_of_lt h0 h1]
theorem bar_rc {S : Sheet} {b : Int} (h0 : 0 ≤ b) (h1 : b < S.R * S.C) : 0 ≤ b / S.C ∧ b / S.C < S.R ∧ 0 ≤ b % S.C ∧ b % S.C < S.C ∧ b / S.C * S.C + b % S.C = b := by
  have := S.c1
  exact ⟨Int.ediv_nonneg h0 (by omega), Int.ediv_lt_of_lt_mul (by omega) h1, Int.emod_nonneg _ (by omega), Int.emod_lt_of_pos _ (by omega), by rw [Int.mul_comm]; exact Int.mul_ediv_add_emod b S.C⟩
theorem mem_bars {S : Sheet} {b : Int} {p : Int × Int} : b ∈ barsI S p ↔ ∃ q ∈ [(p.1 - 1, p.2 - 1), (p.1 - 1, p.2), (p.1, p.2 - 1), p], (0 ≤ q.1 ∧ q.1 < S.R ∧ 0 ≤ q.2 ∧ q.2 < S.C) ∧ b / S.C = q.1 ∧ b % S.C = q.2 ∧ 0 ≤ b ∧ b < S.R * S.C := by
  unfold barsI
  simp only [List.mem_map, List.mem_filter]
  constructor
  · rintro ⟨q, ⟨hq, hi⟩, rfl⟩
    unfold inS at hi
    simp only [Bool.and_eq_true, decide_eq_true_eq] at hi
    obtain ⟨⟨a1, a2⟩, a3, a4⟩ := hi
    obtain ⟨d1, d2⟩ := divmod (x := q.1) a3 a4
    have m0 : 0 ≤ q.1 * S.C := Int.mul_nonneg a1 (by omega)
    have m1 : (q.1 + 1) * S.C ≤ S.R * S.C := Int.mul_le_mul_of_nonneg_right (by omega) (by omega)
    rw [Int.add_mul] at m1
    exact ⟨q, hq, ⟨a1, a2, a3, a4⟩, d1, d2, by omega, by omega⟩
  · rintro ⟨q, hq, ⟨a1, a2, a3, a4⟩, d1, d2, h0, h1⟩
    refine ⟨q, ⟨hq, ?_⟩, ?_⟩
    · unfold inS
      simp only [Bool.and_eq_true, decide_eq_true_eq]
      exact ⟨⟨a1, a2⟩, a3, a4⟩
    · rw [← d1, ← d2]
      exact (bar_rc h0 h1).2.2.2.2
theorem ends_even {S : Sheet} {b : Int} {p : Int × Int} (h : p ∈ endsL S b) : (p.1 + p.2) % 2 = 0 := by
  unfold endsL endsI at h
  split at h <;> simp only [List.mem_cons, List.not_mem_nil, or_false] at h <;> rcases h with rfl | rfl <;> simp only <;> omega
/-- a bar is at a knot just where the knot is one of its ends -/
theorem bars_ends {S : Sheet} {b : Int} {p : Int × Int} (h0 : 0 ≤ b) (h1 : b < S.R * S.C) (hp : (p.1 + p.2) % 2 = 0) : b ∈ barsI S p ↔ p ∈ endsL S b := by
  obtain ⟨r0, r1, c0, c1, _⟩ := bar_rc h0 h1
  rw [mem_bars]
  obtain ⟨x, y⟩ := p
  have hp : (x + y) % 2 = 0 := hp
  unfold endsL endsI
  constructor
  · rintro ⟨q, hq, _, d1, d2, _⟩
    simp only [List.mem_cons, List.not_mem_nil, or_false] at hq
    rw [d1, d2]
    clear d1 d2
    rcases hq with rfl | rfl | rfl | rfl <;> simp only [] <;> split <;> rename_i hc <;> simp only [List.mem_cons, Prod.mk.injEq, List.not_mem_nil, or_false, and_true, true_and, or_true, true_or, and_self] <;> omega
  · intro h
    refine ⟨(b / S.C, b % S.C), ?_, ⟨r0, r1, c0, c1⟩, rfl, rfl, h0, h1⟩
    split at h <;> simp only [List.mem_cons, Prod.mk.injEq, List.not_mem_nil, or_false] at h ⊢ <;> omega
end FL
namespace FL
open PySem PySem.Spec L2 DL
noncomputable section
def B_hole_of_1 : FS :=
  (fEnd [2, 5, 6] (fIf (lf (tP (pBin dNotIn (pNm 6) (pNm 3)))) (fSeq (fPut 3 fSetL (lf (pC (.bool true))) (lf (pNm 6)))
  (fDo (mMut 4 fAppend [(lf (pNm 6))]))) fNil))
def B_hole_of_2 : FS :=
  (fEnd [2, 5, 6] (fKill [2, 6] (fFor (lf (iSeq (pCall F_lacking [(pNm 0), (pNm 1), (pNm 5)]))) (.nm 6) B_hole_of_1)))
def B_hole_of_3 : FS :=
  (fEnd [2, 5, 6] (fKill [2, 5, 6] (fFor (jSeq (mCallP F_ends_of [(mNm 0), (mEx (mMut 4 fPop []))])) (.nm 5) B_hole_of_2)))
def S_hole_of : FS :=
  (fSeq (fPar [3, 4] [(lf (pDict1 (pNm 2) (pC (.bool true)))), (lf (pLst [(pNm 2)]))])
  (fKill [2, 5, 6] (fSeq (fWhile (lf (tP (pBin dNe (pNm 4) (pLst [])))) B_hole_of_3)
  (fRet (lf (pApp dTuple [(pApp dSorted [(pNm 3)])]))))))
def F_hole_of : FD := runP [.val, .val, .val] false 7 S_hole_of
def B_holes : FS :=
  (fEnd [3] (fIf (lf (tNot (tP (pApp dAny [(pLc (iSeq (pNm 2)) (.nm 4) tYes (pBin dIn (pNm 3) (pNm 4)) [4])])))) (fDo (mMut 2 fAppend [(lf (pCall F_hole_of [(pNm 0), (pNm 1), (pNm 3)]))])) fNil))
def S_holes : FS :=
  (fSeq (fSet 2 (lf (pLst [])))
  (fKill [3] (fSeq (fFor (lf (iSeq (pNm 1))) (.nm 3) B_holes)
  (fRet (lf (pApp dTuple [(pNm 2)]))))))
def F_holes : FD := runP [.val, .val] false 5 S_holes
def B_law_holes_1 : FS :=
  (fEnd [1, 6] (fSeq (fDo (mMut 4 fAppend [(mMut 5 fPop [])]))
  (fSeq (fSet 6 (lf (pCall F_law_ends [(pNm 0), (pBin dAt (pNm 4) (pUn dNeg (pC (.int 1))))])))
  (fSeq (fDo (mMut 5 fExtA [(lf (pLc (iSeq (pNm 2)) (.nm 7) (tP (pCall F_law_is_near [(pNm 0), (pNm 7), (pNm 6)])) (pNm 7) [7]))]))
  (fSet 2 (lf (pLc (iSeq (pNm 2)) (.nm 7) (tP (pBin dNotIn (pNm 7) (pNm 5))) (pNm 7) [7])))))))
def B_law_holes_2 : FS :=
  (fEnd [1, 4, 5, 6] (fSeq (fPar [4, 5] [(lf (pLst [])), (lf (pLst [(pBin dAt (pNm 2) (pC (.int 0)))]))])
  (fSeq (fSet 2 (lf (pSl dSl (pNm 2) (some (pC (.int 1))) none)))
  (fKill [1, 6] (fSeq (fWhile (lf (tP (pBin dNe (pNm 5) (pLst [])))) B_law_holes_1)
  (fDo (mMut 3 fAppend [(lf (pApp dTuple [(pApp dSorted [(pNm 4)])]))])))))))
def S_law_holes : FS :=
  (fSeq (fPar [2, 3] [(lf (pApp dList [(pNm 1)])), (lf (pLst []))])
  (fKill [1, 4, 5, 6] (fSeq (fWhile (lf (tP (pBin dNe (pNm 2) (pLst [])))) B_law_holes_2)
  (fRet (lf (pApp dTuple [(pNm 3)]))))))
def F_law_holes : FD := runP [.val, .val] false 8 S_law_holes
end
/-- the bars that lack at a bar's ends -/
def nbT (S : Sheet) (T : List Int) (b : Int) : List Int := lackI S T (endsI S b).1 ++ lackI S T (endsI S b).2
theorem lack_len {S : Sheet} {T : List Int} {p : Int × Int} : (lackI S T p).length ≤ 4 := Nat.le_trans (List.length_filter_le _ _) bars_len
theorem mem_lack {S : Sheet} {T : List Int} (hT : IsTear S T) {p : Int × Int} (hp : (p.1 + p.2) % 2 = 0) {b : Int} : b ∈ lackI S T p ↔ b ∈ T ∧ p ∈ endsL S b := by
  unfold lackI
  rw [List.mem_filter, decide_eq_true_eq]
  constructor
  · rintro ⟨h1, h2⟩
    exact ⟨h2, (bars_ends (hT.inb b h2).1 (hT.inb b h2).2 hp).mp h1⟩
  · rintro ⟨h1, h2⟩
    exact ⟨(bars_ends (hT.inb b h1).1 (hT.inb b h1).2 hp).mpr h2, h1⟩
/-- whether two bars share a knot -/
def nearB (S : Sheet) (b c : Int) : Bool := decide ((endsI S c).1 ∈ endsL S b) || decide ((endsI S c).2 ∈ endsL S b)
theorem nearB_iff {S : Sheet} {b c : Int} : nearB S b c = true ↔ ∃ p, p ∈ endsL S b ∧ p ∈ endsL S c := by
  unfold nearB
  rw [Bool.or_eq_true, decide_eq_true_eq, decide_eq_true_eq]
  constructor
  · rintro (h | h)
    · exact ⟨_, h, List.mem_cons_self⟩
    · exact ⟨_, h, by simp [endsL]⟩
  · rintro ⟨p, h1, h2⟩
    simp only [endsL, List.mem_cons, List.not_mem_nil, or_false] at h2
    rcases h2 with rfl | rfl
    · exact .inl h1
    · exact .inr h1
theorem mem_nbT {S : Sheet} {T : List Int} (hT : IsTear S T) {b c : Int} : c ∈ nbT S T b ↔ c ∈ T ∧ nearB S b c = true := by
  unfold nbT
  rw [List.mem_append, mem_lack hT (ends_even (S := S) (b := b) (by simp [endsL])), mem_lack hT (ends_even (S := S) (b := b) (by simp [endsL])), nearB_iff]
  constructor
  · rintro (⟨h1, h2⟩ | ⟨h1, h2⟩)
    · exact ⟨h1, _, by simp [endsL], h2⟩
    · exact ⟨h1, _, by simp [endsL], h2⟩
  · rintro ⟨h1, p, h2, h3⟩
    simp only [endsL, List.mem_cons, List.not_mem_nil, or_false] at h2
    rcases h2 with rfl | rfl
    · exact .inl ⟨h1, h3⟩
    · exact .inr ⟨h1, h3⟩
/-- a bar's hole -/
noncomputable def compI (S : Sheet) (T : List Int) (b : Int) : List Int := open Classical in T.filter fun c => decide (Reach (nbT S T) b c)
section
variable {S : Sheet} {T : List Int}
theorem comp_tear (hT : IsTear S T) {b : Int} : IsTear S (compI S T b) := hT.sub List.filter_sublist
theorem mem_comp {b c : Int} : c ∈ compI S T b ↔ c ∈ T ∧ Reach (nbT S T) b c := by
  unfold compI
  simp only [List.mem_filter, decide_eq_true_eq]
theorem reach_T (hT : IsTear S T) {b c : Int} (hb : b ∈ T) (h : Reach (nbT S T) b c) : c ∈ T := Reach.inv (P := fun c => c ∈ T) hb (fun x y _ hy => ((mem_nbT hT).mp hy).1) h
/-- an ascending list of what is reached -/
theorem sort_comp (hT : IsTear S T) {b : Int} (hb : b ∈ T) {F : List Int} (nd : F.Nodup) (h : ∀ x, x ∈ F ↔ Reach (nbT S T) b x) : sortI F = compI S T b :=
  asc_ext (sortI_asc nd) (comp_tear hT).asc fun a => by
    rw [sortI_mem, mem_comp, h]
    exact ⟨fun r => ⟨reach_T hT hb r, r⟩, fun r => r.2⟩
abbrev eH (S : Sheet) (T : List Int) (a : Option DL.D) (F W : List Int) : En := [some S.d, some (tL .int T), none, some (dsL .int F), some (lL .int W), a, none]
local macro_rules | `(tactic| simp only [$as,*] $[$l]?) => SsM (`word_snoc :: SsH23 ++ SsL23) as.getElems l
theorem hole_in (a : Option DL.D) : ∀ (os F W : List Int), F.length + os.length ≤ 100000 → W.length + os.length ≤ 100000 → ∃ a', forL (.nm 6) B_hole_of_1 (os.map .int) (eH S T a F W) = some (.ok .nx (eH S T a' (os.foldl addN (F, W)).1 (os.foldl addN (F, W)).2))
  | [], F, W, _, _ => ⟨a, rfl⟩
  | o :: os, F, W, h1, h2 => by
    rw [List.length_cons] at h1 h2
    have sF : F.length < sizeLine := by rw [size_eq]; omega
    have sW : W.length < sizeLine := by rw [size_eq]; omega
    by_cases h : o ∈ F
    · obtain ⟨a', e⟩ := hole_in none os F W (by omega) (by omega)
      refine ⟨a', ?_⟩
      rw [List.map_cons, forL_cons, List.foldl_cons, show addN (F, W) o = (F, W) from if_pos h, ← e]
      simp only [eH, B_hole_of_1, ss_, h, not_true, if_false, Bool.not_true, Bool.false_eq_true]
    · obtain ⟨a', e⟩ := hole_in none os (F ++ [o]) (W ++ [o]) (by rw [List.length_append, List.length_singleton]; omega) (by rw [List.length_append, List.length_singleton]; omega)
      refine ⟨a', ?_⟩
      rw [List.map_cons, forL_cons, List.foldl_cons, show addN (F, W) o = (F ++ [o], W ++ [o]) from if_neg h, ← e]
      simp only [eH, B_hole_of_1, ss_, h, not_false_eq_true, if_true, Bool.not_false, set_ds (f := PyData.int) sF h, app_lL (f := PyData.int) sW]
theorem fold2 {α : Type} [DecidableEq α] (a b F W : List α) : b.foldl addN (a.foldl addN (F, W)) = (a ++ b).foldl addN (F, W) := (List.foldl_append ..).symm
theorem fold_len {α : Type} [DecidableEq α] (os F W : List α) : (os.foldl addN (F, W)).1.length ≤ F.length + os.length ∧ (os.foldl addN (F, W)).2.length ≤ W.length + os.length := by
  induction os generalizing F W with
  | nil => simp
  | cons o os ih =>
    rw [List.foldl_cons, List.length_cons]
    by_cases h : o ∈ F
    · rw [show addN (F, W) o = (F, W) from if_pos h]
      have := ih F W; omega
    · rw [show addN (F, W) o = (F ++ [o], W ++ [o]) from if_neg h]
      have := ih (F ++ [o]) (W ++ [o])
      rw [List.length_append, List.length_append, List.length_singleton] at this
      omega
theorem pop_lL {α : Type} {f : α → DL.D} {W : List α} {x : α} : fPop (lL f (W ++ [x])) [] = some (f x, lL f W) := by
  show ((((W ++ [x]).map f)[((W ++ [x]).map f).length - 1]?).map fun d => (d, PyData.list ((W ++ [x]).map f).dropLast)) = _
  rw [List.map_append, List.map_singleton, List.dropLast_concat, List.length_append, List.length_singleton, Nat.add_sub_cancel, List.getElem?_append_right (Nat.le_refl _), Nat.sub_self]
  rfl
theorem hole_turn {F W : List Int} {x : Int} (h1 : F.length ≤ 1000) (h2 : W.length ≤ 1000) : B_hole_of_3 (eH S T none F (W ++ [x])) = some (.ok .nx (eH S T none ((nbT S T x).foldl addN (F, W)).1 ((nbT S T x).foldl addN (F, W)).2)) := by
  have l1 := lack_len (S := S) (T := T) (p := (endsI S x).1)
  have l2 := lack_len (S := S) (T := T) (p := (endsI S x).2)
  have fl := fold_len (lackI S T (endsI S x).1) F W
  obtain ⟨a1, e1⟩ := hole_in (S := S) (T := T) (some (pk (endsI S x).1)) (lackI S T (endsI S x).1) F W (by omega) (by omega)
  obtain ⟨a2, e2⟩ := hole_in (S := S) (T := T) (some (pk (endsI S x).2)) (lackI S T (endsI S x).2) ((lackI S T (endsI S x).1).foldl addN (F, W)).1 ((lackI S T (endsI S x).1).foldl addN (F, W)).2 (by omega) (by omega)
  unfold nbT
  rw [← fold2]
  simp only [eH] at e1 e2 ⊢
  have sq : seqD (endsD S x) = some [pk (endsI S x).1, pk (endsI S x).2] := rfl
  simp only [B_hole_of_3, B_hole_of_2, ss_, pop_lL, sq, forL_cons, e1, e2]
theorem hole_of_eq (hT : IsTear S T) {b : Int} (hb : b ∈ T) : F_hole_of [S.d, tL .int T, .int b] = some (tL .int (compI S T b)) := by
  have tl := hT.len
  obtain ⟨F, e, nd, mem⟩ := dfs_while (t := lf (tP (pBin dNe (pNm 4) (pLst [])))) (s := B_hole_of_3) (e := fun F W => eH S T none F W) (nb := nbT S T) (U := T) (b := b)
    (fun F W => by simp only [eH, ss_]) (fun F W x h1 h2 _ _ => hole_turn (by omega) (by omega)) (fun x hx y hy => ((mem_nbT hT).mp hy).1) hb
  simp only [eH] at e
  have e0 : PyData.list [PyData.int b] = lL .int [b] := rfl
  simp only [F_hole_of, S_hole_of, runP, ss_, e0, e, sort_comp hT hb nd mem]
noncomputable def stepH (S : Sheet) (T : List Int) (found : List (List Int)) (b : Int) : List (List Int) := if (found.any fun h => decide (b ∈ h)) = true then found else found ++ [compI S T b]
noncomputable def holesI (S : Sheet) (T : List Int) : List (List Int) := T.foldl (stepH S T) []
theorem stepH_len {found : List (List Int)} {b : Int} : (stepH S T found b).length ≤ found.length + 1 := by
  unfold stepH
  split
  · omega
  · rw [List.length_append]; exact Nat.le_refl _
abbrev tLI : List Int → DL.D := tL .int
def _root_.SsH24 : List Lean.Name := SsH23 ++ []
def _root_.SsL24 : List Lean.Name := SsL23 ++ [`FL.hole_of_eq]
local macro_rules | `(tactic| simp only [$as,*] $[$l]?) => SsM (`word_snoc :: SsH24 ++ SsL24) as.getElems l
theorem holes_turn (hT : IsTear S T) {found : List (List Int)} {b : Int} (hb : b ∈ T) (hl : found.length ≤ 1000) : B_holes [some S.d, some (tL .int T), some (lL tLI found), some (.int b), none] = some (.ok .nx [some S.d, some (tL .int T), some (lL tLI (stepH S T found b)), none, none]) := by
  have fx : (found.length ≤ sizeLine) = True := fits (by omega)
  have an : dAny [lL (fun h => PyData.bool (decide (b ∈ h))) found] = some (.bool (found.any fun h => decide (b ∈ h))) := any_lL
  have lc : lcF (fun _ => some true) (fun d => dIn (.int b) d) (found.map tLI) = some (found.map fun h => PyData.bool (decide (b ∈ h))) := by
    rw [lc_map]
    refine lc_memA fun h _ => ⟨rfl, ?_⟩
    exact r_inT (f := PyData.int) (by decide)
  unfold stepH
  by_cases h : (found.any fun h => decide (b ∈ h)) = true
  · simp only [B_holes, ss_, fx, lc, an, h, Bool.not_true, Bool.false_eq_true, if_false, if_true, not_true]
  · simp only [B_holes, ss_, fx, lc, an, h, not_false_eq_true, if_true, if_false, hole_of_eq hT hb, app_lL (f := tLI) (show found.length < sizeLine by rw [size_eq]; omega), Bool.false_eq_true, Bool.not_false]
theorem holes_eq (hT : IsTear S T) : F_holes [S.d, tL .int T] = some (tL tLI (holesI S T)) := by
  have tl := hT.len
  have go : ∀ (xs : List Int) (found : List (List Int)), (∀ b ∈ xs, b ∈ T) → found.length + xs.length ≤ 1000 → forL (.nm 3) B_holes (xs.map .int) [some S.d, some (tL .int T), some (lL tLI found), none, none] = some (.ok .nx [some S.d, some (tL .int T), some (lL tLI (xs.foldl (stepH S T) found)), none, none]) := by
    intro xs
    induction xs with
    | nil => exact fun _ _ _ => rfl
    | cons x xs ih =>
      intro found hm hl
      rw [List.length_cons] at hl
      have := stepH_len (S := S) (T := T) (found := found) (b := x)
      rw [List.map_cons, forL_cons, List.foldl_cons, bindD_nm, b_some, show (_ : En).set 3 (some (PyData.int x)) = [some S.d, some (tL .int T), some (lL tLI found), some (.int x), none] from rfl, holes_turn hT (hm x List.mem_cons_self) (by omega), lp_nx]
      exact ih _ (fun b hb => hm b (List.mem_cons_of_mem _ hb)) (by omega)
  have e := go T [] (fun _ h => h) (by rw [List.length_nil]; omega)
  have e0 : PyData.list [] = lL tLI [] := rfl
  simp only [F_holes, S_holes, runP, ss_, e0, e, holesI]
def _root_.SsH25 : List Lean.Name := SsH24 ++ []
def _root_.SsL25 : List Lean.Name := SsL24 ++ [`FL.holes_eq]
local macro_rules | `(tactic| simp only [$as,*] $[$l]?) => SsM (`word_snoc :: SsH25 ++ SsL25) as.getElems l
theorem near_endsD {x y : Int} : F_law_is_near [S.d, .int y, endsD S x] = some (.bool (nearB S x y)) := by
  unfold nearB
  simp only [F_law_is_near, S_law_is_near, runP, ss_]
theorem near_symm {x y : Int} : nearB S x y = nearB S y x := by
  rw [Bool.eq_iff_iff, nearB_iff, nearB_iff]
  exact ⟨fun ⟨p, a, b⟩ => ⟨p, b, a⟩, fun ⟨p, a, b⟩ => ⟨p, b, a⟩⟩
theorem nb_symm (hT : IsTear S T) {x y : Int} (hx : x ∈ T) (h : y ∈ nbT S T x) : x ∈ nbT S T y := by
  obtain ⟨_, h2⟩ := (mem_nbT hT).mp h
  exact (mem_nbT hT).mpr ⟨hx, by rw [near_symm]; exact h2⟩
abbrev eL (S : Sheet) (found : List (List Int)) (L H W : List Int) : En := [some S.d, none, some (lL .int L), some (lL tLI found), some (lL .int H), some (lL .int W), none, none]
def _root_.SsH26 : List Lean.Name := SsH25 ++ []
def _root_.SsL26 : List Lean.Name := SsL25 ++ [`FL.near_endsD]
local macro_rules | `(tactic| simp only [$as,*] $[$l]?) => SsM (`word_snoc :: SsH26 ++ SsL26) as.getElems l
theorem law_turn {found : List (List Int)} {L H W : List Int} {x : Int} (h1 : L.length ≤ 1000) (h2 : H.length ≤ 1000) (h3 : W.length ≤ 1000) :
    B_law_holes_1 (eL S found L H (W ++ [x])) = some (.ok .nx (eL S found (L.filter fun y => !decide (y ∈ W ++ L.filter (nearB S x))) (H ++ [x]) (W ++ L.filter (nearB S x)))) := by
  have fL : (L.length ≤ sizeLine) = True := fits (by omega)
  have ap : fAppend (lL .int H) [.int x] = some (.none, lL .int (H ++ [x])) := app_lL (f := PyData.int) (by rw [size_eq]; omega)
  have ex : fExtA (lL .int W) [lL .int (L.filter (nearB S x))] = some (.none, lL .int (W ++ L.filter (nearB S x))) := ext_lL (by have := List.length_filter_le (nearB S x) L; rw [size_eq]; omega)
  simp only [eL, B_law_holes_1, ss_, pop_lL, ap, at_last, fL, ex]
theorem cov_app {f g : List (List Int)} {y : Int} (h : (f.any fun h => decide (y ∈ h)) = true) : ((f ++ g).any fun h => decide (y ∈ h)) = true := by
  rw [List.any_append, h]; rfl
theorem fold_skip (xs : List Int) (f : List (List Int)) : xs.foldl (stepH S T) f = (xs.filter fun y => !(f.any fun h => decide (y ∈ h))).foldl (stepH S T) f := by
  have go : ∀ (n : Nat) (xs : List Int) (f : List (List Int)), xs.length ≤ n → xs.foldl (stepH S T) f = (xs.filter fun y => !(f.any fun h => decide (y ∈ h))).foldl (stepH S T) f := by
    intro n
    induction n with
    | zero => intro xs f h; rw [List.length_eq_zero_iff.mp (Nat.le_zero.mp h)]; rfl
    | succ n ih =>
      intro xs f hl
      cases xs with
      | nil => rfl
      | cons x xs =>
        rw [List.length_cons] at hl
        by_cases h : (f.any fun h => decide (x ∈ h)) = true
        · rw [List.filter_cons_of_neg (by rw [h]; decide), List.foldl_cons, show stepH S T f x = f from if_pos h]
          exact ih xs f (by omega)
        · rw [List.filter_cons_of_pos (by simpa using h), List.foldl_cons, List.foldl_cons, show stepH S T f x = f ++ [compI S T x] from if_neg h]
          have e1 := ih xs (f ++ [compI S T x]) (by omega)
          have e2 := ih (xs.filter fun y => !(f.any fun h => decide (y ∈ h))) (f ++ [compI S T x]) (by have := List.length_filter_le (fun y => !(f.any fun h => decide (y ∈ h))) xs; omega)
          rw [e1, e2, List.filter_filter]
          congr 1
          refine List.filter_congr fun y _ => ?_
          cases hc : (f.any fun h => decide (y ∈ h)) with
          | false => simp
          | true => rw [cov_app hc]; rfl
  exact go _ xs f (Nat.le_refl _)
theorem cut_tail {α : Type} {f : α → DL.D} {x : α} {xs : List α} : dSl (lL f (x :: xs)) (some 1) none = some (lL f xs) := by
  show some (PyData.list (cutD ((x :: xs).map f) (some 1) none)) = _
  have h1 : HT.sIx ((x :: xs).map f).length 0 (some 1) = 1 := by
    rw [List.length_map, List.length_cons]
    unfold HT.sIx
    simp
  have h2 : HT.sIx ((x :: xs).map f).length ((x :: xs).map f).length none = ((x :: xs).map f).length := rfl
  unfold cutD
  rw [h1, h2, List.map_cons, List.drop_one, List.tail_cons, List.length_cons, Nat.add_sub_cancel]
  rw [List.take_of_length_le (Nat.le_refl _)]
  rfl
theorem law_holes_loop (hT : IsTear S T) : ∀ (n : Nat) (L : List Int) (found : List (List Int)), L.length ≤ n → found.length + L.length ≤ 1000 → L.Nodup → (∀ x ∈ L, x ∈ T) → (∀ x ∈ L, ∀ y ∈ nbT S T x, y ∈ L) → (∀ x ∈ L, (found.any fun h => decide (x ∈ h)) = false) →
    fWhile (lf (tP (pBin dNe (pNm 2) (pLst [])))) B_law_holes_2 [some S.d, none, some (lL .int L), some (lL tLI found), none, none, none, none] = some (.ok .nx [some S.d, none, some (lL .int []), some (lL tLI (L.foldl (stepH S T) found)), none, none, none, none])
  | _, [], found, _, _, _, _, _, _ => by
    rw [fWhile_eq]
    simp only [ss_, not_true, if_false, Bool.false_eq_true, Bool.not_true, List.foldl_nil]
  | n + 1, b :: L0, found, hn, hl, nd, sub, cl, un => by
    rw [List.length_cons] at hn hl
    obtain ⟨nb0, nd0⟩ := List.nodup_cons.mp nd
    have hb : b ∈ T := sub b List.mem_cons_self
    have hTl := hT.len
    have l0 : L0.length ≤ 64 := Nat.le_trans (nd0.length_le_of_subset fun y hy => sub y (List.mem_cons_of_mem _ hy)) hTl
    obtain ⟨H, e, hnd, mem⟩ := dfs2_while (t := lf (tP (pBin dNe (pNm 5) (pLst [])))) (s := B_law_holes_1) (e := eL S found) (near := nearB S) (L0 := L0) (b := b)
      (fun L H W => by simp only [eL, ss_]) (fun L H W x h1 h2 h3 _ => law_turn (by omega) (by omega) (by omega)) nd0 nb0
    have mem' : ∀ x, x ∈ H ↔ Reach (nbT S T) b x := fun x => by
      rw [mem]
      constructor
      · intro h
        have : Reach (nbT S T) b x ∧ x ∈ T := by
          induction h with
          | refl => exact ⟨.refl, hb⟩
          | step h1 h2 ih =>
            have q := List.mem_filter.mp h2
            have yT := sub _ (List.mem_cons_of_mem _ q.1)
            exact ⟨.step ih.1 ((mem_nbT hT).mpr ⟨yT, q.2⟩), yT⟩
        exact this.1
      · intro h
        have : Reach (fun x => L0.filter (nearB S x)) b x ∧ x ∈ b :: L0 := by
          induction h with
          | refl => exact ⟨.refl, List.mem_cons_self⟩
          | @step x y h1 h2 ih =>
            have yL := cl x ih.2 y h2
            rcases List.mem_cons.mp yL with rfl | y0
            · exact ⟨.refl, yL⟩
            · exact ⟨.step ih.1 (List.mem_filter.mpr ⟨y0, ((mem_nbT hT).mp h2).2⟩), yL⟩
        exact this.1
    have sc := sort_comp hT hb hnd mem'
    have memC : ∀ x, x ∈ compI S T b ↔ x ∈ H := fun x => by rw [← sc, sortI_mem]
    have ub : (found.any fun h => decide (b ∈ h)) = false := un b List.mem_cons_self
    have st : stepH S T found b = found ++ [compI S T b] := if_neg (by rw [ub]; decide)
    have ef : (L0.filter fun y => !decide (y ∈ H)) = L0.filter fun y => !((found ++ [compI S T b]).any fun h => decide (y ∈ h)) := List.filter_congr fun y hy => by
      rw [List.any_append, un y (List.mem_cons_of_mem _ hy), Bool.false_or, List.any_cons, List.any_nil, Bool.or_false]
      congr 1
      exact decide_eq_decide.mpr (memC y).symm
    have memL : ∀ y, y ∈ (L0.filter fun y => !decide (y ∈ H)) ↔ y ∈ L0 ∧ y ∉ H := fun y => by rw [List.mem_filter, Bool.not_eq_true', decide_eq_false_iff_not]
    have ih := law_holes_loop hT n (L0.filter fun y => !decide (y ∈ H)) (found ++ [compI S T b]) (by have := List.length_filter_le (fun y => !decide (y ∈ H)) L0; omega)
      (by have := List.length_filter_le (fun y => !decide (y ∈ H)) L0; rw [List.length_append, List.length_singleton]; omega) (nd0.filter _) (fun x hx => sub x (List.mem_cons_of_mem _ ((memL x).mp hx).1))
      (fun x hx y hy => by
        obtain ⟨x0, xH⟩ := (memL x).mp hx
        have xT := sub x (List.mem_cons_of_mem _ x0)
        have yH : y ∉ H := fun z => xH ((mem' x).mpr (Reach.step ((mem' y).mp z) (nb_symm hT xT hy)))
        have yL := cl x (List.mem_cons_of_mem _ x0) y hy
        refine (memL y).mpr ⟨(List.mem_cons.mp yL).resolve_left fun z => yH ((mem' y).mpr (z ▸ .refl)), yH⟩)
      (fun x hx => by
        obtain ⟨x0, xH⟩ := (memL x).mp hx
        rw [List.any_append, un x (List.mem_cons_of_mem _ x0), Bool.false_or, List.any_cons, List.any_nil, Bool.or_false, decide_eq_false_iff_not, memC]
        exact xH)
    rw [fWhile_eq, List.foldl_cons, st, fold_skip L0, ← ef, ← ih]
    have e0 : (PyData.list [] : DL.D) = lL .int [] := rfl
    have e1 : (PyData.list [.int b] : DL.D) = lL .int [b] := rfl
    have at0 : dAt (lL .int (b :: L0)) (.int 0) = some (.int b) := r_at0
    have ap : fAppend (lL tLI found) [tL .int (compI S T b)] = some (.none, lL tLI (found ++ [compI S T b])) := app_lL (f := tLI) (by rw [size_eq]; omega)
    simp only [eL] at e
    have ne : (b :: L0 = []) = False := by simp
    simp only [ss_, ne, not_false_eq_true, if_true, decide_false, Bool.not_false, B_law_holes_2, e0, e1, at0, cut_tail, e, sc, ap]
  | 0, _ :: _, _, h, _, _, _, _, _ => by simp at h
theorem law_holes_eq (hT : IsTear S T) : F_law_holes [S.d, tL .int T] = some (tL tLI (holesI S T)) := by
  have tl := hT.len
  have e := law_holes_loop hT _ T [] (Nat.le_refl _) (by rw [List.length_nil]; omega) hT.asc.nodup (fun _ h => h) (fun x _ y hy => ((mem_nbT hT).mp hy).1) (fun _ _ => rfl)
  have e0 : PyData.list [] = lL tLI [] := rfl
  simp only [F_law_holes, S_law_holes, runP, ss_, e0, e, holesI]
end
theorem rev_lL {α : Type} {f : α → DL.D} {xs : List α} : dRevL (lL f xs) = some (lL f xs.reverse) := by
  show some (PyData.list (xs.map f).reverse) = _
  rw [← List.map_reverse]
  rfl
end FL
namespace FL
open PySem PySem.Spec L2 DL
def leP (a b : Int × Int) : Bool := decide (a.1 < b.1 ∨ a.1 = b.1 ∧ a.2 ≤ b.2)
theorem leD_pk {a b : Int × Int} : leD (pk a) (pk b) = leP a b := by
  obtain ⟨a1, a2⟩ := a
  obtain ⟨b1, b2⟩ := b
  show (!PyProof.Rows.lexLt PyProof.Rows.itemOrd [.inl b1, .inl b2] [.inl a1, .inl a2]) = _
  have e : PyProof.Rows.lexLt PyProof.Rows.itemOrd [.inl b1, .inl b2] [.inl a1, .inl a2] = decide (b1 < a1 ∨ b1 = a1 ∧ b2 < a2) := by
    rw [Bool.eq_iff_iff]
    simp [PyProof.Rows.lexLt, PyProof.Rows.itemLt]
    omega
  rw [e]
  unfold leP
  rw [Bool.eq_iff_iff]
  simp only [Bool.not_eq_true', decide_eq_false_iff_not, decide_eq_true_eq]
  omega
def sortP (xs : List (Int × Int)) : List (Int × Int) := xs.mergeSort leP
theorem sortP_perm (xs : List (Int × Int)) : (sortP xs).Perm xs := List.mergeSort_perm _ _
theorem sortB_pk {xs : List (Int × Int)} : sortB (xs.map pk) = true := by
  unfold sortB
  have h1 : ((xs.map pk).all fun a => (xs.map pk).all fun b => PySem.W.alike a b) = true := by
    refine List.all_eq_true.mpr fun x hx => List.all_eq_true.mpr fun y hy => ?_
    obtain ⟨a, _, rfl⟩ := List.mem_map.mp hx
    obtain ⟨b, _, rfl⟩ := List.mem_map.mp hy
    rfl
  have h2 : ((xs.map pk).all tup1) = true := by
    simp only [List.all_map, List.all_eq_true]
    intro a _
    rfl
  have h3 : ((xs.map pk).all fun d => decide (d.depth ≤ 64) && !d.hasDict) = true := by
    simp only [List.all_map, List.all_eq_true]
    intro a _
    rfl
  rw [h1, h2, h3]
  rfl
theorem sorted_pk {xs : List (Int × Int)} : dSorted [lL pk xs] = some (lL pk (sortP xs)) := by
  show (if sortB (xs.map pk) = true then some (PyData.list (sortD (xs.map pk))) else none) = _
  rw [if_pos sortB_pk]
  unfold sortD sortP lL
  rw [List.map_mergeSort (r := leP) (s := leD) (f := pk) (fun a _ b _ => leD_pk.symm)]
noncomputable section
def B_knots_of_1 : FS :=
  (fEnd [1, 3, 4] (fPut 2 fSetL (lf (pC (.bool true))) (lf (pNm 4))))
def B_knots_of_2 : FS :=
  (fEnd [1, 3, 4] (fKill [1, 4] (fFor (lf (iSeq (pCall F_ends_of [(pNm 0), (pNm 3)]))) (.nm 4) B_knots_of_1)))
def S_knots_of : FS :=
  (fSeq (fSet 2 (lf pDict0))
  (fKill [3, 4] (fSeq (fFor (lf (iSeq (pNm 1))) (.nm 3) B_knots_of_2)
  (fRet (lf (pApp dSorted [(pNm 2)]))))))
def F_knots_of : FD := runP [.val, .val] false 5 S_knots_of
def B_fewest : FS :=
  (fEnd [1, 4, 5] (fSeq (fSet 5 (lf (pApp dLen [(pLc (iSeq (pCall F_knots_of [(pNm 0), (pNm 4)])) (.nm 6) (tP (pBin dIn (pNm 6) (pNm 2))) (pNm 6) [6])])))
  (fSet 3 (lf (pBin dAdd (pNm 3) (pApp dMax2 [(pC (.int 1)), (pBin dFdiv (pNm 5) (pC (.int 2)))]))))))
def S_fewest : FS :=
  (fSeq (fSet 2 (lf (pCall F_odd [(pNm 0), (pNm 1)])))
  (fSeq (fSet 3 (lf (pC (.int 0))))
  (fKill [4, 5] (fSeq (fFor (lf (iSeq (pCall F_holes [(pNm 0), (pNm 1)]))) (.nm 4) B_fewest)
  (fRet (lf (pNm 3)))))))
def F_fewest : FD := runP [.val, .val] false 7 S_fewest
def B_law_fewest : FS :=
  (fEnd [1, 4, 5] (fSeq (fSet 5 (lf (pLc (iSeq (pNm 3)) (.nm 6) (tP (pBin dNe (pLc (iSeq (pCall F_law_at [(pNm 0), (pNm 6)])) (.nm 7) (tP (pBin dIn (pNm 7) (pNm 4))) (pNm 7) [7]) (pLst []))) (pNm 6) [6])))
  (fSet 2 (lf (pBin dAdd (pNm 2) (pApp dMax2 [(pC (.int 1)), (pBin dFdiv (pApp dLen [(pNm 5)]) (pC (.int 2)))]))))))
def S_law_fewest : FS :=
  (fSeq (fPar [2, 3] [(lf (pC (.int 0))), (lf (pCall F_law_odd [(pNm 0), (pNm 1)]))])
  (fKill [4, 5] (fSeq (fFor (lf (iSeq (pCall F_law_holes [(pNm 0), (pNm 1)]))) (.nm 4) B_law_fewest)
  (fRet (lf (pNm 2))))))
def F_law_fewest : FD := runP [.val, .val] false 8 S_law_fewest
end
/-- put in once -/
def addO {α : Type} [DecidableEq α] (F : List α) (o : α) : List α := if o ∈ F then F else F ++ [o]
theorem addO_mem {α : Type} [DecidableEq α] : ∀ {os F : List α} {x : α}, x ∈ os.foldl addO F ↔ x ∈ F ∨ x ∈ os
  | [], F, x => by simp
  | o :: os, F, x => by
    rw [List.foldl_cons, addO_mem]
    unfold addO
    split
    · rename_i h
      rw [List.mem_cons]
      exact ⟨fun z => z.elim .inl fun z => .inr (.inr z), fun z => z.elim .inl fun z => z.elim (fun e => .inl (e ▸ h)) .inr⟩
    · rw [List.mem_append, List.mem_singleton, List.mem_cons, or_assoc]
theorem addO_nd {α : Type} [DecidableEq α] : ∀ {os F : List α}, F.Nodup → (os.foldl addO F).Nodup
  | [], _, h => h
  | o :: os, F, h => by
    rw [List.foldl_cons]
    refine addO_nd ?_
    unfold addO
    split
    · exact h
    · rename_i n
      exact List.nodup_append.mpr ⟨h, by simp, fun a ha c hc e => n (by rw [List.mem_singleton.mp hc] at e; exact e ▸ ha)⟩
theorem addO_len {α : Type} [DecidableEq α] : ∀ {os F : List α}, (os.foldl addO F).length ≤ F.length + os.length
  | [], _ => by simp
  | o :: os, F => by
    rw [List.foldl_cons, List.length_cons]
    have := addO_len (os := os) (F := addO F o)
    have : (addO F o).length ≤ F.length + 1 := by unfold addO; split <;> simp
    omega
theorem set_dsO {α : Type} [DecidableEq α] {f : α → DL.D} {k : Nat} {t : Bool} [KeyF f t] [EncF f k] {F : List α} {a : α} (h : F.length < sizeLine) : fSetL (dsL f F) (f a) (.bool true) = some (dsL f (addO F a)) := by
  unfold addO
  split
  · rename_i m
    unfold dsL
    rw [set_dc (g := PyData.bool) (by rw [List.length_map]; exact h)]
    congr 2
    unfold putX
    rw [if_pos]
    · rw [List.map_map]
      refine List.map_congr_left fun x _ => ?_
      show (if x = a then (x, true) else (x, true)) = (x, true)
      split <;> rfl
    · exact List.any_eq_true.mpr ⟨(a, true), List.mem_map.mpr ⟨a, m, rfl⟩, decide_eq_true rfl⟩
  · rename_i m
    exact set_ds h m
/-- the knots at which bars lie -/
def knotsOf (S : Sheet) (h : List Int) : List (Int × Int) := (h.flatMap (endsL S)).foldl addO []
theorem mem_knotsOf {S : Sheet} {h : List Int} {p : Int × Int} : p ∈ knotsOf S h ↔ ∃ b ∈ h, p ∈ endsL S b := by
  unfold knotsOf
  rw [addO_mem, List.mem_flatMap]
  simp
section
variable {S : Sheet} {T : List Int}
def _root_.SsH27 : List Lean.Name := SsH26 ++ []
def _root_.SsL27 : List Lean.Name := SsL26 ++ [`FL.law_holes_eq, `FL.rev_lL, `FL.sorted_pk]
local macro_rules | `(tactic| simp only [$as,*] $[$l]?) => SsM (`word_snoc :: SsH27 ++ SsL27) as.getElems l
theorem knots_turn {a : Option DL.D} {F : List (Int × Int)} {b : Int} (h : F.length ≤ 1000) : B_knots_of_2 [some S.d, a, some (dsL pk F), some (.int b), none] = some (.ok .nx [some S.d, none, some (dsL pk ((endsL S b).foldl addO F)), none, none]) := by
  have sq : seqD (endsD S b) = some [pk (endsI S b).1, pk (endsI S b).2] := rfl
  have l1 : (addO F (endsI S b).1).length ≤ F.length + 1 := addO_len (os := [_])
  have s1 : fSetL (dsL pk F) (pk (endsI S b).1) (.bool true) = some (dsL pk (addO F (endsI S b).1)) := set_dsO (by rw [size_eq]; omega)
  have s2 : fSetL (dsL pk (addO F (endsI S b).1)) (pk (endsI S b).2) (.bool true) = some (dsL pk (addO (addO F (endsI S b).1) (endsI S b).2)) := set_dsO (by rw [size_eq]; omega)
  simp only [B_knots_of_2, B_knots_of_1, ss_, sq, forL_cons, s1, s2, endsL, List.foldl_cons, List.foldl_nil]
theorem knots_of_eq {h : List Int} (hl : h.length ≤ 100) : F_knots_of [S.d, tL .int h] = some (lL pk (sortP (knotsOf S h))) := by
  have go : ∀ (xs : List Int) (a : Option DL.D) (F : List (Int × Int)), F.length + 2 * xs.length ≤ 1000 → ∃ a', forL (.nm 3) B_knots_of_2 (xs.map .int) [some S.d, a, some (dsL pk F), none, none] = some (.ok .nx [some S.d, a', some (dsL pk ((xs.flatMap (endsL S)).foldl addO F)), none, none]) := by
    intro xs
    induction xs with
    | nil => exact fun a F _ => ⟨a, rfl⟩
    | cons x xs ih =>
      intro a F hl
      rw [List.length_cons] at hl
      have := addO_len (os := endsL S x) (F := F)
      have l2 : (endsL S x).length = 2 := rfl
      obtain ⟨a', e⟩ := ih none ((endsL S x).foldl addO F) (by omega)
      refine ⟨a', ?_⟩
      rw [List.map_cons, forL_cons, bindD_nm, b_some, show (_ : En).set 3 (some (PyData.int x)) = [some S.d, a, some (dsL pk F), some (.int x), none] from rfl, knots_turn (by omega), lp_nx, List.flatMap_cons, List.foldl_append]
      exact e
  obtain ⟨a', e⟩ := go h (some (tL .int h)) [] (by rw [List.length_nil]; omega)
  have e0 : PyData.dict [] = dsL pk [] := rfl
  simp only [F_knots_of, S_knots_of, runP, ss_, e0, e, knotsOf]
/-- how many odd knots a hole has -/
def oddOf (S : Sheet) (T h : List Int) : Nat := ((knotsOf S h).filter fun p => decide (p ∈ oddI S T)).length
def partI (S : Sheet) (T h : List Int) : Int := max 1 ((oddOf S T h : Int) / 2)
noncomputable def fewI (S : Sheet) (T : List Int) : Int := ((holesI S T).map (partI S T)).sum
theorem holes_tear (hT : IsTear S T) : ∀ h ∈ holesI S T, IsTear S h := by
  have all : ∀ (xs : List Int) (f : List (List Int)), (∀ h ∈ f, IsTear S h) → ∀ h ∈ xs.foldl (stepH S T) f, IsTear S h := by
    intro xs
    induction xs with
    | nil => exact fun f hf => hf
    | cons x xs ih =>
      intro f hf
      refine ih _ fun h hh => ?_
      unfold stepH at hh
      split at hh
      · exact hf h hh
      · rcases List.mem_append.mp hh with hh | hh
        · exact hf h hh
        · rw [List.mem_singleton.mp hh]; exact comp_tear hT
  exact all T [] (fun _ h => absurd h List.not_mem_nil)
theorem odd_nd : (oddI S T).Nodup := by
  unfold oddI
  refine List.Pairwise.filter _ ?_
  unfold knotsI
  refine List.pairwise_flatMap.mpr ⟨fun r _ => ?_, ?_⟩
  · unfold rowK
    refine List.Pairwise.filter _ ?_
    rw [List.pairwise_map]
    exact asc_rgI.nodup.imp fun h e => h (Prod.mk.inj e).2
  · exact asc_rgI.nodup.imp fun {a b} h p hp q hq e => by
      unfold rowK at hp hq
      obtain ⟨c, _, e1⟩ := List.mem_map.mp (List.mem_filter.mp hp).1
      obtain ⟨d, _, e2⟩ := List.mem_map.mp (List.mem_filter.mp hq).1
      rw [e, ← e2] at e1
      exact h (Prod.mk.inj e1).1
theorem knotsOf_nd {h : List Int} : (knotsOf S h).Nodup := addO_nd List.nodup_nil
theorem odd_count {h : List Int} (hh : IsTear S h) : ((oddI S T).filter fun p => !decide ((barsI S p).filter (fun b => decide (b ∈ h)) = [])).length = oddOf S T h := by
  unfold oddOf
  refine List.Perm.length_eq ((List.perm_ext_iff_of_nodup (odd_nd.filter _) (knotsOf_nd.filter _)).mpr fun p => ?_)
  rw [List.mem_filter, List.mem_filter, mem_knotsOf, decide_eq_true_eq, Bool.not_eq_true', decide_eq_false_iff_not, List.filter_eq_nil_iff]
  constructor
  · rintro ⟨h1, h2⟩
    have h2 : ∃ b, b ∈ barsI S p ∧ b ∈ h := Classical.byContradiction fun n => h2 fun b hb z => n ⟨b, hb, by simpa using z⟩
    obtain ⟨b, hb, hm⟩ := h2
    have ev := (mem_knotsI.mp ((List.mem_filter.mp h1).1)).2.2
    exact ⟨⟨b, hm, (bars_ends (hh.inb b hm).1 (hh.inb b hm).2 ev).mp hb⟩, h1⟩
  · rintro ⟨⟨b, hm, he⟩, h1⟩
    have ev := (mem_knotsI.mp ((List.mem_filter.mp h1).1)).2.2
    refine ⟨h1, fun z => ?_⟩
    have := z b ((bars_ends (hh.inb b hm).1 (hh.inb b hm).2 ev).mpr he)
    simp [hm] at this
theorem fdiv2 {n : Nat} : dFdiv (.int (n : Int)) (.int 2) = some (.int ((n : Int) / 2)) := dFdiv_i (by decide) (by decide)
theorem few_turn {O : List (Int × Int)} {a : Option DL.D} {c : Int} {h : List Int} (hO : O = oddI S T) (hl : h.length ≤ 100) : B_fewest [some S.d, a, some (tL pk O), some (.int c), some (tL .int h), none, none] = some (.ok .nx [some S.d, none, some (tL pk O), some (.int (c + partI S T h)), none, none, none]) := by
  subst hO
  have p := sortP_perm (knotsOf S h)
  have kl : (sortP (knotsOf S h)).length ≤ 1000 := by
    rw [p.length_eq]
    unfold knotsOf
    have := addO_len (os := h.flatMap (endsL S)) (F := ([] : List (Int × Int)))
    have := flat_len (f := endsL S) (k := 2) (fun a => Nat.le_refl _) h
    rw [List.length_nil] at *
    omega
  have fx : ((sortP (knotsOf S h)).length ≤ sizeLine) = True := fits (by omega)
  have e : (((sortP (knotsOf S h)).filter fun p => decide (p ∈ oddI S T)).length : Int) = (oddOf S T h : Int) := by
    unfold oddOf
    rw [(p.filter _).length_eq]
  obtain ⟨n, hn⟩ : ∃ n : Nat, oddOf S T h = n := ⟨_, rfl⟩
  unfold partI
  rw [hn] at e ⊢
  have e2 := fdiv2 (n := n)
  simp only [B_fewest, ss_, knots_of_eq hl, fx]
  rw [e]
  simp only [ss_, e2]
theorem law_few_turn {O : List (Int × Int)} {a b : Option DL.D} {c : Int} {h : List Int} (hO : O = oddI S T) (hh : IsTear S h) : B_law_fewest [some S.d, a, some (.int c), some (tL pk O), some (tL .int h), none, none, none] = some (.ok .nx [some S.d, none, some (.int (c + partI S T h)), some (tL pk O), none, none, none, none]) := by
  subst hO
  have fx : ((oddI S T).length ≤ sizeLine) = True := fits (by have := List.length_filter_le (fun p => decide (((lackI S T p).length : Int) % 2 = 1)) (knotsI S); have := knots_len (S := S); unfold oddI; omega)
  have e : (((oddI S T).filter fun p => !decide ((barsI S p).filter (fun b => decide (b ∈ h)) = [])).length : Int) = (oddOf S T h : Int) := by rw [odd_count hh]
  obtain ⟨n, hn⟩ : ∃ n : Nat, oddOf S T h = n := ⟨_, rfl⟩
  unfold partI
  rw [hn] at e ⊢
  have e2 := fdiv2 (n := n)
  simp only [B_law_fewest, ss_, fx, bars_fit]
  rw [e]
  simp only [ss_, e2]
theorem fewest_eq (hT : IsTear S T) : F_fewest [S.d, tL .int T] = some (.int (fewI S T)) := by
  have go : ∀ (hs : List (List Int)) (a : Option DL.D) (c : Int), (∀ h ∈ hs, IsTear S h) → ∃ a', forL (.nm 4) B_fewest (hs.map tLI) [some S.d, a, some (tL pk (oddI S T)), some (.int c), none, none, none] = some (.ok .nx [some S.d, a', some (tL pk (oddI S T)), some (.int (c + (hs.map (partI S T)).sum)), none, none, none]) := by
    intro hs
    induction hs with
    | nil => exact fun a c _ => ⟨a, by rw [show (([] : List (List Int)).map (partI S T)).sum = 0 from rfl, Int.add_zero]; rfl⟩
    | cons h hs ih =>
      intro a c hm
      obtain ⟨a', e⟩ := ih none (c + partI S T h) fun x hx => hm x (List.mem_cons_of_mem _ hx)
      refine ⟨a', ?_⟩
      rw [List.map_cons, forL_cons, bindD_nm, b_some, show (_ : En).set 4 (some (tLI h)) = [some S.d, a, some (tL pk (oddI S T)), some (.int c), some (tL .int h), none, none] from rfl, few_turn rfl (by have := (hm h List.mem_cons_self).len; omega), lp_nx, e, List.map_cons, List.sum_cons, Int.add_assoc]
  obtain ⟨a', e⟩ := go (holesI S T) (some (tL .int T)) 0 (holes_tear hT)
  simp only [F_fewest, S_fewest, runP, ss_, holes_eq hT, e, Int.zero_add, fewI]
def _root_.SsH28 : List Lean.Name := SsH27 ++ []
def _root_.SsL28 : List Lean.Name := SsL27 ++ [`FL.fewest_eq]
local macro_rules | `(tactic| simp only [$as,*] $[$l]?) => SsM (`word_snoc :: SsH28 ++ SsL28) as.getElems l
theorem law_fewest_eq (hT : IsTear S T) : F_law_fewest [S.d, tL .int T] = some (.int (fewI S T)) := by
  have go : ∀ (hs : List (List Int)) (a : Option DL.D) (c : Int), (∀ h ∈ hs, IsTear S h) → ∃ a', forL (.nm 4) B_law_fewest (hs.map tLI) [some S.d, a, some (.int c), some (tL pk (oddI S T)), none, none, none, none] = some (.ok .nx [some S.d, a', some (.int (c + (hs.map (partI S T)).sum)), some (tL pk (oddI S T)), none, none, none, none]) := by
    intro hs
    induction hs with
    | nil => exact fun a c _ => ⟨a, by rw [show (([] : List (List Int)).map (partI S T)).sum = 0 from rfl, Int.add_zero]; rfl⟩
    | cons h hs ih =>
      intro a c hm
      obtain ⟨a', e⟩ := ih none (c + partI S T h) fun x hx => hm x (List.mem_cons_of_mem _ hx)
      refine ⟨a', ?_⟩
      rw [List.map_cons, forL_cons, bindD_nm, b_some, show (_ : En).set 4 (some (tLI h)) = [some S.d, a, some (.int c), some (tL pk (oddI S T)), some (tL .int h), none, none, none] from rfl, law_few_turn (b := none) rfl (hm h List.mem_cons_self), lp_nx, e, List.map_cons, List.sum_cons, Int.add_assoc]
  obtain ⟨a', e⟩ := go (holesI S T) (some (tL .int T)) 0 (holes_tear hT)
  simp only [F_law_fewest, S_law_fewest, runP, ss_, law_holes_eq hT, e, Int.zero_add, fewI]
end
end FL
namespace FL
open PySem PySem.Spec L2 DL
noncomputable section
def S_ends2 : FS :=
  (fSeq (fPar [2, 3] [(lf (pBin dFdiv (pNm 1) (pBin dAt (pNm 0) (pC (.int 1))))), (lf (pBin dMod (pApp dInt [(pNm 1)]) (pBin dAt (pNm 0) (pC (.int 1)))))])
  (fRet (lf (pIf (tP (pBin dEq (pBin dMod (pApp dInt [(pBin dAdd (pNm 2) (pNm 3))]) (pC (.int 2))) (pC (.int 0)))) (pTup [(pTup [(pNm 2), (pNm 3)]), (pTup [(pBin dAdd (pNm 2) (pC (.int 1))), (pBin dAdd (pNm 3) (pC (.int 1)))])]) (pTup [(pTup [(pNm 2), (pBin dAdd (pNm 3) (pC (.int 1)))]), (pTup [(pBin dAdd (pNm 2) (pC (.int 1))), (pNm 3)])])))))
def F_ends2 : FD := runP [.val, .val] false 4 S_ends2
end
def _root_.SsH29 : List Lean.Name := SsH28 ++ []
def _root_.SsL29 : List Lean.Name := SsL28 ++ [`FL.law_fewest_eq]
local macro_rules | `(tactic| simp only [$as,*] $[$l]?) => SsM (`word_snoc :: SsH29 ++ SsL29) as.getElems l
theorem ends2_eq {S : Sheet} {b : Int} : F_ends2 [S.d, .int b] = some (endsD S b) := by
  simp only [F_ends2, S_ends2, runP, ss_, endsD, endsI]
  split <;> rfl
def _root_.SsH30 : List Lean.Name := SsH29 ++ []
def _root_.SsL30 : List Lean.Name := SsL29 ++ [`FL.ends2_eq]
local macro_rules | `(tactic| simp only [$as,*] $[$l]?) => SsM (`word_snoc :: SsH30 ++ SsL30) as.getElems l
end FL
namespace FL
open PySem PySem.Spec L2 DL
section
variable {S : Sheet} {T : List Int}
local macro_rules | `(tactic| simp only [$as,*] $[$l]?) => SsM (`word_snoc :: SsH30 ++ SsL30) as.getElems l
end
end FL
namespace FL
open PySem PySem.Spec L2 DL
section
variable {S : Sheet}
local macro_rules | `(tactic| simp only [$as,*] $[$l]?) => SsM (`word_snoc :: SsH30 ++ SsL30) as.getElems l
end
end FL
namespace FL
open PySem PySem.Spec L2 DL
section
variable {S : Sheet}
local macro_rules | `(tactic| simp only [$as,*] $[$l]?) => SsM (`word_snoc :: SsH30 ++ SsL30) as.getElems l
end
end FL
namespace L32
open PySem PySem.Spec L2 DL FL
abbrev CS : List Str := ["NotOne", "TooMany", "NoTrim", "NoPaper", "NotEven", "NoRing", "BadExchange", "BadPlan", "BadText", "NoEdge", "BadSheet", "BadTear", "NoBar", "BadBars", "BadTwine", "Full", "NothingDone", "NothingUndone", "NoListener"]
abbrev ORD : List Str := ["NotOne", "TooMany", "NoTrim", "NoPaper", "NotEven", "NoRing", "BadExchange", "NoEdge", "BadSheet", "BadTear", "NoBar", "BadBars", "BadTwine", "BadPlan", "Full", "NothingDone", "NothingUndone", "NoListener", "BadText"]
def ex0 (LC : Str → Addr) (x : Str) : DL.D := exD (LC x) x []
def ex1 (LC : Str → Addr) (x f : Str) (d : DL.D) : DL.D := exD (LC x) x [(.str f, d)]
def ex2 (LC : Str → Addr) (x f g : Str) (d e : DL.D) : DL.D := exD (LC x) x [(.str f, d), (.str g, e)]
section
variable {LC : Str → Addr} {x f g : Str} {a b d e : DL.D}
theorem mk0 : dMkX LC x [] [] = some (ex0 LC x) := if_pos rfl
theorem mk1 : dMkX LC x [f] [d] = some (ex1 LC x f d) := if_pos rfl
theorem mk2 : dMkX LC x [f, g] [d, e] = some (ex2 LC x f g d e) := if_pos rfl
structure EX (LC : Str → Addr) (x : Str) (e : DL.D) : Prop where
  is : ∀ p : Str → Bool, dXis LC CS p e = some (.bool (p x))
theorem ex0_ok (h : CS.contains x = true) : EX LC x (ex0 LC x) := ⟨fun p => if_pos ⟨rfl, h⟩⟩
theorem ex1_ok (h : CS.contains x = true) : EX LC x (ex1 LC x f d) := ⟨fun p => if_pos ⟨rfl, h⟩⟩
theorem ex2_ok (h : CS.contains x = true) : EX LC x (ex2 LC x f g d e) := ⟨fun p => if_pos ⟨rfl, h⟩⟩
theorem xf1 (h : CS.contains x = true) : dXf LC CS f (ex1 LC x f d) = some d := (if_pos ⟨rfl, h⟩).trans (if_pos rfl)
theorem xf2 (h : CS.contains x = true) : dXf LC CS f (ex2 LC x f g d e) = some d := (if_pos ⟨rfl, h⟩).trans (if_pos rfl)
theorem xf3 (h : CS.contains x = true) (n : f ≠ g) : dXf LC CS g (ex2 LC x f g d e) = some e := (if_pos ⟨rfl, h⟩).trans ((if_neg n).trans (if_pos rfl))
theorem cat_l {xs ys : List DL.D} (h : xs.length + ys.length ≤ 1000) : dCat (.list xs) (.list ys) = some (.list (xs ++ ys)) := if_pos (by rw [size_eq]; omega)
local macro_rules | `(tactic| simp only [$as,*] $[$l]?) => SsM (`word_snoc :: SsH30 ++ SsL30) as.getElems l
theorem sorts_ok (E : EX LC x e) : F_law_sorts LC [e] = some (.list (ORD.map fun n => .bool (subX x n))) := by
  have i := E.is
  simp only [F_law_sorts, S_law_sorts, runP, ss_, i, cat_l, List.length_cons, List.length_nil, List.cons_append, List.nil_append, Nat.reduceAdd, Nat.reduceLeDiff]
/-- the nineteen -/
def every (LC : Str → Addr) (a b : DL.D) : List DL.D := [ex1 LC "NotOne" "number" a, ex1 LC "TooMany" "number" a, ex1 LC "NoTrim" "lot" a, ex2 LC "NoPaper" "word" "number" a b, ex1 LC "NotEven" "knot" a, ex1 LC "NoRing" "value" a, ex1 LC "BadExchange" "number" a, ex0 LC "NoEdge", ex1 LC "BadSheet" "word" a, ex1 LC "BadTear" "number" a, ex1 LC "NoBar" "bar" a, ex1 LC "BadBars" "number" a, ex1 LC "BadTwine" "word" a, ex2 LC "BadPlan" "number" "word" a b, ex0 LC "Full", ex0 LC "NothingDone", ex0 LC "NothingUndone", ex1 LC "NoListener" "number" a, ex2 LC "BadText" "line" "sign" a b]
theorem map_b {α : Type} {p : α → Bool} {l : List α} : l.map (fun x => PyData.bool (p x)) = (l.map p).map PyData.bool := by rw [List.map_map]; rfl
theorem every_at : ∀ k : Nat, k < 19 → ∃ x e, atI (every LC a b) ((k : Nat) : Int) = some e ∧ EX LC x e ∧ (ORD.map fun n => subX x n) = (rgI 19).map fun j => decide (j = ((k : Nat) : Int)) := by
  intro k hk
  match k, hk with
  | 0, _ => exact ⟨"NotOne", _, rfl, ex1_ok (by decide +kernel), by decide +kernel⟩
  | 1, _ => exact ⟨"TooMany", _, rfl, ex1_ok (by decide +kernel), by decide +kernel⟩
  | 2, _ => exact ⟨"NoTrim", _, rfl, ex1_ok (by decide +kernel), by decide +kernel⟩
  | 3, _ => exact ⟨"NoPaper", _, rfl, ex2_ok (by decide +kernel), by decide +kernel⟩
  | 4, _ => exact ⟨"NotEven", _, rfl, ex1_ok (by decide +kernel), by decide +kernel⟩
  | 5, _ => exact ⟨"NoRing", _, rfl, ex1_ok (by decide +kernel), by decide +kernel⟩
  | 6, _ => exact ⟨"BadExchange", _, rfl, ex1_ok (by decide +kernel), by decide +kernel⟩
  | 7, _ => exact ⟨"NoEdge", _, rfl, ex0_ok (by decide +kernel), by decide +kernel⟩
  | 8, _ => exact ⟨"BadSheet", _, rfl, ex1_ok (by decide +kernel), by decide +kernel⟩
  | 9, _ => exact ⟨"BadTear", _, rfl, ex1_ok (by decide +kernel), by decide +kernel⟩
  | 10, _ => exact ⟨"NoBar", _, rfl, ex1_ok (by decide +kernel), by decide +kernel⟩
  | 11, _ => exact ⟨"BadBars", _, rfl, ex1_ok (by decide +kernel), by decide +kernel⟩
  | 12, _ => exact ⟨"BadTwine", _, rfl, ex1_ok (by decide +kernel), by decide +kernel⟩
  | 13, _ => exact ⟨"BadPlan", _, rfl, ex2_ok (by decide +kernel), by decide +kernel⟩
  | 14, _ => exact ⟨"Full", _, rfl, ex0_ok (by decide +kernel), by decide +kernel⟩
  | 15, _ => exact ⟨"NothingDone", _, rfl, ex0_ok (by decide +kernel), by decide +kernel⟩
  | 16, _ => exact ⟨"NothingUndone", _, rfl, ex0_ok (by decide +kernel), by decide +kernel⟩
  | 17, _ => exact ⟨"NoListener", _, rfl, ex1_ok (by decide +kernel), by decide +kernel⟩
  | 18, _ => exact ⟨"BadText", _, rfl, ex2_ok (by decide +kernel), by decide +kernel⟩
  | k + 19, h => exact absurd h (by omega)
theorem turn1 {dk A B : DL.D} {k : Nat} (hk : k < 19) : (bindD (.nm 6) (.int (k : Int)) [none, some dk, none, some A, some B, some (.list (every LC A B)), none, none, none, none, none, none]).bind (B_law_1 LC) = some (.ok .nx [none, some dk, none, some A, some B, some (.list (every LC A B)), none, none, none, none, none, none]) := by
  obtain ⟨x, e, ek, E, hm⟩ := every_at (LC := LC) (a := A) (b := B) k hk
  have s := sorts_ok E
  rw [map_b, hm] at s
  have at_ : dAt (.list (every LC A B)) (.int (k : Int)) = some e := ek
  obtain ⟨L, hL⟩ : ∃ L, PyData.list (every LC A B) = L := ⟨_, rfl⟩
  rw [hL] at at_ ⊢
  have i := E.is
  have g : Gd 1 19 (.list (((rgI 19).map fun j => decide (j = (k : Int))).map PyData.bool)) := Gd.list (m := 0) (n := 0) (fun x hx => by
    obtain ⟨b, _, rfl⟩ := List.mem_map.mp hx
    exact Gd.bool) (by rw [List.length_map, List.length_map]; decide +kernel)
  have ne := dNe_me g
  have lc : lcF (fun d => some true) (fun x => dEq x (.int (k : Int))) ((rgI 19).map .int) = some (((rgI 19).map fun j => decide (j = (k : Int))).map PyData.bool) := by
    rw [FL.lc_map, lc_memA (f := fun j => PyData.bool (decide (j = (k : Int)))) fun x hx => ⟨rfl, r_eqi⟩, map_b]
  have rg := rng_n (n := 19) (by decide)
  have hl : ((rgI 19).map PyData.int).length ≤ sizeLine := by rw [List.length_map, rgI_len, size_eq]; decide
  obtain ⟨M, hM⟩ : ∃ M, (rgI 19).map PyData.int = M := ⟨_, rfl⟩
  obtain ⟨Z, hZ⟩ : ∃ Z, ((rgI 19).map fun j => decide (j = (k : Int))).map PyData.bool = Z := ⟨_, rfl⟩
  rw [hM] at lc rg hl
  rw [hZ] at lc s ne
  have ix : dXis LC CS (fun n => subX n "NetError") e = some (.bool true) := (i _).trans (by unfold subX; rw [show ((Str.ofString "NetError") == (Str.ofString "NetError")) = true by decide +kernel, Bool.or_true])
  have iv := i fun _ => true
  obtain ⟨K, hK⟩ : ∃ K, PyData.int (k : Int) = K := ⟨_, rfl⟩
  rw [hK] at at_ lc ⊢
  obtain ⟨P, hP⟩ : ∃ P : DL.D → Option DL.D, dXis LC CS (fun n => subX n "NetError") = P := ⟨_, rfl⟩
  obtain ⟨P2, hP2⟩ : ∃ P : DL.D → Option DL.D, dXis LC CS (fun _ => true) = P := ⟨_, rfl⟩
  unfold B_law_1
  rw [hP] at ix ⊢
  rw [hP2] at iv ⊢
  simp only [ss_, at_, s, ix, iv, rg, hl, lc, ne]
theorem dNe_str {z : Str} : dNe (.str z) (.str z) = some (.bool false) := (if_pos (Or.inl rfl)).trans (by rw [FL.eqv_str, decide_eq_true rfl]; rfl)
theorem add_l {xs ys : List DL.D} (h : xs.length + ys.length ≤ 1000) : dAdd (.list xs) (.list ys) = some (.list (xs ++ ys)) := if_pos (by rw [size_eq]; omega)
theorem rep24 {X : DL.D} : dRep (.list [X]) (.int 24) = some (.list [X, X, X, X, X, X, X, X, X, X, X, X, X, X, X, X, X, X, X, X, X, X, X, X]) := by
  show (if (-(2 ^ 63 : Int) ≤ 24 ∧ (24 : Int) < 2 ^ 63) ∧ [X].length * (24 : Int).toNat ≤ sizeLine then some (PyData.list (List.replicate (24 : Int).toNat [X]).flatten) else none) = _
  rw [if_pos ⟨by decide, by rw [size_eq]; show 1 * 24 ≤ _; omega⟩]
  rfl
theorem rep6 {X : DL.D} : dRep (.list [X]) (.int 6) = some (.list [X, X, X, X, X, X]) := by
  show (if (-(2 ^ 63 : Int) ≤ 6 ∧ (6 : Int) < 2 ^ 63) ∧ [X].length * (6 : Int).toNat ≤ sizeLine then some (PyData.list (List.replicate (6 : Int).toNat [X]).flatten) else none) = _
  rw [if_pos ⟨by decide, by rw [size_eq]; show 1 * 6 ≤ _; omega⟩]
  rfl
def R17 (LC : Str → Addr) : FS :=
  (fIf (lf (tP (pBin dNe (pApp dReprX [(pNm 10)]) (pApp dReprX [(pBin dRep (pLst [(pLst [(pNm 3), (pNm 4)])]) (pC (.int 6)))])))) (fRet (lf (pC (.bool false)))) fNil)
def R16 (LC : Str → Addr) : FS :=
  (fKill [0, 2, 5, 6, 8, 9, 11] (fSeq (fFor (lf (iSeq (pLst [(pApp (dMkX LC "BadText" ["line", "sign"]) [(pNm 3), (pNm 4)]), (pApp (dMkX LC "BadText" ["sign", "line"]) [(pNm 4), (pNm 3)])]))) (.nm 11) (B_law_4 LC))
  (R17 LC)))
def R15 (LC : Str → Addr) : FS :=
  (fKill [0, 2, 5, 6, 8, 9, 11] (fSeq (fFor (lf (iSeq (pLst [(pApp (dMkX LC "BadPlan" ["number", "word"]) [(pNm 3), (pNm 4)]), (pApp (dMkX LC "BadPlan" ["word", "number"]) [(pNm 4), (pNm 3)])]))) (.nm 11) (B_law_3 LC))
  (R16 LC)))
def R14 (LC : Str → Addr) : FS :=
  (fKill [0, 2, 5, 6, 8, 9, 11] (fSeq (fFor (lf (iSeq (pLst [(pApp (dMkX LC "NoPaper" ["word", "number"]) [(pNm 3), (pNm 4)]), (pApp (dMkX LC "NoPaper" ["number", "word"]) [(pNm 4), (pNm 3)])]))) (.nm 11) (B_law_2 LC))
  (R15 LC)))
def R13 (LC : Str → Addr) : FS :=
  (fSeq (fSet 10 (lf (pLst [])))
  (R14 LC))
def R12 (LC : Str → Addr) : FS :=
  (fSeq (fIf (lf (tP (pBin dNe (pApp dReprX [(pBin dAdd (pNm 8) (pNm 9))]) (pApp dReprX [(pBin dRep (pLst [(pNm 3)]) (pC (.int 24)))])))) (fRet (lf (pC (.bool false)))) fNil)
  (R13 LC))
def R9 (LC : Str → Addr) : FS :=
  (fSeq (fSet 9 (lf (pLst [(pUn (dXf LC ["NotOne", "TooMany", "NoTrim", "NoPaper", "NotEven", "NoRing", "BadExchange", "BadPlan", "BadText", "NoEdge", "BadSheet", "BadTear", "NoBar", "BadBars", "BadTwine", "Full", "NothingDone", "NothingUndone", "NoListener"] "number") (pBin dAt (pNm 5) (pC (.int 0)))), (pUn (dXf LC ["NotOne", "TooMany", "NoTrim", "NoPaper", "NotEven", "NoRing", "BadExchange", "BadPlan", "BadText", "NoEdge", "BadSheet", "BadTear", "NoBar", "BadBars", "BadTwine", "Full", "NothingDone", "NothingUndone", "NoListener"] "number") (pBin dAt (pNm 5) (pC (.int 1)))), (pUn (dXf LC ["NotOne", "TooMany", "NoTrim", "NoPaper", "NotEven", "NoRing", "BadExchange", "BadPlan", "BadText", "NoEdge", "BadSheet", "BadTear", "NoBar", "BadBars", "BadTwine", "Full", "NothingDone", "NothingUndone", "NoListener"] "lot") (pBin dAt (pNm 5) (pC (.int 2)))), (pUn (dXf LC ["NotOne", "TooMany", "NoTrim", "NoPaper", "NotEven", "NoRing", "BadExchange", "BadPlan", "BadText", "NoEdge", "BadSheet", "BadTear", "NoBar", "BadBars", "BadTwine", "Full", "NothingDone", "NothingUndone", "NoListener"] "knot") (pBin dAt (pNm 5) (pC (.int 4)))), (pUn (dXf LC ["NotOne", "TooMany", "NoTrim", "NoPaper", "NotEven", "NoRing", "BadExchange", "BadPlan", "BadText", "NoEdge", "BadSheet", "BadTear", "NoBar", "BadBars", "BadTwine", "Full", "NothingDone", "NothingUndone", "NoListener"] "value") (pBin dAt (pNm 5) (pC (.int 5)))), (pUn (dXf LC ["NotOne", "TooMany", "NoTrim", "NoPaper", "NotEven", "NoRing", "BadExchange", "BadPlan", "BadText", "NoEdge", "BadSheet", "BadTear", "NoBar", "BadBars", "BadTwine", "Full", "NothingDone", "NothingUndone", "NoListener"] "number") (pBin dAt (pNm 5) (pC (.int 6))))])))
  (fSeq (fSet 9 (lf (pBin dCat (pNm 9) (pLst [(pUn (dXf LC ["NotOne", "TooMany", "NoTrim", "NoPaper", "NotEven", "NoRing", "BadExchange", "BadPlan", "BadText", "NoEdge", "BadSheet", "BadTear", "NoBar", "BadBars", "BadTwine", "Full", "NothingDone", "NothingUndone", "NoListener"] "word") (pBin dAt (pNm 5) (pC (.int 8)))), (pUn (dXf LC ["NotOne", "TooMany", "NoTrim", "NoPaper", "NotEven", "NoRing", "BadExchange", "BadPlan", "BadText", "NoEdge", "BadSheet", "BadTear", "NoBar", "BadBars", "BadTwine", "Full", "NothingDone", "NothingUndone", "NoListener"] "number") (pBin dAt (pNm 5) (pC (.int 9)))), (pUn (dXf LC ["NotOne", "TooMany", "NoTrim", "NoPaper", "NotEven", "NoRing", "BadExchange", "BadPlan", "BadText", "NoEdge", "BadSheet", "BadTear", "NoBar", "BadBars", "BadTwine", "Full", "NothingDone", "NothingUndone", "NoListener"] "bar") (pBin dAt (pNm 5) (pC (.int 10)))), (pUn (dXf LC ["NotOne", "TooMany", "NoTrim", "NoPaper", "NotEven", "NoRing", "BadExchange", "BadPlan", "BadText", "NoEdge", "BadSheet", "BadTear", "NoBar", "BadBars", "BadTwine", "Full", "NothingDone", "NothingUndone", "NoListener"] "number") (pBin dAt (pNm 5) (pC (.int 11))))]))))
  (fSeq (fSet 9 (lf (pBin dCat (pNm 9) (pLst [(pUn (dXf LC ["NotOne", "TooMany", "NoTrim", "NoPaper", "NotEven", "NoRing", "BadExchange", "BadPlan", "BadText", "NoEdge", "BadSheet", "BadTear", "NoBar", "BadBars", "BadTwine", "Full", "NothingDone", "NothingUndone", "NoListener"] "word") (pBin dAt (pNm 5) (pC (.int 12)))), (pUn (dXf LC ["NotOne", "TooMany", "NoTrim", "NoPaper", "NotEven", "NoRing", "BadExchange", "BadPlan", "BadText", "NoEdge", "BadSheet", "BadTear", "NoBar", "BadBars", "BadTwine", "Full", "NothingDone", "NothingUndone", "NoListener"] "number") (pBin dAt (pNm 5) (pC (.int 17))))]))))
  (R12 LC))))
def R5 (LC : Str → Addr) : FS :=
  (fSeq (fSet 8 (lf (pLst [(pUn (dXf LC ["NotOne", "TooMany", "NoTrim", "NoPaper", "NotEven", "NoRing", "BadExchange", "BadPlan", "BadText", "NoEdge", "BadSheet", "BadTear", "NoBar", "BadBars", "BadTwine", "Full", "NothingDone", "NothingUndone", "NoListener"] "number") (pApp (dMkX LC "NotOne" ["number"]) [(pNm 3)])), (pUn (dXf LC ["NotOne", "TooMany", "NoTrim", "NoPaper", "NotEven", "NoRing", "BadExchange", "BadPlan", "BadText", "NoEdge", "BadSheet", "BadTear", "NoBar", "BadBars", "BadTwine", "Full", "NothingDone", "NothingUndone", "NoListener"] "number") (pApp (dMkX LC "TooMany" ["number"]) [(pNm 3)])), (pUn (dXf LC ["NotOne", "TooMany", "NoTrim", "NoPaper", "NotEven", "NoRing", "BadExchange", "BadPlan", "BadText", "NoEdge", "BadSheet", "BadTear", "NoBar", "BadBars", "BadTwine", "Full", "NothingDone", "NothingUndone", "NoListener"] "lot") (pApp (dMkX LC "NoTrim" ["lot"]) [(pNm 3)])), (pUn (dXf LC ["NotOne", "TooMany", "NoTrim", "NoPaper", "NotEven", "NoRing", "BadExchange", "BadPlan", "BadText", "NoEdge", "BadSheet", "BadTear", "NoBar", "BadBars", "BadTwine", "Full", "NothingDone", "NothingUndone", "NoListener"] "knot") (pApp (dMkX LC "NotEven" ["knot"]) [(pNm 3)]))])))
  (fSeq (fSet 8 (lf (pBin dCat (pNm 8) (pLst [(pUn (dXf LC ["NotOne", "TooMany", "NoTrim", "NoPaper", "NotEven", "NoRing", "BadExchange", "BadPlan", "BadText", "NoEdge", "BadSheet", "BadTear", "NoBar", "BadBars", "BadTwine", "Full", "NothingDone", "NothingUndone", "NoListener"] "value") (pApp (dMkX LC "NoRing" ["value"]) [(pNm 3)])), (pUn (dXf LC ["NotOne", "TooMany", "NoTrim", "NoPaper", "NotEven", "NoRing", "BadExchange", "BadPlan", "BadText", "NoEdge", "BadSheet", "BadTear", "NoBar", "BadBars", "BadTwine", "Full", "NothingDone", "NothingUndone", "NoListener"] "number") (pApp (dMkX LC "BadExchange" ["number"]) [(pNm 3)])), (pUn (dXf LC ["NotOne", "TooMany", "NoTrim", "NoPaper", "NotEven", "NoRing", "BadExchange", "BadPlan", "BadText", "NoEdge", "BadSheet", "BadTear", "NoBar", "BadBars", "BadTwine", "Full", "NothingDone", "NothingUndone", "NoListener"] "word") (pApp (dMkX LC "BadSheet" ["word"]) [(pNm 3)]))]))))
  (fSeq (fSet 8 (lf (pBin dCat (pNm 8) (pLst [(pUn (dXf LC ["NotOne", "TooMany", "NoTrim", "NoPaper", "NotEven", "NoRing", "BadExchange", "BadPlan", "BadText", "NoEdge", "BadSheet", "BadTear", "NoBar", "BadBars", "BadTwine", "Full", "NothingDone", "NothingUndone", "NoListener"] "number") (pApp (dMkX LC "BadTear" ["number"]) [(pNm 3)])), (pUn (dXf LC ["NotOne", "TooMany", "NoTrim", "NoPaper", "NotEven", "NoRing", "BadExchange", "BadPlan", "BadText", "NoEdge", "BadSheet", "BadTear", "NoBar", "BadBars", "BadTwine", "Full", "NothingDone", "NothingUndone", "NoListener"] "bar") (pApp (dMkX LC "NoBar" ["bar"]) [(pNm 3)])), (pUn (dXf LC ["NotOne", "TooMany", "NoTrim", "NoPaper", "NotEven", "NoRing", "BadExchange", "BadPlan", "BadText", "NoEdge", "BadSheet", "BadTear", "NoBar", "BadBars", "BadTwine", "Full", "NothingDone", "NothingUndone", "NoListener"] "number") (pApp (dMkX LC "BadBars" ["number"]) [(pNm 3)]))]))))
  (fSeq (fSet 8 (lf (pBin dCat (pNm 8) (pLst [(pUn (dXf LC ["NotOne", "TooMany", "NoTrim", "NoPaper", "NotEven", "NoRing", "BadExchange", "BadPlan", "BadText", "NoEdge", "BadSheet", "BadTear", "NoBar", "BadBars", "BadTwine", "Full", "NothingDone", "NothingUndone", "NoListener"] "word") (pApp (dMkX LC "BadTwine" ["word"]) [(pNm 3)])), (pUn (dXf LC ["NotOne", "TooMany", "NoTrim", "NoPaper", "NotEven", "NoRing", "BadExchange", "BadPlan", "BadText", "NoEdge", "BadSheet", "BadTear", "NoBar", "BadBars", "BadTwine", "Full", "NothingDone", "NothingUndone", "NoListener"] "number") (pApp (dMkX LC "NoListener" ["number"]) [(pNm 3)]))]))))
  (R9 LC)))))
def R0 (LC : Str → Addr) : FS :=
  (fEnd [0, 2, 3, 4, 5, 6, 8, 9, 10, 11] (fSeq (fPar [3, 4] [(mCall (F_law_any 3) [1] [(mNm 1), (mEx (lf (pC (.int 2))))]), (mCall (F_law_any 3) [1] [(mNm 1), (mEx (lf (pC (.int 2))))])])
  (fSeq (fSet 5 (lf (pLst [(pApp (dMkX LC "NotOne" ["number"]) [(pNm 3)]), (pApp (dMkX LC "TooMany" ["number"]) [(pNm 3)]), (pApp (dMkX LC "NoTrim" ["lot"]) [(pNm 3)]), (pApp (dMkX LC "NoPaper" ["word", "number"]) [(pNm 3), (pNm 4)]), (pApp (dMkX LC "NotEven" ["knot"]) [(pNm 3)]), (pApp (dMkX LC "NoRing" ["value"]) [(pNm 3)]), (pApp (dMkX LC "BadExchange" ["number"]) [(pNm 3)])])))
  (fSeq (fSet 5 (lf (pBin dCat (pNm 5) (pLst [(pApp (dMkX LC "NoEdge" []) []), (pApp (dMkX LC "BadSheet" ["word"]) [(pNm 3)]), (pApp (dMkX LC "BadTear" ["number"]) [(pNm 3)]), (pApp (dMkX LC "NoBar" ["bar"]) [(pNm 3)]), (pApp (dMkX LC "BadBars" ["number"]) [(pNm 3)]), (pApp (dMkX LC "BadTwine" ["word"]) [(pNm 3)]), (pApp (dMkX LC "BadPlan" ["number", "word"]) [(pNm 3), (pNm 4)])]))))
  (fSeq (fSet 5 (lf (pBin dCat (pNm 5) (pLst [(pApp (dMkX LC "Full" []) []), (pApp (dMkX LC "NothingDone" []) []), (pApp (dMkX LC "NothingUndone" []) []), (pApp (dMkX LC "NoListener" ["number"]) [(pNm 3)]), (pApp (dMkX LC "BadText" ["line", "sign"]) [(pNm 3), (pNm 4)])]))))
  (fKill [0, 2, 6, 8, 9, 10, 11] (fSeq (fFor (lf (iApp rng1 [(pApp dLen [(pNm 5)])])) (.nm 6) (B_law_1 LC))
  (R5 LC))))))))
theorem R_eq : B_law_5 LC = R0 LC := rfl
variable {A B : DL.D}
theorem ln_ok : dLen [PyData.list (every LC A B)] = some (.int 19) := by rw [r_lenl]; rfl
theorem fe_ok : PyData.list [ex1 LC "NotOne" "number" A, ex1 LC "TooMany" "number" A, ex1 LC "NoTrim" "lot" A, ex2 LC "NoPaper" "word" "number" A B, ex1 LC "NotEven" "knot" A, ex1 LC "NoRing" "value" A, ex1 LC "BadExchange" "number" A, ex0 LC "NoEdge", ex1 LC "BadSheet" "word" A, ex1 LC "BadTear" "number" A, ex1 LC "NoBar" "bar" A, ex1 LC "BadBars" "number" A, ex1 LC "BadTwine" "word" A, ex2 LC "BadPlan" "number" "word" A B, ex0 LC "Full", ex0 LC "NothingDone", ex0 LC "NothingUndone", ex1 LC "NoListener" "number" A, ex2 LC "BadText" "line" "sign" A B] = PyData.list (every LC A B) := rfl
theorem a0_ok : dAt (PyData.list (every LC A B)) (.int 0) = some (ex1 LC "NotOne" "number" A) := rfl
theorem a1_ok : dAt (PyData.list (every LC A B)) (.int 1) = some (ex1 LC "TooMany" "number" A) := rfl
theorem a2_ok : dAt (PyData.list (every LC A B)) (.int 2) = some (ex1 LC "NoTrim" "lot" A) := rfl
theorem a4_ok : dAt (PyData.list (every LC A B)) (.int 4) = some (ex1 LC "NotEven" "knot" A) := rfl
theorem a5_ok : dAt (PyData.list (every LC A B)) (.int 5) = some (ex1 LC "NoRing" "value" A) := rfl
theorem a6_ok : dAt (PyData.list (every LC A B)) (.int 6) = some (ex1 LC "BadExchange" "number" A) := rfl
theorem a8_ok : dAt (PyData.list (every LC A B)) (.int 8) = some (ex1 LC "BadSheet" "word" A) := rfl
theorem a9_ok : dAt (PyData.list (every LC A B)) (.int 9) = some (ex1 LC "BadTear" "number" A) := rfl
theorem a10_ok : dAt (PyData.list (every LC A B)) (.int 10) = some (ex1 LC "NoBar" "bar" A) := rfl
theorem a11_ok : dAt (PyData.list (every LC A B)) (.int 11) = some (ex1 LC "BadBars" "number" A) := rfl
theorem a12_ok : dAt (PyData.list (every LC A B)) (.int 12) = some (ex1 LC "BadTwine" "word" A) := rfl
theorem a17_ok : dAt (PyData.list (every LC A B)) (.int 17) = some (ex1 LC "NoListener" "number" A) := rfl
theorem x0_ok {d : DL.D} : dXf LC CS "number" (ex1 LC "NotOne" "number" d) = some d := xf1 (by decide +kernel)
theorem x1_ok {d : DL.D} : dXf LC CS "number" (ex1 LC "TooMany" "number" d) = some d := xf1 (by decide +kernel)
theorem x2_ok {d : DL.D} : dXf LC CS "lot" (ex1 LC "NoTrim" "lot" d) = some d := xf1 (by decide +kernel)
theorem x4_ok {d : DL.D} : dXf LC CS "knot" (ex1 LC "NotEven" "knot" d) = some d := xf1 (by decide +kernel)
theorem x5_ok {d : DL.D} : dXf LC CS "value" (ex1 LC "NoRing" "value" d) = some d := xf1 (by decide +kernel)
theorem x6_ok {d : DL.D} : dXf LC CS "number" (ex1 LC "BadExchange" "number" d) = some d := xf1 (by decide +kernel)
theorem x8_ok {d : DL.D} : dXf LC CS "word" (ex1 LC "BadSheet" "word" d) = some d := xf1 (by decide +kernel)
theorem x9_ok {d : DL.D} : dXf LC CS "number" (ex1 LC "BadTear" "number" d) = some d := xf1 (by decide +kernel)
theorem x10_ok {d : DL.D} : dXf LC CS "bar" (ex1 LC "NoBar" "bar" d) = some d := xf1 (by decide +kernel)
theorem x11_ok {d : DL.D} : dXf LC CS "number" (ex1 LC "BadBars" "number" d) = some d := xf1 (by decide +kernel)
theorem x12_ok {d : DL.D} : dXf LC CS "word" (ex1 LC "BadTwine" "word" d) = some d := xf1 (by decide +kernel)
theorem x17_ok {d : DL.D} : dXf LC CS "number" (ex1 LC "NoListener" "number" d) = some d := xf1 (by decide +kernel)
theorem y0_ok {d e : DL.D} : dXf LC CS "word" (ex2 LC "NoPaper" "word" "number" d e) = some d := xf2 (by decide +kernel)
theorem z0_ok {d e : DL.D} : dXf LC CS "number" (ex2 LC "NoPaper" "word" "number" d e) = some e := xf3 (by decide +kernel) (by decide +kernel)
theorem y1_ok {d e : DL.D} : dXf LC CS "number" (ex2 LC "NoPaper" "number" "word" d e) = some d := xf2 (by decide +kernel)
theorem z1_ok {d e : DL.D} : dXf LC CS "word" (ex2 LC "NoPaper" "number" "word" d e) = some e := xf3 (by decide +kernel) (by decide +kernel)
theorem y2_ok {d e : DL.D} : dXf LC CS "number" (ex2 LC "BadPlan" "number" "word" d e) = some d := xf2 (by decide +kernel)
theorem z2_ok {d e : DL.D} : dXf LC CS "word" (ex2 LC "BadPlan" "number" "word" d e) = some e := xf3 (by decide +kernel) (by decide +kernel)
theorem y3_ok {d e : DL.D} : dXf LC CS "word" (ex2 LC "BadPlan" "word" "number" d e) = some d := xf2 (by decide +kernel)
theorem z3_ok {d e : DL.D} : dXf LC CS "number" (ex2 LC "BadPlan" "word" "number" d e) = some e := xf3 (by decide +kernel) (by decide +kernel)
theorem y4_ok {d e : DL.D} : dXf LC CS "line" (ex2 LC "BadText" "line" "sign" d e) = some d := xf2 (by decide +kernel)
theorem z4_ok {d e : DL.D} : dXf LC CS "sign" (ex2 LC "BadText" "line" "sign" d e) = some e := xf3 (by decide +kernel) (by decide +kernel)
theorem y5_ok {d e : DL.D} : dXf LC CS "sign" (ex2 LC "BadText" "sign" "line" d e) = some d := xf2 (by decide +kernel)
theorem z5_ok {d e : DL.D} : dXf LC CS "line" (ex2 LC "BadText" "sign" "line" d e) = some e := xf3 (by decide +kernel) (by decide +kernel)
theorem app_s {xs : List DL.D} {d : DL.D} (h : xs.length + 1 ≤ 1000) : fAppend (.list xs) [d] = some (.none, .list (xs ++ [d])) := r_append (by rw [size_eq]; omega)
theorem lp14 {dk : DL.D} : forL (.nm 11) (B_law_2 LC) [ex2 LC "NoPaper" "word" "number" A B, ex2 LC "NoPaper" "number" "word" B A] [none, some dk, none, some A, some B, none, none, none, none, none, some (.list []), none] = some (.ok .nx [none, some dk, none, some A, some B, none, none, none, none, none, some (.list [.list [A, B], .list [A, B]]), none]) := by
  simp only [forL_cons, forL_nil, B_law_2, ss_, app_s, y0_ok, z0_ok, y1_ok, z1_ok, List.length_cons, List.length_nil, List.cons_append, List.nil_append, Nat.reduceAdd, Nat.reduceLeDiff]
theorem lp15 {dk : DL.D} : forL (.nm 11) (B_law_3 LC) [ex2 LC "BadPlan" "number" "word" A B, ex2 LC "BadPlan" "word" "number" B A] [none, some dk, none, some A, some B, none, none, none, none, none, some (.list [.list [A, B], .list [A, B]]), none] = some (.ok .nx [none, some dk, none, some A, some B, none, none, none, none, none, some (.list [.list [A, B], .list [A, B], .list [A, B], .list [A, B]]), none]) := by
  simp only [forL_cons, forL_nil, B_law_3, ss_, app_s, y2_ok, z2_ok, y3_ok, z3_ok, List.length_cons, List.length_nil, List.cons_append, List.nil_append, Nat.reduceAdd, Nat.reduceLeDiff]
theorem lp16 {dk : DL.D} : forL (.nm 11) (B_law_4 LC) [ex2 LC "BadText" "line" "sign" A B, ex2 LC "BadText" "sign" "line" B A] [none, some dk, none, some A, some B, none, none, none, none, none, some (.list [.list [A, B], .list [A, B], .list [A, B], .list [A, B]]), none] = some (.ok .nx [none, some dk, none, some A, some B, none, none, none, none, none, some (.list [.list [A, B], .list [A, B], .list [A, B], .list [A, B], .list [A, B], .list [A, B]]), none]) := by
  simp only [forL_cons, forL_nil, B_law_4, ss_, app_s, y4_ok, z4_ok, y5_ok, z5_ok, List.length_cons, List.length_nil, List.cons_append, List.nil_append, Nat.reduceAdd, Nat.reduceLeDiff]
theorem r17 {dk : DL.D} (gA : Gw 2 114 A) (gB : Gw 2 114 B) : R17 LC [none, some dk, none, some A, some B, none, none, none, none, none, some (.list [.list [A, B], .list [A, B], .list [A, B], .list [A, B], .list [A, B], .list [A, B]]), none] = some (.ok .nx [none, some dk, none, some A, some B, none, none, none, none, none, some (.list [.list [A, B], .list [A, B], .list [A, B], .list [A, B], .list [A, B], .list [A, B]]), none]) := by
  have g2 : Gw 3 230 (.list [A, B]) := Gw.list (m := 2) (n := 114) (fun x hx => by
    simp only [List.mem_cons, List.not_mem_nil, or_false] at hx
    rcases hx with rfl | rfl
    · exact gA
    · exact gB) (show 2 * (114 + 1) ≤ 230 by decide)
  have l6 : List.replicate 6 (PyData.list [A, B]) = [.list [A, B], .list [A, B], .list [A, B], .list [A, B], .list [A, B], .list [A, B]] := rfl
  have p6 := reprX (Gw.list (xs := List.replicate 6 (.list [A, B])) (k := 3000) (fun x hx => by rw [(List.mem_replicate.mp hx).2]; exact g2) (by rw [List.length_replicate]; decide))
  rw [l6] at p6
  have r6 := rep6 (X := .list [A, B])
  obtain ⟨S6, h6⟩ : ∃ S, PyData.shown (.list [.list [A, B], .list [A, B], .list [A, B], .list [A, B], .list [A, B], .list [A, B]]) = S := ⟨_, rfl⟩
  rw [h6] at p6
  have q6 : dNe (.str S6) (.str S6) = some (.bool false) := dNe_str
  simp only [R17, ss_, r6, p6, q6]
theorem r16 {dk : DL.D} (gA : Gw 2 114 A) (gB : Gw 2 114 B) : R16 LC [none, some dk, none, some A, some B, none, none, none, none, none, some (.list [.list [A, B], .list [A, B], .list [A, B], .list [A, B]]), none] = some (.ok .nx [none, some dk, none, some A, some B, none, none, none, none, none, some (.list [.list [A, B], .list [A, B], .list [A, B], .list [A, B], .list [A, B], .list [A, B]]), none]) := by
  have n := r17 (LC := LC) (dk := dk) gA gB
  obtain ⟨G, hG⟩ : ∃ G, R17 LC = G := ⟨_, rfl⟩
  have l := lp16 (LC := LC) (A := A) (B := B) (dk := dk)
  obtain ⟨G2, hG2⟩ : ∃ G2, B_law_4 LC = G2 := ⟨_, rfl⟩
  unfold R16
  rw [hG] at n ⊢
  rw [hG2] at l ⊢
  simp only [ss_, mk2, l, n]
theorem r15 {dk : DL.D} (gA : Gw 2 114 A) (gB : Gw 2 114 B) : R15 LC [none, some dk, none, some A, some B, none, none, none, none, none, some (.list [.list [A, B], .list [A, B]]), none] = some (.ok .nx [none, some dk, none, some A, some B, none, none, none, none, none, some (.list [.list [A, B], .list [A, B], .list [A, B], .list [A, B], .list [A, B], .list [A, B]]), none]) := by
  have n := r16 (LC := LC) (dk := dk) gA gB
  obtain ⟨G, hG⟩ : ∃ G, R16 LC = G := ⟨_, rfl⟩
  have l := lp15 (LC := LC) (A := A) (B := B) (dk := dk)
  obtain ⟨G2, hG2⟩ : ∃ G2, B_law_3 LC = G2 := ⟨_, rfl⟩
  unfold R15
  rw [hG] at n ⊢
  rw [hG2] at l ⊢
  simp only [ss_, mk2, l, n]
theorem r14 {dk : DL.D} {Z Z8 Z9 : Option DL.D} (gA : Gw 2 114 A) (gB : Gw 2 114 B) : R14 LC [none, some dk, none, some A, some B, Z, none, none, Z8, Z9, some (.list []), none] = some (.ok .nx [none, some dk, none, some A, some B, none, none, none, none, none, some (.list [.list [A, B], .list [A, B], .list [A, B], .list [A, B], .list [A, B], .list [A, B]]), none]) := by
  have n := r15 (LC := LC) (dk := dk) gA gB
  obtain ⟨G, hG⟩ : ∃ G, R15 LC = G := ⟨_, rfl⟩
  have l := lp14 (LC := LC) (A := A) (B := B) (dk := dk)
  obtain ⟨G2, hG2⟩ : ∃ G2, B_law_2 LC = G2 := ⟨_, rfl⟩
  unfold R14
  rw [hG] at n ⊢
  rw [hG2] at l ⊢
  simp only [ss_, mk2, l, n]
theorem r12 {dk : DL.D} {Z : Option DL.D} (gA : Gw 2 114 A) (gB : Gw 2 114 B) : R12 LC [none, some dk, none, some A, some B, Z, none, none, some (.list [A, A, A, A, A, A, A, A, A, A, A, A]), some (.list [A, A, A, A, A, A, A, A, A, A, A, A]), none, none] = some (.ok .nx [none, some dk, none, some A, some B, none, none, none, none, none, some (.list [.list [A, B], .list [A, B], .list [A, B], .list [A, B], .list [A, B], .list [A, B]]), none]) := by
  have n := r14 (LC := LC) (dk := dk) (Z := Z) (Z8 := some (.list [A, A, A, A, A, A, A, A, A, A, A, A])) (Z9 := some (.list [A, A, A, A, A, A, A, A, A, A, A, A])) gA gB
  obtain ⟨G, hG⟩ : ∃ G, R14 LC = G := ⟨_, rfl⟩
  rw [hG] at n
  have l24 : List.replicate 24 A = [A, A, A, A, A, A, A, A, A, A, A, A, A, A, A, A, A, A, A, A, A, A, A, A] := rfl
  have p24 := reprX (Gw.list (xs := List.replicate 24 A) (k := 3000) (fun x hx => by rw [(List.mem_replicate.mp hx).2]; exact gA) (by rw [List.length_replicate]; decide))
  rw [l24] at p24
  have r24 := rep24 (X := A)
  obtain ⟨S24, h24⟩ : ∃ S, PyData.shown (.list [A, A, A, A, A, A, A, A, A, A, A, A, A, A, A, A, A, A, A, A, A, A, A, A]) = S := ⟨_, rfl⟩
  rw [h24] at p24
  have q24 : dNe (.str S24) (.str S24) = some (.bool false) := dNe_str
  have ad : dAdd (.list [A, A, A, A, A, A, A, A, A, A, A, A]) (.list [A, A, A, A, A, A, A, A, A, A, A, A]) = some (.list [A, A, A, A, A, A, A, A, A, A, A, A, A, A, A, A, A, A, A, A, A, A, A, A]) := add_l (by simp only [List.length_cons, List.length_nil]; decide)
  unfold R12 R13
  rw [hG]
  simp only [ss_, ad, r24, p24, q24, n]
theorem r9 {dk : DL.D} (gA : Gw 2 114 A) (gB : Gw 2 114 B) : R9 LC [none, some dk, none, some A, some B, some (.list (every LC A B)), none, none, some (.list [A, A, A, A, A, A, A, A, A, A, A, A]), none, none, none] = some (.ok .nx [none, some dk, none, some A, some B, none, none, none, none, none, some (.list [.list [A, B], .list [A, B], .list [A, B], .list [A, B], .list [A, B], .list [A, B]]), none]) := by
  have n := r12 (LC := LC) (dk := dk) (Z := some (.list (every LC A B))) gA gB
  have a0 := a0_ok (LC := LC) (A := A) (B := B)
  have a1 := a1_ok (LC := LC) (A := A) (B := B)
  have a2 := a2_ok (LC := LC) (A := A) (B := B)
  have a4 := a4_ok (LC := LC) (A := A) (B := B)
  have a5 := a5_ok (LC := LC) (A := A) (B := B)
  have a6 := a6_ok (LC := LC) (A := A) (B := B)
  have a8 := a8_ok (LC := LC) (A := A) (B := B)
  have a9 := a9_ok (LC := LC) (A := A) (B := B)
  have a10 := a10_ok (LC := LC) (A := A) (B := B)
  have a11 := a11_ok (LC := LC) (A := A) (B := B)
  have a12 := a12_ok (LC := LC) (A := A) (B := B)
  have a17 := a17_ok (LC := LC) (A := A) (B := B)
  obtain ⟨L, hL⟩ : ∃ L, PyData.list (every LC A B) = L := ⟨_, rfl⟩
  obtain ⟨G, hG⟩ : ∃ G, R12 LC = G := ⟨_, rfl⟩
  unfold R9
  rw [hL] at a0 a1 a2 a4 a5 a6 a8 a9 a10 a11 a12 a17 n ⊢
  rw [hG] at n ⊢
  simp only [ss_, a0, a1, a2, a4, a5, a6, a8, a9, a10, a11, a12, a17, x0_ok, x1_ok, x2_ok, x4_ok, x5_ok, x6_ok, x8_ok, x9_ok, x10_ok, x11_ok, x12_ok, x17_ok, cat_l, List.length_cons, List.length_nil, List.cons_append, List.nil_append, Nat.reduceAdd, Nat.reduceLeDiff, n]
theorem r5 {dk : DL.D} (gA : Gw 2 114 A) (gB : Gw 2 114 B) : R5 LC [none, some dk, none, some A, some B, some (.list (every LC A B)), none, none, none, none, none, none] = some (.ok .nx [none, some dk, none, some A, some B, none, none, none, none, none, some (.list [.list [A, B], .list [A, B], .list [A, B], .list [A, B], .list [A, B], .list [A, B]]), none]) := by
  have n := r9 (LC := LC) (dk := dk) gA gB
  obtain ⟨L, hL⟩ : ∃ L, some (PyData.list (every LC A B)) = L := ⟨_, rfl⟩
  obtain ⟨G, hG⟩ : ∃ G, R9 LC = G := ⟨_, rfl⟩
  unfold R5
  rw [hL] at n ⊢
  rw [hG] at n ⊢
  simp only [ss_, mk1, x0_ok, x1_ok, x2_ok, x4_ok, x5_ok, x6_ok, x8_ok, x9_ok, x10_ok, x11_ok, x12_ok, x17_ok, cat_l, List.length_cons, List.length_nil, List.cons_append, List.nil_append, Nat.reduceAdd, Nat.reduceLeDiff, n]
theorem turn5 {m : Int} {dk : DL.D} (i : Int) (hd : Dk m dk) (hm : m ≤ 1000000000) : ∃ dk', B_law_5 LC [none, some dk, some (.int i), none, none, none, none, none, none, none, none, none] = some (.ok .nx [none, some dk', none, none, none, none, none, none, none, none, none, none]) ∧ Dk (m + 1000) dk' := by
  obtain ⟨A, dk1, e1, gA, hd1⟩ := any2_ok hd (by omega)
  obtain ⟨B, dk2, e2, gB, hd2⟩ := any2_ok hd1 (by omega)
  refine ⟨dk2, ?_, hd2.le (by omega)⟩
  have n := r5 (LC := LC) (dk := dk2) gA gB
  have lp : forL (.nm 6) (B_law_1 LC) ((rgI 19).map .int) [none, some dk2, none, some A, some B, some (.list (every LC A B)), none, none, none, none, none, none] = _ := for_all fun d hd => by
    obtain ⟨x, hx, rfl⟩ := List.mem_map.mp hd
    have hx := mem_rgI.mp hx
    obtain ⟨n, rfl⟩ : ∃ n : Nat, x = (n : Int) := ⟨x.toNat, by omega⟩
    exact turn1 (by omega)
  have ln := ln_ok (LC := LC) (A := A) (B := B)
  have fe := fe_ok (LC := LC) (A := A) (B := B)
  have rg := rng_n (n := 19) (by decide)
  obtain ⟨L, hL⟩ : ∃ L, PyData.list (every LC A B) = L := ⟨_, rfl⟩
  obtain ⟨M, hM⟩ : ∃ M, (rgI 19).map PyData.int = M := ⟨_, rfl⟩
  obtain ⟨G, hG⟩ : ∃ G, R5 LC = G := ⟨_, rfl⟩
  obtain ⟨G1, hG1⟩ : ∃ G, B_law_1 LC = G := ⟨_, rfl⟩
  rw [hL, hM, hG1] at lp
  rw [hM] at rg
  rw [hL] at ln fe n
  rw [hG] at n
  rw [R_eq]
  unfold R0
  rw [hG, hG1]
  simp only [ss_, e1, e2, mk0, mk1, mk2, cat_l, List.length_cons, List.length_nil, List.cons_append, List.nil_append, Nat.reduceAdd, Nat.reduceLeDiff, fe, ln, rg, lp, n]
theorem main : ∀ ns : List Int, ns.length ≤ 63 → ∃ ε, S_law LC (lawS 10 ns) = some (.ok (.rt (.bool true)) ε) := fun ns hl => by
  obtain ⟨dk', e, _⟩ := law_for (s := B_law_5 LC) (k := 2) (fun dk => [none, some dk, none, none, none, none, none, none, none, none, none, none]) 1000 (fun m dk i hd hm => turn5 i hd hm) (rgI 4) 0 (dkD ns 0 0 0) (Dk.start hl) (by rw [rgI_len]; decide)
  refine ⟨[none, some dk', none, none, none, none, none, none, none, none, none, none], ?_⟩
  have ne : dNe (.list [.int 8, .int 8, .int 200, .int 30]) (.list [.int 8, .int 8, .int 200, .int 30]) = some (.bool false) := dNe_me (m := 1) (n := 4) (Gd.list (m := 0) (n := 0) (fun x hx => by
    simp only [List.mem_cons, List.not_mem_nil, or_false] at hx
    rcases hx with rfl | rfl | rfl | rfl <;> exact gd_int (by decide)) (by decide))
  simp only [S_law, lawS_eq, List.replicate, ss_, rng_n (n := 4) (by decide), ne, e]
end
end L32
namespace L32
open PySem PySem.Spec L2 DL FL
def d_law_draw : He.DefD := ⟨("_law_draw", none), "_law_draw", "_law_draw", defArgs s_law_draw, defBody s_law_draw, defScope s_law_draw, [], []⟩
def d_law_one : He.DefD := ⟨("_law_one", none), "_law_one", "_law_one", defArgs s_law_one, defBody s_law_one, defScope s_law_one, [], []⟩
def d_law_any : He.DefD := ⟨("_law_any", none), "_law_any", "_law_any", defArgs s_law_any, defBody s_law_any, defScope s_law_any, [], []⟩
def d_law_sorts : He.DefD := ⟨("_law_sorts", none), "_law_sorts", "_law_sorts", defArgs s_law_sorts, defBody s_law_sorts, defScope s_law_sorts, [], []⟩
def d_law : He.DefD := ⟨("law", none), "law", "law", defArgs s_law, defBody s_law, defScope s_law, [], []⟩
def d_law_deck : He.DefD := ⟨("_law_deck", none), "_law_deck", "_law_deck", defArgs s_law_deck, defBody s_law_deck, defScope s_law_deck, [], []⟩
def di_NotOne : He.DefD := ⟨("NotOne", some "__init__"), "__init__", "NotOne.__init__", defArgs si_NotOne, defBody si_NotOne, defScope si_NotOne, [], []⟩
def di_TooMany : He.DefD := ⟨("TooMany", some "__init__"), "__init__", "TooMany.__init__", defArgs si_TooMany, defBody si_TooMany, defScope si_TooMany, [], []⟩
def di_NoTrim : He.DefD := ⟨("NoTrim", some "__init__"), "__init__", "NoTrim.__init__", defArgs si_NoTrim, defBody si_NoTrim, defScope si_NoTrim, [], []⟩
def di_NoPaper : He.DefD := ⟨("NoPaper", some "__init__"), "__init__", "NoPaper.__init__", defArgs si_NoPaper, defBody si_NoPaper, defScope si_NoPaper, [], []⟩
def di_NotEven : He.DefD := ⟨("NotEven", some "__init__"), "__init__", "NotEven.__init__", defArgs si_NotEven, defBody si_NotEven, defScope si_NotEven, [], []⟩
def di_NoRing : He.DefD := ⟨("NoRing", some "__init__"), "__init__", "NoRing.__init__", defArgs si_NoRing, defBody si_NoRing, defScope si_NoRing, [], []⟩
def di_BadExchange : He.DefD := ⟨("BadExchange", some "__init__"), "__init__", "BadExchange.__init__", defArgs si_BadExchange, defBody si_BadExchange, defScope si_BadExchange, [], []⟩
def di_BadPlan : He.DefD := ⟨("BadPlan", some "__init__"), "__init__", "BadPlan.__init__", defArgs si_BadPlan, defBody si_BadPlan, defScope si_BadPlan, [], []⟩
def di_BadText : He.DefD := ⟨("BadText", some "__init__"), "__init__", "BadText.__init__", defArgs si_BadText, defBody si_BadText, defScope si_BadText, [], []⟩
def di_NoEdge : He.DefD := ⟨("NoEdge", some "__init__"), "__init__", "NoEdge.__init__", defArgs si_NoEdge, defBody si_NoEdge, defScope si_NoEdge, [], []⟩
def di_BadSheet : He.DefD := ⟨("BadSheet", some "__init__"), "__init__", "BadSheet.__init__", defArgs si_BadSheet, defBody si_BadSheet, defScope si_BadSheet, [], []⟩
def di_BadTear : He.DefD := ⟨("BadTear", some "__init__"), "__init__", "BadTear.__init__", defArgs si_BadTear, defBody si_BadTear, defScope si_BadTear, [], []⟩
def di_NoBar : He.DefD := ⟨("NoBar", some "__init__"), "__init__", "NoBar.__init__", defArgs si_NoBar, defBody si_NoBar, defScope si_NoBar, [], []⟩
def di_BadBars : He.DefD := ⟨("BadBars", some "__init__"), "__init__", "BadBars.__init__", defArgs si_BadBars, defBody si_BadBars, defScope si_BadBars, [], []⟩
def di_BadTwine : He.DefD := ⟨("BadTwine", some "__init__"), "__init__", "BadTwine.__init__", defArgs si_BadTwine, defBody si_BadTwine, defScope si_BadTwine, [], []⟩
def di_Full : He.DefD := ⟨("Full", some "__init__"), "__init__", "Full.__init__", defArgs si_Full, defBody si_Full, defScope si_Full, [], []⟩
def di_NothingDone : He.DefD := ⟨("NothingDone", some "__init__"), "__init__", "NothingDone.__init__", defArgs si_NothingDone, defBody si_NothingDone, defScope si_NothingDone, [], []⟩
def di_NothingUndone : He.DefD := ⟨("NothingUndone", some "__init__"), "__init__", "NothingUndone.__init__", defArgs si_NothingUndone, defBody si_NothingUndone, defScope si_NothingUndone, [], []⟩
def di_NoListener : He.DefD := ⟨("NoListener", some "__init__"), "__init__", "NoListener.__init__", defArgs si_NoListener, defBody si_NoListener, defScope si_NoListener, [], []⟩
def fn : List He.DefD := [d_law_draw, d_law_one, d_law_any, d_law_sorts, d_law, d_law_deck, di_NotOne, di_TooMany, di_NoTrim, di_NoPaper, di_NotEven, di_NoRing, di_BadExchange, di_BadPlan, di_BadText, di_NoEdge, di_BadSheet, di_BadTear, di_NoBar, di_BadBars, di_BadTwine, di_Full, di_NothingDone, di_NothingUndone, di_NoListener]
def fa : List He.Fa := [.glo "_law_draw", .glo "_law_one", .glo "_law_any", .glo "_law_sorts", .glo "law", .glo "_law_deck", .free "ValueError", .free "abs", .free "dict", .free "int", .free "isinstance", .free "len", .free "list", .free "range", .free "repr", .free "tuple", .int "MAX_DEEDS" 30, .int "MAX_EDGE" 200, .int "MAX_SIDE" 8, .int "MAX_WRONG" 8, .glo "NotOne", .glo "TooMany", .glo "NoTrim", .glo "NoPaper", .glo "NotEven", .glo "NoRing", .glo "BadExchange", .glo "BadPlan", .glo "BadText", .glo "NoEdge", .glo "BadSheet", .glo "BadTear", .glo "NoBar", .glo "BadBars", .glo "BadTwine", .glo "Full", .glo "NothingDone", .glo "NothingUndone", .glo "NoListener", .glo "NetError"]
def ex : PySem.W.Frag → Bool := fun K => excB cs0 hs0 fs0 "NetError" K && sysB K
abbrev R : PySem.W.OpenRow := PySem.W.OpenLaw.row PySem.Challenge.rw_meshmend_k32_errors_and_bounds
abbrev hk : PySem.W.Hook := hookY 6 fa fn ex
def ob (s : PySem.W.SharedT) : AlY := obsY 6 fa fn ex (HandSHeadRun.getT s)
theorem ob_eq (s : PySem.W.SharedT) : ob s = hk.obs s.abs := obsY_eq (HandSHeadRun.getT_eq s)
def lo0 : List Str := ["NetError", "NotOne", "TooMany", "NoTrim", "NoPaper", "NotEven", "NoRing", "BadExchange", "NoEdge", "BadSheet", "BadTear", "NoBar", "BadBars", "BadTwine", "BadPlan", "Full", "NothingDone", "NothingUndone", "NoListener", "BadText", "MAX_SIDE", "MAX_WRONG", "MAX_EDGE", "MAX_DEEDS", "_law_deck", "_law_draw", "_law_one", "_law_any", "_law_sorts"]
def lo : List Str := lo0
theorem run (w : World) : HandSHeadRun.RunEq R (PySem.W.view R.prog [31]) hk ob 5920 lo w := by
  intro os
  kernel_rfl
theorem funOf {K : PySem.W.Frag} {x qual : Str} {st : Stmt} {f : Addr} {fd : FuncData} (F : FunD K x qual (defArgs st) (defBody st) (defScope st) [] [] f fd) : Fun K x qual st f fd := by
  obtain ⟨oc, od, dV, kV, doc, pm, an, cdv, ct, osl, e, lk, hcd, hD, _⟩ := F.ex
  rcases hD with ⟨_, rfl⟩ | ⟨e2, _⟩
  · exact ⟨⟨oc, od, kV, doc, pm, an, cdv, ct, osl, e, lk, hcd⟩, F.kp⟩
  · exact absurd rfl e2
theorem facts {P : Program} {w : World} {K : PySem.W.Frag} {h : Heap} {mg : Str → Option Value} {f : Addr} (X : K.In h) (G : h.Ns mainGlobals mg) (hfa : mg ("law" : Str) = some (.ref f)) (cy : SaysY fa fn ex K) :
    ∃ fd : FuncData, (∀ (s : Shared) (v : Value), BindsTo s fd ⟨[v], []⟩ [("_law_script", v)]) ∧ ∀ base : Heap, K.In base → base.Ns mainGlobals mg → FnG P w K mg base CX0 9 f fd ["_law_script"] (spLawG K) := by
  have c := cy.d
  have hsy : sysB K = true := (Bool.and_eq_true_iff.mp cy.x).2
  obtain ⟨fd_law_draw, Fd_law_draw⟩ := c.def_ 0 (d := d_law_draw) rfl
  obtain ⟨fd_law_one, Fd_law_one⟩ := c.def_ 1 (d := d_law_one) rfl
  obtain ⟨fd_law_any, Fd_law_any⟩ := c.def_ 2 (d := d_law_any) rfl
  obtain ⟨fd_law_sorts, Fd_law_sorts⟩ := c.def_ 3 (d := d_law_sorts) rfl
  obtain ⟨fd_law, Fd_law⟩ := c.def_ 4 (d := d_law) rfl
  obtain ⟨fd_law_deck, Fd_law_deck⟩ := c.def_ 5 (d := d_law_deck) rfl
  have T : Tx mg := ⟨He.free_ok X G (c.fact 6 (f := .free "ValueError") rfl), He.free_ok X G (c.fact 7 (f := .free "abs") rfl), He.free_ok X G (c.fact 8 (f := .free "dict") rfl), He.free_ok X G (c.fact 9 (f := .free "int") rfl), He.free_ok X G (c.fact 10 (f := .free "isinstance") rfl), He.free_ok X G (c.fact 11 (f := .free "len") rfl), He.free_ok X G (c.fact 12 (f := .free "list") rfl), He.free_ok X G (c.fact 13 (f := .free "range") rfl), He.free_ok X G (c.fact 14 (f := .free "repr") rfl), He.free_ok X G (c.fact 15 (f := .free "tuple") rfl), He.int_ok X G (c.fact 16 (f := .int "MAX_DEEDS" 30) rfl), He.int_ok X G (c.fact 17 (f := .int "MAX_EDGE" 200) rfl), He.int_ok X G (c.fact 18 (f := .int "MAX_SIDE" 8) rfl), He.int_ok X G (c.fact 19 (f := .int "MAX_WRONG" 8) rfl)⟩
  have e := hfa.symm.trans (He.glo_ok X G (c.fact 4 (f := .glo "law") rfl))
  cases e
  have bl := FunD.bindsA (ps := ["_law_script"]) Fd_law fun _ _ _ _ _ _ us hl => match us, hl with | [_], _ => rfl
  refine ⟨fd_law, fun s v => bl s [v] rfl, fun base _ _ => ?_⟩
  have EX := excB_ok (Bool.and_eq_true_iff.mp cy.x).1
  obtain ⟨fi_NotOne, Fi_NotOne⟩ := c.def_ 6 (d := di_NotOne) rfl
  have O_NotOne := EX.c "NotOne" (by decide)
  have Fu_NotOne : Fun K "__init__" "NotOne.__init__" si_NotOne (iA K "NotOne") fi_NotOne := funOf Fi_NotOne
  obtain ⟨fi_TooMany, Fi_TooMany⟩ := c.def_ 7 (d := di_TooMany) rfl
  have O_TooMany := EX.c "TooMany" (by decide)
  have Fu_TooMany : Fun K "__init__" "TooMany.__init__" si_TooMany (iA K "TooMany") fi_TooMany := funOf Fi_TooMany
  obtain ⟨fi_NoTrim, Fi_NoTrim⟩ := c.def_ 8 (d := di_NoTrim) rfl
  have O_NoTrim := EX.c "NoTrim" (by decide)
  have Fu_NoTrim : Fun K "__init__" "NoTrim.__init__" si_NoTrim (iA K "NoTrim") fi_NoTrim := funOf Fi_NoTrim
  obtain ⟨fi_NoPaper, Fi_NoPaper⟩ := c.def_ 9 (d := di_NoPaper) rfl
  have O_NoPaper := EX.c "NoPaper" (by decide)
  have Fu_NoPaper : Fun K "__init__" "NoPaper.__init__" si_NoPaper (iA K "NoPaper") fi_NoPaper := funOf Fi_NoPaper
  obtain ⟨fi_NotEven, Fi_NotEven⟩ := c.def_ 10 (d := di_NotEven) rfl
  have O_NotEven := EX.c "NotEven" (by decide)
  have Fu_NotEven : Fun K "__init__" "NotEven.__init__" si_NotEven (iA K "NotEven") fi_NotEven := funOf Fi_NotEven
  obtain ⟨fi_NoRing, Fi_NoRing⟩ := c.def_ 11 (d := di_NoRing) rfl
  have O_NoRing := EX.c "NoRing" (by decide)
  have Fu_NoRing : Fun K "__init__" "NoRing.__init__" si_NoRing (iA K "NoRing") fi_NoRing := funOf Fi_NoRing
  obtain ⟨fi_BadExchange, Fi_BadExchange⟩ := c.def_ 12 (d := di_BadExchange) rfl
  have O_BadExchange := EX.c "BadExchange" (by decide)
  have Fu_BadExchange : Fun K "__init__" "BadExchange.__init__" si_BadExchange (iA K "BadExchange") fi_BadExchange := funOf Fi_BadExchange
  obtain ⟨fi_BadPlan, Fi_BadPlan⟩ := c.def_ 13 (d := di_BadPlan) rfl
  have O_BadPlan := EX.c "BadPlan" (by decide)
  have Fu_BadPlan : Fun K "__init__" "BadPlan.__init__" si_BadPlan (iA K "BadPlan") fi_BadPlan := funOf Fi_BadPlan
  obtain ⟨fi_BadText, Fi_BadText⟩ := c.def_ 14 (d := di_BadText) rfl
  have O_BadText := EX.c "BadText" (by decide)
  have Fu_BadText : Fun K "__init__" "BadText.__init__" si_BadText (iA K "BadText") fi_BadText := funOf Fi_BadText
  obtain ⟨fi_NoEdge, Fi_NoEdge⟩ := c.def_ 15 (d := di_NoEdge) rfl
  have O_NoEdge := EX.c "NoEdge" (by decide)
  have Fu_NoEdge : Fun K "__init__" "NoEdge.__init__" si_NoEdge (iA K "NoEdge") fi_NoEdge := funOf Fi_NoEdge
  obtain ⟨fi_BadSheet, Fi_BadSheet⟩ := c.def_ 16 (d := di_BadSheet) rfl
  have O_BadSheet := EX.c "BadSheet" (by decide)
  have Fu_BadSheet : Fun K "__init__" "BadSheet.__init__" si_BadSheet (iA K "BadSheet") fi_BadSheet := funOf Fi_BadSheet
  obtain ⟨fi_BadTear, Fi_BadTear⟩ := c.def_ 17 (d := di_BadTear) rfl
  have O_BadTear := EX.c "BadTear" (by decide)
  have Fu_BadTear : Fun K "__init__" "BadTear.__init__" si_BadTear (iA K "BadTear") fi_BadTear := funOf Fi_BadTear
  obtain ⟨fi_NoBar, Fi_NoBar⟩ := c.def_ 18 (d := di_NoBar) rfl
  have O_NoBar := EX.c "NoBar" (by decide)
  have Fu_NoBar : Fun K "__init__" "NoBar.__init__" si_NoBar (iA K "NoBar") fi_NoBar := funOf Fi_NoBar
  obtain ⟨fi_BadBars, Fi_BadBars⟩ := c.def_ 19 (d := di_BadBars) rfl
  have O_BadBars := EX.c "BadBars" (by decide)
  have Fu_BadBars : Fun K "__init__" "BadBars.__init__" si_BadBars (iA K "BadBars") fi_BadBars := funOf Fi_BadBars
  obtain ⟨fi_BadTwine, Fi_BadTwine⟩ := c.def_ 20 (d := di_BadTwine) rfl
  have O_BadTwine := EX.c "BadTwine" (by decide)
  have Fu_BadTwine : Fun K "__init__" "BadTwine.__init__" si_BadTwine (iA K "BadTwine") fi_BadTwine := funOf Fi_BadTwine
  obtain ⟨fi_Full, Fi_Full⟩ := c.def_ 21 (d := di_Full) rfl
  have O_Full := EX.c "Full" (by decide)
  have Fu_Full : Fun K "__init__" "Full.__init__" si_Full (iA K "Full") fi_Full := funOf Fi_Full
  obtain ⟨fi_NothingDone, Fi_NothingDone⟩ := c.def_ 22 (d := di_NothingDone) rfl
  have O_NothingDone := EX.c "NothingDone" (by decide)
  have Fu_NothingDone : Fun K "__init__" "NothingDone.__init__" si_NothingDone (iA K "NothingDone") fi_NothingDone := funOf Fi_NothingDone
  obtain ⟨fi_NothingUndone, Fi_NothingUndone⟩ := c.def_ 23 (d := di_NothingUndone) rfl
  have O_NothingUndone := EX.c "NothingUndone" (by decide)
  have Fu_NothingUndone : Fun K "__init__" "NothingUndone.__init__" si_NothingUndone (iA K "NothingUndone") fi_NothingUndone := funOf Fi_NothingUndone
  obtain ⟨fi_NoListener, Fi_NoListener⟩ := c.def_ 24 (d := di_NoListener) rfl
  have O_NoListener := EX.c "NoListener" (by decide)
  have Fu_NoListener : Fun K "__init__" "NoListener.__init__" si_NoListener (iA K "NoListener") fi_NoListener := funOf Fi_NoListener
  have U : Xs P w K mg base := ⟨⟨⟨_, _, fi_NotOne, He.glo_ok X G (c.fact 20 (f := .glo "NotOne") rfl), O_NotOne.o, O_NotOne.i, O_NotOne.t, ini_NotOne (He.glo_ok X G (c.fact 39 (f := .glo "NetError") rfl)) EX.b O_NotOne.o O_NotOne.n Fu_NotOne, Fu_NotOne.binds fun _ _ _ _ _ _ us hl => match us, hl with | [_, _], _ => rfl⟩⟩, ⟨⟨_, _, fi_TooMany, He.glo_ok X G (c.fact 21 (f := .glo "TooMany") rfl), O_TooMany.o, O_TooMany.i, O_TooMany.t, ini_TooMany (He.glo_ok X G (c.fact 39 (f := .glo "NetError") rfl)) EX.b O_TooMany.o O_TooMany.n Fu_TooMany, Fu_TooMany.binds fun _ _ _ _ _ _ us hl => match us, hl with | [_, _], _ => rfl⟩⟩, ⟨⟨_, _, fi_NoTrim, He.glo_ok X G (c.fact 22 (f := .glo "NoTrim") rfl), O_NoTrim.o, O_NoTrim.i, O_NoTrim.t, ini_NoTrim (He.glo_ok X G (c.fact 39 (f := .glo "NetError") rfl)) EX.b O_NoTrim.o O_NoTrim.n Fu_NoTrim, Fu_NoTrim.binds fun _ _ _ _ _ _ us hl => match us, hl with | [_, _], _ => rfl⟩⟩, ⟨⟨_, _, fi_NoPaper, He.glo_ok X G (c.fact 23 (f := .glo "NoPaper") rfl), O_NoPaper.o, O_NoPaper.i, O_NoPaper.t, ini_NoPaper (He.glo_ok X G (c.fact 39 (f := .glo "NetError") rfl)) EX.b O_NoPaper.o O_NoPaper.n Fu_NoPaper, Fu_NoPaper.binds fun _ _ _ _ _ _ us hl => match us, hl with | [_, _, _], _ => rfl⟩⟩, ⟨⟨_, _, fi_NotEven, He.glo_ok X G (c.fact 24 (f := .glo "NotEven") rfl), O_NotEven.o, O_NotEven.i, O_NotEven.t, ini_NotEven (He.glo_ok X G (c.fact 39 (f := .glo "NetError") rfl)) EX.b O_NotEven.o O_NotEven.n Fu_NotEven, Fu_NotEven.binds fun _ _ _ _ _ _ us hl => match us, hl with | [_, _], _ => rfl⟩⟩, ⟨⟨_, _, fi_NoRing, He.glo_ok X G (c.fact 25 (f := .glo "NoRing") rfl), O_NoRing.o, O_NoRing.i, O_NoRing.t, ini_NoRing (He.glo_ok X G (c.fact 39 (f := .glo "NetError") rfl)) EX.b O_NoRing.o O_NoRing.n Fu_NoRing, Fu_NoRing.binds fun _ _ _ _ _ _ us hl => match us, hl with | [_, _], _ => rfl⟩⟩, ⟨⟨_, _, fi_BadExchange, He.glo_ok X G (c.fact 26 (f := .glo "BadExchange") rfl), O_BadExchange.o, O_BadExchange.i, O_BadExchange.t, ini_BadExchange (He.glo_ok X G (c.fact 39 (f := .glo "NetError") rfl)) EX.b O_BadExchange.o O_BadExchange.n Fu_BadExchange, Fu_BadExchange.binds fun _ _ _ _ _ _ us hl => match us, hl with | [_, _], _ => rfl⟩⟩, ⟨⟨_, _, fi_BadPlan, He.glo_ok X G (c.fact 27 (f := .glo "BadPlan") rfl), O_BadPlan.o, O_BadPlan.i, O_BadPlan.t, ini_BadPlan (He.glo_ok X G (c.fact 39 (f := .glo "NetError") rfl)) EX.b O_BadPlan.o O_BadPlan.n Fu_BadPlan, Fu_BadPlan.binds fun _ _ _ _ _ _ us hl => match us, hl with | [_, _, _], _ => rfl⟩⟩, ⟨⟨_, _, fi_BadText, He.glo_ok X G (c.fact 28 (f := .glo "BadText") rfl), O_BadText.o, O_BadText.i, O_BadText.t, ini_BadText (He.glo_ok X G (c.fact 39 (f := .glo "NetError") rfl)) EX.b O_BadText.o O_BadText.n Fu_BadText, Fu_BadText.binds fun _ _ _ _ _ _ us hl => match us, hl with | [_, _, _], _ => rfl⟩⟩, ⟨⟨_, _, fi_NoEdge, He.glo_ok X G (c.fact 29 (f := .glo "NoEdge") rfl), O_NoEdge.o, O_NoEdge.i, O_NoEdge.t, ini_NoEdge (He.glo_ok X G (c.fact 39 (f := .glo "NetError") rfl)) EX.b O_NoEdge.o O_NoEdge.n Fu_NoEdge, Fu_NoEdge.binds fun _ _ _ _ _ _ us hl => match us, hl with | [_], _ => rfl⟩⟩, ⟨⟨_, _, fi_BadSheet, He.glo_ok X G (c.fact 30 (f := .glo "BadSheet") rfl), O_BadSheet.o, O_BadSheet.i, O_BadSheet.t, ini_BadSheet (He.glo_ok X G (c.fact 39 (f := .glo "NetError") rfl)) EX.b O_BadSheet.o O_BadSheet.n Fu_BadSheet, Fu_BadSheet.binds fun _ _ _ _ _ _ us hl => match us, hl with | [_, _], _ => rfl⟩⟩, ⟨⟨_, _, fi_BadTear, He.glo_ok X G (c.fact 31 (f := .glo "BadTear") rfl), O_BadTear.o, O_BadTear.i, O_BadTear.t, ini_BadTear (He.glo_ok X G (c.fact 39 (f := .glo "NetError") rfl)) EX.b O_BadTear.o O_BadTear.n Fu_BadTear, Fu_BadTear.binds fun _ _ _ _ _ _ us hl => match us, hl with | [_, _], _ => rfl⟩⟩, ⟨⟨_, _, fi_NoBar, He.glo_ok X G (c.fact 32 (f := .glo "NoBar") rfl), O_NoBar.o, O_NoBar.i, O_NoBar.t, ini_NoBar (He.glo_ok X G (c.fact 39 (f := .glo "NetError") rfl)) EX.b O_NoBar.o O_NoBar.n Fu_NoBar, Fu_NoBar.binds fun _ _ _ _ _ _ us hl => match us, hl with | [_, _], _ => rfl⟩⟩, ⟨⟨_, _, fi_BadBars, He.glo_ok X G (c.fact 33 (f := .glo "BadBars") rfl), O_BadBars.o, O_BadBars.i, O_BadBars.t, ini_BadBars (He.glo_ok X G (c.fact 39 (f := .glo "NetError") rfl)) EX.b O_BadBars.o O_BadBars.n Fu_BadBars, Fu_BadBars.binds fun _ _ _ _ _ _ us hl => match us, hl with | [_, _], _ => rfl⟩⟩, ⟨⟨_, _, fi_BadTwine, He.glo_ok X G (c.fact 34 (f := .glo "BadTwine") rfl), O_BadTwine.o, O_BadTwine.i, O_BadTwine.t, ini_BadTwine (He.glo_ok X G (c.fact 39 (f := .glo "NetError") rfl)) EX.b O_BadTwine.o O_BadTwine.n Fu_BadTwine, Fu_BadTwine.binds fun _ _ _ _ _ _ us hl => match us, hl with | [_, _], _ => rfl⟩⟩, ⟨⟨_, _, fi_Full, He.glo_ok X G (c.fact 35 (f := .glo "Full") rfl), O_Full.o, O_Full.i, O_Full.t, ini_Full (He.glo_ok X G (c.fact 39 (f := .glo "NetError") rfl)) EX.b O_Full.o O_Full.n Fu_Full, Fu_Full.binds fun _ _ _ _ _ _ us hl => match us, hl with | [_], _ => rfl⟩⟩, ⟨⟨_, _, fi_NothingDone, He.glo_ok X G (c.fact 36 (f := .glo "NothingDone") rfl), O_NothingDone.o, O_NothingDone.i, O_NothingDone.t, ini_NothingDone (He.glo_ok X G (c.fact 39 (f := .glo "NetError") rfl)) EX.b O_NothingDone.o O_NothingDone.n Fu_NothingDone, Fu_NothingDone.binds fun _ _ _ _ _ _ us hl => match us, hl with | [_], _ => rfl⟩⟩, ⟨⟨_, _, fi_NothingUndone, He.glo_ok X G (c.fact 37 (f := .glo "NothingUndone") rfl), O_NothingUndone.o, O_NothingUndone.i, O_NothingUndone.t, ini_NothingUndone (He.glo_ok X G (c.fact 39 (f := .glo "NetError") rfl)) EX.b O_NothingUndone.o O_NothingUndone.n Fu_NothingUndone, Fu_NothingUndone.binds fun _ _ _ _ _ _ us hl => match us, hl with | [_], _ => rfl⟩⟩, ⟨⟨_, _, fi_NoListener, He.glo_ok X G (c.fact 38 (f := .glo "NoListener") rfl), O_NoListener.o, O_NoListener.i, O_NoListener.t, ini_NoListener (He.glo_ok X G (c.fact 39 (f := .glo "NetError") rfl)) EX.b O_NoListener.o O_NoListener.n Fu_NoListener, Fu_NoListener.binds fun _ _ _ _ _ _ us hl => match us, hl with | [_, _], _ => rfl⟩⟩, EX.sub fun c' hc => by
    simp only [cs0, hs0, List.cons_append, List.nil_append, List.mem_cons, List.not_mem_nil, or_false] at hc
    rcases hc with rfl | rfl | rfl | rfl | rfl | rfl | rfl | rfl | rfl | rfl | rfl | rfl | rfl | rfl | rfl | rfl | rfl | rfl | rfl | rfl | rfl | rfl | rfl | rfl | rfl | rfl | rfl | rfl | rfl | rfl | rfl | rfl | rfl | rfl | rfl | rfl | rfl | rfl | rfl
    · exact He.glo_ok X G (c.fact 20 (f := .glo "NotOne") rfl)
    · exact He.glo_ok X G (c.fact 21 (f := .glo "TooMany") rfl)
    · exact He.glo_ok X G (c.fact 22 (f := .glo "NoTrim") rfl)
    · exact He.glo_ok X G (c.fact 23 (f := .glo "NoPaper") rfl)
    · exact He.glo_ok X G (c.fact 24 (f := .glo "NotEven") rfl)
    · exact He.glo_ok X G (c.fact 25 (f := .glo "NoRing") rfl)
    · exact He.glo_ok X G (c.fact 26 (f := .glo "BadExchange") rfl)
    · exact He.glo_ok X G (c.fact 27 (f := .glo "BadPlan") rfl)
    · exact He.glo_ok X G (c.fact 28 (f := .glo "BadText") rfl)
    · exact He.glo_ok X G (c.fact 29 (f := .glo "NoEdge") rfl)
    · exact He.glo_ok X G (c.fact 30 (f := .glo "BadSheet") rfl)
    · exact He.glo_ok X G (c.fact 31 (f := .glo "BadTear") rfl)
    · exact He.glo_ok X G (c.fact 32 (f := .glo "NoBar") rfl)
    · exact He.glo_ok X G (c.fact 33 (f := .glo "BadBars") rfl)
    · exact He.glo_ok X G (c.fact 34 (f := .glo "BadTwine") rfl)
    · exact He.glo_ok X G (c.fact 35 (f := .glo "Full") rfl)
    · exact He.glo_ok X G (c.fact 36 (f := .glo "NothingDone") rfl)
    · exact He.glo_ok X G (c.fact 37 (f := .glo "NothingUndone") rfl)
    · exact He.glo_ok X G (c.fact 38 (f := .glo "NoListener") rfl)
    · exact He.glo_ok X G (c.fact 20 (f := .glo "NotOne") rfl)
    · exact He.glo_ok X G (c.fact 21 (f := .glo "TooMany") rfl)
    · exact He.glo_ok X G (c.fact 22 (f := .glo "NoTrim") rfl)
    · exact He.glo_ok X G (c.fact 23 (f := .glo "NoPaper") rfl)
    · exact He.glo_ok X G (c.fact 24 (f := .glo "NotEven") rfl)
    · exact He.glo_ok X G (c.fact 25 (f := .glo "NoRing") rfl)
    · exact He.glo_ok X G (c.fact 26 (f := .glo "BadExchange") rfl)
    · exact He.glo_ok X G (c.fact 29 (f := .glo "NoEdge") rfl)
    · exact He.glo_ok X G (c.fact 30 (f := .glo "BadSheet") rfl)
    · exact He.glo_ok X G (c.fact 31 (f := .glo "BadTear") rfl)
    · exact He.glo_ok X G (c.fact 32 (f := .glo "NoBar") rfl)
    · exact He.glo_ok X G (c.fact 33 (f := .glo "BadBars") rfl)
    · exact He.glo_ok X G (c.fact 34 (f := .glo "BadTwine") rfl)
    · exact He.glo_ok X G (c.fact 27 (f := .glo "BadPlan") rfl)
    · exact He.glo_ok X G (c.fact 35 (f := .glo "Full") rfl)
    · exact He.glo_ok X G (c.fact 36 (f := .glo "NothingDone") rfl)
    · exact He.glo_ok X G (c.fact 37 (f := .glo "NothingUndone") rfl)
    · exact He.glo_ok X G (c.fact 38 (f := .glo "NoListener") rfl)
    · exact He.glo_ok X G (c.fact 28 (f := .glo "BadText") rfl)
    · exact He.glo_ok X G (c.fact 39 (f := .glo "NetError") rfl)⟩
  have TI : Xv P w K mg base (cA K) := ⟨⟨fun c' hc => by
    simp only [cs0, List.mem_cons, List.not_mem_nil, or_false] at hc
    rcases hc with rfl | rfl | rfl | rfl | rfl | rfl | rfl | rfl | rfl | rfl | rfl | rfl | rfl | rfl | rfl | rfl | rfl | rfl | rfl
    · exact He.glo_ok X G (c.fact 20 (f := .glo "NotOne") rfl)
    · exact He.glo_ok X G (c.fact 21 (f := .glo "TooMany") rfl)
    · exact He.glo_ok X G (c.fact 22 (f := .glo "NoTrim") rfl)
    · exact He.glo_ok X G (c.fact 23 (f := .glo "NoPaper") rfl)
    · exact He.glo_ok X G (c.fact 24 (f := .glo "NotEven") rfl)
    · exact He.glo_ok X G (c.fact 25 (f := .glo "NoRing") rfl)
    · exact He.glo_ok X G (c.fact 26 (f := .glo "BadExchange") rfl)
    · exact He.glo_ok X G (c.fact 27 (f := .glo "BadPlan") rfl)
    · exact He.glo_ok X G (c.fact 28 (f := .glo "BadText") rfl)
    · exact He.glo_ok X G (c.fact 29 (f := .glo "NoEdge") rfl)
    · exact He.glo_ok X G (c.fact 30 (f := .glo "BadSheet") rfl)
    · exact He.glo_ok X G (c.fact 31 (f := .glo "BadTear") rfl)
    · exact He.glo_ok X G (c.fact 32 (f := .glo "NoBar") rfl)
    · exact He.glo_ok X G (c.fact 33 (f := .glo "BadBars") rfl)
    · exact He.glo_ok X G (c.fact 34 (f := .glo "BadTwine") rfl)
    · exact He.glo_ok X G (c.fact 35 (f := .glo "Full") rfl)
    · exact He.glo_ok X G (c.fact 36 (f := .glo "NothingDone") rfl)
    · exact He.glo_ok X G (c.fact 37 (f := .glo "NothingUndone") rfl)
    · exact He.glo_ok X G (c.fact 38 (f := .glo "NoListener") rfl)⟩, ⟨⟨_, _, fi_NotOne, He.glo_ok X G (c.fact 20 (f := .glo "NotOne") rfl), O_NotOne.o, O_NotOne.i, O_NotOne.t, ini_NotOne (He.glo_ok X G (c.fact 39 (f := .glo "NetError") rfl)) EX.b O_NotOne.o O_NotOne.n Fu_NotOne, fun_kbx (n := 1) Fu_NotOne rfl fun _ _ _ _ _ _ u ws hl => match ws, hl with | [_], _ => rfl⟩⟩, ⟨⟨_, _, fi_TooMany, He.glo_ok X G (c.fact 21 (f := .glo "TooMany") rfl), O_TooMany.o, O_TooMany.i, O_TooMany.t, ini_TooMany (He.glo_ok X G (c.fact 39 (f := .glo "NetError") rfl)) EX.b O_TooMany.o O_TooMany.n Fu_TooMany, fun_kbx (n := 1) Fu_TooMany rfl fun _ _ _ _ _ _ u ws hl => match ws, hl with | [_], _ => rfl⟩⟩, ⟨⟨_, _, fi_NoTrim, He.glo_ok X G (c.fact 22 (f := .glo "NoTrim") rfl), O_NoTrim.o, O_NoTrim.i, O_NoTrim.t, ini_NoTrim (He.glo_ok X G (c.fact 39 (f := .glo "NetError") rfl)) EX.b O_NoTrim.o O_NoTrim.n Fu_NoTrim, fun_kbx (n := 1) Fu_NoTrim rfl fun _ _ _ _ _ _ u ws hl => match ws, hl with | [_], _ => rfl⟩⟩, ⟨⟨_, _, fi_NotEven, He.glo_ok X G (c.fact 24 (f := .glo "NotEven") rfl), O_NotEven.o, O_NotEven.i, O_NotEven.t, ini_NotEven (He.glo_ok X G (c.fact 39 (f := .glo "NetError") rfl)) EX.b O_NotEven.o O_NotEven.n Fu_NotEven, fun_kbx (n := 1) Fu_NotEven rfl fun _ _ _ _ _ _ u ws hl => match ws, hl with | [_], _ => rfl⟩⟩, ⟨⟨_, _, fi_NoRing, He.glo_ok X G (c.fact 25 (f := .glo "NoRing") rfl), O_NoRing.o, O_NoRing.i, O_NoRing.t, ini_NoRing (He.glo_ok X G (c.fact 39 (f := .glo "NetError") rfl)) EX.b O_NoRing.o O_NoRing.n Fu_NoRing, fun_kbx (n := 1) Fu_NoRing rfl fun _ _ _ _ _ _ u ws hl => match ws, hl with | [_], _ => rfl⟩⟩, ⟨⟨_, _, fi_BadExchange, He.glo_ok X G (c.fact 26 (f := .glo "BadExchange") rfl), O_BadExchange.o, O_BadExchange.i, O_BadExchange.t, ini_BadExchange (He.glo_ok X G (c.fact 39 (f := .glo "NetError") rfl)) EX.b O_BadExchange.o O_BadExchange.n Fu_BadExchange, fun_kbx (n := 1) Fu_BadExchange rfl fun _ _ _ _ _ _ u ws hl => match ws, hl with | [_], _ => rfl⟩⟩, ⟨⟨_, _, fi_BadSheet, He.glo_ok X G (c.fact 30 (f := .glo "BadSheet") rfl), O_BadSheet.o, O_BadSheet.i, O_BadSheet.t, ini_BadSheet (He.glo_ok X G (c.fact 39 (f := .glo "NetError") rfl)) EX.b O_BadSheet.o O_BadSheet.n Fu_BadSheet, fun_kbx (n := 1) Fu_BadSheet rfl fun _ _ _ _ _ _ u ws hl => match ws, hl with | [_], _ => rfl⟩⟩, ⟨⟨_, _, fi_BadTear, He.glo_ok X G (c.fact 31 (f := .glo "BadTear") rfl), O_BadTear.o, O_BadTear.i, O_BadTear.t, ini_BadTear (He.glo_ok X G (c.fact 39 (f := .glo "NetError") rfl)) EX.b O_BadTear.o O_BadTear.n Fu_BadTear, fun_kbx (n := 1) Fu_BadTear rfl fun _ _ _ _ _ _ u ws hl => match ws, hl with | [_], _ => rfl⟩⟩, ⟨⟨_, _, fi_NoBar, He.glo_ok X G (c.fact 32 (f := .glo "NoBar") rfl), O_NoBar.o, O_NoBar.i, O_NoBar.t, ini_NoBar (He.glo_ok X G (c.fact 39 (f := .glo "NetError") rfl)) EX.b O_NoBar.o O_NoBar.n Fu_NoBar, fun_kbx (n := 1) Fu_NoBar rfl fun _ _ _ _ _ _ u ws hl => match ws, hl with | [_], _ => rfl⟩⟩, ⟨⟨_, _, fi_BadBars, He.glo_ok X G (c.fact 33 (f := .glo "BadBars") rfl), O_BadBars.o, O_BadBars.i, O_BadBars.t, ini_BadBars (He.glo_ok X G (c.fact 39 (f := .glo "NetError") rfl)) EX.b O_BadBars.o O_BadBars.n Fu_BadBars, fun_kbx (n := 1) Fu_BadBars rfl fun _ _ _ _ _ _ u ws hl => match ws, hl with | [_], _ => rfl⟩⟩, ⟨⟨_, _, fi_BadTwine, He.glo_ok X G (c.fact 34 (f := .glo "BadTwine") rfl), O_BadTwine.o, O_BadTwine.i, O_BadTwine.t, ini_BadTwine (He.glo_ok X G (c.fact 39 (f := .glo "NetError") rfl)) EX.b O_BadTwine.o O_BadTwine.n Fu_BadTwine, fun_kbx (n := 1) Fu_BadTwine rfl fun _ _ _ _ _ _ u ws hl => match ws, hl with | [_], _ => rfl⟩⟩, ⟨⟨_, _, fi_NoListener, He.glo_ok X G (c.fact 38 (f := .glo "NoListener") rfl), O_NoListener.o, O_NoListener.i, O_NoListener.t, ini_NoListener (He.glo_ok X G (c.fact 39 (f := .glo "NetError") rfl)) EX.b O_NoListener.o O_NoListener.n Fu_NoListener, fun_kbx (n := 1) Fu_NoListener rfl fun _ _ _ _ _ _ u ws hl => match ws, hl with | [_], _ => rfl⟩⟩, ⟨⟨_, _, fi_NoPaper, He.glo_ok X G (c.fact 23 (f := .glo "NoPaper") rfl), O_NoPaper.o, O_NoPaper.i, O_NoPaper.t, ini_NoPaper (He.glo_ok X G (c.fact 39 (f := .glo "NetError") rfl)) EX.b O_NoPaper.o O_NoPaper.n Fu_NoPaper, fun_kbx (n := 2) Fu_NoPaper rfl fun _ _ _ _ _ _ u ws hl => match ws, hl with | [_, _], _ => rfl⟩⟩, ⟨⟨_, _, fi_BadPlan, He.glo_ok X G (c.fact 27 (f := .glo "BadPlan") rfl), O_BadPlan.o, O_BadPlan.i, O_BadPlan.t, ini_BadPlan (He.glo_ok X G (c.fact 39 (f := .glo "NetError") rfl)) EX.b O_BadPlan.o O_BadPlan.n Fu_BadPlan, fun_kbx (n := 2) Fu_BadPlan rfl fun _ _ _ _ _ _ u ws hl => match ws, hl with | [_, _], _ => rfl⟩⟩, ⟨⟨_, _, fi_BadText, He.glo_ok X G (c.fact 28 (f := .glo "BadText") rfl), O_BadText.o, O_BadText.i, O_BadText.t, ini_BadText (He.glo_ok X G (c.fact 39 (f := .glo "NetError") rfl)) EX.b O_BadText.o O_BadText.n Fu_BadText, fun_kbx (n := 2) Fu_BadText rfl fun _ _ _ _ _ _ u ws hl => match ws, hl with | [_, _], _ => rfl⟩⟩⟩
  have C_law_draw : Cal P w K mg base 1 "_law_draw" ps_law_draw pk_law_draw fr_law_draw (spM F_draw) := cal_law_draw T hsy (funOf Fd_law_draw) (He.glo_ok X G (c.fact 0 (f := .glo "_law_draw") rfl))
  have C_law_one : Cal P w K mg base 2 "_law_one" ps_law_one pk_law_one fr_law_one (spM F_law_one) := cal_law_one T hsy C_law_draw (funOf Fd_law_one) (He.glo_ok X G (c.fact 1 (f := .glo "_law_one") rfl))
  have C_law_any : Cal P w K mg base 6 "_law_any" ps_law_any pk_law_any fr_law_any (spM (F_law_any 3)) := cal_law_any T hsy C_law_draw C_law_one (funOf Fd_law_any) (He.glo_ok X G (c.fact 2 (f := .glo "_law_any") rfl)) 3
  have C_law_sorts : Cal P w K mg base 3 "_law_sorts" ps_law_sorts pk_law_sorts fr_law_sorts (spP (F_law_sorts (cA K))) := cal_law_sorts T hsy U TI (funOf Fd_law_sorts) (He.glo_ok X G (c.fact 3 (f := .glo "_law_sorts") rfl))
  exact okg_law main T hsy U TI C_law_any C_law_sorts (funOf Fd_law) (funOf Fd_law_deck) (He.glo_ok X G (c.fact 5 (f := .glo "_law_deck") rfl))
end L32
open PySem PySem.W PySem.Calls PyProof.Rows in
set_option maxHeartbeats 0 in
theorem PySem.Challenge.cw_meshmend_k32_errors_and_bounds_holds : PySem.Challenge.rw_meshmend_k32_errors_and_bounds.Holds := by
  w_on; o_law
  refine HandSHeadRun.head_any (r := OpenLaw.row PySem.Challenge.rw_meshmend_k32_errors_and_bounds) (q := view (OpenLaw.row PySem.Challenge.rw_meshmend_k32_errors_and_bounds).prog [31]) (H := L32.hk) (ob := L32.ob) (M := 5920) (loose := L32.lo) (d := HandSHeadRun.topDef (OpenLaw.row PySem.Challenge.rw_meshmend_k32_errors_and_bounds).prog 31) (kwd := []) L32.ob_eq
    (by kernel_rfl) (fun s => by kernel_rfl) L32.run (by kernel_rfl) (by kernel_rfl) (by kernel_rfl) (by rfl) (by first | assumption | decide +kernel) (by decide +kernel) ⟨rfl, rfl, rfl, rfl, rfl, by decide +kernel⟩ ?hw ?hc
  case hw => w_witness2
  case hc =>
    refine DL.walk_g (l := PySem.Challenge.rw_meshmend_k32_errors_and_bounds) (n := 63) (k := 9) (x := "_law_script") rfl (by decide) (by kernel_rfl) ⟨rfl, by decide, by decide⟩ ?F
    intro w mg fa h Y G hmg0
    obtain ⟨K, KX, c⟩ := Y
    have hmg : mg ("law" : PySem.Str) = some (.ref fa) := by
      have e : (HandSHeadRun.topDef (OpenLaw.row PySem.Challenge.rw_meshmend_k32_errors_and_bounds).prog 31).name = ("law" : PySem.Str) := by kernel_rfl
      rw [← e]
      exact hmg0
    obtain ⟨fd, hb, hF⟩ := L32.facts (P := (PySem.Challenge.rw_meshmend_k32_errors_and_bounds).prog) (w := w) KX G hmg c
    exact ⟨K, fd, DL.spLawG K, KX, hb, fun H a ns hl hS => ⟨a, ns, rfl, hS, hl, fun _ => rfl⟩, hF⟩
#print axioms PySem.Challenge.cw_meshmend_k32_errors_and_bounds_holds
