import PyProof.Rows.All
import Wide.All
import OpenK.AllK
import Wide.FinOn
import PyProof.EqAt
import PyProof.EqKinds
import PyProof.TupleCall
import HandS.Base
import HandS.Call
import HandS.List
import HandS.Comp
import HandS.Ends
import HandS.Words
import HandS.Exc
import HandS.ExcInit
import KE.KeyNested
import HandS.Style
import HandS.Iter
import HandS.Zip
import PyProof.ReprRoads
import PyProof.StrLawsRepr
import HandS.TupAny
import HandS.Text
import PyProof.StrBlock2
import KE.KDictKeyed
import KE.KDictSum
import KE.KDictDisplayH
import HandS.Dict
import HandS.Deep
import HandS.IsInst
import KE.SortData
import KE.KDictCopyH
import HandS.Conv
import HandS.SetFor
import HandS.WordsExc
import HandS.Defaults
import PyProof.ReprBulk
import PyProof.FitsInt
import KE.GoesEnum
import KE.GoesMore
import KE.DataMinMax
import HandS.ExcOwn
import HandS.ExcIs
import HandS.ExcField
import KE.KExcIs
import HandS.HeadHook1
import HandS.HeadHook2
import HandS.TryMany
import KE.KStateDown
import HandS.Head0
import HandS.Head1
import HandS.Head2
import HandS.HeadEnd
import HandS.TupSets
import PyProof.ZipIter
import HandS.Zip0
import KE.KDictZip
import PyProof.ListNew
import PyProof.ListCopy
import HandS.TupMul
import HandS.DictComp
import KE.KDictWalk
import KE.KDictPairs
import PyProof.TupleOfSeq
import HandS.NoneIn
import HandS.Sort
import HandS.Property
import HandS.MakeKwOnly
import HandS.RaiseMore
import KE.KCallOwn
import HandS.IterVal
import HandS.OwnIter
import PyProof.FactsAll.tuple_iterator_1
import PySem.Challenge.RW_meshmend_k09_whole_tears
set_option Elab.async false
set_option linter.all false
set_option maxRecDepth 100000
set_option maxHeartbeats 4000000
set_option autoImplicit false
def SsM (ns : List Lean.Name) (as : Array Lean.Syntax) (l : Option (Lean.TSyntax `Lean.Parser.Tactic.location)) : Lean.MacroM Lean.Syntax := do
  let mut out : Array (Lean.TSyntax `Lean.Parser.Tactic.simpLemma) := #[]
  let mut hit := false
  for a in as do
    if a.getKind == `Lean.Parser.Tactic.simpLemma && a[2].isIdent && a[2].getId.eraseMacroScopes == `ss_ then
      hit := true
      for n in ns do out := out.push (← `(Lean.Parser.Tactic.simpLemma| $(Lean.mkIdent n):term))
    else out := out.push ⟨a⟩
  unless hit do Lean.Macro.throwUnsupported
  `(tactic| simp only [$[$out:simpLemma],*] $[$l]?)
def SsH0 : List Lean.Name := []
def SsL0 : List Lean.Name := [`Nat.reduceAdd, `Nat.reduceSub, `Nat.reduceLeDiff, `decide_true, `decide_false]
namespace DL
open PySem PySem.Spec L2
abbrev D := PyData
abbrev En := List (Option D)
/-- what is avoided (o), what of it may change anywhere (m: a law's own state) -/
structure OS where
  o : Addr → Prop
  m : Addr → Prop
instance : CoeFun OS fun _ => Addr → Prop := ⟨OS.o⟩
def OS.non : OS := ⟨fun _ => False, fun _ => False⟩
def OS.one (p : Addr) : OS := ⟨fun b => b = p, fun _ => False⟩
def keyD : Key → D
  | .inl i => .int i
  | .inr x => .str x
structure NEnt where
  key : NestedKey
  at_ : Addr
  val : V
mutual
def nkInt : NestedKey → Bool
  | .num _ => true
  | .tup ks => nkInts ks
  | _ => false
def nkInts : List NestedKey → Bool
  | [] => true
  | k :: ks => nkInt k && nkInts ks
end
mutual
def hkHash : NestedKey → Int
  | .num i => hashInt i
  | .tup ks => reduceHash (Builtin.Tuple.tupleHashOf (hkHashes ks))
  | _ => 0
def hkHashes : List NestedKey → List Int
  | [] => []
  | k :: ks => hkHash k :: hkHashes ks
end
/-- what may be a key: a tuple -/
def keyT (k : NestedKey) : Bool := nkInt k && decide (k.depth ≤ 8)
def KeyP (k : NestedKey) : Prop := keyT k = true ∧ ∃ ks, k = .tup ks
def EntIs (x : NEnt) (t : NestedKey × Addr × Value) : Prop := x.key = t.1 ∧ x.at_ = t.2.1 ∧ RelV x.val t.2.2
def NDφ (a : Addr) (xs : List NEnt) : Heap → Prop := fun h => xs.length ≤ sizeLine ∧ (a == sysModules) = false ∧ (∀ x ∈ xs, keyT x.key = true) ∧ (xs.map (·.key)).Nodup ∧ ∃ ts : List (NestedKey × Addr × Value), Paired EntIs xs ts ∧ ∃ o es ep, h.get? a = some o ∧ o.ExactDict ∧ o.data = .dict es ep ∧
  es.toList = ts.map fun t => ⟨hkHash t.1, .ref t.2.1, t.2.2⟩
/-- a tuple, perhaps one that stood before -/
@[irreducible] def RdT (H : Hp) (a : Addr) (xs : List V) : Prop := Rd H a (.tup xs)
theorem RdT.rd {H : Hp} {a : Addr} {xs : List V} (h : RdT H a xs) : Rd H a (.tup xs) := by
  unfold RdT at h
  exact h
theorem RdT.mk {H : Hp} {a : Addr} {xs : List V} (h : Rd H a (.tup xs)) : RdT H a xs := by
  unfold RdT
  exact h
theorem RdT.of {H : Hp} {a : Addr} {xs : List V} (h : H a = some (.tup xs)) : RdT H a xs := .mk (.inl h)
theorem sqt {K : PySem.W.Frag} {H : Hp} {a : Addr} {xs : List V} (h : RdT H a xs) : SqT K H a xs := .inl h.rd
/-- an exception that was raised: its class and dict, whatever its record says -/
def exv (a C : Addr) (d : Option Addr) : HO := .ext fun h => ∃ (oe : Obj) (vs : Array Value), h.get? a = some oe ∧ oe.cls = .ref C ∧ oe.dict = d ∧ oe.data = .fields vs
/-- an exception's object, and its dict -/
def ExU (a C : Addr) (d : Option Addr) (u : HO) : Prop := u = exo a C d ∨ u = exv a C d
def ExP (H : Hp) (p : Addr) (fs : List (Str × V)) : Prop := H p = some (exd p fs) ∨ H p = some (.xd fs)
theorem ExP.some {H : Hp} {p : Addr} {fs : List (Str × V)} (h : ExP H p fs) : H p ≠ none := by
  rcases h with h | h <;> rw [h] <;> exact fun z => nomatch z
mutual
def Rp (H : Hp) (O : OS) : D → V → Prop
  | .none, v => v = .non
  | .bool b, v => v = .bl b
  | .int i, v => v = .int i
  | .str x, v => v = .str x
  | .list ds, v => ∃ a xs, v = .ref a ∧ ¬ O a ∧ H a = some (.lst xs) ∧ RpL H O ds xs
  | .tuple ds, v => ∃ a xs, v = .ref a ∧ ¬ O a ∧ RdT H a xs ∧ RpL H O ds xs
  | .dict es, v => ∃ a u, v = .ref a ∧ ¬ O a ∧ H a = some u ∧ ((∃ kvs, u = .dK kvs ∧ RpK H O es kvs) ∨ (∃ xs, u = .ext (NDφ a xs) ∧ xs ≠ [] ∧ RpN H O es xs) ∨ RpJ H O a es u)
def RpL (H : Hp) (O : OS) : List D → List V → Prop
  | [], vs => vs = []
  | d :: ds, vs => ∃ v r, vs = v :: r ∧ Rp H O d v ∧ RpL H O ds r
def RpK (H : Hp) (O : OS) : List (D × D) → List (Key × V) → Prop
  | [], kvs => kvs = []
  | (k, d) :: es, kvs => ∃ key v r, kvs = (key, v) :: r ∧ k = keyD key ∧ Rp H O d v ∧ RpK H O es r
def RpN (H : Hp) (O : OS) : List (D × D) → List (NEnt) → Prop
  | [], xs => xs = []
  | (k, d) :: es, xs => ∃ key p v r, xs = ⟨key, p, v⟩ :: r ∧ k = key.data ∧ KeyP key ∧ Rp H O k (.ref p) ∧ Rp H O d v ∧ RpN H O es r
/-- an instance: its class's address under {} (no key of a dict), its attributes -/
def RpJ (H : Hp) (O : OS) : Addr → List (D × D) → HO → Prop
  | _, [], _ => False
  | a, (k, d) :: es, u => k = .dict [] ∧ ((∃ C dx fs, d = .int ((C : Nat) : Int) ∧ u = .ins C dx fs ∧ RpI H O es fs) ∨ (∃ C n dd fs, d = .tuple [.int ((C : Nat) : Int), .str n] ∧ ExU a C dd u ∧ ((dd = none ∧ es = []) ∨ ∃ p, dd = some p ∧ ¬ O p ∧ ExP H p fs) ∧ RpF H O es fs))
/-- an exception's fields -/
def RpF (H : Hp) (O : OS) : List (D × D) → List (Str × V) → Prop
  | [], _ => True
  | (k, d) :: es, fs => ∃ n v, fs.lookup n = some v ∧ k = .str n ∧ Rp H O d v ∧ RpF H O es fs
def RpI (H : Hp) (O : OS) : List (D × D) → List (Str × V) → Prop
  | [], fs => fs = []
  | (k, d) :: es, fs => ∃ n v r, fs = (n, v) :: r ∧ k = .str n ∧ Rp H O d v ∧ RpI H O es r
end
/-- a dict's data and what stands at its place -/
def RpE (H : Hp) (O : OS) (a : Addr) (es : List (D × D)) (u : HO) : Prop := (∃ kvs, u = .dK kvs ∧ RpK H O es kvs) ∨ (∃ xs, u = .ext (NDφ a xs) ∧ xs ≠ [] ∧ RpN H O es xs) ∨ RpJ H O a es u
/-- the data of a law's own state: [sheet, what stood, what is taken back], the two lists its own -/
def stD (s : D) (st tk : List D) : D := .dict [(.dict [], .none), (.none, s), (.none, .list st), (.none, .list tk)]
def StE (es : List (D × D)) : Prop := ∃ r, es = (.dict [], .none) :: r
/-- what is borrowed -/
def NbC (H : Hp) (O : OS) : D → V → Prop
  | .list ds, v => ∃ a xs, v = .ref a ∧ H a = some (.lst xs) ∧ RpL H O ds xs
  | .tuple ds, v => ∃ a xs, v = .ref a ∧ RdT H a xs ∧ RpL H O ds xs
  | .dict es, v => ∃ a u, v = .ref a ∧ H a = some u ∧ RpE H O a es u
  | .none, v => v = .non
  | .bool b, v => v = .bl b
  | .int i, v => v = .int i
  | .str x, v => v = .str x
/-- what is read may lie in O itself, its parts not -/
def Nb (H : Hp) (O : OS) : D → V → Prop
  | .list ds, v => ∃ a xs, v = .ref a ∧ H a = some (.lst xs) ∧ RpL H O ds xs
  | .tuple ds, v => ∃ a xs, v = .ref a ∧ RdT H a xs ∧ RpL H O ds xs
  | .dict es, v => ∃ a u, v = .ref a ∧ H a = some u ∧ (RpE H O a es u ∨ StE es)
  | .none, v => v = .non
  | .bool b, v => v = .bl b
  | .int i, v => v = .int i
  | .str x, v => v = .str x
/-- a list or dict that may be changed -/
def Ow (H : Hp) (O : OS) : D → V → Prop
  | .list ds, v => ∃ a xs, v = .ref a ∧ O a ∧ H a = some (.lst xs) ∧ RpL H O ds xs
  | .dict es, v => ∃ a u, v = .ref a ∧ O a ∧ H a = some u ∧ RpE H O a es u
  | _, _ => False
/-- a law's own state: its list at a, the inner ones at a1, a2 -/
def OwS1 (H : Hp) (O : OS) (d : D) (v : V) : Prop := ∃ (s : D) (st tk : List D) (a a1 a2 : Addr) (vs : V) (xs1 xs2 : List V), d = stD s st tk ∧ v = .ref a ∧ (O.m a ∧ O.m a1 ∧ O.m a2) ∧ (a ≠ a1 ∧ a ≠ a2 ∧ a1 ≠ a2) ∧
  H a = some (.lst [vs, .ref a1, .ref a2]) ∧ Rp H O s vs ∧ (H a1 = some (.lst xs1) ∧ RpL H O st xs1) ∧ H a2 = some (.lst xs2) ∧ RpL H O tk xs2
/-- a table: a list of lists of whole numbers, all its own -/
def tbD (rows : List (List Int)) : D := .dict [(.dict [], .none), (.none, .list (rows.map fun r => .list (r.map .int)))]
def RowsAt (H : Hp) (bs : List Addr) (rows : List (List Int)) : Prop := bs.length = rows.length ∧ ∀ (i : Nat) (b : Addr) (r : List Int), bs[i]? = some b → rows[i]? = some r → H b = some (.lst (r.map V.int))
def OwT (H : Hp) (O : OS) (d : D) (v : V) : Prop := ∃ (rows : List (List Int)) (a : Addr) (bs : List Addr), d = tbD rows ∧ v = .ref a ∧ O.m a ∧ (∀ b ∈ bs, O.m b) ∧ (a :: bs).Nodup ∧ H a = some (.lst (bs.map V.ref)) ∧ RowsAt H bs rows
/-- a local thing of more than one part: a law's state, or a table -/
def OwS (H : Hp) (O : OS) (d : D) (v : V) : Prop := OwS1 H O d v ∨ OwT H O d v
theorem Rp.nbC {H : Hp} {O : OS} : ∀ {d : D} {v : V}, Rp H O d v → NbC H O d v
  | .none, _, h => h
  | .bool _, _, h => h
  | .int _, _, h => h
  | .str _, _, h => h
  | .list _, _, ⟨a, xs, e, _, r, q⟩ => ⟨a, xs, e, r, q⟩
  | .tuple _, _, ⟨a, xs, e, _, r, q⟩ => ⟨a, xs, e, r, q⟩
  | .dict _, _, ⟨a, u, e, _, r, q⟩ => ⟨a, u, e, r, q⟩
theorem Ow.nbC {H : Hp} {O : OS} : ∀ {d : D} {v : V}, Ow H O d v → NbC H O d v
  | .none, _, h => h.elim
  | .bool _, _, h => h.elim
  | .int _, _, h => h.elim
  | .str _, _, h => h.elim
  | .tuple _, _, h => h.elim
  | .list _, _, ⟨a, xs, e, _, r, q⟩ => ⟨a, xs, e, r, q⟩
  | .dict _, _, ⟨a, u, e, _, r, q⟩ => ⟨a, u, e, r, q⟩
theorem NbC.nb {H : Hp} {O : OS} : ∀ {d : D} {v : V}, NbC H O d v → Nb H O d v
  | .none, _, h => h
  | .bool _, _, h => h
  | .int _, _, h => h
  | .str _, _, h => h
  | .list _, _, h => h
  | .tuple _, _, h => h
  | .dict _, _, ⟨a, u, e, r, q⟩ => ⟨a, u, e, r, .inl q⟩
theorem Rp.nb {H : Hp} {O : OS} {d : D} {v : V} (h : Rp H O d v) : Nb H O d v := h.nbC.nb
theorem Ow.nb {H : Hp} {O : OS} {d : D} {v : V} (h : Ow H O d v) : Nb H O d v := h.nbC.nb
theorem OwS.nb {H : Hp} {O : OS} {d : D} {v : V} (h : OwS H O d v) : Nb H O d v := by
  rcases h with h | h
  · obtain ⟨s, st, tk, a, a1, a2, vs, xs1, xs2, rfl, e, _, _, h1, _⟩ := h
    exact ⟨a, _, e, h1, .inr ⟨_, rfl⟩⟩
  · obtain ⟨rows, a, bs, rfl, e, _, _, _, h1, _⟩ := h
    exact ⟨a, _, e, h1, .inr ⟨_, rfl⟩⟩
theorem OwS.adr {H : Hp} {O : OS} {d : D} {v : V} (h : OwS H O d v) : ∃ a, v = .ref a ∧ O.m a := by
  rcases h with h | h
  · obtain ⟨_, _, _, a, _, _, _, _, _, _, e, m, _⟩ := h
    exact ⟨a, e, m.1⟩
  · obtain ⟨_, a, _, _, e, m, _⟩ := h
    exact ⟨a, e, m⟩
theorem hp_some {H : Hp} {a : Addr} {u : HO} (r : H a = some u) : H a ≠ none := by rw [r]; exact fun z => nomatch z
theorem rd_some {H : Hp} {a : Addr} {xs : List V} (r : RdT H a xs) : H a ≠ none := by
  rcases r.rd with r | ⟨o, r⟩ <;> exact hp_some r
theorem rd_keep {H H' : Hp} {a : Addr} {xs : List V} (k : ∀ o, H a = some o → H' a = some o) (r : RdT H a xs) : RdT H' a xs := by
  rcases r.rd with r | ⟨o, r⟩
  · exact .mk (.inl (k _ r))
  · exact .mk (.inr ⟨o, k _ r⟩)
section
variable {H H' : Hp} {O O' : OS} (k : ∀ a o, H a = some o → ¬ O a → H' a = some o) (w : ∀ a, O' a → O a ∨ H a = none)
include k w
mutual
theorem Rp.ext : ∀ {d : D} {v : V}, Rp H O d v → Rp H' O' d v
  | .none, _, h => h
  | .bool _, _, h => h
  | .int _, _, h => h
  | .str _, _, h => h
  | .list ds, _, ⟨a, xs, e, n, r, q⟩ => ⟨a, xs, e, fun z => (w a z).elim n (hp_some r), k _ _ r n, RpL.ext q⟩
  | .tuple ds, _, ⟨a, xs, e, n, r, q⟩ => ⟨a, xs, e, fun z => (w a z).elim n (rd_some r), rd_keep (fun o z => k _ o z n) r, RpL.ext q⟩
  | .dict es, _, ⟨a, u, e, n, r, .inl ⟨kvs, eu, q⟩⟩ => ⟨a, u, e, fun z => (w a z).elim n (hp_some r), k _ _ r n, .inl ⟨kvs, eu, RpK.ext q⟩⟩
  | .dict es, _, ⟨a, u, e, n, r, .inr (.inl ⟨xs, eu, ne, q⟩)⟩ => ⟨a, u, e, fun z => (w a z).elim n (hp_some r), k _ _ r n, .inr (.inl ⟨xs, eu, ne, RpN.ext q⟩)⟩
  | .dict es, _, ⟨a, u, e, n, r, .inr (.inr q)⟩ => ⟨a, u, e, fun z => (w a z).elim n (hp_some r), k _ _ r n, .inr (.inr (RpJ.ext q))⟩
theorem RpL.ext : ∀ {ds : List D} {vs : List V}, RpL H O ds vs → RpL H' O' ds vs
  | [], _, h => h
  | _ :: _, _, ⟨v, r, e, h, q⟩ => ⟨v, r, e, Rp.ext h, RpL.ext q⟩
theorem RpK.ext : ∀ {es : List (D × D)} {kvs : List (Key × V)}, RpK H O es kvs → RpK H' O' es kvs
  | [], _, h => h
  | (_, _) :: _, _, ⟨key, v, r, e, e2, h, q⟩ => ⟨key, v, r, e, e2, Rp.ext h, RpK.ext q⟩
theorem RpN.ext : ∀ {es : List (D × D)} {xs : List NEnt}, RpN H O es xs → RpN H' O' es xs
  | [], _, h => h
  | (_, _) :: _, _, ⟨key, p, v, r, e, e2, e3, hk, h, q⟩ => ⟨key, p, v, r, e, e2, e3, Rp.ext hk, Rp.ext h, RpN.ext q⟩
theorem RpJ.ext : ∀ {a : Addr} {es : List (D × D)} {u : HO}, RpJ H O a es u → RpJ H' O' a es u
  | _, [], _, h => h
  | _, (_, _) :: _, _, ⟨e, .inl ⟨C, dx, fs, e2, e3, q⟩⟩ => ⟨e, .inl ⟨C, dx, fs, e2, e3, RpI.ext q⟩⟩
  | _, (_, _) :: _, _, ⟨e, .inr ⟨C, n, dd, fs, e2, e3, .inl z, q⟩⟩ => ⟨e, .inr ⟨C, n, dd, fs, e2, e3, .inl z, RpF.ext q⟩⟩
  | _, (_, _) :: _, _, ⟨e, .inr ⟨C, n, dd, fs, e2, e3, .inr ⟨p, e4, no, hp⟩, q⟩⟩ => ⟨e, .inr ⟨C, n, dd, fs, e2, e3, .inr ⟨p, e4, fun z => (w p z).elim no hp.some, hp.imp (fun hp => k _ _ hp no) fun hp => k _ _ hp no⟩, RpF.ext q⟩⟩
theorem RpF.ext : ∀ {es : List (D × D)} {fs : List (Str × V)}, RpF H O es fs → RpF H' O' es fs
  | [], _, h => h
  | (_, _) :: _, _, ⟨n, v, l, e, h, q⟩ => ⟨n, v, l, e, Rp.ext h, RpF.ext q⟩
theorem RpI.ext : ∀ {es : List (D × D)} {fs : List (Str × V)}, RpI H O es fs → RpI H' O' es fs
  | [], _, h => h
  | (_, _) :: _, _, ⟨n, v, r, e, e2, h, q⟩ => ⟨n, v, r, e, e2, Rp.ext h, RpI.ext q⟩
end
theorem RpE.ext {a : Addr} {es : List (D × D)} {u : HO} : RpE H O a es u → RpE H' O' a es u
  | .inl ⟨kvs, eu, q⟩ => .inl ⟨kvs, eu, RpK.ext k w q⟩
  | .inr (.inl ⟨xs, eu, ne, q⟩) => .inr (.inl ⟨xs, eu, ne, RpN.ext k w q⟩)
  | .inr (.inr q) => .inr (.inr (RpJ.ext k w q))
theorem Ow.ext {d : D} {v : V} (kv : ∀ a o, v = .ref a → H a = some o → H' a = some o) (mo : ∀ a, O a → O' a) (h : Ow H O d v) : Ow H' O' d v := by
  match d, h with
  | .list _, ⟨a, xs, e, n, r, q⟩ => exact ⟨a, xs, e, mo a n, kv a _ e r, RpL.ext k w q⟩
  | .dict _, ⟨a, u, e, n, r, q⟩ => exact ⟨a, u, e, mo a n, kv a _ e r, RpE.ext k w q⟩
end
/-- fewer things to be avoided -/
theorem Rp.anti {H : Hp} {O O' : OS} (w : ∀ a, O' a → O a) {d : D} {v : V} (h : Rp H O d v) : Rp H O' d v := Rp.ext (fun _ _ e _ => e) (fun a z => .inl (w a z)) h
theorem RpL.anti {H : Hp} {O O' : OS} (w : ∀ a, O' a → O a) {d : List D} {v : List V} (h : RpL H O d v) : RpL H O' d v := RpL.ext (fun _ _ e _ => e) (fun a z => .inl (w a z)) h
theorem RpE.anti {H : Hp} {O O' : OS} (w : ∀ a, O' a → O a) {a : Addr} {d : List (D × D)} {v : HO} (h : RpE H O a d v) : RpE H O' a d v := RpE.ext (fun _ _ e _ => e) (fun a z => .inl (w a z)) h
theorem Nb.anti {H : Hp} {O O' : OS} (w : ∀ a, O' a → O a) : ∀ {d : D} {v : V}, Nb H O d v → Nb H O' d v
  | .none, _, h => h
  | .bool _, _, h => h
  | .int _, _, h => h
  | .str _, _, h => h
  | .list _, _, ⟨a, xs, e, r, q⟩ => ⟨a, xs, e, r, RpL.anti w q⟩
  | .tuple _, _, ⟨a, xs, e, r, q⟩ => ⟨a, xs, e, r, RpL.anti w q⟩
  | .dict _, _, ⟨a, u, e, r, q⟩ => ⟨a, u, e, r, q.imp_left (RpE.anti w)⟩
theorem NbC.anti {H : Hp} {O O' : OS} (w : ∀ a, O' a → O a) : ∀ {d : D} {v : V}, NbC H O d v → NbC H O' d v
  | .none, _, h => h
  | .bool _, _, h => h
  | .int _, _, h => h
  | .str _, _, h => h
  | .list _, _, ⟨a, xs, e, r, q⟩ => ⟨a, xs, e, r, RpL.anti w q⟩
  | .tuple _, _, ⟨a, xs, e, r, q⟩ => ⟨a, xs, e, r, RpL.anti w q⟩
  | .dict _, _, ⟨a, u, e, r, q⟩ => ⟨a, u, e, r, RpE.anti w q⟩
theorem Nb.rpN {H : Hp} {O : OS} : ∀ {d : D} {v : V}, (∀ es, d ≠ .dict es) → Nb H O d v → (∀ a, v = .ref a → ¬ O a) → Rp H O d v
  | .none, _, _, h, _ => h
  | .bool _, _, _, h, _ => h
  | .int _, _, _, h, _ => h
  | .str _, _, _, h, _ => h
  | .list _, _, _, ⟨a, xs, e, r, q⟩, n => ⟨a, xs, e, n a e, r, q⟩
  | .tuple _, _, _, ⟨a, xs, e, r, q⟩, n => ⟨a, xs, e, n a e, r, q⟩
  | .dict es, _, k, _, _ => (k es rfl).elim
/-- what is no longer avoided is clean -/
theorem Ow.toRp {H : Hp} {O O' : OS} (w : ∀ a, O' a → O a) : ∀ {d : D} {v : V}, Ow H O d v → (∀ a, v = .ref a → ¬ O' a) → Rp H O' d v
  | .none, _, h, _ => h.elim
  | .bool _, _, h, _ => h.elim
  | .int _, _, h, _ => h.elim
  | .str _, _, h, _ => h.elim
  | .tuple _, _, h, _ => h.elim
  | .list _, _, ⟨a, xs, e, _, r, q⟩, n => ⟨a, xs, e, n a e, r, RpL.anti w q⟩
  | .dict _, _, ⟨a, u, e, _, r, q⟩, n => ⟨a, u, e, n a e, r, RpE.anti w q⟩
theorem OwS.ext {H H' : Hp} {O O' : OS} (k : ∀ a o, H a = some o → ¬ O a → H' a = some o) (w : ∀ a, O' a → O a ∨ H a = none) (km : ∀ a o, O.m a → H a = some o → H' a = some o) (mm : ∀ a, O.m a → O'.m a) {d : D} {v : V} (h : OwS H O d v) : OwS H' O' d v := by
  rcases h with h | h
  · obtain ⟨s, st, tk, a, a1, a2, vs, xs1, xs2, ed, e, ⟨m0, m1, m2⟩, ne, h1, r, ⟨h2, q1⟩, h3, q2⟩ := h
    exact .inl ⟨s, st, tk, a, a1, a2, vs, xs1, xs2, ed, e, ⟨mm _ m0, mm _ m1, mm _ m2⟩, ne, km _ _ m0 h1, Rp.ext k w r, ⟨km _ _ m1 h2, RpL.ext k w q1⟩, km _ _ m2 h3, RpL.ext k w q2⟩
  · obtain ⟨rows, a, bs, ed, e, m, mb, nd, h1, l, hr⟩ := h
    exact .inr ⟨rows, a, bs, ed, e, mm _ m, fun b hb => mm _ (mb b hb), nd, km _ _ m h1, l, fun i b r e1 e2 => km _ _ (mb b (List.mem_of_getElem? e1)) (hr i b r e1 e2)⟩
inductive Kd where
  | val | brw | own | io | st | sl
  deriving DecidableEq
structure Gx where
  κ : List Kd
  H0 : Hp
  O0 : OS
  io : List (Nat × Addr)
  hold : List (D × V)
  fr : Bool
  fz : Option St
def SlotOk (H : Hp) (O : OS) (k : Kd) (d : D) (v : V) : Prop := match k with
  | .val => Rp H O d v
  | .brw => NbC H O d v
  | .own => Ow H O d v
  | .io => Ow H O d v
  | .st => OwS H O d v
  | .sl => OwS H O d v
def mu (κ : List Kd) (i : Nat) : Prop := κ[i]? = some .own ∨ κ[i]? = some .io
def SlotAt (κ : List Kd) (σ : St) (a : Addr) : Prop := ∃ i, mu κ i ∧ σ[i]? = some (some (.ref a))
def OwnAt (O : OS) (κ : List Kd) (σ : St) (a : Addr) : Prop := SlotAt κ σ a ∨ O.m a
structure Abs (g : Gx) (O : OS) (H : Hp) (σ : St) (ε : En) : Prop where
  slot : ∀ (i : Nat) (d : D), ε[i]? = some (some d) → ∃ v k, σ[i]? = some (some v) ∧ g.κ[i]? = some k ∧ SlotOk H O k d v
  ownO : ∀ a, OwnAt O g.κ σ a → O a
  apm : ∀ (i : Nat) (a : Addr), mu g.κ i → σ[i]? = some (some (.ref a)) → ¬ O.m a
  apart : ∀ (i j : Nat) (a : Addr), mu g.κ i → mu g.κ j → σ[i]? = some (some (.ref a)) → σ[j]? = some (some (.ref a)) → i = j
  brwA : ∀ (i : Nat) (b : Addr), g.κ[i]? = some .brw → σ[i]? = some (some (.ref b)) → g.H0 b ≠ none ∧ (∀ j : Nat, (j, b) ∉ g.io) ∧ ¬ g.O0.m b
  new : ∀ (i : Nat) (a : Addr), g.κ[i]? = some .own → σ[i]? = some (some (.ref a)) → g.H0 a = none
  newm : ∀ a, O.m a → g.H0 a = none ∨ g.O0.m a
  has : ∀ a, O a → H a ≠ none
  has0 : ∀ a, g.O0 a → g.H0 a ≠ none
  sub : ∀ a, g.O0 a → O a
  subm : ∀ a, g.O0.m a → O.m a
  ioO : ∀ (i : Nat) (a : Addr), (i, a) ∈ g.io → g.O0 a
  ioK : ∀ (i : Nat) (a : Addr), (i, a) ∈ g.io → g.κ[i]? = some .io ∨ g.κ[i]? = some .st
  ioS : ∀ (i : Nat) (a : Addr), (i, a) ∈ g.io → σ[i]? = some (some (.ref a))
  ioA : ∀ (i : Nat), g.κ[i]? = some .io → ∃ a, (i, a) ∈ g.io
  fr : ∀ b o, g.H0 b = some o → (∀ i, (i, b) ∉ g.io) → ¬ g.O0.m b → H b = some o
  hold : ∀ p ∈ g.hold, Rp H O p.1 p.2
  len : ε.length = σ.length
  lenK : g.κ.length = σ.length
  fz : ∀ σ0, g.fz = some σ0 → ∀ i : Nat, g.κ[i]? = some .brw → σ[i]? = σ0[i]?
structure Ext (κ : List Kd) (σ : St) (O : OS) (H : Hp) (O' : OS) (H' : Hp) : Prop where
  keep : ∀ a o, H a = some o → ¬ OwnAt O κ σ a → H' a = some o
  own : ∀ a, O' a → O a ∨ H a = none
  mono : ∀ a, O a → O' a
  some : ∀ a, H a ≠ none → H' a ≠ none
  ownm : ∀ a, O'.m a → O.m a ∨ H a = none
  monom : ∀ a, O.m a → O'.m a
theorem Ext.refl {κ : List Kd} {σ : St} {O : OS} {H : Hp} : Ext κ σ O H O H := ⟨fun _ _ e _ => e, fun _ z => .inl z, fun _ z => z, fun _ z => z, fun _ z => .inl z, fun _ z => z⟩
theorem Ext.trans {κ : List Kd} {σ : St} {O O1 O2 : OS} {H H1 H2 : Hp} (x : Ext κ σ O H O1 H1) (y : Ext κ σ O1 H1 O2 H2) : Ext κ σ O H O2 H2 :=
  ⟨fun a o e n => y.keep a o (x.keep a o e n) fun z => n (z.imp_right fun z => (x.ownm a z).elim id fun z => nomatch (e.symm.trans z)), fun a z => (y.own a z).elim (fun z => x.own a z) fun z => .inr (Classical.byContradiction fun q => x.some a q z), fun a z => y.mono a (x.mono a z), fun a z => y.some a (x.some a z), fun a z => (y.ownm a z).elim (fun z => x.ownm a z) fun z => .inr (Classical.byContradiction fun q => x.some a q z), fun a z => y.monom a (x.monom a z)⟩
section
variable {g : Gx} {O O' : OS} {H H' : Hp} {σ : St} {ε ε' : En}
theorem Abs.unown (A : Abs g O H σ ε) {a : Addr} (n : ¬ O a) : ¬ OwnAt O g.κ σ a := fun z => n (A.ownO a z)
theorem Abs.rp (A : Abs g O H σ ε) (x : Ext g.κ σ O H O' H') {d : D} {v : V} (h : Rp H O d v) : Rp H' O' d v :=
  Rp.ext (fun a o e n => x.keep a o e (A.unown n)) x.own h
theorem Abs.rpL (A : Abs g O H σ ε) (x : Ext g.κ σ O H O' H') {d : List D} {v : List V} (h : RpL H O d v) : RpL H' O' d v :=
  RpL.ext (fun a o e n => x.keep a o e (A.unown n)) x.own h
theorem Abs.nh (A : Abs g O H σ ε) {a : Addr} (h : H a = none) : ¬ O a := fun z => A.has a z h
/-- avoided, but no part of a law's own state -/
def OS.sl (O : OS) (p : Addr) : Prop := O p ∧ ¬ O.m p
theorem Abs.nm (A : Abs g O H σ ε) {a : Addr} (h : H a = none) : ¬ O.m a := fun z => A.nh h (A.ownO a (.inr z))
theorem Abs.unslot (A : Abs g O H σ ε) {a : Addr} (h : H a = none) : ¬ SlotAt g.κ σ a := fun z => A.nh h (A.ownO a (.inl z))
theorem Ext.sl {κ : List Kd} {σ : St} {O O' : OS} {H H' : Hp} (x : Ext κ σ O H O' H') {p : Addr} (h : O.sl p) (hn : H p ≠ none) : O'.sl p := ⟨x.mono p h.1, fun z => (x.ownm p z).elim h.2 hn⟩
/-- a new thing stands in no slot -/
theorem Abs.unownN {g : Gx} {O O' : OS} {H : Hp} {σ : St} {ε : En} (A : Abs g O H σ ε) {p : Addr} (np : H p = none) (hp : O'.sl p) : ¬ OwnAt O' g.κ σ p := fun z => z.elim (fun z => A.nh np (A.ownO p (.inl z))) hp.2
theorem Abs.n0 (A : Abs g O H σ ε) {a : Addr} (h : H a = none) : g.H0 a = none := by
  cases e : g.H0 a with
  | none => rfl
  | some o =>
    exfalso
    by_cases q : ∃ i, (i, a) ∈ g.io
    · obtain ⟨i, q⟩ := q
      exact A.has a (A.sub a (A.ioO i a q)) h
    · rw [A.fr a o e (fun i z => q ⟨i, z⟩) fun z => A.has a (A.ownO a (.inr (A.subm a z))) h] at h
      cases h
theorem Abs.nO0 (A : Abs g O H σ ε) {a : Addr} (h : H a = none) : ¬ g.O0 a := fun z => A.nh h (A.sub a z)
theorem SlotOk.nb {k : Kd} {d : D} {v : V} (h : SlotOk H O k d v) : Nb H O d v := by
  cases k with
  | val => exact Rp.nb h
  | brw => exact NbC.nb h
  | own => exact Ow.nb h
  | io => exact Ow.nb h
  | st => exact OwS.nb h
  | sl => exact OwS.nb h
theorem SlotOk.same {k : Kd} {d : D} {v : V} (s : Same H H') (w : ∀ a, O' a → O a ∨ H a = none) (mo : ∀ a, O a → O' a) (mm : ∀ a, O.m a → O'.m a) (h : SlotOk H O k d v) : SlotOk H' O' k d v := by
  cases k with
  | val => exact Rp.ext (fun a o e _ => s a o e) w h
  | own => exact Ow.ext (fun a o e _ => s a o e) w (fun a o _ e => s a o e) mo h
  | io => exact Ow.ext (fun a o e _ => s a o e) w (fun a o _ e => s a o e) mo h
  | st => exact OwS.ext (fun a o e _ => s a o e) w (fun a o _ e => s a o e) mm h
  | sl => exact OwS.ext (fun a o e _ => s a o e) w (fun a o _ e => s a o e) mm h
  | brw =>
    match d, h with
    | .none, h => exact h
    | .bool _, h => exact h
    | .int _, h => exact h
    | .str _, h => exact h
    | .list _, ⟨a, xs, e, r, q⟩ => exact ⟨a, xs, e, s _ _ r, RpL.ext (fun a o e _ => s a o e) w q⟩
    | .tuple _, ⟨a, xs, e, r, q⟩ => exact ⟨a, xs, e, rd_keep (fun o z => s _ o z) r, RpL.ext (fun a o e _ => s a o e) w q⟩
    | .dict _, ⟨a, u, e, r, q⟩ => exact ⟨a, u, e, s _ _ r, RpE.ext (fun a o e _ => s a o e) w q⟩
theorem Same.some (s : Same H H') (a : Addr) (h : H a ≠ none) : H' a ≠ none := by
  cases e : H a with
  | none => exact (h e).elim
  | some o => rw [s a o e]; exact fun z => nomatch z
/-- all objects are kept; more may be avoided, of what is new -/
theorem Abs.same' (A : Abs g O H σ ε) (s : Same H H') (w : ∀ a, O' a → O a ∨ (H a = none ∧ H' a ≠ none)) (mo : ∀ a, O a → O' a) (hm : ∀ a, O'.m a ↔ O.m a := by exact fun _ => Iff.rfl) : Abs g O' H' σ ε :=
  have w' : ∀ a, O' a → O a ∨ H a = none := fun a z => (w a z).imp_right (·.1)
  { A with
    slot := fun i d e => let ⟨v, k, e1, e2, h⟩ := A.slot i d e; ⟨v, k, e1, e2, h.same s w' mo fun a => (hm a).mpr⟩
    ownO := fun a z => mo a (A.ownO a (z.imp_right (hm a).mp))
    apm := fun i a h e z => A.apm i a h e ((hm a).mp z)
    newm := fun a z => A.newm a ((hm a).mp z)
    has := fun a z => (w a z).elim (fun z => Same.some s a (A.has a z)) fun z => z.2
    sub := fun a z => mo a (A.sub a z)
    subm := fun a z => (hm a).mpr (A.subm a z)
    fr := fun b o e n n2 => s b o (A.fr b o e n n2)
    hold := fun p hp => Rp.ext (fun a o e _ => s a o e) w' (A.hold p hp) }
theorem Abs.same (A : Abs g O H σ ε) (s : Same H H') : Abs g O H' σ ε := A.same' s (fun _ z => .inl z) fun _ z => z
theorem Ext.same {κ : List Kd} (s : Same H H') : Ext κ σ O H O H' := ⟨fun a o e _ => s a o e, fun _ z => .inl z, fun _ z => z, fun a => Same.some s a, fun _ z => .inl z, fun _ z => z⟩
def OS.add (O : OS) (p : Addr) : OS := ⟨fun a => a = p ∨ O a, O.m⟩
theorem OS.add_or {O : OS} {p a : Addr} (h : (OS.add O p) a) : a = p ∨ O a := h
theorem OS.add_of {O : OS} {p a : Addr} (h : O a) : (OS.add O p) a := .inr h
theorem same_upd {p : Addr} {o : HO} (h : H p = none) : Same H (upd H p o) := fun b u e => by rw [upd_ne (ne_of_none e h)]; exact e
theorem Abs.add (A : Abs g O H σ ε) {p : Addr} {o : HO} (h : H p = none) : Abs g (OS.add O p) (upd H p o) σ ε :=
  A.same' (same_upd h) (fun a z => (OS.add_or z).elim (fun e => .inr (by subst e; exact ⟨h, by rw [upd_same]; exact fun z => nomatch z⟩)) .inl) fun _ z => OS.add_of z
theorem Ext.add {κ : List Kd} {p : Addr} {o : HO} (h : H p = none) : Ext κ σ O H (OS.add O p) (upd H p o) :=
  ⟨fun a o e _ => same_upd h a o e, fun a z => (OS.add_or z).elim (fun e => .inr (by subst e; exact h)) .inl, fun _ z => OS.add_of z, fun a => Same.some (same_upd h) a, fun _ z => .inl z, fun _ z => z⟩
/-- p is avoided no longer -/
theorem Abs.unownA (A : Abs g O H σ ε) {p : Addr} (np : H p = none) : ¬ OwnAt (OS.add O p) g.κ σ p := fun z => z.elim (A.unslot np) (A.nm np)
theorem Abs.addSl (A : Abs g O H σ ε) {p : Addr} (h : H p = none) : (OS.add O p).sl p := ⟨.inl rfl, A.nm h⟩
def OS.drop (O : OS) (p : Addr) : OS := ⟨fun a => O a ∧ a ≠ p, O.m⟩
theorem OS.drop_1 {O : OS} {p a : Addr} (h : (OS.drop O p) a) : O a := h.1
theorem Abs.drop (A : Abs g O H σ ε) {p : Addr} (n : ¬ OwnAt O g.κ σ p) (n0 : ¬ g.O0 p) : Abs g (OS.drop O p) H σ ε :=
  { A with
    slot := fun i d e => by
      obtain ⟨v, k, e1, e2, h⟩ := A.slot i d e
      refine ⟨v, k, e1, e2, ?_⟩
      have ow : ∀ {d : D} {v : V}, Ow H O d v → (∀ a, v = .ref a → a ≠ p) → Ow H (OS.drop O p) d v := fun {d v} h q => by
        match d, h with
        | .list _, ⟨a, xs, e, n, r, q'⟩ => exact ⟨a, xs, e, ⟨n, q a e⟩, r, RpL.anti (fun _ z => OS.drop_1 z) q'⟩
        | .dict _, ⟨a, u, e, n, r, q'⟩ => exact ⟨a, u, e, ⟨n, q a e⟩, r, RpE.anti (fun _ z => OS.drop_1 z) q'⟩
      cases k with
      | val => exact Rp.anti (fun _ z => OS.drop_1 z) h
      | brw => exact NbC.anti (fun _ z => OS.drop_1 z) h
      | own => exact ow h fun a ea z => n (.inl ⟨i, .inl e2, by rw [e1, ea, z]⟩)
      | io => exact ow h fun a ea z => n (.inl ⟨i, .inr e2, by rw [e1, ea, z]⟩)
      | st => exact OwS.ext (fun _ _ e _ => e) (fun _ z => .inl (OS.drop_1 z)) (fun _ _ _ e => e) (fun _ z => z) h
      | sl => exact OwS.ext (fun _ _ e _ => e) (fun _ z => .inl (OS.drop_1 z)) (fun _ _ _ e => e) (fun _ z => z) h
    ownO := fun a z => ⟨A.ownO a z, fun e => n (e ▸ z)⟩
    has := fun a z => A.has a z.1
    sub := fun a z => ⟨A.sub a z, fun e => n0 (e ▸ z)⟩
    hold := fun p hp => Rp.anti (fun _ z => OS.drop_1 z) (A.hold p hp) }
theorem Abs.get (A : Abs g O H σ ε) {i : Nat} {d : D} (e : ε[i]? = some (some d)) : ∃ v, σ[i]? = some (some v) ∧ Nb H O d v :=
  let ⟨v, _, e1, _, h⟩ := A.slot i d e
  ⟨v, e1, h.nb⟩
end
end DL
namespace DL
open PySem PySem.Spec L2
/-- what is raised -/
structure Exn where
  cls : Str
  fs : List (Str × D)
abbrev RX := Exn → En → Prop
/-- objects that stand, data that is held -/
structure Kn where
  os : List (Addr × HO)
  ds : List (D × V)
def KnOk (k : Kn) (g : Gx) : Prop := (∀ p ∈ k.os, g.H0 p.1 = some p.2 ∧ ∀ i, (i, p.1) ∉ g.io) ∧ ∀ p ∈ k.ds, p ∈ g.hold
structure CxD extends L2.Cx where
  rx : RX
  kn : Kn
instance : Coe CxD L2.Cx := ⟨CxD.toCx⟩
/-- an exception over data: its class by name, its fields -/
def XR (mg : Str → Option Value) (x : Exn) (cls : Value) (d : Option Addr) (H : Hp) (O : OS) : Prop :=
  (∃ C, cls = .ref C ∧ mg x.cls = some (.ref C)) ∧ match d with
  | none => x.fs = []
  | some a => ∃ fs : List (Str × V), H a = some (.xd fs) ∧ ¬ O a ∧ ∀ p ∈ x.fs, ∃ v, fs.lookup p.1 = some v ∧ Rp H O p.2 v
def WD (X : CxD) (g : Gx) : L2.WX := fun cls d σ H => ∃ O ε x, Abs g O H σ ε ∧ XR X.mg x cls d H O ∧ X.rx x ε
structure GX (X : CxD) extends Gx where
  tk : L2.Takes X.toCx (WD X toGx)
  gk : KnOk X.kn toGx
instance {X : CxD} : CoeOut (GX X) Gx := ⟨GX.toGx⟩
end DL
namespace DL
open PySem PySem.Spec L2
abbrev WE := En → (D → En → Prop) → Prop
abbrev WT := En → (Bool → En → Prop) → Prop
abbrev WA := En → (List (En → Option D) → En → Prop) → Prop
def Mono (w : WE) : Prop := ∀ ε Q Q', (∀ d ε', Q d ε' → Q' d ε') → w ε Q → w ε Q'
def MonoT (w : WT) : Prop := ∀ ε Q Q', (∀ d ε', Q d ε' → Q' d ε') → w ε Q → w ε Q'
def rdE (g : Gx) (w : WE) : TE := fun σ H Q => ∃ O ε, Abs g O H σ ε ∧ w ε fun d ε' => ∀ v H' O', Abs g O' H' σ ε' → Ext g.κ σ O H O' H' → Rp H' O' d v → Q v H'
def rdF (g : Gx) (w : WE) : TE := fun σ H Q => ∃ O ε, Abs g O H σ ε ∧ w ε fun d ε' => ∀ p H' O', Abs g O' H' σ ε' → Ext g.κ σ O H O' H' → O'.sl p → H p = none → Ow H' O' d (.ref p) → Q (.ref p) H'
def rdT (g : Gx) (w : WT) : TT := fun σ H Q => ∃ O ε, Abs g O H σ ε ∧ w ε fun b ε' => ∀ H' O', Abs g O' H' σ ε' → Ext g.κ σ O H O' H' → Q b H'
/-- an expression whose value is clean; one whose value is new; a test -/
structure DE (X : CxD) (κ : List Kd) (e : Expr) (w : WE) : Prop where
  pe : ∀ g : GX X, g.κ = κ → PE X e (rdE g w)
  mono : Mono w
structure DF (X : CxD) (κ : List Kd) (e : Expr) (w : WE) : Prop where
  pe : ∀ g : GX X, g.κ = κ → PE X e (rdF g w)
  mono : Mono w
structure DT (X : CxD) (κ : List Kd) (e : Expr) (w : WT) : Prop where
  pt : ∀ g : GX X, g.κ = κ → PT X e (rdT g w)
  mono : MonoT w
structure DW (X : CxD) (κ : List Kd) (e : Expr) (w : WT) : Prop where
  pw : ∀ g : GX X, g.κ = κ → PW X e (rdT g w)
  mono : MonoT w
/-- an operand: an expression, or a name, read when the operation is done -/
inductive Op where
  | ex (w : WE)
  | nm (i : Nat)
def slF (i : Nat) : En → Option D := fun ε => (ε[i]?).join
def oEv (o : Op) (ε : En) (Q : (En → Option D) → En → Prop) : Prop := match o with
  | .ex w => w ε fun d ε' => Q (fun _ => some d) ε'
  | .nm i => (∃ d, ε[i]? = some (some d)) ∧ Q (slF i) ε
def MonoO : Op → Prop
  | .ex w => Mono w
  | .nm _ => True
theorem oEv_mono {o : Op} (m : MonoO o) {ε : En} {Q Q' : (En → Option D) → En → Prop} (h : ∀ x ε', Q x ε' → Q' x ε') (q : oEv o ε Q) : oEv o ε Q' := by
  cases o with
  | ex w => exact m ε _ _ (fun d ε' z => h _ _ z) q
  | nm i => exact ⟨q.1, h _ _ q.2⟩
def OR (H : Hp) (O : OS) (σ : L2.St) (x : En → Option D) (v : V) : Prop := (∃ d, x = (fun _ => some d) ∧ Rp H O d v) ∨ ∃ i, x = slF i ∧ σ[i]? = some (some v)
theorem OR.ext {g : Gx} {O O' : OS} {H H' : Hp} {σ : L2.St} {ε : En} {x : En → Option D} {v : V} (A : Abs g O H σ ε) (k : Ext g.κ σ O H O' H') (h : OR H O σ x v) : OR H' O' σ x v :=
  h.imp (fun ⟨d, e, r⟩ => ⟨d, e, A.rp k r⟩) id
theorem OR.nb {g : Gx} {O : OS} {H : Hp} {σ : L2.St} {ε : En} {x : En → Option D} {v : V} {d : D} (A : Abs g O H σ ε) (h : OR H O σ x v) (e : x ε = some d) : Nb H O d v := by
  rcases h with ⟨d', rfl, r⟩ | ⟨i, rfl, s⟩
  · cases e
    exact r.nb
  · have e' : ε[i]? = some (some d) := by
      unfold slF at e
      cases q : ε[i]? with
      | none => rw [q] at e; cases e
      | some o => rw [q] at e; exact congrArg some e
    obtain ⟨v', s', h⟩ := A.get e'
    rw [s] at s'
    cases s'
    exact h
def rdO (g : Gx) (o : Op) : TE := fun σ H Q => ∃ O ε, Abs g O H σ ε ∧ oEv o ε fun x ε' => ∀ v H' O', Abs g O' H' σ ε' → Ext g.κ σ O H O' H' → OR H' O' σ x v → Q v H'
structure DO (X : CxD) (κ : List Kd) (e : Expr) (o : Op) : Prop where
  pe : ∀ g : GX X, g.κ = κ → PE X e (rdO g o)
  mono : MonoO o
theorem _root_.L2.PE.imp {X : CxD} {e : Expr} {t t' : TE} (h : PE X e t) (k : ∀ σ H Q, t' σ H Q → t σ H Q) : PE X e t' := ⟨fun pins s σ H Q I q => h.run pins s σ H Q I (k _ _ _ q)⟩
theorem _root_.L2.PT.imp {X : CxD} {e : Expr} {t t' : TT} (h : PT X e t) (k : ∀ σ H Q, t' σ H Q → t σ H Q) : PT X e t' := ⟨fun pins s σ H Q I q => h.run pins s σ H Q I (k _ _ _ q)⟩
theorem _root_.L2.PW.imp {X : CxD} {e : Expr} {t t' : TT} (h : PW X e t) (k : ∀ σ H Q, t' σ H Q → t σ H Q) : PW X e t' := ⟨fun wh pins s σ H Q I q => h.run wh pins s σ H Q I (k _ _ _ q)⟩
theorem _root_.L2.PA.imp {X : CxD} {e : List Expr} {t t' : TA} (h : PA X e t) (k : ∀ σ H Q, t' σ H Q → t σ H Q) : PA X e t' := ⟨fun pos pins s σ H Q I q => h.run pos pins s σ H Q I (k _ _ _ q)⟩
theorem _root_.L2.PS.imp {X : CxD} {e : Stmt} {t t' : TS} (h : PS X e t) (k : ∀ D σ H, t' D σ H → t D σ H) : PS X e t' := ⟨fun pins s σ H D I q => h.run pins s σ H D I (k _ _ _ q)⟩
theorem _root_.L2.PSs.imp {X : CxD} {e : List Stmt} {t t' : TS} (h : PSs X e t) (k : ∀ D σ H, t' D σ H → t D σ H) : PSs X e t' := ⟨fun pins s σ H D I q => h.run pins s σ H D I (k _ _ _ q)⟩
section
variable {X : CxD} {κ : List Kd}
def eC (d : D) : WE := fun ε Q => Q d ε
def eNm (i : Nat) : WE := fun ε Q => ∃ d, ε[i]? = some (some d) ∧ Q d ε
theorem de_int {i : Int} {j pos} : DE X κ (.Constant (.int i) j pos) (eC (.int i)) :=
  ⟨fun g _ => pe_int.imp fun σ H Q ⟨O, ε, A, h⟩ => h _ H O A .refl rfl, fun _ _ _ h q => h _ _ q⟩
theorem de_bl {i : Bool} {j pos} : DE X κ (.Constant (.bool i) j pos) (eC (.bool i)) :=
  ⟨fun g _ => pe_bl.imp fun σ H Q ⟨O, ε, A, h⟩ => h _ H O A .refl rfl, fun _ _ _ h q => h _ _ q⟩
theorem de_non {j pos} : DE X κ (.Constant .none j pos) (eC .none) :=
  ⟨fun g _ => pe_non.imp fun σ H Q ⟨O, ε, A, h⟩ => h _ H O A .refl rfl, fun _ _ _ h q => h _ _ q⟩
/-- a name of kind val -/
theorem de_nm (i : Nat) {x : Str} {pos : Pos} (hk : κ[i]? = some .val := by rfl) (hN : X.N[i]? = some x := by rfl) (hv : Vis X.env.scope x := by first | exact Or.inl rfl | exact Or.inr (Or.inl rfl) | exact Or.inr (Or.inr rfl)) (hd : (x == ("__debug__" : Str)) = false := by decide)
    (hcd : (x == ("__classdict__" : Str)) = false := by decide) : DE X κ (.Name x pos) (eNm i) :=
  ⟨fun g hg => (pe_var hN hv hd hcd).imp fun σ H Q ⟨O, ε, A, d, e, h⟩ => by
    obtain ⟨v, k, e1, e2, s⟩ := A.slot i d e
    rw [hg, hk] at e2
    cases e2
    exact ⟨v, e1, h v H O A .refl s⟩, fun ε Q Q' h ⟨d, e, q⟩ => ⟨d, e, h _ _ q⟩⟩
/-- a name as an operand -/
theorem do_nm (i : Nat) {x : Str} {pos : Pos} (hN : X.N[i]? = some x := by rfl) (hv : Vis X.env.scope x := by first | exact Or.inl rfl | exact Or.inr (Or.inl rfl) | exact Or.inr (Or.inr rfl)) (hd : (x == ("__debug__" : Str)) = false := by decide)
    (hcd : (x == ("__classdict__" : Str)) = false := by decide) : DO X κ (.Name x pos) (.nm i) :=
  ⟨fun g hg => (pe_var hN hv hd hcd).imp fun σ H Q ⟨O, ε, A, ⟨d, e⟩, h⟩ => by
    obtain ⟨v, e1, s⟩ := A.get e
    exact ⟨v, e1, h v H O A .refl (.inr ⟨i, rfl, e1⟩)⟩, trivial⟩
theorem DE.op {e : Expr} {w : WE} (h : DE X κ e w) : DO X κ e (.ex w) :=
  ⟨fun g hg => (h.pe g hg).imp fun σ H Q ⟨O, ε, A, q⟩ => ⟨O, ε, A, h.mono _ _ _ (fun d ε' z v H' O' A' x r => z v H' O' A' x (.inl ⟨d, rfl, r⟩)) q⟩, h.mono⟩
theorem DF.de {e : Expr} {w : WE} (h : DF X κ e w) : DE X κ e w :=
  ⟨fun g hg => (h.pe g hg).imp fun σ H Q ⟨O, ε, A, q⟩ => ⟨O, ε, A, h.mono _ _ _ (fun d ε' z p H' O' A' x hp np ow => by
    have nO : ¬ O p := A.nh np
    have nown : ¬ OwnAt O' g.κ σ p := A.unownN np hp
    refine z (.ref p) H' (OS.drop O' p) (A'.drop nown (A.nO0 np)) ⟨x.keep, fun a z => x.own a z.1, fun a z => ⟨x.mono a z, fun e => nO (e ▸ z)⟩, x.some, x.ownm, x.monom⟩ ?_
    exact Ow.toRp (fun _ z => OS.drop_1 z) ow fun a e z => z.2 (by cases e; rfl)) q⟩, h.mono⟩
def eBin (f : D → D → Option D) (oa ob : Op) : WE := fun ε Q => oEv oa ε fun x ε1 => oEv ob ε1 fun y ε2 => ∃ a b r, x ε2 = some a ∧ y ε2 = some b ∧ f a b = some r ∧ Q r ε2
theorem eBin_mono {f : D → D → Option D} {oa ob : Op} (ma : MonoO oa) (mb : MonoO ob) : Mono (eBin f oa ob) := fun ε Q Q' h q =>
  oEv_mono ma (fun x ε1 q => oEv_mono mb (fun y ε2 ⟨a, b, r, e1, e2, e3, q⟩ => ⟨a, b, r, e1, e2, e3, h _ _ q⟩) q) q
/-- an operation that changes nothing and gives a clean value; one that gives a new thing -/
def OpS (r : R2) (f : D → D → Option D) : Prop := ∀ (H : Hp) (O : OS) (x y : V) (a b c : D) (Q : VK), (∀ a, O a → H a ≠ none) → Nb H O a x → Nb H O b y → f a b = some c → (∀ v H', Same H H' → Rp H' O c v → Q v H') → r x y H Q
theorem tOp_of {g : Gx} {r : R2} {f : D → D → Option D} (hr : OpS r f) {oa ob : Op} (ma : MonoO oa) (mb : MonoO ob) {σ : L2.St} {H : Hp} {Q : VK} (h : rdE g (eBin f oa ob) σ H Q) : tOp r (rdO g oa) (rdO g ob) σ H Q := by
  obtain ⟨O, ε, A, h⟩ := h
  refine ⟨O, ε, A, oEv_mono ma (fun x ε1 h v1 H1 O1 A1 x1 r1 => ?_) h⟩
  refine ⟨O1, ε1, A1, oEv_mono mb (fun y ε2 h v2 H2 O2 A2 x2 r2 => ?_) h⟩
  obtain ⟨a, b, c, ea, eb, ec, q⟩ := h
  exact hr H2 O2 v1 v2 a b c Q A2.has ((r1.ext A1 x2).nb A2 ea) (r2.nb A2 eb) ec fun v H' s rp => q v H' O2 (A2.same s) (x1.trans (x2.trans (.same s))) rp
variable {a b : Expr} {oa ob : Op} {pos : Pos} {es : List Expr} {os : List Op}
theorem de_op {op : Operator} {r : R2} {f : D → D → Option D} (ho : OpR X (binaryOp op) r) (hf : OpS r f) (ha : DO X κ a oa) (hb : DO X κ b ob) : DE X κ (.BinOp a op b pos) (eBin f oa ob) :=
  ⟨fun g hg => (pe_op ho (ha.pe g hg) (hb.pe g hg)).imp fun _ _ _ h => tOp_of hf ha.mono hb.mono h, eBin_mono ha.mono hb.mono⟩
theorem de_cmp {op : CmpOp} {r : R2} {f : D → D → Option D} (ho : OpR X (compareOp op) r) (hf : OpS r f) (ha : DO X κ a oa) (hb : DO X κ b ob) (hm : behindInMarks op b = false) : DE X κ (.Compare a [op] [b] pos) (eBin f oa ob) :=
  ⟨fun g hg => (pe_cmpR ho (ha.pe g hg) (hb.pe g hg) hm).imp fun _ _ _ h => tOp_of hf ha.mono hb.mono h, eBin_mono ha.mono hb.mono⟩
theorem de_ix {r : R2} {f : D → D → Option D} (ho : IxR X r) (hf : OpS r f) (ha : DO X κ a oa) (hb : DO X κ b ob) (hs : PlainIx b := by exact fun _ _ => rfl) : DE X κ (.Subscript a b pos) (eBin f oa ob) :=
  ⟨fun g hg => (pe_ix ho (ha.pe g hg) (hb.pe g hg) hs).imp fun _ _ _ h => tOp_of hf ha.mono hb.mono h, eBin_mono ha.mono hb.mono⟩
/-- an expression that gives a bool -/
def tE (w : WE) : WT := fun ε Q => w ε fun d ε' => ∃ b, d = .bool b ∧ Q b ε'
theorem tE_mono {w : WE} (m : Mono w) : MonoT (tE w) := fun ε Q Q' h q => m ε _ _ (fun d ε' ⟨b, e, q⟩ => ⟨b, e, h _ _ q⟩) q
theorem dt_val {e : Expr} {w : WE} (h : DE X κ e w) (he : ∀ whole, isTrue e X.env whole = (do let v ← whole; standAt e.pos; holding [v] (truthy v)) := by intro _; rfl) : DT X κ e (tE w) :=
  ⟨fun g hg => (pt_val (h.pe g hg) he).imp fun σ H Q ⟨O, ε, A, q⟩ => ⟨O, ε, A, h.mono _ _ _ (fun d ε' ⟨b, e, z⟩ v H' O' A' x r => ⟨b, by subst e; exact r, z H' O' A' x⟩) q⟩, tE_mono h.mono⟩
theorem dt_cmp {op : CmpOp} {r : R2} {f : D → D → Option D} (ho : OpR X (compareOp op) r) (hf : OpS r f) (ha : DO X κ a oa) (hb : DO X κ b ob) (hm : behindInMarks op b = false) : DT X κ (.Compare a [op] [b] pos) (tE (eBin f oa ob)) :=
  ⟨fun g hg => (pt_cmpR ho (ha.pe g hg) (hb.pe g hg) hm).imp fun σ H Q ⟨O, ε, A, q⟩ => tOp_of hf ha.mono hb.mono ⟨O, ε, A, eBin_mono ha.mono hb.mono _ _ _ (fun d ε' ⟨b, e, z⟩ v H' O' A' x r => ⟨b, by subst e; exact r, z H' O' A' x⟩) q⟩,
    tE_mono (eBin_mono ha.mono hb.mono)⟩
def tNotW (w : WT) : WT := fun ε Q => w ε fun b ε' => Q (!b) ε'
theorem dt_not {w : WT} (h : DT X κ a w) : DT X κ (.UnaryOp .Not a pos) (tNotW w) :=
  ⟨fun g hg => (pt_not (h.pt g hg)).imp fun σ H Q ⟨O, ε, A, q⟩ => ⟨O, ε, A, h.mono _ _ _ (fun b ε' z H' O' A' x => z H' O' A' x) q⟩, fun ε Q Q' h' q => h.mono _ _ _ (fun b ε' z => h' _ _ z) q⟩
def tAndW (w u : WT) : WT := fun ε Q => w ε fun b ε' => if b = true then u ε' Q else Q false ε'
def tOrW (w u : WT) : WT := fun ε Q => w ε fun b ε' => if b = true then Q true ε' else u ε' Q
theorem MonoT.and {w u : WT} (h : MonoT w) (k : MonoT u) : MonoT (tAndW w u) := fun ε Q Q' h' q => h _ _ _ (fun b ε' z => by
  cases b with
  | true => exact k _ _ _ h' z
  | false => exact h' _ _ z) q
theorem MonoT.or {w u : WT} (h : MonoT w) (k : MonoT u) : MonoT (tOrW w u) := fun ε Q Q' h' q => h _ _ _ (fun b ε' z => by
  cases b with
  | false => exact k _ _ _ h' z
  | true => exact h' _ _ z) q
variable {rest : List Expr}
theorem dw_and1 {w : WT} (h : DT X κ a w) : DW X κ (.BoolOp .And [a] pos) w := ⟨fun g hg => pw_and1 (h.pt g hg), h.mono⟩
theorem dw_or1 {w : WT} (h : DT X κ a w) : DW X κ (.BoolOp .Or [a] pos) w := ⟨fun g hg => pw_or1 (h.pt g hg), h.mono⟩
theorem dw_and {w u : WT} (h : DT X κ a w) (k : DW X κ (.BoolOp .And (b :: rest) pos) u) : DW X κ (.BoolOp .And (a :: b :: rest) pos) (tAndW w u) :=
  ⟨fun g hg => (pw_and (h.pt g hg) (k.pw g hg)).imp fun σ H Q ⟨O, ε, A, q⟩ => ⟨O, ε, A, h.mono _ _ _ (fun c ε' z H' O' A' x => by
    cases c with
    | true => exact ⟨O', ε', A', k.mono _ _ _ (fun d ε2 z H2 O2 A2 x2 => z H2 O2 A2 (x.trans x2)) z⟩
    | false => exact z H' O' A' x) q⟩, h.mono.and k.mono⟩
theorem dw_or {w u : WT} (h : DT X κ a w) (k : DW X κ (.BoolOp .Or (b :: rest) pos) u) : DW X κ (.BoolOp .Or (a :: b :: rest) pos) (tOrW w u) :=
  ⟨fun g hg => (pw_or (h.pt g hg) (k.pw g hg)).imp fun σ H Q ⟨O, ε, A, q⟩ => ⟨O, ε, A, h.mono _ _ _ (fun c ε' z H' O' A' x => by
    cases c with
    | false => exact ⟨O', ε', A', k.mono _ _ _ (fun d ε2 z H2 O2 A2 x2 => z H2 O2 A2 (x.trans x2)) z⟩
    | true => exact z H' O' A' x) q⟩, h.mono.or k.mono⟩
theorem DW.dt {w : WT} (h : DW X κ a w) : DT X κ a w := ⟨fun g hg => (h.pw g hg).pt, h.mono⟩
/-- values that are bools, joined -/
def eAnd (w u : WE) : WE := fun ε Q => w ε fun d ε' => ∃ b, d = .bool b ∧ if b = true then u ε' Q else Q (.bool false) ε'
def eOr (w u : WE) : WE := fun ε Q => w ε fun d ε' => ∃ b, d = .bool b ∧ if b = true then Q (.bool true) ε' else u ε' Q
def eNot (w : WE) : WE := fun ε Q => w ε fun d ε' => ∃ b, d = .bool b ∧ Q (.bool !b) ε'
theorem de_one {op} {w : WE} (h : DE X κ a w) : DE X κ (.BoolOp op [a] pos) w := ⟨fun g hg => pe_one (h.pe g hg), h.mono⟩
theorem de_and {w u : WE} (h : DE X κ a w) (k : DE X κ (.BoolOp .And (b :: rest) pos) u) : DE X κ (.BoolOp .And (a :: b :: rest) pos) (eAnd w u) :=
  ⟨fun g hg => (pe_and (h.pe g hg) (k.pe g hg)).imp fun σ H Q ⟨O, ε, A, q⟩ => ⟨O, ε, A, h.mono _ _ _ (fun d ε' ⟨c, e, z⟩ v H' O' A' x r => by
    subst e
    refine ⟨c, r, ?_⟩
    cases c with
    | true => exact ⟨O', ε', A', k.mono _ _ _ (fun d ε2 z v H2 O2 A2 x2 => z v H2 O2 A2 (x.trans x2)) z⟩
    | false => exact z _ H' O' A' x rfl) q⟩, fun ε Q Q' h' q => h.mono _ _ _ (fun d ε' ⟨c, e, z⟩ => ⟨c, e, by
      cases c with
      | true => exact k.mono _ _ _ h' z
      | false => exact h' _ _ z⟩) q⟩
theorem de_or {w u : WE} (h : DE X κ a w) (k : DE X κ (.BoolOp .Or (b :: rest) pos) u) : DE X κ (.BoolOp .Or (a :: b :: rest) pos) (eOr w u) :=
  ⟨fun g hg => (pe_or (h.pe g hg) (k.pe g hg)).imp fun σ H Q ⟨O, ε, A, q⟩ => ⟨O, ε, A, h.mono _ _ _ (fun d ε' ⟨c, e, z⟩ v H' O' A' x r => by
    subst e
    refine ⟨c, r, ?_⟩
    cases c with
    | false => exact ⟨O', ε', A', k.mono _ _ _ (fun d ε2 z v H2 O2 A2 x2 => z v H2 O2 A2 (x.trans x2)) z⟩
    | true => exact z _ H' O' A' x rfl) q⟩, fun ε Q Q' h' q => h.mono _ _ _ (fun d ε' ⟨c, e, z⟩ => ⟨c, e, by
      cases c with
      | false => exact k.mono _ _ _ h' z
      | true => exact h' _ _ z⟩) q⟩
theorem de_not {w : WE} (h : DE X κ a w) : DE X κ (.UnaryOp .Not a pos) (eNot w) :=
  ⟨fun g hg => (pe_not (h.pe g hg)).imp fun σ H Q ⟨O, ε, A, q⟩ => ⟨O, ε, A, h.mono _ _ _ (fun d ε' ⟨c, e, z⟩ v H' O' A' x r => by
    subst e
    exact ⟨c, r, z _ H' O' A' x rfl⟩) q⟩, fun ε Q Q' h' q => h.mono _ _ _ (fun d ε' ⟨c, e, z⟩ => ⟨c, e, h' _ _ z⟩) q⟩
def notStar : Expr → Bool
  | .Starred _ _ => false
  | _ => true
theorem st_cons {e : Expr} {es : List Expr} {env : Env} (h : notStar e = true) : starEach (e :: es) env = (false, eval e env) :: starEach es env := by
  cases e <;> first | rfl | exact Bool.noConfusion h
theorem st_any {env : Env} {pos : Pos} : ∀ {es : List Expr}, es.all notStar = true → (backTo pos (starEach es env)).any (·.1) = false
  | [], _ => rfl
  | e :: es, h => by
    rw [List.all_cons, Bool.and_eq_true] at h
    rw [st_cons h.1]
    show ((false, _) :: backTo pos (starEach es env)).any (·.1) = false
    rw [List.any_cons, st_any h.2]
    rfl
theorem st_all {env : Env} {pos : Pos} : ∀ {es : List Expr}, es.all notStar = true → (backTo pos (starEach es env)).all (fun x => !x.1) = true
  | [], _ => rfl
  | e :: es, h => by
    rw [List.all_cons, Bool.and_eq_true] at h
    rw [st_cons h.1]
    show ((false, _) :: backTo pos (starEach es env)).all (fun x => !x.1) = true
    rw [List.all_cons, st_all h.2]
    rfl
def aEv : List Op → WA
  | [], ε, Q => Q [] ε
  | o :: os, ε, Q => oEv o ε fun x ε1 => aEv os ε1 fun xs ε2 => Q (x :: xs) ε2
def MonoA (os : List Op) : Prop := ∀ o ∈ os, MonoO o
theorem aEv_mono : ∀ {os : List Op}, MonoA os → ∀ {ε : En} {Q Q' : List (En → Option D) → En → Prop}, (∀ x ε', Q x ε' → Q' x ε') → aEv os ε Q → aEv os ε Q'
  | [], _, _, _, _, h, q => h _ _ q
  | o :: os, m, _, _, _, h, q => oEv_mono (m o List.mem_cons_self) (fun x ε1 q => aEv_mono (fun o ho => m o (List.mem_cons_of_mem _ ho)) (fun xs ε2 q => h _ _ q) q) q
def ORs (H : Hp) (O : OS) (σ : L2.St) : List (En → Option D) → List V → Prop
  | [], vs => vs = []
  | x :: xs, vs => ∃ v r, vs = v :: r ∧ OR H O σ x v ∧ ORs H O σ xs r
/-- the operands' values, read together -/
def vals (ε : En) : List (En → Option D) → List D → Prop
  | [], ds => ds = []
  | x :: xs, ds => ∃ d r, ds = d :: r ∧ x ε = some d ∧ vals ε xs r
def NbL (H : Hp) (O : OS) : List D → List V → Prop
  | [], vs => vs = []
  | d :: ds, vs => ∃ v r, vs = v :: r ∧ Nb H O d v ∧ NbL H O ds r
theorem ORs.nb {g : Gx} {O : OS} {H : Hp} {σ : L2.St} {ε : En} (A : Abs g O H σ ε) : ∀ {xs : List (En → Option D)} {vs : List V} {ds : List D}, ORs H O σ xs vs → vals ε xs ds → NbL H O ds vs
  | [], _, _, h, e => by
    have e' : _ = _ := e
    subst e'
    exact h
  | _ :: _, _, _, ⟨v, r, e, h, q⟩, ⟨d, dr, e2, hd, hr⟩ => by
    subst e2
    exact ⟨v, r, e, h.nb A hd, ORs.nb A q hr⟩
def rdA (g : Gx) (os : List Op) : TA := fun σ H Q => ∃ O ε, Abs g O H σ ε ∧ aEv os ε fun xs ε' => ∀ vs H' O', Abs g O' H' σ ε' → Ext g.κ σ O H O' H' → ORs H' O' σ xs vs → Q vs H'
structure DA (X : CxD) (κ : List Kd) (es : List Expr) (os : List Op) : Prop where
  pa : ∀ g : GX X, g.κ = κ → PA X es (rdA g os)
  mono : MonoA os
  st : es.all notStar = true
theorem da_nil : DA X κ [] [] := ⟨fun g _ => pa_nil.imp fun σ H Q ⟨O, ε, A, h⟩ => h [] H O A .refl rfl, fun _ h => (nomatch h), rfl⟩
theorem da_cons {es : List Expr} {os : List Op} (h : DO X κ a oa) (k : DA X κ es os) (hs : notStar a = true := by rfl) : DA X κ (a :: es) (oa :: os) :=
  ⟨fun g hg => (pa_cons (h.pe g hg) (k.pa g hg) (st_cons hs)).imp fun σ H Q ⟨O, ε, A, q⟩ => ⟨O, ε, A, oEv_mono h.mono (fun x ε1 z v H1 O1 A1 x1 r1 => ⟨O1, ε1, A1, aEv_mono k.mono (fun xs ε2 z vs H2 O2 A2 x2 r2 => z _ H2 O2 A2 (x1.trans x2) ⟨v, vs, rfl, r1.ext A1 x2, r2⟩) z⟩) q⟩,
    fun o ho => (List.mem_cons.mp ho).elim (fun e => e ▸ h.mono) fun ho => k.mono o ho, by rw [List.all_cons, hs, k.st]; rfl⟩
theorem DA.hd (h : DA X κ (a :: es) os) : notStar a = true ∧ es.all notStar = true := by
  have := h.st
  rw [List.all_cons, Bool.and_eq_true] at this
  exact this
/-- an operation on a list of operands -/
def eApp (f : List D → Option D) (os : List Op) : WE := fun ε Q => aEv os ε fun xs ε' => ∃ ds r, vals ε' xs ds ∧ f ds = some r ∧ Q r ε'
theorem eApp_mono {f : List D → Option D} {os : List Op} (m : MonoA os) : Mono (eApp f os) := fun ε Q Q' h q => aEv_mono m (fun xs ε' ⟨ds, r, e, e2, q⟩ => ⟨ds, r, e, e2, h _ _ q⟩) q
def CaS (r : List V → Hp → VK → Prop) (f : List D → Option D) : Prop := ∀ (H : Hp) (O : OS) (xs : List V) (ds : List D) (c : D) (Q : VK), (∀ a, O a → H a ≠ none) → NbL H O ds xs → f ds = some c → (∀ v H', Same H H' → Rp H' O c v → Q v H') → r xs H Q
def CaN (r : List V → Hp → VK → Prop) (f : List D → Option D) : Prop := ∀ (H : Hp) (O : OS) (xs : List V) (ds : List D) (c : D) (Q : VK), (∀ a, O a → H a ≠ none) → NbL H O ds xs → f ds = some c →
  (∀ p o, H p = none → (∀ O', (∀ a, O a → O' a) → (∀ a, O' a → O a ∨ a = p) → O' p → Ow (upd H p o) O' c (.ref p)) → Q (.ref p) (upd H p o)) → r xs H Q
theorem app_of {g : Gx} {r : List V → Hp → VK → Prop} {f : List D → Option D} (hr : CaS r f) {os : List Op} (m : MonoA os) {σ : L2.St} {H : Hp} {Q : VK} (h : rdE g (eApp f os) σ H Q) : rdA g os σ H fun vs H1 => r vs H1 Q := by
  obtain ⟨O, ε, A, h⟩ := h
  refine ⟨O, ε, A, aEv_mono m (fun xs ε1 h vs H1 O1 A1 x1 r1 => ?_) h⟩
  obtain ⟨ds, c, e, ec, q⟩ := h
  exact hr H1 O1 vs ds c Q A1.has (r1.nb A1 e) ec fun v H' s rp => q v H' O1 (A1.same s) (x1.trans (.same s)) rp
theorem app_ofN {g : Gx} {r : List V → Hp → VK → Prop} {f : List D → Option D} (hr : CaN r f) {os : List Op} (m : MonoA os) {σ : L2.St} {H : Hp} {Q : VK} (h : rdF g (eApp f os) σ H Q) : rdA g os σ H fun vs H1 => r vs H1 Q := by
  obtain ⟨O, ε, A, h⟩ := h
  refine ⟨O, ε, A, aEv_mono m (fun xs ε1 h vs H1 O1 A1 x1 r1 => ?_) h⟩
  obtain ⟨ds, c, e, ec, q⟩ := h
  refine hr H1 O1 vs ds c Q A1.has (r1.nb A1 e) ec fun p o np ow => ?_
  have nH : H p = none := Classical.byContradiction fun z => x1.some p z np
  exact q p _ (OS.add O1 p) (A1.add np) (x1.trans (.add np)) (A1.addSl np) nH (ow _ (fun _ z => OS.add_of z) (fun a z => (OS.add_or z).elim (fun e => .inr e) .inl) (.inl rfl))
variable {x : Str} {p : Pos} {id T : String}
theorem de_callB {r : List V → Hp → VK → Prop} {f : List D → Option D} (hc : CallR X (.builtin id) r) (hf : CaS r f) (hg : Gl X x) (hm : X.mg x = none) (hv : bootBuiltins x = some (.builtin id)) (ha : DA X κ (a :: es) os) (hn : x ≠ "__name__" := by decide) (hdb : (x == ("__debug__" : Str)) = false := by decide) :
    DE X κ (.Call (.Name x p) (a :: es) [] pos) (eApp f os) :=
  ⟨fun g hg' => (pe_callB hc hg hm hv (ha.pa g hg') hn hdb (st_cons ha.hd.1) (st_any ha.hd.2)).imp fun _ _ _ h => app_of hf ha.mono h, eApp_mono ha.mono⟩
theorem df_callB {r : List V → Hp → VK → Prop} {f : List D → Option D} (hc : CallR X (.builtin id) r) (hf : CaN r f) (hg : Gl X x) (hm : X.mg x = none) (hv : bootBuiltins x = some (.builtin id)) (ha : DA X κ (a :: es) os) (hn : x ≠ "__name__" := by decide) (hdb : (x == ("__debug__" : Str)) = false := by decide) :
    DF X κ (.Call (.Name x p) (a :: es) [] pos) (eApp f os) :=
  ⟨fun g hg' => (pe_callB hc hg hm hv (ha.pa g hg') hn hdb (st_cons ha.hd.1) (st_any ha.hd.2)).imp fun _ _ _ h => app_ofN hf ha.mono h, eApp_mono ha.mono⟩
theorem de_callTy {r : List V → Hp → VK → Prop} {f : List D → Option D} (hc : CallR X (.type T) r) (hf : CaS r f) (hg : Gl X x) (hm : X.mg x = none) (hv : bootBuiltins x = some (.type T)) (ha : DA X κ (a :: es) os) (hn : x ≠ "__name__" := by decide) (hdb : (x == ("__debug__" : Str)) = false := by decide) :
    DE X κ (.Call (.Name x p) (a :: es) [] pos) (eApp f os) :=
  ⟨fun g hg' => (pe_callTy hc hg hm hv (ha.pa g hg') hn hdb (st_cons ha.hd.1) (st_any ha.hd.2)).imp fun _ _ _ h => app_of hf ha.mono h, eApp_mono ha.mono⟩
theorem df_callTy {r : List V → Hp → VK → Prop} {f : List D → Option D} (hc : CallR X (.type T) r) (hf : CaN r f) (hg : Gl X x) (hm : X.mg x = none) (hv : bootBuiltins x = some (.type T)) (ha : DA X κ (a :: es) os) (hn : x ≠ "__name__" := by decide) (hdb : (x == ("__debug__" : Str)) = false := by decide) :
    DF X κ (.Call (.Name x p) (a :: es) [] pos) (eApp f os) :=
  ⟨fun g hg' => (pe_callTy hc hg hm hv (ha.pa g hg') hn hdb (st_cons ha.hd.1) (st_any ha.hd.2)).imp fun _ _ _ h => app_ofN hf ha.mono h, eApp_mono ha.mono⟩
def cEv : List WE → En → (List D → En → Prop) → Prop
  | [], ε, Q => Q [] ε
  | w :: ws, ε, Q => w ε fun d ε1 => cEv ws ε1 fun ds ε2 => Q (d :: ds) ε2
def MonoC (ws : List WE) : Prop := ∀ w ∈ ws, Mono w
theorem cEv_mono : ∀ {ws : List WE}, MonoC ws → ∀ {ε : En} {Q Q' : List D → En → Prop}, (∀ x ε', Q x ε' → Q' x ε') → cEv ws ε Q → cEv ws ε Q'
  | [], _, _, _, _, h, q => h _ _ q
  | w :: ws, m, _, _, _, h, q => m w List.mem_cons_self _ _ _ (fun x ε1 q => cEv_mono (fun o ho => m o (List.mem_cons_of_mem _ ho)) (fun xs ε2 q => h _ _ q) q) q
def rdC (g : Gx) (ws : List WE) : TA := fun σ H Q => ∃ O ε, Abs g O H σ ε ∧ cEv ws ε fun ds ε' => ∀ vs H' O', Abs g O' H' σ ε' → Ext g.κ σ O H O' H' → RpL H' O' ds vs → Q vs H'
structure DC (X : CxD) (κ : List Kd) (es : List Expr) (ws : List WE) : Prop where
  pa : ∀ g : GX X, g.κ = κ → PA X es (rdC g ws)
  mono : MonoC ws
theorem dc_nil : DC X κ [] [] := ⟨fun g _ => pa_nil.imp fun σ H Q ⟨O, ε, A, h⟩ => h [] H O A .refl rfl, fun _ h => nomatch h⟩
theorem dc_cons {es : List Expr} {w : WE} {ws : List WE} (h : DE X κ a w) (k : DC X κ es ws) (hs : notStar a = true := by rfl) : DC X κ (a :: es) (w :: ws) :=
  ⟨fun g hg => (pa_cons (h.pe g hg) (k.pa g hg) (st_cons hs)).imp fun σ H Q ⟨O, ε, A, q⟩ => ⟨O, ε, A, h.mono _ _ _ (fun x ε1 z v H1 O1 A1 x1 r1 => ⟨O1, ε1, A1, cEv_mono k.mono (fun xs ε2 z vs H2 O2 A2 x2 r2 => z _ H2 O2 A2 (x1.trans x2) ⟨v, vs, rfl, A1.rp x2 r1, r2⟩) z⟩) q⟩,
    fun o ho => (List.mem_cons.mp ho).elim (fun e => e ▸ h.mono) fun ho => k.mono o ho⟩
theorem RpL.length {H : Hp} {O : OS} : ∀ {ds : List D} {vs : List V}, RpL H O ds vs → vs.length = ds.length
  | [], _, h => by
    have e : _ = _ := h
    rw [e]
    rfl
  | d :: ds, _, ⟨v, r, e, _, q⟩ => by rw [e, List.length_cons, List.length_cons, RpL.length q]
def eTup (ws : List WE) : WE := fun ε Q => cEv ws ε fun ds ε' => ds.length ≤ sizeLine ∧ Q (.tuple ds) ε'
def eLst (ws : List WE) : WE := fun ε Q => cEv ws ε fun ds ε' => ds.length ≤ sizeLine ∧ Q (.list ds) ε'
theorem de_tup {ws : List WE} {k : Nat} (h : DC X κ es ws) : DE X κ (.Tuple es k pos) (eTup ws) :=
  ⟨fun g hg => (pe_tup (h.pa g hg)).imp fun σ H Q ⟨O, ε, A, q⟩ => ⟨O, ε, A, cEv_mono h.mono (fun ds ε' ⟨hl, q⟩ vs H' O' A' x r => ⟨by rw [r.length]; exact hl, fun p np =>
    q (.ref p) _ O' (A'.same (same_upd np)) (x.trans (.same (same_upd np))) ⟨p, vs, rfl, A'.nh np, RdT.of upd_same, RpL.ext (fun a o e _ => same_upd np a o e) (fun _ z => .inl z) r⟩⟩) q⟩,
    fun ε Q Q' h' q => cEv_mono h.mono (fun ds ε' ⟨hl, q⟩ => ⟨hl, h' _ _ q⟩) q⟩
theorem df_lst {ws : List WE} (h : DC X κ es ws) : DF X κ (.List es pos) (eLst ws) :=
  ⟨fun g hg => (pe_lst (h.pa g hg)).imp fun σ H Q ⟨O, ε, A, q⟩ => ⟨O, ε, A, cEv_mono h.mono (fun ds ε' ⟨hl, q⟩ vs H' O' A' x r => ⟨by rw [r.length]; exact hl, fun p np =>
    q p _ (OS.add O' p) (A'.add np) (x.trans (.add np)) (A'.addSl np) (Classical.byContradiction fun z => x.some p z np) ⟨p, vs, rfl, .inl rfl, upd_same, RpL.ext (fun a o e _ => same_upd np a o e) (fun a z => (OS.add_or z).elim (fun e => .inr (by rw [e]; exact np)) .inl) r⟩⟩) q⟩,
    fun ε Q Q' h' q => cEv_mono h.mono (fun ds ε' ⟨hl, q⟩ => ⟨hl, h' _ _ q⟩) q⟩
end
end DL
namespace DL
open PySem PySem.Spec L2
structure WEnds where
  nx : En → Prop
  rt : D → En → Prop
  bk : En → Prop
  ct : En → Prop
abbrev WS := WEnds → En → Prop
structure WEnds.le (E E' : WEnds) : Prop where
  nx : ∀ ε, E.nx ε → E'.nx ε
  rt : ∀ d ε, E.rt d ε → E'.rt d ε
  bk : ∀ ε, E.bk ε → E'.bk ε
  ct : ∀ ε, E.ct ε → E'.ct ε
def MonoS (w : WS) : Prop := ∀ (E E' : WEnds) (ε : En), E.le E' → w E ε → w E' ε
theorem WEnds.le.le_nx {E E' : WEnds} (h : E.le E') {a b : En → Prop} (k : ∀ ε, a ε → b ε) : WEnds.le { E with nx := a } { E' with nx := b } := ⟨k, h.rt, h.bk, h.ct⟩
/-- what a def hands back: a clean value; or (fr) a new thing -/
def OS.grow (O : OS) (Om : Addr → Prop) : OS := ⟨fun a => O a ∨ Om a, Om⟩
def RetOk (g : Gx) (O : OS) (H : Hp) (d : D) (v : V) : Prop := if g.fr = true then ∃ p, v = .ref p ∧ O.sl p ∧ g.H0 p = none ∧ Ow H (OS.add (OS.grow g.O0 O.m) p) d v else Rp H (OS.grow g.O0 O.m) d v
theorem Abs.retSub {g : Gx} {O : OS} {H : Hp} {σ : L2.St} {ε : En} (A : Abs g O H σ ε) : ∀ a, OS.grow g.O0 O.m a → O a := fun a z => z.elim (A.sub a) fun z => A.ownO a (.inr z)
def ends (g : Gx) (Dn : Ends) : WEnds where
  nx := fun ε => ∀ σ H O, Abs g O H σ ε → Dn.nx σ H
  rt := fun d ε => ∀ v H σ O, Abs g O H σ ε → RetOk g O H d v → Dn.rt v H
  bk := fun ε => ∀ σ H O, Abs g O H σ ε → Dn.bk σ H
  ct := fun ε => ∀ σ H O, Abs g O H σ ε → Dn.ct σ H
def rdS (g : Gx) (w : WS) : TS := fun Dn σ H => ∃ O ε, Abs g O H σ ε ∧ w (ends g Dn) ε
structure DS (X : CxD) (κ : List Kd) (fr : Bool) (st : Stmt) (w : WS) : Prop where
  ps : ∀ g : GX X, g.κ = κ → g.fr = fr → PS X st (rdS g w)
  mono : MonoS w
structure DSs (X : CxD) (κ : List Kd) (fr : Bool) (st : List Stmt) (w : WS) : Prop where
  ps : ∀ g : GX X, g.κ = κ → g.fr = fr → PSs X st (rdS g w)
  mono : MonoS w
section
variable {g : Gx} {O O' : OS} {H H' : Hp} {σ : L2.St} {ε ε' : En}
theorem get_set_ne {α : Type} {l : List α} {i j : Nat} {x : α} (h : i ≠ j) : (l.set i x)[j]? = l[j]? := List.getElem?_set_ne h
theorem Abs.lt (A : Abs g O H σ ε) {i : Nat} {k : Kd} (hk : g.κ[i]? = some k) : i < σ.length ∧ i < ε.length := by
  have h : i < g.κ.length := (List.getElem?_eq_some_iff.mp hk).1
  exact ⟨by rw [← A.lenK]; exact h, by rw [A.len, ← A.lenK]; exact h⟩
/-- a slot of kind val is stored -/
theorem Abs.set (A : Abs g O H σ ε) {i : Nat} (hk : g.κ[i]? = some .val) {d : D} {v : V} (r : Rp H O d v) : Abs g O H (σ.set i (some v)) (ε.set i (some d)) := by
  obtain ⟨l1, l2⟩ := A.lt hk
  have ne : ∀ j, mu g.κ j → i ≠ j := fun j hj e => by
    subst e
    rcases hj with h | h <;> (rw [hk] at h; cases h)
  have s' : ∀ j, mu g.κ j → (σ.set i (some v))[j]? = σ[j]? := fun j hj => get_set_ne (ne j hj)
  exact { A with
    slot := fun j d' e => by
      by_cases h : i = j
      · subst h
        rw [List.getElem?_set_self l2] at e
        cases e
        exact ⟨v, .val, by rw [List.getElem?_set_self l1], hk, r⟩
      · rw [get_set_ne h] at e ⊢
        exact A.slot j d' e
    ownO := fun a z => A.ownO a (z.imp_left fun ⟨j, hj, e⟩ => ⟨j, hj, by rw [← s' j hj]; exact e⟩)
    apm := fun j a hj e => A.apm j a hj (by rw [← s' j hj]; exact e)
    apart := fun j k a hj hk' e e' => A.apart j k a hj hk' (by rw [← s' j hj]; exact e) (by rw [← s' k hk']; exact e')
    new := fun j a hj e => A.new j a hj (by rw [← s' j (.inl hj)]; exact e)
    brwA := fun j b hj e => A.brwA j b hj (by rw [get_set_ne (fun z => by subst z; rw [hk] at hj; cases hj)] at e; exact e)
    ioS := fun j a h => by
      rw [get_set_ne (fun e => by subst e; rcases A.ioK _ a h with z | z <;> (rw [z] at hk; cases hk))]
      exact A.ioS j a h
    len := by rw [List.length_set, List.length_set]; exact A.len
    lenK := by rw [List.length_set]; exact A.lenK
    fz := fun σ0 e j hj => by
      rw [get_set_ne (fun z => by subst z; rw [hk] at hj; cases hj)]
      exact A.fz σ0 e j hj }
/-- a slot of kind own is stored: a new thing -/
theorem Abs.setOwn (A : Abs g O H σ ε) {i : Nat} (hk : g.κ[i]? = some .own) {d : D} {p : Addr} (hp : O p) (n0 : g.H0 p = none) (no : ¬ OwnAt O g.κ σ p) (r : Ow H O d (.ref p)) : Abs g O H (σ.set i (some (.ref p))) (ε.set i (some d)) := by
  obtain ⟨l1, l2⟩ := A.lt hk
  have gt : ∀ {j : Nat} {a : Addr}, (σ.set i (some (.ref p)))[j]? = some (some (.ref a)) → (j = i ∧ a = p) ∨ (i ≠ j ∧ σ[j]? = some (some (.ref a))) := fun {j a} e => by
    by_cases h : i = j
    · subst h
      rw [List.getElem?_set_self l1] at e
      cases e
      exact .inl ⟨rfl, rfl⟩
    · rw [get_set_ne h] at e
      exact .inr ⟨h, e⟩
  exact { A with
    slot := fun j d' e => by
      by_cases h : i = j
      · subst h
        rw [List.getElem?_set_self l2] at e
        cases e
        exact ⟨.ref p, .own, by rw [List.getElem?_set_self l1], hk, r⟩
      · rw [get_set_ne h] at e ⊢
        exact A.slot j d' e
    ownO := fun a z => by
      rcases z with ⟨j, hj, e⟩ | z
      · rcases gt e with ⟨_, rfl⟩ | ⟨_, e⟩
        · exact hp
        · exact A.ownO a (.inl ⟨j, hj, e⟩)
      · exact A.ownO a (.inr z)
    apm := fun j a hj e => by
      rcases gt e with ⟨_, rfl⟩ | ⟨_, e⟩
      · exact fun z => no (.inr z)
      · exact A.apm j a hj e
    apart := fun j k a hj hk' e e' => by
      rcases gt e with ⟨h1, h2⟩ | ⟨h, e⟩
      · rcases gt e' with ⟨h3, _⟩ | ⟨_, e'⟩
        · rw [h1, h3]
        · exact (no (.inl ⟨k, hk', by rw [← h2]; exact e'⟩)).elim
      · rcases gt e' with ⟨h1, h2⟩ | ⟨_, e'⟩
        · exact (no (.inl ⟨j, hj, by rw [← h2]; exact e⟩)).elim
        · exact A.apart j k a hj hk' e e'
    brwA := fun j b hj e => A.brwA j b hj (by rw [get_set_ne (fun z => by subst z; rw [hk] at hj; cases hj)] at e; exact e)
    new := fun j a hj e => by
      rcases gt e with ⟨_, rfl⟩ | ⟨_, e⟩
      · exact n0
      · exact A.new j a hj e
    ioS := fun j a h => by
      rw [get_set_ne (fun e => by subst e; rcases A.ioK _ a h with z | z <;> (rw [z] at hk; cases hk))]
      exact A.ioS j a h
    len := by rw [List.length_set, List.length_set]; exact A.len
    lenK := by rw [List.length_set]; exact A.lenK
    fz := fun σ0 e j hj => by
      rw [get_set_ne (fun z => by subst z; rw [hk] at hj; cases hj)]
      exact A.fz σ0 e j hj }
/-- an own thing is changed in place: d is what it holds now -/
theorem Abs.mut (A : Abs g O H σ ε) {i : Nat} (hk : mu g.κ i) {a : Addr} (e : σ[i]? = some (some (.ref a))) (k : ∀ b o, b ≠ a → H b = some o → H' b = some o) (hs : H' a ≠ none) {d : D} (r : Ow H' O d (.ref a)) : Abs g O H' σ (ε.set i (some d)) := by
  have hO : O a := A.ownO a (.inl ⟨i, hk, e⟩)
  have so : ∀ b, H b ≠ none → H' b ≠ none := fun b h => by
    by_cases q : b = a
    · rw [q]; exact hs
    · cases e : H b with
      | none => exact (h e).elim
      | some o => rw [k b o q e]; exact fun z => nomatch z
  have kO : ∀ b o, H b = some o → ¬ O b → H' b = some o := fun b o e n => k b o (fun z => n (z ▸ hO)) e
  have l2 : i < ε.length := by
    rw [A.len]
    exact (List.getElem?_eq_some_iff.mp e).1
  exact { A with
    slot := fun j d' ej => by
      by_cases h : i = j
      · subst h
        rw [List.getElem?_set_self l2] at ej
        cases ej
        rcases hk with hk | hk
        · exact ⟨.ref a, .own, e, hk, r⟩
        · exact ⟨.ref a, .io, e, hk, r⟩
      · rw [get_set_ne h] at ej
        obtain ⟨v, kd, e1, e2, s⟩ := A.slot j d' ej
        refine ⟨v, kd, e1, e2, ?_⟩
        have oth : mu g.κ j → ∀ b o, v = .ref b → H b = some o → H' b = some o := fun hj b o ev eb => k b o (fun z => h (A.apart i j a hk hj e (by rw [e1, ev, z]))) eb
        cases kd with
        | val => exact Rp.ext kO (fun _ z => .inl z) s
        | own => exact Ow.ext kO (fun _ z => .inl z) (oth (.inl e2)) (fun _ z => z) s
        | io => exact Ow.ext kO (fun _ z => .inl z) (oth (.inr e2)) (fun _ z => z) s
        | st => exact OwS.ext kO (fun _ z => .inl z) (fun b o m eb => k b o (fun z => A.apm i a hk e (z ▸ m)) eb) (fun _ z => z) s
        | sl => exact OwS.ext kO (fun _ z => .inl z) (fun b o m eb => k b o (fun z => A.apm i a hk e (z ▸ m)) eb) (fun _ z => z) s
        | brw =>
          have nb : ∀ b, v = .ref b → b ≠ a := fun b ev z => by
            obtain ⟨n0, nio, _⟩ := A.brwA j b e2 (by rw [e1, ev])
            subst z
            rcases hk with hk | hk
            · exact n0 (A.new i b hk e)
            · obtain ⟨c, hc⟩ := A.ioA i hk
              have := A.ioS i c hc
              rw [e] at this
              cases this
              exact nio i hc
          match d', s with
          | .none, h => exact h
          | .bool _, h => exact h
          | .int _, h => exact h
          | .str _, h => exact h
          | .list _, ⟨b, xs, ev, r, q⟩ => exact ⟨b, xs, ev, k _ _ (nb b ev) r, RpL.ext kO (fun _ z => .inl z) q⟩
          | .tuple _, ⟨b, xs, ev, r, q⟩ => exact ⟨b, xs, ev, rd_keep (fun o z => k _ o (nb b ev) z) r, RpL.ext kO (fun _ z => .inl z) q⟩
          | .dict _, ⟨b, u, ev, r, q⟩ => exact ⟨b, u, ev, k _ _ (nb b ev) r, RpE.ext kO (fun _ z => .inl z) q⟩
    has := fun b z => so b (A.has b z)
    fr := fun b o eb n n2 => by
      refine k b o (fun z => ?_) (A.fr b o eb n n2)
      subst z
      rcases hk with hk | hk
      · rw [A.new i b hk e] at eb
        cases eb
      · obtain ⟨c, hc⟩ := A.ioA i hk
        have := A.ioS i c hc
        rw [e] at this
        cases this
        exact n i hc
    hold := fun p hp => Rp.ext kO (fun _ z => .inl z) (A.hold p hp)
    len := by rw [List.length_set]; exact A.len }
end
section
variable {X : CxD} {κ : List Kd} {fr : Bool} {st : Stmt} {rest : List Stmt} {pos : Pos} {e : Expr}
def sNil : WS := fun E ε => E.nx ε
def sSeq (w u : WS) : WS := fun E ε => w { E with nx := u E } ε
theorem MonoS.seq {w u : WS} (h : MonoS w) (k : MonoS u) : MonoS (sSeq w u) := fun E E' ε l q => h _ _ ε (l.le_nx fun ε' q => k _ _ _ l q) q
theorem dss_nil : DSs X κ fr [] sNil := ⟨fun g _ _ => pss_nil.imp fun D σ H ⟨O, ε, A, q⟩ => q σ H O A, fun E E' ε l q => l.nx _ q⟩
theorem seq_imp {g : Gx} {w u : WS} (h : MonoS w) (k : MonoS u) {D : Ends} {σ : L2.St} {H : Hp} (q : rdS g (sSeq w u) D σ H) : tSeq (rdS g w) (rdS g u) D σ H := by
  obtain ⟨O, ε, A, q⟩ := q
  exact ⟨O, ε, A, h { ends g D with nx := u (ends g D) } _ ε ⟨fun ε' q σ' H' O' A' => ⟨O', ε', A', q⟩, fun _ _ z => z, fun _ z => z, fun _ z => z⟩ q⟩
theorem dss_cons {w u : WS} (h : DS X κ fr st w) (k : DSs X κ fr rest u) : DSs X κ fr (st :: rest) (sSeq w u) :=
  ⟨fun g hg hf => (pss_cons (h.ps g hg hf) (k.ps g hg hf)).imp fun D σ H q => seq_imp h.mono k.mono q, h.mono.seq k.mono⟩
theorem dss_one {w : WS} (h : DS X κ fr st w) : DSs X κ fr [st] w := ⟨fun g hg hf => pss_one (h.ps g hg hf), h.mono⟩
def sSet (i : Nat) (w : WE) : WS := fun E ε => w ε fun d ε' => E.nx (ε'.set i (some d))
theorem sSet_mono {i : Nat} {w : WE} (m : Mono w) : MonoS (sSet i w) := fun E E' ε l q => m _ _ _ (fun d ε' q => l.nx _ q) q
theorem set_imp {g : Gx} {i : Nat} {w : WE} (m : Mono w) (hk : g.κ[i]? = some .val) {D : Ends} {σ : L2.St} {H : Hp} (q : rdS g (sSet i w) D σ H) : tAsg (rdE g w) (gName i) D σ H := by
  obtain ⟨O, ε, A, q⟩ := q
  exact ⟨O, ε, A, m _ _ _ (fun d ε' q v H' O' A' x r => q _ H' O' (A'.set hk r)) q⟩
theorem setF_imp {g : Gx} {i : Nat} {w : WE} (m : Mono w) (hk : g.κ[i]? = some .own) {D : Ends} {σ : L2.St} {H : Hp} (q : rdS g (sSet i w) D σ H) : tAsg (rdF g w) (gName i) D σ H := by
  obtain ⟨O, ε, A, q⟩ := q
  exact ⟨O, ε, A, m _ _ _ (fun d ε' q p H' O' A' x hp np ow => q _ H' O' (A'.setOwn hk hp.1 (A.n0 np) (A.unownN np hp) ow)) q⟩
theorem ds_set {i : Nat} {x : Str} {w : WE} {pos' : Pos} (hN : X.N.Nodup) (h : DE X κ e w) (hk : κ[i]? = some .val := by rfl) (hi : X.N[i]? = some x := by rfl) (hx : Loc X.env.scope x := by first | exact Or.inl rfl | exact Or.inr rfl) (hs : swapsWith e (some (.Name x pos')) pos.line X.env = pure false := by rfl) (hf : X.fn x = true ∨ X.env.scope.names.lookup x = some .local := by first | exact .inl rfl | exact .inr rfl) :
    DS X κ fr (.Assign [.Name x pos'] e pos) (sSet i w) :=
  ⟨fun g hg _ => (ps_set hN hi hx (h.pe g hg) hs hf).imp fun D σ H q => set_imp h.mono (by rw [hg]; exact hk) q, sSet_mono h.mono⟩
theorem ds_setF {i : Nat} {x : Str} {w : WE} {pos' : Pos} (hN : X.N.Nodup) (h : DF X κ e w) (hk : κ[i]? = some .own := by rfl) (hi : X.N[i]? = some x := by rfl) (hx : Loc X.env.scope x := by first | exact Or.inl rfl | exact Or.inr rfl) (hs : swapsWith e (some (.Name x pos')) pos.line X.env = pure false := by rfl) (hf : X.fn x = true ∨ X.env.scope.names.lookup x = some .local := by first | exact .inl rfl | exact .inr rfl) :
    DS X κ fr (.Assign [.Name x pos'] e pos) (sSet i w) :=
  ⟨fun g hg _ => (ps_set hN hi hx (h.pe g hg) hs hf).imp fun D σ H q => setF_imp h.mono (by rw [hg]; exact hk) q, sSet_mono h.mono⟩
def sDo (w : WE) : WS := fun E ε => w ε fun _ ε' => E.nx ε'
theorem ds_expr {w : WE} (h : DE X κ e w) (hs : swapsWith e none pos.line X.env = pure false := by rfl) : DS X κ fr (.Expr e pos) (sDo w) :=
  ⟨fun g hg _ => (ps_expr (h.pe g hg) hs).imp fun D σ H ⟨O, ε, A, q⟩ => ⟨O, ε, A, h.mono _ _ _ (fun d ε' q v H' O' A' x r => q σ H' O' A') q⟩, fun E E' ε l q => h.mono _ _ _ (fun d ε' q => l.nx _ q) q⟩
def sRet (w : WE) : WS := fun E ε => w ε fun d ε' => E.rt d ε'
theorem sRet_mono {w : WE} (m : Mono w) : MonoS (sRet w) := fun E E' ε l q => m _ _ _ (fun d ε' q => l.rt _ _ q) q
theorem ds_ret {w : WE} (h : DE X κ e w) : DS X κ false (.Return (some e) pos) (sRet w) :=
  ⟨fun g hg hf => (ps_ret (h.pe g hg)).imp fun D σ H ⟨O, ε, A, q⟩ => ⟨O, ε, A, h.mono _ _ _ (fun d ε' q v H' O' A' x r => q v H' σ O' A' (by unfold RetOk; rw [hf, if_neg Bool.false_ne_true]; exact Rp.anti A'.retSub r)) q⟩, sRet_mono h.mono⟩
theorem ow_add {H : Hp} {O O0 : OS} {d : D} {p : Addr} (hp : O p) (hs : ∀ a, O0 a → O a) (r : Ow H O d (.ref p)) : Ow H (OS.add O0 p) d (.ref p) := by
  have w : ∀ a, OS.add O0 p a → O a := fun a z => (OS.add_or z).elim (fun e => e ▸ hp) (hs a)
  match d, r with
  | .list _, ⟨a, xs, e, n, r, q⟩ => exact ⟨a, xs, e, by cases e; exact .inl rfl, r, RpL.anti w q⟩
  | .dict _, ⟨a, u, e, n, r, q⟩ => exact ⟨a, u, e, by cases e; exact .inl rfl, r, RpE.anti w q⟩
/-- an own list or dict is handed back: as a clean value, as a new thing -/
def sRetO (i : Nat) : WS := fun E ε => ∃ d, ε[i]? = some (some d) ∧ E.rt d ε
theorem own_ret {g : Gx} {O : OS} {H : Hp} {σ : L2.St} {ε : En} (A : Abs g O H σ ε) {i : Nat} {d : D} (hk : g.κ[i]? = some .own) (e : ε[i]? = some (some d)) : ∃ p, σ[i]? = some (some (.ref p)) ∧ O.sl p ∧ g.H0 p = none ∧ Ow H O d (.ref p) := by
  obtain ⟨v, k, e1, e2, s⟩ := A.slot i d e
  rw [hk] at e2
  cases e2
  have s : Ow H O d v := s
  obtain ⟨p, rfl, hp⟩ : ∃ p, v = .ref p ∧ O p := by
    match d, s with
    | .list _, ⟨a, xs, e, n, _⟩ => exact ⟨a, e, n⟩
    | .dict _, ⟨a, _, e, n, _⟩ => exact ⟨a, e, n⟩
  exact ⟨p, e1, ⟨hp, A.apm i p (.inl hk) e1⟩, A.new i p hk e1, s⟩
theorem ds_retO {i : Nat} {x : Str} {npos : Pos} (hk : κ[i]? = some .own := by rfl) (hN : X.N[i]? = some x := by rfl) (hv : Vis X.env.scope x := by first | exact Or.inl rfl | exact Or.inr (Or.inl rfl) | exact Or.inr (Or.inr rfl)) (hd : (x == ("__debug__" : Str)) = false := by decide)
    (hcd : (x == ("__classdict__" : Str)) = false := by decide) : DS X κ fr (.Return (some (.Name x npos)) pos) (sRetO i) :=
  ⟨fun g hg hf => (ps_ret (pe_var hN hv hd hcd)).imp fun D σ H ⟨O, ε, A, d, e, q⟩ => by
    obtain ⟨p, e1, hp, n0, ow⟩ := own_ret A (by rw [hg]; exact hk) e
    refine ⟨.ref p, e1, q (.ref p) H σ O A ?_⟩
    unfold RetOk
    rw [hf]
    have ow' := ow_add hp.1 A.retSub ow
    cases fr with
    | true => exact ⟨p, rfl, hp, n0, ow'⟩
    | false =>
      refine Ow.toRp (fun _ z => OS.add_of z) ow' fun a e z => ?_
      cases e
      exact z.elim (fun z => A.has0 p z n0) hp.2, fun E E' ε l ⟨d, e, q⟩ => ⟨d, e, l.rt _ _ q⟩⟩
def sIf (t : WT) (w u : WS) : WS := fun E ε => t ε fun b ε' => if b = true then w E ε' else u E ε'
theorem ds_if {c : Expr} {a b : List Stmt} {t : WT} {w u : WS} (ht : DT X κ c t) (h : DSs X κ fr a w) (k : DSs X κ fr b u) : DS X κ fr (.If c a b pos) (sIf t w u) :=
  ⟨fun g hg hf => (ps_if (ht.pt g hg) (h.ps g hg hf) (k.ps g hg hf)).imp fun D σ H ⟨O, ε, A, q⟩ => ⟨O, ε, A, ht.mono _ _ _ (fun b ε' q H' O' A' x => by
    cases b with
    | true => exact ⟨O', ε', A', q⟩
    | false => exact ⟨O', ε', A', q⟩) q⟩, fun E E' ε l q => ht.mono _ _ _ (fun b ε' q => by
      cases b with
      | true => exact h.mono _ _ _ l q
      | false => exact k.mono _ _ _ l q) q⟩
def whGo (t : WT) (w : WS) (E : WEnds) : Nat → En → Prop
  | 0, _ => False
  | n + 1, ε => t ε fun b ε' => if b = true then w { nx := whGo t w E n, rt := E.rt, bk := E.nx, ct := whGo t w E n } ε' else E.nx ε'
def sWhile (t : WT) (w : WS) : WS := fun E ε => ∃ n, whGo t w E n ε
theorem whGo_mono {t : WT} {w : WS} (mt : MonoT t) (m : MonoS w) {E E' : WEnds} (l : E.le E') : ∀ (n : Nat) (ε : En), whGo t w E n ε → whGo t w E' n ε
  | 0, _, h => h
  | n + 1, ε, h => mt _ _ _ (fun b ε' q => by
    cases b with
    | true => exact m { nx := whGo t w E n, rt := E.rt, bk := E.nx, ct := whGo t w E n } _ _ ⟨whGo_mono mt m l n, l.rt, l.nx, whGo_mono mt m l n⟩ q
    | false => exact l.nx _ q) h
theorem ds_while {c : Expr} {body : List Stmt} {t : WT} {w : WS} (hp : PassesOwn (model X.prog X.w) X.A X.env X.xe) (ht : DT X κ c t) (h : DSs X κ fr body w) : DS X κ fr (.While c body [] pos) (sWhile t w) :=
  ⟨fun g hg hf => (ps_while hp (ht.pt g hg) (h.ps g hg hf)).imp fun D σ H ⟨O, ε, A, n, q⟩ => by
    refine ⟨fun m σ H => ∃ O ε, Abs g O H σ ε ∧ whGo t w (ends g D) m ε, ⟨n, O, ε, A, q⟩, ?_⟩
    rintro m σ H ⟨O, ε, A, q⟩
    cases m with
    | zero => exact q.elim
    | succ m =>
      refine ⟨O, ε, A, ht.mono _ _ _ (fun b ε' q H' O' A' x => ?_) q⟩
      cases b with
      | false => exact q σ H' O' A'
      | true =>
        have nxt : ∀ ε2, whGo t w (ends g D) m ε2 → ∀ σ2 H2 O2, Abs g O2 H2 σ2 ε2 → ∃ O ε, Abs g O H2 σ2 ε ∧ whGo t w (ends g D) m ε := fun ε2 z σ2 H2 O2 A2 => ⟨O2, ε2, A2, z⟩
        exact ⟨fun σ' H' => ∃ O ε, Abs g O H' σ' ε ∧ whGo t w (ends g D) m ε, fun σ' H' z => ⟨m, Nat.lt_succ_self m, z⟩, O', ε', A', h.mono { nx := whGo t w (ends g D) m, rt := (ends g D).rt, bk := (ends g D).nx, ct := whGo t w (ends g D) m } _ _ ⟨nxt, fun _ _ z => z, fun _ z => z, nxt⟩ q⟩,
  fun E E' ε l ⟨n, q⟩ => ⟨n, whGo_mono ht.mono h.mono l n ε q⟩⟩
end
end DL
namespace DL
open PySem PySem.Spec L2
inductive Tg where
  | nm (i : Nat)
  | tup (ts : List Tg)
mutual
def bindD : Tg → D → En → Option En
  | .nm i, d, ε => some (ε.set i (some d))
  | .tup ts, d, ε => match d with
    | .tuple ds => bindL ts ds ε
    | _ => none
def bindL : List Tg → List D → En → Option En
  | [], ds, ε => match ds with
    | [] => some ε
    | _ => none
  | t :: ts, ds, ε => match ds with
    | [] => none
    | d :: r => (bindD t d ε).bind fun ε' => bindL ts r ε'
end
mutual
def slots : Tg → List Nat
  | .nm i => [i]
  | .tup ts => slotsL ts
def slotsL : List Tg → List Nat
  | [] => []
  | t :: ts => slots t ++ slotsL ts
end
def rdG (g : Gx) (t : Tg) : TG := fun v σ H Q => ∃ O ε d ε', Abs g O H σ ε ∧ Rp H O d v ∧ bindD t d ε = some ε' ∧ ∀ σ', Abs g O H σ' ε' → (∀ j, j ∉ slots t → σ'[j]? = σ[j]?) → σ'.length = σ.length → Q σ' H
def rdGs (g : Gx) (ts : List Tg) : TGs := fun vs σ H Q => ∃ O ε ds ε', Abs g O H σ ε ∧ RpL H O ds vs ∧ bindL ts ds ε = some ε' ∧ ∀ σ', Abs g O H σ' ε' → (∀ j, j ∉ slotsL ts → σ'[j]? = σ[j]?) → σ'.length = σ.length → Q σ' H
structure DG (X : CxD) (κ : List Kd) (tg : Expr) (t : Tg) : Prop where
  pg : ∀ g : GX X, g.κ = κ → PG X tg (rdG g t)
structure DGs (X : CxD) (κ : List Kd) (tg : List Expr) (t : List Tg) : Prop where
  pg : ∀ g : GX X, g.κ = κ → PGs X tg (rdGs g t)
theorem _root_.L2.PG.imp {X : CxD} {e : Expr} {t t' : TG} (h : PG X e t) (k : ∀ v σ H Q, t' v σ H Q → t v σ H Q) : PG X e t' := ⟨fun pins s σ H v u Q I r q => h.run pins s σ H v u Q I r (k _ _ _ _ q)⟩
theorem _root_.L2.PGs.imp {X : CxD} {e : List Expr} {t t' : TGs} (h : PGs X e t) (k : ∀ v σ H Q, t' v σ H Q → t v σ H Q) : PGs X e t' := ⟨fun pins s σ H v u Q I r q => h.run pins s σ H v u Q I r (k _ _ _ _ q)⟩
section
variable {X : CxD} {κ : List Kd} {fr : Bool} {pos : Pos} {e : Expr} {es : List Expr}
theorem dg_nm (i : Nat) {x : Str} (hN : X.N.Nodup) (hk : κ[i]? = some .val := by rfl) (hi : X.N[i]? = some x := by rfl) (hx : Loc X.env.scope x := by first | exact Or.inl rfl | exact Or.inr rfl) (hf : X.fn x = true ∨ X.env.scope.names.lookup x = some .local := by first | exact .inl rfl | exact .inr rfl) :
    DG X κ (.Name x pos) (.nm i) :=
  ⟨fun g hg => (pg_name hN hi hx hf).imp fun v σ H Q ⟨O, ε, d, ε', A, r, b, q⟩ => by
    have e : some (ε.set i (some d)) = some ε' := b
    cases e
    refine q _ (A.set (by rw [hg]; exact hk) r) (fun j hj => ?_) (List.length_set ..)
    exact get_set_ne fun e => hj (by rw [e]; exact List.mem_singleton_self _)⟩
theorem dgs_nil : DGs X κ [] [] := ⟨fun g _ => pgs_nil.imp fun v σ H Q ⟨O, ε, ds, ε', A, r, b, q⟩ => by
  cases ds with
  | nil =>
    have e : v = [] := r
    have e2 : some ε = some ε' := b
    cases e2
    exact ⟨e, q σ A (fun _ _ => rfl) rfl⟩
  | cons d ds => cases (show none = some ε' from b)⟩
theorem dgs_cons {t : Tg} {ts : List Tg} (h : DG X κ e t) (k : DGs X κ es ts) (hs : (assignEach (e :: es) X.env).map (·.2) = assign e X.env :: (assignEach es X.env).map (·.2) := by rfl) : DGs X κ (e :: es) (t :: ts) :=
  ⟨fun g hg => (pgs_cons (h.pg g hg) (k.pg g hg) hs).imp fun vs σ H Q ⟨O, ε, ds, ε', A, r, b, q⟩ => by
    cases ds with
    | nil => cases (show none = some ε' from b)
    | cons d ds =>
      obtain ⟨v, vr, e1, r1, r2⟩ := r
      have b' : (bindD t d ε).bind (fun ε' => bindL ts ds ε') = some ε' := b
      obtain ⟨ε1, b1, b2⟩ := Option.bind_eq_some_iff.mp b'
      exact ⟨v, vr, e1, O, ε, d, ε1, A, r1, b1, fun σ1 A1 h1 l1 => ⟨O, ε1, ds, ε', A1, r2, b2, fun σ2 A2 h2 l2 => q σ2 A2 (fun j hj => by
        have hj' : j ∉ slots t ∧ j ∉ slotsL ts := by
          rw [← not_or]
          exact fun z => hj (List.mem_append.mpr z)
        rw [h2 j hj'.2, h1 j hj'.1]) (l2.trans l1)⟩⟩⟩
theorem dg_tup {k : Nat} {ts : List Tg} (hc : X.calm = true) (h : DGs X κ es ts) (hn : (assignEach es X.env).length = ts.length := by rfl) (hst : (assignEach es X.env).findIdx? (·.1) = none := by rfl) : DG X κ (.Tuple es k pos) (.tup ts) :=
  ⟨fun g hg => (pg_tup hc (h.pg g hg) hn hst).imp fun v σ H Q ⟨O, ε, d, ε', A, r, b, q⟩ => by
    have len : ∀ {ts : List Tg} {ds : List D} {ε ε' : En}, bindL ts ds ε = some ε' → ds.length = ts.length := by
      intro ts
      induction ts with
      | nil =>
        intro ds ε ε' h
        cases ds with
        | nil => rfl
        | cons d ds => cases (show none = some ε' from h)
      | cons t ts ih =>
        intro ds ε ε' h
        cases ds with
        | nil => cases (show none = some ε' from h)
        | cons d ds =>
          obtain ⟨ε1, _, b2⟩ := Option.bind_eq_some_iff.mp (show (bindD t d ε).bind (fun ε' => bindL ts ds ε') = some ε' from h)
          rw [List.length_cons, List.length_cons, ih b2]
    cases d with
    | tuple ds =>
      obtain ⟨a, xs, e, n, r1, r2⟩ := r
      have b' : bindL ts ds ε = some ε' := b
      exact ⟨a, xs, e, sqt r1, by rw [r2.length, len b'], O, ε, ds, ε', A, r2, b', q⟩
    | none => cases (show none = some ε' from b)
    | bool _ => cases (show none = some ε' from b)
    | int _ => cases (show none = some ε' from b)
    | str _ => cases (show none = some ε' from b)
    | list _ => cases (show none = some ε' from b)
    | dict _ => cases (show none = some ε' from b)⟩
/-- a, b = e -/
def sUnp (t : Tg) (w : WE) : WS := fun E ε => w ε fun d ε' => ∃ ε2, bindD t d ε' = some ε2 ∧ E.nx ε2
theorem ds_unp {tg : Expr} {t : Tg} {w : WE} (h : DE X κ e w) (hg : DG X κ tg t) (hs : swapsWithSole [tg] e pos.line X.env = pure false := by rfl) (hw : swappedStores [tg] e X.env = pure none := by rfl)
    (h1 : (assignEach [tg] X.env).map (·.2) = [assign tg X.env] := by rfl) : DS X κ fr (.Assign [tg] e pos) (sUnp t w) :=
  ⟨fun g hg' _ => (ps_asg (h.pe g hg') (hg.pg g hg') hs hw h1).imp fun D σ H ⟨O, ε, A, q⟩ => ⟨O, ε, A, h.mono _ _ _ (fun d ε' ⟨ε2, b, q⟩ v H' O' A' x r => ⟨O', ε', d, ε2, A', r, b, fun σ' A2 _ _ => q σ' H' O' A2⟩) q⟩,
    fun E E' ε l q => h.mono _ _ _ (fun d ε' ⟨ε2, b, q⟩ => ⟨ε2, b, l.nx _ q⟩) q⟩
/-- values that are to be stored: clean ones, new ones (their addresses fulfil F, none twice) -/
def PL (κ : List Kd) (H0 : Hp) (H : Hp) (O : OS) : (Addr → Prop) → List Nat → List D → List V → Prop
  | _, [], ds, vs => ds = [] ∧ vs = []
  | F, i :: is, ds, vs => ∃ d r v vr, ds = d :: r ∧ vs = v :: vr ∧ ((κ[i]? = some .val ∧ Rp H O d v ∧ PL κ H0 H O F is r vr) ∨
      ∃ p, κ[i]? = some .own ∧ v = .ref p ∧ O.sl p ∧ H0 p = none ∧ F p ∧ Ow H O d v ∧ PL κ H0 H O (fun q => F q ∧ q ≠ p) is r vr)
theorem PL.mono {κ : List Kd} {H0 H : Hp} {O : OS} : ∀ {is : List Nat} {F G : Addr → Prop} {ds : List D} {vs : List V}, (∀ p, F p → G p) → PL κ H0 H O F is ds vs → PL κ H0 H O G is ds vs
  | [], _, _, _, _, _, h => h
  | i :: is, F, G, _, _, k, ⟨d, r, v, vr, e1, e2, h⟩ => ⟨d, r, v, vr, e1, e2, h.imp (fun ⟨a, b, c⟩ => ⟨a, b, PL.mono k c⟩) fun ⟨p, a, b, c, n, f, w, z⟩ => ⟨p, a, b, c, n, k p f, w, PL.mono (fun q hq => ⟨k q hq.1, hq.2⟩) z⟩⟩
def setL {α : Type} : List Nat → List α → List (Option α) → List (Option α)
  | i :: is, d :: ds, ε => setL is ds (ε.set i (some d))
  | _, _, ε => ε
theorem store_all {g : Gx} {O : OS} {H : Hp} : ∀ {is : List Nat} {F : Addr → Prop} {ds : List D} {vs : List V} {σ : L2.St} {ε : En}, Abs g O H σ ε → (∀ p, F p → ¬ SlotAt g.κ σ p) → PL g.κ g.H0 H O F is ds vs → Abs g O H (setL is vs σ) (setL is ds ε)
  | [], _, _, _, _, _, A, _, ⟨e1, e2⟩ => by
    subst e1 e2
    exact A
  | i :: is, F, _, _, σ, ε, A, hF, ⟨d, r, v, vr, e1, e2, .inl ⟨hk, hr, z⟩⟩ => by
    subst e1 e2
    refine store_all (is := is) (A.set hk hr) (fun p hp ⟨j, hj, e⟩ => hF p hp ⟨j, hj, ?_⟩) z
    rw [get_set_ne (fun q => by subst q; rcases hj with h | h <;> (rw [hk] at h; cases h))] at e
    exact e
  | i :: is, F, _, _, σ, ε, A, hF, ⟨d, r, v, vr, e1, e2, .inr ⟨p, hk, ev, hp, n0, f, w, z⟩⟩ => by
    subst e1 e2 ev
    refine store_all (is := is) (A.setOwn hk hp.1 n0 (fun z => z.elim (hF p f) hp.2) w) (fun q hq ⟨j, hj, e⟩ => ?_) z
    by_cases hij : i = j
    · subst hij
      rw [List.getElem?_set_self (A.lt hk).1] at e
      cases e
      exact hq.2 rfl
    · rw [get_set_ne hij] at e
      exact hF q hq.1 ⟨j, hj, e⟩
def rdM (g : Gx) (is : List Nat) (ws : List WE) : TA := fun σ H Q => ∃ O ε, Abs g O H σ ε ∧ cEv ws ε fun ds ε' => ∀ vs H' O', Abs g O' H' σ ε' → Ext g.κ σ O H O' H' → PL g.κ g.H0 H' O' (fun p => H p = none) is ds vs → Q vs H'
structure DM (X : CxD) (κ : List Kd) (is : List Nat) (es : List Expr) (ws : List WE) : Prop where
  pa : ∀ g : GX X, g.κ = κ → PA X es (rdM g is ws)
  mono : MonoC ws
theorem PL.ext {g : Gx} {O O' : OS} {H H' : Hp} {σ : L2.St} {ε : En} (A : Abs g O H σ ε) (x : Ext g.κ σ O H O' H') : ∀ {is : List Nat} {F : Addr → Prop} {ds : List D} {vs : List V}, (∀ p, F p → ¬ SlotAt g.κ σ p) → PL g.κ g.H0 H O F is ds vs → PL g.κ g.H0 H' O' F is ds vs
  | [], _, _, _, _, h => h
  | i :: is, F, _, _, k, ⟨d, r, v, vr, e1, e2, h⟩ => ⟨d, r, v, vr, e1, e2, h.imp (fun ⟨a, b, c⟩ => ⟨a, A.rp x b, PL.ext A x k c⟩) fun ⟨p, a, b, c, n, f, w, z⟩ =>
      ⟨p, a, b, x.sl c (A.has p c.1), n, f, Ow.ext (fun a o e n => x.keep a o e (A.unown n)) x.own (fun a o e1 e2 => x.keep a o e2 (by rw [b] at e1; cases e1; exact fun z => z.elim (k p f) c.2)) x.mono w, PL.ext A x (fun q hq => k q hq.1) z⟩⟩
theorem dm_nil : DM X κ [] [] [] := ⟨fun g _ => pa_nil.imp fun σ H Q ⟨O, ε, A, h⟩ => h [] H O A .refl ⟨rfl, rfl⟩, fun _ h => nomatch h⟩
theorem dm_val {i : Nat} {is : List Nat} {w : WE} {ws : List WE} (h : DE X κ e w) (k : DM X κ is es ws) (hk : κ[i]? = some .val := by rfl) (hs : notStar e = true := by rfl) : DM X κ (i :: is) (e :: es) (w :: ws) :=
  ⟨fun g hg => (pa_cons (h.pe g hg) (k.pa g hg) (st_cons hs)).imp fun σ H Q ⟨O, ε, A, q⟩ => ⟨O, ε, A, h.mono _ _ _ (fun d ε1 z v H1 O1 A1 x1 r1 => ⟨O1, ε1, A1, cEv_mono k.mono (fun ds ε2 z vs H2 O2 A2 x2 r2 =>
      z _ H2 O2 A2 (x1.trans x2) ⟨d, ds, v, vs, rfl, rfl, .inl ⟨by rw [hg]; exact hk, A1.rp x2 r1, PL.mono (fun p hp => Classical.byContradiction fun n => x1.some p n hp) r2⟩⟩) z⟩) q⟩,
    fun o ho => (List.mem_cons.mp ho).elim (fun e => e ▸ h.mono) fun ho => k.mono o ho⟩
theorem dm_own {i : Nat} {is : List Nat} {w : WE} {ws : List WE} (h : DF X κ e w) (k : DM X κ is es ws) (hk : κ[i]? = some .own := by rfl) (hs : notStar e = true := by rfl) : DM X κ (i :: is) (e :: es) (w :: ws) :=
  ⟨fun g hg => (pa_cons (h.pe g hg) (k.pa g hg) (st_cons hs)).imp fun σ H Q ⟨O, ε, A, q⟩ => ⟨O, ε, A, h.mono _ _ _ (fun d ε1 z p H1 O1 A1 x1 hp np ow => ⟨O1, ε1, A1, cEv_mono k.mono (fun ds ε2 z vs H2 O2 A2 x2 r2 => by
      have nown : ¬ OwnAt O1 g.κ σ p := A.unownN np hp
      refine z _ H2 O2 A2 (x1.trans x2) ⟨d, ds, _, vs, rfl, rfl, .inr ⟨p, by rw [hg]; exact hk, rfl, x2.sl hp (A1.has p hp.1), A.n0 np, np, ?_, PL.mono (fun q hq => ⟨Classical.byContradiction fun n => x1.some q n hq, fun e => ?_⟩) r2⟩⟩
      · exact Ow.ext (fun a o e n => x2.keep a o e (A1.unown n)) x2.own (fun a o e1 e2 => x2.keep a o e2 (by cases e1; exact nown)) x2.mono ow
      · subst e
        exact A1.has q hp.1 hq) z⟩) q⟩,
    fun o ho => (List.mem_cons.mp ho).elim (fun e => e ▸ h.mono) fun ho => k.mono o ho⟩
theorem PL.length {κ : List Kd} {H0 H : Hp} {O : OS} : ∀ {is : List Nat} {F : Addr → Prop} {ds : List D} {vs : List V}, PL κ H0 H O F is ds vs → vs.length = is.length
  | [], _, _, _, ⟨_, e⟩ => by rw [e]; rfl
  | i :: is, _, _, _, ⟨d, r, v, vr, e1, e2, h⟩ => by
    rw [e2, List.length_cons, List.length_cons]
    rcases h with ⟨_, _, z⟩ | ⟨_, _, _, _, _, _, _, z⟩
    · rw [PL.length z]
    · rw [PL.length z]
def sPar (is : List Nat) (ws : List WE) : WS := fun E ε => cEv ws ε fun ds ε' => E.nx (setL is ds ε')
theorem sPar_mono {is : List Nat} {ws : List WE} (m : MonoC ws) : MonoS (sPar is ws) := fun E E' ε l q => cEv_mono m (fun ds ε' q => l.nx _ q) q
theorem par_imp {g : Gx} {is : List Nat} {ws : List WE} (m : MonoC ws) {D : Ends} {σ : L2.St} {H : Hp} (q : rdS g (sPar is ws) D σ H) : rdM g is ws σ H fun vs H' => vs.length = is.length ∧ D.nx (setL is vs σ) H' ∧ ∀ o p, H' p = none → D.nx (setL is vs σ) (upd H' p o) := by
  obtain ⟨O, ε, A, q⟩ := q
  refine ⟨O, ε, A, cEv_mono m (fun ds ε' q vs H' O' A' x pl => ⟨pl.length, ?_, fun o p np => ?_⟩) q⟩
  · exact q _ H' O' (store_all A' (fun p hp => A.unslot hp) pl)
  · have s := same_upd (o := o) np
    have A2 := A'.same s
    exact q _ _ O' (store_all A2 (fun p hp => A.unslot hp) (PL.ext A' (.same s) (fun p hp => A.unslot hp) pl))
theorem ds_par2 {i j : Nat} {x y : Str} {a b : Expr} {ws : List WE} {px py pt : Pos} {kt k2 pt2} (hc : X.calm = true) (hN : X.N.Nodup) (h : DM X κ [i, j] [a, b] ws)
    (hw : swappedStores [.Tuple [.Name x px, .Name y py] kt pt] (.Tuple [a, b] k2 pt2) X.env = pure (some [x, y]) := by rfl) (hi : X.N[i]? = some x := by rfl) (hj : X.N[j]? = some y := by rfl) (hij : i ≠ j := by decide)
    (hx : X.env.scope.names.lookup x = some .local := by rfl) (hy : X.env.scope.names.lookup y = some .local := by rfl)
    (hs : swapsWithSole [.Tuple [.Name x px, .Name y py] kt pt] (.Tuple [a, b] k2 pt2) pos.line X.env = pure false := by rfl) :
    DS X κ fr (.Assign [.Tuple [.Name x px, .Name y py] kt pt] (.Tuple [a, b] k2 pt2) pos) (sPar [i, j] ws) :=
  ⟨fun g hg _ => (ps_par hc hN hi hj hij hx hy (h.pa g hg) hw hs).imp fun D σ H q => by
    obtain ⟨O, ε, A, q⟩ := par_imp h.mono q
    refine ⟨O, ε, A, cEv_mono h.mono (fun ds ε' q vs H' O' A' x pl => ?_) q⟩
    obtain ⟨hl, q, _⟩ := q vs H' O' A' x pl
    match vs, hl with
    | [v, w], _ => exact ⟨v, w, rfl, q⟩, sPar_mono h.mono⟩
/-- names, stored from the left -/
def gNs : List Nat → TGs := fun is vs σ H Q => vs.length = is.length ∧ Q (setL is vs σ) H
structure NGs (X : CxD) (ts : List Expr) (is : List Nat) : Prop where
  pg : PGs X ts (gNs is)
theorem ngs_nil : NGs X [] [] := ⟨pgs_nil.imp fun v σ H Q ⟨hl, q⟩ => by
  match v, hl with
  | [], _ => exact ⟨rfl, q⟩⟩
theorem ngs_cons {i : Nat} {is : List Nat} {x : Str} {px : Pos} (hN : X.N.Nodup) (k : NGs X es is) (hi : X.N[i]? = some x := by rfl) (hx : Loc X.env.scope x := by first | exact Or.inl rfl | exact Or.inr rfl) (hf : X.fn x = true ∨ X.env.scope.names.lookup x = some .local := by first | exact .inl rfl | exact .inr rfl)
    (hs : (assignEach (.Name x px :: es) X.env).map (·.2) = assign (.Name x px) X.env :: (assignEach es X.env).map (·.2) := by rfl) : NGs X (.Name x px :: es) (i :: is) :=
  ⟨(pgs_cons (pg_name hN hi hx hf) k.pg hs).imp fun vs σ H Q ⟨hl, q⟩ => by
    match vs, hl with
    | v :: vr, hl => exact ⟨v, vr, rfl, Nat.succ.inj hl, q⟩⟩
/-- the same where the tuple is made (more names, or such as are captured) -/
theorem ds_parT {is : List Nat} {ws : List WE} {ts vs : List Expr} {pt pt2 : Pos} {kt k2 : Nat} (hc : X.calm = true) (h : DM X κ is vs ws) (k : NGs X ts is) (hsz : is.length ≤ sizeLine := by decide) (hn : (assignEach ts X.env).length = is.length := by rfl) (hst : (assignEach ts X.env).findIdx? (·.1) = none := by rfl)
    (hs : swapsWithSole [.Tuple ts kt pt] (.Tuple vs k2 pt2) pos.line X.env = pure false := by rfl) (hw : swappedStores [.Tuple ts kt pt] (.Tuple vs k2 pt2) X.env = pure none := by rfl) (h1 : (assignEach [.Tuple ts kt pt] X.env).map (·.2) = [assign (.Tuple ts kt pt) X.env] := by rfl) :
    DS X κ fr (.Assign [.Tuple ts kt pt] (.Tuple vs k2 pt2) pos) (sPar is ws) :=
  ⟨fun g hg _ => (ps_asg (pe_tup (h.pa g hg)) (pg_tup hc k.pg hn hst) hs hw h1).imp fun D σ H q => by
    obtain ⟨O, ε, A, q⟩ := par_imp h.mono q
    refine ⟨O, ε, A, cEv_mono h.mono (fun ds ε' q vs H' O' A' x pl => ?_) q⟩
    obtain ⟨hl, _, q⟩ := q vs H' O' A' x pl
    exact ⟨by rw [hl]; exact hsz, fun p np => ⟨p, vs, rfl, SqT.of upd_same, hl, hl, q _ p np⟩⟩, sPar_mono h.mono⟩
end
end DL
namespace DL
open PySem PySem.Spec L2
/-- the items; what must be so at each turn (of the slots' contents) -/
abbrev WI := En → (List D → (En → Prop) → En → Prop) → Prop
def MonoI (w : WI) : Prop := ∀ ε Q Q', (∀ d p ε', Q d p ε' → Q' d p ε') → w ε Q → w ε Q'
abbrev Gx.holds (g : Gx) (hl : List (D × V)) : Gx := { g with hold := hl ++ g.hold }
structure ItOk (g : Gx) (J : It) (sg : L2.St → Prop) (inv : En → Prop) (ds : List D) : Prop where
  go : ∀ (i : Nat) (O : OS) (H : Hp) (σ : L2.St) (ε : En), Abs g O H σ ε → sg σ → inv ε → i < ds.length → J.go i H
  yld : ∀ (i : Nat) (O : OS) (H : Hp) (σ : L2.St) (ε : En) (x : V) (H' : Hp), Abs g O H σ ε → sg σ → inv ε → i < ds.length → J.yld i H x H' → ∃ d, ds[i]? = some d ∧ Same H H' ∧ Rp H' O d x
  stop : ∀ (i : Nat) (O : OS) (H : Hp) (σ : L2.St) (ε : En), Abs g O H σ ε → sg σ → inv ε → ds.length = i → J.stop i H
theorem Abs.unhold {g : Gx} {hl : List (D × V)} {O : OS} {H : Hp} {σ : L2.St} {ε : En} (A : Abs (g.holds hl) O H σ ε) : Abs g O H σ ε :=
  { A with hold := fun p hp => A.hold p (List.mem_append_right _ hp) }
theorem Abs.addHold {g : Gx} {O : OS} {H : Hp} {σ : L2.St} {ε : En} (A : Abs g O H σ ε) {hl : List (D × V)} (h : ∀ p ∈ hl, Rp H O p.1 p.2) : Abs (g.holds hl) O H σ ε :=
  { A with hold := fun p hp => (List.mem_append.mp hp).elim (h p) (A.hold p) }
/-- fl: for a loop (no slot is fixed); else for a comprehension (the slots sl are fixed) -/
abbrev GX.holds {X : CxD} (g : GX X) (hl : List (D × V)) : GX X := ⟨g.toGx.holds hl, g.tk.imp fun _ _ _ _ ⟨O, ε, x, A, r⟩ => ⟨O, ε, x, A.unhold, r⟩, g.gk.1, fun p hp => List.mem_append_right _ (g.gk.2 p hp)⟩
abbrev CxD.no (Y : L2.Cx) : CxD := ⟨Y, fun _ _ => False, ⟨[], []⟩⟩
theorem takes_none {X : L2.Cx} {W : L2.WX} (h : ∀ c d σ H, ¬ W c d σ H) : L2.Takes X W := fun _ _ ⟨_, _, _, _, _, _, _, _, _, _, _, _, _, _, _, _, w⟩ => (h _ _ _ _ w).elim
abbrev Gx.no {Y : L2.Cx} (g : Gx) : GX (CxD.no Y) := ⟨g, takes_none fun _ _ _ _ ⟨_, _, _, _, _, r⟩ => r, ⟨(fun _ h => nomatch h), (fun _ h => nomatch h)⟩⟩
def rdI (g : Gx) (sl : List Nat) (wi : WI) : TI := fun σ H R => ∃ O ε, Abs g O H σ ε ∧ wi ε fun ds inv ε' => ∀ J H' O' hl, Abs (g.holds hl) O' H' σ ε' → Ext g.κ σ O H O' H' →
  ItOk (g.holds hl) J (fun σ' => ∀ i ∈ sl, σ'[i]? = σ[i]?) inv ds → R J H'
structure DI (X : CxD) (κ : List Kd) (sl : List Nat) (tg iter : Expr) (wi : WI) : Prop where
  pi : ∀ g : GX X, g.κ = κ → PI X tg iter (rdI g sl wi)
  mono : MonoI wi
theorem _root_.L2.PI.imp {X : CxD} {tg e : Expr} {t t' : TI} (h : PI X tg e t) (k : ∀ σ H R, t' σ H R → t σ H R) : PI X tg e t' := ⟨fun pins s σ H R I q => h.run pins s σ H R I (k _ _ _ q)⟩
/-- a change of a thing that was not there -/
theorem Ext.trans' {κ : List Kd} {σ : L2.St} {O O1 : OS} {H H1 : Hp} {p : Addr} {o : HO} (x : Ext κ σ O H O1 H1) (np : H p = none) : Ext κ σ O H O1 (upd H1 p o) :=
  ⟨fun a u e n => by rw [upd_ne (ne_of_none e np)]; exact x.keep a u e n, x.own, x.mono, fun a h => by
    by_cases q : a = p
    · subst q; exact (h np).elim
    · rw [upd_ne q]; exact x.some a h, x.ownm, x.monom⟩
section
variable {X : CxD} {κ : List Kd} {fr : Bool} {tg e : Expr} {sl : List Nat}
/-- a list or a tuple or a text is walked -/
def iSeq (K : PySem.W.Frag) (tl : TE) : TI := fun σ H R => tl σ H fun x H1 => (∃ a, x = .ref a ∧ (((∃ xs, SqL K H1 a xs) ∧ R (Itl K a) H1) ∨ ((∃ xs, SqT K H1 a xs) ∧ R (Itt K a) H1))) ∨ ∃ z, x = .str z ∧ R (Its z) H1
theorem pi_seq {tl : TE} (hl : PE X e tl) : PI X tg e (iSeq X.K tl) := by
  refine ⟨fun pins s σ H R I h => ?_⟩
  refine thn (hl.run pins s σ H _ I h) fun v s1 ⟨x, H1, I1, r1, q1⟩ => ?_
  rcases q1 with ⟨a, e, q⟩ | ⟨z, e, q⟩
  · subst e
    cases r1
    rcases q with ⟨⟨xs, hq⟩, q⟩ | ⟨⟨xs, hq⟩, q⟩
    · obtain ⟨its, rv, p, hz⟩ := I1.list hq
      refine wpAny_pyIter_list p.isList ?_
      refine ⟨s1.heap.objs.size, [s1.heap.objs.size], _, _, H1, rfl, I1.kept (t' := s1.toks) fun b o e => Heap.get?_push_of_some _ e, turn_list a _, ⟨_, Heap.get?_push_size _ rfl, rfl, rfl⟩, fun b hb => ?_, q⟩
      have e : b = s1.heap.objs.size := by simpa using hb
      subst e
      exact I1.fpOk (Nat.le_refl _) (I1.hok.fresh (Nat.le_refl _))
    · obtain ⟨its, rv, p, hz⟩ := I1.tuple hq
      refine wpAny_pyIter_tuple (show s1.heap.IsTuple a its.toArray from p) ?_
      refine ⟨s1.heap.objs.size, [s1.heap.objs.size], _, _, H1, rfl, I1.kept (t' := s1.toks) fun b o e => Heap.get?_push_of_some _ e, turn_tuple a _, ⟨_, Heap.get?_push_size _ rfl, rfl, rfl⟩, fun b hb => ?_, q⟩
      have e : b = s1.heap.objs.size := by simpa using hb
      subst e
      exact I1.fpOk (Nat.le_refl _) (I1.hok.fresh (Nat.le_refl _))
  · subst e
    obtain ⟨t, rfl⟩ := r1
    cases ha : z.cps.all (· < 128)
    · exact wpAny_pyIter_wide ha (pi_one (tk := s1.toks) I1 _ (turn_str _ z t "str_iterator" (.inr rfl)) ⟨_, Heap.get?_push_size _ rfl, rfl, rfl⟩ q)
    · exact wpAny_pyIter_ascii ha (pi_one (tk := s1.toks) I1 _ (turn_str _ z t "str_ascii_iterator" (.inl rfl)) ⟨_, Heap.get?_push_size _ rfl, rfl, rfl⟩ q)
def signs (z : Str) : List D := z.cps.toList.map fun c => .str ⟨#[c]⟩
def seqD : D → Option (List D)
  | .list ds => some ds
  | .tuple ds => some ds
  | .str z => some (signs z)
  | _ => none
def wSeq (w : WE) : WI := fun ε Q => w ε fun d ε' => ∃ ds, seqD d = some ds ∧ Q ds (fun _ => True) ε'
theorem RpL.at {H : Hp} {O : OS} : ∀ {ds : List D} {vs : List V} {i : Nat} {d : D}, RpL H O ds vs → ds[i]? = some d → ∃ v, vs[i]? = some v ∧ Rp H O d v
  | [], _, _, _, _, h => by simp at h
  | d' :: ds, _, 0, d, ⟨v, r, e, h, q⟩, hd => by
    have e' : d' = d := by simpa using hd
    subst e' e
    exact ⟨v, rfl, h⟩
  | d' :: ds, _, i + 1, d, ⟨v, r, e, h, q⟩, hd => by
    subst e
    obtain ⟨v', e', h'⟩ := RpL.at (i := i) q (by simpa using hd)
    exact ⟨v', by simpa using e', h'⟩
theorem itl_ok {g : Gx} {K : PySem.W.Frag} {a : Addr} {ds : List D} {sg : L2.St → Prop} {inv : En → Prop} (h : ∀ O H σ ε, Abs g O H σ ε → sg σ → inv ε → ∃ xs, H a = some (.lst xs) ∧ RpL H O ds xs) : ItOk g (Itl K a) sg inv ds where
  go := fun i O H σ ε A s v hi => by
    obtain ⟨xs, e, r⟩ := h O H σ ε A s v
    obtain ⟨x, ex, _⟩ := r.at (List.getElem?_eq_getElem hi)
    exact ⟨xs, x, SqL.of e, ex⟩
  yld := fun i O H σ ε x H' A s v hi y => by
    obtain ⟨xs, e, r⟩ := h O H σ ε A s v
    obtain ⟨x', ex, rx⟩ := r.at (List.getElem?_eq_getElem hi)
    obtain ⟨e', y⟩ := y
    subst e'
    have := y xs (SqL.of e)
    rw [ex] at this
    cases this
    exact ⟨_, List.getElem?_eq_getElem hi, Same.refl _, rx⟩
  stop := fun i O H σ ε A s v hi => by
    have hi := Nat.le_of_eq hi
    obtain ⟨xs, e, r⟩ := h O H σ ε A s v
    exact ⟨xs, SqL.of e, by rw [r.length]; exact hi⟩
theorem itt_ok {g : Gx} {K : PySem.W.Frag} {a : Addr} {ds : List D} {sg : L2.St → Prop} {inv : En → Prop} (h : ∀ O H σ ε, Abs g O H σ ε → sg σ → inv ε → ∃ xs, RdT H a xs ∧ RpL H O ds xs) : ItOk g (Itt K a) sg inv ds where
  go := fun i O H σ ε A s v hi => by
    obtain ⟨xs, e, r⟩ := h O H σ ε A s v
    obtain ⟨x, ex, _⟩ := r.at (List.getElem?_eq_getElem hi)
    exact ⟨xs, x, sqt e, ex⟩
  yld := fun i O H σ ε x H' A s v hi y => by
    obtain ⟨xs, e, r⟩ := h O H σ ε A s v
    obtain ⟨x', ex, rx⟩ := r.at (List.getElem?_eq_getElem hi)
    obtain ⟨e', y⟩ := y
    subst e'
    have := y xs (sqt e)
    rw [ex] at this
    cases this
    exact ⟨_, List.getElem?_eq_getElem hi, Same.refl _, rx⟩
  stop := fun i O H σ ε A s v hi => by
    have hi := Nat.le_of_eq hi
    obtain ⟨xs, e, r⟩ := h O H σ ε A s v
    exact ⟨xs, sqt e, by rw [r.length]; exact hi⟩
theorem its_ok {g : Gx} {z : Str} {sg : L2.St → Prop} {inv : En → Prop} : ItOk g (Its z) sg inv (signs z) where
  go := fun i O H σ ε A s v hi => by
    have hi : i < (z.cps.toList.map fun c => (PyData.str ⟨#[c]⟩ : D)).length := hi
    rw [List.length_map, Array.length_toList] at hi
    exact hi
  yld := fun i O H σ ε x H' A s v hi y => by
    obtain ⟨e, c, ec, ex⟩ := y
    subst e ex
    refine ⟨.str ⟨#[c]⟩, ?_, Same.refl _, rfl⟩
    show (z.cps.toList.map _)[i]? = _
    rw [List.getElem?_map, Array.getElem?_toList, ec]
    rfl
  stop := fun i O H σ ε A s v hi => by
    have hi := Nat.le_of_eq hi
    have hi : (z.cps.toList.map fun c => (PyData.str ⟨#[c]⟩ : D)).length ≤ i := hi
    rw [List.length_map, Array.length_toList] at hi
    exact hi
theorem di_seq {w : WE} (h : DE X κ e w) : DI X κ sl tg e (wSeq w) :=
  ⟨fun g hg => (pi_seq (h.pe g hg)).imp fun σ H R ⟨O, ε, A, q⟩ => ⟨O, ε, A, h.mono _ _ _ (fun d ε' ⟨ds, e, q⟩ v H' O' A' x r => by
    have hold : ∀ p ∈ [(d, v)], Rp H' O' p.1 p.2 := fun p hp => by
      have e : p = (d, v) := by simpa using hp
      rw [e]
      exact r
    have at' : ∀ {O2 H2 σ2 ε2}, Abs (g.holds [(d, v)]) O2 H2 σ2 ε2 → Rp H2 O2 d v := fun A2 => A2.hold (d, v) (List.mem_append_left _ (List.mem_singleton_self _))
    match d, e, r with
    | .list ds', e, ⟨a, xs, ev, n, eh, rl⟩ =>
      have e' : ds' = ds := Option.some.inj e
      subst e' ev
      exact .inl ⟨a, rfl, .inl ⟨⟨xs, SqL.of eh⟩, q _ H' O' [(.list ds', .ref a)] (A'.addHold hold) x (itl_ok fun O2 H2 σ2 ε2 A2 _ _ => by
        obtain ⟨b, ys, eb, nb, hb, rb⟩ := at' A2
        cases eb
        exact ⟨ys, hb, rb⟩)⟩⟩
    | .tuple ds', e, ⟨a, xs, ev, n, eh, rl⟩ =>
      have e' : ds' = ds := Option.some.inj e
      subst e' ev
      exact .inl ⟨a, rfl, .inr ⟨⟨xs, sqt eh⟩, q _ H' O' [(.tuple ds', .ref a)] (A'.addHold hold) x (itt_ok fun O2 H2 σ2 ε2 A2 _ _ => by
        obtain ⟨b, ys, eb, nb, hb, rb⟩ := at' A2
        cases eb
        exact ⟨ys, hb, rb⟩)⟩⟩
    | .str z, e, r =>
      have e' : signs z = ds := Option.some.inj e
      have ev : v = .str z := r
      subst e' ev
      exact .inr ⟨z, rfl, q _ H' O' [(.str z, .str z)] (A'.addHold hold) x its_ok⟩) q⟩,
    fun ε Q Q' h' q => h.mono _ _ _ (fun d ε' ⟨ds, e, q⟩ => ⟨ds, e, h' _ _ _ q⟩) q⟩
/-- a name of the def's own list or a borrowed one, in a comprehension: its contents stay through the turns -/
def wNm (i : Nat) : WI := fun ε Q => ∃ d ds, ε[i]? = some (some d) ∧ seqD d = some ds ∧ Q ds (fun ε' => ε'[i]? = some (some d)) ε
theorem di_nm (i : Nat) {x : Str} (hs : sl.contains i = true := by decide) (hN : X.N[i]? = some x := by rfl) (hv : Vis X.env.scope x := by first | exact Or.inl rfl | exact Or.inr (Or.inl rfl) | exact Or.inr (Or.inr rfl)) (hd : (x == ("__debug__" : Str)) = false := by decide)
    (hcd : (x == ("__classdict__" : Str)) = false := by decide) {pos : Pos} : DI X κ sl tg (.Name x pos) (wNm i) :=
  ⟨fun g hg => (pi_seq (pe_var hN hv hd hcd)).imp fun σ H R ⟨O, ε, A, d, ds, e, es, q⟩ => by
    obtain ⟨v, ev, nb⟩ := A.get e
    refine ⟨v, ev, ?_⟩
    have hi : i ∈ sl := by simpa using hs
    have A0 : Abs (g.holds []) O H σ ε := A.addHold fun p hp => nomatch hp
    have at' : ∀ {O2 H2 σ2 ε2}, Abs (g.holds []) O2 H2 σ2 ε2 → (∀ i ∈ sl, σ2[i]? = σ[i]?) → ε2[i]? = some (some d) → Nb H2 O2 d v := fun A2 s2 e2 => by
      obtain ⟨v', ev', nb'⟩ := A2.get e2
      rw [s2 i hi, ev] at ev'
      cases ev'
      exact nb'
    match d, es, nb with
    | .list ds', es, ⟨a, xs, ev, eh, rl⟩ =>
      have e' : ds' = ds := Option.some.inj es
      subst e' ev
      exact .inl ⟨a, rfl, .inl ⟨⟨xs, SqL.of eh⟩, q _ H O [] A0 .refl (itl_ok fun O2 H2 σ2 ε2 A2 s2 e2 => by
        obtain ⟨b, ys, eb, hb, rb⟩ := at' A2 s2 e2
        cases eb
        exact ⟨ys, hb, rb⟩)⟩⟩
    | .tuple ds', es, ⟨a, xs, ev, eh, rl⟩ =>
      have e' : ds' = ds := Option.some.inj es
      subst e' ev
      exact .inl ⟨a, rfl, .inr ⟨⟨xs, sqt eh⟩, q _ H O [] A0 .refl (itt_ok fun O2 H2 σ2 ε2 A2 s2 e2 => by
        obtain ⟨b, ys, eb, hb, rb⟩ := at' A2 s2 e2
        cases eb
        exact ⟨ys, hb, rb⟩)⟩⟩
    | .str z, es, r =>
      have e' : signs z = ds := Option.some.inj es
      have ev : v = .str z := r
      subst e' ev
      exact .inr ⟨z, rfl, q _ H O [] A0 .refl its_ok⟩,
    fun ε Q Q' h' ⟨d, ds, e, es, q⟩ => ⟨d, ds, e, es, h' _ _ _ q⟩⟩
def rngD (lo : Int) (n : Nat) : List D := (List.range n).map fun (k : Nat) => .int (lo + (k : Int))
theorem itr_ok {g : Gx} {lo : Int} {n : Nat} {sg : L2.St → Prop} {inv : En → Prop} : ItOk g (Itr lo n) sg inv (rngD lo n) where
  go := fun i O H σ ε A s v hi => by
    unfold rngD at hi
    rw [List.length_map, List.length_range] at hi
    exact hi
  yld := fun i O H σ ε x H' A s v hi y => by
    obtain ⟨e, ex⟩ := y
    subst e ex
    unfold rngD at hi ⊢
    rw [List.length_map, List.length_range] at hi
    refine ⟨.int (lo + i), ?_, Same.refl _, rfl⟩
    rw [List.getElem?_map, List.getElem?_range hi]
    rfl
  stop := fun i O H σ ε A s v hi => by
    have hi := Nat.le_of_eq hi
    unfold rngD at hi
    rw [List.length_map, List.length_range] at hi
    exact hi
/-- range(b), range(a, b) -/
def rng1 : List D → Option (List D)
  | [.int j] => if -(2 ^ 62) ≤ j ∧ j < 2 ^ 62 then some (rngD 0 j.toNat) else none
  | _ => none
def wApp (f : List D → Option (List D)) (os : List Op) : WI := fun ε Q => aEv os ε fun xs ε' => ∃ ds r, vals ε' xs ds ∧ f ds = some r ∧ Q r (fun _ => True) ε'
theorem wApp_mono {f : List D → Option (List D)} {os : List Op} (m : MonoA os) : MonoI (wApp f os) := fun ε Q Q' h' q => aEv_mono m (fun xs ε' ⟨ds, r, e, e2, q⟩ => ⟨ds, r, e, e2, h' _ _ _ q⟩) q
theorem nb_int {H : Hp} {O : OS} {i : Int} {v : V} (h : Nb H O (.int i) v) : v = .int i := h
theorem nbl1 {H : Hp} {O : OS} {d : D} {vs : List V} (h : NbL H O [d] vs) : ∃ v, vs = [v] ∧ Nb H O d v := by
  obtain ⟨v, r, e, h, q⟩ := h
  have q : r = [] := q
  subst q
  exact ⟨v, e, h⟩
theorem nbl2 {H : Hp} {O : OS} {d d2 : D} {vs : List V} (h : NbL H O [d, d2] vs) : ∃ v v2, vs = [v, v2] ∧ Nb H O d v ∧ Nb H O d2 v2 := by
  obtain ⟨v, r, e, h, q⟩ := h
  obtain ⟨v2, e2, h2⟩ := nbl1 q
  subst e2
  exact ⟨v, v2, e, h, h2⟩
theorem di_rng1 {p : Pos} {o : Op} (hg : Gl X "range") (hm : X.mg "range" = none) (h : DA X κ [e] [o]) {pos : Pos} : DI X κ sl tg (.Call (.Name "range" p) [e] [] pos) (wApp rng1 [o]) :=
  ⟨fun g hg' => (pi_range1 hg hm (h.pa g hg') (by rw [st_cons h.hd.1]; rfl)).imp fun σ H R ⟨O, ε, A, q⟩ => ⟨O, ε, A, aEv_mono h.mono (fun xs ε' ⟨ds, r, e, e2, q⟩ vs H' O' A' x ors => by
    have nb := ors.nb A' e
    match ds, nb, e2 with
    | [.int j], nb, e2 =>
      obtain ⟨v, ev, hv⟩ := nbl1 nb
      have e2 : (if -(2 ^ 62) ≤ j ∧ j < 2 ^ 62 then some (rngD 0 j.toNat) else none) = some r := e2
      split at e2
      · rename_i hb
        cases e2
        exact ⟨j, by rw [ev, nb_int hv], hb.1, hb.2, q _ H' O' [] (A'.addHold fun p hp => nomatch hp) x itr_ok⟩
      · cases e2) q⟩, wApp_mono h.mono⟩
def forGo (t : Tg) (w : WS) (inv : En → Prop) (E : WEnds) : List D → En → Prop
  | [], ε => inv ε ∧ E.nx ε
  | d :: r, ε => inv ε ∧ ∃ ε1, bindD t d ε = some ε1 ∧ w { nx := forGo t w inv E r, rt := E.rt, bk := E.nx, ct := forGo t w inv E r } ε1
def sFor (wi : WI) (t : Tg) (w : WS) : WS := fun E ε => wi ε fun ds inv ε' => forGo t w inv E ds ε'
theorem forGo_mono {t : Tg} {w : WS} {inv : En → Prop} (m : MonoS w) {E E' : WEnds} (l : E.le E') : ∀ (ds : List D) (ε : En), forGo t w inv E ds ε → forGo t w inv E' ds ε
  | [], _, h => ⟨h.1, l.nx _ h.2⟩
  | d :: r, ε, ⟨hi, ε1, b, h⟩ => ⟨hi, ε1, b, m { nx := forGo t w inv E r, rt := E.rt, bk := E.nx, ct := forGo t w inv E r } _ _ ⟨forGo_mono m l r, l.rt, l.nx, forGo_mono m l r⟩ h⟩
theorem forGo_inv {t : Tg} {w : WS} {inv : En → Prop} {E : WEnds} : ∀ {ds : List D} {ε : En}, forGo t w inv E ds ε → inv ε
  | [], _, h => h.1
  | _ :: _, _, h => h.1
theorem ds_for {body : List Stmt} {wi : WI} {t : Tg} {w : WS} {pos : Pos} (hp : PassesOwn (model X.prog X.w) X.A X.env X.xe) (hc : X.calm = true) (hi : DI X κ [] tg e wi) (hg : DG X κ tg t) (h : DSs X κ fr body w)
    (hs : ∀ x, foldedSetIterable e X.env x = pure x := by intro _; rfl) : DS X κ fr (.For tg e body [] pos) (sFor wi t w) :=
  ⟨fun g hg' hf => by
    have pb : PSs X body (fun D σ H => ∃ g : GX X, g.κ = κ ∧ g.fr = fr ∧ rdS g w D σ H) := ⟨fun pins s σ H D I ⟨g, h1, h2, q⟩ => (h.ps g h1 h2).run pins s σ H D I q⟩
    have pg : PG X tg (fun v σ H Q => ∃ g : GX X, g.κ = κ ∧ rdG g t v σ H Q) := ⟨fun pins s σ H v u Q I r ⟨g, h1, q⟩ => (hg.pg g h1).run pins s σ H v u Q I r q⟩
    refine (ps_for hp hc (hi.pi g hg') pg pb hs).imp fun D σ H ⟨O, ε, A, q⟩ => ⟨O, ε, A, hi.mono _ _ _ (fun ds inv ε' q J H' O' hl A' x ok => ?_) q⟩
    have g' : (g.holds hl).κ = κ := hg'
    refine ⟨fun i m σ H => m = ds.length - i ∧ i ≤ ds.length ∧ ∃ O ε, Abs (g.holds hl) O H σ ε ∧ forGo t w inv (ends g D) (ds.drop i) ε, ⟨ds.length, rfl, Nat.zero_le _, O', ε', A', q⟩, ?_⟩
    rintro i m σ2 H2 ⟨rfl, hil, O2, ε2, A2, q⟩
    have sg : ∀ i ∈ ([] : List Nat), σ2[i]? = σ[i]? := fun i hi => nomatch hi
    by_cases hlt : i < ds.length
    · refine .inr ⟨ok.go i O2 H2 σ2 ε2 A2 sg (forGo_inv q) hlt, fun σ' H' => ∃ O ε, Abs (g.holds hl) O H' σ' ε ∧ forGo t w inv (ends g D) (ds.drop (i + 1)) ε, fun σ' H' z => ⟨ds.length - (i + 1), by omega, rfl, hlt, z⟩, fun v H3 y => ?_⟩
      obtain ⟨d, ed, sm, rd⟩ := ok.yld i O2 H2 σ2 ε2 v H3 A2 sg (forGo_inv q) hlt y
      rw [List.drop_eq_getElem_cons hlt] at q
      obtain ⟨_, ε3, b, q⟩ := q
      rw [List.getElem?_eq_getElem hlt] at ed
      cases ed
      refine ⟨g.holds hl, g', O2, ε2, _, ε3, A2.same sm, rd, b, fun σ3 A3 _ _ => ?_⟩
      refine ⟨g.holds hl, g', hf, O2, ε3, A3, h.mono { nx := forGo t w inv (ends g D) (ds.drop (i + 1)), rt := (ends g D).rt, bk := (ends g D).nx, ct := forGo t w inv (ends g D) (ds.drop (i + 1)) } _ _ ?_ q⟩
      exact ⟨fun ε4 z σ4 H4 O4 A4 => ⟨O4, ε4, A4, z⟩, fun d ε4 z v H4 σ4 O4 A4 r => z v H4 σ4 O4 A4.unhold r, fun ε4 z σ4 H4 O4 A4 => z σ4 H4 O4 A4.unhold, fun ε4 z σ4 H4 O4 A4 => ⟨O4, ε4, A4, z⟩⟩
    · have e : i = ds.length := by omega
      subst e
      rw [List.drop_length] at q
      exact .inl ⟨ok.stop _ O2 H2 σ2 ε2 A2 sg q.1 rfl, q.2 σ2 H2 O2 A2.unhold⟩,
  fun E E' ε l q => hi.mono _ _ _ (fun ds inv ε' q => forGo_mono h.mono l ds ε' q) q⟩
def wipeE (ε : En) : List Nat → En
  | [] => ε
  | v :: vs => (wipeE ε vs).set v none
/-- the slots vs as they were -/
def restE (ε ε1 : En) : List Nat → En
  | [] => ε
  | v :: vs => (restE ε ε1 vs).set v (ε1[v]?).join
def lcGo (t : Tg) (wt : WT) (we : WE) (vs : List Nat) (inv : En → Prop) : List D → List D → En → (List D → En → Prop) → Prop
  | [], acc, ε, Q => inv ε ∧ Q acc ε
  | d :: r, acc, ε, Q => inv ε ∧ ∃ ε1, bindD t d ε = some ε1 ∧ wt ε1 fun b ε2 => if b = true then we ε2 fun y ε3 => acc.length < sizeLine ∧ lcGo t wt we vs inv r (acc ++ [y]) (wipeE ε3 vs) Q else lcGo t wt we vs inv r acc (wipeE ε2 vs) Q
def eLc (wi : WI) (t : Tg) (wt : WT) (we : WE) (vs : List Nat) : WE := fun ε Q => wi ε fun ds inv ε1 => lcGo t wt we vs inv ds [] (wipeE ε1 vs) fun acc ε2 => Q (.list acc) (restE ε2 ε1 vs)
theorem lcGo_mono {t : Tg} {wt : WT} {we : WE} {vs : List Nat} {inv : En → Prop} (mt : MonoT wt) (me : Mono we) {Q Q' : List D → En → Prop} (h : ∀ a ε, Q a ε → Q' a ε) : ∀ (ds acc : List D) (ε : En), lcGo t wt we vs inv ds acc ε Q → lcGo t wt we vs inv ds acc ε Q'
  | [], _, _, q => ⟨q.1, h _ _ q.2⟩
  | d :: r, acc, ε, ⟨hi, ε1, b, q⟩ => ⟨hi, ε1, b, mt _ _ _ (fun c ε2 q => by
    cases c with
    | true => exact me _ _ _ (fun y ε3 ⟨hl, q⟩ => ⟨hl, lcGo_mono mt me h r _ _ q⟩) q
    | false => exact lcGo_mono mt me h r _ _ q) q⟩
theorem lcGo_inv {t : Tg} {wt : WT} {we : WE} {vs : List Nat} {inv : En → Prop} {Q : List D → En → Prop} : ∀ {ds acc : List D} {ε : En}, lcGo t wt we vs inv ds acc ε Q → inv ε
  | [], _, _, h => h.1
  | _ :: _, _, _, h => h.1
theorem eLc_mono {wi : WI} {t : Tg} {wt : WT} {we : WE} {vs : List Nat} (mi : MonoI wi) (mt : MonoT wt) (me : Mono we) : Mono (eLc wi t wt we vs) := fun ε Q Q' h q => mi _ _ _ (fun ds inv ε1 q => lcGo_mono mt me (fun a ε2 q => h _ _ q) _ _ _ q) q
/-- a clause's tests -/
structure DTs (X : CxD) (κ : List Kd) (es : List Expr) (w : WT) : Prop where
  pt : ∀ g : GX X, g.κ = κ → PTs X es (rdT g w)
  mono : MonoT w
def tYesW : WT := fun ε Q => Q true ε
theorem dts_nil : DTs X κ [] tYesW := ⟨fun g _ => ⟨fun pins s σ H Q I ⟨O, ε, A, h⟩ => pts_nil.run pins s σ H Q I (h H O A .refl)⟩, fun _ _ _ h q => h _ _ q⟩
theorem dts_one {w : WT} (h : DT X κ e w) : DTs X κ [e] w := ⟨fun g hg => pts_one (h.pt g hg), h.mono⟩
theorem wipe_get {σ : L2.St} {j : Nat} : ∀ {vs : List Nat}, j ∉ vs → (wipe σ vs)[j]? = σ[j]? := fun h => wipe_out h
theorem wipeE_eq (ε : En) : ∀ vs : List Nat, ∀ j : Nat, j ∉ vs → (wipeE ε vs)[j]? = ε[j]?
  | [], _, _ => rfl
  | v :: vs, j, h => by
    have h' : j ≠ v ∧ j ∉ vs := by simpa using h
    show ((wipeE ε vs).set v none)[j]? = _
    rw [get_set_ne (Ne.symm h'.1), wipeE_eq ε vs j h'.2]
theorem wipeE_in (ε : En) : ∀ vs : List Nat, ∀ j : Nat, j ∈ vs → ∀ d : D, (wipeE ε vs)[j]? ≠ some (some d)
  | v :: vs, j, h, d, e => by
    have e : ((wipeE ε vs).set v none)[j]? = some (some d) := e
    by_cases q : v = j
    · subst q
      rw [List.getElem?_set] at e
      simp at e
    · rw [get_set_ne q] at e
      have h' : j ∈ vs := by
        rcases List.mem_cons.mp h with z | z
        · exact absurd z.symm q
        · exact z
      exact wipeE_in ε vs j h' d e
theorem wipeE_len (ε : En) : ∀ vs : List Nat, (wipeE ε vs).length = ε.length
  | [] => rfl
  | v :: vs => by
    show ((wipeE ε vs).set v none).length = _
    rw [List.length_set, wipeE_len ε vs]
theorem restE_out (ε ε1 : En) : ∀ vs : List Nat, ∀ j : Nat, j ∉ vs → (restE ε ε1 vs)[j]? = ε[j]?
  | [], _, _ => rfl
  | v :: vs, j, h => by
    have h' : j ≠ v ∧ j ∉ vs := by simpa using h
    show ((restE ε ε1 vs).set v _)[j]? = _
    rw [get_set_ne (Ne.symm h'.1), restE_out ε ε1 vs j h'.2]
theorem restE_in (ε ε1 : En) : ∀ vs : List Nat, ∀ j : Nat, j ∈ vs → ∀ d : D, (restE ε ε1 vs)[j]? = some (some d) → ε1[j]? = some (some d)
  | v :: vs, j, h, d, e => by
    have e : ((restE ε ε1 vs).set v (ε1[v]?).join)[j]? = some (some d) := e
    by_cases q : v = j
    · subst q
      rw [List.getElem?_set] at e
      simp only [if_true] at e
      split at e
      · have e' : (ε1[v]?).join = some d := Option.some.inj e
        cases z : ε1[v]? with
        | none => rw [z] at e'; cases e'
        | some o => rw [z] at e'; exact congrArg some e'
      · cases e
    · rw [get_set_ne q] at e
      have h' : j ∈ vs := by
        rcases List.mem_cons.mp h with z | z
        · exact absurd z.symm q
        · exact z
      exact restE_in ε ε1 vs j h' d e
theorem restE_len (ε ε1 : En) : ∀ vs : List Nat, (restE ε ε1 vs).length = ε.length
  | [] => rfl
  | v :: vs => by
    show ((restE ε ε1 vs).set v _).length = _
    rw [List.length_set, restE_len ε ε1 vs]
section
variable {g : Gx} {O O' : OS} {H H' : Hp} {σ : L2.St} {ε ε' : En} {vs : List Nat}
theorem mu_out (hv : ∀ j ∈ vs, κ[j]? = some .val) {j : Nat} (h : mu κ j) : j ∉ vs := fun z => by
  have := hv j z
  rcases h with h | h <;> (rw [this] at h; cases h)
theorem slotAt_wipe (hv : ∀ j ∈ vs, κ[j]? = some .val) {a : Addr} : SlotAt κ (wipe σ vs) a ↔ SlotAt κ σ a :=
  ⟨fun ⟨j, hj, e⟩ => ⟨j, hj, by rw [← wipe_get (mu_out hv hj)]; exact e⟩, fun ⟨j, hj, e⟩ => ⟨j, hj, by rw [wipe_get (mu_out hv hj)]; exact e⟩⟩
theorem Abs.wipe (A : Abs g O H σ ε) (hv : ∀ j ∈ vs, g.κ[j]? = some .val) : Abs g O H (L2.wipe σ vs) (wipeE ε vs) :=
  have nv : ∀ j k, g.κ[j]? = some k → k ≠ .val → j ∉ vs := fun j k e n z => n (by rw [hv j z] at e; cases e; rfl)
  { A with
    slot := fun i d e => by
      have hi : i ∉ vs := fun z => wipeE_in ε vs i z d e
      rw [wipeE_eq ε vs i hi] at e
      rw [wipe_get hi]
      exact A.slot i d e
    ownO := fun a z => A.ownO a (z.imp_left (slotAt_wipe hv).mp)
    apm := fun i a hi e => A.apm i a hi (by rw [wipe_get (mu_out hv hi)] at e; exact e)
    apart := fun i j a hi hj e e' => A.apart i j a hi hj (by rw [wipe_get (mu_out hv hi)] at e; exact e) (by rw [wipe_get (mu_out hv hj)] at e'; exact e')
    brwA := fun i b hi e => A.brwA i b hi (by rw [wipe_get (nv i _ hi (by decide))] at e; exact e)
    new := fun i a hi e => A.new i a hi (by rw [wipe_get (nv i _ hi (by decide))] at e; exact e)
    ioS := fun i a hi => by rw [wipe_get ((A.ioK i a hi).elim (fun z => nv i _ z (by decide)) fun z => nv i _ z (by decide))]; exact A.ioS i a hi
    len := by rw [wipeE_len, wipe_length]; exact A.len
    lenK := by rw [wipe_length]; exact A.lenK
    fz := fun σ0 e i hi => by rw [wipe_get (nv i _ hi (by decide))]; exact A.fz σ0 e i hi }
/-- behind the block: what it knew besides its own slots, and these as they were -/
theorem Abs.unwipe (A : Abs g O H σ ε) (x : Ext g.κ σ O H O' H') (hv : ∀ j ∈ vs, g.κ[j]? = some .val) (B : Abs g O' H' (L2.wipe σ vs) ε') : Abs g O' H' σ (restE ε' ε vs) :=
  have nv : ∀ j k, g.κ[j]? = some k → k ≠ .val → j ∉ vs := fun j k e n z => n (by rw [hv j z] at e; cases e; rfl)
  { B with
    slot := fun i d e => by
      by_cases hi : i ∈ vs
      · have e1 := restE_in ε' ε vs i hi d e
        obtain ⟨v, k, e2, e3, s⟩ := A.slot i d e1
        rw [hv i hi] at e3
        cases e3
        exact ⟨v, .val, e2, hv i hi, A.rp x s⟩
      · rw [restE_out ε' ε vs i hi] at e
        obtain ⟨v, k, e2, e3, s⟩ := B.slot i d e
        rw [wipe_get hi] at e2
        exact ⟨v, k, e2, e3, s⟩
    ownO := fun a z => B.ownO a (z.imp_left (slotAt_wipe hv).mpr)
    apm := fun i a hi e => B.apm i a hi (by rw [wipe_get (mu_out hv hi)]; exact e)
    apart := A.apart
    brwA := A.brwA
    new := A.new
    ioS := A.ioS
    len := by rw [restE_len, ← wipe_length σ vs]; exact B.len
    lenK := A.lenK
    fz := A.fz }
/-- a thing that is no slot's changes -/
theorem Abs.updD (A : Abs g O H σ ε) {p : Addr} {o : HO} (hp : O p) (no : ¬ OwnAt O g.κ σ p) (n0 : g.H0 p = none) : Abs g O (upd H p o) σ ε := by
  have k : ∀ b u, b ≠ p → H b = some u → upd H p o b = some u := fun b u n e => by rw [upd_ne n]; exact e
  have kO : ∀ b u, H b = some u → ¬ O b → upd H p o b = some u := fun b u e n => k b u (fun z => n (z ▸ hp)) e
  have so : ∀ b, H b ≠ none → upd H p o b ≠ none := fun b h => by
    by_cases q : b = p
    · subst q; rw [upd_same]; exact fun z => nomatch z
    · rw [upd_ne q]; exact h
  exact { A with
    slot := fun j d' ej => by
      obtain ⟨v, kd, e1, e2, s⟩ := A.slot j d' ej
      refine ⟨v, kd, e1, e2, ?_⟩
      have oth : mu g.κ j → ∀ b u, v = .ref b → H b = some u → upd H p o b = some u := fun hj b u ev eb => k b u (fun z => no (.inl ⟨j, hj, by rw [e1, ev, z]⟩)) eb
      cases kd with
      | val => exact Rp.ext kO (fun _ z => .inl z) s
      | own => exact Ow.ext kO (fun _ z => .inl z) (oth (.inl e2)) (fun _ z => z) s
      | io => exact Ow.ext kO (fun _ z => .inl z) (oth (.inr e2)) (fun _ z => z) s
      | st => exact OwS.ext kO (fun _ z => .inl z) (fun b u m eb => k b u (fun z => no (.inr (z ▸ m))) eb) (fun _ z => z) s
      | sl => exact OwS.ext kO (fun _ z => .inl z) (fun b u m eb => k b u (fun z => no (.inr (z ▸ m))) eb) (fun _ z => z) s
      | brw =>
        have nb : ∀ b, v = .ref b → b ≠ p := fun b ev z => by
          obtain ⟨n0', _⟩ := A.brwA j b e2 (by rw [e1, ev])
          exact n0' (z ▸ n0)
        match d', s with
        | .none, h => exact h
        | .bool _, h => exact h
        | .int _, h => exact h
        | .str _, h => exact h
        | .list _, ⟨b, xs, ev, r, q⟩ => exact ⟨b, xs, ev, k _ _ (nb b ev) r, RpL.ext kO (fun _ z => .inl z) q⟩
        | .tuple _, ⟨b, xs, ev, r, q⟩ => exact ⟨b, xs, ev, rd_keep (fun o z => k _ o (nb b ev) z) r, RpL.ext kO (fun _ z => .inl z) q⟩
        | .dict _, ⟨b, u, ev, r, q⟩ => exact ⟨b, u, ev, k _ _ (nb b ev) r, RpE.ext kO (fun _ z => .inl z) q⟩
    has := fun b z => so b (A.has b z)
    fr := fun b u eb n n2 => k b u (fun z => by subst z; rw [n0] at eb; cases eb) (A.fr b u eb n n2)
    hold := fun q hq => Rp.ext kO (fun _ z => .inl z) (A.hold q hq) }
theorem RpL.snoc {H : Hp} {O : OS} {d : D} {v : V} (h : Rp H O d v) : ∀ {ds : List D} {vs : List V}, RpL H O ds vs → RpL H O (ds ++ [d]) (vs ++ [v])
  | [], vs, e => by
    have e : vs = [] := e
    subst e
    exact ⟨v, [], rfl, h, rfl⟩
  | _ :: _, _, ⟨v', r, e, h', q⟩ => by
    subst e
    exact ⟨v', r ++ [v], rfl, h', RpL.snoc h q⟩
end
theorem lc_imp {g : Gx} {wi : WI} {t : Tg} {wt : WT} {we : WE} {vs sl : List Nat} (hgk : g.κ = κ) (mi : MonoI wi) (mt : MonoT wt) (me : Mono we) (hv : ∀ j ∈ vs, κ[j]? = some .val) (hts : ∀ j ∈ slots t, j ∈ vs) (hsl : ∀ j ∈ sl, j ∉ vs) {σ : L2.St} {H : Hp} {Q : VK} (q : rdF g (eLc wi t wt we vs) σ H Q) :
    tLc (rdI g sl wi) (fun v σ H Q => ∃ g, g.κ = κ ∧ rdG g t v σ H Q) (fun σ H Q => ∃ g, g.κ = κ ∧ rdT g wt σ H Q) (fun σ H Q => ∃ g, g.κ = κ ∧ rdE g we σ H Q) vs σ H Q := by
  obtain ⟨O, ε, A, q⟩ := q
  refine ⟨O, ε, A, mi _ _ _ (fun ds inv ε1 q J H1 O1 hl A1 x1 ok D nD => ?_) q⟩
  have g' : (g.holds hl).κ = κ := hgk
  have hv' : ∀ j ∈ vs, (g.holds hl).κ[j]? = some .val := fun j hj => by rw [g']; exact hv j hj
  have nownD : ¬ SlotAt κ σ D := by rw [← g']; exact A1.unslot nD
  have nownW : ∀ {σ2 : L2.St}, (L2.wipe σ2 vs = L2.wipe σ vs) → ∀ a, SlotAt κ σ2 a → SlotAt κ σ a := fun {σ2} e a z => (slotAt_wipe hv).mp (by rw [← e]; exact (slotAt_wipe hv).mpr z)
  have n0D : g.H0 D = none := A1.n0 nD
  refine ⟨fun i m Hx => m = ds.length - i ∧ i ≤ ds.length ∧ ∃ O2 ε2 acc xs, Abs (g.holds hl) O2 Hx (L2.wipe σ vs) ε2 ∧ Ext κ σ O1 H1 O2 Hx ∧ O2.sl D ∧ Hx D = some (.lst xs) ∧ RpL Hx O2 acc xs ∧
    lcGo t wt we vs inv (ds.drop i) acc ε2 (fun acc ε2 => ∀ p H' O', Abs g O' H' σ (restE ε2 ε1 vs) → Ext g.κ σ O H O' H' → O'.sl p → H p = none → Ow H' O' (.list acc) (.ref p) → Q (.ref p) H'), ⟨ds.length, rfl, Nat.zero_le _, OS.add O1 D, wipeE ε1 vs, [], [], (A1.add nD).wipe hv', Ext.add nD, A1.addSl nD, upd_same, rfl, lcGo_mono mt me (fun a ε2 q => q) _ _ _ q⟩, ?_⟩
  rintro i m H2 ⟨rfl, hil, O2, ε2, acc, xs, A2, x2, oD, eD, racc, q⟩
  have sg : ∀ i ∈ sl, (L2.wipe σ vs)[i]? = σ[i]? := fun i hi => wipe_get (hsl i hi)
  by_cases hlt : i < ds.length
  · refine .inr ⟨ok.go i O2 H2 _ ε2 A2 sg (lcGo_inv q) hlt, fun Hx => ∃ O2 ε2 acc xs, Abs (g.holds hl) O2 Hx (L2.wipe σ vs) ε2 ∧ Ext κ σ O1 H1 O2 Hx ∧ O2.sl D ∧ Hx D = some (.lst xs) ∧ RpL Hx O2 acc xs ∧
      lcGo t wt we vs inv (ds.drop (i + 1)) acc ε2 (fun acc ε2 => ∀ p H' O', Abs g O' H' σ (restE ε2 ε1 vs) → Ext g.κ σ O H O' H' → O'.sl p → H p = none → Ow H' O' (.list acc) (.ref p) → Q (.ref p) H'), fun H' z => ⟨ds.length - (i + 1), by omega, rfl, hlt, z⟩, fun v H3 y => ?_⟩
    obtain ⟨d, ed, sm, rd⟩ := ok.yld i O2 H2 _ ε2 v H3 A2 sg (lcGo_inv q) hlt y
    rw [List.drop_eq_getElem_cons hlt] at q
    obtain ⟨_, ε3, b, q⟩ := q
    rw [List.getElem?_eq_getElem hlt] at ed
    cases ed
    refine ⟨g.holds hl, g', O2, ε2, _, ε3, A2.same sm, rd, b, fun σ3 A3 s3 l3 => ?_⟩
    have wσ : L2.wipe σ3 vs = L2.wipe σ vs := by
      refine List.ext_getElem? fun j => ?_
      by_cases hj : j ∈ vs
      · have : ∀ σ' : L2.St, σ'.length = σ.length → (L2.wipe σ' vs)[j]? = if j < σ.length then some none else none := fun σ' hl' => by
          by_cases hjl : j < σ.length
          · rw [if_pos hjl]
            have hj2 : j < (L2.wipe σ' vs).length := by rw [wipe_length, hl']; exact hjl
            cases e : (L2.wipe σ' vs)[j] with
            | none => rw [List.getElem?_eq_getElem hj2, e]
            | some u => exact absurd hj (wipe_some (by rw [List.getElem?_eq_getElem hj2, e])).2
          · rw [if_neg hjl]
            exact List.getElem?_eq_none (by rw [wipe_length, hl']; omega)
        rw [this σ3 (by rw [l3, wipe_length]), this σ rfl]
      · rw [wipe_get hj, s3 j (fun z => hj (hts j z)), wipe_get hj]
        
    refine ⟨wσ, g.holds hl, g', O2, ε3, A3, mt _ _ _ (fun c ε4 q H4 O4 A4 x4 => ?_) q⟩
    have x24 : Ext κ σ O1 H1 O4 H4 := x2.trans ((Ext.same sm).trans ⟨fun a o e n => x4.keep a o e (fun z => n (z.imp_left fun z => nownW wσ a (by rw [← g']; exact z))), x4.own, x4.mono, x4.some, x4.ownm, x4.monom⟩)
    have oD4 : O4.sl D := x4.sl oD (by rw [sm _ _ eD]; exact fun z => nomatch z)
    have kD4 : H4 D = some (.lst xs) := x4.keep D _ (sm _ _ eD) (fun z => z.elim (fun z => nownD (nownW wσ D (by rw [← g']; exact z))) oD.2)
    have racc4 : RpL H4 O4 acc xs := A3.rpL x4 (RpL.ext (fun a o e _ => sm a o e) (fun _ z => .inl z) racc)
    have wend : ∀ {O5 : OS} {H5 : Hp} {ε5 : En}, Abs (g.holds hl) O5 H5 σ3 ε5 → Abs (g.holds hl) O5 H5 (L2.wipe σ vs) (wipeE ε5 vs) := fun A5 => by
      rw [← wσ]
      exact A5.wipe hv'
    cases c with
    | false =>
      exact ⟨O4, _, acc, xs, wend A4, x24, oD4, kD4, racc4, q⟩
    | true =>
      refine ⟨g.holds hl, g', O4, ε4, A4, me _ _ _ (fun y ε5 ⟨hacc, q⟩ yv H5 O5 A5 x5 r5 => ?_) q⟩
      have x25 : Ext κ σ O1 H1 O5 H5 := x24.trans ⟨fun a o e n => x5.keep a o e (fun z => n (z.imp_left fun z => nownW wσ a (by rw [← g']; exact z))), x5.own, x5.mono, x5.some, x5.ownm, x5.monom⟩
      have oD5 : O5.sl D := x5.sl oD4 (by rw [kD4]; exact fun z => nomatch z)
      have kD5 : H5 D = some (.lst xs) := x5.keep D _ kD4 (fun z => z.elim (fun z => nownD (nownW wσ D (by rw [← g']; exact z))) oD4.2)
      have racc5 := A4.rpL x5 racc4
      refine ⟨xs, kD5, by rw [racc.length]; exact hacc, O5, _, acc ++ [y], xs ++ [yv], (wend A5).updD oD5.1 (fun z => z.elim (fun z => nownD ((slotAt_wipe hv).mp (by rw [← g']; exact z))) oD5.2) n0D, ?_, oD5, upd_same, ?_, q⟩
      · exact x25.trans' nD
      · have kO : ∀ a o, H5 a = some o → ¬ O5 a → upd H5 D (.lst (xs ++ [yv])) a = some o := fun a o e n => by rw [upd_ne (show a ≠ D from fun z => n (by rw [z]; exact oD5.1))]; exact e
        exact RpL.snoc (Rp.ext kO (fun _ z => .inl z) r5) (RpL.ext kO (fun _ z => .inl z) racc5)
  · have e : i = ds.length := by omega
    subst e
    rw [List.drop_length] at q
    refine .inl ⟨ok.stop _ O2 H2 _ ε2 A2 sg q.1 rfl, ?_⟩
    refine q.2 D H2 O2 ((A1.unwipe (by rw [g']; exact x2) hv' A2).unhold) (x1.trans (by rw [hgk]; exact x2)) oD (Classical.byContradiction fun z => x1.some D z nD) ⟨D, xs, rfl, oD.1, eD, racc⟩
def subsetB (a b : List Nat) : Bool := a.all fun j => b.contains j
def apartB (a b : List Nat) : Bool := a.all fun j => !b.contains j
def valB (κ : List Kd) (vs : List Nat) : Bool := vs.all fun j => decide (κ[j]? = some .val)
theorem subsetB_ok {a b : List Nat} (h : subsetB a b = true) : ∀ j ∈ a, j ∈ b := fun j hj => by simpa using List.all_eq_true.mp h j hj
theorem apartB_ok {a b : List Nat} (h : apartB a b = true) : ∀ j ∈ a, j ∉ b := fun j hj => by simpa using List.all_eq_true.mp h j hj
theorem valB_ok {vs : List Nat} (h : valB κ vs = true) : ∀ j ∈ vs, κ[j]? = some .val := fun j hj => of_decide_eq_true (List.all_eq_true.mp h j hj)
section
variable {elt iter : Expr} {ifs : List Expr} {scope : Scope} {own : List (Str × Nat)} {pos : Pos} {wi : WI} {t : Tg} {wt : WT} {we : WE}
theorem df_lc (hc : X.calm = true) (hN : X.N.Nodup) (hi : DI X κ sl tg iter wi) (ok : BlkOk X.N X.env.scope scope own)
    (hg : ∀ (s : Shared) (H : Hp) (C : Addr) (cl : List (Str × Addr)) (fp : List Addr), DG (CxD.no (X.toCx.blk s H scope (compEnvC scope cl C X.env) fp)) κ tg t) (ht : ∀ (s : Shared) (H : Hp) (C : Addr) (cl : List (Str × Addr)) (fp : List Addr), DTs (CxD.no (X.toCx.blk s H scope (compEnvC scope cl C X.env) fp)) κ ifs wt)
    (he : ∀ (s : Shared) (H : Hp) (C : Addr) (cl : List (Str × Addr)) (fp : List Addr), DE (CxD.no (X.toCx.blk s H scope (compEnvC scope cl C X.env) fp)) κ elt we)
    (hv : valB κ (own.map (·.2)) = true := by rfl) (hts : subsetB (slots t) (own.map (·.2)) = true := by rfl) (hsl : apartB sl (own.map (·.2)) = true := by rfl) (hs : ∀ x, foldedSetIterable iter X.env x = pure x := by intro _; rfl) :
    DF X κ (.ListComp elt [⟨tg, iter, ifs, 0⟩] scope pos) (eLc wi t wt we (own.map (·.2))) :=
  have mt : MonoT wt := (ht {} (fun _ => none) 0 [] []).mono
  have me : Mono we := (he {} (fun _ => none) 0 [] []).mono
  have hg' : ∀ (s : Shared) (H : Hp) (C : Addr) (cl : List (Str × Addr)) (fp : List Addr), PG (CxD.no (X.toCx.blk s H scope (compEnvC scope cl C X.env) fp)) tg (fun v σ H Q => ∃ g, g.κ = κ ∧ rdG g t v σ H Q) := fun s H C cl fp => ⟨fun pins s2 σ H2 v u Q I r ⟨g, h1, q⟩ => ((hg s H C cl fp).pg g.no h1).run pins s2 σ H2 v u Q I r q⟩
  have ht' : ∀ (s : Shared) (H : Hp) (C : Addr) (cl : List (Str × Addr)) (fp : List Addr), PTs (CxD.no (X.toCx.blk s H scope (compEnvC scope cl C X.env) fp)) ifs (fun σ H Q => ∃ g, g.κ = κ ∧ rdT g wt σ H Q) := fun s H C cl fp => ⟨fun pins s2 σ H2 Q I ⟨g, h1, q⟩ => ((ht s H C cl fp).pt g.no h1).run pins s2 σ H2 Q I q⟩
  have he' : ∀ (s : Shared) (H : Hp) (C : Addr) (cl : List (Str × Addr)) (fp : List Addr), PE (CxD.no (X.toCx.blk s H scope (compEnvC scope cl C X.env) fp)) elt (fun σ H Q => ∃ g, g.κ = κ ∧ rdE g we σ H Q) := fun s H C cl fp => ⟨fun pins s2 σ H2 Q I ⟨g, h1, q⟩ => ((he s H C cl fp).pe g.no h1).run pins s2 σ H2 Q I q⟩
  ⟨fun g hgk => (pe_lc hc hN (hi.pi g hgk) ok hg' ht' he' hs).imp fun σ H Q q => lc_imp hgk hi.mono mt me (valB_ok hv) (subsetB_ok hts) (apartB_ok hsl) q, eLc_mono hi.mono mt me⟩
theorem ds_setLc {i : Nat} {y : Str} {py spos : Pos} (hc : X.calm = true) (hN : X.N.Nodup) (hi : DI X κ sl tg iter wi) (ok : BlkOk X.N X.env.scope scope own)
    (hg : ∀ (s : Shared) (H : Hp) (C : Addr) (cl : List (Str × Addr)) (fp : List Addr), DG (CxD.no (X.toCx.blk s H scope (compEnvC scope cl C X.env) fp)) κ tg t) (ht : ∀ (s : Shared) (H : Hp) (C : Addr) (cl : List (Str × Addr)) (fp : List Addr), DTs (CxD.no (X.toCx.blk s H scope (compEnvC scope cl C X.env) fp)) κ ifs wt)
    (he : ∀ (s : Shared) (H : Hp) (C : Addr) (cl : List (Str × Addr)) (fp : List Addr), DE (CxD.no (X.toCx.blk s H scope (compEnvC scope cl C X.env) fp)) κ elt we) (hsw : swapsWith (.ListComp elt [⟨tg, iter, ifs, 0⟩] scope pos) (some (.Name y py)) spos.line X.env = pure true)
    (hk : (decide (κ[i]? = some .own) || decide (κ[i]? = some .val)) = true := by rfl) (hy : X.N[i]? = some y := by rfl) (hyl : X.env.scope.names.lookup y = some .local := by rfl)
    (hv : valB κ (own.map (·.2)) = true := by rfl) (hts : subsetB (slots t) (own.map (·.2)) = true := by rfl) (hsl : apartB sl (own.map (·.2)) = true := by rfl) (hs : ∀ x, foldedSetIterable iter X.env x = pure x := by intro _; rfl) :
    DS X κ fr (.Assign [.Name y py] (.ListComp elt [⟨tg, iter, ifs, 0⟩] scope pos) spos) (sSet i (eLc wi t wt we (own.map (·.2)))) :=
  have mt : MonoT wt := (ht {} (fun _ => none) 0 [] []).mono
  have me : Mono we := (he {} (fun _ => none) 0 [] []).mono
  have hg' : ∀ (s : Shared) (H : Hp) (C : Addr) (cl : List (Str × Addr)) (fp : List Addr), PG (CxD.no (X.toCx.blk s H scope (compEnvC scope cl C X.env) fp)) tg (fun v σ H Q => ∃ g, g.κ = κ ∧ rdG g t v σ H Q) := fun s H C cl fp => ⟨fun pins s2 σ H2 v u Q I r ⟨g, h1, q⟩ => ((hg s H C cl fp).pg g.no h1).run pins s2 σ H2 v u Q I r q⟩
  have ht' : ∀ (s : Shared) (H : Hp) (C : Addr) (cl : List (Str × Addr)) (fp : List Addr), PTs (CxD.no (X.toCx.blk s H scope (compEnvC scope cl C X.env) fp)) ifs (fun σ H Q => ∃ g, g.κ = κ ∧ rdT g wt σ H Q) := fun s H C cl fp => ⟨fun pins s2 σ H2 Q I ⟨g, h1, q⟩ => ((ht s H C cl fp).pt g.no h1).run pins s2 σ H2 Q I q⟩
  have he' : ∀ (s : Shared) (H : Hp) (C : Addr) (cl : List (Str × Addr)) (fp : List Addr), PE (CxD.no (X.toCx.blk s H scope (compEnvC scope cl C X.env) fp)) elt (fun σ H Q => ∃ g, g.κ = κ ∧ rdE g we σ H Q) := fun s H C cl fp => ⟨fun pins s2 σ H2 Q I ⟨g, h1, q⟩ => ((he s H C cl fp).pe g.no h1).run pins s2 σ H2 Q I q⟩
  ⟨fun g hgk _ => (ps_setLc hc hN hy hyl hsw (hi.pi g hgk) ok hg' ht' he' hs).imp fun D σ H q => by
      have m := eLc_mono (t := t) (vs := own.map (·.2)) hi.mono mt me
      refine lc_imp hgk hi.mono mt me (valB_ok hv) (subsetB_ok hts) (apartB_ok hsl) ?_
      rcases (by simpa using hk : κ[i]? = some .own ∨ κ[i]? = some .val) with hk | hk
      · exact setF_imp m (by rw [hgk]; exact hk) q
      · obtain ⟨O, ε, A, q⟩ := q
        refine ⟨O, ε, A, m _ _ _ (fun d ε' z p H' O' A' x hp np ow => ?_) q⟩
        have nO : ¬ O p := A.nh np
        have nown : ¬ OwnAt O' g.κ σ p := A.unownN np hp
        refine z _ H' (OS.drop O' p) ((A'.drop nown (A.nO0 np)).set (by rw [hgk]; exact hk) ?_)
        exact Ow.toRp (fun _ z => OS.drop_1 z) ow fun a e z => z.2 (by cases e; rfl),
    sSet_mono (eLc_mono hi.mono mt me)⟩
end
theorem slF_inj {i j : Nat} (h : slF i = slF j) : i = j := by
  have := congrFun h ((List.replicate i none) ++ [some PyData.none])
  unfold slF at this
  by_cases e : i = j
  · exact e
  · rw [List.getElem?_append_right (by simp)] at this
    simp only [List.length_replicate, Nat.sub_self, List.getElem?_cons_zero, Option.join_some] at this
    by_cases l : j < i
    · rw [List.getElem?_append_left (by simpa using l), List.getElem?_replicate] at this
      simp [l] at this
    · rw [List.getElem?_eq_none (by simp; omega)] at this
      cases this
/-- an operand that is walked: what keeps it -/
theorem OR.src {g : Gx} {O : OS} {H : Hp} {σ : L2.St} {ε : En} {x : En → Option D} {v : V} {d : D} (A : Abs g O H σ ε) (h : OR H O σ x v) (e : x ε = some d) (hs : ∀ i, x = slF i → i ∈ sl) : ∃ hl : List (D × V), (∀ p ∈ hl, Rp H O p.1 p.2) ∧
    ∀ (g2 : Gx) (O2 : OS) (H2 : Hp) (σ2 : L2.St) (ε2 : En), Abs g2 O2 H2 σ2 ε2 → (∀ p ∈ hl, p ∈ g2.hold) → (∀ i ∈ sl, σ2[i]? = σ[i]?) → x ε2 = some d → Nb H2 O2 d v := by
  rcases h with ⟨d', rfl, r⟩ | ⟨i, rfl, s⟩
  · cases e
    refine ⟨[(d, v)], fun p hp => ?_, fun g2 O2 H2 σ2 ε2 A2 hh _ _ => (A2.hold _ (hh _ (List.mem_singleton_self _))).nb⟩
    have e : p = (d, v) := by simpa using hp
    rw [e]
    exact r
  · refine ⟨[], (fun p hp => nomatch hp), fun g2 O2 H2 σ2 ε2 A2 _ s2 e2 => ?_⟩
    have e2' : ε2[i]? = some (some d) := by
      unfold slF at e2
      cases q : ε2[i]? with
      | none => rw [q] at e2; cases e2
      | some o => rw [q] at e2; exact congrArg some e2
    obtain ⟨v', s', nb⟩ := A2.get e2'
    rw [s2 i (hs i rfl), s] at s'
    cases s'
    exact nb
def opIn (sl : List Nat) : Op → Bool
  | .ex _ => true
  | .nm i => sl.contains i
theorem oEv_src {o : Op} {ε : En} {Q : (En → Option D) → En → Prop} (h : opIn sl o = true) (m : MonoO o) (q : oEv o ε Q) : oEv o ε fun x ε' => (∀ i, x = slF i → i ∈ sl) ∧ Q x ε' := by
  cases o with
  | ex w =>
    refine m ε _ _ (fun d ε' z => ⟨fun i e => ?_, z⟩) q
    have := congrFun e []
    simp [slF] at this
  | nm j =>
    refine ⟨q.1, fun i e => ?_, q.2⟩
    rw [← slF_inj e]
    simpa [opIn] using h
end
end DL
namespace DL
open PySem PySem.Spec L2
theorem guards_deeper {A : Around} {env : Env} (h : A.guards = some []) : (A.deeper env).guards = some [] := by
  unfold Around.deeper
  exact h
structure FnG (P : Program) (w : World) (K : PySem.W.Frag) (mg : Str → Option Value) (base : Heap) (CX : CXT) (k : Nat) (f : Addr) (fd : FuncData) (ps : List Str) (sp : Sp) : Prop where
  lenG : ∀ vs H Q E, sp vs H Q E → vs.length = ps.length
  runG : ∀ (A : Around), Room k A → A.guards = some [] → ∀ (outer : List Env) (s : Shared) (H : Hp), Env0 P w K mg base A outer s H → ∀ (args : Args) (us : List Value) (vs : List V), BindsTo s fd args (ps.zip us) → Vals vs us →
    ∀ (Q : VK) (E : XK), sp vs H Q E → codeAny (model P w) A (.call (.ref f) args) (CR CX outer P w H s Q E) s
section
variable {P : Program} {w : World} {K : PySem.W.Frag} {mg : Str → Option Value} {base : Heap} {CX : CXT}
theorem fn_g {x qual : Str} {st : Stmt} {f : Addr} {fd : FuncData} {N ps : List Str} {k : Nat} {sp : Sp} (F : Fun K x qual st f fd) (S : FnScope N ps (defScope st)) (len : ∀ vs H Q E, sp vs H Q E → vs.length = ps.length)
    (walk : ∀ (cdv : Value) (A : Around) (outer : List Env) (s : Shared) (H : Hp) (vs : List V) (Q : VK) (E : XK), Room k (A.deeper (PyProof.Rows.envOfC qual (defScope st) s.heap.objs.size f cdv)) → (A.deeper (PyProof.Rows.envOfC qual (defScope st) s.heap.objs.size f cdv)).guards = some [] → sp vs H Q E →
      ∃ t, PSs (cxOf CX P w K mg base N qual (defScope st) f cdv A outer s H E) (defBody st) t ∧ t { nx := fun _ H' => Q .non H', rt := Q } (L2.start N vs) H) : FnG P w K mg base CX (k + 1) f fd ps sp := by
  obtain ⟨oc, od, kV, doc, pm, an, cdv, ct, osl, rfl, lk, hcd⟩ := F.ex
  refine ⟨len, fun A hr hg outer s H e0 args us vs hb hv Q E hsp => ?_⟩
  have up : ∀ b o, base.get? b = some o → s.heap.get? b = some o := fun b o z => (e0.bs b o z).1
  have KX : K.In s.heap := e0.mod.kin.keeps up
  obtain ⟨t, ht, hq⟩ := walk cdv A outer s H vs Q E (hr.deeper _) (guards_deeper hg) hsp
  refine Att.call_fn KX (e0.mod.nolimit.keeps up) lk hcd hr.depth hb ?_ (fun s1 ic => ?_) S.co S.gen S.kind
  · refine List.all_eq_true.mpr fun y hy => ?_
    obtain ⟨n, v⟩ := y
    rcases S.par n (List.of_mem_zip hy).1 with q | q <;> simp [q]
  · have I := inv_start (CX := CX) (E := E) S hr.hd e0 (len _ _ _ _ hsp) hv ic
    refine wpAny_mono (ht.run [] s1 _ H _ I hq) (fun fl s' z => ?_) fun _ _ z => z
    match fl, z with
    | .ret u, ⟨v, σ', H', J, rv, q⟩ => exact ⟨v, H', J.os, J.bare, J.base, J.hok, rv, q⟩
    | .next, ⟨σ', H', J, q⟩ => exact ⟨.non, H', J.os, J.bare, J.base, J.hok, rfl, q⟩
    | .brk, ⟨_, _, _, q⟩ => exact q.elim
    | .cont, ⟨_, _, _, q⟩ => exact q.elim
end
section
variable {X : Cx} {CX : CXT} {k : Nat} {f : Addr} {fd : FuncData} {ps : List Str} {sp : Sp} {E : XK} {x : Str} {p pos : Pos} {e : Expr} {es : List Expr} {t : TA}
theorem pe_callG (F : FnG X.prog X.w X.K X.mg X.base CX k f fd ps sp) (hr : Room k X.A) (hgd : X.A.guards = some []) (hg : Gl X x) (hm : X.mg x = some (.ref f)) (hk : PySem.W.keepIn X.K (.ref f) = true) (hb : Binds X.K fd ps []) (hx : Passes CX X E) (ha : PA X (e :: es) t)
    (hdb : (x == ("__debug__" : Str)) = false) (he : starEach (e :: es) X.env = (false, eval e X.env) :: starEach es X.env) (hpl : (backTo pos (starEach es X.env)).any (·.1) = false) :
    PE X (.Call (.Name x p) (e :: es) [] pos) (fun σ H Q => t σ H fun vs H1 => sp vs H1 Q E) := by
  refine ⟨fun pins s σ H Q I q => ?_⟩
  refine wpAny_Call_Name_kw (ld_glob I hg hm ?_ hdb)
  refine PySem.W.callWith_K (h₀ := X.base) I.ok.mod.kin hk ?_ he hpl
  refine thn (ha.run pos pins s σ H _ I q) fun us s1 z => ?_
  obtain ⟨vs, H1, I1, r, q1⟩ := z
  refine ⟨I1.kIn, ?_⟩
  have hl : us.length = ps.length := by rw [← r.length]; exact F.lenG _ _ _ _ q1
  have bt : BindsTo s1 fd ⟨us, []⟩ (ps.zip us) := by
    have z := hb s1 us I1.kIn (by rw [List.append_nil]; exact hl)
    rwa [List.append_nil] at z
  refine wpAny_call (codeAny_mono (F.runG X.A hr hgd X.stack s1 H1 I1.env0 ⟨us, []⟩ us vs bt r Q E q1) fun res s2 z2 => ?_)
  match res, z2 with
  | .error u, z2 => exact hx pins σ H1 s1 u s2 I1 z2
  | .ok (.ret u), z2 => exact I1.after z2
  | .ok .next, z2 => exact z2.elim
  | .ok .brk, z2 => exact z2.elim
  | .ok .cont, z2 => exact z2.elim
end
/-- the script alone is tracked, and locked -/
def ScrH (a : Addr) (o : Obj) (ns : List Int) : Hp := fun b => if b = a then some (.frz o (.lst (ns.map V.int))) else none
theorem walk_g {l : PySem.W.OpenLaw} {n k : Nat} {q : Program} {loose : List Str} {XP : (Str → Option Value) → Heap → Prop} {YP : World → Heap → Prop} {d : DefRec} {x : Str}
    (hn : l.most = some n) (hn2 : n ≤ sizeLine) (hdf : d.params.defaults = []) (hr : Room k callerA)
    (F : ∀ (w : World) (mg : Str → Option Value) (fa : Addr) (h : Heap), YP w h → h.Ns mainGlobals mg → mg d.name = some (.ref fa) →
      ∃ (K : PySem.W.Frag) (fd : FuncData) (sp : Sp), K.In h ∧ (∀ (s : Shared) (u : Value), BindsTo s fd ⟨[u], []⟩ [(x, u)]) ∧ (∀ (H : Hp) (a : Addr) (ns : List Int), ns.length ≤ n → SqL K H a (ns.map V.int) → sp [.ref a] H (fun v _ => v = .bl true) fun _ _ _ => False) ∧
        ∀ base : Heap, K.In base → base.Ns mainGlobals mg → FnG l.prog w K mg base CX0 k fa fd [x] sp) :
    PySem.W.WalkO q loose XP YP l.row.toRowW d [] (fun f vs => PySem.call f vs) := by
  refine Att.attach_call hn hdf fun w s₀ s₁ mg mb fa o pm cd doc a vs ns G Y ho hd hcd hmg hobj hints hlen hg => ?_
  obtain ⟨K, fd, sp, KX, hb, hsp, hF⟩ := F w mg fa _ Y G.T.g hmg
  have rv := vals_ints hints
  have lv := hints.length
  -- any abstract heap that tracks at most the script, as it stands
  suffices core : ∀ H : Hp, SqL K H a (ns.map V.int) → HOk l.prog w H s₁.heap → (∀ b u, H b = some u → b = a ∧ K.lookup b = none ∧ ∃ xs, u = .frz { cls := .type "list", data := .seq vs.toArray } (.lst xs)) →
      codeAny (model l.prog w) callerA (.call (.ref fa) ⟨[.ref a], []⟩) (fun r s' => r = .ok (.ret (.bool true)) ∧ OldK s₁.heap s'.heap ∧ s'.os = s₁.os ∧ PyProof.Rows.AllBare s'.gens) s₁ by
    cases hk : K.lookup a with
    | some ob =>
      have e := KX a ob hk
      rw [hobj] at e
      cases e
      refine core (fun _ => none) (.inr ⟨_, vs.toArray, _, hk, rfl, rfl, rfl, ?_, by simpa using rv⟩) (fun b u z => nomatch (show (none : Option HO) = some u from z)) fun b u z => nomatch (show (none : Option HO) = some u from z)
      rw [List.size_toArray, lv]
      exact Nat.le_trans hlen hn2
    | none =>
      refine core (ScrH a { cls := .type "list", data := .seq vs.toArray } ns) (.inl (.inr ⟨_, if_pos rfl⟩)) (fun b u z => ?_) fun b u z => ?_
      · unfold ScrH at z
        split at z
        · rename_i e
          cases z
          subst e
          exact ⟨hobj, by rw [List.length_map]; exact Nat.le_trans hlen hn2, vs, _, rv, hobj⟩
        · cases z
      · unfold ScrH at z
        split at z
        · rename_i e
          cases z
          subst e
          exact ⟨rfl, hk, _, rfl⟩
        · cases z
  intro H hS hok only
  -- what is not tracked
  have free : ∀ {b : Addr} {ob : Obj} {es : Array DictEntry} {ep : Nat}, s₁.heap.get? b = some ob → ob.data = .dict es ep → H b = none := fun {b ob es ep} e dd => by
    cases z : H b with
    | none => rfl
    | some u =>
      obtain ⟨rfl, _⟩ := only b u z
      rw [hobj] at e
      cases e
      cases dd
  have nsB : ∀ {b : Addr} {m : Str → Option Value}, s₁.heap.Ns b m → (hidT s₁.heap H).Ns b m := fun ⟨ob, es, ep, e, dd, r⟩ => ⟨ob, es, ep, hidT_get e (free e dd), dd, r⟩
  have hKb : K.In (hidT s₁.heap H) := fun b ob e => hidT_get (KX b ob e) (by
    cases z : H b with
    | none => rfl
    | some u =>
      obtain ⟨_, z2, _⟩ := only b u z
      rw [z2] at e
      cases e)
  obtain ⟨mc, h1, h2⟩ := G.T.nolimit
  have e0 : Env0 l.prog w K mg (hidT s₁.heap H) callerA [] s₁ H := by
    refine ⟨rfl, ⟨hKb, nsB G.T.g, ⟨mb, nsB G.T.b, G.T.builtins⟩, mc, nsB h1, h2⟩, fun b ob e => of_hidT e, Nat.le_of_eq (hidT_size _ _), trivial, fun b hb => ?_, hok, .of_eq hg⟩
    exact absurd (show b ∈ ([] : List Addr) from hb) (by simp)
  refine codeAny_mono ((hF _ hKb (nsB G.T.g)).runG callerA hr rfl [] s₁ H e0 ⟨[.ref a], []⟩ [.ref a] [.ref a] (hb s₁ (.ref a)) (.cons rfl .nil) _ _ (hsp H a ns hlen hS)) fun r s' z => ?_
  match r, z with
  | .error e, z => exact (show False from z).elim
  | .ok .next, z => exact z.elim
  | .ok .brk, z => exact z.elim
  | .ok .cont, z => exact z.elim
  | .ok (.ret u), ⟨v, H', os, bare, un, hok', rv', q'⟩ =>
    have q' : v = .bl true := q'
    subst q'
    have rv' : u = Value.bool true := rv'
    subst rv'
    refine ⟨rfl, OldK.of_keep fun b ob e => ?_, os, bare⟩
    cases z : H b with
    | none => exact un.keep b ob e z (by intro y; exact absurd (show b ∈ ([] : List Addr) from y) (by simp)) (by simp)
    | some u =>
      obtain ⟨rfl, _, xs, rfl⟩ := only b u z
      obtain ⟨e2, _⟩ := hok' b _ (un.frzs b _ _ z)
      rw [hobj] at e
      cases e
      exact e2
end DL
namespace DL
open PySem PySem.Spec L2
section
variable {g : Gx} {O O' : OS} {H H' : Hp} {σ : L2.St} {ε ε' : En}
theorem Abs.mutsM (A : Abs g O H σ ε) {S : List Addr} {Mx : Addr → Prop} (hMx : ∀ b, Mx b → O.m b) (hS : ∀ a ∈ S, SlotAt g.κ σ a) (k : ∀ b o, H b = some o → b ∉ S → ¬ Mx b → H' b = some o) (so : ∀ b, H b ≠ none → H' b ≠ none) (hl : ε'.length = ε.length)
    (hε : ∀ (j : Nat) (d : D), ε'[j]? = some (some d) → (∃ a, mu g.κ j ∧ σ[j]? = some (some (.ref a)) ∧ a ∈ S ∧ Ow H' O' d (.ref a)) ∨ (∃ v, σ[j]? = some (some v) ∧ (g.κ[j]? = some .st ∨ g.κ[j]? = some .sl) ∧ OwS H' O' d v) ∨ (ε[j]? = some (some d) ∧ (∀ a, mu g.κ j → σ[j]? = some (some (.ref a)) → a ∉ S) ∧ (g.κ[j]? = some .st ∨ g.κ[j]? = some .sl → ∀ b, ¬ Mx b)))
    (w : ∀ a, O' a → O a ∨ H a = none) (mo : ∀ a, O a → O' a) (hn : ∀ a, O' a → H' a ≠ none) (wm : ∀ a, O'.m a → O.m a ∨ H a = none := by exact fun _ z => .inl z) (mm : ∀ a, O.m a → O'.m a := by exact fun _ z => z) (mo' : ∀ a, O'.m a → O' a := by assumption) : Abs g O' H' σ ε' := by
  have hO : ∀ a ∈ S, O a := fun a h => A.ownO a (.inl (hS a h))
  have nm : ∀ a ∈ S, ¬ O.m a := fun a h => let ⟨i, hi, ei⟩ := hS a h; A.apm i a hi ei
  have kO : ∀ b o, H b = some o → ¬ O b → H' b = some o := fun b o e n => k b o e (fun z => n (hO b z)) fun z => n (A.ownO b (.inr (hMx b z)))
  exact { A with
    slot := fun j d ej => by
      rcases hε j d ej with ⟨a, hj, ea, ha, ow⟩ | ⟨v, ev, hk, os⟩ | ⟨ej, n, n2⟩
      · rcases hj with hj | hj
        · exact ⟨.ref a, .own, ea, hj, ow⟩
        · exact ⟨.ref a, .io, ea, hj, ow⟩
      · rcases hk with hk | hk
        · exact ⟨v, .st, ev, hk, os⟩
        · exact ⟨v, .sl, ev, hk, os⟩
      · obtain ⟨v, kd, e1, e2, s⟩ := A.slot j d ej
        refine ⟨v, kd, e1, e2, ?_⟩
        have oth : mu g.κ j → ∀ b o, v = .ref b → H b = some o → H' b = some o := fun hj b o ev eb => k b o eb (n b hj (by rw [e1, ev])) fun z => A.apm j b hj (by rw [e1, ev]) (hMx b z)
        cases kd with
        | val => exact Rp.ext kO w s
        | own => exact Ow.ext kO w (oth (.inl e2)) mo s
        | io => exact Ow.ext kO w (oth (.inr e2)) mo s
        | st => exact OwS.ext kO w (fun b o m eb => k b o eb (fun z => nm b z m) (n2 (.inl e2) b)) mm s
        | sl => exact OwS.ext kO w (fun b o m eb => k b o eb (fun z => nm b z m) (n2 (.inr e2) b)) mm s
        | brw =>
          have nb : ∀ b, v = .ref b → b ∉ S := fun b ev z => by
            obtain ⟨n0, nio, _⟩ := A.brwA j b e2 (by rw [e1, ev])
            obtain ⟨i, hi, ei⟩ := hS b z
            rcases hi with hi | hi
            · exact n0 (A.new i b hi ei)
            · obtain ⟨c, hc⟩ := A.ioA i hi
              have := A.ioS i c hc
              rw [ei] at this
              cases this
              exact nio i hc
          have nx : ∀ b, v = .ref b → ¬ Mx b := fun b ev z => by
            obtain ⟨n0, _, n1⟩ := A.brwA j b e2 (by rw [e1, ev])
            exact (A.newm b (hMx b z)).elim n0 n1
          match d, s with
          | .none, h => exact h
          | .bool _, h => exact h
          | .int _, h => exact h
          | .str _, h => exact h
          | .list _, ⟨b, xs, ev, r, q⟩ => exact ⟨b, xs, ev, k _ _ r (nb b ev) (nx b ev), RpL.ext kO w q⟩
          | .tuple _, ⟨b, xs, ev, r, q⟩ => exact ⟨b, xs, ev, rd_keep (fun o z => k _ o z (nb b ev) (nx b ev)) r, RpL.ext kO w q⟩
          | .dict _, ⟨b, u, ev, r, q⟩ => exact ⟨b, u, ev, k _ _ r (nb b ev) (nx b ev), RpE.ext kO w q⟩
    ownO := fun a z => z.elim (fun z => mo a (A.ownO a (.inl z))) (mo' a)
    apm := fun i a hi e z => (wm a z).elim (A.apm i a hi e) fun z => A.unslot z ⟨i, hi, e⟩
    newm := fun a z => (wm a z).elim (A.newm a) fun z => .inl (A.n0 z)
    has := hn
    sub := fun a z => mo a (A.sub a z)
    subm := fun a z => mm a (A.subm a z)
    fr := fun b o eb n n2 => by
      refine k b o (A.fr b o eb n n2) (fun z => ?_) fun z => (A.newm b (hMx b z)).elim (fun z => by rw [z] at eb; cases eb) n2
      obtain ⟨i, hi, ei⟩ := hS b z
      rcases hi with hi | hi
      · rw [A.new i b hi ei] at eb
        cases eb
      · obtain ⟨c, hc⟩ := A.ioA i hi
        have := A.ioS i c hc
        rw [ei] at this
        cases this
        exact n i hc
    hold := fun p hp => Rp.ext kO w (A.hold p hp)
    len := hl.trans A.len }
theorem mut_ext {κ : List Kd} {i : Nat} (hk : mu κ i) {a : Addr} (e : σ[i]? = some (some (.ref a))) (k : ∀ b o, b ≠ a → H b = some o → H' b = some o) (hs : H' a ≠ none) : Ext κ σ O H O H' :=
  ⟨fun b o eb n => k b o (fun z => n (Or.inl ⟨i, hk, by rw [e, z]⟩)) eb, fun _ z => .inl z, fun _ z => z, (fun b h => by
    by_cases q : b = a
    · rw [q]; exact hs
    · cases e : H b with
      | none => exact (h e).elim
      | some o => exact hp_some (k b o q e)), fun _ z => .inl z, fun _ z => z⟩
end
abbrev DSp := List D → (D → List D → Prop) → Prop
def MonoD (sp : DSp) : Prop := ∀ ds (Q Q' : D → List D → Prop), (∀ d o, Q d o → Q' d o) → sp ds Q → sp ds Q'
def ArgsOk (H : Hp) (O : OS) : List Kd → List D → List V → Prop
  | [], ds, vs => ds = [] ∧ vs = []
  | k :: ks, ds, vs => ∃ d r v vr, ds = d :: r ∧ vs = v :: vr ∧ SlotOk H O k d v ∧ ArgsOk H O ks r vr
def ioL : List Kd → List V → List Addr
  | .io :: ks, .ref a :: vs => a :: ioL ks vs
  | _ :: ks, _ :: vs => ioL ks vs
  | _, _ => []
/-- what a def may change and hands back -/
def Kd.out : Kd → Bool
  | .io => true
  | .st => true
  | _ => false
def Outs (H : Hp) (O : OS) : List Kd → List V → List D → Prop
  | [], _, outs => outs = []
  | k :: ks, vs, outs => ∃ v vr, vs = v :: vr ∧ if k.out = true then ∃ d r, outs = d :: r ∧ SlotOk H O k d v ∧ Outs H O ks vr r else Outs H O ks vr outs
structure ArgsIn (H : Hp) (O : OS) (pk : List Kd) (ds : List D) (vs : List V) : Prop where
  ok : ArgsOk H O pk ds vs
  nd : (ioL pk vs).Nodup
  brw : ∀ (i : Nat) (b : Addr), pk[i]? = some .brw → vs[i]? = some (.ref b) → b ∉ ioL pk vs
  has : ∀ a, O a → H a ≠ none
  hasm : ∀ a, O.m a → O a
  apm : ∀ a ∈ ioL pk vs, ¬ O.m a
  brm : ∀ (i : Nat) (b : Addr), pk[i]? = some .brw → vs[i]? = some (.ref b) → ¬ O.m b
/-- the result and what the io arguments hold now -/
def RetC (fr : Bool) (H : Hp) (O : OS) (H' : Hp) (pk : List Kd) (vs : List V) (outs : List D) (d : D) (v : V) : Prop := ∃ Om : Addr → Prop, ((∀ a, O.m a → Om a) ∧ (∀ a, Om a → O.m a ∨ H a = none) ∧ ∀ a, Om a → H' a ≠ none) ∧
  if fr = true then ∃ p, v = .ref p ∧ H p = none ∧ ¬ Om p ∧ Ow H' (OS.add (OS.grow O Om) p) d v ∧ Outs H' (OS.add (OS.grow O Om) p) pk vs outs else Rp H' (OS.grow O Om) d v ∧ Outs H' (OS.grow O Om) pk vs outs
def spD (pk : List Kd) (fr : Bool) (sp : DSp) : Sp := fun vs H Q _ => ∃ O ds, ArgsIn H O pk ds vs ∧ sp ds fun d outs => ∀ v H', (∀ b o, H b = some o → b ∉ ioL pk vs → ¬ O.m b → H' b = some o) → (∀ b, H b ≠ none → H' b ≠ none) →
  RetC fr H O H' pk vs outs d v → Q v H'
theorem ArgsOk.len {H : Hp} {O : OS} : ∀ {pk : List Kd} {ds : List D} {vs : List V}, ArgsOk H O pk ds vs → vs.length = pk.length ∧ ds.length = pk.length
  | [], _, _, ⟨e1, e2⟩ => by subst e1 e2; exact ⟨rfl, rfl⟩
  | k :: ks, _, _, ⟨d, r, v, vr, e1, e2, _, h⟩ => by
    subst e1 e2
    obtain ⟨h1, h2⟩ := ArgsOk.len h
    exact ⟨by rw [List.length_cons, List.length_cons, h1], by rw [List.length_cons, List.length_cons, h2]⟩
theorem ArgsOk.get {H : Hp} {O : OS} : ∀ {pk : List Kd} {ds : List D} {vs : List V} {i : Nat} {d : D}, ArgsOk H O pk ds vs → ds[i]? = some d → ∃ v k, vs[i]? = some v ∧ pk[i]? = some k ∧ SlotOk H O k d v
  | [], _, _, i, d, ⟨e1, e2⟩, h => by subst e1; simp at h
  | k :: ks, _, _, 0, d, ⟨d', r, v, vr, e1, e2, s, _⟩, h => by
    subst e1 e2
    have e : d' = d := by simpa using h
    subst e
    exact ⟨v, k, rfl, rfl, s⟩
  | k :: ks, _, _, i + 1, d, ⟨d', r, v, vr, e1, e2, _, q⟩, h => by
    subst e1 e2
    obtain ⟨v', k', h1, h2, h3⟩ := ArgsOk.get (i := i) q (by simpa using h)
    exact ⟨v', k', by simpa using h1, by simpa using h2, h3⟩
theorem ioL_mem : ∀ {pk : List Kd} {vs : List V} {a : Addr}, a ∈ ioL pk vs ↔ ∃ i : Nat, pk[i]? = some .io ∧ vs[i]? = some (.ref a)
  | [], vs, a => by
    constructor
    · intro h; cases vs <;> simp [ioL] at h
    · rintro ⟨i, h, _⟩; simp at h
  | k :: ks, [], a => by
    constructor
    · intro h; cases k <;> simp [ioL] at h
    · rintro ⟨i, _, h⟩; simp at h
  | k :: ks, v :: vs, a => by
    have ih := ioL_mem (pk := ks) (vs := vs) (a := a)
    have tail : (∃ i : Nat, (k :: ks)[i]? = some .io ∧ (v :: vs)[i]? = some (.ref a)) ↔ (k = .io ∧ v = .ref a) ∨ a ∈ ioL ks vs := by
      rw [ih]
      constructor
      · rintro ⟨i, h1, h2⟩
        cases i with
        | zero => exact .inl ⟨by simpa using h1, by simpa using h2⟩
        | succ i => exact .inr ⟨i, by simpa using h1, by simpa using h2⟩
      · rintro (⟨rfl, rfl⟩ | ⟨i, h1, h2⟩)
        · exact ⟨0, rfl, rfl⟩
        · exact ⟨i + 1, by simpa using h1, by simpa using h2⟩
    rw [tail]
    cases k <;> cases v <;> simp [ioL, eq_comm]
def outsD : List Kd → En → Option (List D)
  | [], _ => some []
  | .io :: ks, (some d) :: ε => (outsD ks ε).map (d :: ·)
  | .st :: ks, (some d) :: ε => (outsD ks ε).map (d :: ·)
  | .val :: ks, _ :: ε => outsD ks ε
  | .brw :: ks, _ :: ε => outsD ks ε
  | .own :: ks, _ :: ε => outsD ks ε
  | .sl :: ks, _ :: ε => outsD ks ε
  | _, _ => none
def endsD (pk : List Kd) (fr : Bool) (Q : D → List D → Prop) : WEnds where
  nx := fun ε => fr = false ∧ ∃ outs, outsD pk ε = some outs ∧ Q .none outs
  rt := fun d ε => ∃ outs, outsD pk ε = some outs ∧ Q d outs
  bk := fun _ => False
  ct := fun _ => False
def startE (n : Nat) (ds : List D) : En := ds.map some ++ List.replicate (n - ds.length) none
def ioAt : Nat → List Kd → List V → List (Nat × Addr)
  | n, .io :: ks, .ref a :: vs => (n, a) :: ioAt (n + 1) ks vs
  | n, .st :: ks, .ref a :: vs => (n, a) :: ioAt (n + 1) ks vs
  | n, _ :: ks, _ :: vs => ioAt (n + 1) ks vs
  | _, _, _ => []
theorem ioAt_mem : ∀ {pk : List Kd} {vs : List V} {n i : Nat} {a : Addr}, (i, a) ∈ ioAt n pk vs ↔ ∃ (j : Nat) (k : Kd), i = n + j ∧ pk[j]? = some k ∧ k.out = true ∧ vs[j]? = some (.ref a)
  | [], vs, n, i, a => by
    constructor
    · intro h; cases vs <;> simp [ioAt] at h
    · rintro ⟨j, _, _, h, _⟩; simp at h
  | k :: ks, [], n, i, a => by
    constructor
    · intro h; cases k <;> simp [ioAt] at h
    · rintro ⟨j, _, _, _, _, h⟩; simp at h
  | k :: ks, v :: vs, n, i, a => by
    have ih := ioAt_mem (pk := ks) (vs := vs) (n := n + 1) (i := i) (a := a)
    have tail : (∃ (j : Nat) (k' : Kd), i = n + j ∧ (k :: ks)[j]? = some k' ∧ k'.out = true ∧ (v :: vs)[j]? = some (.ref a)) ↔ (i = n ∧ k.out = true ∧ v = .ref a) ∨ (i, a) ∈ ioAt (n + 1) ks vs := by
      rw [ih]
      constructor
      · rintro ⟨j, k', h0, h1, ho, h2⟩
        cases j with
        | zero =>
          have e : k = k' := by simpa using h1
          subst e
          exact .inl ⟨h0, ho, by simpa using h2⟩
        | succ j => exact .inr ⟨j, k', by omega, by simpa using h1, ho, by simpa using h2⟩
      · rintro (⟨rfl, ho, rfl⟩ | ⟨j, k', h0, h1, ho, h2⟩)
        · exact ⟨0, k, rfl, rfl, ho, rfl⟩
        · exact ⟨j + 1, k', by omega, by simpa using h1, ho, by simpa using h2⟩
    rw [tail]
    cases k <;> cases v <;> simp [ioAt, eq_comm, Kd.out]
theorem start_get {N : List Str} {vs : List V} {i : Nat} {v : V} : (L2.start N vs)[i]? = some (some v) ↔ vs[i]? = some v := by
  unfold L2.start
  by_cases h : i < vs.length
  · rw [List.getElem?_append_left (by rw [List.length_map]; exact h), List.getElem?_map, List.getElem?_eq_getElem h]
    simp
  · rw [List.getElem?_append_right (by rw [List.length_map]; omega), List.getElem?_replicate, List.getElem?_eq_none (by omega)]
    constructor
    · intro z; split at z <;> cases z
    · intro z; cases z
theorem startE_get {n : Nat} {ds : List D} {i : Nat} {d : D} : (startE n ds)[i]? = some (some d) ↔ ds[i]? = some d := by
  unfold startE
  by_cases h : i < ds.length
  · rw [List.getElem?_append_left (by rw [List.length_map]; exact h), List.getElem?_map, List.getElem?_eq_getElem h]
    simp
  · rw [List.getElem?_append_right (by rw [List.length_map]; omega), List.getElem?_replicate, List.getElem?_eq_none (by omega)]
    constructor
    · intro z; split at z <;> cases z
    · intro z; cases z
/-- io and brw stand among the parameters alone -/
def kindsB (pk κ : List Kd) : Bool := pk.isPrefixOf κ && (κ.drop pk.length).all (fun k => k == .val || k == .own || k == .sl) && pk.all (fun k => k != .own && k != .sl)
theorem abs_start {H : Hp} {O : OS} {pk κ : List Kd} {ds : List D} {vs : List V} {N : List Str} {fr : Bool} (h : ArgsIn H O pk ds vs) (hk : kindsB pk κ = true) (hl : κ.length = N.length) :
    Abs ⟨κ, H, O, ioAt 0 pk vs, [], fr, none⟩ O H (L2.start N vs) (startE N.length ds) := by
  unfold kindsB at hk
  simp only [Bool.and_eq_true, List.isPrefixOf_iff_prefix] at hk
  obtain ⟨⟨⟨κr, rfl⟩, hr⟩, hp⟩ := hk
  rw [List.drop_left] at hr
  have hr' : ∀ (i : Nat) k, κr[i]? = some k → k = .val ∨ k = .own ∨ k = .sl := fun i k e => by simpa [or_assoc] using List.all_eq_true.mp hr k (List.mem_of_getElem? e)
  have hp' : ∀ (i : Nat) k, pk[i]? = some k → k ≠ .own ∧ k ≠ .sl := fun i k e => by simpa using List.all_eq_true.mp hp k (List.mem_of_getElem? e)
  obtain ⟨l1, l2⟩ := h.ok.len
  have lN : pk.length ≤ N.length := by rw [← hl, List.length_append]; omega
  have ls : (L2.start N vs).length = N.length := by unfold L2.start; rw [List.length_append, List.length_map, List.length_replicate]; omega
  -- a defined slot is a parameter
  have par : ∀ {i : Nat} {v : V} {k : Kd}, (L2.start N vs)[i]? = some (some v) → (pk ++ κr)[i]? = some k → vs[i]? = some v ∧ pk[i]? = some k := fun {i v k} e e2 => by
    have e' := start_get.mp e
    have hi : i < pk.length := by rw [← l1]; exact (List.getElem?_eq_some_iff.mp e').1
    rw [List.getElem?_append_left hi] at e2
    exact ⟨e', e2⟩
  have muio : ∀ {i : Nat} {a : Addr}, mu (pk ++ κr) i → (L2.start N vs)[i]? = some (some (.ref a)) → pk[i]? = some .io ∧ vs[i]? = some (.ref a) := fun {i a} hm e => by
    rcases hm with hm | hm
    · exact absurd rfl (hp' i _ (par e hm).2).1
    · exact ⟨(par e hm).2, (par e hm).1⟩
  have owO : ∀ {i : Nat} {a : Addr}, pk[i]? = some .io → vs[i]? = some (.ref a) → O a := fun {i a} h1 h2 => by
    have hi : i < ds.length := by rw [l2]; exact (List.getElem?_eq_some_iff.mp h1).1
    obtain ⟨v, k, e1, e2, s⟩ := h.ok.get (List.getElem?_eq_getElem hi)
    rw [h1] at e2
    cases e2
    rw [h2] at e1
    cases e1
    have s : Ow H O ds[i] (.ref a) := s
    match ds[i], s with
    | .list _, ⟨b, xs, e, n, _⟩ => cases e; exact n
    | .dict _, ⟨b, _, e, n, _⟩ => cases e; exact n
  have stO : ∀ {i : Nat} {a : Addr}, pk[i]? = some .st → vs[i]? = some (.ref a) → O.m a := fun {i a} h1 h2 => by
    have hi : i < ds.length := by rw [l2]; exact (List.getElem?_eq_some_iff.mp h1).1
    obtain ⟨v, k, e1, e2, s⟩ := h.ok.get (List.getElem?_eq_getElem hi)
    rw [h1] at e2
    cases e2
    rw [h2] at e1
    cases e1
    obtain ⟨b, e, m⟩ := OwS.adr (show OwS H O ds[i] (.ref a) from s)
    cases e
    exact m
  refine ⟨fun i d e => ?_, fun a z => z.elim (fun ⟨i, hm, e⟩ => ?_) (h.hasm a), fun i a hm e => h.apm a (ioL_mem.mpr ⟨i, (muio hm e).1, (muio hm e).2⟩), fun i j a hi hj e e' => ?_, fun i b hk e => ?_, fun i a hk e => ?_, fun a z => .inr z, h.has, h.has, fun _ z => z, fun _ z => z, fun i a hi => ?_, fun i a hi => ?_, fun i a hi => ?_, fun i hk => ?_, fun _ _ e _ _ => e, (fun p hp => nomatch hp), ?_, ?_, (fun _ z => nomatch z)⟩
  · obtain ⟨v, k, e1, e2, s⟩ := h.ok.get (startE_get.mp e)
    refine ⟨v, k, start_get.mpr e1, ?_, s⟩
    show (pk ++ κr)[i]? = some k
    rw [List.getElem?_append_left (List.getElem?_eq_some_iff.mp e2).1, e2]
  · exact owO (muio hm e).1 (muio hm e).2
  · obtain ⟨h1, h2⟩ := muio hi e
    obtain ⟨h3, h4⟩ := muio hj e'
    -- no address twice
    have nd := h.nd
    have : ∀ {pk : List Kd} {vs : List V}, (ioL pk vs).Nodup → ∀ {i j : Nat} {a : Addr}, pk[i]? = some .io → vs[i]? = some (.ref a) → pk[j]? = some .io → vs[j]? = some (.ref a) → i = j := by
      intro pk
      induction pk with
      | nil => intro vs _ i j a h; simp at h
      | cons k ks ih =>
        intro vs nd i j a h1 h2 h3 h4
        cases vs with
        | nil => simp at h2
        | cons v vs =>
          have ndt : (ioL ks vs).Nodup := by
            cases k <;> cases v <;> first | exact nd | exact (List.nodup_cons.mp nd).2
          cases i with
          | zero =>
            cases j with
            | zero => rfl
            | succ j =>
              have e1 : k = .io := by simpa using h1
              have e2 : v = .ref a := by simpa using h2
              subst e1 e2
              have : a ∈ ioL ks vs := ioL_mem.mpr ⟨j, by simpa using h3, by simpa using h4⟩
              exact absurd this (List.nodup_cons.mp nd).1
          | succ i =>
            cases j with
            | zero =>
              have e1 : k = .io := by simpa using h3
              have e2 : v = .ref a := by simpa using h4
              subst e1 e2
              have : a ∈ ioL ks vs := ioL_mem.mpr ⟨i, by simpa using h1, by simpa using h2⟩
              exact absurd this (List.nodup_cons.mp nd).1
            | succ j => exact congrArg Nat.succ (ih ndt (i := i) (j := j) (a := a) (by simpa using h1) (by simpa using h2) (by simpa using h3) (by simpa using h4))
    exact this nd h1 h2 h3 h4
  · obtain ⟨h1, h2⟩ := par e hk
    refine ⟨?_, fun j hj => ?_, h.brm i b h2 h1⟩
    · have hi : i < ds.length := by rw [l2]; exact (List.getElem?_eq_some_iff.mp h2).1
      obtain ⟨v, k, e1, e2, s⟩ := h.ok.get (List.getElem?_eq_getElem hi)
      rw [h2] at e2
      cases e2
      rw [h1] at e1
      cases e1
      have s : NbC H O ds[i] (.ref b) := s
      match ds[i], s with
      | .none, e => cases (show V.ref b = .non from e)
      | .bool _, e => cases (show V.ref b = .bl _ from e)
      | .int _, e => cases (show V.ref b = .int _ from e)
      | .str _, e => cases (show V.ref b = .str _ from e)
      | .list _, ⟨c, xs, e, n, _⟩ => cases e; exact hp_some n
      | .tuple _, ⟨c, xs, e, n, _⟩ => cases e; exact rd_some n
      | .dict _, ⟨c, _, e, n, _⟩ => cases e; exact hp_some n
    · obtain ⟨m, k, _, h3, ho, h4⟩ := ioAt_mem.mp hj
      cases k <;> first | (exact absurd ho (by decide)) | skip
      · exact h.brw i b h2 h1 (ioL_mem.mpr ⟨m, h3, h4⟩)
      · exact h.brm i b h2 h1 (stO h3 h4)
  · exact absurd rfl (hp' i _ (par e hk).2).1
  · obtain ⟨m, k, _, h3, ho, h4⟩ := ioAt_mem.mp hi
    cases k <;> first | (exact absurd ho (by decide)) | skip
    · exact owO h3 h4
    · exact h.hasm a (stO h3 h4)
  · obtain ⟨m, k, e, h3, ho, h4⟩ := ioAt_mem.mp hi
    have e : i = m := by omega
    subst e
    show (pk ++ κr)[i]? = some .io ∨ (pk ++ κr)[i]? = some .st
    rw [List.getElem?_append_left (List.getElem?_eq_some_iff.mp h3).1, h3]
    cases k <;> first | (exact absurd ho (by decide)) | (exact .inl rfl) | exact .inr rfl
  · obtain ⟨m, k, e, h3, ho, h4⟩ := ioAt_mem.mp hi
    have e : i = m := by omega
    subst e
    exact start_get.mpr h4
  · have hk : (pk ++ κr)[i]? = some .io := hk
    by_cases hi : i < pk.length
    · rw [List.getElem?_append_left hi] at hk
      have hid : i < ds.length := by rw [l2]; exact hi
      obtain ⟨v, k, e1, e2, s⟩ := h.ok.get (List.getElem?_eq_getElem hid)
      rw [hk] at e2
      cases e2
      have s : Ow H O ds[i] v := s
      obtain ⟨a, rfl⟩ : ∃ a, v = .ref a := by
        match ds[i], s with
        | .list _, ⟨b, xs, e, _⟩ => exact ⟨b, e⟩
        | .dict _, ⟨b, _, e, _⟩ => exact ⟨b, e⟩
      exact ⟨a, ioAt_mem.mpr ⟨i, .io, by omega, hk, rfl, e1⟩⟩
    · rw [List.getElem?_append_right (by omega)] at hk
      rcases hr' _ _ hk with z | z | z <;> cases z
  · unfold startE
    rw [ls, List.length_append, List.length_map, List.length_replicate]
    omega
  · show (pk ++ κr).length = _
    rw [ls, hl]
theorem outs_of {H : Hp} {O : OS} {κ pk : List Kd} {vs : List V} {σ : L2.St} : ∀ {n : Nat} {ks : List Kd} {us : List V} {ε : En} {outs : List D}, us.length = ks.length → outsD ks (ε.drop n) = some outs → (∀ (j : Nat) (d : D) (k : Kd) (u : V), ks[j]? = some k → k.out = true → us[j]? = some u → ε[n + j]? = some (some d) → SlotOk H O k d u) → Outs H O ks us outs
  | n, [], us, ε, outs, hl, h, _ => by
    have e : some [] = some outs := h
    exact (Option.some.inj e).symm
  | n, k :: ks, [], ε, outs, hl, h, _ => by cases hl
  | n, k :: ks, u :: us, ε, outs, hl, h, ok => by
    cases e : ε.drop n with
    | nil =>
      rw [e] at h
      cases k <;> cases (show none = some outs from h)
    | cons o r =>
      rw [e] at h
      have er : ε.drop (n + 1) = r := by rw [← List.tail_drop, e]; rfl
      have e0 : ε[n]? = some o := by
        have : (ε.drop n)[0]? = some o := by rw [e]; rfl
        rw [List.getElem?_drop] at this
        exact this
      have rc : ∀ {outs}, outsD ks r = some outs → Outs H O ks us outs := fun h' => outs_of (κ := κ) (pk := pk) (vs := vs) (σ := σ) (n := n + 1) (Nat.succ.inj hl) (by rw [er]; exact h') (fun j d k u h1 h0 h2 h3 => ok (j + 1) d k u (by simpa using h1) h0 (by simpa using h2) (by rw [← h3]; congr 1; omega))
      refine ⟨u, us, rfl, ?_⟩
      cases k with
      | val => exact rc h
      | brw => exact rc h
      | own => exact rc h
      | sl => exact rc h
      | io =>
        rw [if_pos (show Kd.io.out = true from rfl)]
        cases o with
        | none => cases (show none = some outs from h)
        | some d =>
          obtain ⟨o', h1, h2⟩ := Option.map_eq_some_iff.mp (show (outsD ks r).map (d :: ·) = some outs from h)
          exact ⟨d, o', h2.symm, ok 0 d .io u rfl rfl rfl e0, rc h1⟩
      | st =>
        rw [if_pos (show Kd.st.out = true from rfl)]
        cases o with
        | none => cases (show none = some outs from h)
        | some d =>
          obtain ⟨o', h1, h2⟩ := Option.map_eq_some_iff.mp (show (outsD ks r).map (d :: ·) = some outs from h)
          exact ⟨d, o', h2.symm, ok 0 d .st u rfl rfl rfl e0, rc h1⟩
/-- the end of a def, from what stands then -/
theorem abs_fin {H : Hp} {O : OS} {pk κ : List Kd} {ds : List D} {vs : List V} {fr : Bool} {hl : List (D × V)} (a : ArgsIn H O pk ds vs) (hk : kindsB pk κ = true) {d : D} {outs : List D} {ε : En} {v : V} {H' : Hp} {σ : L2.St} {O' : OS} {Q : VK} (A' : Abs ⟨κ, H, O, ioAt 0 pk vs, hl, fr, none⟩ O' H' σ ε)
    (r : RetOk ⟨κ, H, O, ioAt 0 pk vs, hl, fr, none⟩ O' H' d v) (e : outsD pk ε = some outs) (q : ∀ v H', (∀ b o, H b = some o → b ∉ ioL pk vs → ¬ O.m b → H' b = some o) → (∀ b, H b ≠ none → H' b ≠ none) → RetC fr H O H' pk vs outs d v → Q v H') : Q v H' := by
  have lv := a.ok.len
  have prm : ∀ (j : Nat) (k : Kd), pk[j]? = some k → κ[j]? = some k := fun j k h1 => by
    unfold kindsB at hk
    simp only [Bool.and_eq_true, List.isPrefixOf_iff_prefix] at hk
    obtain ⟨⟨⟨κr, rfl⟩, _⟩, _⟩ := hk
    rw [List.getElem?_append_left (List.getElem?_eq_some_iff.mp h1).1, h1]
  have kk : ∀ b o, H b = some o → b ∉ ioL pk vs → ¬ O.m b → H' b = some o := fun b o eb n nm => by
    refine A'.fr b o eb (fun i hi => ?_) nm
    obtain ⟨j, k, _, h1, ho, h2⟩ := ioAt_mem.mp hi
    cases k <;> first | (exact absurd ho (by decide)) | skip
    · exact n (ioL_mem.mpr ⟨j, h1, h2⟩)
    · have hi' : j < ds.length := by rw [lv.2]; exact (List.getElem?_eq_some_iff.mp h1).1
      obtain ⟨v', k', e1, e2, s⟩ := a.ok.get (List.getElem?_eq_getElem hi')
      rw [h1] at e2
      cases e2
      rw [h2] at e1
      cases e1
      obtain ⟨b', e, m⟩ := OwS.adr (show OwS H O ds[j] (.ref b) from s)
      cases e
      exact nm m
  have outs' : ∀ O2 : OS, (∀ b, O b → O2 b) → (∀ b, O2 b → O' b) → (∀ b, O'.m b → O2.m b) → Outs H' O2 pk vs outs := fun O2 w0 w wm => by
    refine outs_of (κ := κ) (pk := pk) (vs := vs) (σ := σ) (n := 0) (by rw [lv.1]) (by simpa using e) (fun j d k u h1 ho hu h3 => ?_)
    have h3 : ε[j]? = some (some d) := by simpa using h3
    obtain ⟨v', k', e1, e2, s'⟩ := A'.slot j d h3
    have ek : k' = k := by
      have := prm j k h1
      rw [show κ[j]? = some k' from e2] at this
      exact Option.some.inj this
    subst ek
    have hjd : j < ds.length := by rw [lv.2]; exact (List.getElem?_eq_some_iff.mp h1).1
    obtain ⟨u', k2, f1, f2, s0⟩ := a.ok.get (List.getElem?_eq_getElem hjd)
    rw [hu] at f1
    cases f1
    rw [h1] at f2
    cases f2
    have isr : ∃ a', u = .ref a' := by
      cases k' <;> first | (exact absurd ho (by decide)) | skip
      · have s0 : Ow H O ds[j] u := s0
        match ds[j], s0 with
        | .list _, ⟨b, xs, e, _⟩ => exact ⟨b, e⟩
        | .dict _, ⟨b, _, e, _⟩ => exact ⟨b, e⟩
      · obtain ⟨b, e, _⟩ := OwS.adr (show OwS H O ds[j] u from s0)
        exact ⟨b, e⟩
    obtain ⟨a', rfl⟩ := isr
    have hj : (j, a') ∈ ioAt 0 pk vs := ioAt_mem.mpr ⟨j, k', by omega, h1, ho, hu⟩
    rw [A'.ioS j a' hj] at e1
    cases e1
    have hO : O2 a' := w0 _ (A'.ioO j a' hj)
    cases k' <;> first | (exact absurd ho (by decide)) | skip
    · have s' : Ow H' O' d (.ref a') := s'
      match d, s' with
      | .list _, ⟨b, xs, e, n, r, q⟩ => exact ⟨b, xs, e, by cases e; exact hO, r, RpL.anti w q⟩
      | .dict _, ⟨b, u, e, n, r, q⟩ => exact ⟨b, u, e, by cases e; exact hO, r, RpE.anti w q⟩
    · exact OwS.ext (fun _ _ e _ => e) (fun b z => .inl (w b z)) (fun _ _ _ e => e) wm (show OwS H' O' d (.ref a') from s')
  refine q v H' kk (fun b hb => ?_) ?_
  · by_cases z : b ∈ ioL pk vs
    · obtain ⟨j, h1, h2⟩ := ioL_mem.mp z
      have hj : (j, b) ∈ ioAt 0 pk vs := ioAt_mem.mpr ⟨j, .io, by omega, h1, rfl, h2⟩
      exact A'.has b (A'.sub b (A'.ioO j b hj))
    · by_cases m : O.m b
      · exact A'.has b (A'.ownO b (.inr (A'.subm b m)))
      · cases e : H b with
        | none => exact (hb e).elim
        | some o => exact hp_some (kk b o e z m)
  · unfold RetOk at r
    refine ⟨O'.m, ⟨A'.subm, fun b z => (A'.newm b z).symm, fun b z => A'.has b (A'.ownO b (.inr z))⟩, ?_⟩
    cases fr with
    | true =>
      rw [if_pos rfl] at r ⊢
      obtain ⟨p, ev, hp, n0, ow⟩ := r
      exact ⟨p, ev, n0, hp.2, ow, outs' _ (fun _ z => OS.add_of (.inl z)) (fun b z => (OS.add_or z).elim (fun e => e ▸ hp.1) (A'.retSub b)) fun _ z => z⟩
    | false =>
      rw [if_neg Bool.false_ne_true] at r ⊢
      exact ⟨r, outs' _ (fun _ z => .inl z) A'.retSub fun _ z => z⟩
section
variable {P : Program} {w : World} {K : PySem.W.Frag} {mg : Str → Option Value} {base : Heap}
/-- THE RULE for a def: its walk (DSs .. w0) and the fact about data -/
theorem fn_okD {x qual : Str} {st : Stmt} {f : Addr} {fd : FuncData} {N ps : List Str} {k : Nat} {κ pk : List Kd} {fr : Bool} {sp : DSp} {w0 : WS} (F : Fun K x qual st f fd) (S : FnScope N ps (defScope st))
    (body : ∀ (cdv : Value) (A : Around) (outer : List Env) (s : Shared) (H : Hp) (E : XK), Room k (A.deeper (PyProof.Rows.envOfC qual (defScope st) s.heap.objs.size f cdv)) → (A.deeper (PyProof.Rows.envOfC qual (defScope st) s.heap.objs.size f cdv)).guards = some [] → DSs (CxD.no (cxOf CX0 P w K mg base N qual (defScope st) f cdv A outer s H E).nox) κ fr (defBody st) w0)
    (math : ∀ ds Q, ds.length = ps.length → sp ds Q → w0 (endsD pk fr Q) (startE N.length ds)) (hk : kindsB pk κ = true := by rfl) (hl : κ.length = N.length := by rfl) (hp : pk.length = ps.length := by rfl) : FnG P w K mg base CX0 (k + 1) f fd ps (spD pk fr sp) := by
  refine fn_g F S (fun vs H Q E h => ?_) (fun cdv A outer s H vs Q E hr hgd h => ?_)
  · obtain ⟨O, ds, a, _⟩ := h
    rw [a.ok.len.1, hp]
  · obtain ⟨O, ds, a, q⟩ := h
    refine ⟨_, ((body cdv A outer s H E hr hgd).ps (Gx.no ⟨κ, H, O, ioAt 0 pk vs, [], fr, none⟩) rfl rfl).nox, O, startE N.length ds, abs_start a hk hl, ?_⟩
    have lv := a.ok.len
    have m := (body cdv A outer s H E hr hgd).mono
    -- the end of the def, from what stands then
    have fin : ∀ {d : D} {outs : List D} {ε : En} {v : V} {H' : Hp} {σ : L2.St} {O' : OS}, Abs ⟨κ, H, O, ioAt 0 pk vs, [], fr, none⟩ O' H' σ ε → RetOk ⟨κ, H, O, ioAt 0 pk vs, [], fr, none⟩ O' H' d v → outsD pk ε = some outs →
        (∀ v H', (∀ b o, H b = some o → b ∉ ioL pk vs → ¬ O.m b → H' b = some o) → (∀ b, H b ≠ none → H' b ≠ none) → RetC fr H O H' pk vs outs d v → Q v H') → Q v H' := fun {d outs ε v H' σ O'} A' r e q => abs_fin a hk A' r e q
    have le : (endsD pk fr fun d outs => ∀ v H', (∀ b o, H b = some o → b ∉ ioL pk vs → ¬ O.m b → H' b = some o) → (∀ b, H b ≠ none → H' b ≠ none) → RetC fr H O H' pk vs outs d v → Q v H').le
        (ends ⟨κ, H, O, ioAt 0 pk vs, [], fr, none⟩ { nx := fun _ H' => Q .non H', rt := Q }) := by
      refine ⟨fun ε ⟨hf, outs, e, q⟩ σ H' O' A' => ?_, fun d ε ⟨outs, e, q⟩ v H' σ O' A' r => fin A' r e q, fun ε z => z.elim, fun ε z => z.elim⟩
      refine fin A' ?_ e q
      unfold RetOk
      rw [hf, if_neg Bool.false_ne_true]
      rfl
    exact m _ _ _ le (math ds _ (by rw [lv.2, hp]) q)
/-- a def as its callers see it -/
structure Cal (P : Program) (w : World) (K : PySem.W.Frag) (mg : Str → Option Value) (base : Heap) (k : Nat) (x : Str) (ps : List Str) (pk : List Kd) (fr : Bool) (sp : DSp) : Prop where
  ex : ∃ f fd, FnG P w K mg base CX0 k f fd ps (spD pk fr sp) ∧ mg x = some (.ref f) ∧ PySem.W.keepIn K (.ref f) = true ∧ Binds K fd ps []
  mono : MonoD sp
end
def putO : List Kd → List Op → List D → En → En
  | .io :: ks, .nm i :: os, d :: outs, ε => putO ks os outs (ε.set i (some d))
  | .st :: ks, .nm i :: os, d :: outs, ε => putO ks os outs (ε.set i (some d))
  | _ :: ks, _ :: os, outs, ε => putO ks os outs ε
  | _, _, _, ε => ε
def eCall (pk : List Kd) (sp : DSp) (os : List Op) : WE := fun ε Q => aEv os ε fun xs ε1 => ∃ ds, vals ε1 xs ds ∧ sp ds fun d outs => Q d (putO pk os outs ε1)
theorem eCall_mono {pk : List Kd} {sp : DSp} {os : List Op} (m : MonoD sp) (ma : MonoA os) : Mono (eCall pk sp os) := fun ε Q Q' h q => aEv_mono ma (fun xs ε1 ⟨ds, e, q⟩ => ⟨ds, e, m _ _ _ (fun d o z => h _ _ z) q⟩) q
def ioIx : List Kd → List Op → List Nat
  | .io :: ks, .nm i :: os => i :: ioIx ks os
  | .st :: ks, .nm i :: os => i :: ioIx ks os
  | _ :: ks, _ :: os => ioIx ks os
  | _, _ => []
def isSt : Kd → Bool
  | .st => true
  | .sl => true
  | _ => false
def argOk1 (κ : List Kd) : Kd → Op → Bool
  | .val, .ex _ => true
  | .val, .nm i => decide (κ[i]? = some .val)
  | .brw, .ex _ => true
  | .brw, .nm i => !isSt ((κ[i]?).getD .val)
  | .io, .nm i => decide (κ[i]? = some .own) || decide (κ[i]? = some .io)
  | .io, .ex _ => false
  | .own, _ => false
  | .st, .nm i => decide (κ[i]? = some .st) || decide (κ[i]? = some .sl)
  | .st, .ex _ => false
  | .sl, _ => false
def brwIx : List Kd → List Op → List Nat
  | .brw :: ks, .nm i :: os => i :: brwIx ks os
  | _ :: ks, _ :: os => brwIx ks os
  | _, _ => []
def argOks (κ : List Kd) : List Kd → List Op → Bool
  | [], [] => true
  | k :: ks, o :: os => argOk1 κ k o && argOks κ ks os
  | _, _ => false
/-- a law's own state is handed to all who may change one -/
def stB (κ pk : List Kd) (os : List Op) : Bool := !pk.contains .st || κ.zipIdx.all fun p => !isSt p.1 || (ioIx pk os).contains p.2
def argB (κ pk : List Kd) (os : List Op) : Bool := argOks κ pk os && decide (ioIx pk os).Nodup && ((brwIx pk os).all fun i => !(ioIx pk os).contains i) && stB κ pk os
/-- what is handed on of what is avoided -/
def OS.pas (O : OS) (b : Bool) : OS := ⟨O.o, fun a => b = true ∧ O.m a⟩
def OpX : List Op → List (En → Option D) → Prop
  | [], xs => xs = []
  | .ex _ :: os, xs => ∃ d r, xs = (fun _ => some d) :: r ∧ OpX os r
  | .nm i :: os, xs => ∃ r, xs = slF i :: r ∧ OpX os r
theorem aEv_opx : ∀ {os : List Op}, MonoA os → ∀ {ε : En} {Q : List (En → Option D) → En → Prop}, aEv os ε Q → aEv os ε fun xs ε' => OpX os xs ∧ Q xs ε'
  | [], _, _, _, q => ⟨rfl, q⟩
  | .ex w :: os, m, ε, Q, q => m (.ex w) List.mem_cons_self ε _ _ (fun d ε1 q => aEv_mono (fun o ho => m o (List.mem_cons_of_mem _ ho)) (fun xs ε2 ⟨h, q⟩ => ⟨⟨d, xs, rfl, h⟩, q⟩) (aEv_opx (fun o ho => m o (List.mem_cons_of_mem _ ho)) q)) q
  | .nm i :: os, m, ε, Q, q => ⟨q.1, aEv_mono (fun o ho => m o (List.mem_cons_of_mem _ ho)) (fun xs ε2 ⟨h, q⟩ => ⟨⟨xs, rfl, h⟩, q⟩) (aEv_opx (fun o ho => m o (List.mem_cons_of_mem _ ho)) q.2)⟩
theorem no_const {i : Nat} {d : D} (h : slF i = fun _ => some d) : False := by
  have := congrFun h []
  simp [slF] at this
section
variable {g : Gx} {O : OS} {H : Hp} {σ : L2.St} {ε : En}
theorem slF_get {i : Nat} {d : D} (e : slF i ε = some d) : ε[i]? = some (some d) := by
  unfold slF at e
  cases q : ε[i]? with
  | none => rw [q] at e; cases e
  | some o => rw [q] at e; exact congrArg some e
theorem or_nm {i : Nat} {v : V} (h : OR H O σ (slF i) v) : σ[i]? = some (some v) := by
  rcases h with ⟨d, e, _⟩ | ⟨j, e, s⟩
  · exact (no_const e).elim
  · rw [slF_inj e]
    exact s
theorem or_ex {d : D} {v : V} (h : OR H O σ (fun _ => some d) v) : Rp H O d v := by
  rcases h with ⟨d', e, r⟩ | ⟨j, e, s⟩
  · have := congrFun e []
    cases this
    exact r
  · exact (no_const e.symm).elim
theorem Rp.pas {b : Bool} {d : D} {v : V} (h : Rp H O d v) : Rp H (O.pas b) d v := Rp.anti (O := O) (O' := O.pas b) (fun _ z => z) h
theorem NbC.pas {b : Bool} {d : D} {v : V} (h : NbC H O d v) : NbC H (O.pas b) d v := NbC.anti (O := O) (O' := O.pas b) (fun _ z => z) h
theorem Ow.pas {b : Bool} {d : D} {v : V} (h : Ow H O d v) : Ow H (O.pas b) d v := Ow.ext (O := O) (O' := O.pas b) (fun _ _ e _ => e) (fun _ z => .inl z) (fun _ _ _ e => e) (fun _ z => z) h
theorem OwS.pas {b : Bool} (hb : b = true) {d : D} {v : V} (h : OwS H O d v) : OwS H (O.pas b) d v := OwS.ext (O := O) (O' := O.pas b) (fun _ _ e _ => e) (fun _ z => .inl z) (fun _ _ _ e => e) (fun _ z => ⟨hb, z⟩) h
/-- the operands are what the callee asks -/
theorem args_ok (A : Abs g O H σ ε) {b : Bool} : ∀ {pk : List Kd} {os : List Op} {xs : List (En → Option D)} {vs : List V} {ds : List D}, (Kd.st ∈ pk → b = true) → argOks g.κ pk os = true → OpX os xs → ORs H O σ xs vs → vals ε xs ds → ArgsOk H (O.pas b) pk ds vs
  | [], [], xs, vs, ds, _, _, e, ors, e2 => by
    have e : xs = [] := e
    subst e
    exact ⟨e2, ors⟩
  | k :: ks, o :: os, xs, vs, ds, hb, h, ox, ors, e => by
    have h : argOk1 g.κ k o = true ∧ argOks g.κ ks os = true := by simpa [argOks] using h
    have hb' : Kd.st ∈ ks → b = true := fun z => hb (List.mem_cons_of_mem _ z)
    cases o with
    | ex w =>
      obtain ⟨d, r, rfl, ox⟩ := ox
      obtain ⟨v, vr, rfl, o1, ors⟩ := ors
      obtain ⟨d', dr, rfl, e1, e⟩ := e
      cases e1
      refine ⟨d, dr, v, vr, rfl, rfl, ?_, args_ok A hb' h.2 ox ors e⟩
      have rp := or_ex o1
      cases k with
      | val => exact Rp.pas rp
      | brw => exact NbC.pas rp.nbC
      | io => exact absurd h.1 (by simp [argOk1])
      | own => exact absurd h.1 (by simp [argOk1])
      | st => exact absurd h.1 (by simp [argOk1])
      | sl => exact absurd h.1 (by simp [argOk1])
    | nm i =>
      obtain ⟨r, rfl, ox⟩ := ox
      obtain ⟨v, vr, rfl, o1, ors⟩ := ors
      obtain ⟨d, dr, rfl, e1, e⟩ := e
      refine ⟨d, dr, v, vr, rfl, rfl, ?_, args_ok A hb' h.2 ox ors e⟩
      obtain ⟨v', k', s1, s2, s⟩ := A.slot i d (slF_get e1)
      rw [or_nm o1] at s1
      cases s1
      have h1 := h.1
      cases k with
      | val =>
        have : g.κ[i]? = some .val := by simpa [argOk1] using h1
        rw [this] at s2
        cases s2
        exact Rp.pas (show Rp H O d v from s)
      | brw =>
        have hk : isSt ((g.κ[i]?).getD .val) = false := by simpa [argOk1] using h1
        rw [s2] at hk
        cases k' with
        | val => exact NbC.pas (Rp.nbC s)
        | brw => exact NbC.pas s
        | own => exact NbC.pas (Ow.nbC s)
        | io => exact NbC.pas (Ow.nbC s)
        | st => cases hk
        | sl => cases hk
      | io =>
        have : g.κ[i]? = some .own ∨ g.κ[i]? = some .io := by simpa [argOk1] using h1
        rcases this with z | z <;> (rw [z] at s2; cases s2; exact Ow.pas (show Ow H O d v from s))
      | own => exact absurd h1 (by simp [argOk1])
      | st =>
        have : g.κ[i]? = some .st ∨ g.κ[i]? = some .sl := by simpa [argOk1] using h1
        rcases this with z | z <;> (rw [z] at s2; cases s2; exact OwS.pas (hb List.mem_cons_self) (show OwS H O d v from s))
      | sl => exact absurd h1 (by simp [argOk1])
  | [], o :: os, _, _, _, _, h, _, _, _ => by simp [argOks] at h
  | k :: ks, [], _, _, _, _, h, _, _, _ => by simp [argOks] at h
/-- a law's own state is handed on by its name -/
theorem st_slots (A : Abs g O H σ ε) : ∀ {pk : List Kd} {os : List Op} {xs : List (En → Option D)} {vs : List V}, argOks g.κ pk os = true → OpX os xs → ORs H O σ xs vs → ∀ (j : Nat), pk[j]? = some .st → ∃ i, os[j]? = some (.nm i) ∧ (g.κ[i]? = some .st ∨ g.κ[i]? = some .sl) ∧ i ∈ ioIx pk os
  | [], [], _, _, _, _, _, j, h => by simp at h
  | k :: ks, o :: os, xs, vs, h, ox, ors, j, h1 => by
    have h : argOk1 g.κ k o = true ∧ argOks g.κ ks os = true := by simpa [argOks] using h
    cases j with
    | zero =>
      have e : k = .st := by simpa using h1
      subst e
      cases o with
      | ex w => exact absurd h.1 (by simp [argOk1])
      | nm i => exact ⟨i, rfl, by simpa [argOk1] using h.1, List.mem_cons_self⟩
    | succ j =>
      have : ∃ r vr, OpX os r ∧ ORs H O σ r vr := by
        cases o with
        | ex w =>
          obtain ⟨d, r, rfl, ox⟩ := ox
          obtain ⟨v, vr, rfl, o1, ors⟩ := ors
          exact ⟨r, vr, ox, ors⟩
        | nm i =>
          obtain ⟨r, rfl, ox⟩ := ox
          obtain ⟨v, vr, rfl, o1, ors⟩ := ors
          exact ⟨r, vr, ox, ors⟩
      obtain ⟨r, vr, ox, ors⟩ := this
      obtain ⟨i, e1, e2, e3⟩ := st_slots A h.2 ox ors j (by simpa using h1)
      refine ⟨i, by simpa using e1, e2, ?_⟩
      cases k <;> cases o <;> first | exact e3 | exact List.mem_cons_of_mem _ e3
  | [], o :: os, _, _, h, _, _, _, _ => by simp [argOks] at h
  | k :: ks, [], _, _, h, _, _, _, _ => by simp [argOks] at h
/-- the io arguments are slots of kind own or io -/
theorem io_slots (A : Abs g O H σ ε) : ∀ {pk : List Kd} {os : List Op} {xs : List (En → Option D)} {vs : List V}, argOks g.κ pk os = true → OpX os xs → ORs H O σ xs vs → ∀ (j : Nat) (a : Addr), pk[j]? = some .io → vs[j]? = some (.ref a) → ∃ i, os[j]? = some (.nm i) ∧ mu g.κ i ∧ σ[i]? = some (some (.ref a)) ∧ i ∈ ioIx pk os
  | [], [], _, _, _, _, _, j, a, h, _ => by simp at h
  | k :: ks, o :: os, xs, vs, h, ox, ors, j, a, h1, h2 => by
    have h : argOk1 g.κ k o = true ∧ argOks g.κ ks os = true := by simpa [argOks] using h
    have step : ∀ {r : List (En → Option D)} {vr : List V}, OpX os r → ORs H O σ r vr → ∀ j, ks[j]? = some .io → vr[j]? = some (.ref a) → ∃ i, (o :: os)[j + 1]? = some (.nm i) ∧ mu g.κ i ∧ σ[i]? = some (some (.ref a)) ∧ i ∈ ioIx (k :: ks) (o :: os) := fun ox ors j h1 h2 => by
      obtain ⟨i, e1, e2, e3, e4⟩ := io_slots A h.2 ox ors j a h1 h2
      refine ⟨i, by simpa using e1, e2, e3, ?_⟩
      cases k <;> cases o <;> first | exact e4 | exact List.mem_cons_of_mem _ e4
    cases o with
    | ex w =>
      obtain ⟨d, r, rfl, ox⟩ := ox
      obtain ⟨v, vr, rfl, o1, ors⟩ := ors
      cases j with
      | zero =>
        have : k = .io := by simpa using h1
        subst this
        exact absurd h.1 (by simp [argOk1])
      | succ j => exact step ox ors j (by simpa using h1) (by simpa using h2)
    | nm i =>
      obtain ⟨r, rfl, ox⟩ := ox
      obtain ⟨v, vr, rfl, o1, ors⟩ := ors
      cases j with
      | zero =>
        have : k = .io := by simpa using h1
        subst this
        have ev : v = .ref a := by simpa using h2
        subst ev
        exact ⟨i, rfl, by simpa [argOk1, mu] using h.1, or_nm o1, List.mem_cons_self⟩
      | succ j => exact step ox ors j (by simpa using h1) (by simpa using h2)
  | [], o :: os, _, _, h, _, _, _, _, _, _ => by simp [argOks] at h
  | k :: ks, [], _, _, h, _, _, _, _, _, _ => by simp [argOks] at h
theorem io_nd (A : Abs g O H σ ε) : ∀ {pk : List Kd} {os : List Op} {xs : List (En → Option D)} {vs : List V}, argOks g.κ pk os = true → OpX os xs → ORs H O σ xs vs → (ioIx pk os).Nodup → (ioL pk vs).Nodup
  | [], [], _, vs, _, _, _, _ => by cases vs <;> exact List.nodup_nil
  | k :: ks, o :: os, xs, vs, h0, ox, ors, nd => by
    have h : argOk1 g.κ k o = true ∧ argOks g.κ ks os = true := by simpa [argOks] using h0
    cases o with
    | ex w =>
      obtain ⟨d, r, rfl, ox⟩ := ox
      obtain ⟨v, vr, rfl, o1, ors⟩ := ors
      cases k with
      | io => exact absurd h.1 (by simp [argOk1])
      | val => exact (show (ioL ks vr).Nodup from io_nd A h.2 ox ors (show (ioIx ks os).Nodup from nd))
      | brw => exact (show (ioL ks vr).Nodup from io_nd A h.2 ox ors (show (ioIx ks os).Nodup from nd))
      | own => exact (show (ioL ks vr).Nodup from io_nd A h.2 ox ors (show (ioIx ks os).Nodup from nd))
      | st => exact absurd h.1 (by simp [argOk1])
      | sl => exact absurd h.1 (by simp [argOk1])
    | nm i =>
      obtain ⟨r, rfl, ox⟩ := ox
      obtain ⟨v, vr, rfl, o1, ors⟩ := ors
      cases k with
      | val => exact (show (ioL ks vr).Nodup from io_nd A h.2 ox ors (show (ioIx ks os).Nodup from nd))
      | brw => exact (show (ioL ks vr).Nodup from io_nd A h.2 ox ors (show (ioIx ks os).Nodup from nd))
      | own => exact (show (ioL ks vr).Nodup from io_nd A h.2 ox ors (show (ioIx ks os).Nodup from nd))
      | st => exact (show (ioL ks vr).Nodup from io_nd A h.2 ox ors (List.nodup_cons.mp (show (i :: ioIx ks os).Nodup from nd)).2)
      | sl => exact absurd h.1 (by simp [argOk1])
      | io =>
        have nd' : i ∉ ioIx ks os ∧ (ioIx ks os).Nodup := List.nodup_cons.mp nd
        have ih := io_nd A h.2 ox ors nd'.2
        cases v with
        | ref a =>
          refine List.nodup_cons.mpr ⟨fun z => ?_, ih⟩
          obtain ⟨j, h1, h2⟩ := ioL_mem.mp z
          obtain ⟨i', _, m', s', e'⟩ := io_slots A h.2 ox ors j a h1 h2
          have : i = i' := A.apart i i' a (by simpa [argOk1, mu] using h.1) m' (or_nm o1) s'
          exact nd'.1 (this ▸ e')
        | non => exact ih
        | bl _ => exact ih
        | int _ => exact ih
        | str _ => exact ih
        | byt _ => exact ih
        | flt _ => exact ih
        | ty _ => exact ih
  | [], o :: os, _, _, h, _, _, _ => by simp [argOks] at h
  | k :: ks, [], _, _, h, _, _, _ => by simp [argOks] at h
theorem brw_ix : ∀ {pk : List Kd} {os : List Op} {j i : Nat}, pk[j]? = some .brw → os[j]? = some (.nm i) → i ∈ brwIx pk os
  | [], _, j, _, h, _ => by simp at h
  | k :: ks, [], j, _, _, h => by simp at h
  | k :: ks, o :: os, 0, i, h1, h2 => by
    have e1 : k = .brw := by simpa using h1
    have e2 : o = .nm i := by simpa using h2
    subst e1 e2
    exact List.mem_cons_self
  | k :: ks, o :: os, j + 1, i, h1, h2 => by
    have ih := brw_ix (pk := ks) (os := os) (j := j) (i := i) (by simpa using h1) (by simpa using h2)
    cases k <;> cases o <;> first | exact ih | exact List.mem_cons_of_mem _ ih
theorem ors_get : ∀ {os : List Op} {xs : List (En → Option D)} {vs : List V} {j : Nat} {v : V}, OpX os xs → ORs H O σ xs vs → vs[j]? = some v → (∃ i : Nat, os[j]? = some (Op.nm i) ∧ σ[i]? = some (some v)) ∨ ∃ d, Rp H O d v
  | [], xs, vs, j, v, e, ors, h => by
    have e : xs = [] := e
    subst e
    have ors : vs = [] := ors
    subst ors
    simp at h
  | .ex w :: os, xs, vs, j, v, ox, ors, h => by
    obtain ⟨d, r, rfl, ox⟩ := ox
    obtain ⟨u, vr, rfl, o1, ors⟩ := ors
    cases j with
    | zero =>
      have e : u = v := by simpa using h
      subst e
      exact .inr ⟨d, or_ex o1⟩
    | succ j => exact (ors_get (j := j) ox ors (by simpa using h)).imp (fun ⟨i, a, b⟩ => ⟨i, by simpa using a, b⟩) id
  | .nm i :: os, xs, vs, j, v, ox, ors, h => by
    obtain ⟨r, rfl, ox⟩ := ox
    obtain ⟨u, vr, rfl, o1, ors⟩ := ors
    cases j with
    | zero =>
      have e : u = v := by simpa using h
      subst e
      exact .inl ⟨i, rfl, or_nm o1⟩
    | succ j => exact (ors_get (j := j) ox ors (by simpa using h)).imp (fun ⟨i, a, b⟩ => ⟨i, by simpa using a, b⟩) id
theorem rp_ref {d : D} {a : Addr} (h : Rp H O d (.ref a)) : ¬ O a := by
  match d, h with
  | .none, e => cases (show V.ref a = .non from e)
  | .bool _, e => cases (show V.ref a = .bl _ from e)
  | .int _, e => cases (show V.ref a = .int _ from e)
  | .str _, e => cases (show V.ref a = .str _ from e)
  | .list _, ⟨c, xs, e, n, _⟩ => cases e; exact n
  | .tuple _, ⟨c, xs, e, n, _⟩ => cases e; exact n
  | .dict _, ⟨c, _, e, n, _⟩ => cases e; exact n
theorem vals_nm {i2 : Nat} : ∀ {os : List Op} {xs : List (En → Option D)} {ds : List D} {j : Nat}, OpX os xs → vals ε xs ds → os[j]? = some (.nm i2) → ∃ d, ε[i2]? = some (some d) := by
  intro os
  induction os with
  | nil => intro xs ds j _ _ h; simp at h
  | cons o os ih =>
    intro xs ds j ox e h
    cases o with
    | ex w =>
      obtain ⟨d, r, rfl, ox⟩ := ox
      obtain ⟨d', dr, rfl, e1, e⟩ := e
      cases j with
      | zero => simp at h
      | succ j => exact ih ox e (by simpa using h)
    | nm i =>
      obtain ⟨r, rfl, ox⟩ := ox
      obtain ⟨d', dr, rfl, e1, e⟩ := e
      cases j with
      | zero =>
        have q : i = i2 := by simpa using h
        subst q
        exact ⟨d', slF_get e1⟩
      | succ j => exact ih ox e (by simpa using h)
theorem args_in (A : Abs g O H σ ε) {pk : List Kd} {os : List Op} {xs : List (En → Option D)} {vs : List V} {ds : List D} (h : argB g.κ pk os = true) (ox : OpX os xs) (ors : ORs H O σ xs vs) (e : vals ε xs ds) : ArgsIn H (O.pas (pk.contains .st)) pk ds vs := by
  unfold argB at h
  simp only [Bool.and_eq_true, decide_eq_true_eq] at h
  obtain ⟨⟨⟨h1, h2⟩, h3⟩, h4⟩ := h
  have hst : Kd.st ∈ pk → pk.contains .st = true := fun z => by simpa using z
  refine ⟨args_ok A hst h1 ox ors e, io_nd A h1 ox ors h2, fun j b hj hv z => ?_, A.has, fun a z => A.ownO a (.inr z.2), fun a ha z => ?_, fun j b hj hv z => ?_⟩
  rotate_left
  · obtain ⟨m, hm, hv2⟩ := ioL_mem.mp ha
    obtain ⟨i, _, mi, si, _⟩ := io_slots A h1 ox ors m a hm hv2
    exact A.apm i a mi si z.2
  · rcases ors_get ox ors hv with ⟨i2, o2, s2⟩ | ⟨d, rp⟩
    · have b2 := brw_ix hj o2
      have n2 : ¬ i2 ∈ ioIx pk os := by simpa using List.all_eq_true.mp h3 i2 b2
      have l2 : i2 < g.κ.length := by rw [A.lenK]; exact (List.getElem?_eq_some_iff.mp s2).1
      have notst : g.κ[i2]? = some .st ∨ g.κ[i2]? = some .sl → False := fun q => by
        unfold stB at h4
        rw [z.1] at h4
        have h4 : (g.κ.zipIdx.all fun p => !isSt p.1 || (ioIx pk os).contains p.2) = true := h4
        have mem : (g.κ[i2], i2) ∈ g.κ.zipIdx := List.mem_iff_getElem?.mpr ⟨i2, by rw [List.getElem?_zipIdx, List.getElem?_eq_getElem l2]; simp⟩
        have := List.all_eq_true.mp h4 _ mem
        have e2 : isSt g.κ[i2] = true := by
          rw [List.getElem?_eq_getElem l2] at q
          rcases q with q | q <;> (rw [Option.some.inj q]; rfl)
        rw [e2] at this
        exact n2 (by simpa using this)
      have ok := args_ok A hst h1 ox ors e
      have l : j < ds.length := by rw [ok.len.2]; exact (List.getElem?_eq_some_iff.mp hj).1
      have hd : ∃ d, ε[i2]? = some (some d) := vals_nm ox e o2
      obtain ⟨d, ed⟩ := hd
      obtain ⟨v', k', s1, s3, s⟩ := A.slot i2 d ed
      rw [s2] at s1
      cases s1
      cases k' with
      | val => exact rp_ref (show Rp H O d (.ref b) from s) (A.ownO b (.inr z.2))
      | own => exact A.apm i2 b (.inl s3) s2 z.2
      | io => exact A.apm i2 b (.inr s3) s2 z.2
      | brw =>
        obtain ⟨n0, _, n1⟩ := A.brwA i2 b s3 s2
        exact (A.newm b z.2).elim n0 n1
      | st => exact notst (.inl s3)
      | sl => exact notst (.inr s3)
    · exact rp_ref rp (A.ownO b (.inr z.2))
  obtain ⟨m, hm, hv2⟩ := ioL_mem.mp z
  obtain ⟨i, _, mi, si, ii⟩ := io_slots A h1 ox ors m b hm hv2
  have stslot : ∀ (i2 : Nat), (g.κ[i2]? = some .st ∨ g.κ[i2]? = some .sl) → σ[i2]? = some (some (.ref b)) → OpX os xs → vals ε xs ds → os[j]? = some (.nm i2) → ¬ O.m b → False := fun i2 hk s2 ox e o2 nm => by
    obtain ⟨d, ed⟩ := vals_nm ox e o2
    obtain ⟨v', k', s1, s3, s⟩ := A.slot i2 d ed
    rw [s2] at s1
    cases s1
    have os' : OwS H O d (.ref b) := by
      rcases hk with hk | hk <;> (rw [hk] at s3; cases s3; exact s)
    obtain ⟨b', e', m⟩ := os'.adr
    cases e'
    exact nm m
  rcases ors_get ox ors hv with ⟨i2, o2, s2⟩ | ⟨d, rp⟩
  · have b2 := brw_ix hj o2
    have n2 : ¬ i2 ∈ ioIx pk os := by simpa using List.all_eq_true.mp h3 i2 b2
    have ok := args_ok A hst h1 ox ors e
    -- the borrowed name is no changed one
    have : i ≠ i2 := fun q => n2 (q ▸ ii)
    have l : j < ds.length := by rw [ok.len.2]; exact (List.getElem?_eq_some_iff.mp hj).1
    by_cases k2 : mu g.κ i2
    · exact this (A.apart i i2 b mi k2 si s2)
    · -- a borrowed or clean slot
      have l2 : i2 < g.κ.length := by rw [A.lenK]; exact (List.getElem?_eq_some_iff.mp s2).1
      cases e2 : g.κ[i2] with
      | own => exact k2 (.inl (by rw [List.getElem?_eq_getElem l2, e2]))
      | io => exact k2 (.inr (by rw [List.getElem?_eq_getElem l2, e2]))
      | brw =>
        obtain ⟨n0, nio, _⟩ := A.brwA i2 b (by rw [List.getElem?_eq_getElem l2, e2]) s2
        rcases mi with mi | mi
        · exact n0 (A.new i b mi si)
        · obtain ⟨c, hc⟩ := A.ioA i mi
          have := A.ioS i c hc
          rw [si] at this
          cases this
          exact nio i hc
      | val =>
        obtain ⟨d, ed⟩ := vals_nm ox e o2
        obtain ⟨v', k', s1, s3, s⟩ := A.slot i2 d ed
        rw [List.getElem?_eq_getElem l2, e2] at s3
        cases s3
        rw [s2] at s1
        cases s1
        exact rp_ref (show Rp H O d (.ref b) from s) (A.ownO b (.inl ⟨i, mi, si⟩))
      | st => exact stslot i2 (.inl (by rw [List.getElem?_eq_getElem l2, e2])) s2 ox e o2 (A.apm i b mi si)
      | sl => exact stslot i2 (.inr (by rw [List.getElem?_eq_getElem l2, e2])) s2 ox e o2 (A.apm i b mi si)
  · exact rp_ref rp (A.ownO b (.inl ⟨i, mi, si⟩))
theorem putO_len : ∀ (pk : List Kd) (os : List Op) (outs : List D) (ε : En), (putO pk os outs ε).length = ε.length
  | [], _, _, _ => rfl
  | k :: ks, [], _, _ => by cases k <;> rfl
  | k :: ks, o :: os, outs, ε => by
    cases k with
    | val => exact putO_len ks os outs ε
    | brw => exact putO_len ks os outs ε
    | own => exact putO_len ks os outs ε
    | sl => exact putO_len ks os outs ε
    | st =>
      cases o with
      | ex w => exact putO_len ks os outs ε
      | nm i =>
        cases outs with
        | nil => exact putO_len ks os [] ε
        | cons d outs => exact (putO_len ks os outs _).trans (by rw [List.length_set])
    | io =>
      cases o with
      | ex w => exact putO_len ks os outs ε
      | nm i =>
        cases outs with
        | nil => exact putO_len ks os [] ε
        | cons d outs => exact (putO_len ks os outs _).trans (by rw [List.length_set])
/-- what stands behind a call: each slot holds what the callee told, or what it held -/
theorem putO_get {H' : Hp} {O2 : OS} : ∀ {pk : List Kd} {os : List Op} {xs : List (En → Option D)} {vs : List V} {outs : List D} {ε : En} {j : Nat} {d : D}, argOks g.κ pk os = true → OpX os xs → ORs H O σ xs vs → Outs H' O2 pk vs outs → (ioIx pk os).Nodup → (putO pk os outs ε)[j]? = some (some d) →
    (∃ (m : Nat) (k : Kd) (v : V), pk[m]? = some k ∧ k.out = true ∧ os[m]? = some (.nm j) ∧ vs[m]? = some v ∧ σ[j]? = some (some v) ∧ SlotOk H' O2 k d v) ∨ (ε[j]? = some (some d) ∧ j ∉ ioIx pk os)
  | [], os, xs, vs, outs, ε, j, d, _, _, _, _, _, e => .inr ⟨e, by simp [ioIx]⟩
  | k :: ks, [], xs, vs, outs, ε, j, d, _, ox, ors, ou, _, e => by
    refine .inr ⟨?_, ?_⟩
    · cases k <;> exact e
    · cases k <;> simp [ioIx]
  | k :: ks, o :: os, xs, vs, outs, ε, j, d, ha, ox, ors, ou, nd, e => by
    have ha : argOk1 g.κ k o = true ∧ argOks g.κ ks os = true := by simpa [argOks] using ha
    have lift : ∀ {vr : List V} {u : V}, (∃ (m : Nat) (k : Kd) (v : V), ks[m]? = some k ∧ k.out = true ∧ os[m]? = some (.nm j) ∧ vr[m]? = some v ∧ σ[j]? = some (some v) ∧ SlotOk H' O2 k d v) → ∃ (m : Nat) (k' : Kd) (v : V), (k :: ks)[m]? = some k' ∧ k'.out = true ∧ (o :: os)[m]? = some (.nm j) ∧ (u :: vr)[m]? = some v ∧ σ[j]? = some (some v) ∧ SlotOk H' O2 k' d v :=
      fun ⟨m, k', v, h1, h0, h2, h3, h4, h5⟩ => ⟨m + 1, k', v, by simpa using h1, h0, by simpa using h2, by simpa using h3, h4, h5⟩
    obtain ⟨u, vr, ev, ou⟩ := ou
    subst ev
    have os' : ∃ r, OpX os r ∧ ORs H O σ r vr ∧ (∀ i, o = .nm i → σ[i]? = some (some u)) := by
      cases o with
      | ex w =>
        obtain ⟨d, r, rfl, ox⟩ := ox
        obtain ⟨v, vr', e, o1, ors⟩ := ors
        cases e
        exact ⟨r, ox, ors, fun i e => nomatch e⟩
      | nm i =>
        obtain ⟨r, rfl, ox⟩ := ox
        obtain ⟨v, vr', e, o1, ors⟩ := ors
        cases e
        exact ⟨r, ox, ors, fun i' e => by cases e; exact or_nm o1⟩
    obtain ⟨r, ox2, ors2, su⟩ := os'
    have outC : ∀ i d0 or', o = .nm i → k.out = true → SlotOk H' O2 k d0 u → Outs H' O2 ks vr or' → i ∉ ioIx ks os → (ioIx ks os).Nodup → (putO ks os or' (ε.set i (some d0)))[j]? = some (some d) →
        (∃ (m : Nat) (k' : Kd) (v : V), (k :: ks)[m]? = some k' ∧ k'.out = true ∧ (o :: os)[m]? = some (.nm j) ∧ (u :: vr)[m]? = some v ∧ σ[j]? = some (some v) ∧ SlotOk H' O2 k' d v) ∨ (ε[j]? = some (some d) ∧ j ∉ i :: ioIx ks os) := fun i d0 or' eo ho ow ou ni nd' e => by
      rcases putO_get (ε := ε.set i (some d0)) ha.2 ox2 ors2 ou nd' e with h | ⟨h, n⟩
      · exact .inl (lift h)
      · by_cases q : i = j
        · subst q
          have hi : i < ε.length := by
            have := (List.getElem?_eq_some_iff.mp h).1
            rwa [List.length_set] at this
          rw [List.getElem?_set_self hi] at h
          cases h
          exact .inl ⟨0, k, u, rfl, ho, by rw [eo]; rfl, rfl, su i eo, ow⟩
        · rw [get_set_ne q] at h
          exact .inr ⟨h, fun z => (List.mem_cons.mp z).elim (fun e => q e.symm) n⟩
    cases k with
    | val => exact (putO_get ha.2 ox2 ors2 ou (show (ioIx ks os).Nodup by cases o <;> exact nd) e).imp lift (fun z => ⟨z.1, by cases o <;> exact z.2⟩)
    | brw => exact (putO_get ha.2 ox2 ors2 ou (show (ioIx ks os).Nodup by cases o <;> exact nd) e).imp lift (fun z => ⟨z.1, by cases o <;> exact z.2⟩)
    | own => exact (putO_get ha.2 ox2 ors2 ou (show (ioIx ks os).Nodup by cases o <;> exact nd) e).imp lift (fun z => ⟨z.1, by cases o <;> exact z.2⟩)
    | sl => exact (putO_get ha.2 ox2 ors2 ou (show (ioIx ks os).Nodup by cases o <;> exact nd) e).imp lift (fun z => ⟨z.1, by cases o <;> exact z.2⟩)
    | io =>
      rw [if_pos (show Kd.io.out = true from rfl)] at ou
      obtain ⟨d0, or', rfl, ow, ou⟩ := ou
      cases o with
      | ex w => exact absurd ha.1 (by simp [argOk1])
      | nm i =>
        have nd' : i ∉ ioIx ks os ∧ (ioIx ks os).Nodup := List.nodup_cons.mp nd
        exact outC i d0 or' rfl rfl ow ou nd'.1 nd'.2 e
    | st =>
      rw [if_pos (show Kd.st.out = true from rfl)] at ou
      obtain ⟨d0, or', rfl, ow, ou⟩ := ou
      cases o with
      | ex w => exact absurd ha.1 (by simp [argOk1])
      | nm i =>
        have nd' : i ∉ ioIx ks os ∧ (ioIx ks os).Nodup := List.nodup_cons.mp nd
        exact outC i d0 or' rfl rfl ow ou nd'.1 nd'.2 e
end
end DL
namespace DL
open PySem PySem.Spec L2
section
variable {X : CxD} {κ : List Kd} {fr : Bool} {pos : Pos} {e a : Expr} {es : List Expr} {os : List Op}
theorem ow_ref {H : Hp} {O : OS} {d : D} {a : Addr} (h : Ow H O d (.ref a)) : H a ≠ none := by
  match d, h with
  | .list _, ⟨b, xs, e, _, r, _⟩ => cases e; exact hp_some r
  | .dict _, ⟨b, _, e, _, r, _⟩ => cases e; exact hp_some r
theorem SlotOk.to {H : Hp} {O O' : OS} (w : ∀ a, O' a ↔ O a) (mm : ∀ a, O.m a → O'.m a) {k : Kd} {d : D} {v : V} (h : SlotOk H O k d v) : SlotOk H O' k d v := by
  cases k with
  | val => exact Rp.anti (fun a z => (w a).mp z) h
  | brw => exact NbC.anti (fun a z => (w a).mp z) h
  | own => exact Ow.ext (fun _ _ e _ => e) (fun a z => .inl ((w a).mp z)) (fun _ _ _ e => e) (fun a z => (w a).mpr z) h
  | io => exact Ow.ext (fun _ _ e _ => e) (fun a z => .inl ((w a).mp z)) (fun _ _ _ e => e) (fun a z => (w a).mpr z) h
  | st => exact OwS.ext (fun _ _ e _ => e) (fun a z => .inl ((w a).mp z)) (fun _ _ _ e => e) mm h
  | sl => exact OwS.ext (fun _ _ e _ => e) (fun a z => .inl ((w a).mp z)) (fun _ _ _ e => e) mm h
theorem Outs.to {H : Hp} {O O' : OS} (w : ∀ a, O' a ↔ O a) (mm : ∀ a, O.m a → O'.m a) : ∀ {ks : List Kd} {vs : List V} {outs : List D}, Outs H O ks vs outs → Outs H O' ks vs outs
  | [], _, _, h => h
  | k :: ks, _, _, ⟨v, vr, e, h⟩ => by
    refine ⟨v, vr, e, ?_⟩
    by_cases c : k.out = true
    · rw [if_pos c] at h ⊢
      obtain ⟨d, r, e2, s, h⟩ := h
      exact ⟨d, r, e2, s.to w mm, Outs.to w mm h⟩
    · rw [if_neg c] at h ⊢
      exact Outs.to w mm h
theorem stB_in {κ pk : List Kd} {os : List Op} (h : stB κ pk os = true) (hc : pk.contains .st = true) {j : Nat} (hk : κ[j]? = some .st ∨ κ[j]? = some .sl) : j ∈ ioIx pk os := by
  unfold stB at h
  rw [hc] at h
  have h : (κ.zipIdx.all fun p => !isSt p.1 || (ioIx pk os).contains p.2) = true := h
  obtain ⟨k, ek, hs⟩ : ∃ k, κ[j]? = some k ∧ isSt k = true := by
    rcases hk with z | z
    · exact ⟨_, z, rfl⟩
    · exact ⟨_, z, rfl⟩
  have mem : (k, j) ∈ κ.zipIdx := List.mem_iff_getElem?.mpr ⟨j, by rw [List.getElem?_zipIdx, ek]; simp⟩
  have := List.all_eq_true.mp h _ mem
  rw [hs] at this
  simpa using this
/-- what is avoided behind a call -/
def OS.aft (O : OS) (Om : Addr → Prop) : OS := ⟨fun a => O a ∨ Om a, fun a => O.m a ∨ Om a⟩
theorem call_core {g : Gx} {pk : List Kd} {sp : DSp} {fr : Bool} (m : MonoA os) (ms : MonoD sp) (hb : argB g.κ pk os = true) {σ : L2.St} {H : Hp} {E : XK} {O : OS} {ε : En} {Q : D → En → Prop} {R : VK} (A : Abs g O H σ ε) (q : eCall pk sp os ε Q)
    (k : ∀ d ε' v H1 H' O1 O2, Ext g.κ σ O H O1 H1 → Ext g.κ σ O1 H1 O2 H' → (∀ a, O1 a → H1 a ≠ none) → ((fr = false ∧ Rp H' O2 d v ∧ Abs g O2 H' σ ε') ∨ ∃ p, fr = true ∧ v = .ref p ∧ H1 p = none ∧ (OS.add O2 p).sl p ∧ Ow H' (OS.add O2 p) d v ∧ Abs g (OS.add O2 p) H' σ ε') → Q d ε' → R v H') : rdA g os σ H fun vs H1 => spD pk fr sp vs H1 R E := by
  refine ⟨O, ε, A, aEv_mono m (fun xs ε1 ⟨ox, ds, e, q⟩ vs H1 O1 A1 x1 ors => ?_) (aEv_opx m q)⟩
  show spD pk fr sp vs H1 R E
  have ai := args_in A1 hb ox ors e
  refine ⟨O1.pas (pk.contains .st), ds, ai, ms _ _ _ (fun d outs z v H' kk so r => ?_) q⟩
  have hb' := hb
  unfold argB at hb'
  simp only [Bool.and_eq_true, decide_eq_true_eq] at hb'
  have hS : ∀ a ∈ ioL pk vs, SlotAt g.κ σ a := fun a ha => by
    obtain ⟨j, h1, h2⟩ := ioL_mem.mp ha
    obtain ⟨i, _, mi, si, _⟩ := io_slots A1 hb'.1.1.1 ox ors j a h1 h2
    exact ⟨i, mi, si⟩
  have A2 : ∀ O2 : OS, Outs H' O2 pk vs outs → (∀ a, O2 a → O1 a ∨ H1 a = none) → (∀ a, O1 a → O2 a) → (∀ a, O2 a → H' a ≠ none) → (∀ a, O2.m a → O1.m a ∨ H1 a = none) → (∀ a, O1.m a → O2.m a) → (∀ a, O2.m a → O2 a) → Abs g O2 H' σ (putO pk os outs ε1) := fun O2 ou w mo hn wm mm mo' => A1.mutsM (Mx := (O1.pas (pk.contains .st)).m) (fun _ z => z.2) hS kk so (putO_len _ _ _ _) (fun j d' ej => by
    rcases putO_get (g := g) hb'.1.1.1 ox (ors) ou hb'.1.1.2 ej with ⟨m', kd, v', h1, ho, h2, h3, h4, h5⟩ | ⟨h1, h2⟩
    · cases kd <;> first | (exact absurd ho (by decide)) | skip
      · have h5 : Ow H' O2 d' v' := h5
        obtain ⟨a, rfl⟩ : ∃ a, v' = .ref a := by
          match d', h5 with
          | .list _, ⟨b, xs, e, _⟩ => exact ⟨b, e⟩
          | .dict _, ⟨b, _, e, _⟩ => exact ⟨b, e⟩
        obtain ⟨i, e1, mi, si, _⟩ := io_slots A1 hb'.1.1.1 ox ors m' a h1 h3
        rw [h2] at e1
        cases e1
        exact .inl ⟨a, mi, h4, ioL_mem.mpr ⟨m', h1, h3⟩, h5⟩
      · obtain ⟨i, e1, hk, _⟩ := st_slots A1 hb'.1.1.1 ox ors m' h1
        rw [h2] at e1
        cases e1
        exact .inr (.inl ⟨v', h4, hk, h5⟩)
    · refine .inr (.inr ⟨h1, fun a mj sj z => ?_, fun hk b mb => h2 (stB_in hb'.2 mb.1 hk)⟩)
      obtain ⟨m', h3, h4⟩ := ioL_mem.mp z
      obtain ⟨i, e1, mi, si, ii⟩ := io_slots A1 hb'.1.1.1 ox ors m' a h3 h4
      rw [A1.apart j i a mj mi sj si] at h2
      exact h2 ii) w mo hn wm mm mo'
  obtain ⟨Om, ⟨g1, g2, g3⟩, r⟩ := r
  have g2' : ∀ a, Om a → O1.m a ∨ H1 a = none := fun a z => (g2 a z).imp_left (·.2)
  have x2 : Ext g.κ σ O1 H1 (OS.aft O1 Om) H' := ⟨fun a o e n => kk a o e (fun z => n (.inl (hS a z))) (fun z => n (.inr z.2)), fun a z => z.elim .inl fun z => (g2' a z).imp_left fun z => A1.ownO a (.inr z), fun a z => .inl z, so, fun a z => z.elim .inl (g2' a), fun a z => .inl z⟩
  refine k d _ v H1 H' O1 (OS.aft O1 Om) x1 x2 A1.has ?_ z
  have hn : ∀ a, (OS.aft O1 Om) a → H' a ≠ none := fun a z => z.elim (fun z => so a (A1.has a z)) (g3 a)
  have mo' : ∀ a, (OS.aft O1 Om).m a → (OS.aft O1 Om) a := fun a z => z.imp_left fun z => A1.ownO a (.inr z)
  cases fr with
  | false =>
    rw [if_neg Bool.false_ne_true] at r
    exact .inl ⟨rfl, Rp.anti (O := (O1.pas (pk.contains .st)).grow Om) (O' := OS.aft O1 Om) (fun _ z => z) r.1, A2 _ (r.2.to (O := (O1.pas (pk.contains .st)).grow Om) (O' := OS.aft O1 Om) (fun _ => Iff.rfl) fun _ z => .inr z) x2.own x2.mono hn x2.ownm x2.monom mo'⟩
  | true =>
    rw [if_pos rfl] at r
    obtain ⟨p, ev, np, nOm, ow, ou⟩ := r
    have ow' : Ow H' (OS.add (OS.aft O1 Om) p) d v := SlotOk.to (k := .own) (O := OS.add ((O1.pas (pk.contains .st)).grow Om) p) (O' := OS.add (OS.aft O1 Om) p) (fun _ => Iff.rfl) (fun _ z => .inr z) ow
    refine .inr ⟨p, rfl, ev, np, ⟨.inl rfl, fun z => z.elim (fun z => A1.nm np z) nOm⟩, ow', A2 _ (ou.to (O := OS.add ((O1.pas (pk.contains .st)).grow Om) p) (O' := OS.add (OS.aft O1 Om) p) (fun _ => Iff.rfl) fun _ z => .inr z) (fun a z => (OS.add_or z).elim (fun e => .inr (e ▸ np)) (x2.own a)) (fun a z => OS.add_of (x2.mono a z)) (fun a z => (OS.add_or z).elim (fun e => ?_) (hn a)) x2.ownm x2.monom fun a z => OS.add_of (mo' a z)⟩
    rw [e]
    rw [ev] at ow'
    exact ow_ref ow'
theorem de_call {x : Str} {p : Pos} {k : Nat} {ps : List Str} {pk : List Kd} {sp : DSp} (C : Cal X.prog X.w X.K X.mg X.base k x ps pk false sp) (hr : Room k X.A) (hgd : X.A.guards = some []) (ha : DA X κ (a :: es) os) (hg : Gl X x := by rfl) (hb : argB κ pk os = true := by rfl) (hdb : (x == ("__debug__" : Str)) = false := by decide) :
    DE X κ (.Call (.Name x p) (a :: es) [] pos) (eCall pk sp os) := by
  obtain ⟨f, fd, F, hm, hk, hbi⟩ := C.ex
  refine ⟨fun g hg' => (pe_callG F hr hgd hg hm hk hbi (E := E0) pass0 (ha.pa g hg') hdb (st_cons ha.hd.1) (st_any ha.hd.2)).imp fun σ H Q ⟨O, ε, A, q⟩ => ?_, eCall_mono C.mono ha.mono⟩
  refine call_core ha.mono C.mono (by rw [hg']; exact hb) A q fun d ε' v H1 H' O1 O2 x1 x2 _ r z => ?_
  rcases r with ⟨_, rp, A'⟩ | ⟨_, h, _⟩
  · exact z v H' O2 A' (x1.trans x2) rp
  · cases h
def MuOk (r : V → List V → Hp → VK → Prop) (f : D → List D → Option (D × D)) : Prop := ∀ (H : Hp) (O : OS) (a : Addr) (cur res new : D) (ds : List D) (xs : List V) (Q : VK), Ow H O cur (.ref a) → RpL H O ds xs → f cur ds = some (res, new) →
  (∀ v H', (∀ b o, b ≠ a → H b = some o → H' b = some o) → H' a ≠ none → Ow H' O new (.ref a) → Rp H' O res v → Q v H') → r (.ref a) xs H Q
def isL : D → Bool
  | .list _ => true
  | _ => false
def eMut (i : Nat) (f : D → List D → Option (D × D)) (ws : List WE) : WE := fun ε Q => (∃ d, ε[i]? = some (some d) ∧ isL d = true) ∧ cEv ws ε fun ds ε1 => ∃ cur res new, ε1[i]? = some (some cur) ∧ f cur ds = some (res, new) ∧ Q res (ε1.set i (some new))
theorem eMut_mono {i : Nat} {f : D → List D → Option (D × D)} {ws : List WE} (m : MonoC ws) : Mono (eMut i f ws) := fun ε Q Q' h ⟨h1, q⟩ => ⟨h1, cEv_mono m (fun ds ε1 ⟨cur, res, new, e1, e2, q⟩ => ⟨cur, res, new, e1, e2, h _ _ q⟩) q⟩
theorem mu_get {g : Gx} {O : OS} {H : Hp} {σ : L2.St} {ε : En} (A : Abs g O H σ ε) {i : Nat} (hk : mu g.κ i) {d : D} (e : ε[i]? = some (some d)) : ∃ a, σ[i]? = some (some (.ref a)) ∧ Ow H O d (.ref a) := by
  obtain ⟨v, k, e1, e2, s⟩ := A.slot i d e
  have ow : Ow H O d v := by
    rcases hk with hk | hk <;> (rw [hk] at e2; cases e2; exact s)
  obtain ⟨a, rfl⟩ : ∃ a, v = .ref a := by
    match d, ow with
    | .list _, ⟨b, xs, e, _⟩ => exact ⟨b, e⟩
    | .dict _, ⟨b, _, e, _⟩ => exact ⟨b, e⟩
  exact ⟨a, e1, ow⟩
theorem mut_core {g : Gx} {i : Nat} {r : V → List V → Hp → VK → Prop} {f : D → List D → Option (D × D)} {ws : List WE} (hr : MuOk r f) (hk : mu g.κ i) (m : MonoC ws) {σ : L2.St} {H : Hp} {Q : VK} (q : rdE g (eMut i f ws) σ H Q) :
    ∃ v, σ[i]? = some (some v) ∧ tyV X.K "list" v H ∧ rdC g ws σ H fun xs H2 => r v xs H2 Q := by
  obtain ⟨O, ε, A, ⟨d, ed, hd⟩, q⟩ := q
  obtain ⟨a, ea, ow⟩ := mu_get A hk ed
  refine ⟨.ref a, ea, ?_, O, ε, A, cEv_mono m (fun ds ε1 ⟨cur, res, new, e1, e2, q⟩ vs H1 O1 A1 x1 rl => ?_) q⟩
  · cases d with
    | list _ =>
      obtain ⟨b, xs, e, _, r, _⟩ := ow
      cases e
      exact Or.inl ⟨rfl, _, SqL.of r⟩
    | none => cases hd
    | bool _ => cases hd
    | int _ => cases hd
    | str _ => cases hd
    | tuple _ => cases hd
    | dict _ => cases hd
  · obtain ⟨a', ea', ow1⟩ := mu_get A1 hk e1
    rw [ea] at ea'
    cases ea'
    refine hr H1 O1 a cur res new ds vs Q ow1 rl e2 fun v H' kb hs ow2 rp => ?_
    exact q v H' O1 (A1.mut hk ea kb hs ow2) (x1.trans (mut_ext hk ea kb hs)) rp
variable {i : Nat} {x m : Str} {id : String} {npos apos : Pos}
theorem de_mut {r : V → List V → Hp → VK → Prop} {f : D → List D → Option (D × D)} {ws : List WE} (slot : Slot "list" m id) (hty : typeOf (.builtin id) = pure (.type "method_descriptor")) (hm : MtR X id r) (hf : MuOk r f) (ha : DC X κ (e :: es) ws)
    (hk : (decide (κ[i]? = some .own) || decide (κ[i]? = some .io)) = true := by rfl) (hN : X.N[i]? = some x := by rfl) (hv : Vis X.env.scope x := by first | exact Or.inl rfl | exact Or.inr (Or.inl rfl) | exact Or.inr (Or.inr rfl)) (hd : (x == ("__debug__" : Str)) = false := by decide)
    (hcd : (x == ("__classdict__" : Str)) = false := by decide) (hst : (e :: es).all notStar = true := by rfl) (hlen : (decide ((e :: es).length + ([] : List Keyword).length + (if ([] : List Keyword).isEmpty then 0 else 1) < 30)) = true := by rfl)
    (hbase : attributeBase (.Name x npos) m X.env (eval (.Name x npos) X.env) = eval (.Name x npos) X.env := by rfl) (hline : (apos.endLine == pos.line) = true := by rfl) :
    DE X κ (.Call (.Attribute (.Name x npos) m apos) (e :: es) [] pos) (eMut i f ws) := by
  have hs : notStar e = true ∧ es.all notStar = true := by rwa [List.all_cons, Bool.and_eq_true] at hst
  refine ⟨fun g hg => (pe_bm PySem.F.plainAttrs_list slot hty hm (pe_var hN hv hd hcd) (ha.pa g hg) hbase (by rw [st_all hst, hlen]; rfl) hline (st_cons hs.1) (st_any hs.2)).imp fun σ H Q q => ?_, eMut_mono ha.mono⟩
  have hk' : mu g.κ i := by
    rw [hg]
    simpa [mu] using hk
  exact mut_core hf hk' ha.mono q
theorem de_mut0 {r : V → List V → Hp → VK → Prop} {f : D → List D → Option (D × D)} (slot : Slot "list" m id) (hty : typeOf (.builtin id) = pure (.type "method_descriptor")) (hm : MtR X id r) (hf : MuOk r f)
    (hk : (decide (κ[i]? = some .own) || decide (κ[i]? = some .io)) = true := by rfl) (hN : X.N[i]? = some x := by rfl) (hv : Vis X.env.scope x := by first | exact Or.inl rfl | exact Or.inr (Or.inl rfl) | exact Or.inr (Or.inr rfl)) (hd : (x == ("__debug__" : Str)) = false := by decide)
    (hcd : (x == ("__classdict__" : Str)) = false := by decide) (hbase : attributeBase (.Name x npos) m X.env (eval (.Name x npos) X.env) = eval (.Name x npos) X.env := by rfl) (hline : (apos.endLine == pos.line) = true := by rfl) :
    DE X κ (.Call (.Attribute (.Name x npos) m apos) [] [] pos) (eMut i f []) := by
  refine ⟨fun g hg => (pe_bm0 PySem.F.plainAttrs_list slot hty hm (pe_var hN hv hd hcd) hbase hline).imp fun σ H Q q => ?_, eMut_mono fun _ h => nomatch h⟩
  have hk' : mu g.κ i := by
    rw [hg]
    simpa [mu] using hk
  obtain ⟨v, e1, e2, O, ε, A, q⟩ := mut_core (X := X) (ws := []) hf hk' (fun _ h => nomatch h) q
  exact ⟨v, e1, e2, q [] H O A .refl rfl⟩
def PutOk (t : TSet) (f : D → D → D → Option D) : Prop := ∀ (H : Hp) (O : OS) (a : Addr) (cur k d new : D) (kv v : V) (Q : Hp → Prop), Ow H O cur (.ref a) → Rp H O k kv → Rp H O d v → f cur k d = some new →
  (∀ H', (∀ b o, b ≠ a → H b = some o → H' b = some o) → H' a ≠ none → Ow H' O new (.ref a) → Q H') → t (.ref a) kv v H Q
def sPut (i : Nat) (f : D → D → D → Option D) (w wk : WE) : WS := fun E ε => w ε fun d ε1 => (∃ c, ε1[i]? = some (some c)) ∧ wk ε1 fun k ε2 => ∃ cur new, ε2[i]? = some (some cur) ∧ f cur k d = some new ∧ E.nx (ε2.set i (some new))
theorem ds_put {t : TSet} {f : D → D → D → Option D} {k : Expr} {w wk : WE} {tpos : Pos} (ht : PSet X t) (hf : PutOk t f) (h : DE X κ e w) (hki : DE X κ k wk)
    (hk : (decide (κ[i]? = some .own) || decide (κ[i]? = some .io)) = true := by rfl) (hN : X.N[i]? = some x := by rfl) (hv : Vis X.env.scope x := by first | exact Or.inl rfl | exact Or.inr (Or.inl rfl) | exact Or.inr (Or.inr rfl)) (hd : (x == ("__debug__" : Str)) = false := by decide)
    (hcd : (x == ("__classdict__" : Str)) = false := by decide)
    (ha : ∀ v, assign (.Subscript (.Name x npos) k tpos) X.env v = (do
      let ov ← holding [v] (eval (.Name x npos) X.env)
      let iv ← holding [v, ov] (eval k X.env)
      standAt tpos
      holding [v, ov, iv] (setItem ov iv v)
      release [v, ov, iv] []) := by intro _; rfl)
    (hs : swapsWithSole [.Subscript (.Name x npos) k tpos] e pos.line X.env = pure false := by rfl) (hw : swappedStores [.Subscript (.Name x npos) k tpos] e X.env = pure none := by rfl)
    (h1 : (assignEach [.Subscript (.Name x npos) k tpos] X.env).map (·.2) = [assign (.Subscript (.Name x npos) k tpos) X.env] := by rfl) :
    DS X κ fr (.Assign [.Subscript (.Name x npos) k tpos] e pos) (sPut i f w wk) :=
  ⟨fun g hg _ => (ps_asg (h.pe g hg) (pg_sub (pe_var hN hv hd hcd) (hki.pe g hg) ht ha) hs hw h1).imp fun D σ H ⟨O, ε, A, q⟩ => ⟨O, ε, A, h.mono _ _ _ (fun d ε1 ⟨⟨c, ec⟩, q⟩ v H1 O1 A1 x1 r1 => by
      have hk' : mu g.κ i := by
        rw [hg]
        simpa [mu] using hk
      obtain ⟨a, ea, _⟩ := mu_get A1 hk' ec
      refine ⟨.ref a, ea, O1, ε1, A1, hki.mono _ _ _ (fun kd ε2 ⟨cur, new, e1, e2, q⟩ kv H2 O2 A2 x2 r2 => ?_) q⟩
      obtain ⟨a', ea', ow⟩ := mu_get A2 hk' e1
      rw [ea] at ea'
      cases ea'
      exact hf H2 O2 a cur kd d new kv v _ ow r2 (A1.rp x2 r1) e2 fun H' kb hs ow2 => q σ H' O2 (A2.mut hk' ea kb hs ow2)) q⟩,
    fun E E' ε l q => h.mono _ _ _ (fun d ε1 ⟨hc, q⟩ => ⟨hc, hki.mono _ _ _ (fun kd ε2 ⟨cur, new, e1, e2, q⟩ => ⟨cur, new, e1, e2, l.nx _ q⟩) q⟩) q⟩
end
end DL
namespace DL
open PySem PySem.Spec L2
def iOp (c : Int → Int → Bool) (g : Int → Int → D) : D → D → Option D
  | .int i, .int j => if c i j then some (g i j) else none
  | _, _ => none
theorem iOp_ok {C : Int → Int → Prop} {c : Int → Int → Bool} {g : Int → Int → V} {g' : Int → Int → D} (hc : ∀ i j, c i j = true → C i j) (hg : ∀ i j H O, Rp H O (g' i j) (g i j)) : OpS (rI C g) (iOp c g') := fun H O x y a b r Q _ ha hb e k => by
  match a, b, ha, hb, e with
  | .int i, .int j, ha, hb, e =>
    have ha : x = .int i := ha
    have hb : y = .int j := hb
    subst ha hb
    have e : (if c i j then some (g' i j) else none) = some r := e
    split at e
    · rename_i h
      cases e
      exact ⟨i, j, rfl, rfl, hc i j h, k _ H (Same.refl _) (hg i j H O)⟩
    · cases e
theorem iOp0_ok {g : Int → Int → V} {g' : Int → Int → D} (hg : ∀ i j H O, Rp H O (g' i j) (g i j)) : OpS (rI0 g) (iOp (fun _ _ => true) g') := fun H O x y a b r Q _ ha hb e k => by
  match a, b, ha, hb, e with
  | .int i, .int j, ha, hb, e =>
    have ha : x = .int i := ha
    have hb : y = .int j := hb
    subst ha hb
    have e : some (g' i j) = some r := e
    cases e
    exact ⟨i, j, rfl, rfl, k _ H (Same.refl _) (hg i j H O)⟩
def dSub := iOp (fun _ _ => true) fun i j => .int (i - j)
def smallI (i : Int) : Bool := decide (-(2 ^ 64) < i) && decide (i < 2 ^ 64)
def dMulI := iOp (fun i j => smallI i || smallI j) fun i j => .int (i * j)
def dFdiv := iOp (fun _ j => decide (0 < j) && decide (j < 1073741824)) fun i j => .int (i / j)
def dMod := iOp (fun _ j => decide (0 < j)) fun i j => .int (i % j)
def dPow := iOp (fun i j => decide (0 ≤ j) && decide (j ≤ 1000000) && decide (i.natAbs < 2 ^ 64)) fun i j => .int (i ^ j.toNat)
theorem smallI_ok {i : Int} (h : smallI i = true) : -(2 ^ 64) < i ∧ i < 2 ^ 64 := by
  unfold smallI at h
  simpa using h
theorem sub_ok : OpS (rI0 fun i j => .int (i - j)) dSub := iOp0_ok fun _ _ _ _ => rfl
theorem mulI_ok : OpS (rI CMul fun i j => .int (i * j)) dMulI := iOp_ok (fun i j h => by
  rcases (by simpa using h : smallI i = true ∨ smallI j = true) with h | h
  · exact .inl (smallI_ok h)
  · exact .inr (smallI_ok h)) fun _ _ _ _ => rfl
/-- a text written several times -/
def rMulS : R2 := fun x y H Q => ∃ (z : Str) (n : Int), x = .str z ∧ y = .int n ∧ MulOk z n ∧ Q (.str (Txt.mul z n)) H
theorem op_mulS {X : CxD} : OpR X (binaryOp .Mult) rMulS := by
  intro pins s σ H x y v u Q I rx ry h
  obtain ⟨z, n, ex, ey, ok, q⟩ := h
  subst ex ey
  obtain ⟨t, rfl⟩ := rx
  obtain ⟨t2, rfl⟩ := ry
  exact SB.mul ok fun t' k => ⟨.str (Txt.mul z n), H, I.tok _, ⟨_, rfl⟩, q⟩
def mulFit (z : Str) (n : Int) : Prop := (0 ≤ n ∧ n ≤ 1048576) ∧ z.length * n.toNat ≤ sizeLine
theorem mulFit.ok {z : Str} {n : Int} (h : mulFit z n) : MulOk z n := by
  obtain ⟨⟨h0, h1⟩, h2⟩ := h
  have hz : sizeLine = 16777216 := rfl
  refine ⟨?_, fun h3 _ => ?_, fun _ _ => ?_⟩
  · rw [Bool.or_eq_false_iff, decide_eq_false_iff_not, decide_eq_false_iff_not]
    omega
  · intro h4
    have p : 0 < n := by omega
    have h5 := Int.lt_ediv_add_one_mul_self ((2 : Int) ^ 63 - 1) p
    have h6 : (((2 : Int) ^ 63 - 1) / n + 1) * n ≤ (z.length : Int) * n := Int.mul_le_mul_of_nonneg_right (by omega) (by omega)
    have h7 : ((z.length * n.toNat : Nat) : Int) = (z.length : Int) * n := by
      rw [Int.natCast_mul, Int.toNat_of_nonneg h0]
    omega
  · show decide (z.length * n.toNat > sizeLine) = false
    rw [decide_eq_false_iff_not]
    omega
instance {z : Str} {n : Int} : Decidable (mulFit z n) := inferInstanceAs (Decidable (_ ∧ _))
def dMul : D → D → Option D
  | .str z, .int n => if mulFit z n then some (.str (Txt.mul z n)) else none
  | a, b => dMulI a b
abbrev rMulA : R2 := fun x y H Q => rI CMul (fun i j => .int (i * j)) x y H Q ∨ rMulS x y H Q
theorem op_mulA {X : CxD} : OpR X (binaryOp .Mult) rMulA := op_mul.or op_mulS
theorem mul_ok : OpS rMulA dMul := fun H O x y a b c Q hO ha hb e k => by
  match a, b, ha, hb, e with
  | .int i, .int j, ha, hb, e => exact .inl (mulI_ok H O x y (.int i) (.int j) c Q hO ha hb e k)
  | .str z, .int n, ha, hb, e =>
    have ha : x = .str z := ha
    have hb : y = .int n := hb
    subst ha hb
    have e : (if mulFit z n then some (PyData.str (Txt.mul z n)) else none) = some c := e
    split at e
    · rename_i h
      cases e
      exact .inr ⟨z, n, rfl, rfl, h.ok, k _ H (Same.refl _) rfl⟩
    · cases e
theorem fdiv_ok : OpS (rI CDiv fun i j => .int (i / j)) dFdiv := iOp_ok (fun i j h => by simpa [CDiv] using h) fun _ _ _ _ => rfl
theorem mod_ok : OpS (rI (fun _ j => 0 < j) fun i j => .int (i % j)) dMod := iOp_ok (fun i j h => by simpa using h) fun _ _ _ _ => rfl
theorem pow_ok : OpS (rI CPow fun i j => .int (i ^ j.toNat)) dPow := iOp_ok (fun i j h => by
  have h : (0 ≤ j ∧ j ≤ 1000000) ∧ i.natAbs < 2 ^ 64 := by simpa using h
  exact ⟨h.1.1, h.1.2, h.2⟩) fun _ _ _ _ => rfl
def dLt := iOp (fun _ _ => true) fun i j => .bool (decide (i < j))
def dLe := iOp (fun _ _ => true) fun i j => .bool (decide (i ≤ j))
def dGt := iOp (fun _ _ => true) fun i j => .bool (decide (j < i))
def dGe := iOp (fun _ _ => true) fun i j => .bool (decide (j ≤ i))
theorem lt_ok : OpS (rI0 fun i j => .bl (decide (i < j))) dLt := iOp0_ok fun _ _ _ _ => rfl
theorem le_ok : OpS (rI0 fun i j => .bl (decide (i ≤ j))) dLe := iOp0_ok fun _ _ _ _ => rfl
theorem gt_ok : OpS (rI0 fun i j => .bl (decide (j < i))) dGt := iOp0_ok fun _ _ _ _ => rfl
theorem ge_ok : OpS (rI0 fun i j => .bl (decide (j ≤ i))) dGe := iOp0_ok fun _ _ _ _ => rfl
def dAdd : D → D → Option D
  | .int i, .int j => some (.int (i + j))
  | .str x, .str y => if x.length + y.length ≤ sizeLine then some (.str (x ++ y)) else none
  | .tuple xs, .tuple ys => if xs.length + ys.length ≤ sizeLine then some (.tuple (xs ++ ys)) else none
  | .list xs, .list ys => if xs.length + ys.length ≤ sizeLine then some (.list (xs ++ ys)) else none
  | _, _ => none
theorem RpL.app {H : Hp} {O : OS} : ∀ {ds es : List D} {vs us : List V}, RpL H O ds vs → RpL H O es us → RpL H O (ds ++ es) (vs ++ us)
  | [], es, vs, us, h, q => by
    have h : vs = [] := h
    subst h
    exact q
  | d :: ds, es, _, us, ⟨v, r, e, h, q⟩, q' => by
    subst e
    exact ⟨v, r ++ us, rfl, h, RpL.app q q'⟩
theorem RpL.nil_iff {H : Hp} {O : OS} {ds : List D} {vs : List V} (h : RpL H O ds vs) : vs = [] ↔ ds = [] := by
  have := h.length
  rw [← List.length_eq_zero_iff, this, List.length_eq_zero_iff]
abbrev rAddA (K : PySem.W.Frag) : R2 := fun x y H Q => rI0 (fun i j => .int (i + j)) x y H Q ∨ (∃ i j, x = .str i ∧ y = .str j ∧ i.length + j.length ≤ sizeLine ∧ Q (.str (i ++ j)) H) ∨ rCatA K x y H Q ∨ rCat x y H Q
theorem op_addA {X : CxD} : OpR X (binaryOp .Add) (rAddA X.K) := op_add.or (op_add_str.or (op_catA.or op_cat))
theorem tup_new {H : Hp} {O : OS} {xs : List V} {ds : List D} {p : Addr} (hO : ∀ a, O a → H a ≠ none) (np : H p = none) (r : RpL H O ds xs) : Rp (upd H p (.tup xs)) O (.tuple ds) (.ref p) :=
  ⟨p, xs, rfl, fun z => hO p z np, RdT.of upd_same, RpL.ext (fun a o e _ => same_upd np a o e) (fun _ z => .inl z) r⟩
theorem lst_new {H : Hp} {O : OS} {xs : List V} {ds : List D} {p : Addr} (hO : ∀ a, O a → H a ≠ none) (np : H p = none) (r : RpL H O ds xs) : Rp (upd H p (.lst xs)) O (.list ds) (.ref p) :=
  ⟨p, xs, rfl, fun z => hO p z np, upd_same, RpL.ext (fun a o e _ => same_upd np a o e) (fun _ z => .inl z) r⟩
theorem lst_own {H : Hp} {O O' : OS} {xs : List V} {ds : List D} {p : Addr} (np : H p = none) (w : ∀ a, O' a → O a ∨ a = p) (hp : O' p) (r : RpL H O ds xs) : Ow (upd H p (.lst xs)) O' (.list ds) (.ref p) :=
  ⟨p, xs, rfl, hp, upd_same, RpL.ext (fun a o e _ => same_upd np a o e) (fun a z => (w a z).imp id fun e => by rw [e]; exact np) r⟩
/-- both are clean: where one is empty the other one is handed on itself -/
theorem add_ok {K : PySem.W.Frag} : ∀ (H : Hp) (O : OS) (x y : V) (a b c : D) (Q : VK), (∀ a, O a → H a ≠ none) → Rp H O a x → Rp H O b y → dAdd a b = some c → (∀ v H', Same H H' → Rp H' O c v → Q v H') → rAddA K x y H Q := fun H O x y a b c Q hO ha hb e k => by
  match a, b, ha, hb, e with
  | .int i, .int j, ha, hb, e =>
    have ha : x = .int i := ha
    have hb : y = .int j := hb
    subst ha hb
    cases (show some (PyData.int (i + j)) = some c from e)
    exact .inl ⟨i, j, rfl, rfl, k _ H (Same.refl _) rfl⟩
  | .str i, .str j, ha, hb, e =>
    have ha : x = .str i := ha
    have hb : y = .str j := hb
    subst ha hb
    have e : (if i.length + j.length ≤ sizeLine then some (PyData.str (i ++ j)) else none) = some c := e
    split at e
    · rename_i h
      cases e
      exact .inr (.inl ⟨i, j, rfl, rfl, h, k _ H (Same.refl _) rfl⟩)
    · cases e
  | .tuple xs, .tuple ys, ⟨p, us, ex, n, hp, r⟩, ⟨q, ws, ey, n2, hq, r2⟩, e =>
    subst ex ey
    have e : (if xs.length + ys.length ≤ sizeLine then some (PyData.tuple (xs ++ ys)) else none) = some c := e
    split at e
    · rename_i h
      cases e
      refine .inr (.inr (.inl ⟨p, q, us, ws, rfl, rfl, sqt hp, sqt hq, by rw [r.length, r2.length]; exact h, fun z => ?_, fun _ z => ?_, fun _ _ p' np => ?_⟩))
      · have hx : xs = [] := r.nil_iff.mp z
        subst hx
        exact k _ H (Same.refl _) ⟨q, ws, rfl, n2, hq, r2⟩
      · have hy : ys = [] := r2.nil_iff.mp z
        subst hy
        exact k _ H (Same.refl _) ⟨p, us, rfl, n, hp, by rw [List.append_nil]; exact r⟩
      · exact k _ _ (same_upd np) (tup_new hO np (r.app r2))
    · cases e
  | .list xs, .list ys, ⟨p, us, ex, n, hp, r⟩, ⟨q, ws, ey, n2, hq, r2⟩, e =>
    subst ex ey
    have e : (if xs.length + ys.length ≤ sizeLine then some (PyData.list (xs ++ ys)) else none) = some c := e
    split at e
    · rename_i h
      cases e
      exact .inr (.inr (.inr ⟨p, q, us, ws, rfl, rfl, hp, hq, by rw [r.length, r2.length]; exact h, fun p' np => k _ _ (same_upd np) (lst_new hO np (r.app r2))⟩))
    · cases e
/-- an operation on two clean operands -/
theorem de_opC {X : CxD} {κ : List Kd} {a b : Expr} {wa wb : WE} {pos : Pos} {op : Operator} {r : R2} {f : D → D → Option D} (ho : OpR X (binaryOp op) r)
    (hf : ∀ (H : Hp) (O : OS) (x y : V) (a b c : D) (Q : VK), (∀ a, O a → H a ≠ none) → Rp H O a x → Rp H O b y → f a b = some c → (∀ v H', Same H H' → Rp H' O c v → Q v H') → r x y H Q) (ha : DE X κ a wa) (hb : DE X κ b wb) : DE X κ (.BinOp a op b pos) (eBin f (.ex wa) (.ex wb)) :=
  ⟨fun g hg => (pe_op ho (ha.pe g hg) (hb.pe g hg)).imp fun σ H Q ⟨O, ε, A, h⟩ => by
    refine ⟨O, ε, A, ha.mono _ _ _ (fun d ε1 h v1 H1 O1 A1 x1 r1 => ?_) h⟩
    refine ⟨O1, ε1, A1, hb.mono _ _ _ (fun y ε2 h v2 H2 O2 A2 x2 r2 => ?_) h⟩
    obtain ⟨a, b, c, ea, eb, ec, q⟩ := h
    cases ea
    cases eb
    exact hf H2 O2 v1 v2 _ _ c Q A2.has (A1.rp x2 r1) r2 ec fun v H' s rp => q v H' O2 (A2.same s) (x1.trans (x2.trans (.same s))) rp, eBin_mono ha.mono hb.mono⟩
mutual
theorem rp_dp {K : PySem.W.Frag} {H : Hp} {O : OS} : ∀ {d : D} {v : V}, Rp H O d v → d.hasDict = false → Dp K H v d
  | .none, v, h, _ => by
    have h : v = .non := h
    rw [h]
    exact .non
  | .bool b, v, h, _ => by
    have h : v = .bl b := h
    rw [h]
    exact .bl b
  | .int i, v, h, _ => by
    have h : v = .int i := h
    rw [h]
    exact .int i
  | .str x, v, h, _ => by
    have h : v = .str x := h
    rw [h]
    exact .str x
  | .list ds, v, ⟨a, xs, e, _, r, q⟩, hc => by
    rw [e]
    exact .lst (SqL.of r) (rpL_dp q (by simpa [PyData.hasDict] using hc))
  | .tuple ds, v, ⟨a, xs, e, _, r, q⟩, hc => by
    rw [e]
    exact .tup (sqt r) (rpL_dp q (by simpa [PyData.hasDict] using hc))
  | .dict _, _, _, hc => by simp [PyData.hasDict] at hc
theorem rpL_dp {K : PySem.W.Frag} {H : Hp} {O : OS} : ∀ {ds : List D} {vs : List V}, RpL H O ds vs → PyData.hasDictAll ds = false → DpAll K H vs ds
  | [], vs, h, _ => by
    have h : vs = [] := h
    rw [h]
    exact .nil
  | d :: ds, vs, ⟨v, r, e, h, q⟩, hc => by
    have hc : d.hasDict = false ∧ PyData.hasDictAll ds = false := by simpa [PyData.hasDictAll] using hc
    rw [e]
    exact .cons (rp_dp h hc.1) (rpL_dp q hc.2)
end
theorem nb_dp {K : PySem.W.Frag} {H : Hp} {O : OS} {d : D} {v : V} (h : Nb H O d v) (hc : d.hasDict = false) : Dp K H v d := by
  match d, h with
  | .none, h =>
    have h : v = .non := h
    rw [h]
    exact .non
  | .bool b, h =>
    have h : v = .bl b := h
    rw [h]
    exact .bl b
  | .int i, h =>
    have h : v = .int i := h
    rw [h]
    exact .int i
  | .str x, h =>
    have h : v = .str x := h
    rw [h]
    exact .str x
  | .list ds, ⟨a, xs, e, r, q⟩ =>
    rw [e]
    exact .lst (SqL.of r) (rpL_dp q (by simpa [PyData.hasDict] using hc))
  | .tuple ds, ⟨a, xs, e, r, q⟩ =>
    rw [e]
    exact .tup (sqt r) (rpL_dp q (by simpa [PyData.hasDict] using hc))
  | .dict _, _ => simp [PyData.hasDict] at hc
def bothS : D → D → Bool
  | .str _, .str _ => true
  | _, _ => false
def dEq (a b : D) : Option D := if bothS a b = true ∨ (SeqAt.shaped a = true ∧ SeqAt.shaped b = true) then some (.bool (PyData.eqv a b)) else none
def dNe (a b : D) : Option D := if bothS a b = true ∨ (SeqAt.shaped a = true ∧ SeqAt.shaped b = true) then some (.bool !(PyData.eqv a b)) else none
theorem eqv_str (x y : Str) : PyData.eqv (.str x) (.str y) = decide (V.str x = V.str y) := by
  show (x == y) = _
  by_cases h : x = y
  · subst h
    rw [decide_eq_true rfl]
    exact beq_self_eq_true x
  · rw [decide_eq_false (fun z => h (V.str.inj z))]
    exact beq_eq_false_iff_ne.mpr h
theorem shaped_can {d : D} (h : SeqAt.shaped d = true) : d.hasDict = false := PyData.hasDict_of_canLay d (SeqAt.canLay_of_shaped h)
theorem eq_ok {K : PySem.W.Frag} : OpS (fun x y H Q => rEq x y H Q ∨ rEqD K x y H Q) dEq := fun H O x y a b c Q hO ha hb e k => by
  unfold dEq at e
  split at e
  · rename_i h
    cases e
    rcases h with h | h
    · match a, b, h, ha, hb, k with
      | .str i, .str j, _, ha, hb, k =>
        have ha : x = .str i := ha
        have hb : y = .str j := hb
        subst ha hb
        exact .inl ⟨rfl, k _ H (Same.refl _) (by rw [eqv_str]; rfl)⟩
    · exact .inr ⟨a, b, nb_dp ha (shaped_can h.1), nb_dp hb (shaped_can h.2), h.1, h.2, k _ H (Same.refl _) rfl⟩
  · cases e
theorem ne_ok {K : PySem.W.Frag} : OpS (fun x y H Q => rNe x y H Q ∨ rNeD K x y H Q) dNe := fun H O x y a b c Q hO ha hb e k => by
  unfold dNe at e
  split at e
  · rename_i h
    cases e
    rcases h with h | h
    · match a, b, h, ha, hb, k with
      | .str i, .str j, _, ha, hb, k =>
        have ha : x = .str i := ha
        have hb : y = .str j := hb
        subst ha hb
        exact .inl ⟨rfl, k _ H (Same.refl _) (by rw [eqv_str]; rfl)⟩
    · exact .inr ⟨a, b, nb_dp ha (shaped_can h.1), nb_dp hb (shaped_can h.2), h.1, h.2, k _ H (Same.refl _) rfl⟩
  · cases e
def dAt0 : D → D → Option D
  | .list xs, .int i => atI xs i
  | .tuple xs, .int i => atI xs i
  | .str z, .int i => if z.length ≤ sizeLine then (atI z.cps.toList i).map fun c => .str ⟨#[c]⟩ else none
  | _, _ => none
theorem atI_rp {H : Hp} {O : OS} {ds : List D} {vs : List V} {i : Int} {d : D} (r : RpL H O ds vs) (h : atI ds i = some d) : ∃ v, atI vs i = some v ∧ Rp H O d v := by
  unfold atI at h ⊢
  rw [r.length]
  obtain ⟨j, h1, h2⟩ := Option.bind_eq_some_iff.mp h
  obtain ⟨v, e, h⟩ := r.at h2
  exact ⟨v, by rw [h1]; exact e, h⟩
theorem at0_ok {K : PySem.W.Frag} : OpS (rIx K) dAt0 := fun H O x y a b c Q hO ha hb e k => by
  match a, b, ha, hb, e with
  | .list xs, .int i, ⟨p, us, ex, hp, r⟩, hb, e =>
    have hb : y = .int i := hb
    subst ex hb
    obtain ⟨v, ev, rv⟩ := atI_rp r e
    exact .inl ⟨p, us, i, v, rfl, rfl, SqL.of hp, ev, k _ H (Same.refl _) rv⟩
  | .tuple xs, .int i, ⟨p, us, ex, hp, r⟩, hb, e =>
    have hb : y = .int i := hb
    subst ex hb
    obtain ⟨v, ev, rv⟩ := atI_rp r e
    exact .inr (.inl ⟨p, us, i, v, rfl, rfl, sqt hp, ev, k _ H (Same.refl _) rv⟩)
  | .str z, .int i, ha, hb, e =>
    have ha : x = .str z := ha
    have hb : y = .int i := hb
    subst ha hb
    have e : (if z.length ≤ sizeLine then (atI z.cps.toList i).map (fun c => PyData.str ⟨#[c]⟩) else none) = some c := e
    split at e
    · rename_i h
      obtain ⟨u, e1, e2⟩ := Option.map_eq_some_iff.mp e
      subst e2
      exact .inr (.inr ⟨z, i, u, rfl, rfl, h, e1, k _ H (Same.refl _) rfl⟩)
    · cases e
def dLen : List D → Option D
  | [.list xs] => some (.int xs.length)
  | [.tuple xs] => some (.int xs.length)
  | [.str z] => if z.length ≤ sizeLine then some (.int z.length) else none
  | _ => none
theorem len_ok {K : PySem.W.Frag} : CaS (fun xs H Q => ∃ x n, xs = [x] ∧ LenV K x H n ∧ Q (.int n) H) dLen := fun H O xs ds c Q hO ha e k => by
  match ds, ha, e with
  | [.list ys], ha, e =>
    obtain ⟨v, ev, p, us, ex, hp, r⟩ := nbl1 ha
    subst ex
    cases (show some (PyData.int ys.length) = some c from e)
    refine ⟨_, us.length, ev, Or.inl ⟨_, SqL.of hp, rfl⟩, k _ H (Same.refl _) ?_⟩
    rw [r.length]
    rfl
  | [.tuple ys], ha, e =>
    obtain ⟨v, ev, p, us, ex, hp, r⟩ := nbl1 ha
    subst ex
    cases (show some (PyData.int ys.length) = some c from e)
    refine ⟨_, us.length, ev, Or.inr ⟨_, sqt hp, rfl⟩, k _ H (Same.refl _) ?_⟩
    rw [r.length]
    rfl
  | [.str z], ha, e =>
    obtain ⟨v, ev, hv⟩ := nbl1 ha
    have hv : v = .str z := hv
    subst hv
    have e : (if z.length ≤ sizeLine then some (PyData.int z.length) else none) = some c := e
    split at e
    · rename_i h
      cases e
      exact ⟨_, z.length, ev, ⟨h, rfl⟩, k _ H (Same.refl _) rfl⟩
    · cases e
def dInt : List D → Option D
  | [.int i] => some (.int i)
  | [.bool b] => some (.int (if b then 1 else 0))
  | _ => none
theorem int_ok : CaS (fun xs H Q => (∃ i, xs = [.int i] ∧ Q (.int i) H) ∨ ∃ k, xs = [.bl k] ∧ Q (.int (if k then 1 else 0)) H) dInt := fun H O xs ds c Q hO ha e k => by
  match ds, ha, e with
  | [.int i], ha, e =>
    obtain ⟨v, ev, hv⟩ := nbl1 ha
    have hv : v = .int i := hv
    subst hv
    cases (show some (PyData.int i) = some c from e)
    exact .inl ⟨i, ev, k _ H (Same.refl _) rfl⟩
  | [.bool b], ha, e =>
    obtain ⟨v, ev, hv⟩ := nbl1 ha
    have hv : v = .bl b := hv
    subst hv
    cases (show some (PyData.int (if b then 1 else 0)) = some c from e)
    exact .inr ⟨b, ev, k _ H (Same.refl _) rfl⟩
def dAbs : List D → Option D
  | [.int i] => some (.int (if i < 0 then -i else i))
  | _ => none
theorem abs_ok : CaS (fun xs H Q => ∃ i, xs = [.int i] ∧ Q (.int (if i < 0 then -i else i)) H) dAbs := fun H O xs ds c Q hO ha e k => by
  match ds, ha, e with
  | [.int i], ha, e =>
    obtain ⟨v, ev, hv⟩ := nbl1 ha
    have hv : v = .int i := hv
    subst hv
    cases e
    exact ⟨i, ev, k _ H (Same.refl _) rfl⟩
def dMin2 : List D → Option D
  | [.int i, .int j] => some (.int (if j < i then j else i))
  | _ => none
theorem min2_ok : CaS (fun xs H Q => ∃ i j, xs = [.int i, .int j] ∧ Q (.int (if j < i then j else i)) H) dMin2 := fun H O xs ds c Q hO ha e k => by
  match ds, ha, e with
  | [.int i, .int j], ha, e =>
    obtain ⟨v, v2, ev, hv, hv2⟩ := nbl2 ha
    have hv : v = .int i := hv
    have hv2 : v2 = .int j := hv2
    subst hv hv2
    cases e
    exact ⟨i, j, ev, k _ H (Same.refl _) rfl⟩
/-- list(text) -/
theorem vals_at : ∀ {vs : List V} {us : List Value}, vs.length = us.length → (∀ (i : Nat) v u, vs[i]? = some v → us[i]? = some u → RelV v u) → Vals vs us
  | [], [], _, _ => .nil
  | [], _ :: _, h, _ => by cases h
  | _ :: _, [], h, _ => by cases h
  | v :: vs, u :: us, h, k => .cons (k 0 v u rfl rfl) (vals_at (Nat.succ.inj h) fun i a b e1 e2 => k (i + 1) a b e1 e2)
theorem call_list_txt {X : CxD} (hc : X.calm = true) : CallR X (.type "list") (fun xs H Q => ∃ z : Str, xs = [.str z] ∧ z.length ≤ sizeLine ∧ ∀ l, H l = none → Q (.ref l) (upd H l (.lst (z.cps.toList.map fun c => V.str ⟨#[c]⟩)))) := by
  intro pins s σ H xs us Q I r h
  obtain ⟨z, rfl, hz, q⟩ := h
  obtain ⟨u, rfl, t, rfl⟩ := vals1 r
  refine call_list_str (I.ok.hd hc) z t (fun h' tk acc c' kp e items => ?_) hz
  have r' : Vals (z.cps.toList.map fun c => V.str ⟨#[c]⟩) acc.toList := by
    refine vals_at (by rw [List.length_map, Array.length_toList, Array.length_toList, items.1]) fun i v u e1 e2 => ?_
    rw [Array.getElem?_toList] at e2
    obtain ⟨c, w, ec, rfl⟩ := items.2 i u e2
    rw [List.getElem?_map, Array.getElem?_toList, ec] at e1
    cases e1
    exact ⟨w, rfl⟩
  have hl : (z.cps.toList.map fun c => V.str ⟨#[c]⟩).length ≤ sizeLine := by rw [List.length_map, Array.length_toList]; exact hz
  exact ⟨.ref _, _, I.laid (t' := tk) kp (Nat.le_refl _) (show ObjOk X.prog X.w _ h' _ (.lst _) from ⟨hl, acc.toList, c', r', e⟩), rfl, q _ (I.hok.fresh (Nat.le_refl _))⟩
/-- list(x): a new list; tuple(x): of a list -/
def dList : List D → Option D
  | [.list xs] => some (.list xs)
  | [.tuple xs] => some (.list xs)
  | [.str z] => if z.length ≤ sizeLine then some (.list (z.cps.toList.map fun c => .str ⟨#[c]⟩)) else none
  | _ => none
def rListA (K : PySem.W.Frag) : List V → Hp → VK → Prop := fun xs H Q => (∃ p ys, xs = [.ref p] ∧ (SqL K H p ys ∨ SqT K H p ys) ∧ ∀ l, H l = none → Q (.ref l) (upd H l (.lst ys))) ∨
  ∃ z : Str, xs = [.str z] ∧ z.length ≤ sizeLine ∧ ∀ l, H l = none → Q (.ref l) (upd H l (.lst (z.cps.toList.map fun c => V.str ⟨#[c]⟩)))
theorem call_listA {X : CxD} (hc : X.calm = true) : CallR X (.type "list") (rListA X.K) := call_list_of.or (call_list_txt hc)
theorem rpL_signs {H : Hp} {O : OS} : ∀ (cs : List Nat), RpL H O (cs.map fun c => PyData.str ⟨#[c]⟩) (cs.map fun c => V.str ⟨#[c]⟩)
  | [] => rfl
  | c :: cs => ⟨_, _, rfl, rfl, rpL_signs cs⟩
theorem list_ok {K : PySem.W.Frag} : CaN (rListA K) dList := fun H O xs ds c Q hO ha e k => by
  match ds, ha, e with
  | [.list ys], ha, e =>
    obtain ⟨v, ev, p, us, ex, hp, r⟩ := nbl1 ha
    subst ex
    cases (show some (PyData.list ys) = some c from e)
    exact .inl ⟨p, us, ev, .inl (SqL.of hp), fun l nl => k l _ nl fun O' _ w hl => lst_own nl w hl r⟩
  | [.tuple ys], ha, e =>
    obtain ⟨v, ev, p, us, ex, hp, r⟩ := nbl1 ha
    subst ex
    cases (show some (PyData.list ys) = some c from e)
    exact .inl ⟨p, us, ev, .inr (sqt hp), fun l nl => k l _ nl fun O' _ w hl => lst_own nl w hl r⟩
  | [.str z], ha, e =>
    obtain ⟨v, ev, hv⟩ := nbl1 ha
    have hv : v = .str z := hv
    subst hv
    have e : (if z.length ≤ sizeLine then some (PyData.list (z.cps.toList.map fun c => .str ⟨#[c]⟩)) else none) = some c := e
    split at e
    · rename_i hz
      cases e
      exact .inr ⟨z, ev, hz, fun l nl => k l _ nl fun O' _ w hl => lst_own nl w hl (rpL_signs _)⟩
    · cases e
def dTuple : List D → Option D
  | [.list xs] => some (.tuple xs)
  | _ => none
theorem tuple_ok {K : PySem.W.Frag} : CaS (fun xs H Q => ∃ p ys, xs = [.ref p] ∧ ((SqL K H p ys ∧ ∀ l, H l = none → Q (.ref l) (upd H l (.tup ys))) ∨ (SqT K H p ys ∧ Q (.ref p) H))) dTuple := fun H O xs ds c Q hO ha e k => by
  match ds, ha, e with
  | [.list ys], ha, e =>
    obtain ⟨v, ev, p, us, ex, hp, r⟩ := nbl1 ha
    subst ex
    cases (show some (PyData.tuple ys) = some c from e)
    exact ⟨p, us, ev, .inl ⟨SqL.of hp, fun l nl => k _ _ (same_upd nl) (tup_new hO nl r)⟩⟩
def fAppend : D → List D → Option (D × D)
  | .list xs, [d] => if xs.length < sizeLine then some (.none, .list (xs ++ [d])) else none
  | _, _ => none
theorem append_ok : MuOk rAppend fAppend := fun H O a cur res new ds xs Q ow rl e k => by
  match cur, ds, ow, rl, e with
  | .list ys, [d], ⟨p, us, ep, hp, hl, r⟩, ⟨v, vr, ev, rv, er⟩, e =>
    cases ep
    have er : vr = [] := er
    subst er ev
    have e : (if ys.length < sizeLine then some (PyData.none, PyData.list (ys ++ [d])) else none) = some (res, new) := e
    split at e
    · rename_i h
      cases e
      refine ⟨a, us, v, rfl, rfl, hl, by rw [r.length]; exact h, k _ _ (fun b o n e => by rw [upd_ne n]; exact e) (by rw [upd_same]; exact fun z => nomatch z) ?_ rfl⟩
      have kO : ∀ b o, H b = some o → ¬ O b → upd H a (.lst (us ++ [v])) b = some o := fun b o e n => by rw [upd_ne (show b ≠ a from fun z => n (by rw [z]; exact hp))]; exact e
      exact ⟨a, _, rfl, hp, upd_same, RpL.snoc (Rp.ext kO (fun _ z => .inl z) rv) (RpL.ext kO (fun _ z => .inl z) r)⟩
    · cases e
def fPop : D → List D → Option (D × D)
  | .list xs, [] => (xs[xs.length - 1]?).map fun d => (d, .list xs.dropLast)
  | _, _ => none
theorem RpL.dropLast {H : Hp} {O : OS} : ∀ {ds : List D} {vs : List V}, RpL H O ds vs → RpL H O ds.dropLast vs.dropLast
  | [], vs, h => by
    have h : vs = [] := h
    subst h
    exact (rfl : ([] : List V) = [])
  | [d], _, ⟨v, r, e, _, q⟩ => by
    have q : r = [] := q
    subst e q
    exact (rfl : ([] : List V) = [])
  | d :: d2 :: ds, _, ⟨v, r, e, h, q⟩ => by
    obtain ⟨v2, r2, e2, h2, q2⟩ := q
    subst e e2
    exact ⟨v, _, rfl, h, RpL.dropLast (ds := d2 :: ds) ⟨v2, r2, rfl, h2, q2⟩⟩
theorem pop_ok : MuOk rPop fPop := fun H O a cur res new ds xs Q ow rl e k => by
  match cur, ds, ow, rl, e with
  | .list ys, [], ⟨p, us, ep, hp, hl, r⟩, rl, e =>
    cases ep
    have rl : xs = [] := rl
    subst rl
    obtain ⟨d, e1, e2⟩ := Option.map_eq_some_iff.mp (show (ys[ys.length - 1]?).map (fun d => (d, PyData.list ys.dropLast)) = some (res, new) from e)
    cases e2
    obtain ⟨v, ev, rv⟩ := r.at e1
    have kO : ∀ b o, H b = some o → ¬ O b → upd H a (.lst us.dropLast) b = some o := fun b o e n => by rw [upd_ne (show b ≠ a from fun z => n (by rw [z]; exact hp))]; exact e
    exact ⟨a, us, v, rfl, rfl, hl, by rw [r.length]; exact ev, k _ _ (fun b o n e => by rw [upd_ne n]; exact e) (by rw [upd_same]; exact fun z => nomatch z) ⟨a, _, rfl, hp, upd_same, RpL.ext kO (fun _ z => .inl z) r.dropLast⟩ (Rp.ext kO (fun _ z => .inl z) rv)⟩
def fSetL0 : D → D → D → Option D
  | .list xs, .int k, d => (ixN xs.length k).map fun j => .list (xs.set j d)
  | _, _, _ => none
theorem RpL.set {H : Hp} {O : OS} {d : D} {v : V} (h : Rp H O d v) : ∀ {ds : List D} {vs : List V} (j : Nat), RpL H O ds vs → RpL H O (ds.set j d) (vs.set j v)
  | [], vs, j, e => by
    have e : vs = [] := e
    subst e
    exact (rfl : ([] : List V) = [])
  | d' :: ds, _, 0, ⟨v', r, e, h', q⟩ => by
    subst e
    exact ⟨v, r, rfl, h, q⟩
  | d' :: ds, _, j + 1, ⟨v', r, e, h', q⟩ => by
    subst e
    exact ⟨v', _, rfl, h', RpL.set h j q⟩
theorem setL0_ok : PutOk rSetL fSetL0 := fun H O a cur k d new kv v Q ow rk rv e kk => by
  match cur, k, ow, rk, e with
  | .list ys, .int i, ⟨p, us, ep, hp, hl, r⟩, rk, e =>
    cases ep
    have rk : kv = .int i := rk
    subst rk
    obtain ⟨j, e1, e2⟩ := Option.map_eq_some_iff.mp (show (ixN ys.length i).map (fun j => PyData.list (ys.set j d)) = some new from e)
    subst e2
    have kO : ∀ b o, H b = some o → ¬ O b → upd H a (.lst (us.set j v)) b = some o := fun b o e n => by rw [upd_ne (show b ≠ a from fun z => n (by rw [z]; exact hp))]; exact e
    exact ⟨a, us, i, j, rfl, rfl, hl, by rw [r.length]; exact e1, kk _ (fun b o n e => by rw [upd_ne n]; exact e) (by rw [upd_same]; exact fun z => nomatch z) ⟨a, _, rfl, hp, upd_same, RpL.ext kO (fun _ z => .inl z) (RpL.set rv j r)⟩⟩
end DL
namespace DL
open PySem PySem.Spec L2
section
variable {X : CxD} {κ : List Kd} {a b c : Expr} {oa ob oc : Op} {pos : Pos}
def eUn (f : D → Option D) (oa : Op) : WE := fun ε Q => oEv oa ε fun x ε1 => ∃ a r, x ε1 = some a ∧ f a = some r ∧ Q r ε1
theorem eUn_mono {f : D → Option D} (m : MonoO oa) : Mono (eUn f oa) := fun ε Q Q' h q => oEv_mono m (fun x ε1 ⟨a, r, e1, e2, q⟩ => ⟨a, r, e1, e2, h _ _ q⟩) q
def UnS (r : V → Hp → VK → Prop) (f : D → Option D) : Prop := ∀ (H : Hp) (O : OS) (x : V) (a c : D) (Q : VK), Nb H O a x → f a = some c → (∀ v, Rp H O c v → Q v H) → r x H Q
theorem de_un {op : UnaryOp} {r : V → Hp → VK → Prop} {f : D → Option D} (ho : UnR X (unaryOp op) r) (hf : UnS r f) (ha : DO X κ a oa) : DE X κ (.UnaryOp op a pos) (eUn f oa) :=
  ⟨fun g hg => (pe_un ho (ha.pe g hg)).imp fun σ H Q ⟨O, ε, A, q⟩ => ⟨O, ε, A, oEv_mono ha.mono (fun x ε1 ⟨a, r, e1, e2, q⟩ v H1 O1 A1 x1 r1 => hf H1 O1 v a r Q (r1.nb A1 e1) e2 fun u rp => q u H1 O1 A1 x1 rp) q⟩, eUn_mono ha.mono⟩
def dNeg : D → Option D
  | .int i => some (.int (-i))
  | _ => none
theorem neg_ok : UnS (rU fun i => .int (-i)) dNeg := fun H O x a c Q ha e k => by
  match a, ha, e with
  | .int i, ha, e =>
    have ha : x = .int i := ha
    subst ha
    cases (show some (PyData.int (-i)) = some c from e)
    exact ⟨i, rfl, k _ rfl⟩
def eChain (f g : D → D → Option D) (oa ob oc : Op) : WE := fun ε Q => oEv oa ε fun x ε1 => oEv ob ε1 fun y ε2 => ∃ a b k, x ε2 = some a ∧ y ε2 = some b ∧ f a b = some (.bool k) ∧ if k = true then oEv oc ε2 fun z ε3 => ∃ b' c r, y ε3 = some b' ∧ z ε3 = some c ∧ g b' c = some r ∧ Q r ε3 else Q (.bool false) ε2
theorem eChain_mono {f g : D → D → Option D} (ma : MonoO oa) (mb : MonoO ob) (mc : MonoO oc) : Mono (eChain f g oa ob oc) := fun ε Q Q' h q =>
  oEv_mono ma (fun x ε1 q => oEv_mono mb (fun y ε2 ⟨a, b, k, e1, e2, e3, q⟩ => ⟨a, b, k, e1, e2, e3, by
    cases k with
    | true => rw [if_pos rfl] at q ⊢; exact oEv_mono mc (fun z ε3 ⟨b', c, r, h1, h2, h3, q⟩ => ⟨b', c, r, h1, h2, h3, h _ _ q⟩) q
    | false => rw [if_neg (by decide)] at q ⊢; exact h _ _ q⟩) q) q
/-- comparisons that give a bool and change nothing -/
def OpB (r : R2) (f : D → D → Option D) : Prop := ∀ (H : Hp) (O : OS) (x y : V) (a b c : D) (Q : VK), (∀ a, O a → H a ≠ none) → Nb H O a x → Nb H O b y → f a b = some c → (∀ v, Rp H O c v → Q v H) → r x y H Q
theorem iOpB {g : Int → Int → V} {g' : Int → Int → D} (hg : ∀ i j H O, Rp H O (g' i j) (g i j)) : OpB (rI0 g) (iOp (fun _ _ => true) g') := fun H O x y a b r Q _ ha hb e k => by
  match a, b, ha, hb, e with
  | .int i, .int j, ha, hb, e =>
    have ha : x = .int i := ha
    have hb : y = .int j := hb
    subst ha hb
    have e : some (g' i j) = some r := e
    cases e
    exact ⟨i, j, rfl, rfl, k _ (hg i j H O)⟩
theorem lt_okB : OpB (rI0 fun i j => .bl (decide (i < j))) dLt := iOpB fun _ _ _ _ => rfl
theorem le_okB : OpB (rI0 fun i j => .bl (decide (i ≤ j))) dLe := iOpB fun _ _ _ _ => rfl
theorem chain_imp {g : Gx} {r r' : R2} {f f' : D → D → Option D} (hf : OpB r f) (hf' : OpB r' f') (ma : MonoO oa) (mb : MonoO ob) (mc : MonoO oc) {σ : L2.St} {H : Hp} {Q : VK} (q : rdE g (eChain f f' oa ob oc) σ H Q) : tChain r r' (rdO g oa) (rdO g ob) (rdO g oc) σ H Q := by
  obtain ⟨O, ε, A, q⟩ := q
  refine ⟨O, ε, A, oEv_mono ma (fun x ε1 q v1 H1 O1 A1 x1 r1 => ?_) q⟩
  refine ⟨O1, ε1, A1, oEv_mono mb (fun y ε2 ⟨a, b, k, e1, e2, e3, q⟩ v2 H2 O2 A2 x2 r2 => ?_) q⟩
  refine hf H2 O2 v1 v2 a b (.bool k) _ A2.has ((r1.ext A1 x2).nb A2 e1) (r2.nb A2 e2) e3 fun u ru => ?_
  have ru : u = .bl k := ru
  refine ⟨k, ru, ?_⟩
  cases k with
  | false => rw [if_neg (by decide)] at q ⊢; exact q _ H2 O2 A2 (x1.trans x2) rfl
  | true =>
    rw [if_pos rfl] at q ⊢
    refine ⟨O2, ε2, A2, oEv_mono mc (fun z ε3 ⟨b', c, w, h1, h2, h3, q⟩ v3 H3 O3 A3 x3 r3 => ?_) q⟩
    exact hf' H3 O3 v2 v3 b' c w Q A3.has ((r2.ext A2 x3).nb A3 h1) (r3.nb A3 h2) h3 fun u ru => q u H3 O3 A3 (x1.trans (x2.trans x3)) ru
theorem de_chain {op op' : CmpOp} {r r' : R2} {f f' : D → D → Option D} (ho : OpR X (compareOp op) r) (hf : OpB r f) (ho' : OpR X (compareOp op') r') (hf' : OpB r' f') (ha : DO X κ a oa) (hb : DO X κ b ob) (hc : DO X κ c oc) (hm : lastMarks [op, op'] [b, c] = false) : DE X κ (.Compare a [op, op'] [b, c] pos) (eChain f f' oa ob oc) :=
  ⟨fun g hg => (pe_chain ho ho' (ha.pe g hg) (hb.pe g hg) (hc.pe g hg) hm).imp fun σ H Q q => chain_imp hf hf' ha.mono hb.mono hc.mono q, eChain_mono ha.mono hb.mono hc.mono⟩
theorem dt_chain {op op' : CmpOp} {r r' : R2} {f f' : D → D → Option D} (ho : OpR X (compareOp op) r) (hf : OpB r f) (ho' : OpR X (compareOp op') r') (hf' : OpB r' f') (ha : DO X κ a oa) (hb : DO X κ b ob) (hc : DO X κ c oc) (hm : lastMarks [op, op'] [b, c] = false) : DT X κ (.Compare a [op, op'] [b, c] pos) (tE (eChain f f' oa ob oc)) :=
  ⟨fun g hg => (pt_chain ho ho' (ha.pe g hg) (hb.pe g hg) (hc.pe g hg) hm).imp fun σ H Q ⟨O, ε, A, q⟩ => by
    exact chain_imp hf hf' ha.mono hb.mono hc.mono ⟨O, ε, A, eChain_mono ha.mono hb.mono hc.mono _ _ _ (fun d ε' ⟨b, e, z⟩ v H' O' A' x r => ⟨b, by subst e; exact r, z H' O' A' x⟩) q⟩, tE_mono (eChain_mono ha.mono hb.mono hc.mono)⟩
theorem nb_non {H : Hp} {O : OS} {d : D} {v : V} (h : Nb H O d v) : (d = .none ∧ v = .non) ∨ (d ≠ .none ∧ v ≠ .non) := by
  match d, h with
  | .none, h => exact .inl ⟨rfl, h⟩
  | .bool _, h => exact .inr ⟨by simp, fun z => by cases (show v = .bl _ from h); cases z⟩
  | .int _, h => exact .inr ⟨by simp, fun z => by cases (show v = .int _ from h); cases z⟩
  | .str _, h => exact .inr ⟨by simp, fun z => by cases (show v = .str _ from h); cases z⟩
  | .list _, ⟨_, _, e, _⟩ => exact .inr ⟨by simp, fun z => by rw [e] at z; cases z⟩
  | .tuple _, ⟨_, _, e, _⟩ => exact .inr ⟨by simp, fun z => by rw [e] at z; cases z⟩
  | .dict _, ⟨_, _, e, _⟩ => exact .inr ⟨by simp, fun z => by rw [e] at z; cases z⟩
end
end DL
namespace DL
open PySem PySem.Spec L2
mutual
def unN : D → Option NestedKey
  | .int i => some (.num i)
  | .tuple ds => (unNs ds).map .tup
  | _ => none
def unNs : List D → Option (List NestedKey)
  | [] => some []
  | d :: ds => (unN d).bind fun k => (unNs ds).map (k :: ·)
end
mutual
theorem unN_ok : ∀ {d : D} {k : NestedKey}, unN d = some k → d = k.data ∧ nkInt k = true
  | .int i, k, h => by cases (show some (NestedKey.num i) = some k from h); exact ⟨rfl, rfl⟩
  | .tuple ds, k, h => by
    obtain ⟨ks, e, rfl⟩ := Option.map_eq_some_iff.mp (show (unNs ds).map .tup = some k from h)
    obtain ⟨h1, h2⟩ := unNs_ok e
    exact ⟨by rw [h1]; rfl, h2⟩
  | .none, _, h => nomatch h
  | .bool _, _, h => nomatch h
  | .str _, _, h => nomatch h
  | .list _, _, h => nomatch h
  | .dict _, _, h => nomatch h
theorem unNs_ok : ∀ {ds : List D} {ks : List NestedKey}, unNs ds = some ks → ds = NestedKey.datas ks ∧ nkInts ks = true
  | [], ks, h => by cases (show some ([] : List NestedKey) = some ks from h); exact ⟨rfl, rfl⟩
  | d :: ds, ks, h => by
    obtain ⟨k, e1, h⟩ := Option.bind_eq_some_iff.mp (show (unN d).bind (fun k => (unNs ds).map (k :: ·)) = some ks from h)
    obtain ⟨r, e2, rfl⟩ := Option.map_eq_some_iff.mp h
    obtain ⟨a1, a2⟩ := unN_ok e1
    obtain ⟨b1, b2⟩ := unNs_ok e2
    refine ⟨by rw [a1, b1]; rfl, ?_⟩
    show (nkInt k && nkInts r) = true
    rw [a2, b2]
    rfl
end
def keyN (d : D) : Option NestedKey := match d with
  | .tuple _ => (unN d).bind fun k => if k.depth ≤ 8 then some k else none
  | _ => none
theorem keyN_ok {d : D} {k : NestedKey} (h : keyN d = some k) : d = k.data ∧ keyT k = true ∧ ∃ ks, k = .tup ks := by
  match d, h with
  | .tuple ds, h =>
    obtain ⟨k', e, h⟩ := Option.bind_eq_some_iff.mp (show (unN (.tuple ds)).bind (fun k => if k.depth ≤ 8 then some k else none) = some k from h)
    split at h
    · rename_i hd
      cases h
      obtain ⟨h1, h2⟩ := unN_ok e
      refine ⟨h1, ?_, ?_⟩
      · unfold keyT
        rw [h2, decide_eq_true hd]
        rfl
      · obtain ⟨ks, _, e2⟩ := Option.map_eq_some_iff.mp (show (unNs ds).map .tup = some k from e)
        exact ⟨ks, e2.symm⟩
    · cases h
/-- false: ints and texts; true: tuples -/
def keyTag (d : D) : Option Bool := match d with
  | .int _ => some false
  | .str _ => some false
  | .tuple ds => (keyN (.tuple ds)).map fun _ => true
  | _ => none
def dictOk (es : List (D × D)) (k : D) : Bool := (keyTag k).isSome && es.all fun e => keyTag e.1 == keyTag k
def findD (es : List (D × D)) (k : D) : Option D := (es.find? fun e => PyData.eqv e.1 k).map (·.2)
def putD (es : List (D × D)) (k d : D) : List (D × D) := if (es.any fun e => PyData.eqv e.1 k) = true then es.map fun e => if PyData.eqv e.1 k = true then (e.1, d) else e else es ++ [(k, d)]
theorem eqv_keyD (a b : Key) : PyData.eqv (keyD a) (keyD b) = decide (a = b) := by
  match a, b with
  | .inl i, .inl j =>
    show (i == j) = _
    rw [Bool.eq_iff_iff]
    simp
  | .inr x, .inr y =>
    show (x == y) = _
    rw [Bool.eq_iff_iff]
    simp
  | .inl i, .inr y => exact (decide_eq_false (fun z => nomatch z)).symm
  | .inr x, .inl j => exact (decide_eq_false (fun z => nomatch z)).symm
mutual
theorem eqv_data : ∀ (a b : NestedKey), nkInt a = true → nkInt b = true → PyData.eqv a.data b.data = NestedKey.beq a b
  | .num i, .num j, _, _ => by
    show (i == j) = decide (i = j)
    rw [Bool.eq_iff_iff]
    simp
  | .tup as, .tup bs, h, k => eqv_datas as bs h k
  | .num _, .tup _, _, _ => rfl
  | .tup _, .num _, _, _ => rfl
  | .none, _, h, _ => nomatch h
  | .text _, _, h, _ => nomatch h
  | .num _, .none, _, h => nomatch h
  | .num _, .text _, _, h => nomatch h
  | .tup _, .none, _, h => nomatch h
  | .tup _, .text _, _, h => nomatch h
theorem eqv_datas : ∀ (as bs : List NestedKey), nkInts as = true → nkInts bs = true → PyData.eqvAll (NestedKey.datas as) (NestedKey.datas bs) = NestedKey.beqAll as bs
  | [], [], _, _ => rfl
  | [], _ :: _, _, _ => rfl
  | _ :: _, [], _, _ => rfl
  | a :: as, b :: bs, h, k => by
    have h : (nkInt a && nkInts as) = true := h
    have k : (nkInt b && nkInts bs) = true := k
    rw [Bool.and_eq_true] at h k
    show (PyData.eqv a.data b.data && PyData.eqvAll (NestedKey.datas as) (NestedKey.datas bs)) = (NestedKey.beq a b && NestedKey.beqAll as bs)
    rw [eqv_data a b h.1 k.1, eqv_datas as bs h.2 k.2]
end
theorem eqv_nk {a b : NestedKey} (h : keyT a = true) (k : keyT b = true) : PyData.eqv a.data b.data = decide (a = b) := by
  unfold keyT at h k
  rw [Bool.and_eq_true] at h k
  rw [NestedKey.decide_eq, eqv_data a b h.1 k.1]
mutual
theorem hash_nk {w : World} : ∀ (a : NestedKey), nkInt a = true → a.hash w = hkHash a
  | .num i, _ => rfl
  | .tup ks, h => by
    show reduceHash (Builtin.Tuple.tupleHashOf (NestedKey.hashes w ks)) = reduceHash (Builtin.Tuple.tupleHashOf (hkHashes ks))
    rw [hashes_nk ks h]
  | .none, h => nomatch h
  | .text _, h => nomatch h
theorem hashes_nk {w : World} : ∀ (as : List NestedKey), nkInts as = true → NestedKey.hashes w as = hkHashes as
  | [], _ => rfl
  | a :: as, h => by
    have h : (nkInt a && nkInts as) = true := h
    rw [Bool.and_eq_true] at h
    show a.hash w :: NestedKey.hashes w as = hkHash a :: hkHashes as
    rw [hash_nk a h.1, hashes_nk as h.2]
end
def findN (xs : List NEnt) (k : NestedKey) : Option V := (xs.find? fun x => decide (x.key = k)).map (·.val)
def putN (xs : List NEnt) (k : NestedKey) (p : Addr) (v : V) : List NEnt := if (xs.any fun x => decide (x.key = k)) = true then xs.map fun x => if x.key = k then { x with val := v } else x else xs ++ [⟨k, p, v⟩]
theorem findN_cons {x : NEnt} {xs : List NEnt} {k : NestedKey} : findN (x :: xs) k = if x.key = k then some x.val else findN xs k := by
  unfold findN
  rw [List.find?_cons]
  by_cases h : x.key = k
  · rw [decide_eq_true h, if_pos h]; rfl
  · rw [decide_eq_false h, if_neg h]
theorem atKey_cons {t : NestedKey × Addr × Value} {ts : List (NestedKey × Addr × Value)} {k : NestedKey} : (atKey (t :: ts) k).map (·.2) = if t.1 = k then some t.2.2 else (atKey ts k).map (·.2) := by
  unfold atKey
  rw [List.find?_cons]
  by_cases h : t.1 = k
  · rw [decide_eq_true h, if_pos h]; rfl
  · rw [decide_eq_false h, if_neg h]
theorem ents_val {xs : List NEnt} {ts : List (NestedKey × Addr × Value)} (r : Paired EntIs xs ts) (k : NestedKey) : RelO (findN xs k) ((atKey ts k).map (·.2)) := by
  induction r with
  | nil => exact True.intro
  | @cons x t xs ts h _ ih =>
    rw [findN_cons, atKey_cons, h.1]
    by_cases e : t.1 = k
    · rw [if_pos e, if_pos e]; exact h.2.2
    · rw [if_neg e, if_neg e]; exact ih
theorem ents_any {xs : List NEnt} {ts : List (NestedKey × Addr × Value)} (r : Paired EntIs xs ts) (k : NestedKey) : (xs.any fun x => decide (x.key = k)) = (atKey ts k).isSome := by
  induction r with
  | nil => rfl
  | @cons x t xs ts h _ ih =>
    have e1 : (atKey (t :: ts) k).isSome = ((atKey (t :: ts) k).map (·.2)).isSome := (Option.isSome_map).symm
    have e2 : (atKey ts k).isSome = ((atKey ts k).map (·.2)).isSome := (Option.isSome_map).symm
    rw [e1, atKey_cons, List.any_cons, ih, h.1, e2]
    by_cases e : t.1 = k
    · rw [decide_eq_true e, if_pos e]; rfl
    · rw [decide_eq_false e, if_neg e]; rfl
theorem ents_put {xs : List NEnt} {ts : List (NestedKey × Addr × Value)} (r : Paired EntIs xs ts) {k : NestedKey} {p : Addr} {v : V} {u : Value} (rv : RelV v u) : Paired EntIs (putN xs k p v) (storedH ts k p u) := by
  unfold putN storedH
  rw [ents_any r]
  by_cases q : (atKey ts k).isSome = true
  · rw [if_pos q, if_pos q]
    clear q
    induction r with
    | nil => exact .nil
    | @cons x t xs ts h _ ih =>
      refine .cons ?_ ih
      show EntIs (if x.key = k then { x with val := v } else x) (putAt k u t)
      unfold putAt
      rw [h.1]
      by_cases e : t.1 = k
      · rw [if_pos e, if_pos e]; exact ⟨rfl, h.2.1, rv⟩
      · rw [if_neg e, if_neg e]; exact h
  · rw [if_neg q, if_neg q]
    clear q
    induction r with
    | nil => exact .cons ⟨rfl, rfl, rv⟩ .nil
    | cons h _ ih => exact .cons h ih
theorem putN_len (xs : List NEnt) (k : NestedKey) (p : Addr) (v : V) : (putN xs k p v).length ≤ xs.length + 1 := by
  unfold putN
  split
  · rw [List.length_map]; omega
  · rw [List.length_append]; exact Nat.le_refl _
theorem putN_keys {xs : List NEnt} {k : NestedKey} {p : Addr} {v : V} : ∀ x ∈ putN xs k p v, x.key = k ∨ ∃ y ∈ xs, y.key = x.key := fun x hx => by
  unfold putN at hx
  split at hx
  · obtain ⟨y, hy, rfl⟩ := List.mem_map.mp hx
    refine .inr ⟨y, hy, ?_⟩
    split <;> rfl
  · rcases List.mem_append.mp hx with h | h
    · exact .inr ⟨x, h, rfl⟩
    · rw [List.mem_singleton.mp h]; exact .inl rfl
/-- no key twice -/
theorem putN_nd {xs : List NEnt} {k : NestedKey} {p : Addr} {v : V} (h : (xs.map (·.key)).Nodup) : ((putN xs k p v).map (·.key)).Nodup := by
  unfold putN
  split
  · rw [List.map_map]
    have : ((fun x : NEnt => x.key) ∘ fun x : NEnt => if x.key = k then { x with val := v } else x) = fun x => x.key := by
      funext x
      show (if x.key = k then { x with val := v } else x).key = x.key
      split <;> rfl
    rw [this]
    exact h
  · rename_i q
    rw [List.map_append, List.nodup_append]
    refine ⟨h, by simp, fun a ha b hb e => q ?_⟩
    rw [List.map_singleton, List.mem_singleton] at hb
    obtain ⟨x, hx, ex⟩ := List.mem_map.mp ha
    exact List.any_eq_true.mpr ⟨x, hx, decide_eq_true (by rw [ex, e, hb])⟩
def OF : OS := ⟨fun _ => False, fun _ => False⟩
section
variable {P : Program} {w : World} {H : Hp} {h : Heap} {O : OS}
mutual
theorem nest_of (ok : HOk P w H h) : ∀ {k : NestedKey} {v : V} {u : Value}, nkInt k = true → Rp H O k.data v → RelV v u → NestedIs h k u
  | .num i, v, u, _, r, rv => by
    have r : v = .int i := r
    subst r
    obtain ⟨t, rfl⟩ := rv
    exact .int i t
  | .tup ks, v, u, hk, ⟨a, xs, e, _, ha, r⟩, rv => by
    subst e
    have rv : u = .ref a := rv
    subst rv
    obtain ⟨_, its, rs, o, h1, h2, n, h3⟩ := (show ObjOk P w H h a (.tup xs) from (Rd.ok ha.rd ok))
    exact .tup h1 h2 h3 (by simpa using nests_of ok hk r rs)
  | .none, _, _, hk, _, _ => nomatch hk
  | .text _, _, _, hk, _, _ => nomatch hk
theorem nests_of (ok : HOk P w H h) : ∀ {ks : List NestedKey} {vs : List V} {us : List Value}, nkInts ks = true → RpL H O (NestedKey.datas ks) vs → Vals vs us → NestedAll h ks us
  | [], vs, us, _, r, rs => by
    have r : vs = [] := r
    subst r
    cases rs
    exact .nil
  | k :: ks, vs, us, hk, ⟨v, vr, e, r, q⟩, rs => by
    subst e
    have hk : (nkInt k && nkInts ks) = true := hk
    rw [Bool.and_eq_true] at hk
    cases rs with
    | cons r1 r2 => exact .cons (nest_of ok hk.1 r r1) (nests_of ok hk.2 q r2)
end
/-- a dict with tuples as keys, perhaps empty -/
def NdAt (H : Hp) (a : Addr) (xs : List NEnt) : Prop := ((xs = [] ∧ H a = some (.dK [])) ∨ H a = some (.ext (NDφ a xs))) ∧ ∀ x ∈ xs, Rp H OF x.key.data (.ref x.at_)
theorem nd_at (ok : HOk P w H h) {a : Addr} {xs : List NEnt} (g : NdAt H a xs) : xs.length ≤ sizeLine ∧ (a == sysModules) = false ∧ (∀ x ∈ xs, keyT x.key = true) ∧ (xs.map (·.key)).Nodup ∧ ∃ ts, Paired EntIs xs ts ∧ h.DictOfH (nestedKind P w) a ts := by
  obtain ⟨g, gk⟩ := g
  rcases g with ⟨rfl, e⟩ | e
  · obtain ⟨_, hd, vs, rel, o, es, ep, h1, h2, h3, h4, h5, h6⟩ := dk_of ok e
    cases rel
    refine ⟨Nat.zero_le _, hd, (fun _ hx => absurd hx List.not_mem_nil), List.nodup_nil, [], .nil, o, es, ep, h1, h2, h3, ?_, (fun _ hx => absurd hx List.not_mem_nil), List.nodup_nil⟩
    cases h5l : es.toList with
    | nil => rfl
    | cons x r => rw [h5l] at h5; cases h5
  · obtain ⟨⟨z, hd, kt, nd, ts, r, o, es, ep, h1, h2, h3, h4⟩, _⟩ := (show ObjOk P w H h a (.ext (NDφ a xs)) from ok a _ e)
    have al : ∀ {xs : List NEnt} {ts : List (NestedKey × Addr × Value)}, Paired EntIs xs ts → (∀ x ∈ xs, Rp H OF x.key.data (.ref x.at_)) → (∀ x ∈ xs, keyT x.key = true) →
        (ts.map fun t => (⟨hkHash t.1, .ref t.2.1, t.2.2⟩ : DictEntry)) = ts.map (entryOfKey (nestedKind P w)) ∧ (∀ t ∈ ts, (nestedKind P w).is h t.1 t.2.1) ∧ xs.map (·.key) = ts.map (·.1) := by
      intro xs ts r
      induction r with
      | nil => exact fun _ _ => ⟨rfl, (fun _ hx => absurd hx List.not_mem_nil), rfl⟩
      | @cons x t xs ts e _ ih =>
        intro hr hk
        obtain ⟨i1, i2, i3⟩ := ih (fun y hy => hr y (List.mem_cons_of_mem _ hy)) fun y hy => hk y (List.mem_cons_of_mem _ hy)
        have k1 := hk x List.mem_cons_self
        have k2 := k1
        unfold keyT at k2
        rw [Bool.and_eq_true, decide_eq_true_eq] at k2
        have e1 : (⟨hkHash t.1, .ref t.2.1, t.2.2⟩ : DictEntry) = entryOfKey (nestedKind P w) t := by
          unfold entryOfKey
          show (⟨hkHash t.1, .ref t.2.1, t.2.2⟩ : DictEntry) = ⟨t.1.hash w, .ref t.2.1, t.2.2⟩
          rw [← e.1, hash_nk x.key k2.1]
        refine ⟨by rw [List.map_cons, List.map_cons, i1, e1], fun y hy => ?_, by rw [List.map_cons, List.map_cons, i3, e.1]⟩
        rcases List.mem_cons.mp hy with rfl | hy
        · refine ⟨?_, by rw [← e.1]; exact k2.2⟩
          rw [← e.1, ← e.2.1]
          exact nest_of ok k2.1 (hr x List.mem_cons_self) rfl
        · exact i2 y hy
    obtain ⟨a1, a2, a3⟩ := al r gk kt
    exact ⟨z, hd, kt, nd, ts, r, o, es, ep, h1, h2, h3, by rw [h4, a1], a2, by rw [← a3]; exact nd⟩
end
/-- what the dict at a holds at y -/
def DGx (H : Hp) (a : Addr) (y : V) (o : Option V) : Prop := (∃ kvs k, H a = some (.dK kvs) ∧ y = kV k ∧ o = valV kvs k) ∨ ∃ xs k, NdAt H a xs ∧ keyT k = true ∧ (∃ ks, k = .tup ks) ∧ Rp H OF k.data y ∧ o = findN xs k
def DPx (H : Hp) (a : Addr) (y v : V) (H' : Hp) : Prop := (∃ kvs k, H a = some (.dK kvs) ∧ y = kV k ∧ kvs.length < sizeLine ∧ H' = upd H a (.dK (putK kvs k v))) ∨
  ∃ xs k p, NdAt H a xs ∧ keyT k = true ∧ y = .ref p ∧ Rp H OF k.data y ∧ xs.length < sizeLine ∧ H' = upd H a (.ext (NDφ a (putN xs k p v)))
theorem key_at {P : Program} {w : World} {H : Hp} {h : Heap} (ok : HOk P w H h) {k : NestedKey} {y : V} (hk : keyT k = true) (ht : ∃ ks, k = .tup ks) (r : Rp H OF k.data y) : ∃ b, y = .ref b ∧ (nestedKind P w).is h k b := by
  obtain ⟨ks, rfl⟩ := ht
  obtain ⟨b, xs, e, n, hb, q⟩ := r
  unfold keyT at hk
  rw [Bool.and_eq_true, decide_eq_true_eq] at hk
  exact ⟨b, e, nest_of ok (O := OF) hk.1 ⟨b, xs, rfl, n, hb, q⟩ rfl, hk.2⟩
section
variable {X : CxD} {pins : List (Addr × Obj)} {σ : L2.St} {H : Hp} {s : Shared} {a : Addr} {y v : V} {u r : Value} {o : Option V} {A : Around} {E : Value → Shared → Prop}
theorem x_in {Q : Value → Shared → Prop} (hu : A.units + 9 < cLine) (I : Inv X pins σ H s) (g : DGx H a y o) (ry : RelV y u) (k : ∀ s', Inv X pins σ H s' → Q (.bool o.isSome) s') : wpAny (model X.prog X.w) A (compareOp .In u (.ref a)) Q E s := by
  rcases g with ⟨kvs, key, e, ey, l⟩ | ⟨xs, key, g, hk, ht, rk, l⟩
  · exact d_in (by omega) I (.inl ⟨kvs, key, .inl e, ey, l⟩) ry k
  · obtain ⟨_, hd, _, _, ts, rel, dd⟩ := nd_at I.hok g
    obtain ⟨b, rfl, ik⟩ := key_at I.hok hk ht rk
    have ry : u = .ref b := ry
    subst ry
    refine wpAny_in_heap (knd := nestedKind X.prog X.w) (show A.in1.units + 8 < cLine from by show A.units + 1 + 8 < cLine; omega) ik hd dd ?_
    have q := (ents_val rel key).isSome_eq
    rw [Option.isSome_map] at q
    rw [← q, ← l]
    exact k _ (I.tok _)
theorem x_notIn {Q : Value → Shared → Prop} (hu : A.units + 9 < cLine) (I : Inv X pins σ H s) (g : DGx H a y o) (ry : RelV y u) (k : ∀ s', Inv X pins σ H s' → Q (.bool (!o.isSome)) s') : wpAny (model X.prog X.w) A (compareOp .NotIn u (.ref a)) Q E s := by
  rcases g with ⟨kvs, key, e, ey, l⟩ | ⟨xs, key, g, hk, ht, rk, l⟩
  · exact d_notIn (by omega) I (.inl ⟨kvs, key, .inl e, ey, l⟩) ry k
  · obtain ⟨_, hd, _, _, ts, rel, dd⟩ := nd_at I.hok g
    obtain ⟨b, rfl, ik⟩ := key_at I.hok hk ht rk
    have ry : u = .ref b := ry
    subst ry
    refine PyProof.Rows.wpAny_notIn_heap (knd := nestedKind X.prog X.w) (show A.in1.units + 8 < cLine from by show A.units + 1 + 8 < cLine; omega) ik hd dd ?_
    have q := (ents_val rel key).isSome_eq
    rw [Option.isSome_map] at q
    rw [← q, ← l]
    exact k _ (I.tok _)
theorem x_get {Q : Value → Shared → Prop} (hu : A.units + 9 < cLine) (I : Inv X pins σ H s) (g : DGx H a y (some v)) (ry : RelV y u) (k : ∀ w' s', Inv X pins σ H s' → RelV v w' → Q w' s') : wpAny (model X.prog X.w) A (getItem (.ref a) u) Q E s := by
  rcases g with ⟨kvs, key, e, ey, l⟩ | ⟨xs, key, g, hk, ht, rk, l⟩
  · exact d_getItem (by omega) I (.inl ⟨kvs, key, .inl e, ey, l⟩) ry k
  · obtain ⟨_, hd, _, _, ts, rel, dd⟩ := nd_at I.hok g
    obtain ⟨b, rfl, ik⟩ := key_at I.hok hk ht rk
    have ry : u = .ref b := ry
    subst ry
    obtain ⟨w', hw, rw'⟩ := RelO.some_of (v := v) (o := (atKey ts key).map (·.2)) (by rw [l]; exact ents_val rel key)
    obtain ⟨p, hp, hp2⟩ := Option.map_eq_some_iff.mp hw
    refine wpAny_getItem_heap (knd := nestedKind X.prog X.w) (show A.in1.units + 8 < cLine from by show A.units + 1 + 8 < cLine; omega) ik dd hp ?_
    rw [hp2]
    exact k w' _ (I.tok _) rw'
theorem x_put {H' : Hp} {Q : Unit → Shared → Prop} (hu : A.units + 9 < cLine) (I : Inv X pins σ H s) (g : DPx H a y v H') (ry : RelV y u) (rv : RelV v r) (k : ∀ s', Inv X pins σ H' s' → Q () s') : wpAny (model X.prog X.w) A (setItem (.ref a) u r) Q E s := by
  rcases g with ⟨kvs, key, e, ey, l, eH⟩ | ⟨xs, key, p, g, hk, ey, rk, l, eH⟩
  · exact d_setItem (by omega) I (.inl ⟨kvs, key, e, ey, l, eH⟩) ry rv k
  · subst ey eH
    have ht : ∃ ks, key = .tup ks := by
      match key, rk with
      | .num i, rk => cases (show V.ref p = .int i from rk)
      | .none, rk => cases (show V.ref p = .non from rk)
      | .text x, rk => cases (show V.ref p = .str x from rk)
      | .tup ks, _ => exact ⟨ks, rfl⟩
    obtain ⟨hz, hd, kt, nd, ts, rel, dd⟩ := nd_at I.hok g
    obtain ⟨b, eb, ik⟩ := key_at I.hok hk ht rk
    cases eb
    have ry : u = .ref p := ry
    subst ry
    have mu : Mut (H a) := by
      rcases g.1 with ⟨_, e⟩ | e <;> (rw [e]; exact True.intro)
    refine wpAny_setItem_heap (knd := nestedKind X.prog X.w) (hsz := by rw [← Paired.length rel]; exact hz) (show A.in1.units + 8 < cLine from by show A.units + 1 + 8 < cLine; omega) ik dd fun h' dd' hs => k _ ?_
    obtain ⟨q, es, ep, hq, h2, h3, h4, _, h5⟩ := dd'
    have rel' := ents_put (k := key) (p := p) rel rv
    have kt' : ∀ x ∈ putN xs key p v, keyT x.key = true := fun x hx => by
      rcases putN_keys x hx with e | ⟨y, hy, e⟩
      · rw [e]; exact hk
      · rw [← e]; exact kt y hy
    refine d_write I mu hs ⟨q, hq⟩ ⟨⟨by have := putN_len xs key p v; omega, hd, kt', putN_nd nd, _, rel', q, es, ep, hq, h2, h3, ?_⟩, ⟨q, hq⟩, ?_⟩
    · rw [h4]
      have al : ∀ {xs : List NEnt} {ts : List (NestedKey × Addr × Value)}, Paired EntIs xs ts → (∀ x ∈ xs, keyT x.key = true) → ts.map (entryOfKey (nestedKind X.prog X.w)) = ts.map fun t => (⟨hkHash t.1, .ref t.2.1, t.2.2⟩ : DictEntry) := by
        intro xs ts r
        induction r with
        | nil => exact fun _ => rfl
        | @cons x t xs ts e _ ih =>
          intro hk
          have k2 := hk x List.mem_cons_self
          unfold keyT at k2
          rw [Bool.and_eq_true] at k2
          rw [List.map_cons, List.map_cons, ih fun y hy => hk y (List.mem_cons_of_mem _ hy)]
          congr 1
          show (⟨t.1.hash X.w, .ref t.2.1, t.2.2⟩ : DictEntry) = _
          rw [← e.1, hash_nk x.key k2.1]
      exact al rel' kt'
    · intro h1 h2' ⟨z1, z2, z3, z4, ts', z5, o1, es1, ep1, e1, c1, d1, l1⟩ kk
      exact ⟨z1, z2, z3, z4, ts', z5, o1, es1, ep1, kk _ e1, c1, d1, l1⟩
end
theorem keyTag_f {k : D} (h : keyTag k = some false) : ∃ key, k = keyD key := by
  match k, h with
  | .int i, _ => exact ⟨.inl i, rfl⟩
  | .str x, _ => exact ⟨.inr x, rfl⟩
  | .tuple ds, h =>
    obtain ⟨_, _, e⟩ := Option.map_eq_some_iff.mp (show (keyN (.tuple ds)).map (fun _ => true) = some false from h)
    cases e
theorem keyTag_t {k : D} (h : keyTag k = some true) : ∃ nk, k = nk.data ∧ keyT nk = true ∧ ∃ ks, nk = .tup ks := by
  match k, h with
  | .tuple ds, h =>
    obtain ⟨nk, e, _⟩ := Option.map_eq_some_iff.mp (show (keyN (.tuple ds)).map (fun _ => true) = some true from h)
    exact ⟨nk, keyN_ok e⟩
  | .int _, h => cases h
  | .str _, h => cases h
theorem keyTag_keyD (k : Key) : keyTag (keyD k) = some false := by cases k <;> rfl
theorem keyTag_nk {k : NestedKey} (h : ∃ ks, k = .tup ks) : keyTag k.data ≠ some false := fun z => by
  obtain ⟨ks, rfl⟩ := h
  obtain ⟨_, _, e⟩ := Option.map_eq_some_iff.mp (show (keyN (NestedKey.tup ks).data).map (fun _ => true) = some false from z)
  cases e
/-- what is found, in data and in the heap -/
def FndOk (H : Hp) (O : OS) (d : Option D) (o : Option V) : Prop := (d = none ∧ o = none) ∨ ∃ x v, d = some x ∧ o = some v ∧ Rp H O x v
theorem findD_cons {e : D × D} {es : List (D × D)} {k : D} : findD (e :: es) k = if PyData.eqv e.1 k = true then some e.2 else findD es k := by
  unfold findD
  rw [List.find?_cons]
  cases h : PyData.eqv e.1 k <;> rfl
theorem rpK_find {H : Hp} {O : OS} {k : Key} : ∀ {es : List (D × D)} {kvs : List (Key × V)}, RpK H O es kvs → FndOk H O (findD es (keyD k)) (valV kvs k)
  | [], kvs, h => by
    have h : kvs = [] := h
    subst h
    exact .inl ⟨rfl, rfl⟩
  | (k', d) :: es, _, ⟨key, v, r, e, e2, h, q⟩ => by
    subst e e2
    have ih := rpK_find (k := k) q
    rw [findD_cons, eqv_keyD]
    by_cases z : key = k
    · rw [if_pos (decide_eq_true z), valV_pos (p := (key, v)) z]
      exact .inr ⟨d, v, rfl, rfl, h⟩
    · rw [if_neg (by rw [decide_eq_false z]; decide), valV_neg (p := (key, v)) z]
      exact ih
theorem rpN_find {H : Hp} {O : OS} {k : NestedKey} (hk : keyT k = true) : ∀ {es : List (D × D)} {xs : List NEnt}, RpN H O es xs → FndOk H O (findD es k.data) (findN xs k)
  | [], xs, h => by
    have h : xs = [] := h
    subst h
    exact .inl ⟨rfl, rfl⟩
  | (k', d) :: es, _, ⟨key, p, v, r, e, e2, e3, _, h, q⟩ => by
    subst e e2
    have ih := rpN_find hk q
    rw [findD_cons, findN_cons, eqv_nk e3.1 hk]
    by_cases z : key = k
    · rw [if_pos (decide_eq_true z), if_pos z]
      exact .inr ⟨d, v, rfl, rfl, h⟩
    · rw [if_neg (by rw [decide_eq_false z]; decide), if_neg z]
      exact ih
theorem rpK_len {H : Hp} {O : OS} : ∀ {es : List (D × D)} {kvs : List (Key × V)}, RpK H O es kvs → kvs.length = es.length
  | [], kvs, h => by
    have h : kvs = [] := h
    subst h
    rfl
  | (_, _) :: es, _, ⟨key, v, r, e, _, _, q⟩ => by
    subst e
    rw [List.length_cons, List.length_cons, rpK_len q]
theorem rpN_len {H : Hp} {O : OS} : ∀ {es : List (D × D)} {xs : List NEnt}, RpN H O es xs → xs.length = es.length
  | [], xs, h => by
    have h : xs = [] := h
    subst h
    rfl
  | (_, _) :: es, _, ⟨key, p, v, r, e, _, _, _, _, q⟩ => by
    subst e
    rw [List.length_cons, List.length_cons, rpN_len q]
theorem rpN_at {H : Hp} {O : OS} : ∀ {es : List (D × D)} {xs : List NEnt}, RpN H O es xs → ∀ x ∈ xs, Rp H O x.key.data (.ref x.at_)
  | [], xs, h, x, hx => by
    have h : xs = [] := h
    subst h
    exact absurd hx List.not_mem_nil
  | (_, _) :: es, _, ⟨key, p, v, r, e, e2, _, rk, _, q⟩, x, hx => by
    subst e e2
    rcases List.mem_cons.mp hx with rfl | hx
    · exact rk
    · exact rpN_at q x hx
theorem rpK_put {H : Hp} {O : OS} {k : Key} {d : D} {v : V} (hv : Rp H O d v) {es : List (D × D)} {kvs : List (Key × V)} (r : RpK H O es kvs) : RpK H O (putD es (keyD k) d) (putK kvs k v) := by
  have any : ∀ {es : List (D × D)} {kvs : List (Key × V)}, RpK H O es kvs → (es.any fun e => PyData.eqv e.1 (keyD k)) = kvs.any fun kv => decide (kv.1 = k) := by
    intro es
    induction es with
    | nil =>
      intro kvs h
      have h : kvs = [] := h
      subst h
      rfl
    | cons e es ih =>
      intro kvs h
      obtain ⟨k', d'⟩ := e
      obtain ⟨key, v', r, e, e2, _, q⟩ := h
      subst e e2
      rw [List.any_cons, List.any_cons, ih q, eqv_keyD]
  have snoc : ∀ {es : List (D × D)} {kvs : List (Key × V)}, RpK H O es kvs → RpK H O (es ++ [(keyD k, d)]) (kvs ++ [(k, v)]) := by
    intro es
    induction es with
    | nil =>
      intro kvs h
      have h : kvs = [] := h
      subst h
      exact ⟨k, v, [], rfl, rfl, hv, rfl⟩
    | cons e es ih =>
      intro kvs h
      obtain ⟨k', d'⟩ := e
      obtain ⟨key, v', r, e, e2, h, q⟩ := h
      subst e
      exact ⟨key, v', _, rfl, e2, h, ih q⟩
  have map : ∀ {es : List (D × D)} {kvs : List (Key × V)}, RpK H O es kvs → RpK H O (es.map fun e => if PyData.eqv e.1 (keyD k) = true then (e.1, d) else e) (kvs.map fun kv => if kv.1 = k then (kv.1, v) else kv) := by
    intro es
    induction es with
    | nil =>
      intro kvs h
      have h : kvs = [] := h
      subst h
      exact (rfl : ([] : List (Key × V)) = [])
    | cons e es ih =>
      intro kvs h
      obtain ⟨k', d'⟩ := e
      obtain ⟨key, v', r, e, e2, h, q⟩ := h
      subst e e2
      rw [List.map_cons, List.map_cons, eqv_keyD]
      by_cases z : key = k
      · rw [if_pos (decide_eq_true z), if_pos z]
        exact ⟨key, v, _, rfl, rfl, hv, ih q⟩
      · rw [if_neg (by rw [decide_eq_false z]; decide), if_neg z]
        exact ⟨key, v', _, rfl, rfl, h, ih q⟩
  unfold putD putK
  rw [any r]
  split
  · exact map r
  · exact snoc r
theorem rpN_put {H : Hp} {O : OS} {k : NestedKey} (hk : keyT k = true) (ht : ∃ ks, k = .tup ks) {d : D} {v : V} {p : Addr} (hp : Rp H O k.data (.ref p)) (hv : Rp H O d v) {es : List (D × D)} {xs : List NEnt} (r : RpN H O es xs) : RpN H O (putD es k.data d) (putN xs k p v) := by
  have any : ∀ {es : List (D × D)} {xs : List NEnt}, RpN H O es xs → (es.any fun e => PyData.eqv e.1 k.data) = xs.any fun x => decide (x.key = k) := by
    intro es
    induction es with
    | nil =>
      intro kvs h
      have h : kvs = [] := h
      subst h
      rfl
    | cons e es ih =>
      intro kvs h
      obtain ⟨k', d'⟩ := e
      obtain ⟨key, p', v', r, e, e2, e3, _, _, q⟩ := h
      subst e e2
      rw [List.any_cons, List.any_cons, ih q, eqv_nk e3.1 hk]
  have snoc : ∀ {es : List (D × D)} {xs : List NEnt}, RpN H O es xs → RpN H O (es ++ [(k.data, d)]) (xs ++ [⟨k, p, v⟩]) := by
    intro es
    induction es with
    | nil =>
      intro kvs h
      have h : kvs = [] := h
      subst h
      exact ⟨k, p, v, [], rfl, rfl, ⟨hk, ht⟩, hp, hv, rfl⟩
    | cons e es ih =>
      intro kvs h
      obtain ⟨k', d'⟩ := e
      obtain ⟨key, p', v', r, e, e2, e3, rk, h, q⟩ := h
      subst e
      exact ⟨key, p', v', _, rfl, e2, e3, rk, h, ih q⟩
  have map : ∀ {es : List (D × D)} {xs : List NEnt}, RpN H O es xs → RpN H O (es.map fun e => if PyData.eqv e.1 k.data = true then (e.1, d) else e) (xs.map fun x => if x.key = k then { x with val := v } else x) := by
    intro es
    induction es with
    | nil =>
      intro kvs h
      have h : kvs = [] := h
      subst h
      exact (rfl : ([] : List NEnt) = [])
    | cons e es ih =>
      intro kvs h
      obtain ⟨k', d'⟩ := e
      obtain ⟨key, p', v', r, e, e2, e3, rk, h, q⟩ := h
      subst e e2
      have ih' := ih q
      rw [List.map_cons, List.map_cons, eqv_nk e3.1 hk]
      by_cases z : key = k
      · rw [if_pos (decide_eq_true z), if_pos z]
        exact ⟨key, p', v, _, rfl, rfl, e3, rk, hv, ih'⟩
      · rw [if_neg (by rw [decide_eq_false z]; decide), if_neg z]
        exact ⟨key, p', v', _, rfl, rfl, e3, rk, h, ih'⟩
  unfold putD putN
  rw [any r]
  split
  · exact map r
  · exact snoc r
theorem dictOk_tag {es : List (D × D)} {k : D} (h : dictOk es k = true) : (∃ b, keyTag k = some b) ∧ ∀ e ∈ es, keyTag e.1 = keyTag k := by
  unfold dictOk at h
  rw [Bool.and_eq_true, Option.isSome_iff_exists, List.all_eq_true] at h
  exact ⟨h.1, fun e he => by simpa using h.2 e he⟩
theorem nb_keyD {H : Hp} {O : OS} {k : Key} {y : V} (h : Nb H O (keyD k) y) : y = kV k := by
  cases k with
  | inl i => exact h
  | inr x => exact h
theorem rpJ_no {H : Hp} {O : OS} {a : Addr} {es : List (D × D)} {u : HO} {k : D} {b : Bool} (h : RpJ H O a es u) (tags : ∀ e ∈ es, keyTag e.1 = keyTag k) (hb : keyTag k = some b) : False := by
  match es, h with
  | (k', d) :: es, ⟨ek, _⟩ =>
    have z := tags _ List.mem_cons_self
    rw [hb] at z
    have z : keyTag k' = some b := z
    rw [ek] at z
    cases z
/-- a tuple of ints is clean, wherever it is read -/
theorem nb_of {H : Hp} {O : OS} {k : NestedKey} {y : V} (h : Nb H O k.data y) : Rp H OF k.data y := Nb.rpN (fun es e => by cases k <;> cases e) (Nb.anti (O' := OF) (fun _ z => z.elim) h) fun _ _ z => z
theorem stE_no {es : List (D × D)} {k : D} {b : Bool} (h : StE es) (tags : ∀ e ∈ es, keyTag e.1 = keyTag k) (hb : keyTag k = some b) : False := by
  obtain ⟨r, rfl⟩ := h
  have z := tags _ List.mem_cons_self
  rw [hb] at z
  cases z
theorem dgx_of {H : Hp} {O : OS} {es : List (D × D)} {k : D} {x y : V} (hx : Nb H O (.dict es) x) (hy : Nb H O k y) (ok : dictOk es k = true) : ∃ a o, x = .ref a ∧ DGx H a y o ∧ FndOk H O (findD es k) o := by
  obtain ⟨⟨b, hb⟩, tags⟩ := dictOk_tag ok
  obtain ⟨a, u, e, ha, re | qs⟩ := hx
  rotate_left
  · exact (stE_no qs tags hb).elim
  cases b with
  | false =>
    obtain ⟨key, rfl⟩ := keyTag_f hb
    rcases re with ⟨kvs, rfl, q⟩ | ⟨xs, rfl, ne, q⟩ | qj
    · exact ⟨a, _, e, .inl ⟨kvs, key, ha, nb_keyD hy, rfl⟩, rpK_find q⟩
    · match es, xs, ne, q with
      | [], _, ne, q => exact absurd (show _ = [] from q) ne
      | (k', d) :: es, _, _, ⟨key', p, v, r', _, ek, et, _⟩ =>
        have z := tags _ List.mem_cons_self
        rw [hb] at z
        exact absurd (by rw [← ek]; exact z) (keyTag_nk et.2)
    · exact (rpJ_no qj tags hb).elim
  | true =>
    obtain ⟨nk, rfl, kk, ht⟩ := keyTag_t hb
    rcases re with ⟨kvs, rfl, q⟩ | ⟨xs, rfl, ne, q⟩ | qj
    · have he : es = [] ∧ kvs = [] := by
        match es, q with
        | [], q => exact ⟨rfl, q⟩
        | (k', d) :: es, ⟨key', v, r', _, ek, _⟩ =>
          have z := tags _ List.mem_cons_self
          rw [hb] at z
          have z : keyTag k' = some true := z
          rw [ek, keyTag_keyD] at z
          cases z
      obtain ⟨rfl, rfl⟩ := he
      exact ⟨a, none, e, .inr ⟨[], nk, ⟨.inl ⟨rfl, ha⟩, fun _ hx => absurd hx List.not_mem_nil⟩, kk, ht, nb_of hy, rfl⟩, .inl ⟨rfl, rfl⟩⟩
    · exact ⟨a, _, e, .inr ⟨xs, nk, ⟨.inr ha, fun x hx => Rp.anti (O' := OF) (fun _ z => z.elim) (rpN_at q x hx)⟩, kk, ht, nb_of hy, rfl⟩, rpN_find kk q⟩
    · exact (rpJ_no qj tags hb).elim
/-- a store into an own dict -/
theorem dpx_of {H : Hp} {O : OS} {es : List (D × D)} {k d : D} {a : Addr} {y v : V} (hx : Ow H O (.dict es) (.ref a)) (hy : Rp H O k y) (hv : Rp H O d v) (ok : dictOk es k = true) (hl : es.length < sizeLine) :
    ∃ u, DPx H a y v (upd H a u) ∧ Ow (upd H a u) O (.dict (putD es k d)) (.ref a) := by
  obtain ⟨⟨b, hb⟩, tags⟩ := dictOk_tag ok
  obtain ⟨a', u, e, oa, ha, re⟩ := hx
  cases e
  have kO : ∀ (u : HO) (b : Addr) (o : HO), H b = some o → ¬ O b → upd H a u b = some o := fun u b o e n => by rw [upd_ne (fun z => n (by rw [z]; exact oa))]; exact e
  cases b with
  | false =>
    obtain ⟨key, rfl⟩ := keyTag_f hb
    rcases re with ⟨kvs, rfl, q⟩ | ⟨xs, rfl, ne, q⟩ | qj
    · refine ⟨.dK (putK kvs key v), .inl ⟨kvs, key, ha, nb_keyD hy.nb, by rw [rpK_len q]; exact hl, rfl⟩, a, _, rfl, oa, upd_same, .inl ⟨_, rfl, ?_⟩⟩
      exact RpK.ext (kO _) (fun _ z => .inl z) (rpK_put hv q)
    · match es, xs, ne, q with
      | [], _, ne, q => exact absurd (show _ = [] from q) ne
      | (k', d) :: es, _, _, ⟨key', p, v, r', _, ek, et, _⟩ =>
        have z := tags _ List.mem_cons_self
        rw [hb] at z
        exact absurd (by rw [← ek]; exact z) (keyTag_nk et.2)
    · exact (rpJ_no qj tags hb).elim
  | true =>
    obtain ⟨nk, rfl, kk, ht⟩ := keyTag_t hb
    obtain ⟨p, rfl⟩ : ∃ p, y = .ref p := by
      obtain ⟨ks, rfl⟩ := ht
      obtain ⟨p, _, e, _⟩ := hy
      exact ⟨p, e⟩
    rcases re with ⟨kvs, rfl, q⟩ | ⟨xs, rfl, ne, q⟩ | qj
    · have he : es = [] ∧ kvs = [] := by
        match es, q with
        | [], q => exact ⟨rfl, q⟩
        | (k', d) :: es, ⟨key', v, r', _, ek, _⟩ =>
          have z := tags _ List.mem_cons_self
          rw [hb] at z
          have z : keyTag k' = some true := z
          rw [ek, keyTag_keyD] at z
          cases z
      obtain ⟨rfl, rfl⟩ := he
      refine ⟨.ext (NDφ a (putN [] nk p v)), .inr ⟨[], nk, p, ⟨.inl ⟨rfl, ha⟩, fun _ hx => absurd hx List.not_mem_nil⟩, kk, rfl, nb_of hy.nb, hl, rfl⟩, a, _, rfl, oa, upd_same, .inr (.inl ⟨_, rfl, (fun z => nomatch z), ?_⟩)⟩
      exact RpN.ext (kO _) (fun _ z => .inl z) (rpN_put kk ht hy hv (es := []) (xs := []) rfl)
    · refine ⟨.ext (NDφ a (putN xs nk p v)), .inr ⟨xs, nk, p, ⟨.inr ha, fun x hx => Rp.anti (O' := OF) (fun _ z => z.elim) (rpN_at q x hx)⟩, kk, rfl, nb_of hy.nb, by rw [rpN_len q]; exact hl, rfl⟩, a, _, rfl, oa, upd_same, .inr (.inl ⟨_, rfl, ?_, ?_⟩)⟩
      · intro z
        unfold putN at z
        split at z
        · exact ne (List.map_eq_nil_iff.mp z)
        · simp at z
      · exact RpN.ext (kO _) (fun _ z => .inl z) (rpN_put kk ht hy hv q)
    · exact (rpJ_no qj tags hb).elim
def rInX (neg : Bool) : R2 := fun y x H Q => ∃ a o, x = .ref a ∧ DGx H a y o ∧ Q (.bl (if neg = true then !o.isSome else o.isSome)) H
def rIxX : R2 := fun x y H Q => ∃ a v, x = .ref a ∧ DGx H a y (some v) ∧ Q v H
def rSetX : TSet := fun x y v H Q => ∃ a H', x = .ref a ∧ DPx H a y v H' ∧ Q H'
section
variable {X : CxD}
theorem op_inX (hu : X.A.units + 65 < cLine) : OpR X (compareOp .In) (rInX false) := by
  intro pins s σ H x y v u Q I rx ry h
  obtain ⟨a, o, ey, g, q⟩ := h
  subst ey
  have ry : u = .ref a := ry
  subst ry
  exact x_in (by omega) I g rx fun s' I' => ⟨.bl o.isSome, H, I', rfl, q⟩
theorem op_notInX (hu : X.A.units + 65 < cLine) : OpR X (compareOp .NotIn) (rInX true) := by
  intro pins s σ H x y v u Q I rx ry h
  obtain ⟨a, o, ey, g, q⟩ := h
  subst ey
  have ry : u = .ref a := ry
  subst ry
  exact x_notIn (by omega) I g rx fun s' I' => ⟨.bl (!o.isSome), H, I', rfl, q⟩
theorem dgx_ty {pins : List (Addr × Obj)} {σ : L2.St} {H : Hp} {s : Shared} {a : Addr} {y : V} {o : Option V} (I : Inv X pins σ H s) (g : DGx H a y o) : s.TypeIs (.ref a) "dict" := by
  rcases g with ⟨kvs, key, e, _⟩ | ⟨xs, key, g, _⟩
  · obtain ⟨_, _, vs, _, dd⟩ := dk_of I.hok e
    exact dd.typeIs
  · obtain ⟨_, _, _, _, ts, _, dd⟩ := nd_at I.hok g
    exact dd.typeIs
theorem ix_X (hu : X.A.units + 65 < cLine) : IxR X rIxX := by
  intro value slice pins s σ H x y v u Q I rx ry h hs
  obtain ⟨a, w, ex, g, q⟩ := h
  subst ex
  have rx : v = .ref a := rx
  subst rx
  exact PyProof.Rows.tail_any (dgx_ty I g) PySem.F.slot_dict_getitem.lookup (x_get (by omega) I g ry fun w' s' I' rw' => ⟨w, H, I', rw', q⟩) hs
theorem set_X (hu : X.A.units + 65 < cLine) : PSet X rSetX := by
  intro pins s σ H o i v ov iv u Q I ro ri rv h
  obtain ⟨a, H', eo, g, q⟩ := h
  subst eo
  have ro : ov = .ref a := ro
  subst ro
  exact x_put (by omega) I g ri rv fun s' I' => ⟨H', I', q⟩
end
def dAt (x k : D) : Option D := match x with
  | .dict es => if dictOk es k = true then findD es k else none
  | x => dAt0 x k
def rAt (K : PySem.W.Frag) : R2 := fun x y H Q => rIx K x y H Q ∨ rIxX x y H Q
theorem ix_all {X : CxD} (hu : X.A.units + 65 < cLine) : IxR X (rAt X.K) := ix_seq.or (ix_X hu)
theorem at_ok {K : PySem.W.Frag} : OpS (rAt K) dAt := fun H O x y a b c Q hO ha hb e k => by
  match a, ha, e with
  | .dict es, ha, e =>
    have e : (if dictOk es b = true then findD es b else none) = some c := e
    split at e
    · rename_i h
      obtain ⟨p, o, ex, g, f⟩ := dgx_of ha hb h
      rcases f with ⟨f, _⟩ | ⟨d, v, f1, f2, rv⟩
      · rw [f] at e; cases e
      · rw [e] at f1
        cases f1
        subst f2
        exact .inr ⟨p, v, ex, g, k v H (Same.refl _) rv⟩
    · cases e
  | .none, ha, e => exact .inl (at0_ok H O x y .none b c Q hO ha hb e k)
  | .bool z, ha, e => exact .inl (at0_ok H O x y (.bool z) b c Q hO ha hb e k)
  | .int i, ha, e => exact .inl (at0_ok H O x y (.int i) b c Q hO ha hb e k)
  | .str z, ha, e => exact .inl (at0_ok H O x y (.str z) b c Q hO ha hb e k)
  | .list xs, ha, e => exact .inl (at0_ok H O x y (.list xs) b c Q hO ha hb e k)
  | .tuple xs, ha, e => exact .inl (at0_ok H O x y (.tuple xs) b c Q hO ha hb e k)
def fSetL (x k d : D) : Option D := match x with
  | .dict es => if dictOk es k = true ∧ es.length < sizeLine then some (.dict (putD es k d)) else none
  | x => fSetL0 x k d
def rSetA : TSet := fun x y v H Q => rSetL x y v H Q ∨ rSetX x y v H Q
theorem set_all {X : CxD} (hu : X.A.units + 65 < cLine) : PSet X rSetA := by
  intro pins s σ H o i v ov iv u Q I ro ri rv h
  rcases h with h | h
  · exact set_list pins s σ H o i v ov iv u Q I ro ri rv h
  · exact set_X hu pins s σ H o i v ov iv u Q I ro ri rv h
theorem setL_ok : PutOk rSetA fSetL := fun H O a cur k d new kv v Q ow rk rv e kk => by
  match cur, ow, e with
  | .dict es, ow, e =>
    have e : (if dictOk es k = true ∧ es.length < sizeLine then some (PyData.dict (putD es k d)) else none) = some new := e
    split at e
    · rename_i h
      cases e
      obtain ⟨u, g, ow'⟩ := dpx_of ow rk rv h.1 h.2
      exact .inr ⟨a, _, rfl, g, kk _ (fun b o n e => by rw [upd_ne n]; exact e) (by rw [upd_same]; exact fun z => nomatch z) ow'⟩
    · cases e
  | .none, ow, e => exact ow.elim
  | .bool z, ow, e => exact ow.elim
  | .int i, ow, e => exact ow.elim
  | .str z, ow, e => exact ow.elim
  | .tuple xs, ow, e => exact ow.elim
  | .list xs, ow, e => exact .inl (setL0_ok H O a (.list xs) k d new kv v Q ow rk rv e kk)
end DL
namespace DL
open PySem PySem.Spec L2
def rInA (K : PySem.W.Frag) (neg : Bool) : R2 := fun x y H Q => ∃ d ds, Dp K H x d ∧ (Dp K H y (.list ds) ∨ Dp K H y (.tuple ds)) ∧ SeqAt.shaped d = true ∧ PyData.canLayAll0 ds = true ∧ Q (.bl (if neg then !ds.any fun z => PyData.eqv z d else ds.any fun z => PyData.eqv z d)) H
section
variable {X : CxD}
theorem op_inA0 (hu : X.A.units + 65 < cLine) : OpR X (compareOp .In) (rInA X.K false) := by
  intro pins s σ H x y v u Q I rx ry h
  obtain ⟨d, ds, hd, he, sd, se, q⟩ := h
  obtain ⟨as, r1⟩ := Dp.reads I d x v hd rx
  rcases he with he | he
  · obtain ⟨bs, r2⟩ := Dp.reads I (.list ds) y u he ry
    exact SeqAt.in_list_reads r2 r1 se (SeqAt.canLay_of_shaped sd) (PyProof.Rows.room_in_shaped sd hu) ⟨.bl _, H, I, rfl, q⟩
  · obtain ⟨bs, r2⟩ := Dp.reads I (.tuple ds) y u he ry
    exact SeqAt.in_tuple_reads r2 r1 se (SeqAt.canLay_of_shaped sd) (PyProof.Rows.room_in_shaped sd hu) ⟨.bl _, H, I, rfl, q⟩
theorem op_notInA0 (hu : X.A.units + 65 < cLine) : OpR X (compareOp .NotIn) (rInA X.K true) := by
  intro pins s σ H x y v u Q I rx ry h
  obtain ⟨d, ds, hd, he, sd, se, q⟩ := h
  obtain ⟨as, r1⟩ := Dp.reads I d x v hd rx
  rcases he with he | he
  · obtain ⟨bs, r2⟩ := Dp.reads I (.list ds) y u he ry
    exact SeqAt.notIn_list_reads r2 r1 se (SeqAt.canLay_of_shaped sd) (PyProof.Rows.room_in_shaped sd hu) ⟨.bl _, H, I, rfl, q⟩
  · obtain ⟨bs, r2⟩ := Dp.reads I (.tuple ds) y u he ry
    exact SeqAt.notIn_tuple_reads r2 r1 se (SeqAt.canLay_of_shaped sd) (PyProof.Rows.room_in_shaped sd hu) ⟨.bl _, H, I, rfl, q⟩
end
theorem hu65 {k : Nat} {A : Around} (r : Room k A) : A.units + 65 < cLine := by have := r.un; omega
def inD (neg : Bool) (a : D) (ds : List D) : Option D := if SeqAt.shaped a = true ∧ PyData.canLayAll0 ds = true then some (.bool (if neg then !ds.any fun z => PyData.eqv z a else ds.any fun z => PyData.eqv z a)) else none
def dInG (neg : Bool) (a b : D) : Option D := match b with
  | .dict es => if dictOk es a = true then some (.bool (if neg = true then !(findD es a).isSome else (findD es a).isSome)) else none
  | .list ds => inD neg a ds
  | .tuple ds => inD neg a ds
  | .str y => match a with
    | .str x => some (.bool (if neg = true then !(!(Builtin.Str.occurrences y x 0 y.length 1).isEmpty) else !(Builtin.Str.occurrences y x 0 y.length 1).isEmpty))
    | _ => none
  | _ => none
def rInT (neg : Bool) : R2 := fun x y H Q => ∃ i j, x = .str i ∧ y = .str j ∧ Q (.bl (if neg = true then !(!(Builtin.Str.occurrences j i 0 j.length 1).isEmpty) else !(Builtin.Str.occurrences j i 0 j.length 1).isEmpty)) H
abbrev rInB (K : PySem.W.Frag) (neg : Bool) : R2 := fun x y H Q => rInA K neg x y H Q ∨ rInX neg x y H Q ∨ rInT neg x y H Q
theorem op_inT {X : CxD} : OpR X (compareOp .In) (rInT false) := op_in_str
theorem op_notInT {X : CxD} : OpR X (compareOp .NotIn) (rInT true) := op_notin_str
theorem op_inA {X : CxD} (hu : X.A.units + 65 < cLine) : OpR X (compareOp .In) (rInB X.K false) := (op_inA0 hu).or ((op_inX hu).or op_inT)
theorem op_notInA {X : CxD} (hu : X.A.units + 65 < cLine) : OpR X (compareOp .NotIn) (rInB X.K true) := (op_notInA0 hu).or ((op_notInX hu).or op_notInT)
def dIn := dInG false
def dNotIn := dInG true
theorem inG_ok {K : PySem.W.Frag} {neg : Bool} : OpS (rInB K neg) (dInG neg) := fun H O x y a b c Q hO ha hb e k => by
  match b, hb, e with
  | .dict es, hb, e =>
    have e : (if dictOk es a = true then some (PyData.bool (if neg = true then !(findD es a).isSome else (findD es a).isSome)) else none) = some c := e
    split at e
    · rename_i h
      cases e
      obtain ⟨p, o, ex, g, f⟩ := dgx_of hb ha h
      have fo : (findD es a).isSome = o.isSome := by
        rcases f with ⟨f1, f2⟩ | ⟨d, v, f1, f2, _⟩ <;> (rw [f1, f2]; rfl)
      refine .inr (.inl ⟨p, o, ex, g, k _ H (Same.refl _) ?_⟩)
      rw [fo]
      rfl
    · cases e
  | .str j, hb, e =>
    match a, ha, e with
    | .str i, ha, e =>
      have ha : x = .str i := ha
      have hb : y = .str j := hb
      subst ha hb
      cases (show some (PyData.bool (if neg = true then !(!(Builtin.Str.occurrences j i 0 j.length 1).isEmpty) else !(Builtin.Str.occurrences j i 0 j.length 1).isEmpty)) = some c from e)
      exact .inr (.inr ⟨i, j, rfl, rfl, k _ H (Same.refl _) rfl⟩)
  | .list ds, hb, e =>
    have e : inD neg a ds = some c := e
    unfold inD at e
    split at e
    · rename_i h
      cases e
      exact .inl ⟨a, ds, nb_dp ha (shaped_can h.1), .inl (nb_dp hb (PyData.hasDict_of_canLay (.list ds) h.2)), h.1, h.2, k _ H (Same.refl _) rfl⟩
    · cases e
  | .tuple ds, hb, e =>
    have e : inD neg a ds = some c := e
    unfold inD at e
    split at e
    · rename_i h
      cases e
      exact .inl ⟨a, ds, nb_dp ha (shaped_can h.1), .inr (nb_dp hb (PyData.hasDict_of_canLay (.tuple ds) h.2)), h.1, h.2, k _ H (Same.refl _) rfl⟩
    · cases e
theorem in_ok {K : PySem.W.Frag} : OpS (rInB K false) dIn := inG_ok
theorem notIn_ok {K : PySem.W.Frag} : OpS (rInB K true) dNotIn := inG_ok
def isNone : D → Bool
  | .none => true
  | _ => false
def dIsNot (a b : D) : Option D := match b with
  | .none => some (.bool (!isNone a))
  | _ => none
theorem nb_isN {H : Hp} {O : OS} {a : D} {x : V} (h : Nb H O a x) : decide (x = .non) = isNone a := by
  rcases nb_non h with ⟨rfl, rfl⟩ | ⟨h1, h2⟩
  · exact decide_eq_true rfl
  · rw [decide_eq_false h2]
    cases a <;> first | rfl | exact (h1 rfl).elim
theorem isNot_ok : OpS (fun x y H Q => y = .non ∧ Q (.bl (!decide (x = .non))) H) dIsNot := fun H O x y a b c Q hO ha hb e k => by
  match b, hb, e with
  | .none, hb, e =>
    cases (show some (PyData.bool (!isNone a)) = some c from e)
    exact ⟨hb, k _ H (Same.refl _) (by rw [nb_isN ha]; rfl)⟩
def fExtend : D → List D → Option (D × D)
  | .list xs, [.list ys] => if xs.length + ys.length ≤ sizeLine then some (.none, .list (xs ++ ys)) else none
  | _, _ => none
theorem RpL.append {H : Hp} {O : OS} : ∀ {ds es : List D} {vs us : List V}, RpL H O ds vs → RpL H O es us → RpL H O (ds ++ es) (vs ++ us)
  | [], _, vs, _, h, k => by
    have h : vs = [] := h
    subst h
    exact k
  | d :: ds, _, _, _, ⟨v, r, e, h, q⟩, k => by
    subst e
    exact ⟨v, _, rfl, h, RpL.append q k⟩
theorem extend_ok : MuOk rExtend fExtend := fun H O a cur res new ds xs Q ow rl e k => by
  match cur, ds, ow, rl, e with
  | .list ys, [.list zs], ⟨p, us, ep, hp, hl, r⟩, ⟨v, vr, ev, ⟨b, ws, eb, nb, hb, rb⟩, er⟩, e =>
    cases ep
    have er : vr = [] := er
    subst er ev eb
    have e : (if ys.length + zs.length ≤ sizeLine then some (PyData.none, PyData.list (ys ++ zs)) else none) = some (res, new) := e
    split at e
    · rename_i h
      cases e
      refine ⟨a, b, us, ws, rfl, rfl, hl, hb, by rw [r.length, rb.length]; exact h, k _ _ (fun b o n e => by rw [upd_ne n]; exact e) (by rw [upd_same]; exact fun z => nomatch z) ?_ rfl⟩
      have kO : ∀ b o, H b = some o → ¬ O b → upd H a (.lst (us ++ ws)) b = some o := fun b o e n => by rw [upd_ne (show b ≠ a from fun z => n (by rw [z]; exact hp))]; exact e
      exact ⟨a, _, rfl, hp, upd_same, RpL.append (RpL.ext kO (fun _ z => .inl z) r) (RpL.ext kO (fun _ z => .inl z) rb)⟩
    · cases e
end DL
namespace DL
open PySem PySem.Spec L2
end DL
namespace DL
open PySem PySem.Spec L2
def tyD : D → String
  | .none => "NoneType"
  | .bool _ => "bool"
  | .int _ => "int"
  | .str _ => "str"
  | .list _ => "list"
  | .tuple _ => "tuple"
  | .dict _ => "dict"
/-- no dict whose keys are tuples -/
def plainK : D × D → Bool
  | (.int _, _) => true
  | (.str _, _) => true
  | _ => false
def flatD : D → Bool
  | .dict es => es.all plainK
  | _ => true
def dIsi (T : String) (d : D) : Option D := if flatD d = true then (kitB (tyD d) T).map .bool else none
theorem nb_tyx {K : PySem.W.Frag} {H : Hp} {O : OS} {d : D} {v : V} (hp : flatD d = true) (h : Nb H O d v) : TyX K H v (.type (tyD d)) := by
  match d, h with
  | .none, h => rw [show v = .non from h]; exact .base .non
  | .bool b, h => rw [show v = .bl b from h]; exact .base (.bl b)
  | .int i, h => rw [show v = .int i from h]; exact .base (.int i)
  | .str x, h => rw [show v = .str x from h]; exact .base (.str x)
  | .list ds, ⟨a, xs, e, r, _⟩ => rw [e]; exact .base (.lst r)
  | .tuple ds, ⟨a, xs, e, r, _⟩ =>
    rw [e]
    rcases r.rd with r | ⟨o, r⟩
    · exact .base (.tup r)
    · exact .fTuple r
  | .dict es, ⟨a, u, e, r, .inr ⟨q, eq⟩⟩ =>
    rw [eq] at hp
    exact Bool.noConfusion hp
  | .dict es, ⟨a, u, e, r, .inl (.inl ⟨kvs, eu, _⟩)⟩ => rw [e]; exact .base (.dK (by rw [r, eu]))
  | .dict es, ⟨a, u, e, r, .inl (.inr (.inr qj))⟩ =>
    match es, qj, hp with
    | (k, d) :: es, ⟨ek, _⟩, hp =>
      have hp : (plainK (k, d) && es.all plainK) = true := hp
      rw [ek] at hp
      exact Bool.noConfusion hp
  | .dict es, ⟨a, u, e, r, .inl (.inr (.inl ⟨xs, eu, ne, q⟩))⟩ =>
    match es, xs, ne, q with
    | [], _, ne, q => exact absurd (show _ = [] from q) ne
    | (k, d) :: es, _, _, ⟨key, p, v, r', _, ek, ⟨_, ks, ek2⟩, _⟩ =>
      have hp : (plainK (k, d) && es.all plainK) = true := hp
      rw [ek, ek2] at hp
      exact Bool.noConfusion hp
section
variable {X : CxD} {κ : List Kd}
theorem de_isi {T : String} {e : Expr} {x : Str} {p q pos : Pos} {oa : Op} (hg : Gl X "isinstance") (hm : X.mg "isinstance" = none) (gT : Gl X x) (mT : X.mg x = none) (bT : bootBuiltins x = some (.type T)) (ha : DO X κ e oa) (hst : notStar e = true := by rfl)
    (hn : x ≠ "__name__" := by decide) (hdb : (x == ("__debug__" : Str)) = false := by decide) : DE X κ (.Call (.Name "isinstance" p) [e, .Name x q] [] pos) (eUn (dIsi T) oa) :=
  ⟨fun g hg' => (pe_callB call_isi hg hm (by decide +kernel) (pa_cons (ha.pe g hg') (pa_cons (pe_bltn (v := .ty T) gT mT bT rfl (hn := hn) (hd := hdb)) pa_nil) (st_cons hst)) (he := st_cons hst)).imp fun σ H Q ⟨O, ε, A, q⟩ =>
    ⟨O, ε, A, oEv_mono ha.mono (fun x ε1 ⟨a, r, e1, e2, q⟩ v H1 O1 A1 x1 r1 => by
      have e2 : (if flatD a = true then (kitB (tyD a) T).map PyData.bool else none) = some r := e2
      have hp : flatD a = true := Classical.byContradiction fun n => by rw [if_neg n] at e2; cases e2
      rw [if_pos hp] at e2
      obtain ⟨b, e3, rfl⟩ := Option.map_eq_some_iff.mp e2
      exact ⟨v, .ty T, .type (tyD a), .type T, b, rfl, .ty T, nb_tyx hp (r1.nb A1 e1), kit_ty e3, q _ H1 O1 A1 x1 rfl⟩) q⟩, eUn_mono ha.mono⟩
end
end DL
namespace DL
open PySem PySem.Spec L2
end DL
namespace DL
open PySem PySem.Spec L2
def tup1 : D → Bool
  | .tuple (_ :: _) => true
  | _ => false
def noTup : D → Bool
  | .tuple _ => false
  | .none => false
  | _ => true
def sortB (ds : List D) : Bool := (ds.all fun a => ds.all fun b => PySem.W.alike a b) && (ds.all tup1 || ds.all noTup) && (ds.all fun d => decide (d.depth ≤ 64) && !d.hasDict)
/-- Python's order of data that are alike -/
def leD (a b : D) : Bool := PySem.W.dataLe false (fun d : D => d) a b
def sortD (ds : List D) : List D := ds.mergeSort leD
def dSorted0 : List D → Option D
  | [.list ds] => if sortB ds = true then some (.list (sortD ds)) else none
  | _ => none
def DpL (K : PySem.W.Frag) (H : Hp) : List V → List D → Prop
  | [], ds => ds = []
  | v :: vs, ds => ∃ d r, ds = d :: r ∧ Dp K H v d ∧ DpL K H vs r
def rSortedD (K : PySem.W.Frag) : List V → Hp → VK → Prop := fun vs H Q => ∃ (a : Addr) (ys : List V) (ds : List D), vs = [V.ref a] ∧ SqL K H a ys ∧ DpL K H ys ds ∧ sortB ds = true ∧
  ∀ p, H p = none → Q (.ref p) (upd H p (.lst (((ys.zip ds).mergeSort (PySem.W.dataLe false (fun b : V × D => b.2))).map (·.1))))
theorem sortB_ok {ds : List D} (h : sortB ds = true) : PySem.W.AllAlike ds ∧ PySem.W.Sortable ds ∧ ∀ d ∈ ds, d.depth ≤ 64 ∧ d.hasDict = false := by
  unfold sortB at h
  simp only [Bool.and_eq_true, Bool.or_eq_true, List.all_eq_true, decide_eq_true_eq, Bool.not_eq_true'] at h
  obtain ⟨⟨h1, h2⟩, h3⟩ := h
  refine ⟨fun d hd d' hd' => h1 d hd d' hd', h2.imp (fun h d hd => ?_) (fun h d hd => ?_), h3⟩
  · have := h d hd
    match d, this with
    | .tuple (x :: r), _ => exact ⟨x, r, rfl⟩
  · have := h d hd
    refine ⟨fun e => ?_, fun xs e => ?_⟩
    · rw [e] at this; cases this
    · rw [e] at this; cases this
theorem each_zip {X : CxD} {pins : List (Addr × Obj)} {σ : L2.St} {H : Hp} {s : Shared} (I : Inv X pins σ H s) : ∀ {ys : List V} {ds : List D} {its : List Value}, Vals ys its → DpL X.K H ys ds →
    PySem.W.EachIs (fun u (b : V × D) => RelV b.1 u) its (ys.zip ds) ∧ PySem.W.EachIs (fun u (b : V × D) => ∃ as, Reads s.heap u b.2 as) its (ys.zip ds) ∧ (ys.zip ds).map (·.2) = ds ∧ (ys.zip ds).length = its.length
  | _, _, _, .nil, h => by
    have h : _ = [] := h
    subst h
    exact ⟨.nil, .nil, rfl, rfl⟩
  | _, _, _, .cons r t, ⟨d, ds', e, hd, h⟩ => by
    subst e
    obtain ⟨a1, a2, a3, a4⟩ := each_zip I t h
    obtain ⟨as, rd⟩ := Dp.reads I d _ _ hd r
    exact ⟨.cons r a1, .cons ⟨as, rd⟩ a2, by rw [List.zip_cons_cons, List.map_cons, a3], by rw [List.zip_cons_cons, List.length_cons, a4]; rfl⟩
theorem each_vals : ∀ {out : List Value} {bs : List (V × D)}, PySem.W.EachIs (fun u (b : V × D) => RelV b.1 u) out bs → Vals (bs.map (·.1)) out
  | _, _, .nil => .nil
  | _, _, .cons r t => .cons r (each_vals t)
theorem cr_sorted0 {X : CxD} {k : Nat} (hr : Room k X.A) : CallR X (.builtin "sorted") (rSortedD X.K) := by
  intro pins s σ H vs us Q I r h
  obtain ⟨a, ys, ds, rfl, hs, hd, hb, q⟩ := h
  obtain ⟨its, rv, hl, hz⟩ := I.list hs
  rw [Vals.ref1 r]
  obtain ⟨e1, e2, e3, e4⟩ := each_zip I rv hd
  obtain ⟨b1, b2, b3⟩ := sortB_ok hb
  have hlen : its.length ≤ sizeLine := by rw [← rv.length]; exact hz
  refine PySem.W.sorted_data (enc := fun b : V × D => b.2) hl.isList e1 e2 (by rw [e3]; exact b1) (by rw [e3]; exact b2) (by rw [e4]; exact hlen) (fun b hb' => ?_) fun out ho eo => ?_
  · have : b.2 ∈ ds := by rw [← e3]; exact List.mem_map.mpr ⟨b, hb', rfl⟩
    have h1 := (b3 _ this).1
    have h2 := hr.un
    show X.A.units + 2 + b.2.depth < cLine
    omega
  · obtain ⟨ep, he'⟩ := PyProof.Rows.sortedAll_at s.heap its out.toArray
    have vo := each_vals eo
    have hlen2 : (((ys.zip ds).mergeSort (PySem.W.dataLe false (fun b : V × D => b.2))).map (·.1)).length ≤ sizeLine := by
      rw [List.length_map, List.length_mergeSort, e4]
      exact hlen
    exact ⟨.ref _, upd H (s.heap.objs.size + 1) (.lst (((ys.zip ds).mergeSort (PySem.W.dataLe false (fun b : V × D => b.2))).map (·.1))), I.laid (t' := s.toks) (fun _ _ => PyProof.Rows.sortedAll_old) (Nat.le_succ _) ⟨hlen2, out, ep, vo, he'⟩, rfl, q _ (I.hok.fresh (Nat.le_succ _))⟩
theorem RpL.dpL {K : PySem.W.Frag} {H : Hp} {O : OS} : ∀ {ds : List D} {vs : List V}, RpL H O ds vs → (∀ d ∈ ds, d.hasDict = false) → DpL K H vs ds
  | [], _, h, _ => by
    have h : _ = [] := h
    subst h
    exact (rfl : ([] : List D) = [])
  | d :: ds, _, ⟨v, r, e, h, q⟩, n => by
    subst e
    exact ⟨d, ds, rfl, nb_dp h.nb (n d List.mem_cons_self), RpL.dpL q fun x hx => n x (List.mem_cons_of_mem _ hx)⟩
theorem RpL.zip {H : Hp} {O : OS} : ∀ {ds : List D} {vs : List V}, RpL H O ds vs → (∀ b ∈ vs.zip ds, Rp H O b.2 b.1) ∧ (vs.zip ds).map (·.2) = ds
  | [], _, h => by
    have h : _ = [] := h
    subst h
    exact ⟨fun b hb => absurd hb List.not_mem_nil, rfl⟩
  | d :: ds, _, ⟨v, r, e, h, q⟩ => by
    subst e
    obtain ⟨a, b⟩ := RpL.zip q
    refine ⟨fun x hx => ?_, by rw [List.zip_cons_cons, List.map_cons, b]⟩
    rw [List.zip_cons_cons] at hx
    rcases List.mem_cons.mp hx with rfl | hx
    · exact h
    · exact a x hx
theorem rpL_of {H : Hp} {O : OS} : ∀ {zs : List (V × D)}, (∀ b ∈ zs, Rp H O b.2 b.1) → RpL H O (zs.map (·.2)) (zs.map (·.1))
  | [], _ => (rfl : ([] : List V) = [])
  | b :: zs, h => ⟨b.1, _, rfl, h b List.mem_cons_self, rpL_of fun x hx => h x (List.mem_cons_of_mem _ hx)⟩
theorem sorted0_ok {K : PySem.W.Frag} : CaN (rSortedD K) dSorted0 := fun H O xs ds c Q hO ha e k => by
  match ds, ha, e with
  | [.list ys], ha, e =>
    obtain ⟨v, ev, p, us, ex, hp, r⟩ := nbl1 ha
    subst ex
    have e : (if sortB ys = true then some (PyData.list (sortD ys)) else none) = some c := e
    split at e
    · rename_i hb
      cases e
      obtain ⟨z1, z2⟩ := r.zip
      have em : ((us.zip ys).mergeSort (PySem.W.dataLe false (fun b : V × D => b.2))).map (·.2) = sortD ys := by
        have := List.map_mergeSort (r := PySem.W.dataLe false (fun b : V × D => b.2)) (s := leD) (f := fun b : V × D => b.2) (l := us.zip ys) (fun a _ b _ => rfl)
        rw [this, z2]
        rfl
      refine ⟨p, us, ys, ev, SqL.of hp, r.dpL fun d hd => ((sortB_ok hb).2.2 d hd).2, hb, fun q nq => k _ _ nq fun O' w1 w2 w3 => ?_⟩
      refine ⟨q, _, rfl, w3, upd_same, ?_⟩
      rw [← em]
      refine RpL.ext (fun a o e n => by rw [upd_ne (ne_of_none e nq)]; exact e) (fun a z => (w2 a z).imp id fun e => by rw [e]; exact nq) (rpL_of fun b hb' => z1 b (List.mem_mergeSort.mp hb'))
    · cases e
end DL
namespace DL
open PySem PySem.Spec L2
/-- a dict's keys -/
def KeysAt (H : Hp) (a : Addr) (ys : List V) : Prop := (∃ kvs : List (Key × V), H a = some (.dK kvs) ∧ ys = kvs.map fun kv => kV kv.1) ∨ ∃ xs, NdAt H a xs ∧ ys = xs.map fun x => .ref x.at_
theorem keys_raw {P : Program} {w : World} {H : Hp} {h : Heap} (ok : HOk P w H h) {a : Addr} {ys : List V} (g : KeysAt H a ys) : (a == sysModules) = false ∧ ys.length ≤ sizeLine ∧ ∃ es ep, h.DictRaw a es ep ∧ Vals ys (es.toList.map (·.key)) := by
  rcases g with ⟨kvs, e, rfl⟩ | ⟨xs, g, rfl⟩
  · obtain ⟨z, hd, vs, rel, o, es, ep, h1, h2, h3, h4, h5, h6⟩ := dk_of ok e
    refine ⟨hd, by rw [List.length_map]; exact z, es, ep, ⟨o, h1, h2, h3⟩, ?_⟩
    have go : ∀ {kvs : List (Key × V)} {vs : List (Key × Value)} {l : List DictEntry}, KV kvs vs → Pairs (mixKind P w) l vs → Vals (kvs.map fun kv => kV kv.1) (l.map (·.key)) := by
      intro kvs vs l r
      unfold KV at r
      induction r generalizing l with
      | nil =>
        intro p
        cases p
        exact .nil
      | @cons a b as bs h t ih =>
        intro p
        cases p with
        | @cons e2 kv2 es2 kvs2 p1 p2 p3 =>
          refine .cons ?_ (ih p3)
          show RelV (kV a.1) e2.key
          rw [h.1]
          have p0 : keyIs b.1 e2.key = true := p1
          rcases keyIs_shape p0 with ⟨i, t, q1, q2⟩ | ⟨x, t, q1, q2⟩
          · rw [q1, q2]; exact ⟨t, rfl⟩
          · rw [q1, q2]; exact ⟨t, rfl⟩
    exact go rel h5
  · obtain ⟨z, hd, _, _, ts, rel, o, es, ep, h1, h2, h3, h4, _⟩ := nd_at ok g
    refine ⟨hd, by rw [List.length_map]; exact z, es, ep, ⟨o, h1, h2, h3⟩, ?_⟩
    rw [h4]
    have go : ∀ {xs : List NEnt} {ts : List (NestedKey × Addr × Value)}, Paired EntIs xs ts → Vals (xs.map fun x => V.ref x.at_) ((ts.map (entryOfKey (nestedKind P w))).map (·.key)) := by
      intro xs ts r
      induction r with
      | nil => exact .nil
      | @cons x t xs ts h _ ih =>
        refine .cons ?_ ih
        show Value.ref t.2.1 = Value.ref x.at_
        rw [h.2.1]
    exact go rel
def rSortedX (K : PySem.W.Frag) : List V → Hp → VK → Prop := fun vs H Q => ∃ (a : Addr) (ys : List V) (ds : List D), vs = [V.ref a] ∧ KeysAt H a ys ∧ DpL K H ys ds ∧ sortB ds = true ∧
  ∀ p, H p = none → Q (.ref p) (upd H p (.lst (((ys.zip ds).mergeSort (PySem.W.dataLe false (fun b : V × D => b.2))).map (·.1))))
theorem cr_sortedX {X : CxD} {k : Nat} (hr : Room k X.A) (hc : X.calm = true) : CallR X (.builtin "sorted") (rSortedX X.K) := by
  intro pins s σ H vs us Q I r h
  obtain ⟨a, ys, ds, rfl, hk, hd, hb, q⟩ := h
  obtain ⟨hsys, hlen, es, ep, raw, rv⟩ := keys_raw I.hok hk
  rw [Vals.ref1 r]
  have hn : es.size = ys.length := by rw [rv.length, List.length_map, Array.length_toList]
  obtain ⟨b1, b2, b3⟩ := sortB_ok hb
  refine Calls.call_function_entry PyProof.Rows.kind_sorted PyProof.Rows.plain_sorted PyProof.Rows.entry_sorted (PyProof.Rows.args_sorted1 _) (wpAny_bind (m := checkCount "sorted" 1 1 _) (wpAny_pure (wpAny_bind ?_)))
  refine PySem.W.kdu_collect (PySem.KdlSrc.rawDict (es := es) (ep := ep) hsys) (show X.A.in1.handled = none from I.ok.hd hc) raw (by rw [hn]; exact hlen) fun h' tk acc hkp hacc => wpAny_bind (wpAny_newList (wpAny_bind (wpAny_holding ?_)) (by rw [Array.length_toList, hacc.1, hn]; exact hlen))
  have ea : acc.toList = es.toList.map (·.key) := by
    apply List.ext_getElem?
    intro i
    rw [Array.getElem?_toList, List.getElem?_map, Array.getElem?_toList]
    by_cases hi : i < acc.size
    · have h2 := hacc.2 i _ (Array.getElem?_eq_getElem hi)
      obtain ⟨hi2, e⟩ := h2
      rw [Array.getElem?_eq_getElem hi, Array.getElem?_eq_getElem hi2, e]
      rfl
    · rw [Array.getElem?_eq_none (by omega), Array.getElem?_eq_none (by have := hacc.1; omega)]
      rfl
  have I' : Inv X pins σ H { s with heap := h', toks := tk } := I.kept hkp
  have rv' : Vals ys acc.toList := by rw [ea]; exact rv
  obtain ⟨e1, e2, e3, e4⟩ := each_zip I' rv' hd
  have new : ∀ b o, h'.get? b = some o → (h'.push { cls := .type "list", data := .seq acc.toList.toArray }).get? b = some o := fun b o e => Heap.get?_push_of_some _ e
  have hsz : acc.toList.length ≤ sizeLine := by rw [Array.length_toList, hacc.1, hn]; exact hlen
  have ho : (h'.push { cls := .type "list", data := .seq acc.toList.toArray }).get? h'.objs.size = some (PyProof.Rows.seqObj "list" acc.toList.toArray 0) := Heap.get?_push_size _ rfl
  have er : PySem.W.EachIs (fun u (b : V × D) => ∃ as, Reads (PySem.W.sortingHeap (h'.push { cls := .type "list", data := .seq acc.toList.toArray }) h'.objs.size acc.toList) u b.2 as) acc.toList (ys.zip ds) :=
    e2.mono fun _ _ ⟨as, r⟩ => ⟨as, PyProof.Rows.Reads.keeps (fun b o e => PySem.W.sortingHeap_old (Nat.ne_of_lt (Heap.lt_size e)) (new b o e)) r⟩
  have hz : (ys.zip ds).length ≤ sizeLine := by rw [e4]; exact hsz
  refine PySem.wpAny_call_entry PyProof.Rows.slot_list_sort ⟨_, ho, rfl⟩ PyProof.Rows.entry_list_sort (PySem.W.list_sort_vals (s := { s with heap := h'.push { cls := .type "list", data := .seq acc.toList.toArray }, toks := tk }) ho (PySem.W.SortsAt.data (PySem.W.each_map (fun b : V × D => b.2) er) (by rw [e3]; exact b1) (by rw [e3]; exact b2) (PySem.W.bound_map fun b hb' => ?_)) hsz ⟨_, rfl, wpAny_pure ⟨_, rfl, ?_⟩⟩) (PyProof.Rows.args_list_sort _)
  · have : b.2 ∈ ds := by rw [← e3]; exact List.mem_map.mpr ⟨b, hb', rfl⟩
    have h1 := (b3 _ this).1
    have h2 := hr.un
    show X.A.units + 2 + b.2.depth < cLine
    omega
  · have eo := PySem.W.sortVals_data false (enc := fun b : V × D => b.2) e1 er (by rw [e3]; exact b1)
    have vo := each_vals eo
    obtain ⟨ep2, he⟩ := PyProof.Rows.sortedHeap_at (out := (PySem.W.sortVals (PySem.W.dataKind (PySem.W.sortingHeap (h'.push { cls := .type "list", data := .seq acc.toList.toArray }) h'.objs.size acc.toList) ((ys.zip ds).map fun b => b.2)) false acc.toList acc.toList).toArray) ho
    have hlen2 : (((ys.zip ds).mergeSort (PySem.W.dataLe false (fun b : V × D => b.2))).map (·.1)).length ≤ sizeLine := by
      rw [List.length_map, List.length_mergeSort]
      exact hz
    refine ⟨.ref _, upd H h'.objs.size (.lst (((ys.zip ds).mergeSort (PySem.W.dataLe false (fun b : V × D => b.2))).map (·.1))), I'.laid (t' := tk) (fun b o e => ?_) (Nat.le_refl _) ⟨hlen2, _, ep2, vo, he⟩, rfl, q _ (I'.hok.fresh (Nat.le_refl _))⟩
    have hlt := Heap.lt_size e
    rw [PyProof.Rows.sortedHeap_old (Nat.ne_of_lt hlt) (by rw [Heap.size_push]; exact Nat.lt_succ_of_lt hlt)]
    exact new b o e
/-- of an own, borrowed or clean dict -/
theorem nb_keys {H : Hp} {O : OS} {es : List (D × D)} {v : V} (hs : sortB (es.map (·.1)) = true) (h : Nb H O (.dict es) v) : ∃ a ys, v = .ref a ∧ KeysAt H a ys ∧ RpL H O (es.map (·.1)) ys := by
  obtain ⟨a, u, e, ha, re | qs⟩ := h
  rotate_left
  · obtain ⟨r, rfl⟩ := qs
    exact absurd ((sortB_ok hs).2.2 (.dict []) List.mem_cons_self).2 (by decide)
  rcases re with ⟨kvs, rfl, q⟩ | ⟨xs, rfl, ne, q⟩ | qj
  · refine ⟨a, _, e, .inl ⟨kvs, ha, rfl⟩, ?_⟩
    have go : ∀ {es : List (D × D)} {kvs : List (Key × V)}, RpK H O es kvs → RpL H O (es.map (·.1)) (kvs.map fun kv => kV kv.1) := by
      intro es
      induction es with
      | nil =>
        intro kvs h
        have h : kvs = [] := h
        subst h
        exact (rfl : ([] : List V) = [])
      | cons e es ih =>
        intro kvs h
        obtain ⟨k', d'⟩ := e
        obtain ⟨key, v', r, e, e2, _, q⟩ := h
        subst e e2
        refine ⟨kV key, _, rfl, ?_, ih q⟩
        cases key <;> exact (rfl : _ = _)
    exact go q
  · refine ⟨a, _, e, .inr ⟨xs, ⟨.inr ha, fun x hx => Rp.anti (O' := OF) (fun _ z => z.elim) (rpN_at q x hx)⟩, rfl⟩, ?_⟩
    have go : ∀ {es : List (D × D)} {xs : List NEnt}, RpN H O es xs → RpL H O (es.map (·.1)) (xs.map fun x => V.ref x.at_) := by
      intro es
      induction es with
      | nil =>
        intro kvs h
        have h : kvs = [] := h
        subst h
        exact (rfl : ([] : List V) = [])
      | cons e es ih =>
        intro kvs h
        obtain ⟨k', d'⟩ := e
        obtain ⟨key, p, v', r, e, e2, _, rk, _, q⟩ := h
        subst e
        exact ⟨.ref p, _, rfl, rk, ih q⟩
    exact go q
  · match es, qj, hs with
    | (k, d) :: es, ⟨ek, _⟩, hs =>
      subst ek
      exact absurd ((sortB_ok hs).2.2 (.dict []) List.mem_cons_self).2 (by decide)
def dSorted : List D → Option D
  | [.dict es] => if sortB (es.map (·.1)) = true then some (.list (sortD (es.map (·.1)))) else none
  | ds => dSorted0 ds
abbrev rSortedA (K : PySem.W.Frag) : List V → Hp → VK → Prop := fun xs H Q => rSortedD K xs H Q ∨ rSortedX K xs H Q
theorem cr_sortedD {X : CxD} {k : Nat} (hr : Room k X.A) (hc : X.calm = true := by rfl) : CallR X (.builtin "sorted") (rSortedA X.K) := (cr_sorted0 hr).or (cr_sortedX hr hc)
theorem sorted_ok {K : PySem.W.Frag} : CaN (rSortedA K) dSorted := fun H O xs ds c Q hO ha e k => by
  match ds, ha, e with
  | [.dict es], ha, e =>
    have e : (if sortB (es.map (·.1)) = true then some (PyData.list (sortD (es.map (·.1)))) else none) = some c := e
    split at e
    · rename_i hb
      cases e
      obtain ⟨v, ev, hv⟩ := nbl1 ha
      obtain ⟨p, us, ex, hk, r⟩ := nb_keys hb hv
      subst ex
      obtain ⟨z1, z2⟩ := r.zip
      have em : ((us.zip (es.map (·.1))).mergeSort (PySem.W.dataLe false (fun b : V × D => b.2))).map (·.2) = sortD (es.map (·.1)) := by
        have := List.map_mergeSort (r := PySem.W.dataLe false (fun b : V × D => b.2)) (s := leD) (f := fun b : V × D => b.2) (l := us.zip (es.map (·.1))) (fun a _ b _ => rfl)
        rw [this, z2]
        rfl
      refine .inr ⟨p, us, es.map (·.1), ev, hk, r.dpL fun d hd => ((sortB_ok hb).2.2 d hd).2, hb, fun q nq => k _ _ nq fun O' w1 w2 w3 => ⟨q, _, rfl, w3, upd_same, ?_⟩⟩
      rw [← em]
      exact RpL.ext (fun a o e n => by rw [upd_ne (ne_of_none e nq)]; exact e) (fun a z => (w2 a z).imp id fun e => by rw [e]; exact nq) (rpL_of fun b hb' => z1 b (List.mem_mergeSort.mp hb'))
    · cases e
  | [.list ys], ha, e => exact .inl (sorted0_ok H O xs [.list ys] c Q hO ha e k)
end DL
namespace DL
open PySem PySem.Spec L2
def intsR (lo : Int) (n : Nat) : List D := (List.range n).map fun (k : Nat) => .int (lo + (k : Int))
theorem rpL_ints {H : Hp} {O : OS} {lo : Int} : ∀ (xs : List Nat), RpL H O (xs.map fun (k : Nat) => PyData.int (lo + (k : Int))) (xs.map fun (k : Nat) => V.int (lo + (k : Int)))
  | [] => (rfl : ([] : List V) = [])
  | x :: xs => ⟨_, _, rfl, rfl, rpL_ints xs⟩
def intsOf : List D → Option (List Int)
  | [] => some []
  | .int z :: ds => (intsOf ds).map (z :: ·)
  | _ :: _ => none
theorem RpL.intsOf {H : Hp} {O : OS} : ∀ {ds : List D} {ys : List Int} {us : List V}, DL.intsOf ds = some ys → RpL H O ds us → us = ys.map V.int
  | [], ys, us, e, h => by
    cases (show some ([] : List Int) = some ys from e)
    exact h
  | .int z :: ds, ys, _, e, ⟨v, r, eu, hv, h⟩ => by
    obtain ⟨zs, e2, rfl⟩ := Option.map_eq_some_iff.mp (show (DL.intsOf ds).map (z :: ·) = some ys from e)
    rw [eu, show v = .int z from hv, RpL.intsOf e2 h]
    rfl
end DL
namespace DL
open PySem PySem.Spec L2
theorem atI_nat {α : Type} {xs : List α} {i : Int} (h : 0 ≤ i) (h2 : i < xs.length) : atI xs i = xs[i.toNat]? := by
  unfold atI ixN
  rw [if_pos h, if_pos h2]
  rfl
theorem atI_0 {α : Type} {x : α} {xs : List α} : atI (x :: xs) 0 = some x := by
  rw [atI_nat (by decide) (by simp only [List.length_cons]; omega)]
  rfl
theorem atI_1 {α : Type} {x y : α} {xs : List α} : atI (x :: y :: xs) 1 = some y := by
  rw [atI_nat (by decide) (by simp only [List.length_cons]; omega)]
  rfl
theorem atI_2 {α : Type} {x y z : α} {xs : List α} : atI (x :: y :: z :: xs) 2 = some z := by
  rw [atI_nat (by decide) (by simp only [List.length_cons]; omega)]
  rfl
theorem atI_3 {α : Type} {x y z u : α} {xs : List α} : atI (x :: y :: z :: u :: xs) 3 = some u := by
  rw [atI_nat (by decide) (by simp only [List.length_cons]; omega)]
  rfl
theorem dMul_i {i j : Int} (h : (smallI i || smallI j) = true) : dMul (.int i) (.int j) = some (.int (i * j)) := if_pos h
theorem dFdiv_i {i j : Int} (h : 0 < j) (h2 : j < 1073741824) : dFdiv (.int i) (.int j) = some (.int (i / j)) := if_pos (by simp [h, h2])
theorem dMod_i {i j : Int} (h : 0 < j) : dMod (.int i) (.int j) = some (.int (i % j)) := if_pos (by simp [h])
theorem dPow_i {i j : Int} (h : 0 ≤ j) (h2 : j ≤ 1000000) (h3 : i.natAbs < 2 ^ 64) : dPow (.int i) (.int j) = some (.int (i ^ j.toNat)) := if_pos (by simp only [decide_eq_true h, decide_eq_true h2, decide_eq_true h3, Bool.and_self])
theorem fSetL_1 {x y d : D} {xs : List D} : fSetL (.list (x :: y :: xs)) (.int 1) d = some (.list (x :: d :: xs)) := by
  show (ixN (x :: y :: xs).length 1).map _ = _
  unfold ixN
  rw [if_pos (by decide), if_pos (by simp only [List.length_cons]; omega)]
  rfl
theorem fSetL_2 {x y z d : D} {xs : List D} : fSetL (.list (x :: y :: z :: xs)) (.int 2) d = some (.list (x :: y :: d :: xs)) := by
  show (ixN (x :: y :: z :: xs).length 2).map _ = _
  unfold ixN
  rw [if_pos (by decide), if_pos (by simp only [List.length_cons]; omega)]
  rfl
theorem fSetL_3 {x y z u d : D} {xs : List D} : fSetL (.list (x :: y :: z :: u :: xs)) (.int 3) d = some (.list (x :: y :: z :: d :: xs)) := by
  show (ixN (x :: y :: z :: u :: xs).length 3).map _ = _
  unfold ixN
  rw [if_pos (by decide), if_pos (by simp only [List.length_cons]; omega)]
  rfl
def valsF (ε : En) : List (En → Option D) → Option (List D)
  | [] => some []
  | x :: xs => (x ε).bind fun d => (valsF ε xs).map (d :: ·)
theorem valsF_iff {ε : En} : ∀ {xs : List (En → Option D)} {ds : List D}, vals ε xs ds ↔ valsF ε xs = some ds
  | [], ds => ⟨fun h => by cases (show ds = [] from h); rfl, fun h => by cases (show some [] = some ds from h); exact (rfl : ([] : List D) = [])⟩
  | x :: xs, ds => by
    constructor
    · rintro ⟨d, r, rfl, e, h⟩
      show (x ε).bind _ = _
      rw [e, Option.bind_some, valsF_iff.mp h]
      rfl
    · intro h
      obtain ⟨d, e, h⟩ := Option.bind_eq_some_iff.mp (show (x ε).bind (fun d => (valsF ε xs).map (d :: ·)) = some ds from h)
      obtain ⟨r, e2, h⟩ := Option.map_eq_some_iff.mp h
      exact ⟨d, r, h.symm, e, valsF_iff.mpr e2⟩
/-- a deck as it stands after at most m draws -/
def dkD (ns : List Int) (i l c : Int) : D := .list [.list (ns.map PyData.int), .int i, .int l, .int c]
theorem canAll {xs : List D} (h : ∀ x ∈ xs, PyData.canLay0 x = true) : PyData.canLayAll0 xs = true := by
  induction xs with
  | nil => rfl
  | cons a as ih =>
    show (PyData.canLay0 a && PyData.canLayAll0 as) = true
    rw [h a List.mem_cons_self, ih fun x hx => h x (List.mem_cons_of_mem _ hx)]
    rfl
theorem depAll {xs : List D} {n : Nat} (h : ∀ x ∈ xs, PyData.depth x ≤ n) : PyData.depthAll xs ≤ n := by
  induction xs with
  | nil => exact Nat.zero_le _
  | cons a as ih => exact Nat.max_le.mpr ⟨h a List.mem_cons_self, ih fun x hx => h x (List.mem_cons_of_mem _ hx)⟩
/-- d may be compared, and stands at most n deep -/
def Sh (n : Nat) (d : D) : Prop := PyData.canLay0 d = true ∧ PyData.depth d ≤ n
theorem Sh.int {n : Nat} {i : Int} : Sh n (.int i) := ⟨rfl, Nat.zero_le _⟩
theorem Sh.list {n : Nat} {xs : List D} (h : ∀ x ∈ xs, Sh n x) : Sh (n + 1) (.list xs) := ⟨canAll fun x hx => (h x hx).1, Nat.succ_le_succ (depAll fun x hx => (h x hx).2)⟩
theorem Sh.ok {n : Nat} {d : D} (h : Sh n d) (l : n ≤ 64 := by decide) : SeqAt.shaped d = true := by
  unfold SeqAt.shaped
  rw [h.1, decide_eq_true (Nat.le_trans h.2 l)]
  rfl
theorem Sh.ints {n : Nat} {ns : List Int} : Sh (n + 1) (.list (ns.map PyData.int)) := Sh.list fun x hx => by
  obtain ⟨i, _, rfl⟩ := List.mem_map.mp hx
  exact Sh.int
theorem dEq_sh {m n : Nat} {a b : D} (ha : Sh m a) (hb : Sh n b) (hm : m ≤ 64 := by decide) (hn : n ≤ 64 := by decide) : dEq a b = some (.bool (PyData.eqv a b)) := if_pos (.inr ⟨ha.ok hm, hb.ok hn⟩)
theorem dNe_sh {m n : Nat} {a b : D} (ha : Sh m a) (hb : Sh n b) (hm : m ≤ 64 := by decide) (hn : n ≤ 64 := by decide) : dNe a b = some (.bool !(PyData.eqv a b)) := if_pos (.inr ⟨ha.ok hm, hb.ok hn⟩)
theorem ne_nil (ns : List Int) : dNe (.list (ns.map PyData.int)) (.list []) = some (.bool !ns.isEmpty) := by
  rw [dNe_sh (m := 1) (n := 1) Sh.ints (Sh.list fun x hx => absurd hx List.not_mem_nil)]
  cases ns <;> rfl
end DL
namespace DL
open PySem PySem.Spec L2
def DkH (H H' : Hp) (p : Addr) : Prop := ∃ (q : Addr) (ns : List Int), H p = none ∧ H q = none ∧ p ≠ q ∧ H' p = some (.lst [.ref q, .int 0, .int 0, .int 0]) ∧ H' q = some (.lst (ns.map V.int)) ∧ ns.length ≤ 63 ∧ Same H H'
def spDeck (K : PySem.W.Frag) : Sp := fun vs H Q _ => ∃ (a : Addr) (ns : List Int), vs = [.ref a] ∧ SqL K H a (ns.map V.int) ∧ ns.length ≤ 63 ∧ ∀ p H', DkH H H' p → Q (.ref p) H'
def spLawG (K : PySem.W.Frag) : Sp := fun vs H Q _ => ∃ (a : Addr) (ns : List Int), vs = [.ref a] ∧ SqL K H a (ns.map V.int) ∧ ns.length ≤ 63 ∧ ∀ H', Q (.bl true) H'
def rLof (K : PySem.W.Frag) : List V → Hp → VK → Prop := fun xs H Q => ∃ p ys, xs = [.ref p] ∧ (SqL K H p ys ∨ SqT K H p ys) ∧ ∀ l, H l = none → Q (.ref l) (upd H l (.lst ys))
def tDeck (K : PySem.W.Frag) : TS := tRet (tLst (tCons (tCB (rLof K) (tCons (tSl (rSlL K) (tVar 0) tNoPart (tPart (tC (.int 63)))) tNil)) (tCons (tC (.int 0)) (tCons (tC (.int 0)) (tCons (tC (.int 0)) tNil)))))
theorem cut_ints (ns : List Int) (lo hi : Option Int) : ∃ ms : List Int, cutV (ns.map V.int) lo hi = ms.map V.int ∧ ms.length ≤ ns.length := by
  unfold cutV
  refine ⟨(ns.drop (HT.sIx (ns.map V.int).length 0 lo)).take (HT.sIx (ns.map V.int).length (ns.map V.int).length hi - HT.sIx (ns.map V.int).length 0 lo), by rw [List.map_take, List.map_drop], ?_⟩
  rw [List.length_take, List.length_drop]
  omega
section
variable {P : Program} {w : World} {K : PySem.W.Frag} {mg : Str → Option Value} {base : Heap}
theorem ok_deck {x : Str} {st : Stmt} {f : Addr} {fd : FuncData} (F : Fun K x x st f fd) (S : FnScope ["_law_script"] ["_law_script"] (defScope st))
    (hb : ∀ (cdv : Value) (A : Around) (outer : List Env) (s : Shared) (H : Hp) (E : XK), PSs (cxOf CX0 P w K mg base ["_law_script"] x (defScope st) f cdv A outer s H E) (defBody st) (tDeck K)) : FnG P w K mg base CX0 1 f fd ["_law_script"] (spDeck K) := by
  refine fn_g F S (fun vs H Q E h => ?_) (fun cdv A outer s H vs Q E hr hgd h => ?_)
  · obtain ⟨a, ns, rfl, _⟩ := h
    rfl
  · obtain ⟨a, ns, rfl, hS, hl, k⟩ := h
    refine ⟨_, hb cdv A outer s H E, ?_⟩
    obtain ⟨ms, e, l⟩ := cut_ints ns none (some 63)
    refine ⟨.ref a, rfl, 63, rfl, a, _, rfl, hS, fun r hr => ?_⟩
    refine ⟨r, _, rfl, .inl (SqL.of upd_same), fun q hq => ⟨show 4 ≤ sizeLine by decide, fun p hp => ?_⟩⟩
    rw [e] at hq hp ⊢
    have rq : r ≠ q := fun z => by rw [z, upd_same] at hq; cases hq
    have hq0 : H q = none := by rw [upd_ne rq.symm] at hq; exact hq
    have pq : p ≠ q := fun z => by rw [z, upd_same] at hp; cases hp
    have hp1 : upd H r (.lst (ms.map V.int)) p = none := by rw [upd_ne pq] at hp; exact hp
    have pr : p ≠ r := fun z => by rw [z, upd_same] at hp1; cases hp1
    have hp0 : H p = none := by rw [upd_ne pr] at hp1; exact hp1
    refine k p _ ⟨q, ms, hp0, hq0, pq, upd_same, by rw [upd_ne pq.symm, upd_same], by omega, fun b o eb => ?_⟩
    rw [upd_ne (ne_of_none eb hp0), upd_ne (ne_of_none eb hq0), upd_ne (ne_of_none eb hr)]
    exact eb
/-- a list of statements, whatever stood ahead of it -/
theorem DSs.any {Y : L2.Cx} {κ : List Kd} {fr : Bool} {st : List Stmt} {w : WS} (h : DSs (CxD.no Y) κ fr st w) : PSs Y st (fun Dn σ H => ∃ g, g.κ = κ ∧ g.fr = fr ∧ rdS g w Dn σ H) :=
  ⟨fun pins s σ H Dn I ⟨g, h1, h2, q⟩ => (h.ps g.no h1 h2).run pins s σ H Dn I q⟩
def lawE : WEnds := ⟨fun _ => False, fun d _ => d = .bool true, fun _ => False, fun _ => False⟩
def lawS (n : Nat) (ns : List Int) : En := none :: some (dkD ns 0 0 0) :: List.replicate n none
theorem deck_abs {κr : List Kd} {H H' : Hp} {p : Addr} (hd : DkH H H' p) (hk : κr.all (fun k => k == .val || k == .own || k == .sl) = true) {a : V} : ∃ ns : List Int, ns.length ≤ 63 ∧
    Abs ⟨.val :: .own :: κr, H, OS.non, [], [], false, none⟩ (OS.one p) H' (some a :: some (.ref p) :: List.replicate κr.length none) (lawS κr.length ns) := by
  obtain ⟨q, ns, hp, hq, pq, e1, e2, hl, sm⟩ := hd
  refine ⟨ns, hl, ?_⟩
  have kk : ∀ (i : Nat) (k : Kd), (Kd.val :: Kd.own :: κr)[i]? = some k → k = .val ∨ k = .own ∨ k = .sl := fun i k e => by
    match i, e with
    | 0, e => cases e; exact .inl rfl
    | 1, e => cases e; exact .inr (.inl rfl)
    | i + 2, e =>
      have e : κr[i]? = some k := e
      have := List.all_eq_true.mp hk k (List.mem_of_getElem? e)
      simpa [or_assoc] using this
  have s2 : ∀ (i : Nat) (v : V), (some a :: some (V.ref p) :: List.replicate κr.length none)[i]? = some (some v) → (i = 0 ∧ v = a) ∨ (i = 1 ∧ v = .ref p) := fun i v e => by
    match i, e with
    | 0, e => cases e; exact .inl ⟨rfl, rfl⟩
    | 1, e => cases e; exact .inr ⟨rfl, rfl⟩
    | i + 2, e =>
      have e : (List.replicate κr.length none)[i]? = some (some v) := e
      rw [List.getElem?_replicate] at e
      split at e <;> cases e
  have ow : ∀ b, OwnAt (OS.one p) (Kd.val :: Kd.own :: κr) (some a :: some (V.ref p) :: List.replicate κr.length none) b → b = p := fun b z => by
    rcases z with ⟨i, hm, e⟩ | z
    rotate_left
    · exact z.elim
    rcases s2 i _ e with ⟨rfl, _⟩ | ⟨rfl, h⟩
    · rcases hm with h | h <;> cases h
    · cases h; rfl
  have noio : ∀ (i : Nat), (Kd.val :: Kd.own :: κr)[i]? ≠ some Kd.io := fun i e => by rcases kk i _ e with h | h | h <;> cases h
  refine { slot := ?_, ownO := ow, apm := fun _ _ _ _ z => z.elim, newm := fun _ z => z.elim, subm := fun _ z => z.elim, apart := ?_, brwA := ?_, new := ?_, has := ?_, has0 := fun _ h => h.elim, sub := fun _ h => h.elim, ioO := fun _ _ h => absurd h List.not_mem_nil, ioK := fun _ _ h => absurd h List.not_mem_nil, ioS := fun _ _ h => absurd h List.not_mem_nil, ioA := fun i h => (noio i h).elim, fr := fun b o e _ _ => sm b o e, hold := fun _ h => absurd h List.not_mem_nil, len := ?_, lenK := ?_, fz := fun _ z => nomatch z }
  · intro i d e
    match i, e with
    | 0, e => cases e
    | 1, e =>
      cases e
      refine ⟨.ref p, .own, rfl, rfl, p, _, rfl, rfl, e1, .ref q, _, rfl, ⟨q, _, rfl, fun z => pq z.symm, e2, ?_⟩, ?_⟩
      · clear hl e2 e
        induction ns with
        | nil => exact (rfl : ([] : List V) = [])
        | cons n r ih => exact ⟨_, _, rfl, rfl, ih⟩
      · exact ⟨_, _, rfl, rfl, _, _, rfl, rfl, _, _, rfl, rfl, rfl⟩
    | i + 2, e =>
      have e : (List.replicate κr.length none)[i]? = some (some d) := e
      rw [List.getElem?_replicate] at e
      split at e <;> cases e
  · intro i j b hi hj ei ej
    rcases s2 i _ ei with ⟨rfl, _⟩ | ⟨rfl, _⟩
    · rcases hi with h | h <;> cases h
    · rcases s2 j _ ej with ⟨rfl, _⟩ | ⟨rfl, _⟩
      · rcases hj with h | h <;> cases h
      · rfl
  · intro i b e
    rcases kk i _ e with h | h | h <;> cases h
  · intro i b hi ei
    rcases s2 i _ ei with ⟨rfl, _⟩ | ⟨rfl, h⟩
    · cases hi
    · cases h; exact hp
  · intro b hb
    subst hb
    rw [e1]
    exact fun z => nomatch z
  · simp [lawS]
  · simp
theorem ok_law {x : Str} {st : Stmt} {f : Addr} {fd : FuncData} {N : List Str} {κr : List Kd} {k : Nat} {w0 : WS} {s1 : Stmt} {rest : List Stmt} (F : Fun K x x st f fd) (S : FnScope N ["_law_script"] (defScope st)) (hN : N.length = κr.length + 2)
    (e : defBody st = s1 :: rest)
    (h1 : ∀ (cdv : Value) (A : Around) (outer : List Env) (s : Shared) (H : Hp) (E : XK), Room k (A.deeper (PyProof.Rows.envOfC x (defScope st) s.heap.objs.size f cdv)) → (A.deeper (PyProof.Rows.envOfC x (defScope st) s.heap.objs.size f cdv)).guards = some [] →
      PS (cxOf CX0 P w K mg base N x (defScope st) f cdv A outer s H E).nox s1 (tAsg (fun σ H Q => tCons (tVar 0) tNil σ H fun vs H1 => spDeck K vs H1 Q E0) (gName 1)))
    (body : ∀ (cdv : Value) (A : Around) (outer : List Env) (s : Shared) (H : Hp) (E : XK), Room k (A.deeper (PyProof.Rows.envOfC x (defScope st) s.heap.objs.size f cdv)) → (A.deeper (PyProof.Rows.envOfC x (defScope st) s.heap.objs.size f cdv)).guards = some [] →
      DSs (CxD.no (cxOf CX0 P w K mg base N x (defScope st) f cdv A outer s H E).nox) (.val :: .own :: κr) false rest w0)
    (math : ∀ ns : List Int, ns.length ≤ 63 → w0 lawE (lawS κr.length ns)) (hk : κr.all (fun k => k == .val || k == .own || k == .sl) = true := by rfl) : FnG P w K mg base CX0 (k + 1) f fd ["_law_script"] (spLawG K) := by
  refine fn_g F S (fun vs H Q E h => ?_) (fun cdv A outer s H vs Q E hr hgd h => ?_)
  · obtain ⟨a, ns, rfl, _⟩ := h
    rfl
  · obtain ⟨a, ns, rfl, hS, hl, q⟩ := h
    have m := (body cdv A outer s H E hr hgd).mono
    refine ⟨tSeq (tAsg (fun σ H Q => tCons (tVar 0) tNil σ H fun vs H1 => spDeck K vs H1 Q E0) (gName 1)) (fun Dn σ H => ∃ g, g.κ = (.val :: .own :: κr) ∧ g.fr = false ∧ rdS g w0 Dn σ H), ?_, ?_⟩
    · rw [e]
      exact (pss_cons (h1 cdv A outer s H E hr hgd) (body cdv A outer s H E hr hgd).any).nox
    · have es : L2.start N [.ref a] = some (.ref a) :: none :: List.replicate κr.length none := by
        unfold L2.start
        rw [show N.length - [V.ref a].length = κr.length + 1 by rw [hN]; rfl]
        rfl
      rw [es]
      refine ⟨.ref a, rfl, a, ns, rfl, hS, hl, fun p H' hd => ?_⟩
      obtain ⟨ms, hl2, A'⟩ := deck_abs hd hk (a := .ref a)
      refine ⟨⟨.val :: .own :: κr, H, OS.non, [], [], false, none⟩, rfl, rfl, _, _, A', ?_⟩
      refine m lawE _ _ ⟨fun ε z => z.elim, fun d ε z v H2 σ2 O2 A2 r => ?_, fun ε z => z.elim, fun ε z => z.elim⟩ (math ms hl2)
      have z : d = .bool true := z
      subst z
      have r : v = .bl true := r
      subst r
      exact q _
end
end DL
namespace DL
open PySem PySem.Spec L2
structure Gd (m n : Nat) (d : D) : Prop where
  can : PyData.canLay0 d = true
  ish : PyData.intsShort 80 d = true
  shw : PyData.showable d = true
  dep : PyData.depth d ≤ m
  blk : PyData.bulk d ≤ n
theorem intsAll {xs : List D} (h : ∀ x ∈ xs, PyData.intsShort 80 x = true) : PyData.intsShortAll 80 xs = true := by
  induction xs with
  | nil => rfl
  | cons a as ih =>
    show (PyData.intsShort 80 a && PyData.intsShortAll 80 as) = true
    rw [h a List.mem_cons_self, ih fun x hx => h x (List.mem_cons_of_mem _ hx)]
    rfl
theorem shwAll {xs : List D} (h : ∀ x ∈ xs, PyData.showable x = true) : PyData.showableAll xs = true := by
  induction xs with
  | nil => rfl
  | cons a as ih =>
    show (PyData.showable a && PyData.showableAll as) = true
    rw [h a List.mem_cons_self, ih fun x hx => h x (List.mem_cons_of_mem _ hx)]
    rfl
theorem blkAll {xs : List D} {n : Nat} (h : ∀ x ∈ xs, PyData.bulk x ≤ n) : PyData.bulkAll xs ≤ xs.length * (n + 1) := by
  induction xs with
  | nil => exact Nat.zero_le _
  | cons a as ih =>
    show PyData.bulk a + 1 + PyData.bulkAll as ≤ (as.length + 1) * (n + 1)
    have h1 := h a List.mem_cons_self
    have h2 := ih fun x hx => h x (List.mem_cons_of_mem _ hx)
    rw [Nat.add_mul, Nat.one_mul]
    omega
theorem Gd.int {m n : Nat} {i : Int} (h : i.natAbs < 10 ^ 79) : Gd m n (.int i) := by
  refine ⟨rfl, ?_, ?_, Nat.zero_le _, Nat.zero_le _⟩
  · have : (Str.ofString (toString i)).length ≤ 80 := by
      rw [PySem.ofString_length]
      exact PySem.int_text_length_le10 (k := 79) (by decide) h
    exact decide_eq_true this
  · refine decide_eq_true ?_
    by_cases z : i.natAbs = 0
    · rw [z]; decide
    · refine (Nat.log2_lt z).mpr (Nat.lt_trans h ?_)
      exact Nat.lt_of_lt_of_le (by decide : 10 ^ 79 < 2 ^ 255 * 256) (Nat.le_trans (by decide : 2 ^ 255 * 256 ≤ 2 ^ 255 * 2 ^ 8) (by rw [← Nat.pow_add]; exact Nat.pow_le_pow_right (by decide) (by decide)))
theorem Gd.tuple {m n k : Nat} {xs : List D} (h : ∀ x ∈ xs, Gd m n x) (l : xs.length * (n + 1) ≤ k) : Gd (m + 1) k (.tuple xs) :=
  ⟨canAll fun x hx => (h x hx).can, intsAll fun x hx => (h x hx).ish, shwAll fun x hx => (h x hx).shw, Nat.succ_le_succ (depAll fun x hx => (h x hx).dep), Nat.le_trans (blkAll fun x hx => (h x hx).blk) l⟩
theorem Gd.sh {m n : Nat} {d : D} (h : Gd m n d) : Sh m d := ⟨h.can, h.dep⟩
def Dk (m : Int) (d : D) : Prop := ∃ ns i l c, d = dkD ns i l c ∧ ns.length ≤ 63 ∧ 0 ≤ i ∧ 0 ≤ c ∧ c ≤ m
theorem Dk.start {ns : List Int} (h : ns.length ≤ 63) : Dk 0 (dkD ns 0 0 0) := ⟨ns, 0, 0, 0, rfl, h, Int.le_refl _, Int.le_refl _, Int.le_refl _⟩
theorem Dk.le {m n : Int} {d : D} (h : Dk m d) (l : m ≤ n) : Dk n d := by
  obtain ⟨ns, i, l', c, e, h1, h2, h3, h4⟩ := h
  exact ⟨ns, i, l', c, e, h1, h2, h3, Int.le_trans h4 l⟩
theorem le_size {n : Nat} (h : n ≤ 1000) : n ≤ sizeLine := Nat.le_trans h (by decide)
theorem rng1_i {n : Int} (h : -(2 ^ 62) ≤ n ∧ n < 2 ^ 62) : rng1 [.int n] = some ((List.range n.toNat).map fun (k : Nat) => PyData.int (k : Int)) := by
  show (if -(2 ^ 62) ≤ n ∧ n < 2 ^ 62 then some (rngD 0 n.toNat) else none) = _
  rw [if_pos h]
  simp only [rngD, Int.zero_add]
theorem dMin_i {i j : Int} : dMin2 [.int i, .int j] = some (.int (min i j)) := by
  show some (PyData.int (if j < i then j else i)) = _
  congr 2
  omega
end DL
namespace DL
open PySem PySem.Spec L2
theorem smallI_of {i : Int} (h : 0 ≤ i) (h2 : i < 2 ^ 64) : smallI i = true := by
  unfold smallI
  rw [decide_eq_true (by omega), decide_eq_true (by omega)]
  rfl
theorem or_l {a b : Bool} (h : a = true) : (a || b) = true := by rw [h]; rfl
theorem or_r {a b : Bool} (h : b = true) : (a || b) = true := by rw [h, Bool.or_true]
theorem dMul_l {i j : Int} (h : 0 ≤ i) (h2 : i < 2 ^ 64) : dMul (.int i) (.int j) = some (.int (i * j)) := dMul_i (or_l (smallI_of h h2))
theorem dMul_r {i j : Int} (h : 0 ≤ j) (h2 : j < 2 ^ 64) : dMul (.int i) (.int j) = some (.int (i * j)) := dMul_i (or_r (smallI_of h h2))
end DL
namespace DL
end DL
namespace DL
open PySem
end DL
namespace DL
open PySem
end DL
namespace PySem
open Sem (wp)
theorem dl_enum_new {v : Value} {o : Obj} {H : Heap → Prop} (B : Begins v o H) :
    Meets (Builtin.«enumerate.__new__» ⟨[.type "enumerate", v], []⟩) (fun _ R s => H s.heap ∧ R (.ok (.ret (.ref (s.heap.push o).objs.size)))
      { s with heap := (s.heap.push o).push { cls := .type "enumerate", data := .fields #[.none, .bool false, .ref s.heap.objs.size, rawInt 0, .none, .none] } }) := .of_wp fun prog w A R s h => by
    obtain ⟨hp, g, d, tk, os⟩ := s
    obtain ⟨h1, h⟩ := h
    have hsub := sub_enumerate
    have q1 : ∀ {A' : Around} {E : Value → Shared → Prop} {Q : Value → Shared → Prop}, Q (.ref hp.objs.size) ⟨hp.push o, g, d, tk, os⟩ → wpAny (model prog w) A' (pyIter v) Q E ⟨hp, g, d, tk, os⟩ := fun q => B.iter prog w _ _ ⟨hp, g, d, tk, os⟩ _ h1 q
    wp_walk using q1
    refine wpAny_stack_any fun stk => (wpAny_pure ?_)
    split
    · rename_i c _ _ _ _ _
      cases (c == Value.type "enumerate") <;> (wp_walk using q1; exact ⟨_, rfl, h⟩)
    · wp_walk using q1
      exact ⟨_, rfl, h⟩
theorem dl_enum_call {prog : Program} {w : World} {A : Around} {E : Value → Shared → Prop} {s : Shared} {v : Value} {o : Obj} {H : Heap → Prop} {Q : Value → Shared → Prop} (B : Begins v o H) (h1 : H s.heap)
    (h : ∀ h', IsEnum h' (s.heap.objs.size + 1) s.heap.objs.size 0 .none → h'.get? s.heap.objs.size = some o → h'.objs.size = s.heap.objs.size + 2 → (∀ b ob, s.heap.get? b = some ob → h'.get? b = some ob) → Q (.ref (s.heap.objs.size + 1)) { s with heap := h' }) :
    wpAny (model prog w) A (call (.type "enumerate") [v]) Q E s := by
  refine callType_new F.called_enumerate (by decide) (F.typeCall_enumerate_1 _) (F.newCall_enumerate_1 _) (fun obj => F.args_object_init_2 obj _) F.entry_enumerate_new (dl_enum_new B) ⟨h1, ?_⟩
  have hz : (s.heap.push o).objs.size = s.heap.objs.size + 1 := Heap.size_push _ _
  show _ ∧ _; rw [hz]
  have he : IsEnum ((s.heap.push o).push { cls := .type "enumerate", data := .fields #[.none, .bool false, .ref s.heap.objs.size, rawInt 0, .none, .none] }) (s.heap.objs.size + 1) s.heap.objs.size 0 .none := by
    have z := Heap.get?_push_size (s.heap.push o) (o := { cls := .type "enumerate", data := .fields #[.none, .bool false, .ref s.heap.objs.size, rawInt 0, .none, .none] }) rfl
    rw [hz] at z; exact z
  exact ⟨⟨_, he, rfl⟩, h _ he (Heap.get?_push_of_some _ (Heap.get?_push_size _ B.free)) (by rw [Heap.size_push, hz]) fun b ob x => Heap.get?_push_of_some _ (Heap.get?_push_of_some _ x)⟩
end PySem
namespace DL
open PySem PySem.Spec L2
inductive Src where
  | L (a : Addr)
  | T (a : Addr)
  | S (z : Str)
def hasS (K : PySem.W.Frag) (H : Hp) (xs : List V) : Src → Prop
  | .L a => SqL K H a xs
  | .T a => SqT K H a xs
  | .S z => xs = z.cps.toList.map fun c => V.str ⟨#[c]⟩
def ItE (K : PySem.W.Frag) (sr : Src) : It :=
  ⟨fun i H => ∃ (xs : List V) (x : V), hasS K H xs sr ∧ xs[i]? = some x, fun i H v H' => ∃ T x, v = .ref T ∧ H T = none ∧ H' = upd H T (.tup [.int (i : Nat), x]) ∧ ∀ xs, hasS K H xs sr → xs[i]? = some x, fun i H => ∃ xs : List V, hasS K H xs sr ∧ xs.length = i⟩
/-- what the iterator at it draws -/
structure DrOk (P : Program) (w : World) (K : PySem.W.Frag) (sr : Src) (e it : Addr) (tn : Nat → Heap → Prop) : Prop where
  obj : ∀ i h, tn i h → ∃ o, h.get? it = some o ∧ ∀ v, o.data ≠ .cell v
  keep : ∀ i (h h' : Heap), tn i h → (∀ o, h.get? it = some o → h'.get? it = some o) → tn i h'
  dr : ∀ (X : Cx), X.prog = P → X.w = w → X.K = K → X.calm = true → ∀ (pins : List (Addr × Obj)) (σ : L2.St) (H : Hp) (s : Shared), Inv X pins σ H s → (H e = none) → (H it = none) → (∃ old i, IsEnum s.heap e it i old) → ∀ xs, hasS K H xs sr → ∃ (fp : List Addr) (Pv : Nat → Value → Prop) (St : Nat → Heap → Prop), Draws P w X.A.in1 it fp xs.length Pv St ∧ e ∉ fp ∧
    (∀ i, tn i s.heap → St i s.heap) ∧ (∀ i h, St i h → tn i h) ∧ ∀ i u, Pv i u → ∃ x, xs[i]? = some x ∧ RelV x u
  inj : ∀ (X : Cx), X.K = K → ∀ (pins : List (Addr × Obj)) (σ : L2.St) (H : Hp) (s : Shared), Inv X pins σ H s → ∀ xs ys, hasS K H xs sr → hasS K H ys sr → xs = ys
theorem turn_enumG {P : Program} {w : World} {K : PySem.W.Frag} {elts : List Expr} {kk : Nat} {tpos : Pos} {sr : Src} {e it : Addr} {tn : Nat → Heap → Prop} (D : DrOk P w K sr e it tn) :
    Turn P w K (.Tuple elts kk tpos) (ItE K sr) [e, it] e (fun i h => (∃ old, IsEnum h e it ((i : Nat) : Int) old) ∧ tn i h ∧ e ≠ it) where
  mem := List.mem_cons_self
  obj := fun i h st b hb => by
    obtain ⟨⟨old, he⟩, ti, _⟩ := st
    rcases (show b = e ∨ b = it by simpa using hb) with z | z
    · rw [z]; exact ⟨_, he, fun v q => (nomatch q)⟩
    · rw [z]; exact D.obj i h ti
  keep := fun i h h' st k => let ⟨⟨old, he⟩, ti, hne⟩ := st; ⟨⟨old, k e (by simp) _ he⟩, D.keep i h h' ti fun o q => k it (by simp) o q, hne⟩
  item := by
    intro X hP hw hK hc i pins s σ H E I hf st hg
    subst hP hw hK
    obtain ⟨⟨old, he⟩, ti, hne⟩ := st
    obtain ⟨xs, x, hq, hx⟩ := hg
    have hel := Heap.lt_size he
    obtain ⟨oi, hoi, _⟩ := D.obj i _ ti
    have hil := Heap.lt_size hoi
    obtain ⟨fp, Pv, St, dr, hef, s1, s2, pv⟩ := D.dr X rfl rfl rfl hc pins σ H s I (hf e (by simp)).1 (hf it (by simp)).1 ⟨_, _, he⟩ xs hq
    refine wpAny_pyNext_enum_itemD dr he (s1 i ti) (List.getElem?_eq_some_iff.mp hx).1 hne hef fun u h' tk pu ho st' hT hsz hk => ?_
    obtain ⟨x', ex', ru⟩ := pv i u pu
    rw [hx] at ex'; cases ex'
    refine ⟨_, rfl, wpAny_letOwnedTupleGo_enum (s := { s with heap := h', toks := tk + 1 }) ho fun h'' he' sb => ?_⟩
    have hT2 : h''.get? s.heap.objs.size = some { cls := .type "tuple", data := .seq #[.int i tk, u] } := (sb.2 _ (Nat.ne_of_lt hel).symm).trans hT
    have new : ObjOk X.prog X.w (upd H s.heap.objs.size (.tup [.int (i : Nat), x])) h'' s.heap.objs.size (.tup [.int (i : Nat), x]) := ⟨by show 2 ≤ sizeLine; decide, [.int i tk, u], .cons ⟨_, rfl⟩ (.cons ru .nil), ⟨_, hT2, rfl, _, rfl⟩⟩
    have I1 : Inv X pins σ (upd H s.heap.objs.size (.tup [.int (i : Nat), x])) { s with heap := h'', toks := tk + 1 } :=
      I.turnedNew (ch := [e, it]) (fun b ob hb q => (sb.2 b (fun z => hb (by rw [z]; simp))).trans (hk b ob (fun z => hb (by rw [z]; simp)) (fun z => hb (by rw [z]; simp)) q)) hf (Nat.le_refl _) new
    refine ⟨.ref s.heap.objs.size, _, I1, rfl, ⟨_, x, rfl, I.hok.fresh (Nat.le_refl _), rfl, fun ys hy => by rw [D.inj X rfl pins σ H s I ys xs hy hq]; exact hx⟩, ⟨⟨u, ?_⟩, D.keep _ h' h'' (s2 _ _ st') fun o q => (sb.2 it hne.symm).trans q, hne⟩, fun b hb => ?_⟩
    · rw [show ((i + 1 : Nat) : Int) = (i : Int) + 1 by omega]; exact he'
    · have hb' : b < s.heap.objs.size := by
        rcases (show b = e ∨ b = it by simpa using hb) with z | z <;> rw [z] <;> assumption
      rw [upd_ne (Nat.ne_of_lt hb')]; exact (hf b hb).1
  done := by
    intro X hP hw hK hc i pins s σ H E I hf st hg
    subst hP hw hK
    obtain ⟨⟨old, he⟩, ti, hne⟩ := st
    obtain ⟨xs, hq, hx⟩ := hg
    obtain ⟨fp, Pv, St, dr, hef, s1, s2, pv⟩ := D.dr X rfl rfl rfl hc pins σ H s I (hf e (by simp)).1 (hf it (by simp)).1 ⟨_, _, he⟩ xs hq
    obtain ⟨f0, f1, f2, f3, f4, f5⟩ := hf it (by simp)
    exact wpAny_pyNext_enum_endD dr he (by rw [hx]; exact s1 i ti) fun h' eb => ⟨rfl, I.turned (t' := s.toks) (fun b ob hb q => eb b ob hb q) f0 f1 f3 f4 f5⟩
  self := fun A i s Q E st h => let ⟨⟨_, he⟩, _⟩ := st; wpAny_pyIter_enum he h
theorem back_get {xs : List V} {its : List Value} {i : Nat} {u : Value} (rv : Vals xs its) (h : its[i]? = some u) : ∃ x, xs[i]? = some x ∧ RelV x u := by
  have hl : i < xs.length := by rw [rv.length]; exact (List.getElem?_eq_some_iff.mp h).1
  obtain ⟨u', h', r⟩ := rv.get (List.getElem?_eq_getElem hl)
  rw [h] at h'
  cases h'
  exact ⟨_, List.getElem?_eq_getElem hl, r⟩
theorem drL {P : Program} {w : World} {K : PySem.W.Frag} {a e it : Addr} (h0 : e ≠ it) (h1 : a ≠ e) (h2 : a ≠ it) : DrOk P w K (.L a) e it (fun i h => h.IsListIter it a i) where
  obj := fun i h ⟨o, ho, _, hd⟩ => ⟨o, ho, fun v q => by rw [hd] at q; cases q⟩
  keep := fun i h h' st k => st.at fun o q => k o q
  dr := fun X hP hw hK hc pins σ H s I _ _ _ xs hq => by
    subst hP hw hK
    obtain ⟨its, rv, p, _⟩ := I.list hq
    have D := Draws.list (prog := X.prog) (w := X.w) (A := X.A.in1) (I.ok.hd hc) it a h2 its.toArray
    rw [show its.toArray.size = xs.length by rw [List.size_toArray]; exact rv.length.symm] at D
    exact ⟨_, _, _, D, by simp only [List.mem_cons, List.not_mem_nil, or_false]; exact fun z => z.elim h0 fun z => h1 z.symm, fun i st => ⟨st, p.isList⟩, fun i h st => st.1, fun i u hu => back_get rv (u := u) (by simpa using hu)⟩
  inj := fun X hK pins σ H s I xs ys h h' => by subst hK; exact I.list_inj h h'
theorem drT {P : Program} {w : World} {K : PySem.W.Frag} {a e it : Addr} (h0 : e ≠ it) (h1 : a ≠ e) (h2 : a ≠ it) : DrOk P w K (.T a) e it (fun i h => h.IsTupleIter it a i) where
  obj := fun i h ⟨o, ho, _, hd⟩ => ⟨o, ho, fun v q => by rw [hd] at q; cases q⟩
  keep := fun i h h' st k => st.at fun o q => k o q
  dr := fun X hP hw hK hc pins σ H s I _ _ _ xs hq => by
    subst hP hw hK
    obtain ⟨its, rv, p, _⟩ := I.tuple hq
    have D := Draws.tuple (prog := X.prog) (w := X.w) (A := X.A.in1) (I.ok.hd hc) it a h2 its.toArray
    rw [show its.toArray.size = xs.length by rw [List.size_toArray]; exact rv.length.symm] at D
    exact ⟨_, _, _, D, by simp only [List.mem_cons, List.not_mem_nil, or_false]; exact fun z => z.elim h0 fun z => h1 z.symm, fun i st => ⟨st, p⟩, fun i h st => st.1, fun i u hu => back_get rv (u := u) (by simpa using hu)⟩
  inj := fun X hK pins σ H s I xs ys h h' => by subst hK; exact I.tuple_inj h h'
theorem drS {P : Program} {w : World} {K : PySem.W.Frag} {z : Str} {t : Tok} {e it : Addr} (h0 : e ≠ it) : DrOk P w K (.S z) e it (fun i h => h.IsStrIter it (strIterType z) z t i) where
  obj := fun i h ⟨o, ho, _, hd⟩ => ⟨o, ho, fun v q => by rw [hd] at q; cases q⟩
  keep := fun i h h' ⟨o, ho, r⟩ k => ⟨o, k o ho, r⟩
  dr := fun X hP hw hK hc pins σ H s I _ _ _ xs hq => by
    subst hP hw hK
    have D := Draws.text (prog := X.prog) (w := X.w) (A := X.A.in1) (I.ok.hd hc) it z t
    have hq : xs = z.cps.toList.map fun c => V.str ⟨#[c]⟩ := hq
    subst hq
    rw [show z.cps.size = (z.cps.toList.map fun c => V.str ⟨#[c]⟩).length by rw [List.length_map, Array.length_toList]] at D
    refine ⟨_, _, _, D, by simpa using h0, fun i st => st, fun i h st => st, fun i u hu => ?_⟩
    obtain ⟨c, tk, hc, rfl⟩ := hu
    refine ⟨.str ⟨#[c]⟩, ?_, tk, rfl⟩
    rw [List.getElem?_map, Array.getElem?_toList, hc]
    rfl
  inj := fun X hK pins σ H s I xs ys h h' => (show xs = _ from h).trans (show ys = _ from h').symm
/-- what is enumerated -/
def srcV : V → Src → Prop
  | v, .L a => v = .ref a
  | v, .T a => v = .ref a
  | v, .S z => v = .str z
def iEnumG (K : PySem.W.Frag) (ta : TA) : TI := fun σ H R => ta σ H fun vs H1 => ∃ v sr xs, vs = [v] ∧ srcV v sr ∧ hasS K H1 xs sr ∧ R (ItE K sr) H1
theorem pi_enumG {X : CxD} {e : Expr} {ta : TA} {p pos tpos : Pos} {elts : List Expr} {kk : Nat} (hg : Gl X "enumerate") (hm : X.mg "enumerate" = none) (ha : PA X [e] ta) (hs : starEach [e] X.env = [(false, eval e X.env)]) :
    PI X (.Tuple elts kk tpos) (.Call (.Name "enumerate" p) [e] [] pos) (iEnumG X.K ta) := by
  refine ⟨fun pins s σ H R I h => ?_⟩
  refine PyProof.Rows.Call_ (ld_blt I hg hm PyProof.Rows.boot_enumerate (PyProof.Rows.callWith_type1 (thn (ha.run pos pins s σ H _ I h) fun us s1 ⟨vs, H1, I1, r1, v, sr, xs, ex, sv, hx, q⟩ => ?_) hs rfl))
  subst ex
  cases r1 with
  | @cons _ u _ _ ru rr =>
    cases rr
    have ne : s1.heap.objs.size + 1 ≠ s1.heap.objs.size := Nat.succ_ne_self _
    have fin : ∀ (h' : Heap) (tn : Nat → Heap → Prop), IsEnum h' (s1.heap.objs.size + 1) s1.heap.objs.size 0 .none → (∀ b ob, s1.heap.get? b = some ob → h'.get? b = some ob) → DrOk X.prog X.w X.K sr (s1.heap.objs.size + 1) s1.heap.objs.size tn → tn 0 h' →
        wpAny (model X.prog X.w) X.A (pyIter (.ref (s1.heap.objs.size + 1))) (PIE X pins σ (.Tuple elts kk tpos) R) X.xe { s1 with heap := h' } := fun h' tn he hk D t0 => by
      refine wpAny_pyIter_enum he ?_
      have I2 : Inv X pins σ H1 { s1 with heap := h' } := I1.kept (t' := s1.toks) hk
      refine ⟨s1.heap.objs.size + 1, [s1.heap.objs.size + 1, s1.heap.objs.size], _, _, H1, rfl, I2, turn_enumG D, ⟨⟨.none, he⟩, t0, ne⟩, fun b hb => ?_, q⟩
      have hle : s1.heap.objs.size ≤ b := by
        rcases (show b = s1.heap.objs.size + 1 ∨ b = s1.heap.objs.size by simpa using hb) with z | z <;> rw [z]
        · exact Nat.le_add_right _ _
        · exact Nat.le_refl _
      exact I1.fpOk hle (I1.hok.fresh hle)
    cases sr with
    | L a =>
      have sv : v = .ref a := sv
      subst sv
      obtain rfl : u = Value.ref a := ru
      obtain ⟨its, rv, pl, hz⟩ := I1.list hx
      have la : a < s1.heap.objs.size := pl.lt
      exact dl_enum_call (begins_list a its.toArray) pl.isList fun h' he ho hsz hk => fin h' _ he hk (drL ne (Nat.ne_of_lt (Nat.lt_succ_of_lt la)) (Nat.ne_of_lt la)) ⟨_, ho, rfl, rfl⟩
    | T a =>
      have sv : v = .ref a := sv
      subst sv
      obtain rfl : u = Value.ref a := ru
      obtain ⟨its, rv, pl, hz⟩ := I1.tuple hx
      obtain ⟨o, ho, _⟩ := id pl
      have la : a < s1.heap.objs.size := Heap.lt_size ho
      exact dl_enum_call (begins_tuple a its.toArray) pl fun h' he ho hsz hk => fin h' _ he hk (drT ne (Nat.ne_of_lt (Nat.lt_succ_of_lt la)) (Nat.ne_of_lt la)) ⟨_, ho, rfl, rfl⟩
    | S z =>
      have sv : v = .str z := sv
      subst sv
      obtain ⟨t, rfl⟩ := ru
      exact dl_enum_call (begins_text z t) trivial fun h' he ho hsz hk => fin h' _ he hk (drS ne) ⟨_, ho, rfl, rfl⟩
def enumD (xs : List D) : List D := xs.zipIdx.map fun p => .tuple [.int (p.2 : Nat), p.1]
theorem enumD_get {xs : List D} {i : Nat} {x : D} (h : xs[i]? = some x) : (enumD xs)[i]? = some (.tuple [.int (i : Nat), x]) := by
  unfold enumD
  rw [List.getElem?_map, List.getElem?_zipIdx, h]
  simp
theorem enumD_len {xs : List D} : (enumD xs).length = xs.length := by unfold enumD; rw [List.length_map, List.length_zipIdx]
def wEnum (o : Op) : WI := fun ε Q => oEv o ε fun x ε' => ∃ a r, x ε' = some a ∧ seqD a = some r ∧ Q (enumD r) (fun ε2 => x ε2 = some a) ε'
theorem ite_ok {g : Gx} {K : PySem.W.Frag} {sr : Src} {xs : List D} {sg : L2.St → Prop} {inv : En → Prop} (h : ∀ O H σ ε, Abs g O H σ ε → sg σ → inv ε → ∃ vs, hasS K H vs sr ∧ RpL H O xs vs) : ItOk g (ItE K sr) sg inv (enumD xs) where
  go := fun i O H σ ε A s v hi => by
    obtain ⟨us, e, r⟩ := h O H σ ε A s v
    rw [enumD_len] at hi
    obtain ⟨x, ex, _⟩ := r.at (List.getElem?_eq_getElem hi)
    exact ⟨us, x, e, ex⟩
  yld := fun i O H σ ε w H' A s v hi y => by
    obtain ⟨us, e, r⟩ := h O H σ ε A s v
    rw [enumD_len] at hi
    have hx := List.getElem?_eq_getElem hi
    obtain ⟨x, ex, rx⟩ := r.at hx
    obtain ⟨T, x0, rfl, nT, rfl, f1⟩ := y
    have e1 := f1 us e
    rw [ex] at e1
    cases e1
    have k : ∀ a o, H a = some o → ¬ O a → upd H T (.tup [.int (i : Nat), x]) a = some o := fun a o e _ => same_upd nT a o e
    exact ⟨_, enumD_get hx, same_upd nT, T, [.int (i : Nat), x], rfl, A.nh nT, RdT.of upd_same, .int (i : Nat), [x], rfl, rfl, x, [], rfl, Rp.ext k (fun _ z => .inl z) rx, rfl⟩
  stop := fun i O H σ ε A s v hi => by
    obtain ⟨us, e, r⟩ := h O H σ ε A s v
    rw [enumD_len] at hi
    exact ⟨us, e, by rw [r.length]; exact hi⟩
theorem signs_rp {H : Hp} {O : OS} (z : List Nat) : RpL H O (z.map fun c => PyData.str ⟨#[c]⟩) (z.map fun c => V.str ⟨#[c]⟩) := by
  induction z with
  | nil => rfl
  | cons c z ih => exact ⟨_, _, rfl, rfl, ih⟩
section
variable {X : CxD} {κ : List Kd} {sl : List Nat} {e : Expr}
theorem di_enum {p tpos pos : Pos} {o : Op} {elts : List Expr} {kk : Nat} (hg : Gl X "enumerate") (hm : X.mg "enumerate" = none) (h : DA X κ [e] [o]) (h1 : opIn sl o = true := by rfl) : DI X κ sl (.Tuple elts kk tpos) (.Call (.Name "enumerate" p) [e] [] pos) (wEnum o) :=
  have m1 : MonoO o := h.mono o List.mem_cons_self
  ⟨fun g hg' => (pi_enumG hg hm (h.pa g hg') (st_cons h.hd.1)).imp fun σ H R ⟨O, ε, A, q⟩ => ⟨O, ε, A, oEv_mono m1 (fun x ε' ⟨sx, q⟩ vs H' O' A' xt ors => by
    obtain ⟨a, r, ea, es, q⟩ := q
    obtain ⟨v, vr, rfl, o1, e3⟩ := ors
    have e3 : vr = [] := e3
    subst e3
    obtain ⟨hl1, k1, f1⟩ := OR.src (sl := sl) A' o1 ea sx
    have AH : Abs (g.holds hl1) O' H' σ ε' := A'.addHold k1
    have at1 : ∀ {O2 H2 σ2 ε2}, Abs (g.holds hl1) O2 H2 σ2 ε2 → (∀ i ∈ sl, σ2[i]? = σ[i]?) → x ε2 = some a → Nb H2 O2 a v := fun A2 s2 e2 => f1 _ _ _ _ _ A2 (fun p hp => List.mem_append_left _ hp) s2 e2
    have na := o1.nb A' ea
    match a, es, na with
    | .list xs, es, ⟨pa, us, ev, eh, rl⟩ =>
      cases (show some xs = some r from es)
      subst ev
      exact ⟨_, .L pa, us, rfl, rfl, SqL.of eh, q _ H' O' _ AH xt (ite_ok fun O2 H2 σ2 ε2 A2 s2 e2 => by
        obtain ⟨c, zs, ec, hc, rc⟩ := at1 A2 s2 e2
        cases ec
        exact ⟨zs, SqL.of hc, rc⟩)⟩
    | .tuple xs, es, ⟨pa, us, ev, eh, rl⟩ =>
      cases (show some xs = some r from es)
      subst ev
      exact ⟨_, .T pa, us, rfl, rfl, sqt eh, q _ H' O' _ AH xt (ite_ok fun O2 H2 σ2 ε2 A2 s2 e2 => by
        obtain ⟨c, zs, ec, hc, rc⟩ := at1 A2 s2 e2
        cases ec
        exact ⟨zs, sqt hc, rc⟩)⟩
    | .str z, es, na =>
      cases (show some (signs z) = some r from es)
      have ev : v = .str z := na
      exact ⟨v, .S z, _, rfl, ev, rfl, q _ H' O' _ AH xt (ite_ok fun O2 H2 σ2 ε2 A2 s2 e2 => ⟨_, rfl, signs_rp z.cps.toList⟩)⟩) (oEv_src h1 m1 q)⟩,
    fun ε Q Q' h' q => oEv_mono m1 (fun x ε' ⟨a, r, ea, es, q⟩ => ⟨a, r, ea, es, h' _ _ _ q⟩) q⟩
end
def boolsOf : List D → Option (List Bool)
  | [] => some []
  | .bool b :: r => (boolsOf r).map (b :: ·)
  | _ :: _ => none
def dAny : List D → Option D
  | [.list xs] => (boolsOf xs).map fun bs => .bool (bs.any id)
  | _ => none
theorem bools_rp {H : Hp} {O : OS} : ∀ {xs : List D} {vs : List V} {bs : List Bool}, RpL H O xs vs → boolsOf xs = some bs → vs = bs.map V.bl
  | [], vs, bs, r, e => by cases e; exact r
  | .bool b :: xs, _, bs, ⟨v, r, rfl, h, q⟩, e => by
    obtain ⟨cs, e1, rfl⟩ := Option.map_eq_some_iff.mp e
    have h : v = .bl b := h
    rw [h, bools_rp q e1]
    rfl
theorem any_ok {K : PySem.W.Frag} : CaS (rAny K) dAny := fun H O xs ds c Q hO ha e k => by
  match ds, ha, e with
  | [.list ys], ⟨v, r, ex, ⟨a, us, ev, eh, rl⟩, e3⟩, e =>
    have e3 : r = [] := e3
    subst e3 ev ex
    obtain ⟨bs, e1, rfl⟩ := Option.map_eq_some_iff.mp e
    exact ⟨a, bs, rfl, by rw [← bools_rp rl e1]; exact SqL.of eh, k _ H (Same.refl _) rfl⟩
theorem sum_rawT {prog : Program} {w : World} {A : Around} {E : Value → Shared → Prop} {s : Shared} {l : Addr} {its : List Value} {ns : List Int} {Q : Value → Shared → Prop} (hh : A.handled = none) (hl : s.heap.IsTuple l its.toArray) (hi : PyProof.Rows.IntsAre its ns)
    (h : ∀ h' tk t', (∀ b o, s.heap.get? b = some o → h'.get? b = some o) → Q (.int ns.sum t') { s with heap := h', toks := tk }) : wpAny (model prog w) A (call (.builtin "sum") [.ref l]) Q E s := by
  obtain ⟨xs, e⟩ := hi.allInts.items
  have hn : numsOf (intItems xs).toList = ns := by rw [← e]; exact hi.numsOf
  rw [nums_intItems] at hn
  rw [e] at hl
  have hlt : l < s.heap.objs.size := by obtain ⟨_, e, _⟩ := hl; exact Heap.lt_size e
  refine call_sum_walkG (wpAny_pyIter_tuple hl ?_)
  refine ⟨_, _, _, _, _, _, numAt xs, rfl, Walks.tuple (A := A.in1) hh s.heap.objs.size l (Nat.ne_of_lt hlt) (intItems xs), ⟨⟨_, Heap.get?_push_size _ rfl, rfl, rfl⟩, hl.push _⟩, fun b hb => ?_, (fun _ _ => intItems_at), fun h' tk t' hk => ?_⟩
  · show b < (s.heap.push _).objs.size
    rw [Heap.size_push]
    rcases List.mem_cons.mp hb with rfl | hb
    · exact Nat.lt_succ_self _
    · rw [List.mem_singleton.mp hb]; exact Nat.lt_succ_of_lt hlt
  · have := h h' tk t' fun b o q => hk b o (fun z => by rw [List.mem_singleton.mp z] at q; exact absurd (Heap.lt_size q) (Nat.lt_irrefl _)) (Heap.get?_push_of_some _ q)
    rw [preSum_eq, List.take_of_length_le (by simp [intItems]), hn]; exact this
def rSumA (K : PySem.W.Frag) : List V → Hp → VK → Prop := fun vs H Q => rSum K vs H Q ∨ ∃ (a : Addr) (ns : List Int), vs = [V.ref a] ∧ SqT K H a (ns.map V.int) ∧ Q (.int ns.sum) H
theorem cr_sumA {X : CxD} (hc : X.calm = true) : CallR X (.builtin "sum") (rSumA X.K) := (cr_sum hc).or (by
  intro pins s σ H vs us Q I r h
  obtain ⟨a, ns, rfl, hs, q⟩ := h
  obtain ⟨its, rv, hl, _⟩ := I.tuple hs
  rw [Vals.ref1 r]
  exact sum_rawT (I.ok.hd hc) hl rv.ints fun h' tk t' hk => ⟨.int _, H, I.kept hk, ⟨_, rfl⟩, q⟩)
def dSum : List D → Option D
  | [.list xs] => (intsOf xs).map fun bs => .int bs.sum
  | [.tuple xs] => (intsOf xs).map fun bs => .int bs.sum
  | _ => none
theorem sum_ok {K : PySem.W.Frag} : CaS (rSumA K) dSum := fun H O xs ds c Q hO ha e k => by
  match ds, ha, e with
  | [.list ys], ⟨v, r, ex, ⟨a, us, ev, eh, rl⟩, e3⟩, e =>
    have e3 : r = [] := e3
    subst e3 ev ex
    obtain ⟨bs, e1, rfl⟩ := Option.map_eq_some_iff.mp e
    exact .inl ⟨a, bs, rfl, by rw [← RpL.intsOf e1 rl]; exact SqL.of eh, k _ H (Same.refl _) rfl⟩
  | [.tuple ys], ⟨v, r, ex, ⟨a, us, ev, eh, rl⟩, e3⟩, e =>
    have e3 : r = [] := e3
    subst e3 ev ex
    obtain ⟨bs, e1, rfl⟩ := Option.map_eq_some_iff.mp e
    exact .inr ⟨a, bs, rfl, by rw [← RpL.intsOf e1 rl]; exact sqt eh, k _ H (Same.refl _) rfl⟩
end DL
namespace DL
open PySem PySem.Spec L2
def post1 (b : Bool) (p : Addr) (x y : V) (H2 : Hp) (Q : VK) : Prop := H2 p = some (.dK []) ∧
  if b = true then ∃ k q, x = .ref q ∧ keyT k = true ∧ Rp H2 OF k.data x ∧ Q (.ref p) (upd H2 p (.ext (NDφ p [⟨k, q, y⟩]))) else ∃ k, x = kV k ∧ Q (.ref p) (upd H2 p (.dK [(k, y)]))
def onePair (P : V → V → Hp → Prop) : List (V × V) → Hp → Prop
  | [(x, y)], H => P x y H
  | _, _ => False
/-- the new dict stands empty while its pair is made -/
def tD1 (b : Bool) (tk tv : TE) : TE := fun σ H Q => ∀ p, H p = none → tk σ (upd H p (.dK [])) fun x H1 => tv σ H1 fun y H2 => post1 b p x y H2 Q
section
variable {X : CxD} {k v : Expr} {pos : Pos} {tk tv : TE}
theorem pe_disp1 (hu : X.A.units + 65 < cLine) (hk : PE X k tk) (hv : PE X v tv) (b : Bool) : PE X (.Dict [some k] [v] pos) (tD1 b tk tv) := by
  refine ⟨fun pins s σ H Q I h => ?_⟩
  have hn := I.hok.fresh (Nat.le_refl s.heap.objs.size)
  have I1 := I.laid (a := s.heap.objs.size) (o := .dK []) (h' := s.heap.push { cls := .type "dict", data := .dict #[] }) (t' := s.toks) (fun _ _ q => Heap.get?_push_of_some _ q) (Nat.le_refl _) (dk_empty s.heap I.big)
  have ev := (pps_cons (pos := pos) hk hv pps_nil).run pins _ σ _ (onePair fun x y H2 => post1 b s.heap.objs.size x y H2 Q) I1 (h _ hn)
  cases b with
  | false =>
    refine wpAny_Dict_walk (knd := mixKind X.prog X.w) rfl rfl (fun z => nomatch z) (Nat.le_add_left 1 14) (thn ev fun ws s2 ⟨ps, H2, I2, rel, q2⟩ => ?_)
    match ps, rel, q2 with
    | [(x, y)], .cons (b := (u, r)) ⟨rx, ry⟩ .nil, ⟨e, q2⟩ =>
      rw [if_neg Bool.false_ne_true] at q2
      obtain ⟨key, ex, q2⟩ := q2
      subst ex
      obtain ⟨z, hd, vs0, r0, dd⟩ := dk_of I2.hok e
      cases r0
      refine ⟨[(key, r)], ⟨kV_is rx, rfl, trivial⟩, dd, fun h' dd' hs => ?_⟩
      obtain ⟨o, es, ep, hq, w1, w2, w3, w4, w5⟩ := dd'
      refine ⟨.ref s.heap.objs.size, _, d_write I2 (by rw [e]; exact True.intro) hs ⟨_, hq⟩ (dk_new (by rw [sizeLine_eq, List.length_singleton]; decide) hd (vs := [(key, r)]) (.cons ⟨rfl, ry⟩ .nil) ⟨o, es, ep, hq, w1, w2, w3, w4, w5⟩), rfl, q2⟩
  | true =>
    have sub : wpAny (model X.prog X.w) X.A (subDict (pairTrees [some k] [v] X.env pos)) (fun d s' => EP X pins σ Q (.ref d) s') X.xe s := by
      refine wpAny_subDictH (knd := nestedKind X.prog X.w) (show X.A.units + 8 < cLine by omega) (Nat.le_add_left 1 14) (thn ev fun ws s2 ⟨ps, H2, I2, rel, q2⟩ => ?_)
      match ps, rel, q2 with
      | [(x, y)], .cons (b := (u, r)) ⟨rx, ry⟩ .nil, ⟨e, q2⟩ =>
        rw [if_pos rfl] at q2
        obtain ⟨key, q, ex, kt, rk, q2⟩ := q2
        have ht : ∃ ks, key = .tup ks := by
          subst ex
          match key, rk with
          | .num i, rk => cases (show V.ref q = .int i from rk)
          | .none, rk => cases (show V.ref q = .non from rk)
          | .text x, rk => cases (show V.ref q = .str x from rk)
          | .tup ks, _ => exact ⟨ks, rfl⟩
        obtain ⟨b, eb, ik⟩ := key_at I2.hok kt ht rk
        rw [ex] at eb
        cases eb
        subst ex
        have rx : u = .ref q := rx
        subst rx
        obtain ⟨_, hd, _, _, ts, rel0, dd⟩ := nd_at I2.hok (xs := []) ⟨.inl ⟨rfl, e⟩, fun _ hx => absurd hx List.not_mem_nil⟩
        cases rel0
        refine ⟨[(key, q, r)], ⟨rfl, rfl, ik, trivial⟩, dd, fun h' tk' dd' hs => ?_⟩
        obtain ⟨o, es, ep, hq, h2, h3, h4, _, h5⟩ := dd'
        have hq' : h'.get? s.heap.objs.size = some o := hq
        have k2 := kt
        unfold keyT at k2
        rw [Bool.and_eq_true] at k2
        refine ⟨.ref s.heap.objs.size, upd H2 s.heap.objs.size (.ext (NDφ s.heap.objs.size [⟨key, q, y⟩])), d_write (t' := tk') I2 (by rw [e]; exact True.intro) hs ⟨o, hq'⟩ ⟨⟨by rw [sizeLine_eq, List.length_singleton]; decide, hd, fun x hx => ?_, by simp, [(key, q, r)], .cons ⟨rfl, rfl, ry⟩ .nil, o, es, ep, hq', h2, h3, ?_⟩, ⟨o, hq'⟩, ?_⟩, rfl, q2⟩
        · rw [List.mem_singleton.mp hx]; exact kt
        · rw [h4]
          show [(⟨key.hash X.w, .ref q, r⟩ : DictEntry)] = [⟨hkHash key, .ref q, r⟩]
          rw [hash_nk key k2.1]
        · intro h1 h2' ⟨z1, z2, z3, z4, ts', z5, o1, es1, ep1, e1, c1, d1, l1⟩ kk
          exact ⟨z1, z2, z3, z4, ts', z5, o1, es1, ep1, kk _ e1, c1, d1, l1⟩
    have shape := zip_pairTrees [some k] [v] X.env pos rfl rfl
    rw [arm_eval_Dict, shape, dictDisplay_pairs (pairTrees [some k] [v] X.env pos) (List.cons_ne_nil _ _) (by show 1 < 17; decide)]
    exact wpAny_bind (wpAny_standAt (wpAny_bind (wpAny_mono sub (fun d s' hd => wpAny_pure hd) fun _ _ e => e)))
end
section
variable {X : CxD} {κ : List Kd} {k v : Expr} {pos : Pos} {wk wv : WE}
/-- a thing of none of the slots is changed -/
theorem Abs.poke {g : Gx} {O : OS} {H : Hp} {σ : L2.St} {ε : En} (A : Abs g O H σ ε) {p : Addr} (hp : O p) (no : ¬ OwnAt O g.κ σ p) (n0 : g.H0 p = none) (u : HO) : Abs g O (upd H p u) σ ε :=
  have kp : ∀ b o, b ≠ p → H b = some o → upd H p u b = some o := fun b o n e => by rw [upd_ne n]; exact e
  have kO : ∀ b o, H b = some o → ¬ O b → upd H p u b = some o := fun b o e n => kp b o (fun z => n (z ▸ hp)) e
  { A with
    slot := fun j d ej => by
      obtain ⟨v, kd, e1, e2, s⟩ := A.slot j d ej
      refine ⟨v, kd, e1, e2, ?_⟩
      have oth : mu g.κ j → ∀ b o, v = .ref b → H b = some o → upd H p u b = some o := fun hj b o ev eb => kp b o (fun z => no (.inl ⟨j, hj, by rw [e1, ev, z]⟩)) eb
      cases kd with
      | val => exact Rp.ext kO (fun _ z => .inl z) s
      | own => exact Ow.ext kO (fun _ z => .inl z) (oth (.inl e2)) (fun _ z => z) s
      | io => exact Ow.ext kO (fun _ z => .inl z) (oth (.inr e2)) (fun _ z => z) s
      | st => exact OwS.ext kO (fun _ z => .inl z) (fun b o m eb => kp b o (fun z => no (.inr (z ▸ m))) eb) (fun _ z => z) s
      | sl => exact OwS.ext kO (fun _ z => .inl z) (fun b o m eb => kp b o (fun z => no (.inr (z ▸ m))) eb) (fun _ z => z) s
      | brw =>
        have nb : ∀ b, v = .ref b → b ≠ p := fun b ev z => (A.brwA j b e2 (by rw [e1, ev])).1 (by rw [z]; exact n0)
        match d, s with
        | .none, h => exact h
        | .bool _, h => exact h
        | .int _, h => exact h
        | .str _, h => exact h
        | .list _, ⟨b, xs, ev, r, q⟩ => exact ⟨b, xs, ev, kp _ _ (nb b ev) r, RpL.ext kO (fun _ z => .inl z) q⟩
        | .tuple _, ⟨b, xs, ev, r, q⟩ => exact ⟨b, xs, ev, rd_keep (fun o z => kp _ o (nb b ev) z) r, RpL.ext kO (fun _ z => .inl z) q⟩
        | .dict _, ⟨b, w, ev, r, q⟩ => exact ⟨b, w, ev, kp _ _ (nb b ev) r, RpE.ext kO (fun _ z => .inl z) q⟩
    has := fun b z => by
      by_cases q : b = p
      · rw [q, upd_same]; exact fun z => nomatch z
      · rw [upd_ne q]; exact A.has b z
    fr := fun b o eb n n2 => kp b o (fun z => by rw [z, n0] at eb; cases eb) (A.fr b o eb n n2)
    hold := fun q hq => Rp.ext kO (fun _ z => .inl z) (A.hold q hq) }
/-- b: a tuple is the key -/
def eDict1 (wk wv : WE) : WE := fun ε Q => ∃ b, wk ε fun k ε1 => wv ε1 fun d ε2 => keyTag k = some b ∧ Q (.dict [(k, d)]) ε2
theorem eDict1_mono (mk : Mono wk) (mv : Mono wv) : Mono (eDict1 wk wv) := fun ε Q Q' h ⟨b, q⟩ => ⟨b, mk _ _ _ (fun k ε1 q => mv _ _ _ (fun d ε2 ⟨e, q⟩ => ⟨e, h _ _ q⟩) q) q⟩
theorem _root_.L2.PE.ex {X : CxD} {e : Expr} {α : Type} {t : α → TE} (h : ∀ a, PE X e (t a)) : PE X e (fun σ H Q => ∃ a, t a σ H Q) := ⟨fun pins s σ H Q I ⟨a, q⟩ => (h a).run pins s σ H Q I q⟩
theorem df_dict1 (hu : X.A.units + 65 < cLine) (hk : DE X κ k wk) (hv : DE X κ v wv) : DF X κ (.Dict [some k] [v] pos) (eDict1 wk wv) :=
  ⟨fun g hg => (PE.ex fun b => pe_disp1 hu (hk.pe g hg) (hv.pe g hg) b).imp fun σ H Q ⟨O, ε, A, b, q⟩ => by
    refine ⟨b, fun p np => ?_⟩
    refine ⟨OS.add O p, ε, A.add np, hk.mono _ _ _ (fun kd ε1 q x H1 O1 A1 x1 r1 => ⟨O1, ε1, A1, hv.mono _ _ _ (fun d ε2 ⟨et, q⟩ y H2 O2 A2 x2 r2 => ?_) q⟩) q⟩
    have x12 := x1.trans x2
    have e2 : H2 p = some (.dK []) := x12.keep p _ upd_same (A.unownA np)
    have o2' : O2.sl p := x12.sl (A.addSl np) (hp_some upd_same)
    have o2 : O2 p := o2'.1
    have np0 : ¬ OwnAt O2 g.κ σ p := fun z => z.elim (A.unslot np) o2'.2
    have rk := A1.rp x2 r1
    refine ⟨e2, ?_⟩
    have kO : ∀ (u : HO) (b : Addr) (o : HO), H2 b = some o → ¬ O2 b → upd H2 p u b = some o := fun u b o e n => by rw [upd_ne (fun z => n (by rw [z]; exact o2))]; exact e
    have fin : ∀ u : HO, RpE (upd H2 p u) O2 p [(kd, d)] u → Q (.ref p) (upd H2 p u) := fun u re =>
      q p _ O2 (A2.poke o2 np0 (A.n0 np) u) ⟨fun a o e n => by
          have na : a ≠ p := ne_of_none e np
          rw [upd_ne na]
          exact x12.keep a o (by rw [upd_ne na]; exact e) n, fun a z => (x12.own a z).elim (fun z => (OS.add_or z).elim (fun e => .inr (by rw [e]; exact np)) .inl) fun z => by
            by_cases q : a = p
            · rw [q]; exact .inr np
            · rw [upd_ne q] at z; exact .inr z, fun a z => x12.mono a (.inr z), (fun a z => by
          by_cases q : a = p
          · rw [q, upd_same]; exact fun z => nomatch z
          · rw [upd_ne q]; exact x12.some a (by rw [upd_ne q]; exact z)), fun a z => (x12.ownm a z).imp_right fun z => by
            by_cases q : a = p
            · rw [q]; exact np
            · rw [upd_ne q] at z; exact z, fun a z => x12.monom a z⟩ o2' np ⟨p, u, rfl, o2, upd_same, re⟩
    cases b with
    | false =>
      rw [if_neg Bool.false_ne_true]
      obtain ⟨key, rfl⟩ := keyTag_f et
      exact ⟨key, nb_keyD rk.nb, fin _ (.inl ⟨_, rfl, key, y, [], rfl, rfl, Rp.ext (kO _) (fun _ z => .inl z) r2, rfl⟩)⟩
    | true =>
      rw [if_pos rfl]
      obtain ⟨nk, rfl, kk, ht⟩ := keyTag_t et
      obtain ⟨c, ec⟩ : ∃ c, x = .ref c := by
        obtain ⟨ks, rfl⟩ := ht
        obtain ⟨c, _, e, _⟩ := rk
        exact ⟨c, e⟩
      subst ec
      exact ⟨nk, c, rfl, kk, nb_of rk.nb, fin _ (.inr (.inl ⟨_, rfl, (fun z => nomatch z), nk, c, y, [], rfl, rfl, ⟨kk, ht⟩, Rp.ext (kO _) (fun _ z => .inl z) rk, Rp.ext (kO _) (fun _ z => .inl z) r2, rfl⟩))⟩, eDict1_mono hk.mono hv.mono⟩
end
end DL
namespace DL
open PySem PySem.Spec L2
end DL
namespace DL
open PySem PySem.Spec L2
end DL
namespace DL
open PySem PySem.Spec L2
end DL
namespace DL
open PySem PySem.Spec L2
end DL
namespace DL
open PySem PySem.Spec L2
end DL
namespace DL
open PySem PySem.Spec L2
def killE (ε : En) : List Nat → En
  | [] => ε
  | v :: vs => killE (ε.set v none) vs
theorem killE_get : ∀ {vs : List Nat} {ε : En} {i : Nat} {d : D}, (killE ε vs)[i]? = some (some d) → ε[i]? = some (some d)
  | [], _, _, _, h => h
  | v :: vs, ε, i, d, h => by
    have h := killE_get (vs := vs) h
    by_cases e : v = i
    · subst e
      rw [List.getElem?_set] at h
      simp at h
    · rwa [get_set_ne e] at h
theorem killE_len : ∀ {vs : List Nat} {ε : En}, (killE ε vs).length = ε.length
  | [], _ => rfl
  | v :: vs, ε => by rw [killE, killE_len, List.length_set]
theorem Abs.kill {g : Gx} {O : OS} {H : Hp} {σ : L2.St} {ε : En} (A : Abs g O H σ ε) (vs : List Nat) : Abs g O H σ (killE ε vs) :=
  { A with
    slot := fun i d e => A.slot i d (killE_get e)
    len := killE_len.trans A.len }
def sKill (vs : List Nat) (w : WS) : WS := fun E ε => w E (killE ε vs)
section
variable {X : CxD} {κ : List Kd} {fr : Bool} {st : Stmt} {rest : List Stmt}
theorem dss_kill {w : WS} (vs : List Nat) (h : DSs X κ fr rest w) : DSs X κ fr rest (sKill vs w) :=
  ⟨fun g hg hf => (h.ps g hg hf).imp fun D σ H ⟨O, ε, A, q⟩ => ⟨O, _, A.kill vs, q⟩, fun E E' ε l q => h.mono _ _ _ l q⟩
end
/-- kills at the block's end -/
def sEnd (vs : List Nat) (w : WS) : WS := fun E ε => w { E with nx := fun ε => E.nx (killE ε vs), ct := fun ε => E.ct (killE ε vs) } ε
theorem dss_end {X : CxD} {κ : List Kd} {fr : Bool} {rest : List Stmt} {w : WS} (vs : List Nat) (h : DSs X κ fr rest w) : DSs X κ fr rest (sEnd vs w) :=
  ⟨fun g hg hf => (h.ps g hg hf).imp fun D σ H ⟨O, ε, A, q⟩ => ⟨O, ε, A, h.mono { ends g D with nx := fun ε => (ends g D).nx (killE ε vs), ct := fun ε => (ends g D).ct (killE ε vs) } _ _ ⟨fun ε z σ H O A => z σ H O (A.kill vs), fun _ _ z => z, fun _ z => z, fun ε z σ H O A => z σ H O (A.kill vs)⟩ q⟩,
    fun E E' ε l q => h.mono { E with nx := fun ε => E.nx (killE ε vs), ct := fun ε => E.ct (killE ε vs) } { E' with nx := fun ε => E'.nx (killE ε vs), ct := fun ε => E'.ct (killE ε vs) } _ ⟨fun ε z => l.nx _ z, l.rt, l.bk, fun ε z => l.ct _ z⟩ q⟩
end DL
namespace DL
open PySem PySem.Spec L2
section
variable {X : CxD} {κ : List Kd} {a b : Expr} {oa ob : Op} {pos pos2 p p2 : Pos}
def dTupR1 : D → Option D
  | .int n => if 0 ≤ n ∧ n ≤ 16777216 then some (.tuple (intsR 0 n.toNat)) else none
  | _ => none
theorem de_tupR1 (hc : X.calm = true) (hg : Gl X "tuple") (hm : X.mg "tuple" = none) (hg2 : Gl X "range") (hm2 : X.mg "range" = none) (ha : DO X κ a oa) (hst : notStar a = true := by rfl) :
    DE X κ (.Call (.Name "tuple" p) [.Call (.Name "range" p2) [a] [] pos2] [] pos) (eUn dTupR1 oa) :=
  ⟨fun g hg' => (pe_tupRg hc hg hm (prg_1 hg2 hm2 (ha.pe g hg') (st_cons hst))).imp fun σ H Q ⟨O, ε, A, q⟩ => ⟨O, ε, A, oEv_mono ha.mono (fun x ε1 ⟨d, r, e1, e2, q⟩ v H1 O1 A1 x1 r1 => by
    match d, e1, e2 with
    | .int n, e1, e2 =>
      have e2 : (if 0 ≤ n ∧ n ≤ 16777216 then some (PyData.tuple (intsR 0 n.toNat)) else none) = some r := e2
      split at e2
      · rename_i h
        cases e2
        refine ⟨n, nb_int (r1.nb A1 e1), RgOk.of_le (by omega) h.2 (by omega) h.1, fun q' np => ?_⟩
        have s := same_upd (o := .tup (rgV 0 n)) np
        refine q (.ref q') _ O1 (A1.same s) (x1.trans (.same s)) ⟨q', _, rfl, A1.nh np, RdT.of upd_same, ?_⟩
        unfold rgV
        rw [show (n : Int) - 0 = n by omega]
        exact rpL_ints _
      · cases e2) q⟩, eUn_mono ha.mono⟩
end
end DL
namespace PySem
open Sem (wp)
open AutoSeq1
/-- a list is lengthened by a tuple -/
theorem dl_extT (l : Addr) (items : Array Value) (n : Nat) (b : Addr) (items2 : Array Value) (n2 : Nat) (dct : Option Addr) (sl : Array (Option Value)) (hs0 : ¬(!items.isEmpty && Builtin.List.listTooLong (items.size + items2.size)) = true) (hs1 : items.size ≤ sizeLine) (hs2 : items.size + items2.size ≤ sizeLine + 1) :
    Meets (Builtin.«list.extend» ⟨[.ref l, .ref b], []⟩) (fun _ R s => (s.heap.get? l = some { cls := .type "list", dict := none, data := .seq items n, slots := #[] } ∧ s.heap.get? b = some { cls := .type "tuple", dict := dct, data := .seq items2 n2, slots := sl }) ∧ R (.ok (.ret Value.none)) { s with heap := s.heap.update l (Obj.mapSeq fun x => x ++ items2), toks := s.toks }) := .of_wp fun prog w A R s h => by
    obtain ⟨hp, g, d, tk, os⟩ := s
    obtain ⟨⟨hl, hb⟩, h⟩ := h
    have f1 := idx_int
    have f2 := sub_tuple_tuple
    have f3 := sub_list_list
    have f4 := sub_tuple_list
    have f5 := sub_list_tuple
    have hz' : (items ++ items2).size ≤ sizeLine + 1 := (Array.size_append ..).symm ▸ hs2
    wp_walk using (wpAny_updateSeq hl rfl (hz := hs1) (_hz' := hz')), wpAny_loadPart' hl, wpAny_loadPart' hb
    exact ⟨_, rfl, h⟩
end PySem
namespace DL
open PySem PySem.Spec L2
def rExtT : V → List V → Hp → VK → Prop := fun x vs H Q => ∃ l b xs zs, x = .ref l ∧ vs = [.ref b] ∧ H l = some (.lst xs) ∧ RdT H b zs ∧ xs.length + zs.length ≤ sizeLine ∧ Q .non (upd H l (.lst (xs ++ zs)))
theorem mt_extT {X : CxD} : MtR X "list.extend" rExtT := by
  intro pins s σ H x vs v us Q I rx rv h
  obtain ⟨l, b, xs, zs, rfl, rfl, hH, hB, hz, q⟩ := h
  cases rx
  obtain ⟨u, rfl, ru⟩ := rv.one
  cases ru
  obtain ⟨z, its, n, r, hl, e⟩ := I.lstM hH
  obtain ⟨its2, r2, tp, hz2⟩ := I.tuple (sqt hB)
  obtain ⟨⟨cl, dct, dt, sl⟩, e2, ec, n2, ed⟩ := id tp
  have ec : cl = .type "tuple" := ec
  have ed : dt = .seq its2.toArray n2 := ed
  subst ec ed
  have l2 := r2.length
  have hsz : its.toArray.size + its2.toArray.size ≤ sizeLine := by simp only [List.size_toArray]; omega
  have hlong : ¬ (!its.toArray.isEmpty && Builtin.List.listTooLong (its.toArray.size + its2.toArray.size)) = true := fun q => by
    rw [notLongL hsz, Bool.and_false] at q
    exact Bool.noConfusion q
  refine call_meets PySem.F.slot_list_extend ⟨_, e, rfl⟩ PySem.F.entry_list_extend (PySem.F.args_list_extend_2 _ _) (PySem.dl_extT l its.toArray n b its2.toArray n2 dct sl hlong (by simp only [List.size_toArray]; omega) (by omega)) ⟨⟨e, e2⟩, ?_⟩
  exact ⟨.non, _, I.lset (its' := its ++ its2) hH e (by simp) (r.append r2) (by simp only [List.length_append]; omega), rfl, q⟩
def fExtA : D → List D → Option (D × D)
  | .list xs, [.list ys] => if xs.length + ys.length ≤ sizeLine then some (.none, .list (xs ++ ys)) else none
  | .list xs, [.tuple ys] => if xs.length + ys.length ≤ sizeLine then some (.none, .list (xs ++ ys)) else none
  | _, _ => none
abbrev rExtA : V → List V → Hp → VK → Prop := fun x vs H Q => rExtend x vs H Q ∨ rExtT x vs H Q
theorem mt_extA {X : CxD} : MtR X "list.extend" rExtA := fun pins s σ H x xs v us Q I rx rv h => h.elim (mt_extend pins s σ H x xs v us Q I rx rv) (mt_extT pins s σ H x xs v us Q I rx rv)
theorem extA_ok : MuOk rExtA fExtA := fun H O a cur res new ds xs Q ow rl e k => by
  match cur, ds, ow, rl, e with
  | .list ys, [.list zs], ow, rl, e => exact .inl (extend_ok H O a (.list ys) res new [.list zs] xs Q ow rl e k)
  | .list ys, [.tuple zs], ⟨p, us, ep, hp, hl, r⟩, ⟨v, vr, ev, ⟨b, ws, eb, nb, hb, rb⟩, er⟩, e =>
    cases ep
    have er : vr = [] := er
    subst er ev eb
    have e : (if ys.length + zs.length ≤ sizeLine then some (PyData.none, PyData.list (ys ++ zs)) else none) = some (res, new) := e
    split at e
    · rename_i h
      cases e
      refine .inr ⟨a, b, us, ws, rfl, rfl, hl, hb, by rw [r.length, rb.length]; exact h, k _ _ (fun b o n e => by rw [upd_ne n]; exact e) (by rw [upd_same]; exact fun z => nomatch z) ?_ rfl⟩
      have kO : ∀ b o, H b = some o → ¬ O b → upd H a (.lst (us ++ ws)) b = some o := fun b o e n => by rw [upd_ne (show b ≠ a from fun z => n (by rw [z]; exact hp))]; exact e
      exact ⟨a, _, rfl, hp, upd_same, RpL.append (RpL.ext kO (fun _ z => .inl z) r) (RpL.ext kO (fun _ z => .inl z) rb)⟩
    · cases e
end DL
namespace PySem
open Sem (wp)
open PyProof.Rows
end PySem
namespace DL
open PySem PySem.Spec L2 PyProof.Rows
end DL
namespace DL
open PySem PySem.Spec L2
end DL
namespace DL
open PySem PySem.Spec L2
end DL
namespace DL
open PySem PySem.Spec L2
end DL
namespace DL
open PySem PySem.Spec L2
end DL
namespace DL
open PySem PySem.Spec L2
def subX (c h : Str) : Bool := c == h || h == ("NetError" : Str)
/-- where the suite stands -/
structure SCx where
  X : L2.Cx
  i : Option Nat
  a : Addr
  oe : Obj
  pn : List (Addr × Obj)
  cls : Value
  d : Option Addr
  hz : Zc cls d oe
  hf : ∃ vs, oe.data = .fields vs
section
variable {S : SCx} {e e2 : Expr} {f g : Exn → Option D} {p q pos : Pos}
def asB : D → Option Bool
  | .bool b => some b
  | _ => none
theorem asB_b {b : Bool} : asB (.bool b) = some b := rfl
end
end DL
namespace DL
open PySem PySem.Spec L2
end DL
namespace DL
open PySem PySem.Spec L2
end DL
namespace L09
open PySem PySem.Spec L2 DL
def top (i : Nat) : Stmt := PySem.Challenge.pw_meshmend_k09_whole_tears.main.body.getD i (.Pass ⟨0, 0, 0, 0⟩)
structure Tx (mg : Str → Option Value) : Prop where
  abs : mg "abs" = none
  any : mg "any" = none
  bool : mg "bool" = none
  enumerate : mg "enumerate" = none
  int : mg "int" = none
  isinstance : mg "isinstance" = none
  len : mg "len" = none
  list : mg "list" = none
  min : mg "min" = none
  range : mg "range" = none
  set : mg "set" = none
  sorted : mg "sorted" = none
  sum : mg "sum" = none
  tuple : mg "tuple" = none
abbrev s_law_draw : Stmt := top 17
abbrev ps_law_draw : List Str := ["_law_deck_here", "_law_many"]
abbrev N_law_draw : List Str := ["_law_deck_here", "_law_many", "_law_found", "_law_cell", "_law_mixed"]
theorem sc_law_draw : FnScope N_law_draw ps_law_draw (defScope s_law_draw) := ⟨rfl, rfl, rfl, by decide +kernel, rfl, by decide +kernel, by decide +kernel⟩
abbrev pk_law_draw : List Kd := [.io, .val]
abbrev κ_law_draw : List Kd := [.io, .val, .val, .val, .val]
abbrev fr_law_draw : Bool := false
abbrev s_law_one : Stmt := top 18
abbrev ps_law_one : List Str := ["_law_deck_here", "_law_items"]
abbrev N_law_one : List Str := ["_law_deck_here", "_law_items"]
theorem sc_law_one : FnScope N_law_one ps_law_one (defScope s_law_one) := ⟨rfl, rfl, rfl, by decide +kernel, rfl, by decide +kernel, by decide +kernel⟩
abbrev pk_law_one : List Kd := [.io, .val]
abbrev κ_law_one : List Kd := [.io, .val]
abbrev fr_law_one : Bool := false
abbrev s_law_sheet : Stmt := top 19
abbrev ps_law_sheet : List Str := ["_law_deck_here", "_law_most"]
abbrev N_law_sheet : List Str := ["_law_deck_here", "_law_most", "_law_top"]
theorem sc_law_sheet : FnScope N_law_sheet ps_law_sheet (defScope s_law_sheet) := ⟨rfl, rfl, rfl, by decide +kernel, rfl, by decide +kernel, by decide +kernel⟩
abbrev pk_law_sheet : List Kd := [.io, .val]
abbrev κ_law_sheet : List Kd := [.io, .val, .val]
abbrev fr_law_sheet : Bool := false
abbrev s_knots : Stmt := top 3
abbrev ps_knots : List Str := ["sheet"]
abbrev N_knots : List Str := ["sheet", "found", "r", "c"]
theorem sc_knots : FnScope N_knots ps_knots (defScope s_knots) := ⟨rfl, rfl, rfl, by decide +kernel, rfl, by decide +kernel, by decide +kernel⟩
abbrev pk_knots : List Kd := [.val]
abbrev κ_knots : List Kd := [.val, .own, .val, .val]
abbrev fr_knots : Bool := false
abbrev s_bars_of : Stmt := top 6
abbrev ps_bars_of : List Str := ["sheet", "knot"]
abbrev N_bars_of : List Str := ["sheet", "knot", "r", "c", "fields", "row", "col"]
theorem sc_bars_of : FnScope N_bars_of ps_bars_of (defScope s_bars_of) := ⟨rfl, rfl, rfl, by decide +kernel, rfl, by decide +kernel, by decide +kernel⟩
abbrev pk_bars_of : List Kd := [.val, .val]
abbrev κ_bars_of : List Kd := [.val, .val, .val, .val, .val, .val, .val]
abbrev fr_bars_of : Bool := false
abbrev s_lacking : Stmt := top 9
abbrev ps_lacking : List Str := ["sheet", "tear", "knot"]
abbrev N_lacking : List Str := ["sheet", "tear", "knot", "bar"]
theorem sc_lacking : FnScope N_lacking ps_lacking (defScope s_lacking) := ⟨rfl, rfl, rfl, by decide +kernel, rfl, by decide +kernel, by decide +kernel⟩
abbrev pk_lacking : List Kd := [.val, .val, .val]
abbrev κ_lacking : List Kd := [.val, .val, .val, .val]
abbrev fr_lacking : Bool := false
abbrev s_lacks : Stmt := top 10
abbrev ps_lacks : List Str := ["sheet", "tear", "knot"]
abbrev N_lacks : List Str := ["sheet", "tear", "knot"]
theorem sc_lacks : FnScope N_lacks ps_lacks (defScope s_lacks) := ⟨rfl, rfl, rfl, by decide +kernel, rfl, by decide +kernel, by decide +kernel⟩
abbrev pk_lacks : List Kd := [.val, .val, .val]
abbrev κ_lacks : List Kd := [.val, .val, .val]
abbrev fr_lacks : Bool := false
abbrev s_lost : Stmt := top 12
abbrev ps_lost : List Str := ["sheet", "tear"]
abbrev N_lost : List Str := ["sheet", "tear", "knot"]
theorem sc_lost : FnScope N_lost ps_lost (defScope s_lost) := ⟨rfl, rfl, rfl, by decide +kernel, rfl, by decide +kernel, by decide +kernel⟩
abbrev pk_lost : List Kd := [.val, .val]
abbrev κ_lost : List Kd := [.val, .val, .val]
abbrev fr_lost : Bool := false
abbrev s_law_ends : Stmt := top 21
abbrev ps_law_ends : List Str := ["_law_sheet_here", "_law_bar"]
abbrev N_law_ends : List Str := ["_law_sheet_here", "_law_bar", "_law_r", "_law_c"]
theorem sc_law_ends : FnScope N_law_ends ps_law_ends (defScope s_law_ends) := ⟨rfl, rfl, rfl, by decide +kernel, rfl, by decide +kernel, by decide +kernel⟩
abbrev pk_law_ends : List Kd := [.val, .val]
abbrev κ_law_ends : List Kd := [.val, .val, .val, .val]
abbrev fr_law_ends : Bool := false
abbrev s_law_is_near : Stmt := top 20
abbrev ps_law_is_near : List Str := ["_law_sheet_here", "_law_bar", "_law_spots"]
abbrev N_law_is_near : List Str := ["_law_sheet_here", "_law_bar", "_law_spots", "_law_upper", "_law_lower"]
theorem sc_law_is_near : FnScope N_law_is_near ps_law_is_near (defScope s_law_is_near) := ⟨rfl, rfl, rfl, by decide +kernel, rfl, by decide +kernel, by decide +kernel⟩
abbrev pk_law_is_near : List Kd := [.val, .val, .brw]
abbrev κ_law_is_near : List Kd := [.val, .val, .brw, .val, .val]
abbrev fr_law_is_near : Bool := false
abbrev s_law_tear : Stmt := top 22
abbrev ps_law_tear : List Str := ["_law_deck_here", "_law_sheet_here"]
abbrev N_law_tear : List Str := ["_law_deck_here", "_law_sheet_here", "_law_many", "_law_way", "_law_part", "_law_bar", "_law_found", "_law_spots", "_law_turn", "_law_near"]
theorem sc_law_tear : FnScope N_law_tear ps_law_tear (defScope s_law_tear) := ⟨rfl, rfl, rfl, by decide +kernel, rfl, by decide +kernel, by decide +kernel⟩
abbrev pk_law_tear : List Kd := [.io, .val]
abbrev κ_law_tear : List Kd := [.io, .val, .val, .val, .val, .val, .own, .own, .val, .val]
abbrev fr_law_tear : Bool := false
abbrev s_ends_of : Stmt := top 5
abbrev ps_ends_of : List Str := ["sheet", "bar"]
abbrev N_ends_of : List Str := ["sheet", "bar", "r", "c"]
theorem sc_ends_of : FnScope N_ends_of ps_ends_of (defScope s_ends_of) := ⟨rfl, rfl, rfl, by decide +kernel, rfl, by decide +kernel, by decide +kernel⟩
abbrev pk_ends_of : List Kd := [.val, .val]
abbrev κ_ends_of : List Kd := [.val, .val, .val, .val]
abbrev fr_ends_of : Bool := false
abbrev s_hole_of : Stmt := top 13
abbrev ps_hole_of : List Str := ["sheet", "tear", "bar"]
abbrev N_hole_of : List Str := ["sheet", "tear", "bar", "found", "waiting", "knot", "other"]
theorem sc_hole_of : FnScope N_hole_of ps_hole_of (defScope s_hole_of) := ⟨rfl, rfl, rfl, by decide +kernel, rfl, by decide +kernel, by decide +kernel⟩
abbrev pk_hole_of : List Kd := [.val, .val, .val]
abbrev κ_hole_of : List Kd := [.val, .val, .val, .own, .own, .val, .val]
abbrev fr_hole_of : Bool := false
abbrev s_holes : Stmt := top 14
abbrev ps_holes : List Str := ["sheet", "tear"]
abbrev N_holes : List Str := ["sheet", "tear", "found", "bar", "hole"]
theorem sc_holes : FnScope N_holes ps_holes (defScope s_holes) := ⟨rfl, rfl, rfl, by decide +kernel, rfl, by decide +kernel, by decide +kernel⟩
abbrev pk_holes : List Kd := [.val, .val]
abbrev κ_holes : List Kd := [.val, .val, .own, .val, .val]
abbrev fr_holes : Bool := false
abbrev s_odd : Stmt := top 11
abbrev ps_odd : List Str := ["sheet", "tear"]
abbrev N_odd : List Str := ["sheet", "tear", "knot"]
theorem sc_odd : FnScope N_odd ps_odd (defScope s_odd) := ⟨rfl, rfl, rfl, by decide +kernel, rfl, by decide +kernel, by decide +kernel⟩
abbrev pk_odd : List Kd := [.val, .val]
abbrev κ_odd : List Kd := [.val, .val, .val]
abbrev fr_odd : Bool := false
abbrev s_is_integer : Stmt := top 1
abbrev ps_is_integer : List Str := ["value", "low", "high"]
abbrev N_is_integer : List Str := ["value", "low", "high"]
theorem sc_is_integer : FnScope N_is_integer ps_is_integer (defScope s_is_integer) := ⟨rfl, rfl, rfl, by decide +kernel, rfl, by decide +kernel, by decide +kernel⟩
abbrev pk_is_integer : List Kd := [.val, .val, .val]
abbrev κ_is_integer : List Kd := [.val, .val, .val]
abbrev fr_is_integer : Bool := false
abbrev s_size : Stmt := top 2
abbrev ps_size : List Str := ["sheet"]
abbrev N_size : List Str := ["sheet"]
theorem sc_size : FnScope N_size ps_size (defScope s_size) := ⟨rfl, rfl, rfl, by decide +kernel, rfl, by decide +kernel, by decide +kernel⟩
abbrev pk_size : List Kd := [.val]
abbrev κ_size : List Kd := [.val]
abbrev fr_size : Bool := false
abbrev s_is_bar : Stmt := top 4
abbrev ps_is_bar : List Str := ["sheet", "value"]
abbrev N_is_bar : List Str := ["sheet", "value"]
theorem sc_is_bar : FnScope N_is_bar ps_is_bar (defScope s_is_bar) := ⟨rfl, rfl, rfl, by decide +kernel, rfl, by decide +kernel, by decide +kernel⟩
abbrev pk_is_bar : List Kd := [.val, .val]
abbrev κ_is_bar : List Kd := [.val, .val]
abbrev fr_is_bar : Bool := false
abbrev s_tear_error : Stmt := top 8
abbrev ps_tear_error : List Str := ["sheet", "value"]
abbrev N_tear_error : List Str := ["sheet", "value", "number", "bar"]
theorem sc_tear_error : FnScope N_tear_error ps_tear_error (defScope s_tear_error) := ⟨rfl, rfl, rfl, by decide +kernel, rfl, by decide +kernel, by decide +kernel⟩
abbrev pk_tear_error : List Kd := [.val, .val]
abbrev κ_tear_error : List Kd := [.val, .val, .val, .val]
abbrev fr_tear_error : Bool := false
abbrev s_law_flat : Stmt := top 23
abbrev ps_law_flat : List Str := ["_law_rows"]
abbrev N_law_flat : List Str := ["_law_rows", "_law_found", "_law_row"]
theorem sc_law_flat : FnScope N_law_flat ps_law_flat (defScope s_law_flat) := ⟨rfl, rfl, rfl, by decide +kernel, rfl, by decide +kernel, by decide +kernel⟩
abbrev pk_law_flat : List Kd := [.val]
abbrev κ_law_flat : List Kd := [.val, .own, .val]
abbrev fr_law_flat : Bool := false
abbrev s_law : Stmt := top 24
abbrev ps_law : List Str := ["_law_script"]
abbrev N_law : List Str := ["_law_script", "_law_deck_here", "_law_turn", "_law_sheet_here", "_law_tear_here", "_law_every", "_law_spots", "_law_many", "_law_knot", "_law_some", "_law_single", "_law_hole", "_law_own", "_law_bar", "_law_here", "_law_other"]
theorem sc_law : FnScope N_law ps_law (defScope s_law) := ⟨rfl, rfl, rfl, by decide +kernel, rfl, by decide +kernel, by decide +kernel⟩
abbrev κ_law : List Kd := [.val, .own, .val, .val, .val, .val, .own, .val, .val, .val, .val, .val, .val, .val, .val, .val]
abbrev fr_law : Bool := false
abbrev s_law_deck : Stmt := top 16
abbrev ps_law_deck : List Str := ["_law_script"]
abbrev N_law_deck : List Str := ["_law_script"]
theorem sc_law_deck : FnScope N_law_deck ps_law_deck (defScope s_law_deck) := ⟨rfl, rfl, rfl, by decide +kernel, rfl, by decide +kernel, by decide +kernel⟩
def d_law_draw : He.DefD := ⟨("_law_draw", none), "_law_draw", "_law_draw", defArgs s_law_draw, defBody s_law_draw, defScope s_law_draw, [], []⟩
def d_law_one : He.DefD := ⟨("_law_one", none), "_law_one", "_law_one", defArgs s_law_one, defBody s_law_one, defScope s_law_one, [], []⟩
def d_law_sheet : He.DefD := ⟨("_law_sheet", none), "_law_sheet", "_law_sheet", defArgs s_law_sheet, defBody s_law_sheet, defScope s_law_sheet, [], []⟩
def d_knots : He.DefD := ⟨("knots", none), "knots", "knots", defArgs s_knots, defBody s_knots, defScope s_knots, [], []⟩
def d_bars_of : He.DefD := ⟨("bars_of", none), "bars_of", "bars_of", defArgs s_bars_of, defBody s_bars_of, defScope s_bars_of, [], []⟩
def d_lacking : He.DefD := ⟨("lacking", none), "lacking", "lacking", defArgs s_lacking, defBody s_lacking, defScope s_lacking, [], []⟩
def d_lacks : He.DefD := ⟨("lacks", none), "lacks", "lacks", defArgs s_lacks, defBody s_lacks, defScope s_lacks, [], []⟩
def d_lost : He.DefD := ⟨("lost", none), "lost", "lost", defArgs s_lost, defBody s_lost, defScope s_lost, [], []⟩
def d_law_ends : He.DefD := ⟨("_law_ends", none), "_law_ends", "_law_ends", defArgs s_law_ends, defBody s_law_ends, defScope s_law_ends, [], []⟩
def d_law_is_near : He.DefD := ⟨("_law_is_near", none), "_law_is_near", "_law_is_near", defArgs s_law_is_near, defBody s_law_is_near, defScope s_law_is_near, [], []⟩
def d_law_tear : He.DefD := ⟨("_law_tear", none), "_law_tear", "_law_tear", defArgs s_law_tear, defBody s_law_tear, defScope s_law_tear, [], []⟩
def d_ends_of : He.DefD := ⟨("ends_of", none), "ends_of", "ends_of", defArgs s_ends_of, defBody s_ends_of, defScope s_ends_of, [], []⟩
def d_hole_of : He.DefD := ⟨("hole_of", none), "hole_of", "hole_of", defArgs s_hole_of, defBody s_hole_of, defScope s_hole_of, [], []⟩
def d_holes : He.DefD := ⟨("holes", none), "holes", "holes", defArgs s_holes, defBody s_holes, defScope s_holes, [], []⟩
def d_odd : He.DefD := ⟨("odd", none), "odd", "odd", defArgs s_odd, defBody s_odd, defScope s_odd, [], []⟩
def d_is_integer : He.DefD := ⟨("is_integer", none), "is_integer", "is_integer", defArgs s_is_integer, defBody s_is_integer, defScope s_is_integer, [], []⟩
def d_size : He.DefD := ⟨("size", none), "size", "size", defArgs s_size, defBody s_size, defScope s_size, [], []⟩
def d_is_bar : He.DefD := ⟨("is_bar", none), "is_bar", "is_bar", defArgs s_is_bar, defBody s_is_bar, defScope s_is_bar, [], []⟩
def d_tear_error : He.DefD := ⟨("tear_error", none), "tear_error", "tear_error", defArgs s_tear_error, defBody s_tear_error, defScope s_tear_error, [], []⟩
def d_law_flat : He.DefD := ⟨("_law_flat", none), "_law_flat", "_law_flat", defArgs s_law_flat, defBody s_law_flat, defScope s_law_flat, [], []⟩
def d_law : He.DefD := ⟨("law", none), "law", "law", defArgs s_law, defBody s_law, defScope s_law, [], []⟩
def d_law_deck : He.DefD := ⟨("_law_deck", none), "_law_deck", "_law_deck", defArgs s_law_deck, defBody s_law_deck, defScope s_law_deck, [], []⟩
def fn : List He.DefD := [d_law_draw, d_law_one, d_law_sheet, d_knots, d_bars_of, d_lacking, d_lacks, d_lost, d_law_ends, d_law_is_near, d_law_tear, d_ends_of, d_hole_of, d_holes, d_odd, d_is_integer, d_size, d_is_bar, d_tear_error, d_law_flat, d_law, d_law_deck]
def fa : List He.Fa := [.glo "_law_draw", .glo "_law_one", .glo "_law_sheet", .glo "knots", .glo "bars_of", .glo "lacking", .glo "lacks", .glo "lost", .glo "_law_ends", .glo "_law_is_near", .glo "_law_tear", .glo "ends_of", .glo "hole_of", .glo "holes", .glo "odd", .glo "is_integer", .glo "size", .glo "is_bar", .glo "tear_error", .glo "_law_flat", .glo "law", .glo "_law_deck", .free "abs", .free "any", .free "bool", .free "enumerate", .free "int", .free "isinstance", .free "len", .free "list", .free "min", .free "range", .free "set", .free "sorted", .free "sum", .free "tuple"]
abbrev R : PySem.W.OpenRow := PySem.W.OpenLaw.row PySem.Challenge.rw_meshmend_k09_whole_tears
abbrev hk : PySem.W.Hook := He.hookD 4 fa fn
def ob (s : PySem.W.SharedT) : He.AlD := He.obsDG 4 fa fn (HandSHeadRun.getT s)
theorem ob_eq (s : PySem.W.SharedT) : ob s = hk.obs s.abs := He.obsDG_eq (HandSHeadRun.getT_eq s)
def lo0 : List Str := ["is_integer", "size", "knots", "is_bar", "ends_of", "bars_of", "tear_error", "lacking", "lacks", "odd", "lost", "hole_of", "holes", "_law_deck", "_law_draw", "_law_one", "_law_sheet", "_law_is_near", "_law_ends", "_law_tear", "_law_flat"]
def lo : List Str := lo0
theorem run (w : World) : HandSHeadRun.RunEq R (PySem.W.view R.prog [24]) hk ob 1600 lo w := by
  intro os
  kernel_rfl
end L09
namespace FL
open PySem PySem.Spec L2 DL
inductive R (α : Type) where
  | ok (a : α) (ε : En)
  | ex (x : Exn) (ε : En)
inductive Fl where
  | nx
  | rt (d : DL.D)
  | bk
  | ct
inductive RD where
  | ok (d : DL.D) (outs : List DL.D)
  | ex (x : Exn) (outs : List DL.D)
abbrev FP := En → Option DL.D
abbrev FT := En → Option Bool
abbrev M (α : Type) := En → Option (R α)
abbrev FS := M Fl
def RX.no : DL.RX := fun _ _ => False
def bd {α β : Type} (m : Option (R α)) (k : α → En → Option (R β)) : Option (R β) := match m with
  | some (.ok a ε) => k a ε
  | some (.ex x ε) => some (.ex x ε)
  | none => none
def K {α : Type} (Rx : RX) (Q : α → En → Prop) : Option (R α) → Prop
  | some (.ok a ε) => Q a ε
  | some (.ex x ε) => Rx x ε
  | none => False
section
variable {α β γ : Type} {Rx : RX}
theorem bd_ok {a : α} {ε : En} {k : α → En → Option (R β)} : bd (some (.ok a ε)) k = k a ε := rfl
theorem bd_ex {x : Exn} {ε : En} {k : α → En → Option (R β)} : bd (some (.ex x ε)) k = some (.ex x ε) := rfl
theorem K_bd {Q : β → En → Prop} {m : Option (R α)} {k : α → En → Option (R β)} : K Rx Q (bd m k) → K Rx (fun a ε => K Rx Q (k a ε)) m := fun h => by
  cases m with
  | none => exact h
  | some r => cases r <;> exact h
theorem K_mono {Q Q' : α → En → Prop} {m : Option (R α)} (h : ∀ a ε, Q a ε → Q' a ε) (q : K Rx Q m) : K Rx Q' m := by
  cases m with
  | none => exact q
  | some r =>
    cases r with
    | ok a ε => exact h _ _ q
    | ex x ε => exact q
theorem K_obind {Q : β → En → Prop} {o : Option γ} {f : γ → Option (R β)} (q : K Rx Q (o.bind f)) : ∃ c, o = some c ∧ K Rx Q (f c) := by
  cases o with
  | none => exact q.elim
  | some c => exact ⟨c, rfl, q⟩
theorem K_omap {Q : β → En → Prop} {o : Option γ} {f : γ → R β} (q : K Rx Q (o.map f)) : ∃ c, o = some c ∧ K Rx Q (some (f c)) := by
  cases o with
  | none => exact q.elim
  | some c => exact ⟨c, rfl, q⟩
/-- a piece that changes nothing -/
def lf (p : En → Option α) : M α := fun ε => (p ε).map fun a => .ok a ε
end
def IE (Rx : RX) (w : WE) (m : M DL.D) : Prop := ∀ ε Q, K Rx Q (m ε) → w ε Q
def IP (w : WE) (p : FP) : Prop := ∀ ε d Q, p ε = some d → Q d ε → w ε Q
def IT (Rx : RX) (w : WT) (m : M Bool) : Prop := ∀ ε Q, K Rx Q (m ε) → w ε Q
def ITP (w : WT) (p : FT) : Prop := ∀ ε b Q, p ε = some b → Q b ε → w ε Q
def KS (Rx : RX) (E : WEnds) (m : Option (R Fl)) : Prop := K Rx (fun fl ε => match fl with
  | .nx => E.nx ε
  | .rt d => E.rt d ε
  | .bk => E.bk ε
  | .ct => E.ct ε) m
def IS (Rx : RX) (w : WS) (m : FS) : Prop := ∀ E ε, KS Rx E (m ε) → w E ε
section
variable {Rx : RX} {w u : WE} {p q : FP}
theorem IP.e (h : IP w p) : IE Rx w (lf p) := fun ε Q k => by
  obtain ⟨d, e, k⟩ := K_omap k
  exact h ε d Q e k
theorem ITP.t {w : WT} {p : FT} (h : ITP w p) : IT Rx w (lf p) := fun ε Q k => by
  obtain ⟨d, e, k⟩ := K_omap k
  exact h ε d Q e k
def pC (d : DL.D) : FP := fun _ => some d
def pNm (i : Nat) : FP := fun ε => (ε[i]?).join
theorem join_some {α : Type} {o : Option (Option α)} {d : α} (h : o.join = some d) : o = some (some d) := by
  cases o with
  | none => cases h
  | some x => exact congrArg some h
theorem ip_C {d : DL.D} : IP (eC d) (pC d) := fun ε x Q e q => by cases e; exact q
theorem ip_nm {i : Nat} : IP (eNm i) (pNm i) := fun ε x Q e q => ⟨x, join_some e, q⟩
def IPO (o : Op) (p : FP) : Prop := ∀ (ε : En) (d : DL.D) (Q : (En → Option DL.D) → En → Prop), p ε = some d → (∀ x, x ε = some d → Q x ε) → oEv o ε Q
theorem IP.o (h : IP w p) : IPO (.ex w) p := fun ε d Q e q => h ε d _ e (q _ rfl)
theorem ipo_nm {i : Nat} : IPO (.nm i) (pNm i) := fun ε d Q e q => ⟨⟨d, join_some e⟩, q _ e⟩
def pBin (f : DL.D → DL.D → Option DL.D) (a b : FP) : FP := fun ε => (a ε).bind fun x => (b ε).bind fun y => f x y
theorem ip_bin {f : DL.D → DL.D → Option DL.D} {oa ob : Op} {a b : FP} (ha : IPO oa a) (hb : IPO ob b) : IP (eBin f oa ob) (pBin f a b) := fun ε d Q e q => by
  obtain ⟨x, e1, e⟩ := Option.bind_eq_some_iff.mp e
  obtain ⟨y, e2, e⟩ := Option.bind_eq_some_iff.mp e
  exact ha ε x _ e1 fun fx ex => hb ε y _ e2 fun fy ey => ⟨x, y, d, ex, ey, e, q⟩
def pUn (f : DL.D → Option DL.D) (a : FP) : FP := fun ε => (a ε).bind f
theorem ip_un {f : DL.D → Option DL.D} {oa : Op} {a : FP} (ha : IPO oa a) : IP (eUn f oa) (pUn f a) := fun ε d Q e q => by
  obtain ⟨x, e1, e⟩ := Option.bind_eq_some_iff.mp e
  exact ha ε x _ e1 fun fx ex => ⟨x, d, ex, e, q⟩
def bO {β : Type} (d : DL.D) (k : Bool → Option β) : Option β := match d with
  | .bool b => k b
  | _ => none
theorem bO_b {β : Type} {b : Bool} {k : Bool → Option β} : bO (.bool b) k = k b := rfl
theorem bO_some {β : Type} {d : DL.D} {k : Bool → Option β} {r : β} (h : bO d k = some r) : ∃ b, d = .bool b ∧ k b = some r := by
  cases d <;> first | exact ⟨_, rfl, h⟩ | cases h
def pChain (f g : DL.D → DL.D → Option DL.D) (a b c : FP) : FP := fun ε => (a ε).bind fun x => (b ε).bind fun y => (f x y).bind fun k => bO k fun k => if k = true then (c ε).bind fun z => g y z else some (.bool false)
theorem ip_chain {f g : DL.D → DL.D → Option DL.D} {oa ob oc : Op} {a b c : FP} (ha : IPO oa a) (hb : IPO ob b) (hc : IPO oc c) : IP (eChain f g oa ob oc) (pChain f g a b c) := fun ε d Q e q => by
  obtain ⟨x, e1, e⟩ := Option.bind_eq_some_iff.mp e
  obtain ⟨y, e2, e⟩ := Option.bind_eq_some_iff.mp e
  obtain ⟨k, e3, e⟩ := Option.bind_eq_some_iff.mp e
  obtain ⟨k, rfl, e⟩ := bO_some e
  refine ha ε x _ e1 fun fx ex => hb ε y _ e2 fun fy ey => ⟨x, y, k, ex, ey, e3, ?_⟩
  cases k with
  | false => cases e; exact q
  | true =>
    obtain ⟨z, e4, e⟩ := Option.bind_eq_some_iff.mp e
    rw [if_pos rfl]
    exact hc ε z _ e4 fun fz ez => ⟨y, z, d, ey, ez, e, q⟩
def pAnd (a b : FP) : FP := fun ε => (a ε).bind fun x => bO x fun k => if k = true then b ε else some (.bool false)
def pOr (a b : FP) : FP := fun ε => (a ε).bind fun x => bO x fun k => if k = true then some (.bool true) else b ε
def pNot (a : FP) : FP := fun ε => (a ε).bind fun x => bO x fun k => some (.bool !k)
theorem ip_and {a b : FP} (ha : IP w a) (hb : IP u b) : IP (eAnd w u) (pAnd a b) := fun ε d Q e q => by
  obtain ⟨x, e1, e⟩ := Option.bind_eq_some_iff.mp e
  obtain ⟨k, rfl, e⟩ := bO_some e
  refine ha ε _ _ e1 ⟨k, rfl, ?_⟩
  cases k with
  | false => cases e; exact q
  | true => exact hb ε _ _ e q
theorem ip_or {a b : FP} (ha : IP w a) (hb : IP u b) : IP (eOr w u) (pOr a b) := fun ε d Q e q => by
  obtain ⟨x, e1, e⟩ := Option.bind_eq_some_iff.mp e
  obtain ⟨k, rfl, e⟩ := bO_some e
  refine ha ε _ _ e1 ⟨k, rfl, ?_⟩
  cases k with
  | true => cases e; exact q
  | false => exact hb ε _ _ e q
theorem ip_not {a : FP} (ha : IP w a) : IP (eNot w) (pNot a) := fun ε d Q e q => by
  obtain ⟨x, e1, e⟩ := Option.bind_eq_some_iff.mp e
  obtain ⟨k, rfl, e⟩ := bO_some e
  cases e
  exact ha ε _ _ e1 ⟨k, rfl, q⟩
def pIf {α : Type} (t : FT) (a b : En → Option α) : En → Option α := fun ε => (t ε).bind fun k => if k = true then a ε else b ε
def tP (a : FP) : FT := fun ε => (a ε).bind fun x => bO x some
def tAnd (a b : FT) : FT := fun ε => (a ε).bind fun k => if k = true then b ε else some false
def tOr (a b : FT) : FT := fun ε => (a ε).bind fun k => if k = true then some true else b ε
def tNot (a : FT) : FT := fun ε => (a ε).map fun k => !k
def tYes : FT := fun _ => some true
theorem it_P {a : FP} (ha : IP w a) : ITP (tE w) (tP a) := fun ε b Q e q => by
  obtain ⟨x, e1, e⟩ := Option.bind_eq_some_iff.mp e
  obtain ⟨k, rfl, e⟩ := bO_some e
  cases e
  exact ha ε _ _ e1 ⟨_, rfl, q⟩
theorem it_and {w u : WT} {a b : FT} (ha : ITP w a) (hb : ITP u b) : ITP (tAndW w u) (tAnd a b) := fun ε d Q e q => by
  obtain ⟨k, e1, e⟩ := Option.bind_eq_some_iff.mp e
  refine ha ε _ _ e1 ?_
  cases k with
  | true => exact hb ε _ _ e q
  | false => cases e; exact q
theorem it_or {w u : WT} {a b : FT} (ha : ITP w a) (hb : ITP u b) : ITP (tOrW w u) (tOr a b) := fun ε d Q e q => by
  obtain ⟨k, e1, e⟩ := Option.bind_eq_some_iff.mp e
  refine ha ε _ _ e1 ?_
  cases k with
  | false => exact hb ε _ _ e q
  | true => cases e; exact q
theorem it_not {w : WT} {a : FT} (ha : ITP w a) : ITP (tNotW w) (tNot a) := fun ε d Q e q => by
  obtain ⟨k, e1, e⟩ := Option.map_eq_some_iff.mp e
  subst e
  exact ha ε _ _ e1 q
theorem it_yes : ITP tYesW tYes := fun ε d Q e q => by cases e; exact q
def pArgs : List FP → En → Option (List DL.D)
  | [], _ => some []
  | p :: ps, ε => (p ε).bind fun d => (pArgs ps ε).bind fun ds => some (d :: ds)
theorem pArgs_nil {ε : En} : pArgs [] ε = some [] := rfl
theorem pArgs_cons {p : FP} {ps : List FP} {ε : En} : pArgs (p :: ps) ε = (p ε).bind fun d => (pArgs ps ε).bind fun ds => some (d :: ds) := rfl
def IPA : List Op → List FP → Prop
  | [], [] => True
  | o :: os, p :: ps => IPO o p ∧ IPA os ps
  | _, _ => False
theorem ipa_n : IPA [] [] := trivial
theorem ipa_c {o : Op} {os : List Op} {p : FP} {ps : List FP} (h : IPO o p) (k : IPA os ps) : IPA (o :: os) (p :: ps) := ⟨h, k⟩
theorem ipa_ev : ∀ {os : List Op} {ps : List FP} {ε : En} {ds : List DL.D} {Q : List (En → Option DL.D) → En → Prop}, IPA os ps → pArgs ps ε = some ds → (∀ xs, vals ε xs ds → Q xs ε) → aEv os ε Q
  | [], [], _, ds, _, _, e, q => by cases e; exact q [] rfl
  | o :: os, p :: ps, ε, ds, Q, h, e, q => by
    obtain ⟨d, e1, e⟩ := Option.bind_eq_some_iff.mp e
    obtain ⟨r, e2, e⟩ := Option.bind_eq_some_iff.mp e
    cases e
    exact h.1 ε d _ e1 fun x ex => ipa_ev h.2 e2 fun xs v => q _ ⟨d, r, rfl, ex, v⟩
  | [], _ :: _, _, _, _, h, _, _ => h.elim
  | _ :: _, [], _, _, _, h, _, _ => h.elim
def IPC : List WE → List FP → Prop
  | [], [] => True
  | o :: os, p :: ps => IP o p ∧ IPC os ps
  | _, _ => False
theorem ipc_n : IPC [] [] := trivial
theorem ipc_c {o : WE} {os : List WE} {p : FP} {ps : List FP} (h : IP o p) (k : IPC os ps) : IPC (o :: os) (p :: ps) := ⟨h, k⟩
theorem ipc_ev : ∀ {os : List WE} {ps : List FP} {ε : En} {ds : List DL.D} {Q : List DL.D → En → Prop}, IPC os ps → pArgs ps ε = some ds → Q ds ε → cEv os ε Q
  | [], [], _, ds, _, _, e, q => by cases e; exact q
  | o :: os, p :: ps, ε, ds, Q, h, e, q => by
    obtain ⟨d, e1, e⟩ := Option.bind_eq_some_iff.mp e
    obtain ⟨r, e2, e⟩ := Option.bind_eq_some_iff.mp e
    cases e
    exact h.1 ε d _ e1 (ipc_ev h.2 e2 q)
  | [], _ :: _, _, _, _, h, _, _ => h.elim
  | _ :: _, [], _, _, _, h, _, _ => h.elim
theorem pArgs_len : ∀ {ps : List FP} {ε : En} {ds : List DL.D}, pArgs ps ε = some ds → ds.length = ps.length
  | [], _, _, e => by cases e; rfl
  | p :: ps, ε, ds, e => by
    obtain ⟨d, e1, e⟩ := Option.bind_eq_some_iff.mp e
    obtain ⟨r, e2, e⟩ := Option.bind_eq_some_iff.mp e
    cases e
    rw [List.length_cons, List.length_cons, pArgs_len e2]
def pApp (f : List DL.D → Option DL.D) (ps : List FP) : FP := fun ε => (pArgs ps ε).bind f
theorem ip_app {f : List DL.D → Option DL.D} {os : List Op} {ps : List FP} (h : IPA os ps) : IP (eApp f os) (pApp f ps) := fun ε d Q e q => by
  obtain ⟨ds, e1, e⟩ := Option.bind_eq_some_iff.mp e
  exact ipa_ev h e1 fun xs v => ⟨ds, d, v, e, q⟩
def pTup (ps : List FP) : FP := fun ε => (pArgs ps ε).map .tuple
def pLst (ps : List FP) : FP := fun ε => (pArgs ps ε).map .list
theorem ip_tup {ws : List WE} {ps : List FP} (h : IPC ws ps) (l : ps.length ≤ 1000 := by decide) : IP (eTup ws) (pTup ps) := fun ε d Q e q => by
  obtain ⟨ds, e1, e⟩ := Option.map_eq_some_iff.mp e
  subst e
  exact ipc_ev h e1 ⟨le_size (by rw [pArgs_len e1]; exact l), q⟩
theorem ip_lst {ws : List WE} {ps : List FP} (h : IPC ws ps) (l : ps.length ≤ 1000 := by decide) : IP (eLst ws) (pLst ps) := fun ε d Q e q => by
  obtain ⟨ds, e1, e⟩ := Option.map_eq_some_iff.mp e
  subst e
  exact ipc_ev h e1 ⟨le_size (by rw [pArgs_len e1]; exact l), q⟩
/-- a function of the text that only tells a value -/
abbrev FD := List DL.D → Option DL.D
abbrev FM := List DL.D → Option RD
def spP (F : FD) : DSp := fun ds Q => ∃ d, F ds = some d ∧ Q d []
theorem spP_mono {F : FD} : MonoD (spP F) := fun ds Q Q' h ⟨d, e, q⟩ => ⟨d, e, h _ _ q⟩
theorem putO_none : ∀ {pk : List Kd} {os : List Op} {ε : En}, putO pk os [] ε = ε
  | [], _, _ => rfl
  | .val :: ks, [], _ => rfl
  | .brw :: ks, [], _ => rfl
  | .own :: ks, [], _ => rfl
  | .io :: ks, [], _ => rfl
  | .st :: ks, [], _ => rfl
  | .sl :: ks, [], _ => rfl
  | .sl :: ks, o :: os, ε => putO_none (pk := ks) (os := os)
  | .st :: ks, .ex _ :: os, ε => putO_none (pk := ks) (os := os)
  | .st :: ks, .nm _ :: os, ε => putO_none (pk := ks) (os := os)
  | .val :: ks, o :: os, ε => putO_none (pk := ks) (os := os)
  | .brw :: ks, o :: os, ε => putO_none (pk := ks) (os := os)
  | .own :: ks, o :: os, ε => putO_none (pk := ks) (os := os)
  | .io :: ks, .ex _ :: os, ε => putO_none (pk := ks) (os := os)
  | .io :: ks, .nm _ :: os, ε => putO_none (pk := ks) (os := os)
def pCall (F : FD) (ps : List FP) : FP := fun ε => (pArgs ps ε).bind F
theorem ip_call {F : FD} {pk : List Kd} {os : List Op} {ps : List FP} (h : IPA os ps) : IP (eCall pk (spP F) os) (pCall F ps) := fun ε d Q e q => by
  obtain ⟨ds, e1, e⟩ := Option.bind_eq_some_iff.mp e
  exact ipa_ev h e1 fun xs v => ⟨ds, v, d, e, by show Q d (putO pk os [] ε); rw [putO_none]; exact q⟩
def iO : DL.D → Option Int
  | .int i => some i
  | _ => none
theorem iO_i {i : Int} : iO (.int i) = some i := rfl
def ptF : Option FP → En → Option (Option Int)
  | none, _ => some none
  | some p, ε => (p ε).bind fun d => (iO d).bind fun i => some (some i)
theorem ptF_no {ε : En} : ptF none ε = some none := rfl
theorem ptF_ex {p : FP} {ε : En} : ptF (some p) ε = (p ε).bind fun d => (iO d).bind fun i => some (some i) := rfl
def sO {β : Type} (d : DL.D) (k : Str → Option β) : Option β := match d with
  | .str b => k b
  | _ => none
theorem sO_s {β : Type} {b : Str} {k : Str → Option β} : sO (.str b) k = k b := rfl
abbrev FI := En → Option (List DL.D)
/-- sl: slots that stay while it is walked -/
def II (sl : List Nat) (wi : WI) (f : FI) : Prop := ∀ (ε : En) (ds : List DL.D) (Q : List DL.D → (En → Prop) → En → Prop), f ε = some ds → (∀ inv : En → Prop, (∀ ε', (∀ i ∈ sl, ε'[i]? = ε[i]?) → inv ε') → Q ds inv ε) → wi ε Q
def iSeq (p : FP) : FI := fun ε => (p ε).bind seqD
theorem ii_seq {sl : List Nat} (h : IP w p) : II sl (wSeq w) (iSeq p) := fun ε ds Q e q => by
  obtain ⟨d, e1, e⟩ := Option.bind_eq_some_iff.mp e
  exact h ε d _ e1 ⟨ds, e, q _ fun _ _ => trivial⟩
theorem ii_nm {sl : List Nat} {i : Nat} (hi : i ∈ sl := by decide) : II sl (wNm i) (iSeq (pNm i)) := fun ε ds Q e q => by
  obtain ⟨d, e1, e⟩ := Option.bind_eq_some_iff.mp e
  exact ⟨d, ds, join_some e1, e, q _ fun ε' h => (h i hi).trans (join_some e1)⟩
def iApp (f : List DL.D → Option (List DL.D)) (ps : List FP) : FI := fun ε => (pArgs ps ε).bind f
theorem ii_app {sl : List Nat} {f : List DL.D → Option (List DL.D)} {os : List Op} {ps : List FP} (h : IPA os ps) : II sl (wApp f os) (iApp f ps) := fun ε ds Q e q => by
  obtain ⟨xs, e1, e⟩ := Option.bind_eq_some_iff.mp e
  exact ipa_ev h e1 fun fs v => ⟨xs, ds, v, e, q _ fun _ _ => trivial⟩
/-- an operand of zip -/
def IPZ (sl : List Nat) (o : Op) (p : FP) : Prop := ∀ (ε : En) (d : DL.D) (Q : (En → Option DL.D) → En → Prop), p ε = some d → (∀ x, x ε = some d → (∀ ε', (∀ i ∈ sl, ε'[i]? = ε[i]?) → x ε' = some d) → Q x ε) → oEv o ε Q
theorem IP.z {sl : List Nat} (h : IP w p) : IPZ sl (.ex w) p := fun ε d Q e q => h ε d _ e (q _ rfl fun _ _ => rfl)
end
section
def lcF {α β : Type} (q : α → Option Bool) (e : α → Option β) : List α → Option (List β)
  | [] => some []
  | a :: r => (q a).bind fun b => if b = true then (e a).bind fun y => (lcF q e r).bind fun ys => some (y :: ys) else lcF q e r
def pLc (it : FI) (t : Tg) (q : FT) (e : FP) (vs : List Nat) : FP := fun ε => (it ε).bind fun ds => if ds.length ≤ sizeLine then (lcF (fun d => (bindD t d (wipeE ε vs)).bind q) (fun d => (bindD t d (wipeE ε vs)).bind e) ds).bind fun ys => some (.list ys) else none
mutual
theorem bind_out : ∀ {t : Tg} {d : DL.D} {ε ε' : En} {vs : List Nat}, (∀ j ∈ slots t, j ∈ vs) → bindD t d ε = some ε' → ε'.length = ε.length ∧ ∀ j, j ∉ vs → ε'[j]? = ε[j]?
  | .nm i, d, ε, ε', vs, hs, e => by
    cases e
    refine ⟨List.length_set .., fun j hj => get_set_ne fun z => hj (z ▸ hs i List.mem_cons_self)⟩
  | .tup ts, d, ε, ε', vs, hs, e => by
    cases d with
    | tuple ds => exact bindL_out (ts := ts) (ds := ds) hs e
    | none => cases e
    | bool _ => cases e
    | int _ => cases e
    | str _ => cases e
    | list _ => cases e
    | dict _ => cases e
theorem bindL_out : ∀ {ts : List Tg} {ds : List DL.D} {ε ε' : En} {vs : List Nat}, (∀ j ∈ slotsL ts, j ∈ vs) → bindL ts ds ε = some ε' → ε'.length = ε.length ∧ ∀ j, j ∉ vs → ε'[j]? = ε[j]?
  | [], ds, ε, ε', vs, _, e => by
    cases ds with
    | nil => cases e; exact ⟨rfl, fun _ _ => rfl⟩
    | cons _ _ => cases e
  | t :: ts, ds, ε, ε', vs, hs, e => by
    cases ds with
    | nil => cases e
    | cons d r =>
      obtain ⟨ε1, e1, e⟩ := Option.bind_eq_some_iff.mp (show (bindD t d ε).bind (fun ε' => bindL ts r ε') = some ε' from e)
      obtain ⟨l1, k1⟩ := bind_out (fun j hj => hs j (List.mem_append_left _ hj)) e1
      obtain ⟨l2, k2⟩ := bindL_out (fun j hj => hs j (List.mem_append_right _ hj)) e
      exact ⟨l2.trans l1, fun j hj => (k2 j hj).trans (k1 j hj)⟩
end
theorem wipe_len (ε : En) : ∀ vs : List Nat, (wipeE ε vs).length = ε.length
  | [] => rfl
  | v :: vs => by rw [wipeE, List.length_set, wipe_len ε vs]
theorem wipe_at (ε : En) : ∀ (vs : List Nat) (j : Nat), j ∈ vs → j < ε.length → (wipeE ε vs)[j]? = some none
  | v :: vs, j, hj, hl => by
    rw [wipeE]
    by_cases e : v = j
    · subst e
      rw [List.getElem?_set_self (by rw [wipe_len]; exact hl)]
    · rw [get_set_ne e]
      exact wipe_at ε vs j ((List.mem_cons.mp hj).elim (fun z => (e z.symm).elim) id) hl
theorem wipe_ext {ε ε' : En} {vs : List Nat} (l : ε'.length = ε.length) (k : ∀ j, j ∉ vs → ε'[j]? = ε[j]?) : wipeE ε' vs = wipeE ε vs := by
  refine List.ext_getElem? fun j => ?_
  by_cases h : j ∈ vs
  · by_cases hl : j < ε.length
    · rw [wipe_at ε vs j h hl, wipe_at ε' vs j h (by rw [l]; exact hl)]
    · rw [List.getElem?_eq_none (by rw [wipe_len, l]; omega), List.getElem?_eq_none (by rw [wipe_len]; omega)]
  · rw [wipeE_eq _ vs j h, wipeE_eq _ vs j h, k j h]
theorem rest_len (ε ε1 : En) : ∀ vs : List Nat, (restE ε ε1 vs).length = ε.length
  | [] => rfl
  | v :: vs => by rw [restE, List.length_set, rest_len ε ε1 vs]
theorem rest_get (ε ε1 : En) : ∀ (vs : List Nat) (j : Nat), (restE ε ε1 vs)[j]? = if j ∈ vs ∧ j < ε.length then some (ε1[j]?).join else ε[j]?
  | [], j => by simp [restE]
  | v :: vs, j => by
    rw [restE]
    by_cases e : v = j
    · subst e
      by_cases hl : v < ε.length
      · rw [List.getElem?_set_self (by rw [rest_len]; exact hl), if_pos ⟨List.mem_cons_self, hl⟩]
      · rw [List.getElem?_eq_none (by rw [List.length_set, rest_len]; omega), if_neg fun z => hl z.2, List.getElem?_eq_none (by omega)]
    · rw [get_set_ne e, rest_get ε ε1 vs j]
      have : (j ∈ v :: vs ∧ j < ε.length) ↔ (j ∈ vs ∧ j < ε.length) := by
        rw [List.mem_cons]
        exact ⟨fun z => ⟨z.1.elim (fun y => (e y.symm).elim) id, z.2⟩, fun z => ⟨.inr z.1, z.2⟩⟩
      by_cases h : j ∈ vs ∧ j < ε.length
      · rw [if_pos h, if_pos (this.mpr h)]
      · rw [if_neg h, if_neg fun z => h (this.mp z)]
theorem rest_wipe (ε : En) (vs : List Nat) : restE (wipeE ε vs) ε vs = ε := by
  refine List.ext_getElem? fun j => ?_
  rw [rest_get, wipe_len]
  by_cases h : j ∈ vs ∧ j < ε.length
  · rw [if_pos h, List.getElem?_eq_getElem h.2]
    rfl
  · rw [if_neg h]
    by_cases hv : j ∈ vs
    · rw [List.getElem?_eq_none (by rw [wipe_len]; exact Nat.le_of_not_lt fun z => h ⟨hv, z⟩), List.getElem?_eq_none (Nat.le_of_not_lt fun z => h ⟨hv, z⟩)]
    · rw [wipeE_eq _ vs j hv]
theorem ip_lc {sl vs : List Nat} {wi : WI} {it : FI} {t : Tg} {wt : WT} {q : FT} {we : WE} {e : FP} (hi : II sl wi it) (hq : ITP wt q) (he : IP we e) (hs : subsetB (slots t) vs = true := by rfl) (hsl : apartB sl vs = true := by rfl) : IP (eLc wi t wt we vs) (pLc it t q e vs) := fun ε d Q ee qq => by
  obtain ⟨ds, e1, ee⟩ := Option.bind_eq_some_iff.mp ee
  refine hi ε ds _ e1 fun inv hinv => ?_
  have hw : inv (wipeE ε vs) := hinv _ fun i hi => wipeE_eq ε vs i (apartB_ok hsl i hi)
  have l : ds.length ≤ sizeLine := Classical.byContradiction fun l => by rw [if_neg l] at ee; cases ee
  rw [if_pos l] at ee
  obtain ⟨ys, e2, ee⟩ := Option.bind_eq_some_iff.mp ee
  cases ee
  have key : ∀ (ds : List DL.D) (acc ys : List DL.D) (P : List DL.D → En → Prop), acc.length + ds.length ≤ sizeLine → lcF (fun d => (bindD t d (wipeE ε vs)).bind q) (fun d => (bindD t d (wipeE ε vs)).bind e) ds = some ys → P (acc ++ ys) (wipeE ε vs) → lcGo t wt we vs inv ds acc (wipeE ε vs) P := by
    intro ds
    induction ds with
    | nil =>
      intro acc ys P _ h p
      cases h
      rw [List.append_nil] at p
      exact ⟨hw, p⟩
    | cons d r ih =>
      intro acc ys P hl h p
      rw [List.length_cons] at hl
      obtain ⟨b, h1, h⟩ := Option.bind_eq_some_iff.mp h
      obtain ⟨ε1, h2, h3⟩ := Option.bind_eq_some_iff.mp h1
      have bo := bind_out (subsetB_ok hs) h2
      have w1 : wipeE ε1 vs = wipeE ε vs := (wipe_ext bo.1 bo.2).trans (wipe_ext (wipe_len ε vs) fun j hj => wipeE_eq ε vs j hj)
      refine ⟨hw, ε1, h2, hq ε1 b _ h3 ?_⟩
      cases b with
      | true =>
        obtain ⟨y, h4, h⟩ := Option.bind_eq_some_iff.mp h
        obtain ⟨zs, h5, h⟩ := Option.bind_eq_some_iff.mp h
        cases h
        have h4 : (bindD t d (wipeE ε vs)).bind e = some y := h4
        rw [h2] at h4
        rw [if_pos rfl]
        refine he ε1 y _ h4 ⟨by omega, ?_⟩
        rw [w1]
        refine ih (acc ++ [y]) zs P ?_ h5 (by rw [List.append_assoc]; exact p)
        rw [List.length_append, List.length_singleton]
        omega
      | false =>
        show lcGo t wt we vs inv r acc (wipeE ε1 vs) P
        rw [w1]
        exact ih acc ys P (by omega) h p
  refine key ds [] ys _ (by rw [List.length_nil]; omega) e2 ?_
  rw [rest_wipe]
  exact qq
end
end FL
namespace FL
open PySem PySem.Spec L2 DL
abbrev MV := M (En → Option DL.D)
theorem slF_at {i : Nat} {ε : En} : slF i ε = (ε[i]?).join := rfl
section
variable {Rx : RX} {w u : WE}
def IMO (Rx : RX) (o : Op) (m : MV) : Prop := ∀ ε Q, K Rx Q (m ε) → oEv o ε Q
def mEx (m : M DL.D) : MV := fun ε => bd (m ε) fun d ε1 => some (.ok (fun _ => some d) ε1)
def mNm (i : Nat) : MV := fun ε => ((ε[i]?).join).bind fun _ => some (.ok (slF i) ε)
theorem IE.o {m : M DL.D} (h : IE Rx w m) : IMO Rx (.ex w) (mEx m) := fun ε Q k => h ε _ (K_mono (fun _ _ z => z) (K_bd k))
theorem imo_nm {i : Nat} : IMO Rx (.nm i) (mNm i) := fun ε Q k => by
  obtain ⟨d, e, k⟩ := K_obind k
  exact ⟨⟨d, join_some e⟩, k⟩
def mArgs : List MV → M (List (En → Option DL.D))
  | [], ε => some (.ok [] ε)
  | m :: ms, ε => bd (m ε) fun x ε1 => bd (mArgs ms ε1) fun xs ε2 => some (.ok (x :: xs) ε2)
theorem mArgs_nil {ε : En} : mArgs [] ε = some (.ok [] ε) := rfl
theorem mArgs_cons {m : MV} {ms : List MV} {ε : En} : mArgs (m :: ms) ε = bd (m ε) fun x ε1 => bd (mArgs ms ε1) fun xs ε2 => some (.ok (x :: xs) ε2) := rfl
def IMA (Rx : RX) : List Op → List MV → Prop
  | [], [] => True
  | o :: os, p :: ps => IMO Rx o p ∧ IMA Rx os ps
  | _, _ => False
theorem ima_n : IMA Rx [] [] := trivial
theorem ima_c {o : Op} {os : List Op} {p : MV} {ps : List MV} (h : IMO Rx o p) (k : IMA Rx os ps) : IMA Rx (o :: os) (p :: ps) := ⟨h, k⟩
theorem ima_ev : ∀ {os : List Op} {ms : List MV} {ε : En} {Q : List (En → Option DL.D) → En → Prop}, IMA Rx os ms → K Rx Q (mArgs ms ε) → aEv os ε Q
  | [], [], _, _, _, k => k
  | o :: os, m :: ms, ε, Q, h, k => h.1 ε _ (K_mono (fun x ε1 k => ima_ev h.2 (K_mono (fun _ _ z => z) (K_bd k))) (K_bd k))
  | [], _ :: _, _, _, h, _ => h.elim
  | _ :: _, [], _, _, h, _ => h.elim
def mArgsC : List (M DL.D) → M (List DL.D)
  | [], ε => some (.ok [] ε)
  | m :: ms, ε => bd (m ε) fun x ε1 => bd (mArgsC ms ε1) fun xs ε2 => some (.ok (x :: xs) ε2)
theorem mArgsC_nil {ε : En} : mArgsC [] ε = some (.ok [] ε) := rfl
theorem mArgsC_cons {m : M DL.D} {ms : List (M DL.D)} {ε : En} : mArgsC (m :: ms) ε = bd (m ε) fun x ε1 => bd (mArgsC ms ε1) fun xs ε2 => some (.ok (x :: xs) ε2) := rfl
def IMC (Rx : RX) : List WE → List (M DL.D) → Prop
  | [], [] => True
  | o :: os, p :: ps => IE Rx o p ∧ IMC Rx os ps
  | _, _ => False
theorem imc_n : IMC Rx [] [] := trivial
theorem imc_c {o : WE} {os : List WE} {p : M DL.D} {ps : List (M DL.D)} (h : IE Rx o p) (k : IMC Rx os ps) : IMC Rx (o :: os) (p :: ps) := ⟨h, k⟩
theorem imc_ev : ∀ {os : List WE} {ms : List (M DL.D)} {ε : En} {Q : List DL.D → En → Prop}, IMC Rx os ms → K Rx Q (mArgsC ms ε) → cEv os ε Q
  | [], [], _, _, _, k => k
  | o :: os, m :: ms, ε, Q, h, k => h.1 ε _ (K_mono (fun x ε1 k => imc_ev h.2 (K_mono (fun _ _ z => z) (K_bd k))) (K_bd k))
  | [], _ :: _, _, _, h, _ => h.elim
  | _ :: _, [], _, _, h, _ => h.elim
def mTup (ms : List (M DL.D)) : M DL.D := fun ε => bd (mArgsC ms ε) fun ds ε1 => if ds.length ≤ 1000 then some (.ok (.tuple ds) ε1) else none
def mLst (ms : List (M DL.D)) : M DL.D := fun ε => bd (mArgsC ms ε) fun ds ε1 => if ds.length ≤ 1000 then some (.ok (.list ds) ε1) else none
theorem K_if {α : Type} {c : Prop} [Decidable c] {m : Option (R α)} {Q : α → En → Prop} (k : K Rx Q (if c then m else none)) : c ∧ K Rx Q m := by
  by_cases h : c
  · rw [if_pos h] at k; exact ⟨h, k⟩
  · rw [if_neg h] at k; exact k.elim
theorem ie_tup {ws : List WE} {ms : List (M DL.D)} (h : IMC Rx ws ms) : IE Rx (eTup ws) (mTup ms) := fun ε Q k =>
  imc_ev h (K_mono (fun ds ε1 k => let ⟨l, k⟩ := K_if k; ⟨le_size l, k⟩) (K_bd k))
theorem ie_lst {ws : List WE} {ms : List (M DL.D)} (h : IMC Rx ws ms) : IE Rx (eLst ws) (mLst ms) := fun ε Q k =>
  imc_ev h (K_mono (fun ds ε1 k => let ⟨l, k⟩ := K_if k; ⟨le_size l, k⟩) (K_bd k))
def mBin (f : DL.D → DL.D → Option DL.D) (a b : MV) : M DL.D := fun ε => bd (a ε) fun x ε1 => bd (b ε1) fun y ε2 => (x ε2).bind fun u => (y ε2).bind fun v => (f u v).bind fun r => some (.ok r ε2)
theorem ie_bin {f : DL.D → DL.D → Option DL.D} {oa ob : Op} {a b : MV} (ha : IMO Rx oa a) (hb : IMO Rx ob b) : IE Rx (eBin f oa ob) (mBin f a b) := fun ε Q k =>
  ha ε _ (K_mono (fun x ε1 k => hb ε1 _ (K_mono (fun y ε2 k => by
    obtain ⟨c, e1, k⟩ := K_obind k
    obtain ⟨d, e2, k⟩ := K_obind k
    obtain ⟨r, e3, k⟩ := K_obind k
    exact ⟨c, d, r, e1, e2, e3, k⟩) (K_bd k))) (K_bd k))
theorem valsF_nil {ε : En} : valsF ε [] = some [] := rfl
theorem valsF_cons {ε : En} {x : En → Option DL.D} {xs : List (En → Option DL.D)} : valsF ε (x :: xs) = (x ε).bind fun d => (valsF ε xs).map (d :: ·) := rfl
def mApp (f : List DL.D → Option DL.D) (ms : List MV) : M DL.D := fun ε => bd (mArgs ms ε) fun xs ε1 => (valsF ε1 xs).bind fun ds => (f ds).bind fun r => some (.ok r ε1)
theorem ie_app {f : List DL.D → Option DL.D} {os : List Op} {ms : List MV} (h : IMA Rx os ms) : IE Rx (eApp f os) (mApp f ms) := fun ε Q k =>
  ima_ev h (K_mono (fun xs ε1 k => by
    obtain ⟨ds, e1, k⟩ := K_obind k
    obtain ⟨r, e3, k⟩ := K_obind k
    exact ⟨ds, r, valsF_iff.mpr e1, e3, k⟩) (K_bd k))
/-- a function of the text that changes what it is handed -/
def spM (F : FM) : DSp := fun ds Q => ∃ d o, F ds = some (.ok d o) ∧ Q d o
theorem spM_mono {F : FM} : MonoD (spM F) := fun ds Q Q' h ⟨d, o, e, q⟩ => ⟨d, o, e, h _ _ q⟩
theorem putO_set : ∀ {pk : List Kd} {os : List Op} {outs : List DL.D} {ε : En}, putO pk os outs ε = setL (ioIx pk os) outs ε
  | [], _, outs, _ => by cases outs <;> rfl
  | .val :: ks, [], outs, _ => by cases outs <;> rfl
  | .brw :: ks, [], outs, _ => by cases outs <;> rfl
  | .own :: ks, [], outs, _ => by cases outs <;> rfl
  | .io :: ks, [], outs, _ => by cases outs <;> rfl
  | .st :: ks, [], outs, _ => by cases outs <;> rfl
  | .sl :: ks, [], outs, _ => by cases outs <;> rfl
  | .sl :: ks, o :: os, outs, ε => by cases o <;> exact putO_set (pk := ks) (os := os)
  | .st :: ks, .ex _ :: os, outs, ε => putO_set (pk := ks) (os := os)
  | .st :: ks, .nm i :: os, [], ε => putO_none
  | .st :: ks, .nm i :: os, d :: outs, ε => putO_set (pk := ks) (os := os)
  | .val :: ks, o :: os, outs, ε => by cases o <;> exact putO_set (pk := ks) (os := os)
  | .brw :: ks, o :: os, outs, ε => by cases o <;> exact putO_set (pk := ks) (os := os)
  | .own :: ks, o :: os, outs, ε => by cases o <;> exact putO_set (pk := ks) (os := os)
  | .io :: ks, .ex _ :: os, outs, ε => putO_set (pk := ks) (os := os)
  | .io :: ks, .nm i :: os, [], ε => putO_none
  | .io :: ks, .nm i :: os, d :: outs, ε => putO_set (pk := ks) (os := os)
theorem setL_nil {is : List Nat} {ε : En} : setL is ([] : List DL.D) ε = ε := by cases is <;> rfl
theorem setL_cons {i : Nat} {is : List Nat} {d : DL.D} {ds : List DL.D} {ε : En} : setL (i :: is) (d :: ds) ε = setL is ds (ε.set i (some d)) := rfl
def rdO {β : Type} (r : RD) (k : DL.D → List DL.D → Option (R β)) (x : Exn → List DL.D → Option (R β)) : Option (R β) := match r with
  | .ok d o => k d o
  | .ex e o => x e o
theorem rdO_ok {β : Type} {d : DL.D} {o : List DL.D} {k : DL.D → List DL.D → Option (R β)} {x : Exn → List DL.D → Option (R β)} : rdO (.ok d o) k x = k d o := rfl
theorem rdO_ex {β : Type} {d : Exn} {o : List DL.D} {k : DL.D → List DL.D → Option (R β)} {x : Exn → List DL.D → Option (R β)} : rdO (.ex d o) k x = x d o := rfl
/-- a call of what may change its arguments; is: the places of those that may -/
def mCall (F : FM) (is : List Nat) (ms : List MV) : M DL.D := fun ε => bd (mArgs ms ε) fun xs ε1 => (valsF ε1 xs).bind fun ds => (F ds).bind fun r => rdO r (fun d o => some (.ok d (setL is o ε1))) fun _ _ => none
theorem ie_call {F : FM} {pk : List Kd} {is : List Nat} {os : List Op} {ms : List MV} (h : IMA Rx os ms) (hi : ioIx pk os = is := by rfl) : IE Rx (eCall pk (spM F) os) (mCall F is ms) := fun ε Q k =>
  ima_ev h (K_mono (fun xs ε1 k => by
    obtain ⟨ds, e1, k⟩ := K_obind k
    obtain ⟨r, e3, k⟩ := K_obind k
    cases r with
    | ex x o => exact k.elim
    | ok d o =>
      refine ⟨ds, valsF_iff.mpr e1, d, o, e3, ?_⟩
      show Q d (putO pk os o ε1)
      rw [putO_set, hi]
      exact k) (K_bd k))
/-- a call of what only tells a value, with arguments that change something -/
def mCallP (F : FD) (ms : List MV) : M DL.D := mApp F ms
theorem ie_callP {F : FD} {pk : List Kd} {os : List Op} {ms : List MV} (h : IMA Rx os ms) : IE Rx (eCall pk (spP F) os) (mCallP F ms) := fun ε Q k =>
  ima_ev h (K_mono (fun xs ε1 k => by
    obtain ⟨ds, e1, k⟩ := K_obind k
    obtain ⟨r, e3, k⟩ := K_obind k
    refine ⟨ds, valsF_iff.mpr e1, r, e3, ?_⟩
    show Q r (putO pk os [] ε1)
    rw [putO_none]
    exact k) (K_bd k))
theorem K_bO {β : Type} {d : DL.D} {k : Bool → Option (R β)} {Q : β → En → Prop} (h : K Rx Q (bO d k)) : ∃ b, d = .bool b ∧ K Rx Q (k b) := by
  cases d <;> first | exact ⟨_, rfl, h⟩ | exact h.elim
def tM (a : M DL.D) : M Bool := fun ε => bd (a ε) fun x ε1 => bO x fun k => some (.ok k ε1)
theorem it_M {a : M DL.D} (ha : IE Rx w a) : IT Rx (tE w) (tM a) := fun ε Q k =>
  ha ε _ (K_mono (fun c ε1 k => by
    obtain ⟨x, rfl, k⟩ := K_bO k
    exact ⟨x, rfl, k⟩) (K_bd k))
def ptM : Option (M DL.D) → M (Option Int)
  | none, ε => some (.ok none ε)
  | some p, ε => bd (p ε) fun d ε1 => (iO d).bind fun i => some (.ok (some i) ε1)
theorem ptM_no {ε : En} : ptM none ε = some (.ok none ε) := rfl
theorem ptM_ex {p : M DL.D} {ε : En} : ptM (some p) ε = bd (p ε) fun d ε1 => (iO d).bind fun i => some (.ok (some i) ε1) := rfl
theorem isL_l {xs : List DL.D} : isL (.list xs) = true := rfl
def mMut (i : Nat) (f : DL.D → List DL.D → Option (DL.D × DL.D)) (ms : List (M DL.D)) : M DL.D := fun ε => ((ε[i]?).join).bind fun c0 => if isL c0 = true then bd (mArgsC ms ε) fun ds ε1 => ((ε1[i]?).join).bind fun c => (f c ds).bind fun rn => some (.ok rn.1 (ε1.set i (some rn.2))) else none
theorem ie_mut {i : Nat} {f : DL.D → List DL.D → Option (DL.D × DL.D)} {ws : List WE} {ms : List (M DL.D)} (h : IMC Rx ws ms) : IE Rx (eMut i f ws) (mMut i f ms) := fun ε Q k => by
  obtain ⟨c0, e0, k⟩ := K_obind k
  obtain ⟨hl, k⟩ := K_if k
  refine ⟨⟨c0, join_some e0, hl⟩, imc_ev h (K_mono (fun ds ε1 k => ?_) (K_bd k))⟩
  obtain ⟨c, e1, k⟩ := K_obind k
  obtain ⟨⟨r, n⟩, e2, k⟩ := K_obind k
  exact ⟨c, r, n, join_some e1, e2, k⟩
def IIM (Rx : RX) (wi : WI) (m : M (List DL.D)) : Prop := ∀ (ε : En) (Q : List DL.D → (En → Prop) → En → Prop), K Rx (fun ds ε' => ∀ inv : En → Prop, (∀ ε, inv ε) → Q ds inv ε') (m ε) → wi ε Q
theorem II.m {wi : WI} {f : FI} (h : II [] wi f) : IIM Rx wi (lf f) := fun ε Q k => by
  obtain ⟨ds, e, k⟩ := K_omap k
  exact h ε ds Q e fun inv hi => k inv fun ε' => hi ε' fun i hi => nomatch hi
def jSeq (m : M DL.D) : M (List DL.D) := fun ε => bd (m ε) fun d ε1 => (seqD d).bind fun ds => some (.ok ds ε1)
theorem iim_seq {m : M DL.D} (h : IE Rx w m) : IIM Rx (wSeq w) (jSeq m) := fun ε Q k => h ε _ (K_mono (fun d ε1 k => by
  obtain ⟨ds, e, k⟩ := K_obind k
  exact ⟨ds, e, k _ fun _ => trivial⟩) (K_bd k))
def jApp (f : List DL.D → Option (List DL.D)) (ms : List MV) : M (List DL.D) := fun ε => bd (mArgs ms ε) fun xs ε1 => (valsF ε1 xs).bind fun ds => (f ds).bind fun r => some (.ok r ε1)
theorem iim_app {f : List DL.D → Option (List DL.D)} {os : List Op} {ms : List MV} (h : IMA Rx os ms) : IIM Rx (wApp f os) (jApp f ms) := fun ε Q k =>
  ima_ev h (K_mono (fun xs ε1 k => by
    obtain ⟨ds, e1, k⟩ := K_obind k
    obtain ⟨r, e3, k⟩ := K_obind k
    exact ⟨ds, r, valsF_iff.mpr e1, e3, k _ fun _ => trivial⟩) (K_bd k))
/-- nothing may be raised in a comprehension -/
def bn {α β : Type} (m : Option (R α)) (k : α → En → Option (R β)) : Option (R β) := match m with
  | some (.ok a ε) => k a ε
  | _ => none
theorem bn_ok {α β : Type} {a : α} {ε : En} {k : α → En → Option (R β)} : bn (some (.ok a ε)) k = k a ε := rfl
theorem K_bn {α β : Type} {Q : β → En → Prop} {m : Option (R α)} {k : α → En → Option (R β)} (h : K Rx Q (bn m k)) : ∃ a ε, m = some (.ok a ε) ∧ K Rx Q (k a ε) := by
  match m, h with
  | some (.ok a ε), h => exact ⟨a, ε, rfl, h⟩
  | some (.ex _ _), h => exact h.elim
  | none, h => exact h.elim
def lcM (t : Tg) (q : M Bool) (e : M DL.D) (vs : List Nat) : List DL.D → M (List DL.D)
  | [], ε => some (.ok [] ε)
  | d :: r, ε => (bindD t d ε).bind fun ε1 => bn (q ε1) fun b ε2 => if b = true then bn (e ε2) fun y ε3 => bn (lcM t q e vs r (wipeE ε3 vs)) fun ys ε4 => some (.ok (y :: ys) ε4) else lcM t q e vs r (wipeE ε2 vs)
def mLc (it : M (List DL.D)) (t : Tg) (q : M Bool) (e : M DL.D) (vs : List Nat) : M DL.D := fun ε => bd (it ε) fun ds ε1 => if ds.length ≤ sizeLine then bn (lcM t q e vs ds (wipeE ε1 vs)) fun ys ε2 => some (.ok (.list ys) (restE ε2 ε1 vs)) else none
theorem ie_lc {vs : List Nat} {wi : WI} {it : M (List DL.D)} {t : Tg} {wt : WT} {q : M Bool} {we : WE} {e : M DL.D} (hi : IIM Rx wi it) (hq : IT RX.no wt q) (he : IE RX.no we e) : IE Rx (eLc wi t wt we vs) (mLc it t q e vs) := fun ε Q k => by
  refine hi ε _ (K_mono (fun ds ε1 k inv hinv => ?_) (K_bd k))
  obtain ⟨l, k⟩ := K_if k
  obtain ⟨ys, ε2, e2, k⟩ := K_bn k
  have key : ∀ (ds : List DL.D) (acc ys : List DL.D) (ε ε2 : En) (P : List DL.D → En → Prop), acc.length + ds.length ≤ sizeLine → lcM t q e vs ds ε = some (.ok ys ε2) → P (acc ++ ys) ε2 → lcGo t wt we vs inv ds acc ε P := by
    intro ds
    induction ds with
    | nil =>
      intro acc ys ε ε2 P _ h p
      cases h
      rw [List.append_nil] at p
      exact ⟨hinv _, p⟩
    | cons d r ih =>
      intro acc ys ε ε2 P hl h p
      rw [List.length_cons] at hl
      obtain ⟨ε1, h1, h⟩ := Option.bind_eq_some_iff.mp h
      have ok : ∀ {α : Type} {m : Option (R α)} {f : α → En → Option (R (List DL.D))}, bn m f = some (.ok ys ε2) → ∃ a ε', m = some (.ok a ε') ∧ f a ε' = some (.ok ys ε2) := fun {α m f} h => by
        match m, h with
        | some (.ok a ε), h => exact ⟨a, ε, rfl, h⟩
        | some (.ex _ _), h => cases h
        | none, h => cases h
      obtain ⟨b, ε3, h2, h⟩ := ok h
      refine ⟨hinv _, ε1, h1, hq ε1 _ ?_⟩
      rw [h2]
      cases b with
      | true =>
        obtain ⟨y, ε4, h3, h⟩ := ok h
        obtain ⟨zs, ε5, h4, h⟩ := ok h
        cases h
        show (if true = true then we ε3 (fun y ε3 => acc.length < sizeLine ∧ lcGo t wt we vs inv r (acc ++ [y]) (wipeE ε3 vs) P) else lcGo t wt we vs inv r acc (wipeE ε3 vs) P)
        rw [if_pos rfl]
        refine he ε3 _ ?_
        rw [h3]
        refine ⟨by omega, ih (acc ++ [y]) zs _ _ P ?_ h4 (by rw [List.append_assoc]; exact p)⟩
        rw [List.length_append, List.length_singleton]
        omega
      | false => exact ih acc ys _ _ P (by omega) h p
  exact key ds [] ys _ _ _ (by rw [List.length_nil]; omega) e2 k
end
end FL
namespace DL
open PySem PySem.Spec L2
end DL
namespace FL
open PySem PySem.Spec L2 DL
def sq (m : Option (R Fl)) (k : En → Option (R Fl)) : Option (R Fl) := match m with
  | some (.ok .nx ε) => k ε
  | r => r
theorem sq_nx {ε : En} {k : En → Option (R Fl)} : sq (some (.ok .nx ε)) k = k ε := rfl
theorem sq_rt {d : DL.D} {ε : En} {k : En → Option (R Fl)} : sq (some (.ok (.rt d) ε)) k = some (.ok (.rt d) ε) := rfl
theorem sq_bk {ε : En} {k : En → Option (R Fl)} : sq (some (.ok .bk ε)) k = some (.ok .bk ε) := rfl
theorem sq_ct {ε : En} {k : En → Option (R Fl)} : sq (some (.ok .ct ε)) k = some (.ok .ct ε) := rfl
theorem sq_ex {x : Exn} {ε : En} {k : En → Option (R Fl)} : sq (some (.ex x ε)) k = some (.ex x ε) := rfl
/-- a turn's end: go on with k, or leave the loop -/
def lp (m : Option (R Fl)) (k : En → Option (R Fl)) : Option (R Fl) := match m with
  | some (.ok .nx ε) => k ε
  | some (.ok .ct ε) => k ε
  | some (.ok .bk ε) => some (.ok .nx ε)
  | r => r
theorem lp_nx {ε : En} {k : En → Option (R Fl)} : lp (some (.ok .nx ε)) k = k ε := rfl
theorem lp_ct {ε : En} {k : En → Option (R Fl)} : lp (some (.ok .ct ε)) k = k ε := rfl
theorem lp_bk {ε : En} {k : En → Option (R Fl)} : lp (some (.ok .bk ε)) k = some (.ok .nx ε) := rfl
theorem lp_rt {d : DL.D} {ε : En} {k : En → Option (R Fl)} : lp (some (.ok (.rt d) ε)) k = some (.ok (.rt d) ε) := rfl
theorem lp_ex {x : Exn} {ε : En} {k : En → Option (R Fl)} : lp (some (.ex x ε)) k = some (.ex x ε) := rfl
/-- a block's end: what is not needed is forgotten -/
def en (vs : List Nat) (m : Option (R Fl)) : Option (R Fl) := match m with
  | some (.ok .nx ε) => some (.ok .nx (killE ε vs))
  | some (.ok .ct ε) => some (.ok .ct (killE ε vs))
  | r => r
theorem en_nx {vs : List Nat} {ε : En} : en vs (some (.ok .nx ε)) = some (.ok .nx (killE ε vs)) := rfl
theorem en_ct {vs : List Nat} {ε : En} : en vs (some (.ok .ct ε)) = some (.ok .ct (killE ε vs)) := rfl
theorem en_bk {vs : List Nat} {ε : En} : en vs (some (.ok .bk ε)) = some (.ok .bk ε) := rfl
theorem en_rt {vs : List Nat} {ε : En} {d : DL.D} : en vs (some (.ok (.rt d) ε)) = some (.ok (.rt d) ε) := rfl
theorem en_ex {vs : List Nat} {ε : En} {x : Exn} : en vs (some (.ex x ε)) = some (.ex x ε) := rfl
theorem killE_nil {ε : En} : killE ε [] = ε := rfl
theorem killE_cons {ε : En} {v : Nat} {vs : List Nat} : killE ε (v :: vs) = killE (ε.set v none) vs := rfl
section
variable {Rx : RX}
def fNil : FS := fun ε => some (.ok .nx ε)
def fSeq (s t : FS) : FS := fun ε => sq (s ε) t
def fSet (i : Nat) (m : M DL.D) : FS := fun ε => bd (m ε) fun d ε1 => some (.ok .nx (ε1.set i (some d)))
def fDo (m : M DL.D) : FS := fun ε => bd (m ε) fun _ ε1 => some (.ok .nx ε1)
def fRet (m : M DL.D) : FS := fun ε => bd (m ε) fun d ε1 => some (.ok (.rt d) ε1)
def fRetO (i : Nat) : FS := fun ε => ((ε[i]?).join).bind fun d => some (.ok (.rt d) ε)
def fIf (t : M Bool) (a b : FS) : FS := fun ε => bd (t ε) fun c ε1 => if c = true then a ε1 else b ε1
def fUnp (t : Tg) (m : M DL.D) : FS := fun ε => bd (m ε) fun d ε1 => (bindD t d ε1).bind fun ε2 => some (.ok .nx ε2)
def fPar (is : List Nat) (ms : List (M DL.D)) : FS := fun ε => bd (mArgsC ms ε) fun ds ε1 => some (.ok .nx (setL is ds ε1))
def fPut (i : Nat) (f : DL.D → DL.D → DL.D → Option DL.D) (m mk : M DL.D) : FS := fun ε => bd (m ε) fun d ε1 => ((ε1[i]?).join).bind fun _ => bd (mk ε1) fun k ε2 => ((ε2[i]?).join).bind fun cur => (f cur k d).bind fun new => some (.ok .nx (ε2.set i (some new)))
def fKill (vs : List Nat) (s : FS) : FS := fun ε => s (killE ε vs)
def fEnd (vs : List Nat) (s : FS) : FS := fun ε => en vs (s ε)
theorem is_nil : IS Rx sNil fNil := fun E ε k => k
theorem KS_sq {E : WEnds} {m : Option (R Fl)} {k : En → Option (R Fl)} (h : KS Rx E (sq m k)) : KS Rx { E with nx := fun ε => KS Rx E (k ε) } m := by
  match m, h with
  | some (.ok .nx ε), h => exact h
  | some (.ok (.rt d) ε), h => exact h
  | some (.ok .bk ε), h => exact h
  | some (.ok .ct ε), h => exact h
  | some (.ex x ε), h => exact h
  | none, h => exact h
theorem KS_mono {E E' : WEnds} {m : Option (R Fl)} (l : E.le E') (h : KS Rx E m) : KS Rx E' m := by
  match m, h with
  | some (.ok .nx ε), h => exact l.nx _ h
  | some (.ok (.rt d) ε), h => exact l.rt _ _ h
  | some (.ok .bk ε), h => exact l.bk _ h
  | some (.ok .ct ε), h => exact l.ct _ h
  | some (.ex x ε), h => exact h
  | none, h => exact h
theorem is_seq {w u : WS} {s t : FS} (h : IS Rx w s) (k : IS Rx u t) : IS Rx (sSeq w u) (fSeq s t) := fun E ε q =>
  h { E with nx := u E } ε (KS_mono (E := { E with nx := fun ε => KS Rx E (t ε) }) ⟨fun ε' z => k E ε' z, fun _ _ z => z, fun _ z => z, fun _ z => z⟩ (KS_sq q))
theorem is_set {i : Nat} {w : WE} {m : M DL.D} (h : IE Rx w m) : IS Rx (sSet i w) (fSet i m) := fun E ε q => h ε _ (K_mono (fun _ _ z => z) (K_bd q))
theorem is_do {w : WE} {m : M DL.D} (h : IE Rx w m) : IS Rx (sDo w) (fDo m) := fun E ε q => h ε _ (K_mono (fun _ _ z => z) (K_bd q))
theorem is_ret {w : WE} {m : M DL.D} (h : IE Rx w m) : IS Rx (sRet w) (fRet m) := fun E ε q => h ε _ (K_mono (fun _ _ z => z) (K_bd q))
theorem is_retO {i : Nat} : IS Rx (sRetO i) (fRetO i) := fun E ε q => by
  obtain ⟨d, e, q⟩ := K_obind q
  exact ⟨d, join_some e, q⟩
theorem is_if {t : WT} {mt : M Bool} {w u : WS} {a b : FS} (ht : IT Rx t mt) (ha : IS Rx w a) (hb : IS Rx u b) : IS Rx (sIf t w u) (fIf mt a b) := fun E ε q =>
  ht ε _ (K_mono (fun c ε1 k => by
    cases c with
    | true => exact ha E ε1 k
    | false => exact hb E ε1 k) (K_bd q))
theorem is_unp {t : Tg} {w : WE} {m : M DL.D} (h : IE Rx w m) : IS Rx (sUnp t w) (fUnp t m) := fun E ε q => h ε _ (K_mono (fun d ε1 z => by
  obtain ⟨ε2, e, z⟩ := K_obind z
  exact ⟨ε2, e, z⟩) (K_bd q))
theorem is_par {is : List Nat} {ws : List WE} {ms : List (M DL.D)} (h : IMC Rx ws ms) : IS Rx (sPar is ws) (fPar is ms) := fun E ε q => imc_ev h (K_mono (fun _ _ z => z) (K_bd q))
theorem is_put {i : Nat} {f : DL.D → DL.D → DL.D → Option DL.D} {w wk : WE} {m mk : M DL.D} (h : IE Rx w m) (hk : IE Rx wk mk) : IS Rx (sPut i f w wk) (fPut i f m mk) := fun E ε q => h ε _ (K_mono (fun d ε1 z => by
  obtain ⟨c, e, z⟩ := K_obind z
  refine ⟨⟨c, join_some e⟩, hk ε1 _ (K_mono (fun k ε2 z => ?_) (K_bd z))⟩
  obtain ⟨cur, e1, z⟩ := K_obind z
  obtain ⟨new, e2, z⟩ := K_obind z
  exact ⟨cur, new, join_some e1, e2, z⟩) (K_bd q))
theorem is_kill {vs : List Nat} {w : WS} {s : FS} (h : IS Rx w s) : IS Rx (sKill vs w) (fKill vs s) := fun E ε q => h E _ q
theorem is_end {vs : List Nat} {w : WS} {s : FS} (h : IS Rx w s) : IS Rx (sEnd vs w) (fEnd vs s) := fun E ε q => h _ ε (by
  have q : KS Rx E (en vs (s ε)) := q
  revert q
  match s ε with
  | some (.ok .nx ε) => exact fun h => h
  | some (.ok (.rt d) ε) => exact fun h => h
  | some (.ok .bk ε) => exact fun h => h
  | some (.ok .ct ε) => exact fun h => h
  | some (.ex x ε) => exact fun h => h
  | none => exact fun h => h)
theorem KS_lp {E : WEnds} {m : Option (R Fl)} {k : En → Option (R Fl)} (h : KS Rx E (lp m k)) : KS Rx { nx := fun ε => KS Rx E (k ε), rt := E.rt, bk := E.nx, ct := fun ε => KS Rx E (k ε) } m := by
  match m, h with
  | some (.ok .nx ε), h => exact h
  | some (.ok (.rt d) ε), h => exact h
  | some (.ok .bk ε), h => exact h
  | some (.ok .ct ε), h => exact h
  | some (.ex x ε), h => exact h
  | none, h => exact h
def forL (t : Tg) (s : FS) : List DL.D → FS
  | [], ε => some (.ok .nx ε)
  | d :: r, ε => (bindD t d ε).bind fun ε1 => lp (s ε1) (forL t s r)
theorem forL_nil {t : Tg} {s : FS} {ε : En} : forL t s [] ε = some (.ok .nx ε) := rfl
theorem forL_cons {t : Tg} {s : FS} {d : DL.D} {r : List DL.D} {ε : En} : forL t s (d :: r) ε = (bindD t d ε).bind fun ε1 => lp (s ε1) (forL t s r) := rfl
def fFor (it : M (List DL.D)) (t : Tg) (s : FS) : FS := fun ε => bd (it ε) fun ds ε1 => forL t s ds ε1
theorem is_for {wi : WI} {it : M (List DL.D)} {t : Tg} {w : WS} {s : FS} (hi : IIM Rx wi it) (h : IS Rx w s) : IS Rx (sFor wi t w) (fFor it t s) := fun E ε q => by
  have go : ∀ (ds : List DL.D) (ε : En) (inv : En → Prop), (∀ ε, inv ε) → KS Rx E (forL t s ds ε) → forGo t w inv E ds ε := by
    intro ds
    induction ds with
    | nil => exact fun ε inv hinv k => ⟨hinv _, k⟩
    | cons d r ih =>
      intro ε inv hinv k
      obtain ⟨ε2, e, k⟩ := K_obind k
      exact ⟨hinv _, ε2, e, h _ ε2 (KS_mono (E := { nx := fun ε => KS Rx E (forL t s r ε), rt := E.rt, bk := E.nx, ct := fun ε => KS Rx E (forL t s r ε) }) ⟨fun ε z => ih ε inv hinv z, fun _ _ z => z, fun _ z => z, fun ε z => ih ε inv hinv z⟩ (KS_lp k))⟩
  exact hi ε _ (K_mono (fun ds ε1 k inv hinv => go ds ε1 inv hinv k) (K_bd q))
def whN (t : M Bool) (s : FS) : Nat → FS
  | 0, _ => none
  | n + 1, ε => bd (t ε) fun c ε1 => if c = true then lp (s ε1) (whN t s n) else some (.ok .nx ε1)
theorem whN_up {t : M Bool} {s : FS} : ∀ {n : Nat} {ε : En} {r : R Fl}, whN t s n ε = some r → whN t s (n + 1) ε = some r
  | 0, _, _, h => by cases h
  | n + 1, ε, r, h => by
    have h : bd (t ε) (fun c ε1 => if c = true then lp (s ε1) (whN t s n) else some (.ok .nx ε1)) = some r := h
    show bd (t ε) (fun c ε1 => if c = true then lp (s ε1) (whN t s (n + 1)) else some (.ok .nx ε1)) = some r
    match t ε, h with
    | none, h => exact h
    | some (.ex x ε1), h => exact h
    | some (.ok c ε1), h =>
      cases c with
      | false => exact h
      | true =>
        have h : lp (s ε1) (whN t s n) = some r := h
        show lp (s ε1) (whN t s (n + 1)) = some r
        match s ε1, h with
        | some (.ok .nx ε2), h => exact whN_up (n := n) h
        | some (.ok .ct ε2), h => exact whN_up (n := n) h
        | some (.ok .bk ε2), h => exact h
        | some (.ok (.rt d) ε2), h => exact h
        | some (.ex x ε2), h => exact h
        | none, h => exact h
theorem whN_le {t : M Bool} {s : FS} {n m : Nat} {ε : En} {r : R Fl} (l : n ≤ m) (h : whN t s n ε = some r) : whN t s m ε = some r := by
  induction l with
  | refl => exact h
  | step _ ih => exact whN_up ih
open Classical in
noncomputable def fWhile (t : M Bool) (s : FS) : FS := fun ε => if h : ∃ n r, whN t s n ε = some r then some (Classical.choose (Classical.choose_spec h)) else none
open Classical in
theorem fWhile_of {t : M Bool} {s : FS} {n : Nat} {ε : En} {r : R Fl} (h : whN t s n ε = some r) : fWhile t s ε = some r := by
  have hh : ∃ n r, whN t s n ε = some r := ⟨n, r, h⟩
  have e := Classical.choose_spec (Classical.choose_spec hh)
  show (if h : ∃ n r, whN t s n ε = some r then some (Classical.choose (Classical.choose_spec h)) else none) = some r
  rw [dif_pos hh]
  exact (whN_le (Nat.le_max_left (Classical.choose hh) n) e).symm.trans (whN_le (Nat.le_max_right (Classical.choose hh) n) h)
open Classical in
theorem fWhile_some {t : M Bool} {s : FS} {ε : En} {r : R Fl} (h : fWhile t s ε = some r) : ∃ n, whN t s n ε = some r := by
  have h : (if h : ∃ n r, whN t s n ε = some r then some (Classical.choose (Classical.choose_spec h)) else none) = some r := h
  by_cases hh : ∃ n r, whN t s n ε = some r
  · rw [dif_pos hh] at h
    cases h
    exact ⟨_, Classical.choose_spec (Classical.choose_spec hh)⟩
  · rw [dif_neg hh] at h
    cases h
/-- a while's turn -/
theorem fWhile_eq {t : M Bool} {s : FS} {ε : En} : fWhile t s ε = bd (t ε) fun c ε1 => if c = true then lp (s ε1) (fWhile t s) else some (.ok .nx ε1) := by
  have go : ∀ {x : Option (R Fl)}, (∀ r, x = some r → fWhile t s ε = some r) → (∀ r, fWhile t s ε = some r → x = some r) → fWhile t s ε = x := fun {x} h1 h2 => by
    cases x with
    | some r => exact h1 r rfl
    | none =>
      cases e : fWhile t s ε with
      | none => rfl
      | some r => exact (h2 r e).symm
  refine go (fun r h => ?_) fun r h => ?_
  · -- from the turn to the while
    have : ∃ n, whN t s n ε = some r := by
      match e : t ε, h with
      | some (.ex x ε1), h =>
        refine ⟨1, ?_⟩
        show bd (t ε) _ = _
        rw [e]
        exact h
      | some (.ok false ε1), h =>
        refine ⟨1, ?_⟩
        show bd (t ε) _ = _
        rw [e]
        exact h
      | some (.ok true ε1), h =>
        have h : lp (s ε1) (fWhile t s) = some r := h
        have : ∃ n, lp (s ε1) (whN t s n) = some r := by
          match s ε1, h with
          | some (.ok .nx ε2), h => exact fWhile_some h
          | some (.ok .ct ε2), h => exact fWhile_some h
          | some (.ok .bk ε2), h => exact ⟨0, h⟩
          | some (.ok (.rt d) ε2), h => exact ⟨0, h⟩
          | some (.ex x ε2), h => exact ⟨0, h⟩
        obtain ⟨n, hn⟩ := this
        refine ⟨n + 1, ?_⟩
        show bd (t ε) _ = _
        rw [e]
        exact hn
    obtain ⟨n, hn⟩ := this
    exact fWhile_of hn
  · obtain ⟨n, hn⟩ := fWhile_some h
    cases n with
    | zero => cases hn
    | succ n =>
      have hn : bd (t ε) (fun c ε1 => if c = true then lp (s ε1) (whN t s n) else some (.ok .nx ε1)) = some r := hn
      match t ε, hn with
      | some (.ex x ε1), h => exact h
      | some (.ok false ε1), h => exact h
      | some (.ok true ε1), h =>
        have h : lp (s ε1) (whN t s n) = some r := h
        show lp (s ε1) (fWhile t s) = some r
        match s ε1, h with
        | some (.ok .nx ε2), h => exact fWhile_of h
        | some (.ok .ct ε2), h => exact fWhile_of h
        | some (.ok .bk ε2), h => exact h
        | some (.ok (.rt d) ε2), h => exact h
        | some (.ex x ε2), h => exact h
theorem is_while {wt : WT} {t : M Bool} {w : WS} {s : FS} (ht : IT Rx wt t) (h : IS Rx w s) : IS Rx (sWhile wt w) (fWhile t s) := fun E ε q => by
  have go : ∀ (n : Nat) (ε : En), KS Rx E (whN t s n ε) → whGo wt w E n ε := by
    intro n
    induction n with
    | zero => exact fun ε q => q.elim
    | succ n ih =>
      intro ε q
      refine ht ε _ (K_mono (fun c ε1 k => ?_) (K_bd q))
      cases c with
      | false => exact k
      | true => exact h _ ε1 (KS_mono (E := { nx := fun ε => KS Rx E (whN t s n ε), rt := E.rt, bk := E.nx, ct := fun ε => KS Rx E (whN t s n ε) }) ⟨fun ε z => ih ε z, fun _ _ z => z, fun _ z => z, fun ε z => ih ε z⟩ (KS_lp k))
  have q : KS Rx E (fWhile t s ε) := q
  cases e : fWhile t s ε with
  | none => rw [e] at q; exact q.elim
  | some r =>
    obtain ⟨n, hn⟩ := fWhile_some e
    exact ⟨n, go n ε (by rw [hn, ← e]; exact q)⟩
def endR (pk : List Kd) (fr : Bool) (m : Option (R Fl)) : Option RD := match m with
  | some (.ok .nx ε) => if fr = true then none else (outsD pk ε).map fun o => .ok .none o
  | some (.ok (.rt d) ε) => (outsD pk ε).map fun o => .ok d o
  | some (.ex x ε) => (outsD pk ε).map fun o => .ex x o
  | _ => none
theorem endR_nx {pk : List Kd} {ε : En} : endR pk false (some (.ok .nx ε)) = (outsD pk ε).map fun o => .ok .none o := rfl
theorem endR_rt {pk : List Kd} {fr : Bool} {d : DL.D} {ε : En} : endR pk fr (some (.ok (.rt d) ε)) = (outsD pk ε).map fun o => .ok d o := rfl
theorem endR_ex {pk : List Kd} {fr : Bool} {x : Exn} {ε : En} : endR pk fr (some (.ex x ε)) = (outsD pk ε).map fun o => .ex x o := rfl
theorem outsD_nil {ε : En} : outsD [] ε = some [] := rfl
theorem outsD_io {ks : List Kd} {d : DL.D} {ε : En} : outsD (.io :: ks) (some d :: ε) = (outsD ks ε).map (d :: ·) := rfl
theorem outsD_st {ks : List Kd} {d : DL.D} {ε : En} : outsD (.st :: ks) (some d :: ε) = (outsD ks ε).map (d :: ·) := rfl
theorem outsD_val {ks : List Kd} {o : Option DL.D} {ε : En} : outsD (.val :: ks) (o :: ε) = outsD ks ε := by cases o <;> rfl
theorem outsD_brw {ks : List Kd} {o : Option DL.D} {ε : En} : outsD (.brw :: ks) (o :: ε) = outsD ks ε := by cases o <;> rfl
def runM (pk : List Kd) (fr : Bool) (n : Nat) (s : FS) : FM := fun ds => endR pk fr (s (startE n ds))
def valR : RD → Option DL.D
  | .ok d _ => some d
  | .ex _ _ => none
theorem valR_ok {d : DL.D} {o : List DL.D} : valR (.ok d o) = some d := rfl
def runP (pk : List Kd) (fr : Bool) (n : Nat) (s : FS) : FD := fun ds => (endR pk fr (s (startE n ds))).bind valR
def noIo (pk : List Kd) : Bool := pk.all fun k => k != .io && k != .st
theorem outs_no : ∀ {pk : List Kd} {ε : En} {o : List DL.D}, noIo pk = true → outsD pk ε = some o → o = []
  | [], _, _, _, h => by cases h; rfl
  | k :: ks, ε, o, hn, h => by
    unfold noIo at hn
    rw [List.all_cons, Bool.and_eq_true] at hn
    cases k with
    | io => exact absurd hn.1 (by decide)
    | st => exact absurd hn.1 (by decide)
    | sl =>
      cases ε with
      | nil => cases h
      | cons a ε => exact outs_no (by unfold noIo; exact hn.2) (show outsD ks ε = some o by cases a <;> exact h)
    | val =>
      cases ε with
      | nil => cases h
      | cons a ε => rw [outsD_val] at h; exact outs_no (by unfold noIo; exact hn.2) h
    | brw =>
      cases ε with
      | nil => cases h
      | cons a ε => rw [outsD_brw] at h; exact outs_no (by unfold noIo; exact hn.2) h
    | own =>
      cases ε with
      | nil => cases h
      | cons a ε => exact outs_no (by unfold noIo; exact hn.2) (show outsD ks ε = some o by cases a <;> exact h)
theorem snd_M {w : WS} {s : FS} {pk : List Kd} {fr : Bool} {n : Nat} (h : IS RX.no w s) : ∀ (ds : List DL.D) (Q : DL.D → List DL.D → Prop), spM (runM pk fr n s) ds Q → w (endsD pk fr Q) (startE n ds) := fun ds Q ⟨d, o, e, q⟩ => h _ _ (by
  have e : endR pk fr (s (startE n ds)) = some (.ok d o) := e
  revert e
  match s (startE n ds) with
  | some (.ok .nx ε) =>
    intro e
    cases fr with
    | true => cases e
    | false =>
      obtain ⟨o', e1, e2⟩ := Option.map_eq_some_iff.mp (show (outsD pk ε).map (fun o => RD.ok .none o) = _ from e)
      cases e2
      exact ⟨rfl, o, e1, q⟩
  | some (.ok (.rt d') ε) =>
    intro e
    obtain ⟨o', e1, e2⟩ := Option.map_eq_some_iff.mp (show (outsD pk ε).map (fun o => RD.ok d' o) = _ from e)
    cases e2
    exact ⟨o, e1, q⟩
  | some (.ok .bk ε) => intro e; cases e
  | some (.ok .ct ε) => intro e; cases e
  | some (.ex x ε) =>
    intro e
    obtain ⟨o', e1, e2⟩ := Option.map_eq_some_iff.mp (show (outsD pk ε).map (fun o => RD.ex x o) = _ from e)
    cases e2
  | none => intro e; cases e)
theorem runM_outs {s : FS} {pk : List Kd} {fr : Bool} {n : Nat} (hp : noIo pk = true) {ds : List DL.D} {d : DL.D} {o : List DL.D} (e : runM pk fr n s ds = some (.ok d o)) : o = [] := by
  have e : endR pk fr (s (startE n ds)) = some (.ok d o) := e
  revert e
  match s (startE n ds) with
  | some (.ok .nx ε) =>
    intro e
    cases fr with
    | true => cases e
    | false =>
      obtain ⟨o', e1, e2⟩ := Option.map_eq_some_iff.mp (show (outsD pk ε).map (fun o => RD.ok .none o) = _ from e)
      cases e2
      exact outs_no hp e1
  | some (.ok (.rt d') ε) =>
    intro e
    obtain ⟨o', e1, e2⟩ := Option.map_eq_some_iff.mp (show (outsD pk ε).map (fun o => RD.ok d' o) = _ from e)
    cases e2
    exact outs_no hp e1
  | some (.ok .bk ε) => intro e; cases e
  | some (.ok .ct ε) => intro e; cases e
  | some (.ex x ε) =>
    intro e
    obtain ⟨o', e1, e2⟩ := Option.map_eq_some_iff.mp (show (outsD pk ε).map (fun o => RD.ex x o) = _ from e)
    cases e2
  | none => intro e; cases e
theorem snd_P {w : WS} {s : FS} {pk : List Kd} {fr : Bool} {n : Nat} (h : IS RX.no w s) (hp : noIo pk = true := by rfl) : ∀ (ds : List DL.D) (Q : DL.D → List DL.D → Prop), spP (runP pk fr n s) ds Q → w (endsD pk fr Q) (startE n ds) := fun ds Q ⟨d, e, q⟩ => by
  obtain ⟨r, e1, e2⟩ := Option.bind_eq_some_iff.mp (show (endR pk fr (s (startE n ds))).bind valR = some d from e)
  cases r with
  | ex x o => cases e2
  | ok d' o =>
    cases e2
    have eo := runM_outs (s := s) (fr := fr) (n := n) hp (ds := ds) e1
    subst eo
    exact snd_M h ds Q ⟨d, [], e1, q⟩
/-- the law itself -/
theorem snd_law {w : WS} {s : FS} {n : Nat} {ns : List Int} (h : IS RX.no w s) (e : ∃ ε, s (lawS n ns) = some (.ok (.rt (.bool true)) ε)) : w lawE (lawS n ns) := h _ _ (by
  obtain ⟨ε, e⟩ := e
  rw [e]
  exact (rfl : PyData.bool true = .bool true))
end
end FL
namespace FL
open PySem PySem.Spec L2 DL
section
variable {α β : Type}
theorem g_succ {l : List α} {a : α} {i : Nat} : (a :: l)[i + 1]? = l[i]? := List.getElem?_cons_succ
theorem g_zero {l : List α} {a : α} : (a :: l)[0]? = some a := List.getElem?_cons_zero
theorem s_succ {l : List α} {a b : α} {i : Nat} : (a :: l).set (i + 1) b = a :: l.set i b := List.set_cons_succ
theorem s_zero {l : List α} {a b : α} : (a :: l).set 0 b = b :: l := List.set_cons_zero
theorem j_some {a : Option α} : (some a).join = a := Option.join_some
theorem b_some {a : α} {f : α → Option β} : (some a).bind f = f a := Option.bind_some ..
theorem m_some {a : α} {f : α → β} : (some a).map f = some (f a) := Option.map_some ..
theorem start_c {n : Nat} {d : DL.D} {ds : List DL.D} : startE (n + 1) (d :: ds) = some d :: startE n ds := by
  unfold startE
  rw [List.map_cons, List.length_cons, Nat.add_sub_add_right]
  rfl
theorem start_n {n : Nat} : startE (n + 1) [] = none :: startE n [] := by
  unfold startE
  rw [List.map_nil, List.length_nil, Nat.sub_zero, Nat.sub_zero, List.nil_append, List.nil_append, List.replicate_succ]
theorem start_0 : startE 0 [] = [] := rfl
theorem wipe_nil {ε : En} : wipeE ε [] = ε := rfl
theorem wipe_cons {ε : En} {v : Nat} {vs : List Nat} : wipeE ε (v :: vs) = (wipeE ε vs).set v none := rfl
theorem rest_nil {ε ε1 : En} : restE ε ε1 [] = ε := rfl
theorem rest_cons {ε ε1 : En} {v : Nat} {vs : List Nat} : restE ε ε1 (v :: vs) = (restE ε ε1 vs).set v (ε1[v]?).join := rfl
theorem bindD_nm {i : Nat} {d : DL.D} {ε : En} : bindD (.nm i) d ε = some (ε.set i (some d)) := rfl
theorem bindD_tup {ts : List Tg} {ds : List DL.D} {ε : En} : bindD (.tup ts) (.tuple ds) ε = bindL ts ds ε := rfl
theorem bindL_nil {ε : En} : bindL [] [] ε = some ε := rfl
theorem bindL_cons {t : Tg} {ts : List Tg} {d : DL.D} {ds : List DL.D} {ε : En} : bindL (t :: ts) (d :: ds) ε = (bindD t d ε).bind fun ε' => bindL ts ds ε' := rfl
theorem i_t {a b : α} : (if true = true then a else b) = a := rfl
theorem i_f {a b : α} : (if false = true then a else b) = b := rfl
theorem i_T {a b : α} : (if True then a else b) = a := if_pos trivial
theorem i_F {a b : α} : (if False then a else b) = b := if_neg id
theorem e_ft : (false = true) = False := Bool.false_eq_true
theorem n_t : (!true) = false := rfl
theorem n_f : (!false) = true := rfl
theorem and_t {b : Bool} : (true && b) = b := Bool.true_and b
theorem and_f {b : Bool} : (false && b) = false := Bool.false_and b
theorem len_n : ([] : List α).length = 0 := rfl
theorem len_c {a : α} {l : List α} : (a :: l).length = l.length + 1 := rfl
theorem len_m {f : α → β} {l : List α} : (l.map f).length = l.length := List.length_map ..
theorem lc_nil {q : α → Option Bool} {e : α → Option β} : lcF q e [] = some [] := rfl
theorem lc_cons {q : α → Option Bool} {e : α → Option β} {a : α} {r : List α} : lcF q e (a :: r) = (q a).bind fun b => if b = true then (e a).bind fun y => (lcF q e r).bind fun ys => some (y :: ys) else lcF q e r := rfl
theorem lc_map {γ : Type} {q : α → Option Bool} {e : α → Option β} {g : γ → α} : ∀ {xs : List γ}, lcF q e (xs.map g) = lcF (fun x => q (g x)) (fun x => e (g x)) xs
  | [] => rfl
  | x :: xs => by
    rw [List.map_cons, lc_cons, lc_cons, lc_map]
theorem lc_all {f : α → β} : ∀ {xs : List α}, lcF (fun _ => some true) (fun a => some (f a)) xs = some (xs.map f)
  | [] => rfl
  | x :: xs => by rw [lc_cons, lc_all]; rfl
theorem lc_filter {p : α → Bool} {f : α → β} : ∀ {xs : List α}, lcF (fun a => some (p a)) (fun a => some (f a)) xs = some ((xs.filter p).map f)
  | [] => rfl
  | x :: xs => by
    rw [lc_cons, lc_filter, Option.bind_some]
    cases h : p x with
    | true => rw [List.filter_cons_of_pos h]; rfl
    | false => rw [List.filter_cons_of_neg (by rw [h]; decide)]; rfl
theorem lc_allD {f : α → DL.D} {xs : List α} : lcF (fun _ => some true) (fun a => some (f a)) xs = some (xs.map f) := lc_all
theorem lc_mem {q : α → Option Bool} {e : α → Option β} {p : α → Bool} {f : α → β} : ∀ {xs : List α}, (∀ x ∈ xs, q x = some (p x) ∧ (p x = true → e x = some (f x))) → lcF q e xs = some ((xs.filter p).map f)
  | [], _ => rfl
  | x :: xs, h => by
    obtain ⟨h1, h2⟩ := h x List.mem_cons_self
    rw [lc_cons, lc_mem (xs := xs) fun y hy => h y (List.mem_cons_of_mem _ hy), h1, Option.bind_some]
    cases hp : p x with
    | true => rw [List.filter_cons_of_pos hp, h2 hp]; rfl
    | false => rw [List.filter_cons_of_neg (by rw [hp]; decide)]; rfl
theorem lc_memA {q : α → Option Bool} {e : α → Option β} {f : α → β} {xs : List α} (h : ∀ x ∈ xs, q x = some true ∧ e x = some (f x)) : lcF q e xs = some (xs.map f) := by
  rw [lc_mem (p := fun _ => true) fun x hx => ⟨(h x hx).1, fun _ => (h x hx).2⟩, List.filter_eq_self.mpr fun _ _ => rfl]
end
theorem r_atl {xs : List DL.D} {i : Int} : dAt (.list xs) (.int i) = atI xs i := rfl
theorem r_att {xs : List DL.D} {i : Int} : dAt (.tuple xs) (.int i) = atI xs i := rfl
section
variable {α : Type}
theorem r_at0 {x : α} {xs : List α} : atI (x :: xs) 0 = some x := atI_0
theorem r_at1 {x y : α} {xs : List α} : atI (x :: y :: xs) 1 = some y := atI_1
theorem r_at2 {x y z : α} {xs : List α} : atI (x :: y :: z :: xs) 2 = some z := atI_2
theorem r_at3 {x y z u : α} {xs : List α} : atI (x :: y :: z :: u :: xs) 3 = some u := atI_3
end
section
variable {i j : Int} {xs : List DL.D} {d : DL.D} {x y : Str} {b : Bool}
theorem r_add : dAdd (.int i) (.int j) = some (.int (i + j)) := rfl
theorem r_sub : dSub (.int i) (.int j) = some (.int (i - j)) := rfl
theorem r_gt : dGt (.int i) (.int j) = some (.bool (decide (j < i))) := rfl
theorem r_ge : dGe (.int i) (.int j) = some (.bool (decide (j ≤ i))) := rfl
theorem r_lt : dLt (.int i) (.int j) = some (.bool (decide (i < j))) := rfl
theorem r_le : dLe (.int i) (.int j) = some (.bool (decide (i ≤ j))) := rfl
theorem r_int : dInt [.int i] = some (.int i) := rfl
theorem r_abs : dAbs [.int i] = some (.int (if i < 0 then -i else i)) := rfl
theorem r_neg : dNeg (.int i) = some (.int (-i)) := rfl
theorem r_lenl : dLen [.list xs] = some (.int xs.length) := rfl
theorem r_lent : dLen [.tuple xs] = some (.int xs.length) := rfl
theorem r_min : dMin2 [.int i, .int j] = some (.int (min i j)) := dMin_i
theorem r_tup : dTuple [.list xs] = some (.tuple xs) := rfl
theorem r_seql : seqD (.list xs) = some xs := rfl
theorem r_seqt : seqD (.tuple xs) = some xs := rfl
theorem r_mod2 : dMod (.int i) (.int 2) = some (.int (i % 2)) := dMod_i (by decide)
theorem r_mul2 : dMul (.int 2) (.int i) = some (.int (2 * i)) := dMul_l (by decide) (by decide)
end
theorem r_append {xs : List DL.D} {d : DL.D} (h : xs.length < sizeLine) : fAppend (.list xs) [d] = some (.none, .list (xs ++ [d])) := if_pos h
theorem r_extend {xs ys : List DL.D} (h : xs.length + ys.length ≤ sizeLine) : fExtA (.list xs) [.list ys] = some (.none, .list (xs ++ ys)) := if_pos h
theorem size_eq : sizeLine = 16777216 := rfl
def S_draw : FS := (fSeq (fPut 0 fSetL (lf (pBin dAdd (pBin dAt (pNm 0) (pC (.int 3))) (pC (.int 1)))) (lf (pC (.int 3))))
  (fSeq (fIf (lf (tP (pBin dGt (pBin dAt (pNm 0) (pC (.int 2))) (pC (.int 0))))) (fSeq (fSet 2 (lf (pBin dMod (pApp dInt [(pBin dAt (pNm 0) (pC (.int 2)))]) (pNm 1))))
  (fSeq (fPut 0 fSetL (lf (pBin dFdiv (pBin dAt (pNm 0) (pC (.int 2))) (pNm 1))) (lf (pC (.int 2))))
  (fRet (lf (pNm 2))))) fNil)
  (fSeq (fSet 3 (lf (pC (.int 83))))
  (fSeq (fIf (lf (tP (pBin dNe (pBin dAt (pNm 0) (pC (.int 0))) (pLst [])))) (fSet 3 (lf (pBin dAt (pBin dAt (pNm 0) (pC (.int 0))) (pBin dMod (pApp dInt [(pBin dAt (pNm 0) (pC (.int 1)))]) (pApp dLen [(pBin dAt (pNm 0) (pC (.int 0)))]))))) fNil)
  (fSeq (fPut 0 fSetL (lf (pBin dAdd (pBin dAt (pNm 0) (pC (.int 1))) (pC (.int 1)))) (lf (pC (.int 1))))
  (fSeq (fIf (lf (tAnd (tP (pBin dGe (pApp dAbs [(pNm 3)]) (pBin dPow (pC (.int 10)) (pC (.int 18))))) (tP (pBin dLe (pBin dAt (pNm 0) (pC (.int 1))) (pApp dLen [(pBin dAt (pNm 0) (pC (.int 0)))]))))) (fSeq (fPut 0 fSetL (lf (pBin dFdiv (pApp dAbs [(pNm 3)]) (pNm 1))) (lf (pC (.int 2))))
  (fRet (lf (pBin dMod (pApp dInt [(pApp dAbs [(pNm 3)])]) (pNm 1))))) fNil)
  (fSeq (fSet 4 (lf (pBin dMod (pBin dPow (pApp dInt [(pBin dAdd (pBin dMod (pApp dInt [(pNm 3)]) (pC (.int 2147483563))) (pBin dMul (pC (.int 77232917)) (pBin dAt (pNm 0) (pC (.int 3)))))]) (pC (.int 5))) (pC (.int 2147483399)))))
  (fSeq (fSet 4 (lf (pBin dMod (pBin dPow (pApp dInt [(pBin dAdd (pBin dMul (pNm 4) (pBin dAdd (pBin dMul (pC (.int 2)) (pBin dAt (pNm 0) (pC (.int 3)))) (pC (.int 7)))) (pC (.int 6449)))]) (pC (.int 3))) (pC (.int 2147483647)))))
  (fRet (lf (pBin dMod (pBin dFdiv (pNm 4) (pC (.int 32))) (pNm 1))))))))))))
def F_draw : FM := runM [.io, .val] false 5 S_draw
theorem r_set1 {x y d : DL.D} {xs : List DL.D} : fSetL (.list (x :: y :: xs)) (.int 1) d = some (.list (x :: d :: xs)) := fSetL_1
theorem r_set2 {x y z d : DL.D} {xs : List DL.D} : fSetL (.list (x :: y :: z :: xs)) (.int 2) d = some (.list (x :: y :: d :: xs)) := fSetL_2
theorem r_set3 {x y z u d : DL.D} {xs : List DL.D} : fSetL (.list (x :: y :: z :: u :: xs)) (.int 3) d = some (.list (x :: y :: z :: d :: xs)) := fSetL_3
def _root_.SsH1 : List Lean.Name := SsH0 ++ []
def _root_.SsL1 : List Lean.Name := SsL0 ++ [`DL.subX, `DL.asB_b, `FL.bd_ok, `FL.bd_ex, `FL.lf, `FL.pC, `FL.pNm, `FL.pBin, `FL.pUn, `FL.bO_b, `FL.pChain, `FL.pAnd, `FL.pOr, `FL.pNot, `FL.pIf, `FL.tP, `FL.tAnd, `FL.tOr, `FL.tNot, `FL.tYes, `FL.pArgs_nil, `FL.pArgs_cons, `FL.pApp, `FL.pTup, `FL.pLst, `FL.pCall, `FL.iO_i, `FL.ptF_no, `FL.ptF_ex, `FL.sO_s, `FL.iSeq, `FL.iApp, `FL.pLc, `FL.slF_at, `FL.mEx, `FL.mNm, `FL.mArgs_nil, `FL.mArgs_cons, `FL.mArgsC_nil, `FL.mArgsC_cons, `FL.mTup, `FL.mLst, `FL.mBin, `FL.valsF_nil, `FL.valsF_cons, `FL.mApp, `FL.setL_nil, `FL.setL_cons, `FL.rdO_ok, `FL.rdO_ex, `FL.mCall, `FL.mCallP, `FL.tM, `FL.ptM_no, `FL.ptM_ex, `FL.isL_l, `FL.mMut, `FL.jSeq, `FL.jApp, `FL.bn_ok, `FL.mLc, `FL.sq_nx, `FL.sq_rt, `FL.sq_bk, `FL.sq_ct, `FL.sq_ex, `FL.lp_nx, `FL.lp_ct, `FL.lp_bk, `FL.lp_rt, `FL.lp_ex, `FL.en_nx, `FL.en_ct, `FL.en_bk, `FL.en_rt, `FL.en_ex, `FL.killE_nil, `FL.killE_cons, `FL.fNil, `FL.fSeq, `FL.fSet, `FL.fDo, `FL.fRet, `FL.fRetO, `FL.fIf, `FL.fUnp, `FL.fPar, `FL.fPut, `FL.fKill, `FL.fEnd, `FL.forL_nil, `FL.fFor, `FL.endR_nx, `FL.endR_rt, `FL.endR_ex, `FL.outsD_nil, `FL.outsD_io, `FL.outsD_st, `FL.outsD_val, `FL.outsD_brw, `FL.valR_ok, `FL.g_succ, `FL.g_zero, `FL.s_succ, `FL.s_zero, `FL.j_some, `FL.b_some, `FL.m_some, `FL.start_c, `FL.start_n, `FL.start_0, `FL.wipe_nil, `FL.wipe_cons, `FL.rest_nil, `FL.rest_cons, `FL.bindD_nm, `FL.bindD_tup, `FL.bindL_nil, `FL.bindL_cons, `FL.i_t, `FL.i_f, `FL.i_T, `FL.i_F, `FL.e_ft, `FL.n_t, `FL.n_f, `FL.and_t, `FL.and_f, `FL.len_n, `FL.len_c, `FL.len_m, `FL.lc_nil, `FL.lc_map, `FL.lc_allD, `FL.r_atl, `FL.r_att, `FL.r_at0, `FL.r_at1, `FL.r_at2, `FL.r_at3, `FL.r_add, `FL.r_sub, `FL.r_gt, `FL.r_ge, `FL.r_lt, `FL.r_le, `FL.r_int, `FL.r_abs, `FL.r_neg, `FL.r_lenl, `FL.r_lent, `FL.r_min, `FL.r_tup, `FL.r_seql, `FL.r_seqt, `FL.r_mod2, `FL.r_mul2, `FL.r_set1, `FL.r_set2, `FL.r_set3]
local macro_rules | `(tactic| simp only [$as,*] $[$l]?) => SsM (`word_snoc :: SsH1 ++ SsL1) as.getElems l
theorem draw_F {ns : List Int} {i l c n : Int} (hi : 0 ≤ i) (hc : 0 ≤ c) (hc2 : c < 2 ^ 30 - 1) (hn : 0 < n) (hn2 : n < 1073741824) :
    ∃ r i' l' : Int, F_draw [dkD ns i l c, .int n] = some (.ok (.int r) [dkD ns i' l' (c + 1)]) ∧ 0 ≤ r ∧ r < n ∧ 0 ≤ i' := by
  have md : ∀ z : Int, 0 ≤ z % n ∧ z % n < n := fun z => ⟨Int.emod_nonneg _ (by omega), Int.emod_lt_of_pos _ hn⟩
  unfold F_draw runM dkD
  by_cases hl : 0 < l
  · refine ⟨l % n, i, l / n, ?_, (md _).1, (md _).2, hi⟩
    simp only [S_draw, ss_, decide_eq_true hl, dMod_i hn, dFdiv_i hn hn2]
  -- the cell
  obtain ⟨cell, hcell⟩ : ∃ cell : Int, ∀ k : En → Option (R Fl), sq (fIf (lf (tP (pBin dNe (pBin dAt (pNm 0) (pC (.int 0))) (pLst [])))) (fSet 3 (lf (pBin dAt (pBin dAt (pNm 0) (pC (.int 0))) (pBin dMod (pApp dInt [(pBin dAt (pNm 0) (pC (.int 1)))]) (pApp dLen [(pBin dAt (pNm 0) (pC (.int 0)))]))))) fNil
      [some (PyData.list [.list (ns.map PyData.int), .int i, .int l, .int (c + 1)]), some (.int n), none, some (.int 83), none]) k = k [some (PyData.list [.list (ns.map PyData.int), .int i, .int l, .int (c + 1)]), some (.int n), none, some (.int cell), none] := by
    by_cases hz : ns = []
    · subst hz
      refine ⟨83, fun k => ?_⟩
      simp only [ss_, ne_nil, List.isEmpty_nil, show dNe (.list []) (.list []) = some (.bool false) from ne_nil []]
    · have hz' : ns.isEmpty = false := by
        cases ns with
        | nil => exact (hz rfl).elim
        | cons a as => rfl
      have hp : 0 < ns.length := List.length_pos_iff.mpr hz
      have hp2 : (0 : Int) < (ns.length : Int) := by omega
      have a0 : 0 ≤ i % (ns.length : Int) := Int.emod_nonneg _ (by omega)
      have a1 : i % (ns.length : Int) < (ns.length : Int) := Int.emod_lt_of_pos _ (by omega)
      refine ⟨ns[(i % (ns.length : Int)).toNat]'(by omega), fun k => ?_⟩
      have e : atI (ns.map PyData.int) (i % (ns.length : Int)) = some (PyData.int (ns[(i % (ns.length : Int)).toNat]'(by omega))) := by
        rw [atI_nat a0 (by rw [List.length_map]; exact a1), List.getElem?_map, List.getElem?_eq_getElem (by omega)]
        rfl
      simp only [ss_, ne_nil, hz', dMod_i hp2, e]
  have ha : 0 ≤ (if cell < 0 then -cell else cell) := by split <;> omega
  have p18 : dPow (.int 10) (.int 18) = some (.int (10 ^ 18)) := dPow_i (i := 10) (j := 18) (by decide) (by decide) (by decide)
  by_cases hb : (10 : Int) ^ 18 ≤ (if cell < 0 then -cell else cell) ∧ i + 1 ≤ (ns.length : Int)
  · refine ⟨(if cell < 0 then -cell else cell) % n, i + 1, (if cell < 0 then -cell else cell) / n, ?_, (md _).1, (md _).2, by omega⟩
    simp only [fIf, ss_] at hcell
    simp only [S_draw, ss_, decide_eq_false hl, hcell, p18, decide_eq_true hb.1, decide_eq_true hb.2, dMod_i hn, dFdiv_i hn hn2]
  · have m0 : 0 ≤ cell % 2147483563 := Int.emod_nonneg _ (by decide)
    have m1 : cell % 2147483563 < 2147483563 := Int.emod_lt_of_pos _ (by decide)
    have b0 : (cell % 2147483563 + 77232917 * (c + 1)).natAbs < 2 ^ 64 := by omega
    have x0 : 0 ≤ (cell % 2147483563 + 77232917 * (c + 1)) ^ (5 : Int).toNat % 2147483399 := Int.emod_nonneg _ (by decide)
    have x1 : (cell % 2147483563 + 77232917 * (c + 1)) ^ (5 : Int).toNat % 2147483399 < 2147483399 := Int.emod_lt_of_pos _ (by decide)
    have d1 := dPow_i (i := cell % 2147483563 + 77232917 * (c + 1)) (j := 5) (by decide) (by decide) b0
    generalize (cell % 2147483563 + 77232917 * (c + 1)) ^ (5 : Int).toNat = y at *
    have d2 := dMod_i (i := y) (j := 2147483399) (by decide)
    generalize y % 2147483399 = x at *
    have b1 : (x * (2 * (c + 1) + 7) + 6449).natAbs < 2 ^ 64 := by
      have p : x * (2 * (c + 1) + 7) ≤ 2147483399 * (2 ^ 31 + 7) := Int.mul_le_mul (by omega) (by omega) (by omega) (by decide)
      have p0 : 0 ≤ x * (2 * (c + 1) + 7) := Int.mul_nonneg x0 (by omega)
      omega
    have d3 := dPow_i (i := x * (2 * (c + 1) + 7) + 6449) (j := 3) (by decide) (by decide) b1
    have d4 := dMul_l (j := 2 * (c + 1) + 7) x0 (by omega)
    generalize (x * (2 * (c + 1) + 7) + 6449) ^ (3 : Int).toNat = z at *
    refine ⟨z % 2147483647 / 32 % n, i + 1, l, ?_, (md _).1, (md _).2, by omega⟩
    have tst : (if decide ((10 : Int) ^ 18 ≤ (if cell < 0 then -cell else cell)) = true then some (decide (i + 1 ≤ (ns.length : Int))) else some false) = some false := by
      by_cases h1 : (10 : Int) ^ 18 ≤ (if cell < 0 then -cell else cell)
      · rw [if_pos (decide_eq_true h1), decide_eq_false fun z => hb ⟨h1, z⟩]
      · rw [decide_eq_false h1, if_neg (by decide)]
    simp only [fIf, ss_] at hcell
    simp only [S_draw, ss_, decide_eq_false hl, hcell, p18, tst, dMod_i (j := 2147483563) (by decide), dMul_i (i := 77232917) (j := c + 1) rfl, d1, d2, d4, d3, dMod_i (i := z) (j := 2147483647) (by decide), dFdiv_i (j := 32) (by decide) (by decide), dMod_i hn]
theorem draw_ok {m : Int} {dk : DL.D} {n : Int} (h : Dk m dk) (h2 : m < 1073741823 := by omega) (h3 : 0 < n := by omega) (h4 : n < 1073741824 := by omega) : ∃ (r : Int) (dk' : DL.D), F_draw [dk, .int n] = some (.ok (.int r) [dk']) ∧ 0 ≤ r ∧ r < n ∧ Dk (m + 1) dk' := by
  obtain ⟨ns, i, l, c, rfl, a1, a2, a3, a4⟩ := h
  obtain ⟨r, i', l', e, b1, b2, b3⟩ := draw_F (ns := ns) (i := i) (l := l) (c := c) (n := n) a2 a3 (by omega) h3 h4
  exact ⟨r, _, e, b1, b2, ns, i', l', c + 1, rfl, a1, b3, by omega, by omega⟩
end FL
namespace FL
open PySem PySem.Spec L2 DL
end FL
namespace FL
open PySem PySem.Spec L2 DL
def pk (p : Int × Int) : DL.D := .tuple [.int p.1, .int p.2]
def tL {α : Type} (f : α → DL.D) (xs : List α) : DL.D := .tuple (xs.map f)
def lL {α : Type} (f : α → DL.D) (xs : List α) : DL.D := .list (xs.map f)
/-- f may be compared: equal just for equal ones, at most k deep -/
class EncF {α : Type} [DecidableEq α] (f : α → DL.D) (k : outParam Nat) : Prop where
  can : ∀ a, PyData.canLay0 (f a) = true
  dep : ∀ a, PyData.depth (f a) ≤ k
  eqv : ∀ a b, PyData.eqv (f a) (f b) = decide (a = b)
instance : EncF PyData.int 0 := ⟨fun _ => rfl, fun _ => Nat.le_refl _, fun _ _ => rfl⟩
instance : EncF PyData.bool 0 := ⟨fun _ => rfl, fun _ => Nat.le_refl _, fun a b => by cases a <;> cases b <;> rfl⟩
instance : EncF pk 1 := ⟨fun _ => rfl, fun _ => Nat.le_refl _, fun p q => by
  obtain ⟨a, b⟩ := p
  obtain ⟨c, d⟩ := q
  show ((a == c) && ((b == d) && true)) = _
  rw [Bool.and_true, Bool.eq_iff_iff]
  simp⟩
section
variable {α : Type} [DecidableEq α] {f : α → DL.D} {k : Nat}
theorem EncF.sh [EncF f k] (a : α) : Sh k (f a) := ⟨EncF.can a, EncF.dep a⟩
theorem eqvAll [EncF f k] : ∀ {xs ys : List α}, PyData.eqvAll (xs.map f) (ys.map f) = decide (xs = ys)
  | [], [] => rfl
  | [], _ :: _ => rfl
  | _ :: _, [] => rfl
  | x :: xs, y :: ys => by
    show (PyData.eqv (f x) (f y) && PyData.eqvAll (xs.map f) (ys.map f)) = _
    rw [EncF.eqv, eqvAll, Bool.eq_iff_iff]
    simp
instance [EncF f k] : EncF (tL f) (k + 1) := ⟨fun xs => canAll fun x hx => by
    obtain ⟨a, _, rfl⟩ := List.mem_map.mp hx
    exact EncF.can a, fun xs => Nat.succ_le_succ (depAll fun x hx => by
    obtain ⟨a, _, rfl⟩ := List.mem_map.mp hx
    exact EncF.dep a), fun xs ys => eqvAll⟩
instance [EncF f k] : EncF (lL f) (k + 1) := ⟨fun xs => canAll fun x hx => by
    obtain ⟨a, _, rfl⟩ := List.mem_map.mp hx
    exact EncF.can a, fun xs => Nat.succ_le_succ (depAll fun x hx => by
    obtain ⟨a, _, rfl⟩ := List.mem_map.mp hx
    exact EncF.dep a), fun xs ys => eqvAll⟩
theorem r_eq [EncF f k] (hk : k ≤ 64) {a b : α} : dEq (f a) (f b) = some (.bool (decide (a = b))) := by
  rw [dEq_sh (EncF.sh a) (EncF.sh b) hk hk, EncF.eqv]
theorem r_ne [EncF f k] (hk : k ≤ 64) {a b : α} : dNe (f a) (f b) = some (.bool (decide (a ≠ b))) := by
  rw [dNe_sh (EncF.sh a) (EncF.sh b) hk hk, EncF.eqv, decide_not]
theorem any_eqv [EncF f k] {a : α} : ∀ {xs : List α} [Decidable (a ∈ xs)], (xs.map f).any (fun z => PyData.eqv z (f a)) = decide (a ∈ xs)
  | [], _ => by simp
  | x :: xs, i => by
    rw [List.map_cons, List.any_cons, any_eqv, EncF.eqv, Bool.eq_iff_iff]
    simp only [Bool.or_eq_true, decide_eq_true_eq, List.mem_cons]
    exact ⟨fun h => h.imp Eq.symm id, fun h => h.imp Eq.symm id⟩
theorem inD_map [EncF f k] (hk : k ≤ 64) {a : α} {xs : List α} [Decidable (a ∈ xs)] : inD false (f a) (xs.map f) = some (.bool (decide (a ∈ xs))) := by
  unfold inD
  rw [if_pos ⟨(EncF.sh (f := f) a).ok hk, canAll fun x hx => by
    obtain ⟨b, _, rfl⟩ := List.mem_map.mp hx
    exact EncF.can b⟩]
  show some (PyData.bool ((xs.map f).any fun z => PyData.eqv z (f a))) = _
  rw [any_eqv]
theorem notInD_map [EncF f k] (hk : k ≤ 64) {a : α} {xs : List α} [Decidable (a ∈ xs)] : inD true (f a) (xs.map f) = some (.bool (decide (a ∉ xs))) := by
  unfold inD
  rw [if_pos ⟨(EncF.sh (f := f) a).ok hk, canAll fun x hx => by
    obtain ⟨b, _, rfl⟩ := List.mem_map.mp hx
    exact EncF.can b⟩]
  show some (PyData.bool !((xs.map f).any fun z => PyData.eqv z (f a))) = _
  rw [any_eqv, decide_not]
theorem r_inT [EncF f k] (hk : k ≤ 64) {a : α} {xs : List α} [Decidable (a ∈ xs)] : dIn (f a) (tL f xs) = some (.bool (decide (a ∈ xs))) := inD_map hk
theorem r_inL [EncF f k] (hk : k ≤ 64) {a : α} {xs : List α} [Decidable (a ∈ xs)] : dIn (f a) (lL f xs) = some (.bool (decide (a ∈ xs))) := inD_map hk
theorem r_ninT [EncF f k] (hk : k ≤ 64) {a : α} {xs : List α} [Decidable (a ∈ xs)] : dNotIn (f a) (tL f xs) = some (.bool !(decide (a ∈ xs))) := (notInD_map hk).trans (by rw [decide_not])
theorem r_ninL [EncF f k] (hk : k ≤ 64) {a : α} {xs : List α} [Decidable (a ∈ xs)] : dNotIn (f a) (lL f xs) = some (.bool !(decide (a ∈ xs))) := (notInD_map hk).trans (by rw [decide_not])
theorem r_nnl : dNe (.list []) (.list []) = some (.bool false) := rfl
theorem r_nnt : dNe (.tuple []) (.tuple []) = some (.bool false) := rfl
theorem r_eel : dEq (.list []) (.list []) = some (.bool true) := rfl
theorem r_eet : dEq (.tuple []) (.tuple []) = some (.bool true) := rfl
theorem r_ne0l [EncF f k] (hk : k ≤ 63) {xs : List α} : dNe (lL f xs) (.list []) = some (.bool (decide (xs ≠ []))) := r_ne (f := lL f) (b := []) (Nat.succ_le_succ hk)
end
section
variable {α β : Type} {f : α → DL.D} {xs ys : List α} {p : Int × Int} {a b : Int} {ε : En} {i j : Nat}
theorem pk_fold : PyData.tuple [.int a, .int b] = pk (a, b) := rfl
theorem p_eta {p : Int × Int} : (p.1, p.2) = p := rfl
theorem tL_fold : PyData.tuple (xs.map f) = tL f xs := rfl
theorem lL_fold : PyData.list (xs.map f) = lL f xs := rfl
theorem r_pk0 : dAt (pk p) (.int 0) = some (.int p.1) := rfl
theorem r_pk1 : dAt (pk p) (.int 1) = some (.int p.2) := rfl
theorem seq_pk : seqD (pk p) = some [.int p.1, .int p.2] := rfl
theorem seq_tL : seqD (tL f xs) = some (xs.map f) := rfl
theorem seq_lL : seqD (lL f xs) = some (xs.map f) := rfl
theorem len_pk : dLen [pk p] = some (.int 2) := rfl
theorem len_tL : dLen [tL f xs] = some (.int xs.length) := by show some (PyData.int ((xs.map f).length : Nat)) = _; rw [List.length_map]
theorem tup_lL : dTuple [lL f xs] = some (tL f xs) := rfl
theorem list_lL : dList [lL f xs] = some (lL f xs) := rfl
theorem list_tL : dList [tL f xs] = some (lL f xs) := rfl
theorem isL_lL : isL (lL f xs) = true := rfl
theorem bind_pk : bindD (.tup [.nm i, .nm j]) (pk p) ε = some ((ε.set i (some (.int p.1))).set j (some (.int p.2))) := rfl
theorem app_lL {x : α} (h : xs.length < sizeLine) : fAppend (lL f xs) [f x] = some (.none, lL f (xs ++ [x])) := by
  show fAppend (.list (xs.map f)) [f x] = _
  rw [r_append (by rw [List.length_map]; exact h)]
  unfold lL
  rw [List.map_append]
  rfl
theorem ext_lL (h : xs.length + ys.length ≤ sizeLine) : fExtA (lL f xs) [lL f ys] = some (.none, lL f (xs ++ ys)) := by
  show fExtA (.list (xs.map f)) [.list (ys.map f)] = _
  rw [r_extend (by rw [List.length_map, List.length_map]; exact h)]
  unfold lL
  rw [List.map_append]
theorem ext_tL (h : xs.length + ys.length ≤ sizeLine) : fExtA (lL f xs) [tL f ys] = some (.none, lL f (xs ++ ys)) := ext_lL h
end
section
variable {c : Prop} [Decidable c]
theorem d_t : (decide c = true) = c := decide_eq_true_eq
theorem if_some {a b : DL.D} : (if c then some a else some b) = some (if c then a else b) := by split <;> rfl
theorem if_someB {a b : Bool} : (if c then some a else some b) = some (if c then a else b) := by split <;> rfl
theorem if_and {a : Bool} : (if c then a else false) = (decide c && a) := by split <;> simp_all
theorem if_or {a : Bool} : (if c then true else a) = (decide c || a) := by split <;> simp_all
theorem dec_and {a b : Prop} [Decidable a] [Decidable b] : decide (a ∧ b) = (decide a && decide b) := Bool.decide_and ..
theorem dec_not : decide (¬ c) = !decide c := decide_not
theorem and_eq {a b : Bool} : ((a && b) = true) = (a = true ∧ b = true) := by rw [Bool.and_eq_true]
theorem or_eq {a b : Bool} : ((a || b) = true) = (a = true ∨ b = true) := by rw [Bool.or_eq_true]
theorem not_eq {a : Bool} : ((!a) = true) = ¬ (a = true) := by cases a <;> simp
theorem if_bool {a b : Bool} : (if c then PyData.bool a else PyData.bool b) = PyData.bool (if c then a else b) := by split <;> rfl
end
section
variable {α : Type} {p : α → Bool} {f : α → Int} {xs : List α}
theorem bools_map : ∀ {xs : List α}, boolsOf (xs.map fun x => PyData.bool (p x)) = some (xs.map p)
  | [] => rfl
  | x :: xs => by
    show (boolsOf (xs.map fun x => PyData.bool (p x))).map (p x :: ·) = _
    rw [bools_map]
    rfl
theorem any_lL : dAny [lL (fun x => PyData.bool (p x)) xs] = some (.bool (xs.any p)) := by
  show (boolsOf (xs.map fun x => PyData.bool (p x))).map _ = _
  rw [bools_map, Option.map_some, List.any_map]
  rfl
theorem ints_map : ∀ {xs : List α}, intsOf (xs.map fun x => PyData.int (f x)) = some (xs.map f)
  | [] => rfl
  | x :: xs => by
    show (intsOf (xs.map fun x => PyData.int (f x))).map (f x :: ·) = _
    rw [ints_map]
    rfl
theorem sum_lL : dSum [lL (fun x => PyData.int (f x)) xs] = some (.int (xs.map f).sum) := by
  show (intsOf (xs.map fun x => PyData.int (f x))).map _ = _
  rw [ints_map]
  rfl
/-- the numbers of a range as whole numbers -/
def rgI (n : Int) : List Int := (List.range n.toNat).map fun (k : Nat) => (k : Int)
theorem rgI_fold {n : Int} : (List.range n.toNat).map (fun (k : Nat) => PyData.int (k : Int)) = (rgI n).map PyData.int := by unfold rgI; rw [List.map_map]; rfl
theorem mem_rgI {n i : Int} : i ∈ rgI n ↔ 0 ≤ i ∧ i < n := by
  unfold rgI
  simp only [List.mem_map, List.mem_range]
  constructor
  · rintro ⟨k, hk, rfl⟩; omega
  · intro h; exact ⟨i.toNat, by omega, by omega⟩
theorem rgI_len {n : Int} : (rgI n).length = n.toNat := by unfold rgI; rw [List.length_map, List.length_range]
end
section
variable {α : Type} {q : α → Bool}
theorem lc_int {f : α → Int} {xs : List α} : lcF (fun a => some (q a)) (fun a => some (PyData.int (f a))) xs = some (((xs.filter q).map f).map .int) := by rw [lc_filter, List.map_map]; rfl
theorem lc_pk {f : α → Int × Int} {xs : List α} : lcF (fun a => some (q a)) (fun a => some (pk (f a))) xs = some (((xs.filter q).map f).map pk) := by rw [lc_filter, List.map_map]; rfl
theorem filter_all {xs : List α} : xs.filter (fun _ => true) = xs := List.filter_eq_self.mpr fun _ _ => rfl
theorem map_id2 {xs : List α} : xs.map (fun a => a) = xs := List.map_id'' (fun _ => rfl) xs
end
structure Sheet where
  R : Int
  C : Int
  r1 : 1 ≤ R
  r2 : R ≤ 8
  c1 : 1 ≤ C
  c2 : C ≤ 8
def Sheet.d (S : Sheet) : DL.D := pk (S.R, S.C)
section
variable {S : Sheet} {a : Int}
theorem sh_0 : dAt S.d (.int 0) = some (.int S.R) := rfl
theorem sh_1 : dAt S.d (.int 1) = some (.int S.C) := rfl
theorem sh_fdiv : dFdiv (.int a) (.int S.C) = some (.int (a / S.C)) := dFdiv_i (by have := S.c1; omega) (by have := S.c2; omega)
theorem sh_mod : dMod (.int a) (.int S.C) = some (.int (a % S.C)) := dMod_i (by have := S.c1; omega)
theorem sh_mul : dMul (.int a) (.int S.C) = some (.int (a * S.C)) := dMul_r (by have := S.c1; omega) (by have := S.c2; omega)
theorem sh_rngR : rng1 [.int (S.R + 1)] = some ((List.range (S.R + 1).toNat).map fun (k : Nat) => PyData.int (k : Int)) := rng1_i (by have := S.r1; have := S.r2; omega)
theorem sh_rngC : rng1 [.int (S.C + 1)] = some ((List.range (S.C + 1).toNat).map fun (k : Nat) => PyData.int (k : Int)) := rng1_i (by have := S.c1; have := S.c2; omega)
end
end FL
namespace FL
open PySem PySem.Spec L2 DL
def pDict1 (k v : FP) : FP := fun ε => (k ε).bind fun x => (v ε).bind fun y => (keyTag x).bind fun _ => some (.dict [(x, y)])
theorem ip_dict1 {wk wv : WE} {k v : FP} (hk : IP wk k) (hv : IP wv v) : IP (eDict1 wk wv) (pDict1 k v) := fun ε x Q e q => by
  obtain ⟨a, e1, e⟩ := Option.bind_eq_some_iff.mp e
  obtain ⟨b, e2, e⟩ := Option.bind_eq_some_iff.mp e
  obtain ⟨t, e3, e⟩ := Option.bind_eq_some_iff.mp e
  cases e
  exact ⟨t, hk ε a _ e1 (hv ε b _ e2 ⟨e3, q⟩)⟩
/-- a dict's data: keys by f, values by g -/
def dcL {α β : Type} (f : α → DL.D) (g : β → DL.D) (xs : List (α × β)) : DL.D := .dict (xs.map fun p => (f p.1, g p.2))
/-- f makes keys of one kind -/
class KeyF {α : Type} (f : α → DL.D) (t : outParam Bool) : Prop where
  tag : ∀ a, keyTag (f a) = some t
instance : KeyF PyData.int false := ⟨fun _ => rfl⟩
instance : KeyF PyData.str false := ⟨fun _ => rfl⟩
instance : KeyF pk true := ⟨fun _ => rfl⟩
/-- b stands at a -/
def putX {α β : Type} [DecidableEq α] (xs : List (α × β)) (a : α) (b : β) : List (α × β) := if (xs.any fun p => decide (p.1 = a)) = true then xs.map fun p => if p.1 = a then (p.1, b) else p else xs ++ [(a, b)]
section
variable {α β : Type} [DecidableEq α] {f : α → DL.D} {g : β → DL.D} {k : Nat} {t : Bool} {xs : List (α × β)} {a : α} {b : β}
theorem dcL_ok [KeyF f t] : dictOk (xs.map fun p => (f p.1, g p.2)) (f a) = true := by
  unfold dictOk
  rw [KeyF.tag (f := f) a, Bool.and_eq_true]
  refine ⟨rfl, List.all_eq_true.mpr fun e he => ?_⟩
  obtain ⟨p, _, rfl⟩ := List.mem_map.mp he
  show (keyTag (f p.1) == some t) = true
  rw [KeyF.tag (f := f)]
  exact beq_self_eq_true _
theorem dcL_find [EncF f k] : findD (xs.map fun p => (f p.1, g p.2)) (f a) = (xs.find? fun p => decide (p.1 = a)).map fun p => g p.2 := by
  induction xs with
  | nil => rfl
  | cons x xs ih =>
    rw [List.map_cons, findD_cons, ih, EncF.eqv (f := f), List.find?_cons]
    by_cases h : x.1 = a
    · rw [if_pos (decide_eq_true h), decide_eq_true h]; rfl
    · rw [if_neg (by rw [decide_eq_false h]; decide), decide_eq_false h]
theorem dcL_put [EncF f k] : putD (xs.map fun p => (f p.1, g p.2)) (f a) (g b) = (putX xs a b).map fun p => (f p.1, g p.2) := by
  have any : ((xs.map fun p => (f p.1, g p.2)).any fun e => PyData.eqv e.1 (f a)) = xs.any fun p => decide (p.1 = a) := by
    rw [List.any_map]
    congr 1
    funext p
    exact EncF.eqv p.1 a
  unfold putD putX
  rw [any]
  split
  · rw [List.map_map, List.map_map]
    refine List.map_congr_left fun p _ => ?_
    show (if PyData.eqv (f p.1) (f a) = true then (f p.1, g b) else (f p.1, g p.2)) = (fun p => (f p.1, g p.2)) (if p.1 = a then (p.1, b) else p)
    rw [EncF.eqv]
    by_cases h : p.1 = a
    · rw [if_pos (decide_eq_true h), if_pos h]
    · rw [if_neg (by rw [decide_eq_false h]; decide), if_neg h]
  · rw [List.map_append]; rfl
theorem in_dc [KeyF f t] [EncF f k] : dIn (f a) (dcL f g xs) = some (.bool (decide (a ∈ xs.map (·.1)))) := by
  show (if dictOk _ (f a) = true then some (PyData.bool (if false = true then _ else _)) else none) = _
  rw [if_pos dcL_ok, if_neg Bool.false_ne_true, dcL_find, Option.isSome_map]
  congr 2
  rw [Bool.eq_iff_iff, List.find?_isSome, decide_eq_true_eq, List.mem_map]
  constructor
  · rintro ⟨p, h1, h2⟩; exact ⟨p, h1, of_decide_eq_true h2⟩
  · rintro ⟨p, h1, h2⟩; exact ⟨p, h1, decide_eq_true h2⟩
theorem nin_dc [KeyF f t] [EncF f k] : dNotIn (f a) (dcL f g xs) = some (.bool !(decide (a ∈ xs.map (·.1)))) := by
  have h := in_dc (f := f) (g := g) (xs := xs) (a := a)
  have h1 : (if dictOk (xs.map fun p => (f p.1, g p.2)) (f a) = true then some (PyData.bool (findD (xs.map fun p => (f p.1, g p.2)) (f a)).isSome) else none) = some (PyData.bool (decide (a ∈ xs.map (·.1)))) := h
  show (if dictOk (xs.map fun p => (f p.1, g p.2)) (f a) = true then some (PyData.bool !(findD (xs.map fun p => (f p.1, g p.2)) (f a)).isSome) else none) = _
  rw [if_pos dcL_ok] at h1 ⊢
  injection h1 with h1
  injection h1 with h1
  rw [h1]
theorem set_dc [KeyF f t] [EncF f k] (h : xs.length < sizeLine) : fSetL (dcL f g xs) (f a) (g b) = some (dcL f g (putX xs a b)) := by
  show (if dictOk _ (f a) = true ∧ (xs.map fun p => (f p.1, g p.2)).length < sizeLine then _ else none) = _
  rw [if_pos ⟨dcL_ok, by rw [List.length_map]; exact h⟩, dcL_put]
  rfl
theorem sorted_dc : dSorted [dcL f g xs] = dSorted [lL f (xs.map (·.1))] := by
  show (if sortB ((xs.map fun p => (f p.1, g p.2)).map (·.1)) = true then _ else _) = (if sortB ((xs.map (·.1)).map f) = true then _ else _)
  rw [List.map_map, List.map_map]
  rfl
theorem putX_new (h : a ∉ xs.map (·.1)) : putX xs a b = xs ++ [(a, b)] := by
  unfold putX
  rw [if_neg]
  intro z
  obtain ⟨p, hp, e⟩ := List.any_eq_true.mp z
  exact h (List.mem_map.mpr ⟨p, hp, of_decide_eq_true e⟩)
end
def dsL {α : Type} (f : α → DL.D) (F : List α) : DL.D := dcL f PyData.bool (F.map fun a => (a, true))
section
variable {α : Type} [DecidableEq α] {f : α → DL.D} {k : Nat} {t : Bool} {F : List α} {a : α}
theorem ds_keys : (F.map fun a => (a, true)).map (·.1) = F := by rw [List.map_map]; exact List.map_id'' (fun _ => rfl) F
theorem nin_ds [KeyF f t] [EncF f k] : dNotIn (f a) (dsL f F) = some (.bool !(decide (a ∈ F))) := by
  unfold dsL
  rw [nin_dc]
  simp only [ds_keys]
theorem set_ds [KeyF f t] [EncF f k] (h : F.length < sizeLine) (n : a ∉ F) : fSetL (dsL f F) (f a) (.bool true) = some (dsL f (F ++ [a])) := by
  unfold dsL
  rw [set_dc (g := PyData.bool) (by rw [List.length_map]; exact h), putX_new (by rw [ds_keys]; exact n), List.map_append]
  rfl
theorem sorted_ds : dSorted [dsL f F] = dSorted [lL f F] := by
  unfold dsL
  rw [sorted_dc, ds_keys]
end
theorem ds_oneI {b : Int} : PyData.dict [(.int b, .bool true)] = dsL PyData.int [b] := rfl
theorem ds_oneP {b : Int × Int} : PyData.dict [(pk b, .bool true)] = dsL pk [b] := rfl
theorem keyTag_int {b : Int} : keyTag (.int b) = some false := rfl
theorem keyTag_str {b : Str} : keyTag (.str b) = some false := rfl
theorem keyTag_pk {b : Int × Int} : keyTag (pk b) = some true := rfl
def iEnu (a : FP) : FI := fun ε => (a ε).bind fun x => (seqD x).bind fun r => some (enumD r)
theorem ii_enu {sl : List Nat} {o : Op} {a : FP} (ha : IPZ sl o a) : II sl (wEnum o) (iEnu a) := fun ε ds Q e q => by
  obtain ⟨x, e1, e⟩ := Option.bind_eq_some_iff.mp e
  obtain ⟨r, e2, e⟩ := Option.bind_eq_some_iff.mp e
  cases e
  exact ha ε x _ e1 fun fx ex kx => ⟨x, r, ex, e2, q _ fun ε' h => kx ε' h⟩
end FL
namespace FL
open PySem PySem.Spec L2 DL
def sortI (xs : List Int) : List Int := xs.mergeSort fun a b => decide (a ≤ b)
theorem leD_int {a b : Int} : leD (.int a) (.int b) = decide (a ≤ b) := by
  show (!PyProof.Rows.lexLt PyProof.Rows.itemOrd [.inl b] [.inl a]) = _
  by_cases h : b < a
  · have : PyProof.Rows.lexLt PyProof.Rows.itemOrd [.inl b] [.inl a] = true := by
      simp [PyProof.Rows.lexLt, PyProof.Rows.itemLt, h]
    rw [this, decide_eq_false (by omega)]; rfl
  · have : PyProof.Rows.lexLt PyProof.Rows.itemOrd [.inl b] [.inl a] = false := by
      simp [PyProof.Rows.lexLt, PyProof.Rows.itemLt, h]
    rw [this, decide_eq_true (by omega)]; rfl
theorem sortB_int {xs : List Int} : sortB (xs.map .int) = true := by
  unfold sortB
  have h1 : ((xs.map PyData.int).all fun a => (xs.map PyData.int).all fun b => PySem.W.alike a b) = true := by
    refine List.all_eq_true.mpr fun x hx => List.all_eq_true.mpr fun y hy => ?_
    obtain ⟨a, _, rfl⟩ := List.mem_map.mp hx
    obtain ⟨b, _, rfl⟩ := List.mem_map.mp hy
    rfl
  have h2 : ((xs.map PyData.int).all noTup) = true := by
    simp only [List.all_map, List.all_eq_true]
    intro a _
    rfl
  have h3 : ((xs.map PyData.int).all fun d => decide (d.depth ≤ 64) && !d.hasDict) = true := by
    simp only [List.all_map, List.all_eq_true]
    intro a _
    rfl
  rw [h1, h2, h3, Bool.or_true]
  rfl
theorem sorted_int {xs : List Int} : dSorted [lL .int xs] = some (lL .int (sortI xs)) := by
  show (if sortB (xs.map .int) = true then some (PyData.list (sortD (xs.map .int))) else none) = _
  rw [if_pos sortB_int]
  unfold sortD sortI lL
  rw [List.map_mergeSort (r := fun a b : Int => decide (a ≤ b)) (s := leD) (f := PyData.int) (fun a _ b _ => leD_int.symm)]
theorem sortI_perm (xs : List Int) : (sortI xs).Perm xs := List.mergeSort_perm _ _
theorem sortI_mem {xs : List Int} {a : Int} : a ∈ sortI xs ↔ a ∈ xs := (sortI_perm xs).mem_iff
theorem sortI_le (xs : List Int) : (sortI xs).Pairwise (· ≤ ·) := by
  have := List.pairwise_mergeSort (le := fun a b : Int => decide (a ≤ b)) (fun a b c h1 h2 => by simp at *; omega) (fun a b => by simp; omega) xs
  exact this.imp fun h => by simpa using h
/-- ascending, none twice -/
def Asc (xs : List Int) : Prop := xs.Pairwise (· < ·)
theorem sortI_asc {xs : List Int} (h : xs.Nodup) : Asc (sortI xs) := by
  have n : (sortI xs).Nodup := (sortI_perm xs).nodup_iff.mpr h
  have l := sortI_le xs
  unfold Asc
  have n : (sortI xs).Pairwise (· ≠ ·) := n
  exact (l.and n).imp fun h => by have := h.1; have := h.2; omega
theorem Asc.nodup {xs : List Int} (h : Asc xs) : xs.Nodup := (show xs.Pairwise (· < ·) from h).imp fun h => by omega
/-- two ascending lists with the same items are one -/
theorem asc_ext : ∀ {xs ys : List Int}, Asc xs → Asc ys → (∀ a, a ∈ xs ↔ a ∈ ys) → xs = ys
  | [], [], _, _, _ => rfl
  | [], y :: ys, _, _, h => absurd ((h y).mpr List.mem_cons_self) (by simp)
  | x :: xs, [], _, _, h => absurd ((h x).mp List.mem_cons_self) (by simp)
  | x :: xs, y :: ys, hx, hy, h => by
    obtain ⟨hx1, hx2⟩ := List.pairwise_cons.mp hx
    obtain ⟨hy1, hy2⟩ := List.pairwise_cons.mp hy
    have e : x = y := by
      rcases List.mem_cons.mp ((h x).mp List.mem_cons_self) with e | e
      · exact e
      · rcases List.mem_cons.mp ((h y).mpr List.mem_cons_self) with e2 | e2
        · exact e2.symm
        · have := hx1 y e2
          have := hy1 x e
          omega
    subst e
    rw [asc_ext hx2 hy2 fun a => ?_]
    constructor
    · intro ha
      have := hx1 a ha
      rcases List.mem_cons.mp ((h a).mp (List.mem_cons_of_mem _ ha)) with e | e
      · omega
      · exact e
    · intro ha
      have := hy1 a ha
      rcases List.mem_cons.mp ((h a).mpr (List.mem_cons_of_mem _ ha)) with e | e
      · omega
      · exact e
theorem asc_rgI {n : Int} : Asc (rgI n) := by
  unfold Asc rgI
  rw [List.pairwise_map]
  exact List.pairwise_lt_range.imp fun h => by omega
theorem Asc.filter {xs : List Int} (h : Asc xs) (p : Int → Bool) : Asc (xs.filter p) := List.Pairwise.filter p h
theorem Asc.sub {xs ys : List Int} (h : Asc xs) (s : ys.Sublist xs) : Asc ys := List.Pairwise.sublist s h
/-- an ascending list of numbers below n has at most n items -/
theorem asc_len {xs : List Int} {n : Int} (h : Asc xs) (hb : ∀ a ∈ xs, 0 ≤ a ∧ a < n) : xs.length ≤ n.toNat := by
  have e : xs = (rgI n).filter fun a => decide (a ∈ xs) := asc_ext h (asc_rgI.filter _) fun a => by
    rw [List.mem_filter, mem_rgI, decide_eq_true_eq]
    exact ⟨fun z => ⟨hb a z, z⟩, fun z => z.2⟩
  rw [e]
  refine Nat.le_trans (List.length_filter_le _ _) ?_
  rw [rgI_len]
  exact Nat.le_refl _
end FL
namespace FL
open PySem PySem.Spec L2 DL
end FL
namespace FL
open PySem PySem.Spec L2 DL
def rdX (r : RD) (ε : En) : R DL.D := match r with
  | .ok d _ => .ok d ε
  | .ex x _ => .ex x ε
theorem rdX_ok {d : DL.D} {o : List DL.D} {ε : En} : rdX (.ok d o) ε = .ok d ε := rfl
theorem rdX_ex {x : Exn} {o : List DL.D} {ε : En} : rdX (.ex x o) ε = .ex x ε := rfl
section
variable {Rx : RX}
/-- what becomes of what the body raises -/
def tryO (i : Nat) (cs : List Str) (h : Str) (f : Exn → Option DL.D) (m : Option (R Fl)) : Option (R Fl) := match m with
  | some (.ex x ε1) => if cs.contains x.cls = true then if subX x.cls h = true then (f x).bind fun dd => some (.ok (.rt dd) (ε1.set i none)) else some (.ex x ε1) else none
  | r => r
theorem tryO_nx {i : Nat} {cs : List Str} {h : Str} {f : Exn → Option DL.D} {ε : En} : tryO i cs h f (some (.ok .nx ε)) = some (.ok .nx ε) := rfl
theorem tryO_rt {i : Nat} {cs : List Str} {h : Str} {f : Exn → Option DL.D} {d : DL.D} {ε : En} : tryO i cs h f (some (.ok (.rt d) ε)) = some (.ok (.rt d) ε) := rfl
theorem tryO_ex {i : Nat} {cs : List Str} {h : Str} {f : Exn → Option DL.D} {x : Exn} {ε1 : En} : tryO i cs h f (some (.ex x ε1)) = if cs.contains x.cls = true then if subX x.cls h = true then (f x).bind fun dd => some (.ok (.rt dd) (ε1.set i none)) else some (.ex x ε1) else none := rfl
end
end FL
namespace DL
open PySem PySem.Spec L2
def keyOf : D → Option Key
  | .int i => some (.inl i)
  | .str x => some (.inr x)
  | _ => none
end DL
namespace DL
open PySem PySem.Spec L2
mutual
def flatA : D → Bool
  | .list ds => flatL ds
  | .tuple ds => flatL ds
  | .dict es => flatK es
  | _ => true
def flatL : List D → Bool
  | [] => true
  | d :: ds => flatA d && flatL ds
def flatK : List (D × D) → Bool
  | [] => true
  | (k, d) :: es => plainK (k, d) && (flatA d && flatK es)
end
end DL
namespace DL
open PySem PySem.Spec L2 PyProof.Rows
end DL
namespace PySem
open Sem (wp)
open PyProof.Rows
end PySem
namespace DL
open PySem PySem.Spec L2 PyProof.Rows
end DL
namespace DL
open PySem PySem.Spec L2 PyProof.Rows
end DL
namespace FL
open PySem PySem.Spec L2 DL
end FL
namespace ZN
open PySem PySem.Spec PyProof.Rows L2
open PySem.Sem (wp)
def nm (ls : List (Bool × Addr × Array Value)) : List (Bool × Addr) := ls.map fun x => (x.1, x.2.1)
end ZN
namespace DL
open PySem PySem.Spec L2
end DL
namespace FL
open PySem PySem.Spec L2 DL
end FL
namespace DL
open PySem PySem.Spec L2 PyProof.Rows
end DL
namespace DL
open PySem PySem.Spec L2
end DL
namespace DL
open PySem PySem.Spec L2 PyProof.Rows
end DL
namespace DL
open PySem PySem.Spec L2 PyProof.Rows
end DL
namespace DL
open PySem PySem.Spec L2
def namesAt (ε : En) : List Nat → Option (List D)
  | [] => some []
  | i :: is => ((ε[i]?).join).bind fun d => (namesAt ε is).bind fun ds => some (d :: ds)
end DL
namespace FL
open PySem PySem.Spec L2 DL
theorem namesAt_n {ε : En} : namesAt ε [] = some [] := rfl
theorem namesAt_c {ε : En} {i : Nat} {is : List Nat} : namesAt ε (i :: is) = ((ε[i]?).join).bind fun d => (namesAt ε is).bind fun ds => some (d :: ds) := rfl
end FL
namespace DL
open PySem PySem.Spec L2 PyProof.Rows
end DL
namespace DL
open PySem PySem.Spec L2 PyProof.Rows
end DL
namespace DL
open PySem PySem.Spec L2 PyProof.Rows
end DL
namespace DL
open PySem PySem.Spec L2
end DL
namespace PySem
open Sem (wp)
open PyProof.Rows
end PySem
namespace DL
open PySem PySem.Spec L2 PyProof.Rows
end DL
namespace FL
open PySem PySem.Spec L2 DL
end FL
namespace DL
open PySem PySem.Spec L2
end DL
namespace FL
open PySem PySem.Spec L2 DL
end FL
namespace DL
open PySem PySem.Spec L2
end DL
namespace DL
open PySem PySem.Spec L2
section
variable {S : SCx} {e e2 : Expr} {f g : Exn → Option D} {p q pos : Pos}
def eqS : D → D → Option D := fun a b => match a, b with
  | .int i, .int j => some (.bool (decide (i = j)))
  | .str i, .str j => some (.bool (decide (i = j)))
  | _, _ => none
theorem eqS_s {i j : Str} : eqS (.str i) (.str j) = some (.bool (decide (i = j))) := rfl
end
end DL
namespace DL
open PySem PySem.Spec L2 PyProof.Rows
abbrev HdF := Str × Option Nat × (Exn → Option D)
def unE (i : Option Nat) (ε : En) : En := match i with
  | none => ε
  | some j => ε.set j none
end DL
namespace DL
open PySem PySem.Spec L2
end DL
namespace DL
open PySem PySem.Spec L2
end DL
namespace FL
open PySem PySem.Spec L2 DL
end FL
namespace DL
open PySem PySem.Spec L2
def dEqE : D → D → Option D
  | .tuple xs, .tuple [] => some (.bool xs.isEmpty)
  | _, _ => none
end DL
namespace FL
open PySem PySem.Spec L2 DL
theorem eqE_r {xs : List DL.D} : dEqE (.tuple xs) (.tuple []) = some (.bool xs.isEmpty) := rfl
end FL
namespace DL
open PySem PySem.Spec L2
def bindU (ts : List Tg) (d : D) (ε : En) : Option En := match d with
  | .list ds => bindL ts ds ε
  | _ => none
end DL
namespace FL
open PySem PySem.Spec L2 DL
theorem bindU_l {ts : List Tg} {ds : List DL.D} {ε : En} : bindU ts (.list ds) ε = bindL ts ds ε := rfl
end FL
namespace FL
open PySem PySem.Spec L2 DL
section
variable {Rx : RX}
def tryC (x : Exn) (ε : En) : List HdF → Option (R Fl)
  | [] => some (.ex x ε)
  | h :: hs => if subX x.cls h.1 = true then (h.2.2 x).bind fun dd => some (.ok (.rt dd) (unE h.2.1 ε)) else tryC x ε hs
theorem tryC_nil {x : Exn} {ε : En} : tryC x ε [] = some (.ex x ε) := rfl
theorem tryC_cons {x : Exn} {ε : En} {h : Str} {i : Option Nat} {f : Exn → Option DL.D} {hs : List HdF} : tryC x ε ((h, i, f) :: hs) = if subX x.cls h = true then (f x).bind fun dd => some (.ok (.rt dd) (unE i ε)) else tryC x ε hs := rfl
theorem unE_some {i : Nat} {ε : En} : unE (some i) ε = ε.set i none := rfl
theorem unE_none {ε : En} : unE none ε = ε := rfl
def tryN (cs : List Str) (hs : List HdF) (m : Option (R Fl)) : Option (R Fl) := match m with
  | some (.ex x ε1) => if cs.contains x.cls = true then tryC x ε1 hs else none
  | r => r
theorem tryN_nx {cs : List Str} {hs : List HdF} {ε : En} : tryN cs hs (some (.ok .nx ε)) = some (.ok .nx ε) := rfl
theorem tryN_rt {cs : List Str} {hs : List HdF} {d : DL.D} {ε : En} : tryN cs hs (some (.ok (.rt d) ε)) = some (.ok (.rt d) ε) := rfl
theorem tryN_ex {cs : List Str} {hs : List HdF} {x : Exn} {ε1 : En} : tryN cs hs (some (.ex x ε1)) = if cs.contains x.cls = true then tryC x ε1 hs else none := rfl
end
end FL
namespace L2
open PySem PySem.Spec PyProof.Rows
section
variable {P : Program} {w : World} {A : Around} {E : Value → Shared → Prop} {s : Shared}
/-- what stands where a new set is laid -/
abbrev bareSet (w : World) : Obj := { cls := .type "set", dict := none, data := .set #[] 0 (.fresh 0 0 (!w.params.followText "set-order")) }
end
end L2
namespace DL
open PySem PySem.Spec L2 PyProof.Rows
def prsOf : List D → Option (List (Int × Int))
  | [] => some []
  | .tuple [.int a, .int b] :: r => (prsOf r).map ((a, b) :: ·)
  | _ => none
def inB (p : Int × Int) : Bool := decide (0 ≤ p.1 ∧ p.1 < 64) && decide (0 ≤ p.2 ∧ p.2 < 64)
end DL
namespace FL
open PySem PySem.Spec L2 DL
def S_ends_of : FS :=
  (fSeq (fPar [2, 3] [(lf (pBin dFdiv (pNm 1) (pBin dAt (pNm 0) (pC (.int 1))))), (lf (pBin dMod (pNm 1) (pBin dAt (pNm 0) (pC (.int 1)))))])
  (fSeq (fIf (lf (tP (pBin dEq (pBin dMod (pBin dAdd (pNm 2) (pNm 3)) (pC (.int 2))) (pC (.int 0))))) (fRet (lf (pTup [(pTup [(pNm 2), (pNm 3)]), (pTup [(pBin dAdd (pNm 2) (pC (.int 1))), (pBin dAdd (pNm 3) (pC (.int 1)))])]))) fNil)
  (fRet (lf (pTup [(pTup [(pNm 2), (pBin dAdd (pNm 3) (pC (.int 1)))]), (pTup [(pBin dAdd (pNm 2) (pC (.int 1))), (pNm 3)])])))))
def F_ends_of : FD := runP [.val, .val] false 4 S_ends_of
def S_law_ends : FS :=
  (fSeq (fPar [2, 3] [(lf (pBin dFdiv (pNm 1) (pBin dAt (pNm 0) (pC (.int 1))))), (lf (pBin dMod (pApp dInt [(pNm 1)]) (pBin dAt (pNm 0) (pC (.int 1)))))])
  (fSeq (fIf (lf (tP (pBin dEq (pBin dMod (pApp dInt [(pBin dAdd (pNm 2) (pNm 3))]) (pC (.int 2))) (pC (.int 0))))) (fRet (lf (pTup [(pTup [(pNm 2), (pNm 3)]), (pTup [(pBin dAdd (pNm 2) (pC (.int 1))), (pBin dAdd (pNm 3) (pC (.int 1)))])]))) fNil)
  (fRet (lf (pTup [(pTup [(pNm 2), (pBin dAdd (pNm 3) (pC (.int 1)))]), (pTup [(pBin dAdd (pNm 2) (pC (.int 1))), (pNm 3)])])))))
def F_law_ends : FD := runP [.val, .val] false 4 S_law_ends
def S_law_one : FS :=
  (fRet (mBin dAt (mNm 1) (mEx (mCall F_draw [0] [(mNm 0), (mEx (lf (pApp dLen [(pNm 1)])))]))))
def F_law_one : FM := runM [.io, .val] false 2 S_law_one
def S_law_sheet : FS :=
  (fSeq (fSet 2 (mCall F_law_one [0] [(mNm 0), (mEx (lf (pLst [(pNm 1), (pNm 1), (pApp dMin2 [(pNm 1), (pC (.int 4))]), (pApp dMin2 [(pNm 1), (pC (.int 3))])])))]))
  (fRet (mTup [(mBin dAdd (mEx (lf (pC (.int 1)))) (mEx (mCall F_draw [0] [(mNm 0), (mNm 2)]))), (mBin dAdd (mEx (lf (pC (.int 1)))) (mEx (mCall F_draw [0] [(mNm 0), (mNm 2)])))])))
def F_law_sheet : FM := runM [.io, .val] false 3 S_law_sheet
def S_bars_of : FS :=
  (fSeq (fUnp (.tup [(.nm 2), (.nm 3)]) (lf (pNm 1)))
  (fSeq (fSet 4 (lf (pLst [(pTup [(pBin dSub (pNm 2) (pC (.int 1))), (pBin dSub (pNm 3) (pC (.int 1)))]), (pTup [(pBin dSub (pNm 2) (pC (.int 1))), (pNm 3)]), (pTup [(pNm 2), (pBin dSub (pNm 3) (pC (.int 1)))]), (pTup [(pNm 2), (pNm 3)])])))
  (fRet (lf (pApp dTuple [(pLc (iSeq (pNm 4)) (.tup [(.nm 5), (.nm 6)]) (tAnd (tP (pChain dLe dLt (pC (.int 0)) (pNm 5) (pBin dAt (pNm 0) (pC (.int 0))))) (tP (pChain dLe dLt (pC (.int 0)) (pNm 6) (pBin dAt (pNm 0) (pC (.int 1)))))) (pBin dAdd (pBin dMul (pNm 5) (pBin dAt (pNm 0) (pC (.int 1)))) (pNm 6)) [5, 6])])))))
def F_bars_of : FD := runP [.val, .val] false 7 S_bars_of
def B_knots : FS :=
  (fEnd [2] (fDo (mMut 1 fExtA [(lf (pLc (iApp rng1 [(pBin dAdd (pBin dAt (pNm 0) (pC (.int 1))) (pC (.int 1)))]) (.nm 3) (tP (pBin dEq (pBin dMod (pBin dAdd (pNm 2) (pNm 3)) (pC (.int 2))) (pC (.int 0)))) (pTup [(pNm 2), (pNm 3)]) [3]))])))
def S_knots : FS :=
  (fSeq (fSet 1 (lf (pLst [])))
  (fKill [2] (fSeq (fFor (lf (iApp rng1 [(pBin dAdd (pBin dAt (pNm 0) (pC (.int 0))) (pC (.int 1)))])) (.nm 2) B_knots)
  (fRet (lf (pApp dTuple [(pNm 1)]))))))
def F_knots : FD := runP [.val] false 4 S_knots
def endsI (S : Sheet) (b : Int) : (Int × Int) × (Int × Int) := if (b / S.C + b % S.C) % 2 = 0 then ((b / S.C, b % S.C), (b / S.C + 1, b % S.C + 1)) else ((b / S.C, b % S.C + 1), (b / S.C + 1, b % S.C))
def endsD (S : Sheet) (b : Int) : DL.D := .tuple [pk (endsI S b).1, pk (endsI S b).2]
def _root_.SsH2 : List Lean.Name := SsH1 ++ [`FL.lc_int, `FL.lc_pk]
def _root_.SsL2 : List Lean.Name := SsL1 ++ [`FL.r_eq, `FL.r_ne, `FL.r_inT, `FL.r_inL, `FL.r_ninT, `FL.r_ninL, `FL.r_nnl, `FL.r_nnt, `FL.r_eel, `FL.r_eet, `FL.r_ne0l, `FL.pk_fold, `FL.p_eta, `FL.tL_fold, `FL.lL_fold, `FL.r_pk0, `FL.r_pk1, `FL.seq_pk, `FL.seq_tL, `FL.seq_lL, `FL.len_pk, `FL.len_tL, `FL.tup_lL, `FL.list_lL, `FL.list_tL, `FL.isL_lL, `FL.bind_pk, `FL.d_t, `FL.if_some, `FL.if_someB, `FL.if_and, `FL.if_or, `FL.dec_and, `FL.dec_not, `FL.and_eq, `FL.or_eq, `FL.not_eq, `FL.if_bool, `FL.any_lL, `FL.sum_lL, `FL.rgI_fold, `FL.filter_all, `FL.map_id2, `FL.sh_0, `FL.sh_1, `FL.sh_fdiv, `FL.sh_mod, `FL.sh_mul, `FL.sh_rngR, `FL.sh_rngC, `FL.pDict1, `FL.in_dc, `FL.nin_dc, `FL.nin_ds, `FL.sorted_ds, `FL.ds_oneI, `FL.ds_oneP, `FL.keyTag_int, `FL.keyTag_str, `FL.keyTag_pk, `FL.iEnu, `FL.sorted_int, `FL.rdX_ok, `FL.rdX_ex, `FL.tryO_nx, `FL.tryO_rt, `FL.tryO_ex, `FL.namesAt_n, `FL.namesAt_c, `DL.eqS_s, `FL.eqE_r, `FL.bindU_l, `FL.tryC_nil, `FL.tryC_cons, `FL.unE_some, `FL.unE_none, `FL.tryN_nx, `FL.tryN_rt, `FL.tryN_ex]
local macro_rules | `(tactic| simp only [$as,*] $[$l]?) => SsM (`word_snoc :: SsH2 ++ SsL2) as.getElems l
theorem ends_of_eq {S : Sheet} {b : Int} : F_ends_of [S.d, .int b] = some (endsD S b) := by
  unfold endsD endsI
  by_cases h : (b / S.C + b % S.C) % 2 = 0 <;>
  simp only [F_ends_of, S_ends_of, runP, ss_, h]
def _root_.SsH3 : List Lean.Name := SsH2 ++ []
def _root_.SsL3 : List Lean.Name := SsL2 ++ [`FL.ends_of_eq]
local macro_rules | `(tactic| simp only [$as,*] $[$l]?) => SsM (`word_snoc :: SsH3 ++ SsL3) as.getElems l
theorem law_ends_eq {S : Sheet} {b : Int} : F_law_ends [S.d, .int b] = some (endsD S b) := by
  unfold endsD endsI
  by_cases h : (b / S.C + b % S.C) % 2 = 0 <;>
  simp only [F_law_ends, S_law_ends, runP, ss_, h]
def farI (S : Sheet) (b : Int) (p : Int × Int) : Int × Int := if p = (endsI S b).1 then (endsI S b).2 else (endsI S b).1
def sideI (S : Sheet) (b : Int) (p : Int × Int) : Int := 2 * (if p.1 < (farI S b p).1 then 1 else 0) + (if p.2 < (farI S b p).2 then 1 else 0)
def inS (S : Sheet) (p : Int × Int) : Bool := (decide (0 ≤ p.1) && decide (p.1 < S.R)) && (decide (0 ≤ p.2) && decide (p.2 < S.C))
def barsI (S : Sheet) (p : Int × Int) : List Int := ([(p.1 - 1, p.2 - 1), (p.1 - 1, p.2), (p.1, p.2 - 1), p].filter (inS S)).map fun p => p.1 * S.C + p.2
theorem lc4 {α : Type} {q : DL.D → Option Bool} {e : DL.D → Option α} {a b c d : Int × Int} : lcF q e [pk a, pk b, pk c, pk d] = lcF (fun x => q (pk x)) (fun x => e (pk x)) [a, b, c, d] := lc_map (xs := [a, b, c, d])
def _root_.SsH4 : List Lean.Name := SsH3 ++ []
def _root_.SsL4 : List Lean.Name := SsL3 ++ [`FL.law_ends_eq]
local macro_rules | `(tactic| simp only [$as,*] $[$l]?) => SsM (`word_snoc :: SsH4 ++ SsL4) as.getElems l
theorem bars_of_eq {S : Sheet} {p : Int × Int} : F_bars_of [S.d, pk p] = some (tL .int (barsI S p)) := by
  simp only [F_bars_of, S_bars_of, runP, ss_, lc4, size_eq]
  rfl
def evenB (p : Int × Int) : Bool := decide ((p.1 + p.2) % 2 = 0)
def rowK (S : Sheet) (r : Int) : List (Int × Int) := ((rgI (S.C + 1)).map fun c => (r, c)).filter evenB
def knotsI (S : Sheet) : List (Int × Int) := (rgI (S.R + 1)).flatMap fun r => rowK S r
theorem rowK_len {S : Sheet} {r : Int} : (rowK S r).length ≤ 9 := by
  unfold rowK
  refine Nat.le_trans (List.length_filter_le _ _) ?_
  rw [List.length_map, rgI_len]
  have := S.c2
  omega
theorem flat_len {α β : Type} {f : α → List β} {k : Nat} (h : ∀ a, (f a).length ≤ k) : ∀ xs : List α, (xs.flatMap f).length ≤ xs.length * k
  | [] => by simp
  | x :: xs => by
    rw [List.flatMap_cons, List.length_append, List.length_cons, Nat.succ_mul]
    have := flat_len h xs
    have := h x
    omega
theorem knots_len {S : Sheet} : (knotsI S).length ≤ 81 := by
  refine Nat.le_trans (flat_len (fun _ => rowK_len) _) ?_
  rw [rgI_len]
  have := S.r2
  omega
theorem row_eq {S : Sheet} {r : Int} : List.map (fun c => (r, c)) (List.filter (fun c => decide ((r + c) % 2 = 0)) (rgI (S.C + 1))) = rowK S r := by
  unfold rowK
  rw [List.filter_map]
  rfl
def _root_.SsH5 : List Lean.Name := SsH4 ++ []
def _root_.SsL5 : List Lean.Name := SsL4 ++ [`FL.bars_of_eq]
local macro_rules | `(tactic| simp only [$as,*] $[$l]?) => SsM (`word_snoc :: SsH5 ++ SsL5) as.getElems l
theorem knots_loop {S : Sheet} {s : FS} (h : ∀ (acc : List (Int × Int)) (r : Int), acc.length ≤ 100 → s [some S.d, some (lL pk acc), some (.int r), none] = some (.ok .nx [some S.d, some (lL pk (acc ++ rowK S r)), none, none])) :
    forL (.nm 2) s ((rgI (S.R + 1)).map .int) [some S.d, some (.list []), none, none] = some (.ok .nx [some S.d, some (lL pk (knotsI S)), none, none]) := by
  have h2 : (rgI (S.R + 1)).length ≤ 9 := by rw [rgI_len]; have := S.r2; omega
  have go : ∀ (rs : List Int) (acc : List (Int × Int)), acc.length + rs.length * 9 ≤ 90 → forL (.nm 2) s (rs.map .int) [some S.d, some (lL pk acc), none, none] = some (.ok .nx [some S.d, some (lL pk (acc ++ rs.flatMap fun r => rowK S r)), none, none]) := by
    intro rs
    induction rs with
    | nil => intro acc _; simp only [List.map_nil, ss_, List.flatMap_nil, List.append_nil]
    | cons r rs ih =>
      intro acc hl
      rw [List.length_cons] at hl
      have := rowK_len (S := S) (r := r)
      simp only [List.map_cons, forL_cons, ss_, h acc r (by omega)]
      rw [ih (acc ++ rowK S r) (by rw [List.length_append]; omega), List.flatMap_cons, List.append_assoc]
  exact go (rgI (S.R + 1)) [] (by rw [List.length_nil]; omega)
theorem ext_row {S : Sheet} {acc : List (Int × Int)} {r : Int} (h : acc.length ≤ 100) : fExtA (lL pk acc) [lL pk (rowK S r)] = some (.none, lL pk (acc ++ rowK S r)) := ext_lL (by have := rowK_len (S := S) (r := r); rw [size_eq]; omega)
theorem size_C {S : Sheet} : ((S.C + 1).toNat ≤ sizeLine) = True := by rw [size_eq]; have := S.c2; exact eq_true (by omega)
theorem knots_eq {S : Sheet} : F_knots [S.d] = some (tL pk (knotsI S)) := by
  simp only [F_knots, S_knots, runP, ss_]
  rw [knots_loop fun acc r h => by simp only [B_knots, ss_, rgI_len, size_C, row_eq, ext_row h]]
  simp only [ss_]
theorem mem_knotsI {S : Sheet} {p : Int × Int} : p ∈ knotsI S ↔ (0 ≤ p.1 ∧ p.1 ≤ S.R) ∧ (0 ≤ p.2 ∧ p.2 ≤ S.C) ∧ (p.1 + p.2) % 2 = 0 := by
  unfold knotsI rowK
  simp only [List.mem_flatMap, List.mem_filter, List.mem_map, mem_rgI, evenB, decide_eq_true_eq]
  constructor
  · rintro ⟨r, hr, ⟨c, hc, rfl⟩, e⟩
    exact ⟨⟨hr.1, by show r ≤ _; omega⟩, ⟨hc.1, by show c ≤ _; omega⟩, e⟩
  · rintro ⟨h1, h2, h3⟩
    exact ⟨p.1, ⟨h1.1, by omega⟩, ⟨p.2, ⟨h2.1, by omega⟩, rfl⟩, h3⟩
def btwI (S : Sheet) (p q : Int × Int) : Option Int := if (p.1 - q.1).natAbs = 1 ∧ (p.2 - q.2).natAbs = 1 then some (min p.1 q.1 * S.C + min p.2 q.2) else none
end FL
namespace FL
open PySem PySem.Spec L2 DL
theorem atI_mem {α : Type} {xs : List α} {i : Int} (h : 0 ≤ i) (h2 : i < xs.length) : ∃ x, atI xs i = some x ∧ x ∈ xs := by
  refine ⟨xs[i.toNat]'(by omega), ?_, List.getElem_mem _⟩
  rw [atI_nat h h2, List.getElem?_eq_getElem (by omega)]
def _root_.SsH6 : List Lean.Name := SsH5 ++ []
def _root_.SsL6 : List Lean.Name := SsL5 ++ [`FL.knots_eq]
local macro_rules | `(tactic| simp only [$as,*] $[$l]?) => SsM (`word_snoc :: SsH6 ++ SsL6) as.getElems l
theorem one_ok {m : Int} {dk : DL.D} {xs : List DL.D} (h : Dk m dk) (h2 : m < 1073741823 := by omega) (h3 : 0 < xs.length := by simp) (h4 : xs.length < 1073741824 := by simp) :
    ∃ (x : DL.D) (dk' : DL.D), F_law_one [dk, .list xs] = some (.ok x [dk']) ∧ x ∈ xs ∧ Dk (m + 1) dk' := by
  obtain ⟨r, dk', e, r0, r1, hd⟩ := draw_ok (n := (xs.length : Int)) h h2 (by omega) (by omega)
  obtain ⟨x, ex, hx⟩ := atI_mem r0 r1
  exact ⟨x, dk', by simp only [F_law_one, S_law_one, runM, ss_, e, ex], hx, hd⟩
theorem sheet_ok {m : Int} {dk : DL.D} {n : Int} (h : Dk m dk) (h1 : 1 ≤ n := by omega) (h8 : n ≤ 8 := by omega) (h2 : m < 1073741800 := by omega) : ∃ (S : Sheet) (dk' : DL.D), F_law_sheet [dk, .int n] = some (.ok S.d [dk']) ∧ Dk (m + 3) dk' := by
  obtain ⟨x, dk1, e1, hx, hd1⟩ := one_ok (xs := [.int n, .int n, .int (min n 4), .int (min n 3)]) h
  obtain ⟨t, rfl, t0, t1⟩ : ∃ t : Int, x = .int t ∧ 0 < t ∧ t ≤ n := by
    simp only [List.mem_cons, List.not_mem_nil, or_false] at hx
    rcases hx with rfl | rfl | rfl | rfl <;> exact ⟨_, rfl, by omega, by omega⟩
  obtain ⟨u, dk2, e2, u0, u1, hd2⟩ := draw_ok (n := t) hd1
  obtain ⟨v, dk3, e3, v0, v1, hd3⟩ := draw_ok (n := t) hd2
  refine ⟨⟨1 + u, 1 + v, by omega, by omega, by omega, by omega⟩, dk3, ?_, hd3.le (by omega)⟩
  simp only [F_law_sheet, S_law_sheet, runM, ss_, e1, e2, e3]
  rfl
def S_lacking : FS :=
  (fRet (lf (pApp dTuple [(pLc (iSeq (pCall F_bars_of [(pNm 0), (pNm 2)])) (.nm 3) (tP (pBin dIn (pNm 3) (pNm 1))) (pNm 3) [3])])))
def F_lacking : FD := runP [.val, .val, .val] false 4 S_lacking
def S_lacks : FS :=
  (fRet (lf (pApp dLen [(pCall F_lacking [(pNm 0), (pNm 1), (pNm 2)])])))
def F_lacks : FD := runP [.val, .val, .val] false 3 S_lacks
def S_odd : FS :=
  (fRet (lf (pApp dTuple [(pLc (iSeq (pCall F_knots [(pNm 0)])) (.nm 2) (tP (pBin dEq (pBin dMod (pCall F_lacks [(pNm 0), (pNm 1), (pNm 2)]) (pC (.int 2))) (pC (.int 1)))) (pNm 2) [2])])))
def F_odd : FD := runP [.val, .val] false 3 S_odd
def S_lost : FS :=
  (fRet (lf (pApp dTuple [(pLc (iSeq (pCall F_knots [(pNm 0)])) (.nm 2) (tP (pBin dEq (pCall F_lacks [(pNm 0), (pNm 1), (pNm 2)]) (pApp dLen [(pCall F_bars_of [(pNm 0), (pNm 2)])]))) (pNm 2) [2])])))
def F_lost : FD := runP [.val, .val] false 3 S_lost
def S_law_is_near : FS :=
  (fSeq (fUnp (.tup [(.nm 3), (.nm 4)]) (lf (pCall F_law_ends [(pNm 0), (pNm 1)])))
  (fRet (lf (pOr (pBin dIn (pNm 3) (pNm 2)) (pBin dIn (pNm 4) (pNm 2))))))
def F_law_is_near : FD := runP [.val, .val, .brw] false 5 S_law_is_near
def B_law_tear : FS :=
  (fEnd [3, 4, 8, 9] (fSeq (fSet 9 (lf (pLc (iApp rng1 [(pNm 2)]) (.nm 5) (tAnd (tP (pBin dNotIn (pNm 5) (pNm 6))) (tP (pCall F_law_is_near [(pNm 1), (pNm 5), (pNm 7)]))) (pNm 5) [5])))
  (fIf (lf (tP (pBin dNe (pNm 9) (pLst [])))) (fSeq (fDo (mMut 6 fAppend [(mCall F_law_one [0] [(mNm 0), (mNm 9)])]))
  (fDo (mMut 7 fExtA [(lf (pCall F_law_ends [(pNm 1), (pBin dAt (pNm 6) (pUn dNeg (pC (.int 1))))]))]))) fNil)))
def S_law_tear : FS :=
  (fSeq (fPar [2, 3, 4] [(lf (pBin dMul (pBin dAt (pNm 1) (pC (.int 0))) (pBin dAt (pNm 1) (pC (.int 1))))), (mCall F_draw [0] [(mNm 0), (mEx (lf (pC (.int 10))))]), (mCall F_law_one [0] [(mNm 0), (mEx (lf (pLst [(pC (.int 2)), (pC (.int 3)), (pC (.int 5))])))])])
  (fSeq (fIf (lf (tP (pBin dEq (pNm 3) (pC (.int 0))))) (fRet (mCall F_law_one [0] [(mNm 0), (mEx (lf (pLst [(pTup []), (pUn dTupR1 (pNm 2))])))])) fNil)
  (fSeq (fIf (lf (tP (pBin dLt (pNm 3) (pC (.int 4))))) (fRet (mApp dTuple [(mEx (mLc (lf (iApp rng1 [(pNm 2)])) (.nm 5) (tM (mBin dEq (mEx (mCall F_draw [0] [(mNm 0), (mNm 4)])) (mEx (lf (pC (.int 0)))))) (lf (pNm 5)) [5]))])) fNil)
  (fSeq (fIf (lf (tP (pBin dLt (pNm 3) (pC (.int 7))))) (fRet (mApp dTuple [(mEx (mLc (lf (iApp rng1 [(pNm 2)])) (.nm 5) (tM (mBin dGt (mEx (mCall F_draw [0] [(mNm 0), (mNm 4)])) (mEx (lf (pC (.int 0)))))) (lf (pNm 5)) [5]))])) fNil)
  (fSeq (fSet 6 (mLst [(mCall F_draw [0] [(mNm 0), (mNm 2)])]))
  (fSeq (fSet 7 (lf (pApp dList [(pCall F_law_ends [(pNm 1), (pBin dAt (pNm 6) (pC (.int 0)))])])))
  (fKill [3, 4, 8, 9] (fSeq (fFor (jApp rng1 [(mEx (mCall F_draw [0] [(mNm 0), (mEx (lf (pApp dMin2 [(pNm 2), (pC (.int 30))])))]))]) (.nm 8) B_law_tear)
  (fRet (lf (pApp dTuple [(pApp dSorted [(pNm 6)])])))))))))))
def F_law_tear : FM := runM [.io, .val] false 10 S_law_tear
theorem bars_len {S : Sheet} {p : Int × Int} : (barsI S p).length ≤ 4 := by
  unfold barsI
  rw [List.length_map]
  exact List.length_filter_le _ _
theorem fits {n : Nat} (h : n ≤ 100000) : (n ≤ sizeLine) = True := by rw [size_eq]; exact eq_true (by omega)
theorem bars_fit {S : Sheet} {p : Int × Int} : ((barsI S p).length ≤ sizeLine) = True := fits (Nat.le_trans bars_len (by decide))
theorem knots_fit {S : Sheet} : ((knotsI S).length ≤ sizeLine) = True := fits (Nat.le_trans knots_len (by decide))
def lackI (S : Sheet) (T : List Int) (p : Int × Int) : List Int := (barsI S p).filter fun b => decide (b ∈ T)
theorem lacking_eq {S : Sheet} {T : List Int} {p : Int × Int} : F_lacking [S.d, tL .int T, pk p] = some (tL .int (lackI S T p)) := by
  simp only [F_lacking, S_lacking, runP, ss_, bars_fit, lackI]
def _root_.SsH7 : List Lean.Name := SsH6 ++ []
def _root_.SsL7 : List Lean.Name := SsL6 ++ [`FL.lacking_eq]
local macro_rules | `(tactic| simp only [$as,*] $[$l]?) => SsM (`word_snoc :: SsH7 ++ SsL7) as.getElems l
theorem lacks_eq {S : Sheet} {T : List Int} {p : Int × Int} : F_lacks [S.d, tL .int T, pk p] = some (.int (lackI S T p).length) := by
  simp only [F_lacks, S_lacks, runP, ss_]
def oddI (S : Sheet) (T : List Int) : List (Int × Int) := (knotsI S).filter fun p => decide (((lackI S T p).length : Int) % 2 = 1)
def _root_.SsH8 : List Lean.Name := SsH7 ++ []
def _root_.SsL8 : List Lean.Name := SsL7 ++ [`FL.lacks_eq]
local macro_rules | `(tactic| simp only [$as,*] $[$l]?) => SsM (`word_snoc :: SsH8 ++ SsL8) as.getElems l
theorem odd_eq {S : Sheet} {T : List Int} : F_odd [S.d, tL .int T] = some (tL pk (oddI S T)) := by
  simp only [F_odd, S_odd, runP, ss_, knots_fit, oddI]
def lostI (S : Sheet) (T : List Int) : List (Int × Int) := (knotsI S).filter fun p => decide ((lackI S T p).length = (barsI S p).length)
def _root_.SsH9 : List Lean.Name := SsH8 ++ []
def _root_.SsL9 : List Lean.Name := SsL8 ++ [`FL.odd_eq]
local macro_rules | `(tactic| simp only [$as,*] $[$l]?) => SsM (`word_snoc :: SsH9 ++ SsL9) as.getElems l
theorem lost_eq {S : Sheet} {T : List Int} : F_lost [S.d, tL .int T] = some (tL pk (lostI S T)) := by
  simp only [F_lost, S_lost, runP, ss_, knots_fit, lostI, Int.natCast_inj]
structure IsTear (S : Sheet) (T : List Int) : Prop where
  asc : Asc T
  inb : ∀ b ∈ T, 0 ≤ b ∧ b < S.R * S.C
theorem Sheet.many (S : Sheet) : 1 ≤ S.R * S.C ∧ S.R * S.C ≤ 64 := by
  have := S.r1; have := S.r2; have := S.c1; have := S.c2
  have h1 : S.R * S.C ≤ 8 * 8 := Int.mul_le_mul (by omega) (by omega) (by omega) (by omega)
  have h2 : 1 * 1 ≤ S.R * S.C := Int.mul_le_mul (by omega) (by omega) (by omega) (by omega)
  omega
theorem IsTear.len {S : Sheet} {T : List Int} (h : IsTear S T) : T.length ≤ 64 := by
  have := asc_len h.asc h.inb
  have := S.many
  omega
theorem IsTear.fit {S : Sheet} {T : List Int} (h : IsTear S T) : (T.length ≤ sizeLine) = True := fits (Nat.le_trans h.len (by decide))
theorem IsTear.sub {S : Sheet} {T U : List Int} (h : IsTear S T) (s : U.Sublist T) : IsTear S U := ⟨h.asc.sub s, fun b hb => h.inb b (s.subset hb)⟩
theorem tear_all {S : Sheet} : IsTear S (rgI (S.R * S.C)) := ⟨asc_rgI, fun b hb => mem_rgI.mp hb⟩
theorem tear_nil {S : Sheet} : IsTear S [] := ⟨List.Pairwise.nil, fun b hb => nomatch hb⟩
theorem sh_rngM {S : Sheet} : rng1 [.int (S.R * S.C)] = some ((rgI (S.R * S.C)).map .int) := by
  have := S.many
  rw [rng1_i (by omega), rgI_fold]
theorem sh_tupM {S : Sheet} : dTupR1 (.int (S.R * S.C)) = some (tL .int (rgI (S.R * S.C))) := by
  have := S.many
  show (if 0 ≤ S.R * S.C ∧ S.R * S.C ≤ 16777216 then some (PyData.tuple (intsR 0 (S.R * S.C).toNat)) else none) = _
  rw [if_pos (by omega)]
  unfold tL rgI intsR
  rw [List.map_map]
  simp only [Int.zero_add]
  rfl
/-- a comprehension whose test draws -/
def _root_.SsH10 : List Lean.Name := SsH9 ++ []
def _root_.SsL10 : List Lean.Name := SsL9 ++ [`FL.lost_eq]
local macro_rules | `(tactic| simp only [$as,*] $[$l]?) => SsM (`word_snoc :: SsH10 ++ SsL10) as.getElems l
theorem lc_draw {q : M Bool} {e : M DL.D} {k : Nat} (E : DL.D → En) (hw : ∀ dk b, ((E dk).set k (some (.int b))).set k none = E dk) (he : ∀ dk b, e ((E dk).set k (some (.int b))) = some (.ok (.int b) ((E dk).set k (some (.int b)))))
    (hq : ∀ (m : Int) (dk : DL.D) (b : Int), Dk m dk → m < 1073741800 → ∃ c dk', q ((E dk).set k (some (.int b))) = some (.ok c ((E dk').set k (some (.int b)))) ∧ Dk (m + 1) dk') :
    ∀ (xs : List Int) (m : Int) (dk : DL.D), Dk m dk → m + xs.length < 1073741800 → ∃ (ys : List Int) (dk' : DL.D), ys.Sublist xs ∧ lcM (.nm k) q e [k] (xs.map .int) (E dk) = some (.ok (ys.map .int) (E dk')) ∧ Dk (m + xs.length) dk'
  | [], m, dk, hd, _ => ⟨[], dk, List.Sublist.refl _, rfl, by simpa using hd⟩
  | x :: xs, m, dk, hd, hm => by
    rw [List.length_cons] at hm
    obtain ⟨c, dk1, e1, hd1⟩ := hq m dk x hd (by omega)
    obtain ⟨ys, dk2, s, e2, hd2⟩ := lc_draw E hw he hq xs (m + 1) dk1 hd1 (by omega)
    have hd3 : Dk (m + ((x :: xs).length : Nat)) dk2 := hd2.le (by rw [List.length_cons]; omega)
    cases c with
    | true =>
      refine ⟨x :: ys, dk2, s.cons_cons x, ?_, hd3⟩
      simp only [List.map_cons, lcM, ss_, e1, bn, he, hw, e2]
    | false =>
      refine ⟨ys, dk2, s.cons x, ?_, hd3⟩
      simp only [List.map_cons, lcM, ss_, e1, bn, he, hw, e2]
def endsL (S : Sheet) (b : Int) : List (Int × Int) := [(endsI S b).1, (endsI S b).2]
theorem list_ends {S : Sheet} {b : Int} : dList [endsD S b] = some (lL pk (endsL S b)) := rfl
theorem bind_ends {S : Sheet} {b : Int} {i j : Nat} {ε : En} : bindD (.tup [.nm i, .nm j]) (endsD S b) ε = some ((ε.set i (some (pk (endsI S b).1))).set j (some (pk (endsI S b).2))) := rfl
def _root_.SsH11 : List Lean.Name := SsH10 ++ []
def _root_.SsL11 : List Lean.Name := SsL10 ++ [`FL.list_ends, `FL.bind_ends]
local macro_rules | `(tactic| simp only [$as,*] $[$l]?) => SsM (`word_snoc :: SsH11 ++ SsL11) as.getElems l
theorem law_is_near_eq {S : Sheet} {b : Int} {P : List (Int × Int)} : F_law_is_near [S.d, .int b, lL pk P] = some (.bool (decide ((endsI S b).1 ∈ P) || decide ((endsI S b).2 ∈ P))) := by
  simp only [F_law_is_near, S_law_is_near, runP, ss_]
theorem ext_ends {S : Sheet} {b : Int} {P : List (Int × Int)} (h : P.length ≤ 200) : fExtA (lL pk P) [endsD S b] = some (.none, lL pk (P ++ endsL S b)) := ext_tL (f := pk) (ys := endsL S b) (by rw [size_eq]; simp only [endsL, List.length_cons, List.length_nil]; omega)
theorem at_last {α : Type} {f : α → DL.D} {xs : List α} {x : α} : dAt (lL f (xs ++ [x])) (.int (-1)) = some (f x) := by
  show atI ((xs ++ [x]).map f) (-1) = _
  unfold atI
  rw [List.length_map, List.length_append, List.length_singleton, show ixN (xs.length + 1) (-1) = some xs.length by
    unfold ixN
    rw [if_neg (by decide), if_pos (by omega)]
    congr 1
    omega, Option.bind_some, List.getElem?_map, List.getElem?_append_right (Nat.le_refl _)]
  simp
def _root_.SsH12 : List Lean.Name := SsH11 ++ []
def _root_.SsL12 : List Lean.Name := SsL11 ++ [`FL.law_is_near_eq]
local macro_rules | `(tactic| simp only [$as,*] $[$l]?) => SsM (`word_snoc :: SsH12 ++ SsL12) as.getElems l
theorem tear_ok {S : Sheet} {m : Int} {dk : DL.D} (h : Dk m dk) (hm : m < 1073741000 := by omega) : ∃ (T : List Int) (dk' : DL.D), F_law_tear [dk, S.d] = some (.ok (tL .int T) [dk']) ∧ IsTear S T ∧ Dk (m + 200) dk' := by
  have mm := S.many
  have rl : (rgI (S.R * S.C)).length ≤ 64 := by rw [rgI_len]; omega
  have rf : ((rgI (S.R * S.C)).length ≤ sizeLine) = True := fits (Nat.le_trans rl (by decide))
  obtain ⟨way, dk1, e1, w0, w1, hd1⟩ := draw_ok (n := 10) h
  obtain ⟨x, dk2, e2, hx, hd2⟩ := one_ok (xs := [.int 2, .int 3, .int 5]) hd1
  obtain ⟨part, rfl, p0, p1⟩ : ∃ p : Int, x = .int p ∧ 0 < p ∧ p ≤ 5 := by
    simp only [List.mem_cons, List.not_mem_nil, or_false] at hx
    rcases hx with rfl | rfl | rfl <;> exact ⟨_, rfl, by omega, by omega⟩
  by_cases c0 : way = 0
  · obtain ⟨x, dk3, e3, hx, hd3⟩ := one_ok (xs := [.tuple [], tL .int (rgI (S.R * S.C))]) hd2
    simp only [List.mem_cons, List.not_mem_nil, or_false] at hx
    rcases hx with rfl | rfl
    · exact ⟨[], dk3, by simp only [F_law_tear, S_law_tear, runM, ss_, e1, e2, c0, sh_tupM, e3]; rfl, tear_nil, hd3.le (by omega)⟩
    · exact ⟨_, dk3, by simp only [F_law_tear, S_law_tear, runM, ss_, e1, e2, c0, sh_tupM, e3], tear_all, hd3.le (by omega)⟩
  by_cases c1 : way < 4
  · obtain ⟨ys, dk3, s, e3, hd3⟩ := lc_draw (q := tM (mBin dEq (mEx (mCall F_draw [0] [(mNm 0), (mNm 4)])) (mEx (lf (pC (.int 0)))))) (e := lf (pNm 5)) (k := 5) (fun dk => [some dk, some S.d, some (.int (S.R * S.C)), some (.int way), some (.int part), none, none, none, none, none])
      (fun _ _ => rfl) (fun _ _ => rfl) (fun m dk b hd hm => by
        obtain ⟨r, dk', e, _, _, hd'⟩ := draw_ok (n := part) hd
        exact ⟨decide (r = 0), dk', by simp only [ss_, e], hd'⟩) (rgI (S.R * S.C)) _ _ hd2 (by omega)
    exact ⟨ys, dk3, by simp only [F_law_tear, S_law_tear, runM, ss_, e1, e2, c0, c1, sh_rngM, rf, e3], tear_all.sub s, hd3.le (by omega)⟩
  by_cases c2 : way < 7
  · obtain ⟨ys, dk3, s, e3, hd3⟩ := lc_draw (q := tM (mBin dGt (mEx (mCall F_draw [0] [(mNm 0), (mNm 4)])) (mEx (lf (pC (.int 0)))))) (e := lf (pNm 5)) (k := 5) (fun dk => [some dk, some S.d, some (.int (S.R * S.C)), some (.int way), some (.int part), none, none, none, none, none])
      (fun _ _ => rfl) (fun _ _ => rfl) (fun m dk b hd hm => by
        obtain ⟨r, dk', e, _, _, hd'⟩ := draw_ok (n := part) hd
        exact ⟨decide (0 < r), dk', by simp only [ss_, e], hd'⟩) (rgI (S.R * S.C)) _ _ hd2 (by omega)
    exact ⟨ys, dk3, by simp only [F_law_tear, S_law_tear, runM, ss_, e1, e2, c0, c1, c2, sh_rngM, rf, e3], tear_all.sub s, hd3.le (by omega)⟩
  -- grown from one bar
  obtain ⟨b0, dk3, e3, b1, b2, hd3⟩ := draw_ok (n := S.R * S.C) hd2
  obtain ⟨n, dk4, e4, n0, n1, hd4⟩ := draw_ok (n := min (S.R * S.C) 30) hd3
  let E := fun (dk : DL.D) (F : List Int) (P : List (Int × Int)) => ([some dk, some S.d, some (.int (S.R * S.C)), none, none, none, some (lL .int F), some (lL pk P), none, none] : En)
  have turn : ∀ (m : Int) (dk : DL.D) (F : List Int) (P : List (Int × Int)) (i : Int), Dk m dk → m < 1073741800 → F.Nodup → (∀ b ∈ F, 0 ≤ b ∧ b < S.R * S.C) → F.length ≤ 100 → P.length ≤ 200 →
      ∃ (dk' : DL.D) (F' : List Int) (P' : List (Int × Int)), B_law_tear ((E dk F P).set 8 (some (.int i))) = some (.ok .nx (E dk' F' P')) ∧ Dk (m + 1) dk' ∧ F'.Nodup ∧ (∀ b ∈ F', 0 ≤ b ∧ b < S.R * S.C) ∧ F'.length ≤ F.length + 1 ∧ P'.length ≤ P.length + 2 := by
    intro m dk F P i hd hm nd inb fl pl
    generalize hN : (rgI (S.R * S.C)).filter (fun b => !decide (b ∈ F) && (decide ((endsI S b).1 ∈ P) || decide ((endsI S b).2 ∈ P))) = N
    by_cases hz : N = []
    · refine ⟨dk, F, P, ?_, hd.le (by omega), nd, inb, by omega, by omega⟩
      simp only [E, B_law_tear, ss_, sh_rngM, rf, hN, hz]
    · obtain ⟨x, dk', e, hx, hd'⟩ := one_ok (xs := N.map .int) hd (by omega) (by rw [List.length_map]; exact List.length_pos_iff.mpr hz) (by
        rw [List.length_map, ← hN]
        have := List.length_filter_le (fun b => !decide (b ∈ F) && (decide ((endsI S b).1 ∈ P) || decide ((endsI S b).2 ∈ P))) (rgI (S.R * S.C))
        omega)
      obtain ⟨b, hb, rfl⟩ := List.mem_map.mp hx
      rw [← hN, List.mem_filter, mem_rgI] at hb
      have nb : b ∉ F := by
        have := hb.2
        simp only [Bool.and_eq_true, Bool.not_eq_true', decide_eq_false_iff_not] at this
        exact this.1
      refine ⟨dk', F ++ [b], P ++ endsL S b, ?_, hd', ?_, ?_, by simp, by simp [endsL]⟩
      · have e' : F_law_one [dk, lL .int N] = some (.ok (.int b) [dk']) := e
        simp only [E, B_law_tear, ss_, sh_rngM, rf, hN, hz, not_false_eq_true, e', app_lL (f := PyData.int) (show F.length < sizeLine by rw [size_eq]; omega), at_last, ext_ends pl]
      · rw [List.nodup_append]
        exact ⟨nd, by simp, fun a ha c hc => by rw [List.mem_singleton.mp hc]; exact fun z => nb (z ▸ ha)⟩
      · intro c hc
        rcases List.mem_append.mp hc with hc | hc
        · exact inb c hc
        · rw [List.mem_singleton.mp hc]; exact hb.1
  have loop : ∀ (is : List Int) (m : Int) (dk : DL.D) (F : List Int) (P : List (Int × Int)), Dk m dk → m + is.length < 1073741800 → F.Nodup → (∀ b ∈ F, 0 ≤ b ∧ b < S.R * S.C) → F.length + is.length ≤ 100 → P.length + 2 * is.length ≤ 200 →
      ∃ (dk' : DL.D) (F' : List Int) (P' : List (Int × Int)), forL (.nm 8) B_law_tear (is.map .int) (E dk F P) = some (.ok .nx (E dk' F' P')) ∧ Dk (m + is.length) dk' ∧ F'.Nodup ∧ (∀ b ∈ F', 0 ≤ b ∧ b < S.R * S.C) := by
    intro is
    induction is with
    | nil => exact fun m dk F P hd _ nd inb _ _ => ⟨dk, F, P, rfl, by simpa using hd, nd, inb⟩
    | cons i is ih =>
      intro m dk F P hd hm nd inb fl pl
      rw [List.length_cons] at hm fl pl
      obtain ⟨dk1, F1, P1, t1, hd1, nd1, inb1, fl1, pl1⟩ := turn m dk F P i hd (by omega) nd inb (by omega) (by omega)
      obtain ⟨dk2, F2, P2, t2, hd2, nd2, inb2⟩ := ih (m + 1) dk1 F1 P1 hd1 (by omega) nd1 inb1 (by omega) (by omega)
      refine ⟨dk2, F2, P2, ?_, hd2.le (by rw [List.length_cons]; omega), nd2, inb2⟩
      rw [List.map_cons, forL_cons, bindD_nm, b_some, t1, lp_nx, t2]
  have il : (rgI n).length ≤ 30 := by rw [rgI_len]; omega
  obtain ⟨dk5, F, P, t, hd5, nd, inb⟩ := loop (rgI n) _ dk4 [b0] (endsL S b0) hd4 (by omega) (by simp) (by simpa using ⟨b1, b2⟩) (by simp; omega) (by simp only [endsL, List.length_cons, List.length_nil]; omega)
  refine ⟨sortI F, dk5, ?_, ⟨sortI_asc nd, fun b hb => inb b (sortI_mem.mp hb)⟩, hd5.le (by omega)⟩
  have t' : forL (.nm 8) B_law_tear ((rgI n).map .int) [some dk4, some S.d, some (.int (S.R * S.C)), none, none, none, some (.list [.int b0]), some (lL pk (endsL S b0)), none, none] = some (.ok .nx (E dk5 F P)) := t
  have rn : rng1 [.int n] = some ((rgI n).map .int) := by rw [rng1_i (by omega), rgI_fold]
  simp only [F_law_tear, S_law_tear, runM, ss_, e1, e2, c0, c1, c2, e3, e4, rn, t']
  simp only [E, ss_]
end FL
namespace FL
open PySem PySem.Spec L2 DL
section
variable {α : Type} [DecidableEq α]
inductive Reach (nb : α → List α) (b : α) : α → Prop
  | refl : Reach nb b b
  | step {x y : α} : Reach nb b x → y ∈ nb x → Reach nb b y
theorem Reach.trans {nb : α → List α} {a b c : α} (h : Reach nb a b) (k : Reach nb b c) : Reach nb a c := by
  induction k with
  | refl => exact h
  | step _ h2 ih => exact .step ih h2
theorem Reach.inv {nb : α → List α} {P : α → Prop} {b : α} (hb : P b) (hs : ∀ x y, P x → y ∈ nb x → P y) {c : α} (h : Reach nb b c) : P c := by
  induction h with
  | refl => exact hb
  | step _ h2 ih => exact hs _ _ ih h2
def addN (s : List α × List α) (o : α) : List α × List α := if o ∈ s.1 then s else (s.1 ++ [o], s.2 ++ [o])
theorem addN_fold : ∀ (os : List α) (F W : List α), ∃ N : List α, os.foldl addN (F, W) = (F ++ N, W ++ N) ∧ N.Nodup ∧ ∀ x, x ∈ N ↔ x ∈ os ∧ x ∉ F
  | [], F, W => ⟨[], by simp, List.nodup_nil, fun x => by simp⟩
  | o :: os, F, W => by
    rw [List.foldl_cons]
    by_cases h : o ∈ F
    · obtain ⟨N, h1, h2, h3⟩ := addN_fold os F W
      refine ⟨N, by rw [show addN (F, W) o = (F, W) from if_pos h, h1], h2, fun x => ?_⟩
      rw [h3, List.mem_cons]
      exact ⟨fun ⟨a, b⟩ => ⟨.inr a, b⟩, fun ⟨a, b⟩ => ⟨a.resolve_left fun e => b (e ▸ h), b⟩⟩
    · obtain ⟨N, h1, h2, h3⟩ := addN_fold os (F ++ [o]) (W ++ [o])
      refine ⟨o :: N, by rw [show addN (F, W) o = (F ++ [o], W ++ [o]) from if_neg h, h1]; simp, List.nodup_cons.mpr ⟨fun z => ((h3 o).mp z).2 (by simp), h2⟩, fun x => ?_⟩
      rw [List.mem_cons, h3, List.mem_append, List.mem_singleton, List.mem_cons]
      constructor
      · rintro (rfl | ⟨a, b⟩)
        · exact ⟨.inl rfl, h⟩
        · exact ⟨.inr a, fun z => b (.inl z)⟩
      · rintro ⟨a, b⟩
        by_cases e : x = o
        · exact .inl e
        · exact .inr ⟨a.resolve_left e, fun z => z.elim b e⟩
/-- a walk that takes the last one that waits -/
theorem dfs_while {t : M Bool} {s : FS} {e : List α → List α → En} {nb : α → List α} {U : List α} {b : α} (ht : ∀ F W, t (e F W) = some (.ok (!decide (W = [])) (e F W)))
    (hs : ∀ F W x, F.length ≤ U.length → W.length ≤ U.length → x ∈ U → (∀ y ∈ F, y ∈ U) → s (e F (W ++ [x])) = some (.ok .nx (e ((nb x).foldl addN (F, W)).1 ((nb x).foldl addN (F, W)).2)))
    (hU : ∀ x ∈ U, ∀ y ∈ nb x, y ∈ U) (hb : b ∈ U) : ∃ F, fWhile t s (e [b] [b]) = some (.ok .nx (e F [])) ∧ F.Nodup ∧ ∀ x, x ∈ F ↔ Reach nb b x := by
  have go : ∀ (n : Nat) (F W : List α), 2 * (U.length - F.length) + W.length ≤ n → F.Nodup → W.Nodup → (∀ x ∈ F, x ∈ U) → (∀ x ∈ W, x ∈ F) → b ∈ F → (∀ x ∈ F, Reach nb b x) → (∀ x ∈ F, x ∉ W → ∀ y ∈ nb x, y ∈ F) →
      ∃ F', fWhile t s (e F W) = some (.ok .nx (e F' [])) ∧ F'.Nodup ∧ ∀ x, x ∈ F' ↔ Reach nb b x := by
    intro n
    induction n with
    | zero =>
      intro F W hn fn wn fu wf hb' re cl
      have w0 : W = [] := List.length_eq_zero_iff.mp (by omega)
      subst w0
      refine ⟨F, ?_, fn, fun x => ⟨re x, fun r => Reach.inv hb' (fun x y hx hy => cl x hx (by simp) y hy) r⟩⟩
      rw [fWhile_eq, ht]
      rfl
    | succ n ih =>
      intro F W hn fn wn fu wf hb' re cl
      rcases List.eq_nil_or_concat W with w0 | ⟨W0, x, rfl⟩
      · subst w0
        refine ⟨F, ?_, fn, fun x => ⟨re x, fun r => Reach.inv hb' (fun x y hx hy => cl x hx (by simp) y hy) r⟩⟩
        rw [fWhile_eq, ht]
        rfl
      · rw [List.concat_eq_append] at *
        have fl : F.length ≤ U.length := fn.length_le_of_subset fun y hy => fu y hy
        have wl : (W0 ++ [x]).length ≤ F.length := wn.length_le_of_subset fun y hy => wf y hy
        have xF : x ∈ F := wf x (by simp)
        have ne : (W0 ++ [x] = []) = False := by simp
        obtain ⟨N, h1, h2, h3⟩ := addN_fold (nb x) F W0
        obtain ⟨wn1, _, wn3⟩ := List.nodup_append.mp wn
        have x0 : x ∉ W0 := fun z => wn3 x z x (by simp) rfl
        have fN : (F ++ N).Nodup := List.nodup_append.mpr ⟨fn, h2, fun a ha c hc e => ((h3 c).mp hc).2 (e ▸ ha)⟩
        have fU : ∀ y ∈ F ++ N, y ∈ U := fun y hy => (List.mem_append.mp hy).elim (fu y) fun hy => hU x (fu x xF) y ((h3 y).mp hy).1
        have l2 : (F ++ N).length ≤ U.length := fN.length_le_of_subset fun y hy => fU y hy
        rw [List.length_append] at l2 wl hn
        rw [List.length_singleton] at wl hn
        obtain ⟨F', e', r'⟩ := ih (F ++ N) (W0 ++ N) (by rw [List.length_append, List.length_append]; omega) fN
          (List.nodup_append.mpr ⟨wn1, h2, fun a ha c hc e => ((h3 c).mp hc).2 (e ▸ wf a (List.mem_append_left _ ha))⟩) fU
          (fun y hy => (List.mem_append.mp hy).elim (fun hy => List.mem_append_left _ (wf y (List.mem_append_left _ hy))) fun hy => List.mem_append_right _ hy)
          (List.mem_append_left _ hb')
          (fun y hy => (List.mem_append.mp hy).elim (re y) fun hy => .step (re x xF) ((h3 y).mp hy).1)
          (fun y hy hw z hz => by
            have hy : y ∈ F := (List.mem_append.mp hy).resolve_right fun q => hw (List.mem_append_right _ q)
            by_cases q : y = x
            · subst q
              by_cases zf : z ∈ F
              · exact List.mem_append_left _ zf
              · exact List.mem_append_right _ ((h3 z).mpr ⟨hz, zf⟩)
            · refine List.mem_append_left _ (cl y hy (fun q2 => ?_) z hz)
              rcases List.mem_append.mp q2 with q2 | q2
              · exact hw (List.mem_append_left _ q2)
              · exact q (List.mem_singleton.mp q2))
        refine ⟨F', ?_, r'⟩
        rw [fWhile_eq, ht]
        simp only [bd_ok, ne, decide_false, Bool.not_false, if_true]
        rw [hs F W0 x fl (by omega) (fu x xF) fu, lp_nx, h1]
        exact e'
  exact go _ [b] [b] (Nat.le_refl _) (by simp) (by simp) (by simpa using hb) (by simp) (by simp) (by intro x hx; rw [List.mem_singleton.mp hx]; exact .refl) (by intro x hx hn; exact absurd hx hn)
end
theorem divmod {x y C : Int} (h0 : 0 ≤ y) (h1 : y < C) : (x * C + y) / C = x ∧ (x * C + y) % C = y := by
  have hC : C ≠ 0 := by omega
  constructor
  · rw [Int.add_comm, Int.add_mul_ediv_right _ _ hC, Int.ediv_eq_zero_of_lt h0 h1, Int.zero_add]
  · rw [Int.add_comm, Int.add_mul_emod_self_right, Int.emod_eq_of_lt h0 h1]
theorem bar_rc {S : Sheet} {b : Int} (h0 : 0 ≤ b) (h1 : b < S.R * S.C) : 0 ≤ b / S.C ∧ b / S.C < S.R ∧ 0 ≤ b % S.C ∧ b % S.C < S.C ∧ b / S.C * S.C + b % S.C = b := by
  have := S.c1
  exact ⟨Int.ediv_nonneg h0 (by omega), Int.ediv_lt_of_lt_mul (by omega) h1, Int.emod_nonneg _ (by omega), Int.emod_lt_of_pos _ (by omega), by rw [Int.mul_comm]; exact Int.mul_ediv_add_emod b S.C⟩
theorem mem_bars {S : Sheet} {b : Int} {p : Int × Int} : b ∈ barsI S p ↔ ∃ q ∈ [(p.1 - 1, p.2 - 1), (p.1 - 1, p.2), (p.1, p.2 - 1), p], (0 ≤ q.1 ∧ q.1 < S.R ∧ 0 ≤ q.2 ∧ q.2 < S.C) ∧ b / S.C = q.1 ∧ b % S.C = q.2 ∧ 0 ≤ b ∧ b < S.R * S.C := by
  unfold barsI
  simp only [List.mem_map, List.mem_filter]
  constructor
  · rintro ⟨q, ⟨hq, hi⟩, rfl⟩
    unfold inS at hi
    simp only [Bool.and_eq_true, decide_eq_true_eq] at hi
    obtain ⟨⟨a1, a2⟩, a3, a4⟩ := hi
    obtain ⟨d1, d2⟩ := divmod (x := q.1) a3 a4
    have m0 : 0 ≤ q.1 * S.C := Int.mul_nonneg a1 (by omega)
    have m1 : (q.1 + 1) * S.C ≤ S.R * S.C := Int.mul_le_mul_of_nonneg_right (by omega) (by omega)
    rw [Int.add_mul] at m1
    exact ⟨q, hq, ⟨a1, a2, a3, a4⟩, d1, d2, by omega, by omega⟩
  · rintro ⟨q, hq, ⟨a1, a2, a3, a4⟩, d1, d2, h0, h1⟩
    refine ⟨q, ⟨hq, ?_⟩, ?_⟩
    · unfold inS
      simp only [Bool.and_eq_true, decide_eq_true_eq]
      exact ⟨⟨a1, a2⟩, a3, a4⟩
    · rw [← d1, ← d2]
      exact (bar_rc h0 h1).2.2.2.2
theorem ends_even {S : Sheet} {b : Int} {p : Int × Int} (h : p ∈ endsL S b) : (p.1 + p.2) % 2 = 0 := by
  unfold endsL endsI at h
  split at h <;> simp only [List.mem_cons, List.not_mem_nil, or_false] at h <;> rcases h with rfl | rfl <;> simp only <;> omega
/-- a bar is at a knot just where the knot is one of its ends -/
theorem bars_ends {S : Sheet} {b : Int} {p : Int × Int} (h0 : 0 ≤ b) (h1 : b < S.R * S.C) (hp : (p.1 + p.2) % 2 = 0) : b ∈ barsI S p ↔ p ∈ endsL S b := by
  obtain ⟨r0, r1, c0, c1, _⟩ := bar_rc h0 h1
  rw [mem_bars]
  obtain ⟨x, y⟩ := p
  have hp : (x + y) % 2 = 0 := hp
  unfold endsL endsI
  constructor
  · rintro ⟨q, hq, _, d1, d2, _⟩
    simp only [List.mem_cons, List.not_mem_nil, or_false] at hq
    rw [d1, d2]
    clear d1 d2
    rcases hq with rfl | rfl | rfl | rfl <;> simp only [] <;> split <;> rename_i hc <;> simp only [List.mem_cons, Prod.mk.injEq, List.not_mem_nil, or_false, and_true, true_and, or_true, true_or, and_self] <;> omega
  · intro h
    refine ⟨(b / S.C, b % S.C), ?_, ⟨r0, r1, c0, c1⟩, rfl, rfl, h0, h1⟩
    split at h <;> simp only [List.mem_cons, Prod.mk.injEq, List.not_mem_nil, or_false] at h ⊢ <;> omega
end FL
namespace FL
open PySem PySem.Spec L2 DL
section
variable {α : Type} {f : α → DL.D} {xs : List α} {m n k : Nat}
theorem gd_tL (h : ∀ x ∈ xs, Gd m n (f x)) (l : xs.length * (n + 1) ≤ k) : Gd (m + 1) k (tL f xs) := Gd.tuple (fun x hx => by
  obtain ⟨a, ha, rfl⟩ := List.mem_map.mp hx
  exact h a ha) (by rw [List.length_map]; exact l)
theorem gd_int {i : Int} (h : -1000000000 ≤ i ∧ i ≤ 1000000000) : Gd m n (.int i) := Gd.int (by
  have : (10 : Nat) ^ 79 > 1000000000 := by decide
  omega)
theorem dec_T : decide True = true := rfl
theorem dec_F : decide False = false := rfl
end
theorem law_for {s : FS} {k : Nat} (E : DL.D → En) (K : Nat) (body : ∀ (m : Int) (dk : DL.D) (i : Int), Dk m dk → m ≤ 1000000000 → ∃ dk', s ((E dk).set k (some (.int i))) = some (.ok .nx (E dk')) ∧ Dk (m + K) dk') :
    ∀ (is : List Int) (m : Int) (dk : DL.D), Dk m dk → m + is.length * K ≤ 1000000000 → ∃ dk', forL (.nm k) s (is.map .int) (E dk) = some (.ok .nx (E dk')) ∧ Dk (m + is.length * K) dk'
  | [], m, dk, hd, _ => ⟨dk, rfl, hd.le (by simp)⟩
  | i :: is, m, dk, hd, hm => by
    have e : ((i :: is).length : Int) * K = K + is.length * K := by
      rw [List.length_cons, Int.natCast_add, Int.add_mul]
      omega
    rw [e] at hm ⊢
    have p : 0 ≤ (is.length : Int) * K := Int.mul_nonneg (by omega) (by omega)
    obtain ⟨dk1, e1, hd1⟩ := body m dk i hd (by omega)
    obtain ⟨dk2, e2, hd2⟩ := law_for E K body is (m + K) dk1 hd1 (by omega)
    refine ⟨dk2, ?_, hd2.le (by omega)⟩
    rw [List.map_cons, forL_cons, bindD_nm, b_some, e1, lp_nx, e2]
theorem lawS_eq {n : Nat} {ns : List Int} : lawS n ns = none :: some (dkD ns 0 0 0) :: List.replicate n none := rfl
theorem rng_n {n : Int} (h : 0 ≤ n ∧ n ≤ 100000) : rng1 [.int n] = some ((rgI n).map .int) := by rw [rng1_i (by omega), rgI_fold]
end FL
namespace FL
open PySem PySem.Spec L2 DL
section
variable {m k : Nat}
theorem gd_ints {f : List DL.D → DL.D} (hf : ∀ {xs : List DL.D} {m n k : Nat}, (∀ x ∈ xs, Gd m n x) → xs.length * (n + 1) ≤ k → Gd (m + 1) k (f xs)) {T : List Int} (h : ∀ b ∈ T, -1000000000 ≤ b ∧ b ≤ 1000000000) (l : T.length ≤ k) : Gd (m + 1) k (f (T.map .int)) := hf (m := m) (n := 0) (fun x hx => by
  obtain ⟨b, hb, rfl⟩ := List.mem_map.mp hx
  exact gd_int (h b hb)) (by rw [List.length_map]; omega)
theorem IsTear.gd {S : Sheet} {T : List Int} (h : IsTear S T) (l : 64 ≤ k := by omega) : Gd (m + 1) k (tL .int T) := gd_ints (fun h l => Gd.tuple h l) (fun b hb => by have := h.inb b hb; have := S.many; omega) (by have := h.len; omega)
end
end FL
namespace FL
open PySem PySem.Spec L2 DL
noncomputable section
def B_hole_of_1 : FS :=
  (fEnd [2, 5, 6] (fIf (lf (tP (pBin dNotIn (pNm 6) (pNm 3)))) (fSeq (fPut 3 fSetL (lf (pC (.bool true))) (lf (pNm 6)))
  (fDo (mMut 4 fAppend [(lf (pNm 6))]))) fNil))
def B_hole_of_2 : FS :=
  (fEnd [2, 5, 6] (fKill [2, 6] (fFor (lf (iSeq (pCall F_lacking [(pNm 0), (pNm 1), (pNm 5)]))) (.nm 6) B_hole_of_1)))
def B_hole_of_3 : FS :=
  (fEnd [2, 5, 6] (fKill [2, 5, 6] (fFor (jSeq (mCallP F_ends_of [(mNm 0), (mEx (mMut 4 fPop []))])) (.nm 5) B_hole_of_2)))
def S_hole_of : FS :=
  (fSeq (fPar [3, 4] [(lf (pDict1 (pNm 2) (pC (.bool true)))), (lf (pLst [(pNm 2)]))])
  (fKill [2, 5, 6] (fSeq (fWhile (lf (tP (pBin dNe (pNm 4) (pLst [])))) B_hole_of_3)
  (fRet (lf (pApp dTuple [(pApp dSorted [(pNm 3)])]))))))
def F_hole_of : FD := runP [.val, .val, .val] false 7 S_hole_of
def B_holes : FS :=
  (fEnd [3] (fIf (lf (tNot (tP (pApp dAny [(pLc (iSeq (pNm 2)) (.nm 4) tYes (pBin dIn (pNm 3) (pNm 4)) [4])])))) (fDo (mMut 2 fAppend [(lf (pCall F_hole_of [(pNm 0), (pNm 1), (pNm 3)]))])) fNil))
def S_holes : FS :=
  (fSeq (fSet 2 (lf (pLst [])))
  (fKill [3] (fSeq (fFor (lf (iSeq (pNm 1))) (.nm 3) B_holes)
  (fRet (lf (pApp dTuple [(pNm 2)]))))))
def F_holes : FD := runP [.val, .val] false 5 S_holes
end
/-- the bars that lack at a bar's ends -/
def nbT (S : Sheet) (T : List Int) (b : Int) : List Int := lackI S T (endsI S b).1 ++ lackI S T (endsI S b).2
theorem lack_len {S : Sheet} {T : List Int} {p : Int × Int} : (lackI S T p).length ≤ 4 := Nat.le_trans (List.length_filter_le _ _) bars_len
theorem mem_lack {S : Sheet} {T : List Int} (hT : IsTear S T) {p : Int × Int} (hp : (p.1 + p.2) % 2 = 0) {b : Int} : b ∈ lackI S T p ↔ b ∈ T ∧ p ∈ endsL S b := by
  unfold lackI
  rw [List.mem_filter, decide_eq_true_eq]
  constructor
  · rintro ⟨h1, h2⟩
    exact ⟨h2, (bars_ends (hT.inb b h2).1 (hT.inb b h2).2 hp).mp h1⟩
  · rintro ⟨h1, h2⟩
    exact ⟨(bars_ends (hT.inb b h1).1 (hT.inb b h1).2 hp).mpr h2, h1⟩
/-- whether two bars share a knot -/
def nearB (S : Sheet) (b c : Int) : Bool := decide ((endsI S c).1 ∈ endsL S b) || decide ((endsI S c).2 ∈ endsL S b)
theorem nearB_iff {S : Sheet} {b c : Int} : nearB S b c = true ↔ ∃ p, p ∈ endsL S b ∧ p ∈ endsL S c := by
  unfold nearB
  rw [Bool.or_eq_true, decide_eq_true_eq, decide_eq_true_eq]
  constructor
  · rintro (h | h)
    · exact ⟨_, h, List.mem_cons_self⟩
    · exact ⟨_, h, by simp [endsL]⟩
  · rintro ⟨p, h1, h2⟩
    simp only [endsL, List.mem_cons, List.not_mem_nil, or_false] at h2
    rcases h2 with rfl | rfl
    · exact .inl h1
    · exact .inr h1
theorem mem_nbT {S : Sheet} {T : List Int} (hT : IsTear S T) {b c : Int} : c ∈ nbT S T b ↔ c ∈ T ∧ nearB S b c = true := by
  unfold nbT
  rw [List.mem_append, mem_lack hT (ends_even (S := S) (b := b) (by simp [endsL])), mem_lack hT (ends_even (S := S) (b := b) (by simp [endsL])), nearB_iff]
  constructor
  · rintro (⟨h1, h2⟩ | ⟨h1, h2⟩)
    · exact ⟨h1, _, by simp [endsL], h2⟩
    · exact ⟨h1, _, by simp [endsL], h2⟩
  · rintro ⟨h1, p, h2, h3⟩
    simp only [endsL, List.mem_cons, List.not_mem_nil, or_false] at h2
    rcases h2 with rfl | rfl
    · exact .inl ⟨h1, h3⟩
    · exact .inr ⟨h1, h3⟩
/-- a bar's hole -/
noncomputable def compI (S : Sheet) (T : List Int) (b : Int) : List Int := open Classical in T.filter fun c => decide (Reach (nbT S T) b c)
section
variable {S : Sheet} {T : List Int}
theorem comp_tear (hT : IsTear S T) {b : Int} : IsTear S (compI S T b) := hT.sub List.filter_sublist
theorem mem_comp {b c : Int} : c ∈ compI S T b ↔ c ∈ T ∧ Reach (nbT S T) b c := by
  unfold compI
  simp only [List.mem_filter, decide_eq_true_eq]
theorem reach_T (hT : IsTear S T) {b c : Int} (hb : b ∈ T) (h : Reach (nbT S T) b c) : c ∈ T := Reach.inv (P := fun c => c ∈ T) hb (fun x y _ hy => ((mem_nbT hT).mp hy).1) h
/-- an ascending list of what is reached -/
theorem sort_comp (hT : IsTear S T) {b : Int} (hb : b ∈ T) {F : List Int} (nd : F.Nodup) (h : ∀ x, x ∈ F ↔ Reach (nbT S T) b x) : sortI F = compI S T b :=
  asc_ext (sortI_asc nd) (comp_tear hT).asc fun a => by
    rw [sortI_mem, mem_comp, h]
    exact ⟨fun r => ⟨reach_T hT hb r, r⟩, fun r => r.2⟩
abbrev eH (S : Sheet) (T : List Int) (a : Option DL.D) (F W : List Int) : En := [some S.d, some (tL .int T), none, some (dsL .int F), some (lL .int W), a, none]
def _root_.SsH13 : List Lean.Name := SsH12 ++ []
def _root_.SsL13 : List Lean.Name := SsL12 ++ [`FL.dec_T, `FL.dec_F]
local macro_rules | `(tactic| simp only [$as,*] $[$l]?) => SsM (`word_snoc :: SsH13 ++ SsL13) as.getElems l
theorem hole_in (a : Option DL.D) : ∀ (os F W : List Int), F.length + os.length ≤ 100000 → W.length + os.length ≤ 100000 → ∃ a', forL (.nm 6) B_hole_of_1 (os.map .int) (eH S T a F W) = some (.ok .nx (eH S T a' (os.foldl addN (F, W)).1 (os.foldl addN (F, W)).2))
  | [], F, W, _, _ => ⟨a, rfl⟩
  | o :: os, F, W, h1, h2 => by
    rw [List.length_cons] at h1 h2
    have sF : F.length < sizeLine := by rw [size_eq]; omega
    have sW : W.length < sizeLine := by rw [size_eq]; omega
    by_cases h : o ∈ F
    · obtain ⟨a', e⟩ := hole_in none os F W (by omega) (by omega)
      refine ⟨a', ?_⟩
      rw [List.map_cons, forL_cons, List.foldl_cons, show addN (F, W) o = (F, W) from if_pos h, ← e]
      simp only [eH, B_hole_of_1, ss_, h, not_true, if_false, Bool.not_true, Bool.false_eq_true]
    · obtain ⟨a', e⟩ := hole_in none os (F ++ [o]) (W ++ [o]) (by rw [List.length_append, List.length_singleton]; omega) (by rw [List.length_append, List.length_singleton]; omega)
      refine ⟨a', ?_⟩
      rw [List.map_cons, forL_cons, List.foldl_cons, show addN (F, W) o = (F ++ [o], W ++ [o]) from if_neg h, ← e]
      simp only [eH, B_hole_of_1, ss_, h, not_false_eq_true, if_true, Bool.not_false, set_ds (f := PyData.int) sF h, app_lL (f := PyData.int) sW]
theorem fold2 {α : Type} [DecidableEq α] (a b F W : List α) : b.foldl addN (a.foldl addN (F, W)) = (a ++ b).foldl addN (F, W) := (List.foldl_append ..).symm
theorem fold_len {α : Type} [DecidableEq α] (os F W : List α) : (os.foldl addN (F, W)).1.length ≤ F.length + os.length ∧ (os.foldl addN (F, W)).2.length ≤ W.length + os.length := by
  induction os generalizing F W with
  | nil => simp
  | cons o os ih =>
    rw [List.foldl_cons, List.length_cons]
    by_cases h : o ∈ F
    · rw [show addN (F, W) o = (F, W) from if_pos h]
      have := ih F W; omega
    · rw [show addN (F, W) o = (F ++ [o], W ++ [o]) from if_neg h]
      have := ih (F ++ [o]) (W ++ [o])
      rw [List.length_append, List.length_append, List.length_singleton] at this
      omega
theorem pop_lL {α : Type} {f : α → DL.D} {W : List α} {x : α} : fPop (lL f (W ++ [x])) [] = some (f x, lL f W) := by
  show ((((W ++ [x]).map f)[((W ++ [x]).map f).length - 1]?).map fun d => (d, PyData.list ((W ++ [x]).map f).dropLast)) = _
  rw [List.map_append, List.map_singleton, List.dropLast_concat, List.length_append, List.length_singleton, Nat.add_sub_cancel, List.getElem?_append_right (Nat.le_refl _), Nat.sub_self]
  rfl
theorem hole_turn {F W : List Int} {x : Int} (h1 : F.length ≤ 1000) (h2 : W.length ≤ 1000) : B_hole_of_3 (eH S T none F (W ++ [x])) = some (.ok .nx (eH S T none ((nbT S T x).foldl addN (F, W)).1 ((nbT S T x).foldl addN (F, W)).2)) := by
  have l1 := lack_len (S := S) (T := T) (p := (endsI S x).1)
  have l2 := lack_len (S := S) (T := T) (p := (endsI S x).2)
  have fl := fold_len (lackI S T (endsI S x).1) F W
  obtain ⟨a1, e1⟩ := hole_in (S := S) (T := T) (some (pk (endsI S x).1)) (lackI S T (endsI S x).1) F W (by omega) (by omega)
  obtain ⟨a2, e2⟩ := hole_in (S := S) (T := T) (some (pk (endsI S x).2)) (lackI S T (endsI S x).2) ((lackI S T (endsI S x).1).foldl addN (F, W)).1 ((lackI S T (endsI S x).1).foldl addN (F, W)).2 (by omega) (by omega)
  unfold nbT
  rw [← fold2]
  simp only [eH] at e1 e2 ⊢
  have sq : seqD (endsD S x) = some [pk (endsI S x).1, pk (endsI S x).2] := rfl
  simp only [B_hole_of_3, B_hole_of_2, ss_, pop_lL, sq, forL_cons, e1, e2]
theorem hole_of_eq (hT : IsTear S T) {b : Int} (hb : b ∈ T) : F_hole_of [S.d, tL .int T, .int b] = some (tL .int (compI S T b)) := by
  have tl := hT.len
  obtain ⟨F, e, nd, mem⟩ := dfs_while (t := lf (tP (pBin dNe (pNm 4) (pLst [])))) (s := B_hole_of_3) (e := fun F W => eH S T none F W) (nb := nbT S T) (U := T) (b := b)
    (fun F W => by simp only [eH, ss_]) (fun F W x h1 h2 _ _ => hole_turn (by omega) (by omega)) (fun x hx y hy => ((mem_nbT hT).mp hy).1) hb
  simp only [eH] at e
  have e0 : PyData.list [PyData.int b] = lL .int [b] := rfl
  simp only [F_hole_of, S_hole_of, runP, ss_, e0, e, sort_comp hT hb nd mem]
noncomputable def stepH (S : Sheet) (T : List Int) (found : List (List Int)) (b : Int) : List (List Int) := if (found.any fun h => decide (b ∈ h)) = true then found else found ++ [compI S T b]
noncomputable def holesI (S : Sheet) (T : List Int) : List (List Int) := T.foldl (stepH S T) []
theorem stepH_len {found : List (List Int)} {b : Int} : (stepH S T found b).length ≤ found.length + 1 := by
  unfold stepH
  split
  · omega
  · rw [List.length_append]; exact Nat.le_refl _
theorem holes_len : ∀ (xs : List Int) (found : List (List Int)), (xs.foldl (stepH S T) found).length ≤ found.length + xs.length
  | [], found => by simp
  | x :: xs, found => by
    have := holes_len xs (stepH S T found x)
    have := stepH_len (S := S) (T := T) (found := found) (b := x)
    rw [List.foldl_cons, List.length_cons]
    omega
abbrev tLI : List Int → DL.D := tL .int
def _root_.SsH14 : List Lean.Name := SsH13 ++ []
def _root_.SsL14 : List Lean.Name := SsL13 ++ [`FL.hole_of_eq]
local macro_rules | `(tactic| simp only [$as,*] $[$l]?) => SsM (`word_snoc :: SsH14 ++ SsL14) as.getElems l
theorem holes_turn (hT : IsTear S T) {found : List (List Int)} {b : Int} (hb : b ∈ T) (hl : found.length ≤ 1000) : B_holes [some S.d, some (tL .int T), some (lL tLI found), some (.int b), none] = some (.ok .nx [some S.d, some (tL .int T), some (lL tLI (stepH S T found b)), none, none]) := by
  have fx : (found.length ≤ sizeLine) = True := fits (by omega)
  have an : dAny [lL (fun h => PyData.bool (decide (b ∈ h))) found] = some (.bool (found.any fun h => decide (b ∈ h))) := any_lL
  have lc : lcF (fun _ => some true) (fun d => dIn (.int b) d) (found.map tLI) = some (found.map fun h => PyData.bool (decide (b ∈ h))) := by
    rw [lc_map]
    refine lc_memA fun h _ => ⟨rfl, ?_⟩
    exact r_inT (f := PyData.int) (by decide)
  unfold stepH
  by_cases h : (found.any fun h => decide (b ∈ h)) = true
  · simp only [B_holes, ss_, fx, lc, an, h, Bool.not_true, Bool.false_eq_true, if_false, if_true, not_true]
  · simp only [B_holes, ss_, fx, lc, an, h, not_false_eq_true, if_true, if_false, hole_of_eq hT hb, app_lL (f := tLI) (show found.length < sizeLine by rw [size_eq]; omega), Bool.false_eq_true, Bool.not_false]
theorem holes_eq (hT : IsTear S T) : F_holes [S.d, tL .int T] = some (tL tLI (holesI S T)) := by
  have tl := hT.len
  have go : ∀ (xs : List Int) (found : List (List Int)), (∀ b ∈ xs, b ∈ T) → found.length + xs.length ≤ 1000 → forL (.nm 3) B_holes (xs.map .int) [some S.d, some (tL .int T), some (lL tLI found), none, none] = some (.ok .nx [some S.d, some (tL .int T), some (lL tLI (xs.foldl (stepH S T) found)), none, none]) := by
    intro xs
    induction xs with
    | nil => exact fun _ _ _ => rfl
    | cons x xs ih =>
      intro found hm hl
      rw [List.length_cons] at hl
      have := stepH_len (S := S) (T := T) (found := found) (b := x)
      rw [List.map_cons, forL_cons, List.foldl_cons, bindD_nm, b_some, show (_ : En).set 3 (some (PyData.int x)) = [some S.d, some (tL .int T), some (lL tLI found), some (.int x), none] from rfl, holes_turn hT (hm x List.mem_cons_self) (by omega), lp_nx]
      exact ih _ (fun b hb => hm b (List.mem_cons_of_mem _ hb)) (by omega)
  have e := go T [] (fun _ h => h) (by rw [List.length_nil]; omega)
  have e0 : PyData.list [] = lL tLI [] := rfl
  simp only [F_holes, S_holes, runP, ss_, e0, e, holesI]
theorem near_symm {x y : Int} : nearB S x y = nearB S y x := by
  rw [Bool.eq_iff_iff, nearB_iff, nearB_iff]
  exact ⟨fun ⟨p, a, b⟩ => ⟨p, b, a⟩, fun ⟨p, a, b⟩ => ⟨p, b, a⟩⟩
theorem nb_symm (hT : IsTear S T) {x y : Int} (hx : x ∈ T) (h : y ∈ nbT S T x) : x ∈ nbT S T y := by
  obtain ⟨_, h2⟩ := (mem_nbT hT).mp h
  exact (mem_nbT hT).mpr ⟨hx, by rw [near_symm]; exact h2⟩
theorem reach_symm (hT : IsTear S T) {b c : Int} (hb : b ∈ T) (h : Reach (nbT S T) b c) : Reach (nbT S T) c b := by
  have : Reach (nbT S T) c b ∧ c ∈ T := by
    induction h with
    | refl => exact ⟨.refl, hb⟩
    | step h1 h2 ih => exact ⟨Reach.trans (.step .refl (nb_symm hT ih.2 h2)) ih.1, ((mem_nbT hT).mp h2).1⟩
  exact this.1
end
end FL
namespace FL
open PySem PySem.Spec L2 DL
def leP (a b : Int × Int) : Bool := decide (a.1 < b.1 ∨ a.1 = b.1 ∧ a.2 ≤ b.2)
def sortP (xs : List (Int × Int)) : List (Int × Int) := xs.mergeSort leP
theorem sortP_perm (xs : List (Int × Int)) : (sortP xs).Perm xs := List.mergeSort_perm _ _
theorem sortP_mem {xs : List (Int × Int)} {a : Int × Int} : a ∈ sortP xs ↔ a ∈ xs := (sortP_perm xs).mem_iff
/-- put in once -/
def addO {α : Type} [DecidableEq α] (F : List α) (o : α) : List α := if o ∈ F then F else F ++ [o]
theorem addO_mem {α : Type} [DecidableEq α] : ∀ {os F : List α} {x : α}, x ∈ os.foldl addO F ↔ x ∈ F ∨ x ∈ os
  | [], F, x => by simp
  | o :: os, F, x => by
    rw [List.foldl_cons, addO_mem]
    unfold addO
    split
    · rename_i h
      rw [List.mem_cons]
      exact ⟨fun z => z.elim .inl fun z => .inr (.inr z), fun z => z.elim .inl fun z => z.elim (fun e => .inl (e ▸ h)) .inr⟩
    · rw [List.mem_append, List.mem_singleton, List.mem_cons, or_assoc]
/-- the knots at which bars lie -/
def knotsOf (S : Sheet) (h : List Int) : List (Int × Int) := (h.flatMap (endsL S)).foldl addO []
theorem mem_knotsOf {S : Sheet} {h : List Int} {p : Int × Int} : p ∈ knotsOf S h ↔ ∃ b ∈ h, p ∈ endsL S b := by
  unfold knotsOf
  rw [addO_mem, List.mem_flatMap]
  simp
section
variable {S : Sheet} {T : List Int}
theorem holes_tear (hT : IsTear S T) : ∀ h ∈ holesI S T, IsTear S h := by
  have all : ∀ (xs : List Int) (f : List (List Int)), (∀ h ∈ f, IsTear S h) → ∀ h ∈ xs.foldl (stepH S T) f, IsTear S h := by
    intro xs
    induction xs with
    | nil => exact fun f hf => hf
    | cons x xs ih =>
      intro f hf
      refine ih _ fun h hh => ?_
      unfold stepH at hh
      split at hh
      · exact hf h hh
      · rcases List.mem_append.mp hh with hh | hh
        · exact hf h hh
        · rw [List.mem_singleton.mp hh]; exact comp_tear hT
  exact all T [] (fun _ h => absurd h List.not_mem_nil)
theorem holes_many (hT : IsTear S T) : (holesI S T).length ≤ 64 := by
  have hl := holes_len (S := S) (T := T) T []
  have tl := hT.len
  rw [List.length_nil] at hl
  unfold holesI
  omega
theorem odd_nd : (oddI S T).Nodup := by
  unfold oddI
  refine List.Pairwise.filter _ ?_
  unfold knotsI
  refine List.pairwise_flatMap.mpr ⟨fun r _ => ?_, ?_⟩
  · unfold rowK
    refine List.Pairwise.filter _ ?_
    rw [List.pairwise_map]
    exact asc_rgI.nodup.imp fun h e => h (Prod.mk.inj e).2
  · exact asc_rgI.nodup.imp fun {a b} h p hp q hq e => by
      unfold rowK at hp hq
      obtain ⟨c, _, e1⟩ := List.mem_map.mp (List.mem_filter.mp hp).1
      obtain ⟨d, _, e2⟩ := List.mem_map.mp (List.mem_filter.mp hq).1
      rw [e, ← e2] at e1
      exact h (Prod.mk.inj e1).1
end
end FL
namespace FL
open PySem PySem.Spec L2 DL
def st (cs : List Nat) : Str := ⟨cs.toArray⟩
def ts (cs : List Nat) : DL.D := .str (st cs)
theorem str_ts {cs : List Nat} : PyData.str (st cs) = ts cs := rfl
section
variable {a b : List Nat} {α : Type} {f : α → List Nat} {xs : List α} {q : α → Bool}
theorem sO_ts {β : Type} {k : Str → Option β} : sO (ts a) k = k (st a) := rfl
end
end FL
namespace FL
open PySem PySem.Spec L2 DL
end FL
namespace FL
open PySem PySem.Spec L2 DL
end FL
namespace FL
open PySem PySem.Spec L2 DL
/-- a hole: a tear in one piece -/
def IsHole (S : Sheet) (h : List Int) : Prop := IsTear S h ∧ ∃ b ∈ h, ∀ x ∈ h, Reach (nbT S h) b x
end FL
namespace FL
open PySem PySem.Spec L2 DL
section
variable {S : Sheet}
theorem holes_one {h : List Int} (hh : IsHole S h) : holesI S h = [h] := by
  obtain ⟨hT, b, hb, hr⟩ := hh
  have all : ∀ x ∈ h, ∀ y ∈ h, Reach (nbT S h) x y := fun x hx y hy => Reach.trans (reach_symm hT hb (hr x hx)) (hr y hy)
  have comp : ∀ x ∈ h, compI S h x = h := fun x hx => by
    unfold compI
    refine List.filter_eq_self.mpr fun y hy => ?_
    simp only [decide_eq_true_eq]
    exact all x hx y hy
  have rest : ∀ xs : List Int, (∀ x ∈ xs, x ∈ h) → xs.foldl (stepH S h) [h] = [h] := fun xs => by
    induction xs with
    | nil => intro _; rfl
    | cons x xs ih =>
      intro hx
      rw [List.foldl_cons]
      have : stepH S h [h] x = [h] := by
        unfold stepH
        rw [if_pos (by simp only [List.any_cons, List.any_nil, Bool.or_false, decide_eq_true_eq]; exact hx x List.mem_cons_self)]
      rw [this]
      exact ih fun y hy => hx y (List.mem_cons_of_mem _ hy)
  unfold holesI
  cases hq : h with
  | nil => rw [hq] at hb; exact absurd hb List.not_mem_nil
  | cons c r =>
    rw [← hq]
    have cm : c ∈ h := by rw [hq]; exact List.mem_cons_self
    have : h.foldl (stepH S h) [] = r.foldl (stepH S h) (stepH S h [] c) := by
      conv => lhs; rw [show List.foldl (stepH S h) [] h = List.foldl (stepH S h) [] (c :: r) by rw [← hq]]
      rfl
    rw [this]
    have s0 : stepH S h [] c = [h] := by
      unfold stepH
      rw [if_neg (by simp), comp c cm]
      rfl
    rw [s0]
    exact rest r fun y hy => by rw [hq]; exact List.mem_cons_of_mem _ hy
end
end FL
namespace FL
open PySem PySem.Spec L2 DL
def ltP (a b : Int × Int) : Prop := a.1 < b.1 ∨ a.1 = b.1 ∧ a.2 < b.2
theorem ascP_ext : ∀ {xs ys : List (Int × Int)}, xs.Pairwise ltP → ys.Pairwise ltP → (∀ a, a ∈ xs ↔ a ∈ ys) → xs = ys
  | [], ys, _, _, h => (List.eq_nil_iff_forall_not_mem.mpr fun a ha => nomatch (h a).mpr ha).symm
  | x :: xs, [], _, _, h => nomatch (h x).mp List.mem_cons_self
  | x :: xs, y :: ys, hx, hy, h => by
    obtain ⟨hx1, hx2⟩ := List.pairwise_cons.mp hx
    obtain ⟨hy1, hy2⟩ := List.pairwise_cons.mp hy
    have xy : x = y := by
      rcases List.mem_cons.mp ((h x).mp List.mem_cons_self) with e | e
      · exact e
      · rcases List.mem_cons.mp ((h y).mpr List.mem_cons_self) with e2 | e2
        · exact e2.symm
        · have a1 := hy1 x e
          have a2 := hx1 y e2
          unfold ltP at a1 a2
          omega
    subst xy
    refine congrArg _ (ascP_ext hx2 hy2 fun a => ?_)
    have ne : ∀ {zs : List (Int × Int)}, (∀ b ∈ zs, ltP x b) → a ∈ zs → a ≠ x := fun hz ha e => by
      have := hz a ha
      rw [e] at this
      unfold ltP at this
      omega
    constructor
    · intro ha
      exact (List.mem_cons.mp ((h a).mp (List.mem_cons_of_mem _ ha))).resolve_left (ne hx1 ha)
    · intro ha
      exact (List.mem_cons.mp ((h a).mpr (List.mem_cons_of_mem _ ha))).resolve_left (ne hy1 ha)
theorem sortP_asc {xs : List (Int × Int)} (nd : xs.Nodup) : (sortP xs).Pairwise ltP := by
  have h1 : (sortP xs).Pairwise fun a b => leP a b = true := List.pairwise_mergeSort (fun a b c h1 h2 => by
    unfold leP at *
    rw [decide_eq_true_eq] at *
    omega) (fun a b => by
    unfold leP
    rw [Bool.or_eq_true, decide_eq_true_eq, decide_eq_true_eq]
    omega) xs
  have h2 : (sortP xs).Nodup := (sortP_perm xs).nodup_iff.mpr nd
  refine (h1.and h2).imp fun {a b} ⟨h, n⟩ => ?_
  unfold leP at h
  rw [decide_eq_true_eq] at h
  unfold ltP
  have : ¬ (a.1 = b.1 ∧ a.2 = b.2) := fun z => n (Prod.ext z.1 z.2)
  omega
theorem knots_asc {S : Sheet} : (knotsI S).Pairwise ltP := by
  unfold knotsI
  refine List.pairwise_flatMap.mpr ⟨fun r _ => ?_, ?_⟩
  · unfold rowK
    refine List.Pairwise.filter _ (List.pairwise_map.mpr ((asc_rgI (n := S.C + 1)).imp fun {a b} h => ?_))
    exact .inr ⟨rfl, h⟩
  · refine (asc_rgI (n := S.R + 1)).imp fun {a b} h x hx y hy => ?_
    unfold rowK at hx hy
    obtain ⟨c, _, rfl⟩ := List.mem_map.mp (List.mem_filter.mp hx).1
    obtain ⟨d, _, rfl⟩ := List.mem_map.mp (List.mem_filter.mp hy).1
    exact .inl h
end FL
namespace DL
open PySem PySem.Spec L2 PyProof.Rows
def dedP (ps : List (Int × Int)) : List (Int × Int) := ps.foldl (fun acc p => if p ∈ acc then acc else acc ++ [p]) []
theorem dedP_mem : ∀ (ps acc : List (Int × Int)) (x : Int × Int), x ∈ ps.foldl (fun acc p => if p ∈ acc then acc else acc ++ [p]) acc ↔ x ∈ acc ∨ x ∈ ps
  | [], acc, x => by simp
  | p :: ps, acc, x => by
    rw [List.foldl_cons, dedP_mem ps, List.mem_cons]
    split
    · rename_i h
      exact ⟨fun z => z.elim .inl fun z => .inr (.inr z), fun z => z.elim .inl fun z => z.elim (fun e => .inl (e ▸ h)) .inr⟩
    · rw [List.mem_append, List.mem_singleton, or_assoc]
theorem dedP_nd : ∀ (ps acc : List (Int × Int)), acc.Nodup → (ps.foldl (fun acc p => if p ∈ acc then acc else acc ++ [p]) acc).Nodup
  | [], _, h => h
  | p :: ps, acc, h => by
    rw [List.foldl_cons]
    refine dedP_nd ps _ ?_
    split
    · exact h
    · rename_i q
      exact List.nodup_append.mpr ⟨h, by simp, fun a ha b hb e => q (by rw [List.mem_singleton.mp hb] at e; exact e ▸ ha)⟩
/-- each once, ascending -/
def onceP (ps : List (Int × Int)) : List (Int × Int) := FL.sortP (dedP ps)
theorem rpL_refs {H : Hp} {O : OS} {α : Type} {f : α → D} {g : α → Addr} : ∀ {xs : List α}, (∀ x ∈ xs, Rp H O (f x) (.ref (g x))) → RpL H O (xs.map f) (xs.map fun x => V.ref (g x))
  | [], _ => (rfl : ([] : List V) = [])
  | x :: xs, h => ⟨_, _, rfl, h x List.mem_cons_self, rpL_refs fun y hy => h y (List.mem_cons_of_mem _ hy)⟩
end DL
namespace L2
open PySem PySem.Spec PyProof.Rows
theorem erased {α : Type} (xs : Array α) (p : Nat) : (SetTable.eraseAt xs p).toList = xs.toList.eraseIdx p := by
  unfold SetTable.eraseAt
  rw [List.eraseIdx_eq_take_drop_succ, Array.toList_append, Array.toList_extract, Array.toList_extract]
  simp
  rw [List.take_of_length_le (by rw [List.length_drop, Array.length_toList]; omega)]
theorem inserted_size {α : Type} (xs : Array α) (p : Nat) (x : α) : (SetTable.insertAt xs p x).size = xs.size + 1 := by
  have h := congrArg List.length (SetTable.toList_insertAt xs p x)
  rw [Array.length_toList] at h
  rw [h, List.length_append, List.length_cons, List.length_take, List.length_drop, Array.length_toList]
  omega
section
variable {P : Program} {w : World} {A : Around} {E : Value → Shared → Prop} {s : Shared} {a : Addr} {S : Int → Bool} {n : Nat}
theorem drop_ok {t : SetTable} {m i : Nat} (hf : t.fits m = true) (hi : i < m) (hr : Ris t.place.toList) : (t.drop i).fits (m - 1) = true ∧ Ris (t.drop i).place.toList ∧ (t.drop i).led = t.led := by
  unfold SetTable.fits SetTable.fill at hf
  rw [Bool.and_eq_true, beq_iff_eq, decide_eq_true_eq] at hf
  obtain ⟨h1, h2⟩ := hf
  have hp : t.place[i]? = some (t.place[i]'(by omega)) := Array.getElem?_eq_getElem (by omega)
  have e : t.drop i = { t with place := SetTable.eraseAt t.place i, dummies := SetTable.insertAt t.dummies (SetTable.below t.dummies (t.place[i]'(by omega))) (t.place[i]'(by omega)) } := by
    unfold SetTable.drop
    rw [hp]
  have es := erased t.place i
  have ez : (SetTable.eraseAt t.place i).size = m - 1 := by
    have h := congrArg List.length es
    rw [Array.length_toList, List.length_eraseIdx, Array.length_toList, if_pos (by omega)] at h
    omega
  have ed := inserted_size t.dummies (SetTable.below t.dummies (t.place[i]'(by omega))) (t.place[i]'(by omega))
  rw [e]
  refine ⟨?_, ?_, rfl⟩
  · unfold SetTable.fits SetTable.fill
    rw [Bool.and_eq_true, beq_iff_eq, decide_eq_true_eq]
    dsimp only
    rw [ez, ed]
    omega
  · dsimp only
    rw [es]
    exact hr.sublist (List.eraseIdx_sublist _ _)
/-- one number is taken out, if it is there -/
theorem setR_discard {k : Int} {tk : Tok} {Q : Bool → Shared → Prop} (R : SetR w s.heap a S n) (no : S k = false → Q false s)
    (yes : S k = true → ∀ h', Heap.SameBut a s.heap h' → SetR w h' a (fun j => S j && !decide (j = k)) (n - 1) → Q true { s with heap := h' }) :
    wpAny (model P w) A (setDiscardHashed a (.int k tk) ((intKind P w).hash k)) Q E s := by
  obtain ⟨o, es, ep, t, ho, hex, hd, g, nd, hm, hb, hf, hn, hr, hl⟩ := R
  have hkey : (intKind P w).is k (.int k tk) = true := intKind_is P w k tk
  have hsc : (Value.int k tk).scannable = true := rfl
  have hel : ElemsOf (intKind P w) es.toList := good_elems g
  unfold setDiscardHashed
  refine wpAny_bind ?_
  unfold setFind setFindIn
  refine wpAny_bind (wpAny_setState_of ho hd hf ?_)
  dsimp only
  rw [byScan_of hsc hb hel]
  simp only [↓reduceIte]
  refine wpAny_bind (wpAny_rule ?_)
  refine wpAny_bind (wpAny_setScan_of hkey ho hd hf hel ?_)
  cases hfi : List.findIdx? (fun e => (intKind P w).is k e.2) es.toList with
  | none =>
    dsimp only
    refine wpAny_pure ?_
    dsimp only
    refine wpAny_pure (no ?_)
    cases q : S k with
    | false => rfl
    | true =>
      obtain ⟨e, he, z⟩ := (good_mem (P := P) (w := w) g k).1 ((hm k).1 q)
      have c := List.findIdx?_eq_none_iff.mp hfi e he
      rw [z] at c
      cases c
  | some j =>
    dsimp only
    refine wpAny_pure ?_
    dsimp only
    obtain ⟨hj, pj, _⟩ := List.findIdx?_eq_some_iff_getElem.mp hfi
    rw [Nat.zero_add]
    have hj2 : j < es.size := by rw [Array.length_toList] at hj; exact hj
    have hSk : S k = true := (hm k).2 ((good_mem (P := P) (w := w) g k).2 ⟨es.toList[j], List.getElem_mem hj, pj⟩)
    have hk : keyOf es.toList[j] = k := (good_is (P := P) (w := w) (g _ (List.getElem_mem hj)) k).1 pj
    obtain ⟨d1, d2, d3⟩ := drop_ok hf hj2 hr
    have pe := erase_perm es.toList j es.toList[j] (List.getElem?_eq_getElem hj)
    have el := erased es j
    have sz : (SetTable.eraseAt es j).size = es.size - 1 := by
      have h := congrArg List.length el
      rw [Array.length_toList, List.length_eraseIdx, Array.length_toList, if_pos hj2] at h
      exact h
    have pk := pe.map keyOf
    rw [List.map_cons, hk] at pk
    have nd1 := pk.nodup_iff.mpr nd
    obtain ⟨nk, nd2⟩ := List.nodup_cons.mp nd1
    refine wpAny_bind (wpAny_setState_of ho hd hf ?_)
    dsimp only
    refine wpAny_bind (wpAny_storeSet_of ho hd ?_ (fits_of_scanBound (by rw [sz]; omega)))
    refine wpAny_bind (wpAny_point ?_)
    refine wpAny_pure (yes hSk _ (Heap.SameBut.update s.heap a _) ?_)
    have ho1 := store_at (es' := SetTable.eraseAt es j) (t' := t.drop j) ho hd
    refine ⟨_, _, _, _, ho1, hex, rfl, fun e he => g e ?_, ?_, fun i => ?_, by rw [sz]; omega, by rw [sz]; exact d1, by rw [sz, hn], d2, hl.imp id fun z => by rw [d3]; exact z⟩
    · rw [el] at he
      exact List.mem_of_mem_eraseIdx he
    · rw [el]
      exact nd2
    · rw [el, Bool.and_eq_true, hm i, ← pk.mem_iff, List.mem_cons]
      constructor
      · rintro ⟨h1 | h1, h2⟩
        · simp [h1] at h2
        · exact h1
      · intro h
        refine ⟨.inr h, ?_⟩
        have : i ≠ k := fun z => nk (z ▸ h)
        simp [this]
/-- taken out if it is there, put in if it is not -/
theorem setR_flip {k : Int} {tk : Tok} {Q : Unit → Shared → Prop} (R : SetR w s.heap a S n) (room : n + 1 < scanBound)
    (hQ : ∀ h' m, Heap.SameBut a s.heap h' → m ≤ n + 1 → SetR w h' a (fun j => S j ^^ decide (j = k)) m → Q () { s with heap := h' }) :
    wpAny (model P w) A (do if !(← setDiscardHashed a (.int k tk) ((intKind P w).hash k)) then let _ ← setAddHashed a (.int k tk) ((intKind P w).hash k)) Q E s := by
  refine wpAny_bind (setR_discard R (fun e => ?_) fun e h' sb r => ?_)
  · simp only [Bool.not_false, if_true]
    refine wpAny_bind (setR_add_hashed R room fun h' sb r => ?_)
    rw [e] at r
    refine wpAny_pure (hQ h' (n + 1) sb (Nat.le_refl _) (r.congr fun j => ?_))
    by_cases hj : j = k
    · rw [hj, e]
      simp
    · simp [hj]
  · simp only [Bool.not_true, Bool.false_eq_true, if_false]
    refine wpAny_pure (hQ h' (n - 1) sb (by omega) (r.congr fun j => ?_))
    by_cases hj : j = k
    · rw [hj, e]
      simp
    · simp [hj]
theorem sets_quiet {l : List Addr} {Q : Bool → Shared → Prop} (h : ∀ b ∈ l, ∃ S n, SetR w s.heap b S n) (hQ : Q true s) : wpAny (model P w) A (setsQuiet l) Q E s := by
  unfold setsQuiet
  refine wpAny_bind (wpAny_forIn_list _ (fun rest r s' => r.1 = none ∧ s' = s ∧ ∀ b ∈ rest, ∃ S n, SetR w s.heap b S n) _ ?_ ?_ _ _ ⟨rfl, rfl, h⟩)
  · rintro b rest r s' ⟨hr, rfl, hall⟩
    obtain ⟨S, n, o, es, ep, t, ho, hex, hd, g, nd, hm, hb, hf, hn, hr', hl⟩ := hall b List.mem_cons_self
    refine wpAny_bind (m := setEntries b) ?_
    unfold setEntries
    refine wpAny_bind (wpAny_setState_of ho hd hf (wpAny_pure ?_))
    dsimp only
    refine wpAny_bind ?_
    rw [← Array.forIn_toList]
    refine wpAny_forIn_list _ (fun rest r s2 => r.1 = none ∧ s2 = s' ∧ ∀ e ∈ rest, GoodE e) _ ?_ ?_ _ _ ⟨rfl, rfl, g⟩
    · rintro ⟨eh, ev⟩ rest2 r2 s2 ⟨hr2, rfl, hall2⟩
      obtain ⟨k, tk, h1, _⟩ := hall2 _ List.mem_cons_self
      have h1 : ev = Value.int k tk := h1
      subst h1
      exact wpAny_pure ⟨rfl, rfl, fun e he => hall2 e (List.mem_cons_of_mem _ he)⟩
    · rintro ⟨r1, r2⟩ s2 ⟨hr2, rfl, _⟩
      simp only at hr2
      subst hr2
      exact wpAny_pure ⟨rfl, rfl, fun b hb => hall b (List.mem_cons_of_mem _ hb)⟩
  · rintro ⟨r1, r2⟩ s' ⟨hr, rfl, _⟩
    simp only at hr
    subst hr
    exact wpAny_pure hQ
/-- the members in the order in which nobody sees them -/
theorem set_unseen {o1 : Addr} {S1 : Int → Bool} {n1 : Nat} {Q : Array (Int × Value) → Shared → Prop} (R1 : SetR w s.heap o1 S1 n1) (R : SetR w s.heap a S n) (hne : o1 ≠ a)
    (hQ : ∀ (es : Array (Int × Value)) h', (∀ e ∈ es.toList, GoodE e) → (es.toList.map keyOf).Nodup → (∀ k, S1 k = true ↔ k ∈ es.toList.map keyOf) → es.toList.length = n1 → Heap.SameBut a s.heap h' → SetR w h' a S n → Q es { s with heap := h' }) :
    wpAny (model P w) A (setWalkUnseen o1 [a] (some a)) Q E s := by
  obtain ⟨o, es, ep, t, ho, hex, hd, g, nd, hm, hb, hf, hn, hr, hl⟩ := R1
  have fin : ∀ es' : Array (Int × Value), es'.toList.Perm es.toList → ∀ h', Heap.SameBut a s.heap h' → SetR w h' a S n → Q es' { s with heap := h' } := fun es' pm h' sb r =>
    hQ es' h' (fun e he => g e (pm.mem_iff.mp he)) ((pm.map keyOf).nodup_iff.mpr nd) (fun k => (hm k).trans (pm.map keyOf).mem_iff.symm) (by rw [pm.length_eq, Array.length_toList, hn]) sb r
  unfold setWalkUnseen
  refine wpAny_bind (wpAny_setState_of ho hd hf ?_)
  dsimp only
  refine wpAny_bind (wpAny_byText ?_)
  by_cases hc : (w.params.followText "set-order" || (t.led && t.plain) || decide (es.size ≤ 1)) = true
  · refine wp_if_pos hc ?_
    unfold setWalk
    refine wpAny_bind (wpAny_setState_of ho hd hf ?_)
    dsimp only
    refine wpAny_bind (wpAny_byText ?_)
    by_cases hbt : w.params.followText "set-order" = true
    · refine wp_if_pos hbt ?_
      exact wpAny_bind (wpAny_askSetting (wpAny_pure (fin _ (pick_perm _ _) _ (Heap.SameBut.refl a s.heap) R)))
    · have hl := hl.resolve_left hbt
      have hbf : w.params.followText "set-order" = false := by simpa using hbt
      rw [hbf, hl, Bool.false_or, Bool.true_and, Bool.or_eq_true, decide_eq_true_eq] at hc
      refine wp_if_neg hbt ?_
      try refine wpAny_bind (wpAny_pure ?_)
      refine wp_if_neg (by
        show ¬ ((!t.plain && decide (es.size > 1)) = true)
        rcases hc with z | z
        · simp [z]
        · have : ¬ es.size > 1 := by omega
          simp [this]) ?_
      try refine wpAny_bind (wpAny_pure ?_)
      refine wpAny_bind (wpAny_of_eq (a := ()) ?_ ?_)
      · show (if (!t.led && decide (es.size > 1)) = true then unsupported "set:maker-not-led" else pure ()) = pure ()
        rw [hl] <;> rfl
      · exact wpAny_pure (fin _ (List.Perm.refl _) _ (Heap.SameBut.refl a s.heap) R)
  · refine wp_if_neg hc ?_
    try refine wpAny_bind (wpAny_pure ?_)
    refine wpAny_bind (sets_quiet (fun b hb => ?_) ?_)
    · rcases List.mem_cons.mp hb with rfl | hb
      · exact ⟨S1, n1, o, es, ep, t, ho, hex, hd, g, nd, hm, ‹_›, hf, hn, hr, hl⟩
      · rw [List.mem_singleton.mp hb]
        exact ⟨S, n, R⟩
    refine wp_if_neg (by decide) ?_
    try refine wpAny_bind (wpAny_pure ?_)
    refine wpAny_bind (wpAny_rule ?_)
    obtain ⟨oa, ea, pa, ta, hoa, hexa, hda, ga, nda, hma, hba, hfa, hna, hra, hla⟩ := R
    have hbt : ¬ w.params.followText "set-order" = true := fun z => by simp [z] at hc
    refine wpAny_bind (wpAny_setState_of hoa hda hfa ?_)
    dsimp only
    by_cases hx : (ta.led && !t.led || ta.plain && !t.plain) = true
    · refine wp_if_pos hx ?_
      refine wpAny_bind (wpAny_storeSet_of hoa hda ?_ (fits_of_scanBound hba))
      refine wpAny_pure (fin _ (List.Perm.refl _) _ (Heap.SameBut.update s.heap a _) ?_)
      exact ⟨_, _, _, _, store_at hoa hda, hexa, rfl, ga, nda, hma, hba, hfa, hna, hra, .inr (by
        show (ta.led && t.led) = true
        rw [hla.resolve_left hbt, hl.resolve_left hbt]
        rfl)⟩
    · refine wp_if_neg hx ?_
      exact wpAny_pure (fin _ (List.Perm.refl _) _ (Heap.SameBut.refl a s.heap) ⟨oa, ea, pa, ta, hoa, hexa, hda, ga, nda, hma, hba, hfa, hna, hra, hla⟩)
/-- what o1 holds is flipped, one by one -/
theorem flips {id : String} {o1 : Addr} {ep : Nat} (hne : o1 ≠ a) : ∀ (l : List (Int × Value)) {S : Int → Bool} {n : Nat} {s : Shared} {Q : PUnit → Shared → Prop}, (∀ e ∈ l, GoodE e) → (l.map keyOf).Nodup → (∃ o es t, s.heap.get? o1 = some o ∧ o.data = .set es ep t ∧ t.fits es.size = true) → SetR w s.heap a S n → n + l.length + 1 < scanBound →
    (∀ h' m, Heap.SameBut a s.heap h' → m ≤ n + l.length → SetR w h' a (fun j => S j ^^ decide (j ∈ l.map keyOf)) m → Q ⟨⟩ { s with heap := h' }) →
    wpAny (model P w) A (forIn l PUnit.unit fun (x : Int × Value) _ => do
      holding [x.2] (do if !(← setDiscardHashed a x.2 x.1) then let _ ← setAddHashed a x.2 x.1)
      Builtin.Frozenset.unchanged id o1 ep
      pure (ForInStep.yield PUnit.unit)) Q E s
  | [], S, n, s, Q, _, _, _, R, _, hQ => by
    rw [List.forIn_nil]
    exact wpAny_pure (hQ s.heap n (Heap.SameBut.refl a s.heap) (Nat.le_refl _) (R.congr fun j => by simp))
  | e :: l, S, n, s, Q, hg, hnd, ho, R, hb, hQ => by
    obtain ⟨k, tk, e1, e2⟩ := hg e List.mem_cons_self
    obtain ⟨eh, ev⟩ := e
    have e1 : ev = Value.int k tk := e1
    have e2 : eh = hashInt k := e2
    subst e1 e2
    have hk : keyOf (hashInt k, Value.int k tk) = k := rfl
    rw [List.map_cons, hk] at hnd
    obtain ⟨n1, n2⟩ := List.nodup_cons.mp hnd
    rw [List.length_cons] at hb
    rw [List.forIn_cons]
    refine wpAny_bind (wpAny_bind (wpAny_holding (setR_flip R (by omega) fun h' m sb lm r => ?_)))
    obtain ⟨o, es, t, ho, hd, hf⟩ := ho
    have ho' := (sb.2 o1 hne).trans ho
    unfold Builtin.Frozenset.unchanged setEpoch
    refine wpAny_bind (wpAny_bind (wpAny_bind (wpAny_setState_of (s := { s with heap := h' }) ho' hd hf (wpAny_pure ?_))))
    refine wp_if_neg (by simp) ?_
    refine wpAny_pure (wpAny_pure ?_)
    dsimp only
    refine flips hne l (fun e he => hg e (List.mem_cons_of_mem _ he)) n2 ⟨o, es, t, ho', hd, hf⟩ r (by omega) fun h2 m2 sb2 lm2 r2 => ?_
    refine hQ h2 m2 (sb.trans sb2) (by rw [List.length_cons]; omega) (r2.congr fun j => ?_)
    rw [List.map_cons, hk]
    by_cases hj : j = k
    · subst hj
      simp [n1]
    · simp [hj]
abbrev freshT (w : World) : SetTable := .fresh 0 0 (!w.params.followText "set-order")
theorem laid_eq (f m : Nat) (l p : Bool) (hs : Array Int) : SetTable.laid 7 f m l p hs = ({ mask := 7, place := #[], dummies := #[], finger := f, led := l, moves := m, plain := p } : SetTable).relaid hs 0 := by
  unfold SetTable.relaid
  rw [show SetTable.sizeAbove 0 - 1 = 7 by decide +kernel]
  rfl
theorem one_list {l : List (Int × Value)} (h : l.length = 1) : ∃ e, l = [e] := List.length_eq_one_iff.mp h
/-- a new set takes over another of one member -/
theorem merge_one {o2 : Addr} {S2 : Int → Bool} {each : Sem Unit} {Q : Unit → Shared → Prop} (ha : s.heap.get? a = some { cls := .type "set", dict := none, data := .set #[] 0 (freshT w) }) (R2 : SetR w s.heap o2 S2 1) (hne : a ≠ o2)
    (hQ : ∀ h', Heap.SameBut a s.heap h' → SetR w h' a S2 1 → Q () { s with heap := h' }) : wpAny (model P w) A (setMerge a o2 each) Q E s := by
  obtain ⟨o, es, ep, t, ho, hex, hd, g, nd, hm, hb, hf, hn, hr, hl⟩ := R2
  have hfa : (freshT w).fits (#[] : Array (Int × Value)).size = true := by rfl
  unfold setMerge
  refine wp_if_neg (by simpa using hne) ?_
  try refine wpAny_bind (wpAny_pure ?_)
  refine wpAny_bind (wpAny_setState_of ho hd hf ?_)
  dsimp only
  refine wp_if_neg (by rw [Array.isEmpty_iff_size_eq_zero]; omega) ?_
  try refine wpAny_bind (wpAny_pure ?_)
  refine wpAny_bind ?_
  unfold setRoomFor
  refine wpAny_bind (wpAny_setState_of ha rfl hfa ?_)
  dsimp only
  obtain ⟨e0, he0⟩ := one_list (l := es.toList) (by rw [Array.length_toList, hn])
  have ees : es = #[e0] := by rw [← Array.toArray_toList (xs := es), he0]
  subst ees
  have rf : (freshT w).roomFor (#[e0] : Array (Int × Value)).size = none := by rfl
  rw [rf]
  dsimp only
  refine wpAny_pure ?_
  refine wpAny_bind (wpAny_setState_of ha rfl hfa ?_)
  dsimp only
  have fill0 : ((freshT w).fill != 0) = false := by rfl
  have end_ : ∀ (es1 : Array (Int × Value)) (t1 : SetTable), es1 = #[e0] → t1.fits 1 = true → (w.params.followText "set-order" = true ∨ t1.led = true) → wpAny (model P w) A (storeSet a es1 t1) Q E s := fun es1 t1 e1 f1 l1 => by
    subst e1
    refine wpAny_storeSet_of ha rfl ?_ (fits_of_scanBound hb)
    refine hQ _ (Heap.SameBut.update s.heap a _) ⟨_, _, _, _, store_at ha rfl, ⟨rfl, rfl, rfl⟩, rfl, g, nd, hm, hb, f1, rfl, ?_, l1⟩
    unfold SetTable.fits at f1
    rw [Bool.and_eq_true, beq_iff_eq] at f1
    obtain ⟨x, hx⟩ := List.length_eq_one_iff.mp (show t1.place.toList.length = 1 by rw [Array.length_toList]; exact f1.1)
    rw [hx]
    exact List.pairwise_singleton _ _
  have led : w.params.followText "set-order" = true ∨ ((freshT w).led && t.led) = true := by
    rcases hl with z | z
    · exact .inl z
    · by_cases hbt : w.params.followText "set-order" = true
      · exact .inl hbt
      · have hbf : w.params.followText "set-order" = false := by simpa using hbt
        refine .inr ?_
        show ((!w.params.followText "set-order") && t.led) = true
        rw [hbf, z]
        rfl
  unfold SetTable.road
  rw [fill0]
  simp only [Bool.false_eq_true, if_false]
  by_cases hc : ((freshT w).mask == t.mask && t.dummies.isEmpty) = true
  · rw [if_pos hc]
    exact end_ _ _ rfl hf led
  · rw [if_neg hc]
    dsimp only
    refine wpAny_bind ?_
    have hmask : (freshT w).mask = 7 := rfl
    rw [hmask, laid_eq]
    obtain ⟨t', order, e, hp, T, em, el, ep', ed⟩ := relaid_ok { mask := 7, place := #[], dummies := #[], finger := (freshT w).finger, led := (freshT w).led && t.led, moves := (freshT w).moves, plain := (freshT w).plain && t.plain } (hs := Array.map (fun x => x.1) #[e0]) (wanted := 0) (M := 7) (by decide +kernel) (.inl rfl) (by simp)
    have ho0 : order = #[0] := by
      have : order.toList = [0] := by
        have z := hp
        rw [Array.size_map] at z
        exact List.perm_singleton.mp z
      rw [← Array.toArray_toList (xs := order), this]
    subst ho0
    rw [e]
    have sz1 : t'.place.size = 1 := by
      have z := T.sz
      simpa using z
    refine wpAny_of_eq (a := ((#[e0] : Array (Int × Value)), t')) (by rfl) ?_
    refine end_ _ _ rfl ?_ (by rw [el]; exact led)
    unfold SetTable.fits SetTable.fill
    rw [sz1, ed, em]
    rfl
theorem any_set {v : Value} {Q : Bool → Shared → Prop} (T : s.TypeIs v "set") (h : Q true s) : wpAny (model P w) A (Builtin.Frozenset.isAnySet v) Q E s := by
  unfold Builtin.Frozenset.isAnySet
  show wpAny _ _ (isInstance v (.type "set") >>= _) _ _ _
  exact wpAny_bind (wpAny_isInstance (b := true) T sub_set_self (wpAny_pure h))
theorem base_set {b : Addr} {Q : Value → Shared → Prop} (T : s.TypeIs (.ref b) "set") (h : Q (.type "set") s) : wpAny (model P w) A (Builtin.Frozenset.baseOf b) Q E s := by
  unfold Builtin.Frozenset.baseOf
  exact wpAny_bind (wpAny_isInstance (b := true) T sub_set_self (wpAny_pure h))
/-- set.__xor__ of two sets, the other of one member -/
theorem xor_one {a1 a2 : Addr} {S1 S2 : Int → Bool} {n1 : Nat} {Q : PySem.Fin → Shared → Prop} (R1 : SetR w s.heap a1 S1 n1) (R2 : SetR w s.heap a2 S2 1) (h1 : n1 + 4 < scanBound)
    (hQ : ∀ h' m, (∀ b o, s.heap.get? b = some o → h'.get? b = some o) → m ≤ n1 + 1 → SetR w h' s.heap.objs.size (fun j => S2 j ^^ S1 j) m → Q (.done (.ret (.ref s.heap.objs.size))) { s with heap := h' }) :
    wpAny (model P w) A (Builtin.«frozenset.__xor__» ⟨[.ref a1, .ref a2], []⟩) Q E s := by
  have T1 : s.TypeIs (.ref a1) "set" := R1.setOf (P := P) |>.typeIs
  have T2 : s.TypeIs (.ref a2) "set" := R2.setOf (P := P) |>.typeIs
  unfold Builtin.«frozenset.__xor__»
  wp_delta
  refine wpAny_bind (wpAny_of_eq (a := (Value.ref a1, Value.ref a2)) (by rfl) ?_)
  dsimp only
  simp only [Bool.false_eq_true, if_false]
  refine wpAny_bind ?_
  show wpAny _ _ (Builtin.Frozenset.isAnySet (.ref a1) >>= _) _ _ _
  refine wpAny_bind (any_set T1 ?_)
  show wpAny _ _ (Builtin.Frozenset.isAnySet (.ref a2)) _ _ _
  refine any_set T2 ?_
  refine wp_if_neg (by decide) ?_
  try refine wpAny_bind (wpAny_pure ?_)
  refine wpAny_bind ?_
  wp_delta
  refine wpAny_bind (base_set T1 ?_)
  refine wpAny_bind ?_
  unfold Builtin.Frozenset.newFrom newSet
  refine wpAny_bind (wpAny_bind (wpAny_byText ?_))
  dsimp only
  refine wpAny_newObj_type ?_
  obtain ⟨h1', hh1⟩ : ∃ h1', s.heap.push { cls := .type "set", dict := none, data := .set #[] 0 (freshT w) } = h1' := ⟨_, rfl⟩
  have keep1 : ∀ b o, s.heap.get? b = some o → h1'.get? b = some o := fun b o e => by rw [← hh1]; exact Heap.get?_push_of_some _ e
  have hnew : h1'.get? s.heap.objs.size = some { cls := .type "set", dict := none, data := .set #[] 0 (freshT w) } := by rw [← hh1]; exact Heap.get?_push_size _ rfl
  have l1 := R1.lt
  have l2 := R2.lt
  have R1a : SetR w h1' a1 S1 n1 := R1.at fun o e => keep1 a1 o e
  have R2a : SetR w h1' a2 S2 1 := R2.at fun o e => keep1 a2 o e
  show wpAny _ _ _ _ _ { s with heap := s.heap.push { cls := .type "set", dict := none, data := .set #[] 0 (freshT w) } }
  rw [hh1]
  refine wpAny_bind (wpAny_pure ?_)
  refine wpAny_bind (wpAny_holding ?_)
  unfold Builtin.Frozenset.updateFrom
  refine wpAny_bind (any_set (s := { s with heap := h1' }) (R2a.setOf (P := P)).typeIs ?_)
  simp only [if_true]
  refine wpAny_bind (wpAny_pure ?_)
  unfold Builtin.Frozenset.merge
  obtain ⟨o2, es2, ep2, t2, ho2, hex2, hd2, hr2⟩ := id R2a
  obtain ⟨_, _, _, _, hf2, _⟩ := hr2
  unfold setEpoch
  refine wpAny_bind (wpAny_bind (wpAny_setState_of (s := { s with heap := h1' }) ho2 hd2 hf2 (wpAny_pure ?_)))
  refine merge_one (s := { s with heap := h1' }) hnew R2a (Nat.ne_of_gt l2) fun h2' sb2 r2 => ?_
  refine wpAny_pure ?_
  refine wpAny_bind (wpAny_pure ?_)
  refine wpAny_bind (wpAny_holding ?_)
  have R1b : SetR w h2' a1 S1 n1 := R1a.at fun o e => (sb2.2 a1 (Nat.ne_of_lt l1)).trans e
  have T1b : Shared.TypeIs { s with heap := h2' } (.ref a1) "set" := (R1b.setOf (P := P)).typeIs
  unfold Builtin.Frozenset.symmetricDifferenceUpdate
  refine wp_if_neg (by simp; exact Nat.ne_of_lt l1) ?_
  try refine wpAny_bind (wpAny_pure ?_)
  dsimp only
  refine wpAny_bind (wpAny_typeOf T1b ?_)
  refine wp_if_neg (by decide) ?_
  try refine wpAny_bind (wpAny_pure ?_)
  refine wpAny_bind (any_set T1b ?_)
  refine wp_if_pos rfl ?_
  refine wpAny_bind (wpAny_pure ?_)
  refine wpAny_bind (wpAny_pure ?_)
  obtain ⟨o1, es1, ep1, t1, ho1, hex1, hd1, hr1⟩ := id R1b
  obtain ⟨_, _, _, _, hf1, hn1, _⟩ := hr1
  unfold setEpoch
  refine wpAny_bind (wpAny_bind (wpAny_setState_of (s := { s with heap := h2' }) ho1 hd1 hf1 (wpAny_pure ?_)))
  refine wpAny_holding ?_
  refine wpAny_bind (set_unseen (s := { s with heap := h2' }) R1b r2 (Nat.ne_of_lt l1) fun es h3' g3 nd3 m3 ln3 sb3 r3 => ?_)
  refine wpAny_bind ?_
  rw [← Array.forIn_toList]
  refine flips (o1 := a1) (ep := ep1) (Nat.ne_of_lt l1) es.toList g3 nd3 ⟨o1, es1, t1, (sb3.2 a1 (Nat.ne_of_lt l1)).trans ho1, hd1, hf1⟩ r3 (by rw [ln3]; omega) fun h4' m sb4 lm r4 => ?_
  refine wpAny_pure (wpAny_pure (wpAny_pure (hQ h4' m (fun b o e => ?_) (by rw [ln3] at lm; omega) (r4.congr fun j => ?_))))
  · have hb : b ≠ s.heap.objs.size := Nat.ne_of_lt (Heap.lt_size e)
    exact (sb4.2 b hb).trans ((sb3.2 b hb).trans ((sb2.2 b hb).trans (keep1 b o e)))
  · have z := m3 j
    cases q : S1 j with
    | true => simp [z.1 q]
    | false =>
      have : j ∉ es.toList.map keyOf := fun h => by rw [z.2 h] at q; cases q
      simp [this]
theorem entry_xor : entryFor table "set.__xor__" = some Builtin.«frozenset.__xor__» := entryFor_alias (id' := "frozenset.__xor__") (by kernel_rfl) rfl (by decide +kernel) (by kernel_rfl)
/-- set ^ set -/
theorem op_xor_one {a1 a2 : Addr} {S1 S2 : Int → Bool} {n1 : Nat} {Q : Value → Shared → Prop} (R1 : SetR w s.heap a1 S1 n1) (R2 : SetR w s.heap a2 S2 1) (h1 : n1 + 4 < scanBound)
    (hQ : ∀ h' m, (∀ b o, s.heap.get? b = some o → h'.get? b = some o) → m ≤ n1 + 1 → SetR w h' s.heap.objs.size (fun j => S2 j ^^ S1 j) m → Q (.ref s.heap.objs.size) { s with heap := h' }) :
    wpAny (model P w) A (binaryOp .BitXor (.ref a1) (.ref a2)) Q E s := by
  have T1 : s.TypeIs (.ref a1) "set" := R1.setOf (P := P) |>.typeIs
  have T2 : s.TypeIs (.ref a2) "set" := R2.setOf (P := P) |>.typeIs
  refine wpAny_binaryOp_same T1 T2 F.fills_set_xor F.slot_set_xor ?_
  exact wpAny_call_entry F.slot_set_xor T1 entry_xor (xor_one R1 R2 h1 fun h' m k l r => ⟨_, rfl, (fun z => nomatch z), hQ h' m k l r⟩) (F.args_set_xor_2 _ _)
theorem each_int {h : Heap} {b : Addr} : ∀ {us : List Value}, (∀ v ∈ us, ∃ k tk, v = Value.int k tk) → PySem.W.EachIs (fun v (b : Int) => ∃ tk, v = Value.int b tk) us (us.map Builtin.Re.reRawOf) ∧ PySem.W.EachIs (fun v (d : Int) => ∃ as, Reads h v (PyData.int d) as ∧ b ∉ as) us (us.map Builtin.Re.reRawOf)
  | [], _ => ⟨.nil, .nil⟩
  | v :: us, hu => by
    obtain ⟨k, tk, rfl⟩ := hu v List.mem_cons_self
    obtain ⟨e1, e2⟩ := each_int fun u h => hu u (List.mem_cons_of_mem _ h)
    exact ⟨.cons ⟨tk, rfl⟩ e1, .cons ⟨[], .int _ _, List.not_mem_nil⟩ e2⟩
theorem ints_eachX : ∀ {us : List Value} {ns : List Int}, PySem.W.EachIs (fun v (b : Int) => ∃ tk, v = Value.int b tk) us ns → IntsAre us ns
  | _, _, .nil => .nil
  | _, _, .cons ⟨tk, e⟩ t => by
    subst e
    exact .cons _ tk (ints_eachX t)
/-- sorted(set), of any size -/
theorem sorted_any {Q : Value → Shared → Prop} (R : SetR w s.heap a S n) (hh : A.handled = none) (hu : A.units + 8 < cLine)
    (hQ : ∀ s' p (out : Array Value) (c : Nat) (ns : List Int), (∀ b o, s.heap.get? b = some o → s'.heap.get? b = some o) → s'.gens = s.gens → s'.os = s.os → s.heap.objs.size ≤ p →
      s'.heap.get? p = some (seqObj "list" out c) → IntsAre out.toList ns → ns.Pairwise (· < ·) → (∀ k, k ∈ ns ↔ S k = true) → ns.length = n → Q (.ref p) s') :
    wpAny (model P w) A (call (.builtin "sorted") [.ref a]) Q E s := by
  obtain ⟨o, es, ep, t, ho, hex, hd, g, nd, hm, hb, hf, hn, hr, hl⟩ := R
  refine Calls.call_function_entry kind_sorted plain_sorted entry_sorted (args_sorted1 _) ?_
  unfold Builtin.«sorted»
  refine wpAny_bind (m := checkCount "sorted" 1 1 _) (wpAny_pure ?_)
  refine wpAny_bind (collect_set (A := A.in1) hh ⟨o, ho, hex.1, hd⟩ hf hb hr hl fun s1 vs k1 hz g1 o1 pm => ?_)
  have hvl : vs.length = n := by rw [pm.length_eq, List.length_map, Array.length_toList]; exact hn
  have hvs : ∀ v ∈ vs, ∃ k tk, v = Value.int k tk := fun v hv => by
    obtain ⟨e, he, q⟩ := List.mem_map.mp (pm.mem_iff.mp hv)
    obtain ⟨k, tk, h1, _⟩ := g e he
    exact ⟨k, tk, by rw [← q]; exact h1⟩
  have pk : (vs.map Builtin.Re.reRawOf).Perm (es.toList.map keyOf) := by
    have q := pm.map Builtin.Re.reRawOf
    rw [List.map_map] at q
    exact q
  have nlt : n ≤ 4096 := by rw [← hn]; exact Nat.le_of_lt hb
  refine wpAny_bind (wpAny_newList ?_ (by rw [hvl, sizeLine_eq]; omega))
  have hoL : (s1.heap.push (seqObj "list" vs.toArray 0)).get? s1.heap.objs.size = some (seqObj "list" vs.toArray 0) := Heap.get?_push_size _ rfl
  obtain ⟨e, er⟩ := each_int (h := s1.heap.push (seqObj "list" vs.toArray 0)) (b := s1.heap.objs.size) hvs
  refine wpAny_bind (wpAny_holding (PySem.W.list_sort_data (s := { s1 with heap := s1.heap.push (seqObj "list" vs.toArray 0) }) (enc := fun b : Int => PyData.int b) hoL e er (PySem.W.AllAlike.of fun b b' => by simp [PySem.W.alike]) (PySem.W.Sortable.others fun b => ⟨(fun z => nomatch z), fun xs z => nomatch z⟩) (by rw [List.length_map, hvl, sizeLine_eq]; omega) (fun b _ => ?_) fun out lo eo => ?_))
  · have : (PyData.int b).depth = 0 := by simp [PyData.depth]
    rw [this, Around.in1_units]
    omega
  obtain ⟨c, hc⟩ := sortedHeap_at (vs := vs) (out := out.toArray) hoL
  rw [PySem.W.dataLe_int (fun b : Int => b)] at eo
  have pm2 : ((vs.map Builtin.Re.reRawOf).mergeSort fun a b => decide (a ≤ b)).Perm (es.toList.map keyOf) := (List.mergeSort_perm _ _).trans pk
  have srt : ((vs.map Builtin.Re.reRawOf).mergeSort fun a b => decide (a ≤ b)).Pairwise (· ≤ ·) := by
    refine (List.pairwise_mergeSort (le := fun a b : Int => decide (a ≤ b)) (fun a b c h1 h2 => ?_) (fun a b => ?_) _).imp fun {a b} h => of_decide_eq_true h
    · simp only [decide_eq_true_eq] at h1 h2 ⊢
      omega
    · simp only [Bool.or_eq_true, decide_eq_true_eq]
      omega
  refine wpAny_pure ⟨_, rfl, hQ _ s1.heap.objs.size out.toArray c _ (fun b u e => ?_) g1 o1 hz hc (ints_eachX eo) (lt_of_le_nodup _ srt (pm2.nodup_iff.mpr nd)) (fun k => by rw [pm2.mem_iff, ← hm k]) ?_⟩
  · have q := k1 b u e
    have hlt := Heap.lt_size q
    show (sortedHeap (s1.heap.push (seqObj "list" vs.toArray 0)) s1.heap.objs.size vs out.toArray).get? b = some u
    rw [sortedHeap_old (Nat.ne_of_lt hlt) (by rw [size_push']; exact Nat.lt_succ_of_lt hlt)]
    exact Heap.get?_push_of_some _ q
  · rw [pm2.length_eq, List.length_map, Array.length_toList]; exact hn
set_option maxRecDepth 100000 in
set_option maxHeartbeats 3200000 in
/-- set(xs), xs a list of whole numbers -/
theorem call_set_nums {l : Addr} {items : Array Value} (ns : List Int) {Q : Value → Shared → Prop} (hh : A.handled = none) (hl : s.heap.IsList l items) (hit : IntsAre items.toList ns) (hb : ns.length + 1 < scanBound)
    (h : ∀ (h' : Heap) (tk c : Nat), SetR w h' s.heap.objs.size (fun j => decide (j ∈ ns)) c → c ≤ ns.length → (∀ b o, s.heap.get? b = some o → h'.get? b = some o) → Q (.ref s.heap.objs.size) { s with heap := h', toks := tk }) :
    wpAny (model P w) A (call (.type "set") [.ref l]) Q E s := by
  have hisz : items.size = ns.length := by
    have q := IntsAre.length hit
    rw [Array.length_toList] at q
    exact q
  obtain ⟨c, tl, hmro⟩ := F.called_set.mro
  have hmade := F.called_set.made
  have hsub := F.called_set.sub
  refine wpAny_call (codeAny_of_tree ?_)
  show wpAny _ _ (callAny (.type "set") _) _ _ _
  refine wpAny_pure ⟨Code.quiet_builtin _ (by decide +kernel), codeAny_builtin F.entry_type_call ?_⟩
  rw [Around.under_plain (weight_type_call_type "set" [.ref l] []) rfl]
  have h1 := F.called_set.notType
  have h2 := F.called_set.canCreate
  have hct := F.typeCall_set_1 (.ref l)
  repeat (any_goals (first | assumption | wp_step))
  refine codeAny_mono (code_set_led1 (.ref l) (E := E) (Q₁ := fun obj s₁ => obj = .ref s.heap.objs.size ∧ s₁ = { s with heap := s.heap.push (bareSet w) }) ⟨rfl, rfl⟩) fun r s₁ hr => ?_
  cases r with
  | error e => exact hr
  | ok fl =>
    cases fl with
    | ret obj =>
      obtain ⟨rfl, rfl⟩ := hr
      have hS : (s.heap.push (bareSet w)).get? s.heap.objs.size = some (bareSet w) := Heap.get?_push_size _ rfl
      have hT : Shared.TypeIs { s with heap := s.heap.push (bareSet w) } (.ref s.heap.objs.size) "set" := ⟨_, hS, rfl⟩
      have hli := F.called_set.init.lookup
      have hbi := F.called_set.init.bind (.ref s.heap.objs.size)
      repeat (any_goals (first | assumption | wp_step))
      refine codeAny_mono (codeAny_call_builtin (R := wants (fun r s₂ => r = .none ∧ ∃ h' tk c, s₂ = { s with heap := h', toks := tk } ∧ SetR w h' s.heap.objs.size (fun j => decide (j ∈ ns)) c ∧ c ≤ ns.length ∧ (∀ b o, s.heap.get? b = some o → h'.get? b = some o)) E) F.called_set.init.plain F.entry_set_init (check_set_init_1 hT ?_)) fun r₂ s₂ hr₂ => ?_
      · obtain ⟨ol, hol, hcl, nl, hdl⟩ := hl
        obtain ⟨ocls, odict, odata, oslots⟩ := ol
        simp only at hcl hdl
        subst hcl; subst hdl
        have hol' : (s.heap.push (bareSet w)).get? l = some { cls := .type "list", dict := odict, data := .seq items nl, slots := oslots } := Heap.get?_push_of_some _ hol
        have hsls := F.sub_list_set
        have hslf := F.sub_list_frozenset
        have hne : (Value.type "list" == Value.type "dict") = false := by decide
        have hl1 : (s.heap.push (bareSet w)).IsList l items := ⟨_, hol', rfl, nl, rfl⟩
        unfold Builtin.«set.__init__» noKeywords Builtin.Frozenset.updateFrom
        generalize hPI : pyIter = PI
        wp_walk
        subst hPI
        refine wpAny_pyIter_list hl1 ?_
        refine wpAny_bind (wpAny_runValue ?_)
        have hlS : l < s.heap.objs.size := Heap.lt_size hol
        have hh3 : A.in1.in1.in1.handled = none := by simp [hh]
        have hneI : l ≠ (s.heap.push (bareSet w)).objs.size := by
          rw [Heap.size_push]; exact Nat.ne_of_lt (Nat.lt_succ_of_lt hlS)
        have hSf : s.heap.objs.size ∉ [(s.heap.push (bareSet w)).objs.size, l] := by
          rw [Heap.size_push]; simp only [List.mem_cons, List.mem_singleton, List.not_mem_nil, or_false, not_or]
          exact ⟨Nat.ne_of_lt (Nat.lt_succ_self _), Nat.ne_of_gt hlS⟩
        have hval : ∀ (i : Nat) (v : Value), items[i]? = some v → ∃ k t, ns[i]? = some k ∧ v = .int k t := fun i v hv => by
          have hi : i < ns.length := by rw [← hisz]; exact (Array.getElem?_eq_some_iff.mp hv).1
          obtain ⟨t, e⟩ := PyProof.Rows.IntsAre.int_at hit i v (by rw [Array.getElem?_toList]; exact hv)
          refine ⟨ns[i], t, List.getElem?_eq_getElem hi, ?_⟩
          rw [e, List.getD_eq_getElem?_getD, List.getElem?_eq_getElem hi] <;> rfl
        refine set_update_ints ((Walks.list hh3 _ l hneI items).toS) s.heap.objs.size
          hSf ns hisz hb hval (items.size - 0) 0 _ (by omega) (Nat.zero_le _)
          ⟨⟨_, Heap.get?_push_size _ rfl, rfl, rfl⟩, (hl1.push _)⟩ ?hS0 ?hR
        case hS0 =>
          have hget : ((s.heap.push (bareSet w)).push { cls := .type "list_iterator", data := .fields #[.ref l, .int 0 0] }).get? s.heap.objs.size = some (bareSet w) := Heap.get?_push_of_some _ hS
          exact ⟨0, Nat.le_refl 0, setR_new_at hget⟩
        case hR =>
          intro s' c' hm hc' hS'
          obtain ⟨h', g2, d', tk', os'⟩ := s'
          have eg : g2 = s.gens := hm.gens
          have ed : d' = s.drawn := hm.drawn
          have eo : os' = s.os := hm.os
          subst eg; subst ed; subst eo
          show wpAny _ _ _ _ _ _
          refine wpAny_pure ?_
          show wpAny _ _ (ret Value.none) _ _ _
          rw [hisz] at hc'
          refine wpAny_pure ⟨rfl, h', tk', c', rfl, hS', hc', fun b o e => ?_⟩
          have hb0 : b < s.heap.objs.size := Heap.lt_size e
          have hb1 : b ≠ s.heap.objs.size := Nat.ne_of_lt hb0
          have hb2 : b ≠ (s.heap.push (bareSet w)).objs.size := by
            rw [Heap.size_push]; exact Nat.ne_of_lt (Nat.lt_succ_of_lt hb0)
          exact hm.heap b o (by simp only [List.mem_cons, List.mem_singleton, List.not_mem_nil, or_false, not_or]; exact ⟨hb1, hb2⟩) (Heap.get?_push_of_some _ (Heap.get?_push_of_some _ e))
      · cases r₂ with
        | error e => exact hr₂
        | ok fl₂ =>
          cases fl₂ with
          | ret r =>
            obtain ⟨rfl, h', tk, c', rfl, hS', hc', hk'⟩ := hr₂
            repeat (any_goals (first | assumption | wp_step))
            exact h _ _ _ hS' hc' hk'
          | _ => exact hr₂.elim
    | _ => exact hr.elim
end
end L2
namespace L2
open PySem PySem.Spec PyProof.Rows
section
variable {P : Program} {w : World} {K : Type} [DecidableEq K] {knd : HeapKind P w K}
/-- a kind whose keys may stand in sets -/
structure KSet (knd : HeapKind P w K) : Prop where
  st : knd.Stays
  ofc : ∀ {A : Around} {E : Value → Shared → Prop} {s : Shared} {k : K} {b : Addr} {Q : Bool → Shared → Prop}, knd.is s.heap k b → Q false s → wpAny (model P w) A (ofAClassStatement 8 (.ref b)) Q E s
  byv : ∀ {A : Around} {E : Value → Shared → Prop} {s : Shared} {k : K} {b : Addr} {Q : Bool → Shared → Prop}, knd.is s.heap k b → Q true s → wpAny (model P w) A (hashByValue 8 (.ref b)) Q E s
def rowsN (knd : HeapKind P w K) (L : List (Addr × K)) : List (Int × Value) := L.map fun p => (knd.hash p.2, Value.ref p.1)
theorem rowsN_len (L : List (Addr × K)) : (rowsN knd L).length = L.length := List.length_map ..
/-- the set at a: its members in their slots' order -/
structure SetN (knd : HeapKind P w K) (h : Heap) (a : Addr) (L : List (Addr × K)) (es : Array (Int × Value)) (ep : Nat) (t : SetTable) : Prop where
  ob : ∃ o, h.get? a = some o ∧ o.ExactSet ∧ o.data = .set es ep t
  rows : es.toList = rowsN knd L
  tab : TabOk t (L.map fun p => knd.hash p.2)
  nd : (L.map (·.2)).Nodup
  mem : ∀ p ∈ L, knd.is h p.2 p.1
  plain : t.plain = true
  led : w.params.followText "set-order" = true ∨ t.led = true
  room : L.length * 5 < t.mask * 3
  few : L.length < 64
variable {A : Around} {E : Value → Shared → Prop} {s : Shared} {a : Addr} {L : List (Addr × K)} {es : Array (Int × Value)} {ep : Nat} {t : SetTable}
theorem SetN.size {h : Heap} (R : SetN knd h a L es ep t) : es.size = L.length := by
  rw [← Array.length_toList, R.rows, rowsN_len]
theorem fitsN {n : Nat} (hs : t.place.size = n) (hd : t.dummies = #[]) (hm : n ≤ t.mask) : t.fits n = true := by
  unfold SetTable.fits SetTable.fill
  rw [hd, hs, Bool.and_eq_true, beq_iff_eq, decide_eq_true_eq]
  exact ⟨rfl, by simpa using hm⟩
theorem SetN.fits {h : Heap} (R : SetN knd h a L es ep t) : t.fits es.size = true := by
  have h1 := R.tab.sz
  rw [List.length_map] at h1
  have := R.room
  exact fitsN (by rw [h1, R.size]) R.tab.dm (by rw [R.size]; omega)
theorem rowN_at {i : Nat} {p : Addr × K} (hr : es.toList = rowsN knd L) (h : L[i]? = some p) : es[i]? = some (knd.hash p.2, Value.ref p.1) := by
  rw [← Array.getElem?_toList, hr]
  unfold rowsN
  rw [List.getElem?_map, h]
  rfl
theorem SetN.gw {h : Heap} (R : SetN knd h a L es ep t) : ¬ t.gaveWay = true := by
  unfold SetTable.gaveWay
  rw [mask_odd R.tab.mok]
  decide
/-- keys stay while all but the set stays -/
theorem key_same (KS : KSet knd) {h h' : Heap} {k : K} {b : Addr} {o : Obj} (hb : knd.is h k b) (ho : h.get? a = some o) (hd : o.data = .set es ep t) (hs : Heap.SameBut a h h') : knd.is h' k b :=
  KS.st.stays (fun c u vs n e d => (hs.2 c fun z => by
    rw [z, ho] at e
    cases e
    rw [hd] at d
    cases d).trans e) hb
theorem key_keep (KS : KSet knd) {h h' : Heap} {k : K} {b : Addr} (hb : knd.is h k b) (hk : ∀ c o, h.get? c = some o → h'.get? c = some o) : knd.is h' k b := KS.st.stays (fun c u _ _ e _ => hk c u e) hb
/-- nobody sees a search among keys -/
theorem seenN (KS : KSet knd) {k : K} {b : Addr} {Q : Bool → Shared → Prop} (hk : knd.is s.heap k b) {ys : List Value} (hy : ∀ y ∈ ys, ∃ k' c, y = Value.ref c ∧ knd.is s.heap k' c) (h : Q false s) : wpAny (model P w) A (searchCouldBeSeen (.ref b) ys) Q E s := by
  unfold searchCouldBeSeen
  refine wpAny_bind (wpAny_forIn_list _ (fun rest r s2 => r.1 = none ∧ s2 = s ∧ ∀ y ∈ rest, ∃ k' c, y = Value.ref c ∧ knd.is s.heap k' c) _ (fun y rest r s2 hi => ?_) (fun r s2 hi => ?_) _ _ ⟨rfl, rfl, hy⟩)
  · obtain ⟨hr, rfl, hall⟩ := hi
    obtain ⟨k', c, rfl, hc⟩ := hall y List.mem_cons_self
    have go : ∀ y ∈ rest, ∃ k' c, y = Value.ref c ∧ knd.is s2.heap k' c := fun u hu => hall u (List.mem_cons_of_mem _ hu)
    dsimp only
    by_cases hv : (b == c || (carriedByValue (.ref b) && carriedByValue (.ref c))) = true
    · exact wp_if_pos hv (wpAny_pure ⟨rfl, rfl, go⟩)
    · refine wp_if_neg hv (wpAny_bind (knd.quiet hk ?_))
      refine wp_if_neg (by decide) (wpAny_bind (knd.quiet hc ?_))
      refine wp_if_neg (by decide) (wpAny_bind (KS.ofc hk ?_))
      refine wp_if_neg (by decide) (wpAny_bind (KS.ofc hc ?_))
      exact wp_if_neg (by decide) (wpAny_pure ⟨rfl, rfl, go⟩)
  · obtain ⟨r1, r2⟩ := r
    obtain ⟨hr, rfl, _⟩ := hi
    have hr : r1 = none := hr
    subst hr
    exact wpAny_pure h
/-- the way's c-th step -/
abbrev stp (t : SetTable) (h : Int) (c : Nat) : SetTable.Probe := nth t.mask (runAt t.mask (SetTable.bits h % (t.mask + 1)) (SetTable.bits h)) c
theorem stp_dummy (t : SetTable) (h : Int) (c : Nat) : (stp t h c).dummy = none := by
  have key : ∀ (n : Nat) (p : SetTable.Probe), p.dummy = none → (nth t.mask p n).dummy = none := fun n => by
    induction n with
    | zero => exact fun p h => h
    | succ n ih =>
      intro p h
      refine ih (adv t.mask p) ?_
      unfold adv
      split <;> exact h
  exact key c _ rfl
theorem stp_add (t : SetTable) (h : Int) (c q : Nat) : nth t.mask (stp t h c) q = stp t h (c + q) := (nth_add t.mask c _ q).symm
/-- the search, from the c-th step on -/
theorem searchN (KS : KSet knd) (R : SetN knd s.heap a L es ep t) {x : Addr} {k : K} (hx : knd.is s.heap k x) (hu : knd.room A) {M : Nat} (hMf : M < 10 * SetTable.turns t.mask) (hM : way t.mask (knd.hash k) M ∉ t.place.toList)
    (hMb : ∀ c, c < M → way t.mask (knd.hash k) c ∈ t.place.toList) {Q : SetFound → Shared → Prop} (hin : k ∈ L.map (·.2) → Q (.there none) s) (hout : k ∉ L.map (·.2) → Q (.free (way t.mask (knd.hash k) M) false) s) :
    ∀ (f c : Nat) (stand : Option SetTable.Probe), stand.getD (t.probeStart (knd.hash k)) = stp t (knd.hash k) c → c ≤ M → M - c < f →
      (∀ (i : Nat) p, L[i]? = some p → p.2 = k → ∃ c', c ≤ c' ∧ c' < M ∧ t.place.toList[i]? = some (way t.mask (knd.hash k) c')) →
      wpAny (model P w) A (setSearchFrom a (.ref x) (knd.hash k) true f stand) Q E s
  | 0, c, _, _, _, hf, _ => absurd hf (Nat.not_lt_zero _)
  | f + 1, c, stand, hst, hc, hf, hre => by
    obtain ⟨o, ho, hex, hd⟩ := R.ob
    obtain ⟨H, hH⟩ : ∃ H, knd.hash k = H := ⟨_, rfl⟩
    rw [hH] at hM hMb hout hst hre ⊢
    rw [setSearchFrom_succ]
    refine wpAny_bind (wpAny_setState_of ho hd R.fits ?_)
    dsimp only
    refine wp_if_neg R.gw ?_
    try refine wpAny_bind (wpAny_pure ?_)
    have wj : ∀ q, (nth t.mask (stp t H c) q).j = way t.mask H (c + q) := fun q => congrArg SetTable.Probe.j (stp_add t H c q)
    have hAt : ∀ (i : Nat) p, L[i]? = some p → (es[i]?.map (·.1)).getD 0 = knd.hash p.2 := fun i p hp => by
      rw [rowN_at R.rows hp]
      rfl
    have spec := go_spec t R.tab.ris R.tab.dm (fun i => (es[i]?.map (·.1)).getD 0) H (10 * SetTable.turns t.mask) (M - c) _ (stp_dummy t H c) (by omega) (fun q hq => by rw [wj]; exact hMb (c + q) (by omega)) (by rw [wj, show c + (M - c) = M by omega]; exact hM)
    rcases spec with ⟨q, i, hq, hi, hh, hno, hpr⟩ | ⟨hno, hpr⟩
    · have hpr : t.probe (fun i => (es[i]?.map (·.1)).getD 0) H (stand.getD (t.probeStart H)) = some (.candidate (way t.mask H (c + q)) i (stp t H (c + (q + 1)))) := by
        rw [hst, ← wj, ← stp_add]
        exact hpr
      rw [hpr]
      dsimp only
      rw [wj] at hi
      have hil : i < L.length := by
        have h1 := (List.getElem?_eq_some_iff.mp hi).1
        have h2 := R.tab.sz
        rw [List.length_map] at h2
        rw [Array.length_toList] at h1
        omega
      obtain ⟨p, hp⟩ : ∃ p, L[i]? = some p := ⟨_, List.getElem?_eq_getElem hil⟩
      have hpm := List.mem_of_getElem? hp
      have hsl : t.slot (way t.mask H (c + q)) = .live i := slot_live R.tab.ris hi
      have rest : wpAny (model P w) A (searchRest a (.ref x) H true f es t (way t.mask H (c + q)) i (stp t H (c + (q + 1)))) Q E s := by
        unfold searchRest
        rw [rowN_at R.rows hp]
        dsimp only
        refine wpAny_bind (wpAny_holding (knd.eqBool hu (R.mem p hpm) hx ?_))
        refine wpAny_bind (wpAny_setState_of ho hd R.fits ?_)
        dsimp only
        by_cases hkk : p.2 = k
        · exact wp_if_pos (by simp [hkk]) (wpAny_pure (hin (List.mem_map.mpr ⟨p, hpm, hkk⟩)))
        · refine wp_if_neg (by simp [hkk]) ?_
          try refine wpAny_bind (wpAny_pure ?_)
          rw [sameMem]
          dsimp only
          simp only [if_true, hsl, rowN_at R.rows hp]
          refine wpAny_bind (wpAny_isSame_ref_self (wpAny_bind (wpAny_pure ?_)))
          simp only [if_true]
          refine wp_if_neg (by simp [hkk]) ?_
          rw [← hH] at hM hMb hout hre ⊢
          refine searchN KS R hx hu hMf hM hMb hin hout f (c + (q + 1)) _ rfl (by omega) (by omega) fun i0 p0 h0 hk0 => ?_
          obtain ⟨c', a1, a2, a3⟩ := hre i0 p0 h0 hk0
          refine ⟨c', ?_, a2, a3⟩
          rw [hH] at a3
          rcases Nat.lt_trichotomy c' (c + q) with z | z | z
          · refine absurd ((hAt i0 p0 h0).trans (by rw [hk0, hH])) (hno (c' - c) i0 (by omega) ?_)
            rw [wj, show c + (c' - c) = c' by omega]
            exact a3
          · rw [z] at a3
            have e0 := slot_live R.tab.ris a3
            rw [hsl] at e0
            injection e0 with e0
            rw [← e0, hp] at h0
            cases h0
            exact absurd hk0 hkk
          · omega
      by_cases hl : t.led = true
      · refine wp_if_neg (by simp [hl]) ?_
        try refine wpAny_bind (wpAny_pure ?_)
        exact rest
      · refine wp_if_pos (by simp [hl]) (wpAny_bind (seenN KS hx (fun y hy => ?_) ?_))
        · obtain ⟨e, he, rfl⟩ := List.mem_map.mp hy
          have he : e ∈ es ∧ (e.1 == H) = true := by simpa using he
          have he2 : e ∈ es.toList := by simpa using he.1
          rw [R.rows] at he2
          obtain ⟨p2, hp2, rfl⟩ := List.mem_map.mp he2
          exact ⟨p2.2, p2.1, rfl, R.mem p2 hp2⟩
        · refine wp_if_neg (by decide) ?_
          try refine wpAny_bind (wpAny_pure ?_)
          exact rest
    · have hpr : t.probe (fun i => (es[i]?.map (·.1)).getD 0) H (stand.getD (t.probeStart H)) = some (.empty (way t.mask H M) none) := by
        rw [hst, show way t.mask H M = (nth t.mask (stp t H c) (M - c)).j by rw [wj, show c + (M - c) = M by omega]]
        exact hpr
      rw [hpr]
      dsimp only
      refine wpAny_pure (hout fun hm => ?_)
      obtain ⟨p0, h0, hk0⟩ := List.mem_map.mp hm
      obtain ⟨i0, hi0, e0⟩ := List.getElem_of_mem h0
      have h00 : L[i0]? = some p0 := by rw [List.getElem?_eq_getElem hi0, e0]
      obtain ⟨c', a1, a2, a3⟩ := hre i0 p0 h00 hk0
      refine absurd ((hAt i0 p0 h00).trans (by rw [hk0, hH])) (hno (c' - c) i0 (by omega) ?_)
      rw [wj, show c + (c' - c) = c' by omega]
      exact a3
/-- the search as adding asks for it -/
theorem searchN_at (KS : KSet knd) (R : SetN knd s.heap a L es ep t) {x : Addr} {k : K} (hx : knd.is s.heap k x) (hu : knd.room A) {Q : SetFound → Shared → Prop} (hin : k ∈ L.map (·.2) → Q (.there none) s)
    (hout : ∀ M, k ∉ L.map (·.2) → way t.mask (knd.hash k) M ∉ t.place.toList → (∀ c, c < M → way t.mask (knd.hash k) c ∈ t.place.toList) → Q (.free (way t.mask (knd.hash k) M) false) s) :
    wpAny (model P w) A (setSearch a (.ref x) (knd.hash k) true) Q E s := by
  have hroom := R.room
  obtain ⟨M, hMf, hM, hMb⟩ := R.tab.first (by rw [List.length_map]; omega) (knd.hash k)
  have big : M < 100000 := by
    have : 10 * SetTable.turns t.mask ≤ 1420 := by
      unfold SetTable.turns
      rcases R.tab.mok with e | e | e <;> omega
    omega
  unfold setSearch
  refine searchN KS R hx hu hMf hM hMb hin (fun hn => hout M hn hM hMb) 100000 0 none rfl (Nat.zero_le _) (by omega) fun i p hp hk => ?_
  have hi : (L.map fun p => knd.hash p.2)[i]? = some (knd.hash k) := by rw [List.getElem?_map, hp, ← hk]; rfl
  have hil : i < t.place.toList.length := by
    have h1 := (List.getElem?_eq_some_iff.mp hp).1
    have h2 := R.tab.sz
    rw [List.length_map] at h2
    rw [Array.length_toList]
    omega
  obtain ⟨c, hc, e⟩ := R.tab.before hM hi (List.getElem?_eq_getElem hil)
  exact ⟨c, Nat.zero_le _, hc, by rw [List.getElem?_eq_getElem hil, e]⟩
theorem range_pick {α : Type} : ∀ l : List α, (List.range l.length).filterMap (fun i => l[i]?) = l
  | [] => rfl
  | x :: l => by
    rw [List.length_cons, List.range_succ_eq_map, List.filterMap_cons]
    show x :: ((List.range l.length).map Nat.succ).filterMap (fun i => (x :: l)[i]?) = _
    rw [List.filterMap_map]
    show x :: (List.range l.length).filterMap (fun i => l[i]?) = _
    rw [range_pick l]
/-- the rows in another order -/
theorem orderN {order : Array Nat} (hr : es.toList = rowsN knd L) (hp : order.toList.Perm (List.range L.length)) :
    ∃ L2, (order.filterMap (es[·]?)).toList = rowsN knd L2 ∧ L2.Perm L ∧ (L2.map fun p => knd.hash p.2) = order.toList.map fun i => (es.map (·.1)).getD i 0 := by
  have ee : ∀ i : Nat, es[i]? = (L[i]?).map fun p => (knd.hash p.2, Value.ref p.1) := fun i => by
    rw [← Array.getElem?_toList, hr]
    unfold rowsN
    rw [List.getElem?_map]
  refine ⟨order.toList.filterMap fun i => L[i]?, ?_, ?_, ?_⟩
  · rw [Array.toList_filterMap, show (fun i : Nat => es[i]?) = fun i : Nat => (L[i]?).map fun p => (knd.hash p.2, Value.ref p.1) from funext ee]
    unfold rowsN
    rw [List.map_filterMap]
  · have h := hp.filterMap fun i => L[i]?
    rwa [range_pick] at h
  · have key : ∀ l : List Nat, (∀ i ∈ l, i < L.length) → (l.filterMap fun i => L[i]?).map (fun p => knd.hash p.2) = l.map fun i => (es.map (·.1)).getD i 0 := fun l => by
      induction l with
      | nil => exact fun _ => rfl
      | cons i l ih =>
        intro hl
        have hi := List.getElem?_eq_getElem (hl i List.mem_cons_self)
        rw [List.filterMap_cons_some hi, List.map_cons, List.map_cons, ih fun j hj => hl j (List.mem_cons_of_mem _ hj)]
        congr 1
        have e : (es.map (·.1))[i]? = some (knd.hash (L[i]'(hl i List.mem_cons_self)).2) := by
          rw [Array.getElem?_map, ee, hi]
          rfl
        simp [Array.getD_eq_getD_getElem?, e]
    exact key _ fun i hi => List.mem_range.mp (hp.mem_iff.mp hi)
/-- the table laid anew, larger -/
theorem relayN (KS : KSet knd) {o : Obj} (ho : s.heap.get? a = some o) (hex : o.ExactSet) (hd : o.data = .set es ep t) (hr : es.toList = rowsN knd L) (hsz : t.place.size = es.size) (hdm : t.dummies = #[]) (hfl : es.size ≤ t.mask)
    (nd : (L.map (·.2)).Nodup) (mem : ∀ p ∈ L, knd.is s.heap p.2 p.1) (pl : t.plain = true) (ld : w.params.followText "set-order" = true ∨ t.led = true) (few : L.length < 64) {wanted M : Nat}
    (hw : SetTable.sizeAbove wanted - 1 = M) (hM : MaskOk M) (hw2 : SetTable.sizeAbove wanted ≤ 128) (hn : L.length * 5 < M * 3) {Q : Unit → Shared → Prop}
    (hQ : ∀ h' L' es' ep' t', Heap.SameBut a s.heap h' → SetN knd h' a L' es' ep' t' → L'.Perm L → Q () { s with heap := h' }) : wpAny (model P w) A (setRelay a wanted) Q E s := by
  have hsl : es.size = L.length := by rw [← Array.length_toList, hr, rowsN_len]
  obtain ⟨t', order, e, hp, T, em, el, ep', ed⟩ := relaid_ok t (hs := es.map (·.1)) (wanted := wanted) hw hM (by rw [Array.size_map, hsl]; omega)
  rw [Array.size_map, hsl] at hp
  obtain ⟨L2, r1, r2, r3⟩ := orderN hr hp
  rw [← r3] at T
  have hs2 : (order.filterMap (es[·]?)).size = L.length := by rw [← Array.length_toList, r1, rowsN_len, r2.length_eq]
  rw [setRelay_eq]
  refine wpAny_bind (wpAny_setState_of ho hd (fitsN hsz hdm hfl) ?_)
  dsimp only
  refine wp_if_neg (by rw [sizeLine_eq]; omega) ?_
  try refine wpAny_bind (wpAny_pure ?_)
  rw [e]
  dsimp only
  refine wpAny_bind (wp_if_neg (by rw [hs2, hsl]; simp) ?_)
  try refine wpAny_bind (wpAny_pure ?_)
  refine wpAny_pure ?_
  dsimp only
  refine wpAny_storeSet_of ho hd ?_ (by rw [hs2, sizeLine_eq]; omega)
  have sb : Heap.SameBut a s.heap (s.heap.update a (Obj.putSet (order.filterMap (es[·]?)) t')) := Heap.SameBut.update ..
  refine hQ _ L2 _ (ep + 1) t' sb ⟨⟨_, store_at ho hd, ⟨hex.1, hex.2.1, hex.2.2⟩, rfl⟩, r1, T, (r2.map (·.2)).nodup_iff.mpr nd, fun p hpm => key_same KS (mem p (r2.mem_iff.mp hpm)) ho hd sb, by rw [ep']; exact pl, by rw [el]; exact ld, ?_, by rw [r2.length_eq]; exact few⟩ r2
  rw [r2.length_eq, em]
  exact hn
/-- a key is put in -/
theorem addN (KS : KSet knd) (R : SetN knd s.heap a L es ep t) {x : Addr} {k : K} (hx : knd.is s.heap k x) (hu : knd.room A) (hfew : L.length + 1 < 64) {Q : Bool → Shared → Prop}
    (hQ : ∀ b h' L' es' ep' t', Heap.SameBut a s.heap h' → SetN knd h' a L' es' ep' t' → (k ∈ L.map (·.2) → L' = L) → (k ∉ L.map (·.2) → L'.Perm ((x, k) :: L)) → Q b { s with heap := h' }) :
    wpAny (model P w) A (setAddHashed a (.ref x) (knd.hash k)) Q E s := by
  obtain ⟨o, ho, hex, hd⟩ := R.ob
  have hsl := R.size
  have hroom := R.room
  unfold setAddHashed
  refine wpAny_holding ?_
  rw [show (100000 : Nat) = 99999 + 1 from rfl, setAddHashedIn_succ]
  refine wpAny_bind (wpAny_setState_of ho hd R.fits ?_)
  dsimp only
  refine wp_if_neg (by simp [byScan, Value.scannable]) ?_
  try refine wpAny_bind (wpAny_pure ?_)
  refine wpAny_bind (searchN_at KS R hx hu (fun hm => ?_) fun M hm hM hb => ?_)
  · exact wpAny_pure (hQ false s.heap L es ep t (Heap.SameBut.refl a s.heap) R (fun _ => rfl) fun z => absurd hm z)
  dsimp only
  refine wpAny_bind (wpAny_setState_of ho hd R.fits ?_)
  dsimp only
  obtain ⟨q1, q2, q3, q4, q5, q6, q7, q8, q9⟩ := R.tab.put hM hb
  have hp1 : (t.put (way t.mask (knd.hash k) M)).1.plain = true := by rw [q6]; exact R.plain
  generalize hpt : t.put (way t.mask (knd.hash k) M) = pt at q1 q3 q4 q5 q6 q7 q8 q9 hp1 ⊢
  obtain ⟨t1, p⟩ := pt
  dsimp only at q1 q3 q4 q5 q6 q7 q8 q9 hp1 ⊢
  subst q1
  refine wp_if_pos hp1 (wpAny_bind (KS.byv hx ?_))
  simp only [if_true]
  generalize SetTable.below t.place (way t.mask (knd.hash k) M) = p at q2 q3 hpt ⊢
  obtain ⟨L1, hL1⟩ : ∃ L1, L.take p ++ (x, k) :: L.drop p = L1 := ⟨_, rfl⟩
  have pm : L1.Perm ((x, k) :: L) := by rw [← hL1]; exact put_perm L p (x, k)
  have hlen : L1.length = L.length + 1 := pm.length_eq
  have hin : (SetTable.insertAt es p (knd.hash k, Value.ref x)).toList = rowsN knd L1 := by
    rw [SetTable.toList_insertAt, R.rows, ← hL1]
    unfold rowsN
    rw [List.map_append, List.map_cons, List.map_take, List.map_drop]
  have hhs : L1.map (fun p => knd.hash p.2) = (L.map fun p => knd.hash p.2).take p ++ knd.hash k :: (L.map fun p => knd.hash p.2).drop p := by
    rw [← hL1, List.map_append, List.map_cons, List.map_take, List.map_drop]
  rw [← hhs] at q3
  have nd1 : (L1.map (·.2)).Nodup := (pm.map (·.2)).nodup_iff.mpr (List.nodup_cons.mpr ⟨hm, R.nd⟩)
  have hes : (SetTable.insertAt es p (knd.hash k, Value.ref x)).size = L.length + 1 := by rw [← Array.length_toList, hin, rowsN_len, hlen]
  generalize SetTable.insertAt es p (knd.hash k, Value.ref x) = es1 at hin hes ⊢
  refine wpAny_bind (wpAny_storeSet_of ho hd ?_ (by rw [hes, sizeLine_eq]; omega))
  have sb : Heap.SameBut a s.heap (s.heap.update a (Obj.putSet es1 t1)) := Heap.SameBut.update ..
  have ho1 := store_at (es' := es1) (t' := t1) ho hd
  generalize s.heap.update a (Obj.putSet es1 t1) = h1 at sb ho1 ⊢
  have mem1 : ∀ p ∈ L1, knd.is h1 p.2 p.1 := fun p hp => by
    rcases List.mem_cons.mp (pm.mem_iff.mp hp) with e | hp
    · rw [e]; exact key_same KS hx ho hd sb
    · exact key_same KS (R.mem p hp) ho hd sb
  have ld1 : w.params.followText "set-order" = true ∨ t1.led = true := by rw [q5]; exact R.led
  rw [List.length_map] at q9
  by_cases hf : t1.tooFull = true
  · refine wp_if_pos (by simp [hf]) (wpAny_bind ?_)
    have hfull : (L.length + 1) * 5 ≥ t1.mask * 3 := by
      have h := hf
      unfold SetTable.tooFull at h
      rw [decide_eq_true_eq, q9] at h
      exact h
    rw [hsl]
    have hsz1 : t1.place.size = es1.size := by
      have h := q3.sz
      rw [List.length_map, hlen] at h
      rw [h, hes]
    rw [q4] at hfull
    have two : (t.mask = 7 ∧ L.length = 4) ∨ (t.mask = 31 ∧ L.length = 18) := by
      rcases R.tab.mok with e | e | e
      · rw [e] at hfull hroom; exact .inl ⟨e, by omega⟩
      · rw [e] at hfull hroom; exact .inr ⟨e, by omega⟩
      · rw [e] at hfull; omega
    have go : ∀ N, SetTable.sizeAbove (SetTable.grown (L.length + 1)) - 1 = N → MaskOk N → SetTable.sizeAbove (SetTable.grown (L.length + 1)) ≤ 128 → (L.length + 1) * 5 < N * 3 →
        wpAny (model P w) A (setRelay a (SetTable.grown (L.length + 1))) (fun _ s' => wpAny (model P w) A (pure true) Q E s') E { s with heap := h1 } := fun N g1 g2 g3 g4 => by
      refine relayN KS (s := { s with heap := h1 }) ho1 ⟨hex.1, hex.2.1, hex.2.2⟩ rfl hin hsz1 q3.dm (by rw [hes, q4]; rcases two with ⟨e, e2⟩ | ⟨e, e2⟩ <;> omega) nd1 mem1 hp1 ld1 (by rw [hlen]; exact hfew) g1 g2 g3 (by rw [hlen]; exact g4) fun h2 L2 es2 ep2 t2 sb2 R2 pm2 => ?_
      exact wpAny_pure (hQ true h2 L2 es2 ep2 t2 (sb.trans sb2) R2 (fun z => absurd z hm) fun _ => pm2.trans pm)
    rcases two with ⟨_, e2⟩ | ⟨_, e2⟩
    · exact go 31 (by rw [e2, size_20]) (.inr (.inl rfl)) (by rw [e2, size_20]; decide) (by omega)
    · exact go 127 (by rw [e2, size_76]) (.inr (.inr rfl)) (by rw [e2, size_76]; decide) (by omega)
  · refine wp_if_neg (by simp [hf]) ?_
    refine wpAny_pure (hQ true h1 L1 es1 (ep + 1) t1 sb ⟨⟨_, ho1, ⟨hex.1, hex.2.1, hex.2.2⟩, rfl⟩, hin, q3, nd1, mem1, hp1, ld1, ?_, by rw [hlen]; exact hfew⟩ (fun z => absurd z hm) fun _ => pm)
    have h := hf
    unfold SetTable.tooFull at h
    rw [decide_eq_true_eq, q9] at h
    rw [hlen]
    omega
/-- what the set has got of the first i -/
structure GotN (ks : List (Addr × K)) (i : Nat) (L : List (Addr × K)) : Prop where
  sub : ∀ p ∈ L, p ∈ ks.take i
  all : ∀ p ∈ ks.take i, p.2 ∈ L.map (·.2)
  len : L.length ≤ i
theorem GotN.next {ks L L' : List (Addr × K)} {i : Nat} {x : Addr × K} (g : GotN ks i L) (h : ks[i]? = some x) (c1 : x.2 ∈ L.map (·.2) → L' = L) (c2 : x.2 ∉ L.map (·.2) → L'.Perm (x :: L)) : GotN ks (i + 1) L' := by
  have tk : ks.take (i + 1) = ks.take i ++ [x] := by rw [List.take_succ, h]; rfl
  by_cases c : x.2 ∈ L.map (·.2)
  · rw [c1 c]
    refine ⟨fun p hp => ?_, fun p hp => ?_, Nat.le_succ_of_le g.len⟩
    · rw [tk]; exact List.mem_append_left _ (g.sub p hp)
    · rw [tk] at hp
      rcases List.mem_append.mp hp with z | z
      · exact g.all p z
      · rw [List.mem_singleton.mp z]; exact c
  · have pm := c2 c
    refine ⟨fun p hp => ?_, fun p hp => ?_, by rw [pm.length_eq]; exact Nat.succ_le_succ g.len⟩
    · rw [tk]
      rcases List.mem_cons.mp (pm.mem_iff.mp hp) with e | z
      · rw [e]; exact List.mem_append_right _ (List.mem_singleton.mpr rfl)
      · exact List.mem_append_left _ (g.sub p z)
    · rw [(pm.map (·.2)).mem_iff]
      rw [tk] at hp
      rcases List.mem_append.mp hp with z | z
      · exact List.mem_cons_of_mem _ (g.all p z)
      · rw [List.mem_singleton.mp z]; exact List.mem_cons_self
theorem SetN.keep (KS : KSet knd) {h h' : Heap} (R : SetN knd h a L es ep t) (hk : ∀ c o, h.get? c = some o → h'.get? c = some o) : SetN knd h' a L es ep t := by
  obtain ⟨o, ho, r⟩ := R.ob
  exact ⟨⟨o, hk a o ho, r⟩, R.rows, R.tab, R.nd, fun p hp => key_keep KS (R.mem p hp) hk, R.plain, R.led, R.room, R.few⟩
theorem setN_new {h : Heap} (ho : h.get? a = some (bareSet w)) : SetN knd h a [] #[] 0 (freshT w) where
  ob := ⟨_, ho, ⟨rfl, rfl, rfl⟩, rfl⟩
  rows := rfl
  tab := ⟨List.Pairwise.nil, rfl, rfl, .inl rfl, (fun x hx => nomatch hx), fun i h j hi => by simp at hi⟩
  nd := List.nodup_nil
  mem := fun p hp => nomatch hp
  plain := rfl
  led := by
    show _ ∨ (!w.params.followText "set-order") = true
    cases w.params.followText "set-order"
    · exact .inr rfl
    · exact .inl rfl
  room := (by decide : 0 * 5 < 7 * 3)
  few := (by decide : 0 < 64)
end
end L2
namespace L2
open PySem PySem.Spec PyProof.Rows
end L2
namespace L2
open PySem PySem.Spec PyProof.Rows
theorem perm_mapX {α β : Type} {f : α → β} {l l2 : List β} (h : l.Perm l2) : ∀ {m : List α}, l2 = m.map f → ∃ m' : List α, m'.Perm m ∧ l = m'.map f := by
  induction h with
  | nil => exact fun {m} e => ⟨m, .refl _, e⟩
  | cons x h ih =>
    intro m e
    match m, e with
    | y :: m, e =>
      rw [List.map_cons] at e
      injection e with e1 e2
      obtain ⟨m', p, e3⟩ := ih e2
      exact ⟨y :: m', p.cons y, by rw [List.map_cons, e1, e3]⟩
  | swap x y l =>
    intro m e
    match m, e with
    | a :: b :: m, e =>
      rw [List.map_cons, List.map_cons] at e
      injection e with e1 e2
      injection e2 with e2 e3
      exact ⟨b :: a :: m, .swap _ _ _, by rw [List.map_cons, List.map_cons, e1, e2, e3]⟩
    | [_], e => cases e
  | trans h1 h2 ih1 ih2 =>
    intro m e
    obtain ⟨m2, p2, e2⟩ := ih2 e
    obtain ⟨m1, p1, e1⟩ := ih1 e2
    exact ⟨m1, p1.trans p2, e1⟩
section
variable {P : Program} {w : World} {K : Type} [DecidableEq K] {knd : HeapKind P w K} {A : Around} {E : Value → Shared → Prop} {s : Shared} {a : Addr} {L : List (Addr × K)} {es : Array (Int × Value)} {ep : Nat} {t : SetTable}
theorem each_refs {R : Value → Addr × K → Prop} : ∀ {L : List (Addr × K)}, (∀ p ∈ L, R (.ref p.1) p) → PySem.W.EachIs R (L.map fun p => Value.ref p.1) L
  | [], _ => .nil
  | p :: L, h => .cons (h p List.mem_cons_self) (each_refs fun q hq => h q (List.mem_cons_of_mem _ hq))
theorem refs_each : ∀ {us : List Value} {L : List (Addr × K)}, PySem.W.EachIs (fun v (p : Addr × K) => v = Value.ref p.1) us L → us = L.map fun p => Value.ref p.1
  | _, _, .nil => rfl
  | _, _, .cons e t => by rw [List.map_cons, ← refs_each t, e]
theorem sortedN (KS : KSet knd) (enc : K → PyData) (R : SetN knd s.heap a L es ep t) (hh : A.handled = none) (rd : ∀ p ∈ L, Reads s.heap (.ref p.1) (enc p.2) []) (hal : ∀ k k', PySem.W.alike (enc k) (enc k') = true) (hk : ∀ p ∈ L, ∃ x r, enc p.2 = .tuple (x :: r)) (hd8 : ∀ k, (enc k).depth ≤ 8) (hu : A.units + 16 < cLine) {Q : Value → Shared → Prop}
    (hQ : ∀ s' p (out : Array Value) (c : Nat) (L' : List (Addr × K)), (∀ b o, s.heap.get? b = some o → s'.heap.get? b = some o) → s'.gens = s.gens → s'.os = s.os → s.heap.objs.size ≤ p →
      s'.heap.get? p = some (seqObj "list" out c) → out.toList = L'.map (fun q => Value.ref q.1) → L'.Perm L → (∃ L1 : List (Addr × K), L' = L1.mergeSort (PySem.W.dataLe false fun q => enc q.2)) → Q (.ref p) s') :
    wpAny (model P w) A (call (.builtin "sorted") [.ref a]) Q E s := by
  obtain ⟨o, ho, hex, hd⟩ := R.ob
  have hsz := R.size
  have hfew := R.few
  refine Calls.call_function_entry kind_sorted plain_sorted entry_sorted (args_sorted1 _) ?_
  unfold Builtin.«sorted»
  refine wpAny_bind (m := checkCount "sorted" 1 1 _) (wpAny_pure ?_)
  refine wpAny_bind (collect_set (A := A.in1) hh ⟨o, ho, hex.1, hd⟩ R.fits (by unfold scanBound; omega) R.tab.ris R.led fun s1 vs k1 hz g1 o1 pm => ?_)
  have ev : es.toList.map (·.2) = L.map fun q => Value.ref q.1 := by
    rw [R.rows]
    unfold rowsN
    rw [List.map_map]
    rfl
  rw [ev] at pm
  obtain ⟨L1, p1, rfl⟩ := perm_mapX pm rfl
  have l1 : L1.length < 64 := by rw [p1.length_eq]; exact hfew
  refine wpAny_bind (wpAny_newList ?_ (by rw [List.length_map, sizeLine_eq]; omega))
  have hoL : (s1.heap.push (seqObj "list" (L1.map fun q => Value.ref q.1).toArray 0)).get? s1.heap.objs.size = some (seqObj "list" (L1.map fun q => Value.ref q.1).toArray 0) := Heap.get?_push_size _ rfl
  have e1 : PySem.W.EachIs (fun v (p : Addr × K) => v = Value.ref p.1) (L1.map fun q => Value.ref q.1) L1 := each_refs fun _ _ => rfl
  have e2 : PySem.W.EachIs (fun v (p : Addr × K) => ∃ as, Reads (s1.heap.push (seqObj "list" (L1.map fun q => Value.ref q.1).toArray 0)) v (enc p.2) as ∧ s1.heap.objs.size ∉ as) (L1.map fun q => Value.ref q.1) L1 := each_refs fun p hp =>
    ⟨[], PyProof.Rows.Reads.keeps (fun b u e => Heap.get?_push_of_some _ (k1 b u e)) (rd p (p1.mem_iff.mp hp)), List.not_mem_nil⟩
  refine wpAny_bind (wpAny_holding (PySem.W.list_sort_data (s := { s1 with heap := s1.heap.push (seqObj "list" (L1.map fun q => Value.ref q.1).toArray 0) }) (enc := fun q : Addr × K => enc q.2) hoL e1 e2 (PySem.W.AllAlike.of fun b b' => hal _ _) (.inl fun d hd => ?_) (by rw [sizeLine_eq]; omega) (fun b _ => ?_) fun out lo eo => ?_))
  · obtain ⟨q, hq, rfl⟩ := List.mem_map.mp hd
    exact hk q (p1.mem_iff.mp hq)
  · have := hd8 b.2
    rw [Around.in1_units]
    omega
  obtain ⟨c, hc⟩ := sortedHeap_at (vs := L1.map fun q => Value.ref q.1) (out := out.toArray) hoL
  refine wpAny_pure ⟨_, rfl, hQ _ s1.heap.objs.size out.toArray c _ (fun b u e => ?_) g1 o1 hz hc (refs_each eo) ((List.mergeSort_perm _ _).trans p1) ⟨L1, rfl⟩⟩
  have q := k1 b u e
  have hlt := Heap.lt_size q
  show (sortedHeap (s1.heap.push (seqObj "list" (L1.map fun q => Value.ref q.1).toArray 0)) s1.heap.objs.size _ out.toArray).get? b = some u
  rw [sortedHeap_old (Nat.ne_of_lt hlt) (by rw [size_push']; exact Nat.lt_succ_of_lt hlt)]
  exact Heap.get?_push_of_some _ q
end
def kp (p : Int × Int) : NestedKey := .tup [.num p.1, .num p.2]
theorem kp_inj {p q : Int × Int} (h : kp p = kp q) : p = q := by
  unfold kp at h
  injection h with h
  injection h with h1 h
  injection h1 with h1
  injection h with h2 _
  injection h2 with h2
  exact Prod.ext h1 h2
section
variable {P : Program} {w : World}
variable {A : Around} {E : Value → Shared → Prop} {s : Shared}
/-- no class statement is below a tuple of such items -/
theorem ofc_tup {n : Nat} {b : Addr} {o : Obj} {vs : Array Value} {m : Nat} {Q : Bool → Shared → Prop} (ho : s.heap.get? b = some o) (hc : o.cls = .type "tuple") (hd : o.data = .seq vs m)
    (each : ∀ v ∈ vs.toList, ∀ (A : Around) (E : Value → Shared → Prop) (Q : Bool → Shared → Prop), Q false s → wpAny (model P w) A (ofAClassStatement n v) Q E s) (h : Q false s) : wpAny (model P w) A (ofAClassStatement (n + 1) (.ref b)) Q E s := by
  unfold ofAClassStatement
  refine wpAny_bind (wpAny_typeOf (T := "tuple") ⟨o, ho, hc⟩ ?_)
  dsimp only
  refine wp_if_pos (by decide) (wpAny_bind (wpAny_pure ?_))
  refine wp_if_neg (by decide) (wpAny_bind (wpAny_seqItems ho hd ?_))
  dsimp only
  refine wpAny_bind ?_
  rw [← Array.forIn_toList]
  refine wpAny_forIn_list _ (fun rest r s2 => r.1 = none ∧ s2 = s ∧ ∀ v ∈ rest, v ∈ vs.toList) _ (fun v rest r s2 hi => ?_) (fun r s2 hi => ?_) _ _ ⟨rfl, rfl, fun _ h => h⟩
  · obtain ⟨hr, rfl, hall⟩ := hi
    refine wpAny_bind (each v (hall v List.mem_cons_self) _ _ _ ?_)
    exact wp_if_neg (by decide) (wpAny_pure ⟨rfl, rfl, fun u hu => hall u (List.mem_cons_of_mem _ hu)⟩)
  · obtain ⟨r1, r2⟩ := r
    obtain ⟨hr, rfl, _⟩ := hi
    have hr : r1 = none := hr
    subst hr
    exact wpAny_pure h
theorem hby_tup {n : Nat} {b : Addr} {o : Obj} {vs : Array Value} {m : Nat} {Q : Bool → Shared → Prop} (ho : s.heap.get? b = some o) (hc : o.cls = .type "tuple") (hd : o.data = .seq vs m)
    (each : ∀ v ∈ vs.toList, ∀ (A : Around) (E : Value → Shared → Prop) (Q : Bool → Shared → Prop), Q true s → wpAny (model P w) A (hashByValue n v) Q E s) (h : Q true s) : wpAny (model P w) A (hashByValue (n + 1) (.ref b)) Q E s := by
  unfold hashByValue
  refine wpAny_bind (wpAny_specialOf (T := "tuple") ⟨o, ho, hc⟩ F.slot_tuple_hash.lookup ?_)
  show wpAny _ _ (seqItems? (.ref b) >>= _) _ _ s
  refine wpAny_bind (wpAny_seqItems ho hd ?_)
  refine wpAny_bind ?_
  show wpAny _ _ (forIn vs _ _) _ _ s
  rw [← Array.forIn_toList]
  refine wpAny_forIn_list _ (fun rest r s2 => r.1 = none ∧ s2 = s ∧ ∀ v ∈ rest, v ∈ vs.toList) _ (fun v rest r s2 hi => ?_) (fun r s2 hi => ?_) _ _ ⟨rfl, rfl, fun _ h => h⟩
  · obtain ⟨hr, rfl, hall⟩ := hi
    refine wpAny_bind (each v (hall v List.mem_cons_self) _ _ _ ?_)
    exact wp_if_neg (by decide) (wpAny_pure ⟨rfl, rfl, fun u hu => hall u (List.mem_cons_of_mem _ hu)⟩)
  · obtain ⟨r1, r2⟩ := r
    obtain ⟨hr, rfl, _⟩ := hi
    have hr : r1 = none := hr
    subst hr
    exact wpAny_pure h
theorem num_at {h : Heap} {i : Int} {v : Value} (x : NestedIs h (.num i) v) : (∃ t, v = .int i t) ∨ ∃ b, v = .bool b := by
  cases x with
  | bool e => exact .inr ⟨_, rfl⟩
  | int _ t => exact .inl ⟨t, rfl⟩
theorem all_mem {h : Heap} : ∀ {ks : List NestedKey} {vs : List Value}, NestedAll h ks vs → ∀ v ∈ vs, ∃ k ∈ ks, NestedIs h k v
  | _, _, .cons r rs, v, hv => by
    rcases List.mem_cons.mp hv with e | hv
    · exact ⟨_, List.mem_cons_self, e ▸ r⟩
    · obtain ⟨k, hk, z⟩ := all_mem rs v hv
      exact ⟨k, List.mem_cons_of_mem _ hk, z⟩
end
end L2
namespace DL
open PySem PySem.Spec L2 PyProof.Rows
abbrev kD (p : Int × Int) : D := .tuple [.int p.1, .int p.2]
section
variable {X : Cx} {pins : List (Addr × Obj)} {σ : L2.St} {H : Hp} {s : Shared}
theorem knot_is (I : L2.Inv X pins σ H s) {a : Addr} {p : Int × Int} (h : SqT X.K H a ([p.1, p.2].map V.int)) : NestedIs s.heap (kp p) (.ref a) ∧ Reads s.heap (.ref a) (kD p) [] := by
  obtain ⟨its, r, ⟨o, ho, hc, n, hd⟩, _⟩ := I.tuple h
  cases r with
  | cons r1 r =>
    cases r with
    | cons r2 r =>
      cases r
      obtain ⟨t1, rfl⟩ := r1
      obtain ⟨t2, rfl⟩ := r2
      exact ⟨.tup ho hc hd (.cons (.int _ _) (.cons (.int _ _) .nil)), .tuple ho hc hd (as := []) (.cons (as := []) (bs := []) (.int _ _) (.cons (as := []) (bs := []) (.int _ _) .nil))⟩
end
end DL
namespace L2
open PySem PySem.Spec PyProof.Rows
/-- which slots i -> 5 i + 1 meets in n steps, as bits -/
def orbB (M : Nat) : Nat → Nat → Nat → Nat
  | 0, _, acc => acc
  | n + 1, x, acc => orbB M n ((x * 5 + 1) % (M + 1)) (acc ||| 2 ^ x)
theorem lcg_front (m : Nat) : ∀ (k i : Nat), lcgI m ((i * 5 + 1) % (m + 1)) k = lcgI m i (k + 1)
  | 0, _ => rfl
  | k + 1, i => congrArg (fun z => (z * 5 + 1) % (m + 1)) (lcg_front m k i)
theorem orbB_bit (M j : Nat) : ∀ (n x acc : Nat), (orbB M n x acc).testBit j = true → acc.testBit j = true ∨ ∃ b, b < n ∧ lcgI M x b = j
  | 0, _, _, h => .inl h
  | n + 1, x, acc, h => by
    rcases orbB_bit M j n _ _ h with z | ⟨b, hb, e⟩
    · rw [Nat.testBit_or, Bool.or_eq_true] at z
      rcases z with z | z
      · exact .inl z
      · rw [Nat.testBit_two_pow] at z
        exact .inr ⟨0, Nat.succ_pos n, of_decide_eq_true z⟩
    · exact .inr ⟨b + 1, Nat.succ_lt_succ hb, by rw [← lcg_front]; exact e⟩
def fullB (M : Nat) : Bool := (List.range (M + 1)).all fun i => orbB M (M + 1) i 0 == 2 ^ (M + 1) - 1
def MaskD (m : Nat) : Prop := m = 7 ∨ m = 15 ∨ m = 31 ∨ m = 63 ∨ m = 127 ∨ m = 255
theorem full_7 : fullB 7 = true := by decide +kernel
theorem full_15 : fullB 15 = true := by decide +kernel
theorem full_31 : fullB 31 = true := by decide +kernel
theorem full_63 : fullB 63 = true := by decide +kernel
theorem full_127 : fullB 127 = true := by decide +kernel
theorem full_255 : fullB 255 = true := by decide +kernel
theorem full_go {m : Nat} (h : fullB m = true) {i j : Nat} (hi : i ≤ m) (hj : j ≤ m) : ∃ k, k ≤ m ∧ lcgI m i k = j := by
  have e := beq_iff_eq.mp (List.all_eq_true.mp h i (List.mem_range.mpr (Nat.lt_succ_of_le hi)))
  have b : (orbB m (m + 1) i 0).testBit j = true := by
    rw [e, Nat.testBit_two_pow_sub_one]
    exact decide_eq_true (Nat.lt_succ_of_le hj)
  rcases orbB_bit m j (m + 1) i 0 b with z | ⟨k, hk, e⟩
  · rw [Nat.zero_testBit] at z
    cases z
  · exact ⟨k, Nat.le_of_lt_succ hk, e⟩
theorem maskD_full {m : Nat} (hm : MaskD m) : fullB m = true := by
  rcases hm with e | e | e | e | e | e <;> subst e
  · exact full_7
  · exact full_15
  · exact full_31
  · exact full_63
  · exact full_127
  · exact full_255
theorem maskD_of {m : Nat} (hm : MaskOk m) : MaskD m := by
  rcases hm with e | e | e
  · exact .inl e
  · exact .inr (.inr (.inl e))
  · exact .inr (.inr (.inr (.inr (.inl e))))
theorem maskD_odd {m : Nat} (hm : MaskD m) : m % 2 = 1 := by
  rcases hm with e | e | e | e | e | e <;> subst e <;> rfl
theorem maskD_le {m : Nat} (hm : MaskD m) : m ≤ 255 := by
  rcases hm with e | e | e | e | e | e <;> omega
theorem wayD_le (m : Nat) (h : Int) (k : Nat) : way m h k ≤ m := by
  have hi : SetTable.bits h % (m + 1) ≤ m := Nat.le_of_lt_succ (Nat.mod_lt _ (Nat.succ_pos m))
  have r := runEnd_bd hi
  have q := nth_in (m := m) k (runAt m (SetTable.bits h % (m + 1)) (SetTable.bits h)) (by
    unfold runAt
    dsimp only
    omega)
  exact Nat.le_trans (Nat.le_add_right _ _) q
/-- a slot begins a run soon -/
theorem beginsD {m : Nat} (hm : MaskD m) (h : Int) {j : Nat} (hj : j ≤ m) : ∃ n, n ≤ m + 12 ∧ runI m (SetTable.bits h) n = j := by
  obtain ⟨k, hk, e⟩ := full_go (maskD_full hm) (runI_le m (SetTable.bits h) 12) hj
  exact ⟨12 + k, by omega, (runI_tail (bits_lt h) k).trans e⟩
theorem metD {m : Nat} (hm : MaskD m) (h : Int) {j : Nat} (hj : j ≤ m) : ∃ k, k < 10 * SetTable.turns m ∧ way m h k = j := by
  obtain ⟨n, hn, e⟩ := beginsD hm h hj
  obtain ⟨k, hk, e2⟩ := run_nth m (SetTable.bits h) n
  exact ⟨k, by unfold SetTable.turns; omega, (congrArg SetTable.Probe.j e2).trans e⟩
theorem below_at {xs : Array Nat} (r : Ris xs.toList) {i j : Nat} (h : xs.toList[i]? = some j) : SetTable.below xs j = i := by
  obtain ⟨c1, c2, c3⟩ := below_cut r j
  obtain ⟨p, hp⟩ : ∃ p, SetTable.below xs j = p := ⟨_, rfl⟩
  rw [hp] at c1 c2 c3 ⊢
  rcases Nat.lt_trichotomy i p with k | k | k
  · have := c2 i j h k
    omega
  · exact k.symm
  · have li := (List.getElem?_eq_some_iff.mp h).1
    have e : xs.toList[p]? = some (xs.toList[p]'(Nat.lt_trans k li)) := List.getElem?_eq_getElem _
    have a := c3 p _ e (Nat.le_refl p)
    have b := ris_lt r e h k
    omega
theorem has_iff {xs : Array Nat} (r : Ris xs.toList) {j : Nat} : SetTable.has xs j = true ↔ j ∈ xs.toList := by
  unfold SetTable.has
  rw [beq_iff_eq, ← Array.getElem?_toList]
  constructor
  · exact fun h => List.mem_of_getElem? h
  · intro h
    obtain ⟨i, hi⟩ := List.mem_iff_getElem?.mp h
    rw [below_at r hi]
    exact hi
def occ (t : SetTable) (j : Nat) : Prop := j ∈ t.place.toList ∨ j ∈ t.dummies.toList
theorem not_there {xs : Array Nat} {j : Nat} (h : j ∉ xs.toList) : xs[SetTable.below xs j]? ≠ some j := fun e => h (List.mem_of_getElem? (by rw [Array.getElem?_toList]; exact e))
theorem slot_left {t : SetTable} (rd : Ris t.dummies.toList) {j : Nat} (n : j ∉ t.place.toList) (h : j ∈ t.dummies.toList) : t.slot j = .dummy := by
  unfold SetTable.slot
  dsimp only
  have e : (t.place[SetTable.below t.place j]? == some j) = false := beq_eq_false_iff_ne.mpr (not_there n)
  rw [e, (has_iff rd).mpr h]
  rfl
theorem slot_void {t : SetTable} (rd : Ris t.dummies.toList) {j : Nat} (n : ¬ occ t j) : t.slot j = .empty := by
  unfold SetTable.slot
  dsimp only
  have e : (t.place[SetTable.below t.place j]? == some j) = false := beq_eq_false_iff_ne.mpr (not_there fun z => n (.inl z))
  have e2 : SetTable.has t.dummies j = false := Bool.eq_false_iff.mpr fun z => n (.inr ((has_iff rd).mp z))
  rw [e, e2]
  rfl
/-- the same place, another remembered one -/
def withD (p : SetTable.Probe) (d : Option Nat) : SetTable.Probe := { p with dummy := d }
theorem adv_with (m : Nat) (p : SetTable.Probe) (d : Option Nat) : adv m (withD p d) = withD (adv m p) d := by
  unfold adv withD
  dsimp only
  split <;> rfl
theorem nth_with (m : Nat) (d : Option Nat) : ∀ (k : Nat) (p : SetTable.Probe), nth m (withD p d) k = withD (nth m p k) d
  | 0, _ => rfl
  | k + 1, p => by
    show nth m (adv m (withD p d)) k = withD (nth m (adv m p) k) d
    rw [adv_with, nth_with]
/-- which place left is remembered -/
def RemD (t : SetTable) (p : SetTable.Probe) (k : Nat) (d : Option Nat) : Prop := d = p.dummy ∨ ∃ c, c < k ∧ d = some (nth t.mask p c).j ∧ (nth t.mask p c).j ∈ t.dummies.toList
theorem probe_left (t : SetTable) (rp : Ris t.place.toList) (rd : Ris t.dummies.toList) (at_ : Nat → Int) (h : Int) : ∀ (f K : Nat) (p : SetTable.Probe), K < f → (∀ k, k < K → occ t (nth t.mask p k).j) → ¬ occ t (nth t.mask p K).j →
    (∃ k i d, k < K ∧ t.place.toList[i]? = some (nth t.mask p k).j ∧ at_ i = h ∧ (∀ k' i', k' < k → t.place.toList[i']? = some (nth t.mask p k').j → at_ i' ≠ h) ∧ RemD t p k d ∧ SetTable.probe.go t at_ h f p = some (.candidate (nth t.mask p k).j i (withD (nth t.mask p (k + 1)) d))) ∨
    ((∀ k' i', k' < K → t.place.toList[i']? = some (nth t.mask p k').j → at_ i' ≠ h) ∧ ∃ d, RemD t p K d ∧ SetTable.probe.go t at_ h f p = some (.empty (nth t.mask p K).j d))
  | 0, _, _, hK, _, _ => (Nat.not_lt_zero _ hK).elim
  | f + 1, 0, p, _, _, he => by
    refine .inr ⟨fun _ _ z => (Nat.not_lt_zero _ z).elim, p.dummy, .inl rfl, ?_⟩
    unfold SetTable.probe.go
    rw [slot_void rd (show ¬ occ t p.j from he)]
    rfl
  | f + 1, K + 1, p, hK, hin, he => by
    have lift : ∀ (p' : SetTable.Probe) (d0 : Option Nat), p' = withD (adv t.mask p) d0 → (d0 = p.dummy ∨ (d0 = some p.j ∧ p.j ∈ t.dummies.toList)) → (∀ i', t.place.toList[i']? = some p.j → at_ i' ≠ h) → SetTable.probe.go t at_ h (f + 1) p = SetTable.probe.go t at_ h f p' →
        (∃ k i d, k < K + 1 ∧ t.place.toList[i]? = some (nth t.mask p k).j ∧ at_ i = h ∧ (∀ k' i', k' < k → t.place.toList[i']? = some (nth t.mask p k').j → at_ i' ≠ h) ∧ RemD t p k d ∧ SetTable.probe.go t at_ h (f + 1) p = some (.candidate (nth t.mask p k).j i (withD (nth t.mask p (k + 1)) d))) ∨
        ((∀ k' i', k' < K + 1 → t.place.toList[i']? = some (nth t.mask p k').j → at_ i' ≠ h) ∧ ∃ d, RemD t p (K + 1) d ∧ SetTable.probe.go t at_ h (f + 1) p = some (.empty (nth t.mask p (K + 1)).j d)) := by
      intro p' d0 ep hd0 one eg
      have pj : ∀ k, (nth t.mask p' k).j = (nth t.mask p (k + 1)).j := fun k => by
        rw [ep, nth_with]
        rfl
      have pw : ∀ k d, withD (nth t.mask p' k) d = withD (nth t.mask p (k + 1)) d := fun k d => by
        rw [ep, nth_with]
        rfl
      have rem : ∀ k d, RemD t p' k d → RemD t p (k + 1) d := fun k d z => by
        rcases z with z | ⟨c, hc, z1, z2⟩
        · have z : d = d0 := by rw [z, ep]; rfl
          rcases hd0 with q | ⟨q, q2⟩
          · exact .inl (z.trans q)
          · exact .inr ⟨0, Nat.succ_pos k, z.trans q, q2⟩
        · rw [pj] at z1 z2
          exact .inr ⟨c + 1, Nat.succ_lt_succ hc, z1, z2⟩
      have all : ∀ k, (∀ k' i', k' < k → t.place.toList[i']? = some (nth t.mask p' k').j → at_ i' ≠ h) → ∀ k' i', k' < k + 1 → t.place.toList[i']? = some (nth t.mask p k').j → at_ i' ≠ h := fun k z k' i' hk hi => by
        cases k' with
        | zero => exact one i' hi
        | succ k' => exact z k' i' (Nat.lt_of_succ_lt_succ hk) (by rw [pj]; exact hi)
      rcases probe_left t rp rd at_ h f K p' (by omega) (fun k hk => by rw [pj]; exact hin (k + 1) (Nat.succ_lt_succ hk)) (by rw [pj]; exact he) with ⟨k, i, d, a1, a2, a3, a4, a5, a6⟩ | ⟨a1, d, a2, a3⟩
      · rw [pj] at a2
        rw [pj, pw] at a6
        exact .inl ⟨k + 1, i, d, Nat.succ_lt_succ a1, a2, a3, all k a4, rem k d a5, eg.trans a6⟩
      · rw [pj] at a3
        exact .inr ⟨all K a1, d, rem K d a2, eg.trans a3⟩
    have hp : occ t p.j := hin 0 (Nat.succ_pos K)
    by_cases c : p.j ∈ t.place.toList
    · obtain ⟨i, hi⟩ := List.mem_iff_getElem?.mp c
      have hs := slot_live rp hi
      by_cases hh : at_ i = h
      · refine .inl ⟨0, i, p.dummy, Nat.succ_pos K, hi, hh, fun _ _ z => (Nat.not_lt_zero _ z).elim, .inl rfl, ?_⟩
        unfold SetTable.probe.go
        rw [hs]
        have e : (at_ i == h) = true := beq_iff_eq.mpr hh
        dsimp only
        rw [if_pos e, adv_eq]
        have e2 : adv t.mask p = withD (adv t.mask p) p.dummy := (adv_with t.mask p p.dummy)
        rw [e2]
        rfl
      · refine lift _ p.dummy rfl (.inl rfl) (fun i' hi' => ?_) ?_
        · have := slot_live rp hi'
          rw [hs] at this
          injection this with this
          rw [← this]
          exact hh
        · have e : (at_ i == h) = false := beq_eq_false_iff_ne.mpr hh
          have e2 : withD (adv t.mask p) p.dummy = adv t.mask p := (adv_with t.mask p p.dummy).symm
          conv => lhs; unfold SetTable.probe.go
          rw [hs, e2]
          dsimp only
          rw [if_neg (by rw [e]; exact Bool.false_ne_true), adv_eq]
    · have cd : p.j ∈ t.dummies.toList := hp.resolve_left c
      refine lift _ (some p.j) rfl (.inr ⟨rfl, cd⟩) (fun i' hi' => (c (List.mem_of_getElem? hi')).elim) ?_
      conv => lhs; unfold SetTable.probe.go
      rw [slot_left rd c cd]
      dsimp only
      rw [adv_eq]
      exact congrArg (SetTable.probe.go t at_ h f) (adv_with t.mask p (some p.j))
structure TabD (t : SetTable) (hs : List Int) : Prop where
  rp : Ris t.place.toList
  rd : Ris t.dummies.toList
  apt : ∀ x ∈ t.dummies.toList, x ∉ t.place.toList
  len : t.place.size = hs.length
  msk : MaskD t.mask
  bp : ∀ x ∈ t.place.toList, x ≤ t.mask
  bd : ∀ x ∈ t.dummies.toList, x ≤ t.mask
  found : ∀ (i : Nat) (h : Int) (j : Nat), hs[i]? = some h → t.place.toList[i]? = some j → ∃ k, way t.mask h k = j ∧ ∀ c, c < k → occ t (way t.mask h c)
theorem tabD_of {t : SetTable} {hs : List Int} (T : TabOk t hs) : TabD t hs where
  rp := T.ris
  rd := by rw [T.dm]; exact List.Pairwise.nil
  apt := fun x h => by rw [T.dm] at h; cases h
  len := T.sz
  msk := maskD_of T.mok
  bp := T.bd
  bd := fun x h => by rw [T.dm] at h; cases h
  found := fun i h j a b => let ⟨k, e, z⟩ := T.reach i h j a b; ⟨k, e, fun c hc => .inl (z c hc)⟩
theorem TabD.fillL {t : SetTable} : t.fill = t.place.toList.length + t.dummies.toList.length := rfl
/-- the first void slot of the way -/
theorem TabD.void {t : SetTable} {hs : List Int} (T : TabD t hs) (hl : t.fill ≤ t.mask) (h : Int) : ∃ K, K < 10 * SetTable.turns t.mask ∧ ¬ occ t (way t.mask h K) ∧ ∀ k, k < K → occ t (way t.mask h k) := by
  have ln : (t.place.toList ++ t.dummies.toList).length < t.mask + 1 := by
    rw [List.length_append]
    exact Nat.lt_succ_of_le hl
  obtain ⟨j, hj, hn⟩ := st_missing _ _ ln
  obtain ⟨k, hk, e⟩ := metD T.msk h (Nat.le_of_lt_succ hj)
  obtain ⟨K, h1, h2, h3⟩ := st_least (p := fun k => ¬ occ t (way t.mask h k)) k (by
    rw [e]
    exact fun z => hn (List.mem_append.mpr z))
  exact ⟨K, Nat.lt_of_le_of_lt h1 hk, h2, fun c hc => Classical.byContradiction fun z => h3 c hc z⟩
/-- a slot that may be taken for a hash; whether it was left before -/
def FreeD (t : SetTable) (h : Int) (j : Nat) (b : Bool) : Prop := ∃ c, j = way t.mask h c ∧ (∀ k, k < c → occ t (way t.mask h k)) ∧ j ∉ t.place.toList ∧ (b = true → j ∈ t.dummies.toList) ∧ (b = false → j ∉ t.dummies.toList)
theorem nodup_ris {l : List Nat} (r : Ris l) : l.Nodup := List.Pairwise.imp (fun h => Nat.ne_of_lt h) r
theorem TabD.put {t : SetTable} {hs : List Int} (T : TabD t hs) {h : Int} {j : Nat} {b : Bool} (F : FreeD t h j b) :
    SetTable.below t.place j ≤ hs.length ∧ TabD (t.put j).1 (hs.take (SetTable.below t.place j) ++ h :: hs.drop (SetTable.below t.place j)) ∧ (t.put j).1.fill = (if b = true then t.fill else t.fill + 1) := by
  obtain ⟨c, ej, hb, nj, d1, d2⟩ := F
  obtain ⟨p, hp⟩ : ∃ p, SetTable.below t.place j = p := ⟨_, rfl⟩
  obtain ⟨c1, _, _⟩ := below_cut T.rp j
  rw [hp] at c1 ⊢
  have hps : p ≤ hs.length := by rw [← T.len]; exact c1
  have hpl : p ≤ t.place.toList.length := c1
  have epl : (t.put j).1.place.toList = t.place.toList.take p ++ j :: t.place.toList.drop p := by rw [← hp]; exact put_place t j
  have rp1 : Ris (t.put j).1.place.toList := ris_insert T.rp (not_there nj)
  have edm : (t.put j).1.dummies = if SetTable.has t.dummies j then SetTable.eraseAt t.dummies (SetTable.below t.dummies j) else t.dummies := rfl
  have mem1 : ∀ x, x ∈ (t.put j).1.place.toList ↔ x = j ∨ x ∈ t.place.toList := fun x => by rw [epl]; exact mem_ins
  have dm : (Ris (t.put j).1.dummies.toList) ∧ (∀ x, x ∈ (t.put j).1.dummies.toList ↔ x ≠ j ∧ x ∈ t.dummies.toList) ∧ (t.put j).1.dummies.toList.length + (if b = true then 1 else 0) = t.dummies.toList.length := by
    cases b with
    | false =>
      have n : ¬ SetTable.has t.dummies j = true := fun z => d2 rfl ((has_iff T.rd).mp z)
      rw [edm, if_neg n]
      refine ⟨T.rd, fun x => ⟨fun z => ⟨fun e => d2 rfl (e ▸ z), z⟩, fun z => z.2⟩, by simp⟩
    | true =>
      have m := d1 rfl
      obtain ⟨i, hi⟩ := List.mem_iff_getElem?.mp m
      rw [edm, if_pos ((has_iff T.rd).mpr m), below_at T.rd hi, erased]
      have pe := erase_perm t.dummies.toList i j hi
      have nd := pe.nodup_iff.mpr (nodup_ris T.rd)
      refine ⟨T.rd.sublist (List.eraseIdx_sublist _ _), fun x => ?_, ?_⟩
      · rw [← pe.mem_iff, List.mem_cons]
        constructor
        · intro z
          exact ⟨fun e => (List.nodup_cons.mp nd).1 (e ▸ z), .inr z⟩
        · exact fun ⟨a, z⟩ => z.resolve_left a
      · have := pe.length_eq
        rw [List.length_cons] at this
        simpa using this
  obtain ⟨dm1, dm2, dm3⟩ := dm
  have up : ∀ x, occ t x → occ (t.put j).1 x := fun x z => by
    by_cases e : x = j
    · exact .inl ((mem1 x).mpr (.inl e))
    · exact z.imp (fun z => (mem1 x).mpr (.inr z)) fun z => (dm2 x).mpr ⟨e, z⟩
  have jm : j ≤ t.mask := by rw [ej]; exact wayD_le _ _ _
  have lp : (t.put j).1.place.toList.length = t.place.toList.length + 1 := by rw [epl, len_ins _ hpl]
  refine ⟨hps, ⟨rp1, dm1, fun x z => ?_, ?_, T.msk, fun x z => ?_, fun x z => T.bd x ((dm2 x).mp z).2, fun i h' j' h1 h2 => ?_⟩, ?_⟩
  · obtain ⟨z1, z2⟩ := (dm2 x).mp z
    exact fun q => ((mem1 x).mp q).elim z1 (T.apt x z2)
  · rw [len_ins _ hps, ← T.len]
    exact lp
  · rcases (mem1 x).mp z with e | z
    · rw [e]; exact jm
    · exact T.bp x z
  · rw [tins_get hs hps] at h1
    rw [epl, tins_get _ hpl] at h2
    show ∃ k, way t.mask h' k = j' ∧ _
    split at h1
    · rename_i q
      rw [if_pos q] at h2
      obtain ⟨k, e, z⟩ := T.found i h' j' h1 h2
      exact ⟨k, e, fun c hc => up _ (z c hc)⟩
    · rename_i q
      rw [if_neg q] at h2
      split at h1
      · rename_i q2
        rw [if_pos q2] at h2
        cases h1
        cases h2
        exact ⟨c, ej.symm, fun k hk => up _ (hb k hk)⟩
      · rename_i q2
        rw [if_neg q2] at h2
        obtain ⟨k, e, z⟩ := T.found (i - 1) h' j' h1 h2
        exact ⟨k, e, fun c hc => up _ (z c hc)⟩
  · rw [TabD.fillL, TabD.fillL, lp]
    cases b with
    | true =>
      rw [if_pos rfl] at dm3 ⊢
      omega
    | false =>
      rw [if_neg Bool.false_ne_true] at dm3 ⊢
      omega
/-- a member is taken out -/
theorem TabD.drop {t : SetTable} {hs : List Int} (T : TabD t hs) {i : Nat} (hi : i < hs.length) : TabD (t.drop i) (hs.eraseIdx i) ∧ (t.drop i).fill = t.fill ∧ (t.drop i).mask = t.mask ∧ (t.drop i).led = t.led ∧ (t.drop i).plain = t.plain := by
  have li : i < t.place.size := by rw [T.len]; exact hi
  obtain ⟨j, hj⟩ : ∃ j, t.place[i]? = some j := ⟨_, Array.getElem?_eq_getElem li⟩
  have hj' : t.place.toList[i]? = some j := by rw [Array.getElem?_toList]; exact hj
  have e : t.drop i = { t with place := SetTable.eraseAt t.place i, dummies := SetTable.insertAt t.dummies (SetTable.below t.dummies j) j } := by
    unfold SetTable.drop
    rw [hj]
  have mj := List.mem_of_getElem? hj'
  have nj : j ∉ t.dummies.toList := fun z => T.apt j z mj
  have ep : (t.drop i).place.toList = t.place.toList.eraseIdx i := by rw [e]; exact erased _ _
  have ed : (t.drop i).dummies.toList = t.dummies.toList.take (SetTable.below t.dummies j) ++ j :: t.dummies.toList.drop (SetTable.below t.dummies j) := by rw [e]; exact SetTable.toList_insertAt _ _ _
  have pe := erase_perm t.place.toList i j hj'
  have nd := pe.nodup_iff.mpr (nodup_ris T.rp)
  have m1 : ∀ x, x ∈ (t.drop i).place.toList ↔ x ≠ j ∧ x ∈ t.place.toList := fun x => by
    rw [ep, ← pe.mem_iff, List.mem_cons]
    constructor
    · intro z
      exact ⟨fun e => (List.nodup_cons.mp nd).1 (e ▸ z), .inr z⟩
    · exact fun ⟨a, z⟩ => z.resolve_left a
  have m2 : ∀ x, x ∈ (t.drop i).dummies.toList ↔ x = j ∨ x ∈ t.dummies.toList := fun x => by rw [ed]; exact mem_ins
  have oc : ∀ x, occ t x → occ (t.drop i) x := fun x z => by
    by_cases q : x = j
    · exact .inr ((m2 x).mpr (.inl q))
    · exact z.imp (fun z => (m1 x).mpr ⟨q, z⟩) fun z => (m2 x).mpr (.inr z)
  have em : (t.drop i).mask = t.mask := by rw [e]
  have lp := pe.length_eq
  rw [List.length_cons] at lp
  obtain ⟨cut, _, _⟩ := below_cut T.rd j
  refine ⟨⟨?_, ?_, fun x z q => ?_, ?_, by rw [em]; exact T.msk, fun x z => by rw [em]; exact T.bp x ((m1 x).mp z).2, fun x z => ?_, fun i' h' j' h1 h2 => ?_⟩, ?_, em, by rw [e], by rw [e]⟩
  · rw [ep]
    exact T.rp.sublist (List.eraseIdx_sublist _ _)
  · rw [e]
    exact ris_insert T.rd (not_there nj)
  · obtain ⟨q1, q2⟩ := (m1 x).mp q
    rcases (m2 x).mp z with z | z
    · exact q1 z
    · exact T.apt x z q2
  · rw [← Array.length_toList, ep, List.length_eraseIdx, List.length_eraseIdx, Array.length_toList, T.len]
  · rw [em]
    rcases (m2 x).mp z with z | z
    · rw [z]; exact T.bp j mj
    · exact T.bd x z
  · rw [ep, List.getElem?_eraseIdx] at h2
    rw [List.getElem?_eraseIdx] at h1
    rw [em]
    split at h1
    · rename_i q
      rw [if_pos q] at h2
      obtain ⟨k, a, z⟩ := T.found i' h' j' h1 h2
      exact ⟨k, a, fun c hc => oc _ (z c hc)⟩
    · rename_i q
      rw [if_neg q] at h2
      obtain ⟨k, a, z⟩ := T.found (i' + 1) h' j' h1 h2
      exact ⟨k, a, fun c hc => oc _ (z c hc)⟩
  · rw [TabD.fillL, TabD.fillL, ep, ed, len_ins _ cut]
    omega
theorem freeD_find {m : Nat} (hm : MaskD m) (ow : Array (Option Nat)) (h : Int) {j : Nat} (hj : j ≤ m) (hf : oAt ow j = none) :
    ∃ K, SetTable.layClean.free m ow (SetTable.turns m) (SetTable.bits h % (m + 1)) (SetTable.bits h) = some (way m h K) ∧ oAt ow (way m h K) = none ∧ ∀ c, c < K → oAt ow (way m h c) ≠ none := by
  obtain ⟨n, hn, e⟩ := beginsD hm h hj
  obtain ⟨B, hB⟩ : ∃ B, off m (SetTable.bits h % (m + 1)) (SetTable.bits h) n = B := ⟨_, rfl⟩
  have hw : way m h B = j := by
    rw [← hB]
    show (nth m (runAt m (SetTable.bits h % (m + 1)) (SetTable.bits h)) _).j = j
    rw [nth_off, itL_run]
    exact e
  obtain ⟨K, k1, k2, k3⟩ := st_least (p := fun c => oAt ow (way m h c) = none) B (by rw [hw]; exact hf)
  refine ⟨K, free_spec m ow (SetTable.turns m) n _ _ K (by unfold SetTable.turns; omega) (by rw [hB]; exact k1) (fun c hc => ?_) ?_, k2, k3⟩
  · show (oAt ow (way m h c)).isNone = false
    rw [Option.isNone_eq_false_iff, Option.isSome_iff_ne_none]
    exact k3 c hc
  · show (oAt ow (way m h K)).isNone = true
    rw [Option.isNone_iff_eq_none]
    exact k2
theorem ownD_step {m : Nat} (hm : MaskD m) {dn : List Int} {ow : Array (Option Nat)} (W : Own m dn ow) (hl : dn.length ≤ m) (h : Int) :
    ∃ j, SetTable.layClean.free m ow (SetTable.turns m) (SetTable.bits h % (m + 1)) (SetTable.bits h) = some j ∧ Own m (dn ++ [h]) (ow.setIfInBounds j (some dn.length)) := by
  obtain ⟨ps, lps, hps⟩ := W.ps
  obtain ⟨j0, b0, n0⟩ := st_missing ps (m + 1) (by omega)
  have f0 : oAt ow j0 = none := Classical.byContradiction fun z => n0 (hps j0 (Nat.le_of_lt_succ b0) z)
  obtain ⟨K, e1, e2, e3⟩ := freeD_find hm ow h (Nat.le_of_lt_succ b0) f0
  obtain ⟨j, ej⟩ : ∃ j, way m h K = j := ⟨_, rfl⟩
  have jm : j ≤ m := by rw [← ej]; exact wayD_le m h K
  have js : j < ow.size := by rw [W.sz]; omega
  rw [ej] at e1 e2
  have self : oAt (ow.setIfInBounds j (some dn.length)) j = some dn.length := oAt_set_self _ js
  have other : ∀ i, i ≠ j → oAt (ow.setIfInBounds j (some dn.length)) i = oAt ow i := fun i n => oAt_set_ne _ n
  have keep : ∀ i, oAt ow i ≠ none → oAt (ow.setIfInBounds j (some dn.length)) i ≠ none := fun i z => by
    rw [other i fun e => z (e ▸ e2)]
    exact z
  refine ⟨j, e1, ⟨by rw [Array.size_setIfInBounds]; exact W.sz, fun i k hi e => ?_, fun k hk => ?_, j :: ps, by simp [lps], fun i hi e => ?_⟩⟩
  · by_cases q : i = j
    · subst q
      rw [self] at e
      cases e
      exact ⟨h, K, by simp, ej, fun c hc => keep _ (e3 c hc)⟩
    · rw [other i q] at e
      obtain ⟨h', K', a1, a2, a3⟩ := W.at_ i k hi e
      exact ⟨h', K', by rw [List.getElem?_append_left (List.getElem?_eq_some_iff.mp a1).1]; exact a1, a2, fun c hc => keep _ (a3 c hc)⟩
  · by_cases q : k < dn.length
    · obtain ⟨i, hi, e⟩ := W.all k q
      exact ⟨i, hi, by rw [other i fun z => by rw [z, e2] at e; cases e]; exact e⟩
    · have : k = dn.length := by
        rw [List.length_append, List.length_singleton] at hk
        omega
      subst this
      exact ⟨j, jm, self⟩
  · by_cases q : i = j
    · rw [q]; exact List.mem_cons_self
    · rw [other i q] at e
      exact List.mem_cons_of_mem _ (hps i hi e)
theorem foldD {m : Nat} (hm : MaskD m) : ∀ (rs dn : List Int) (ow : Array (Option Nat)), Own m dn ow → dn.length + rs.length ≤ m → ∃ ow', rs.foldl (stepF m) (some (ow, dn.length)) = some (ow', (dn ++ rs).length) ∧ Own m (dn ++ rs) ow'
  | [], dn, ow, W, _ => ⟨ow, by simp, by simpa using W⟩
  | h :: rs, dn, ow, W, hl => by
    rw [List.length_cons] at hl
    obtain ⟨j, e, W1⟩ := ownD_step hm W (by omega) h
    have l1 : (dn ++ [h]).length = dn.length + 1 := by simp
    obtain ⟨ow', f, W2⟩ := foldD hm rs (dn ++ [h]) _ W1 (by omega)
    rw [List.append_assoc, List.singleton_append, l1] at f
    rw [List.append_assoc, List.singleton_append] at W2
    exact ⟨ow', by rw [List.foldl_cons, stepF_some e]; exact f, W2⟩
theorem laidD {M : Nat} (hM : MaskD M) (fg mv : Nat) (ld pl : Bool) {hs : Array Int} (hn : hs.size ≤ M) :
    ∃ t' order, SetTable.laid M fg mv ld pl hs = some (t', order) ∧ order.toList.Perm (List.range hs.size) ∧ TabD t' (order.toList.map fun i => hs.getD i 0) ∧ t'.mask = M ∧ t'.led = ld ∧ t'.plain = pl ∧ t'.dummies = #[] := by
  obtain ⟨ow, f, W⟩ := foldD hM hs.toList [] _ (Own.init M) (by simpa using hn)
  rw [List.nil_append] at f W
  have ec : SetTable.layClean M hs = some ow := by
    rw [layClean_eq]
    exact congrArg (Option.map (·.1)) f
  obtain ⟨lv, hlv⟩ : ∃ lv, liveOf M ow = lv := ⟨_, rfl⟩
  have el : SetTable.laid M fg mv ld pl hs = some ({ mask := M, place := (lv.map (·.1)).toArray, dummies := #[], finger := fg, led := ld, moves := mv, plain := pl }, (lv.map (·.2)).toArray) := by
    unfold SetTable.laid
    rw [ec, ← hlv]
    rfl
  have ml : ∀ {j k : Nat}, (j, k) ∈ lv ↔ j ≤ M ∧ oAt ow j = some k := fun {j k} => by rw [← hlv]; exact mem_live W.sz
  have rr := ris_live (fun j => ow.getD j none) (List.range (M + 1)) (by unfold Ris; exact List.pairwise_lt_range)
  have r1 : Ris (lv.map (·.1)) := by rw [← hlv]; exact rr.1
  have cnt : lv.length = hs.size := by
    obtain ⟨ps, p1, p2⟩ := W.ps
    have p1 : ps.length = hs.size := p1
    have a := nat_nodup_len (lv.map (·.1)) ps (nodup_ris r1) fun x hx => by
      obtain ⟨⟨y, k⟩, hq, rfl⟩ := List.mem_map.mp hx
      obtain ⟨b1, b2⟩ := ml.mp hq
      exact p2 y b1 (by rw [b2]; exact fun z => nomatch z)
    have b := nat_nodup_len (List.range hs.size) (lv.map (·.2)) List.nodup_range fun k hk => by
      obtain ⟨j, b1, b2⟩ := W.all k (List.mem_range.mp hk)
      exact List.mem_map.mpr ⟨(j, k), ml.mpr ⟨b1, b2⟩, rfl⟩
    rw [List.length_map, p1] at a
    rw [List.length_map, List.length_range] at b
    omega
  refine ⟨_, _, el, ?_, ⟨r1, List.Pairwise.nil, (fun x z => nomatch z), by simp, hM, fun x hx => ?_, (fun x z => nomatch z), fun i h j h1 h2 => ?_⟩, rfl, rfl, rfl, rfl⟩
  · refine perm_range hs.size _ (by simpa using cnt) fun k hk => ?_
    obtain ⟨j, b1, b2⟩ := W.all k hk
    exact List.mem_map.mpr ⟨(j, k), ml.mpr ⟨b1, b2⟩, rfl⟩
  · obtain ⟨⟨y, k⟩, hq, rfl⟩ := List.mem_map.mp (show x ∈ lv.map (·.1) from hx)
    exact (ml.mp hq).1
  · have h1 : ((lv.map (·.2)).map fun i => hs.getD i 0)[i]? = some h := h1
    have h2 : (lv.map (·.1))[i]? = some j := h2
    rw [List.getElem?_map] at h2
    obtain ⟨⟨y, k⟩, hq, ey⟩ := Option.map_eq_some_iff.mp h2
    have ey : y = j := ey
    rw [List.map_map, List.getElem?_map, hq] at h1
    have h1 : hs.getD k 0 = h := Option.some.inj h1
    subst ey
    obtain ⟨b1, b2⟩ := ml.mp (List.mem_of_getElem? hq)
    obtain ⟨h0, K, a1, a2, a3⟩ := W.at_ y k b1 b2
    have e0 : hs.getD k 0 = h0 := by
      rw [Array.getD_eq_getD_getElem?, ← Array.getElem?_toList, a1]
      rfl
    rw [e0] at h1
    subst h1
    refine ⟨K, a2, fun c hc => .inl ?_⟩
    show way M h0 c ∈ lv.map (·.1)
    cases z : oAt ow (way M h0 c) with
    | none => exact (a3 c hc z).elim
    | some k2 => exact List.mem_map.mpr ⟨(_, k2), ml.mpr ⟨wayD_le M h0 c, z⟩, rfl⟩
end L2
namespace L2
open PySem PySem.Spec PyProof.Rows
theorem eraseIdx_mapX {α β : Type} (f : α → β) : ∀ (l : List α) (i : Nat), (l.map f).eraseIdx i = (l.eraseIdx i).map f
  | [], _ => rfl
  | _ :: _, 0 => rfl
  | x :: l, i + 1 => congrArg (f x :: ·) (eraseIdx_mapX f l i)
section
variable {P : Program} {w : World} {K : Type} [DecidableEq K] {knd : HeapKind P w K}
/-- the set at a; places may have been left -/
structure SetD (knd : HeapKind P w K) (h : Heap) (a : Addr) (L : List (Addr × K)) (es : Array (Int × Value)) (ep : Nat) (t : SetTable) : Prop where
  obj : ∃ o, h.get? a = some o ∧ o.ExactSet ∧ o.data = .set es ep t
  rws : es.toList = rowsN knd L
  tb : TabD t (L.map fun p => knd.hash p.2)
  ndp : (L.map (·.2)).Nodup
  kys : ∀ p ∈ L, knd.is h p.2 p.1
  pln : t.plain = true
  lds : w.params.followText "set-order" = true ∨ t.led = true
  spc : t.fill * 5 < t.mask * 3
variable {A : Around} {E : Value → Shared → Prop} {s : Shared} {a : Addr} {L : List (Addr × K)} {es : Array (Int × Value)} {ep : Nat} {t : SetTable}
theorem setD_of {h : Heap} (R : SetN knd h a L es ep t) : SetD knd h a L es ep t where
  obj := R.ob
  rws := R.rows
  tb := tabD_of R.tab
  ndp := R.nd
  kys := R.mem
  pln := R.plain
  lds := R.led
  spc := by
    have h1 := R.tab.sz
    rw [List.length_map] at h1
    have : t.fill = L.length := by
      unfold SetTable.fill
      rw [h1, R.tab.dm]
      rfl
    rw [this]
    exact R.room
theorem SetD.sz {h : Heap} (R : SetD knd h a L es ep t) : es.size = L.length := by
  rw [← Array.length_toList, R.rws, rowsN_len]
theorem SetD.pl {h : Heap} (R : SetD knd h a L es ep t) : t.place.size = L.length := by
  rw [R.tb.len, List.length_map]
theorem SetD.ok {h : Heap} (R : SetD knd h a L es ep t) : t.fits es.size = true := by
  unfold SetTable.fits
  have := R.spc
  rw [Bool.and_eq_true, beq_iff_eq, decide_eq_true_eq, R.sz]
  exact ⟨R.pl, by omega⟩
theorem SetD.odd {h : Heap} (R : SetD knd h a L es ep t) : ¬ t.gaveWay = true := by
  unfold SetTable.gaveWay
  rw [maskD_odd R.tb.msk]
  decide
theorem SetD.ty (R : SetD knd s.heap a L es ep t) : s.TypeIs (.ref a) "set" := by
  obtain ⟨o, ho, he, _⟩ := R.obj
  exact ⟨o, ho, he.1⟩
/-- the search in such a table, from the c-th step on -/
theorem searchD (KS : KSet knd) (R : SetD knd s.heap a L es ep t) {x : Addr} {k : K} (hx : knd.is s.heap k x) (hu : knd.room A) (ad : Bool) {M : Nat} (hMf : M < 10 * SetTable.turns t.mask) (hM : ¬ occ t (way t.mask (knd.hash k) M))
    (hMb : ∀ c, c < M → occ t (way t.mask (knd.hash k) c)) {Q : SetFound → Shared → Prop} (hin : ∀ (i : Nat) x', L[i]? = some (x', k) → Q (.there (if ad = true then none else some i)) s) (hout : k ∉ L.map (·.2) → ∀ j b, FreeD t (knd.hash k) j b → Q (.free j b) s) :
    ∀ (f c : Nat) (d : Option Nat) (stand : Option SetTable.Probe), stand.getD (t.probeStart (knd.hash k)) = withD (stp t (knd.hash k) c) d → (d = none ∨ ∃ c', c' < c ∧ d = some (way t.mask (knd.hash k) c') ∧ way t.mask (knd.hash k) c' ∈ t.dummies.toList) → c ≤ M → M - c < f →
      (∀ (i : Nat) p, L[i]? = some p → p.2 = k → ∃ c', c ≤ c' ∧ c' < M ∧ t.place.toList[i]? = some (way t.mask (knd.hash k) c')) →
      wpAny (model P w) A (setSearchFrom a (.ref x) (knd.hash k) ad f stand) Q E s
  | 0, _, _, _, _, _, _, hf, _ => (Nat.not_lt_zero _ hf).elim
  | f + 1, c, d, stand, hst, hd0, hc, hf, hre => by
    obtain ⟨o, ho, hex, hd⟩ := R.obj
    obtain ⟨H, hH⟩ : ∃ H, knd.hash k = H := ⟨_, rfl⟩
    rw [hH] at hM hMb hout hst hre hd0 ⊢
    rw [setSearchFrom_succ]
    refine wpAny_bind (wpAny_setState_of ho hd R.ok ?_)
    dsimp only
    refine wp_if_neg R.odd ?_
    try refine wpAny_bind (wpAny_pure ?_)
    have wj : ∀ q, (nth t.mask (withD (stp t H c) d) q).j = way t.mask H (c + q) := fun q => by
      rw [nth_with]
      show (nth t.mask (stp t H c) q).j = _
      rw [stp_add]
    have nx : ∀ q d', withD (nth t.mask (withD (stp t H c) d) q) d' = withD (stp t H (c + q)) d' := fun q d' => by
      rw [nth_with, stp_add]
      rfl
    have remd : ∀ q d', RemD t (withD (stp t H c) d) q d' → d' = none ∨ ∃ c', c' < c + q ∧ d' = some (way t.mask H c') ∧ way t.mask H c' ∈ t.dummies.toList := fun q d' z => by
      rcases z with z | ⟨c', h1, h2, h3⟩
      · have z : d' = d := z
        rw [z]
        exact hd0.imp_right fun ⟨c', h1, h2⟩ => ⟨c', by omega, h2⟩
      · rw [wj] at h2 h3
        exact .inr ⟨c + c', by omega, h2, h3⟩
    have hAt : ∀ (i : Nat) p, L[i]? = some p → (es[i]?.map (·.1)).getD 0 = knd.hash p.2 := fun i p hp => by
      rw [rowN_at R.rws hp]
      rfl
    rcases probe_left t R.tb.rp R.tb.rd (fun i => (es[i]?.map (·.1)).getD 0) H (10 * SetTable.turns t.mask) (M - c) (withD (stp t H c) d) (by omega) (fun q hq => by rw [wj]; exact hMb (c + q) (by omega)) (by rw [wj, show c + (M - c) = M by omega]; exact hM) with ⟨q, i, d', hq, hi, hh, hno, hrem, hpr⟩ | ⟨hno, d', hrem, hpr⟩
    · have hpr : t.probe (fun i => (es[i]?.map (·.1)).getD 0) H (stand.getD (t.probeStart H)) = some (.candidate (way t.mask H (c + q)) i (withD (stp t H (c + (q + 1))) d')) := by
        rw [hst, ← wj, ← nx]
        exact hpr
      rw [hpr]
      dsimp only
      rw [wj] at hi
      have hil : i < L.length := by
        have h1 := (List.getElem?_eq_some_iff.mp hi).1
        rw [Array.length_toList, R.pl] at h1
        exact h1
      obtain ⟨p, hp⟩ : ∃ p, L[i]? = some p := ⟨_, List.getElem?_eq_getElem hil⟩
      have hpm := List.mem_of_getElem? hp
      have hsl : t.slot (way t.mask H (c + q)) = .live i := slot_live R.tb.rp hi
      have rest : wpAny (model P w) A (searchRest a (.ref x) H ad f es t (way t.mask H (c + q)) i (withD (stp t H (c + (q + 1))) d')) Q E s := by
        unfold searchRest
        rw [rowN_at R.rws hp]
        dsimp only
        refine wpAny_bind (wpAny_holding (knd.eqBool hu (R.kys p hpm) hx ?_))
        refine wpAny_bind (wpAny_setState_of ho hd R.ok ?_)
        dsimp only
        have back : wpAny (model P w) A (setSearchFrom a (.ref x) H ad f (some (withD (stp t H (c + (q + 1))) d'))) Q E s ∨ p.2 = k := by
          by_cases hkk : p.2 = k
          · exact .inr hkk
          refine .inl ?_
          rw [← hH] at hM hMb hout hre remd hrem ⊢
          refine searchD KS R hx hu ad hMf hM hMb hin hout f (c + (q + 1)) d' _ rfl ?_ (by omega) (by omega) fun i0 p0 h0 hk0 => ?_
          · exact (remd q d' hrem).imp_right fun ⟨c', h1, h2⟩ => ⟨c', by omega, h2⟩
          obtain ⟨c', a1, a2, a3⟩ := hre i0 p0 h0 hk0
          refine ⟨c', ?_, a2, a3⟩
          rw [hH] at a3
          rcases Nat.lt_trichotomy c' (c + q) with z | z | z
          · refine absurd ((hAt i0 p0 h0).trans (by rw [hk0, hH])) (hno (c' - c) i0 (by omega) ?_)
            rw [wj, show c + (c' - c) = c' by omega]
            exact a3
          · rw [z] at a3
            have e0 := slot_live R.tb.rp a3
            rw [hsl] at e0
            injection e0 with e0
            rw [← e0, hp] at h0
            cases h0
            exact absurd hk0 hkk
          · omega
        have stand2 : ∀ (eq : Bool), (eq = true ↔ p.2 = k) → (ad && eq) = false → wpAny (model P w) A (do
            let some same := t.sameMemory t.moves t.mask | unsupported "set.changed-during-lookup:is-the-new-block-at-the-old-address"
            let still ← match (if same then t.slot (way t.mask H (c + q)) else .empty) with
              | .live i' => match es[i']? with
                | some (_, y') => do pure (if ← isSame y' (.ref p.1) then some i' else none)
                | none => pure none
              | _ => pure none
            match still with
            | none => rule "set.search.anew"; setSearchFrom a (.ref x) H ad f none
            | some i' => if eq then return .there (some i') else setSearchFrom a (.ref x) H ad f (some (withD (stp t H (c + (q + 1))) d'))) Q E s := fun eq heq hae => by
          rw [sameMem]
          dsimp only
          simp only [if_true, hsl, rowN_at R.rws hp]
          refine wpAny_bind (wpAny_isSame_ref_self (wpAny_bind (wpAny_pure ?_)))
          simp only [if_true]
          by_cases hkk : p.2 = k
          · refine wp_if_pos (heq.mpr hkk) (wpAny_pure ?_)
            have ha : ad = false := by
              rw [heq.mpr hkk, Bool.and_true] at hae
              exact hae
            have := hin i p.1 (by rw [hp, ← hkk])
            rw [ha, if_neg Bool.false_ne_true] at this
            exact this
          · exact wp_if_neg (fun z => hkk (heq.mp z)) (back.resolve_right hkk)
        by_cases hkk : (ad && decide (p.2 = k)) = true
        · refine wp_if_pos hkk (wpAny_pure ?_)
          rw [Bool.and_eq_true, decide_eq_true_eq] at hkk
          have := hin i p.1 (by rw [hp, ← hkk.2])
          rw [if_pos hkk.1] at this
          exact this
        · refine wp_if_neg hkk ?_
          try refine wpAny_bind (wpAny_pure ?_)
          exact stand2 _ (by simp) (by simpa using hkk)
      by_cases hl : t.led = true
      · refine wp_if_neg (by simp [hl]) ?_
        try refine wpAny_bind (wpAny_pure ?_)
        exact rest
      · refine wp_if_pos (by simp [hl]) (wpAny_bind (seenN KS hx (fun y hy => ?_) ?_))
        · obtain ⟨e, he, rfl⟩ := List.mem_map.mp hy
          have he : e ∈ es ∧ (e.1 == H) = true := by simpa using he
          have he2 : e ∈ es.toList := by simpa using he.1
          rw [R.rws] at he2
          obtain ⟨p2, hp2, rfl⟩ := List.mem_map.mp he2
          exact ⟨p2.2, p2.1, rfl, R.kys p2 hp2⟩
        · refine wp_if_neg (by decide) ?_
          try refine wpAny_bind (wpAny_pure ?_)
          exact rest
    · have hpr : t.probe (fun i => (es[i]?.map (·.1)).getD 0) H (stand.getD (t.probeStart H)) = some (.empty (way t.mask H M) d') := by
        rw [hst, show way t.mask H M = (nth t.mask (withD (stp t H c) d) (M - c)).j by rw [wj, show c + (M - c) = M by omega]]
        exact hpr
      rw [hpr]
      dsimp only
      have nk : k ∉ L.map (·.2) := fun hm => by
        obtain ⟨p0, h0, hk0⟩ := List.mem_map.mp hm
        obtain ⟨i0, h00⟩ := List.mem_iff_getElem?.mp h0
        obtain ⟨c', a1, a2, a3⟩ := hre i0 p0 h00 hk0
        refine absurd ((hAt i0 p0 h00).trans (by rw [hk0, hH])) (hno (c' - c) i0 (by omega) ?_)
        rw [wj, show c + (c' - c) = c' by omega]
        exact a3
      rcases remd _ d' hrem with rfl | ⟨c', h1, h2, h3⟩
      · dsimp only
        exact wpAny_pure (hout nk _ false ⟨M, rfl, hMb, (fun z => hM (.inl z)), (fun z => nomatch z), fun _ z => hM (.inr z)⟩)
      · subst h2
        have np := R.tb.apt _ h3
        dsimp only
        refine wp_if_neg (by rw [slot_left R.tb.rd np h3]; simp) ?_
        try refine wpAny_bind (wpAny_pure ?_)
        exact wpAny_pure (hout nk _ true ⟨c', rfl, (fun k hk => hMb k (by omega)), np, (fun _ => h3), (fun z => nomatch z)⟩)
theorem searchD_at (KS : KSet knd) (R : SetD knd s.heap a L es ep t) {x : Addr} {k : K} (hx : knd.is s.heap k x) (hu : knd.room A) (ad : Bool) {Q : SetFound → Shared → Prop} (hin : ∀ (i : Nat) x', L[i]? = some (x', k) → Q (.there (if ad = true then none else some i)) s)
    (hout : k ∉ L.map (·.2) → ∀ j b, FreeD t (knd.hash k) j b → Q (.free j b) s) : wpAny (model P w) A (setSearch a (.ref x) (knd.hash k) ad) Q E s := by
  have hroom := R.spc
  obtain ⟨M, hMf, hM, hMb⟩ := R.tb.void (by omega) (knd.hash k)
  have big : M < 100000 := by
    have : 10 * SetTable.turns t.mask ≤ 2700 := by
      unfold SetTable.turns
      have := maskD_le R.tb.msk
      omega
    omega
  unfold setSearch
  refine searchD KS R hx hu ad hMf hM hMb hin hout 100000 0 none none rfl (.inl rfl) (Nat.zero_le _) (by omega) fun i p hp hk => ?_
  have hi : (L.map fun p => knd.hash p.2)[i]? = some (knd.hash k) := by rw [List.getElem?_map, hp, ← hk]; rfl
  have hil : i < t.place.toList.length := by
    have h1 := (List.getElem?_eq_some_iff.mp hp).1
    rw [Array.length_toList, R.pl]
    exact h1
  have hj := List.getElem?_eq_getElem hil
  obtain ⟨c, e, hb⟩ := R.tb.found i _ _ hi hj
  refine ⟨c, Nat.zero_le _, ?_, by rw [hj, e]⟩
  rcases Nat.lt_trichotomy c M with z | z | z
  · exact z
  · rw [← z, e] at hM
    exact (hM (.inl (List.mem_of_getElem? hj))).elim
  · exact (hM (hb M z)).elim
theorem findD (KS : KSet knd) (R : SetD knd s.heap a L es ep t) {x : Addr} {k : K} (hx : knd.is s.heap k x) (hu : knd.room A) {Q : Option Nat → Shared → Prop} (hin : ∀ (i : Nat) x', L[i]? = some (x', k) → Q (some i) s) (hout : k ∉ L.map (·.2) → Q none s) :
    wpAny (model P w) A (setFind a (.ref x) (knd.hash k)) Q E s := by
  obtain ⟨o, ho, hex, hd⟩ := R.obj
  unfold setFind setFindIn
  refine wpAny_bind (wpAny_setState_of ho hd R.ok ?_)
  dsimp only
  refine wp_if_neg (by simp [byScan, Value.scannable]) ?_
  try refine wpAny_bind (wpAny_pure ?_)
  refine wpAny_bind (searchD_at KS R hx hu false (fun i x' e => ?_) fun n j b _ => ?_)
  · rw [if_neg Bool.false_ne_true]
    exact wpAny_pure (hin i x' e)
  · exact wpAny_pure (hout n)
/-- a key is taken out -/
theorem discardD (KS : KSet knd) (R : SetD knd s.heap a L es ep t) (few : L.length < 64) {x : Addr} {k : K} (hx : knd.is s.heap k x) (hu : knd.room A) {Q : Bool → Shared → Prop} (no : k ∉ L.map (·.2) → Q false s)
    (yes : ∀ (i : Nat) x', L[i]? = some (x', k) → ∀ h' es' ep' t', Heap.SameBut a s.heap h' → SetD knd h' a (L.eraseIdx i) es' ep' t' → Q true { s with heap := h' }) : wpAny (model P w) A (setDiscardHashed a (.ref x) (knd.hash k)) Q E s := by
  obtain ⟨o, ho, hex, hd⟩ := R.obj
  unfold setDiscardHashed
  refine wpAny_bind (findD KS R hx hu (fun i x' e => ?_) fun n => wpAny_pure (no n))
  dsimp only
  have il := (List.getElem?_eq_some_iff.mp e).1
  obtain ⟨T1, f1, m1, l1, p1⟩ := R.tb.drop (i := i) (by rw [List.length_map]; exact il)
  have el : (SetTable.eraseAt es i).toList = rowsN knd (L.eraseIdx i) := by
    rw [erased, R.rws]
    unfold rowsN
    rw [eraseIdx_mapX]
  have e2 : (L.map fun p => knd.hash p.2).eraseIdx i = (L.eraseIdx i).map fun p => knd.hash p.2 := by rw [eraseIdx_mapX]
  rw [e2] at T1
  have sz : (SetTable.eraseAt es i).size ≤ 64 := by
    rw [← Array.length_toList, el, rowsN_len]
    exact Nat.le_trans (List.length_eraseIdx_le ..) (by omega)
  refine wpAny_bind (wpAny_setState_of ho hd R.ok ?_)
  dsimp only
  refine wpAny_bind (wpAny_storeSet_of ho hd ?_ (by rw [sizeLine_eq]; omega))
  refine wpAny_bind (wpAny_point ?_)
  have sb : Heap.SameBut a s.heap (s.heap.update a (Obj.putSet (SetTable.eraseAt es i) (t.drop i))) := Heap.SameBut.update ..
  refine wpAny_pure (yes i x' e _ (SetTable.eraseAt es i) (ep + 1) (t.drop i) sb ⟨⟨_, store_at ho hd, ⟨hex.1, hex.2.1, hex.2.2⟩, rfl⟩, el, T1, ?_, fun p hp => key_same KS (R.kys p (List.mem_of_mem_eraseIdx hp)) ho hd sb, by rw [p1]; exact R.pln, by rw [l1]; exact R.lds, by rw [f1, m1]; exact R.spc⟩)
  rw [← eraseIdx_mapX]
  exact R.ndp.sublist (List.eraseIdx_sublist _ _)
/-- the masks behind growing -/
theorem grown_mask {n : Nat} (h1 : 0 < n) (h2 : n < 64) : MaskD (SetTable.sizeAbove (SetTable.grown n) - 1) ∧ n * 5 < (SetTable.sizeAbove (SetTable.grown n) - 1) * 3 ∧ n ≤ SetTable.sizeAbove (SetTable.grown n) - 1 ∧ SetTable.sizeAbove (SetTable.grown n) ≤ 256 := by
  have h : ((List.range 64).all fun n => decide (n = 0) || ((decide (SetTable.sizeAbove (SetTable.grown n) = 8) || decide (SetTable.sizeAbove (SetTable.grown n) = 16) || decide (SetTable.sizeAbove (SetTable.grown n) = 32) || decide (SetTable.sizeAbove (SetTable.grown n) = 64) || decide (SetTable.sizeAbove (SetTable.grown n) = 128) || decide (SetTable.sizeAbove (SetTable.grown n) = 256)) && decide (n * 5 < (SetTable.sizeAbove (SetTable.grown n) - 1) * 3))) = true := by decide +kernel
  have q := List.all_eq_true.mp h n (List.mem_range.mpr h2)
  simp only [Bool.or_eq_true, Bool.and_eq_true, decide_eq_true_eq] at q
  obtain ⟨z, hz⟩ : ∃ z, SetTable.sizeAbove (SetTable.grown n) = z := ⟨_, rfl⟩
  rw [hz] at q ⊢
  unfold MaskD
  omega
theorem merge_mask {n : Nat} (h1 : 5 ≤ n) (h2 : n < 64) : MaskD (SetTable.sizeAbove (n * 2) - 1) ∧ n * 5 < (SetTable.sizeAbove (n * 2) - 1) * 3 ∧ n ≤ SetTable.sizeAbove (n * 2) - 1 ∧ SetTable.sizeAbove (n * 2) ≤ 256 := by
  have h : ((List.range 64).all fun n => decide (n < 5) || ((decide (SetTable.sizeAbove (n * 2) = 8) || decide (SetTable.sizeAbove (n * 2) = 16) || decide (SetTable.sizeAbove (n * 2) = 32) || decide (SetTable.sizeAbove (n * 2) = 64) || decide (SetTable.sizeAbove (n * 2) = 128) || decide (SetTable.sizeAbove (n * 2) = 256)) && decide (n * 5 < (SetTable.sizeAbove (n * 2) - 1) * 3))) = true := by decide +kernel
  have q := List.all_eq_true.mp h n (List.mem_range.mpr h2)
  simp only [Bool.or_eq_true, Bool.and_eq_true, decide_eq_true_eq] at q
  obtain ⟨z, hz⟩ : ∃ z, SetTable.sizeAbove (n * 2) = z := ⟨_, rfl⟩
  rw [hz] at q ⊢
  unfold MaskD
  omega
/-- the table laid anew -/
theorem relayD (KS : KSet knd) {o : Obj} (ho : s.heap.get? a = some o) (hex : o.ExactSet) (hd : o.data = .set es ep t) (hr : es.toList = rowsN knd L) (hft : t.fits es.size = true)
    (nd : (L.map (·.2)).Nodup) (mem : ∀ p ∈ L, knd.is s.heap p.2 p.1) (pl : t.plain = true) (ld : w.params.followText "set-order" = true ∨ t.led = true) (few : L.length < 64) {wanted : Nat}
    (hM : MaskD (SetTable.sizeAbove wanted - 1)) (hw2 : SetTable.sizeAbove wanted ≤ 256) (hn : L.length * 5 < (SetTable.sizeAbove wanted - 1) * 3) {Q : Unit → Shared → Prop}
    (hQ : ∀ h' L' es' ep' t', Heap.SameBut a s.heap h' → SetD knd h' a L' es' ep' t' → L'.Perm L → t'.mask = SetTable.sizeAbove wanted - 1 → t'.dummies = #[] → Q () { s with heap := h' }) : wpAny (model P w) A (setRelay a wanted) Q E s := by
  have hsl : es.size = L.length := by rw [← Array.length_toList, hr, rowsN_len]
  obtain ⟨t', order, e, hp, T, em, el, ep', ed⟩ := laidD hM t.finger (t.movedTo (SetTable.sizeAbove wanted - 1)) t.led t.plain (hs := es.map (·.1)) (by rw [Array.size_map, hsl]; omega)
  have e : t.relaid (es.map (·.1)) wanted = some (t', order) := e
  rw [Array.size_map, hsl] at hp
  obtain ⟨L2, r1, r2, r3⟩ := orderN hr hp
  rw [← r3] at T
  have hs2 : (order.filterMap (es[·]?)).size = L.length := by rw [← Array.length_toList, r1, rowsN_len, r2.length_eq]
  rw [setRelay_eq]
  refine wpAny_bind (wpAny_setState_of ho hd hft ?_)
  dsimp only
  refine wp_if_neg (by rw [sizeLine_eq]; omega) ?_
  try refine wpAny_bind (wpAny_pure ?_)
  rw [e]
  dsimp only
  refine wpAny_bind (wp_if_neg (by rw [hs2, hsl]; simp) ?_)
  try refine wpAny_bind (wpAny_pure ?_)
  refine wpAny_pure ?_
  dsimp only
  refine wpAny_storeSet_of ho hd ?_ (by rw [hs2, sizeLine_eq]; omega)
  have sb : Heap.SameBut a s.heap (s.heap.update a (Obj.putSet (order.filterMap (es[·]?)) t')) := Heap.SameBut.update ..
  have fl : t'.fill = L.length := by
    unfold SetTable.fill
    rw [T.len, ed, List.length_map, r2.length_eq]
    rfl
  exact hQ _ L2 _ (ep + 1) t' sb ⟨⟨_, store_at ho hd, ⟨hex.1, hex.2.1, hex.2.2⟩, rfl⟩, r1, T, (r2.map (·.2)).nodup_iff.mpr nd, fun p hpm => key_same KS (mem p (r2.mem_iff.mp hpm)) ho hd sb, by rw [ep']; exact pl, by rw [el]; exact ld, by rw [fl, em]; exact hn⟩ r2 em ed
/-- a key is put in -/
theorem addD (KS : KSet knd) (R : SetD knd s.heap a L es ep t) {x : Addr} {k : K} (hx : knd.is s.heap k x) (hu : knd.room A) (hfew : L.length + 1 < 64) {Q : Bool → Shared → Prop}
    (hQ : ∀ b h' L' es' ep' t', Heap.SameBut a s.heap h' → SetD knd h' a L' es' ep' t' → (k ∈ L.map (·.2) → L' = L) → (k ∉ L.map (·.2) → L'.Perm ((x, k) :: L)) → Q b { s with heap := h' }) :
    wpAny (model P w) A (setAddHashed a (.ref x) (knd.hash k)) Q E s := by
  obtain ⟨o, ho, hex, hd⟩ := R.obj
  have hsl := R.sz
  have hroom := R.spc
  unfold setAddHashed
  refine wpAny_holding ?_
  rw [show (100000 : Nat) = 99999 + 1 from rfl, setAddHashedIn_succ]
  refine wpAny_bind (wpAny_setState_of ho hd R.ok ?_)
  dsimp only
  refine wp_if_neg (by simp [byScan, Value.scannable]) ?_
  try refine wpAny_bind (wpAny_pure ?_)
  refine wpAny_bind (searchD_at KS R hx hu true (fun i x' e => ?_) fun hm j b hF => ?_)
  · exact wpAny_pure (hQ false s.heap L es ep t (Heap.SameBut.refl a s.heap) R (fun _ => rfl) fun z => absurd (List.mem_map.mpr ⟨_, List.mem_of_getElem? e, rfl⟩) z)
  dsimp only
  refine wpAny_bind (wpAny_setState_of ho hd R.ok ?_)
  dsimp only
  obtain ⟨q2, q3, q9⟩ := R.tb.put hF
  obtain ⟨p, hp0⟩ : ∃ p, SetTable.below t.place j = p := ⟨_, rfl⟩
  rw [hp0] at q2 q3
  have ept : t.put j = ((t.put j).1, p) := by rw [← hp0]; rfl
  obtain ⟨t1, ht1⟩ : ∃ t1, (t.put j).1 = t1 := ⟨_, rfl⟩
  have q4 : t1.mask = t.mask := by rw [← ht1]; rfl
  have q5 : t1.led = t.led := by rw [← ht1]; rfl
  have hp1 : t1.plain = true := by rw [← ht1]; exact R.pln
  rw [ht1] at q3 q9 ept
  rw [ept]
  dsimp only
  refine wp_if_pos hp1 (wpAny_bind (KS.byv hx ?_))
  simp only [if_true]
  rw [List.length_map] at q2
  obtain ⟨L1, hL1⟩ : ∃ L1, L.take p ++ (x, k) :: L.drop p = L1 := ⟨_, rfl⟩
  have pm : L1.Perm ((x, k) :: L) := by rw [← hL1]; exact put_perm L p (x, k)
  have hlen : L1.length = L.length + 1 := pm.length_eq
  have hin : (SetTable.insertAt es p (knd.hash k, Value.ref x)).toList = rowsN knd L1 := by
    rw [SetTable.toList_insertAt, R.rws, ← hL1]
    unfold rowsN
    rw [List.map_append, List.map_cons, List.map_take, List.map_drop]
  have hhs : (L.map fun p => knd.hash p.2).take p ++ knd.hash k :: (L.map fun p => knd.hash p.2).drop p = L1.map fun p => knd.hash p.2 := by
    rw [← hL1, List.map_append, List.map_cons, List.map_take, List.map_drop]
  rw [hhs] at q3
  have nd1 : (L1.map (·.2)).Nodup := (pm.map (·.2)).nodup_iff.mpr (List.nodup_cons.mpr ⟨hm, R.ndp⟩)
  have hes : (SetTable.insertAt es p (knd.hash k, Value.ref x)).size = L.length + 1 := by rw [← Array.length_toList, hin, rowsN_len, hlen]
  obtain ⟨es1, hes1⟩ : ∃ es1, SetTable.insertAt es p (knd.hash k, Value.ref x) = es1 := ⟨_, rfl⟩
  rw [hes1] at hin hes ⊢
  refine wpAny_bind (wpAny_storeSet_of ho hd ?_ (by rw [hes, sizeLine_eq]; omega))
  have sb : Heap.SameBut a s.heap (s.heap.update a (Obj.putSet es1 t1)) := Heap.SameBut.update ..
  have ho1 := store_at (es' := es1) (t' := t1) ho hd
  generalize s.heap.update a (Obj.putSet es1 t1) = h1 at sb ho1 ⊢
  have mem1 : ∀ p ∈ L1, knd.is h1 p.2 p.1 := fun p hp => by
    rcases List.mem_cons.mp (pm.mem_iff.mp hp) with e | hp
    · rw [e]; exact key_same KS hx ho hd sb
    · exact key_same KS (R.kys p hp) ho hd sb
  have ld1 : w.params.followText "set-order" = true ∨ t1.led = true := by rw [q5]; exact R.lds
  have pl1 : t1.place.size = es1.size := by rw [q3.len, List.length_map, hlen, hes]
  have small : t1.fill ≤ t1.mask := by
    rw [q9, q4]
    have := R.tb.msk
    unfold MaskD at this
    split <;> omega
  have fit1 : t1.fits es1.size = true := by
    unfold SetTable.fits
    rw [Bool.and_eq_true, beq_iff_eq, decide_eq_true_eq]
    exact ⟨pl1, small⟩
  by_cases hf : (!b && t1.tooFull) = true
  · refine wp_if_pos hf (wpAny_bind ?_)
    rw [hsl]
    obtain ⟨g1, g2, g3, g4⟩ := grown_mask (n := L.length + 1) (Nat.succ_pos _) hfew
    refine relayD KS (s := { s with heap := h1 }) ho1 ⟨hex.1, hex.2.1, hex.2.2⟩ rfl hin fit1 nd1 mem1 hp1 ld1 (by rw [hlen]; exact hfew) g1 g4 (by rw [hlen]; exact g2) fun h2 L2 es2 ep2 t2 sb2 R2 pm2 _ _ => ?_
    exact wpAny_pure (hQ true h2 L2 es2 ep2 t2 (sb.trans sb2) R2 (fun z => absurd z hm) fun _ => pm2.trans pm)
  · refine wp_if_neg hf ?_
    refine wpAny_pure (hQ true h1 L1 es1 (ep + 1) t1 sb ⟨⟨_, ho1, ⟨hex.1, hex.2.1, hex.2.2⟩, rfl⟩, hin, q3, nd1, mem1, hp1, ld1, ?_⟩ (fun z => absurd z hm) fun _ => pm)
    cases b with
    | true =>
      rw [if_pos rfl] at q9
      rw [q9, q4]
      exact hroom
    | false =>
      have h : t1.tooFull = false := by simpa using hf
      unfold SetTable.tooFull at h
      rw [decide_eq_false_iff_not] at h
      omega
end
end L2
namespace L2
open PySem PySem.Spec PyProof.Rows
theorem sub_lenK {K : Type} [DecidableEq K] : ∀ (l U : List K), l.Nodup → (∀ x ∈ l, x ∈ U) → l.length ≤ U.length
  | [], _, _, _ => Nat.zero_le _
  | x :: l, U, hn, hs => by
    obtain ⟨h1, h2⟩ := List.nodup_cons.mp hn
    have ih := sub_lenK l (U.erase x) h2 fun y hy => (List.mem_erase_of_ne fun e : y = x => h1 (by rw [← e]; exact hy)).2 (hs y (List.mem_cons_of_mem _ hy))
    have e := List.length_erase_of_mem (hs x List.mem_cons_self)
    have hp := List.length_pos_of_mem (hs x List.mem_cons_self)
    rw [List.length_cons]
    omega
section
variable {P : Program} {w : World} {K : Type} [DecidableEq K] {knd : HeapKind P w K}
variable {A : Around} {E : Value → Shared → Prop} {s : Shared} {a : Addr} {L : List (Addr × K)} {es : Array (Int × Value)} {ep : Nat} {t : SetTable}
/-- the members, in whatever order -/
theorem walk_setD (R : SetD knd s.heap a L es ep t) {Q : Array (Int × Value) → Shared → Prop} (hQ : ∀ (es' : Array (Int × Value)) L', L'.Perm L → es'.toList = rowsN knd L' → Q es' s) : wpAny (model P w) A (setWalk a) Q E s := by
  obtain ⟨o, ho, hex, hd⟩ := R.obj
  have fin : ∀ es' : Array (Int × Value), es'.toList.Perm es.toList → Q es' s := fun es' pm => by
    rw [R.rws] at pm
    obtain ⟨L', p, e⟩ := perm_mapX pm rfl
    exact hQ es' L' p e
  unfold setWalk
  refine wpAny_bind (wpAny_setState_of ho hd R.ok ?_)
  dsimp only
  refine wpAny_bind (wpAny_byText ?_)
  by_cases hbt : w.params.followText "set-order" = true
  · exact wp_if_pos hbt (wpAny_bind (wpAny_askSetting (wpAny_pure (fin _ (pick_perm _ _)))))
  · have hl := R.lds.resolve_left hbt
    refine wp_if_neg hbt ?_
    try refine wpAny_bind (wpAny_pure ?_)
    refine wp_if_neg (by
      show ¬ ((!t.plain && decide (es.size > 1)) = true)
      rw [R.pln]
      simp) ?_
    try refine wpAny_bind (wpAny_pure ?_)
    refine wpAny_bind (wpAny_of_eq (a := ()) ?_ (wpAny_pure (fin _ (List.Perm.refl _))))
    show (if (!t.led && decide (es.size > 1)) = true then unsupported "set:maker-not-led" else pure ()) = pure ()
    rw [hl] <;> rfl
theorem walk_quietD (R : SetD knd s.heap a L es ep t) {os : List Addr} {fl : Option Addr} {Q : Array (Int × Value) → Shared → Prop} (hQ : ∀ (es' : Array (Int × Value)) L', L'.Perm L → es'.toList = rowsN knd L' → Q es' s) : wpAny (model P w) A (setWalkUnseen a os fl) Q E s := by
  obtain ⟨o, ho, hex, hd⟩ := R.obj
  unfold setWalkUnseen
  refine wpAny_bind (wpAny_setState_of ho hd R.ok ?_)
  dsimp only
  refine wpAny_bind (wpAny_byText ?_)
  exact wp_if_pos (by rcases R.lds with z | z <;> simp [z, R.pln]) (walk_setD R hQ)
/-- what another set holds is flipped, one by one -/
theorem flipsD (KS : KSet knd) (hu : knd.room A) {id : String} {o1 : Addr} {ep0 : Nat} (hne : o1 ≠ a) (U : List K) (hU : U.length < 64) : ∀ (l : List (Addr × K)) {L : List (Addr × K)} {es : Array (Int × Value)} {ep : Nat} {t : SetTable} {s : Shared} {Q : PUnit → Shared → Prop},
    (∀ p ∈ l, knd.is s.heap p.2 p.1) → (l.map (·.2)).Nodup → (∃ o es t, s.heap.get? o1 = some o ∧ o.data = .set es ep0 t ∧ t.fits es.size = true) → SetD knd s.heap a L es ep t → (∀ p ∈ L, p.2 ∈ U) → (∀ p ∈ l, p.2 ∈ U) →
    (∀ h' L' es' ep' t', Heap.SameBut a s.heap h' → SetD knd h' a L' es' ep' t' → (∀ j, j ∈ L'.map (·.2) ↔ (j ∈ L.map (·.2) ↔ j ∉ l.map (·.2))) → (∀ p ∈ L', p.2 ∈ U) → (∀ p ∈ L', p ∈ L ∨ p ∈ l) → Q ⟨⟩ { s with heap := h' }) →
    wpAny (model P w) A (forIn (rowsN knd l) PUnit.unit fun (x : Int × Value) _ => do
      holding [x.2] (do if !(← setDiscardHashed a x.2 x.1) then let _ ← setAddHashed a x.2 x.1)
      Builtin.Frozenset.unchanged id o1 ep0
      pure (ForInStep.yield PUnit.unit)) Q E s
  | [], L, es, ep, t, s, Q, _, _, _, R, hL, _, hQ => by
    unfold rowsN
    rw [List.map_nil, List.forIn_nil]
    exact wpAny_pure (hQ s.heap L es ep t (Heap.SameBut.refl a s.heap) R (fun j => by simp) hL fun p hp => .inl hp)
  | (x, k) :: l, L, es, ep, t, s, Q, hk, hnd, ho, R, hL, hl, hQ => by
    rw [List.map_cons] at hnd
    obtain ⟨n1, n2⟩ := List.nodup_cons.mp hnd
    have lenL := sub_lenK (L.map (·.2)) U R.ndp fun y hy => by obtain ⟨p, hp, rfl⟩ := List.mem_map.mp hy; exact hL p hp
    rw [List.length_map] at lenL
    obtain ⟨oa, hoa, hexa, hda⟩ := R.obj
    have hx := hk _ List.mem_cons_self
    have go : ∀ h' L1 es1 ep1 t1 (Z : ForInStep PUnit → Shared → Prop), (wpAny (model P w) A (forIn (rowsN knd l) PUnit.unit fun (x : Int × Value) _ => do
            holding [x.2] (do if !(← setDiscardHashed a x.2 x.1) then let _ ← setAddHashed a x.2 x.1)
            Builtin.Frozenset.unchanged id o1 ep0
            pure (ForInStep.yield PUnit.unit)) Q E { s with heap := h' } → Z (.yield PUnit.unit) { s with heap := h' }) → Heap.SameBut a s.heap h' → SetD knd h' a L1 es1 ep1 t1 → (∀ j, j ∈ L1.map (·.2) ↔ (j ∈ L.map (·.2) ↔ j ≠ k)) → (∀ p ∈ L1, p.2 ∈ U) → (∀ p ∈ L1, p ∈ L ∨ p = (x, k)) → wpAny (model P w) A (do
        Builtin.Frozenset.unchanged id o1 ep0
        pure (ForInStep.yield PUnit.unit)) Z E { s with heap := h' } := fun h' L1 es1 ep1 t1 Z hZ sb R1 m1 hL1 hf1 => by
      obtain ⟨o, es0, t0, ho, hd, hf⟩ := ho
      have ho' := (sb.2 o1 hne).trans ho
      unfold Builtin.Frozenset.unchanged setEpoch
      refine wpAny_bind (wpAny_bind (wpAny_bind (wpAny_setState_of (s := { s with heap := h' }) ho' hd hf (wpAny_pure ?_))))
      refine wp_if_neg (by simp) ?_
      refine wpAny_pure (wpAny_pure (hZ ?_))
      refine flipsD KS hu hne U hU l (s := { s with heap := h' }) (fun p hp => key_same KS (hk p (List.mem_cons_of_mem _ hp)) hoa hda sb) n2 ⟨o, es0, t0, ho', hd, hf⟩ R1 hL1 (fun p hp => hl p (List.mem_cons_of_mem _ hp)) fun h2 L2 es2 ep2 t2 sb2 R2 m2 hL2 hf2 => ?_
      refine hQ h2 L2 es2 ep2 t2 (sb.trans sb2) R2 (fun j => ?_) hL2 fun p hp => (hf2 p hp).elim (fun z => (hf1 p z).imp_right fun e => by rw [e]; exact List.mem_cons_self) fun z => .inr (List.mem_cons_of_mem _ z)
      rw [m2 j, m1 j, List.map_cons, List.mem_cons]
      by_cases e : j = k
      · subst e
        simp [n1]
      · simp [e]
    have er : rowsN knd ((x, k) :: l) = (knd.hash k, Value.ref x) :: rowsN knd l := rfl
    rw [er, List.forIn_cons]
    refine wpAny_bind ?_
    refine wpAny_bind (wpAny_holding (wpAny_bind (discardD KS R (by omega) hx hu (fun n => ?_) fun i x' e h' es' ep' t' sb R' => ?_)))
    · simp only [Bool.not_false, if_true]
      have lenK := sub_lenK (k :: L.map (·.2)) U (List.nodup_cons.mpr ⟨n, R.ndp⟩) fun y hy => by
        rcases List.mem_cons.mp hy with e | hy
        · rw [e]; exact hl _ List.mem_cons_self
        · obtain ⟨p, hp, rfl⟩ := List.mem_map.mp hy
          exact hL p hp
      rw [List.length_cons, List.length_map] at lenK
      refine wpAny_bind (addD KS R hx hu (by omega) fun b h' L' es' ep' t' sb R' _ pm => ?_)
      have pm := pm n
      refine wpAny_pure (go h' L' es' ep' t' _ (fun z => z) sb R' (fun j => ?_) (fun p hp => ?_) fun p hp => (List.mem_cons.mp (pm.mem_iff.mp hp)).elim .inr .inl)
      · rw [(pm.map (·.2)).mem_iff, List.map_cons, List.mem_cons]
        by_cases e : j = k
        · subst e
          simp [n]
        · simp [e]
      · rcases List.mem_cons.mp (pm.mem_iff.mp hp) with e | hp
        · rw [e]; exact hl _ List.mem_cons_self
        · exact hL p hp
    · simp only [Bool.not_true, Bool.false_eq_true, if_false]
      have pe := (erase_perm L i (x', k) e).map (·.2)
      rw [List.map_cons] at pe
      have nd := pe.nodup_iff.mpr R.ndp
      refine wpAny_pure (go h' _ es' ep' t' _ (fun z => z) sb R' (fun j => ?_) (fun p hp => hL p (List.mem_of_mem_eraseIdx hp)) fun p hp => .inl (List.mem_of_mem_eraseIdx hp))
      rw [← pe.mem_iff, List.mem_cons]
      by_cases q : j = k
      · subst q
        simp [(List.nodup_cons.mp nd).1]
      · simp [q]
/-- a new set takes over another one -/
theorem mergeD (KS : KSet knd) {o2 : Addr} {L2 : List (Addr × K)} {es2 : Array (Int × Value)} {ep2 : Nat} {t2 : SetTable} {each : Sem Unit} {Q : Unit → Shared → Prop} (ha : s.heap.get? a = some (bareSet w)) (R2 : SetN knd s.heap o2 L2 es2 ep2 t2) (hne : a ≠ o2)
    (hQ : ∀ h' L' es' ep' t', Heap.SameBut a s.heap h' → SetD knd h' a L' es' ep' t' → L'.Perm L2 → Q () { s with heap := h' }) : wpAny (model P w) A (setMerge a o2 each) Q E s := by
  have D2 := setD_of R2
  have few := R2.few
  obtain ⟨o, ho, hex, hd⟩ := R2.ob
  have sz := D2.sz
  unfold setMerge
  refine wp_if_neg (by simpa using hne) ?_
  try refine wpAny_bind (wpAny_pure ?_)
  refine wpAny_bind (wpAny_setState_of ho hd D2.ok ?_)
  dsimp only
  by_cases em : es2.isEmpty = true
  · refine wp_if_pos em (wpAny_pure ?_)
    have e0 : L2 = [] := by
      rw [Array.isEmpty_iff_size_eq_zero, sz] at em
      exact List.eq_nil_of_length_eq_zero em
    exact hQ s.heap [] #[] 0 (freshT w) (Heap.SameBut.refl a s.heap) (setD_of (setN_new ha)) (by rw [e0])
  refine wp_if_neg em ?_
  try refine wpAny_bind (wpAny_pure ?_)
  have pos : 0 < L2.length := by
    rw [Array.isEmpty_iff_size_eq_zero, sz] at em
    omega
  have D0 : SetD knd s.heap a [] #[] 0 (freshT w) := setD_of (setN_new ha)
  have go : ∀ h1 es1 ep1 t1, Heap.SameBut a s.heap h1 → SetD knd h1 a [] es1 ep1 t1 → t1.dummies = #[] → L2.length * 5 < t1.mask * 3 → L2.length ≤ t1.mask → wpAny (model P w) A (do
      let (_, _, ts) ← setState a
      match ts.road t2 with
      | .slotForSlot => storeSet a es2 { t2 with finger := ts.finger, led := ts.led && t2.led, moves := ts.moves, plain := ts.plain && t2.plain }
      | .clean =>
        let (es, t) ← (do
          let some (t, order) := SetTable.laid ts.mask ts.finger ts.moves (led := ts.led && t2.led) (plain := ts.plain && t2.plain) (es2.map (·.1)) | unsupported "internal:set-table-without-room"
          let es' := order.filterMap (es2[·]?)
          if es'.size != es2.size then unsupported "internal:set-table-lost-an-element"
          pure (es', t) : Sem (Array (Int × Value) × SetTable))
        storeSet a es t
      | .oneByOne =>
        for (h, x) in ← setWalkUnseen o2 [a] (some a) do
          let _ ← holding [x] (setAddHashed a x h)
          each
          if (← setState o2).2.1 != ep2 then unsupported "set.changed-during-merge") Q E { s with heap := h1 } := fun h1 es1 ep1 t1 sb R1 dm1 room le => by
    obtain ⟨oa, hoa, hexa, hda⟩ := R1.obj
    have fl0 : t1.fill = 0 := by
      unfold SetTable.fill
      rw [R1.pl, dm1]
      rfl
    have led : w.params.followText "set-order" = true ∨ (t1.led && t2.led) = true := by
      rcases R1.lds with z | z
      · exact .inl z
      · rcases R2.led with z2 | z2
        · exact .inl z2
        · exact .inr (by rw [z, z2]; rfl)
    have pln : (t1.plain && t2.plain) = true := by rw [R1.pln, R2.plain]; rfl
    have fill2 : t2.fill = L2.length := by
      unfold SetTable.fill
      rw [D2.pl, R2.tab.dm]
      rfl
    refine wpAny_bind (wpAny_setState_of (s := { s with heap := h1 }) hoa hda R1.ok ?_)
    dsimp only
    have keys : ∀ {h' : Heap}, Heap.SameBut a h1 h' → ∀ p ∈ L2, knd.is h' p.2 p.1 := fun sb2 p hp => key_same KS (key_same KS (R2.mem p hp) ha rfl sb) hoa hda sb2
    unfold SetTable.road
    rw [fl0]
    simp only [bne_self_eq_false, Bool.false_eq_true, if_false]
    by_cases hc : (t1.mask == t2.mask && t2.dummies.isEmpty) = true
    · rw [if_pos hc]
      dsimp only
      refine wpAny_storeSet_of (s := { s with heap := h1 }) hoa hda ?_ (by rw [sz, sizeLine_eq]; omega)
      have sb2 : Heap.SameBut a h1 (h1.update a (Obj.putSet es2 { t2 with finger := t1.finger, led := t1.led && t2.led, moves := t1.moves, plain := t1.plain && t2.plain })) := Heap.SameBut.update ..
      refine hQ _ L2 es2 (ep1 + 1) _ (sb.trans sb2) ⟨⟨_, store_at hoa hda, ⟨hexa.1, hexa.2.1, hexa.2.2⟩, rfl⟩, R2.rows, ?_, R2.nd, keys sb2, pln, led, D2.spc⟩ (List.Perm.refl _)
      exact ⟨D2.tb.rp, D2.tb.rd, D2.tb.apt, D2.tb.len, D2.tb.msk, D2.tb.bp, D2.tb.bd, D2.tb.found⟩
    · rw [if_neg hc]
      dsimp only
      obtain ⟨t', order, e, hp, T, em, el, ep', ed⟩ := laidD R1.tb.msk t1.finger t1.moves (t1.led && t2.led) (t1.plain && t2.plain) (hs := es2.map (·.1)) (by rw [Array.size_map, sz]; exact le)
      rw [Array.size_map, sz] at hp
      obtain ⟨L3, r1, r2, r3⟩ := orderN R2.rows hp
      rw [← r3] at T
      have hs2 : (order.filterMap (es2[·]?)).size = L2.length := by rw [← Array.length_toList, r1, rowsN_len, r2.length_eq]
      rw [e]
      dsimp only
      refine wpAny_bind (wp_if_neg (by rw [hs2, sz]; simp) ?_)
      try refine wpAny_bind (wpAny_pure ?_)
      refine wpAny_pure ?_
      dsimp only
      refine wpAny_storeSet_of (s := { s with heap := h1 }) hoa hda ?_ (by rw [hs2, sizeLine_eq]; omega)
      have sb2 : Heap.SameBut a h1 (h1.update a (Obj.putSet (order.filterMap (es2[·]?)) t')) := Heap.SameBut.update ..
      have fl : t'.fill = L2.length := by
        unfold SetTable.fill
        rw [T.len, ed, List.length_map, r2.length_eq]
        rfl
      exact hQ _ L3 _ (ep1 + 1) t' (sb.trans sb2) ⟨⟨_, store_at hoa hda, ⟨hexa.1, hexa.2.1, hexa.2.2⟩, rfl⟩, r1, T, (r2.map (·.2)).nodup_iff.mpr R2.nd, fun p hpm => keys sb2 p (r2.mem_iff.mp hpm), by rw [ep']; exact pln, by rw [el]; exact led, by rw [fl, em]; exact room⟩ r2
  refine wpAny_bind ?_
  unfold setRoomFor
  refine wpAny_bind (wpAny_setState_of ha rfl D0.ok ?_)
  dsimp only
  have e0 : (freshT w).roomFor es2.size = if L2.length * 5 ≥ 21 then some (L2.length * 2) else none := by
    rw [sz]
    unfold SetTable.roomFor SetTable.fill
    show (if (0 + L2.length) * 5 ≥ 7 * 3 then some ((0 + L2.length) * 2) else none) = _
    rw [Nat.zero_add]
  rw [e0]
  by_cases big : L2.length * 5 ≥ 21
  · rw [if_pos big]
    dsimp only
    obtain ⟨g1, g2, g3, g4⟩ := merge_mask (n := L2.length) (by omega) few
    refine relayD KS (L := []) ha ⟨rfl, rfl, rfl⟩ rfl rfl D0.ok D0.ndp D0.kys rfl D0.lds (by simp) g1 g4 (by rw [List.length_nil]; omega) fun h1 L1 es1 ep1 t1 sb R1 pm em dm => ?_
    rw [pm.eq_nil] at R1
    exact go h1 es1 ep1 t1 sb R1 dm (by rw [em]; exact g2) (by rw [em]; exact g3)
  · rw [if_neg big]
    dsimp only
    refine wpAny_pure ?_
    exact go s.heap #[] 0 (freshT w) (Heap.SameBut.refl a s.heap) D0 rfl (show L2.length * 5 < 7 * 3 by omega) (show L2.length ≤ 7 by omega)
/-- set.__xor__ of two sets -/
theorem xorD (KS : KSet knd) (hu : ∀ A' : Around, A'.units ≤ A.units + 4 → knd.room A') {a1 a2 : Addr} {L1 L2 : List (Addr × K)} {es1 es2 : Array (Int × Value)} {ep1 ep2 : Nat} {t1 t2 : SetTable} {Q : PySem.Fin → Shared → Prop} (R1 : SetN knd s.heap a1 L1 es1 ep1 t1) (R2 : SetN knd s.heap a2 L2 es2 ep2 t2)
    (U : List K) (hU : U.length < 64) (hU1 : ∀ p ∈ L1, p.2 ∈ U) (hU2 : ∀ p ∈ L2, p.2 ∈ U)
    (hQ : ∀ h' L' es' ep' t', (∀ b o, s.heap.get? b = some o → h'.get? b = some o) → SetD knd h' s.heap.objs.size L' es' ep' t' → (∀ j, j ∈ L'.map (·.2) ↔ (j ∈ L2.map (·.2) ↔ j ∉ L1.map (·.2))) → (∀ p ∈ L', p ∈ L1 ∨ p ∈ L2) → Q (.done (.ret (.ref s.heap.objs.size))) { s with heap := h' }) :
    wpAny (model P w) A (Builtin.«frozenset.__xor__» ⟨[.ref a1, .ref a2], []⟩) Q E s := by
  have T1 : s.TypeIs (.ref a1) "set" := (setD_of R1).ty
  have T2 : s.TypeIs (.ref a2) "set" := (setD_of R2).ty
  unfold Builtin.«frozenset.__xor__»
  wp_delta
  refine wpAny_bind (wpAny_of_eq (a := (Value.ref a1, Value.ref a2)) (by rfl) ?_)
  dsimp only
  simp only [Bool.false_eq_true, if_false]
  refine wpAny_bind ?_
  show wpAny _ _ (Builtin.Frozenset.isAnySet (.ref a1) >>= _) _ _ _
  refine wpAny_bind (any_set T1 ?_)
  show wpAny _ _ (Builtin.Frozenset.isAnySet (.ref a2)) _ _ _
  refine any_set T2 ?_
  refine wp_if_neg (by decide) ?_
  try refine wpAny_bind (wpAny_pure ?_)
  refine wpAny_bind ?_
  wp_delta
  refine wpAny_bind (base_set T1 ?_)
  refine wpAny_bind ?_
  unfold Builtin.Frozenset.newFrom newSet
  refine wpAny_bind (wpAny_bind (wpAny_byText ?_))
  dsimp only
  refine wpAny_newObj_type ?_
  obtain ⟨h1', hh1⟩ : ∃ h1', s.heap.push (bareSet w) = h1' := ⟨_, rfl⟩
  have keep1 : ∀ b o, s.heap.get? b = some o → h1'.get? b = some o := fun b o e => by rw [← hh1]; exact Heap.get?_push_of_some _ e
  have hnew : h1'.get? s.heap.objs.size = some (bareSet w) := by rw [← hh1]; exact Heap.get?_push_size _ rfl
  have lt1 : a1 < s.heap.objs.size := by obtain ⟨o, ho, _⟩ := R1.ob; exact Heap.lt_size ho
  have lt2 : a2 < s.heap.objs.size := by obtain ⟨o, ho, _⟩ := R2.ob; exact Heap.lt_size ho
  have R1a := R1.keep KS keep1
  have R2a := R2.keep KS keep1
  show wpAny _ _ _ _ _ { s with heap := s.heap.push (bareSet w) }
  rw [hh1]
  refine wpAny_bind (wpAny_pure ?_)
  refine wpAny_bind (wpAny_holding ?_)
  unfold Builtin.Frozenset.updateFrom
  refine wpAny_bind (any_set (s := { s with heap := h1' }) (SetD.ty (s := { s with heap := h1' }) (setD_of R2a)) ?_)
  simp only [if_true]
  refine wpAny_bind (wpAny_pure ?_)
  unfold Builtin.Frozenset.merge
  obtain ⟨o2, ho2, hex2, hd2⟩ := R2a.ob
  unfold setEpoch
  refine wpAny_bind (wpAny_bind (wpAny_setState_of (s := { s with heap := h1' }) ho2 hd2 (setD_of R2a).ok (wpAny_pure ?_)))
  refine mergeD KS (s := { s with heap := h1' }) hnew R2a (Nat.ne_of_gt lt2) fun h2' L0 es0 ep0 t0 sb2 r2 pm2 => ?_
  refine wpAny_pure ?_
  refine wpAny_bind (wpAny_pure ?_)
  refine wpAny_bind (wpAny_holding ?_)
  obtain ⟨on, hon, hexn, hdn⟩ := (setN_new (knd := knd) hnew).ob
  have keys1 : ∀ p ∈ L1, knd.is h2' p.2 p.1 := fun p hp => key_same KS (R1a.mem p hp) hnew rfl sb2
  obtain ⟨o1, ho1, hex1, hd1⟩ := R1a.ob
  have ho1' : h2'.get? a1 = some o1 := (sb2.2 a1 (Nat.ne_of_lt lt1)).trans ho1
  have D1b : SetD knd h2' a1 L1 es1 ep1 t1 := ⟨⟨o1, ho1', hex1, hd1⟩, R1.rows, tabD_of R1.tab, R1.nd, keys1, R1.plain, R1.led, (setD_of R1).spc⟩
  have T1b : Shared.TypeIs { s with heap := h2' } (.ref a1) "set" := SetD.ty (s := { s with heap := h2' }) D1b
  unfold Builtin.Frozenset.symmetricDifferenceUpdate
  refine wp_if_neg (by simp; exact Nat.ne_of_lt lt1) ?_
  try refine wpAny_bind (wpAny_pure ?_)
  dsimp only
  refine wpAny_bind (wpAny_typeOf T1b ?_)
  refine wp_if_neg (by decide) ?_
  try refine wpAny_bind (wpAny_pure ?_)
  refine wpAny_bind (any_set T1b ?_)
  refine wp_if_pos rfl ?_
  refine wpAny_bind (wpAny_pure ?_)
  refine wpAny_bind (wpAny_pure ?_)
  unfold setEpoch
  refine wpAny_bind (wpAny_bind (wpAny_setState_of (s := { s with heap := h2' }) ho1' hd1 D1b.ok (wpAny_pure ?_)))
  refine wpAny_holding ?_
  refine wpAny_bind (walk_quietD (s := { s with heap := h2' }) D1b fun es' L1' pm1 er => ?_)
  refine wpAny_bind ?_
  rw [← Array.forIn_toList, er]
  refine flipsD KS (hu _ (by omega)) (o1 := a1) (ep0 := ep1) (Nat.ne_of_lt lt1) U hU L1' (s := { s with heap := h2' }) (fun p hp => keys1 p (pm1.mem_iff.mp hp)) ((pm1.map (·.2)).nodup_iff.mpr R1.nd) ⟨o1, es1, t1, ho1', hd1, D1b.ok⟩ r2 (fun p hp => hU2 p (pm2.mem_iff.mp hp)) (fun p hp => hU1 p (pm1.mem_iff.mp hp)) fun h4 L4 es4 ep4 t4 sb4 r4 m4 _ hf4 => ?_
  refine wpAny_pure (wpAny_pure (wpAny_pure (hQ h4 L4 es4 ep4 t4 (fun b o e => ?_) r4 (fun j => ?_) fun p hp => (hf4 p hp).elim (fun z => .inr (pm2.mem_iff.mp z)) fun z => .inl (pm1.mem_iff.mp z))))
  · have hb : b ≠ s.heap.objs.size := Nat.ne_of_lt (Heap.lt_size e)
    exact (sb4.2 b hb).trans ((sb2.2 b hb).trans (keep1 b o e))
  · rw [m4 j, (pm2.map (·.2)).mem_iff, (pm1.map (·.2)).mem_iff]
/-- x ^ y of sets -/
theorem op_xorD (KS : KSet knd) (hu : ∀ A' : Around, A'.units ≤ A.units + 8 → knd.room A') {a1 a2 : Addr} {L1 L2 : List (Addr × K)} {es1 es2 : Array (Int × Value)} {ep1 ep2 : Nat} {t1 t2 : SetTable} {Q : Value → Shared → Prop} (R1 : SetN knd s.heap a1 L1 es1 ep1 t1) (R2 : SetN knd s.heap a2 L2 es2 ep2 t2)
    (U : List K) (hU : U.length < 64) (hU1 : ∀ p ∈ L1, p.2 ∈ U) (hU2 : ∀ p ∈ L2, p.2 ∈ U)
    (hQ : ∀ h' L' es' ep' t', (∀ b o, s.heap.get? b = some o → h'.get? b = some o) → SetD knd h' s.heap.objs.size L' es' ep' t' → (∀ j, j ∈ L'.map (·.2) ↔ (j ∈ L2.map (·.2) ↔ j ∉ L1.map (·.2))) → (∀ p ∈ L', p ∈ L1 ∨ p ∈ L2) → Q (.ref s.heap.objs.size) { s with heap := h' }) :
    wpAny (model P w) A (binaryOp .BitXor (.ref a1) (.ref a2)) Q E s := by
  refine wpAny_binaryOp_same (setD_of R1).ty (setD_of R2).ty F.fills_set_xor F.slot_set_xor ?_
  exact wpAny_call_entry F.slot_set_xor (setD_of R1).ty entry_xor (xorD KS (fun A' h => hu A' (by simp only [Around.in1_units] at h; omega)) R1 R2 U hU hU1 hU2 fun h' L' es' ep' t' k r m f => ⟨_, rfl, (fun z => nomatch z), hQ h' L' es' ep' t' k r m f⟩) (F.args_set_xor_2 _ _)
end
end L2
namespace L2
open PySem PySem.Spec PyProof.Rows
theorem sub_set_frz : isSubtype (.type "set") (.type "frozenset") = pure false := by rw [isSubtype_type]; kernel_rfl
theorem entry_set_neX : entryFor table "set.__ne__" = some Builtin.«frozenset.__ne__» := entryFor_alias (id' := "frozenset.__ne__") (by kernel_rfl) rfl (by decide +kernel) (by kernel_rfl)
section
variable {P : Program} {w : World} {K : Type} [DecidableEq K] {knd : HeapKind P w K}
variable {A : Around} {E : Value → Shared → Prop} {s : Shared} {a : Addr} {L : List (Addr × K)} {es : Array (Int × Value)} {ep : Nat} {t : SetTable}
/-- the keys are tuples -/
def TupK (knd : HeapKind P w K) : Prop := ∀ {h : Heap} {k : K} {b : Addr}, knd.is h k b → ∃ o, h.get? b = some o ∧ o.cls = .type "tuple"
/-- the members, perhaps seen -/
theorem walk_seenD (TK : TupK knd) {b : Addr} {L2 : List (Addr × K)} {es2 : Array (Int × Value)} {ep2 : Nat} {t2 : SetTable} (R : SetD knd s.heap a L es ep t) (R2 : SetD knd s.heap b L2 es2 ep2 t2) {Q : List (Int × Value) → Shared → Prop} (hQ : ∀ L', L'.Perm L → Q (rowsN knd L') s) :
    wpAny (model P w) A (Builtin.Frozenset.walkUnseen a b) Q E s := by
  obtain ⟨o, ho, hex, hd⟩ := R.obj
  obtain ⟨o2, ho2, hex2, hd2⟩ := R2.obj
  unfold Builtin.Frozenset.walkUnseen setEntries
  refine wpAny_bind (wpAny_bind (wpAny_setState_of ho hd R.ok (wpAny_pure ?_)))
  refine wpAny_bind (wpAny_bind (wpAny_setState_of ho2 hd2 R2.ok (wpAny_pure ?_)))
  dsimp only
  have er : es.toList ++ es2.toList = rowsN knd (L ++ L2) := by
    rw [R.rws, R2.rws]
    unfold rowsN
    rw [List.map_append]
  rw [er]
  have seen : wpAny (model P w) A (Builtin.Frozenset.walk a) Q E s := by
    unfold Builtin.Frozenset.walk
    refine wpAny_bind (walk_setD R fun es' L' pm e => wpAny_pure ?_)
    rw [e]
    exact hQ L' pm
  match hl : L ++ L2 with
  | [] =>
    refine wpAny_bind ?_
    show wpAny _ _ (forIn ([] : List (Int × Value)) _ _) _ _ _
    rw [List.forIn_nil]
    refine wpAny_pure ?_
    dsimp only
    refine wpAny_pure ?_
    rw [R.rws]
    exact hQ L (List.Perm.refl _)
  | p :: r =>
    refine wpAny_bind ?_
    show wpAny _ _ (forIn ((knd.hash p.2, Value.ref p.1) :: rowsN knd r) _ _) _ _ _
    rw [List.forIn_cons]
    refine wpAny_bind ?_
    have hp : knd.is s.heap p.2 p.1 := by
      have : p ∈ L ++ L2 := by rw [hl]; exact List.mem_cons_self
      exact (List.mem_append.mp this).elim (R.kys p) (R2.kys p)
    obtain ⟨op, hop, hcp⟩ := TK hp
    unfold Builtin.Frozenset.quietEq
    refine wpAny_bind (wpAny_bind (wpAny_specialOf (T := "tuple") ⟨op, hop, hcp⟩ F.slot_tuple_eq.lookup (wpAny_pure ?_)))
    refine wp_if_pos (by decide) ?_
    refine wpAny_bind (wpAny_mono seen (fun r s' h => ?_) fun _ _ h => h)
    refine wpAny_pure ?_
    dsimp only
    refine wpAny_pure ?_
    dsimp only
    exact wpAny_pure h
/-- all of one in the other -/
theorem subsetD (KS : KSet knd) (TK : TupK knd) (hu : knd.room A) {id : String} {b : Addr} {L2 : List (Addr × K)} {es2 : Array (Int × Value)} {ep2 : Nat} {t2 : SetTable} (R : SetD knd s.heap a L es ep t) (R2 : SetD knd s.heap b L2 es2 ep2 t2) (hl : L.length = L2.length) {Q : Bool → Shared → Prop}
    (hQ : ∀ r : Bool, (r = true ↔ ∀ p ∈ L, p.2 ∈ L2.map (·.2)) → Q r s) : wpAny (model P w) A (Builtin.Frozenset.subsetOf id a b) Q E s := by
  obtain ⟨o, ho, hex, hd⟩ := R.obj
  obtain ⟨o2, ho2, hex2, hd2⟩ := R2.obj
  unfold Builtin.Frozenset.subsetOf Builtin.Frozenset.sizeOf setEntries setEpoch
  refine wpAny_bind (wpAny_bind (wpAny_bind (wpAny_setState_of ho hd R.ok (wpAny_pure (wpAny_pure ?_)))))
  refine wpAny_bind (wpAny_bind (wpAny_bind (wpAny_setState_of ho2 hd2 R2.ok (wpAny_pure (wpAny_pure ?_)))))
  dsimp only
  refine wp_if_neg (by rw [R.sz, R2.sz]; omega) ?_
  try refine wpAny_bind (wpAny_pure ?_)
  refine wpAny_bind (wpAny_bind (wpAny_setState_of ho hd R.ok (wpAny_pure ?_)))
  dsimp only
  refine wpAny_bind (walk_seenD TK R R2 fun L' pm => ?_)
  have key : ∀ l : List (Addr × K), (∀ p ∈ l, knd.is s.heap p.2 p.1) → ∀ {Q : Bool → Shared → Prop}, (∀ r : Bool, (r = true ↔ ∀ p ∈ l, p.2 ∈ L2.map (·.2)) → Q r s) → ∀ (Z : (Option Bool × PUnit) → Shared → Prop), ((¬ ∀ p ∈ l, p.2 ∈ L2.map (·.2)) → Z (some false, PUnit.unit) s) → ((∀ p ∈ l, p.2 ∈ L2.map (·.2)) → Z (none, PUnit.unit) s) →
      wpAny (model P w) A (forIn (rowsN knd l) ((none, PUnit.unit) : Option Bool × PUnit) fun (x : Int × Value) _ => do
        if (← holding [x.2] (setFind b x.2 x.1)).isNone then pure (ForInStep.done (some false, PUnit.unit)) else do
          Builtin.Frozenset.unchanged id a ep
          pure (ForInStep.yield (none, PUnit.unit))) Z E s := fun l => by
    induction l with
    | nil =>
      intro _ Q _ Z _ z2
      show wpAny _ _ (forIn ([] : List (Int × Value)) _ _) _ _ _
      rw [List.forIn_nil]
      exact wpAny_pure (z2 fun p h => nomatch h)
    | cons p l ih =>
      intro hk Q hQ Z z1 z2
      show wpAny _ _ (forIn ((knd.hash p.2, Value.ref p.1) :: rowsN knd l) _ _) _ _ _
      rw [List.forIn_cons]
      refine wpAny_bind (wpAny_bind (wpAny_holding (findD KS R2 (hk p List.mem_cons_self) hu (fun i x' e => ?_) fun n => ?_)))
      · refine wp_if_neg (by simp) ?_
        unfold Builtin.Frozenset.unchanged setEpoch
        refine wpAny_bind (wpAny_bind (wpAny_bind (wpAny_setState_of ho hd R.ok (wpAny_pure ?_))))
        refine wp_if_neg (by simp) ?_
        refine wpAny_pure (wpAny_pure ?_)
        have m : p.2 ∈ L2.map (·.2) := List.mem_map.mpr ⟨_, List.mem_of_getElem? e, rfl⟩
        refine ih (fun q hq => hk q (List.mem_cons_of_mem _ hq)) (Q := fun _ _ => True) (fun _ _ => trivial) Z (fun n => z1 fun z => n fun q hq => z q (List.mem_cons_of_mem _ hq)) fun z => z2 fun q hq => ?_
        rcases List.mem_cons.mp hq with e | hq
        · rw [e]; exact m
        · exact z q hq
      · refine wp_if_pos (by simp) ?_
        refine wpAny_pure ?_
        exact wpAny_pure (z1 fun z => n (z p List.mem_cons_self))
  have same : (∀ p ∈ L', p.2 ∈ L2.map (·.2)) ↔ ∀ p ∈ L, p.2 ∈ L2.map (·.2) := ⟨fun z p hp => z p (pm.mem_iff.mpr hp), fun z p hp => z p (pm.mem_iff.mp hp)⟩
  refine wpAny_bind (key L' (fun p hp => R.kys p (pm.mem_iff.mp hp)) (Q := fun _ _ => True) (fun _ _ => trivial) _ (fun n => ?_) fun z => ?_)
  · dsimp only
    exact wpAny_pure (hQ false ⟨(fun z => nomatch z), fun z => (n (same.mpr z)).elim⟩)
  · dsimp only
    exact wpAny_pure (hQ true ⟨fun _ => same.mp z, fun _ => rfl⟩)
/-- x != y of sets -/
theorem op_neSD (KS : KSet knd) (TK : TupK knd) (hu : ∀ A' : Around, A'.units ≤ A.units + 8 → knd.room A') (hu2 : A.units < cLine) {b : Addr} {L2 : List (Addr × K)} {es2 : Array (Int × Value)} {ep2 : Nat} {t2 : SetTable} (R : SetD knd s.heap a L es ep t) (R2 : SetD knd s.heap b L2 es2 ep2 t2) {Q : Value → Shared → Prop}
    (hQ : ∀ r : Bool, (r = true ↔ ¬ ∀ j, j ∈ L.map (·.2) ↔ j ∈ L2.map (·.2)) → Q (.bool r) s) : wpAny (model P w) A (compareOp .NotEq (.ref a) (.ref b)) Q E s := by
  obtain ⟨o, ho, hex, hd⟩ := R.obj
  obtain ⟨o2, ho2, hex2, hd2⟩ := R2.obj
  refine wpAny_richCompare_same_room (op := .NotEq) R.ty R2.ty F.slot_set_ne (wpAny_call_entry F.slot_set_ne R.ty entry_set_neX ?_ (F.args_set_ne_2 _ _)) hu2
  unfold Builtin.«frozenset.__ne__»
  wp_delta
  refine wpAny_bind (wpAny_of_eq (a := (Value.ref a, Value.ref b)) (by rfl) ?_)
  dsimp only
  refine wpAny_bind (any_set R2.ty ?_)
  refine wp_if_neg (by decide) ?_
  try refine wpAny_bind (wpAny_pure ?_)
  refine wpAny_bind (wpAny_pure ?_)
  unfold Builtin.Frozenset.sizeOf setEntries
  refine wpAny_bind (wpAny_bind (wpAny_bind (wpAny_setState_of ho hd R.ok (wpAny_pure (wpAny_pure ?_)))))
  refine wpAny_bind (wpAny_bind (wpAny_bind (wpAny_setState_of ho2 hd2 R2.ok (wpAny_pure (wpAny_pure ?_)))))
  dsimp only
  have fin : ∀ r : Bool, (r = true ↔ ∀ j, j ∈ L.map (·.2) ↔ j ∈ L2.map (·.2)) → wpAny (model P w) A.in1 (ret (.bool (!r))) (fun f s' => ∃ v, f = .done (.ret v) ∧ v ≠ .notImplemented ∧ Q v s') E s := fun r h => wpAny_pure ⟨_, rfl, (fun z => nomatch z), hQ _ (by
    rw [← h]
    cases r <;> simp)⟩
  refine wpAny_bind ?_
  by_cases hn : es.size = es2.size
  · refine wp_if_neg (by simpa using hn) ?_
    try refine wpAny_bind (wpAny_pure ?_)
    refine wpAny_bind ?_
    show wpAny _ _ (isInstance (.ref a) (.type "frozenset") >>= _) _ _ _
    refine wpAny_bind (wpAny_isInstance (b := false) R.ty sub_set_frz ?_)
    show wpAny _ _ (pure false) _ _ _
    refine wpAny_pure ?_
    refine wp_if_neg (by decide) ?_
    try refine wpAny_bind (wpAny_pure ?_)
    have hl : L.length = L2.length := by rw [← R.sz, ← R2.sz]; exact hn
    refine subsetD KS TK (hu _ (by simp only [Around.in1_units]; omega)) R R2 hl fun r hr => fin r (hr.trans ⟨fun z j => ⟨fun hj => ?_, fun hj => ?_⟩, fun z p hp => (z p.2).mp (List.mem_map.mpr ⟨p, hp, rfl⟩)⟩)
    · obtain ⟨p, hp, rfl⟩ := List.mem_map.mp hj
      exact z p hp
    · refine Classical.byContradiction fun n => ?_
      have := sub_lenK (j :: L.map (·.2)) (L2.map (·.2)) (List.nodup_cons.mpr ⟨n, R.ndp⟩) fun y hy => by
        rcases List.mem_cons.mp hy with e | hy
        · rw [e]; exact hj
        · obtain ⟨p, hp, rfl⟩ := List.mem_map.mp hy
          exact z p hp
      rw [List.length_cons, List.length_map, List.length_map] at this
      omega
  · refine wp_if_pos (by simpa using hn) ?_
    refine wpAny_pure ?_
    refine fin false ⟨(fun z => nomatch z), fun z => (hn ?_).elim⟩
    rw [R.sz, R2.sz]
    have h1 := sub_lenK (L.map (·.2)) (L2.map (·.2)) R.ndp fun y hy => (z y).mp hy
    have h2 := sub_lenK (L2.map (·.2)) (L.map (·.2)) R2.ndp fun y hy => (z y).mpr hy
    rw [List.length_map, List.length_map] at h1 h2
    omega
end
end L2
namespace L2
open PySem PySem.Spec PyProof.Rows
section
variable {P : Program} {w : World} {K : Type} [DecidableEq K] {knd : HeapKind P w K} {A : Around} {E : Value → Shared → Prop} {s : Shared}
/-- set.update's loop, by how many unlike keys there are -/
theorem updU (KS : KSet knd) {I : Addr} {fp wr : List Addr} {G : Array GenState → Array GenState → Prop} {n : Nat} {Pv : Nat → Value → Prop} {St : Nat → Shared → Prop} {R : Result → Shared → Prop}
    (W : WalksS P w A.in1 I fp wr G n Pv St) (S : Addr) (hSf : S ∉ fp) (ks : List (Addr × K)) (hn : n = ks.length) (U : List K) (hU : U.length < 63) (hin : ∀ p ∈ ks, p.2 ∈ U) (hval : ∀ i v, Pv i v → ∃ p, ks[i]? = some p ∧ v = .ref p.1)
    (h0 : Heap) (hk : ∀ p ∈ ks, knd.is h0 p.2 p.1) (hS0 : h0.get? S = none) (hw0 : ∀ b ∈ wr, h0.get? b = none) (hu : knd.room A.in1) :
    ∀ (k i : Nat) (s : Shared), n - i = k → i ≤ n → St i s → (∀ b o, h0.get? b = some o → s.heap.get? b = some o) → (∃ L es ep t, SetN knd s.heap S L es ep t ∧ GotN ks i L) →
      (∀ s' L es ep t, Moved (S :: wr) G s s' → SetN knd s'.heap S L es ep t → GotN ks n L → (∀ b o, h0.get? b = some o → s'.heap.get? b = some o) → R (.ok (.ret .none)) s') →
      codeAny (model P w) A (.builtin "set.update.loop" ⟨[.ref S, .ref I], []⟩) R s := by
  have hSw : S ∉ wr := fun h => hSf (W.sub _ h)
  have wide : ∀ b ∈ wr, b ∈ S :: wr := fun b hb => List.mem_cons_of_mem _ hb
  have stay : ∀ {s s' : Shared}, Moved wr G s s' → (∀ b o, h0.get? b = some o → s.heap.get? b = some o) → ∀ b o, h0.get? b = some o → s'.heap.get? b = some o := fun hm hkp b o e =>
    hm.heap b o (fun hb => by rw [hw0 b hb] at e; cases e) (hkp b o e)
  have again : ∀ {s s' : Shared} {L es ep t i}, Moved wr G s s' → (∀ b o, h0.get? b = some o → s'.heap.get? b = some o) → SetN knd s.heap S L es ep t → GotN ks i L → SetN knd s'.heap S L es ep t := fun hm hkp hS g => by
    obtain ⟨o, ho, r⟩ := hS.ob
    exact ⟨⟨o, hm.heap S o hSw ho, r⟩, hS.rows, hS.tab, hS.nd, fun p hp => key_keep KS (hk p (List.mem_of_mem_take (g.sub p hp))) hkp, hS.plain, hS.led, hS.room, hS.few⟩
  intro k
  induction k with
  | zero =>
    intro i s hk' hi hst hkp ⟨L, es, ep, t, hS, g⟩ hR
    obtain rfl : i = n := by omega
    refine codeAny_builtin F.entry_set_update_loop ?_
    rw [Around.under_plainId F.plain_set_update_loop _]
    show wpAny _ A.in1 (pyNext (.ref I) >>= _) _ _ s
    refine wpAny_bind (W.done s _ _ hst fun s' hm => ?_)
    have hkp' := stay hm hkp
    exact wpAny_pure (hR s' L es ep t (hm.mono wide) (again hm hkp' hS g) g hkp')
  | succ k ih =>
    intro i s hk' hi hst hkp ⟨L, es, ep, t, hS, g⟩ hR
    have hlt : i < n := by omega
    refine codeAny_builtin F.entry_set_update_loop ?_
    rw [Around.under_plainId F.plain_set_update_loop _]
    show wpAny _ A.in1 (pyNext (.ref I) >>= _) _ _ s
    refine wpAny_bind (W.item i s _ _ hlt hst fun v s' hP hst' hm => ?_)
    obtain ⟨p, hp, rfl⟩ := hval i v hP
    have hkp' := stay hm hkp
    have hS' := again hm hkp' hS g
    have hx : knd.is s'.heap p.2 p.1 := key_keep KS (hk p (List.mem_of_getElem? hp)) hkp'
    show wpAny _ A.in1 (holding [Value.ref p.1] (setAdd S (.ref p.1)) >>= _) _ _ s'
    refine wpAny_bind (wpAny_holding ?_)
    unfold setAdd
    refine wpAny_holding (wpAny_bind (knd.pyHash hu hx ?_))
    refine addN KS (s := { s' with toks := s'.toks + knd.draws p.2 }) hS' hx hu (by
      have h := sub_lenK (L.map (·.2)) U hS'.nd fun y hy => by
        obtain ⟨q, hq, rfl⟩ := List.mem_map.mp hy
        exact hin q (List.mem_of_mem_take (g.sub q hq))
      rw [List.length_map] at h
      omega) fun b h' L' es' ep' t' hsb hS2 c1 c2 => ?_
    have kp2 : ∀ b o, h0.get? b = some o → h'.get? b = some o := fun b o e => (hsb.2 b fun z => by rw [z, hS0] at e; cases e).trans (hkp' b o e)
    refine wpAny_pure ⟨plainId_quiet F.plain_set_update_loop _, ih (i + 1) _ (by omega) hlt (W.frame _ s' _ _ hst' (Nat.le_add_right _ _) fun b hb o e => ?_) kp2 ⟨L', es', ep', t', hS2, g.next hp c1 c2⟩ fun s'' L2 es2 ep2 t2 hm2 hS3 g3 kp3 => ?_⟩
    · rw [hsb.2 b fun z : b = S => hSf (z ▸ hb)]; exact e
    · refine hR s'' L2 es2 ep2 t2 (Moved.trans W.gtrans ((hm.mono wide).then_heap (Nat.le_add_right _ _) fun b o hb e => ?_) hm2) hS3 g3 kp3
      rw [hsb.2 b fun z : b = S => hb (z ▸ List.mem_cons_self)]; exact e
set_option maxRecDepth 100000 in
set_option maxHeartbeats 3200000 in
/-- set(xs), xs a list of keys -/
theorem call_setUL (KS : KSet knd) {l : Addr} {items : Array Value} (ks : List (Addr × K)) {Q : Value → Shared → Prop} (hh : A.handled = none) (hl : s.heap.IsList l items) (hit : items.toList = ks.map fun p => Value.ref p.1) (hk : ∀ p ∈ ks, knd.is s.heap p.2 p.1) (U : List K) (hU : U.length < 63) (hin : ∀ p ∈ ks, p.2 ∈ U) (hu : ∀ A' : Around, A'.units ≤ A.units + 4 → knd.room A')
    (h : ∀ (h' : Heap) (tk : Nat) L es ep t, SetN knd h' s.heap.objs.size L es ep t → GotN ks ks.length L → (∀ b o, s.heap.get? b = some o → h'.get? b = some o) → Q (.ref s.heap.objs.size) { s with heap := h', toks := tk }) :
    wpAny (model P w) A (call (.type "set") [.ref l]) Q E s := by
  have hisz : items.size = ks.length := by
    rw [← Array.length_toList, hit, List.length_map]
  obtain ⟨c, tl, hmro⟩ := F.called_set.mro
  have hmade := F.called_set.made
  have hsub := F.called_set.sub
  refine wpAny_call (codeAny_of_tree ?_)
  show wpAny _ _ (callAny (.type "set") _) _ _ _
  refine wpAny_pure ⟨Code.quiet_builtin _ (by decide +kernel), codeAny_builtin F.entry_type_call ?_⟩
  rw [Around.under_plain (weight_type_call_type "set" [.ref l] []) rfl]
  have h1 := F.called_set.notType
  have h2 := F.called_set.canCreate
  have hct := F.typeCall_set_1 (.ref l)
  repeat (any_goals (first | assumption | wp_step))
  refine codeAny_mono (code_set_led1 (.ref l) (E := E) (Q₁ := fun obj s₁ => obj = .ref s.heap.objs.size ∧ s₁ = { s with heap := s.heap.push (bareSet w) }) ⟨rfl, rfl⟩) fun r s₁ hr => ?_
  cases r with
  | error e => exact hr
  | ok fl =>
    cases fl with
    | ret obj =>
      obtain ⟨rfl, rfl⟩ := hr
      have hS : (s.heap.push (bareSet w)).get? s.heap.objs.size = some (bareSet w) := Heap.get?_push_size _ rfl
      have hT : Shared.TypeIs { s with heap := s.heap.push (bareSet w) } (.ref s.heap.objs.size) "set" := ⟨_, hS, rfl⟩
      have hli := F.called_set.init.lookup
      have hbi := F.called_set.init.bind (.ref s.heap.objs.size)
      repeat (any_goals (first | assumption | wp_step))
      refine codeAny_mono (codeAny_call_builtin (R := wants (fun r s₂ => r = .none ∧ ∃ h' tk L es ep t, s₂ = { s with heap := h', toks := tk } ∧ SetN knd h' s.heap.objs.size L es ep t ∧ GotN ks ks.length L ∧ (∀ b o, s.heap.get? b = some o → h'.get? b = some o)) E) F.called_set.init.plain F.entry_set_init (check_set_init_1 hT ?_)) fun r₂ s₂ hr₂ => ?_
      · obtain ⟨ol, hol, hcl, nl, hdl⟩ := hl
        obtain ⟨ocls, odict, odata, oslots⟩ := ol
        simp only at hcl hdl
        subst hcl; subst hdl
        have hol' : (s.heap.push (bareSet w)).get? l = some { cls := .type "list", dict := odict, data := .seq items nl, slots := oslots } := Heap.get?_push_of_some _ hol
        have hsls := F.sub_list_set
        have hslf := F.sub_list_frozenset
        have hne : (Value.type "list" == Value.type "dict") = false := by decide
        have hl1 : (s.heap.push (bareSet w)).IsList l items := ⟨_, hol', rfl, nl, rfl⟩
        unfold Builtin.«set.__init__» noKeywords Builtin.Frozenset.updateFrom
        generalize hPI : pyIter = PI
        wp_walk
        subst hPI
        refine wpAny_pyIter_list hl1 ?_
        refine wpAny_bind (wpAny_runValue ?_)
        have hlS : l < s.heap.objs.size := Heap.lt_size hol
        have hh3 : A.in1.in1.in1.handled = none := by simp [hh]
        have hneI : l ≠ (s.heap.push (bareSet w)).objs.size := by
          rw [Heap.size_push]; exact Nat.ne_of_lt (Nat.lt_succ_of_lt hlS)
        have hSf : s.heap.objs.size ∉ [(s.heap.push (bareSet w)).objs.size, l] := by
          rw [Heap.size_push]; simp only [List.mem_cons, List.mem_singleton, List.not_mem_nil, or_false, not_or]
          exact ⟨Nat.ne_of_lt (Nat.lt_succ_self _), Nat.ne_of_gt hlS⟩
        have hval : ∀ (i : Nat) (v : Value), items[i]? = some v → ∃ p, ks[i]? = some p ∧ v = .ref p.1 := fun i v hv => by
          have q : items.toList[i]? = some v := by rw [Array.getElem?_toList]; exact hv
          rw [hit, List.getElem?_map] at q
          obtain ⟨p, hp, e⟩ := Option.map_eq_some_iff.mp q
          exact ⟨p, hp, e.symm⟩
        have none_of : ∀ b, s.heap.objs.size ≤ b → s.heap.get? b = none := fun b hb => by
          cases q : s.heap.get? b with
          | none => rfl
          | some o => exact absurd (Nat.lt_of_lt_of_le (Heap.lt_size q) hb) (Nat.lt_irrefl _)
        refine updU KS ((Walks.list hh3 _ l hneI items).toS) s.heap.objs.size
          hSf ks hisz U hU hin hval s.heap hk (none_of _ (Nat.le_refl _)) (fun b hb => none_of b (by
            rw [List.mem_singleton.mp hb, Heap.size_push]
            exact Nat.le_succ _)) (hu _ (by simp only [Around.in1_units]; omega)) (items.size - 0) 0 _ (by omega) (Nat.zero_le _)
          ⟨⟨_, Heap.get?_push_size _ rfl, rfl, rfl⟩, (hl1.push _)⟩ (fun b o e => Heap.get?_push_of_some _ (Heap.get?_push_of_some _ e)) ?hS0 ?hR
        case hS0 =>
          have hget : ((s.heap.push (bareSet w)).push { cls := .type "list_iterator", data := .fields #[.ref l, .int 0 0] }).get? s.heap.objs.size = some (bareSet w) := Heap.get?_push_of_some _ hS
          exact ⟨[], #[], 0, _, setN_new hget, ⟨fun p h => (nomatch h), fun p h => (by simp at h), Nat.le_refl _⟩⟩
        case hR =>
          intro s' L es ep t hm hS' g' hkp
          obtain ⟨h', g2, d', tk', os'⟩ := s'
          have eg : g2 = s.gens := hm.gens
          have ed : d' = s.drawn := hm.drawn
          have eo : os' = s.os := hm.os
          subst eg; subst ed; subst eo
          show wpAny _ _ _ _ _ _
          refine wpAny_pure ?_
          show wpAny _ _ (ret Value.none) _ _ _
          rw [hisz] at g'
          exact wpAny_pure ⟨rfl, h', tk', L, es, ep, t, rfl, hS', g', hkp⟩
      · cases r₂ with
        | error e => exact hr₂
        | ok fl₂ =>
          cases fl₂ with
          | ret r =>
            obtain ⟨rfl, h', tk, L, es, ep, t, rfl, hS', g', hk'⟩ := hr₂
            repeat (any_goals (first | assumption | wp_step))
            exact h _ _ _ _ _ _ hS' g' hk'
          | _ => exact hr₂.elim
    | _ => exact hr.elim
set_option maxRecDepth 100000 in
set_option maxHeartbeats 3200000 in
/-- set(xs), xs a tuple of keys -/
theorem call_setUT (KS : KSet knd) {l : Addr} {items : Array Value} (ks : List (Addr × K)) {Q : Value → Shared → Prop} (hh : A.handled = none) (hl : s.heap.IsTuple l items) (hit : items.toList = ks.map fun p => Value.ref p.1) (hk : ∀ p ∈ ks, knd.is s.heap p.2 p.1) (U : List K) (hU : U.length < 63) (hin : ∀ p ∈ ks, p.2 ∈ U) (hu : ∀ A' : Around, A'.units ≤ A.units + 4 → knd.room A')
    (h : ∀ (h' : Heap) (tk : Nat) L es ep t, SetN knd h' s.heap.objs.size L es ep t → GotN ks ks.length L → (∀ b o, s.heap.get? b = some o → h'.get? b = some o) → Q (.ref s.heap.objs.size) { s with heap := h', toks := tk }) :
    wpAny (model P w) A (call (.type "set") [.ref l]) Q E s := by
  have hisz : items.size = ks.length := by
    rw [← Array.length_toList, hit, List.length_map]
  obtain ⟨c, tl, hmro⟩ := F.called_set.mro
  have hmade := F.called_set.made
  have hsub := F.called_set.sub
  refine wpAny_call (codeAny_of_tree ?_)
  show wpAny _ _ (callAny (.type "set") _) _ _ _
  refine wpAny_pure ⟨Code.quiet_builtin _ (by decide +kernel), codeAny_builtin F.entry_type_call ?_⟩
  rw [Around.under_plain (weight_type_call_type "set" [.ref l] []) rfl]
  have h1 := F.called_set.notType
  have h2 := F.called_set.canCreate
  have hct := F.typeCall_set_1 (.ref l)
  repeat (any_goals (first | assumption | wp_step))
  refine codeAny_mono (code_set_led1 (.ref l) (E := E) (Q₁ := fun obj s₁ => obj = .ref s.heap.objs.size ∧ s₁ = { s with heap := s.heap.push (bareSet w) }) ⟨rfl, rfl⟩) fun r s₁ hr => ?_
  cases r with
  | error e => exact hr
  | ok fl =>
    cases fl with
    | ret obj =>
      obtain ⟨rfl, rfl⟩ := hr
      have hS : (s.heap.push (bareSet w)).get? s.heap.objs.size = some (bareSet w) := Heap.get?_push_size _ rfl
      have hT : Shared.TypeIs { s with heap := s.heap.push (bareSet w) } (.ref s.heap.objs.size) "set" := ⟨_, hS, rfl⟩
      have hli := F.called_set.init.lookup
      have hbi := F.called_set.init.bind (.ref s.heap.objs.size)
      repeat (any_goals (first | assumption | wp_step))
      refine codeAny_mono (codeAny_call_builtin (R := wants (fun r s₂ => r = .none ∧ ∃ h' tk L es ep t, s₂ = { s with heap := h', toks := tk } ∧ SetN knd h' s.heap.objs.size L es ep t ∧ GotN ks ks.length L ∧ (∀ b o, s.heap.get? b = some o → h'.get? b = some o)) E) F.called_set.init.plain F.entry_set_init (check_set_init_1 hT ?_)) fun r₂ s₂ hr₂ => ?_
      · obtain ⟨ol, hol, hcl, nl, hdl⟩ := hl
        obtain ⟨ocls, odict, odata, oslots⟩ := ol
        simp only at hcl hdl
        subst hcl; subst hdl
        have hol' : (s.heap.push (bareSet w)).get? l = some { cls := .type "tuple", dict := odict, data := .seq items nl, slots := oslots } := Heap.get?_push_of_some _ hol
        have hsls := F.sub_tuple_set
        have hslf := F.sub_tuple_frozenset
        have hne : (Value.type "tuple" == Value.type "dict") = false := by decide
        have hl1 : (s.heap.push (bareSet w)).IsTuple l items := ⟨_, hol', rfl, nl, rfl⟩
        unfold Builtin.«set.__init__» noKeywords Builtin.Frozenset.updateFrom
        generalize hPI : pyIter = PI
        wp_walk
        subst hPI
        refine wpAny_pyIter_tuple hl1 ?_
        refine wpAny_bind (wpAny_runValue ?_)
        have hlS : l < s.heap.objs.size := Heap.lt_size hol
        have hh3 : A.in1.in1.in1.handled = none := by simp [hh]
        have hneI : l ≠ (s.heap.push (bareSet w)).objs.size := by
          rw [Heap.size_push]; exact Nat.ne_of_lt (Nat.lt_succ_of_lt hlS)
        have hSf : s.heap.objs.size ∉ [(s.heap.push (bareSet w)).objs.size, l] := by
          rw [Heap.size_push]; simp only [List.mem_cons, List.mem_singleton, List.not_mem_nil, or_false, not_or]
          exact ⟨Nat.ne_of_lt (Nat.lt_succ_self _), Nat.ne_of_gt hlS⟩
        have hval : ∀ (i : Nat) (v : Value), items[i]? = some v → ∃ p, ks[i]? = some p ∧ v = .ref p.1 := fun i v hv => by
          have q : items.toList[i]? = some v := by rw [Array.getElem?_toList]; exact hv
          rw [hit, List.getElem?_map] at q
          obtain ⟨p, hp, e⟩ := Option.map_eq_some_iff.mp q
          exact ⟨p, hp, e.symm⟩
        have none_of : ∀ b, s.heap.objs.size ≤ b → s.heap.get? b = none := fun b hb => by
          cases q : s.heap.get? b with
          | none => rfl
          | some o => exact absurd (Nat.lt_of_lt_of_le (Heap.lt_size q) hb) (Nat.lt_irrefl _)
        refine updU KS ((Walks.tuple hh3 _ l hneI items).toS) s.heap.objs.size
          hSf ks hisz U hU hin hval s.heap hk (none_of _ (Nat.le_refl _)) (fun b hb => none_of b (by
            rw [List.mem_singleton.mp hb, Heap.size_push]
            exact Nat.le_succ _)) (hu _ (by simp only [Around.in1_units]; omega)) (items.size - 0) 0 _ (by omega) (Nat.zero_le _)
          ⟨⟨_, Heap.get?_push_size _ rfl, rfl, rfl⟩, (hl1.push _)⟩ (fun b o e => Heap.get?_push_of_some _ (Heap.get?_push_of_some _ e)) ?hS0 ?hR
        case hS0 =>
          have hget : ((s.heap.push (bareSet w)).push { cls := .type "tuple_iterator", data := .fields #[.ref l, .int 0 0] }).get? s.heap.objs.size = some (bareSet w) := Heap.get?_push_of_some _ hS
          exact ⟨[], #[], 0, _, setN_new hget, ⟨fun p h => (nomatch h), fun p h => (by simp at h), Nat.le_refl _⟩⟩
        case hR =>
          intro s' L es ep t hm hS' g' hkp
          obtain ⟨h', g2, d', tk', os'⟩ := s'
          have eg : g2 = s.gens := hm.gens
          have ed : d' = s.drawn := hm.drawn
          have eo : os' = s.os := hm.os
          subst eg; subst ed; subst eo
          show wpAny _ _ _ _ _ _
          refine wpAny_pure ?_
          show wpAny _ _ (ret Value.none) _ _ _
          rw [hisz] at g'
          exact wpAny_pure ⟨rfl, h', tk', L, es, ep, t, rfl, hS', g', hkp⟩
      · cases r₂ with
        | error e => exact hr₂
        | ok fl₂ =>
          cases fl₂ with
          | ret r =>
            obtain ⟨rfl, h', tk, L, es, ep, t, rfl, hS', g', hk'⟩ := hr₂
            repeat (any_goals (first | assumption | wp_step))
            exact h _ _ _ _ _ _ hS' g' hk'
          | _ => exact hr₂.elim
    | _ => exact hr.elim
end
end L2
namespace DL
open PySem PySem.Spec L2 PyProof.Rows
theorem inv_pin {X : Cx} {pins : List (Addr × Obj)} {σ : L2.St} {H : Hp} {s : Shared} {p : Addr} {o : Obj} (I : L2.Inv X pins σ H s) (he : s.heap.get? p = some o) (hn : H p = none) (hL : p ≠ X.env.locals) (hF : p ∉ X.fs) (hc : ∀ v, o.data ≠ .cell v) : L2.Inv X ((p, o) :: pins) σ H s :=
  ⟨I.ok, I.os, I.bare, I.base, I.loc, I.cell, I.free, I.freeC, fun q hq => by
    rcases List.mem_append.mp hq with h | h
    · exact I.pin q (List.mem_append_left _ h)
    · rcases List.mem_cons.mp h with rfl | h
      · exact ⟨he, hn, hL, hF, hc⟩
      · exact I.pin q (List.mem_append_right _ h), I.hok, I.len⟩
theorem inv_unpin {X : Cx} {pins : List (Addr × Obj)} {σ : L2.St} {H : Hp} {s : Shared} {p : Addr × Obj} (I : L2.Inv X (p :: pins) σ H s) : L2.Inv X pins σ H s :=
  ⟨I.ok, I.os, I.bare, I.base, I.loc, I.cell, I.free, I.freeC, fun q hq => I.pin q (by
    rcases List.mem_append.mp hq with h | h
    · exact List.mem_append_left _ h
    · exact List.mem_append_right _ (List.mem_cons_of_mem _ h)), I.hok, I.len⟩
theorem setR_pos {w : World} {h : Heap} {a : Addr} {S : Int → Bool} {n : Nat} {k : Int} (R : SetR w h a S n) (hk : S k = true) : 1 ≤ n := by
  obtain ⟨o, es, ep, t, ho, hex, hd, g, nd, hm, hb, hf, hn, hr, hl⟩ := R
  have z := (hm k).1 hk
  rcases Nat.eq_zero_or_pos n with e | e
  · rw [e] at hn
    have : es = #[] := Array.size_eq_zero_iff.mp hn
    rw [this] at z
    cases z
  · exact e
def tXor (K : PySem.W.Frag) (ta tl : TE) : TE := fun σ H Q => ta σ H fun x H1 => ∃ (l : Addr) (ns : List Int), x = V.ref l ∧ SqT K H1 l (ns.map V.int) ∧ ns.length ≤ 1000 ∧ tl σ H1 fun y H2 => ∃ (l2 : Addr) (b : Int), y = V.ref l2 ∧ SqL K H2 l2 [V.int b] ∧
  ∀ (ms : List Int) (p : Addr), ms.Pairwise (· < ·) → (∀ k, k ∈ ms ↔ (decide (k = b) ^^ decide (k ∈ ns)) = true) → ms.length ≤ 1001 → H2 p = none → Q (.ref p) (upd H2 p (.lst (ms.map V.int)))
theorem pe_sortXor {X : CxD} {a e2 : Expr} {ta tl : TE} {p p2 p3 q q2 q3 pos : Pos} (hc : X.calm = true) (hu : X.A.units + 64 < cLine) (hg : Gl X "sorted") (hm : X.mg "sorted" = none) (hg2 : Gl X "set") (hm2 : X.mg "set" = none) (ha : PE X a ta) (hl : PE X e2 tl)
    (na : starEach [a] X.env = (false, eval a X.env) :: starEach [] X.env := by rfl) (nb : starEach [e2] X.env = (false, eval e2 X.env) :: starEach [] X.env := by rfl) :
    PE X (.Call (.Name "sorted" p) [.BinOp (.Call (.Name "set" p2) [a] [] q) .BitXor (.Call (.Name "set" p3) [e2] [] q2) q3] [] pos) (tXor X.K ta tl) := by
  refine ⟨fun pins s σ H Q I h => ?_⟩
  refine Call_ (ld_blt I hg hm boot_sorted ?_)
  refine callWith_builtin1 (args_cons ?_ rfl) rfl rfl
  refine wpAny_BinOp ?_
  refine Call_ (ld_blt I hg2 hm2 boot_set ?_)
  refine callWith_type1 (args_cons (thn (ha.run pins s σ H _ I h) fun v s1 ⟨x, H1, I1, r1, q1⟩ => args_nil ?_) na) na rfl
  obtain ⟨l, ns, rfl, hq, hlen, q1⟩ := q1
  cases r1
  obtain ⟨its, r, pt, hz⟩ := I1.tuple hq
  refine call_set_tupI (P := X.prog) (w := X.w) ns (I1.ok.hd hc) pt (by simpa using r.ints) (by unfold scanBound; omega) fun h' tk c R cl k => ?_
  have I2 : L2.Inv X.toCx pins σ H1 { s1 with heap := h', toks := tk } := I1.kept fun b o e => k b o e
  obtain ⟨o, es, ep, t, ho, hex, hd, hrest⟩ := id R
  have J := inv_pin I2 (p := s1.heap.objs.size) (o := o) ho (I1.hok.fresh (Nat.le_refl _)) (Nat.ne_of_gt I1.lt) (I1.nofs (Nat.le_refl _)) (fun v z => by rw [hd] at z; cases z)
  refine Call_ (ld_blt J hg2 hm2 boot_set ?_)
  refine callWith_type1 (args_cons (thn (hl.run _ _ σ H1 _ J q1) fun v2 s3 ⟨x2, H3, J3, r3, q3⟩ => args_nil ?_) nb) nb rfl
  obtain ⟨l2, b, rfl, hq2, q3⟩ := q3
  cases r3
  obtain ⟨its2, rr2, pl, hz2⟩ := J3.list hq2
  have ho3 := (J3.pin (s1.heap.objs.size, o) (List.mem_append_right _ List.mem_cons_self)).1
  have R3 : SetR X.w s3.heap s1.heap.objs.size (fun j => decide (j ∈ ns)) c := R.at fun u e => by
    have e : h'.get? s1.heap.objs.size = some u := e
    rw [ho] at e
    cases e
    exact ho3
  have I3 := inv_unpin J3
  refine call_set_nums (P := X.prog) (w := X.w) [b] (J3.ok.hd hc) pl.isList (by simpa using (show Vals ([b].map V.int) its2 from rr2).ints) (by unfold scanBound; simp) fun h4 tk4 c4 R4 cl4 k4 => ?_
  have e4 : c4 = 1 := Nat.le_antisymm cl4 (setR_pos R4 (k := b) (by simp))
  subst e4
  have R3b : SetR X.w h4 s1.heap.objs.size (fun j => decide (j ∈ ns)) c := R3.at fun u e => k4 _ u e
  refine op_xor_one (s := { s3 with heap := h4, toks := tk4 }) R3b R4 (by unfold scanBound; omega) fun h5 m k5 lm r5 => ?_
  refine args_nil ?_
  have I5 : L2.Inv X.toCx pins σ H3 { s3 with heap := h5, toks := tk4 } := I3.kept fun b o e => k5 b o (k4 b o e)
  generalize hs : ({ s3 with heap := h5, toks := tk4 } : Shared) = s5 at I5 ⊢
  have hh : s5.heap = h5 := by rw [← hs]
  have hsz : ({ s3 with heap := h4, toks := tk4 } : Shared).heap.objs.size ≤ s5.heap.objs.size := by
    rw [hh]
    exact Nat.le_of_lt (SetR.lt r5)
  rw [← hh] at r5
  refine sorted_any r5 (I5.ok.hd hc) (by omega) fun s' p' out c' ms k6 g6 o6 hp hgp hi hasc hmem hml => ?_
  have hlen5 : (ms.map V.int).length ≤ sizeLine := by
    rw [List.length_map, hml, sizeLine_eq]
    omega
  have hn : H3 p' = none := I5.hok.fresh hp
  have J6 : L2.Inv X.toCx pins σ (upd H3 p' (.lst (ms.map V.int))) { s5 with heap := s'.heap, gens := s'.gens, drawn := s'.drawn, toks := s'.toks } :=
    I5.call (ch := []) (Un.laid k6 hp hn) (I5.hok.laid k6 hp ⟨hlen5, out.toList, c', vals_of_ints hi, hgp⟩) (by rw [g6]; exact I5.bare) (fun _ z => nomatch z)
  have e : s' = { s5 with heap := s'.heap, gens := s'.gens, drawn := s'.drawn, toks := s'.toks } := by
    cases s'
    cases s5
    cases o6
    rfl
  rw [e]
  refine ⟨.ref p', _, J6, rfl, q3 ms p' hasc (fun j => ?_) (by rw [hml]; omega) hn⟩
  rw [hmem j]
  simp only [List.mem_singleton]
def nsOf : List D → Option (List Int)
  | [] => some []
  | .int n :: r => (nsOf r).map (n :: ·)
  | _ => none
/-- one number turned -/
def turnI (b : Int) (ns : List Int) : List Int := if b ∈ ns then ns.filter fun k => !decide (k = b) else ns ++ [b]
theorem turnI_mem {b k : Int} {ns : List Int} : k ∈ turnI b ns ↔ (decide (k = b) ^^ decide (k ∈ ns)) = true := by
  unfold turnI
  by_cases h : b ∈ ns
  · rw [if_pos h, List.mem_filter]
    by_cases e : k = b
    · subst e
      simp [h]
    · simp [e]
  · rw [if_neg h, List.mem_append, List.mem_singleton]
    by_cases e : k = b
    · subst e
      simp [h]
    · simp [e]
theorem turnI_nd {b : Int} {ns : List Int} (h : ns.Nodup) : (turnI b ns).Nodup := by
  unfold turnI
  split
  · exact h.filter _
  · rename_i q
    exact List.nodup_append.mpr ⟨h, by simp, fun x hx y hy e => q (by rw [List.mem_singleton.mp hy] at e; exact e ▸ hx)⟩
def dSortXor : D → D → Option D
  | .tuple xs, .int b => (nsOf xs).bind fun ns => if ns.length ≤ 1000 ∧ ns.Nodup then some (.list ((FL.sortI (turnI b ns)).map .int)) else none
  | _, _ => none
theorem nums_of {H : Hp} {O : OS} : ∀ {xs : List D} {us : List V} {ns : List Int}, RpL H O xs us → nsOf xs = some ns → us = ns.map V.int
  | [], us, ns, r, e => by
    have r : us = [] := r
    cases (show some ([] : List Int) = some ns from e)
    exact r
  | .int n :: xs, _, ns, ⟨v, us, ev, h, r⟩, e => by
    obtain ⟨ns', e', rfl⟩ := Option.map_eq_some_iff.mp (show (nsOf xs).map (n :: ·) = some ns from e)
    have h : v = .int n := h
    subst ev h
    rw [List.map_cons, nums_of r e']
theorem rpL_nums {H : Hp} {O : OS} : ∀ ns : List Int, RpL H O (ns.map .int) (ns.map V.int)
  | [] => (rfl : ([] : List V) = [])
  | n :: ns => ⟨.int n, _, rfl, rfl, rpL_nums ns⟩
def eXor (i j : Nat) : WE := fun ε Q => ∃ d d2 r, ε[i]? = some (some d) ∧ ε[j]? = some (some d2) ∧ dSortXor d d2 = some r ∧ Q r ε
theorem eXor_mono {i j : Nat} : Mono (eXor i j) := fun ε Q Q' h ⟨d, d2, r, a, b, c, q⟩ => ⟨d, d2, r, a, b, c, h _ _ q⟩
theorem asc_one {xs ys : List Int} (h1 : xs.Pairwise (· < ·)) (h2 : ys.Pairwise (· < ·)) (h : ∀ k, k ∈ xs ↔ k ∈ ys) : xs = ys := FL.asc_ext h1 h2 fun {k} => h k
theorem df_sortXor {X : CxD} {κ : List Kd} {x y : Str} {p p2 p3 p4 p5 p6 q q2 q3 pos : Pos} (i j : Nat) (hc : X.calm = true) (hg : Gl X "sorted") (hm : X.mg "sorted" = none) (hg2 : Gl X "set") (hm2 : X.mg "set" = none)
    (hu : X.A.units + 65 < cLine) (hN : X.N[i]? = some x := by rfl) (hv : Vis X.env.scope x := by first | exact Or.inl rfl | exact Or.inr (Or.inl rfl) | exact Or.inr (Or.inr rfl)) (hd : (x == ("__debug__" : Str)) = false := by decide) (hcd : (x == ("__classdict__" : Str)) = false := by decide)
    (hN2 : X.N[j]? = some y := by rfl) (hv2 : Vis X.env.scope y := by first | exact Or.inl rfl | exact Or.inr (Or.inl rfl) | exact Or.inr (Or.inr rfl)) (hd2 : (y == ("__debug__" : Str)) = false := by decide) (hcd2 : (y == ("__classdict__" : Str)) = false := by decide) :
    DF X κ (.Call (.Name "sorted" p) [.BinOp (.Call (.Name "set" p2) [.Name x p4] [] q) .BitXor (.Call (.Name "set" p3) [.List [.Name y p5] p6] [] q2) q3] [] pos) (eXor i j) :=
  ⟨fun g hg' => (pe_sortXor hc (Nat.lt_of_le_of_lt (by omega) hu) hg hm hg2 hm2 (pe_var (i := i) hN hv hd hcd) (pe_lst (pa_cons (pe_var (i := j) hN2 hv2 hd2 hcd2) pa_nil))).imp fun σ H Q ⟨O, ε, A, d, d2, r, ei, ej, er, q⟩ => (by
    obtain ⟨v1, s1, n1⟩ := A.get ei
    obtain ⟨v2, s2, n2⟩ := A.get ej
    match d, d2, ei, ej, er, n1, n2 with
    | .tuple xs, .int b, ei, ej, er, n1, n2 =>
      obtain ⟨l, us, ev1, hl, rl⟩ := n1
      obtain rfl := nb_int n2
      obtain ⟨ns, e1, er⟩ := Option.bind_eq_some_iff.mp (show (nsOf xs).bind (fun ns => if ns.length ≤ 1000 ∧ ns.Nodup then some (PyData.list ((FL.sortI (turnI b ns)).map .int)) else none) = some r from er)
      split at er
      · rename_i hns
        cases er
        have eu := nums_of rl e1
        subst eu
        refine ⟨v1, s1, l, ns, ev1, sqt hl, hns.1, .int b, s2, (show 1 ≤ sizeLine by decide), fun p0 np0 => ⟨p0, b, rfl, SqL.of upd_same, fun ms p' hasc hmem _ np' => ?_⟩⟩
        have em : ms = FL.sortI (turnI b ns) := asc_one hasc (FL.sortI_asc (turnI_nd hns.2)) fun k => by rw [FL.sortI_mem, turnI_mem, hmem k]
        subst em
        have A1 := A.same (same_upd (o := .lst [V.int b]) np0)
        have x1 : Ext g.κ σ O H O (upd H p0 (.lst [V.int b])) := .same (same_upd np0)
        exact q p' _ (OS.add O p') (A1.add np') (x1.trans (.add np')) (A1.addSl np') (Classical.byContradiction fun z => x1.some p' z np') (lst_own np' (fun a z => (OS.add_or z).elim (fun e => .inr e) .inl) (.inl rfl) (rpL_nums _))
      · cases er), eXor_mono⟩
end DL
namespace FL
open PySem PySem.Spec L2 DL
def pXor (i j : Nat) : FP := fun ε => ((ε[i]?).join).bind fun d => ((ε[j]?).join).bind fun d2 => dSortXor d d2
theorem ip_xor {i j : Nat} : IP (eXor i j) (pXor i j) := fun ε d Q e q => by
  obtain ⟨x, e1, e⟩ := Option.bind_eq_some_iff.mp e
  obtain ⟨y, e2, e⟩ := Option.bind_eq_some_iff.mp e
  exact ⟨x, y, d, join_some e1, join_some e2, e, q⟩
theorem nsOf_map : ∀ ns : List Int, nsOf (ns.map PyData.int) = some ns
  | [] => rfl
  | n :: ns => by
    show (nsOf (ns.map PyData.int)).map (n :: ·) = _
    rw [nsOf_map ns]
    rfl
theorem sortXor_ok {ns : List Int} {b : Int} (h : ns.length ≤ 1000) (nd : ns.Nodup) : dSortXor (tL .int ns) (.int b) = some (lL .int (sortI (turnI b ns))) := by
  show (nsOf (ns.map PyData.int)).bind (fun ns => if ns.length ≤ 1000 ∧ ns.Nodup then some (PyData.list ((FL.sortI (turnI b ns)).map .int)) else none) = _
  rw [nsOf_map, Option.bind_some, if_pos ⟨h, nd⟩]
  rfl
end FL
namespace L2
open PySem PySem.Spec PyProof.Rows
section
variable {P : Program} {w : World}
def knotKind (P : Program) (w : World) : HeapKind P w (Int × Int) where
  is := fun h p a => (nestedKind P w).is h (kp p) a
  hash := fun p => (nestedKind P w).hash (kp p)
  draws := fun p => (nestedKind P w).draws (kp p)
  room := (nestedKind P w).room
  inj := fun hx hy => kp_inj ((nestedKind P w).inj hx hy)
  keeps := fun hx ho hd hs => (nestedKind P w).keeps hx ho hd hs
  pyHash := fun hu hk h => (nestedKind P w).pyHash hu hk h
  eqBool := fun {A E s x y a b Q} hu hx hy h => (nestedKind P w).eqBool hu hx hy (by
    have e : decide (kp x = kp y) = decide (x = y) := by
      by_cases z : x = y
      · rw [z, decide_eq_true rfl, decide_eq_true rfl]
      · rw [decide_eq_false z, decide_eq_false fun k => z (kp_inj k)]
    rw [e]
    exact h)
  quiet := fun hk h => (nestedKind P w).quiet hk h
theorem knot_tup : TupK (knotKind P w) := fun {h k b} hk => by
  have hk : NestedIs h (kp k) (.ref b) := hk.1
  unfold kp at hk
  cases hk with
  | tup h1 h2 h3 h4 => exact ⟨_, h1, h2⟩
theorem knot_set : KSet (knotKind P w) where
  st := ⟨fun hk x => (nestedKind_stays (prog := P) (w := w)).stays hk x, fun x => (nestedKind_stays (prog := P) (w := w)).tuple x⟩
  ofc := fun {A E s k b Q} hk h => by
    have hk : NestedIs s.heap (kp k) (.ref b) := hk.1
    unfold kp at hk
    cases hk with
    | tup h1 h2 h3 h4 =>
      refine ofc_tup h1 h2 h3 (fun v hv A E Q hq => ?_) h
      obtain ⟨k3, hk3, x3⟩ := all_mem h4 v hv
      simp only [List.mem_cons, List.not_mem_nil, or_false] at hk3
      rcases hk3 with rfl | rfl
      · rcases num_at x3 with ⟨t, rfl⟩ | ⟨b, rfl⟩ <;> exact wpAny_pure hq
      · rcases num_at x3 with ⟨t, rfl⟩ | ⟨b, rfl⟩ <;> exact wpAny_pure hq
  byv := fun {A E s k b Q} hk h => by
    have hk : NestedIs s.heap (kp k) (.ref b) := hk.1
    unfold kp at hk
    cases hk with
    | tup h1 h2 h3 h4 =>
      refine hby_tup h1 h2 h3 (fun v hv A E Q hq => ?_) h
      obtain ⟨k3, hk3, x3⟩ := all_mem h4 v hv
      simp only [List.mem_cons, List.not_mem_nil, or_false] at hk3
      rcases hk3 with rfl | rfl
      · rcases num_at x3 with ⟨t, rfl⟩ | ⟨b, rfl⟩ <;> exact wpAny_pure hq
      · rcases num_at x3 with ⟨t, rfl⟩ | ⟨b, rfl⟩ <;> exact wpAny_pure hq
end
end L2
namespace DL
open PySem PySem.Spec L2 PyProof.Rows
abbrev Knots := List (Addr × (Int × Int))
def PairV (K : PySem.W.Frag) (H : Hp) (p : Addr × (Int × Int)) : Prop := SqT K H p.1 ([p.2.1, p.2.2].map V.int)
theorem knot_isK {X : Cx} {pins : List (Addr × Obj)} {σ : L2.St} {H : Hp} {s : Shared} (I : L2.Inv X pins σ H s) {p : Addr × (Int × Int)} (h : PairV X.K H p) : (knotKind X.prog X.w).is s.heap p.2 p.1 ∧ Reads s.heap (.ref p.1) (kD p.2) [] := by
  obtain ⟨n, r⟩ := knot_is I h
  refine ⟨⟨n, ?_⟩, r⟩
  unfold kp
  simp only [NestedKey.depth, NestedKey.depthAll]
  omega
theorem knot_le {p q : Int × Int} (hp : inB p = true) (hq : inB q = true) : (!PySem.W.dataLt (kD q) (kD p)) = decide (p.1 * 64 + p.2 ≤ q.1 * 64 + q.2) := by
  unfold inB at hp hq
  rw [Bool.and_eq_true, decide_eq_true_eq, decide_eq_true_eq] at hp hq
  rw [PySem.W.dataLt_ii, ← decide_not, decide_eq_decide]
  omega
theorem kval_refs : ∀ {ks : Knots} {us : List Value}, Vals (ks.map fun p => V.ref p.1) us → us = ks.map fun p => Value.ref p.1
  | [], _, r => by cases r; rfl
  | k :: ks, _, .cons r rs => by
    cases r
    rw [kval_refs rs]
    rfl
theorem kval_vals : ∀ {L : Knots}, Vals (L.map fun p => V.ref p.1) (L.map fun p => Value.ref p.1)
  | [] => .nil
  | _ :: _ => .cons rfl kval_vals
def tSortSetM (K : PySem.W.Frag) (ta : TE) : TE := fun σ H Q => ta σ H fun x H1 => ∃ (l : Addr) (ks : Knots) (U : List (Int × Int)), x = V.ref l ∧ SqL K H1 l (ks.map fun p => V.ref p.1) ∧ (∀ p ∈ ks, PairV K H1 p) ∧ U.length < 63 ∧ (∀ p ∈ ks, p.2 ∈ U ∧ inB p.2 = true) ∧
  ∀ (L : Knots) (p : Addr), (∀ q ∈ L, q ∈ ks) → (∀ q ∈ ks, q.2 ∈ L.map (·.2)) → (L.map (·.2)).Pairwise FL.ltP → H1 p = none → Q (.ref p) (upd H1 p (.lst (L.map fun q => V.ref q.1)))
theorem pe_sortSetM {X : CxD} {a : Expr} {ta : TE} {p p2 q pos : Pos} (hc : X.calm = true) (hu : X.A.units + 64 < cLine) (hg : Gl X "sorted") (hm : X.mg "sorted" = none) (hg2 : Gl X "set") (hm2 : X.mg "set" = none) (ha : PE X a ta)
    (na : starEach [a] X.env = (false, eval a X.env) :: starEach [] X.env := by rfl) : PE X (.Call (.Name "sorted" p) [.Call (.Name "set" p2) [a] [] q] [] pos) (tSortSetM X.K ta) := by
  refine ⟨fun pins s σ H Q I h => ?_⟩
  refine Call_ (ld_blt I hg hm boot_sorted ?_)
  refine callWith_builtin1 (args_cons ?_ rfl) rfl rfl
  refine Call_ (ld_blt I hg2 hm2 boot_set ?_)
  refine callWith_type1 (args_cons (thn (ha.run pins s σ H _ I h) fun v s1 ⟨x, H1, I1, r1, q1⟩ => args_nil ?_) na) na rfl
  obtain ⟨l, ks, U, rfl, hq, hk, hU, hin, q1⟩ := q1
  cases r1
  obtain ⟨its, r, pl, hz⟩ := I1.list hq
  refine call_setUL (P := X.prog) (w := X.w) knot_set ks (I1.ok.hd hc) pl.isList (by simpa using kval_refs r) (fun p hp => (knot_isK I1 (hk p hp)).1) U hU (fun p hp => (hin p hp).1) (fun A' hA => show A'.units + 8 < cLine by omega) fun h' tk L es ep t R g k => ?_
  refine args_nil ?_
  have I2 : L2.Inv X.toCx pins σ H1 { s1 with heap := h', toks := tk } := I1.kept fun b o e => k b o e
  have sub : ∀ p ∈ L, p ∈ ks := fun p hp => List.mem_of_mem_take (g.sub p hp)
  generalize hs : ({ s1 with heap := h', toks := tk } : Shared) = s2 at I2 ⊢
  have hh : s2.heap = h' := by rw [← hs]
  rw [← hh] at R
  refine sortedN knot_set kD R (I2.ok.hd hc) (fun p hp => (knot_isK I2 (hk p (sub p hp))).2) (fun a b => by simp [PySem.W.alike, PySem.W.alikeAll]) (fun p hp => ⟨_, _, rfl⟩) (fun k => by simp [PyData.depth, PyData.depthAll]) (by omega) fun s' p out c L' k2 g2 o hp hg' hout pm srt => ?_
  have fl : L'.length < 64 := by rw [pm.length_eq]; exact R.few
  have hlen : (L'.map fun q => V.ref q.1).length ≤ sizeLine := by rw [List.length_map, sizeLine_eq]; omega
  have hn : H1 p = none := I2.hok.fresh hp
  have hv : Vals (L'.map fun q => V.ref q.1) out.toList := by rw [hout]; exact kval_vals
  have J : L2.Inv X.toCx pins σ (upd H1 p (.lst (L'.map fun q => V.ref q.1))) { s2 with heap := s'.heap, gens := s'.gens, drawn := s'.drawn, toks := s'.toks } :=
    I2.call (ch := []) (Un.laid k2 hp hn) (I2.hok.laid k2 hp ⟨hlen, out.toList, c, hv, hg'⟩) (by rw [g2]; exact I2.bare) (fun _ z => nomatch z)
  have e : s' = { s2 with heap := s'.heap, gens := s'.gens, drawn := s'.drawn, toks := s'.toks } := by
    cases s'
    cases s2
    cases o
    rfl
  rw [e]
  refine ⟨.ref p, _, J, rfl, q1 L' p (fun q hq => sub q (pm.mem_iff.mp hq)) (fun q hq => ?_) ?_ hn⟩
  · obtain ⟨z, hz, ez⟩ := List.mem_map.mp (g.all q (by rw [List.take_length]; exact hq))
    exact List.mem_map.mpr ⟨z, pm.mem_iff.mpr hz, ez⟩
  · have nd : (L'.map (·.2)).Nodup := (pm.map (·.2)).nodup_iff.mpr R.nd
    have bd : ∀ z ∈ L'.map (·.2), inB z = true := fun z hz => by
      obtain ⟨q, hq, rfl⟩ := List.mem_map.mp hz
      exact (hin q (sub q (pm.mem_iff.mp hq))).2
    obtain ⟨L1, e1⟩ := srt
    have p1 : L1.Perm L' := by rw [e1]; exact (List.mergeSort_perm _ _).symm
    have e2 : L'.map (·.2) = (L1.map (·.2)).mergeSort fun p q : Int × Int => decide (p.1 * 64 + p.2 ≤ q.1 * 64 + q.2) := by
      rw [e1]
      refine List.map_mergeSort (r := PySem.W.dataLe false fun q : Addr × (Int × Int) => kD q.2) (s := fun p q : Int × Int => decide (p.1 * 64 + p.2 ≤ q.1 * 64 + q.2)) (f := fun q : Addr × (Int × Int) => q.2) (l := L1) fun a ha b hb => ?_
      exact knot_le (bd a.2 (List.mem_map.mpr ⟨a, p1.mem_iff.mp ha, rfl⟩)) (bd b.2 (List.mem_map.mpr ⟨b, p1.mem_iff.mp hb, rfl⟩))
    have so : (L'.map (·.2)).Pairwise fun p q : Int × Int => p.1 * 64 + p.2 ≤ q.1 * 64 + q.2 := by
      rw [e2]
      refine (List.pairwise_mergeSort (le := fun p q : Int × Int => decide (p.1 * 64 + p.2 ≤ q.1 * 64 + q.2)) (fun a b c h1 h2 => ?_) (fun a b => ?_) _).imp fun {a b} h => of_decide_eq_true h
      · simp only [decide_eq_true_eq] at h1 h2 ⊢
        omega
      · simp only [Bool.or_eq_true, decide_eq_true_eq]
        omega
    refine List.Pairwise.imp_of_mem (fun {a b} ha hb ⟨h1, h2⟩ => ?_) (so.and nd)
    have ba := bd a ha
    have bb := bd b hb
    unfold inB at ba bb
    rw [Bool.and_eq_true, decide_eq_true_eq, decide_eq_true_eq] at ba bb
    have ne : ¬ (a.1 = b.1 ∧ a.2 = b.2) := fun z => h2 (Prod.ext z.1 z.2)
    unfold FL.ltP
    omega
theorem knots_of {H : Hp} {O : OS} : ∀ {xs : List D} {us : List V} {ps : List (Int × Int)}, RpL H O xs us → prsOf xs = some ps → ∃ ks : Knots, us = ks.map (fun p => V.ref p.1) ∧ ks.map (·.2) = ps ∧ ∀ p ∈ ks, Rp H O (kD p.2) (.ref p.1)
  | [], us, ps, r, e => by
    have r : us = [] := r
    cases (show some ([] : List (Int × Int)) = some ps from e)
    subst r
    exact ⟨[], rfl, rfl, fun p h => nomatch h⟩
  | .tuple [.int a, .int b] :: xs, _, ps, ⟨v, us, ev, ⟨t, vs, et, nO, ht, q⟩, r⟩, e => by
    obtain ⟨ps', e', rfl⟩ := Option.map_eq_some_iff.mp (show (prsOf xs).map ((a, b) :: ·) = some ps from e)
    obtain ⟨ks, h1, h2, h3⟩ := knots_of r e'
    subst et ev h1
    exact ⟨(t, (a, b)) :: ks, rfl, by rw [List.map_cons, h2], fun p hp => (List.mem_cons.mp hp).elim (fun e => by rw [e]; exact ⟨t, vs, rfl, nO, ht, q⟩) (h3 p)⟩
theorem rp_pairV {K : PySem.W.Frag} {H : Hp} {O : OS} {p : Addr × (Int × Int)} (h : Rp H O (kD p.2) (.ref p.1)) : PairV K H p := by
  obtain ⟨t, vs, et, _, ht, v1, r1, e1, q1, v2, r2, e2, q2, e3⟩ := h
  have q1 : v1 = .int p.2.1 := q1
  have q2 : v2 = .int p.2.2 := q2
  have e3 : r2 = [] := e3
  cases et
  subst e1 e2 q1 q2 e3
  exact sqt ht
def dSortSetM : D → Option D
  | .list xs => (prsOf xs).bind fun ps => if (dedP ps).length < 63 ∧ ps.all inB = true then some (.list ((onceP ps).map FL.pk)) else none
  | _ => none
theorem df_sortSetM {X : CxD} {κ : List Kd} {a : Expr} {oa : Op} {p p2 q pos : Pos} (hc : X.calm = true) (hu : X.A.units + 65 < cLine) (hg : Gl X "sorted") (hm : X.mg "sorted" = none) (hg2 : Gl X "set") (hm2 : X.mg "set" = none) (ha : DO X κ a oa) (st : notStar a = true := by rfl) :
    DF X κ (.Call (.Name "sorted" p) [.Call (.Name "set" p2) [a] [] q] [] pos) (eUn dSortSetM oa) :=
  ⟨fun g hg' => (pe_sortSetM hc (Nat.lt_of_le_of_lt (by omega) hu) hg hm hg2 hm2 (ha.pe g hg') (st_cons st)).imp fun σ H Q ⟨O, ε, A, q⟩ => ⟨O, ε, A, oEv_mono ha.mono (fun x ε1 ⟨d, r, e1, e2, q⟩ v H1 O1 A1 x1 r1 => by
    have nb := r1.nb A1 e1
    match d, nb, e2 with
    | .list xs, ⟨b, us, ex, hb, rl⟩, e2 =>
      obtain ⟨ps, e3, e2⟩ := Option.bind_eq_some_iff.mp (show (prsOf xs).bind (fun ps => if (dedP ps).length < 63 ∧ ps.all inB = true then some (PyData.list ((onceP ps).map FL.pk)) else none) = some r from e2)
      split at e2
      · rename_i h
        cases e2
        obtain ⟨ks, h1, h2, h3⟩ := knots_of rl e3
        have inps : ∀ p ∈ ks, p.2 ∈ ps := fun p hp => by rw [← h2]; exact List.mem_map.mpr ⟨p, hp, rfl⟩
        subst h1
        refine ⟨b, ks, dedP ps, ex, SqL.of hb, fun p hp => rp_pairV (h3 p hp), h.1, fun p hp => ⟨(dedP_mem ps [] p.2).mpr (.inr (inps p hp)), List.all_eq_true.mp h.2 _ (inps p hp)⟩, fun L p' sub all pw np => ?_⟩
        have em : L.map (·.2) = onceP ps := by
          refine FL.ascP_ext pw (FL.sortP_asc (dedP_nd ps [] List.nodup_nil)) fun x => ?_
          unfold onceP
          rw [FL.sortP_mem]
          unfold dedP
          rw [dedP_mem]
          simp only [List.not_mem_nil, false_or]
          constructor
          · intro hx
            obtain ⟨y, hy, rfl⟩ := List.mem_map.mp hx
            exact inps y (sub y hy)
          · intro hx
            rw [← h2] at hx
            obtain ⟨y, hy, rfl⟩ := List.mem_map.mp hx
            exact all y hy
        have rr : RpL H1 O1 ((onceP ps).map FL.pk) (L.map fun q => V.ref q.1) := by
          rw [← em, List.map_map]
          exact rpL_refs (f := FL.pk ∘ fun q : Addr × (Int × Int) => q.2) (g := fun q : Addr × (Int × Int) => q.1) fun x hx => h3 x (sub x hx)
        exact q p' _ (OS.add O1 p') (A1.add np) (x1.trans (.add np)) (A1.addSl np) (Classical.byContradiction fun z => x1.some p' z np) (lst_own np (fun a z => (OS.add_or z).elim (fun e => .inr e) .inl) (.inl rfl) rr)
      · cases e2) q⟩, eUn_mono ha.mono⟩
def tXorNe (K : PySem.W.Frag) (ta tb tc : TE) : TT := fun σ H Q => ta σ H fun x H1 => ∃ (l1 : Addr) (k1 : Knots), x = V.ref l1 ∧ SqT K H1 l1 (k1.map fun p => V.ref p.1) ∧ (∀ p ∈ k1, PairV K H1 p) ∧ (∃ U : List (Int × Int), U.length < 63 ∧ ∀ p ∈ k1, p.2 ∈ U) ∧ tb σ H1 fun y H2 => ∃ (l2 : Addr) (k2 : Knots) (U : List (Int × Int)), y = V.ref l2 ∧ SqT K H2 l2 (k2.map fun p => V.ref p.1) ∧ (∀ p ∈ k1, PairV K H2 p) ∧ (∀ p ∈ k2, PairV K H2 p) ∧ U.length < 63 ∧ (∀ p ∈ k1, p.2 ∈ U) ∧ (∀ p ∈ k2, p.2 ∈ U) ∧
  tc σ H2 fun z H3 => ∃ (l3 : Addr) (k3 : Knots), z = V.ref l3 ∧ SqT K H3 l3 (k3.map fun p => V.ref p.1) ∧ (∀ p ∈ k1, PairV K H3 p) ∧ (∀ p ∈ k2, PairV K H3 p) ∧ (∀ p ∈ k3, PairV K H3 p) ∧ (∃ U : List (Int × Int), U.length < 63 ∧ ∀ p ∈ k3, p.2 ∈ U) ∧
  ∀ r : Bool, (r = true ↔ ¬ ∀ j, (j ∈ k2.map (·.2) ↔ j ∉ k1.map (·.2)) ↔ j ∈ k3.map (·.2)) → Q r H3
theorem got_keys {K : Type} [DecidableEq K] {ks L : List (Addr × K)} (g : GotN ks ks.length L) (j : K) : j ∈ L.map (·.2) ↔ j ∈ ks.map (·.2) := by
  constructor
  · intro h
    obtain ⟨p, hp, rfl⟩ := List.mem_map.mp h
    exact List.mem_map.mpr ⟨p, List.mem_of_mem_take (g.sub p hp), rfl⟩
  · intro h
    obtain ⟨p, hp, rfl⟩ := List.mem_map.mp h
    exact g.all p (by rw [List.take_length]; exact hp)
/-- a set stands as it stood -/
theorem setN_at {P : Program} {w : World} {h h' : Heap} {a : Addr} {L : List (Addr × (Int × Int))} {es : Array (Int × Value)} {ep : Nat} {t : SetTable} {o : Obj} (R : SetN (knotKind P w) h a L es ep t) (ho : h.get? a = some o) (ho' : h'.get? a = some o) (hk : ∀ p ∈ L, (knotKind P w).is h' p.2 p.1) : SetN (knotKind P w) h' a L es ep t := by
  obtain ⟨o1, e1, x1, d1⟩ := R.ob
  rw [ho] at e1
  cases e1
  exact ⟨⟨o, ho', x1, d1⟩, R.rows, R.tab, R.nd, hk, R.plain, R.led, R.room, R.few⟩
theorem setD_at {P : Program} {w : World} {h h' : Heap} {a : Addr} {L : List (Addr × (Int × Int))} {es : Array (Int × Value)} {ep : Nat} {t : SetTable} {o : Obj} (R : SetD (knotKind P w) h a L es ep t) (ho : h.get? a = some o) (ho' : h'.get? a = some o) (hk : ∀ p ∈ L, (knotKind P w).is h' p.2 p.1) : SetD (knotKind P w) h' a L es ep t := by
  obtain ⟨o1, e1, x1, d1⟩ := R.obj
  rw [ho] at e1
  cases e1
  exact ⟨⟨o, ho', x1, d1⟩, R.rws, R.tb, R.ndp, hk, R.pln, R.lds, R.spc⟩
theorem pt_xorNe {X : CxD} {a b c : Expr} {ta tb tc : TE} {p1 p2 p3 q1 q2 q3 q4 pos : Pos} (hc : X.calm = true) (hu : X.A.units + 64 < cLine) (hg : Gl X "set") (hm : X.mg "set" = none) (ha : PE X a ta) (hb : PE X b tb) (hc' : PE X c tc)
    (na : starEach [a] X.env = (false, eval a X.env) :: starEach [] X.env := by rfl) (nb : starEach [b] X.env = (false, eval b X.env) :: starEach [] X.env := by rfl) (nc : starEach [c] X.env = (false, eval c X.env) :: starEach [] X.env := by rfl)
    (hmk : behindInMarks .NotEq (.Call (.Name "set" p3) [c] [] q4) = false := by rfl) :
    PT X (.Compare (.BinOp (.Call (.Name "set" p1) [a] [] q1) .BitXor (.Call (.Name "set" p2) [b] [] q2) q3) [.NotEq] [.Call (.Name "set" p3) [c] [] q4] pos) (tXorNe X.K ta tb tc) := by
  have room : ∀ A' : Around, A'.units ≤ X.A.units + 8 → (knotKind X.prog X.w).room A' := fun A' hA => show A'.units + 8 < cLine by omega
  refine ⟨fun pins s σ H Q I h => ?_⟩
  refine wpAny_isTrue_Compare1 (wpAny_BinOp ?_) hmk
  refine Call_ (ld_blt I hg hm boot_set ?_)
  refine callWith_type1 (args_cons (thn (ha.run pins s σ H _ I h) fun v s1 ⟨x, H1, I1, r1, z1⟩ => args_nil ?_) na) na rfl
  obtain ⟨l1, k1, rfl, hq1, hk1, ⟨U1, hU1, hin1⟩, z1⟩ := z1
  cases r1
  obtain ⟨its1, v1, pt1, _⟩ := I1.tuple hq1
  refine call_setUT (P := X.prog) (w := X.w) knot_set k1 (I1.ok.hd hc) pt1 (by simpa using kval_refs v1) (fun p hp => (knot_isK I1 (hk1 p hp)).1) U1 hU1 hin1 (fun A' hA => room A' (by omega)) fun h1' tk1 L1 es1 ep1 t1 R1 g1 kp1 => ?_
  have I2 : L2.Inv X.toCx pins σ H1 { s1 with heap := h1', toks := tk1 } := I1.kept fun b o e => kp1 b o e
  obtain ⟨o1, ho1, hex1, hd1⟩ := R1.ob
  have J1 := inv_pin I2 (p := s1.heap.objs.size) (o := o1) ho1 (I1.hok.fresh (Nat.le_refl _)) (Nat.ne_of_gt I1.lt) (I1.nofs (Nat.le_refl _)) (fun v z => by rw [hd1] at z; cases z)
  refine Call_ (ld_blt J1 hg hm boot_set ?_)
  refine callWith_type1 (args_cons (thn (hb.run _ _ σ H1 _ J1 z1) fun v2 s3 ⟨x2, H2, J3, r2, z2⟩ => args_nil ?_) nb) nb rfl
  obtain ⟨l2, k2, U, rfl, hq2, hk12, hk2, hU, hinA, hinB, z2⟩ := z2
  cases r2
  obtain ⟨its2, v2, pt2, _⟩ := J3.tuple hq2
  have ho3 := (J3.pin (s1.heap.objs.size, o1) (List.mem_append_right _ List.mem_cons_self)).1
  have I3 := inv_unpin J3
  have sub1 : ∀ p ∈ L1, p ∈ k1 := fun p hp => List.mem_of_mem_take (g1.sub p hp)
  refine call_setUT (P := X.prog) (w := X.w) knot_set k2 (J3.ok.hd hc) pt2 (by simpa using kval_refs v2) (fun p hp => (knot_isK I3 (hk2 p hp)).1) U hU hinB (fun A' hA => room A' (by omega)) fun h4 tk4 Lb es2 ep2 t2 R2 g2 kp2 => ?_
  have I4 : L2.Inv X.toCx pins σ H2 { s3 with heap := h4, toks := tk4 } := I3.kept fun b o e => kp2 b o e
  have R1b : SetN (knotKind X.prog X.w) h4 s1.heap.objs.size L1 es1 ep1 t1 := setN_at R1 ho1 (kp2 _ _ ho3) fun p hp => (knot_isK I4 (hk12 p (sub1 p hp))).1
  have sub2 : ∀ p ∈ Lb, p ∈ k2 := fun p hp => List.mem_of_mem_take (g2.sub p hp)
  refine op_xorD knot_set room (s := { s3 with heap := h4, toks := tk4 }) R1b R2 U (by omega) (fun p hp => hinA p (sub1 p hp)) (fun p hp => hinB p (sub2 p hp)) fun h5 L3 es3 ep3 t3 kp3 R3 m3 f3 => ?_
  have I5 : L2.Inv X.toCx pins σ H2 { s3 with heap := h5, toks := tk4 } := I4.kept fun b o e => kp3 b o e
  obtain ⟨o3, ho5, hex3, hd3⟩ := R3.obj
  have keys3 : ∀ j, j ∈ L3.map (·.2) ↔ (j ∈ k2.map (·.2) ↔ j ∉ k1.map (·.2)) := fun j => by rw [m3 j, got_keys g2 j, got_keys g1 j]
  have J5 := inv_pin I5 (p := h4.objs.size) (o := o3) ho5 (I4.hok.fresh (Nat.le_refl _)) (Nat.ne_of_gt I4.lt) (I4.nofs (Nat.le_refl _)) (fun v z => by rw [hd3] at z; cases z)
  refine Call_ (ld_blt J5 hg hm boot_set ?_)
  refine callWith_type1 (args_cons (thn (hc'.run _ _ σ H2 _ J5 z2) fun v4 s6 ⟨x4, H3, J6, r3, z3⟩ => args_nil ?_) nc) nc rfl
  obtain ⟨l3, k3, rfl, hq3, hk13, hk23, hk3, ⟨U3, hU3, hin3⟩, q⟩ := z3
  cases r3
  obtain ⟨its3, v3, pt3, _⟩ := J6.tuple hq3
  have ho6 := (J6.pin (h4.objs.size, o3) (List.mem_append_right _ List.mem_cons_self)).1
  have I6 := inv_unpin J6
  refine call_setUT (P := X.prog) (w := X.w) knot_set k3 (J6.ok.hd hc) pt3 (by simpa using kval_refs v3) (fun p hp => (knot_isK I6 (hk3 p hp)).1) U3 hU3 hin3 (fun A' hA => room A' (by omega)) fun h7 tk7 L4 es4 ep4 t4 R4 g4 kp4 => ?_
  have I7 : L2.Inv X.toCx pins σ H3 { s6 with heap := h7, toks := tk7 } := I6.kept fun b o e => kp4 b o e
  have R3b : SetD (knotKind X.prog X.w) h7 h4.objs.size L3 es3 ep3 t3 := setD_at R3 ho5 (kp4 _ _ ho6) fun p hp => (knot_isK I7 ((f3 p hp).elim (fun z => hk13 p (sub1 p z)) fun z => hk23 p (sub2 p z))).1
  refine op_neSD knot_set knot_tup room (by omega) (s := { s6 with heap := h7, toks := tk7 }) R3b (setD_of R4) fun r hr => ?_
  exact wpAny_truthy_bool ⟨H3, I7, q r (hr.trans (not_congr (forall_congr' fun j => by rw [keys3 j, got_keys g4 j])))⟩
def xorNeB (ps qs rs : List (Int × Int)) : Bool := !((ps ++ qs ++ rs).all fun j => decide (j ∈ rs) == (decide (j ∈ ps) ^^ decide (j ∈ qs)))
theorem xorNeB_iff {ps qs rs : List (Int × Int)} : xorNeB ps qs rs = true ↔ ¬ ∀ j, (j ∈ qs ↔ j ∉ ps) ↔ j ∈ rs := by
  unfold xorNeB
  rw [Bool.not_eq_true', ← Bool.not_eq_true]
  refine not_congr ?_
  rw [List.all_eq_true]
  constructor
  · intro h j
    by_cases m : j ∈ ps ++ qs ++ rs
    · have := h j m
      rw [beq_iff_eq] at this
      by_cases a : j ∈ ps <;> by_cases b : j ∈ qs <;> by_cases c : j ∈ rs <;> simp_all
    · simp only [List.mem_append, not_or] at m
      simp [m.1.1, m.1.2, m.2]
  · intro h j _
    have := h j
    rw [beq_iff_eq]
    by_cases a : j ∈ ps <;> by_cases b : j ∈ qs <;> by_cases c : j ∈ rs <;> simp_all
def eXorNeW (wa wb wc : WE) : WE := fun ε Q => wa ε fun d1 ε1 => ∃ xs ps, d1 = .tuple xs ∧ prsOf xs = some ps ∧ (dedP ps).length < 63 ∧ wb ε1 fun d2 ε2 => ∃ ys qs, d2 = .tuple ys ∧ prsOf ys = some qs ∧ (dedP (ps ++ qs)).length < 63 ∧
  wc ε2 fun d3 ε3 => ∃ zs rs, d3 = .tuple zs ∧ prsOf zs = some rs ∧ (dedP rs).length < 63 ∧ Q (.bool (xorNeB ps qs rs)) ε3
theorem eXorNeW_mono {wa wb wc : WE} (ma : Mono wa) (mb : Mono wb) (mc : Mono wc) : Mono (eXorNeW wa wb wc) := fun ε Q Q' h q => ma _ _ _ (fun d1 ε1 ⟨xs, ps, a1, a2, a3, q⟩ => ⟨xs, ps, a1, a2, a3, mb _ _ _ (fun d2 ε2 ⟨ys, qs, b1, b2, b3, q⟩ => ⟨ys, qs, b1, b2, b3, mc _ _ _ (fun d3 ε3 ⟨zs, rs, c1, c2, c3, q⟩ => ⟨zs, rs, c1, c2, c3, h _ _ q⟩) q⟩) q⟩) q
theorem knots_arg {K : PySem.W.Frag} {H : Hp} {O : OS} {v : V} {xs : List D} {ps : List (Int × Int)} (r : Rp H O (.tuple xs) v) (e : prsOf xs = some ps) : ∃ (l : Addr) (ks : Knots), v = V.ref l ∧ SqT K H l (ks.map fun p => V.ref p.1) ∧ ks.map (·.2) = ps ∧ ∀ p ∈ ks, Rp H O (kD p.2) (.ref p.1) := by
  obtain ⟨l, us, ev, _, hl, rl⟩ := r
  obtain ⟨ks, h1, h2, h3⟩ := knots_of rl e
  subst h1
  exact ⟨l, ks, ev, sqt hl, h2, h3⟩
theorem in_dedP {ps : List (Int × Int)} {x : Int × Int} : x ∈ dedP ps ↔ x ∈ ps := by
  unfold dedP
  rw [dedP_mem]
  simp
theorem dt_xorNe {X : CxD} {κ : List Kd} {a b c : Expr} {wa wb wc : WE} {p1 p2 p3 q1 q2 q3 q4 pos : Pos} (hc : X.calm = true) (hu : X.A.units + 65 < cLine) (hg : Gl X "set") (hm : X.mg "set" = none) (ha : DE X κ a wa) (hb : DE X κ b wb) (hc' : DE X κ c wc)
    (sa : notStar a = true := by rfl) (sb : notStar b = true := by rfl) (sc : notStar c = true := by rfl) (hmk : behindInMarks .NotEq (.Call (.Name "set" p3) [c] [] q4) = false := by rfl) :
    DT X κ (.Compare (.BinOp (.Call (.Name "set" p1) [a] [] q1) .BitXor (.Call (.Name "set" p2) [b] [] q2) q3) [.NotEq] [.Call (.Name "set" p3) [c] [] q4] pos) (tE (eXorNeW wa wb wc)) :=
  ⟨fun g hg' => (pt_xorNe hc (Nat.lt_of_le_of_lt (by omega) hu) hg hm (ha.pe g hg') (hb.pe g hg') (hc'.pe g hg') (st_cons sa) (st_cons sb) (st_cons sc) hmk).imp fun σ H Q ⟨O, ε, A, h⟩ => by
    refine ⟨O, ε, A, ha.mono _ _ _ (fun d1 ε1 ⟨xs, ps, e1, e2, lp, h⟩ v1 H1 O1 A1 x1 r1 => ?_) h⟩
    subst e1
    obtain ⟨l1, k1, ev1, s1, m1, rp1⟩ := knots_arg (K := X.K) r1 e2
    have in1 : ∀ p ∈ k1, p.2 ∈ ps := fun p hp => by rw [← m1]; exact List.mem_map.mpr ⟨p, hp, rfl⟩
    refine ⟨l1, k1, ev1, s1, fun p hp => rp_pairV (rp1 p hp), ⟨dedP ps, lp, fun p hp => in_dedP.mpr (in1 p hp)⟩, O1, ε1, A1, hb.mono _ _ _ (fun d2 ε2 ⟨ys, qs, e1, e2, lq, h⟩ v2 H2 O2 A2 x2 r2 => ?_) h⟩
    subst e1
    obtain ⟨l2, k2, ev2, s2, m2, rp2⟩ := knots_arg (K := X.K) r2 e2
    have in2 : ∀ p ∈ k2, p.2 ∈ qs := fun p hp => by rw [← m2]; exact List.mem_map.mpr ⟨p, hp, rfl⟩
    have rp12 : ∀ p ∈ k1, Rp H2 O2 (kD p.2) (.ref p.1) := fun p hp => A1.rp x2 (rp1 p hp)
    refine ⟨l2, k2, dedP (ps ++ qs), ev2, s2, fun p hp => rp_pairV (rp12 p hp), fun p hp => rp_pairV (rp2 p hp), lq, fun p hp => in_dedP.mpr (List.mem_append_left _ (in1 p hp)), fun p hp => in_dedP.mpr (List.mem_append_right _ (in2 p hp)), O2, ε2, A2, hc'.mono _ _ _ (fun d3 ε3 ⟨zs, rs, e1, e2, lr, b, eb, q⟩ v3 H3 O3 A3 x3 r3 => ?_) h⟩
    subst e1
    cases eb
    obtain ⟨l3, k3, ev3, s3, m3, rp3⟩ := knots_arg (K := X.K) r3 e2
    have in3 : ∀ p ∈ k3, p.2 ∈ rs := fun p hp => by rw [← m3]; exact List.mem_map.mpr ⟨p, hp, rfl⟩
    refine ⟨l3, k3, ev3, s3, fun p hp => rp_pairV (A2.rp x3 (rp12 p hp)), fun p hp => rp_pairV (A2.rp x3 (rp2 p hp)), fun p hp => rp_pairV (rp3 p hp), ⟨dedP rs, lr, fun p hp => in_dedP.mpr (in3 p hp)⟩, fun r hr => ?_⟩
    rw [m1, m2, m3, ← xorNeB_iff] at hr
    rw [show r = xorNeB ps qs rs by cases r <;> cases hx : xorNeB ps qs rs <;> simp_all]
    exact q H3 O3 A3 (x1.trans (x2.trans x3)),
   tE_mono (eXorNeW_mono ha.mono hb.mono hc'.mono)⟩
end DL
namespace FL
open PySem PySem.Spec L2 DL
def dXorNe3 : DL.D → DL.D → DL.D → Option DL.D
  | .tuple xs, .tuple ys, .tuple zs => (prsOf xs).bind fun ps => (prsOf ys).bind fun qs => (prsOf zs).bind fun rs => if (dedP ps).length < 63 ∧ (dedP (ps ++ qs)).length < 63 ∧ (dedP rs).length < 63 then some (.bool (xorNeB ps qs rs)) else none
  | _, _, _ => none
def pXorNe (pa pb pc : FP) : FP := fun ε => (pa ε).bind fun d1 => (pb ε).bind fun d2 => (pc ε).bind fun d3 => dXorNe3 d1 d2 d3
theorem ip_xorNe {wa wb wc : WE} {pa pb pc : FP} (ha : IP wa pa) (hb : IP wb pb) (hc : IP wc pc) : IP (eXorNeW wa wb wc) (pXorNe pa pb pc) := fun ε d Q e q => by
  obtain ⟨d1, e1, e⟩ := Option.bind_eq_some_iff.mp e
  obtain ⟨d2, e2, e⟩ := Option.bind_eq_some_iff.mp e
  obtain ⟨d3, e3, e⟩ := Option.bind_eq_some_iff.mp e
  match d1, d2, d3, e1, e2, e3, e with
  | .tuple xs, .tuple ys, .tuple zs, e1, e2, e3, e =>
    obtain ⟨ps, f1, e⟩ := Option.bind_eq_some_iff.mp e
    obtain ⟨qs, f2, e⟩ := Option.bind_eq_some_iff.mp e
    obtain ⟨rs, f3, e⟩ := Option.bind_eq_some_iff.mp e
    split at e
    · rename_i h
      cases e
      exact ha ε _ _ e1 ⟨xs, ps, rfl, f1, h.1, hb ε _ _ e2 ⟨ys, qs, rfl, f2, h.2.1, hc ε _ _ e3 ⟨zs, rs, rfl, f3, h.2.2, q⟩⟩⟩
    · cases e
end FL
namespace L2
open PySem PySem.Spec PyProof.Rows
def rgO (a : Addr) (lo hi st : Int) : HO := .ext fun h => ∃ t u v, h.get? a = some { cls := .type "range", dict := none, data := .fields #[.int lo t, .int hi u, .int st v], slots := #[] }
section
variable {X : Cx}
theorem cr_rangeS : CallR X (.type "range") (fun vs H Q => ∃ i j k, vs = [V.int i, V.int j, V.int k] ∧ (0 < k ∧ k < 2 ^ 30 ∧ 0 ≤ i ∧ i < 2 ^ 30 ∧ 0 ≤ j ∧ j < 2 ^ 30) ∧ ∀ p, H p = none → Q (.ref p) (upd H p (rgO p i j k))) := by
  intro pins s σ H vs us Q I r h
  obtain ⟨i, j, k, rfl, hb, q⟩ := h
  obtain ⟨u1, u2, u3, rfl, r1, r2, r3⟩ : ∃ u1 u2 u3, us = [u1, u2, u3] ∧ RelV (.int i) u1 ∧ RelV (.int j) u2 ∧ RelV (.int k) u3 := by
    cases r with
    | cons r1 r =>
      cases r with
      | cons r2 r =>
        cases r with
        | cons r3 r =>
          cases r
          exact ⟨_, _, _, rfl, r1, r2, r3⟩
  obtain ⟨t, rfl⟩ := r1
  obtain ⟨u, rfl⟩ := r2
  obtain ⟨v, rfl⟩ := r3
  refine call_range_3 (by omega) ?_ (Or.inl (PyProof.noPylong_small (by omega)))
  exact ⟨.ref s.heap.objs.size, upd H s.heap.objs.size (rgO s.heap.objs.size i j k), I.laid (t' := s.toks) (fun b o e => Heap.get?_push_of_some _ e) (Nat.le_refl _) ⟨⟨t, u, v, Heap.get?_push_size _ rfl⟩, ⟨_, Heap.get?_push_size _ rfl⟩, fun h1 h2 ⟨t, u, v, e⟩ k => ⟨t, u, v, k _ e⟩⟩, rfl, q _ (I.hok.fresh (Nat.le_refl _))⟩
theorem rg_holds (r : Addr) (a b c i : Int) (t u v k : Tok) :
    Meets (Builtin.«range.__contains__» ⟨[.ref r, .int i k], []⟩) (fun _ R s => s.heap.get? r = some { cls := .type "range", dict := none, data := .fields #[.int a t, .int b u, .int c v], slots := #[] } ∧ R (.ok (.ret (.bool (Builtin.Range.rangePlace? a b c i).isSome))) s) :=
  .of_wp fun prog w A R s h => by obtain ⟨hp, g, d, tk, os⟩ := s; obtain ⟨hl, h⟩ := h; wp_walk; exact ⟨_, rfl, h⟩
theorem op_notInRg : OpR X (compareOp .NotIn) (fun x y H Q => ∃ i a lo hi st, x = V.int i ∧ y = V.ref a ∧ H a = some (rgO a lo hi st) ∧ Q (.bl (!(Builtin.Range.rangePlace? lo hi st i).isSome)) H) := by
  intro pins s σ H x y v u Q I rx ry h
  obtain ⟨i, a, lo, hi, st, rfl, rfl, ha, q⟩ := h
  obtain ⟨k, rfl⟩ := rx
  obtain rfl : u = Value.ref a := ry
  obtain ⟨⟨t1, t2, t3, ho⟩, _, _⟩ := I.hok a _ ha
  show wpAny _ _ (do return Value.bool (!(← contains (Value.ref a) (Value.int i k)))) _ _ s
  exact wpAny_bind (wpAny_contains_slot (T := "range") ⟨_, ho, rfl⟩ F.slot_range_contains (call_meets F.slot_range_contains ⟨_, ho, rfl⟩ F.entry_range_contains (F.args_range_contains_2 _ _) (rg_holds a lo hi st i t1 t2 t3 k)
    ⟨ho, wpAny_truthy_bool (wpAny_pure ⟨.bl _, H, I, rfl, q⟩)⟩))
end
end L2
namespace DL
open PySem PySem.Spec L2
/-- how a number lies to a range -/
def rgIn (lo hi st i : Int) : Bool := (decide (lo ≤ i) && decide (i < hi)) && ((i - lo) % st == 0)
def dNotInRg (lo hi st : Int) : D → Option D
  | .int i => some (.bool (!rgIn lo hi st i))
  | _ => none
theorem rgIn_eq {lo hi st i : Int} (h : 0 < st) : (Builtin.Range.rangePlace? lo hi st i).isSome = rgIn lo hi st i := by
  unfold Builtin.Range.rangePlace? rgIn
  rw [if_pos h]
  by_cases c : ((decide (lo ≤ i) && decide (i < hi)) && ((i - lo) % st == 0)) = true
  · simp only [c, if_true]
    rfl
  · have c' := Bool.eq_false_iff.mpr c
    simp only [c', Bool.false_eq_true, if_false]
    rfl
theorem dt_notInRg {X : CxD} {κ : List Kd} {a : Expr} {oa : Op} {lo hi st : Int} {j1 j2 j3 : Nat} {p p1 p2 p3 p4 pos : Pos} (hg : Gl X "range") (hm : X.mg "range" = none) (ha : DO X κ a oa) (hb : 0 < st ∧ st < 2 ^ 30 ∧ 0 ≤ lo ∧ lo < 2 ^ 30 ∧ 0 ≤ hi ∧ hi < 2 ^ 30 := by decide)
    (hmk : behindInMarks .NotIn (.Call (.Name "range" p) [.Constant (.int lo) j1 p1, .Constant (.int hi) j2 p2, .Constant (.int st) j3 p3] [] p4) = false := by rfl) :
    DT X κ (.Compare a [.NotIn] [.Call (.Name "range" p) [.Constant (.int lo) j1 p1, .Constant (.int hi) j2 p2, .Constant (.int st) j3 p3] [] p4] pos) (tE (eUn (dNotInRg lo hi st) oa)) :=
  ⟨fun g hg' => (pt_cmpR op_notInRg (ha.pe g hg') (pe_callTy cr_rangeS hg hm rfl (pa_cons pe_int (pa_cons pe_int (pa_cons pe_int pa_nil)))) hmk).imp fun σ H Q ⟨O, ε, A, q⟩ => ⟨O, ε, A, oEv_mono ha.mono (Q := fun x ε1 => ∃ d r, x ε1 = some d ∧ dNotInRg lo hi st d = some r ∧ ∃ b, r = .bool b ∧ ∀ (H' : Hp) (O' : OS), Abs g.toGx O' H' σ ε1 → Ext g.κ σ O H O' H' → Q b H') (fun x ε1 ⟨d, r, e1, e2, b, eb, q⟩ v H1 O1 A1 x1 r1 => by
    have nb := r1.nb A1 e1
    match d, nb, e2 with
    | .int i, nb, e2 =>
      obtain rfl := nb_int nb
      cases (show some (PyData.bool (!rgIn lo hi st i)) = some r from e2)
      cases eb
      refine ⟨lo, hi, st, rfl, hb, fun p' np => ⟨i, p', lo, hi, st, rfl, rfl, upd_same, _, rfl, ?_⟩⟩
      rw [rgIn_eq hb.1]
      have A2 := A1.same (same_upd (o := rgO p' lo hi st) np)
      exact q _ O1 A2 (x1.trans (.same (same_upd np)))) q⟩,
   tE_mono (eUn_mono ha.mono)⟩
end DL
namespace DL
open PySem PySem.Spec L2
end DL
namespace FL
open PySem PySem.Spec L2 DL
end FL
namespace DL
open PySem PySem.Spec L2 PyProof.Rows
def dTupT : D → Option D
  | .tuple xs => some (.tuple xs)
  | _ => none
end DL
namespace FL
open PySem PySem.Spec L2 DL
theorem tupT_t {xs : List DL.D} : dTupT (.tuple xs) = some (.tuple xs) := rfl
end FL
namespace FL
open PySem PySem.Spec L2 DL
/-- a bar joins its two ends -/
theorem btw_ends {S : Sheet} {b : Int} (h0 : 0 ≤ b) (h1 : b < S.R * S.C) : btwI S (endsI S b).1 (endsI S b).2 = some b ∧ btwI S (endsI S b).2 (endsI S b).1 = some b ∧ (endsI S b).1 ≠ (endsI S b).2 ∧ (endsI S b).1 ∈ knotsI S ∧ (endsI S b).2 ∈ knotsI S := by
  obtain ⟨r0, r1, c0, c1, e⟩ := bar_rc h0 h1
  rw [mem_knotsI, mem_knotsI]
  unfold endsI btwI
  generalize b / S.C = x at *
  generalize b % S.C = y at *
  split
  · refine ⟨?_, ?_, ?_, ?_, ?_⟩
    · rw [if_pos (by simp only; omega), Int.min_eq_left (by simp only; omega), Int.min_eq_left (by simp only; omega)]
      exact congrArg some e
    · rw [if_pos (by simp only; omega), Int.min_eq_right (by simp only; omega), Int.min_eq_right (by simp only; omega)]
      exact congrArg some e
    · simp only [ne_eq, Prod.mk.injEq]; omega
    · simp only; omega
    · simp only; omega
  · refine ⟨?_, ?_, ?_, ?_, ?_⟩
    · rw [if_pos (by simp only; omega), Int.min_eq_left (by simp only; omega), Int.min_eq_right (by simp only; omega)]
      exact congrArg some e
    · rw [if_pos (by simp only; omega), Int.min_eq_right (by simp only; omega), Int.min_eq_left (by simp only; omega)]
      exact congrArg some e
    · simp only [ne_eq, Prod.mk.injEq]; omega
    · simp only; omega
    · simp only; omega
end FL
namespace FL
open PySem PySem.Spec L2 DL
namespace Wk
end Wk
end FL
namespace FL
open PySem PySem.Spec L2 DL
mutual
theorem eqv_me : ∀ d : DL.D, PyData.canLay0 d = true → PyData.eqv d d = true
  | .none, _ => rfl
  | .bool b, _ => by cases b <;> rfl
  | .int i, _ => beq_self_eq_true i
  | .str x, _ => beq_self_eq_true x
  | .list xs, h => eqvAll_me xs h
  | .tuple xs, h => eqvAll_me xs h
  | .dict _, h => nomatch (show false = true from h)
theorem eqvAll_me : ∀ ds : List DL.D, PyData.canLayAll0 ds = true → PyData.eqvAll ds ds = true
  | [], _ => rfl
  | d :: ds, h => by
    have h : (PyData.canLay0 d && PyData.canLayAll0 ds) = true := h
    rw [Bool.and_eq_true] at h
    show (PyData.eqv d d && PyData.eqvAll ds ds) = true
    rw [eqv_me d h.1, eqvAll_me ds h.2]
    rfl
end
theorem dNe_me {m n : Nat} {d : DL.D} (h : Gd m n d) (l : m ≤ 64 := by decide) : dNe d d = some (.bool false) := by
  rw [dNe_sh h.sh h.sh l l, eqv_me d h.can]
  rfl
end FL
namespace FL
open PySem PySem.Spec L2 DL
theorem isi_of {T t : String} {b : Bool} {r : Option DL.D} (h : kitB t T = some b) (e : (kitB t T).map PyData.bool = r) : r = some (.bool b) := by rw [← e, h]; rfl
theorem isi_int_none : dIsi "int" .none = some (.bool false) := isi_of (T := "int") (t := "NoneType") (by decide +kernel) rfl
theorem isi_int_bool {b : Bool} : dIsi "int" (.bool b) = some (.bool true) := isi_of (T := "int") (t := "bool") (by decide +kernel) rfl
theorem isi_int_int {i : Int} : dIsi "int" (.int i) = some (.bool true) := isi_of (T := "int") (t := "int") (by decide +kernel) rfl
theorem isi_int_str {z : Str} : dIsi "int" (.str z) = some (.bool false) := isi_of (T := "int") (t := "str") (by decide +kernel) rfl
theorem isi_int_list {ds : List DL.D} : dIsi "int" (.list ds) = some (.bool false) := isi_of (T := "int") (t := "list") (by decide +kernel) rfl
theorem isi_int_tuple {ds : List DL.D} : dIsi "int" (.tuple ds) = some (.bool false) := isi_of (T := "int") (t := "tuple") (by decide +kernel) rfl
theorem isi_int_dict {es : List (DL.D × DL.D)} (h : flatD (.dict es) = true) : dIsi "int" (.dict es) = some (.bool false) := by
  show (if flatD (.dict es) = true then (kitB "dict" "int").map PyData.bool else none) = _
  rw [if_pos h]
  exact isi_of (T := "int") (t := "dict") (by decide +kernel) rfl
theorem isi_bool_none : dIsi "bool" .none = some (.bool false) := isi_of (T := "bool") (t := "NoneType") (by decide +kernel) rfl
theorem isi_bool_bool {b : Bool} : dIsi "bool" (.bool b) = some (.bool true) := isi_of (T := "bool") (t := "bool") (by decide +kernel) rfl
theorem isi_bool_int {i : Int} : dIsi "bool" (.int i) = some (.bool false) := isi_of (T := "bool") (t := "int") (by decide +kernel) rfl
theorem isi_bool_str {z : Str} : dIsi "bool" (.str z) = some (.bool false) := isi_of (T := "bool") (t := "str") (by decide +kernel) rfl
theorem isi_bool_list {ds : List DL.D} : dIsi "bool" (.list ds) = some (.bool false) := isi_of (T := "bool") (t := "list") (by decide +kernel) rfl
theorem isi_bool_tuple {ds : List DL.D} : dIsi "bool" (.tuple ds) = some (.bool false) := isi_of (T := "bool") (t := "tuple") (by decide +kernel) rfl
theorem isi_tuple_none : dIsi "tuple" .none = some (.bool false) := isi_of (T := "tuple") (t := "NoneType") (by decide +kernel) rfl
theorem isi_tuple_bool {b : Bool} : dIsi "tuple" (.bool b) = some (.bool false) := isi_of (T := "tuple") (t := "bool") (by decide +kernel) rfl
theorem isi_tuple_int {i : Int} : dIsi "tuple" (.int i) = some (.bool false) := isi_of (T := "tuple") (t := "int") (by decide +kernel) rfl
theorem isi_tuple_str {z : Str} : dIsi "tuple" (.str z) = some (.bool false) := isi_of (T := "tuple") (t := "str") (by decide +kernel) rfl
theorem isi_tuple_list {ds : List DL.D} : dIsi "tuple" (.list ds) = some (.bool false) := isi_of (T := "tuple") (t := "list") (by decide +kernel) rfl
theorem isi_tuple_tuple {ds : List DL.D} : dIsi "tuple" (.tuple ds) = some (.bool true) := isi_of (T := "tuple") (t := "tuple") (by decide +kernel) rfl
theorem isi_tuple_dict {es : List (DL.D × DL.D)} (h : flatD (.dict es) = true) : dIsi "tuple" (.dict es) = some (.bool false) := by
  show (if flatD (.dict es) = true then (kitB "dict" "tuple").map PyData.bool else none) = _
  rw [if_pos h]
  exact isi_of (T := "tuple") (t := "dict") (by decide +kernel) rfl
structure Gw (m n : Nat) (d : DL.D) : Prop where
  lsh : PyData.leavesShort 80 d = true
  shw : PyData.showable d = true
  dep : PyData.depth d ≤ m
  blk : PyData.bulk d ≤ n
  flt : flatA d = true
  chr : ∀ z, d = .str z → ∀ c ∈ z.cps.toList, c < 1114112
section
variable {m n k : Nat}
mutual
theorem flat_no : ∀ d : DL.D, d.hasDict = false → flatA d = true
  | .none, _ => rfl
  | .bool _, _ => rfl
  | .int _, _ => rfl
  | .str _, _ => rfl
  | .list ds, h => flat_noL ds (by simpa [PyData.hasDict] using h)
  | .tuple ds, h => flat_noL ds (by simpa [PyData.hasDict] using h)
  | .dict _, h => by simp [PyData.hasDict] at h
theorem flat_noL : ∀ ds : List DL.D, PyData.hasDictAll ds = false → flatL ds = true
  | [], _ => rfl
  | d :: ds, h => by
    have h : (d.hasDict || PyData.hasDictAll ds) = false := h
    rw [Bool.or_eq_false_iff] at h
    show (flatA d && flatL ds) = true
    rw [flat_no d h.1, flat_noL ds h.2]
    rfl
end
theorem Gd.gw {d : DL.D} (h : Gd m n d) : Gw m n d := ⟨PyData.leavesShort_of_canLay0 80 d h.can h.ish, h.shw, h.dep, h.blk, flat_no d (PyData.hasDict_of_canLay d h.can), fun z e c hc => by
  subst e
  have q : PyData.strOk z = true := h.can
  unfold PyData.strOk at q
  simp only [Array.all_eq_true_iff_forall_mem, decide_eq_true_eq] at q
  exact q c (Array.mem_toList_iff.mp hc)⟩
end
theorem flat_one : ∀ {es : List (DL.D × DL.D)}, flatK es = true → es.all plainK = true
  | [], _ => rfl
  | (k, d) :: es, h => by
    have h : (plainK (k, d) && (flatA d && flatK es)) = true := h
    rw [Bool.and_eq_true, Bool.and_eq_true] at h
    show (plainK (k, d) && es.all plainK) = true
    rw [h.1, flat_one h.2.2]
    rfl
theorem flatA_D : ∀ {d : DL.D}, flatA d = true → flatD d = true
  | .dict _, h => flat_one h
  | .none, _ => rfl
  | .bool _, _ => rfl
  | .int _, _ => rfl
  | .str _, _ => rfl
  | .list _, _ => rfl
  | .tuple _, _ => rfl
theorem flatL_mem : ∀ {ds : List DL.D}, flatL ds = true → ∀ d ∈ ds, flatA d = true
  | [], _, _, h => nomatch h
  | x :: ds, h, d, hd => by
    have h : (flatA x && flatL ds) = true := h
    rw [Bool.and_eq_true] at h
    exact (List.mem_cons.mp hd).elim (fun e => e ▸ h.1) (flatL_mem h.2 d)
end FL
namespace FL
open PySem PySem.Spec L2 DL
noncomputable section
def S_is_integer : FS :=
  (fRet (lf (pAnd (pUn (dIsi "int") (pNm 0)) (pAnd (pNot (pUn (dIsi "bool") (pNm 0))) (pChain dLe dLe (pNm 1) (pNm 0) (pNm 2))))))
def F_is_integer : FD := runP [.val, .val, .val] false 3 S_is_integer
end
namespace Pe
open Wk
def intOk (lo hi : Int) : DL.D → Bool
  | .int i => decide (lo ≤ i) && decide (i ≤ hi)
  | _ => false
def _root_.SsH15 : List Lean.Name := SsH14 ++ []
def _root_.SsL15 : List Lean.Name := SsL14 ++ [`FL.holes_eq, `FL.str_ts, `FL.sO_ts, `FL.pXor, `FL.pXorNe, `FL.tupT_t, `FL.isi_int_none, `FL.isi_int_bool, `FL.isi_int_int, `FL.isi_int_str, `FL.isi_int_list, `FL.isi_int_tuple, `FL.isi_bool_none, `FL.isi_bool_bool, `FL.isi_bool_int, `FL.isi_bool_str, `FL.isi_bool_list, `FL.isi_bool_tuple, `FL.isi_tuple_none, `FL.isi_tuple_bool, `FL.isi_tuple_int, `FL.isi_tuple_str, `FL.isi_tuple_list, `FL.isi_tuple_tuple]
local macro_rules | `(tactic| simp only [$as,*] $[$l]?) => SsM (`word_snoc :: SsH15 ++ SsL15) as.getElems l
theorem int_eq {d : DL.D} {lo hi : Int} (h : flatA d = true) : F_is_integer [d, .int lo, .int hi] = some (.bool (intOk lo hi d)) := by
  match d, h with
  | .none, _ => simp only [F_is_integer, S_is_integer, runP, ss_, intOk]
  | .bool b, _ => simp only [F_is_integer, S_is_integer, runP, ss_, intOk]
  | .int i, _ =>
    by_cases h1 : lo ≤ i <;> by_cases h2 : i ≤ hi <;> simp only [F_is_integer, S_is_integer, runP, ss_, intOk, h1, h2, Bool.true_and, Bool.false_and, Bool.and_true, Bool.and_false]
  | .str z, _ => simp only [F_is_integer, S_is_integer, runP, ss_, intOk]
  | .list ds, _ => simp only [F_is_integer, S_is_integer, runP, ss_, intOk]
  | .tuple ds, _ => simp only [F_is_integer, S_is_integer, runP, ss_, intOk]
  | .dict es, h =>
    have e := isi_int_dict (flatA_D h)
    simp only [F_is_integer, S_is_integer, runP, ss_, e, intOk]
end Pe
end FL
namespace FL
open PySem PySem.Spec L2 DL
namespace Pe
open Wk
end Pe
end FL
namespace FL
open PySem PySem.Spec L2 DL
end FL
namespace FL
open PySem PySem.Spec L2 DL
namespace Pe
end Pe
end FL
namespace FL
open PySem PySem.Spec L2 DL
noncomputable section
def S_sizeS : FS :=
  (fRet (lf (pBin dMul (pBin dAt (pNm 0) (pC (.int 0))) (pBin dAt (pNm 0) (pC (.int 1))))))
def F_sizeS : FD := runP [.val] false 1 S_sizeS
def S_is_barS : FS :=
  (fRet (lf (pCall F_is_integer [(pNm 1), (pC (.int 0)), (pBin dSub (pCall F_sizeS [(pNm 0)]) (pC (.int 1)))])))
def F_is_barS : FD := runP [.val, .val] false 2 S_is_barS
def S_is_wholeS : FS :=
  (fSeq (fIf (lf (tOr (tNot (tP (pUn (dIsi "int") (pNm 2)))) (tP (pUn (dIsi "bool") (pNm 2))))) (fRet (lf (pC (.bool false)))) fNil)
  (fRet (lf (pAnd (pChain dLe dLt (pC (.int 0)) (pNm 2) (pBin dMul (pBin dAt (pNm 0) (pC (.int 0))) (pBin dAt (pNm 0) (pC (.int 1))))) (pBin dNotIn (pNm 2) (pNm 1))))))
def F_is_wholeS : FD := runP [.val, .val, .val] false 3 S_is_wholeS
def B_trim_faultS : FS :=
  (fEnd [3] (fIf (lf (tOr (tNot (tP (pCall F_is_wholeS [(pNm 0), (pNm 1), (pBin dAt (pNm 2) (pNm 3))]))) (tAnd (tP (pBin dGt (pNm 3) (pC (.int 0)))) (tP (pBin dLe (pBin dAt (pNm 2) (pNm 3)) (pBin dAt (pNm 2) (pBin dSub (pNm 3) (pC (.int 1))))))))) (fRet (lf (pNm 3))) fNil))
def S_trim_faultS : FS :=
  (fKill [3] (fSeq (fFor (lf (iApp rng1 [(pApp dLen [(pNm 2)])])) (.nm 3) B_trim_faultS)
  (fRet (lf (pC .none)))))
def F_trim_faultS : FD := runP [.val, .val, .val] false 4 S_trim_faultS
end
namespace Bf
open Pe
/-- the first item that is no fine number or not greater than the one ahead -/
def go (P : Int → Bool) : Option Int → List DL.D → Nat → Option Nat
  | _, [], _ => none
  | pv, x :: xs, k => match x with
    | .int i => if P i = true ∧ (∀ j, pv = some j → j < i) then go P (some i) xs (k + 1) else some k
    | _ => some k
theorem go_int {P : Int → Bool} {i : Int} {pv : Option Int} {xs : List DL.D} {k : Nat} : go P pv (.int i :: xs) k = if P i = true ∧ (∀ j, pv = some j → j < i) then go P (some i) xs (k + 1) else some k := rfl
theorem go_other {P : Int → Bool} {pv : Option Int} {x : DL.D} {xs : List DL.D} {k : Nat} (h : ∀ i, x ≠ .int i) : go P pv (x :: xs) k = some k := by
  unfold go
  cases x with
  | int i => exact absurd rfl (h i)
  | _ => rfl
theorem go_on {P : Int → Bool} {pv : Option Int} {x : DL.D} {xs : List DL.D} {k : Nat} (h : go P pv [x] k = none) : ∃ i, x = .int i ∧ go P pv (x :: xs) k = go P (some i) xs (k + 1) := by
  by_cases hi : ∃ i, x = .int i
  · obtain ⟨i, rfl⟩ := hi
    refine ⟨i, rfl, ?_⟩
    rw [go_int] at h ⊢
    split at h
    · rename_i c
      rw [if_pos c]
    · cases h
  · rw [go_other fun i h => hi ⟨i, h⟩] at h
    cases h
theorem go_stop {P : Int → Bool} {pv : Option Int} {x : DL.D} {xs : List DL.D} {k l : Nat} (h : go P pv [x] k = some l) : l = k ∧ go P pv (x :: xs) k = some k := by
  by_cases hi : ∃ i, x = .int i
  · obtain ⟨i, rfl⟩ := hi
    rw [go_int] at h ⊢
    split at h
    · cases h
    · rename_i c
      rw [if_neg c]
      exact ⟨(Option.some.inj h).symm, rfl⟩
  · rw [go_other fun i h => hi ⟨i, h⟩] at h
    rw [go_other fun i h => hi ⟨i, h⟩]
    exact ⟨(Option.some.inj h).symm, rfl⟩
/-- what is known of the item ahead -/
def Pv (V : DL.D) (pv : Option Int) (k : Nat) : Prop := (pv = none ∧ k = 0) ∨ ∃ j, pv = some j ∧ 0 < k ∧ dAt V (.int ((k : Int) - 1)) = some (.int j)
theorem pv_next {V : DL.D} {k : Nat} {i : Int} (ha : dAt V (.int (k : Nat)) = some (.int i)) : Pv V (some i) (k + 1) := .inr ⟨i, rfl, by omega, by
  rw [show (((k + 1 : Nat) : Int) - 1) = (k : Nat) by omega]
  exact ha⟩
/-- a loop that ends at the first item that is wrong -/
theorem first_loop {t : Tg} {s : FS} {g : Nat → DL.D → DL.D} {ε : En} {P : Int → Bool} {V : DL.D} {Rz : Nat → DL.D → FL.R Fl} (hz : ∀ k x f, lp (some (Rz k x)) f = some (Rz k x))
    (one : ∀ (x : DL.D) (k : Nat) (pv : Option Int), flatA x = true → dAt V (.int (k : Nat)) = some x → Pv V pv k → (bindD t (g k x) ε).bind s = match go P pv [x] k with
      | some _ => some (Rz k x)
      | none => some (.ok .nx ε)) : ∀ (xs : List DL.D) (k : Nat) (pv : Option Int), (∀ x ∈ xs, flatA x = true) → (∀ i x, xs[i]? = some x → dAt V (.int ((k + i : Nat) : Int)) = some x) → Pv V pv k →
    ∃ x, forL t s ((xs.zipIdx k).map fun p => g p.2 p.1) ε = match go P pv xs k with
      | some l => some (Rz l x)
      | none => some (.ok .nx ε)
  | [], k, pv, _, _, _ => ⟨V, rfl⟩
  | x :: xs, k, pv, hf, ha, hp => by
    have h0 : dAt V (.int (k : Nat)) = some x := by have := ha 0 x (by rw [List.getElem?_cons_zero]); exact this
    have h1 := one x k pv (hf x List.mem_cons_self) h0 hp
    rw [List.zipIdx_cons, List.map_cons, forL_cons]
    cases hg : go P pv [x] k with
    | some l =>
      obtain ⟨rfl, e⟩ := go_stop (xs := xs) hg
      rw [hg] at h1
      obtain ⟨ε', b1, b2⟩ := Option.bind_eq_some_iff.mp h1
      exact ⟨x, by rw [e, b1, Option.bind_some, b2, hz]⟩
    | none =>
      obtain ⟨i, rfl, e⟩ := go_on (xs := xs) hg
      rw [hg] at h1
      obtain ⟨ε', b1, b2⟩ := Option.bind_eq_some_iff.mp h1
      obtain ⟨y, ih⟩ := first_loop hz one xs (k + 1) (some i) (fun y hy => hf y (List.mem_cons_of_mem _ hy)) (fun j y hy => by
        have := ha (j + 1) y (by rw [List.getElem?_cons_succ]; exact hy)
        rw [show k + 1 + j = k + (j + 1) by omega]
        exact this) (pv_next h0)
      exact ⟨y, by rw [b1, Option.bind_some, b2, lp_nx, ih, e]⟩
theorem at_all {xs : List DL.D} (l : xs.length ≤ 100000) : ∀ i x, xs[i]? = some x → dAt (.tuple xs) (.int ((0 + i : Nat) : Int)) = some x := fun i x hx => by
  have il : i < xs.length := by
    rw [List.getElem?_eq_some_iff] at hx
    exact hx.1
  show atI xs _ = _
  rw [Nat.zero_add, atI_nat (by omega) (by omega), Int.toNat_natCast, hx]
theorem rng_zip {xs : List DL.D} (l : xs.length ≤ 100000) : rng1 [.int (xs.length : Int)] = some ((xs.zipIdx 0).map fun p => .int (p.2 : Nat)) := by
  rw [rng_n (by omega)]
  unfold rgI
  rw [List.map_map, Int.toNat_natCast]
  congr 1
  refine List.ext_getElem? fun i => ?_
  by_cases hi : i < xs.length
  · rw [List.getElem?_map, List.getElem?_range hi, List.getElem?_map, List.getElem?_zipIdx, List.getElem?_eq_getElem hi]
    simp
  · rw [List.getElem?_eq_none (by rw [List.length_map, List.length_range]; omega), List.getElem?_eq_none (by rw [List.length_map, List.length_zipIdx]; omega)]
theorem en_zip {xs : List DL.D} : enumD xs = (xs.zipIdx 0).map fun p => .tuple [.int (p.2 : Nat), p.1] := rfl
section
variable {S : Sheet} {T : List Int}
theorem mul_eq : dMul (.int S.R) (.int S.C) = some (.int (S.R * S.C)) := by
  have := S.r1; have := S.r2; have := S.c1; have := S.c2
  exact dMul_r (by omega) (by omega)
/-- a bar of the sheet -/
def barB (S : Sheet) (i : Int) : Bool := decide (0 ≤ i) && decide (i ≤ S.R * S.C - 1)
/-- a whole bar -/
def wholeB (S : Sheet) (T : List Int) (i : Int) : Bool := decide (0 ≤ i) && (decide (i < S.R * S.C) && decide (i ∉ T))
theorem whole_iff {i : Int} : wholeB S T i = (barB S i && decide (i ∉ T)) := by
  unfold wholeB barB
  rw [Bool.eq_iff_iff]
  simp only [Bool.and_eq_true, decide_eq_true_eq]
  exact ⟨fun ⟨a, b, c⟩ => ⟨⟨a, by omega⟩, c⟩, fun ⟨⟨a, b⟩, c⟩ => ⟨a, by omega, c⟩⟩
def onInt (P : Int → Bool) : DL.D → Bool
  | .int i => P i
  | _ => false
local macro_rules | `(tactic| simp only [$as,*] $[$l]?) => SsM (`word_snoc :: SsH15 ++ SsL15) as.getElems l
theorem bar_eq {x : DL.D} (h : flatA x = true) : F_is_barS [S.d, x] = some (.bool (onInt (barB S) x)) := by
  have e := int_eq (lo := 0) (hi := S.R * S.C - 1) h
  have m := mul_eq (S := S)
  have e2 : intOk 0 (S.R * S.C - 1) x = onInt (barB S) x := by cases x <;> rfl
  rw [e2] at e
  simp only [F_is_barS, S_is_barS, F_sizeS, S_sizeS, runP, ss_, m, e]
theorem whole_eq {x : DL.D} (h : flatA x = true) : F_is_wholeS [S.d, tL .int T, x] = some (.bool (onInt (wholeB S T) x)) := by
  have m := mul_eq (S := S)
  match x, h with
  | .none, _ => simp only [F_is_wholeS, S_is_wholeS, runP, ss_, onInt, true_or, or_true, ↓reduceIte]
  | .bool b, _ => simp only [F_is_wholeS, S_is_wholeS, runP, ss_, onInt, or_true, ↓reduceIte]
  | .int i, _ =>
    have e : onInt (wholeB S T) (.int i) = (decide (0 ≤ i) && (decide (i < S.R * S.C) && decide (i ∉ T))) := rfl
    rw [e]
    by_cases h1 : 0 ≤ i <;> by_cases h2 : i < S.R * S.C <;> by_cases h3 : i ∈ T <;> simp only [F_is_wholeS, S_is_wholeS, runP, ss_, m, h1, h2, h3, not_true_eq_false, not_false_eq_true, Bool.true_and, Bool.false_and, Bool.and_true, Bool.and_false]
  | .str z, _ => simp only [F_is_wholeS, S_is_wholeS, runP, ss_, onInt, true_or, or_true, ↓reduceIte]
  | .list ds, _ => simp only [F_is_wholeS, S_is_wholeS, runP, ss_, onInt, true_or, or_true, ↓reduceIte]
  | .tuple ds, _ => simp only [F_is_wholeS, S_is_wholeS, runP, ss_, onInt, true_or, or_true, ↓reduceIte]
  | .dict es, h =>
    have e := isi_int_dict (flatA_D h)
    simp only [F_is_wholeS, S_is_wholeS, runP, ss_, e, onInt, true_or, or_true, ↓reduceIte]
def faultD (S : Sheet) (T : List Int) (xs : List DL.D) : DL.D := match go (wholeB S T) none xs 0 with
  | some l => .int (l : Nat)
  | none => .none
theorem no_int {P : Int → Bool} {x : DL.D} (h : ∀ i, x ≠ .int i) : onInt P x = false := by
  cases x with
  | int i => exact absurd rfl (h i)
  | _ => rfl
theorem one_law {V x : DL.D} {k : Nat} {pv : Option Int} (hx : flatA x = true) (ha : dAt V (.int (k : Nat)) = some x) (hp : Pv V pv k) : (bindD (.nm 3) (.int (k : Nat)) [some S.d, some (tL .int T), some V, none]).bind B_trim_faultS = (match go (wholeB S T) pv [x] k with
    | some _ => some (.ok (.rt (.int (k : Nat))) [some S.d, some (tL .int T), some V, some (.int (k : Nat))])
    | none => some (.ok .nx [some S.d, some (tL .int T), some V, none])) := by
  have e := whole_eq (S := S) (T := T) hx
  obtain ⟨K, hK⟩ : ∃ K : Int, (k : Int) = K := ⟨_, rfl⟩
  have nn : 0 ≤ K := by omega
  obtain ⟨TD, hT⟩ : ∃ TD, tL PyData.int T = TD := ⟨_, rfl⟩
  obtain ⟨SD, hS⟩ : ∃ SD, S.d = SD := ⟨_, rfl⟩
  rw [hS, hT] at e
  rw [hS, hT, hK]
  rw [hK] at ha
  by_cases hi : ∃ i, x = .int i
  · obtain ⟨i, rfl⟩ := hi
    have e : F_is_wholeS [SD, TD, .int i] = some (.bool (wholeB S T i)) := e
    rw [go_int]
    rcases hp with ⟨rfl, k0⟩ | ⟨j, rfl, k1, a⟩
    · have z : ¬ 0 < K := by omega
      cases q : wholeB S T i <;> rw [q] at e
      · rw [if_neg (by simp)]
        simp only [B_trim_faultS, ss_, ha, e, true_or, ↓reduceIte]
      · rw [if_pos ⟨rfl, fun _ h => nomatch h⟩]
        simp only [B_trim_faultS, ss_, ha, e, z, go]
    · have z : 0 < K := by omega
      rw [hK] at a
      cases q : wholeB S T i <;> rw [q] at e
      · rw [if_neg (by simp)]
        simp only [B_trim_faultS, ss_, ha, e, true_or, ↓reduceIte, a]
      · by_cases w : j < i
        · have w2 : ¬ i ≤ j := by omega
          rw [if_pos ⟨rfl, fun _ h => by cases h; exact w⟩]
          simp only [B_trim_faultS, ss_, ha, e, z, a, w2, go]
        · have w2 : i ≤ j := by omega
          rw [if_neg (fun h => w (h.2 j rfl))]
          simp only [B_trim_faultS, ss_, ha, e, z, a, w2, or_true, ↓reduceIte]
  · have hi : ∀ i, x ≠ .int i := fun i h => hi ⟨i, h⟩
    rw [go_other hi]
    rw [no_int hi] at e
    simp only [B_trim_faultS, ss_, ha, e, true_or, ↓reduceIte]
theorem fault_eq {xs : List DL.D} (hf : ∀ x ∈ xs, flatA x = true) (l : xs.length ≤ 100000) : F_trim_faultS [S.d, tL .int T, .tuple xs] = some (faultD S T xs) := by
  obtain ⟨x, k2⟩ := first_loop (t := .nm 3) (s := B_trim_faultS) (g := fun k _ => .int (k : Nat)) (ε := [some S.d, some (tL .int T), some (.tuple xs), none]) (P := wholeB S T) (V := .tuple xs)
    (Rz := fun k _ => .ok (.rt (.int (k : Nat))) [some S.d, some (tL .int T), some (.tuple xs), some (.int (k : Nat))]) (fun _ _ _ => rfl) (fun x k pv h1 h2 h3 => one_law h1 h2 h3) xs 0 none hf (at_all l) (.inl ⟨rfl, rfl⟩)
  have ln : dLen [.tuple xs] = some (.int (xs.length : Int)) := rfl
  have rg := rng_zip l
  unfold faultD
  obtain ⟨TD, hT⟩ : ∃ TD, tL PyData.int T = TD := ⟨_, rfl⟩
  obtain ⟨V, hV⟩ : ∃ V, PyData.tuple xs = V := ⟨_, rfl⟩
  obtain ⟨n, hn⟩ : ∃ n : Int, (xs.length : Int) = n := ⟨_, rfl⟩
  rw [hV, hT] at k2
  rw [hV] at ln
  rw [hV, hT]
  rw [hn] at ln rg
  cases hg : go (wholeB S T) none xs 0 with
  | some l =>
    rw [hg] at k2
    dsimp only at k2 ⊢
    obtain ⟨K, hK⟩ : ∃ K : Int, (l : Int) = K := ⟨_, rfl⟩
    rw [hK] at k2 ⊢
    simp only [F_trim_faultS, S_trim_faultS, runP, ss_, ln, rg, k2]
  | none =>
    rw [hg] at k2
    dsimp only at k2 ⊢
    simp only [F_trim_faultS, S_trim_faultS, runP, ss_, ln, rg, k2]
end
end Bf
end FL
namespace FL
open PySem PySem.Spec L2 DL
namespace Wy
abbrev Ky := Int × Int
section
variable {S : Sheet} {T : List Int}
theorem knot_even {p : Ky} (h : p ∈ knotsI S) : (p.1 + p.2) % 2 = 0 := (mem_knotsI.mp h).2.2
end
end Wy
end FL
namespace FL
open PySem PySem.Spec L2 DL
namespace Wy
end Wy
end FL
namespace FL
open PySem PySem.Spec L2 DL
end FL
namespace FL
open PySem PySem.Spec L2 DL
end FL
namespace FL
open PySem PySem.Spec L2 DL
namespace Wy
end Wy
end FL
namespace FL
open PySem PySem.Spec L2 DL
namespace Wy
end Wy
end FL
namespace FL
open PySem PySem.Spec L2 DL
namespace Wy
end Wy
end FL
namespace FL
open PySem PySem.Spec L2 DL
namespace Tr
open Pe
abbrev Kn := Int × Int
abbrev Dt := Kn × Int
section
variable {S : Sheet} {T : List Int} {d e s : Dt}
structure Dart (S : Sheet) (T : List Int) (d : Dt) : Prop where
  k : d.1 ∈ knotsI S
  b : d.2 ∈ lackI S T d.1
theorem Dart.mem (hT : IsTear S T) (h : Dart S T d) : d.2 ∈ T ∧ d.1 ∈ endsL S d.2 := (mem_lack hT (mem_knotsI.mp h.k).2.2).mp h.b
theorem ends_knots {b : Int} {k : Kn} (h : 0 ≤ b ∧ b < S.R * S.C) (hk : k ∈ endsL S b) : k ∈ knotsI S := by
  obtain ⟨_, _, _, k1, k2⟩ := btw_ends h.1 h.2
  simp only [endsL, List.mem_cons, List.not_mem_nil, or_false] at hk
  rcases hk with rfl | rfl
  · exact k1
  · exact k2
theorem dart_of (hT : IsTear S T) {b : Int} {k : Kn} (hb : b ∈ T) (hk : k ∈ endsL S b) : Dart S T (k, b) :=
  have kk := ends_knots (hT.inb b hb) hk
  ⟨kk, (mem_lack hT (mem_knotsI.mp kk).2.2).mpr ⟨hb, hk⟩⟩
variable {nx : Kn → Int → Option Int}
end
end Tr
end FL
namespace FL
open PySem PySem.Spec L2 DL
namespace Tr
open Pe Wk
end Tr
end FL
namespace FL
open PySem PySem.Spec L2 DL
namespace Tr
open Pe Wk
end Tr
end FL
namespace FL
open PySem PySem.Spec L2 DL
namespace Tr
open Pe Wk
section
variable {S : Sheet} {T : List Int} {k : Kn}
def fieldsI (p : Kn) : List (Int × Kn) := [(0, (p.1 - 1, p.2 - 1)), (1, (p.1 - 1, p.2)), (2, (p.1, p.2 - 1)), (3, p)]
theorem bars_fields : barsI S k = ((fieldsI k).filter fun f => inS S f.2).map fun f => f.2.1 * S.C + f.2.2 := by
  unfold barsI fieldsI
  have : ∀ (xs : List (Int × Kn)), ((xs.map (·.2)).filter (inS S)).map (fun p => p.1 * S.C + p.2) = (xs.filter fun f => inS S f.2).map fun f => f.2.1 * S.C + f.2.2 := fun xs => by
    rw [List.filter_map, List.map_map]
    rfl
  exact this [(0, (k.1 - 1, k.2 - 1)), (1, (k.1 - 1, k.2)), (2, (k.1, k.2 - 1)), (3, k)]
theorem field_side (ev : (k.1 + k.2) % 2 = 0) {f : Int × Kn} (hf : f ∈ fieldsI k) (hi : inS S f.2 = true) : sideI S (f.2.1 * S.C + f.2.2) k = f.1 := by
  obtain ⟨i, r, c⟩ := f
  unfold inS at hi
  simp only [Bool.and_eq_true, decide_eq_true_eq] at hi
  obtain ⟨⟨h1, h2⟩, h3, h4⟩ := hi
  have d1 : (r * S.C + c) / S.C = r := by
    rw [Int.add_comm, Int.add_mul_ediv_right _ _ (by omega), Int.ediv_eq_zero_of_lt h3 h4]
    omega
  have d2 : (r * S.C + c) % S.C = c := by
    rw [Int.add_comm, Int.add_mul_emod_self_right]
    exact Int.emod_eq_of_lt h3 h4
  obtain ⟨x, y⟩ := k
  simp only at ev
  unfold fieldsI at hf
  simp only [List.mem_cons, List.not_mem_nil, or_false, Prod.mk.injEq] at hf
  unfold sideI farI endsI
  simp only [d1, d2]
  rcases hf with ⟨e1, e2, e3⟩ | ⟨e1, e2, e3⟩ | ⟨e1, e2, e3⟩ | ⟨e1, e2, e3⟩ <;> simp only [e1, e2, e3]
  · have h0 : (x - 1 + (y - 1)) % 2 = 0 := by omega
    have h1 : ¬ (x = x - 1 ∧ y = y - 1) := by omega
    simp only [h0, Prod.mk.injEq, h1, ↓reduceIte]
    rw [if_neg (by omega), if_neg (by omega)]
    rfl
  · have h0 : ¬ (x - 1 + y) % 2 = 0 := by omega
    have h1 : ¬ (x = x - 1 ∧ y = y + 1) := by omega
    simp only [h0, Prod.mk.injEq, h1, ↓reduceIte]
    rw [if_neg (by omega), if_pos (by omega)]
    rfl
  · have h0 : ¬ (x + (y - 1)) % 2 = 0 := by omega
    have h1 : (y = y - 1 + 1) = True := eq_true (by omega)
    simp only [h0, Prod.mk.injEq, h1, and_self, ↓reduceIte]
    rw [if_pos (by omega), if_neg (by omega)]
    rfl
  · simp only [ev, ↓reduceIte]
    rw [if_pos (by omega), if_pos (by omega)]
    rfl
theorem bars_sides (ev : (k.1 + k.2) % 2 = 0) : ((barsI S k).map fun b => sideI S b k).Sublist [0, 1, 2, 3] := by
  rw [bars_fields, List.map_map]
  have e : ((fieldsI k).filter fun f => inS S f.2).map ((fun b => sideI S b k) ∘ fun f => f.2.1 * S.C + f.2.2) = ((fieldsI k).filter fun f => inS S f.2).map (·.1) := by
    refine List.map_congr_left fun f hf => ?_
    obtain ⟨h1, h2⟩ := List.mem_filter.mp hf
    exact field_side ev h1 h2
  rw [e]
  exact (List.filter_sublist.map _ : (((fieldsI k).filter fun f => inS S f.2).map (·.1)).Sublist ((fieldsI k).map (·.1)))
theorem lack_sides (ev : (k.1 + k.2) % 2 = 0) : ((lackI S T k).map fun b => sideI S b k).Sublist [0, 1, 2, 3] := (List.filter_sublist.map _).trans (bars_sides ev)
theorem sub_asc {xs : List Int} (h : xs.Sublist [0, 1, 2, 3]) : xs.Pairwise (· < ·) ∧ ∀ x ∈ xs, 0 ≤ x ∧ x ≤ 3 :=
  ⟨List.Pairwise.sublist h (by simp), fun x hx => by
    have := h.subset hx
    simp only [List.mem_cons, List.not_mem_nil, or_false] at this
    omega⟩
end
end Tr
end FL
namespace FL
open PySem PySem.Spec L2 DL
namespace Tr
open Pe Wk
end Tr
end FL
namespace FL
open PySem PySem.Spec L2 DL
namespace Tr
open Pe Wk
end Tr
end FL
namespace FL
open PySem PySem.Spec L2 DL
namespace Tr
open Pe Wk
end Tr
end FL
namespace FL
open PySem PySem.Spec L2 DL
namespace Tr
open Pe Wk
end Tr
end FL
namespace FL
open PySem PySem.Spec L2 DL
namespace Tr
open Pe Wk
end Tr
end FL
namespace FL
open PySem PySem.Spec L2 DL
namespace Tr
open Pe Wk
section
variable {S : Sheet} {T : List Int} {nx : Kn → Int → Option Int} {L : List (List Dt)}
theorem knots_nd : (knotsI S).Nodup := by
  unfold knotsI
  rw [List.nodup_iff_pairwise_ne, List.pairwise_flatMap]
  have rn : (rgI (S.R + 1)).Pairwise (· ≠ ·) := by
    unfold rgI
    rw [List.pairwise_map]
    exact List.nodup_range.imp fun h e => h (by omega)
  refine ⟨fun r _ => ?_, rn.imp fun {r r'} h x hx y hy e => ?_⟩
  · unfold rowK
    refine List.Pairwise.filter _ ?_
    rw [List.pairwise_map]
    unfold rgI
    rw [List.pairwise_map]
    exact List.nodup_range.imp fun h e => h (by have := congrArg Prod.snd e; simp only at this; omega)
  · unfold rowK at hx hy
    obtain ⟨a, _, rfl⟩ := List.mem_map.mp (List.mem_filter.mp hx).1
    obtain ⟨b, _, rfl⟩ := List.mem_map.mp (List.mem_filter.mp hy).1
    exact h (congrArg Prod.fst e)
end
end Tr
end FL
namespace FL
open PySem PySem.Spec L2 DL
namespace Tr
open Pe Wk
end Tr
end FL
namespace FL
open PySem PySem.Spec L2 DL
namespace Tr
open Pe Wk
end Tr
end FL
namespace FL
open PySem PySem.Spec L2 DL
namespace Tr
open Pe Wk
section
variable {S : Sheet} {T : List Int} {nx : Kn → Int → Option Int} {L : List (List Dt)}
theorem holes_part (hT : IsTear S T) : (∀ h ∈ holesI S T, ∃ b ∈ T, h = compI S T b) ∧ (holesI S T).Pairwise (fun h g => ∀ x ∈ h, x ∉ g) ∧ ∀ b ∈ T, ∃ h ∈ holesI S T, b ∈ h := by
  have key : ∀ (xs : List Int) (found : List (List Int)), (∀ b ∈ xs, b ∈ T) → (∀ h ∈ found, ∃ b ∈ T, h = compI S T b) → found.Pairwise (fun h g => ∀ x ∈ h, x ∉ g) →
      (∀ h ∈ xs.foldl (stepH S T) found, ∃ b ∈ T, h = compI S T b) ∧ (xs.foldl (stepH S T) found).Pairwise (fun h g => ∀ x ∈ h, x ∉ g) ∧ (∀ h ∈ found, h ∈ xs.foldl (stepH S T) found) ∧ ∀ b ∈ xs, ∃ h ∈ xs.foldl (stepH S T) found, b ∈ h := by
    intro xs
    induction xs with
    | nil => exact fun found _ h1 h2 => ⟨h1, h2, fun h hh => hh, fun _ h => nomatch h⟩
    | cons b xs ih =>
      intro found hx h1 h2
      have bT := hx b List.mem_cons_self
      rw [List.foldl_cons]
      have st : (∀ h ∈ stepH S T found b, ∃ b ∈ T, h = compI S T b) ∧ (stepH S T found b).Pairwise (fun h g => ∀ x ∈ h, x ∉ g) ∧ (∀ h ∈ found, h ∈ stepH S T found b) ∧ ∃ h ∈ stepH S T found b, b ∈ h := by
        unfold stepH
        by_cases c : (found.any fun h => decide (b ∈ h)) = true
        · rw [if_pos c]
          obtain ⟨h, hh, e⟩ := List.any_eq_true.mp c
          exact ⟨h1, h2, fun h hh => hh, h, hh, of_decide_eq_true e⟩
        · rw [if_neg c]
          have nb : ∀ h ∈ found, b ∉ h := fun h hh z => c (List.any_eq_true.mpr ⟨h, hh, decide_eq_true z⟩)
          refine ⟨fun h hh => ?_, ?_, fun h hh => List.mem_append_left _ hh, compI S T b, List.mem_append_right _ (by simp), mem_comp.mpr ⟨bT, .refl⟩⟩
          · rcases List.mem_append.mp hh with hh | hh
            · exact h1 h hh
            · exact ⟨b, bT, List.mem_singleton.mp hh⟩
          · refine List.pairwise_append.mpr ⟨h2, List.pairwise_singleton _ _, fun h hh g hg x hx hxg => ?_⟩
            rw [List.mem_singleton.mp hg] at hxg
            obtain ⟨c', cT, rfl⟩ := h1 h hh
            refine nb _ hh (mem_comp.mpr ⟨bT, ?_⟩)
            exact Reach.trans (mem_comp.mp hx).2 (reach_symm hT bT (mem_comp.mp hxg).2)
      obtain ⟨s1, s2, s3, h, hh, hb⟩ := st
      obtain ⟨i1, i2, i3, i4⟩ := ih (stepH S T found b) (fun x hx' => hx x (List.mem_cons_of_mem _ hx')) s1 s2
      refine ⟨i1, i2, fun h hh => i3 h (s3 h hh), fun x hx' => ?_⟩
      rcases List.mem_cons.mp hx' with rfl | hx'
      · exact ⟨h, i3 h hh, hb⟩
      · exact i4 x hx'
  obtain ⟨a, b, _, d⟩ := key T [] (fun _ h => h) (fun _ h => nomatch h) .nil
  exact ⟨a, b, d⟩
theorem lack_nd (hT : IsTear S T) {k : Kn} (hk : k ∈ knotsI S) : (lackI S T k).Nodup := by
  have sd := sub_asc (lack_sides (S := S) (T := T) (mem_knotsI.mp hk).2.2)
  have := sd.1
  rw [List.pairwise_map] at this
  exact this.imp fun h e => by rw [e] at h; omega
theorem knot_hole (hT : IsTear S T) {b0 : Int} {k : Kn} (hk : k ∈ knotsOf S (compI S T b0)) : k ∈ knotsI S ∧ lackI S T k ≠ [] ∧ ∀ b ∈ lackI S T k, b ∈ compI S T b0 := by
  obtain ⟨x, hx, he⟩ := mem_knotsOf.mp hk
  have xT := (mem_comp.mp hx).1
  have kk := ends_knots (hT.inb x xT) he
  refine ⟨kk, fun z => ?_, fun b hb => ?_⟩
  · have := (dart_of hT xT he).b
    rw [z] at this
    cases this
  · obtain ⟨bT, hbk⟩ := Dart.mem (d := (k, b)) hT ⟨kk, hb⟩
    exact mem_comp.mpr ⟨bT, .step (mem_comp.mp hx).2 ((mem_nbT hT).mpr ⟨bT, nearB_iff.mpr ⟨k, he, hbk⟩⟩)⟩
end
end Tr
end FL
namespace FL
open PySem PySem.Spec L2 DL
namespace Tr
open Pe Wk
end Tr
end FL
namespace FL
open PySem PySem.Spec L2 DL
namespace Tr
open Pe Wk
end Tr
end FL
namespace FL
open PySem PySem.Spec L2 DL
namespace Tr
open Pe Wk
end Tr
end FL
namespace FL
open PySem PySem.Spec L2 DL
namespace Tr
open Pe Wk
end Tr
end FL
namespace FL
open PySem PySem.Spec L2 DL
namespace Tr
open Pe Wk
end Tr
end FL
namespace FL
open PySem PySem.Spec L2 DL
namespace Tr
open Pe Wk
end Tr
namespace Wy
end Wy
end FL
namespace FL
open PySem PySem.Spec L2 DL
namespace Tr
open Pe Wk
end Tr
end FL
namespace FL
open PySem PySem.Spec L2 DL
namespace Tr
open Pe Wk
end Tr
end FL
namespace FL
open PySem PySem.Spec L2 DL
namespace Tr
open Pe Wk
end Tr
end FL
namespace FL
open PySem PySem.Spec L2 DL
namespace Tr
open Pe Wk
end Tr
end FL
namespace FL
open PySem PySem.Spec L2 DL
namespace Tr
open Pe Wk
end Tr
end FL
namespace FL
open PySem PySem.Spec L2 DL
namespace Tr
open Pe Wk
end Tr
end FL
namespace FL
open PySem PySem.Spec L2 DL
namespace Tr
open Pe Wk
section
variable {S : Sheet} {T : List Int} {nx : Kn → Int → Option Int} {L : List (List Dt)}
theorem comp_hole (hT : IsTear S T) {b : Int} (hb : b ∈ T) : IsHole S (compI S T b) := by
  have hh := comp_tear hT (b := b)
  have bh : b ∈ compI S T b := mem_comp.mpr ⟨hb, .refl⟩
  refine ⟨hh, b, bh, fun x hx => ?_⟩
  refine Reach.inv (P := fun c => Reach (nbT S (compI S T b)) b c) .refl (fun u v hu hv => ?_) (mem_comp.mp hx).2
  obtain ⟨vT, nr⟩ := (mem_nbT hT).mp hv
  have uh : u ∈ compI S T b := reach_T hh bh hu
  exact .step hu ((mem_nbT hh).mpr ⟨mem_comp.mpr ⟨vT, .step (mem_comp.mp uh).2 hv⟩, nr⟩)
theorem lack_same (hT : IsTear S T) {b0 : Int} {k : Kn} (hk : k ∈ knotsOf S (compI S T b0)) : lackI S (compI S T b0) k = lackI S T k := by
  obtain ⟨_, _, h⟩ := knot_hole hT hk
  refine List.filter_congr fun b hb => ?_
  by_cases c : b ∈ T
  · have : b ∈ compI S T b0 := h b (List.mem_filter.mpr ⟨hb, decide_eq_true c⟩)
    rw [decide_eq_true c, decide_eq_true this]
  · rw [decide_eq_false c, decide_eq_false fun z => c (mem_comp.mp z).1]
end
end Tr
end FL
namespace FL
open PySem PySem.Spec L2 DL
namespace Tu
end Tu
end FL
namespace DL
open PySem PySem.Spec L2
end DL
namespace DL
open PySem PySem.Spec L2
end DL
namespace DL
open PySem PySem.Spec L2
end DL
namespace DL
open PySem PySem.Spec L2
end DL
namespace DL
open PySem PySem.Spec L2
end DL
namespace FL
open PySem PySem.Spec L2 DL
section
variable {Rx : RX} {C : Addr} {i : Nat} {f m : Str}
/-- what __init__ leaves -/
def newD (r : RD) (ε : En) : Option (R DL.D) := match r with
  | .ok .none [new] => some (.ok new ε)
  | .ok _ _ => none
  | .ex x _ => some (.ex x ε)
theorem newD_ok {d : DL.D} {ε : En} : newD (.ok .none [d]) ε = some (.ok d ε) := rfl
theorem newD_ex {x : Exn} {o : List DL.D} {ε : En} : newD (.ex x o) ε = some (.ex x ε) := rfl
end
/-- the written values in the order of the parameters: sheet, tear -/
def gd1 (ds : List DL.D) : List DL.D := ds
def gd2 : List DL.D → List DL.D
  | [a, b] => [b, a]
  | ds => ds
def gd3 (ds : List DL.D) : List DL.D := ds ++ [.tuple []]
theorem gd1_eq {ds : List DL.D} : gd1 ds = ds := rfl
theorem gd2_eq {a b : DL.D} : gd2 [a, b] = [b, a] := rfl
theorem gd3_eq {a : DL.D} : gd3 [a] = [a, .tuple []] := rfl
end FL
namespace FL
open PySem PySem.Spec L2 DL
noncomputable section
def S_tear_faultS : FS :=
  (fRet (lf (pIf (tP (pUn (dIsi "tuple") (pNm 1))) (pCall F_trim_faultS [(pNm 0), (pTup []), (pNm 1)]) (pUn dNeg (pC (.int 1))))))
def F_tear_faultS : FD := runP [.val, .val] false 2 S_tear_faultS
def B_tear_errorS : FS :=
  (fEnd [2, 3] (fIf (lf (tOr (tNot (tP (pCall F_is_barS [(pNm 0), (pNm 3)]))) (tAnd (tP (pBin dGt (pNm 2) (pC (.int 0)))) (tP (pBin dLe (pNm 3) (pBin dAt (pNm 1) (pBin dSub (pNm 2) (pC (.int 1))))))))) (fRet (lf (pNm 2))) fNil))
def S_tear_errorS : FS :=
  (fSeq (fIf (lf (tNot (tP (pUn (dIsi "tuple") (pNm 1))))) (fRet (lf (pUn dNeg (pC (.int 1))))) fNil)
  (fKill [2, 3] (fSeq (fFor (lf (iEnu (pNm 1))) (.tup [(.nm 2), (.nm 3)]) B_tear_errorS)
  (fRet (lf (pC .none))))))
def F_tear_errorS : FD := runP [.val, .val] false 4 S_tear_errorS
end
namespace Lo
open Pe Bf Wk Tu
end Lo
end FL
namespace L09
open PySem PySem.Spec L2 DL FL
noncomputable section
def B_law_flat : FS :=
  (fEnd [0, 2] (fDo (mMut 1 fExtA [(lf (pNm 2))])))
def S_law_flat : FS :=
  (fSeq (fSet 1 (lf (pLst [])))
  (fKill [2] (fSeq (fFor (lf (iSeq (pNm 0))) (.nm 2) B_law_flat)
  (fRetO 1))))
def F_law_flat : FD := runP [.val] false 3 S_law_flat
def B_law_1 : FS :=
  (fEnd [0, 2, 5, 7, 8, 9, 11, 12, 13, 14, 15] (fSeq (fSet 12 (lf (pUn dSortSetM (pCall F_law_flat [(pLc (iSeq (pNm 11)) (.nm 13) tYes (pCall F_ends_of [(pNm 3), (pNm 13)]) [13])]))))
  (fSeq (fIf (lf (tOr (tP (pBin dNe (pLc (iSeq (pNm 12)) (.nm 8) (tP (pBin dIn (pNm 8) (pNm 6))) (pNm 8) [8]) (pLst []))) (tP (pBin dNe (pCall F_holes [(pNm 3), (pNm 11)]) (pTup [(pNm 11)]))))) (fRet (lf (pC (.bool false)))) fNil)
  (fSeq (fSet 14 (lf (pApp dTuple [(pLc (iSeq (pNm 12)) (.nm 8) (tP (pBin dIn (pNm 8) (pNm 10))) (pNm 8) [8])])))
  (fSeq (fIf (lf (tOr (tP (pBin dNe (pCall F_odd [(pNm 3), (pNm 11)]) (pNm 14))) (tP (pUn (dNotInRg 0 99 2) (pApp dLen [(pNm 14)]))))) (fRet (lf (pC (.bool false)))) fNil)
  (fDo (mMut 6 fExtA [(lf (pNm 12))])))))))
def B_law_2 : FS :=
  (fEnd [0, 2, 5, 6, 7, 8, 9, 10, 11, 12, 13, 14, 15] (fIf (lf (tP (pBin dNe (pCall F_lacks [(pNm 3), (pNm 4), (pNm 8)]) (pApp dLen [(pCall F_bars_of [(pNm 3), (pNm 8)])])))) (fRet (lf (pC (.bool false)))) fNil))
def B_law_3 : FS :=
  (fEnd [0, 2, 3, 4, 5, 6, 7, 8, 9, 10, 11, 12, 13, 14, 15] (fSeq (fSet 3 (mCall F_law_sheet [1] [(mNm 1), (mEx (lf (pC (.int 8))))]))
  (fSeq (fPar [4, 5, 6] [(mCall F_law_tear [1] [(mNm 1), (mNm 3)]), (lf (pCall F_knots [(pNm 3)])), (lf (pLst []))])
  (fSeq (fSet 7 (lf (pLc (iSeq (pNm 5)) (.nm 8) tYes (pCall F_lacks [(pNm 3), (pNm 4), (pNm 8)]) [8])))
  (fSeq (fIf (lf (tOr (tP (pBin dIsNot (pCall F_tear_errorS [(pNm 3), (pNm 4)]) (pC .none))) (tP (pBin dNe (pApp dSum [(pNm 7)]) (pBin dMul (pC (.int 2)) (pApp dLen [(pNm 4)])))))) (fRet (lf (pC (.bool false)))) fNil)
  (fSeq (fPar [9, 10] [(lf (pCall F_holes [(pNm 3), (pNm 4)])), (lf (pCall F_odd [(pNm 3), (pNm 4)]))])
  (fSeq (fIf (lf (tOr (tP (pUn (dNotInRg 0 99 2) (pApp dLen [(pNm 10)]))) (tP (pBin dNe (pApp dTuple [(pApp dSorted [(pCall F_law_flat [(pNm 9)])])]) (pNm 4))))) (fRet (lf (pC (.bool false)))) fNil)
  (fKill [0, 2, 5, 7, 8, 11, 12, 13, 14, 15] (fSeq (fFor (lf (iSeq (pNm 9))) (.nm 11) B_law_1)
  (fSeq (fSet 13 (mCall F_draw [1] [(mNm 1), (mEx (lf (pBin dMul (pBin dAt (pNm 3) (pC (.int 0))) (pBin dAt (pNm 3) (pC (.int 1))))))]))
  (fSeq (fSet 15 (lf (pApp dTuple [(pXor 4 13)])))
  (fSeq (fIf (lf (tP (pXorNe (pCall F_odd [(pNm 3), (pNm 15)]) (pNm 10) (pCall F_ends_of [(pNm 3), (pNm 13)])))) (fRet (lf (pC (.bool false)))) fNil)
  (fKill [0, 2, 5, 6, 7, 8, 9, 10, 11, 12, 13, 14, 15] (fFor (lf (iSeq (pCall F_lost [(pNm 3), (pNm 4)]))) (.nm 8) B_law_2))))))))))))))
def S_law : FS :=
  (fKill [0, 2, 3, 4, 5, 6, 7, 8, 9, 10, 11, 12, 13, 14, 15] (fSeq (fFor (lf (iApp rng1 [(pC (.int 6))])) (.nm 2) B_law_3)
  (fRet (lf (pC (.bool true))))))
end
end L09
namespace L09
open PySem PySem.Spec L2 DL FL
section
variable {P : Program} {w : World} {K : PySem.W.Frag} {mg : Str → Option Value} {base : Heap}
def W_law_draw : WS :=
  (sSeq (sPut 0 fSetL (eBin dAdd (.ex (eBin dAt (.nm 0) (.ex (eC (.int 3))))) (.ex (eC (.int 1)))) (eC (.int 3)))
  (sSeq (sIf (tE (eBin dGt (.ex (eBin dAt (.nm 0) (.ex (eC (.int 2))))) (.ex (eC (.int 0))))) (sSeq (sSet 2 (eBin dMod (.ex (eApp dInt [(.ex (eBin dAt (.nm 0) (.ex (eC (.int 2)))))])) (.nm 1)))
  (sSeq (sPut 0 fSetL (eBin dFdiv (.ex (eBin dAt (.nm 0) (.ex (eC (.int 2))))) (.nm 1)) (eC (.int 2)))
  (sRet (eNm 2)))) sNil)
  (sSeq (sSet 3 (eC (.int 83)))
  (sSeq (sIf (tE (eBin dNe (.ex (eBin dAt (.nm 0) (.ex (eC (.int 0))))) (.ex (eLst [])))) (sSet 3 (eBin dAt (.ex (eBin dAt (.nm 0) (.ex (eC (.int 0))))) (.ex (eBin dMod (.ex (eApp dInt [(.ex (eBin dAt (.nm 0) (.ex (eC (.int 1)))))])) (.ex (eApp dLen [(.ex (eBin dAt (.nm 0) (.ex (eC (.int 0)))))])))))) sNil)
  (sSeq (sPut 0 fSetL (eBin dAdd (.ex (eBin dAt (.nm 0) (.ex (eC (.int 1))))) (.ex (eC (.int 1)))) (eC (.int 1)))
  (sSeq (sIf (tAndW (tE (eBin dGe (.ex (eApp dAbs [(.nm 3)])) (.ex (eBin dPow (.ex (eC (.int 10))) (.ex (eC (.int 18))))))) (tE (eBin dLe (.ex (eBin dAt (.nm 0) (.ex (eC (.int 1))))) (.ex (eApp dLen [(.ex (eBin dAt (.nm 0) (.ex (eC (.int 0)))))]))))) (sSeq (sPut 0 fSetL (eBin dFdiv (.ex (eApp dAbs [(.nm 3)])) (.nm 1)) (eC (.int 2)))
  (sRet (eBin dMod (.ex (eApp dInt [(.ex (eApp dAbs [(.nm 3)]))])) (.nm 1)))) sNil)
  (sSeq (sSet 4 (eBin dMod (.ex (eBin dPow (.ex (eApp dInt [(.ex (eBin dAdd (.ex (eBin dMod (.ex (eApp dInt [(.nm 3)])) (.ex (eC (.int 2147483563))))) (.ex (eBin dMul (.ex (eC (.int 77232917))) (.ex (eBin dAt (.nm 0) (.ex (eC (.int 3)))))))))])) (.ex (eC (.int 5))))) (.ex (eC (.int 2147483399)))))
  (sSeq (sSet 4 (eBin dMod (.ex (eBin dPow (.ex (eApp dInt [(.ex (eBin dAdd (.ex (eBin dMul (.nm 4) (.ex (eBin dAdd (.ex (eBin dMul (.ex (eC (.int 2))) (.ex (eBin dAt (.nm 0) (.ex (eC (.int 3))))))) (.ex (eC (.int 7))))))) (.ex (eC (.int 6449)))))])) (.ex (eC (.int 3))))) (.ex (eC (.int 2147483647)))))
  (sRet (eBin dMod (.ex (eBin dFdiv (.nm 4) (.ex (eC (.int 32))))) (.nm 1)))))))))))
theorem body_law_draw (T : Tx mg) {f : Addr} {cdv : Value} {A : Around} {outer : List Env} {s : Shared} {H : Hp} {E : XK} (hr : Room 0 (A.deeper (PyProof.Rows.envOfC "_law_draw" (defScope s_law_draw) s.heap.objs.size f cdv))) (hgd : (A.deeper (PyProof.Rows.envOfC "_law_draw" (defScope s_law_draw) s.heap.objs.size f cdv)).guards = some []) :
    DSs (CxD.no (cxOf CX0 P w K mg base N_law_draw "_law_draw" (defScope s_law_draw) f cdv A outer s H E).nox) κ_law_draw fr_law_draw (defBody s_law_draw) (W_law_draw) :=
  (dss_cons (ds_put (i := 0) (set_all (hu65 hr)) setL_ok (de_opC op_addA add_ok (de_ix (ix_all (hu65 hr)) at_ok (do_nm 0) (de_int).op) de_int) de_int)
  (dss_cons (ds_if (dt_cmp op_gt gt_ok ((de_ix (ix_all (hu65 hr)) at_ok (do_nm 0) (de_int).op)).op (de_int).op (nomark _)) (dss_cons (ds_set (i := 2) sc_law_draw.nd (de_op op_mod mod_ok ((de_callTy call_int1 int_ok (by rfl) T.int (by decide +kernel) (da_cons ((de_ix (ix_all (hu65 hr)) at_ok (do_nm 0) (de_int).op)).op da_nil))).op (do_nm 1)))
  (dss_cons (ds_put (i := 0) (set_all (hu65 hr)) setL_ok (de_op op_fdiv fdiv_ok ((de_ix (ix_all (hu65 hr)) at_ok (do_nm 0) (de_int).op)).op (do_nm 1)) de_int)
  (dss_one (ds_ret (de_nm 2))))) dss_nil)
  (dss_cons (ds_set (i := 3) sc_law_draw.nd de_int)
  (dss_cons (ds_if (dt_cmp (op_ne.or (op_neD hr.units)) ne_ok ((de_ix (ix_all (hu65 hr)) at_ok (do_nm 0) (de_int).op)).op (((df_lst dc_nil)).de).op (nomark _)) (dss_one (ds_set (i := 3) sc_law_draw.nd (de_ix (ix_all (hu65 hr)) at_ok ((de_ix (ix_all (hu65 hr)) at_ok (do_nm 0) (de_int).op)).op ((de_op op_mod mod_ok ((de_callTy call_int1 int_ok (by rfl) T.int (by decide +kernel) (da_cons ((de_ix (ix_all (hu65 hr)) at_ok (do_nm 0) (de_int).op)).op da_nil))).op ((de_callB call_len len_ok (by rfl) T.len (by decide +kernel) (da_cons ((de_ix (ix_all (hu65 hr)) at_ok (do_nm 0) (de_int).op)).op da_nil))).op)).op))) dss_nil)
  (dss_cons (ds_put (i := 0) (set_all (hu65 hr)) setL_ok (de_opC op_addA add_ok (de_ix (ix_all (hu65 hr)) at_ok (do_nm 0) (de_int).op) de_int) de_int)
  (dss_cons (ds_if ((dw_and (dt_cmp op_ge ge_ok ((de_callB call_abs abs_ok (by rfl) T.abs (by decide +kernel) (da_cons (do_nm 3) da_nil))).op ((de_op op_pow pow_ok (de_int).op (de_int).op)).op (nomark _)) (dw_and1 (dt_cmp op_le le_ok ((de_ix (ix_all (hu65 hr)) at_ok (do_nm 0) (de_int).op)).op ((de_callB call_len len_ok (by rfl) T.len (by decide +kernel) (da_cons ((de_ix (ix_all (hu65 hr)) at_ok (do_nm 0) (de_int).op)).op da_nil))).op (nomark _))))).dt (dss_cons (ds_put (i := 0) (set_all (hu65 hr)) setL_ok (de_op op_fdiv fdiv_ok ((de_callB call_abs abs_ok (by rfl) T.abs (by decide +kernel) (da_cons (do_nm 3) da_nil))).op (do_nm 1)) de_int)
  (dss_one (ds_ret (de_op op_mod mod_ok ((de_callTy call_int1 int_ok (by rfl) T.int (by decide +kernel) (da_cons ((de_callB call_abs abs_ok (by rfl) T.abs (by decide +kernel) (da_cons (do_nm 3) da_nil))).op da_nil))).op (do_nm 1))))) dss_nil)
  (dss_cons (ds_set (i := 4) sc_law_draw.nd (de_op op_mod mod_ok ((de_op op_pow pow_ok ((de_callTy call_int1 int_ok (by rfl) T.int (by decide +kernel) (da_cons ((de_opC op_addA add_ok (de_op op_mod mod_ok ((de_callTy call_int1 int_ok (by rfl) T.int (by decide +kernel) (da_cons (do_nm 3) da_nil))).op (de_int).op) (de_op op_mulA mul_ok (de_int).op ((de_ix (ix_all (hu65 hr)) at_ok (do_nm 0) (de_int).op)).op))).op da_nil))).op (de_int).op)).op (de_int).op))
  (dss_cons (ds_set (i := 4) sc_law_draw.nd (de_op op_mod mod_ok ((de_op op_pow pow_ok ((de_callTy call_int1 int_ok (by rfl) T.int (by decide +kernel) (da_cons ((de_opC op_addA add_ok (de_op op_mulA mul_ok (do_nm 4) ((de_opC op_addA add_ok (de_op op_mulA mul_ok (de_int).op ((de_ix (ix_all (hu65 hr)) at_ok (do_nm 0) (de_int).op)).op) de_int)).op) de_int)).op da_nil))).op (de_int).op)).op (de_int).op))
  (dss_one (ds_ret (de_op op_mod mod_ok ((de_op op_fdiv fdiv_ok (do_nm 4) (de_int).op)).op (do_nm 1))))))))))))
theorem is_law_draw : IS RX.no (W_law_draw) FL.S_draw :=
  (is_seq (is_put ((ip_bin ((ip_bin ipo_nm (ip_C).o)).o (ip_C).o)).e (ip_C).e)
  (is_seq (is_if ((it_P (ip_bin ((ip_bin ipo_nm (ip_C).o)).o (ip_C).o))).t (is_seq (is_set ((ip_bin ((ip_app (ipa_c ((ip_bin ipo_nm (ip_C).o)).o ipa_n))).o ipo_nm)).e)
  (is_seq (is_put ((ip_bin ((ip_bin ipo_nm (ip_C).o)).o ipo_nm)).e (ip_C).e)
  (is_ret (ip_nm).e))) is_nil)
  (is_seq (is_set (ip_C).e)
  (is_seq (is_if ((it_P (ip_bin ((ip_bin ipo_nm (ip_C).o)).o ((ip_lst ipc_n)).o))).t (is_set ((ip_bin ((ip_bin ipo_nm (ip_C).o)).o ((ip_bin ((ip_app (ipa_c ((ip_bin ipo_nm (ip_C).o)).o ipa_n))).o ((ip_app (ipa_c ((ip_bin ipo_nm (ip_C).o)).o ipa_n))).o)).o)).e) is_nil)
  (is_seq (is_put ((ip_bin ((ip_bin ipo_nm (ip_C).o)).o (ip_C).o)).e (ip_C).e)
  (is_seq (is_if ((it_and (it_P (ip_bin ((ip_app (ipa_c ipo_nm ipa_n))).o ((ip_bin (ip_C).o (ip_C).o)).o)) (it_P (ip_bin ((ip_bin ipo_nm (ip_C).o)).o ((ip_app (ipa_c ((ip_bin ipo_nm (ip_C).o)).o ipa_n))).o)))).t (is_seq (is_put ((ip_bin ((ip_app (ipa_c ipo_nm ipa_n))).o ipo_nm)).e (ip_C).e)
  (is_ret ((ip_bin ((ip_app (ipa_c ((ip_app (ipa_c ipo_nm ipa_n))).o ipa_n))).o ipo_nm)).e)) is_nil)
  (is_seq (is_set ((ip_bin ((ip_bin ((ip_app (ipa_c ((ip_bin ((ip_bin ((ip_app (ipa_c ipo_nm ipa_n))).o (ip_C).o)).o ((ip_bin (ip_C).o ((ip_bin ipo_nm (ip_C).o)).o)).o)).o ipa_n))).o (ip_C).o)).o (ip_C).o)).e)
  (is_seq (is_set ((ip_bin ((ip_bin ((ip_app (ipa_c ((ip_bin ((ip_bin ipo_nm ((ip_bin ((ip_bin (ip_C).o ((ip_bin ipo_nm (ip_C).o)).o)).o (ip_C).o)).o)).o (ip_C).o)).o ipa_n))).o (ip_C).o)).o (ip_C).o)).e)
  (is_ret ((ip_bin ((ip_bin ipo_nm (ip_C).o)).o ipo_nm)).e)))))))))
theorem cal_law_draw (T : Tx mg) {f : Addr} {fd : FuncData} (F : Fun K "_law_draw" "_law_draw" s_law_draw f fd) (g : mg "_law_draw" = some (.ref f)) : Cal P w K mg base 1 "_law_draw" ps_law_draw pk_law_draw fr_law_draw (spM F_draw) :=
  ⟨⟨f, fd, fn_okD F sc_law_draw (fun cdv A outer s H E hr hgd => body_law_draw T hr hgd) (fun ds Q _ h => snd_M is_law_draw ds Q h), g, F.kp, F.binds fun _ _ _ _ _ _ us hl => match us, hl with | [_, _], _ => rfl⟩, spM_mono⟩
def W_law_one (sp_law_draw : DSp) : WS :=
  (sRet (eBin dAt (.nm 1) (.ex (eCall pk_law_draw sp_law_draw [(.nm 0), (.ex (eApp dLen [(.nm 1)]))]))))
theorem body_law_one (T : Tx mg) {sp_law_draw : DSp} (C_law_draw : Cal P w K mg base 1 "_law_draw" ps_law_draw pk_law_draw fr_law_draw sp_law_draw) {f : Addr} {cdv : Value} {A : Around} {outer : List Env} {s : Shared} {H : Hp} {E : XK} (hr : Room 1 (A.deeper (PyProof.Rows.envOfC "_law_one" (defScope s_law_one) s.heap.objs.size f cdv))) (hgd : (A.deeper (PyProof.Rows.envOfC "_law_one" (defScope s_law_one) s.heap.objs.size f cdv)).guards = some []) :
    DSs (CxD.no (cxOf CX0 P w K mg base N_law_one "_law_one" (defScope s_law_one) f cdv A outer s H E).nox) κ_law_one fr_law_one (defBody s_law_one) (W_law_one sp_law_draw) :=
  (dss_one (ds_ret (de_ix (ix_all (hu65 hr)) at_ok (do_nm 1) ((de_call C_law_draw (hr.mono (by decide)) hgd (da_cons (do_nm 0) (da_cons ((de_callB call_len len_ok (by rfl) T.len (by decide +kernel) (da_cons (do_nm 1) da_nil))).op da_nil)))).op)))
theorem is_law_one : IS RX.no (W_law_one (spM F_draw)) S_law_one :=
  (is_ret (ie_bin imo_nm (IE.o (ie_call (ima_c imo_nm (ima_c (IE.o ((ip_app (ipa_c ipo_nm ipa_n))).e) ima_n))))))
theorem cal_law_one (T : Tx mg) (C_law_draw : Cal P w K mg base 1 "_law_draw" ps_law_draw pk_law_draw fr_law_draw (spM F_draw)) {f : Addr} {fd : FuncData} (F : Fun K "_law_one" "_law_one" s_law_one f fd) (g : mg "_law_one" = some (.ref f)) : Cal P w K mg base 2 "_law_one" ps_law_one pk_law_one fr_law_one (spM F_law_one) :=
  ⟨⟨f, fd, fn_okD F sc_law_one (fun cdv A outer s H E hr hgd => body_law_one T C_law_draw hr hgd) (fun ds Q _ h => snd_M is_law_one ds Q h), g, F.kp, F.binds fun _ _ _ _ _ _ us hl => match us, hl with | [_, _], _ => rfl⟩, spM_mono⟩
def W_law_sheet (sp_law_one : DSp) (sp_law_draw : DSp) : WS :=
  (sSeq (sSet 2 (eCall pk_law_one sp_law_one [(.nm 0), (.ex (eLst [(eNm 1), (eNm 1), (eApp dMin2 [(.nm 1), (.ex (eC (.int 4)))]), (eApp dMin2 [(.nm 1), (.ex (eC (.int 3)))])]))]))
  (sRet (eTup [(eBin dAdd (.ex (eC (.int 1))) (.ex (eCall pk_law_draw sp_law_draw [(.nm 0), (.nm 2)]))), (eBin dAdd (.ex (eC (.int 1))) (.ex (eCall pk_law_draw sp_law_draw [(.nm 0), (.nm 2)])))])))
theorem body_law_sheet (T : Tx mg) {sp_law_one : DSp} {sp_law_draw : DSp} (C_law_one : Cal P w K mg base 2 "_law_one" ps_law_one pk_law_one fr_law_one sp_law_one) (C_law_draw : Cal P w K mg base 1 "_law_draw" ps_law_draw pk_law_draw fr_law_draw sp_law_draw) {f : Addr} {cdv : Value} {A : Around} {outer : List Env} {s : Shared} {H : Hp} {E : XK} (hr : Room 2 (A.deeper (PyProof.Rows.envOfC "_law_sheet" (defScope s_law_sheet) s.heap.objs.size f cdv))) (hgd : (A.deeper (PyProof.Rows.envOfC "_law_sheet" (defScope s_law_sheet) s.heap.objs.size f cdv)).guards = some []) :
    DSs (CxD.no (cxOf CX0 P w K mg base N_law_sheet "_law_sheet" (defScope s_law_sheet) f cdv A outer s H E).nox) κ_law_sheet fr_law_sheet (defBody s_law_sheet) (W_law_sheet sp_law_one sp_law_draw) :=
  (dss_cons (ds_set (i := 2) sc_law_sheet.nd (de_call C_law_one (hr.mono (by decide)) hgd (da_cons (do_nm 0) (da_cons (((df_lst (dc_cons (de_nm 1) (dc_cons (de_nm 1) (dc_cons (de_callB (call_min2 rfl) min2_ok (by rfl) T.min (by decide +kernel) (da_cons (do_nm 1) (da_cons (de_int).op da_nil))) (dc_cons (de_callB (call_min2 rfl) min2_ok (by rfl) T.min (by decide +kernel) (da_cons (do_nm 1) (da_cons (de_int).op da_nil))) dc_nil)))))).de).op da_nil))))
  (dss_one (ds_ret (de_tup (dc_cons (de_opC op_addA add_ok de_int (de_call C_law_draw (hr.mono (by decide)) hgd (da_cons (do_nm 0) (da_cons (do_nm 2) da_nil)))) (dc_cons (de_opC op_addA add_ok de_int (de_call C_law_draw (hr.mono (by decide)) hgd (da_cons (do_nm 0) (da_cons (do_nm 2) da_nil)))) dc_nil))))))
theorem is_law_sheet : IS RX.no (W_law_sheet (spM F_law_one) (spM F_draw)) S_law_sheet :=
  (is_seq (is_set (ie_call (ima_c imo_nm (ima_c (IE.o ((ip_lst (ipc_c ip_nm (ipc_c ip_nm (ipc_c (ip_app (ipa_c ipo_nm (ipa_c (ip_C).o ipa_n))) (ipc_c (ip_app (ipa_c ipo_nm (ipa_c (ip_C).o ipa_n))) ipc_n)))))).e) ima_n))))
  (is_ret (ie_tup (imc_c (ie_bin (IE.o (ip_C).e) (IE.o (ie_call (ima_c imo_nm (ima_c imo_nm ima_n))))) (imc_c (ie_bin (IE.o (ip_C).e) (IE.o (ie_call (ima_c imo_nm (ima_c imo_nm ima_n))))) imc_n)))))
theorem cal_law_sheet (T : Tx mg) (C_law_one : Cal P w K mg base 2 "_law_one" ps_law_one pk_law_one fr_law_one (spM F_law_one)) (C_law_draw : Cal P w K mg base 1 "_law_draw" ps_law_draw pk_law_draw fr_law_draw (spM F_draw)) {f : Addr} {fd : FuncData} (F : Fun K "_law_sheet" "_law_sheet" s_law_sheet f fd) (g : mg "_law_sheet" = some (.ref f)) : Cal P w K mg base 3 "_law_sheet" ps_law_sheet pk_law_sheet fr_law_sheet (spM F_law_sheet) :=
  ⟨⟨f, fd, fn_okD F sc_law_sheet (fun cdv A outer s H E hr hgd => body_law_sheet T C_law_one C_law_draw hr hgd) (fun ds Q _ h => snd_M is_law_sheet ds Q h), g, F.kp, F.binds fun _ _ _ _ _ _ us hl => match us, hl with | [_, _], _ => rfl⟩, spM_mono⟩
def W_knots : WS :=
  (sSeq (sSet 1 (eLst []))
  (sKill [2] (sSeq (sFor (wApp rng1 [(.ex (eBin dAdd (.ex (eBin dAt (.nm 0) (.ex (eC (.int 0))))) (.ex (eC (.int 1)))))]) (.nm 2) (sEnd [2] (sDo (eMut 1 fExtA [(eLc (wApp rng1 [(.ex (eBin dAdd (.ex (eBin dAt (.nm 0) (.ex (eC (.int 1))))) (.ex (eC (.int 1)))))]) (.nm 3) (tE (eBin dEq (.ex (eBin dMod (.ex (eBin dAdd (.ex (eNm 2)) (.ex (eNm 3)))) (.ex (eC (.int 2))))) (.ex (eC (.int 0))))) (eTup [(eNm 2), (eNm 3)]) [3])]))))
  (sRet (eApp dTuple [(.nm 1)])))))
theorem body_knots (T : Tx mg) {f : Addr} {cdv : Value} {A : Around} {outer : List Env} {s : Shared} {H : Hp} {E : XK} (hr : Room 0 (A.deeper (PyProof.Rows.envOfC "knots" (defScope s_knots) s.heap.objs.size f cdv))) (hgd : (A.deeper (PyProof.Rows.envOfC "knots" (defScope s_knots) s.heap.objs.size f cdv)).guards = some []) :
    DSs (CxD.no (cxOf CX0 P w K mg base N_knots "knots" (defScope s_knots) f cdv A outer s H E).nox) κ_knots fr_knots (defBody s_knots) (W_knots) :=
  (dss_cons (ds_setF (i := 1) sc_knots.nd (df_lst dc_nil))
  (dss_kill [2] (dss_cons (ds_for PassesOwn.never rfl (di_rng1 (by rfl) T.range (da_cons ((de_opC op_addA add_ok (de_ix (ix_all (hu65 hr)) at_ok (do_nm 0) (de_int).op) de_int)).op da_nil)) (dg_nm 2 sc_knots.nd) (dss_end [2] (dss_one (ds_expr (de_mut (i := 1) PySem.F.slot_list_extend PySem.F.type_list_extend mt_extA extA_ok (dc_cons ((df_lc (own := [("c", 3)]) (sl := []) rfl sc_knots.nd (di_rng1 (by rfl) T.range (da_cons ((de_opC op_addA add_ok (de_ix (ix_all (hu65 hr)) at_ok (do_nm 0) (de_int).op) de_int)).op da_nil)) (blkOk_by (by first | exact (show blkC N_knots (defScope s_knots) _ _ = true from by decide +kernel) | rfl)) (fun _ _ _ _ _ => (dg_nm 3 sc_knots.nd)) (fun _ _ _ _ _ => (dts_one (dt_cmp (op_eq.or (op_eqD hr.units)) eq_ok ((de_op op_mod mod_ok ((de_opC op_addA add_ok (de_nm 2) (de_nm 3))).op (de_int).op)).op (de_int).op (nomark _)))) (fun _ _ _ _ _ => (de_tup (dc_cons (de_nm 2) (dc_cons (de_nm 3) dc_nil)))))).de dc_nil))))))
  (dss_one (ds_ret (de_callTy call_tuple_of tuple_ok (by rfl) T.tuple (by decide +kernel) (da_cons (do_nm 1) da_nil)))))))
theorem is_knots : IS RX.no (W_knots) S_knots :=
  (is_seq (is_set ((ip_lst ipc_n)).e)
  (is_kill (is_seq (is_for (II.m (ii_app (ipa_c ((ip_bin ((ip_bin ipo_nm (ip_C).o)).o (ip_C).o)).o ipa_n))) (is_end (is_do (ie_mut (imc_c ((ip_lc (sl := []) (ii_app (ipa_c ((ip_bin ((ip_bin ipo_nm (ip_C).o)).o (ip_C).o)).o ipa_n)) (it_P (ip_bin ((ip_bin ((ip_bin (ip_nm).o (ip_nm).o)).o (ip_C).o)).o (ip_C).o)) (ip_tup (ipc_c ip_nm (ipc_c ip_nm ipc_n))))).e imc_n)))))
  (is_ret ((ip_app (ipa_c ipo_nm ipa_n))).e))))
theorem cal_knots (T : Tx mg) {f : Addr} {fd : FuncData} (F : Fun K "knots" "knots" s_knots f fd) (g : mg "knots" = some (.ref f)) : Cal P w K mg base 1 "knots" ps_knots pk_knots fr_knots (spP F_knots) :=
  ⟨⟨f, fd, fn_okD F sc_knots (fun cdv A outer s H E hr hgd => body_knots T hr hgd) (fun ds Q _ h => snd_P is_knots (by rfl) ds Q h), g, F.kp, F.binds fun _ _ _ _ _ _ us hl => match us, hl with | [_], _ => rfl⟩, spP_mono⟩
def W_bars_of : WS :=
  (sSeq (sUnp (.tup [(.nm 2), (.nm 3)]) (eNm 1))
  (sSeq (sSet 4 (eLst [(eTup [(eBin dSub (.nm 2) (.ex (eC (.int 1)))), (eBin dSub (.nm 3) (.ex (eC (.int 1))))]), (eTup [(eBin dSub (.nm 2) (.ex (eC (.int 1)))), (eNm 3)]), (eTup [(eNm 2), (eBin dSub (.nm 3) (.ex (eC (.int 1))))]), (eTup [(eNm 2), (eNm 3)])]))
  (sRet (eApp dTuple [(.ex (eLc (wSeq (eNm 4)) (.tup [(.nm 5), (.nm 6)]) (tAndW (tE (eChain dLe dLt (.ex (eC (.int 0))) (.nm 5) (.ex (eBin dAt (.nm 0) (.ex (eC (.int 0))))))) (tE (eChain dLe dLt (.ex (eC (.int 0))) (.nm 6) (.ex (eBin dAt (.nm 0) (.ex (eC (.int 1)))))))) (eBin dAdd (.ex (eBin dMul (.nm 5) (.ex (eBin dAt (.nm 0) (.ex (eC (.int 1))))))) (.ex (eNm 6))) [5, 6]))]))))
theorem body_bars_of (T : Tx mg) {f : Addr} {cdv : Value} {A : Around} {outer : List Env} {s : Shared} {H : Hp} {E : XK} (hr : Room 0 (A.deeper (PyProof.Rows.envOfC "bars_of" (defScope s_bars_of) s.heap.objs.size f cdv))) (hgd : (A.deeper (PyProof.Rows.envOfC "bars_of" (defScope s_bars_of) s.heap.objs.size f cdv)).guards = some []) :
    DSs (CxD.no (cxOf CX0 P w K mg base N_bars_of "bars_of" (defScope s_bars_of) f cdv A outer s H E).nox) κ_bars_of fr_bars_of (defBody s_bars_of) (W_bars_of) :=
  (dss_cons (ds_unp (de_nm 1) (dg_tup rfl (dgs_cons (dg_nm 2 sc_bars_of.nd) (dgs_cons (dg_nm 3 sc_bars_of.nd) dgs_nil))))
  (dss_cons (ds_set (i := 4) sc_bars_of.nd ((df_lst (dc_cons (de_tup (dc_cons (de_op op_sub sub_ok (do_nm 2) (de_int).op) (dc_cons (de_op op_sub sub_ok (do_nm 3) (de_int).op) dc_nil))) (dc_cons (de_tup (dc_cons (de_op op_sub sub_ok (do_nm 2) (de_int).op) (dc_cons (de_nm 3) dc_nil))) (dc_cons (de_tup (dc_cons (de_nm 2) (dc_cons (de_op op_sub sub_ok (do_nm 3) (de_int).op) dc_nil))) (dc_cons (de_tup (dc_cons (de_nm 2) (dc_cons (de_nm 3) dc_nil))) dc_nil)))))).de)
  (dss_one (ds_ret (de_callTy call_tuple_of tuple_ok (by rfl) T.tuple (by decide +kernel) (da_cons (((df_lc (own := [("row", 5), ("col", 6)]) (sl := []) rfl sc_bars_of.nd (di_seq (de_nm 4)) (blkOk_by (by first | exact (show blkC N_bars_of (defScope s_bars_of) _ _ = true from by decide +kernel) | rfl)) (fun _ _ _ _ _ => (dg_tup rfl (dgs_cons (dg_nm 5 sc_bars_of.nd) (dgs_cons (dg_nm 6 sc_bars_of.nd) dgs_nil)))) (fun _ _ _ _ _ => (dts_one ((dw_and (dt_chain op_le le_okB op_lt lt_okB (de_int).op (do_nm 5) ((de_ix (ix_all (hu65 hr)) at_ok (do_nm 0) (de_int).op)).op (by rfl)) (dw_and1 (dt_chain op_le le_okB op_lt lt_okB (de_int).op (do_nm 6) ((de_ix (ix_all (hu65 hr)) at_ok (do_nm 0) (de_int).op)).op (by rfl))))).dt)) (fun _ _ _ _ _ => (de_opC op_addA add_ok (de_op op_mulA mul_ok (do_nm 5) ((de_ix (ix_all (hu65 hr)) at_ok (do_nm 0) (de_int).op)).op) (de_nm 6))))).de).op da_nil))))))
theorem is_bars_of : IS RX.no (W_bars_of) S_bars_of :=
  (is_seq (is_unp (ip_nm).e)
  (is_seq (is_set ((ip_lst (ipc_c (ip_tup (ipc_c (ip_bin ipo_nm (ip_C).o) (ipc_c (ip_bin ipo_nm (ip_C).o) ipc_n))) (ipc_c (ip_tup (ipc_c (ip_bin ipo_nm (ip_C).o) (ipc_c ip_nm ipc_n))) (ipc_c (ip_tup (ipc_c ip_nm (ipc_c (ip_bin ipo_nm (ip_C).o) ipc_n))) (ipc_c (ip_tup (ipc_c ip_nm (ipc_c ip_nm ipc_n))) ipc_n)))))).e)
  (is_ret ((ip_app (ipa_c ((ip_lc (sl := []) (ii_seq ip_nm) (it_and (it_P (ip_chain (ip_C).o ipo_nm ((ip_bin ipo_nm (ip_C).o)).o)) (it_P (ip_chain (ip_C).o ipo_nm ((ip_bin ipo_nm (ip_C).o)).o))) (ip_bin ((ip_bin ipo_nm ((ip_bin ipo_nm (ip_C).o)).o)).o (ip_nm).o))).o ipa_n))).e)))
theorem cal_bars_of (T : Tx mg) {f : Addr} {fd : FuncData} (F : Fun K "bars_of" "bars_of" s_bars_of f fd) (g : mg "bars_of" = some (.ref f)) : Cal P w K mg base 1 "bars_of" ps_bars_of pk_bars_of fr_bars_of (spP F_bars_of) :=
  ⟨⟨f, fd, fn_okD F sc_bars_of (fun cdv A outer s H E hr hgd => body_bars_of T hr hgd) (fun ds Q _ h => snd_P is_bars_of (by rfl) ds Q h), g, F.kp, F.binds fun _ _ _ _ _ _ us hl => match us, hl with | [_, _], _ => rfl⟩, spP_mono⟩
def W_lacking (sp_bars_of : DSp) : WS :=
  (sRet (eApp dTuple [(.ex (eLc (wSeq (eCall pk_bars_of sp_bars_of [(.nm 0), (.nm 2)])) (.nm 3) (tE (eBin dIn (.nm 3) (.nm 1))) (eNm 3) [3]))]))
theorem body_lacking (T : Tx mg) {sp_bars_of : DSp} (C_bars_of : Cal P w K mg base 1 "bars_of" ps_bars_of pk_bars_of fr_bars_of sp_bars_of) {f : Addr} {cdv : Value} {A : Around} {outer : List Env} {s : Shared} {H : Hp} {E : XK} (hr : Room 1 (A.deeper (PyProof.Rows.envOfC "lacking" (defScope s_lacking) s.heap.objs.size f cdv))) (hgd : (A.deeper (PyProof.Rows.envOfC "lacking" (defScope s_lacking) s.heap.objs.size f cdv)).guards = some []) :
    DSs (CxD.no (cxOf CX0 P w K mg base N_lacking "lacking" (defScope s_lacking) f cdv A outer s H E).nox) κ_lacking fr_lacking (defBody s_lacking) (W_lacking sp_bars_of) :=
  (dss_one (ds_ret (de_callTy call_tuple_of tuple_ok (by rfl) T.tuple (by decide +kernel) (da_cons (((df_lc (own := [("bar", 3)]) (sl := []) rfl sc_lacking.nd (di_seq (de_call C_bars_of (hr.mono (by decide)) hgd (da_cons (do_nm 0) (da_cons (do_nm 2) da_nil)))) (blkOk_by (by first | exact (show blkC N_lacking (defScope s_lacking) _ _ = true from by decide +kernel) | rfl)) (fun _ _ _ _ _ => (dg_nm 3 sc_lacking.nd)) (fun _ _ _ _ _ => (dts_one (dt_cmp (op_inA (hu65 hr)) in_ok (do_nm 3) (do_nm 1) (by rfl)))) (fun _ _ _ _ _ => (de_nm 3)))).de).op da_nil))))
theorem is_lacking : IS RX.no (W_lacking (spP F_bars_of)) S_lacking :=
  (is_ret ((ip_app (ipa_c ((ip_lc (sl := []) (ii_seq (ip_call (ipa_c ipo_nm (ipa_c ipo_nm ipa_n)))) (it_P (ip_bin ipo_nm ipo_nm)) ip_nm)).o ipa_n))).e)
theorem cal_lacking (T : Tx mg) (C_bars_of : Cal P w K mg base 1 "bars_of" ps_bars_of pk_bars_of fr_bars_of (spP F_bars_of)) {f : Addr} {fd : FuncData} (F : Fun K "lacking" "lacking" s_lacking f fd) (g : mg "lacking" = some (.ref f)) : Cal P w K mg base 2 "lacking" ps_lacking pk_lacking fr_lacking (spP F_lacking) :=
  ⟨⟨f, fd, fn_okD F sc_lacking (fun cdv A outer s H E hr hgd => body_lacking T C_bars_of hr hgd) (fun ds Q _ h => snd_P is_lacking (by rfl) ds Q h), g, F.kp, F.binds fun _ _ _ _ _ _ us hl => match us, hl with | [_, _, _], _ => rfl⟩, spP_mono⟩
def W_lacks (sp_lacking : DSp) : WS :=
  (sRet (eApp dLen [(.ex (eCall pk_lacking sp_lacking [(.nm 0), (.nm 1), (.nm 2)]))]))
theorem body_lacks (T : Tx mg) {sp_lacking : DSp} (C_lacking : Cal P w K mg base 2 "lacking" ps_lacking pk_lacking fr_lacking sp_lacking) {f : Addr} {cdv : Value} {A : Around} {outer : List Env} {s : Shared} {H : Hp} {E : XK} (hr : Room 2 (A.deeper (PyProof.Rows.envOfC "lacks" (defScope s_lacks) s.heap.objs.size f cdv))) (hgd : (A.deeper (PyProof.Rows.envOfC "lacks" (defScope s_lacks) s.heap.objs.size f cdv)).guards = some []) :
    DSs (CxD.no (cxOf CX0 P w K mg base N_lacks "lacks" (defScope s_lacks) f cdv A outer s H E).nox) κ_lacks fr_lacks (defBody s_lacks) (W_lacks sp_lacking) :=
  (dss_one (ds_ret (de_callB call_len len_ok (by rfl) T.len (by decide +kernel) (da_cons ((de_call C_lacking (hr.mono (by decide)) hgd (da_cons (do_nm 0) (da_cons (do_nm 1) (da_cons (do_nm 2) da_nil))))).op da_nil))))
theorem is_lacks : IS RX.no (W_lacks (spP F_lacking)) S_lacks :=
  (is_ret ((ip_app (ipa_c ((ip_call (ipa_c ipo_nm (ipa_c ipo_nm (ipa_c ipo_nm ipa_n))))).o ipa_n))).e)
theorem cal_lacks (T : Tx mg) (C_lacking : Cal P w K mg base 2 "lacking" ps_lacking pk_lacking fr_lacking (spP F_lacking)) {f : Addr} {fd : FuncData} (F : Fun K "lacks" "lacks" s_lacks f fd) (g : mg "lacks" = some (.ref f)) : Cal P w K mg base 3 "lacks" ps_lacks pk_lacks fr_lacks (spP F_lacks) :=
  ⟨⟨f, fd, fn_okD F sc_lacks (fun cdv A outer s H E hr hgd => body_lacks T C_lacking hr hgd) (fun ds Q _ h => snd_P is_lacks (by rfl) ds Q h), g, F.kp, F.binds fun _ _ _ _ _ _ us hl => match us, hl with | [_, _, _], _ => rfl⟩, spP_mono⟩
def W_lost (sp_knots : DSp) (sp_lacks : DSp) (sp_bars_of : DSp) : WS :=
  (sRet (eApp dTuple [(.ex (eLc (wSeq (eCall pk_knots sp_knots [(.nm 0)])) (.nm 2) (tE (eBin dEq (.ex (eCall pk_lacks sp_lacks [(.nm 0), (.nm 1), (.nm 2)])) (.ex (eApp dLen [(.ex (eCall pk_bars_of sp_bars_of [(.nm 0), (.nm 2)]))])))) (eNm 2) [2]))]))
theorem body_lost (T : Tx mg) {sp_knots : DSp} {sp_lacks : DSp} {sp_bars_of : DSp} (C_knots : Cal P w K mg base 1 "knots" ps_knots pk_knots fr_knots sp_knots) (C_lacks : Cal P w K mg base 3 "lacks" ps_lacks pk_lacks fr_lacks sp_lacks) (C_bars_of : Cal P w K mg base 1 "bars_of" ps_bars_of pk_bars_of fr_bars_of sp_bars_of) {f : Addr} {cdv : Value} {A : Around} {outer : List Env} {s : Shared} {H : Hp} {E : XK} (hr : Room 3 (A.deeper (PyProof.Rows.envOfC "lost" (defScope s_lost) s.heap.objs.size f cdv))) (hgd : (A.deeper (PyProof.Rows.envOfC "lost" (defScope s_lost) s.heap.objs.size f cdv)).guards = some []) :
    DSs (CxD.no (cxOf CX0 P w K mg base N_lost "lost" (defScope s_lost) f cdv A outer s H E).nox) κ_lost fr_lost (defBody s_lost) (W_lost sp_knots sp_lacks sp_bars_of) :=
  (dss_one (ds_ret (de_callTy call_tuple_of tuple_ok (by rfl) T.tuple (by decide +kernel) (da_cons (((df_lc (own := [("knot", 2)]) (sl := []) rfl sc_lost.nd (di_seq (de_call C_knots (hr.mono (by decide)) hgd (da_cons (do_nm 0) da_nil))) (blkOk_by (by first | exact (show blkC N_lost (defScope s_lost) _ _ = true from by decide +kernel) | rfl)) (fun _ _ _ _ _ => (dg_nm 2 sc_lost.nd)) (fun _ _ _ _ _ => (dts_one (dt_cmp (op_eq.or (op_eqD hr.units)) eq_ok ((de_call C_lacks (hr.mono (by decide)) hgd (da_cons (do_nm 0) (da_cons (do_nm 1) (da_cons (do_nm 2) da_nil))))).op ((de_callB call_len len_ok (by rfl) T.len (by decide +kernel) (da_cons ((de_call C_bars_of (hr.mono (by decide)) hgd (da_cons (do_nm 0) (da_cons (do_nm 2) da_nil)))).op da_nil))).op (nomark _)))) (fun _ _ _ _ _ => (de_nm 2)))).de).op da_nil))))
theorem is_lost : IS RX.no (W_lost (spP F_knots) (spP F_lacks) (spP F_bars_of)) S_lost :=
  (is_ret ((ip_app (ipa_c ((ip_lc (sl := []) (ii_seq (ip_call (ipa_c ipo_nm ipa_n))) (it_P (ip_bin ((ip_call (ipa_c ipo_nm (ipa_c ipo_nm (ipa_c ipo_nm ipa_n))))).o ((ip_app (ipa_c ((ip_call (ipa_c ipo_nm (ipa_c ipo_nm ipa_n)))).o ipa_n))).o)) ip_nm)).o ipa_n))).e)
theorem cal_lost (T : Tx mg) (C_knots : Cal P w K mg base 1 "knots" ps_knots pk_knots fr_knots (spP F_knots)) (C_lacks : Cal P w K mg base 3 "lacks" ps_lacks pk_lacks fr_lacks (spP F_lacks)) (C_bars_of : Cal P w K mg base 1 "bars_of" ps_bars_of pk_bars_of fr_bars_of (spP F_bars_of)) {f : Addr} {fd : FuncData} (F : Fun K "lost" "lost" s_lost f fd) (g : mg "lost" = some (.ref f)) : Cal P w K mg base 4 "lost" ps_lost pk_lost fr_lost (spP F_lost) :=
  ⟨⟨f, fd, fn_okD F sc_lost (fun cdv A outer s H E hr hgd => body_lost T C_knots C_lacks C_bars_of hr hgd) (fun ds Q _ h => snd_P is_lost (by rfl) ds Q h), g, F.kp, F.binds fun _ _ _ _ _ _ us hl => match us, hl with | [_, _], _ => rfl⟩, spP_mono⟩
def W_law_ends : WS :=
  (sSeq (sPar [2, 3] [(eBin dFdiv (.nm 1) (.ex (eBin dAt (.nm 0) (.ex (eC (.int 1)))))), (eBin dMod (.ex (eApp dInt [(.nm 1)])) (.ex (eBin dAt (.nm 0) (.ex (eC (.int 1))))))])
  (sSeq (sIf (tE (eBin dEq (.ex (eBin dMod (.ex (eApp dInt [(.ex (eBin dAdd (.ex (eNm 2)) (.ex (eNm 3))))])) (.ex (eC (.int 2))))) (.ex (eC (.int 0))))) (sRet (eTup [(eTup [(eNm 2), (eNm 3)]), (eTup [(eBin dAdd (.ex (eNm 2)) (.ex (eC (.int 1)))), (eBin dAdd (.ex (eNm 3)) (.ex (eC (.int 1))))])])) sNil)
  (sRet (eTup [(eTup [(eNm 2), (eBin dAdd (.ex (eNm 3)) (.ex (eC (.int 1))))]), (eTup [(eBin dAdd (.ex (eNm 2)) (.ex (eC (.int 1)))), (eNm 3)])]))))
theorem body_law_ends (T : Tx mg) {f : Addr} {cdv : Value} {A : Around} {outer : List Env} {s : Shared} {H : Hp} {E : XK} (hr : Room 0 (A.deeper (PyProof.Rows.envOfC "_law_ends" (defScope s_law_ends) s.heap.objs.size f cdv))) (hgd : (A.deeper (PyProof.Rows.envOfC "_law_ends" (defScope s_law_ends) s.heap.objs.size f cdv)).guards = some []) :
    DSs (CxD.no (cxOf CX0 P w K mg base N_law_ends "_law_ends" (defScope s_law_ends) f cdv A outer s H E).nox) κ_law_ends fr_law_ends (defBody s_law_ends) (W_law_ends) :=
  (dss_cons (ds_par2 rfl sc_law_ends.nd (dm_val (de_op op_fdiv fdiv_ok (do_nm 1) ((de_ix (ix_all (hu65 hr)) at_ok (do_nm 0) (de_int).op)).op) (dm_val (de_op op_mod mod_ok ((de_callTy call_int1 int_ok (by rfl) T.int (by decide +kernel) (da_cons (do_nm 1) da_nil))).op ((de_ix (ix_all (hu65 hr)) at_ok (do_nm 0) (de_int).op)).op) dm_nil)))
  (dss_cons (ds_if (dt_cmp (op_eq.or (op_eqD hr.units)) eq_ok ((de_op op_mod mod_ok ((de_callTy call_int1 int_ok (by rfl) T.int (by decide +kernel) (da_cons ((de_opC op_addA add_ok (de_nm 2) (de_nm 3))).op da_nil))).op (de_int).op)).op (de_int).op (nomark _)) (dss_one (ds_ret (de_tup (dc_cons (de_tup (dc_cons (de_nm 2) (dc_cons (de_nm 3) dc_nil))) (dc_cons (de_tup (dc_cons (de_opC op_addA add_ok (de_nm 2) de_int) (dc_cons (de_opC op_addA add_ok (de_nm 3) de_int) dc_nil))) dc_nil))))) dss_nil)
  (dss_one (ds_ret (de_tup (dc_cons (de_tup (dc_cons (de_nm 2) (dc_cons (de_opC op_addA add_ok (de_nm 3) de_int) dc_nil))) (dc_cons (de_tup (dc_cons (de_opC op_addA add_ok (de_nm 2) de_int) (dc_cons (de_nm 3) dc_nil))) dc_nil)))))))
theorem is_law_ends : IS RX.no (W_law_ends) S_law_ends :=
  (is_seq (is_par (imc_c ((ip_bin ipo_nm ((ip_bin ipo_nm (ip_C).o)).o)).e (imc_c ((ip_bin ((ip_app (ipa_c ipo_nm ipa_n))).o ((ip_bin ipo_nm (ip_C).o)).o)).e imc_n)))
  (is_seq (is_if ((it_P (ip_bin ((ip_bin ((ip_app (ipa_c ((ip_bin (ip_nm).o (ip_nm).o)).o ipa_n))).o (ip_C).o)).o (ip_C).o))).t (is_ret ((ip_tup (ipc_c (ip_tup (ipc_c ip_nm (ipc_c ip_nm ipc_n))) (ipc_c (ip_tup (ipc_c (ip_bin (ip_nm).o (ip_C).o) (ipc_c (ip_bin (ip_nm).o (ip_C).o) ipc_n))) ipc_n)))).e) is_nil)
  (is_ret ((ip_tup (ipc_c (ip_tup (ipc_c ip_nm (ipc_c (ip_bin (ip_nm).o (ip_C).o) ipc_n))) (ipc_c (ip_tup (ipc_c (ip_bin (ip_nm).o (ip_C).o) (ipc_c ip_nm ipc_n))) ipc_n)))).e)))
theorem cal_law_ends (T : Tx mg) {f : Addr} {fd : FuncData} (F : Fun K "_law_ends" "_law_ends" s_law_ends f fd) (g : mg "_law_ends" = some (.ref f)) : Cal P w K mg base 1 "_law_ends" ps_law_ends pk_law_ends fr_law_ends (spP F_law_ends) :=
  ⟨⟨f, fd, fn_okD F sc_law_ends (fun cdv A outer s H E hr hgd => body_law_ends T hr hgd) (fun ds Q _ h => snd_P is_law_ends (by rfl) ds Q h), g, F.kp, F.binds fun _ _ _ _ _ _ us hl => match us, hl with | [_, _], _ => rfl⟩, spP_mono⟩
def W_law_is_near (sp_law_ends : DSp) : WS :=
  (sSeq (sUnp (.tup [(.nm 3), (.nm 4)]) (eCall pk_law_ends sp_law_ends [(.nm 0), (.nm 1)]))
  (sRet (eOr (eBin dIn (.nm 3) (.nm 2)) (eBin dIn (.nm 4) (.nm 2)))))
theorem body_law_is_near (T : Tx mg) {sp_law_ends : DSp} (C_law_ends : Cal P w K mg base 1 "_law_ends" ps_law_ends pk_law_ends fr_law_ends sp_law_ends) {f : Addr} {cdv : Value} {A : Around} {outer : List Env} {s : Shared} {H : Hp} {E : XK} (hr : Room 1 (A.deeper (PyProof.Rows.envOfC "_law_is_near" (defScope s_law_is_near) s.heap.objs.size f cdv))) (hgd : (A.deeper (PyProof.Rows.envOfC "_law_is_near" (defScope s_law_is_near) s.heap.objs.size f cdv)).guards = some []) :
    DSs (CxD.no (cxOf CX0 P w K mg base N_law_is_near "_law_is_near" (defScope s_law_is_near) f cdv A outer s H E).nox) κ_law_is_near fr_law_is_near (defBody s_law_is_near) (W_law_is_near sp_law_ends) :=
  (dss_cons (ds_unp (de_call C_law_ends (hr.mono (by decide)) hgd (da_cons (do_nm 0) (da_cons (do_nm 1) da_nil))) (dg_tup rfl (dgs_cons (dg_nm 3 sc_law_is_near.nd) (dgs_cons (dg_nm 4 sc_law_is_near.nd) dgs_nil))))
  (dss_one (ds_ret (de_or (de_cmp (op_inA (hu65 hr)) in_ok (do_nm 3) (do_nm 2) (by rfl)) (de_one (de_cmp (op_inA (hu65 hr)) in_ok (do_nm 4) (do_nm 2) (by rfl)))))))
theorem is_law_is_near : IS RX.no (W_law_is_near (spP F_law_ends)) S_law_is_near :=
  (is_seq (is_unp ((ip_call (ipa_c ipo_nm (ipa_c ipo_nm ipa_n)))).e)
  (is_ret ((ip_or (ip_bin ipo_nm ipo_nm) (ip_bin ipo_nm ipo_nm))).e))
theorem cal_law_is_near (T : Tx mg) (C_law_ends : Cal P w K mg base 1 "_law_ends" ps_law_ends pk_law_ends fr_law_ends (spP F_law_ends)) {f : Addr} {fd : FuncData} (F : Fun K "_law_is_near" "_law_is_near" s_law_is_near f fd) (g : mg "_law_is_near" = some (.ref f)) : Cal P w K mg base 2 "_law_is_near" ps_law_is_near pk_law_is_near fr_law_is_near (spP F_law_is_near) :=
  ⟨⟨f, fd, fn_okD F sc_law_is_near (fun cdv A outer s H E hr hgd => body_law_is_near T C_law_ends hr hgd) (fun ds Q _ h => snd_P is_law_is_near (by rfl) ds Q h), g, F.kp, F.binds fun _ _ _ _ _ _ us hl => match us, hl with | [_, _, _], _ => rfl⟩, spP_mono⟩
def W_law_tear (sp_law_draw : DSp) (sp_law_one : DSp) (sp_law_ends : DSp) (sp_law_is_near : DSp) : WS :=
  (sSeq (sPar [2, 3, 4] [(eBin dMul (.ex (eBin dAt (.nm 1) (.ex (eC (.int 0))))) (.ex (eBin dAt (.nm 1) (.ex (eC (.int 1)))))), (eCall pk_law_draw sp_law_draw [(.nm 0), (.ex (eC (.int 10)))]), (eCall pk_law_one sp_law_one [(.nm 0), (.ex (eLst [(eC (.int 2)), (eC (.int 3)), (eC (.int 5))]))])])
  (sSeq (sIf (tE (eBin dEq (.nm 3) (.ex (eC (.int 0))))) (sRet (eCall pk_law_one sp_law_one [(.nm 0), (.ex (eLst [(eTup []), (eUn dTupR1 (.nm 2))]))])) sNil)
  (sSeq (sIf (tE (eBin dLt (.nm 3) (.ex (eC (.int 4))))) (sRet (eApp dTuple [(.ex (eLc (wApp rng1 [(.nm 2)]) (.nm 5) (tE (eBin dEq (.ex (eCall pk_law_draw sp_law_draw [(.nm 0), (.nm 4)])) (.ex (eC (.int 0))))) (eNm 5) [5]))])) sNil)
  (sSeq (sIf (tE (eBin dLt (.nm 3) (.ex (eC (.int 7))))) (sRet (eApp dTuple [(.ex (eLc (wApp rng1 [(.nm 2)]) (.nm 5) (tE (eBin dGt (.ex (eCall pk_law_draw sp_law_draw [(.nm 0), (.nm 4)])) (.ex (eC (.int 0))))) (eNm 5) [5]))])) sNil)
  (sSeq (sSet 6 (eLst [(eCall pk_law_draw sp_law_draw [(.nm 0), (.nm 2)])]))
  (sSeq (sSet 7 (eApp dList [(.ex (eCall pk_law_ends sp_law_ends [(.nm 1), (.ex (eBin dAt (.nm 6) (.ex (eC (.int 0)))))]))]))
  (sKill [3, 4, 8, 9] (sSeq (sFor (wApp rng1 [(.ex (eCall pk_law_draw sp_law_draw [(.nm 0), (.ex (eApp dMin2 [(.nm 2), (.ex (eC (.int 30)))]))]))]) (.nm 8) (sEnd [3, 4, 8, 9] (sSeq (sSet 9 (eLc (wApp rng1 [(.nm 2)]) (.nm 5) (tAndW (tE (eBin dNotIn (.nm 5) (.nm 6))) (tE (eCall pk_law_is_near sp_law_is_near [(.nm 1), (.nm 5), (.nm 7)]))) (eNm 5) [5]))
  (sIf (tE (eBin dNe (.nm 9) (.ex (eLst [])))) (sSeq (sDo (eMut 6 fAppend [(eCall pk_law_one sp_law_one [(.nm 0), (.nm 9)])]))
  (sDo (eMut 7 fExtA [(eCall pk_law_ends sp_law_ends [(.nm 1), (.ex (eBin dAt (.nm 6) (.ex (eUn dNeg (.ex (eC (.int 1)))))))])]))) sNil))))
  (sRet (eApp dTuple [(.ex (eApp dSorted [(.nm 6)]))]))))))))))
theorem body_law_tear (T : Tx mg) {sp_law_draw : DSp} {sp_law_one : DSp} {sp_law_ends : DSp} {sp_law_is_near : DSp} (C_law_draw : Cal P w K mg base 1 "_law_draw" ps_law_draw pk_law_draw fr_law_draw sp_law_draw) (C_law_one : Cal P w K mg base 2 "_law_one" ps_law_one pk_law_one fr_law_one sp_law_one) (C_law_ends : Cal P w K mg base 1 "_law_ends" ps_law_ends pk_law_ends fr_law_ends sp_law_ends) (C_law_is_near : Cal P w K mg base 2 "_law_is_near" ps_law_is_near pk_law_is_near fr_law_is_near sp_law_is_near) {f : Addr} {cdv : Value} {A : Around} {outer : List Env} {s : Shared} {H : Hp} {E : XK} (hr : Room 2 (A.deeper (PyProof.Rows.envOfC "_law_tear" (defScope s_law_tear) s.heap.objs.size f cdv))) (hgd : (A.deeper (PyProof.Rows.envOfC "_law_tear" (defScope s_law_tear) s.heap.objs.size f cdv)).guards = some []) :
    DSs (CxD.no (cxOf CX0 P w K mg base N_law_tear "_law_tear" (defScope s_law_tear) f cdv A outer s H E).nox) κ_law_tear fr_law_tear (defBody s_law_tear) (W_law_tear sp_law_draw sp_law_one sp_law_ends sp_law_is_near) :=
  (dss_cons (ds_parT rfl (dm_val (de_op op_mulA mul_ok ((de_ix (ix_all (hu65 hr)) at_ok (do_nm 1) (de_int).op)).op ((de_ix (ix_all (hu65 hr)) at_ok (do_nm 1) (de_int).op)).op) (dm_val (de_call C_law_draw (hr.mono (by decide)) hgd (da_cons (do_nm 0) (da_cons (de_int).op da_nil))) (dm_val (de_call C_law_one (hr.mono (by decide)) hgd (da_cons (do_nm 0) (da_cons (((df_lst (dc_cons de_int (dc_cons de_int (dc_cons de_int dc_nil))))).de).op da_nil))) dm_nil))) (ngs_cons sc_law_tear.nd (ngs_cons sc_law_tear.nd (ngs_cons sc_law_tear.nd ngs_nil))))
  (dss_cons (ds_if (dt_cmp (op_eq.or (op_eqD hr.units)) eq_ok (do_nm 3) (de_int).op (nomark _)) (dss_one (ds_ret (de_call C_law_one (hr.mono (by decide)) hgd (da_cons (do_nm 0) (da_cons (((df_lst (dc_cons (de_tup dc_nil) (dc_cons (de_tupR1 rfl (by rfl) T.tuple (by rfl) T.range (do_nm 2)) dc_nil)))).de).op da_nil))))) dss_nil)
  (dss_cons (ds_if (dt_cmp op_lt lt_ok (do_nm 3) (de_int).op (nomark _)) (dss_one (ds_ret (de_callTy call_tuple_of tuple_ok (by rfl) T.tuple (by decide +kernel) (da_cons (((df_lc (own := [("_law_bar", 5)]) (sl := []) rfl sc_law_tear.nd (di_rng1 (by rfl) T.range (da_cons (do_nm 2) da_nil)) (blkOk_by (by first | exact (show blkC N_law_tear (defScope s_law_tear) _ _ = true from by decide +kernel) | rfl)) (fun _ _ _ _ _ => (dg_nm 5 sc_law_tear.nd)) (fun _ _ _ _ _ => (dts_one (dt_cmp (op_eq.or (op_eqD hr.units)) eq_ok ((de_call C_law_draw (hr.mono (by decide)) hgd (da_cons (do_nm 0) (da_cons (do_nm 4) da_nil)))).op (de_int).op (nomark _)))) (fun _ _ _ _ _ => (de_nm 5)))).de).op da_nil)))) dss_nil)
  (dss_cons (ds_if (dt_cmp op_lt lt_ok (do_nm 3) (de_int).op (nomark _)) (dss_one (ds_ret (de_callTy call_tuple_of tuple_ok (by rfl) T.tuple (by decide +kernel) (da_cons (((df_lc (own := [("_law_bar", 5)]) (sl := []) rfl sc_law_tear.nd (di_rng1 (by rfl) T.range (da_cons (do_nm 2) da_nil)) (blkOk_by (by first | exact (show blkC N_law_tear (defScope s_law_tear) _ _ = true from by decide +kernel) | rfl)) (fun _ _ _ _ _ => (dg_nm 5 sc_law_tear.nd)) (fun _ _ _ _ _ => (dts_one (dt_cmp op_gt gt_ok ((de_call C_law_draw (hr.mono (by decide)) hgd (da_cons (do_nm 0) (da_cons (do_nm 4) da_nil)))).op (de_int).op (nomark _)))) (fun _ _ _ _ _ => (de_nm 5)))).de).op da_nil)))) dss_nil)
  (dss_cons (ds_setF (i := 6) sc_law_tear.nd (df_lst (dc_cons (de_call C_law_draw (hr.mono (by decide)) hgd (da_cons (do_nm 0) (da_cons (do_nm 2) da_nil))) dc_nil)))
  (dss_cons (ds_setF (i := 7) sc_law_tear.nd (df_callTy (call_listA rfl) list_ok (by rfl) T.list (by decide +kernel) (da_cons ((de_call C_law_ends (hr.mono (by decide)) hgd (da_cons (do_nm 1) (da_cons ((de_ix (ix_all (hu65 hr)) at_ok (do_nm 6) (de_int).op)).op da_nil)))).op da_nil)))
  (dss_kill [3, 4, 8, 9] (dss_cons (ds_for PassesOwn.never rfl (di_rng1 (by rfl) T.range (da_cons ((de_call C_law_draw (hr.mono (by decide)) hgd (da_cons (do_nm 0) (da_cons ((de_callB (call_min2 rfl) min2_ok (by rfl) T.min (by decide +kernel) (da_cons (do_nm 2) (da_cons (de_int).op da_nil)))).op da_nil)))).op da_nil)) (dg_nm 8 sc_law_tear.nd) (dss_end [3, 4, 8, 9] (dss_cons (ds_setLc (i := 9) (own := [("_law_bar", 5)]) (sl := []) rfl sc_law_tear.nd (di_rng1 (by rfl) T.range (da_cons (do_nm 2) da_nil)) (blkOk_by (by first | exact (show blkC N_law_tear (defScope s_law_tear) _ _ = true from by decide +kernel) | rfl)) (fun _ _ _ _ _ => (dg_nm 5 sc_law_tear.nd)) (fun _ _ _ _ _ => (dts_one ((dw_and (dt_cmp (op_notInA (hu65 hr)) notIn_ok (do_nm 5) (do_nm 6) (by rfl)) (dw_and1 (dt_val (de_call C_law_is_near (hr.mono (by decide)) hgd (da_cons (do_nm 1) (da_cons (do_nm 5) (da_cons (do_nm 7) da_nil)))))))).dt)) (fun _ _ _ _ _ => (de_nm 5)) (sw_true rfl rfl rfl (by decide +kernel)))
  (dss_one (ds_if (dt_cmp (op_ne.or (op_neD hr.units)) ne_ok (do_nm 9) (((df_lst dc_nil)).de).op (nomark _)) (dss_cons (ds_expr (de_mut (i := 6) PySem.F.slot_list_append PySem.F.type_list_append mt_append append_ok (dc_cons (de_call C_law_one (hr.mono (by decide)) hgd (da_cons (do_nm 0) (da_cons (do_nm 9) da_nil))) dc_nil)))
  (dss_one (ds_expr (de_mut (i := 7) PySem.F.slot_list_extend PySem.F.type_list_extend mt_extA extA_ok (dc_cons (de_call C_law_ends (hr.mono (by decide)) hgd (da_cons (do_nm 1) (da_cons ((de_ix (ix_all (hu65 hr)) at_ok (do_nm 6) ((de_un un_neg neg_ok (de_int).op)).op)).op da_nil))) dc_nil))))) dss_nil)))))
  (dss_one (ds_ret (de_callTy call_tuple_of tuple_ok (by rfl) T.tuple (by decide +kernel) (da_cons (((df_callB (cr_sortedD hr) sorted_ok (by rfl) T.sorted (by decide +kernel) (da_cons (do_nm 6) da_nil))).de).op da_nil))))))))))))
theorem is_law_tear : IS RX.no (W_law_tear (spM F_draw) (spM F_law_one) (spP F_law_ends) (spP F_law_is_near)) S_law_tear :=
  (is_seq (is_par (imc_c ((ip_bin ((ip_bin ipo_nm (ip_C).o)).o ((ip_bin ipo_nm (ip_C).o)).o)).e (imc_c (ie_call (ima_c imo_nm (ima_c (IE.o (ip_C).e) ima_n))) (imc_c (ie_call (ima_c imo_nm (ima_c (IE.o ((ip_lst (ipc_c ip_C (ipc_c ip_C (ipc_c ip_C ipc_n))))).e) ima_n))) imc_n))))
  (is_seq (is_if ((it_P (ip_bin ipo_nm (ip_C).o))).t (is_ret (ie_call (ima_c imo_nm (ima_c (IE.o ((ip_lst (ipc_c (ip_tup ipc_n) (ipc_c (ip_un ipo_nm) ipc_n)))).e) ima_n)))) is_nil)
  (is_seq (is_if ((it_P (ip_bin ipo_nm (ip_C).o))).t (is_ret (ie_app (ima_c (IE.o (ie_lc (II.m (ii_app (ipa_c ipo_nm ipa_n))) (it_M (ie_bin (IE.o (ie_call (ima_c imo_nm (ima_c imo_nm ima_n)))) (IE.o (ip_C).e))) (ip_nm).e)) ima_n))) is_nil)
  (is_seq (is_if ((it_P (ip_bin ipo_nm (ip_C).o))).t (is_ret (ie_app (ima_c (IE.o (ie_lc (II.m (ii_app (ipa_c ipo_nm ipa_n))) (it_M (ie_bin (IE.o (ie_call (ima_c imo_nm (ima_c imo_nm ima_n)))) (IE.o (ip_C).e))) (ip_nm).e)) ima_n))) is_nil)
  (is_seq (is_set (ie_lst (imc_c (ie_call (ima_c imo_nm (ima_c imo_nm ima_n))) imc_n)))
  (is_seq (is_set ((ip_app (ipa_c ((ip_call (ipa_c ipo_nm (ipa_c ((ip_bin ipo_nm (ip_C).o)).o ipa_n)))).o ipa_n))).e)
  (is_kill (is_seq (is_for (iim_app (ima_c (IE.o (ie_call (ima_c imo_nm (ima_c (IE.o ((ip_app (ipa_c ipo_nm (ipa_c (ip_C).o ipa_n)))).e) ima_n)))) ima_n)) (is_end (is_seq (is_set ((ip_lc (sl := []) (ii_app (ipa_c ipo_nm ipa_n)) (it_and (it_P (ip_bin ipo_nm ipo_nm)) (it_P (ip_call (ipa_c ipo_nm (ipa_c ipo_nm (ipa_c ipo_nm ipa_n)))))) ip_nm)).e)
  (is_if ((it_P (ip_bin ipo_nm ((ip_lst ipc_n)).o))).t (is_seq (is_do (ie_mut (imc_c (ie_call (ima_c imo_nm (ima_c imo_nm ima_n))) imc_n)))
  (is_do (ie_mut (imc_c ((ip_call (ipa_c ipo_nm (ipa_c ((ip_bin ipo_nm ((ip_un (ip_C).o)).o)).o ipa_n)))).e imc_n)))) is_nil))))
  (is_ret ((ip_app (ipa_c ((ip_app (ipa_c ipo_nm ipa_n))).o ipa_n))).e)))))))))
theorem cal_law_tear (T : Tx mg) (C_law_draw : Cal P w K mg base 1 "_law_draw" ps_law_draw pk_law_draw fr_law_draw (spM F_draw)) (C_law_one : Cal P w K mg base 2 "_law_one" ps_law_one pk_law_one fr_law_one (spM F_law_one)) (C_law_ends : Cal P w K mg base 1 "_law_ends" ps_law_ends pk_law_ends fr_law_ends (spP F_law_ends)) (C_law_is_near : Cal P w K mg base 2 "_law_is_near" ps_law_is_near pk_law_is_near fr_law_is_near (spP F_law_is_near)) {f : Addr} {fd : FuncData} (F : Fun K "_law_tear" "_law_tear" s_law_tear f fd) (g : mg "_law_tear" = some (.ref f)) : Cal P w K mg base 3 "_law_tear" ps_law_tear pk_law_tear fr_law_tear (spM F_law_tear) :=
  ⟨⟨f, fd, fn_okD F sc_law_tear (fun cdv A outer s H E hr hgd => body_law_tear T C_law_draw C_law_one C_law_ends C_law_is_near hr hgd) (fun ds Q _ h => snd_M is_law_tear ds Q h), g, F.kp, F.binds fun _ _ _ _ _ _ us hl => match us, hl with | [_, _], _ => rfl⟩, spM_mono⟩
def W_ends_of : WS :=
  (sSeq (sPar [2, 3] [(eBin dFdiv (.nm 1) (.ex (eBin dAt (.nm 0) (.ex (eC (.int 1)))))), (eBin dMod (.nm 1) (.ex (eBin dAt (.nm 0) (.ex (eC (.int 1))))))])
  (sSeq (sIf (tE (eBin dEq (.ex (eBin dMod (.ex (eBin dAdd (.ex (eNm 2)) (.ex (eNm 3)))) (.ex (eC (.int 2))))) (.ex (eC (.int 0))))) (sRet (eTup [(eTup [(eNm 2), (eNm 3)]), (eTup [(eBin dAdd (.ex (eNm 2)) (.ex (eC (.int 1)))), (eBin dAdd (.ex (eNm 3)) (.ex (eC (.int 1))))])])) sNil)
  (sRet (eTup [(eTup [(eNm 2), (eBin dAdd (.ex (eNm 3)) (.ex (eC (.int 1))))]), (eTup [(eBin dAdd (.ex (eNm 2)) (.ex (eC (.int 1)))), (eNm 3)])]))))
theorem body_ends_of (T : Tx mg) {f : Addr} {cdv : Value} {A : Around} {outer : List Env} {s : Shared} {H : Hp} {E : XK} (hr : Room 0 (A.deeper (PyProof.Rows.envOfC "ends_of" (defScope s_ends_of) s.heap.objs.size f cdv))) (hgd : (A.deeper (PyProof.Rows.envOfC "ends_of" (defScope s_ends_of) s.heap.objs.size f cdv)).guards = some []) :
    DSs (CxD.no (cxOf CX0 P w K mg base N_ends_of "ends_of" (defScope s_ends_of) f cdv A outer s H E).nox) κ_ends_of fr_ends_of (defBody s_ends_of) (W_ends_of) :=
  (dss_cons (ds_par2 rfl sc_ends_of.nd (dm_val (de_op op_fdiv fdiv_ok (do_nm 1) ((de_ix (ix_all (hu65 hr)) at_ok (do_nm 0) (de_int).op)).op) (dm_val (de_op op_mod mod_ok (do_nm 1) ((de_ix (ix_all (hu65 hr)) at_ok (do_nm 0) (de_int).op)).op) dm_nil)))
  (dss_cons (ds_if (dt_cmp (op_eq.or (op_eqD hr.units)) eq_ok ((de_op op_mod mod_ok ((de_opC op_addA add_ok (de_nm 2) (de_nm 3))).op (de_int).op)).op (de_int).op (nomark _)) (dss_one (ds_ret (de_tup (dc_cons (de_tup (dc_cons (de_nm 2) (dc_cons (de_nm 3) dc_nil))) (dc_cons (de_tup (dc_cons (de_opC op_addA add_ok (de_nm 2) de_int) (dc_cons (de_opC op_addA add_ok (de_nm 3) de_int) dc_nil))) dc_nil))))) dss_nil)
  (dss_one (ds_ret (de_tup (dc_cons (de_tup (dc_cons (de_nm 2) (dc_cons (de_opC op_addA add_ok (de_nm 3) de_int) dc_nil))) (dc_cons (de_tup (dc_cons (de_opC op_addA add_ok (de_nm 2) de_int) (dc_cons (de_nm 3) dc_nil))) dc_nil)))))))
theorem is_ends_of : IS RX.no (W_ends_of) S_ends_of :=
  (is_seq (is_par (imc_c ((ip_bin ipo_nm ((ip_bin ipo_nm (ip_C).o)).o)).e (imc_c ((ip_bin ipo_nm ((ip_bin ipo_nm (ip_C).o)).o)).e imc_n)))
  (is_seq (is_if ((it_P (ip_bin ((ip_bin ((ip_bin (ip_nm).o (ip_nm).o)).o (ip_C).o)).o (ip_C).o))).t (is_ret ((ip_tup (ipc_c (ip_tup (ipc_c ip_nm (ipc_c ip_nm ipc_n))) (ipc_c (ip_tup (ipc_c (ip_bin (ip_nm).o (ip_C).o) (ipc_c (ip_bin (ip_nm).o (ip_C).o) ipc_n))) ipc_n)))).e) is_nil)
  (is_ret ((ip_tup (ipc_c (ip_tup (ipc_c ip_nm (ipc_c (ip_bin (ip_nm).o (ip_C).o) ipc_n))) (ipc_c (ip_tup (ipc_c (ip_bin (ip_nm).o (ip_C).o) (ipc_c ip_nm ipc_n))) ipc_n)))).e)))
theorem cal_ends_of (T : Tx mg) {f : Addr} {fd : FuncData} (F : Fun K "ends_of" "ends_of" s_ends_of f fd) (g : mg "ends_of" = some (.ref f)) : Cal P w K mg base 1 "ends_of" ps_ends_of pk_ends_of fr_ends_of (spP F_ends_of) :=
  ⟨⟨f, fd, fn_okD F sc_ends_of (fun cdv A outer s H E hr hgd => body_ends_of T hr hgd) (fun ds Q _ h => snd_P is_ends_of (by rfl) ds Q h), g, F.kp, F.binds fun _ _ _ _ _ _ us hl => match us, hl with | [_, _], _ => rfl⟩, spP_mono⟩
def W_hole_of (sp_ends_of : DSp) (sp_lacking : DSp) : WS :=
  (sSeq (sPar [3, 4] [(eDict1 (eNm 2) (eC (.bool true))), (eLst [(eNm 2)])])
  (sKill [2, 5, 6] (sSeq (sWhile (tE (eBin dNe (.nm 4) (.ex (eLst [])))) (sEnd [2, 5, 6] (sKill [2, 5, 6] (sFor (wSeq (eCall pk_ends_of sp_ends_of [(.nm 0), (.ex (eMut 4 fPop []))])) (.nm 5) (sEnd [2, 5, 6] (sKill [2, 6] (sFor (wSeq (eCall pk_lacking sp_lacking [(.nm 0), (.nm 1), (.nm 5)])) (.nm 6) (sEnd [2, 5, 6] (sIf (tE (eBin dNotIn (.nm 6) (.nm 3))) (sSeq (sPut 3 fSetL (eC (.bool true)) (eNm 6))
  (sDo (eMut 4 fAppend [(eNm 6)]))) sNil)))))))))
  (sRet (eApp dTuple [(.ex (eApp dSorted [(.nm 3)]))])))))
theorem body_hole_of (T : Tx mg) {sp_ends_of : DSp} {sp_lacking : DSp} (C_ends_of : Cal P w K mg base 1 "ends_of" ps_ends_of pk_ends_of fr_ends_of sp_ends_of) (C_lacking : Cal P w K mg base 2 "lacking" ps_lacking pk_lacking fr_lacking sp_lacking) {f : Addr} {cdv : Value} {A : Around} {outer : List Env} {s : Shared} {H : Hp} {E : XK} (hr : Room 2 (A.deeper (PyProof.Rows.envOfC "hole_of" (defScope s_hole_of) s.heap.objs.size f cdv))) (hgd : (A.deeper (PyProof.Rows.envOfC "hole_of" (defScope s_hole_of) s.heap.objs.size f cdv)).guards = some []) :
    DSs (CxD.no (cxOf CX0 P w K mg base N_hole_of "hole_of" (defScope s_hole_of) f cdv A outer s H E).nox) κ_hole_of fr_hole_of (defBody s_hole_of) (W_hole_of sp_ends_of sp_lacking) :=
  (dss_cons (ds_par2 rfl sc_hole_of.nd (dm_own (df_dict1 (hu65 hr) (de_nm 2) de_bl) (dm_own (df_lst (dc_cons (de_nm 2) dc_nil)) dm_nil)))
  (dss_kill [2, 5, 6] (dss_cons (ds_while PassesOwn.never (dt_cmp (op_ne.or (op_neD hr.units)) ne_ok (do_nm 4) (((df_lst dc_nil)).de).op (nomark _)) (dss_end [2, 5, 6] (dss_kill [2, 5, 6] (dss_one (ds_for PassesOwn.never rfl (di_seq (de_call C_ends_of (hr.mono (by decide)) hgd (da_cons (do_nm 0) (da_cons ((de_mut0 (i := 4) PySem.F.slot_list_pop PySem.F.type_list_pop mt_pop pop_ok)).op da_nil)))) (dg_nm 5 sc_hole_of.nd) (dss_end [2, 5, 6] (dss_kill [2, 6] (dss_one (ds_for PassesOwn.never rfl (di_seq (de_call C_lacking (hr.mono (by decide)) hgd (da_cons (do_nm 0) (da_cons (do_nm 1) (da_cons (do_nm 5) da_nil))))) (dg_nm 6 sc_hole_of.nd) (dss_end [2, 5, 6] (dss_one (ds_if (dt_cmp (op_notInA (hu65 hr)) notIn_ok (do_nm 6) (do_nm 3) (by rfl)) (dss_cons (ds_put (i := 3) (set_all (hu65 hr)) setL_ok de_bl (de_nm 6))
  (dss_one (ds_expr (de_mut (i := 4) PySem.F.slot_list_append PySem.F.type_list_append mt_append append_ok (dc_cons (de_nm 6) dc_nil))))) dss_nil))))))))))))
  (dss_one (ds_ret (de_callTy call_tuple_of tuple_ok (by rfl) T.tuple (by decide +kernel) (da_cons (((df_callB (cr_sortedD hr) sorted_ok (by rfl) T.sorted (by decide +kernel) (da_cons (do_nm 3) da_nil))).de).op da_nil)))))))
theorem is_hole_of : IS RX.no (W_hole_of (spP F_ends_of) (spP F_lacking)) S_hole_of :=
  (is_seq (is_par (imc_c ((ip_dict1 ip_nm ip_C)).e (imc_c ((ip_lst (ipc_c ip_nm ipc_n))).e imc_n)))
  (is_kill (is_seq (is_while ((it_P (ip_bin ipo_nm ((ip_lst ipc_n)).o))).t (is_end (is_kill (is_for (iim_seq (ie_callP (ima_c imo_nm (ima_c (IE.o (ie_mut imc_n)) ima_n)))) (is_end (is_kill (is_for (II.m (ii_seq (ip_call (ipa_c ipo_nm (ipa_c ipo_nm (ipa_c ipo_nm ipa_n)))))) (is_end (is_if ((it_P (ip_bin ipo_nm ipo_nm))).t (is_seq (is_put (ip_C).e (ip_nm).e)
  (is_do (ie_mut (imc_c (ip_nm).e imc_n)))) is_nil)))))))))
  (is_ret ((ip_app (ipa_c ((ip_app (ipa_c ipo_nm ipa_n))).o ipa_n))).e))))
theorem cal_hole_of (T : Tx mg) (C_ends_of : Cal P w K mg base 1 "ends_of" ps_ends_of pk_ends_of fr_ends_of (spP F_ends_of)) (C_lacking : Cal P w K mg base 2 "lacking" ps_lacking pk_lacking fr_lacking (spP F_lacking)) {f : Addr} {fd : FuncData} (F : Fun K "hole_of" "hole_of" s_hole_of f fd) (g : mg "hole_of" = some (.ref f)) : Cal P w K mg base 3 "hole_of" ps_hole_of pk_hole_of fr_hole_of (spP F_hole_of) :=
  ⟨⟨f, fd, fn_okD F sc_hole_of (fun cdv A outer s H E hr hgd => body_hole_of T C_ends_of C_lacking hr hgd) (fun ds Q _ h => snd_P is_hole_of (by rfl) ds Q h), g, F.kp, F.binds fun _ _ _ _ _ _ us hl => match us, hl with | [_, _, _], _ => rfl⟩, spP_mono⟩
def W_holes (sp_hole_of : DSp) : WS :=
  (sSeq (sSet 2 (eLst []))
  (sKill [3] (sSeq (sFor (wSeq (eNm 1)) (.nm 3) (sEnd [3] (sIf (tNotW (tE (eApp dAny [(.ex (eLc (wNm 2) (.nm 4) tYesW (eBin dIn (.nm 3) (.nm 4)) [4]))]))) (sDo (eMut 2 fAppend [(eCall pk_hole_of sp_hole_of [(.nm 0), (.nm 1), (.nm 3)])])) sNil)))
  (sRet (eApp dTuple [(.nm 2)])))))
theorem body_holes (T : Tx mg) {sp_hole_of : DSp} (C_hole_of : Cal P w K mg base 3 "hole_of" ps_hole_of pk_hole_of fr_hole_of sp_hole_of) {f : Addr} {cdv : Value} {A : Around} {outer : List Env} {s : Shared} {H : Hp} {E : XK} (hr : Room 3 (A.deeper (PyProof.Rows.envOfC "holes" (defScope s_holes) s.heap.objs.size f cdv))) (hgd : (A.deeper (PyProof.Rows.envOfC "holes" (defScope s_holes) s.heap.objs.size f cdv)).guards = some []) :
    DSs (CxD.no (cxOf CX0 P w K mg base N_holes "holes" (defScope s_holes) f cdv A outer s H E).nox) κ_holes fr_holes (defBody s_holes) (W_holes sp_hole_of) :=
  (dss_cons (ds_setF (i := 2) sc_holes.nd (df_lst dc_nil))
  (dss_kill [3] (dss_cons (ds_for PassesOwn.never rfl (di_seq (de_nm 1)) (dg_nm 3 sc_holes.nd) (dss_end [3] (dss_one (ds_if (dt_not (dt_val (de_callB (cr_any rfl) any_ok (by rfl) T.any (by decide +kernel) (da_cons (((df_lc (own := [("hole", 4)]) (sl := [2]) rfl sc_holes.nd (di_nm 2) (blkOk_by (by first | exact (show blkC N_holes (defScope s_holes) _ _ = true from by decide +kernel) | rfl)) (fun _ _ _ _ _ => (dg_nm 4 sc_holes.nd)) (fun _ _ _ _ _ => dts_nil) (fun _ _ _ _ _ => (de_cmp (op_inA (hu65 hr)) in_ok (do_nm 3) (do_nm 4) (by rfl))))).de).op da_nil)))) (dss_one (ds_expr (de_mut (i := 2) PySem.F.slot_list_append PySem.F.type_list_append mt_append append_ok (dc_cons (de_call C_hole_of (hr.mono (by decide)) hgd (da_cons (do_nm 0) (da_cons (do_nm 1) (da_cons (do_nm 3) da_nil)))) dc_nil)))) dss_nil))))
  (dss_one (ds_ret (de_callTy call_tuple_of tuple_ok (by rfl) T.tuple (by decide +kernel) (da_cons (do_nm 2) da_nil)))))))
theorem is_holes : IS RX.no (W_holes (spP F_hole_of)) S_holes :=
  (is_seq (is_set ((ip_lst ipc_n)).e)
  (is_kill (is_seq (is_for (II.m (ii_seq ip_nm)) (is_end (is_if ((it_not (it_P (ip_app (ipa_c ((ip_lc (sl := [2]) ii_nm it_yes (ip_bin ipo_nm ipo_nm))).o ipa_n))))).t (is_do (ie_mut (imc_c ((ip_call (ipa_c ipo_nm (ipa_c ipo_nm (ipa_c ipo_nm ipa_n))))).e imc_n))) is_nil)))
  (is_ret ((ip_app (ipa_c ipo_nm ipa_n))).e))))
theorem cal_holes (T : Tx mg) (C_hole_of : Cal P w K mg base 3 "hole_of" ps_hole_of pk_hole_of fr_hole_of (spP F_hole_of)) {f : Addr} {fd : FuncData} (F : Fun K "holes" "holes" s_holes f fd) (g : mg "holes" = some (.ref f)) : Cal P w K mg base 4 "holes" ps_holes pk_holes fr_holes (spP F_holes) :=
  ⟨⟨f, fd, fn_okD F sc_holes (fun cdv A outer s H E hr hgd => body_holes T C_hole_of hr hgd) (fun ds Q _ h => snd_P is_holes (by rfl) ds Q h), g, F.kp, F.binds fun _ _ _ _ _ _ us hl => match us, hl with | [_, _], _ => rfl⟩, spP_mono⟩
def W_odd (sp_knots : DSp) (sp_lacks : DSp) : WS :=
  (sRet (eApp dTuple [(.ex (eLc (wSeq (eCall pk_knots sp_knots [(.nm 0)])) (.nm 2) (tE (eBin dEq (.ex (eBin dMod (.ex (eCall pk_lacks sp_lacks [(.nm 0), (.nm 1), (.nm 2)])) (.ex (eC (.int 2))))) (.ex (eC (.int 1))))) (eNm 2) [2]))]))
theorem body_odd (T : Tx mg) {sp_knots : DSp} {sp_lacks : DSp} (C_knots : Cal P w K mg base 1 "knots" ps_knots pk_knots fr_knots sp_knots) (C_lacks : Cal P w K mg base 3 "lacks" ps_lacks pk_lacks fr_lacks sp_lacks) {f : Addr} {cdv : Value} {A : Around} {outer : List Env} {s : Shared} {H : Hp} {E : XK} (hr : Room 3 (A.deeper (PyProof.Rows.envOfC "odd" (defScope s_odd) s.heap.objs.size f cdv))) (hgd : (A.deeper (PyProof.Rows.envOfC "odd" (defScope s_odd) s.heap.objs.size f cdv)).guards = some []) :
    DSs (CxD.no (cxOf CX0 P w K mg base N_odd "odd" (defScope s_odd) f cdv A outer s H E).nox) κ_odd fr_odd (defBody s_odd) (W_odd sp_knots sp_lacks) :=
  (dss_one (ds_ret (de_callTy call_tuple_of tuple_ok (by rfl) T.tuple (by decide +kernel) (da_cons (((df_lc (own := [("knot", 2)]) (sl := []) rfl sc_odd.nd (di_seq (de_call C_knots (hr.mono (by decide)) hgd (da_cons (do_nm 0) da_nil))) (blkOk_by (by first | exact (show blkC N_odd (defScope s_odd) _ _ = true from by decide +kernel) | rfl)) (fun _ _ _ _ _ => (dg_nm 2 sc_odd.nd)) (fun _ _ _ _ _ => (dts_one (dt_cmp (op_eq.or (op_eqD hr.units)) eq_ok ((de_op op_mod mod_ok ((de_call C_lacks (hr.mono (by decide)) hgd (da_cons (do_nm 0) (da_cons (do_nm 1) (da_cons (do_nm 2) da_nil))))).op (de_int).op)).op (de_int).op (nomark _)))) (fun _ _ _ _ _ => (de_nm 2)))).de).op da_nil))))
theorem is_odd : IS RX.no (W_odd (spP F_knots) (spP F_lacks)) S_odd :=
  (is_ret ((ip_app (ipa_c ((ip_lc (sl := []) (ii_seq (ip_call (ipa_c ipo_nm ipa_n))) (it_P (ip_bin ((ip_bin ((ip_call (ipa_c ipo_nm (ipa_c ipo_nm (ipa_c ipo_nm ipa_n))))).o (ip_C).o)).o (ip_C).o)) ip_nm)).o ipa_n))).e)
theorem cal_odd (T : Tx mg) (C_knots : Cal P w K mg base 1 "knots" ps_knots pk_knots fr_knots (spP F_knots)) (C_lacks : Cal P w K mg base 3 "lacks" ps_lacks pk_lacks fr_lacks (spP F_lacks)) {f : Addr} {fd : FuncData} (F : Fun K "odd" "odd" s_odd f fd) (g : mg "odd" = some (.ref f)) : Cal P w K mg base 4 "odd" ps_odd pk_odd fr_odd (spP F_odd) :=
  ⟨⟨f, fd, fn_okD F sc_odd (fun cdv A outer s H E hr hgd => body_odd T C_knots C_lacks hr hgd) (fun ds Q _ h => snd_P is_odd (by rfl) ds Q h), g, F.kp, F.binds fun _ _ _ _ _ _ us hl => match us, hl with | [_, _], _ => rfl⟩, spP_mono⟩
def W_is_integer : WS :=
  (sRet (eAnd (eUn (dIsi "int") (.nm 0)) (eAnd (eNot (eUn (dIsi "bool") (.nm 0))) (eChain dLe dLe (.nm 1) (.nm 0) (.nm 2)))))
theorem body_is_integer (T : Tx mg) {f : Addr} {cdv : Value} {A : Around} {outer : List Env} {s : Shared} {H : Hp} {E : XK} (hr : Room 0 (A.deeper (PyProof.Rows.envOfC "is_integer" (defScope s_is_integer) s.heap.objs.size f cdv))) (hgd : (A.deeper (PyProof.Rows.envOfC "is_integer" (defScope s_is_integer) s.heap.objs.size f cdv)).guards = some []) :
    DSs (CxD.no (cxOf CX0 P w K mg base N_is_integer "is_integer" (defScope s_is_integer) f cdv A outer s H E).nox) κ_is_integer fr_is_integer (defBody s_is_integer) (W_is_integer) :=
  (dss_one (ds_ret (de_and (de_isi (T := "int") (by rfl) T.isinstance (by rfl) T.int (by decide +kernel) (do_nm 0)) (de_and (de_not (de_isi (T := "bool") (by rfl) T.isinstance (by rfl) T.bool (by decide +kernel) (do_nm 0))) (de_one (de_chain op_le le_okB op_le le_okB (do_nm 1) (do_nm 0) (do_nm 2) (by rfl)))))))
theorem is_is_integer : IS RX.no (W_is_integer) S_is_integer :=
  (is_ret ((ip_and (ip_un ipo_nm) (ip_and (ip_not (ip_un ipo_nm)) (ip_chain ipo_nm ipo_nm ipo_nm)))).e)
theorem cal_is_integer (T : Tx mg) {f : Addr} {fd : FuncData} (F : Fun K "is_integer" "is_integer" s_is_integer f fd) (g : mg "is_integer" = some (.ref f)) : Cal P w K mg base 1 "is_integer" ps_is_integer pk_is_integer fr_is_integer (spP F_is_integer) :=
  ⟨⟨f, fd, fn_okD F sc_is_integer (fun cdv A outer s H E hr hgd => body_is_integer T hr hgd) (fun ds Q _ h => snd_P is_is_integer (by rfl) ds Q h), g, F.kp, F.binds fun _ _ _ _ _ _ us hl => match us, hl with | [_, _, _], _ => rfl⟩, spP_mono⟩
def W_size : WS :=
  (sRet (eBin dMul (.ex (eBin dAt (.nm 0) (.ex (eC (.int 0))))) (.ex (eBin dAt (.nm 0) (.ex (eC (.int 1)))))))
theorem body_size (T : Tx mg) {f : Addr} {cdv : Value} {A : Around} {outer : List Env} {s : Shared} {H : Hp} {E : XK} (hr : Room 0 (A.deeper (PyProof.Rows.envOfC "size" (defScope s_size) s.heap.objs.size f cdv))) (hgd : (A.deeper (PyProof.Rows.envOfC "size" (defScope s_size) s.heap.objs.size f cdv)).guards = some []) :
    DSs (CxD.no (cxOf CX0 P w K mg base N_size "size" (defScope s_size) f cdv A outer s H E).nox) κ_size fr_size (defBody s_size) (W_size) :=
  (dss_one (ds_ret (de_op op_mulA mul_ok ((de_ix (ix_all (hu65 hr)) at_ok (do_nm 0) (de_int).op)).op ((de_ix (ix_all (hu65 hr)) at_ok (do_nm 0) (de_int).op)).op)))
theorem is_size : IS RX.no (W_size) S_sizeS :=
  (is_ret ((ip_bin ((ip_bin ipo_nm (ip_C).o)).o ((ip_bin ipo_nm (ip_C).o)).o)).e)
theorem cal_size (T : Tx mg) {f : Addr} {fd : FuncData} (F : Fun K "size" "size" s_size f fd) (g : mg "size" = some (.ref f)) : Cal P w K mg base 1 "size" ps_size pk_size fr_size (spP F_sizeS) :=
  ⟨⟨f, fd, fn_okD F sc_size (fun cdv A outer s H E hr hgd => body_size T hr hgd) (fun ds Q _ h => snd_P is_size (by rfl) ds Q h), g, F.kp, F.binds fun _ _ _ _ _ _ us hl => match us, hl with | [_], _ => rfl⟩, spP_mono⟩
def W_is_bar (sp_size : DSp) (sp_is_integer : DSp) : WS :=
  (sRet (eCall pk_is_integer sp_is_integer [(.nm 1), (.ex (eC (.int 0))), (.ex (eBin dSub (.ex (eCall pk_size sp_size [(.nm 0)])) (.ex (eC (.int 1)))))]))
theorem body_is_bar (T : Tx mg) {sp_size : DSp} {sp_is_integer : DSp} (C_size : Cal P w K mg base 1 "size" ps_size pk_size fr_size sp_size) (C_is_integer : Cal P w K mg base 1 "is_integer" ps_is_integer pk_is_integer fr_is_integer sp_is_integer) {f : Addr} {cdv : Value} {A : Around} {outer : List Env} {s : Shared} {H : Hp} {E : XK} (hr : Room 1 (A.deeper (PyProof.Rows.envOfC "is_bar" (defScope s_is_bar) s.heap.objs.size f cdv))) (hgd : (A.deeper (PyProof.Rows.envOfC "is_bar" (defScope s_is_bar) s.heap.objs.size f cdv)).guards = some []) :
    DSs (CxD.no (cxOf CX0 P w K mg base N_is_bar "is_bar" (defScope s_is_bar) f cdv A outer s H E).nox) κ_is_bar fr_is_bar (defBody s_is_bar) (W_is_bar sp_size sp_is_integer) :=
  (dss_one (ds_ret (de_call C_is_integer (hr.mono (by decide)) hgd (da_cons (do_nm 1) (da_cons (de_int).op (da_cons ((de_op op_sub sub_ok ((de_call C_size (hr.mono (by decide)) hgd (da_cons (do_nm 0) da_nil))).op (de_int).op)).op da_nil))))))
theorem is_is_bar : IS RX.no (W_is_bar (spP F_sizeS) (spP F_is_integer)) S_is_barS :=
  (is_ret ((ip_call (ipa_c ipo_nm (ipa_c (ip_C).o (ipa_c ((ip_bin ((ip_call (ipa_c ipo_nm ipa_n))).o (ip_C).o)).o ipa_n))))).e)
theorem cal_is_bar (T : Tx mg) (C_size : Cal P w K mg base 1 "size" ps_size pk_size fr_size (spP F_sizeS)) (C_is_integer : Cal P w K mg base 1 "is_integer" ps_is_integer pk_is_integer fr_is_integer (spP F_is_integer)) {f : Addr} {fd : FuncData} (F : Fun K "is_bar" "is_bar" s_is_bar f fd) (g : mg "is_bar" = some (.ref f)) : Cal P w K mg base 2 "is_bar" ps_is_bar pk_is_bar fr_is_bar (spP F_is_barS) :=
  ⟨⟨f, fd, fn_okD F sc_is_bar (fun cdv A outer s H E hr hgd => body_is_bar T C_size C_is_integer hr hgd) (fun ds Q _ h => snd_P is_is_bar (by rfl) ds Q h), g, F.kp, F.binds fun _ _ _ _ _ _ us hl => match us, hl with | [_, _], _ => rfl⟩, spP_mono⟩
def W_tear_error (sp_is_bar : DSp) : WS :=
  (sSeq (sIf (tNotW (tE (eUn (dIsi "tuple") (.nm 1)))) (sRet (eUn dNeg (.ex (eC (.int 1))))) sNil)
  (sKill [2, 3] (sSeq (sFor (wEnum (.ex (eNm 1))) (.tup [(.nm 2), (.nm 3)]) (sEnd [2, 3] (sIf (tOrW (tNotW (tE (eCall pk_is_bar sp_is_bar [(.nm 0), (.nm 3)]))) (tAndW (tE (eBin dGt (.nm 2) (.ex (eC (.int 0))))) (tE (eBin dLe (.nm 3) (.ex (eBin dAt (.nm 1) (.ex (eBin dSub (.nm 2) (.ex (eC (.int 1))))))))))) (sRet (eNm 2)) sNil)))
  (sRet (eC .none)))))
theorem body_tear_error (T : Tx mg) {sp_is_bar : DSp} (C_is_bar : Cal P w K mg base 2 "is_bar" ps_is_bar pk_is_bar fr_is_bar sp_is_bar) {f : Addr} {cdv : Value} {A : Around} {outer : List Env} {s : Shared} {H : Hp} {E : XK} (hr : Room 2 (A.deeper (PyProof.Rows.envOfC "tear_error" (defScope s_tear_error) s.heap.objs.size f cdv))) (hgd : (A.deeper (PyProof.Rows.envOfC "tear_error" (defScope s_tear_error) s.heap.objs.size f cdv)).guards = some []) :
    DSs (CxD.no (cxOf CX0 P w K mg base N_tear_error "tear_error" (defScope s_tear_error) f cdv A outer s H E).nox) κ_tear_error fr_tear_error (defBody s_tear_error) (W_tear_error sp_is_bar) :=
  (dss_cons (ds_if (dt_not (dt_val (de_isi (T := "tuple") (by rfl) T.isinstance (by rfl) T.tuple (by decide +kernel) (do_nm 1)))) (dss_one (ds_ret (de_un un_neg neg_ok (de_int).op))) dss_nil)
  (dss_kill [2, 3] (dss_cons (ds_for PassesOwn.never rfl (di_enum (by rfl) T.enumerate (da_cons ((de_nm 1)).op da_nil)) (dg_tup rfl (dgs_cons (dg_nm 2 sc_tear_error.nd) (dgs_cons (dg_nm 3 sc_tear_error.nd) dgs_nil))) (dss_end [2, 3] (dss_one (ds_if ((dw_or (dt_not (dt_val (de_call C_is_bar (hr.mono (by decide)) hgd (da_cons (do_nm 0) (da_cons (do_nm 3) da_nil))))) (dw_or1 ((dw_and (dt_cmp op_gt gt_ok (do_nm 2) (de_int).op (nomark _)) (dw_and1 (dt_cmp op_le le_ok (do_nm 3) ((de_ix (ix_all (hu65 hr)) at_ok (do_nm 1) ((de_op op_sub sub_ok (do_nm 2) (de_int).op)).op)).op (nomark _))))).dt))).dt (dss_one (ds_ret (de_nm 2))) dss_nil))))
  (dss_one (ds_ret de_non)))))
theorem is_tear_error : IS RX.no (W_tear_error (spP F_is_barS)) S_tear_errorS :=
  (is_seq (is_if ((it_not (it_P (ip_un ipo_nm)))).t (is_ret ((ip_un (ip_C).o)).e) is_nil)
  (is_kill (is_seq (is_for (II.m (ii_enu (ip_nm).z)) (is_end (is_if ((it_or (it_not (it_P (ip_call (ipa_c ipo_nm (ipa_c ipo_nm ipa_n))))) (it_and (it_P (ip_bin ipo_nm (ip_C).o)) (it_P (ip_bin ipo_nm ((ip_bin ipo_nm ((ip_bin ipo_nm (ip_C).o)).o)).o))))).t (is_ret (ip_nm).e) is_nil)))
  (is_ret (ip_C).e))))
theorem cal_tear_error (T : Tx mg) (C_is_bar : Cal P w K mg base 2 "is_bar" ps_is_bar pk_is_bar fr_is_bar (spP F_is_barS)) {f : Addr} {fd : FuncData} (F : Fun K "tear_error" "tear_error" s_tear_error f fd) (g : mg "tear_error" = some (.ref f)) : Cal P w K mg base 3 "tear_error" ps_tear_error pk_tear_error fr_tear_error (spP F_tear_errorS) :=
  ⟨⟨f, fd, fn_okD F sc_tear_error (fun cdv A outer s H E hr hgd => body_tear_error T C_is_bar hr hgd) (fun ds Q _ h => snd_P is_tear_error (by rfl) ds Q h), g, F.kp, F.binds fun _ _ _ _ _ _ us hl => match us, hl with | [_, _], _ => rfl⟩, spP_mono⟩
def W_law_flat : WS :=
  (sSeq (sSet 1 (eLst []))
  (sKill [2] (sSeq (sFor (wSeq (eNm 0)) (.nm 2) (sEnd [0, 2] (sDo (eMut 1 fExtA [(eNm 2)]))))
  (sRetO 1))))
theorem body_law_flat (T : Tx mg) {f : Addr} {cdv : Value} {A : Around} {outer : List Env} {s : Shared} {H : Hp} {E : XK} (hr : Room 0 (A.deeper (PyProof.Rows.envOfC "_law_flat" (defScope s_law_flat) s.heap.objs.size f cdv))) (hgd : (A.deeper (PyProof.Rows.envOfC "_law_flat" (defScope s_law_flat) s.heap.objs.size f cdv)).guards = some []) :
    DSs (CxD.no (cxOf CX0 P w K mg base N_law_flat "_law_flat" (defScope s_law_flat) f cdv A outer s H E).nox) κ_law_flat fr_law_flat (defBody s_law_flat) (W_law_flat) :=
  (dss_cons (ds_setF (i := 1) sc_law_flat.nd (df_lst dc_nil))
  (dss_kill [2] (dss_cons (ds_for PassesOwn.never rfl (di_seq (de_nm 0)) (dg_nm 2 sc_law_flat.nd) (dss_end [0, 2] (dss_one (ds_expr (de_mut (i := 1) PySem.F.slot_list_extend PySem.F.type_list_extend mt_extA extA_ok (dc_cons (de_nm 2) dc_nil))))))
  (dss_one (ds_retO (i := 1))))))
theorem is_law_flat : IS RX.no (W_law_flat) S_law_flat :=
  (is_seq (is_set ((ip_lst ipc_n)).e)
  (is_kill (is_seq (is_for (II.m (ii_seq ip_nm)) (is_end (is_do (ie_mut (imc_c (ip_nm).e imc_n)))))
  is_retO)))
theorem cal_law_flat (T : Tx mg) {f : Addr} {fd : FuncData} (F : Fun K "_law_flat" "_law_flat" s_law_flat f fd) (g : mg "_law_flat" = some (.ref f)) : Cal P w K mg base 1 "_law_flat" ps_law_flat pk_law_flat fr_law_flat (spP F_law_flat) :=
  ⟨⟨f, fd, fn_okD F sc_law_flat (fun cdv A outer s H E hr hgd => body_law_flat T hr hgd) (fun ds Q _ h => snd_P is_law_flat (by rfl) ds Q h), g, F.kp, F.binds fun _ _ _ _ _ _ us hl => match us, hl with | [_], _ => rfl⟩, spP_mono⟩
def W_law (sp_law_sheet : DSp) (sp_law_tear : DSp) (sp_knots : DSp) (sp_lacks : DSp) (sp_tear_error : DSp) (sp_holes : DSp) (sp_odd : DSp) (sp_law_flat : DSp) (sp_ends_of : DSp) (sp_law_draw : DSp) (sp_lost : DSp) (sp_bars_of : DSp) : WS :=
  (sKill [0, 2, 3, 4, 5, 6, 7, 8, 9, 10, 11, 12, 13, 14, 15] (sSeq (sFor (wApp rng1 [(.ex (eC (.int 6)))]) (.nm 2) (sEnd [0, 2, 3, 4, 5, 6, 7, 8, 9, 10, 11, 12, 13, 14, 15] (sSeq (sSet 3 (eCall pk_law_sheet sp_law_sheet [(.nm 1), (.ex (eC (.int 8)))]))
  (sSeq (sPar [4, 5, 6] [(eCall pk_law_tear sp_law_tear [(.nm 1), (.nm 3)]), (eCall pk_knots sp_knots [(.nm 3)]), (eLst [])])
  (sSeq (sSet 7 (eLc (wSeq (eNm 5)) (.nm 8) tYesW (eCall pk_lacks sp_lacks [(.nm 3), (.nm 4), (.nm 8)]) [8]))
  (sSeq (sIf (tOrW (tE (eBin dIsNot (.ex (eCall pk_tear_error sp_tear_error [(.nm 3), (.nm 4)])) (.ex (eC .none)))) (tE (eBin dNe (.ex (eApp dSum [(.nm 7)])) (.ex (eBin dMul (.ex (eC (.int 2))) (.ex (eApp dLen [(.nm 4)]))))))) (sRet (eC (.bool false))) sNil)
  (sSeq (sPar [9, 10] [(eCall pk_holes sp_holes [(.nm 3), (.nm 4)]), (eCall pk_odd sp_odd [(.nm 3), (.nm 4)])])
  (sSeq (sIf (tOrW (tE (eUn (dNotInRg 0 99 2) (.ex (eApp dLen [(.nm 10)])))) (tE (eBin dNe (.ex (eApp dTuple [(.ex (eApp dSorted [(.ex (eCall pk_law_flat sp_law_flat [(.nm 9)]))]))])) (.nm 4)))) (sRet (eC (.bool false))) sNil)
  (sKill [0, 2, 5, 7, 8, 11, 12, 13, 14, 15] (sSeq (sFor (wSeq (eNm 9)) (.nm 11) (sEnd [0, 2, 5, 7, 8, 9, 11, 12, 13, 14, 15] (sSeq (sSet 12 (eUn dSortSetM (.ex (eCall pk_law_flat sp_law_flat [(.ex (eLc (wSeq (eNm 11)) (.nm 13) tYesW (eCall pk_ends_of sp_ends_of [(.nm 3), (.nm 13)]) [13]))]))))
  (sSeq (sIf (tOrW (tE (eBin dNe (.ex (eLc (wSeq (eNm 12)) (.nm 8) (tE (eBin dIn (.nm 8) (.nm 6))) (eNm 8) [8])) (.ex (eLst [])))) (tE (eBin dNe (.ex (eCall pk_holes sp_holes [(.nm 3), (.nm 11)])) (.ex (eTup [(eNm 11)]))))) (sRet (eC (.bool false))) sNil)
  (sSeq (sSet 14 (eApp dTuple [(.ex (eLc (wSeq (eNm 12)) (.nm 8) (tE (eBin dIn (.nm 8) (.nm 10))) (eNm 8) [8]))]))
  (sSeq (sIf (tOrW (tE (eBin dNe (.ex (eCall pk_odd sp_odd [(.nm 3), (.nm 11)])) (.nm 14))) (tE (eUn (dNotInRg 0 99 2) (.ex (eApp dLen [(.nm 14)]))))) (sRet (eC (.bool false))) sNil)
  (sDo (eMut 6 fExtA [(eNm 12)]))))))))
  (sSeq (sSet 13 (eCall pk_law_draw sp_law_draw [(.nm 1), (.ex (eBin dMul (.ex (eBin dAt (.nm 3) (.ex (eC (.int 0))))) (.ex (eBin dAt (.nm 3) (.ex (eC (.int 1)))))))]))
  (sSeq (sSet 15 (eApp dTuple [(.ex (eXor 4 13))]))
  (sSeq (sIf (tE (eXorNeW (eCall pk_odd sp_odd [(.nm 3), (.nm 15)]) (eNm 10) (eCall pk_ends_of sp_ends_of [(.nm 3), (.nm 13)]))) (sRet (eC (.bool false))) sNil)
  (sKill [0, 2, 5, 6, 7, 8, 9, 10, 11, 12, 13, 14, 15] (sFor (wSeq (eCall pk_lost sp_lost [(.nm 3), (.nm 4)])) (.nm 8) (sEnd [0, 2, 5, 6, 7, 8, 9, 10, 11, 12, 13, 14, 15] (sIf (tE (eBin dNe (.ex (eCall pk_lacks sp_lacks [(.nm 3), (.nm 4), (.nm 8)])) (.ex (eApp dLen [(.ex (eCall pk_bars_of sp_bars_of [(.nm 3), (.nm 8)]))])))) (sRet (eC (.bool false))) sNil)))))))))))))))))
  (sRet (eC (.bool true)))))
theorem body_law (T : Tx mg) {sp_law_sheet : DSp} {sp_law_tear : DSp} {sp_knots : DSp} {sp_lacks : DSp} {sp_tear_error : DSp} {sp_holes : DSp} {sp_odd : DSp} {sp_law_flat : DSp} {sp_ends_of : DSp} {sp_law_draw : DSp} {sp_lost : DSp} {sp_bars_of : DSp} (C_law_sheet : Cal P w K mg base 3 "_law_sheet" ps_law_sheet pk_law_sheet fr_law_sheet sp_law_sheet) (C_law_tear : Cal P w K mg base 3 "_law_tear" ps_law_tear pk_law_tear fr_law_tear sp_law_tear) (C_knots : Cal P w K mg base 1 "knots" ps_knots pk_knots fr_knots sp_knots) (C_lacks : Cal P w K mg base 3 "lacks" ps_lacks pk_lacks fr_lacks sp_lacks) (C_tear_error : Cal P w K mg base 3 "tear_error" ps_tear_error pk_tear_error fr_tear_error sp_tear_error) (C_holes : Cal P w K mg base 4 "holes" ps_holes pk_holes fr_holes sp_holes) (C_odd : Cal P w K mg base 4 "odd" ps_odd pk_odd fr_odd sp_odd) (C_law_flat : Cal P w K mg base 1 "_law_flat" ps_law_flat pk_law_flat fr_law_flat sp_law_flat) (C_ends_of : Cal P w K mg base 1 "ends_of" ps_ends_of pk_ends_of fr_ends_of sp_ends_of) (C_law_draw : Cal P w K mg base 1 "_law_draw" ps_law_draw pk_law_draw fr_law_draw sp_law_draw) (C_lost : Cal P w K mg base 4 "lost" ps_lost pk_lost fr_lost sp_lost) (C_bars_of : Cal P w K mg base 1 "bars_of" ps_bars_of pk_bars_of fr_bars_of sp_bars_of) {f : Addr} {cdv : Value} {A : Around} {outer : List Env} {s : Shared} {H : Hp} {E : XK} (hr : Room 4 (A.deeper (PyProof.Rows.envOfC "law" (defScope s_law) s.heap.objs.size f cdv))) (hgd : (A.deeper (PyProof.Rows.envOfC "law" (defScope s_law) s.heap.objs.size f cdv)).guards = some []) :
    DSs (CxD.no (cxOf CX0 P w K mg base N_law "law" (defScope s_law) f cdv A outer s H E).nox) κ_law fr_law ((defBody s_law).tail) (W_law sp_law_sheet sp_law_tear sp_knots sp_lacks sp_tear_error sp_holes sp_odd sp_law_flat sp_ends_of sp_law_draw sp_lost sp_bars_of) :=
  (dss_kill [0, 2, 3, 4, 5, 6, 7, 8, 9, 10, 11, 12, 13, 14, 15] (dss_cons (ds_for PassesOwn.never rfl (di_rng1 (by rfl) T.range (da_cons (de_int).op da_nil)) (dg_nm 2 sc_law.nd) (dss_end [0, 2, 3, 4, 5, 6, 7, 8, 9, 10, 11, 12, 13, 14, 15] (dss_cons (ds_set (i := 3) sc_law.nd (de_call C_law_sheet (hr.mono (by decide)) hgd (da_cons (do_nm 1) (da_cons (de_int).op da_nil))))
  (dss_cons (ds_parT rfl (dm_val (de_call C_law_tear (hr.mono (by decide)) hgd (da_cons (do_nm 1) (da_cons (do_nm 3) da_nil))) (dm_val (de_call C_knots (hr.mono (by decide)) hgd (da_cons (do_nm 3) da_nil)) (dm_own (df_lst dc_nil) dm_nil))) (ngs_cons sc_law.nd (ngs_cons sc_law.nd (ngs_cons sc_law.nd ngs_nil))))
  (dss_cons (ds_setLc (i := 7) (own := [("_law_knot", 8)]) (sl := []) rfl sc_law.nd (di_seq (de_nm 5)) (blkOk_by (by first | exact (show blkC N_law (defScope s_law) _ _ = true from by decide +kernel) | rfl)) (fun _ _ _ _ _ => (dg_nm 8 sc_law.nd)) (fun _ _ _ _ _ => dts_nil) (fun _ _ _ _ _ => (de_call C_lacks (hr.mono (by decide)) hgd (da_cons (do_nm 3) (da_cons (do_nm 4) (da_cons (do_nm 8) da_nil))))) (sw_true rfl rfl rfl (by decide +kernel)))
  (dss_cons (ds_if ((dw_or (dt_cmp op_notN isNot_ok ((de_call C_tear_error (hr.mono (by decide)) hgd (da_cons (do_nm 3) (da_cons (do_nm 4) da_nil)))).op (de_non).op (nomark _)) (dw_or1 (dt_cmp (op_ne.or (op_neD hr.units)) ne_ok ((de_callB (cr_sumA rfl) sum_ok (by rfl) T.sum (by decide +kernel) (da_cons (do_nm 7) da_nil))).op ((de_op op_mulA mul_ok (de_int).op ((de_callB call_len len_ok (by rfl) T.len (by decide +kernel) (da_cons (do_nm 4) da_nil))).op)).op (nomark _))))).dt (dss_one (ds_ret de_bl)) dss_nil)
  (dss_cons (ds_parT rfl (dm_val (de_call C_holes (hr.mono (by decide)) hgd (da_cons (do_nm 3) (da_cons (do_nm 4) da_nil))) (dm_val (de_call C_odd (hr.mono (by decide)) hgd (da_cons (do_nm 3) (da_cons (do_nm 4) da_nil))) dm_nil)) (ngs_cons sc_law.nd (ngs_cons sc_law.nd ngs_nil)))
  (dss_cons (ds_if ((dw_or (dt_notInRg (by rfl) T.range ((de_callB call_len len_ok (by rfl) T.len (by decide +kernel) (da_cons (do_nm 10) da_nil))).op) (dw_or1 (dt_cmp (op_ne.or (op_neD hr.units)) ne_ok ((de_callTy call_tuple_of tuple_ok (by rfl) T.tuple (by decide +kernel) (da_cons (((df_callB (cr_sortedD hr) sorted_ok (by rfl) T.sorted (by decide +kernel) (da_cons ((de_call C_law_flat (hr.mono (by decide)) hgd (da_cons (do_nm 9) da_nil))).op da_nil))).de).op da_nil))).op (do_nm 4) (nomark _))))).dt (dss_one (ds_ret de_bl)) dss_nil)
  (dss_kill [0, 2, 5, 7, 8, 11, 12, 13, 14, 15] (dss_cons (ds_for PassesOwn.never rfl (di_seq (de_nm 9)) (dg_nm 11 sc_law.nd) (dss_end [0, 2, 5, 7, 8, 9, 11, 12, 13, 14, 15] (dss_cons (ds_set (i := 12) sc_law.nd ((df_sortSetM rfl (hu65 hr) (by rfl) T.sorted (by rfl) T.set ((de_call C_law_flat (hr.mono (by decide)) hgd (da_cons (((df_lc (own := [("_law_bar", 13)]) (sl := []) rfl sc_law.nd (di_seq (de_nm 11)) (blkOk_by (by first | exact (show blkC N_law (defScope s_law) _ _ = true from by decide +kernel) | rfl)) (fun _ _ _ _ _ => (dg_nm 13 sc_law.nd)) (fun _ _ _ _ _ => dts_nil) (fun _ _ _ _ _ => (de_call C_ends_of (hr.mono (by decide)) hgd (da_cons (do_nm 3) (da_cons (do_nm 13) da_nil)))))).de).op da_nil))).op)).de)
  (dss_cons (ds_if ((dw_or (dt_cmp (op_ne.or (op_neD hr.units)) ne_ok (((df_lc (own := [("_law_knot", 8)]) (sl := []) rfl sc_law.nd (di_seq (de_nm 12)) (blkOk_by (by first | exact (show blkC N_law (defScope s_law) _ _ = true from by decide +kernel) | rfl)) (fun _ _ _ _ _ => (dg_nm 8 sc_law.nd)) (fun _ _ _ _ _ => (dts_one (dt_cmp (op_inA (hu65 hr)) in_ok (do_nm 8) (do_nm 6) (by rfl)))) (fun _ _ _ _ _ => (de_nm 8)))).de).op (((df_lst dc_nil)).de).op (nomark _)) (dw_or1 (dt_cmp (op_ne.or (op_neD hr.units)) ne_ok ((de_call C_holes (hr.mono (by decide)) hgd (da_cons (do_nm 3) (da_cons (do_nm 11) da_nil)))).op ((de_tup (dc_cons (de_nm 11) dc_nil))).op (nomark _))))).dt (dss_one (ds_ret de_bl)) dss_nil)
  (dss_cons (ds_set (i := 14) sc_law.nd (de_callTy call_tuple_of tuple_ok (by rfl) T.tuple (by decide +kernel) (da_cons (((df_lc (own := [("_law_knot", 8)]) (sl := []) rfl sc_law.nd (di_seq (de_nm 12)) (blkOk_by (by first | exact (show blkC N_law (defScope s_law) _ _ = true from by decide +kernel) | rfl)) (fun _ _ _ _ _ => (dg_nm 8 sc_law.nd)) (fun _ _ _ _ _ => (dts_one (dt_cmp (op_inA (hu65 hr)) in_ok (do_nm 8) (do_nm 10) (by rfl)))) (fun _ _ _ _ _ => (de_nm 8)))).de).op da_nil)))
  (dss_cons (ds_if ((dw_or (dt_cmp (op_ne.or (op_neD hr.units)) ne_ok ((de_call C_odd (hr.mono (by decide)) hgd (da_cons (do_nm 3) (da_cons (do_nm 11) da_nil)))).op (do_nm 14) (nomark _)) (dw_or1 (dt_notInRg (by rfl) T.range ((de_callB call_len len_ok (by rfl) T.len (by decide +kernel) (da_cons (do_nm 14) da_nil))).op)))).dt (dss_one (ds_ret de_bl)) dss_nil)
  (dss_one (ds_expr (de_mut (i := 6) PySem.F.slot_list_extend PySem.F.type_list_extend mt_extA extA_ok (dc_cons (de_nm 12) dc_nil))))))))))
  (dss_cons (ds_set (i := 13) sc_law.nd (de_call C_law_draw (hr.mono (by decide)) hgd (da_cons (do_nm 1) (da_cons ((de_op op_mulA mul_ok ((de_ix (ix_all (hu65 hr)) at_ok (do_nm 3) (de_int).op)).op ((de_ix (ix_all (hu65 hr)) at_ok (do_nm 3) (de_int).op)).op)).op da_nil))))
  (dss_cons (ds_set (i := 15) sc_law.nd (de_callTy call_tuple_of tuple_ok (by rfl) T.tuple (by decide +kernel) (da_cons (((df_sortXor 4 13 rfl (by rfl) T.sorted (by rfl) T.set (hu65 hr))).de).op da_nil)))
  (dss_cons (ds_if (dt_xorNe rfl (hu65 hr) (by rfl) T.set (de_call C_odd (hr.mono (by decide)) hgd (da_cons (do_nm 3) (da_cons (do_nm 15) da_nil))) (de_nm 10) (de_call C_ends_of (hr.mono (by decide)) hgd (da_cons (do_nm 3) (da_cons (do_nm 13) da_nil)))) (dss_one (ds_ret de_bl)) dss_nil)
  (dss_kill [0, 2, 5, 6, 7, 8, 9, 10, 11, 12, 13, 14, 15] (dss_one (ds_for PassesOwn.never rfl (di_seq (de_call C_lost (hr.mono (by decide)) hgd (da_cons (do_nm 3) (da_cons (do_nm 4) da_nil)))) (dg_nm 8 sc_law.nd) (dss_end [0, 2, 5, 6, 7, 8, 9, 10, 11, 12, 13, 14, 15] (dss_one (ds_if (dt_cmp (op_ne.or (op_neD hr.units)) ne_ok ((de_call C_lacks (hr.mono (by decide)) hgd (da_cons (do_nm 3) (da_cons (do_nm 4) (da_cons (do_nm 8) da_nil))))).op ((de_callB call_len len_ok (by rfl) T.len (by decide +kernel) (da_cons ((de_call C_bars_of (hr.mono (by decide)) hgd (da_cons (do_nm 3) (da_cons (do_nm 8) da_nil)))).op da_nil))).op (nomark _)) (dss_one (ds_ret de_bl)) dss_nil)))))))))))))))))))
  (dss_one (ds_ret de_bl))))
theorem is_law : IS RX.no (W_law (spM F_law_sheet) (spM F_law_tear) (spP F_knots) (spP F_lacks) (spP F_tear_errorS) (spP F_holes) (spP F_odd) (spP F_law_flat) (spP F_ends_of) (spM F_draw) (spP F_lost) (spP F_bars_of)) S_law :=
  (is_kill (is_seq (is_for (II.m (ii_app (ipa_c (ip_C).o ipa_n))) (is_end (is_seq (is_set (ie_call (ima_c imo_nm (ima_c (IE.o (ip_C).e) ima_n))))
  (is_seq (is_par (imc_c (ie_call (ima_c imo_nm (ima_c imo_nm ima_n))) (imc_c ((ip_call (ipa_c ipo_nm ipa_n))).e (imc_c ((ip_lst ipc_n)).e imc_n))))
  (is_seq (is_set ((ip_lc (sl := []) (ii_seq ip_nm) it_yes (ip_call (ipa_c ipo_nm (ipa_c ipo_nm (ipa_c ipo_nm ipa_n)))))).e)
  (is_seq (is_if ((it_or (it_P (ip_bin ((ip_call (ipa_c ipo_nm (ipa_c ipo_nm ipa_n)))).o (ip_C).o)) (it_P (ip_bin ((ip_app (ipa_c ipo_nm ipa_n))).o ((ip_bin (ip_C).o ((ip_app (ipa_c ipo_nm ipa_n))).o)).o)))).t (is_ret (ip_C).e) is_nil)
  (is_seq (is_par (imc_c ((ip_call (ipa_c ipo_nm (ipa_c ipo_nm ipa_n)))).e (imc_c ((ip_call (ipa_c ipo_nm (ipa_c ipo_nm ipa_n)))).e imc_n)))
  (is_seq (is_if ((it_or (it_P (ip_un ((ip_app (ipa_c ipo_nm ipa_n))).o)) (it_P (ip_bin ((ip_app (ipa_c ((ip_app (ipa_c ((ip_call (ipa_c ipo_nm ipa_n))).o ipa_n))).o ipa_n))).o ipo_nm)))).t (is_ret (ip_C).e) is_nil)
  (is_kill (is_seq (is_for (II.m (ii_seq ip_nm)) (is_end (is_seq (is_set ((ip_un ((ip_call (ipa_c ((ip_lc (sl := []) (ii_seq ip_nm) it_yes (ip_call (ipa_c ipo_nm (ipa_c ipo_nm ipa_n))))).o ipa_n))).o)).e)
  (is_seq (is_if ((it_or (it_P (ip_bin ((ip_lc (sl := []) (ii_seq ip_nm) (it_P (ip_bin ipo_nm ipo_nm)) ip_nm)).o ((ip_lst ipc_n)).o)) (it_P (ip_bin ((ip_call (ipa_c ipo_nm (ipa_c ipo_nm ipa_n)))).o ((ip_tup (ipc_c ip_nm ipc_n))).o)))).t (is_ret (ip_C).e) is_nil)
  (is_seq (is_set ((ip_app (ipa_c ((ip_lc (sl := []) (ii_seq ip_nm) (it_P (ip_bin ipo_nm ipo_nm)) ip_nm)).o ipa_n))).e)
  (is_seq (is_if ((it_or (it_P (ip_bin ((ip_call (ipa_c ipo_nm (ipa_c ipo_nm ipa_n)))).o ipo_nm)) (it_P (ip_un ((ip_app (ipa_c ipo_nm ipa_n))).o)))).t (is_ret (ip_C).e) is_nil)
  (is_do (ie_mut (imc_c (ip_nm).e imc_n)))))))))
  (is_seq (is_set (ie_call (ima_c imo_nm (ima_c (IE.o ((ip_bin ((ip_bin ipo_nm (ip_C).o)).o ((ip_bin ipo_nm (ip_C).o)).o)).e) ima_n))))
  (is_seq (is_set ((ip_app (ipa_c (ip_xor).o ipa_n))).e)
  (is_seq (is_if ((it_P (ip_xorNe (ip_call (ipa_c ipo_nm (ipa_c ipo_nm ipa_n))) ip_nm (ip_call (ipa_c ipo_nm (ipa_c ipo_nm ipa_n)))))).t (is_ret (ip_C).e) is_nil)
  (is_kill (is_for (II.m (ii_seq (ip_call (ipa_c ipo_nm (ipa_c ipo_nm ipa_n))))) (is_end (is_if ((it_P (ip_bin ((ip_call (ipa_c ipo_nm (ipa_c ipo_nm (ipa_c ipo_nm ipa_n))))).o ((ip_app (ipa_c ((ip_call (ipa_c ipo_nm (ipa_c ipo_nm ipa_n)))).o ipa_n))).o))).t (is_ret (ip_C).e) is_nil)))))))))))))))))
  (is_ret (ip_C).e)))
theorem okg_law (main : ∀ ns : List Int, ns.length ≤ 63 → ∃ ε, S_law (lawS 14 ns) = some (.ok (.rt (.bool true)) ε)) (T : Tx mg) (C_law_sheet : Cal P w K mg base 3 "_law_sheet" ps_law_sheet pk_law_sheet fr_law_sheet (spM F_law_sheet)) (C_law_tear : Cal P w K mg base 3 "_law_tear" ps_law_tear pk_law_tear fr_law_tear (spM F_law_tear)) (C_knots : Cal P w K mg base 1 "knots" ps_knots pk_knots fr_knots (spP F_knots)) (C_lacks : Cal P w K mg base 3 "lacks" ps_lacks pk_lacks fr_lacks (spP F_lacks)) (C_tear_error : Cal P w K mg base 3 "tear_error" ps_tear_error pk_tear_error fr_tear_error (spP F_tear_errorS)) (C_holes : Cal P w K mg base 4 "holes" ps_holes pk_holes fr_holes (spP F_holes)) (C_odd : Cal P w K mg base 4 "odd" ps_odd pk_odd fr_odd (spP F_odd)) (C_law_flat : Cal P w K mg base 1 "_law_flat" ps_law_flat pk_law_flat fr_law_flat (spP F_law_flat)) (C_ends_of : Cal P w K mg base 1 "ends_of" ps_ends_of pk_ends_of fr_ends_of (spP F_ends_of)) (C_law_draw : Cal P w K mg base 1 "_law_draw" ps_law_draw pk_law_draw fr_law_draw (spM F_draw)) (C_lost : Cal P w K mg base 4 "lost" ps_lost pk_lost fr_lost (spP F_lost)) (C_bars_of : Cal P w K mg base 1 "bars_of" ps_bars_of pk_bars_of fr_bars_of (spP F_bars_of)) {f fD : Addr} {fd fdD : FuncData} (F : Fun K "law" "law" s_law f fd) (FD : Fun K "_law_deck" "_law_deck" s_law_deck fD fdD) (gD : mg "_law_deck" = some (.ref fD)) : FnG P w K mg base CX0 5 f fd ["_law_script"] (spLawG K) :=
  ok_law (κr := κ_law.tail.tail) F sc_law rfl (s1 := (defBody s_law).headD (.Pass ⟨0, 0, 0, 0⟩)) (rest := (defBody s_law).tail) rfl
    (fun cdv A outer s H E hr hgd => ps_set (i := 1) sc_law.nd rfl (by first | exact Or.inl rfl | exact Or.inr rfl) (pe_callG (ok_deck FD sc_law_deck fun cdv A outer s H E => pss_one (ps_ret (pe_lst (pa_cons (pe_callTy call_list_of (by rfl) T.list (by decide +kernel) (pa_cons (pe_slice sl_list (pv 0) po_none (po_some pe_int)) pa_nil)) (pa_cons pe_int (pa_cons pe_int (pa_cons pe_int pa_nil)))))))
      (hr.mono (by decide)) hgd rfl gD FD.kp (FD.binds fun _ _ _ _ _ _ us hl => match us, hl with | [_], _ => rfl) pass0 (pa_cons (pv 0) pa_nil) (by decide) rfl rfl))
    (fun cdv A outer s H E hr hgd => body_law T C_law_sheet C_law_tear C_knots C_lacks C_tear_error C_holes C_odd C_law_flat C_ends_of C_law_draw C_lost C_bars_of hr hgd) fun ns hl => snd_law is_law (main ns hl)
end
end L09
namespace FL
open PySem PySem.Spec L2 DL
namespace Wy
end Wy
end FL
namespace FL
open PySem PySem.Spec L2 DL
namespace Wy
end Wy
end FL
namespace FL
open PySem PySem.Spec L2 DL
namespace Wy
section
variable {S : Sheet} {T : List Int}
def dg (S : Sheet) (k : Ky) (l : List Int) : Nat := (l.filter fun e => decide (k ∈ endsL S e)).length
theorem dg_app {k : Ky} {l m : List Int} : dg S k (l ++ m) = dg S k l + dg S k m := by
  unfold dg
  rw [List.filter_append, List.length_append]
theorem dg_perm {k : Ky} {l m : List Int} (h : l.Perm m) : dg S k l = dg S k m := (h.filter _).length_eq
end
end Wy
end FL
namespace FL
open PySem PySem.Spec L2 DL
namespace Wy
section
variable {S : Sheet} {T : List Int}
theorem lack_dg (hT : IsTear S T) {k : Ky} (hk : k ∈ knotsI S) : (lackI S T k).length = dg S k T := by
  unfold dg
  refine List.Perm.length_eq ((List.perm_ext_iff_of_nodup (Tr.lack_nd hT hk) (hT.asc.nodup.filter _)).mpr fun b => ?_)
  rw [mem_lack hT (knot_even hk), List.mem_filter, decide_eq_true_eq]
end
end Wy
end FL
namespace FL
open PySem PySem.Spec L2 DL
namespace Lo
open Pe Bf Tr Wk Wy
section
variable {S : Sheet}
def _root_.SsH16 : List Lean.Name := SsH15 ++ []
def _root_.SsL16 : List Lean.Name := SsL15 ++ [`FL.newD_ok, `FL.newD_ex, `FL.gd1_eq, `FL.gd2_eq, `FL.gd3_eq]
local macro_rules | `(tactic| simp only [$as,*] $[$l]?) => SsM (`word_snoc :: SsH16 ++ SsL16) as.getElems l
theorem one_kit {V x : DL.D} {k : Nat} {pv : Option Int} (hx : flatA x = true) (hp : Pv V pv k) : (bindD (.tup [.nm 2, .nm 3]) (.tuple [.int (k : Nat), x]) [some S.d, some V, none, none]).bind B_tear_errorS = (match Bf.go (wholeB S []) pv [x] k with
    | some _ => some (.ok (.rt (.int (k : Nat))) [some S.d, some V, some (.int (k : Nat)), some x])
    | none => some (.ok .nx [some S.d, some V, none, none])) := by
  have e := bar_eq (S := S) hx
  have ew : barB S = wholeB S [] := by
    funext i
    rw [whole_iff]
    simp
  rw [ew] at e
  obtain ⟨K, hK⟩ : ∃ K : Int, (k : Int) = K := ⟨_, rfl⟩
  obtain ⟨SD, hS⟩ : ∃ SD, S.d = SD := ⟨_, rfl⟩
  have nn : 0 ≤ K := by omega
  rw [hS] at e
  rw [hS, hK]
  by_cases hi : ∃ i, x = .int i
  · obtain ⟨i, rfl⟩ := hi
    have e : F_is_barS [SD, .int i] = some (.bool (wholeB S [] i)) := e
    rw [go_int]
    rcases hp with ⟨rfl, k0⟩ | ⟨j, rfl, k1, a⟩
    · have z : ¬ 0 < K := by omega
      cases q : wholeB S [] i <;> rw [q] at e
      · rw [if_neg (by simp)]
        simp only [B_tear_errorS, ss_, e, true_or, ↓reduceIte]
      · rw [if_pos ⟨rfl, fun _ h => nomatch h⟩]
        simp only [B_tear_errorS, ss_, e, z, Bf.go]
    · have z : 0 < K := by omega
      rw [hK] at a
      cases q : wholeB S [] i <;> rw [q] at e
      · rw [if_neg (by simp)]
        simp only [B_tear_errorS, ss_, e, true_or, ↓reduceIte, a]
      · by_cases w : j < i
        · have w2 : ¬ i ≤ j := by omega
          rw [if_pos ⟨rfl, fun _ h => by cases h; exact w⟩]
          simp only [B_tear_errorS, ss_, e, z, a, w2, Bf.go]
        · have w2 : i ≤ j := by omega
          rw [if_neg (fun h => w (h.2 j rfl))]
          simp only [B_tear_errorS, ss_, e, z, a, w2, or_true, ↓reduceIte]
  · have hi : ∀ i, x ≠ .int i := fun i h => hi ⟨i, h⟩
    rw [go_other hi]
    rw [no_int hi] at e
    simp only [B_tear_errorS, ss_, e, true_or, ↓reduceIte]
def tearR (S : Sheet) : DL.D → DL.D
  | .tuple xs => faultD S [] xs
  | _ => .int (-1)
theorem kit_fault {xs : List DL.D} (hf : ∀ x ∈ xs, flatA x = true) (l : xs.length ≤ 100000) : F_tear_errorS [S.d, .tuple xs] = some (faultD S [] xs) := by
  obtain ⟨x, k2⟩ := first_loop (t := .tup [.nm 2, .nm 3]) (s := B_tear_errorS) (g := fun k x => .tuple [.int (k : Nat), x]) (ε := [some S.d, some (.tuple xs), none, none]) (P := wholeB S []) (V := .tuple xs)
    (Rz := fun k x => .ok (.rt (.int (k : Nat))) [some S.d, some (.tuple xs), some (.int (k : Nat)), some x]) (fun _ _ _ => rfl) (fun x k pv h1 h2 h3 => one_kit h1 h3) xs 0 none hf (at_all l) (.inl ⟨rfl, rfl⟩)
  unfold faultD
  have en : enumD xs = (xs.zipIdx 0).map fun p => .tuple [.int (p.2 : Nat), p.1] := en_zip
  have ti : dIsi "tuple" (.tuple xs) = some (.bool true) := isi_tuple_tuple
  have sq : seqD (.tuple xs) = some xs := rfl
  obtain ⟨V, hV⟩ : ∃ V, PyData.tuple xs = V := ⟨_, rfl⟩
  rw [hV] at k2 ti sq
  rw [hV]
  cases hg : Bf.go (wholeB S []) none xs 0 with
  | some l =>
    rw [hg] at k2
    dsimp only at k2 ⊢
    obtain ⟨K, hK⟩ : ∃ K : Int, (l : Int) = K := ⟨_, rfl⟩
    rw [hK] at k2 ⊢
    simp only [F_tear_errorS, S_tear_errorS, runP, ss_, ti, sq, en, k2, not_true_eq_false, ↓reduceIte]
  | none =>
    rw [hg] at k2
    dsimp only at k2 ⊢
    simp only [F_tear_errorS, S_tear_errorS, runP, ss_, ti, sq, en, k2, not_true_eq_false, ↓reduceIte]
/-- the program's and the law's word on a tear -/
theorem tear_eq {d : DL.D} (h : flatA d = true) (l : ∀ es, d = .tuple es → es.length ≤ 1000) : F_tear_errorS [S.d, d] = some (tearR S d) ∧ F_tear_faultS [S.d, d] = some (tearR S d) := by
  match d, h with
  | .none, _ => constructor <;> simp only [F_tear_errorS, S_tear_errorS, F_tear_faultS, S_tear_faultS, runP, ss_, tearR]
  | .bool b, _ => constructor <;> simp only [F_tear_errorS, S_tear_errorS, F_tear_faultS, S_tear_faultS, runP, ss_, tearR]
  | .int i, _ => constructor <;> simp only [F_tear_errorS, S_tear_errorS, F_tear_faultS, S_tear_faultS, runP, ss_, tearR]
  | .str z, _ => constructor <;> simp only [F_tear_errorS, S_tear_errorS, F_tear_faultS, S_tear_faultS, runP, ss_, tearR]
  | .list ds, _ => constructor <;> simp only [F_tear_errorS, S_tear_errorS, F_tear_faultS, S_tear_faultS, runP, ss_, tearR]
  | .dict es, h =>
    have e := isi_tuple_dict (flatA_D h)
    constructor <;> simp only [F_tear_errorS, S_tear_errorS, F_tear_faultS, S_tear_faultS, runP, ss_, e, tearR]
  | .tuple xs, h =>
    have hl := l xs rfl
    refine ⟨kit_fault (flatL_mem h) (by omega), ?_⟩
    have e : F_trim_faultS [S.d, .tuple [], .tuple xs] = some (faultD S [] xs) := fault_eq (T := []) (flatL_mem h) (by omega)
    have ti : dIsi "tuple" (.tuple xs) = some (.bool true) := isi_tuple_tuple
    show _ = some (faultD S [] xs)
    obtain ⟨V, hV⟩ : ∃ V, PyData.tuple xs = V := ⟨_, rfl⟩
    obtain ⟨W, hW⟩ : ∃ V, faultD S [] xs = V := ⟨_, rfl⟩
    rw [hV] at e ti
    rw [hW] at e
    rw [hV, hW]
    simp only [F_tear_faultS, S_tear_faultS, runP, ss_, ti, e]
theorem go_tear {P : Int → Bool} : ∀ {T : List Int} {pv : Option Int} {k : Nat}, T.Pairwise (· < ·) → (∀ i ∈ T, P i = true) → (∀ j, pv = some j → ∀ i ∈ T, j < i) → go P pv (T.map .int) k = none
  | [], _, _, _, _, _ => rfl
  | i :: T, pv, k, h, hp, hv => by
    show (if P i = true ∧ (∀ j, pv = some j → j < i) then Bf.go P (some i) (T.map .int) (k + 1) else some k) = none
    rw [if_pos ⟨hp i List.mem_cons_self, fun j e => hv j e i List.mem_cons_self⟩]
    exact go_tear (List.pairwise_cons.mp h).2 (fun j hj => hp j (List.mem_cons_of_mem _ hj)) fun j e l hl => by
      cases e
      exact (List.pairwise_cons.mp h).1 l hl
theorem tear_some {T : List Int} (hT : IsTear S T) : tearR S (tL .int T) = .none := by
  show faultD S [] (T.map .int) = _
  unfold faultD
  rw [go_tear (pv := none) hT.1 (fun i hi => by
    have := hT.2 i hi
    unfold wholeB
    rw [decide_eq_true this.1, decide_eq_true this.2]
    rfl) (fun _ h => nomatch h)]
end
end Lo
end FL
namespace L09
open PySem PySem.Spec L2 DL FL FL.Lo FL.Pe FL.Tr FL.Wk FL.Wy
section
variable {S : Sheet} {T : List Int}
def kL (R C : Int) : List (Int × Int) := (rgI (R + 1)).flatMap fun r => ((rgI (C + 1)).map fun c => (r, c)).filter evenB
theorem kL_all : ((List.range 9).all fun r => (List.range 9).all fun c => decide ((kL (r : Int) (c : Int)).length ≤ 41)) = true := by decide +kernel
theorem knots_41 : (knotsI S).length ≤ 41 := by
  have r1 := S.r1; have r2 := S.r2; have c1 := S.c1; have c2 := S.c2
  have h := List.all_eq_true.mp (List.all_eq_true.mp kL_all S.R.toNat (List.mem_range.mpr (by omega))) S.C.toNat (List.mem_range.mpr (by omega))
  rw [decide_eq_true_eq, show ((S.R.toNat : Nat) : Int) = S.R by omega, show ((S.C.toNat : Nat) : Int) = S.C by omega] at h
  exact h
theorem sub_41 {l : List (Int × Int)} (nd : l.Nodup) (h : ∀ k ∈ l, k ∈ knotsI S) : l.length ≤ 41 := Nat.le_trans (List.Nodup.length_le_of_subset nd h) knots_41
theorem ded_63 {l : List (Int × Int)} (h : ∀ k ∈ l, k ∈ knotsI S) : (dedP l).length < 63 := Nat.lt_of_le_of_lt (sub_41 (S := S) (dedP_nd l [] List.nodup_nil) fun k hk => by
  have := (dedP_mem l [] k).mp hk
  simp only [List.not_mem_nil, false_or] at this
  exact h k this) (by decide)
theorem ends_ne {b : Int} : (endsI S b).1 ≠ (endsI S b).2 := fun e => by
  have h := congrArg Prod.fst e
  unfold endsI at h
  split at h <;> simp at h <;> omega
theorem two_ends {b : Int} (hb : 0 ≤ b ∧ b < S.R * S.C) : ((knotsI S).filter fun k => decide (k ∈ endsL S b)).length = 2 := by
  have nd : (endsL S b).Nodup := List.nodup_cons.mpr ⟨by simpa using ends_ne, by simp⟩
  have : ((knotsI S).filter fun k => decide (k ∈ endsL S b)).Perm (endsL S b) := (List.perm_ext_iff_of_nodup (Tr.knots_nd.filter _) nd).mpr fun k => by
    rw [List.mem_filter, decide_eq_true_eq]
    exact ⟨fun h => h.2, fun h => ⟨ends_knots hb h, h⟩⟩
  exact this.length_eq
theorem hand_dg (ks : List (Int × Int)) : ∀ l : List Int, (∀ b ∈ l, (ks.filter fun k => decide (k ∈ endsL S b)).length = 2) → (ks.map fun k => dg S k l).sum = 2 * l.length
  | [], _ => by
    induction ks with
    | nil => rfl
    | cons k ks ih => rw [List.map_cons, List.sum_cons, ih fun b h => nomatch h]; rfl
  | b :: l, h => by
    have ih := hand_dg ks l fun x hx => h x (List.mem_cons_of_mem _ hx)
    have hb := h b List.mem_cons_self
    have add : ∀ ks : List (Int × Int), (ks.map fun k => dg S k (b :: l)).sum = (ks.filter fun k => decide (k ∈ endsL S b)).length + (ks.map fun k => dg S k l).sum := fun ks => by
      induction ks with
      | nil => rfl
      | cons k ks ih =>
        rw [List.map_cons, List.sum_cons, ih, List.map_cons, List.sum_cons, List.filter_cons]
        have : dg S k (b :: l) = (if k ∈ endsL S b then 1 else 0) + dg S k l := by
          unfold dg
          rw [List.filter_cons]
          by_cases c : k ∈ endsL S b
          · simp [c]; omega
          · simp [c]
        rw [this]
        by_cases c : k ∈ endsL S b
        · simp [c]; omega
        · simp [c]; omega
    rw [add, hb, ih, List.length_cons]
    omega
theorem hand (hT : IsTear S T) : ((knotsI S).map fun k => (lackI S T k).length).sum = 2 * T.length := by
  rw [← hand_dg (knotsI S) T fun b hb => two_ends (hT.inb b hb)]
  congr 1
  exact List.map_congr_left fun k hk => lack_dg hT hk
theorem hand_int (hT : IsTear S T) : ((knotsI S).map fun k => ((lackI S T k).length : Int)).sum = 2 * (T.length : Int) := by
  have h := hand hT
  have c : ∀ ks : List (Int × Int), (ks.map fun k => ((lackI S T k).length : Int)).sum = (((ks.map fun k => (lackI S T k).length).sum : Nat) : Int) := fun ks => by
    induction ks with
    | nil => rfl
    | cons k ks ih => rw [List.map_cons, List.sum_cons, ih, List.map_cons, List.sum_cons]; omega
  rw [c, h]
  omega
theorem odd_even (hT : IsTear S T) : (oddI S T).length % 2 = 0 := by
  have h := hand hT
  have c : ∀ ks : List (Int × Int), (ks.map fun k => (lackI S T k).length).sum % 2 = (ks.filter fun p => decide (((lackI S T p).length : Int) % 2 = 1)).length % 2 := fun ks => by
    induction ks with
    | nil => rfl
    | cons k ks ih =>
      rw [List.map_cons, List.sum_cons, List.filter_cons]
      by_cases z : ((lackI S T k).length : Int) % 2 = 1
      · simp only [z, decide_true, if_true, List.length_cons]
        omega
      · simp only [z, decide_false, Bool.false_eq_true, if_false]
        omega
  have := c (knotsI S)
  rw [h] at this
  show (List.filter _ _).length % 2 = 0
  omega
theorem odd_range (hT : IsTear S T) : rgIn 0 99 2 (oddI S T).length = true := by
  have h1 := odd_even hT
  have h2 := sub_41 (S := S) (l := oddI S T) odd_nd fun k hk => (List.mem_filter.mp hk).1
  unfold rgIn
  simp only [Bool.and_eq_true, decide_eq_true_eq, beq_iff_eq]
  omega
theorem hole_knots (hT : IsTear S T) {b0 : Int} {p : Int × Int} : p ∈ oddI S (compI S T b0) ↔ p ∈ knotsOf S (compI S T b0) ∧ p ∈ oddI S T := by
  have hh := comp_tear hT (b := b0)
  constructor
  · intro h
    obtain ⟨h1, h2⟩ := List.mem_filter.mp h
    have hp : p ∈ knotsOf S (compI S T b0) := by
      cases q : lackI S (compI S T b0) p with
      | nil => rw [q] at h2; simp at h2
      | cons b r =>
        have : b ∈ lackI S (compI S T b0) p := by rw [q]; exact List.mem_cons_self
        obtain ⟨m1, m2⟩ := (mem_lack hh (mem_knotsI.mp h1).2.2).mp this
        exact mem_knotsOf.mpr ⟨b, m1, m2⟩
    refine ⟨hp, List.mem_filter.mpr ⟨h1, ?_⟩⟩
    rw [← lack_same hT hp]
    exact h2
  · rintro ⟨hp, h⟩
    obtain ⟨h1, h2⟩ := List.mem_filter.mp h
    refine List.mem_filter.mpr ⟨h1, ?_⟩
    rw [lack_same hT hp]
    exact h2
/-- the knots of a hole, ascending -/
def ownI (S : Sheet) (h : List Int) : List (Int × Int) := onceP (h.flatMap (endsL S))
theorem ownI_mem {h : List Int} {p : Int × Int} : p ∈ ownI S h ↔ p ∈ knotsOf S h := by
  unfold ownI onceP
  rw [sortP_mem]
  have := dedP_mem (h.flatMap (endsL S)) [] p
  simp only [List.not_mem_nil, false_or] at this
  rw [show p ∈ dedP (h.flatMap (endsL S)) ↔ p ∈ h.flatMap (endsL S) from this, mem_knotsOf, List.mem_flatMap]
theorem ownI_asc {h : List Int} : (ownI S h).Pairwise ltP := sortP_asc (dedP_nd _ [] List.nodup_nil)
theorem ownI_in {h : List Int} (hh : IsTear S h) {p : Int × Int} (hp : p ∈ ownI S h) : p ∈ knotsI S := by
  obtain ⟨b, hb, he⟩ := mem_knotsOf.mp (ownI_mem.mp hp)
  exact ends_knots (hh.inb b hb) he
theorem own_nd {h : List Int} : (ownI S h).Nodup := ownI_asc.imp fun {a b} h e => by
  subst e
  unfold ltP at h
  omega
theorem odd_asc : (oddI S T).Pairwise ltP := knots_asc.sublist List.filter_sublist
theorem here_is (hT : IsTear S T) {b0 : Int} : (ownI S (compI S T b0)).filter (fun p => decide (p ∈ oddI S T)) = oddI S (compI S T b0) :=
  ascP_ext (ownI_asc.sublist List.filter_sublist) odd_asc fun p => by
    rw [List.mem_filter, decide_eq_true_eq, hole_knots hT, ownI_mem]
theorem holes_apart (hT : IsTear S T) {a b : Int} (h : ∀ x ∈ compI S T a, x ∉ compI S T b) {p : Int × Int} (h1 : p ∈ ownI S (compI S T a)) : p ∉ ownI S (compI S T b) := fun h2 => by
  obtain ⟨_, ne, l1⟩ := knot_hole hT (ownI_mem.mp h1)
  obtain ⟨_, _, l2⟩ := knot_hole hT (ownI_mem.mp h2)
  cases q : lackI S T p with
  | nil => exact ne q
  | cons x r =>
    have m : x ∈ lackI S T p := by rw [q]; exact List.mem_cons_self
    exact h x (l1 x m) (l2 x m)
theorem flat_is (hT : IsTear S T) : sortI (holesI S T).flatten = T := by
  obtain ⟨h1, h2, h3⟩ := holes_part hT
  have nd : (holesI S T).flatten.Nodup := by
    refine List.pairwise_flatten.mpr ⟨fun h hh => ?_, h2.imp fun {a b} z x hx y hy e => z x hx (by rw [e]; exact hy)⟩
    exact (holes_tear hT h hh).asc.nodup
  refine asc_ext (sortI_asc nd) hT.asc fun x => ?_
  rw [sortI_mem, List.mem_flatten]
  constructor
  · rintro ⟨h, hh, hx⟩
    obtain ⟨b, hb, rfl⟩ := h1 h hh
    exact (mem_comp.mp hx).1
  · exact fun hx => h3 x hx
theorem turn_tear {b : Int} (hT : IsTear S T) (hb : 0 ≤ b ∧ b < S.R * S.C) : IsTear S (sortI (turnI b T)) := by
  refine ⟨sortI_asc (turnI_nd hT.asc.nodup), fun a ha => ?_⟩
  rw [sortI_mem, turnI_mem] at ha
  by_cases e : a = b
  · rw [e]; exact hb
  · have : a ∈ T := by simpa [e] using ha
    exact hT.inb a this
theorem turn_dg {b : Int} (hT : IsTear S T) (k : Int × Int) : (dg S k (sortI (turnI b T)) + dg S k T) % 2 = (if k ∈ endsL S b then 1 else 0) := by
  have p1 : dg S k (sortI (turnI b T)) = dg S k (turnI b T) := dg_perm (sortI_perm _)
  rw [p1]
  unfold turnI
  by_cases h : b ∈ T
  · rw [if_pos h]
    have p2 : T.Perm (b :: T.filter fun k => !decide (k = b)) := by
      refine (List.perm_ext_iff_of_nodup hT.asc.nodup (List.nodup_cons.mpr ⟨by simp, hT.asc.nodup.filter _⟩)).mpr fun x => ?_
      rw [List.mem_cons, List.mem_filter]
      by_cases e : x = b
      · simp [e, h]
      · simp [e]
    rw [dg_perm p2 (S := S) (k := k)]
    unfold dg
    rw [List.filter_cons]
    by_cases c : k ∈ endsL S b
    · simp only [c, decide_true, if_true, List.length_cons]
      omega
    · simp only [c, decide_false, Bool.false_eq_true, if_false]
      omega
  · rw [if_neg h, dg_app]
    unfold dg
    rw [List.filter_cons, List.filter_nil]
    by_cases c : k ∈ endsL S b
    · simp only [c, decide_true, if_true, List.length_cons, List.length_nil]
      omega
    · simp only [c, decide_false, Bool.false_eq_true, if_false, List.length_nil]
      omega
theorem xor_is {b : Int} (hT : IsTear S T) (hb : 0 ≤ b ∧ b < S.R * S.C) : xorNeB (oddI S (sortI (turnI b T))) (oddI S T) (endsL S b) = false := by
  rw [← Bool.not_eq_true, xorNeB_iff, Classical.not_not]
  intro k
  by_cases hk : k ∈ knotsI S
  · have d := turn_dg (S := S) (b := b) hT k
    have o1 : k ∈ oddI S (sortI (turnI b T)) ↔ dg S k (sortI (turnI b T)) % 2 = 1 := by
      unfold oddI
      rw [List.mem_filter, decide_eq_true_eq, lack_dg (turn_tear hT hb) hk]
      exact ⟨fun h => by omega, fun h => ⟨hk, by omega⟩⟩
    have o2 : k ∈ oddI S T ↔ dg S k T % 2 = 1 := by
      unfold oddI
      rw [List.mem_filter, decide_eq_true_eq, lack_dg hT hk]
      exact ⟨fun h => by omega, fun h => ⟨hk, by omega⟩⟩
    rw [o1, o2]
    by_cases c : k ∈ endsL S b
    · simp only [c, if_true] at d
      simp only [c, iff_true]
      omega
    · simp only [c, if_false] at d
      simp only [c, iff_false]
      omega
  · have a1 : k ∉ oddI S (sortI (turnI b T)) := fun h => hk (List.mem_filter.mp h).1
    have a2 : k ∉ oddI S T := fun h => hk (List.mem_filter.mp h).1
    have a3 : k ∉ endsL S b := fun h => hk (ends_knots hb h)
    simp [a1, a2, a3]
theorem te_ok (hT : IsTear S T) : F_tear_errorS [S.d, tL .int T] = some .none := by
  have gT : Gd 1 64 (tL .int T) := hT.gd
  have h := (tear_eq (S := S) (d := tL .int T) (Gd.gw gT).flt (fun es e => by cases e; rw [List.length_map]; have := hT.len; omega)).1
  rw [tear_some hT] at h
  exact h
theorem prs_pk : ∀ l : List (Int × Int), prsOf (l.map pk) = some l
  | [] => rfl
  | p :: l => by
    show (prsOf (l.map pk)).map ((p.1, p.2) :: ·) = _
    rw [prs_pk l]
    rfl
theorem knot_inB {k : Int × Int} (h : k ∈ knotsI S) : inB k = true := by
  have := mem_knotsI.mp h
  have r2 := S.r2; have c2 := S.c2
  unfold inB
  rw [Bool.and_eq_true, decide_eq_true_eq, decide_eq_true_eq]
  omega
theorem sortM_ok {l : List (Int × Int)} (h : ∀ k ∈ l, k ∈ knotsI S) : dSortSetM (lL pk l) = some (lL pk (onceP l)) := by
  show (prsOf (l.map pk)).bind (fun ps => if (dedP ps).length < 63 ∧ ps.all inB = true then some (PyData.list ((onceP ps).map FL.pk)) else none) = _
  rw [prs_pk, Option.bind_some, if_pos ⟨ded_63 h, List.all_eq_true.mpr fun k hk => knot_inB (h k hk)⟩]
  rfl
theorem rg_ok {n : Nat} (h : rgIn 0 99 2 n = true) : dNotInRg 0 99 2 (.int (n : Int)) = some (.bool false) := by
  show some (PyData.bool (!rgIn 0 99 2 n)) = _
  rw [h]
  rfl
section
variable {α β : Type} {f : β → DL.D} {g : α → DL.D} {h : α → List β}
local macro_rules | `(tactic| simp only [$as,*] $[$l]?) => SsM (`word_snoc :: SsH16 ++ SsL16) as.getElems l
theorem flat_loop {k : Nat} : ∀ (xs : List α) (acc : List β) (a : Option DL.D), (∀ x ∈ xs, (h x).length ≤ k) → (∀ x ∈ xs, ∀ acc : List β, acc.length ≤ 10000 → fExtA (lL f acc) [g x] = some (.none, lL f (acc ++ h x))) → acc.length + xs.length * k ≤ 10000 →
    ∃ a', forL (.nm 2) B_law_flat (xs.map g) [a, some (lL f acc), none] = some (.ok .nx [a', some (lL f (acc ++ xs.flatMap h)), none])
  | [], acc, a, _, _, _ => ⟨a, by rw [List.flatMap_nil, List.append_nil]; rfl⟩
  | x :: xs, acc, a, hk, hg, hl => by
    rw [List.length_cons, Nat.succ_mul] at hl
    have e := hg x List.mem_cons_self acc (by omega)
    have t : B_law_flat [a, some (lL f acc), some (g x)] = some (.ok .nx [none, some (lL f (acc ++ h x)), none]) := by
      simp only [B_law_flat, ss_, e]
    have := hk x List.mem_cons_self
    obtain ⟨a', ih⟩ := flat_loop xs (acc ++ h x) none (fun y hy => hk y (List.mem_cons_of_mem _ hy)) (fun y hy => hg y (List.mem_cons_of_mem _ hy)) (by rw [List.length_append]; omega)
    refine ⟨a', ?_⟩
    rw [List.map_cons, forL_cons, bindD_nm, b_some, show (_ : En).set 2 (some (g x)) = [a, some (lL f acc), some (g x)] from rfl, t, lp_nx, ih, List.flatMap_cons, List.append_assoc]
theorem flat_ok {k : Nat} {d : DL.D} {xs : List α} (hk : ∀ x ∈ xs, (h x).length ≤ k) (hg : ∀ x ∈ xs, ∀ acc : List β, acc.length ≤ 10000 → fExtA (lL f acc) [g x] = some (.none, lL f (acc ++ h x))) (hd : seqD d = some (xs.map g)) (hl : xs.length * k ≤ 10000) : F_law_flat [d] = some (lL f (xs.flatMap h)) := by
  obtain ⟨a', e⟩ := flat_loop (f := f) xs [] (some d) hk hg (by simpa using hl)
  have e0 : PyData.list [] = lL f [] := rfl
  rw [List.nil_append] at e
  simp only [F_law_flat, S_law_flat, runP, ss_, e0, hd, e]
end
theorem flat_ends {hs : List Int} (l : hs.length ≤ 64) : F_law_flat [lL (endsD S) hs] = some (lL pk (hs.flatMap (endsL S))) :=
  flat_ok (k := 2) (fun _ _ => Nat.le_refl _) (fun x _ acc ha => ext_tL (f := pk) (ys := endsL S x) (by rw [size_eq]; simp only [endsL, List.length_cons, List.length_nil]; omega)) rfl (by omega)
theorem flat_holes {hs : List (List Int)} (l : hs.length ≤ 64) (hl : ∀ h ∈ hs, h.length ≤ 64) : F_law_flat [tL tLI hs] = some (lL .int hs.flatten) := by
  have := flat_ok (f := PyData.int) (g := tLI) (h := fun x : List Int => x) (k := 64) (xs := hs) hl (fun x hx acc ha => ext_tL (f := PyData.int) (by have := hl x hx; rw [size_eq]; omega)) (d := tL tLI hs) rfl (by omega)
  rw [this]
  simp
abbrev eG (S : Sheet) (dk : DL.D) (P : List (Int × Int)) (O : List (Int × Int)) (a0 a2 a4 a5 a7 a8 a9 a11 a12 a13 a14 a15 : Option DL.D) : En := [a0, some dk, a2, some S.d, a4, a5, some (lL pk P), a7, a8, a9, some (tL pk O), a11, a12, a13, a14, a15]
local macro_rules | `(tactic| simp only [$as,*] $[$l]?) => SsM (`word_snoc :: SsH16 ++ SsL16) as.getElems l
theorem hole_turn9 (hT : IsTear S T) {b0 : Int} (hb : b0 ∈ T) {dk : DL.D} {P : List (Int × Int)} (hP : ∀ p ∈ ownI S (compI S T b0), p ∉ P) (hl : P.length ≤ 9000) {TD a0 a2 a5 a7 a8 a9 a12 a13 a14 a15 : Option DL.D} :
    B_law_1 (eG S dk P (oddI S T) a0 a2 TD a5 a7 a8 a9 (some (tLI (compI S T b0))) a12 a13 a14 a15) = some (.ok .nx (eG S dk (P ++ ownI S (compI S T b0)) (oddI S T) none none TD none none none none none none none none none)) := by
  have hh := comp_tear hT (b := b0)
  have en := flat_ends (S := S) (hs := compI S T b0) hh.len
  have so := sortM_ok (S := S) (l := (compI S T b0).flatMap (endsL S)) fun k hk => by
    obtain ⟨b, h1, h2⟩ := List.mem_flatMap.mp hk
    exact ends_knots (hh.inb b h1) h2
  have so : dSortSetM (lL pk ((compI S T b0).flatMap (endsL S))) = some (lL pk (ownI S (compI S T b0))) := so
  have f1 : (ownI S (compI S T b0)).filter (fun p => decide (p ∈ P)) = [] := List.filter_eq_nil_iff.mpr fun p hp => by simpa using hP p hp
  have f2 := here_is hT (b0 := b0)
  have ho := holes_eq hh
  rw [holes_one (comp_hole hT hb)] at ho
  have gh : Gd 1 64 (tL .int (compI S T b0)) := hh.gd
  have n1 : dNe (tL tLI [compI S T b0]) (.tuple [tLI (compI S T b0)]) = some (.bool false) := dNe_me (m := 2) (n := 200) (gd_tL (m := 1) (n := 64) (fun x hx => by rw [List.mem_singleton.mp hx]; exact gh) (by simp))
  have ol := sub_41 (S := S) (l := ownI S (compI S T b0)) own_nd fun k hk => ownI_in hh hk
  have ex := ext_lL (f := pk) (xs := P) (ys := ownI S (compI S T b0)) (by rw [size_eq]; omega)
  have rg := rg_ok (odd_range hh)
  have fe : ((compI S T b0).length ≤ sizeLine) = True := hh.fit
  have fo : ((ownI S (compI S T b0)).length ≤ sizeLine) = True := fits (by omega)
  obtain ⟨C, hC⟩ : ∃ C, compI S T b0 = C := ⟨_, rfl⟩
  obtain ⟨W, hW⟩ : ∃ W, ownI S C = W := ⟨_, rfl⟩
  obtain ⟨O, hO⟩ : ∃ O, oddI S T = O := ⟨_, rfl⟩
  obtain ⟨O2, hO2⟩ : ∃ O, oddI S C = O := ⟨_, rfl⟩
  have od : F_odd [S.d, tL .int C] = some (tL pk O2) := by rw [← hO2]; exact odd_eq
  rw [hC] at en so f1 f2 ho n1 ex rg fe fo
  rw [hW] at so f1 f2 ex fo
  rw [hO, hO2] at f2
  rw [hO2] at rg
  rw [hC, hW, hO]
  simp only [B_law_1, ss_, en, so, f1, f2, ho, n1, ex, rg, fe, fo, od]
theorem holes_loop9 (hT : IsTear S T) {dk : DL.D} {TD : Option DL.D} : ∀ (hs : List (List Int)) (P : List (Int × Int)) {a0 a2 a5 a7 a8 a9 a12 a13 a14 a15 : Option DL.D}, (∀ h ∈ hs, ∃ b ∈ T, h = compI S T b) → hs.Pairwise (fun h g => ∀ x ∈ h, x ∉ g) → (∀ h ∈ hs, ∀ p ∈ ownI S h, p ∉ P) → P.length + hs.length * 41 ≤ 9000 →
    ∃ Q b0 b2 b5 b7 b8 b9 b12 b13 b14 b15, forL (.nm 11) B_law_1 (hs.map tLI) (eG S dk P (oddI S T) a0 a2 TD a5 a7 a8 a9 none a12 a13 a14 a15) = some (.ok .nx (eG S dk Q (oddI S T) b0 b2 TD b5 b7 b8 b9 none b12 b13 b14 b15))
  | [], P, a0, a2, a5, a7, a8, a9, a12, a13, a14, a15, _, _, _, _ => ⟨P, a0, a2, a5, a7, a8, a9, a12, a13, a14, a15, rfl⟩
  | h :: hs, P, a0, a2, a5, a7, a8, a9, a12, a13, a14, a15, h1, h2, h3, hl => by
    obtain ⟨b0, hb, rfl⟩ := h1 h List.mem_cons_self
    obtain ⟨p1, p2⟩ := List.pairwise_cons.mp h2
    rw [List.length_cons, Nat.succ_mul] at hl
    have hh := comp_tear hT (b := b0)
    have ol := sub_41 (S := S) (l := ownI S (compI S T b0)) own_nd fun k hk => ownI_in hh hk
    have t := hole_turn9 hT hb (dk := dk) (P := P) (h3 _ List.mem_cons_self) (by omega) (TD := TD) (a0 := a0) (a2 := a2) (a5 := a5) (a7 := a7) (a8 := a8) (a9 := a9) (a12 := a12) (a13 := a13) (a14 := a14) (a15 := a15)
    obtain ⟨Q, b0', b2, b5, b7, b8, b9, b12, b13, b14, b15, ih⟩ := holes_loop9 hT hs (P ++ ownI S (compI S T b0)) (dk := dk) (TD := TD) (a0 := none) (a2 := none) (a5 := none) (a7 := none) (a8 := none) (a9 := none) (a12 := none) (a13 := none) (a14 := none) (a15 := none) (fun h hh => h1 h (List.mem_cons_of_mem _ hh)) p2 (fun g hg p hp z => by
      rcases List.mem_append.mp z with z | z
      · exact h3 g (List.mem_cons_of_mem _ hg) p hp z
      · obtain ⟨b1, hb1, rfl⟩ := h1 g (List.mem_cons_of_mem _ hg)
        exact holes_apart hT (p1 _ hg) z hp) (by rw [List.length_append]; omega)
    refine ⟨Q, b0', b2, b5, b7, b8, b9, b12, b13, b14, b15, ?_⟩
    rw [List.map_cons, forL_cons, bindD_nm, b_some, show (_ : En).set 11 (some (tLI (compI S T b0))) = eG S dk P (oddI S T) a0 a2 TD a5 a7 a8 a9 (some (tLI (compI S T b0))) a12 a13 a14 a15 from rfl, t, lp_nx]
    exact ih
theorem lost_turn {dk : DL.D} {p : Int × Int} (hp : p ∈ lostI S T) {a0 a2 a5 a6 a7 a9 a10 a11 a12 a13 a14 a15 : Option DL.D} :
    B_law_2 [a0, some dk, a2, some S.d, some (tL .int T), a5, a6, a7, some (pk p), a9, a10, a11, a12, a13, a14, a15] = some (.ok .nx [none, some dk, none, some S.d, some (tL .int T), none, none, none, none, none, none, none, none, none, none, none]) := by
  have h := of_decide_eq_true (List.mem_filter.mp hp).2
  obtain ⟨n, hn⟩ : ∃ n : Int, ((barsI S p).length : Int) = n := ⟨_, rfl⟩
  have e1 : F_lacks [S.d, tL .int T, pk p] = some (.int n) := by rw [lacks_eq, h, hn]
  have e2 : dLen [tL PyData.int (barsI S p)] = some (.int n) := by rw [len_tL, hn]
  obtain ⟨W, hW⟩ : ∃ W, tL PyData.int (barsI S p) = W := ⟨_, rfl⟩
  have e3 : F_bars_of [S.d, pk p] = some W := by rw [← hW]; exact bars_of_eq
  rw [hW] at e2
  obtain ⟨X, hX⟩ : ∃ X, pk p = X := ⟨_, rfl⟩
  obtain ⟨TD, hTD⟩ : ∃ X, tL PyData.int T = X := ⟨_, rfl⟩
  rw [hX, hTD] at e1
  rw [hX] at e3
  rw [hX, hTD]
  simp only [B_law_2, ss_, e1, e2, e3]
theorem lost_loop {dk : DL.D} : ∀ ps : List (Int × Int), (∀ p ∈ ps, p ∈ lostI S T) →
    forL (.nm 8) B_law_2 (ps.map pk) [none, some dk, none, some S.d, some (tL .int T), none, none, none, none, none, none, none, none, none, none, none] = some (.ok .nx [none, some dk, none, some S.d, some (tL .int T), none, none, none, none, none, none, none, none, none, none, none])
  | [], _ => rfl
  | p :: ps, h => by
    rw [List.map_cons, forL_cons, bindD_nm, b_some, show (_ : En).set 8 (some (pk p)) = [none, some dk, none, some S.d, some (tL .int T), none, none, none, some (pk p), none, none, none, none, none, none, none] from rfl, lost_turn (h p List.mem_cons_self), lp_nx]
    exact lost_loop ps fun q hq => h q (List.mem_cons_of_mem _ hq)
theorem xor3_ok {b : Int} (hT : IsTear S T) (hb : 0 ≤ b ∧ b < S.R * S.C) : dXorNe3 (tL pk (oddI S (sortI (turnI b T)))) (tL pk (oddI S T)) (endsD S b) = some (.bool false) := by
  have i1 : ∀ T' : List Int, ∀ k ∈ oddI S T', k ∈ knotsI S := fun T' k h => (List.mem_filter.mp h).1
  show (prsOf ((oddI S (sortI (turnI b T))).map pk)).bind (fun ps => (prsOf ((oddI S T).map pk)).bind fun qs => (prsOf ((endsL S b).map pk)).bind fun rs => if (dedP ps).length < 63 ∧ (dedP (ps ++ qs)).length < 63 ∧ (dedP rs).length < 63 then some (PyData.bool (xorNeB ps qs rs)) else none) = _
  rw [prs_pk, prs_pk, prs_pk, Option.bind_some, Option.bind_some, Option.bind_some, if_pos ⟨ded_63 (i1 _), ded_63 (S := S) fun k hk => (List.mem_append.mp hk).elim (i1 _ k) (i1 _ k), ded_63 (S := S) fun k hk => ends_knots hb hk⟩, xor_is hT hb]
end
local macro_rules | `(tactic| simp only [$as,*] $[$l]?) => SsM (`word_snoc :: SsH16 ++ SsL16) as.getElems l
theorem turn {m : Int} {dk : DL.D} (i : Int) (hd : Dk m dk) (hm : m ≤ 1000000000) : ∃ dk', B_law_3 [none, some dk, some (.int i), none, none, none, none, none, none, none, none, none, none, none, none, none] = some (.ok .nx [none, some dk', none, none, none, none, none, none, none, none, none, none, none, none, none, none]) ∧ Dk (m + 300) dk' := by
  obtain ⟨S, dk1, e1, hd1⟩ := sheet_ok (n := 8) hd
  obtain ⟨T, dk2, e2, hT, hd2⟩ := tear_ok (S := S) hd1
  have := S.many
  obtain ⟨b, dk3, e3, r0, r1, hd3⟩ := draw_ok (n := S.R * S.C) hd2
  refine ⟨dk3, ?_, hd3.le (by omega)⟩
  have te := te_ok hT
  have sm : dSum [lL PyData.int ((knotsI S).map fun p => ((lackI S T p).length : Int))] = some (.int (2 * (T.length : Int))) := by
    rw [← hand_int hT, sum_lL (xs := (knotsI S).map fun p => ((lackI S T p).length : Int)) (f := fun x => x), List.map_id']
  have rg := rg_ok (odd_range hT)
  have fl := flat_holes (hs := holesI S T) (holes_many hT) fun h hh => (holes_tear hT h hh).len
  have fi := flat_is hT
  obtain ⟨h1, h2, h3⟩ := holes_part hT
  obtain ⟨Q, b0, b2, b5, b7, b8, b9, b12, b13, b14, b15, lp⟩ := holes_loop9 hT (dk := dk2) (TD := some (tL .int T)) (holesI S T) [] (a0 := none) (a2 := none) (a5 := none) (a7 := none) (a8 := none) (a9 := some (tL tLI (holesI S T))) (a12 := none) (a13 := none) (a14 := none) (a15 := none) h1 h2 (fun _ _ _ _ z => nomatch z) (by
    have := holes_many hT
    rw [List.length_nil]
    omega)
  have sx := sortXor_ok (ns := T) (b := b) (by have := hT.len; omega) hT.asc.nodup
  have x3 := xor3_ok (b := b) hT ⟨r0, r1⟩
  have ll := lost_loop (S := S) (T := T) (dk := dk3) (lostI S T) fun _ h => h
  have fT := hT.fit
  have el : lL pk ([] : List (Int × Int)) = PyData.list [] := rfl
  have in0 : dIsNot .none .none = some (.bool false) := rfl
  unfold eG at lp
  rw [el] at lp
  simp only [B_law_3, ss_, in0, e1, e2, e3, te, sm, rg, fl, fi, sx, x3, lp, ll, fT, holes_eq hT, knots_fit]
theorem main : ∀ ns : List Int, ns.length ≤ 63 → ∃ ε, S_law (lawS 14 ns) = some (.ok (.rt (.bool true)) ε) := fun ns hl => by
  obtain ⟨dk', e, _⟩ := law_for (s := B_law_3) (k := 2) (fun dk => [none, some dk, none, none, none, none, none, none, none, none, none, none, none, none, none, none]) 300 (fun m dk i hd hm => turn i hd hm) (rgI 6) 0 (dkD ns 0 0 0) (Dk.start hl) (by rw [rgI_len]; decide)
  refine ⟨none :: some dk' :: List.replicate 14 none, ?_⟩
  simp only [S_law, lawS_eq, List.replicate, ss_, rng_n (n := 6) (by decide), e]
end L09
namespace L09
open PySem PySem.Spec L2 DL FL
theorem funOf {K : PySem.W.Frag} {x qual : Str} {st : Stmt} {f : Addr} {fd : FuncData} (F : FunD K x qual (defArgs st) (defBody st) (defScope st) [] [] f fd) : Fun K x qual st f fd := by
  obtain ⟨oc, od, dV, kV, doc, pm, an, cdv, ct, osl, e, lk, hcd, hD, _⟩ := F.ex
  rcases hD with ⟨_, rfl⟩ | ⟨e2, _⟩
  · exact ⟨⟨oc, od, kV, doc, pm, an, cdv, ct, osl, e, lk, hcd⟩, F.kp⟩
  · exact absurd rfl e2
theorem facts {P : Program} {w : World} {K : PySem.W.Frag} {h : Heap} {mg : Str → Option Value} {f : Addr} (X : K.In h) (G : h.Ns mainGlobals mg) (hfa : mg ("law" : Str) = some (.ref f)) (c : He.SaysD fa fn K) :
    ∃ fd : FuncData, (∀ (s : Shared) (v : Value), BindsTo s fd ⟨[v], []⟩ [("_law_script", v)]) ∧ ∀ base : Heap, K.In base → base.Ns mainGlobals mg → FnG P w K mg base CX0 5 f fd ["_law_script"] (spLawG K) := by
  obtain ⟨fd_law_draw, Fd_law_draw⟩ := c.def_ 0 (d := d_law_draw) rfl
  obtain ⟨fd_law_one, Fd_law_one⟩ := c.def_ 1 (d := d_law_one) rfl
  obtain ⟨fd_law_sheet, Fd_law_sheet⟩ := c.def_ 2 (d := d_law_sheet) rfl
  obtain ⟨fd_knots, Fd_knots⟩ := c.def_ 3 (d := d_knots) rfl
  obtain ⟨fd_bars_of, Fd_bars_of⟩ := c.def_ 4 (d := d_bars_of) rfl
  obtain ⟨fd_lacking, Fd_lacking⟩ := c.def_ 5 (d := d_lacking) rfl
  obtain ⟨fd_lacks, Fd_lacks⟩ := c.def_ 6 (d := d_lacks) rfl
  obtain ⟨fd_lost, Fd_lost⟩ := c.def_ 7 (d := d_lost) rfl
  obtain ⟨fd_law_ends, Fd_law_ends⟩ := c.def_ 8 (d := d_law_ends) rfl
  obtain ⟨fd_law_is_near, Fd_law_is_near⟩ := c.def_ 9 (d := d_law_is_near) rfl
  obtain ⟨fd_law_tear, Fd_law_tear⟩ := c.def_ 10 (d := d_law_tear) rfl
  obtain ⟨fd_ends_of, Fd_ends_of⟩ := c.def_ 11 (d := d_ends_of) rfl
  obtain ⟨fd_hole_of, Fd_hole_of⟩ := c.def_ 12 (d := d_hole_of) rfl
  obtain ⟨fd_holes, Fd_holes⟩ := c.def_ 13 (d := d_holes) rfl
  obtain ⟨fd_odd, Fd_odd⟩ := c.def_ 14 (d := d_odd) rfl
  obtain ⟨fd_is_integer, Fd_is_integer⟩ := c.def_ 15 (d := d_is_integer) rfl
  obtain ⟨fd_size, Fd_size⟩ := c.def_ 16 (d := d_size) rfl
  obtain ⟨fd_is_bar, Fd_is_bar⟩ := c.def_ 17 (d := d_is_bar) rfl
  obtain ⟨fd_tear_error, Fd_tear_error⟩ := c.def_ 18 (d := d_tear_error) rfl
  obtain ⟨fd_law_flat, Fd_law_flat⟩ := c.def_ 19 (d := d_law_flat) rfl
  obtain ⟨fd_law, Fd_law⟩ := c.def_ 20 (d := d_law) rfl
  obtain ⟨fd_law_deck, Fd_law_deck⟩ := c.def_ 21 (d := d_law_deck) rfl
  have T : Tx mg := ⟨He.free_ok X G (c.fact 22 (f := .free "abs") rfl), He.free_ok X G (c.fact 23 (f := .free "any") rfl), He.free_ok X G (c.fact 24 (f := .free "bool") rfl), He.free_ok X G (c.fact 25 (f := .free "enumerate") rfl), He.free_ok X G (c.fact 26 (f := .free "int") rfl), He.free_ok X G (c.fact 27 (f := .free "isinstance") rfl), He.free_ok X G (c.fact 28 (f := .free "len") rfl), He.free_ok X G (c.fact 29 (f := .free "list") rfl), He.free_ok X G (c.fact 30 (f := .free "min") rfl), He.free_ok X G (c.fact 31 (f := .free "range") rfl), He.free_ok X G (c.fact 32 (f := .free "set") rfl), He.free_ok X G (c.fact 33 (f := .free "sorted") rfl), He.free_ok X G (c.fact 34 (f := .free "sum") rfl), He.free_ok X G (c.fact 35 (f := .free "tuple") rfl)⟩
  have e := hfa.symm.trans (He.glo_ok X G (c.fact 20 (f := .glo "law") rfl))
  cases e
  have bl := FunD.bindsA (ps := ["_law_script"]) Fd_law fun _ _ _ _ _ _ us hl => match us, hl with | [_], _ => rfl
  refine ⟨fd_law, fun s v => bl s [v] rfl, fun base _ _ => ?_⟩
  have C_law_draw : Cal P w K mg base 1 "_law_draw" ps_law_draw pk_law_draw fr_law_draw (spM F_draw) := cal_law_draw T (funOf Fd_law_draw) (He.glo_ok X G (c.fact 0 (f := .glo "_law_draw") rfl))
  have C_law_one : Cal P w K mg base 2 "_law_one" ps_law_one pk_law_one fr_law_one (spM F_law_one) := cal_law_one T C_law_draw (funOf Fd_law_one) (He.glo_ok X G (c.fact 1 (f := .glo "_law_one") rfl))
  have C_law_sheet : Cal P w K mg base 3 "_law_sheet" ps_law_sheet pk_law_sheet fr_law_sheet (spM F_law_sheet) := cal_law_sheet T C_law_one C_law_draw (funOf Fd_law_sheet) (He.glo_ok X G (c.fact 2 (f := .glo "_law_sheet") rfl))
  have C_knots : Cal P w K mg base 1 "knots" ps_knots pk_knots fr_knots (spP F_knots) := cal_knots T (funOf Fd_knots) (He.glo_ok X G (c.fact 3 (f := .glo "knots") rfl))
  have C_bars_of : Cal P w K mg base 1 "bars_of" ps_bars_of pk_bars_of fr_bars_of (spP F_bars_of) := cal_bars_of T (funOf Fd_bars_of) (He.glo_ok X G (c.fact 4 (f := .glo "bars_of") rfl))
  have C_lacking : Cal P w K mg base 2 "lacking" ps_lacking pk_lacking fr_lacking (spP F_lacking) := cal_lacking T C_bars_of (funOf Fd_lacking) (He.glo_ok X G (c.fact 5 (f := .glo "lacking") rfl))
  have C_lacks : Cal P w K mg base 3 "lacks" ps_lacks pk_lacks fr_lacks (spP F_lacks) := cal_lacks T C_lacking (funOf Fd_lacks) (He.glo_ok X G (c.fact 6 (f := .glo "lacks") rfl))
  have C_lost : Cal P w K mg base 4 "lost" ps_lost pk_lost fr_lost (spP F_lost) := cal_lost T C_knots C_lacks C_bars_of (funOf Fd_lost) (He.glo_ok X G (c.fact 7 (f := .glo "lost") rfl))
  have C_law_ends : Cal P w K mg base 1 "_law_ends" ps_law_ends pk_law_ends fr_law_ends (spP F_law_ends) := cal_law_ends T (funOf Fd_law_ends) (He.glo_ok X G (c.fact 8 (f := .glo "_law_ends") rfl))
  have C_law_is_near : Cal P w K mg base 2 "_law_is_near" ps_law_is_near pk_law_is_near fr_law_is_near (spP F_law_is_near) := cal_law_is_near T C_law_ends (funOf Fd_law_is_near) (He.glo_ok X G (c.fact 9 (f := .glo "_law_is_near") rfl))
  have C_law_tear : Cal P w K mg base 3 "_law_tear" ps_law_tear pk_law_tear fr_law_tear (spM F_law_tear) := cal_law_tear T C_law_draw C_law_one C_law_ends C_law_is_near (funOf Fd_law_tear) (He.glo_ok X G (c.fact 10 (f := .glo "_law_tear") rfl))
  have C_ends_of : Cal P w K mg base 1 "ends_of" ps_ends_of pk_ends_of fr_ends_of (spP F_ends_of) := cal_ends_of T (funOf Fd_ends_of) (He.glo_ok X G (c.fact 11 (f := .glo "ends_of") rfl))
  have C_hole_of : Cal P w K mg base 3 "hole_of" ps_hole_of pk_hole_of fr_hole_of (spP F_hole_of) := cal_hole_of T C_ends_of C_lacking (funOf Fd_hole_of) (He.glo_ok X G (c.fact 12 (f := .glo "hole_of") rfl))
  have C_holes : Cal P w K mg base 4 "holes" ps_holes pk_holes fr_holes (spP F_holes) := cal_holes T C_hole_of (funOf Fd_holes) (He.glo_ok X G (c.fact 13 (f := .glo "holes") rfl))
  have C_odd : Cal P w K mg base 4 "odd" ps_odd pk_odd fr_odd (spP F_odd) := cal_odd T C_knots C_lacks (funOf Fd_odd) (He.glo_ok X G (c.fact 14 (f := .glo "odd") rfl))
  have C_is_integer : Cal P w K mg base 1 "is_integer" ps_is_integer pk_is_integer fr_is_integer (spP F_is_integer) := cal_is_integer T (funOf Fd_is_integer) (He.glo_ok X G (c.fact 15 (f := .glo "is_integer") rfl))
  have C_size : Cal P w K mg base 1 "size" ps_size pk_size fr_size (spP F_sizeS) := cal_size T (funOf Fd_size) (He.glo_ok X G (c.fact 16 (f := .glo "size") rfl))
  have C_is_bar : Cal P w K mg base 2 "is_bar" ps_is_bar pk_is_bar fr_is_bar (spP F_is_barS) := cal_is_bar T C_size C_is_integer (funOf Fd_is_bar) (He.glo_ok X G (c.fact 17 (f := .glo "is_bar") rfl))
  have C_tear_error : Cal P w K mg base 3 "tear_error" ps_tear_error pk_tear_error fr_tear_error (spP F_tear_errorS) := cal_tear_error T C_is_bar (funOf Fd_tear_error) (He.glo_ok X G (c.fact 18 (f := .glo "tear_error") rfl))
  have C_law_flat : Cal P w K mg base 1 "_law_flat" ps_law_flat pk_law_flat fr_law_flat (spP F_law_flat) := cal_law_flat T (funOf Fd_law_flat) (He.glo_ok X G (c.fact 19 (f := .glo "_law_flat") rfl))
  exact okg_law main T C_law_sheet C_law_tear C_knots C_lacks C_tear_error C_holes C_odd C_law_flat C_ends_of C_law_draw C_lost C_bars_of (funOf Fd_law) (funOf Fd_law_deck) (He.glo_ok X G (c.fact 21 (f := .glo "_law_deck") rfl))
end L09
open PySem PySem.W PySem.Calls PyProof.Rows in
set_option maxHeartbeats 0 in
theorem PySem.Challenge.cw_meshmend_k09_whole_tears_holds : PySem.Challenge.rw_meshmend_k09_whole_tears.Holds := by
  w_on; o_law
  refine HandSHeadRun.head_any (r := OpenLaw.row PySem.Challenge.rw_meshmend_k09_whole_tears) (q := view (OpenLaw.row PySem.Challenge.rw_meshmend_k09_whole_tears).prog [24]) (H := L09.hk) (ob := L09.ob) (M := 1600) (loose := L09.lo) (d := HandSHeadRun.topDef (OpenLaw.row PySem.Challenge.rw_meshmend_k09_whole_tears).prog 24) (kwd := []) L09.ob_eq
    (by kernel_rfl) (fun s => by kernel_rfl) L09.run (by kernel_rfl) (by kernel_rfl) (by kernel_rfl) (by rfl) (by first | assumption | decide +kernel) (by decide +kernel) ⟨rfl, rfl, rfl, rfl, rfl, by decide +kernel⟩ ?hw ?hc
  case hw => w_witness2
  case hc =>
    refine DL.walk_g (l := PySem.Challenge.rw_meshmend_k09_whole_tears) (n := 63) (k := 5) (x := "_law_script") rfl (by decide) (by kernel_rfl) ⟨rfl, by decide, by decide⟩ ?F
    intro w mg fa h Y G hmg0
    obtain ⟨K, KX, c⟩ := Y
    have hmg : mg ("law" : PySem.Str) = some (.ref fa) := by
      have e : (HandSHeadRun.topDef (OpenLaw.row PySem.Challenge.rw_meshmend_k09_whole_tears).prog 24).name = ("law" : PySem.Str) := by kernel_rfl
      rw [← e]
      exact hmg0
    obtain ⟨fd, hb, hF⟩ := L09.facts (P := (PySem.Challenge.rw_meshmend_k09_whole_tears).prog) (w := w) KX G hmg c
    exact ⟨K, fd, DL.spLawG K, KX, hb, fun H a ns hl hS => ⟨a, ns, rfl, hS, hl, fun _ => rfl⟩, hF⟩
#print axioms PySem.Challenge.cw_meshmend_k09_whole_tears_holds
