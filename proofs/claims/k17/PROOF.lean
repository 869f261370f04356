import PyProof.Rows.All
import Wide.All
import OpenK.AllK
import Wide.FinOn
import HandS.ForMost
import HandS.ForExc
import HandS.More
import HandS.Defaults
import HandS.Walk
import HandS.IsInst
import HandS.Wide
import HandS.WideBits
import HandS.Lambda
import HandS.TupAny
import HandS.Style
import HandS.Deep
import HandS.Small
import HandS.ExcInit
import HandS.HeadHook1
import HandS.DictComp
import HandS.WordsExc
import KE.SortData
import KE.GoesEnum
import KE.GoesZip
import PyProof.EnumMake
import PyProof.Draws
import KE.KItemsList
import KE.KSortKey
import KE.SortKeyHeap
import KE.SortUse
import HandS.ListItems
import HandS.ClsMeth
import PyProof.Rows.CallKwBuiltin
import PyProof.Rows.CallKw2
import HandS.HeadHook4
import HandS.MakeKwOnly
import HandS.ExcField
import HandS.ExcIs
import HandS.SetFor
import HandS.HeadWalk
import KE.KStateDown
import Lean
import HandS.Head0
import HandS.Head1
import HandS.Head2
import HandS.HeadEnd
import PySem.Challenge.RW_favourbook_k17_whole_lives_and_ticks
set_option Elab.async false
set_option linter.all false
set_option maxRecDepth 100000
set_option maxHeartbeats 4000000
namespace Fb
open PySem L2
set_option autoImplicit false

@[simp] theorem and_flat {a b c : Prop} : ((a ∧ b) ∧ c) ↔ (a ∧ b ∧ c) := and_assoc
@[simp] theorem sl_0 : (0 ≤ sizeLine) ↔ True := iff_true_intro (by decide)
@[simp] theorem sl_1 : (1 ≤ sizeLine) ↔ True := iff_true_intro (by decide)
@[simp] theorem sl_2 : (2 ≤ sizeLine) ↔ True := iff_true_intro (by decide)
@[simp] theorem sl_3 : (3 ≤ sizeLine) ↔ True := iff_true_intro (by decide)
@[simp] theorem sl_4 : (4 ≤ sizeLine) ↔ True := iff_true_intro (by decide)
@[simp] theorem sl_5 : (5 ≤ sizeLine) ↔ True := iff_true_intro (by decide)
@[simp] theorem sl_6 : (6 ≤ sizeLine) ↔ True := iff_true_intro (by decide)
@[simp] theorem sl_7 : (7 ≤ sizeLine) ↔ True := iff_true_intro (by decide)
@[simp] theorem sl_8 : (8 ≤ sizeLine) ↔ True := iff_true_intro (by decide)
@[simp] theorem sl_9 : (9 ≤ sizeLine) ↔ True := iff_true_intro (by decide)
@[simp] theorem sl_10 : (10 ≤ sizeLine) ↔ True := iff_true_intro (by decide)
@[simp] theorem sl_11 : (11 ≤ sizeLine) ↔ True := iff_true_intro (by decide)
@[simp] theorem sl_12 : (12 ≤ sizeLine) ↔ True := iff_true_intro (by decide)
@[simp] theorem sm_0 : (0 < sizeLine) ↔ True := iff_true_intro (by decide)
@[simp] theorem sm_1 : (1 < sizeLine) ↔ True := iff_true_intro (by decide)
@[simp] theorem sm_2 : (2 < sizeLine) ↔ True := iff_true_intro (by decide)
@[simp] theorem sm_3 : (3 < sizeLine) ↔ True := iff_true_intro (by decide)
@[simp] theorem sm_4 : (4 < sizeLine) ↔ True := iff_true_intro (by decide)
@[simp] theorem sm_5 : (5 < sizeLine) ↔ True := iff_true_intro (by decide)
@[simp] theorem sm_6 : (6 < sizeLine) ↔ True := iff_true_intro (by decide)
@[simp] theorem sm_7 : (7 < sizeLine) ↔ True := iff_true_intro (by decide)
@[simp] theorem sm_8 : (8 < sizeLine) ↔ True := iff_true_intro (by decide)
@[simp] theorem sm_9 : (9 < sizeLine) ↔ True := iff_true_intro (by decide)
@[simp] theorem sm_10 : (10 < sizeLine) ↔ True := iff_true_intro (by decide)
@[simp] theorem sm_11 : (11 < sizeLine) ↔ True := iff_true_intro (by decide)
@[simp] theorem sm_12 : (12 < sizeLine) ↔ True := iff_true_intro (by decide)
theorem chars_inj : ∀ {x y : List Char}, x.map Char.toNat = y.map Char.toNat → x = y
  | [], [], _ => rfl
  | [], _ :: _, e => by cases e
  | _ :: _, [], e => by cases e
  | c :: r, d :: s, e => by
    simp only [List.map_cons, List.cons.injEq] at e
    have h : c = d := Char.ext (UInt32.toNat_inj.mp e.1)
    rw [h, chars_inj e.2]
@[simp] theorem ofS_inj {a b : String} : (Str.ofString a = Str.ofString b) ↔ (a = b) := by
  refine ⟨fun h => ?_, fun h => by rw [h]⟩
  rw [Str.ofString_eq_toList, Str.ofString_eq_toList] at h
  have h1 : a.toList.map Char.toNat = b.toList.map Char.toNat := by
    have := congrArg (fun s : Str => s.cps.toList) h
    simpa using this
  exact String.toList_inj.mp (chars_inj h1)
@[simp] theorem depth_non : PyData.depth .none = 0 := rfl
@[simp] theorem depth_bl {b : Bool} : PyData.depth (.bool b) = 0 := rfl
@[simp] theorem depth_int {i : Int} : PyData.depth (.int i) = 0 := rfl
@[simp] theorem depth_str {z : Str} : PyData.depth (.str z) = 0 := rfl
@[simp] theorem depth_lst {ds : List PyData} : PyData.depth (.list ds) = PyData.depthAll ds + 1 := by simp [PyData.depth]
@[simp] theorem depth_tup {ds : List PyData} : PyData.depth (.tuple ds) = PyData.depthAll ds + 1 := by simp [PyData.depth]
@[simp] theorem depthA_nil : PyData.depthAll [] = 0 := rfl
@[simp] theorem depthA_cons {d : PyData} {ds : List PyData} : PyData.depthAll (d :: ds) = max d.depth (PyData.depthAll ds) := by simp [PyData.depthAll]
@[simp] theorem eqv_ii {a b : Int} : PyData.eqv (.int a) (.int b) = decide (a = b) := by
  simp [PyData.eqv]
  rfl
@[simp] theorem eqv_ss {a b : Str} : PyData.eqv (.str a) (.str b) = decide (a = b) := by
  simp [PyData.eqv]
  by_cases h : a = b
  · rw [decide_eq_true h]
    exact beq_iff_eq.mpr h
  · rw [decide_eq_false h]
    exact beq_eq_false_iff_ne.mpr h
@[simp] theorem eqv_bb {a b : Bool} : PyData.eqv (.bool a) (.bool b) = (a == b) := by simp [PyData.eqv]
@[simp] theorem eqv_nn : PyData.eqv .none .none = true := by simp [PyData.eqv]
@[simp] theorem eqv_ll {xs ys : List PyData} : PyData.eqv (.list xs) (.list ys) = PyData.eqvAll xs ys := by simp [PyData.eqv]
@[simp] theorem eqv_tt {xs ys : List PyData} : PyData.eqv (.tuple xs) (.tuple ys) = PyData.eqvAll xs ys := by simp [PyData.eqv]
@[simp] theorem eqvA_nn : PyData.eqvAll [] [] = true := by simp [PyData.eqvAll]
@[simp] theorem eqvA_cc {x y : PyData} {xs ys : List PyData} : PyData.eqvAll (x :: xs) (y :: ys) = (PyData.eqv x y && PyData.eqvAll xs ys) := by simp [PyData.eqvAll]
@[simp] theorem eqvA_nc {y : PyData} {ys : List PyData} : PyData.eqvAll [] (y :: ys) = false := by simp [PyData.eqvAll]
@[simp] theorem eqvA_cn {x : PyData} {xs : List PyData} : PyData.eqvAll (x :: xs) [] = false := by simp [PyData.eqvAll]
/-! ### data that stand frozen in a part of the heap -/
mutual
def DP (g : Hp) : PyData → V → Prop
  | .none, v => v = .non
  | .bool b, v => v = .bl b
  | .int i, v => v = .int i
  | .str x, v => v = .str x ∧ PyData.strOk x = true
  | .list ds, v => ∃ a vs, v = .ref a ∧ g a = some (.lst vs) ∧ DPs g ds vs
  | .tuple ds, v => ∃ a vs, v = .ref a ∧ g a = some (.tup vs) ∧ DPs g ds vs
  | .dict _, _ => False
def DPs (g : Hp) : List PyData → List V → Prop
  | [], vs => vs = []
  | d :: ds, vs => ∃ v r, vs = v :: r ∧ DP g d v ∧ DPs g ds r
end
section
variable {g g' : Hp} {v : V} {vs : List V} {d : PyData} {ds : List PyData}
mutual
theorem DP.mono (s : Same g g') : ∀ {d : PyData} {v : V}, DP g d v → DP g' d v
  | .none, _, h => h
  | .bool _, _, h => h
  | .int _, _, h => h
  | .str _, _, h => h
  | .list _, _, ⟨a, vs, e, k, r⟩ => ⟨a, vs, e, s _ _ k, DPs.mono s r⟩
  | .tuple _, _, ⟨a, vs, e, k, r⟩ => ⟨a, vs, e, s _ _ k, DPs.mono s r⟩
  | .dict _, _, h => h.elim
theorem DPs.mono (s : Same g g') : ∀ {ds : List PyData} {vs : List V}, DPs g ds vs → DPs g' ds vs
  | [], _, h => h
  | _ :: _, _, ⟨v, r, e, h, t⟩ => ⟨v, r, e, DP.mono s h, DPs.mono s t⟩
end
theorem DPs.length : ∀ {ds : List PyData} {vs : List V}, DPs g ds vs → vs.length = ds.length
  | [], _, h => by
    have e : _ = [] := h
    rw [e] <;> rfl
  | _ :: ds, _, ⟨v, r, e, _, t⟩ => by
    rw [e, List.length_cons, List.length_cons, DPs.length t]
theorem DPs.get : ∀ {ds : List PyData} {vs : List V} {i : Nat} {d : PyData}, DPs g ds vs → ds[i]? = some d → ∃ v, vs[i]? = some v ∧ DP g d v
  | [], _, _, _, _, e => by simp at e
  | _ :: _, _, 0, d, ⟨v, r, e, h, _⟩, q => by
    subst e
    simp at q
    subst q
    exact ⟨v, rfl, h⟩
  | _ :: ds, _, i + 1, d, ⟨v, r, e, _, t⟩, q => by
    subst e
    obtain ⟨w, h1, h2⟩ := DPs.get (i := i) t (by simpa using q)
    exact ⟨w, by simpa using h1, h2⟩
theorem DPs.get' : ∀ {ds : List PyData} {vs : List V} {i : Nat} {v : V}, DPs g ds vs → vs[i]? = some v → ∃ d, ds[i]? = some d ∧ DP g d v
  | [], _, _, _, h, e => by
    have z : _ = [] := h
    rw [z] at e
    simp at e
  | _ :: _, _, 0, v', ⟨v, r, e, h, _⟩, q => by
    subst e
    simp at q
    subst q
    exact ⟨_, rfl, h⟩
  | _ :: ds, _, i + 1, v', ⟨v, r, e, _, t⟩, q => by
    subst e
    obtain ⟨w, h1, h2⟩ := DPs.get' (i := i) t (by simpa using q)
    exact ⟨w, by simpa using h1, h2⟩
theorem DPs.append : ∀ {ds es : List PyData} {vs ws : List V}, DPs g ds vs → DPs g es ws → DPs g (ds ++ es) (vs ++ ws)
  | [], _, _, _, h, h2 => by
    have z : _ = [] := h
    rw [z]
    exact h2
  | _ :: _, _, _, _, ⟨v, r, e, h, t⟩, h2 => by
    subst e
    exact ⟨v, _, rfl, h, DPs.append t h2⟩
theorem DPs.snoc (h : DPs g ds vs) (h1 : DP g d v) : DPs g (ds ++ [d]) (vs ++ [v]) := h.append ⟨v, [], rfl, h1, rfl⟩
theorem DPs.take : ∀ (n : Nat) {ds : List PyData} {vs : List V}, DPs g ds vs → DPs g (ds.take n) (vs.take n)
  | 0, _, _, _ => by simp [DPs]
  | _ + 1, [], _, h => by
    have z : _ = [] := h
    rw [z]
    exact rfl
  | n + 1, _ :: _, _, ⟨v, r, e, h, t⟩ => by
    subst e
    exact ⟨v, _, rfl, h, DPs.take n t⟩
theorem DPs.drop : ∀ (n : Nat) {ds : List PyData} {vs : List V}, DPs g ds vs → DPs g (ds.drop n) (vs.drop n)
  | 0, _, _, h => h
  | _ + 1, [], _, h => by
    have z : _ = [] := h
    rw [z]
    exact rfl
  | n + 1, _ :: _, _, ⟨v, r, e, h, t⟩ => by
    subst e
    exact DPs.drop n t
theorem DPs.set : ∀ {ds : List PyData} {vs : List V} (i : Nat), DPs g ds vs → DP g d v → DPs g (ds.set i d) (vs.set i v)
  | [], _, _, h, _ => by
    have z : _ = [] := h
    rw [z]
    exact rfl
  | _ :: _, _, 0, ⟨w, r, e, h, t⟩, k => by
    subst e
    exact ⟨v, r, rfl, k, t⟩
  | _ :: _, _, i + 1, ⟨w, r, e, h, t⟩, k => by
    subst e
    exact ⟨w, _, rfl, h, DPs.set i t k⟩
theorem DPs.eraseIdx : ∀ {ds : List PyData} {vs : List V} (i : Nat), DPs g ds vs → DPs g (ds.eraseIdx i) (vs.eraseIdx i)
  | [], _, _, h => by
    have z : _ = [] := h
    rw [z]
    exact rfl
  | _ :: _, _, 0, ⟨w, r, e, h, t⟩ => by
    subst e
    exact t
  | _ :: _, _, i + 1, ⟨w, r, e, h, t⟩ => by
    subst e
    exact ⟨w, _, rfl, h, DPs.eraseIdx i t⟩
theorem DPs.reverse : ∀ {ds : List PyData} {vs : List V}, DPs g ds vs → DPs g ds.reverse vs.reverse
  | [], _, h => by
    have z : _ = [] := h
    rw [z]
    exact rfl
  | _ :: _, _, ⟨v, r, e, h, t⟩ => by
    subst e
    rw [List.reverse_cons, List.reverse_cons]
    exact (DPs.reverse t).snoc h
theorem DPs.mem (h : DPs g ds vs) {v : V} (hv : v ∈ vs) : ∃ d ∈ ds, DP g d v := by
  obtain ⟨i, hi, e⟩ := List.mem_iff_getElem.mp hv
  obtain ⟨d, h1, h2⟩ := h.get' (i := i) (v := v) (by rw [List.getElem?_eq_getElem hi, e])
  exact ⟨d, List.mem_of_getElem? h1, h2⟩
theorem DPs.ints : ∀ {ns : List Int} {vs : List V}, DPs g (ns.map PyData.int) vs → vs = ns.map V.int
  | [], _, h => h
  | n :: ns, _, ⟨v, r, e, h, t⟩ => by
    have h : v = .int n := h
    rw [e, h, DPs.ints t] <;> rfl
theorem DPs.of_ints : ∀ (ns : List Int), DPs g (ns.map PyData.int) (ns.map V.int)
  | [] => rfl
  | n :: ns => ⟨.int n, _, rfl, rfl, DPs.of_ints ns⟩
theorem DPs.strs : ∀ {ns : List Str} {vs : List V}, DPs g (ns.map PyData.str) vs → vs = ns.map V.str ∧ ns.all PyData.strOk = true
  | [], _, h => ⟨h, rfl⟩
  | n :: ns, _, ⟨v, r, e, h, t⟩ => by
    obtain ⟨h1, h2⟩ := DPs.strs t
    refine ⟨by rw [e, h.1, h1] <;> rfl, ?_⟩
    rw [List.all_cons, h.2, h2] <;> rfl
theorem DPs.of_strs : ∀ (ns : List Str), ns.all PyData.strOk = true → DPs g (ns.map PyData.str) (ns.map V.str)
  | [], _ => rfl
  | n :: ns, h => by
    rw [List.all_cons, Bool.and_eq_true] at h
    exact ⟨.str n, _, rfl, ⟨rfl, h.1⟩, DPs.of_strs ns h.2⟩
theorem DPs.bls : ∀ {ns : List Bool} {vs : List V}, DPs g (ns.map PyData.bool) vs → vs = ns.map V.bl
  | [], _, h => h
  | n :: ns, _, ⟨v, r, e, h, t⟩ => by
    have h : v = .bl n := h
    rw [e, h, DPs.bls t] <;> rfl
theorem DPs.of_bls : ∀ (ns : List Bool), DPs g (ns.map PyData.bool) (ns.map V.bl)
  | [] => rfl
  | n :: ns => ⟨.bl n, _, rfl, rfl, DPs.of_bls ns⟩
mutual
theorem DP.lay : ∀ {d : PyData} {v : V}, DP g d v → d.canLay0 = true
  | .none, _, _ => rfl
  | .bool _, _, _ => rfl
  | .int _, _, _ => rfl
  | .str _, _, h => h.2
  | .list _, _, ⟨_, _, _, _, r⟩ => DPs.lay r
  | .tuple _, _, ⟨_, _, _, _, r⟩ => DPs.lay r
  | .dict _, _, h => h.elim
theorem DPs.lay : ∀ {ds : List PyData} {vs : List V}, DPs g ds vs → PyData.canLayAll0 ds = true
  | [], _, _ => rfl
  | _ :: _, _, ⟨_, _, _, h, t⟩ => by
    unfold PyData.canLayAll0
    rw [DP.lay h, DPs.lay t] <;> rfl
end
mutual
theorem DP.dp {K : PySem.W.Frag} {H : Hp} (s : Same g H) : ∀ {d : PyData} {v : V}, DP g d v → Dp K H v d
  | .none, _, h => by
    have e : _ = V.non := h
    rw [e]; exact .non
  | .bool b, _, h => by
    have e : _ = V.bl b := h
    rw [e]; exact .bl b
  | .int i, _, h => by
    have e : _ = V.int i := h
    rw [e]; exact .int i
  | .str x, _, h => by
    rw [h.1]; exact .str x
  | .list _, _, ⟨a, vs, e, k, r⟩ => by
    rw [e]; exact .lst (SqL.of (s _ _ k)) (DPs.dp s r)
  | .tuple _, _, ⟨a, vs, e, k, r⟩ => by
    rw [e]; exact .tup (SqT.of (s _ _ k)) (DPs.dp s r)
  | .dict _, _, h => h.elim
theorem DPs.dp {K : PySem.W.Frag} {H : Hp} (s : Same g H) : ∀ {ds : List PyData} {vs : List V}, DPs g ds vs → DpAll K H vs ds
  | [], _, h => by
    have e : _ = [] := h
    rw [e]; exact .nil
  | _ :: _, _, ⟨v, r, e, h, t⟩ => by
    rw [e]; exact .cons (DP.dp s h) (DPs.dp s t)
end
end

/-! ### slots -/
/-- what a slot holds: frozen data; a list, a dict of one's own (elements frozen); an object of one's own, told by what is true of its part of the heap (P frozen own);
a debt; a book -/
structure Db where
  debtor : Int
  creditor : Int
  kind : Str
  born : Int
  passed : Int
  spot : Addr
structure Bk where
  folk : List Str
  life : Int
  hops : Int
  debts : List (Int × Db)
  fresh : Int
  tick : Int
  story : List PyData
  dD : Addr
  dS : Addr
/-- what an attribute holds: data; a dict of one's own -/
inductive FV where
  | dat (d : PyData)
  | dic (a : Addr) (kvs : List (Key × PyData))
  | dct (a : Addr) (kvs : List (List Key × PyData))
/-- which object it is -/
inductive Tg where
  | no
  | book (B : Bk)
  | box
  | new (C : Addr)
  | rcd (C : Addr) (fs : List (Str × FV))
  | mix (kvs : List (Key × FV))
structure Ow where
  (tag : Tg)
  (P : Hp → Hp → Prop)
  (mono : ∀ g g' h, Same g g' → P g h → P g' h)
inductive SV where
  | dat (d : PyData)
  | lst (a : Addr) (ds : List PyData)
  | dic (a : Addr) (kvs : List (Key × PyData))
  | obj (a : Addr) (o : Ow)
def KVs (g : Hp) (kvs : List (Key × PyData)) (vs : List (Key × V)) : Prop := vs.map (·.1) = kvs.map (·.1) ∧ DPs g (kvs.map (·.2)) (vs.map (·.2))
def Rep (g : Hp) : SV → V → Hp → Prop
  | .dat d, v, _ => DP g d v
  | .lst a ds, v, h => v = .ref a ∧ ∃ vs, h a = some (.lst vs) ∧ DPs g ds vs
  | .dic a kvs, v, h => v = .ref a ∧ ∃ vs, h a = some (.dK vs) ∧ KVs g kvs vs
  | .obj a o, v, h => v = .ref a ∧ o.P g h
theorem KVs.mono {g g' : Hp} {kvs : List (Key × PyData)} {vs : List (Key × V)} (s : Same g g') (h : KVs g kvs vs) : KVs g' kvs vs := ⟨h.1, h.2.mono s⟩
theorem Rep.mono {g g' : Hp} {v : V} {h : Hp} (s : Same g g') : ∀ {sv : SV}, Rep g sv v h → Rep g' sv v h
  | .dat _, r => DP.mono s r
  | .lst _ _, ⟨e, vs, k, r⟩ => ⟨e, vs, k, r.mono s⟩
  | .dic _ _, ⟨e, vs, k, r⟩ => ⟨e, vs, k, r.mono s⟩
  | .obj _ o, ⟨e, r⟩ => ⟨e, o.mono _ _ _ s r⟩
abbrev Ev := List (Option SV)
abbrev Prts := Nat → Hp
/-- the tables of code objects, by their names -/
class Tb where
  T : List (Addr × Str)
/-- no table, no code object -/
def ord : HO → Bool
  | .tbl _ => false
  | .ext _ => false
  | _ => true
theorem tabs_stay {T : List (Addr × Str)} {H H' : Hp} (t : LamX.Tabs T H) (k : ∀ a o, H a = some o → ord o = false → H' a = some o) : LamX.Tabs T H' := fun p hp => by
  obtain ⟨ps, h1, h2, h3⟩ := t p hp
  refine ⟨ps, k _ _ h1 rfl, h2, fun pos cv hc => ?_⟩
  obtain ⟨c, e1, e2⟩ := h3 pos cv hc
  exact ⟨c, e1, k _ _ e2 rfl⟩
structure Own [Tb] (fr g : Hp) (hs : Prts) (ρ : Ev) (σ : St) (H : Hp) : Prop where
  len : ρ.length = σ.length
  sf : Same fr H
  df : ∀ a o, fr a = some o → g a = none ∧ ∀ i, hs i a = none
  sg : Same g H
  sh : ∀ i, Same (hs i) H
  dg : ∀ i a o, hs i a = some o → g a = none
  dh : ∀ i j a o, i ≠ j → hs i a = some o → hs j a = none
  rep : ∀ i sv, ρ[i]? = some (some sv) → ∃ v, σ[i]? = some (some v) ∧ Rep g sv v (hs i)
  tb : LamX.Tabs Tb.T H
  nf : ∀ a o, fr a = some o → ord o = true
  ng : ∀ a o, g a = some o → ord o = true
  nh : ∀ i a o, hs i a = some o → ord o = true
section
variable [Tb] {fr g g' : Hp} {hs : Prts} {ρ : Ev} {σ : St} {H H' : Hp} {p : Addr} {o : HO}
theorem _root_.L2.Same.new (h : H p = none) : Same H (upd H p o) := fun a u e => by
  rw [upd_ne (ne_of_none e h)]
  exact e
theorem _root_.L2.Same.upd2 (s : Same g H) : Same (upd g p o) (upd H p o) := fun a u e => by
  by_cases q : a = p
  · rw [q, upd_same] at e ⊢
    exact e
  · rw [upd_ne q] at e ⊢
    exact s _ _ e
theorem _root_.L2.Same.past (s : Same g H) (h : g p = none) : Same g (upd H p o) := fun a u e => by
  rw [upd_ne (ne_of_none e h)]
  exact s _ _ e
theorem none_of {h : Hp} (s : Same h H) (e : H p = none) : h p = none := s.free e
/-- the heap grows elsewhere -/
theorem Own.grow (w : Own fr g hs ρ σ H) (s : Same H H') : Own fr g hs ρ σ H' := ⟨w.len, w.sf.trans s, w.df, w.sg.trans s, fun i => (w.sh i).trans s, w.dg, w.dh, w.rep, tabs_stay w.tb fun a o e _ => s a o e, w.nf, w.ng, w.nh⟩
/-- a new frozen object -/
theorem Own.froz (w : Own fr g hs ρ σ H) (h : H p = none) (hd : ord o = true := by rfl) : Own fr (upd g p o) hs ρ σ (upd H p o) := by
  have gp : g p = none := none_of w.sg h
  refine ⟨w.len, w.sf.past (none_of w.sf h), fun a u e => ⟨by rw [upd_ne (ne_of_none e (none_of w.sf h))]; exact (w.df a u e).1, (w.df a u e).2⟩, w.sg.upd2, fun i => (w.sh i).past (none_of (w.sh i) h), fun i a u e => ?_, w.dh, fun i sv e => ?_, tabs_stay w.tb fun a o e _ => Same.new h a o e, w.nf, fun a u e => ?_, w.nh⟩
  · have ne : a ≠ p := fun z => by
      rw [z, none_of (w.sh i) h] at e
      cases e
    rw [upd_ne ne]
    exact w.dg i a u e
  · obtain ⟨v, h1, h2⟩ := w.rep i sv e
    exact ⟨v, h1, h2.mono (Same.new gp)⟩
  · by_cases q : a = p
    · rw [q, upd_same] at e
      cases e
      exact hd
    · rw [upd_ne q] at e
      exact w.ng a u e
/-- slots forgotten -/
theorem Own.weak {ρ' : Ev} (w : Own fr g hs ρ σ H) (hl : ρ'.length = ρ.length) (k : ∀ (i : Nat) sv, ρ'[i]? = some (some sv) → ρ[i]? = some (some sv)) : Own fr g hs ρ' σ H :=
  ⟨hl.trans w.len, w.sf, w.df, w.sg, w.sh, w.dg, w.dh, fun i sv e => w.rep i sv (k i sv e), w.tb, w.nf, w.ng, w.nh⟩
/-- a slot gets frozen data -/
theorem Own.setD {i : Nat} {d : PyData} {v : V} (w : Own fr g hs ρ σ H) (r : DP g d v) : Own fr g hs (ρ.set i (some (.dat d))) (σ.set i (some v)) H := by
  refine ⟨by rw [List.length_set, List.length_set]; exact w.len, w.sf, w.df, w.sg, w.sh, w.dg, w.dh, fun j sv e => ?_, w.tb, w.nf, w.ng, w.nh⟩
  by_cases q : i = j
  · subst q
    by_cases l : i < ρ.length
    · rw [List.getElem?_set_self l] at e
      cases e
      exact ⟨v, by rw [List.getElem?_set_self (by rw [← w.len]; exact l)], r⟩
    · rw [List.getElem?_eq_none (by rw [List.length_set]; omega)] at e
      cases e
  · rw [List.getElem?_set_ne q] at e
    obtain ⟨u, h1, h2⟩ := w.rep j sv e
    exact ⟨u, by rw [List.getElem?_set_ne q]; exact h1, h2⟩
theorem Own.setN {i : Nat} {x : Option V} (w : Own fr g hs ρ σ H) : Own fr g hs (ρ.set i none) (σ.set i x) H := by
  refine ⟨by rw [List.length_set, List.length_set]; exact w.len, w.sf, w.df, w.sg, w.sh, w.dg, w.dh, fun j sv e => ?_, w.tb, w.nf, w.ng, w.nh⟩
  by_cases q : i = j
  · subst q
    by_cases l : i < ρ.length
    · rw [List.getElem?_set_self l] at e
      cases e
    · rw [List.getElem?_eq_none (by rw [List.length_set]; omega)] at e
      cases e
  · rw [List.getElem?_set_ne q] at e
    obtain ⟨u, h1, h2⟩ := w.rep j sv e
    exact ⟨u, by rw [List.getElem?_set_ne q]; exact h1, h2⟩
def setH (hs : Prts) (i : Nat) (h : Hp) : Prts := fun j => if j = i then h else hs j
theorem setH_same {i : Nat} {h : Hp} : setH hs i h i = h := by unfold setH; rw [if_pos rfl]
theorem setH_ne {i j : Nat} {h : Hp} (e : j ≠ i) : setH hs i h j = hs j := by unfold setH; rw [if_neg e]
/-- a slot's own part changes: its heap h becomes h' -/
theorem Own.chg {i : Nat} {sv : SV} {h' : Hp} {x : Option V} (w : Own fr g hs ρ σ H) (s' : Same h' H') (k : ∀ a u, H a = some u → (hs i a = none) → H' a = some u)
    (n : ∀ a u, h' a = some u → (∃ u', hs i a = some u') ∨ H a = none) (hx : σ[i]? = some x) (r : ∃ v, x = some v ∧ Rep g sv v h') (hd : ∀ a u, h' a = some u → ord u = true) : Own fr g (setH hs i h') (ρ.set i (some sv)) σ H' := by
  refine ⟨by rw [List.length_set]; exact w.len, fun a u e => k a u (w.sf _ _ e) ((w.df a u e).2 i), fun a u e => ⟨(w.df a u e).1, fun j => ?_⟩, fun a u e => ?_, fun j => ?_, fun j a u e => ?_, fun j l a u jl e => ?_, fun j tv e => ?_, tabs_stay w.tb fun a o e z => k a o e (by
    cases q : hs i a with
    | none => rfl
    | some u2 =>
      have y := w.sh i _ _ q
      rw [e] at y
      cases y
      rw [w.nh i a _ q] at z
      cases z), w.nf, w.ng, fun j a u e => by
    by_cases q : j = i
    · rw [q, setH_same] at e
      exact hd a u e
    · rw [setH_ne q] at e
      exact w.nh j a u e⟩
  · by_cases q : j = i
    · rw [q, setH_same]
      cases z : h' a with
      | none => rfl
      | some u2 =>
        rcases n a u2 z with ⟨u', z⟩ | z
        · rw [(w.df a u e).2 i] at z
          cases z
        · rw [w.sf _ _ e] at z
          cases z
    · rw [setH_ne q]
      exact (w.df a u e).2 j
  · refine k a u (w.sg _ _ e) ?_
    cases q : hs i a with
    | none => rfl
    | some u' =>
      rw [w.dg i a u' q] at e
      cases e
  · by_cases q : j = i
    · rw [q, setH_same]
      exact s'
    · rw [setH_ne q]
      exact fun a u e => k a u (w.sh j _ _ e) (w.dh j i a u q e)
  · by_cases q : j = i
    · rw [q, setH_same] at e
      rcases n a u e with ⟨u', z⟩ | z
      · exact w.dg i a u' z
      · exact none_of w.sg z
    · rw [setH_ne q] at e
      exact w.dg j a u e
  · by_cases q : j = i
    · rw [q, setH_same] at e
      have ql : l ≠ i := fun z => jl (q.trans z.symm)
      rw [setH_ne ql]
      rcases n a u e with ⟨u', z⟩ | z
      · exact w.dh i l a u' (Ne.symm ql) z
      · exact none_of (w.sh l) z
    · rw [setH_ne q] at e
      by_cases ql : l = i
      · rw [ql, setH_same]
        cases z : h' a with
        | none => rfl
        | some u2 =>
          rcases n a u2 z with ⟨u', z⟩ | z
          · rw [w.dh i j a u' (Ne.symm q) z] at e
            cases e
          · rw [none_of (w.sh j) z] at e
            cases e
      · rw [setH_ne ql]
        exact w.dh j l a u jl e
  · by_cases q : j = i
    · subst q
      have l : j < ρ.length := by
        rw [w.len]
        exact (List.getElem?_eq_some_iff.mp hx).1
      rw [List.getElem?_set_self l] at e
      cases e
      obtain ⟨v, e2, r⟩ := r
      exact ⟨v, by rw [hx, e2], by rw [setH_same]; exact r⟩
    · rw [List.getElem?_set_ne (Ne.symm q)] at e
      obtain ⟨v, h1, h2⟩ := w.rep j tv e
      exact ⟨v, h1, by rw [setH_ne q]; exact h2⟩
/-- a slot gets a new object of one's own -/
theorem Own.fresh {i : Nat} {sv : SV} {h' : Hp} {v : V} (w : Own fr g hs ρ σ H) (s : Same H H') (s' : Same h' H') (n : ∀ a u, h' a = some u → H a = none) (r : Rep g sv v h') (hd : ∀ a u, h' a = some u → ord u = true) :
    Own fr g (setH hs i h') (ρ.set i (some sv)) (σ.set i (some v)) H' := by
  refine ⟨by rw [List.length_set, List.length_set]; exact w.len, w.sf.trans s, fun a u e => ⟨(w.df a u e).1, fun j => ?_⟩, w.sg.trans s, fun j => ?_, fun j a u e => ?_, fun j l a u jl e => ?_, fun j tv e => ?_, tabs_stay w.tb fun a o e _ => s a o e, w.nf, w.ng, fun j a u e => by
    by_cases q : j = i
    · rw [q, setH_same] at e
      exact hd a u e
    · rw [setH_ne q] at e
      exact w.nh j a u e⟩
  · by_cases q : j = i
    · rw [q, setH_same]
      cases z : h' a with
      | none => rfl
      | some u2 =>
        have z := n a u2 z
        rw [w.sf _ _ e] at z
        cases z
    · rw [setH_ne q]
      exact (w.df a u e).2 j
  · by_cases q : j = i
    · rw [q, setH_same]
      exact s'
    · rw [setH_ne q]
      exact (w.sh j).trans s
  · by_cases q : j = i
    · rw [q, setH_same] at e
      exact none_of w.sg (n a u e)
    · rw [setH_ne q] at e
      exact w.dg j a u e
  · by_cases q : j = i
    · rw [q, setH_same] at e
      have ql : l ≠ i := fun z => jl (q.trans z.symm)
      rw [setH_ne ql]
      exact none_of (w.sh l) (n a u e)
    · rw [setH_ne q] at e
      by_cases ql : l = i
      · rw [ql, setH_same]
        cases z : h' a with
        | none => rfl
        | some u2 =>
          rw [none_of (w.sh j) (n a u2 z)] at e
          cases e
      · rw [setH_ne ql]
        exact w.dh j l a u jl e
  · by_cases q : j = i
    · subst q
      by_cases l : j < ρ.length
      · rw [List.getElem?_set_self l] at e
        cases e
        exact ⟨v, by rw [List.getElem?_set_self (by rw [← w.len]; exact l)], by rw [setH_same]; exact r⟩
      · rw [List.getElem?_eq_none (by rw [List.length_set]; omega)] at e
        cases e
    · rw [List.getElem?_set_ne (Ne.symm q)] at e
      obtain ⟨u, h1, h2⟩ := w.rep j tv e
      exact ⟨u, by rw [List.getElem?_set_ne (Ne.symm q)]; exact h1, by rw [setH_ne q]; exact h2⟩
def uni (h k : Hp) : Hp := fun a => (h a).or (k a)
theorem uni_l {h k : Hp} : Same h (uni h k) := fun a o e => by unfold uni; rw [e]; rfl
theorem uni_r {h k : Hp} (d : ∀ a o, k a = some o → h a = none) : Same k (uni h k) := fun a o e => by unfold uni; rw [d a o e, e]; rfl
theorem uni_some {h k : Hp} {a : Addr} {o : HO} (e : uni h k a = some o) : h a = some o ∨ k a = some o := by
  unfold uni at e
  cases q : h a with
  | none =>
    rw [q] at e
    exact .inr e
  | some u =>
    rw [q] at e
    exact .inl e
theorem uni_none {h k : Hp} {a : Addr} (e : h a = none) (e2 : k a = none) : uni h k a = none := by unfold uni; rw [e, e2]; rfl
def nil : Hp := fun _ => none
/-- what a slot owns is frozen -/
theorem Own.freeze (i : Nat) {sv : SV} (w : Own fr g hs ρ σ H) (r : ∀ v, σ[i]? = some (some v) → Rep (uni g (hs i)) sv v nil) (there : ∃ v, σ[i]? = some (some v)) :
    Own fr (uni g (hs i)) (setH hs i nil) (ρ.set i (some sv)) σ H := by
  have sgu : Same g (uni g (hs i)) := uni_l
  refine ⟨by rw [List.length_set]; exact w.len, w.sf, fun a u e => ⟨uni_none (w.df a u e).1 ((w.df a u e).2 i), fun j => ?_⟩, fun a u e => ?_, fun j => ?_, fun j a u e => ?_, fun j l a u jl e => ?_, fun j tv e => ?_, w.tb, w.nf, fun a u e => (uni_some e).elim (w.ng a u) (w.nh i a u), fun j a u e => by
    by_cases q : j = i
    · rw [q, setH_same] at e
      cases e
    · rw [setH_ne q] at e
      exact w.nh j a u e⟩
  · by_cases q : j = i
    · rw [q, setH_same]
      rfl
    · rw [setH_ne q]
      exact (w.df a u e).2 j
  · rcases uni_some e with z | z
    · exact w.sg _ _ z
    · exact w.sh i _ _ z
  · by_cases q : j = i
    · rw [q, setH_same]
      exact fun a u e => by cases e
    · rw [setH_ne q]
      exact w.sh j
  · by_cases q : j = i
    · rw [q, setH_same] at e
      cases e
    · rw [setH_ne q] at e
      exact uni_none (w.dg j a u e) (w.dh j i a u q e)
  · by_cases q : j = i
    · rw [q, setH_same] at e
      cases e
    · rw [setH_ne q] at e
      by_cases ql : l = i
      · rw [ql, setH_same]
        rfl
      · rw [setH_ne ql]
        exact w.dh j l a u jl e
  · by_cases q : j = i
    · subst q
      obtain ⟨v, hv⟩ := there
      have l : j < ρ.length := by
        rw [w.len]
        exact (List.getElem?_eq_some_iff.mp hv).1
      rw [List.getElem?_set_self l] at e
      cases e
      exact ⟨v, hv, by rw [setH_same]; exact r v hv⟩
    · rw [List.getElem?_set_ne (Ne.symm q)] at e
      obtain ⟨v, h1, h2⟩ := w.rep j tv e
      exact ⟨v, h1, by rw [setH_ne q]; exact h2.mono sgu⟩
end
end Fb
namespace Fb
open PySem L2
set_option autoImplicit false
variable [Tb]

/-! ### readings over slots -/
abbrev ET := Ev → (PyData → Ev → Prop) → Prop
abbrev ETb := Ev → (Bool → Ev → Prop) → Prop
abbrev EA := Ev → (List PyData → Ev → Prop) → Prop
abbrev EO := Ev → (SV → Ev → Prop) → Prop
/-- a part that stands alone -/
structure Apart (fr g : Hp) (hs : Prts) (h : Hp) (H : Hp) : Prop where
  s : Same h H
  n : ∀ a u, h a = some u → fr a = none ∧ g a = none ∧ ∀ i, hs i a = none
  d : ∀ a u, h a = some u → ord u = true
def lE (w : ET) : TE := fun σ H Q => ∃ fr g hs ρ P, Own fr g hs ρ σ H ∧ w ρ P ∧ ∀ d ρ' v g' hs' H', P d ρ' → Same g g' → Own fr g' hs' ρ' σ H' → DP g' d v → Q v H'
def lT (w : ETb) : TT := fun σ H Q => ∃ fr g hs ρ P, Own fr g hs ρ σ H ∧ w ρ P ∧ ∀ b ρ' g' hs' H', P b ρ' → Same g g' → Own fr g' hs' ρ' σ H' → Q b H'
def lA (w : EA) : TA := fun σ H Q => ∃ fr g hs ρ P, Own fr g hs ρ σ H ∧ w ρ P ∧ ∀ ds ρ' vs g' hs' H', P ds ρ' → Same g g' → Own fr g' hs' ρ' σ H' → DPs g' ds vs → Q vs H'
def lO (w : EO) : TE := fun σ H Q => ∃ fr g hs ρ P, Own fr g hs ρ σ H ∧ w ρ P ∧ ∀ r ρ' v g' hs' ht H', P r ρ' → Same g g' → Own fr g' hs' ρ' σ H' → Rep g' r v ht → Apart fr g' hs' ht H' → Q v H'
section
variable {X : Cx} {e a b : Expr} {pos : Pos}
theorem pe_imp {t t' : TE} (h : PE X e t) (i : ∀ σ H Q, t' σ H Q → t σ H Q) : PE X e t' := ⟨fun pins s σ H Q I hw => h.run pins s σ H Q I (i σ H Q hw)⟩
theorem pt_imp {t t' : TT} (h : PT X e t) (i : ∀ σ H Q, t' σ H Q → t σ H Q) : PT X e t' := ⟨fun pins s σ H Q I hw => h.run pins s σ H Q I (i σ H Q hw)⟩
theorem pw_imp {t t' : TT} (h : PW X e t) (i : ∀ σ H Q, t' σ H Q → t σ H Q) : PW X e t' := ⟨fun wh pins s σ H Q I hw => h.run wh pins s σ H Q I (i σ H Q hw)⟩
theorem pa_imp {es : List Expr} {t t' : TA} (h : PA X es t) (i : ∀ σ H Q, t' σ H Q → t σ H Q) : PA X es t' := ⟨fun p pins s σ H Q I hw => h.run p pins s σ H Q I (i σ H Q hw)⟩
theorem ps_imp {st : Stmt} {t t' : TS} (h : PS X st t) (i : ∀ D σ H, t' D σ H → t D σ H) : PS X st t' := ⟨fun pins s σ H D I hw => h.run pins s σ H D I (i D σ H hw)⟩
theorem pss_imp {st : List Stmt} {t t' : TS} (h : PSs X st t) (i : ∀ D σ H, t' D σ H → t D σ H) : PSs X st t' := ⟨fun pins s σ H D I hw => h.run pins s σ H D I (i D σ H hw)⟩
end
section
variable {w : ET} {σ : St} {H : Hp} {Q : VK} {fr g : Hp} {hs : Prts} {ρ : Ev} {P : PyData → Ev → Prop}
theorem lE_of (W : Own fr g hs ρ σ H) (h : w ρ P) (k : ∀ d ρ' v g' hs' H', P d ρ' → Same g g' → Own fr g' hs' ρ' σ H' → DP g' d v → Q v H') : lE w σ H Q := ⟨fr, g, hs, ρ, P, W, h, k⟩
end

/-! ### names, constants -/
@[simp] def slot : Ev → Nat → Option SV
  | [], _ => none
  | x :: _, 0 => x
  | _ :: r, i + 1 => slot r i
theorem slot_some : ∀ {ρ : Ev} {i : Nat} {sv : SV}, slot ρ i = some sv → ρ[i]? = some (some sv)
  | [], _, _, h => by cases h
  | x :: _, 0, _, h => by
    have e : x = some _ := h
    rw [e] <;> rfl
  | _ :: r, i + 1, _, h => by
    rw [List.getElem?_cons_succ]
    exact slot_some (ρ := r) h
/-- a name's data: an own list is frozen by the reading -/
def dVar (i : Nat) (ρ : Ev) (P : PyData → Ev → Prop) : Prop := match slot ρ i with
  | some (.dat d) => P d ρ
  | some (.lst _ ds) => P (.list ds) (ρ.set i (some (.dat (.list ds))))
  | _ => False
theorem Own.frzL {fr g : Hp} {hs : Prts} {ρ : Ev} {σ : St} {H : Hp} {i : Nat} {a : Addr} {ds : List PyData} (w : Own fr g hs ρ σ H) (h : slot ρ i = some (.lst a ds)) :
    Same g (uni g (hs i)) ∧ Own fr (uni g (hs i)) (setH hs i nil) (ρ.set i (some (.dat (.list ds)))) σ H ∧ σ[i]? = some (some (.ref a)) ∧ DP (uni g (hs i)) (.list ds) (.ref a) := by
  obtain ⟨v, h1, e, vs, h2, h3⟩ := w.rep i _ (slot_some h)
  subst e
  have q : DP (uni g (hs i)) (.list ds) (.ref a) := ⟨a, vs, rfl, uni_r (fun b o k => w.dg i b o k) _ _ h2, h3.mono uni_l⟩
  refine ⟨uni_l, w.freeze i (fun v hv => ?_) ⟨_, h1⟩, h1, q⟩
  rw [h1] at hv
  cases hv
  exact q
section
variable {X : Cx} {pos : Pos}
theorem de_var (i : Nat) {x : Str} (hN : X.N[i]? = some x := by rfl) (hv : Vis X.env.scope x := by first | exact Or.inl rfl | exact Or.inr (Or.inl rfl) | exact Or.inr (Or.inr rfl)) (hd : (x == ("__debug__" : Str)) = false := by decide)
    (hcd : (x == ("__classdict__" : Str)) = false := by decide) : PE X (.Name x pos) (lE (dVar i)) := by
  refine pe_imp (pe_var (i := i) hN hv hd hcd) fun σ H Q h => ?_
  obtain ⟨fr, g, hs, ρ, P, W, h, k⟩ := h
  unfold dVar at h
  cases q : slot ρ i with
  | none =>
    rw [q] at h
    exact h.elim
  | some sv =>
    rw [q] at h
    cases sv with
    | dat d =>
      obtain ⟨v, h1, h2⟩ := W.rep i _ (slot_some q)
      exact ⟨v, h1, k d ρ v g hs H h (Same.refl g) W h2⟩
    | lst a ds =>
      obtain ⟨s, W', h1, h2⟩ := W.frzL q
      exact ⟨_, h1, k _ _ _ _ _ _ h s W' h2⟩
    | dic a kvs => exact h.elim
    | obj a o => exact h.elim
def dC (d : PyData) (ρ : Ev) (P : PyData → Ev → Prop) : Prop := P d ρ
theorem lE_c {d : PyData} {v : V} (h : ∀ g, DP g d v) {σ : St} {H : Hp} {Q : VK} (q : lE (dC d) σ H Q) : tC v σ H Q := by
  obtain ⟨fr, g, hs, ρ, P, W, h2, k⟩ := q
  exact k d ρ v g hs H h2 (Same.refl g) W (h g)
theorem de_int {i : Int} {j : Nat} : PE X (.Constant (.int i) j pos) (lE (dC (.int i))) := pe_imp pe_int fun _ _ _ q => lE_c (d := .int i) (v := .int i) (fun _ => rfl) q
theorem de_bl {b : Bool} {j : Nat} : PE X (.Constant (.bool b) j pos) (lE (dC (.bool b))) := pe_imp pe_bl fun _ _ _ q => lE_c (d := .bool b) (v := .bl b) (fun _ => rfl) q
theorem de_non {j : Nat} : PE X (.Constant .none j pos) (lE (dC .none)) := pe_imp pe_non fun _ _ _ q => lE_c (d := .none) (v := .non) (fun _ => rfl) q
theorem de_str {x : Str} {j : Nat} (h : PyData.strOk x = true := by decide +kernel) : PE X (.Constant (.str x) j pos) (lE (dC (.str x))) := pe_imp pe_str fun _ _ _ q => lE_c (d := .str x) (v := .str x) (fun _ => ⟨rfl, h⟩) q
theorem de_globS {x z : Str} {t : Tok} (hm : X.mg x = some (.str z t)) (hz : PyData.strOk z = true) (hg : Gl X x := by rfl) (hd : (x == ("__debug__" : Str)) = false := by decide) : PE X (.Name x pos) (lE (dC (.str z))) :=
  pe_imp (pe_glob hg hm (v := .str z) (r := ⟨t, rfl⟩) hd) fun _ _ _ q => lE_c (d := .str z) (v := .str z) (fun _ => ⟨rfl, hz⟩) q
theorem de_globI {x : Str} {i : Int} {t : Tok} (hm : X.mg x = some (.int i t)) (hg : Gl X x := by rfl) (hd : (x == ("__debug__" : Str)) = false := by decide) : PE X (.Name x pos) (lE (dC (.int i))) :=
  pe_imp (pe_glob hg hm (v := .int i) (r := ⟨t, rfl⟩) hd) fun _ _ _ q => lE_c (d := .int i) (v := .int i) (fun _ => rfl) q
end

/-! ### operators -/
/-- what may come: data as they stand, or one new object -/
structure OutD (g H : Hp) (k : PyData → Prop) (Q : VK) : Prop where
  old : ∀ z v, k z → DP g z v → Q v H
  new : ∀ z p o, k z → H p = none → DP (upd g p o) z (.ref p) → Q (.ref p) (upd H p o)
theorem ord_dp {g : Hp} {p : Addr} {o : HO} : ∀ {z : PyData}, DP (upd g p o) z (.ref p) → ord o = true
  | .none, h => by cases h
  | .bool _, h => by cases h
  | .int _, h => by cases h
  | .str _, h => by cases h.1
  | .list _, ⟨_, _, e, k, _⟩ => by
    cases e
    rw [upd_same] at k
    cases k
    rfl
  | .tuple _, ⟨_, _, e, k, _⟩ => by
    cases e
    rw [upd_same] at k
    cases k
    rfl
  | .dict _, h => h.elim
theorem Own.out {fr g : Hp} {hs : Prts} {ρ : Ev} {σ : St} {H : Hp} {P : PyData → Ev → Prop} {Q : VK} {g0 : Hp} (W : Own fr g hs ρ σ H) (s : Same g0 g) (k : ∀ d ρ' v g' hs' H', P d ρ' → Same g0 g' → Own fr g' hs' ρ' σ H' → DP g' d v → Q v H') :
    OutD g H (fun z => P z ρ) Q :=
  ⟨fun z v h d => k z ρ v g hs H h s W d, fun z p o h n d => k z ρ (.ref p) (upd g p o) hs (upd H p o) h (s.trans (Same.new (none_of W.sg n))) (W.froz n (ord_dp d)) d⟩
def OpD (r : R2) (wr : PyData → PyData → (PyData → Prop) → Prop) : Prop := ∀ g H x y vx vy k Q, Same g H → DP g x vx → DP g y vy → wr x y k → OutD g H k Q → r vx vy H Q
def d2 (wr : PyData → PyData → (PyData → Prop) → Prop) (wa wb : ET) (ρ : Ev) (P : PyData → Ev → Prop) : Prop := wa ρ fun x ρ1 => wb ρ1 fun y ρ2 => wr x y fun z => P z ρ2
theorem l2 {r : R2} {wr : PyData → PyData → (PyData → Prop) → Prop} {wa wb : ET} (hw : OpD r wr) {σ : St} {H : Hp} {Q : VK} (h : lE (d2 wr wa wb) σ H Q) : tOp r (lE wa) (lE wb) σ H Q := by
  obtain ⟨fr, g, hs, ρ, P, W, h, k⟩ := h
  refine ⟨fr, g, hs, ρ, _, W, h, fun x ρ1 v1 g1 hs1 H1 h1 s1 W1 d1 => ⟨fr, g1, hs1, ρ1, _, W1, h1, fun y ρ2 v2 g2 hs2 H2 h2 s2 W2 d2' => ?_⟩⟩
  exact hw g2 H2 x y v1 v2 _ Q W2.sg (d1.mono s2) d2' h2 (W2.out (s1.trans s2) k)
section
variable {X : Cx} {a b : Expr} {pos : Pos} {wa wb : ET}
theorem de_bin {op : Operator} {r : R2} {wr : PyData → PyData → (PyData → Prop) → Prop} (ho : OpR X (binaryOp op) r) (hw : OpD r wr) (ha : PE X a (lE wa)) (hb : PE X b (lE wb)) : PE X (.BinOp a op b pos) (lE (d2 wr wa wb)) :=
  pe_imp (pe_op ho ha hb) fun _ _ _ h => l2 hw h
theorem de_cmpR {op : CmpOp} {r : R2} {wr : PyData → PyData → (PyData → Prop) → Prop} (ho : OpR X (compareOp op) r) (hw : OpD r wr) (ha : PE X a (lE wa)) (hb : PE X b (lE wb)) (hm : behindInMarks op b = false) : PE X (.Compare a [op] [b] pos) (lE (d2 wr wa wb)) :=
  pe_imp (pe_cmpR ho ha hb hm) fun _ _ _ h => l2 hw h
end
theorem strOk_app {x y : Str} (hx : PyData.strOk x = true) (hy : PyData.strOk y = true) : PyData.strOk (x ++ y) = true := by
  unfold PyData.strOk at *
  show ((x.cps ++ y.cps).all _) = true
  rw [Array.all_append, hx, hy] <;> rfl
@[simp] def wAdd : PyData → PyData → (PyData → Prop) → Prop
  | .int i, .int j, k => k (.int (i + j))
  | .str x, .str y, k => x.length + y.length ≤ sizeLine ∧ k (.str (x ++ y))
  | .list xs, .list ys, k => xs.length + ys.length ≤ sizeLine ∧ k (.list (xs ++ ys))
  | .tuple xs, .tuple ys, k => xs.length + ys.length ≤ sizeLine ∧ k (.tuple (xs ++ ys))
  | _, _, _ => False
def rAddAll (K : PySem.W.Frag) : R2 := fun x y H Q => rI0 (fun i j => .int (i + j)) x y H Q ∨ (∃ i j, x = .str i ∧ y = .str j ∧ i.length + j.length ≤ sizeLine ∧ Q (.str (i ++ j)) H) ∨ rCat x y H Q ∨ rCatA K x y H Q
theorem op_addAll {X : Cx} : OpR X (binaryOp .Add) (rAddAll X.K) := op_add.or (op_add_str.or (op_cat.or op_catA))
theorem od_add (K : PySem.W.Frag) : OpD (rAddAll K) wAdd := by
  intro g H x y vx vy k Q s dx dy h o
  cases x <;> cases y <;> try exact h.elim
  · cases dx; cases dy
    exact .inl ⟨_, _, rfl, rfl, o.old _ _ h rfl⟩
  · obtain ⟨ex, sx⟩ := dx
    obtain ⟨ey, sy⟩ := dy
    exact .inr (.inl ⟨_, _, ex, ey, h.1, o.old _ _ h.2 ⟨rfl, strOk_app sx sy⟩⟩)
  · obtain ⟨a, vs, ex, ga, ra⟩ := dx
    obtain ⟨b, us, ey, gb, rb⟩ := dy
    refine .inr (.inr (.inl ⟨a, b, vs, us, ex, ey, s _ _ ga, s _ _ gb, by rw [ra.length, rb.length]; exact h.1, fun p hp => ?_⟩))
    have gp := none_of s hp
    exact o.new _ p _ h.2 hp ⟨p, _, rfl, upd_same, (ra.mono (Same.new gp)).append (rb.mono (Same.new gp))⟩
  · obtain ⟨a, vs, ex, ga, ra⟩ := dx
    obtain ⟨b, us, ey, gb, rb⟩ := dy
    refine .inr (.inr (.inr ⟨a, b, vs, us, ex, ey, SqT.of (s _ _ ga), SqT.of (s _ _ gb), by rw [ra.length, rb.length]; exact h.1, ?_⟩))
    refine ⟨fun z => ?_, fun z1 z2 => ?_, fun _ _ p hp => ?_⟩
    · have e : _ = [] := List.eq_nil_of_length_eq_zero (by rw [← ra.length, z] <;> rfl)
      have h2 := h.2
      rw [e] at h2
      exact o.old _ _ h2 ⟨b, us, rfl, gb, rb⟩
    · have e : _ = [] := List.eq_nil_of_length_eq_zero (by rw [← rb.length, z2] <;> rfl)
      have h2 := h.2
      rw [e, List.append_nil] at h2
      exact o.old _ _ h2 ⟨a, vs, rfl, ga, ra⟩
    · have gp := none_of s hp
      exact o.new _ p _ h.2 hp ⟨p, _, rfl, upd_same, (ra.mono (Same.new gp)).append (rb.mono (Same.new gp))⟩
@[simp] def wSub : PyData → PyData → (PyData → Prop) → Prop
  | .int i, .int j, k => k (.int (i - j))
  | _, _, _ => False
theorem od_sub : OpD (rI0 fun i j => .int (i - j)) wSub := by
  intro g H x y vx vy k Q s dx dy h o
  cases x <;> cases y <;> try exact h.elim
  cases dx; cases dy
  exact ⟨_, _, rfl, rfl, o.old _ _ h rfl⟩
def bits (i : Int) : Nat := Builtin.Int.intBits i
@[simp] def wMul : PyData → PyData → (PyData → Prop) → Prop
  | .int i, .int j, k => CMulX i j ∧ k (.int (i * j))
  | _, _, _ => False
theorem od_mul : OpD (rI CMulX fun i j => .int (i * j)) wMul := by
  intro g H x y vx vy k Q s dx dy h o
  cases x <;> cases y <;> try exact h.elim
  cases dx; cases dy
  exact ⟨_, _, rfl, rfl, h.1, o.old _ _ h.2 rfl⟩
@[simp] def wFdiv : PyData → PyData → (PyData → Prop) → Prop
  | .int i, .int j, k => (0 < j ∧ j < 1073741824) ∧ k (.int (i / j))
  | _, _, _ => False
theorem od_fdiv : OpD (rI CDiv fun i j => .int (i / j)) wFdiv := by
  intro g H x y vx vy k Q s dx dy h o
  cases x <;> cases y <;> try exact h.elim
  cases dx; cases dy
  exact ⟨_, _, rfl, rfl, h.1, o.old _ _ h.2 rfl⟩
@[simp] def wMod : PyData → PyData → (PyData → Prop) → Prop
  | .int i, .int j, k => 0 < j ∧ k (.int (i % j))
  | _, _, _ => False
theorem od_mod : OpD (rI (fun _ j => 0 < j) fun i j => .int (i % j)) wMod := by
  intro g H x y vx vy k Q s dx dy h o
  cases x <;> cases y <;> try exact h.elim
  cases dx; cases dy
  exact ⟨_, _, rfl, rfl, h.1, o.old _ _ h.2 rfl⟩
/-! ### comparisons -/
def rEqDp (K : PySem.W.Frag) : R2 := fun x y H Q => ∃ d e, Dp K H x d ∧ Dp K H y e ∧ d.canLay0 = true ∧ e.canLay0 = true ∧ min d.depth e.depth ≤ 64 ∧ Q (.bl (PyData.eqv d e)) H
def rNeDp (K : PySem.W.Frag) : R2 := fun x y H Q => ∃ d e, Dp K H x d ∧ Dp K H y e ∧ d.canLay0 = true ∧ e.canLay0 = true ∧ min d.depth e.depth ≤ 64 ∧ Q (.bl (!PyData.eqv d e)) H
section
variable {X : Cx}
theorem op_eqDp (hu : X.A.units + 64 < cLine) : OpR X (compareOp .Eq) (rEqDp X.K) := by
  intro pins s σ H x y v u Q I rx ry h
  obtain ⟨d, e, hd, he, ld, le, m, q⟩ := h
  obtain ⟨as, r1⟩ := Dp.reads I d x v hd rx
  obtain ⟨bs, r2⟩ := Dp.reads I e y u he ry
  exact SeqAt.compareEq_reads r1 r2 ld le (by omega) ⟨.bl _, H, I, rfl, q⟩
theorem op_neDp (hu : X.A.units + 64 < cLine) : OpR X (compareOp .NotEq) (rNeDp X.K) := by
  intro pins s σ H x y v u Q I rx ry h
  obtain ⟨d, e, hd, he, ld, le, m, q⟩ := h
  obtain ⟨as, r1⟩ := Dp.reads I d x v hd rx
  obtain ⟨bs, r2⟩ := Dp.reads I e y u he ry
  exact SeqAt.compareNe_reads r1 r2 ld le (by omega) ⟨.bl _, H, I, rfl, q⟩
end
@[simp] def wEq (x y : PyData) (k : PyData → Prop) : Prop := min x.depth y.depth ≤ 64 ∧ k (.bool (PyData.eqv x y))
@[simp] def wNe (x y : PyData) (k : PyData → Prop) : Prop := min x.depth y.depth ≤ 64 ∧ k (.bool (!PyData.eqv x y))
theorem od_eq (K : PySem.W.Frag) : OpD (rEqDp K) wEq := fun g H x y vx vy k Q s dx dy h o => ⟨x, y, dx.dp s, dy.dp s, dx.lay, dy.lay, h.1, o.old _ _ h.2 rfl⟩
theorem od_ne (K : PySem.W.Frag) : OpD (rNeDp K) wNe := fun g H x y vx vy k Q s dx dy h o => ⟨x, y, dx.dp s, dy.dp s, dx.lay, dy.lay, h.1, o.old _ _ h.2 rfl⟩
def rStrC (f : List Nat → List Nat → Bool) : R2 := fun x y H Q => ∃ i j, x = .str i ∧ y = .str j ∧ Q (.bl (f i.cps.toList j.cps.toList)) H
def rCm (p : Int → Int → Bool) (f : List Nat → List Nat → Bool) : R2 := fun x y H Q => rI0 (fun i j => .bl (p i j)) x y H Q ∨ rStrC f x y H Q
@[simp] def wCm (p : Int → Int → Bool) (f : List Nat → List Nat → Bool) : PyData → PyData → (PyData → Prop) → Prop
  | .int i, .int j, k => k (.bool (p i j))
  | .str x, .str y, k => k (.bool (f x.cps.toList y.cps.toList))
  | _, _, _ => False
theorem od_cm (p : Int → Int → Bool) (f : List Nat → List Nat → Bool) : OpD (rCm p f) (wCm p f) := by
  intro g H x y vx vy k Q s dx dy h o
  cases x <;> cases y <;> try exact h.elim
  · cases dx; cases dy
    exact .inl ⟨_, _, rfl, rfl, o.old _ _ h rfl⟩
  · exact .inr ⟨_, _, dx.1, dy.1, o.old _ _ h rfl⟩
section
variable {X : Cx}
theorem op_ltAll : OpR X (compareOp .Lt) (rCm (fun i j => decide (i < j)) fun a b => decide (a < b)) := op_lt.or op_lt_str
theorem op_leAll : OpR X (compareOp .LtE) (rCm (fun i j => decide (i ≤ j)) fun a b => !decide (b < a)) := op_le.or op_le_str
theorem op_gtAll : OpR X (compareOp .Gt) (rCm (fun i j => decide (j < i)) fun a b => decide (b < a)) := op_gt.or op_gt_str
theorem op_geAll : OpR X (compareOp .GtE) (rCm (fun i j => decide (j ≤ i)) fun a b => !decide (a < b)) := op_ge.or op_ge_str
end
/-- in: texts, items of lists and tuples -/
def rInDp (K : PySem.W.Frag) (neg : Bool) : R2 := fun x y H Q => ∃ d ds, Dp K H x d ∧ (Dp K H y (.list ds) ∨ Dp K H y (.tuple ds)) ∧ d.canLay0 = true ∧ PyData.canLayAll0 ds = true ∧ min (PyData.depthAll ds) d.depth ≤ 64 ∧ Q (.bl (xor neg (ds.any fun z => PyData.eqv z d))) H
def subStr (x y : Str) : Bool := !(Builtin.Str.occurrences y x 0 y.length 1).isEmpty
def rInAll (K : PySem.W.Frag) (neg : Bool) : R2 := fun x y H Q => rInDp K neg x y H Q ∨ ∃ i j, x = .str i ∧ y = .str j ∧ Q (.bl (xor neg (subStr i j))) H
section
variable {X : Cx}
theorem op_inAll (hu : X.A.units + 65 < cLine) : OpR X (compareOp .In) (rInAll X.K false) := by
  refine OpR.or ?_ ?_
  · intro pins s σ H x y v u Q I rx ry h
    obtain ⟨d, ds, hd, he, ld, le, m, q⟩ := h
    obtain ⟨as, r1⟩ := Dp.reads I d x v hd rx
    rcases he with he | he
    · obtain ⟨bs, r2⟩ := Dp.reads I _ y u he ry
      exact SeqAt.in_list_reads r2 r1 le ld (by omega) ⟨.bl _, H, I, rfl, by rw [Bool.false_xor] at q; exact q⟩
    · obtain ⟨bs, r2⟩ := Dp.reads I _ y u he ry
      exact SeqAt.in_tuple_reads r2 r1 le ld (by omega) ⟨.bl _, H, I, rfl, by rw [Bool.false_xor] at q; exact q⟩
  · intro pins s σ H x y v u Q I rx ry h
    obtain ⟨i, j, ex, ey, q⟩ := h
    rw [Bool.false_xor] at q
    exact op_in_str pins s σ H x y v u Q I rx ry ⟨i, j, ex, ey, q⟩
theorem op_niAll (hu : X.A.units + 65 < cLine) : OpR X (compareOp .NotIn) (rInAll X.K true) := by
  refine OpR.or ?_ ?_
  · intro pins s σ H x y v u Q I rx ry h
    obtain ⟨d, ds, hd, he, ld, le, m, q⟩ := h
    obtain ⟨as, r1⟩ := Dp.reads I d x v hd rx
    rcases he with he | he
    · obtain ⟨bs, r2⟩ := Dp.reads I _ y u he ry
      exact SeqAt.notIn_list_reads r2 r1 le ld (by omega) ⟨.bl _, H, I, rfl, by rw [Bool.true_xor] at q; exact q⟩
    · obtain ⟨bs, r2⟩ := Dp.reads I _ y u he ry
      exact SeqAt.notIn_tuple_reads r2 r1 le ld (by omega) ⟨.bl _, H, I, rfl, by rw [Bool.true_xor] at q; exact q⟩
  · intro pins s σ H x y v u Q I rx ry h
    obtain ⟨i, j, ex, ey, q⟩ := h
    rw [Bool.true_xor] at q
    exact op_notIn_str pins s σ H x y v u Q I rx ry ⟨i, j, ex, ey, q⟩
end
def anyEq (d : PyData) (ds : List PyData) : Bool := ds.any fun z => PyData.eqv z d
@[simp] def wIn (neg : Bool) : PyData → PyData → (PyData → Prop) → Prop
  | d, .list ds, k => min (PyData.depthAll ds) d.depth ≤ 64 ∧ k (.bool (xor neg (anyEq d ds)))
  | d, .tuple ds, k => min (PyData.depthAll ds) d.depth ≤ 64 ∧ k (.bool (xor neg (anyEq d ds)))
  | .str x, .str y, k => k (.bool (xor neg (subStr x y)))
  | _, _, _ => False
theorem od_in (K : PySem.W.Frag) (neg : Bool) : OpD (rInAll K neg) (wIn neg) := by
  intro g H x y vx vy k Q s dx dy h o
  cases y with
  | list ds => exact .inl ⟨x, ds, dx.dp s, .inl (dy.dp s), dx.lay, dy.lay, h.1, o.old _ _ h.2 rfl⟩
  | tuple ds => exact .inl ⟨x, ds, dx.dp s, .inr (dy.dp s), dx.lay, dy.lay, h.1, o.old _ _ h.2 rfl⟩
  | str z =>
    cases x <;> try exact h.elim
    exact .inr ⟨_, _, dx.1, dy.1, o.old _ _ h rfl⟩
  | none => cases x <;> exact h.elim
  | bool b => cases x <;> exact h.elim
  | int b => cases x <;> exact h.elim
  | dict b => cases x <;> exact h.elim
@[simp] def isNone : PyData → Bool
  | .none => true
  | _ => false
@[simp] def wIsN (neg : Bool) (x y : PyData) (k : PyData → Prop) : Prop := y = .none ∧ k (.bool (xor neg (isNone x)))
theorem dp_none {g : Hp} : ∀ {x : PyData} {v : V}, DP g x v → decide (v = .non) = isNone x
  | .none, v, h => by
    have e : v = .non := h
    rw [e]; rfl
  | .bool _, v, h => by
    have e : v = .bl _ := h
    rw [e]; rfl
  | .int _, v, h => by
    have e : v = .int _ := h
    rw [e]; rfl
  | .str _, v, h => by
    rw [h.1]; rfl
  | .list _, v, ⟨a, vs, e, _, _⟩ => by rw [e]; rfl
  | .tuple _, v, ⟨a, vs, e, _, _⟩ => by rw [e]; rfl
  | .dict _, _, h => h.elim
theorem od_isN : OpD (fun x y H Q => y = .non ∧ Q (.bl (decide (x = .non))) H) (wIsN false) := by
  intro g H x y vx vy k Q s dx dy h o
  obtain ⟨e, h⟩ := h
  subst e
  rw [dp_none dx]
  rw [Bool.false_xor] at h
  exact ⟨dy, o.old _ _ h rfl⟩
theorem od_notN : OpD (fun x y H Q => y = .non ∧ Q (.bl (!decide (x = .non))) H) (wIsN true) := by
  intro g H x y vx vy k Q s dx dy h o
  obtain ⟨e, h⟩ := h
  subst e
  rw [dp_none dx]
  rw [Bool.true_xor] at h
  exact ⟨dy, o.old _ _ h rfl⟩

/-! ### tests -/
def dTst (w : ET) (ρ : Ev) (P : Bool → Ev → Prop) : Prop := w ρ fun d ρ' => ∃ b, d = .bool b ∧ P b ρ'
def dTst2 (wr : PyData → PyData → (PyData → Prop) → Prop) (wa wb : ET) : ETb := fun ρ P => wa ρ fun x ρ1 => wb ρ1 fun y ρ2 => wr x y fun z => ∃ b, z = .bool b ∧ P b ρ2
theorem lT_tst {w : ET} {σ : St} {H : Hp} {Q : Bool → Hp → Prop} (h : lT (dTst w) σ H Q) : lE w σ H fun x H' => ∃ c, x = .bl c ∧ Q c H' := by
  obtain ⟨fr, g, hs, ρ, P, W, h, k⟩ := h
  refine ⟨fr, g, hs, ρ, _, W, h, fun d ρ' v g' hs' H' h' s' W' d' => ?_⟩
  obtain ⟨b, e, h'⟩ := h'
  subst e
  exact ⟨b, d', k b ρ' g' hs' H' h' s' W'⟩
section
variable {X : Cx} {e a b : Expr} {pos : Pos} {wa wb : ET} {ta tb : ETb}
theorem dt_val {w : ET} (h : PE X e (lE w)) (he : ∀ whole, isTrue e X.env whole = (do let v ← whole; standAt e.pos; holding [v] (truthy v)) := by intro _; rfl) : PT X e (lT (dTst w)) :=
  pt_imp (pt_val h he) fun _ _ _ h => lT_tst h
theorem dt_cmpR {op : CmpOp} {r : R2} {wr : PyData → PyData → (PyData → Prop) → Prop} (ho : OpR X (compareOp op) r) (hw : OpD r wr) (ha : PE X a (lE wa)) (hb : PE X b (lE wb)) (hm : behindInMarks op b = false) : PT X (.Compare a [op] [b] pos) (lT (dTst (d2 wr wa wb))) :=
  pt_imp (pt_cmpR ho ha hb hm) fun _ _ _ h => l2 hw (lT_tst h)
def dAnd (t u : ETb) (ρ : Ev) (P : Bool → Ev → Prop) : Prop := t ρ fun c ρ1 => if c = true then u ρ1 P else P false ρ1
def dOr (t u : ETb) (ρ : Ev) (P : Bool → Ev → Prop) : Prop := t ρ fun c ρ1 => if c = true then P true ρ1 else u ρ1 P
def dNot (t : ETb) (ρ : Ev) (P : Bool → Ev → Prop) : Prop := t ρ fun c ρ1 => P (!c) ρ1
theorem dw_and1 (ha : PT X a (lT ta)) : PW X (.BoolOp .And [a] pos) (lT ta) := pw_and1 ha
theorem dw_or1 (ha : PT X a (lT ta)) : PW X (.BoolOp .Or [a] pos) (lT ta) := pw_or1 ha
theorem dw_and {rest : List Expr} (ha : PT X a (lT ta)) (hb : PW X (.BoolOp .And (b :: rest) pos) (lT tb)) : PW X (.BoolOp .And (a :: b :: rest) pos) (lT (dAnd ta tb)) := by
  refine pw_imp (pw_and ha hb) fun σ H Q h => ?_
  obtain ⟨fr, g, hs, ρ, P, W, h, k⟩ := h
  refine ⟨fr, g, hs, ρ, _, W, h, fun c ρ1 g1 hs1 H1 h1 s1 W1 => ?_⟩
  cases c with
  | true => exact ⟨fr, g1, hs1, ρ1, P, W1, h1, fun d ρ' g' hs' H' p s' W' => k d ρ' g' hs' H' p (s1.trans s') W'⟩
  | false => exact k false ρ1 g1 hs1 H1 h1 s1 W1
theorem dw_or {rest : List Expr} (ha : PT X a (lT ta)) (hb : PW X (.BoolOp .Or (b :: rest) pos) (lT tb)) : PW X (.BoolOp .Or (a :: b :: rest) pos) (lT (dOr ta tb)) := by
  refine pw_imp (pw_or ha hb) fun σ H Q h => ?_
  obtain ⟨fr, g, hs, ρ, P, W, h, k⟩ := h
  refine ⟨fr, g, hs, ρ, _, W, h, fun c ρ1 g1 hs1 H1 h1 s1 W1 => ?_⟩
  cases c with
  | true => exact k true ρ1 g1 hs1 H1 h1 s1 W1
  | false => exact ⟨fr, g1, hs1, ρ1, P, W1, h1, fun d ρ' g' hs' H' p s' W' => k d ρ' g' hs' H' p (s1.trans s') W'⟩
theorem dt_not (ha : PT X a (lT ta)) : PT X (.UnaryOp .Not a pos) (lT (dNot ta)) := by
  refine pt_imp (pt_not ha) fun σ H Q h => ?_
  obtain ⟨fr, g, hs, ρ, P, W, h, k⟩ := h
  exact ⟨fr, g, hs, ρ, _, W, h, fun c ρ1 g1 hs1 H1 h1 s1 W1 => k (!c) ρ1 g1 hs1 H1 h1 s1 W1⟩
/-- as values, all but the last True or False -/
def dAndV (wa wb : ET) (ρ : Ev) (P : PyData → Ev → Prop) : Prop := wa ρ fun x ρ1 => ∃ c, x = .bool c ∧ if c = true then wb ρ1 P else P (.bool false) ρ1
def dOrV (wa wb : ET) (ρ : Ev) (P : PyData → Ev → Prop) : Prop := wa ρ fun x ρ1 => ∃ c, x = .bool c ∧ if c = true then P (.bool true) ρ1 else wb ρ1 P
def dNotV (wa : ET) (ρ : Ev) (P : PyData → Ev → Prop) : Prop := wa ρ fun x ρ1 => ∃ c, x = .bool c ∧ P (.bool (!c)) ρ1
theorem de_one {op : BoolOp} (h : PE X a (lE wa)) : PE X (.BoolOp op [a] pos) (lE wa) := pe_one h
theorem de_and {rest : List Expr} (ha : PE X a (lE wa)) (hb : PE X (.BoolOp .And (b :: rest) pos) (lE wb)) : PE X (.BoolOp .And (a :: b :: rest) pos) (lE (dAndV wa wb)) := by
  refine pe_imp (pe_and ha hb) fun σ H Q h => ?_
  obtain ⟨fr, g, hs, ρ, P, W, h, k⟩ := h
  refine ⟨fr, g, hs, ρ, _, W, h, fun d ρ1 v g1 hs1 H1 h1 s1 W1 d1 => ?_⟩
  obtain ⟨c, e, h1⟩ := h1
  subst e
  refine ⟨c, d1, ?_⟩
  cases c with
  | true => exact ⟨fr, g1, hs1, ρ1, P, W1, h1, fun d ρ' v g' hs' H' p s' W' => k d ρ' v g' hs' H' p (s1.trans s') W'⟩
  | false => exact k _ ρ1 _ g1 hs1 H1 h1 s1 W1 rfl
theorem de_or {rest : List Expr} (ha : PE X a (lE wa)) (hb : PE X (.BoolOp .Or (b :: rest) pos) (lE wb)) : PE X (.BoolOp .Or (a :: b :: rest) pos) (lE (dOrV wa wb)) := by
  refine pe_imp (pe_or ha hb) fun σ H Q h => ?_
  obtain ⟨fr, g, hs, ρ, P, W, h, k⟩ := h
  refine ⟨fr, g, hs, ρ, _, W, h, fun d ρ1 v g1 hs1 H1 h1 s1 W1 d1 => ?_⟩
  obtain ⟨c, e, h1⟩ := h1
  subst e
  refine ⟨c, d1, ?_⟩
  cases c with
  | true => exact k _ ρ1 _ g1 hs1 H1 h1 s1 W1 rfl
  | false => exact ⟨fr, g1, hs1, ρ1, P, W1, h1, fun d ρ' v g' hs' H' p s' W' => k d ρ' v g' hs' H' p (s1.trans s') W'⟩
theorem de_not (ha : PE X a (lE wa)) : PE X (.UnaryOp .Not a pos) (lE (dNotV wa)) := by
  refine pe_imp (pe_not ha) fun σ H Q h => ?_
  obtain ⟨fr, g, hs, ρ, P, W, h, k⟩ := h
  refine ⟨fr, g, hs, ρ, _, W, h, fun d ρ1 v g1 hs1 H1 h1 s1 W1 d1 => ?_⟩
  obtain ⟨c, e, h1⟩ := h1
  subst e
  exact ⟨c, d1, k _ ρ1 _ g1 hs1 H1 h1 s1 W1 rfl⟩
def dIfE (t : ETb) (wa wb : ET) (ρ : Ev) (P : PyData → Ev → Prop) : Prop := t ρ fun c ρ1 => if c = true then wa ρ1 P else wb ρ1 P
theorem de_if {c : Expr} (hc : PT X c (lT ta)) (ha : PE X a (lE wa)) (hb : PE X b (lE wb)) : PE X (.IfExp c a b pos) (lE (dIfE ta wa wb)) := by
  refine pe_imp (pe_ifExp hc ha hb) fun σ H Q h => ?_
  obtain ⟨fr, g, hs, ρ, P, W, h, k⟩ := h
  refine ⟨fr, g, hs, ρ, _, W, h, fun c ρ1 g1 hs1 H1 h1 s1 W1 => ?_⟩
  cases c with
  | true => exact ⟨fr, g1, hs1, ρ1, P, W1, h1, fun d ρ' v g' hs' H' p s' W' => k d ρ' v g' hs' H' p (s1.trans s') W'⟩
  | false => exact ⟨fr, g1, hs1, ρ1, P, W1, h1, fun d ρ' v g' hs' H' p s' W' => k d ρ' v g' hs' H' p (s1.trans s') W'⟩
/-- low <= x <= high -/
def dChain (wr wr' : PyData → PyData → (PyData → Prop) → Prop) (wa wb wc : ET) (ρ : Ev) (P : PyData → Ev → Prop) : Prop := wa ρ fun x ρ1 => wb ρ1 fun y ρ2 => wr x y fun z => ∃ c, z = .bool c ∧ if c = true then wc ρ2 fun y2 ρ3 => wr' y y2 fun z => P z ρ3 else P (.bool false) ρ2
end
end Fb
namespace Fb
open PySem L2
set_option autoImplicit false
variable [Tb]

/-! ### either of two readings -/
section
variable {X : Cx} {e : Expr}
theorem pe_alt {t u : TE} (h : PE X e t) (h2 : PE X e u) : PE X e (fun σ H Q => t σ H Q ∨ u σ H Q) := ⟨fun pins s σ H Q I hw => hw.elim (h.run pins s σ H Q I) (h2.run pins s σ H Q I)⟩
theorem pc_alt {op : CmpOp} {a b : Expr} {t u : TE} (h : PC X op a b t) (h2 : PC X op a b u) : PC X op a b (fun σ H Q => t σ H Q ∨ u σ H Q) := ⟨fun pins s σ H Q I hw => hw.elim (h.run pins s σ H Q I) (h2.run pins s σ H Q I)⟩
theorem ps_alt {st : Stmt} {t u : TS} (h : PS X st t) (h2 : PS X st u) : PS X st (fun D σ H => t D σ H ∨ u D σ H) := ⟨fun pins s σ H D I hw => hw.elim (h.run pins s σ H D I) (h2.run pins s σ H D I)⟩
end

/-! ### a < b <= c -/
section
variable {X : Cx} {a b c : Expr} {pos : Pos} {wa wb wc : ET}
theorem de_chain {op op' : CmpOp} {r r' : R2} {wr wr' : PyData → PyData → (PyData → Prop) → Prop} (ho : OpR X (compareOp op) r) (hw : OpD r wr) (ho' : OpR X (compareOp op') r') (hw' : OpD r' wr') (ha : PE X a (lE wa)) (hb : PE X b (lE wb)) (hc : PE X c (lE wc))
    (hm : lastMarks [op, op'] [b, c] = false := by with_unfolding_all rfl) : PE X (.Compare a [op, op'] [b, c] pos) (lE (dChain wr wr' wa wb wc)) := by
  refine pe_imp (pe_chain ho ho' ha hb hc hm) fun σ H Q h => ?_
  obtain ⟨fr, g, hs, ρ, P, W, h, k⟩ := h
  refine ⟨fr, g, hs, ρ, _, W, h, fun x ρ1 v1 g1 hs1 H1 h1 s1 W1 d1 => ⟨fr, g1, hs1, ρ1, _, W1, h1, fun y ρ2 v2 g2 hs2 H2 h2 s2 W2 d2' => ?_⟩⟩
  refine hw g2 H2 x y v1 v2 _ _ W2.sg (d1.mono s2) d2' h2 ⟨fun z v hz dz => ?_, fun z p o hz _ dz => ?_⟩
  · obtain ⟨c, e, hz⟩ := hz
    subst e
    refine ⟨c, dz, ?_⟩
    cases c with
    | true =>
      refine ⟨fr, g2, hs2, ρ2, _, W2, hz, fun y2 ρ3 v3 g3 hs3 H3 h3 s3 W3 d3 => ?_⟩
      exact hw' g3 H3 y y2 v2 v3 _ _ W3.sg (d2'.mono s3) d3 h3 (W3.out ((s1.trans s2).trans s3) k)
    | false => exact k _ ρ2 _ g2 hs2 H2 hz (s1.trans s2) W2 rfl
  · obtain ⟨c, e, hz⟩ := hz
    subst e
    cases dz
end

/-! ### subscripts -/
@[simp] def wIx : PyData → PyData → (PyData → Prop) → Prop
  | .list ds, .int i, k => ∃ d, atI ds i = some d ∧ k d
  | .tuple ds, .int i, k => ∃ d, atI ds i = some d ∧ k d
  | .str z, .int i, k => z.length ≤ sizeLine ∧ ∃ c, atI z.cps.toList i = some c ∧ k (.str ⟨#[c]⟩)
  | _, _, _ => False
@[simp] theorem at_0 {α : Type} {x : α} {xs : List α} : L2.atI (x :: xs) 0 = some x := atI_nat (j := 0) rfl
@[simp] theorem at_1 {α : Type} {x y : α} {xs : List α} : L2.atI (x :: y :: xs) 1 = some y := atI_nat (j := 1) rfl
@[simp] theorem at_2 {α : Type} {x y z : α} {xs : List α} : L2.atI (x :: y :: z :: xs) 2 = some z := atI_nat (j := 2) rfl
@[simp] theorem at_3 {α : Type} {x y z u : α} {xs : List α} : L2.atI (x :: y :: z :: u :: xs) 3 = some u := atI_nat (j := 3) rfl
@[simp] theorem at_4 {α : Type} {x y z u v : α} {xs : List α} : L2.atI (x :: y :: z :: u :: v :: xs) 4 = some v := atI_nat (j := 4) rfl
@[simp] theorem at_5 {α : Type} {x y z u v w : α} {xs : List α} : L2.atI (x :: y :: z :: u :: v :: w :: xs) 5 = some w := atI_nat (j := 5) rfl
theorem DPs.atI {g : Hp} {ds : List PyData} {vs : List V} {i : Int} {d : PyData} (h : DPs g ds vs) (e : L2.atI ds i = some d) : ∃ v, L2.atI vs i = some v ∧ DP g d v := by
  unfold L2.atI at *
  rw [h.length]
  cases q : ixN ds.length i with
  | none =>
    rw [q] at e
    cases e
  | some j =>
    rw [q] at e
    exact h.get e
theorem strOk_at {z : Str} {i : Int} {c : Nat} (h : PyData.strOk z = true) (e : L2.atI z.cps.toList i = some c) : PyData.strOk ⟨#[c]⟩ = true := by
  obtain ⟨j, _, hj, _⟩ := atI_get e
  have m : c ∈ z.cps.toList := List.mem_of_getElem? hj
  unfold PyData.strOk at *
  have q := Array.all_eq_true_iff_forall_mem.mp h c (Array.mem_toList_iff.mp m)
  show (#[c].all _) = true
  simpa using q
theorem od_ix (K : PySem.W.Frag) : OpD (rIx K) wIx := by
  intro g H x y vx vy k Q s dx dy h o
  cases x <;> cases y <;> try exact h.elim
  · cases dy
    obtain ⟨h0, c', h1, h2⟩ := h
    exact .inr (.inr ⟨_, _, c', dx.1, rfl, h0, h1, o.old _ _ h2 ⟨rfl, strOk_at dx.2 h1⟩⟩)
  · cases dy
    obtain ⟨a, vs, ex, ga, ra⟩ := dx
    obtain ⟨d, h1, h2⟩ := h
    obtain ⟨v, e, dv⟩ := ra.atI h1
    exact .inl ⟨a, vs, _, v, ex, rfl, SqL.of (s _ _ ga), e, o.old _ _ h2 dv⟩
  · cases dy
    obtain ⟨a, vs, ex, ga, ra⟩ := dx
    obtain ⟨d, h1, h2⟩ := h
    obtain ⟨v, e, dv⟩ := ra.atI h1
    exact .inr (.inl ⟨a, vs, _, v, ex, rfl, SqT.of (s _ _ ga), e, o.old _ _ h2 dv⟩)
section
variable {X : Cx} {a b : Expr} {pos : Pos} {wa wb : ET}
theorem de_ix (ha : PE X a (lE wa)) (hb : PE X b (lE wb)) (hs : PlainIx b := by exact fun _ _ => rfl) : PE X (.Subscript a b pos) (lE (d2 wIx wa wb)) :=
  pe_imp (pe_ix ix_seq ha hb hs) fun _ _ _ h => l2 (od_ix X.K) h
end

/-! ### dicts -/
@[simp] def keyD : PyData → Option Key
  | .int i => some (.inl i)
  | .str x => some (.inr x)
  | _ => none
theorem keyD_kV {g : Hp} {d : PyData} {v : V} {k : Key} (h : DP g d v) (e : keyD d = some k) : v = kV k := by
  cases d <;> try cases e
  · exact h
  · exact h.1
def lookD (kvs : List (Key × PyData)) (k : Key) : Option PyData := (kvs.find? fun p => decide (p.1 = k)).map (·.2)
def putD (kvs : List (Key × PyData)) (k : Key) (d : PyData) : List (Key × PyData) :=
  if (kvs.any fun kv => decide (kv.1 = k)) = true then kvs.map (fun kv => if kv.1 = k then (kv.1, d) else kv) else kvs ++ [(k, d)]
def dropD (kvs : List (Key × PyData)) (k : Key) : List (Key × PyData) := kvs.filter fun kv => decide (kv.1 ≠ k)
theorem KVs.cons_inv {g : Hp} {p : Key × PyData} {r : List (Key × PyData)} {vs : List (Key × V)} (h : KVs g (p :: r) vs) : ∃ v us, vs = (p.1, v) :: us ∧ DP g p.2 v ∧ KVs g r us := by
  obtain ⟨h1, h2⟩ := h
  cases vs with
  | nil => cases h1
  | cons q us =>
    obtain ⟨k, v⟩ := q
    simp only [List.map_cons, List.cons.injEq] at h1
    obtain ⟨v', r', e, d, t⟩ := h2
    simp only [List.map_cons, List.cons.injEq] at e
    obtain ⟨e1, e2⟩ := e
    subst e1 e2
    refine ⟨v, us, by rw [h1.1], d, h1.2, t⟩
theorem KVs.nil_inv {g : Hp} {vs : List (Key × V)} (h : KVs g [] vs) : vs = [] := List.map_eq_nil_iff.mp h.1
theorem KVs.mk {g : Hp} {k : Key} {d : PyData} {v : V} {r : List (Key × PyData)} {us : List (Key × V)} (h : DP g d v) (t : KVs g r us) : KVs g ((k, d) :: r) ((k, v) :: us) := ⟨by simp [t.1], v, _, rfl, h, t.2⟩
theorem KVs.none {g : Hp} : KVs g [] [] := ⟨rfl, rfl⟩
theorem KVs.look {g : Hp} {k : Key} : ∀ {kvs : List (Key × PyData)} {vs : List (Key × V)}, KVs g kvs vs → (∀ d, lookD kvs k = some d → ∃ v, valV vs k = some v ∧ DP g d v) ∧ (lookD kvs k = Option.none → valV vs k = Option.none)
  | [], _, h => by
    rw [h.nil_inv]
    exact ⟨fun d e => (by cases e), fun _ => rfl⟩
  | p :: r, _, h => by
    obtain ⟨v, us, e, d, t⟩ := h.cons_inv
    subst e
    obtain ⟨i1, i2⟩ := KVs.look (k := k) t
    unfold lookD at *
    unfold valV at *
    by_cases q : p.1 = k
    · simp only [List.find?_cons, q, decide_true, Option.map_some]
      exact ⟨fun d' e => by cases e; exact ⟨v, rfl, d⟩, fun z => by cases z⟩
    · simp only [List.find?_cons, q, decide_false]
      exact ⟨i1, i2⟩
theorem KVs.has {g : Hp} {k : Key} {kvs : List (Key × PyData)} {vs : List (Key × V)} (h : KVs g kvs vs) : (valV vs k).isSome = (lookD kvs k).isSome := by
  obtain ⟨i1, i2⟩ := h.look (k := k)
  cases e : lookD kvs k with
  | none => rw [i2 e]; rfl
  | some d =>
    obtain ⟨v, e2, _⟩ := i1 d e
    rw [e2]; rfl
theorem KVs.length {g : Hp} {kvs : List (Key × PyData)} {vs : List (Key × V)} (h : KVs g kvs vs) : vs.length = kvs.length := by
  have e := congrArg List.length h.1
  simpa using e
theorem KVs.any {g : Hp} {k : Key} : ∀ {kvs : List (Key × PyData)} {vs : List (Key × V)}, KVs g kvs vs → (vs.any fun kv => decide (kv.1 = k)) = kvs.any fun kv => decide (kv.1 = k)
  | [], _, h => by rw [h.nil_inv]; rfl
  | p :: r, _, h => by
    obtain ⟨v, us, e, d, t⟩ := h.cons_inv
    subst e
    rw [List.any_cons, List.any_cons, KVs.any t]
theorem KVs.app {g : Hp} {k : Key} {d : PyData} {v : V} (dv : DP g d v) : ∀ {kvs : List (Key × PyData)} {vs : List (Key × V)}, KVs g kvs vs → KVs g (kvs ++ [(k, d)]) (vs ++ [(k, v)])
  | [], _, h => by rw [h.nil_inv]; exact .mk dv .none
  | p :: r, _, h => by
    obtain ⟨v, us, e, d, t⟩ := h.cons_inv
    subst e
    exact .mk d (KVs.app dv t)
theorem KVs.map {g : Hp} {k : Key} {d : PyData} {v : V} (dv : DP g d v) : ∀ {kvs : List (Key × PyData)} {vs : List (Key × V)}, KVs g kvs vs → KVs g (kvs.map fun kv => if kv.1 = k then (kv.1, d) else kv) (vs.map fun kv => if kv.1 = k then (kv.1, v) else kv)
  | [], _, h => by rw [h.nil_inv]; exact .none
  | p :: r, _, h => by
    obtain ⟨v, us, e, d, t⟩ := h.cons_inv
    subst e
    have ih := KVs.map (k := k) dv t
    rw [List.map_cons, List.map_cons]
    by_cases q : p.1 = k
    · rw [if_pos q, if_pos q]
      exact .mk dv ih
    · rw [if_neg q, if_neg q]
      exact .mk d ih
theorem KVs.put {g : Hp} {k : Key} {d : PyData} {v : V} {kvs : List (Key × PyData)} {vs : List (Key × V)} (h : KVs g kvs vs) (dv : DP g d v) : KVs g (putD kvs k d) (putK vs k v) := by
  unfold putD putK
  rw [h.any]
  by_cases q : (kvs.any fun kv => decide (kv.1 = k)) = true
  · rw [if_pos q, if_pos q]
    exact h.map dv
  · rw [if_neg q, if_neg q]
    exact h.app dv
theorem KVs.drop {g : Hp} {k : Key} : ∀ {kvs : List (Key × PyData)} {vs : List (Key × V)}, KVs g kvs vs → KVs g (dropD kvs k) (dropK vs k)
  | [], _, h => by rw [h.nil_inv]; exact .none
  | p :: r, _, h => by
    obtain ⟨v, us, e, d, t⟩ := h.cons_inv
    subst e
    have ih := KVs.drop (k := k) t
    unfold dropD dropK at *
    rw [List.filter_cons, List.filter_cons]
    by_cases q : p.1 = k
    · rw [if_neg (by simp [q]), if_neg (by simp [q])]
      exact ih
    · rw [if_pos (by simp [q]), if_pos (by simp [q])]
      exact .mk d ih

/-! ### what a name's slot holds, read as a container -/
/-- the items of a list or tuple in a slot -/
def seqOf : SV → Option (List PyData)
  | .dat (.list ds) => some ds
  | .dat (.tuple ds) => some ds
  | .lst _ ds => some ds
  | _ => none
theorem Own.seq {fr g : Hp} {hs : Prts} {ρ : Ev} {σ : St} {H : Hp} {i : Nat} {sv : SV} {ds : List PyData} (K : PySem.W.Frag) (W : Own fr g hs ρ σ H) (h : slot ρ i = some sv) (e : seqOf sv = some ds) :
    ∃ a vs, σ[i]? = some (some (.ref a)) ∧ (H a = some (.lst vs) ∨ H a = some (.tup vs)) ∧ DPs g ds vs := by
  obtain ⟨v, h1, r⟩ := W.rep i _ (slot_some h)
  cases sv with
  | dat d =>
    cases d <;> cases e
    · obtain ⟨a, vs, ev, k, r⟩ := r
      exact ⟨a, vs, by rw [h1, ev], .inl (W.sg _ _ k), r⟩
    · obtain ⟨a, vs, ev, k, r⟩ := r
      exact ⟨a, vs, by rw [h1, ev], .inr (W.sg _ _ k), r⟩
  | lst a ds' =>
    cases e
    obtain ⟨ev, vs, k, r⟩ := r
    exact ⟨a, vs, by rw [h1, ev], .inl (W.sh i _ _ k), r⟩
  | dic a kvs => cases e
  | obj a o => cases e
theorem Own.dic {fr g : Hp} {hs : Prts} {ρ : Ev} {σ : St} {H : Hp} {i : Nat} {a : Addr} {kvs : List (Key × PyData)} (W : Own fr g hs ρ σ H) (h : slot ρ i = some (.dic a kvs)) :
    σ[i]? = some (some (.ref a)) ∧ ∃ vs, H a = some (.dK vs) ∧ hs i a = some (.dK vs) ∧ KVs g kvs vs := by
  obtain ⟨v, h1, ev, vs, k, r⟩ := W.rep i _ (slot_some h)
  exact ⟨by rw [h1, ev], vs, W.sh i _ _ k, k, r⟩
theorem Own.dat {fr g : Hp} {hs : Prts} {ρ : Ev} {σ : St} {H : Hp} {i : Nat} {d : PyData} (W : Own fr g hs ρ σ H) (h : slot ρ i = some (.dat d)) :
    ∃ v, σ[i]? = some (some v) ∧ DP g d v := W.rep i _ (slot_some h)
/-- n[k], n a name -/
@[simp] def ixOf (sv : SV) (k : PyData) (q : PyData → Prop) : Prop := match sv with
  | .lst _ ds => ∃ j d, k = .int j ∧ atI ds j = some d ∧ q d
  | .dat d => wIx d k q
  | _ => False
def dSub (i : Nat) (wk : ET) (ρ : Ev) (P : PyData → Ev → Prop) : Prop := match slot ρ i with
  | some (.dic _ _) => wk ρ fun k ρ1 => ∃ a kvs key d, slot ρ1 i = some (.dic a kvs) ∧ keyD k = some key ∧ lookD kvs key = some d ∧ P d ρ1
  | some _ => wk ρ fun k ρ1 => ∃ sv, slot ρ1 i = some sv ∧ ixOf sv k fun d => P d ρ1
  | none => False
theorem Own.at {fr g : Hp} {hs : Prts} {ρ : Ev} {σ : St} {H : Hp} {i : Nat} {sv : SV} (W : Own fr g hs ρ σ H) (h : slot ρ i = some sv) : ∃ v, σ[i]? = some (some v) ∧ Rep g sv v (hs i) := W.rep i _ (slot_some h)
theorem dSub_go {K : PySem.W.Frag} {i : Nat} {wb : ET} {σ : St} {H : Hp} {Q : VK} (h : lE (dSub i wb) σ H Q) : tOp (rIx K) (tVar i) (lE wb) σ H Q ∨ tDGet (tVar i) (lE wb) σ H Q := by
  obtain ⟨fr, g, hs, ρ, P, W, h, k⟩ := h
  unfold dSub at h
  cases q : slot ρ i with
  | none =>
    rw [q] at h
    exact h.elim
  | some sv =>
    obtain ⟨v, hv, _⟩ := W.at q
    have seq : (wb ρ fun k ρ1 => ∃ sv, slot ρ1 i = some sv ∧ ixOf sv k fun d => P d ρ1) → tOp (rIx K) (tVar i) (lE wb) σ H Q := fun h => by
      refine ⟨v, hv, fr, g, hs, ρ, _, W, h, fun y ρ1 vy g1 hs1 H1 h1 s1 W1 d1 => ?_⟩
      obtain ⟨sv, e1, h1⟩ := h1
      obtain ⟨v', hv', r⟩ := W1.at e1
      rw [hv] at hv'
      cases hv'
      cases sv with
      | lst a ds =>
        obtain ⟨j, d, ek, ed, h1⟩ := h1
        subst ek
        obtain ⟨ev, vs, ha, ra⟩ := r
        obtain ⟨u, e2, du⟩ := ra.atI ed
        have d1 : vy = .int j := d1
        exact .inl ⟨a, vs, j, u, ev, d1, SqL.of (W1.sh i _ _ ha), e2, k _ _ _ _ _ _ h1 s1 W1 du⟩
      | dat d => exact od_ix K g1 H1 d y _ vy _ Q W1.sg r d1 h1 (W1.out s1 k)
      | dic a kvs => exact h1.elim
      | obj a o => exact h1.elim
    cases sv with
    | dic a kvs =>
      rw [q] at h
      refine .inr ⟨v, hv, fr, g, hs, ρ, _, W, h, fun y ρ1 vy g1 hs1 H1 h1 s1 W1 d1 => ?_⟩
      obtain ⟨a', kvs', key, d, e1, ek, el, h1⟩ := h1
      obtain ⟨ha, vs, hd, _, r⟩ := W1.dic e1
      rw [hv] at ha
      cases ha
      obtain ⟨u, e2, du⟩ := (r.look (k := key)).1 d el
      rw [keyD_kV d1 ek]
      refine ⟨a', u, rfl, ?_, k _ _ _ _ _ _ h1 s1 W1 du⟩
      rw [← e2]
      exact DGet.k hd
    | lst a ds =>
      rw [q] at h
      exact .inl (seq h)
    | dat d =>
      rw [q] at h
      exact .inl (seq h)
    | obj a o =>
      rw [q] at h
      exact .inl (seq h)
section
variable {X : Cx} {b : Expr} {pos p1 : Pos} {wb : ET}
theorem de_sub (i : Nat) {x : Str} (hu : X.A.units + 1 < cLine) (hb : PE X b (lE wb)) (hN : X.N[i]? = some x := by rfl) (hv : Vis X.env.scope x := by first | exact Or.inl rfl | exact Or.inr (Or.inl rfl) | exact Or.inr (Or.inr rfl)) (hd : (x == ("__debug__" : Str)) = false := by decide)
    (hcd : (x == ("__classdict__" : Str)) = false := by decide) (hs : PlainIx b := by exact fun _ _ => rfl) (hn : NoSl b := by exact fun _ _ => rfl) : PE X (.Subscript (.Name x p1) b pos) (lE (dSub i wb)) :=
  pe_imp (pe_alt (pe_ix ix_seq (pe_var (i := i) hN hv hd hcd) hb hs) (pe_dget hu (pe_var (i := i) hN hv hd hcd) hb hn)) fun _ _ _ h => dSub_go h
end
end Fb
namespace Fb
open PySem L2
set_option autoImplicit false
variable [Tb]

/-! ### arguments, displays -/
def dNil (ρ : Ev) (P : List PyData → Ev → Prop) : Prop := P [] ρ
def dCons (w : ET) (wr : EA) (ρ : Ev) (P : List PyData → Ev → Prop) : Prop := w ρ fun d ρ1 => wr ρ1 fun ds ρ2 => P (d :: ds) ρ2
def dTup (w : EA) (ρ : Ev) (P : PyData → Ev → Prop) : Prop := w ρ fun ds ρ1 => ds.length ≤ sizeLine ∧ P (.tuple ds) ρ1
def dLst (w : EA) (ρ : Ev) (P : SV → Ev → Prop) : Prop := w ρ fun ds ρ1 => ds.length ≤ sizeLine ∧ ∀ a, P (.lst a ds) ρ1
def one (a : Addr) (o : HO) : Hp := upd nil a o
theorem one_same {a : Addr} {o : HO} : one a o a = some o := upd_same
theorem one_eq {a b : Addr} {o u : HO} (h : one a o b = some u) : b = a ∧ u = o := by
  by_cases q : b = a
  · subst q
    rw [one_same] at h
    cases h
    exact ⟨rfl, rfl⟩
  · unfold one at h
    rw [upd_ne q] at h
    cases h
theorem Own.apart1 {fr g : Hp} {hs : Prts} {ρ : Ev} {σ : St} {H : Hp} {p : Addr} {o : HO} (W : Own fr g hs ρ σ H) (h : H p = none) (hd : ord o = true := by rfl) : Apart fr g hs (one p o) (upd H p o) :=
  ⟨fun a u e => by
    obtain ⟨rfl, rfl⟩ := one_eq e
    exact upd_same, fun a u e => by
    obtain ⟨rfl, rfl⟩ := one_eq e
    exact ⟨none_of W.sf h, none_of W.sg h, fun i => none_of (W.sh i) h⟩, fun a u e => by
    obtain ⟨rfl, rfl⟩ := one_eq e
    exact hd⟩
/-- what stands apart is frozen -/
theorem Own.absorb {fr g : Hp} {hs : Prts} {ρ : Ev} {σ : St} {H ht : Hp} (W : Own fr g hs ρ σ H) (A : Apart fr g hs ht H) : Own fr (uni g ht) hs ρ σ H := by
  refine ⟨W.len, W.sf, fun a o e => ⟨uni_none (W.df a o e).1 ?_, (W.df a o e).2⟩, fun a o e => ?_, W.sh, fun i a o e => uni_none (W.dg i a o e) ?_, W.dh, fun i sv e => ?_, W.tb, W.nf, fun a o e => (uni_some e).elim (W.ng a o) (A.d a o), W.nh⟩
  · cases q : ht a with
    | none => rfl
    | some u =>
      have z := (A.n a u q).1
      rw [e] at z
      cases z
  · rcases uni_some e with z | z
    · exact W.sg _ _ z
    · exact A.s _ _ z
  · cases q : ht a with
    | none => rfl
    | some u =>
      have z := (A.n a u q).2.2 i
      rw [e] at z
      cases z
  · obtain ⟨v, h1, h2⟩ := W.rep i sv e
    exact ⟨v, h1, h2.mono uni_l⟩
@[simp] def froz : SV → Option PyData
  | .dat d => some d
  | .lst _ ds => some (.list ds)
  | _ => none
theorem Rep.froz {fr g : Hp} {hs : Prts} {ht H : Hp} {r : SV} {v : V} {d : PyData} (A : Apart fr g hs ht H) (h : Rep g r v ht) (e : froz r = some d) : DP (uni g ht) d v := by
  cases r with
  | dat d' =>
    cases e
    exact DP.mono uni_l h
  | lst a ds =>
    cases e
    obtain ⟨ev, vs, k, q⟩ := h
    exact ⟨a, vs, ev, uni_r (fun b o z => (A.n b o z).2.1) _ _ k, q.mono uni_l⟩
  | dic a kvs => cases e
  | obj a o => cases e
def dFroz (w : EO) (ρ : Ev) (P : PyData → Ev → Prop) : Prop := w ρ fun r ρ' => ∃ d, froz r = some d ∧ P d ρ'
section
variable {X : Cx} {e : Expr} {es : List Expr} {pos : Pos}
theorem da_nil : PA X [] (lA dNil) := pa_imp pa_nil fun σ H Q h => by
  obtain ⟨fr, g, hs, ρ, P, W, h, k⟩ := h
  exact k [] ρ [] g hs H h (Same.refl g) W rfl
theorem da_cons {w : ET} {wr : EA} (h : PE X e (lE w)) (hr : PA X es (lA wr)) (hs : starEach (e :: es) X.env = (false, eval e X.env) :: starEach es X.env := by rfl) : PA X (e :: es) (lA (dCons w wr)) :=
  pa_imp (pa_cons h hr hs) fun σ H Q h => by
    obtain ⟨fr, g, hs, ρ, P, W, h, k⟩ := h
    refine ⟨fr, g, hs, ρ, _, W, h, fun d ρ1 v g1 hs1 H1 h1 s1 W1 d1 => ⟨fr, g1, hs1, ρ1, _, W1, h1, fun ds ρ2 vs g2 hs2 H2 h2 s2 W2 d2 => ?_⟩⟩
    exact k _ ρ2 _ g2 hs2 H2 h2 (s1.trans s2) W2 ⟨v, vs, rfl, d1.mono s2, d2⟩
theorem de_tup {w : EA} {x1} (h : PA X es (lA w)) : PE X (.Tuple es x1 pos) (lE (dTup w)) := pe_imp (pe_tup h) fun σ H Q h => by
  obtain ⟨fr, g, hs, ρ, P, W, h, k⟩ := h
  refine ⟨fr, g, hs, ρ, _, W, h, fun ds ρ1 vs g1 hs1 H1 h1 s1 W1 d1 => ⟨by rw [d1.length]; exact h1.1, fun p hp => ?_⟩⟩
  have gp := none_of W1.sg hp
  exact k _ ρ1 _ _ hs1 _ h1.2 (s1.trans (Same.new gp)) (W1.froz hp) ⟨p, vs, rfl, upd_same, d1.mono (Same.new gp)⟩
theorem do_lst {w : EA} (h : PA X es (lA w)) : PE X (.List es pos) (lO (dLst w)) := pe_imp (pe_lst h) fun σ H Q h => by
  obtain ⟨fr, g, hs, ρ, P, W, h, k⟩ := h
  refine ⟨fr, g, hs, ρ, _, W, h, fun ds ρ1 vs g1 hs1 H1 h1 s1 W1 d1 => ⟨by rw [d1.length]; exact h1.1, fun p hp => ?_⟩⟩
  exact k _ ρ1 _ g1 hs1 (one p (.lst vs)) _ (h1.2 p) s1 (W1.grow (Same.new hp)) ⟨rfl, vs, one_same, d1⟩ (W1.apart1 hp)
theorem de_froz {w : EO} (h : PE X e (lO w)) : PE X e (lE (dFroz w)) := pe_imp h fun σ H Q h => by
  obtain ⟨fr, g, hs, ρ, P, W, h, k⟩ := h
  refine ⟨fr, g, hs, ρ, _, W, h, fun r ρ1 v g1 hs1 ht H1 h1 s1 W1 r1 A1 => ?_⟩
  obtain ⟨d, ed, h1⟩ := h1
  exact k d ρ1 v (uni g1 ht) hs1 H1 h1 (s1.trans uni_l) (W1.absorb A1) (r1.froz A1 ed)
end
/-- {} (keys: ints, texts) -/
def dDict0 (ρ : Ev) (P : SV → Ev → Prop) : Prop := ∀ a, P (.dic a []) ρ
theorem do_dict0 {X : Cx} {pos : Pos} : PE X (.Dict [] [] pos) (lO dDict0) := pe_imp pe_dnewK fun σ H Q h => by
  obtain ⟨fr, g, hs, ρ, P, W, h, k⟩ := h
  intro p hp
  exact k _ ρ _ g hs (one p (.dK [])) _ (h p) (Same.refl g) (W.grow (Same.new hp)) ⟨rfl, [], one_same, .none⟩ (W.apart1 hp)

/-! ### calls -/
/-- what a def does: of its arguments, told what it hands back and what its arguments are behind it -/
abbrev FS := List SV → (SV → List SV → Prop) → Prop
def spL (n : Nat) (P : FS) : Sp := fun vs H Q _ => ∃ fr g hs as Pq, as.length = n ∧ Own fr g hs (as.map some) (vs.map some) H ∧ P as Pq ∧
  ∀ r as' v g' hs' ht H', Pq r as' → Same g g' → Own fr g' hs' (as'.map some) (vs.map some) H' → Rep g' r v ht → Apart fr g' hs' ht H' → Q v H'
theorem spL_len {n : Nat} {P : FS} (vs : List V) (H : Hp) (Q : VK) (E : XK) (h : spL n P vs H Q E) : vs.length = n := by
  obtain ⟨fr, g, hs, as, Pq, hl, W, _⟩ := h
  have e := W.len
  rw [List.length_map, List.length_map] at e
  omega
/-- an argument as it came: a slot (an object), or data -/
abbrev AK := List (Sum Nat PyData)
abbrev EK := Ev → (AK → Ev → Prop) → Prop
def ArgIs (g : Hp) (σ : St) (v : V) : Sum Nat PyData → Prop
  | .inl i => σ[i]? = some (some v)
  | .inr d => DP g d v
inductive ArgsAre (g : Hp) (σ : St) : AK → List V → Prop where
  | nil : ArgsAre g σ [] []
  | cons {k : Sum Nat PyData} {v : V} {ks : AK} {vs : List V} : ArgIs g σ v k → ArgsAre g σ ks vs → ArgsAre g σ (k :: ks) (v :: vs)
theorem ArgIs.mono {g g' : Hp} {σ : St} {v : V} (s : Same g g') : ∀ {k : Sum Nat PyData}, ArgIs g σ v k → ArgIs g' σ v k
  | .inl _, h => h
  | .inr _, h => DP.mono s h
theorem ArgsAre.mono {g g' : Hp} {σ : St} (s : Same g g') : ∀ {ks : AK} {vs : List V}, ArgsAre g σ ks vs → ArgsAre g' σ ks vs
  | _, _, .nil => .nil
  | _, _, .cons h t => .cons (h.mono s) (t.mono s)
def lK (w : EK) : TA := fun σ H Q => ∃ fr g hs ρ P, Own fr g hs ρ σ H ∧ w ρ P ∧ ∀ ks ρ' vs g' hs' H', P ks ρ' → Same g g' → Own fr g' hs' ρ' σ H' → ArgsAre g' σ ks vs → Q vs H'
def kNil (ρ : Ev) (P : AK → Ev → Prop) : Prop := P [] ρ
def kObj (i : Nat) (wr : EK) (ρ : Ev) (P : AK → Ev → Prop) : Prop := (∃ sv, slot ρ i = some sv) ∧ wr ρ fun ks ρ1 => P (.inl i :: ks) ρ1
def kDat (w : ET) (wr : EK) (ρ : Ev) (P : AK → Ev → Prop) : Prop := w ρ fun d ρ1 => wr ρ1 fun ks ρ2 => P (.inr d :: ks) ρ2
section
variable {X : Cx} {e : Expr} {es : List Expr} {pos : Pos}
theorem ka_nil : PA X [] (lK kNil) := pa_imp pa_nil fun σ H Q h => by
  obtain ⟨fr, g, hs, ρ, P, W, h, k⟩ := h
  exact k [] ρ [] g hs H h (Same.refl g) W .nil
theorem ka_obj (i : Nat) {x : Str} {wr : EK} (hr : PA X es (lK wr)) (hN : X.N[i]? = some x := by rfl) (hv : Vis X.env.scope x := by first | exact Or.inl rfl | exact Or.inr (Or.inl rfl) | exact Or.inr (Or.inr rfl)) (hd : (x == ("__debug__" : Str)) = false := by decide)
    (hcd : (x == ("__classdict__" : Str)) = false := by decide) (hs : starEach (.Name x pos :: es) X.env = (false, eval (.Name x pos) X.env) :: starEach es X.env := by rfl) : PA X (.Name x pos :: es) (lK (kObj i wr)) :=
  pa_imp (pa_cons (pe_var (i := i) hN hv hd hcd) hr hs) fun σ H Q h => by
    obtain ⟨fr, g, hs, ρ, P, W, h, k⟩ := h
    obtain ⟨⟨sv, e⟩, h⟩ := h
    obtain ⟨v, hv, _⟩ := W.at e
    exact ⟨v, hv, fr, g, hs, ρ, _, W, h, fun ks ρ1 vs g1 hs1 H1 h1 s1 W1 a1 => k _ ρ1 _ g1 hs1 H1 h1 s1 W1 (.cons hv a1)⟩
theorem ka_dat {w : ET} {wr : EK} (h : PE X e (lE w)) (hr : PA X es (lK wr)) (hs : starEach (e :: es) X.env = (false, eval e X.env) :: starEach es X.env := by rfl) : PA X (e :: es) (lK (kDat w wr)) :=
  pa_imp (pa_cons h hr hs) fun σ H Q h => by
    obtain ⟨fr, g, hs, ρ, P, W, h, k⟩ := h
    refine ⟨fr, g, hs, ρ, _, W, h, fun d ρ1 v g1 hs1 H1 h1 s1 W1 d1 => ⟨fr, g1, hs1, ρ1, _, W1, h1, fun ks ρ2 vs g2 hs2 H2 h2 s2 W2 a2 => ?_⟩⟩
    exact k _ ρ2 _ g2 hs2 H2 h2 (s1.trans s2) W2 (.cons (DP.mono s2 d1) a2)
end
@[simp] def withArgs (ρ : Ev) : AK → (List SV → Prop) → Prop
  | [], k => k []
  | .inl i :: r, k => ∃ sv, slot ρ i = some sv ∧ withArgs ρ r fun as => k (sv :: as)
  | .inr d :: r, k => withArgs ρ r fun as => k (.dat d :: as)
@[simp] def hasI : AK → Nat → Bool
  | [], _ => false
  | .inl i :: r, j => Nat.beq i j || hasI r j
  | .inr _ :: r, j => hasI r j
@[simp] def ndB : AK → Bool
  | [] => true
  | .inl i :: r => !hasI r i && ndB r
  | .inr _ :: r => ndB r
def findI : AK → Nat → Option Nat
  | [], _ => none
  | .inl i :: r, j => if i = j then some 0 else (findI r j).map (· + 1)
  | .inr _ :: r, j => (findI r j).map (· + 1)
@[simp] def back : AK → List SV → Ev → Ev
  | .inl i :: r, sv :: as, ρ => back r as (ρ.set i (some sv))
  | .inr _ :: r, _ :: as, ρ => back r as ρ
  | _, _, ρ => ρ
theorem back_len : ∀ (ks : AK) (as : List SV) (ρ : Ev), (back ks as ρ).length = ρ.length
  | [], _, _ => rfl
  | .inl i :: r, [], _ => rfl
  | .inl i :: r, sv :: as, ρ => by
    unfold back
    rw [back_len r as, List.length_set]
  | .inr _ :: r, [], _ => rfl
  | .inr _ :: r, _ :: as, ρ => by
    unfold back
    exact back_len r as ρ
theorem findI_has : ∀ {ks : AK} {j k : Nat}, findI ks j = some k → hasI ks j = true
  | .inl i :: r, j, k, h => by
    unfold findI at h
    unfold hasI
    by_cases q : i = j
    · subst q
      simp
    · rw [if_neg q] at h
      obtain ⟨m, hm, _⟩ := Option.map_eq_some_iff.mp h
      rw [findI_has hm, Bool.or_true]
  | .inr _ :: r, j, k, h => by
    unfold findI at h
    unfold hasI
    obtain ⟨m, hm, _⟩ := Option.map_eq_some_iff.mp h
    exact findI_has hm
theorem findI_at : ∀ {ks : AK} {j k : Nat}, findI ks j = some k → ks[k]? = some (.inl j)
  | .inl i :: r, j, k, h => by
    unfold findI at h
    by_cases q : i = j
    · subst q
      rw [if_pos rfl] at h
      cases h
      rfl
    · rw [if_neg q] at h
      obtain ⟨m, hm, e⟩ := Option.map_eq_some_iff.mp h
      subst e
      rw [List.getElem?_cons_succ]
      exact findI_at hm
  | .inr _ :: r, j, k, h => by
    unfold findI at h
    obtain ⟨m, hm, e⟩ := Option.map_eq_some_iff.mp h
    subst e
    rw [List.getElem?_cons_succ]
    exact findI_at hm
theorem findI_of : ∀ {ks : AK} {j k : Nat}, ndB ks = true → ks[k]? = some (.inl j) → findI ks j = some k
  | [], j, k, _, h => by simp at h
  | .inl i :: r, j, 0, _, h => by
    simp at h
    subst h
    unfold findI
    rw [if_pos rfl]
  | .inl i :: r, j, k + 1, n, h => by
    rw [List.getElem?_cons_succ] at h
    unfold ndB at n
    rw [Bool.and_eq_true] at n
    have ih := findI_of n.2 h
    have q : i ≠ j := fun z => by
      subst z
      rw [findI_has ih] at n
      simp at n
    unfold findI
    rw [if_neg q, ih]
    rfl
  | .inr _ :: r, j, 0, _, h => by simp at h
  | .inr _ :: r, j, k + 1, n, h => by
    rw [List.getElem?_cons_succ] at h
    unfold ndB at n
    unfold findI
    rw [findI_of n h]
    rfl
theorem back_get : ∀ {ks : AK} {as : List SV} {ρ : Ev} {j : Nat} {sv : SV}, ndB ks = true → as.length = ks.length → (back ks as ρ)[j]? = some (some sv) →
    (∃ k, findI ks j = some k ∧ as[k]? = some sv) ∨ (findI ks j = none ∧ ρ[j]? = some (some sv))
  | [], _, _, _, _, _, _, h => .inr ⟨rfl, h⟩
  | _ :: _, [], _, _, _, _, l, _ => by cases l
  | .inl i :: r, s :: t, ρ, j, sv, n, l, h => by
    unfold back at h
    unfold ndB at n
    rw [Bool.and_eq_true] at n
    unfold findI
    rcases back_get n.2 (Nat.succ.inj l) h with ⟨k, h1, h2⟩ | ⟨h1, h2⟩
    · have q : i ≠ j := fun z => by
        subst z
        rw [findI_has h1] at n
        simp at n
      rw [if_neg q, h1]
      exact .inl ⟨k + 1, rfl, by rw [List.getElem?_cons_succ]; exact h2⟩
    · by_cases q : i = j
      · subst q
        by_cases hl : i < ρ.length
        · rw [List.getElem?_set_self hl] at h2
          cases h2
          rw [if_pos rfl]
          exact .inl ⟨0, rfl, rfl⟩
        · rw [List.getElem?_eq_none (by rw [List.length_set]; omega)] at h2
          cases h2
      · rw [List.getElem?_set_ne q] at h2
        rw [if_neg q, h1]
        exact .inr ⟨rfl, h2⟩
  | .inr _ :: r, s :: t, ρ, j, sv, n, l, h => by
    unfold back at h
    unfold ndB at n
    unfold findI
    rcases back_get n (Nat.succ.inj l) h with ⟨k, h1, h2⟩ | ⟨h1, h2⟩
    · rw [h1]
      exact .inl ⟨k + 1, rfl, by rw [List.getElem?_cons_succ]; exact h2⟩
    · rw [h1]
      exact .inr ⟨rfl, h2⟩
theorem withArgs_is {ρ : Ev} : ∀ {ks : AK} {k : List SV → Prop}, withArgs ρ ks k → ∃ as, k as ∧ as.length = ks.length ∧ ∀ (j : Nat) sv, as[j]? = some sv → ∃ x, ks[j]? = some x ∧ ((∃ i, x = .inl i ∧ slot ρ i = some sv) ∨ ∃ d, x = .inr d ∧ sv = .dat d)
  | [], k, h => ⟨[], h, rfl, fun j sv e => by simp at e⟩
  | .inl i :: r, k, h => by
    unfold withArgs at h
    obtain ⟨sv, e, h⟩ := h
    obtain ⟨as, h1, h2, h3⟩ := withArgs_is h
    refine ⟨sv :: as, h1, by rw [List.length_cons, List.length_cons, h2], fun j tv q => ?_⟩
    cases j with
    | zero =>
      simp at q
      subst q
      exact ⟨_, rfl, .inl ⟨i, rfl, e⟩⟩
    | succ j =>
      rw [List.getElem?_cons_succ] at q ⊢
      exact h3 j tv q
  | .inr d :: r, k, h => by
    unfold withArgs at h
    obtain ⟨as, h1, h2, h3⟩ := withArgs_is h
    refine ⟨_ :: as, h1, by rw [List.length_cons, List.length_cons, h2], fun j tv q => ?_⟩
    cases j with
    | zero =>
      simp at q
      subst q
      exact ⟨_, rfl, .inr ⟨d, rfl, rfl⟩⟩
    | succ j =>
      rw [List.getElem?_cons_succ] at q ⊢
      exact h3 j tv q
theorem ArgsAre.length {g : Hp} {σ : St} : ∀ {ks : AK} {vs : List V}, ArgsAre g σ ks vs → vs.length = ks.length
  | _, _, .nil => rfl
  | _, _, .cons _ t => by rw [List.length_cons, List.length_cons, t.length]
theorem ArgsAre.get {g : Hp} {σ : St} : ∀ {ks : AK} {vs : List V} {j : Nat} {k : Sum Nat PyData}, ArgsAre g σ ks vs → ks[j]? = some k → ∃ v, vs[j]? = some v ∧ ArgIs g σ v k
  | _, _, _, _, .nil, e => by simp at e
  | _, _, 0, _, .cons h _, e => by
    simp at e
    subst e
    exact ⟨_, rfl, h⟩
  | _, _, j + 1, _, .cons _ t, e => by
    rw [List.getElem?_cons_succ] at e ⊢
    exact t.get e
/-- parts are handed over, and come back -/
theorem Own.pass {fr g : Hp} {hs : Prts} {ρ : Ev} {σ : St} {H : Hp} {ks : AK} {vs : List V} {as : List SV} (W : Own fr g hs ρ σ H) (n : ndB ks = true) (A : ArgsAre g σ ks vs) (hl : as.length = ks.length)
    (hk : ∀ (j : Nat) sv, as[j]? = some sv → ∃ x, ks[j]? = some x ∧ ((∃ i, x = .inl i ∧ slot ρ i = some sv) ∨ ∃ d, x = .inr d ∧ sv = .dat d)) :
    ∃ frc hsc, Own frc g hsc (as.map some) (vs.map some) H ∧ ∀ g' hs' as' ht H', Same g g' → Own frc g' hs' (as'.map some) (vs.map some) H' → Apart frc g' hs' ht H' →
      ∃ hs2, Own fr g' hs2 (back ks as' ρ) σ H' ∧ Apart fr g' hs2 ht H' := by
  classical
  let ot : Addr → Prop := fun a => ∃ j o, findI ks j = none ∧ hs j a = some o
  let frc : Hp := fun a => if ot a then H a else fr a
  let hsc : Prts := fun k => match ks[k]? with
    | some (.inl i) => hs i
    | _ => nil
  have scl : ∀ k a o, hsc k a = some o → ∃ i, ks[k]? = some (.inl i) ∧ hs i a = some o := fun k a o e => by
    cases q : ks[k]? with
    | none =>
      have e : (match ks[k]? with | some (.inl i) => hs i | _ => nil) a = some o := e
      rw [q] at e
      cases e
    | some x =>
      have e : (match ks[k]? with | some (.inl i) => hs i | _ => nil) a = some o := e
      rw [q] at e
      cases x with
      | inl i => exact ⟨i, rfl, e⟩
      | inr d => cases e
  have frl : ∀ a o, fr a = some o → ¬ ot a := fun a o e z => by
    obtain ⟨j, u, _, z⟩ := z
    rw [(W.df a o e).2 j] at z
    cases z
  have frS : ∀ {a o}, frc a = some o → (ot a ∧ H a = some o) ∨ fr a = some o := fun {a o} e => by
    by_cases q : ot a
    · have e : (if ot a then H a else fr a) = some o := e
      rw [if_pos q] at e
      exact .inl ⟨q, e⟩
    · have e : (if ot a then H a else fr a) = some o := e
      rw [if_neg q] at e
      exact .inr e
  have frF : ∀ {a o}, fr a = some o → frc a = some o := fun {a o} e => by
    show (if ot a then H a else fr a) = some o
    rw [if_neg (frl a o e)]
    exact e
  have frO : ∀ {j a o}, findI ks j = none → hs j a = some o → frc a = some o := fun {j a o} q e => by
    show (if ot a then H a else fr a) = some o
    rw [if_pos ⟨j, o, q, e⟩]
    exact W.sh j _ _ e
  refine ⟨frc, hsc, ⟨?_, fun a o e => ?_, fun a o e => ?_, W.sg, fun k a o e => ?_, fun k a o e => ?_, fun k l a o kl e => ?_, fun k sv e => ?_, W.tb, fun a o e => (frS e).elim (fun z => by
    obtain ⟨⟨j, u, _, z1⟩, z2⟩ := z
    have y := W.sh j _ _ z1
    rw [z2] at y
    cases y
    exact W.nh j a _ z1) (W.nf a o), W.ng, fun k a o e => by
    obtain ⟨i, _, e2⟩ := scl k a o e
    exact W.nh i a o e2⟩, fun g' hs' as' ht H' s W' A' => ?_⟩
  · rw [List.length_map, List.length_map, A.length, hl]
  · rcases frS e with ⟨_, z⟩ | z
    · exact z
    · exact W.sf _ _ z
  · rcases frS e with ⟨⟨j, u, q, z⟩, _⟩ | z
    · refine ⟨W.dg j a u z, fun k => ?_⟩
      cases q2 : hsc k a with
      | none => rfl
      | some u2 =>
        obtain ⟨i, e1, e2⟩ := scl k a u2 q2
        have ne : j ≠ i := fun z => by
          subst z
          rw [findI_of n e1] at q
          cases q
        rw [W.dh j i a u ne z] at e2
        cases e2
    · refine ⟨(W.df a o z).1, fun k => ?_⟩
      cases q2 : hsc k a with
      | none => rfl
      | some u2 =>
        obtain ⟨i, e1, e2⟩ := scl k a u2 q2
        rw [(W.df a o z).2 i] at e2
        cases e2
  · obtain ⟨i, _, e2⟩ := scl k a o e
    exact W.sh i _ _ e2
  · obtain ⟨i, _, e2⟩ := scl k a o e
    exact W.dg i a o e2
  · obtain ⟨i, e1, e2⟩ := scl k a o e
    cases q2 : hsc l a with
    | none => rfl
    | some u2 =>
      obtain ⟨j, e3, e4⟩ := scl l a u2 q2
      have ne : i ≠ j := fun z => by
        subst z
        have z1 := findI_of n e1
        rw [findI_of n e3] at z1
        cases z1
        exact kl rfl
      rw [W.dh i j a o ne e2] at e4
      cases e4
  · have e' : as[k]? = some sv := by
      rw [List.getElem?_map] at e
      cases q : as[k]? with
      | none =>
        rw [q] at e
        cases e
      | some z =>
        rw [q] at e
        cases e
        rfl
    obtain ⟨x, hx, hk⟩ := hk k sv e'
    obtain ⟨v, hv, av⟩ := A.get hx
    refine ⟨v, by rw [List.getElem?_map, hv]; rfl, ?_⟩
    rcases hk with ⟨i, rfl, es⟩ | ⟨d, rfl, rfl⟩
    · obtain ⟨v', h1, h2⟩ := W.at es
      have av : σ[i]? = some (some v) := av
      rw [av] at h1
      cases h1
      have ec : hsc k = hs i := by
        show (match ks[k]? with | some (.inl i) => hs i | _ => nil) = hs i
        rw [hx]
      rw [ec]
      exact h2
    · exact av
  · let hs2 : Prts := fun j => match findI ks j with
      | some k => hs' k
      | none => hs j
    have l' : as'.length = ks.length := by
      have e := W'.len
      rw [List.length_map, List.length_map, A.length] at e
      exact e
    have sS : ∀ {j k}, findI ks j = some k → hs2 j = hs' k := fun {j k} q => by
      show (match findI ks j with | some k => hs' k | none => hs j) = hs' k
      rw [q]
    have sN : ∀ {j}, findI ks j = none → hs2 j = hs j := fun {j} q => by
      show (match findI ks j with | some k => hs' k | none => hs j) = hs j
      rw [q]
    have dN : ∀ {a o j}, frc a = some o → (findI ks j = none → hs j a = none) → hs2 j a = none := fun {a o j} e z => by
      cases q : findI ks j with
      | none => rw [sN q]; exact z q
      | some k => rw [sS q]; exact (W'.df a o e).2 k
    refine ⟨hs2, ⟨by rw [back_len]; exact W.len, fun a o e => W'.sf _ _ (frF e), fun a o e => ⟨(W'.df a o (frF e)).1, fun j => dN (frF e) fun _ => (W.df a o e).2 j⟩, W'.sg, fun j => ?_, fun j a o e => ?_, fun j l a o jl e => ?_, fun j sv e => ?_, W'.tb, fun a o e => W'.nf a o (frF e), W'.ng, fun j a o e => by
      cases q : findI ks j with
      | none =>
        rw [sN q] at e
        exact W.nh j a o e
      | some k =>
        rw [sS q] at e
        exact W'.nh k a o e⟩, A'.s, fun a o e => ?_, A'.d⟩
    · cases q : findI ks j with
      | none =>
        rw [sN q]
        exact fun a o e => W'.sf _ _ (frO q e)
      | some k =>
        rw [sS q]
        exact W'.sh k
    · cases q : findI ks j with
      | none =>
        rw [sN q] at e
        exact (W'.df a o (frO q e)).1
      | some k =>
        rw [sS q] at e
        exact W'.dg k a o e
    · cases q : findI ks j with
      | none =>
        rw [sN q] at e
        exact dN (frO q e) fun _ => W.dh j l a o jl e
      | some k =>
        rw [sS q] at e
        cases q2 : findI ks l with
        | none =>
          rw [sN q2]
          cases z : hs l a with
          | none => rfl
          | some u =>
            have z2 := (W'.df a u (frO q2 z)).2 k
            rw [e] at z2
            cases z2
        | some m =>
          rw [sS q2]
          refine W'.dh k m a o (fun z => ?_) e
          subst z
          have z1 := findI_at q
          rw [findI_at q2] at z1
          cases z1
          exact jl rfl
    · rcases back_get n l' e with ⟨k, q, e2⟩ | ⟨q, e2⟩
      · rw [sS q]
        obtain ⟨v, h1, h2⟩ := W'.rep k sv (by rw [List.getElem?_map, e2]; rfl)
        obtain ⟨v', h3, h4⟩ := A.get (findI_at q)
        rw [List.getElem?_map, h3] at h1
        cases h1
        exact ⟨v, h4, h2⟩
      · rw [sN q]
        obtain ⟨v, h1, h2⟩ := W.rep j sv e2
        exact ⟨v, h1, h2.mono s⟩
    · obtain ⟨h1, h2, h3⟩ := A'.n a o e
      refine ⟨?_, h2, fun j => ?_⟩
      · cases q : fr a with
        | none => rfl
        | some u =>
          rw [frF q] at h1
          cases h1
      · cases q : findI ks j with
        | none =>
          rw [sN q]
          cases z : hs j a with
          | none => rfl
          | some u =>
            rw [frO q z] at h1
            cases h1
        | some k => rw [sS q]; exact h3 k
def dCall (P : FS) (w : EK) : EO := fun ρ Q => w ρ fun ks ρ1 => ndB ks = true ∧ withArgs ρ1 ks fun as => P as fun r as' => Q r (back ks as' ρ1)
theorem lO_call {n : Nat} {P : FS} {w : EK} {σ : St} {H : Hp} {Q : VK} (h : lO (dCall P w) σ H Q) (E : XK) (hn : ∀ as Pq, P as Pq → as.length = n) : lK w σ H fun vs H1 => spL n P (vs ++ []) H1 Q E := by
  obtain ⟨fr, g, hs, ρ, Pq, W, h, k⟩ := h
  refine ⟨fr, g, hs, ρ, _, W, h, fun ks ρ1 vs g1 hs1 H1 h1 s1 W1 A1 => ?_⟩
  obtain ⟨nd, h1⟩ := h1
  obtain ⟨as, h1, hl, hk⟩ := withArgs_is h1
  obtain ⟨frc, hsc, Wc, bk⟩ := W1.pass nd A1 hl hk
  rw [List.append_nil]
  refine ⟨frc, g1, hsc, as, _, hn as _ h1, Wc, h1, fun r as' v g' hs' ht H' hq s' W' r' A' => ?_⟩
  obtain ⟨hs2, W2, A2⟩ := bk g' hs' as' ht H' s' W' A'
  exact k r _ v g' hs2 ht H' hq (s1.trans s') W2 r' A2
end Fb
namespace Fb
open PySem L2
set_option autoImplicit false
variable [Tb]

/-! ### what is raised -/
/-- a refusal: its class's name, its number -/
structure Rf where
  cls : Str
  num : Option (Str × Int) := none
/-- an exception in the air: its class, its own dict -/
def Throws (K : PySem.W.Frag) (x : Rf) (cls : Value) (d : Option Addr) (H : Hp) : Prop := cls = .ref (He.ga K x.cls) ∧ match x.num with
  | none => d = none
  | some (f, n) => ∃ dx fs, d = some dx ∧ H dx = some (.xd fs) ∧ fs.lookup f = some (.int n)

/-! ### statements -/
structure Edn where
  nx : Ev → Prop
  rt : SV → Ev → Prop
  bk : Ev → Prop := fun _ => False
  ct : Ev → Prop := fun _ => False
  rx : Rf → Ev → Prop := fun _ _ => False
abbrev SE := Edn → Ev → Prop
structure Meets (K : PySem.W.Frag) (E : XK) (fr g : Hp) (T : Edn) (D : Ends) : Prop where
  nx : ∀ ρ' σ' g' hs' H', T.nx ρ' → Same g g' → Own fr g' hs' ρ' σ' H' → D.nx σ' H'
  rt : ∀ r ρ' σ' v g' hs' ht H', T.rt r ρ' → Same g g' → Own fr g' hs' ρ' σ' H' → Rep g' r v ht → Apart fr g' hs' ht H' → D.rt v H'
  bk : ∀ ρ' σ' g' hs' H', T.bk ρ' → Same g g' → Own fr g' hs' ρ' σ' H' → D.bk σ' H'
  ct : ∀ ρ' σ' g' hs' H', T.ct ρ' → Same g g' → Own fr g' hs' ρ' σ' H' → D.ct σ' H'
  rx : ∀ x ρ' σ' cls d g' hs' H', T.rx x ρ' → Same g g' → Own fr g' hs' ρ' σ' H' → Throws K x cls d H' → E cls d H'
theorem Meets.mono {K : PySem.W.Frag} {E : XK} {fr g g' : Hp} {T : Edn} {D : Ends} (m : Meets K E fr g T D) (s : Same g g') : Meets K E fr g' T D :=
  ⟨fun ρ' σ' g2 hs' H' h s' => m.nx ρ' σ' g2 hs' H' h (s.trans s'), fun r ρ' σ' v g2 hs' ht H' h s' => m.rt r ρ' σ' v g2 hs' ht H' h (s.trans s'), fun ρ' σ' g2 hs' H' h s' => m.bk ρ' σ' g2 hs' H' h (s.trans s'),
    fun ρ' σ' g2 hs' H' h s' => m.ct ρ' σ' g2 hs' H' h (s.trans s'), fun x ρ' σ' cls d g2 hs' H' h s' => m.rx x ρ' σ' cls d g2 hs' H' h (s.trans s')⟩
def lS (K : PySem.W.Frag) (E : XK) (w : SE) : TS := fun D σ H => ∃ fr g hs ρ T, Own fr g hs ρ σ H ∧ w T ρ ∧ Meets K E fr g T D
def dSeq (w u : SE) (T : Edn) (ρ : Ev) : Prop := w { T with nx := u T } ρ
def dSkip (T : Edn) (ρ : Ev) : Prop := T.nx ρ
section
variable {X : Cx} {K : PySem.W.Frag} {E : XK} {st : Stmt} {rest : List Stmt} {pos : Pos} {e : Expr}
theorem dss_nil : PSs X [] (lS K E dSkip) := pss_imp pss_nil fun D σ H h => by
  obtain ⟨fr, g, hs, ρ, T, W, h, m⟩ := h
  exact m.nx ρ σ g hs H h (Same.refl g) W
theorem dss_one {w : SE} (h : PS X st (lS K E w)) : PSs X [st] (lS K E w) := pss_one h
theorem dss_cons {w u : SE} (h : PS X st (lS K E w)) (h2 : PSs X rest (lS K E u)) : PSs X (st :: rest) (lS K E (dSeq w u)) := pss_imp (pss_cons h h2) fun D σ H h => by
  obtain ⟨fr, g, hs, ρ, T, W, h, m⟩ := h
  exact ⟨fr, g, hs, ρ, _, W, h, fun ρ' σ' g' hs' H' h' s' W' => ⟨fr, g', hs', ρ', T, W', h', m.mono s'⟩, m.rt, m.bk, m.ct, m.rx⟩
theorem ds_pass : PS X (.Pass pos) (lS K E dSkip) := ps_imp ps_pass fun D σ H h => by
  obtain ⟨fr, g, hs, ρ, T, W, h, m⟩ := h
  exact m.nx ρ σ g hs H h (Same.refl g) W
theorem ds_doc {x : Str} {j : Nat} {pos' : Pos} : PS X (.Expr (.Constant (.str x) j pos) pos') (lS K E dSkip) := ps_imp ps_doc fun D σ H h => by
  obtain ⟨fr, g, hs, ρ, T, W, h, m⟩ := h
  exact m.nx ρ σ g hs H h (Same.refl g) W
def dBrk : SE := fun T ρ => T.bk ρ
def dCnt : SE := fun T ρ => T.ct ρ
/-- an expression alone -/
def dExp (w : EO) (T : Edn) (ρ : Ev) : Prop := w ρ fun _ ρ' => T.nx ρ'
theorem ds_exp {w : EO} (h : PE X e (lO w)) (hs : swapsWith e none pos.line X.env = pure false := by rfl) : PS X (.Expr e pos) (lS K E (dExp w)) := ps_imp (ps_expr h hs) fun D σ H h => by
  obtain ⟨fr, g, hs, ρ, T, W, h, m⟩ := h
  exact ⟨fr, g, hs, ρ, _, W, h, fun r ρ' v g' hs' ht H' h' s' W' _ _ => m.nx ρ' σ g' hs' H' h' s' W'⟩
/-- name = data; name = a new object -/
def dSet (i : Nat) (w : ET) (T : Edn) (ρ : Ev) : Prop := w ρ fun d ρ' => T.nx (ρ'.set i (some (.dat d)))
def dSetO (i : Nat) (w : EO) (T : Edn) (ρ : Ev) : Prop := w ρ fun r ρ' => T.nx (ρ'.set i (some r))
theorem ds_set (i : Nat) {x : Str} {w : ET} {pos' : Pos} (he : PE X e (lE w)) (hN : X.N.Nodup) (hi : X.N[i]? = some x := by rfl) (hx : Loc X.env.scope x := by first | exact Or.inl rfl | exact Or.inr rfl)
    (hs : swapsWith e (some (.Name x pos')) pos.line X.env = pure false := by rfl) (hf : X.fn x = true ∨ X.env.scope.names.lookup x = some .local := by first | exact .inl rfl | exact .inr rfl | assumption) : PS X (.Assign [.Name x pos'] e pos) (lS K E (dSet i w)) :=
  ps_imp (ps_set hN hi hx he hs hf) fun D σ H h => by
    obtain ⟨fr, g, hs, ρ, T, W, h, m⟩ := h
    exact ⟨fr, g, hs, ρ, _, W, h, fun d ρ' v g' hs' H' h' s' W' d' => m.nx _ _ g' hs' H' h' s' (W'.setD d')⟩
theorem Own.setO {fr g : Hp} {hs : Prts} {ρ : Ev} {σ : St} {H ht : Hp} {i : Nat} {r : SV} {v : V} (W : Own fr g hs ρ σ H) (R : Rep g r v ht) (A : Apart fr g hs ht H) : Own fr g (setH hs i ht) (ρ.set i (some r)) (σ.set i (some v)) H := by
  have fr0 : ∀ a o, fr a = some o → ht a = none := fun a o e => by
    cases q : ht a with
    | none => rfl
    | some u =>
      have z := (A.n a u q).1
      rw [e] at z
      cases z
  have hs0 : ∀ j a o, hs j a = some o → ht a = none := fun j a o e => by
    cases q : ht a with
    | none => rfl
    | some u =>
      have z := (A.n a u q).2.2 j
      rw [e] at z
      cases z
  refine ⟨by rw [List.length_set, List.length_set]; exact W.len, W.sf, fun a o e => ⟨(W.df a o e).1, fun j => ?_⟩, W.sg, fun j => ?_, fun j a u e => ?_, fun j l a u jl e => ?_, fun j tv e => ?_, W.tb, W.nf, W.ng, fun j a u e => by
    by_cases q : j = i
    · rw [q, setH_same] at e
      exact A.d a u e
    · rw [setH_ne q] at e
      exact W.nh j a u e⟩
  · by_cases q : j = i
    · rw [q, setH_same]
      exact fr0 a o e
    · rw [setH_ne q]
      exact (W.df a o e).2 j
  · by_cases q : j = i
    · rw [q, setH_same]
      exact A.s
    · rw [setH_ne q]
      exact W.sh j
  · by_cases q : j = i
    · rw [q, setH_same] at e
      exact (A.n a u e).2.1
    · rw [setH_ne q] at e
      exact W.dg j a u e
  · by_cases q : j = i
    · rw [q, setH_same] at e
      have ql : l ≠ i := fun z => jl (q.trans z.symm)
      rw [setH_ne ql]
      exact (A.n a u e).2.2 l
    · rw [setH_ne q] at e
      by_cases ql : l = i
      · rw [ql, setH_same]
        exact hs0 j a u e
      · rw [setH_ne ql]
        exact W.dh j l a u jl e
  · by_cases q : j = i
    · subst q
      by_cases l : j < ρ.length
      · rw [List.getElem?_set_self l] at e
        cases e
        exact ⟨v, by rw [List.getElem?_set_self (by rw [← W.len]; exact l)], by rw [setH_same]; exact R⟩
      · rw [List.getElem?_eq_none (by rw [List.length_set]; omega)] at e
        cases e
    · rw [List.getElem?_set_ne (Ne.symm q)] at e
      obtain ⟨u, h1, h2⟩ := W.rep j tv e
      exact ⟨u, by rw [List.getElem?_set_ne (Ne.symm q)]; exact h1, by rw [setH_ne q]; exact h2⟩
theorem ds_setO (i : Nat) {x : Str} {w : EO} {pos' : Pos} (he : PE X e (lO w)) (hN : X.N.Nodup) (hi : X.N[i]? = some x := by rfl) (hx : Loc X.env.scope x := by first | exact Or.inl rfl | exact Or.inr rfl)
    (hs : swapsWith e (some (.Name x pos')) pos.line X.env = pure false := by rfl) (hf : X.fn x = true ∨ X.env.scope.names.lookup x = some .local := by first | exact .inl rfl | exact .inr rfl | assumption) : PS X (.Assign [.Name x pos'] e pos) (lS K E (dSetO i w)) :=
  ps_imp (ps_set hN hi hx he hs hf) fun D σ H h => by
    obtain ⟨fr, g, hs, ρ, T, W, h, m⟩ := h
    exact ⟨fr, g, hs, ρ, _, W, h, fun r ρ' v g' hs' ht H' h' s' W' r' A' => m.nx _ _ g' _ H' h' s' (W'.setO r' A')⟩
/-- return -/
def dRet (w : ET) (T : Edn) (ρ : Ev) : Prop := w ρ fun d ρ' => T.rt (.dat d) ρ'
def dRetO (w : EO) (T : Edn) (ρ : Ev) : Prop := w ρ fun r ρ' => T.rt r ρ'
def dRetN (T : Edn) (ρ : Ev) : Prop := T.rt (.dat .none) ρ
theorem apart_nil {fr g : Hp} {hs : Prts} {H : Hp} : Apart fr g hs nil H := ⟨fun _ _ e => (by cases e), fun _ _ e => (by cases e), fun _ _ e => (by cases e)⟩
theorem ds_ret {w : ET} (he : PE X e (lE w)) : PS X (.Return (some e) pos) (lS K E (dRet w)) := ps_imp (ps_ret he) fun D σ H h => by
  obtain ⟨fr, g, hs, ρ, T, W, h, m⟩ := h
  exact ⟨fr, g, hs, ρ, _, W, h, fun d ρ' v g' hs' H' h' s' W' d' => m.rt _ ρ' σ v g' hs' nil H' h' s' W' d' apart_nil⟩
theorem ds_retO {w : EO} (he : PE X e (lO w)) : PS X (.Return (some e) pos) (lS K E (dRetO w)) := ps_imp (ps_ret he) fun D σ H h => by
  obtain ⟨fr, g, hs, ρ, T, W, h, m⟩ := h
  exact ⟨fr, g, hs, ρ, _, W, h, fun r ρ' v g' hs' ht H' h' s' W' r' A' => m.rt _ ρ' σ v g' hs' ht H' h' s' W' r' A'⟩
theorem ds_retN : PS X (.Return none pos) (lS K E dRetN) := ps_imp ps_retN fun D σ H h => by
  obtain ⟨fr, g, hs, ρ, T, W, h, m⟩ := h
  exact m.rt _ ρ σ .non g hs nil H h (Same.refl g) W rfl apart_nil
/-- a name's own object handed out -/
def dTake (i : Nat) (ρ : Ev) (P : SV → Ev → Prop) : Prop := ∃ sv, slot ρ i = some sv ∧ P sv (ρ.set i none)
theorem Own.take {fr g : Hp} {hs : Prts} {ρ : Ev} {σ : St} {H : Hp} (W : Own fr g hs ρ σ H) (i : Nat) : Own fr g (setH hs i nil) (ρ.set i none) σ H ∧ Apart fr g (setH hs i nil) (hs i) H := by
  refine ⟨⟨by rw [List.length_set]; exact W.len, W.sf, fun a o e => ⟨(W.df a o e).1, fun j => ?_⟩, W.sg, fun j => ?_, fun j a u e => ?_, fun j l a u jl e => ?_, fun j tv e => ?_, W.tb, W.nf, W.ng, fun j a u e => by
    by_cases q : j = i
    · rw [q, setH_same] at e
      cases e
    · rw [setH_ne q] at e
      exact W.nh j a u e⟩, W.sh i, fun a u e => ⟨?_, W.dg i a u e, fun j => ?_⟩, W.nh i⟩
  · by_cases q : j = i
    · rw [q, setH_same]
      rfl
    · rw [setH_ne q]
      exact (W.df a o e).2 j
  · by_cases q : j = i
    · rw [q, setH_same]
      exact fun a u e => by cases e
    · rw [setH_ne q]
      exact W.sh j
  · by_cases q : j = i
    · rw [q, setH_same] at e
      cases e
    · rw [setH_ne q] at e
      exact W.dg j a u e
  · by_cases q : j = i
    · rw [q, setH_same] at e
      cases e
    · rw [setH_ne q] at e
      by_cases ql : l = i
      · rw [ql, setH_same]
        rfl
      · rw [setH_ne ql]
        exact W.dh j l a u jl e
  · by_cases q : j = i
    · subst q
      by_cases l : j < ρ.length
      · rw [List.getElem?_set_self l] at e
        cases e
      · rw [List.getElem?_eq_none (by rw [List.length_set]; omega)] at e
        cases e
    · rw [List.getElem?_set_ne (Ne.symm q)] at e
      obtain ⟨u, h1, h2⟩ := W.rep j tv e
      exact ⟨u, h1, by rw [setH_ne q]; exact h2⟩
  · cases q : fr a with
    | none => rfl
    | some u2 =>
      rw [(W.df a u2 q).2 i] at e
      cases e
  · by_cases q : j = i
    · rw [q, setH_same]
      rfl
    · rw [setH_ne q]
      exact W.dh i j a u (Ne.symm q) e
theorem do_take (i : Nat) {x : Str} (hN : X.N[i]? = some x := by rfl) (hv : Vis X.env.scope x := by first | exact Or.inl rfl | exact Or.inr (Or.inl rfl) | exact Or.inr (Or.inr rfl)) (hd : (x == ("__debug__" : Str)) = false := by decide)
    (hcd : (x == ("__classdict__" : Str)) = false := by decide) : PE X (.Name x pos) (lO (dTake i)) := pe_imp (pe_var (i := i) hN hv hd hcd) fun σ H Q h => by
  obtain ⟨fr, g, hs, ρ, P, W, h, k⟩ := h
  obtain ⟨sv, e, h⟩ := h
  obtain ⟨v, h1, h2⟩ := W.at e
  obtain ⟨W', A'⟩ := W.take i
  exact ⟨v, h1, k sv _ v g _ _ H h (Same.refl g) W' h2 A'⟩
def dIf (t : ETb) (w u : SE) (T : Edn) (ρ : Ev) : Prop := t ρ fun b ρ' => if b = true then w T ρ' else u T ρ'
theorem ds_if {c : Expr} {a b : List Stmt} {t : ETb} {w u : SE} (hc : PT X c (lT t)) (ha : PSs X a (lS K E w)) (hb : PSs X b (lS K E u)) : PS X (.If c a b pos) (lS K E (dIf t w u)) := ps_imp (ps_if hc ha hb) fun D σ H h => by
  obtain ⟨fr, g, hs, ρ, T, W, h, m⟩ := h
  refine ⟨fr, g, hs, ρ, _, W, h, fun b ρ' g' hs' H' h' s' W' => ?_⟩
  cases b with
  | true => exact ⟨fr, g', hs', ρ', T, W', h', m.mono s'⟩
  | false => exact ⟨fr, g', hs', ρ', T, W', h', m.mono s'⟩
/-- a statement that is never reached -/
theorem ds_never : PS X st (lS K E fun _ _ => False) := ps_imp ps_never fun D σ H h => by
  obtain ⟨fr, g, hs, ρ, T, W, h, m⟩ := h
  exact h.elim
/-- a statement read by hand -/
def dRaw (t : TS) (φ : SE) : SE := φ
theorem ds_raw {t : TS} {φ : SE} (h : PS X st t) (k : ∀ fr g hs ρ T D σ H, Own fr g hs ρ σ H → φ T ρ → Meets K E fr g T D → t D σ H) : PS X st (lS K E φ) := ps_imp h fun D σ H h => by
  obtain ⟨fr, g, hs, ρ, T, W, h, m⟩ := h
  exact k fr g hs ρ T D σ H W h m
end

/-! ### stores into own lists and dicts -/
/-- a slot's own object o at a becomes o' -/
theorem Own.store {fr g : Hp} {hs : Prts} {ρ : Ev} {σ : St} {H : Hp} {i : Nat} {a : Addr} {o o' : HO} {sv : SV} (W : Own fr g hs ρ σ H) (ho : hs i a = some o) (hv : σ[i]? = some (some (.ref a))) (r : Rep g sv (.ref a) (upd (hs i) a o')) (hd : ord o' = true := by rfl) :
    Own fr g (setH hs i (upd (hs i) a o')) (ρ.set i (some sv)) σ (upd H a o') := by
  refine W.chg (fun b u e => ?_) (fun b u e n => ?_) (fun b u e => ?_) hv ⟨_, rfl, r⟩ (fun b u e => ?_)
  · by_cases q : b = a
    · rw [q, upd_same] at e ⊢
      exact e
    · rw [upd_ne q] at e ⊢
      exact W.sh i _ _ e
  · have q : b ≠ a := fun z => by
      rw [z, ho] at n
      cases n
    rw [upd_ne q]
    exact e
  · by_cases q : b = a
    · rw [q]
      exact .inl ⟨o, ho⟩
    · rw [upd_ne q] at e
      exact .inl ⟨u, e⟩
  · by_cases q : b = a
    · rw [q, upd_same] at e
      cases e
      exact hd
    · rw [upd_ne q] at e
      exact W.nh i b u e
theorem Own.lsto {fr g : Hp} {hs : Prts} {ρ : Ev} {σ : St} {H : Hp} {i : Nat} {a : Addr} {ds : List PyData} (W : Own fr g hs ρ σ H) (h : slot ρ i = some (.lst a ds)) :
    σ[i]? = some (some (.ref a)) ∧ ∃ vs, H a = some (.lst vs) ∧ hs i a = some (.lst vs) ∧ DPs g ds vs := by
  obtain ⟨v, h1, ev, vs, k, r⟩ := W.at h
  exact ⟨by rw [h1, ev], vs, W.sh i _ _ k, k, r⟩
/-- a method of a name's own list -/
abbrev LF := List PyData → List PyData → (PyData → List PyData → Prop) → Prop
def LM (r : V → List V → Hp → VK → Prop) (f : LF) : Prop := ∀ g H a ds vs args us k Q, Same g H → H a = some (.lst vs) → DPs g ds vs → DPs g args us → f ds args k →
  (∀ res ds' v vs', k res ds' → DP g res v → DPs g ds' vs' → Q v (upd H a (.lst vs'))) → r (.ref a) us H Q
def dLM (f : LF) (i : Nat) (w : EA) (ρ : Ev) (P : PyData → Ev → Prop) : Prop := (∃ a ds, slot ρ i = some (.lst a ds)) ∧ w ρ fun args ρ1 => ∃ a ds, slot ρ1 i = some (.lst a ds) ∧ f ds args fun res ds' => P res (ρ1.set i (some (.lst a ds')))
@[simp] def fApp : LF := fun ds args k => ∃ d, args = [d] ∧ ds.length < sizeLine ∧ k .none (ds ++ [d])
@[simp] def fPop : LF := fun ds args k => ∃ (j : Int) (n : Nat) (d : PyData), args = [.int j] ∧ -(2 ^ 63) ≤ j ∧ j < 2 ^ 63 ∧ seqIndex? j ds.length = some n ∧ ds[n]? = some d ∧ k d (ds.eraseIdx n)
@[simp] def fExt : LF := fun ds args k => ∃ es, args = [.list es] ∧ ds.length + es.length ≤ sizeLine ∧ k .none (ds ++ es)
theorem dps_one {g : Hp} {d : PyData} {us : List V} (h : DPs g [d] us) : ∃ v, us = [v] ∧ DP g d v := by
  obtain ⟨v, r, e, dv, t⟩ := h
  have t : r = [] := t
  subst t
  exact ⟨v, e, dv⟩
theorem lm_app : LM rAppend fApp := fun g H a ds vs args us k Q s ha r ra h q => by
  obtain ⟨d, e, hl, h⟩ := h
  subst e
  obtain ⟨v, e, dv⟩ := dps_one ra
  exact ⟨a, vs, v, rfl, e, ha, by rw [r.length]; exact hl, q _ _ .non _ h rfl (r.snoc dv)⟩
theorem lm_pop : LM rPopAt fPop := fun g H a ds vs args us k Q s ha r ra h q => by
  obtain ⟨j, n, d, e, h1, h2, h3, h4, h⟩ := h
  subst e
  obtain ⟨v, e, dv⟩ := dps_one ra
  have dv : v = .int j := dv
  obtain ⟨u, hu, du⟩ := r.get h4
  exact ⟨a, vs, j, n, u, rfl, by rw [e, dv], ha, h1, h2, by rw [r.length]; exact h3, hu, q _ _ u _ h du (r.eraseIdx n)⟩
theorem lm_ext : LM rExtend fExt := fun g H a ds vs args us k Q s ha r ra h q => by
  obtain ⟨es, e, hl, h⟩ := h
  subst e
  obtain ⟨v, e, dv⟩ := dps_one ra
  obtain ⟨b, zs, ev, hb, rz⟩ := dv
  exact ⟨a, b, vs, zs, rfl, by rw [e, ev], ha, s _ _ hb, by rw [r.length, rz.length]; exact hl, q _ _ .non _ h rfl (r.append rz)⟩
/-- an expression alone, its value dropped -/
def dExpE (w : ET) (T : Edn) (ρ : Ev) : Prop := w ρ fun _ ρ' => T.nx ρ'
/-- name[k] = e: a dict, a list -/
def dPut (i : Nat) (wk wv : ET) (T : Edn) (ρ : Ev) : Prop := (∃ sv, slot ρ i = some sv) ∧ wv ρ fun d ρ1 => wk ρ1 fun k ρ2 => ∃ a kvs key, slot ρ2 i = some (.dic a kvs) ∧ keyD k = some key ∧ kvs.length < sizeLine ∧ T.nx (ρ2.set i (some (.dic a (putD kvs key d))))
def dPutL (i : Nat) (wk wv : ET) (T : Edn) (ρ : Ev) : Prop := (∃ sv, slot ρ i = some sv) ∧ wv ρ fun d ρ1 => wk ρ1 fun k ρ2 => ∃ a ds j n, slot ρ2 i = some (.lst a ds) ∧ k = .int j ∧ ixN ds.length j = some n ∧ T.nx (ρ2.set i (some (.lst a (ds.set n d))))
/-- name[k] += e, -= e (a dict of numbers) -/
def dAugD (f : Int → Int → Int) (i : Nat) (wk wv : ET) (T : Edn) (ρ : Ev) : Prop := (∃ sv, slot ρ i = some sv) ∧ wk ρ fun k ρ1 => ∃ a kvs key m, slot ρ1 i = some (.dic a kvs) ∧ keyD k = some key ∧ lookD kvs key = some (.int m) ∧
  wv ρ1 fun d ρ2 => ∃ n, d = .int n ∧ ∃ kvs2, slot ρ2 i = some (.dic a kvs2) ∧ kvs2.length < sizeLine ∧ T.nx (ρ2.set i (some (.dic a (putD kvs2 key (.int (f m n))))))
/-- name += e, -= e (numbers) -/
def dAug (f : Int → Int → Int) (i : Nat) (w : ET) (T : Edn) (ρ : Ev) : Prop := ∃ m, slot ρ i = some (.dat (.int m)) ∧ w ρ fun d ρ1 => ∃ n, d = .int n ∧ T.nx (ρ1.set i (some (.dat (.int (f m n)))))
section
variable {X : Cx} {K : PySem.W.Frag} {E : XK} {pos p1 p2 p3 apos cpos : Pos} {e k : Expr} {es : List Expr} {w wk wv : ET} {x : Str}
theorem ds_expE {w : ET} (h : PE X e (lE w)) (hs : swapsWith e none pos.line X.env = pure false := by rfl) : PS X (.Expr e pos) (lS K E (dExpE w)) := ps_imp (ps_expr h hs) fun D σ H h => by
  obtain ⟨fr, g, hs, ρ, T, W, h, m⟩ := h
  exact ⟨fr, g, hs, ρ, _, W, h, fun d ρ' v g' hs' H' h' s' W' _ => m.nx ρ' σ g' hs' H' h' s' W'⟩
theorem de_lm {f : LF} {wa : EA} {name : Str} {id : String} {r : V → List V → Hp → VK → Prop} (slt : Slot "list" name id) (hty : typeOf (.builtin id) = pure (.type "method_descriptor")) (hm : MtR X id r) (hf : LM r f) (i : Nat) (ha : PA X (e :: es) (lA wa)) (hN : X.N[i]? = some x := by rfl)
    (hv : Vis X.env.scope x := by first | exact Or.inl rfl | exact Or.inr (Or.inl rfl) | exact Or.inr (Or.inr rfl)) (hd : (x == ("__debug__" : Str)) = false := by decide)
    (hcd : (x == ("__classdict__" : Str)) = false := by decide) (hbase : attributeBase (.Name x p1) name X.env (eval (.Name x p1) X.env) = eval (.Name x p1) X.env := by rfl)
    (hfew : ((backTo cpos (starEach (e :: es) X.env)).all (fun x => !x.1) && (backToKw cpos (keywordEach [] X.env)).all (fun x => x.1.isSome)
      && decide ((e :: es).length + ([] : List Keyword).length + (if ([] : List Keyword).isEmpty then 0 else 1) < 30)) = true := by rfl)
    (hline : (apos.endLine == cpos.line) = true := by rfl) (hs : starEach (e :: es) X.env = (false, eval e X.env) :: starEach es X.env := by rfl) (hplain : (backTo cpos (starEach es X.env)).any (·.1) = false := by rfl) :
    PE X (.Call (.Attribute (.Name x p1) name apos) (e :: es) [] cpos) (lE (dLM f i wa)) := by
  refine pe_imp (pe_bm PySem.F.plainAttrs_list slt hty hm (pe_var (i := i) hN hv hd hcd) ha hbase hfew hline hs hplain) fun σ H Q h => ?_
  obtain ⟨fr, g, hs, ρ, P, W, h, k⟩ := h
  obtain ⟨⟨a, ds, e1⟩, h⟩ := h
  obtain ⟨hv, vs, hH, _, _⟩ := W.lsto e1
  refine ⟨_, hv, .inl ⟨rfl, vs, SqL.of hH⟩, fr, g, hs, ρ, _, W, h, fun args ρ1 us g1 hs1 H1 h1 s1 W1 a1 => ?_⟩
  obtain ⟨a', ds', e2, h1⟩ := h1
  obtain ⟨hv', vs', hH', hh', r'⟩ := W1.lsto e2
  rw [hv] at hv'
  cases hv'
  exact hf g1 H1 a ds' vs' args us _ Q W1.sg hH' r' a1 h1 fun res ds2 v vs2 h2 d2 r2 => k _ _ _ _ _ _ h2 s1 (W1.store hh' hv ⟨rfl, vs2, upd_same, r2⟩) d2
theorem ds_put (i : Nat) (hu : X.A.units + 1 < cLine) (hk : PE X k (lE wk)) (he : PE X e (lE wv)) (hN : X.N[i]? = some x := by rfl) (hv : Vis X.env.scope x := by first | exact Or.inl rfl | exact Or.inr (Or.inl rfl) | exact Or.inr (Or.inr rfl)) (hd : (x == ("__debug__" : Str)) = false := by decide)
    (hcd : (x == ("__classdict__" : Str)) = false := by decide) (hs : swapsWith e (some (.Subscript (.Name x p1) k p2)) pos.line X.env = pure false := by rfl) : PS X (.Assign [.Subscript (.Name x p1) k p2] e pos) (lS K E (dPut i wk wv)) := by
  refine ps_imp (ps_dput hu (pe_var (i := i) hN hv hd hcd) hk he hs) fun D σ H h => ?_
  obtain ⟨fr, g, hs, ρ, T, W, h, m⟩ := h
  obtain ⟨⟨sv, e0⟩, h⟩ := h
  obtain ⟨v, hv, _⟩ := W.at e0
  refine ⟨fr, g, hs, ρ, _, W, h, fun d ρ1 v1 g1 hs1 H1 h1 s1 W1 d1 => ⟨v, hv, fr, g1, hs1, ρ1, _, W1, h1, fun k' ρ2 v2 g2 hs2 H2 h2 s2 W2 d2 => ?_⟩⟩
  obtain ⟨a, kvs, key, e2, ek, hl, h2⟩ := h2
  obtain ⟨hv', vs, hH, hh, r⟩ := W2.dic e2
  rw [hv] at hv'
  cases hv'
  rw [keyD_kV d2 ek]
  refine ⟨a, _, rfl, DPut.k hH (by rw [r.length]; exact hl), m.nx _ _ _ _ _ h2 (s1.trans s2) (W2.store hh hv ⟨rfl, _, upd_same, r.put (DP.mono s2 d1)⟩)⟩
theorem ds_putL (i : Nat) (hk : PE X k (lE wk)) (he : PE X e (lE wv)) (hN : X.N[i]? = some x := by rfl) (hv : Vis X.env.scope x := by first | exact Or.inl rfl | exact Or.inr (Or.inl rfl) | exact Or.inr (Or.inr rfl)) (hd : (x == ("__debug__" : Str)) = false := by decide)
    (hcd : (x == ("__classdict__" : Str)) = false := by decide) (hs : swapsWithSole [.Subscript (.Name x p1) k p2] e pos.line X.env = pure false := by rfl) (hw : swappedStores [.Subscript (.Name x p1) k p2] e X.env = pure none := by rfl)
    (hg : ∀ v, assign (.Subscript (.Name x p1) k p2) X.env v = (do let ov ← holding [v] (eval (.Name x p1) X.env); let iv ← holding [v, ov] (eval k X.env); standAt p2; holding [v, ov, iv] (setItem ov iv v); release [v, ov, iv] []) := by intro _; rfl) : PS X (.Assign [.Subscript (.Name x p1) k p2] e pos) (lS K E (dPutL i wk wv)) := by
  refine ps_imp (ps_asg he (pg_sub (pe_var (i := i) hN hv hd hcd) hk set_list hg) hs hw) fun D σ H h => ?_
  obtain ⟨fr, g, hs, ρ, T, W, h, m⟩ := h
  obtain ⟨⟨sv, e0⟩, h⟩ := h
  obtain ⟨v, hv, _⟩ := W.at e0
  refine ⟨fr, g, hs, ρ, _, W, h, fun d ρ1 v1 g1 hs1 H1 h1 s1 W1 d1 => ⟨v, hv, fr, g1, hs1, ρ1, _, W1, h1, fun k' ρ2 v2 g2 hs2 H2 h2 s2 W2 d2 => ?_⟩⟩
  obtain ⟨a, ds, j, n, e2, ek, hj, h2⟩ := h2
  obtain ⟨hv', vs, hH, hh, r⟩ := W2.lsto e2
  rw [hv] at hv'
  cases hv'
  subst ek
  have d2 : v2 = .int j := d2
  exact ⟨a, vs, j, n, rfl, d2, hH, by rw [r.length]; exact hj, m.nx _ _ _ _ _ h2 (s1.trans s2) (W2.store hh hv ⟨rfl, _, upd_same, r.set n (DP.mono s2 d1)⟩)⟩
end
end Fb
namespace Fb
open PySem L2
set_option autoImplicit false
variable [Tb]

/-! ### targets -/
def Chg (js : List Nat) (σ σ' : St) : Prop := σ'.length = σ.length ∧ ∀ i, i ∉ js → σ'[i]? = σ[i]?
/-- what an item is: data, or a pair of data and a bare reference -/
class IRel (α : Type) where
  R : Hp → α → V → Prop
  mono : ∀ {g g' : Hp} {x : α} {v : V}, Same g g' → R g x v → R g' x v
instance irData : IRel PyData := ⟨DP, fun s h => DP.mono s h⟩
instance irPair : IRel (PyData × Addr) := ⟨fun g x v => ∃ T k, v = .ref T ∧ g T = some (.tup [k, .ref x.2]) ∧ DP g x.1 k, fun s ⟨T, k, e, h, d⟩ => ⟨T, k, e, s _ _ h, d.mono s⟩⟩
abbrev TBa (α : Type) := α → Ev → (Ev → Prop) → Prop
abbrev TB := TBa PyData
def lG {α : Type} [IRel α] (js : List Nat) (b : TBa α) : TG := fun v σ H Q => ∃ fr g hs ρ d P, Own fr g hs ρ σ H ∧ IRel.R g d v ∧ b d ρ P ∧ ∀ ρ' σ', P ρ' → Own fr g hs ρ' σ' H → Chg js σ σ' → Q σ' H
def bN (i : Nat) (d : PyData) (ρ : Ev) (k : Ev → Prop) : Prop := k (ρ.set i (some (.dat d)))
@[simp] def setAll : List Nat → List PyData → Ev → Ev
  | i :: is, d :: ds, ρ => setAll is ds (ρ.set i (some (.dat d)))
  | _, _, ρ => ρ
def bT (js : List Nat) (d : PyData) (ρ : Ev) (k : Ev → Prop) : Prop := ∃ ds, d = .tuple ds ∧ ds.length = js.length ∧ k (setAll js ds ρ)
section
variable {X : Cx} {pos : Pos} {x : Str} {tg : Expr}
theorem pg_imp {t t' : TG} (h : PG X tg t) (i : ∀ v σ H Q, t' v σ H Q → t v σ H Q) : PG X tg t' := ⟨fun pins s σ H v u Q I r hw => h.run pins s σ H v u Q I r (i v σ H Q hw)⟩
theorem Chg.set {σ : St} {i : Nat} {v : Option V} : Chg [i] σ (σ.set i v) := ⟨List.length_set, fun j hj => List.getElem?_set_ne fun z => hj (by rw [z]; simp)⟩
theorem dg_name (i : Nat) (hN : X.N.Nodup) (hi : X.N[i]? = some x := by rfl) (hx : Loc X.env.scope x := by first | exact Or.inl rfl | exact Or.inr rfl) (hf : X.fn x = true ∨ X.env.scope.names.lookup x = some .local := by first | exact .inl rfl | exact .inr rfl | assumption) :
    PG X (.Name x pos) (lG [i] (bN i)) := pg_imp (pg_name hN hi hx hf) fun v σ H Q h => by
  obtain ⟨fr, g, hs, ρ, d, P, W, dv, h, k⟩ := h
  exact k _ _ h (W.setD dv) Chg.set
/-- a bare reference: nothing is owned by it -/
def bare (p : Addr) : SV := .obj p ⟨.no, fun _ _ => True, fun _ _ _ _ _ => trivial⟩
@[simp] theorem bare_inj {p q : Addr} : (bare p = bare q) ↔ (p = q) := ⟨fun h => (SV.obj.inj h).1, fun h => by rw [h]⟩
def bP (i j : Nat) (x : (PyData × Addr)) (ρ : Ev) (k : Ev → Prop) : Prop := k ((ρ.set i (some (.dat x.1))).set j (some (bare x.2)))
/-- the names of a tuple that is taken apart -/
inductive GNs (X : Cx) : List Expr → List Nat → Prop where
  | nil : GNs X [] []
  | cons {x : Str} {pos : Pos} {i : Nat} {es : List Expr} {js : List Nat} : PG X (.Name x pos) (gName i) → GNs X es js → GNs X (.Name x pos :: es) (i :: js)
theorem gn_cons (i : Nat) {es : List Expr} {js : List Nat} (hN : X.N.Nodup) (h : GNs X es js) (hi : X.N[i]? = some x := by rfl) (hx : Loc X.env.scope x := by first | exact Or.inl rfl | exact Or.inr rfl)
    (hf : X.fn x = true ∨ X.env.scope.names.lookup x = some .local := by first | exact .inl rfl | exact .inr rfl | assumption) : GNs X (.Name x pos :: es) (i :: js) := .cons (pg_name hN hi hx hf) h
def gNames : List Nat → TGs
  | [] => gNil
  | i :: r => gCons (gName i) (gNames r)
theorem GNs.pgs {es : List Expr} {js : List Nat} (h : GNs X es js) : PGs X es (gNames js) := by
  induction h with
  | nil => exact pgs_nil
  | cons h _ ih => exact pgs_cons h ih
theorem gNames_go {fr g : Hp} {hs : Prts} {H : Hp} : ∀ {js : List Nat} {ds : List PyData} {vs : List V} {ρ : Ev} {σ : St} {Q : St → Hp → Prop}, ds.length = js.length → DPs g ds vs → Own fr g hs ρ σ H →
    (∀ σ', Own fr g hs (setAll js ds ρ) σ' H → Chg js σ σ' → Q σ' H) → gNames js vs σ H Q
  | [], [], vs, ρ, σ, Q, _, r, W, k => ⟨r, k σ W ⟨rfl, fun _ _ => rfl⟩⟩
  | i :: js, d :: ds, _, ρ, σ, Q, hl, ⟨v, r, e, dv, t⟩, W, k => by
    subst e
    refine ⟨v, r, rfl, ?_⟩
    refine gNames_go (js := js) (ds := ds) (ρ := ρ.set i (some (.dat d))) (Nat.succ.inj hl) t (W.setD dv) fun σ' W' c => k σ' W' ⟨c.1.trans List.length_set, fun l hl => ?_⟩
    rw [c.2 l fun z => hl (List.mem_cons_of_mem _ z)]
    exact List.getElem?_set_ne fun z => hl (by rw [z]; simp)
theorem pg_tup' {es : List Expr} {k : Nat} {t : TGs} {n : Nat} (hc : X.calm = true) (h : PGs X es t) (hn : es.length = n) (e : PG X (.Tuple es k pos) (gTup X.K n t)) : PG X (.Tuple es k pos) (gTup X.K n t) := e
theorem GNs.len {es : List Expr} {js : List Nat} (h : GNs X es js) : es.length = js.length := by
  induction h with
  | nil => rfl
  | cons _ _ ih => rw [List.length_cons, List.length_cons, ih]
theorem dg_tup {es : List Expr} {js : List Nat} {k : Nat} (h : GNs X es js) (e : PG X (.Tuple es k pos) (gTup X.K js.length (gNames js))) : PG X (.Tuple es k pos) (lG js (bT js)) := pg_imp e fun v σ H Q h => by
  obtain ⟨fr, g, hs, ρ, d, P, W, dv, h, k⟩ := h
  obtain ⟨ds, ed, hl, h⟩ := h
  subst ed
  obtain ⟨a, vs, ev, ha, r⟩ := dv
  exact ⟨a, vs, ev, SqT.of (W.sg _ _ ha), by rw [r.length]; exact hl, gNames_go hl r W fun σ' W' c => k _ σ' h W' c⟩
end

/-- for k, x in pairs: x a bare reference -/
theorem Own.setBare {fr g : Hp} {hs : Prts} {ρ : Ev} {σ : St} {H : Hp} {i : Nat} {p : Addr} (w : Own fr g hs ρ σ H) : Own fr g hs (ρ.set i (some (bare p))) (σ.set i (some (.ref p))) H := by
  refine ⟨by rw [List.length_set, List.length_set]; exact w.len, w.sf, w.df, w.sg, w.sh, w.dg, w.dh, fun j sv e => ?_, w.tb, w.nf, w.ng, w.nh⟩
  by_cases q : i = j
  · subst q
    by_cases l : i < ρ.length
    · rw [List.getElem?_set_self l] at e
      cases e
      exact ⟨.ref p, by rw [List.getElem?_set_self (by rw [← w.len]; exact l)], rfl, trivial⟩
    · rw [List.getElem?_eq_none (by rw [List.length_set]; omega)] at e
      cases e
  · rw [List.getElem?_set_ne q] at e
    obtain ⟨u, h1, h2⟩ := w.rep j sv e
    exact ⟨u, by rw [List.getElem?_set_ne q]; exact h1, h2⟩
section
variable {X : Cx} {pos : Pos}
theorem dg_pair {es : List Expr} {i j : Nat} {k : Nat} (h : GNs X es [i, j]) (e : PG X (.Tuple es k pos) (gTup X.K 2 (gNames [i, j]))) : PG X (.Tuple es k pos) (lG [i, j] (bP i j)) := pg_imp e fun v σ H Q h => by
  obtain ⟨fr, g, hs, ρ, d, P, W, dv, h, k⟩ := h
  obtain ⟨T, kv, ev, ha, r⟩ := dv
  refine ⟨T, _, ev, SqT.of (W.sg _ _ ha), rfl, _, _, rfl, _, _, rfl, rfl, ?_⟩
  refine k _ _ h ((W.setD r).setBare) ⟨by rw [List.length_set, List.length_set], fun l hl => ?_⟩
  rw [List.getElem?_set_ne fun z => hl (by rw [z]; simp), List.getElem?_set_ne fun z => hl (by rw [z]; simp)]
end

/-! ### what is walked -/
def Yd {α : Type} [IRel α] (g : Hp) (ds : List α) : Nat → Hp → V → Hp → Prop := fun i H x H' => ∃ d, ds[i]? = some d ∧ ((H' = H ∧ IRel.R g d x) ∨ ∃ p o, ord o = true ∧ H p = none ∧ H' = upd H p o ∧ ∀ g2, Same g g2 → g2 p = none → IRel.R (upd g2 p o) d x)
abbrev EIa (α : Type) := Ev → (List α → Ev → Prop) → Prop
abbrev EI := EIa PyData
def lI {α : Type} [IRel α] (w : EIa α) : TI := fun σ H R => ∃ fr g hs ρ P, Own fr g hs ρ σ H ∧ w ρ P ∧ ∀ ds ρ' g' hs' H' J, P ds ρ' → Same g g' → Own fr g' hs' ρ' σ H' → Walk J ds.length (fun H => Same g' H) (Yd g' ds) → R J H'
/-- the items of data that are walked -/
@[simp] def itemsD : PyData → Option (List PyData)
  | .list ds => some ds
  | .tuple ds => some ds
  | .str z => some (z.cps.toList.map fun c => .str ⟨#[c]⟩)
  | _ => none
def iAny (K : PySem.W.Frag) (tl : TE) : TI := fun σ H R => tl σ H fun x H1 => (∃ a xs, x = .ref a ∧ SqL K H1 a xs ∧ R (Itl K a) H1) ∨ (∃ a xs, x = .ref a ∧ SqT K H1 a xs ∧ R (Itt K a) H1) ∨ ∃ z, x = .str z ∧ R (Its z) H1
section
variable {X : Cx} {tg l : Expr} {pos p : Pos}
theorem pi_imp {t t' : TI} (h : PI X tg l t) (i : ∀ σ H R, t' σ H R → t σ H R) : PI X tg l t' := ⟨fun pins s σ H R I hw => h.run pins s σ H R I (i σ H R hw)⟩
theorem pi_any {tl : TE} (hl : PE X l tl) : PI X tg l (iAny X.K tl) := by
  refine ⟨fun pins s σ H R I h => ?_⟩
  refine thn (hl.run pins s σ H _ I h) fun v s1 ⟨x, H1, I1, r1, q1⟩ => ?_
  rcases q1 with ⟨a, xs, e, hq, q⟩ | ⟨a, xs, e, hq, q⟩ | ⟨z, e, q⟩
  · subst e
    cases r1
    obtain ⟨its, rv, p, hz⟩ := I1.list hq
    refine wpAny_pyIter_list p.isList ?_
    refine ⟨s1.heap.objs.size, [s1.heap.objs.size], _, _, H1, rfl, I1.kept (t' := s1.toks) fun b o e => Heap.get?_push_of_some _ e, turn_list a _, ⟨_, Heap.get?_push_size _ rfl, rfl, rfl⟩, fun b hb => ?_, q⟩
    have e : b = s1.heap.objs.size := by simpa using hb
    subst e
    exact I1.fpOk (Nat.le_refl _) (I1.hok.fresh (Nat.le_refl _))
  · subst e
    cases r1
    obtain ⟨its, rv, p, hz⟩ := I1.tuple hq
    refine wpAny_pyIter_tuple (show s1.heap.IsTuple a its.toArray from p) ?_
    refine ⟨s1.heap.objs.size, [s1.heap.objs.size], _, _, H1, rfl, I1.kept (t' := s1.toks) fun b o e => Heap.get?_push_of_some _ e, turn_tuple a _, ⟨_, Heap.get?_push_size _ rfl, rfl, rfl⟩, fun b hb => ?_, q⟩
    have e : b = s1.heap.objs.size := by simpa using hb
    subst e
    exact I1.fpOk (Nat.le_refl _) (I1.hok.fresh (Nat.le_refl _))
  · subst e
    obtain ⟨t, rfl⟩ := r1
    cases ha : z.cps.all (· < 128)
    · exact wpAny_pyIter_wide ha (pi_one (tk := s1.toks) I1 _ (turn_str _ z t "str_iterator" (.inr rfl)) ⟨_, Heap.get?_push_size _ rfl, rfl, rfl⟩ q)
    · exact wpAny_pyIter_ascii ha (pi_one (tk := s1.toks) I1 _ (turn_str _ z t "str_ascii_iterator" (.inl rfl)) ⟨_, Heap.get?_push_size _ rfl, rfl, rfl⟩ q)
def dIt (w : ET) (ρ : Ev) (P : List PyData → Ev → Prop) : Prop := w ρ fun d ρ' => ∃ ds, itemsD d = some ds ∧ P ds ρ'
theorem di_any {w : ET} (h : PE X l (lE w)) : PI X tg l (lI (dIt w)) := pi_imp (pi_any h) fun σ H R h => by
  obtain ⟨fr, g, hs, ρ, P, W, h, k⟩ := h
  refine ⟨fr, g, hs, ρ, _, W, h, fun d ρ' v g' hs' H' h' s' W' d' => ?_⟩
  obtain ⟨ds, e, h'⟩ := h'
  cases d <;> cases e
  · refine .inr (.inr ⟨_, d'.1, k _ _ _ _ _ _ h' s' W' ?_⟩)
    rw [List.length_map, Array.length_toList]
    refine walk_str.mono (fun _ _ => trivial) fun i H x H2 _ _ y => ?_
    obtain ⟨e, c, hc, ex⟩ := y
    refine ⟨.str ⟨#[c]⟩, by rw [List.getElem?_map, Array.getElem?_toList, hc]; rfl, .inl ⟨e, ex, ?_⟩⟩
    have m := Array.all_eq_true_iff_forall_mem.mp d'.2 c (Array.mem_of_getElem? hc)
    show (#[c].all _) = true
    simpa using m
  · obtain ⟨a, vs, ev, ha, r⟩ := d'
    refine .inl ⟨a, vs, ev, SqL.of (W'.sg _ _ ha), k _ _ _ _ _ _ h' s' W' ?_⟩
    rw [← r.length]
    refine (walk_list (K := X.K) (a := a) (xs := vs)).mono (fun H hs => SqL.of (hs _ _ ha)) fun i H x H2 _ _ y => ?_
    obtain ⟨e, y⟩ := y
    obtain ⟨d, h1, h2⟩ := r.get' y
    exact ⟨d, h1, .inl ⟨e, h2⟩⟩
  · obtain ⟨a, vs, ev, ha, r⟩ := d'
    refine .inr (.inl ⟨a, vs, ev, SqT.of (W'.sg _ _ ha), k _ _ _ _ _ _ h' s' W' ?_⟩)
    rw [← r.length]
    refine (walk_tup (K := X.K) (a := a) (xs := vs)).mono (fun H hs => SqT.of (hs _ _ ha)) fun i H x H2 _ _ y => ?_
    obtain ⟨e, y⟩ := y
    obtain ⟨d, h1, h2⟩ := r.get' y
    exact ⟨d, h1, .inl ⟨e, h2⟩⟩
/-- range(n), range(a, b) -/
def rngD (lo : Int) (n : Nat) : List PyData := (List.range n).map fun (i : Nat) => .int (lo + (i : Nat))
def dRng1 (w : EA) (ρ : Ev) (P : List PyData → Ev → Prop) : Prop := w ρ fun ds ρ' => ∃ j, ds = [.int j] ∧ -(2 ^ 62) ≤ j ∧ j < 2 ^ 62 ∧ P (rngD 0 j.toNat) ρ'
def dRng2 (w : EA) (ρ : Ev) (P : List PyData → Ev → Prop) : Prop := w ρ fun ds ρ' => ∃ i j, ds = [.int i, .int j] ∧ (-(2 ^ 62) ≤ i ∧ i < 2 ^ 62 ∧ -(2 ^ 62) ≤ j ∧ j < 2 ^ 62) ∧ P (rngD i (j - i).toNat) ρ'
theorem walk_rng {g : Hp} {lo : Int} {n : Nat} : Walk (Itr lo n) (rngD lo n).length (fun H => Same g H) (Yd g (rngD lo n)) := by
  have e : (rngD lo n).length = n := by unfold rngD; rw [List.length_map, List.length_range]
  rw [e]
  refine walk_range.mono (fun _ _ => trivial) fun i H x H2 hi _ y => ⟨.int (lo + (i : Nat)), ?_, .inl ⟨y.1, y.2⟩⟩
  unfold rngD
  rw [List.getElem?_map, List.getElem?_range hi] <;> rfl
theorem di_rng1 {a : Expr} {w : EA} (hm : X.mg "range" = none) (ha : PA X [a] (lA w)) (hg : Gl X "range" := by rfl) (hs : starEach [a] X.env = [(false, eval a X.env)] := by rfl) : PI X tg (.Call (.Name "range" p) [a] [] pos) (lI (dRng1 w)) :=
  pi_imp (pi_range1 hg hm ha hs) fun σ H R h => by
    obtain ⟨fr, g, hs, ρ, P, W, h, k⟩ := h
    refine ⟨fr, g, hs, ρ, _, W, h, fun ds ρ' vs g' hs' H' h' s' W' r => ?_⟩
    obtain ⟨j, e, h1, h2, h'⟩ := h'
    subst e
    obtain ⟨v, ev, dv⟩ := dps_one r
    have dv : v = .int j := dv
    exact ⟨j, by rw [ev, dv], h1, h2, k _ _ _ _ _ _ h' s' W' walk_rng⟩
theorem di_rng2 {a b : Expr} {w : EA} (hm : X.mg "range" = none) (ha : PA X [a, b] (lA w)) (hg : Gl X "range" := by rfl) (hs : starEach [a, b] X.env = [(false, eval a X.env), (false, eval b X.env)] := by rfl) (hs2 : starEach [b] X.env = [(false, eval b X.env)] := by rfl) : PI X tg (.Call (.Name "range" p) [a, b] [] pos) (lI (dRng2 w)) :=
  pi_imp (pi_range2 hg hm ha hs hs2) fun σ H R h => by
    obtain ⟨fr, g, hs, ρ, P, W, h, k⟩ := h
    refine ⟨fr, g, hs, ρ, _, W, h, fun ds ρ' vs g' hs' H' h' s' W' r => ?_⟩
    obtain ⟨i, j, e, h1, h'⟩ := h'
    subst e
    obtain ⟨v, us, ev, dv, r⟩ := r
    obtain ⟨u, eu, du⟩ := dps_one r
    have dv : v = .int i := dv
    have du : u = .int j := du
    exact ⟨i, j, by rw [ev, eu, dv, du], h1, k _ _ _ _ _ _ h' s' W' walk_rng⟩
end

/-! ### for, while -/
def dForK {α : Type} (b : TBa α) (w : SE) (T : Edn) (ds : List α) (ρ1 : Ev) : Prop := ∃ W : Nat → Ev → Prop, W 0 ρ1 ∧ (∀ i d ρ2, ds[i]? = some d → W i ρ2 → b d ρ2 fun ρ3 => w { T with nx := W (i + 1), ct := W (i + 1), bk := T.nx } ρ3) ∧ ∀ ρ2, W ds.length ρ2 → T.nx ρ2
def dFor {α : Type} (wi : EIa α) (b : TBa α) (w : SE) (T : Edn) (ρ : Ev) : Prop := wi ρ fun ds ρ1 => dForK b w T ds ρ1
def dWhl (t : ETb) (w : SE) : SE := fun T ρ => ∃ W : Nat → Ev → Prop, (∃ m, W m ρ) ∧ ∀ m ρ1, W m ρ1 → t ρ1 fun b ρ2 => if b = true then w { T with nx := fun ρ3 => ∃ m', m' < m ∧ W m' ρ3, ct := fun ρ3 => ∃ m', m' < m ∧ W m' ρ3, bk := T.nx } ρ2 else T.nx ρ2
section
variable {X : Cx} {K : PySem.W.Frag} {E : XK} {tg iter c : Expr} {body : List Stmt} {pos : Pos}
theorem Own.yd {fr g : Hp} {hs : Prts} {ρ : Ev} {σ : St} {H H' : Hp} {α : Type} [IRel α] {ds : List α} {i : Nat} {x : V} (W : Own fr g hs ρ σ H) (y : Yd g ds i H x H') {g0 : Hp} (s : Same g0 g) : ∃ d g', ds[i]? = some d ∧ Same g g' ∧ Own fr g' hs ρ σ H' ∧ IRel.R g' d x := by
  obtain ⟨d, hd, y⟩ := y
  rcases y with ⟨e, y⟩ | ⟨p, o, ho, hp, e, y⟩
  · subst e
    exact ⟨d, g, hd, Same.refl g, W, y⟩
  · subst e
    have gp := none_of W.sg hp
    exact ⟨d, upd g p o, hd, Same.new gp, W.froz hp ho, y g (Same.refl g) gp⟩
theorem Yd.mono {α : Type} [IRel α] {g g' : Hp} {ds : List α} {i : Nat} {H H' : Hp} {x : V} (s : Same g g') (y : Yd g ds i H x H') : Yd g' ds i H x H' := by
  obtain ⟨d, hd, y⟩ := y
  rcases y with ⟨e, y⟩ | ⟨p, o, ho, hp, e, y⟩
  · exact ⟨d, hd, .inl ⟨e, IRel.mono s y⟩⟩
  · exact ⟨d, hd, .inr ⟨p, o, ho, hp, e, fun g2 s2 => y g2 (s.trans s2)⟩⟩
theorem ds_for {α : Type} [IRel α] {wi : EIa α} {js : List Nat} {b : TBa α} {w : SE} (hp : PassesOwn (model X.prog X.w) X.A X.env X.xe) (hi : PI X tg iter (lI wi)) (hg : PG X tg (lG js b)) (hb : PSs X body (lS K E w)) (hc : X.calm = true := by rfl)
    (hs : ∀ x, foldedSetIterable iter X.env x = pure x := by intro _; rfl) : PS X (.For tg iter body [] pos) (lS K E (dFor wi b w)) := ps_imp (ps_for hp hc hi hg hb hs) fun D σ H h => by
  obtain ⟨fr, g, hs, ρ, T, W, h, m⟩ := h
  refine ⟨fr, g, hs, ρ, _, W, h, fun ds ρ1 g1 hs1 H1 J h1 s1 W1 wk => ?_⟩
  obtain ⟨I, i0, it, ie⟩ := h1
  refine for_it wk (fun i σ2 H2 => ∃ ρ2 g2 hs2, I i ρ2 ∧ Same g1 g2 ∧ Own fr g2 hs2 ρ2 σ2 H2) ⟨ρ1, g1, hs1, i0, Same.refl g1, W1⟩ (fun i σ2 H2 _ p => ?_) (fun i x σ2 H2 H3 hi p y => ?_) fun σ2 H2 p => ?_
  · obtain ⟨ρ2, g2, hs2, _, s2, W2⟩ := p
    exact s2.trans W2.sg
  · obtain ⟨ρ2, g2, hs2, p, s2, W2⟩ := p
    obtain ⟨d, g3, hd, s3, W3, d3⟩ := W2.yd (y.mono s2) (Same.refl g2)
    refine ⟨fr, g3, hs2, ρ2, d, _, W3, d3, it i d ρ2 hd p, fun ρ3 σ3 h3 W4 _ => ?_⟩
    have s13 : Same g g3 := (s1.trans s2).trans s3
    refine ⟨fr, g3, hs2, ρ3, _, W4, h3, ⟨fun ρ' σ' g' hs' H' h' s' W' => ⟨ρ', g', hs', h', (s2.trans s3).trans s', W'⟩, (m.mono s13).rt, fun ρ' σ' g' hs' H' h' s' W' => (m.mono s13).nx ρ' σ' g' hs' H' h' s' W',
      fun ρ' σ' g' hs' H' h' s' W' => ⟨ρ', g', hs', h', (s2.trans s3).trans s', W'⟩, (m.mono s13).rx⟩⟩
  · obtain ⟨ρ2, g2, hs2, p, s2, W2⟩ := p
    exact m.nx _ _ g2 hs2 H2 (ie ρ2 p) (s1.trans s2) W2
theorem ds_while {t : ETb} {w : SE} (hp : PassesOwn (model X.prog X.w) X.A X.env X.xe) (hc : PT X c (lT t)) (hb : PSs X body (lS K E w)) : PS X (.While c body [] pos) (lS K E (dWhl t w)) := ps_imp (ps_while hp hc hb) fun D σ H h => by
  obtain ⟨fr, g, hs, ρ, T, W, h, m⟩ := h
  obtain ⟨I, ⟨m0, i0⟩, it⟩ := h
  refine ⟨fun k σ2 H2 => ∃ ρ2 g2 hs2, I k ρ2 ∧ Same g g2 ∧ Own fr g2 hs2 ρ2 σ2 H2, ⟨m0, ρ, g, hs, i0, Same.refl g, W⟩, fun k σ2 H2 p => ?_⟩
  obtain ⟨ρ2, g2, hs2, p, s2, W2⟩ := p
  refine ⟨fr, g2, hs2, ρ2, _, W2, it k ρ2 p, fun b ρ3 g3 hs3 H3 h3 s3 W3 => ?_⟩
  have s13 : Same g g3 := s2.trans s3
  cases b with
  | true =>
    refine ⟨fun σ' H' => ∃ ρ' g' hs', (∃ m', m' < k ∧ I m' ρ') ∧ Same g g' ∧ Own fr g' hs' ρ' σ' H', fun σ' H' q => ?_, fr, g3, hs3, ρ3, _, W3, h3, ⟨fun ρ' σ' g' hs' H' h' s' W' => ⟨ρ', g', hs', h', s13.trans s', W'⟩, (m.mono s13).rt, fun ρ' σ' g' hs' H' h' s' W' => (m.mono s13).nx ρ' σ' g' hs' H' h' s' W',
      fun ρ' σ' g' hs' H' h' s' W' => ⟨ρ', g', hs', h', s13.trans s', W'⟩, (m.mono s13).rx⟩⟩
    obtain ⟨ρ', g', hs', ⟨m', hm, q⟩, s', W'⟩ := q
    exact ⟨m', hm, ρ', g', hs', q, s', W'⟩
  | false => exact (m.mono s13).nx _ _ g3 hs3 H3 h3 (Same.refl g3) W3
end
end Fb
namespace Fb
open PySem L2
set_option autoImplicit false
variable [Tb]

/-! ### a new object aside, in the frame -/
theorem Own.inF {fr g : Hp} {hs : Prts} {ρ : Ev} {σ : St} {H : Hp} {p : Addr} {o : HO} (W : Own fr g hs ρ σ H) (h : H p = none) (hd : ord o = true := by rfl) : Own (uni fr (one p o)) g hs ρ σ (upd H p o) := by
  have gp := none_of W.sg h
  refine ⟨W.len, fun a u e => ?_, fun a u e => ?_, W.sg.past gp, fun i => (W.sh i).past (none_of (W.sh i) h), W.dg, W.dh, W.rep, tabs_stay W.tb fun a o e _ => Same.new h a o e, fun a u e => (uni_some e).elim (W.nf a u) fun z => by
    obtain ⟨rfl, rfl⟩ := one_eq z
    exact hd, W.ng, W.nh⟩
  · rcases uni_some e with z | z
    · exact W.sf.past (none_of W.sf h) _ _ z
    · obtain ⟨rfl, rfl⟩ := one_eq z
      exact upd_same
  · rcases uni_some e with z | z
    · exact W.df a u z
    · obtain ⟨rfl, rfl⟩ := one_eq z
      exact ⟨gp, fun i => none_of (W.sh i) h⟩
theorem Own.chF {fr g : Hp} {hs : Prts} {ρ : Ev} {σ : St} {H : Hp} {p : Addr} {o o' : HO} (W : Own (uni fr (one p o)) g hs ρ σ H) (h : fr p = none) (hd : ord o' = true := by rfl) : Own (uni fr (one p o')) g hs ρ σ (upd H p o') := by
  have ep : uni fr (one p o) p = some o := by unfold uni; rw [h, one_same]; rfl
  obtain ⟨gp, hp⟩ := W.df p o ep
  refine ⟨W.len, fun a u e => ?_, fun a u e => ?_, W.sg.past gp, fun i => (W.sh i).past (hp i), W.dg, W.dh, W.rep, tabs_stay W.tb fun a u e z => by
    by_cases q : a = p
    · rw [q] at e
      rw [W.sf _ _ ep] at e
      cases e
      rw [W.nf _ _ ep] at z
      cases z
    · rw [upd_ne q]
      exact e, fun a u e => (uni_some e).elim (fun z => W.nf a u (uni_l _ _ z)) fun z => by
    obtain ⟨rfl, rfl⟩ := one_eq z
    exact hd, W.ng, W.nh⟩
  · rcases uni_some e with z | z
    · rw [upd_ne (ne_of_none z h)]
      exact W.sf _ _ (uni_l _ _ z)
    · obtain ⟨rfl, rfl⟩ := one_eq z
      exact upd_same
  · rcases uni_some e with z | z
    · exact W.df a u (uni_l _ _ z)
    · obtain ⟨rfl, rfl⟩ := one_eq z
      exact ⟨gp, hp⟩
theorem Own.outF {fr g : Hp} {hs : Prts} {ρ : Ev} {σ : St} {H : Hp} {p : Addr} {o : HO} (W : Own (uni fr (one p o)) g hs ρ σ H) (h : fr p = none) : Own fr g hs ρ σ H ∧ Apart fr g hs (one p o) H ∧ H p = some o := by
  have ep : uni fr (one p o) p = some o := by unfold uni; rw [h, one_same]; rfl
  obtain ⟨gp, hp⟩ := W.df p o ep
  exact ⟨⟨W.len, fun a u e => W.sf _ _ (uni_l _ _ e), fun a u e => W.df a u (uni_l _ _ e), W.sg, W.sh, W.dg, W.dh, W.rep, W.tb, fun a u e => W.nf a u (uni_l _ _ e), W.ng, W.nh⟩, ⟨fun a u e => by
    obtain ⟨rfl, rfl⟩ := one_eq e
    exact W.sf _ _ ep, fun a u e => by
    obtain ⟨rfl, rfl⟩ := one_eq e
    exact ⟨h, gp, hp⟩, fun a u e => by
    obtain ⟨rfl, rfl⟩ := one_eq e
    exact W.nf _ _ ep⟩, W.sf _ _ ep⟩
@[simp] def wipeD (ρ : Ev) : List Nat → Ev
  | [] => ρ
  | v :: vs => (wipeD ρ vs).set v none
theorem wipeD_len (ρ : Ev) : ∀ vs : List Nat, (wipeD ρ vs).length = ρ.length
  | [] => rfl
  | v :: vs => by unfold wipeD; rw [List.length_set, wipeD_len ρ vs]
theorem wipeD_some {ρ : Ev} {i : Nat} {x : SV} : ∀ {vs : List Nat}, (wipeD ρ vs)[i]? = some (some x) → ρ[i]? = some (some x) ∧ i ∉ vs
  | [], h => ⟨h, by simp⟩
  | v :: vs, h => by
    unfold wipeD at h
    by_cases hi : v = i
    · subst hi
      by_cases hv : v < (wipeD ρ vs).length
      · rw [List.getElem?_set_self hv] at h; cases h
      · rw [List.getElem?_eq_none (by rw [List.length_set]; omega)] at h; cases h
    · rw [List.getElem?_set_ne hi] at h
      obtain ⟨h1, h2⟩ := wipeD_some h
      exact ⟨h1, by simp only [List.mem_cons, not_or]; exact ⟨fun e => hi e.symm, h2⟩⟩
theorem wipe_keep {σ : St} {i : Nat} : ∀ {vs : List Nat}, i ∉ vs → (wipe σ vs)[i]? = σ[i]?
  | [], _ => rfl
  | v :: vs, h => by
    simp only [List.mem_cons, not_or] at h
    unfold wipe
    rw [List.getElem?_set_ne (Ne.symm h.1), wipe_keep h.2]
theorem wipe_at {σ : St} {i : Nat} : ∀ {vs : List Nat}, i ∈ vs → (wipe σ vs)[i]? = if i < σ.length then some none else none
  | v :: vs, h => by
    unfold wipe
    by_cases q : v = i
    · subst q
      by_cases hl : v < σ.length
      · rw [List.getElem?_set_self (by rw [wipe_length]; exact hl), if_pos hl]
      · rw [List.getElem?_eq_none (by rw [List.length_set, wipe_length]; omega), if_neg hl]
    · rw [List.getElem?_set_ne q]
      rcases List.mem_cons.mp h with z | z
      · exact absurd z.symm q
      · exact wipe_at z
theorem wipe_chg {σ σ' : St} {js vs : List Nat} (c : Chg js (wipe σ vs) σ') (hj : ∀ j ∈ js, j ∈ vs) : wipe σ' vs = wipe σ vs := by
  refine List.ext_getElem? fun i => ?_
  by_cases q : i ∈ vs
  · rw [wipe_at q, wipe_at q, c.1, wipe_length]
  · rw [wipe_keep q, c.2 i fun z => q (hj i z)]
/-- the slots wiped on both sides -/
theorem Own.wipe {fr g : Hp} {hs : Prts} {ρ : Ev} {σ : St} {H : Hp} (W : Own fr g hs ρ σ H) (vs : List Nat) : Own fr g hs (wipeD ρ vs) (L2.wipe σ vs) H :=
  ⟨by rw [wipeD_len, wipe_length]; exact W.len, W.sf, W.df, W.sg, W.sh, W.dg, W.dh, fun i sv e => by
    obtain ⟨e, q⟩ := wipeD_some e
    obtain ⟨v, h1, h2⟩ := W.rep i sv e
    exact ⟨v, by rw [wipe_keep q]; exact h1, h2⟩, W.tb, W.nf, W.ng, W.nh⟩
theorem Own.unwipe {fr g : Hp} {hs : Prts} {ρ : Ev} {σ : St} {H : Hp} {vs : List Nat} (W : Own fr g hs ρ (L2.wipe σ vs) H) : Own fr g hs (wipeD ρ vs) σ H :=
  ⟨by rw [wipeD_len, W.len, wipe_length], W.sf, W.df, W.sg, W.sh, W.dg, W.dh, fun i sv e => by
    obtain ⟨e, q⟩ := wipeD_some e
    obtain ⟨v, h1, h2⟩ := W.rep i sv e
    exact ⟨v, by rw [wipe_keep q] at h1; exact h1, h2⟩, W.tb, W.nf, W.ng, W.nh⟩

/-! ### [elt for target in iter if ..] -/
def dYes (ρ : Ev) (P : Bool → Ev → Prop) : Prop := P true ρ
/-- I: by the turn, what is gathered, the slots -/
def dLcK {α : Type} (b : TBa α) (wt : ETb) (we : ET) (vs : List Nat) (P : SV → Ev → Prop) (ds : List α) (ρ1 : Ev) : Prop := ds.length ≤ sizeLine ∧ ∃ I : Nat → List PyData → Ev → Prop, I 0 [] (wipeD ρ1 vs) ∧
  (∀ i d acc ρ2, ds[i]? = some d → I i acc ρ2 → b d ρ2 fun ρ3 => wt ρ3 fun c ρ4 => if c = true then we ρ4 fun y ρ5 => I (i + 1) (acc ++ [y]) (wipeD ρ5 vs) else I (i + 1) acc (wipeD ρ4 vs)) ∧
  ∀ acc ρ2, I ds.length acc ρ2 → ∀ a, P (.lst a acc) (wipeD ρ2 vs)
def dLc {α : Type} (wi : EIa α) (b : TBa α) (wt : ETb) (we : ET) (vs : List Nat) (ρ : Ev) (P : SV → Ev → Prop) : Prop := wi ρ fun ds ρ1 => dLcK b wt we vs P ds ρ1
section
variable {X : Cx} {tg iter elt : Expr} {ifs : List Expr} {pos : Pos} {scope : Scope}
theorem dts_nil : PTs X [] (lT dYes) := ⟨fun pins s σ H Q I h => pts_nil.run pins s σ H Q I (by
  obtain ⟨fr, g, hs, ρ, P, W, h, k⟩ := h
  exact k true ρ g hs H h (Same.refl g) W)⟩
theorem dts_one {c : Expr} {t : ETb} (h : PT X c (lT t)) : PTs X [c] (lT t) := pts_one h
theorem lLc {α : Type} [IRel α] {wi : EIa α} {js : List Nat} {b : TBa α} {wt : ETb} {we : ET} {vs : List Nat} {σ : St} {H : Hp} {Q : VK} (hj : ∀ j ∈ js, j ∈ vs) (h : lO (dLc wi b wt we vs) σ H Q) : tLc (lI wi) (lG js b) (lT wt) (lE we) vs σ H Q := by
  obtain ⟨fr, g, hs, ρ, P, W, h, k⟩ := h
  refine ⟨fr, g, hs, ρ, _, W, h, fun ds ρ1 g1 hs1 H1 J h1 s1 W1 wk D hD => ?_⟩
  obtain ⟨hz, I, i0, it, ie⟩ := h1
  have fD : fr D = none := none_of W1.sf hD
  refine lc_it wk (fun i H2 => ∃ acc vsA ρ2 g2 hs2, I i acc ρ2 ∧ acc.length ≤ i ∧ Own (uni fr (one D (.lst vsA))) g2 hs2 ρ2 (wipe σ vs) H2 ∧ DPs g2 acc vsA ∧ Same g1 g2) ⟨[], [], _, g1, hs1, i0, Nat.le_refl _, (W1.wipe vs).inF hD, rfl, Same.refl g1⟩
    (fun i H2 _ p => ?_) (fun i x H2 H3 hi p y => ?_) fun H2 p => ?_
  · obtain ⟨acc, vsA, ρ2, g2, hs2, _, _, W2, _, s2⟩ := p
    exact s2.trans W2.sg
  · obtain ⟨acc, vsA, ρ2, g2, hs2, p, hl, W2, rA, s2⟩ := p
    obtain ⟨d, g3, hd, s3, W3, d3⟩ := W2.yd (y.mono s2) (Same.refl g2)
    refine ⟨_, g3, hs2, ρ2, d, _, W3, d3, it i d acc ρ2 hd p, fun ρ3 σ3 h3 W4 c3 => ?_⟩
    have ew := wipe_chg c3 hj
    refine ⟨ew, _, g3, hs2, ρ3, _, W4, h3, fun c ρ4 g4 hs4 H4 h4 s4 W5 => ?_⟩
    cases c with
    | true =>
      refine ⟨_, g4, hs4, ρ4, _, W5, h4, fun yd ρ5 v g5 hs5 H5 h5 s5 W6 d6 => ?_⟩
      obtain ⟨_, _, hDD⟩ := W6.outF fD
      have rA5 : DPs g5 acc vsA := DPs.mono ((s3.trans s4).trans s5) rA
      refine ⟨vsA, hDD, by rw [rA.length]; omega, acc ++ [yd], vsA ++ [v], _, g5, hs5, h5, by rw [List.length_append, List.length_singleton]; omega, ?_, rA5.snoc d6, ((s2.trans s3).trans s4).trans s5⟩
      rw [← ew]
      exact (W6.wipe vs).chF fD
    | false =>
      refine ⟨acc, vsA, _, g4, hs4, h4, by omega, ?_, DPs.mono (s3.trans s4) rA, (s2.trans s3).trans s4⟩
      rw [← ew]
      exact W5.wipe vs
  · obtain ⟨acc, vsA, ρ2, g2, hs2, p, hl, W2, rA, s2⟩ := p
    obtain ⟨W3, A3, hDD⟩ := W2.outF fD
    exact k _ _ _ g2 hs2 (one D (.lst vsA)) H2 (ie acc ρ2 p D) (s1.trans s2) W3.unwipe ⟨rfl, vsA, one_same, rA⟩ A3
theorem do_lc {own : List (Str × Nat)} {α : Type} [IRel α] {wi : EIa α} {js : List Nat} {b : TBa α} {wt : ETb} {we : ET} (hN : X.N.Nodup) (hi : PI X tg iter (lI wi)) (ok : blkC X.N X.env.scope scope own = true)
    (hg : ∀ (s : Shared) (H : Hp) (C : Addr) (cl : List (Str × Addr)) (fp : List Addr), PG (X.blk s H scope (compEnvC scope cl C X.env) fp) tg (lG js b)) (ht : ∀ (s : Shared) (H : Hp) (C : Addr) (cl : List (Str × Addr)) (fp : List Addr), PTs (X.blk s H scope (compEnvC scope cl C X.env) fp) ifs (lT wt))
    (he : ∀ (s : Shared) (H : Hp) (C : Addr) (cl : List (Str × Addr)) (fp : List Addr), PE (X.blk s H scope (compEnvC scope cl C X.env) fp) elt (lE we)) (hj : ∀ j ∈ js, j ∈ own.map (·.2) := by decide) (hc : X.calm = true := by rfl) (hs : ∀ x, foldedSetIterable iter X.env x = pure x := by intro _; rfl) :
    PE X (.ListComp elt [⟨tg, iter, ifs, 0⟩] scope pos) (lO (dLc wi b wt we (own.map (·.2)))) := pe_imp (pe_lc hc hN hi (blkOk_by ok) hg ht he hs) fun _ _ _ h => lLc hj h
/-- {k: v for target in iter if ..} -/
def dDcK {α : Type} (b : TBa α) (wt : ETb) (wk wv : ET) (vs : List Nat) (P : SV → Ev → Prop) (ds : List α) (ρ1 : Ev) : Prop := ds.length ≤ sizeLine ∧ ∃ I : Nat → List (Key × PyData) → Ev → Prop, I 0 [] (wipeD ρ1 vs) ∧
  (∀ i d acc ρ2, ds[i]? = some d → I i acc ρ2 → b d ρ2 fun ρ3 => wt ρ3 fun c ρ4 => if c = true then wk ρ4 fun k ρ5 => wv ρ5 fun y ρ6 => ∃ key, keyD k = some key ∧ I (i + 1) (putD acc key y) (wipeD ρ6 vs) else I (i + 1) acc (wipeD ρ4 vs)) ∧
  ∀ acc ρ2, I ds.length acc ρ2 → ∀ a, P (.dic a acc) (wipeD ρ2 vs)
def dDc {α : Type} (wi : EIa α) (b : TBa α) (wt : ETb) (wk wv : ET) (vs : List Nat) (ρ : Ev) (P : SV → Ev → Prop) : Prop := wi ρ fun ds ρ1 => dDcK b wt wk wv vs P ds ρ1
theorem putD_len (kvs : List (Key × PyData)) (k : Key) (d : PyData) : (putD kvs k d).length ≤ kvs.length + 1 := by
  unfold putD
  split
  · rw [List.length_map]
    omega
  · rw [List.length_append, List.length_singleton]
    omega
theorem dc_it {J : It} {n : Nat} {G : Hp → Prop} {Y : Nat → Hp → V → Hp → Prop} (w : Walk J n G Y) {g : TG} {tt : TT} {tk tv : TE} {vs : List Nat} {σ : St} {H1 : Hp} {D : Addr} {Qd : Hp → Prop} (Pv : Nat → Hp → Prop) (h0 : Pv 0 (upd H1 D (.dK []))) (hG : ∀ i H, i ≤ n → Pv i H → G H)
    (hs : ∀ i x H H', i < n → Pv i H → Y i H x H' → g x (wipe σ vs) H' fun σ2 H2 => wipe σ2 vs = wipe σ vs ∧ tt σ2 H2 fun b H3 =>
      if b = true then tk σ2 H3 fun y H4 => tv σ2 H4 fun z H5 => ∃ kvs k, y = kV k ∧ H5 D = some (.dK kvs) ∧ kvs.length < sizeLine ∧ Pv (i + 1) (upd H5 D (.dK (putK kvs k z))) else Pv (i + 1) H3) (hd : ∀ H, Pv n H → Qd H) :
    ∃ W : Nat → Nat → Hp → Prop, (∃ m, W 0 m (upd H1 D (.dK []))) ∧ ∀ i m H, W i m H →
      (J.stop i H ∧ Qd H) ∨ (J.go i H ∧ ∃ Nx : Hp → Prop, (∀ H', Nx H' → ∃ m', m' < m ∧ W (i + 1) m' H') ∧ ∀ x H', J.yld i H x H' → g x (wipe σ vs) H' fun σ2 H2 => wipe σ2 vs = wipe σ vs ∧ tt σ2 H2 fun b H3 =>
        if b = true then tk σ2 H3 fun y H4 => tv σ2 H4 fun z H5 => ∃ kvs k, y = kV k ∧ H5 D = some (.dK kvs) ∧ kvs.length < sizeLine ∧ Nx (upd H5 D (.dK (putK kvs k z))) else Nx H3) := by
  refine ⟨fun i m H => m = n - i ∧ i ≤ n ∧ Pv i H, ⟨n, by simp, Nat.zero_le _, h0⟩, ?_⟩
  rintro i m H ⟨rfl, hi, p⟩
  have q := hG i H hi p
  by_cases hlt : i < n
  · refine .inr ⟨w.goes i H hlt q, Pv (i + 1), fun H' p' => ⟨n - (i + 1), by omega, rfl, hlt, p'⟩, fun x H' y => hs i x H H' hlt p (w.yields i H x H' hlt q y)⟩
  · have e : i = n := by omega
    subst e
    exact .inl ⟨w.stops H q, hd H p⟩
theorem lDc {α : Type} [IRel α] {wi : EIa α} {js : List Nat} {b : TBa α} {wt : ETb} {wk wv : ET} {vs : List Nat} {σ : St} {H : Hp} {Q : VK} (hj : ∀ j ∈ js, j ∈ vs) (h : lO (dDc wi b wt wk wv vs) σ H Q) : tDc (lI wi) (lG js b) (lT wt) (lE wk) (lE wv) vs σ H Q := by
  obtain ⟨fr, g, hs, ρ, P, W, h, k⟩ := h
  refine ⟨fr, g, hs, ρ, _, W, h, fun ds ρ1 g1 hs1 H1 J h1 s1 W1 wk D hD => ?_⟩
  obtain ⟨hz, I, i0, it, ie⟩ := h1
  have fD : fr D = none := none_of W1.sf hD
  refine dc_it wk (fun i H2 => ∃ acc vsA ρ2 g2 hs2, I i acc ρ2 ∧ acc.length ≤ i ∧ Own (uni fr (one D (.dK vsA))) g2 hs2 ρ2 (wipe σ vs) H2 ∧ KVs g2 acc vsA ∧ Same g1 g2) ⟨[], [], _, g1, hs1, i0, Nat.le_refl _, (W1.wipe vs).inF hD, .none, Same.refl g1⟩
    (fun i H2 _ p => ?_) (fun i x H2 H3 hi p y => ?_) fun H2 p => ?_
  · obtain ⟨acc, vsA, ρ2, g2, hs2, _, _, W2, _, s2⟩ := p
    exact s2.trans W2.sg
  · obtain ⟨acc, vsA, ρ2, g2, hs2, p, hl, W2, rA, s2⟩ := p
    obtain ⟨d, g3, hd, s3, W3, d3⟩ := W2.yd (y.mono s2) (Same.refl g2)
    refine ⟨_, g3, hs2, ρ2, d, _, W3, d3, it i d acc ρ2 hd p, fun ρ3 σ3 h3 W4 c3 => ?_⟩
    have ew := wipe_chg c3 hj
    refine ⟨ew, _, g3, hs2, ρ3, _, W4, h3, fun c ρ4 g4 hs4 H4 h4 s4 W5 => ?_⟩
    cases c with
    | true =>
      refine ⟨_, g4, hs4, ρ4, _, W5, h4, fun kd ρ5 kv g5 hs5 H5 h5 s5 W6 d6 => ⟨_, g5, hs5, ρ5, _, W6, h5, fun yd ρ6 v g6 hs6 H6 h6 s6 W7 d7 => ?_⟩⟩
      obtain ⟨key, ek, h6⟩ := h6
      obtain ⟨_, _, hDD⟩ := W7.outF fD
      have rA6 : KVs g6 acc vsA := KVs.mono (((s3.trans s4).trans s5).trans s6) rA
      refine ⟨vsA, key, keyD_kV d6 ek, hDD, by rw [rA.length]; omega, _, _, _, g6, hs6, h6, by have := putD_len acc key yd; omega, ?_, rA6.put d7, (((s2.trans s3).trans s4).trans s5).trans s6⟩
      rw [← ew]
      exact (W7.wipe vs).chF fD
    | false =>
      refine ⟨acc, vsA, _, g4, hs4, h4, by omega, ?_, KVs.mono (s3.trans s4) rA, (s2.trans s3).trans s4⟩
      rw [← ew]
      exact W5.wipe vs
  · obtain ⟨acc, vsA, ρ2, g2, hs2, p, hl, W2, rA, s2⟩ := p
    obtain ⟨W3, A3, hDD⟩ := W2.outF fD
    exact k _ _ _ g2 hs2 (one D (.dK vsA)) H2 (ie acc ρ2 p D) (s1.trans s2) W3.unwipe ⟨rfl, vsA, one_same, rA⟩ A3
theorem do_dc {kx vx : Expr} {own : List (Str × Nat)} {α : Type} [IRel α] {wi : EIa α} {js : List Nat} {b : TBa α} {wt : ETb} {wk wv : ET} (hN : X.N.Nodup) (hi : PI X tg iter (lI wi)) (ok : blkC X.N X.env.scope scope own = true)
    (hg : ∀ (s : Shared) (H : Hp) (C : Addr) (cl : List (Str × Addr)) (fp : List Addr), PG (X.blk s H scope (compEnvC scope cl C X.env) fp) tg (lG js b)) (ht : ∀ (s : Shared) (H : Hp) (C : Addr) (cl : List (Str × Addr)) (fp : List Addr), PTs (X.blk s H scope (compEnvC scope cl C X.env) fp) ifs (lT wt))
    (hk : ∀ (s : Shared) (H : Hp) (C : Addr) (cl : List (Str × Addr)) (fp : List Addr), PE (X.blk s H scope (compEnvC scope cl C X.env) fp) kx (lE wk))
    (he : ∀ (s : Shared) (H : Hp) (C : Addr) (cl : List (Str × Addr)) (fp : List Addr), PE (X.blk s H scope (compEnvC scope cl C X.env) fp) vx (lE wv)) (hj : ∀ j ∈ js, j ∈ own.map (·.2) := by decide) (hc : X.calm = true := by rfl) (hs : ∀ x, foldedSetIterable iter X.env x = pure x := by intro _; rfl) :
    PE X (.DictComp kx vx [⟨tg, iter, ifs, 0⟩] scope pos) (lO (dDc wi b wt wk wv (own.map (·.2)))) := pe_imp (pe_dc hc hN hi (blkOk_by ok) hg ht hk he hs) fun _ _ _ h => lDc hj h
end
end Fb
namespace Fb
open PySem L2
set_option autoImplicit false
variable [Tb]

/-! ### a def and its promise -/
def sameAt : SV → SV → Prop
  | .dat d, .dat d' => d = d'
  | .lst a _, .lst b _ => a = b
  | .dic a _, .dic b _ => a = b
  | .obj a _, .obj b _ => a = b
  | _, _ => False
/-- the arguments behind the body: data as they were, objects where they stand -/
def Fin (as as' : List SV) (ρ : Ev) : Prop := as'.length = as.length ∧ ∀ (i : Nat) sv sv', as[i]? = some sv → as'[i]? = some sv' → (sv = sv' ∧ ∃ d, sv = .dat d) ∨ (slot ρ i = some sv' ∧ sameAt sv sv')
/-- the same, reckoned -/
def ends : List SV → Ev → (List SV → Prop) → Prop
  | [], _, k => k []
  | .dat d :: as, ρ, k => ends as ρ.tail fun r => k (.dat d :: r)
  | sv :: as, some sv' :: ρ, k => sameAt sv sv' ∧ ends as ρ fun r => k (sv' :: r)
  | _ :: _, _, _ => False
@[simp] theorem ends_nil {ρ : Ev} {k : List SV → Prop} : ends [] ρ k = k [] := rfl
@[simp] theorem ends_dat {d : PyData} {as : List SV} {ρ : Ev} {k : List SV → Prop} : ends (.dat d :: as) ρ k = ends as ρ.tail fun r => k (.dat d :: r) := by cases ρ <;> rfl
@[simp] theorem ends_lst {a b : Addr} {ds es : List PyData} {as : List SV} {ρ : Ev} {k : List SV → Prop} : ends (.lst a ds :: as) (some (.lst b es) :: ρ) k = (a = b ∧ ends as ρ fun r => k (.lst b es :: r)) := rfl
@[simp] theorem ends_dic {a b : Addr} {ds es : List (Key × PyData)} {as : List SV} {ρ : Ev} {k : List SV → Prop} : ends (.dic a ds :: as) (some (.dic b es) :: ρ) k = (a = b ∧ ends as ρ fun r => k (.dic b es :: r)) := rfl
theorem ends_obj {a b : Addr} {o u : Ow} {as : List SV} {ρ : Ev} {k : List SV → Prop} : ends (.obj a o :: as) (some (.obj b u) :: ρ) k = (a = b ∧ ends as ρ fun r => k (.obj b u :: r)) := rfl
theorem Fin.of : ∀ {as : List SV} {ρ : Ev} {k : List SV → Prop}, ends as ρ k → ∃ as', k as' ∧ Fin as as' ρ
  | [], _, k, h => ⟨[], h, rfl, fun i sv sv' e => by simp at e⟩
  | sv :: as, ρ, k, h => by
    have step : ∀ {k2 : List SV → Prop} {sv2 : SV}, ends as ρ.tail k2 → ((sv = sv2 ∧ ∃ d, sv = .dat d) ∨ (slot ρ 0 = some sv2 ∧ sameAt sv sv2)) → (∀ r, k2 r → k (sv2 :: r)) → ∃ as', k as' ∧ Fin (sv :: as) as' ρ := fun {k2 sv2} h2 h3 h4 => by
      obtain ⟨r, hr, hl, hf⟩ := Fin.of h2
      refine ⟨sv2 :: r, h4 r hr, by rw [List.length_cons, List.length_cons, hl], fun i x y e1 e2 => ?_⟩
      cases i with
      | zero =>
        simp at e1 e2
        subst e1 e2
        exact h3
      | succ i =>
        rw [List.getElem?_cons_succ] at e1 e2
        rcases hf i x y e1 e2 with z | ⟨z1, z2⟩
        · exact .inl z
        · refine .inr ⟨?_, z2⟩
          cases ρ with
          | nil =>
            cases i <;> cases z1
          | cons q ρ => exact z1
    cases sv with
    | dat d =>
      rw [ends_dat] at h
      exact step h (.inl ⟨rfl, d, rfl⟩) fun r hr => hr
    | lst a ds =>
      cases ρ with
      | nil => exact h.elim
      | cons q ρ =>
        cases q with
        | none => exact h.elim
        | some sv' =>
          have h : sameAt (.lst a ds) sv' ∧ ends as ρ fun r => k (sv' :: r) := h
          exact step h.2 (.inr ⟨rfl, h.1⟩) fun r hr => hr
    | dic a ds =>
      cases ρ with
      | nil => exact h.elim
      | cons q ρ =>
        cases q with
        | none => exact h.elim
        | some sv' =>
          have h : sameAt (.dic a ds) sv' ∧ ends as ρ fun r => k (sv' :: r) := h
          exact step h.2 (.inr ⟨rfl, h.1⟩) fun r hr => hr
    | obj a o =>
      cases ρ with
      | nil => exact h.elim
      | cons q ρ =>
        cases q with
        | none => exact h.elim
        | some sv' =>
          have h : sameAt (.obj a o) sv' ∧ ends as ρ fun r => k (sv' :: r) := h
          exact step h.2 (.inr ⟨rfl, h.1⟩) fun r hr => hr
theorem Fin.data {ds : List PyData} {ρ : Ev} : Fin (ds.map .dat) (ds.map .dat) ρ := ⟨rfl, fun i sv sv' h h' => by
  rw [h] at h'
  cases h'
  rw [List.getElem?_map] at h
  obtain ⟨d, _, e⟩ := Option.map_eq_some_iff.mp h
  exact .inl ⟨rfl, d, e.symm⟩⟩
theorem rep_same {g : Hp} {sv sv' : SV} {v v' : V} {h h' : Hp} (r : Rep g sv v h) (r' : Rep g sv' v' h') (s : sameAt sv sv') (n : ∀ d, sv ≠ .dat d) : v = v' := by
  cases sv <;> cases sv' <;> try exact s.elim
  · exact absurd rfl (n _)
  · obtain ⟨e, _⟩ := r
    obtain ⟨e', _⟩ := r'
    have s : _ = _ := s
    rw [e, e', s]
  · obtain ⟨e, _⟩ := r
    obtain ⟨e', _⟩ := r'
    have s : _ = _ := s
    rw [e, e', s]
  · obtain ⟨e, _⟩ := r
    obtain ⟨e', _⟩ := r'
    have s : _ = _ := s
    rw [e, e', s]
theorem Own.fin {fr g g' : Hp} {hs hs' : Prts} {ρ : Ev} {σ : St} {H H' ht : Hp} {as as' : List SV} {vs : List V} {N : List Str} {hsA : Prts} (W0 : Own fr g hs (as.map some) (vs.map some) H) (s : Same g g') (W : Own fr g' hs' ρ σ H') (A : Apart fr g' hs' ht H') (F : Fin as as' ρ)
    (hv : ∀ (i : Nat) v, vs[i]? = some v → True) : ∃ hs2, Own fr g' hs2 (as'.map some) (vs.map some) H' ∧ Apart fr g' hs2 ht H' := by
  classical
  let hs2 : Prts := fun i => if (∃ sv, as'[i]? = some sv ∧ ∀ d, sv ≠ .dat d) then hs' i else nil
  have sub : ∀ i a o, hs2 i a = some o → hs' i a = some o := fun i a o e => by
    by_cases q : ∃ sv, as'[i]? = some sv ∧ ∀ d, sv ≠ .dat d
    · have e : (if (∃ sv, as'[i]? = some sv ∧ ∀ d, sv ≠ .dat d) then hs' i else nil) a = some o := e
      rw [if_pos q] at e
      exact e
    · have e : (if (∃ sv, as'[i]? = some sv ∧ ∀ d, sv ≠ .dat d) then hs' i else nil) a = some o := e
      rw [if_neg q] at e
      cases e
  have nn : ∀ i a, hs' i a = none → hs2 i a = none := fun i a e => by
    cases q : hs2 i a with
    | none => rfl
    | some o =>
      rw [sub i a o q] at e
      cases e
  refine ⟨hs2, ⟨?_, W.sf, fun a o e => ⟨(W.df a o e).1, fun i => nn i a ((W.df a o e).2 i)⟩, W.sg, fun i a o e => W.sh i _ _ (sub i a o e), fun i a o e => W.dg i a o (sub i a o e), fun i j a o ij e => nn j a (W.dh i j a o ij (sub i a o e)), fun i sv' e => ?_, W.tb, W.nf, W.ng, fun i a o e => W.nh i a o (sub i a o e)⟩,
    A.s, fun a o e => ⟨(A.n a o e).1, (A.n a o e).2.1, fun i => nn i a ((A.n a o e).2.2 i)⟩, A.d⟩
  · rw [List.length_map, F.1, ← W0.len, List.length_map]
  · have e' : as'[i]? = some sv' := by
      rw [List.getElem?_map] at e
      cases q : as'[i]? with
      | none =>
        rw [q] at e
        cases e
      | some z =>
        rw [q] at e
        cases e
        rfl
    have hl : i < as.length := by
      rw [← F.1]
      exact (List.getElem?_eq_some_iff.mp e').1
    have ea : as[i]? = some as[i] := List.getElem?_eq_getElem hl
    obtain ⟨v, h1, h2⟩ := W0.rep i as[i] (by rw [List.getElem?_map, ea]; rfl)
    rcases F.2 i _ sv' ea e' with ⟨e1, d, e2⟩ | ⟨e1, e2⟩
    · rw [← e1, e2]
      rw [e2] at h2
      exact ⟨v, h1, DP.mono s h2⟩
    · obtain ⟨v', h3, h4⟩ := W.at e1
      by_cases q : ∃ d, sv' = .dat d
      · obtain ⟨d, q⟩ := q
        subst q
        cases z : as[i] with
        | dat d' =>
          rw [z] at e2 h2
          have e2 : d' = d := e2
          subst e2
          exact ⟨v, h1, DP.mono s h2⟩
        | lst _ _ =>
          rw [z] at e2
          exact e2.elim
        | dic _ _ =>
          rw [z] at e2
          exact e2.elim
        | obj _ _ =>
          rw [z] at e2
          exact e2.elim
      · have nd : ∀ d, sv' ≠ .dat d := fun d z => q ⟨d, z⟩
        have ev : v = v' := rep_same (h2.mono s) h4 e2 fun d z => by
          rw [z] at e2
          cases sv' <;> first
            | exact nd _ rfl
            | exact e2.elim
        subst ev
        refine ⟨v, h1, ?_⟩
        have eh : hs2 i = hs' i := if_pos ⟨sv', e', nd⟩
        rw [eh]
        exact h4
@[simp] def startD (N : List Str) (as : List SV) : Ev := as.map some ++ List.replicate (N.length - as.length) none
theorem Own.begin {fr g : Hp} {hs : Prts} {H : Hp} {as : List SV} {vs : List V} (N : List Str) (W : Own fr g hs (as.map some) (vs.map some) H) : Own fr g hs (startD N as) (L2.start N vs) H := by
  have hl : as.length = vs.length := by
    have e := W.len
    rw [List.length_map, List.length_map] at e
    exact e
  refine ⟨?_, W.sf, W.df, W.sg, W.sh, W.dg, W.dh, fun i sv e => ?_, W.tb, W.nf, W.ng, W.nh⟩
  · unfold startD L2.start
    rw [List.length_append, List.length_append, List.length_map, List.length_map, List.length_replicate, List.length_replicate, hl]
  · unfold startD at e
    by_cases q : i < as.length
    · rw [List.getElem?_append_left (by rw [List.length_map]; exact q)] at e
      obtain ⟨v, h1, h2⟩ := W.rep i sv e
      refine ⟨v, ?_, h2⟩
      unfold L2.start
      rw [List.getElem?_append_left (by rw [List.length_map, ← hl]; exact q)]
      exact h1
    · rw [List.getElem?_append_right (by rw [List.length_map]; omega)] at e
      by_cases q2 : i - (as.map some).length < N.length - as.length
      · rw [List.getElem?_replicate, if_pos q2] at e
        cases e
      · rw [List.getElem?_replicate, if_neg q2] at e
        cases e
section
variable {P : Program} {w : World} {K : PySem.W.Frag} {mg : Str → Option Value} {base : Heap} {x qual : Str} {st : Stmt} {f : Addr} {fd : FuncData} {N ps : List Str} {k : Nat}
abbrev FunS (K : PySem.W.Frag) (x qual : Str) (st : Stmt) (kws : List (Str × V)) (f : Addr) (fd : FuncData) : Prop := FunD K x qual (defArgs st) (defBody st) (defScope st) [] kws f fd
theorem _root_.L2.FunD.okC {params : Arguments} {body : List Stmt} {scope : Scope} {dvs : List V} {kws : List (Str × V)} {CX : CXT} {sp : Sp} (F : FunD K x qual params body scope dvs kws f fd) (S : FnScope N ps scope) (len : ∀ vs H Q E, sp vs H Q E → vs.length = ps.length)
    (hbody : ∀ (cdv : Value) (A : Around) (outer : List PySem.Env) (s : Shared) (H : Hp) (vs : List V) (Q : VK) (E : XK), fd.code = cdv → Room k (A.deeper (PyProof.Rows.envOfC qual scope s.heap.objs.size f cdv)) → sp vs H Q E →
      ∃ t, PSs (cxOf CX P w K mg base N qual scope f cdv A outer s H E) body t ∧ t { nx := fun _ H' => Q .non H', rt := Q } (L2.start N vs) H) : FnOk P w K mg base CX (k + 1) f fd ps sp := by
  obtain ⟨oc, od, dV, kV, doc, pm, an, cdv, ct, osl, rfl, lk, hcd, _, _⟩ := F.ex
  exact fn_of lk hcd S len fun A outer s H vs Q E hr hsp => hbody cdv A outer s H vs Q E rfl hr hsp
/-- a def that raises nothing keeps its promise, by its body's reading over slots -/
theorem fn_d {kws : List (Str × V)} {S : FS} (F : FunS K x qual st kws f fd) (sc : FnScope N ps (defScope st)) {v : SE}
    (hb : ∀ (cdv : Value) (A : Around) (outer : List PySem.Env) (s : Shared) (H : Hp) (E : XK), fd.code = cdv → Room k (A.deeper (PyProof.Rows.envOfC qual (defScope st) s.heap.objs.size f cdv)) → PSs (cxOf CX0 P w K mg base N qual (defScope st) f cdv A outer s H E).nox (defBody st) (lS K E0 v))
    (hw : ∀ as Pq, as.length = ps.length → S as Pq → v { nx := fun ρ => ends as ρ (Pq (.dat .none)), rt := fun r ρ => ends as ρ (Pq r) } (startD N as)) : FnOk P w K mg base CX0 (k + 1) f fd ps (spL ps.length S) := by
  refine F.okC sc spL_len (fun cdv A outer s H vs Q E hc hr h => ⟨_, (hb cdv A outer s H E hc hr).nox, ?_⟩)
  obtain ⟨fr, g, hs, as, Pq, hl, W, hS, kq⟩ := h
  refine ⟨fr, g, hs, _, _, W.begin N, hw as Pq hl hS, fun ρ' σ' g' hs' H' h s W' => ?_, fun r ρ' σ' u g' hs' ht H' h s W' R' A' => ?_, fun _ _ _ _ _ h => h.elim, fun _ _ _ _ _ h => h.elim, fun _ _ _ _ _ _ _ _ h => h.elim⟩
  · obtain ⟨as', hq, hf⟩ := Fin.of h
    obtain ⟨hs2, W2, A2⟩ := W.fin (N := N) (hsA := hs) s W' (apart_nil (H := H')) hf fun _ _ _ => trivial
    exact kq _ _ _ g' hs2 nil H' hq s W2 rfl A2
  · obtain ⟨as', hq, hf⟩ := Fin.of h
    obtain ⟨hs2, W2, A2⟩ := W.fin (N := N) (hsA := hs) s W' A' hf fun _ _ _ => trivial
    exact kq _ _ _ g' hs2 ht H' hq s W2 R' A2
end

/-! ### a call -/
/-- the name x stands for a def that keeps its promise -/
structure DefOk (X : Cx) (CX : CXT) (k : Nat) (x : Str) (ps : List Str) (sp : Sp) : Prop where
  ex : ∃ (f : Addr) (fd : FuncData), X.mg x = some (.ref f) ∧ PySem.W.keepIn X.K (.ref f) = true ∧ FnOk X.prog X.w X.K X.mg X.base CX k f fd ps sp ∧ Binds X.K fd ps []
def dCall1 (n : Nat) (P : FS) (w : EK) (ρ : Ev) (Q : SV → Ev → Prop) : Prop := w ρ fun ks ρ1 => ks.length = n ∧ ndB ks = true ∧ withArgs ρ1 ks fun as => P as fun r as' => Q r (back ks as' ρ1)
/-- a pure function of data -/
abbrev PF := List PyData → (SV → Prop) → Prop
@[simp] def fPure (n : Nat) (f : PF) : FS := fun as Q => ∃ ds, as = ds.map .dat ∧ ds.length = n ∧ f ds fun r => Q r as
def dCallP (n : Nat) (f : PF) (w : EA) (ρ : Ev) (Q : SV → Ev → Prop) : Prop := w ρ fun ds ρ1 => ds.length = n ∧ f ds fun r => Q r ρ1
section
variable {X : Cx} {CX : CXT} {k : Nat} {x : Str} {ps : List Str} {e : Expr} {es : List Expr} {p pos : Pos}
theorem lO_call1 {n : Nat} {P : FS} {w : EK} {σ : St} {H : Hp} {Q : VK} (E : XK) (h : lO (dCall1 n P w) σ H Q) : lK w σ H fun vs H1 => spL n P (vs ++ []) H1 Q E := by
  obtain ⟨fr, g, hs, ρ, Pq, W, h, k⟩ := h
  refine ⟨fr, g, hs, ρ, _, W, h, fun ks ρ1 vs g1 hs1 H1 h1 s1 W1 A1 => ?_⟩
  obtain ⟨hn, nd, h1⟩ := h1
  obtain ⟨as, h1, hl, hk⟩ := withArgs_is h1
  obtain ⟨frc, hsc, Wc, bk⟩ := W1.pass nd A1 hl hk
  rw [List.append_nil]
  refine ⟨frc, g1, hsc, as, _, hl.trans hn, Wc, h1, fun r as' v g' hs' ht H' hq s' W' r' A' => ?_⟩
  obtain ⟨hs2, W2, A2⟩ := bk g' hs' as' ht H' s' W' A'
  exact k r _ v g' hs2 ht H' hq (s1.trans s') W2 r' A2
theorem do_call {P : FS} {w : EK} (D : DefOk X CX0 k x ps (spL ps.length P)) (hr : Room k X.A) (ha : PA X (e :: es) (lK w)) (hg : Gl X x := by rfl) (hdb : (x == ("__debug__" : Str)) = false := by decide)
    (he : starEach (e :: es) X.env = (false, eval e X.env) :: starEach es X.env := by rfl) (hpl : (backTo pos (starEach es X.env)).any (·.1) = false := by rfl) : PE X (.Call (.Name x p) (e :: es) [] pos) (lO (dCall1 ps.length P w)) := by
  obtain ⟨f, fd, hm, hk, F, hb⟩ := D.ex
  exact pe_imp (pe_call (dvs := []) F hr hg hm hk hb .nil pass0 ha hdb he hpl) fun _ _ _ h => lO_call1 _ h
theorem withArgs_data {ρ : Ev} : ∀ {ds : List PyData} {k : List SV → Prop}, k (ds.map .dat) → withArgs ρ (ds.map .inr) k
  | [], _, h => h
  | d :: ds, k, h => withArgs_data (ds := ds) (k := fun as => k (.dat d :: as)) h
theorem ndB_data : ∀ ds : List PyData, ndB (ds.map .inr) = true
  | [] => rfl
  | _ :: ds => ndB_data ds
theorem back_data {ρ : Ev} : ∀ (ds : List PyData) (as : List SV), back (ds.map .inr) as ρ = ρ
  | [], _ => rfl
  | _ :: _, [] => rfl
  | _ :: ds, _ :: as => back_data ds as
theorem DPs.args {g : Hp} {σ : St} : ∀ {ds : List PyData} {vs : List V}, DPs g ds vs → ArgsAre g σ (ds.map .inr) vs
  | [], _, h => by
    have z : _ = [] := h
    rw [z]
    exact .nil
  | _ :: _, _, ⟨v, r, e, h, t⟩ => by
    rw [e]
    exact .cons h (DPs.args t)
theorem do_callP {f : PF} {w : EA} (D : DefOk X CX0 k x ps (spL ps.length (fPure ps.length f))) (hr : Room k X.A) (ha : PA X (e :: es) (lA w)) (hg : Gl X x := by rfl) (hdb : (x == ("__debug__" : Str)) = false := by decide)
    (he : starEach (e :: es) X.env = (false, eval e X.env) :: starEach es X.env := by rfl) (hpl : (backTo pos (starEach es X.env)).any (·.1) = false := by rfl) : PE X (.Call (.Name x p) (e :: es) [] pos) (lO (dCallP ps.length f w)) := by
  obtain ⟨fa, fd, hm, hk, F, hb⟩ := D.ex
  refine pe_imp (pe_call (dvs := []) F hr hg hm hk hb .nil pass0 ha hdb he hpl) fun σ H Q h => ?_
  obtain ⟨fr, g, hs, ρ, P, W, h, k⟩ := h
  refine ⟨fr, g, hs, ρ, _, W, h, fun ds ρ1 vs g1 hs1 H1 h1 s1 W1 r1 => ?_⟩
  obtain ⟨hn, h1⟩ := h1
  obtain ⟨frc, hsc, Wc, bk⟩ := W1.pass (as := ds.map .dat) (ndB_data ds) r1.args (by rw [List.length_map, List.length_map]) fun j sv e => by
    rw [List.getElem?_map] at e
    obtain ⟨d, e1, e2⟩ := Option.map_eq_some_iff.mp e
    exact ⟨.inr d, by rw [List.getElem?_map, e1]; rfl, .inr ⟨d, rfl, e2.symm⟩⟩
  rw [List.append_nil]
  refine ⟨frc, g1, hsc, ds.map .dat, fun r _ => P r ρ1, by rw [List.length_map]; exact hn, Wc, ⟨ds, rfl, hn, h1⟩, fun r as' v g' hs' ht H' hq s' W' r' A' => ?_⟩
  obtain ⟨hs2, W2, A2⟩ := bk g' hs' as' ht H' s' W' A'
  rw [back_data] at W2
  exact k r _ v g' hs2 ht H' hq (s1.trans s') W2 r' A2
end
/-- a pure def's promise -/
theorem fn_pure {P : Program} {w : World} {K : PySem.W.Frag} {mg : Str → Option Value} {base : Heap} {x qual : Str} {st : Stmt} {f : Addr} {fd : FuncData} {N ps : List Str} {k : Nat} {kws : List (Str × V)} {pf : PF} (F : FunS K x qual st kws f fd) (sc : FnScope N ps (defScope st)) {v : SE}
    (hb : ∀ (cdv : Value) (A : Around) (outer : List PySem.Env) (s : Shared) (H : Hp) (E : XK), fd.code = cdv → Room k (A.deeper (PyProof.Rows.envOfC qual (defScope st) s.heap.objs.size f cdv)) → PSs (cxOf CX0 P w K mg base N qual (defScope st) f cdv A outer s H E).nox (defBody st) (lS K E0 v))
    (hw : ∀ ds (k : SV → Prop), ds.length = ps.length → pf ds k → v { nx := fun _ => k (.dat .none), rt := fun r _ => k r } (startD N (ds.map .dat))) : FnOk P w K mg base CX0 (k + 1) f fd ps (spL ps.length (fPure ps.length pf)) := by
  refine F.okC sc spL_len (fun cdv A outer s H vs Q E hc hr h => ⟨_, (hb cdv A outer s H E hc hr).nox, ?_⟩)
  obtain ⟨fr, g, hs, as, Pq, hl, W, ⟨ds, e, hd, hS⟩, kq⟩ := h
  subst e
  refine ⟨fr, g, hs, _, _, W.begin N, hw ds _ hd hS, fun ρ' σ' g' hs' H' h s W' => ?_, fun r ρ' σ' u g' hs' ht H' h s W' R' A' => ?_, fun _ _ _ _ _ h => h.elim, fun _ _ _ _ _ h => h.elim, fun _ _ _ _ _ _ _ _ h => h.elim⟩
  · obtain ⟨hs2, W2, A2⟩ := W.fin (N := N) (hsA := hs) s W' (apart_nil (H := H')) Fin.data fun _ _ _ => trivial
    exact kq _ _ _ g' hs2 nil H' h s W2 rfl A2
  · obtain ⟨hs2, W2, A2⟩ := W.fin (N := N) (hsA := hs) s W' A' Fin.data fun _ _ _ => trivial
    exact kq _ _ _ g' hs2 ht H' h s W2 R' A2
end Fb
namespace Fb
open PySem L2
set_option autoImplicit false
variable [Tb]

/-! ### built-ins of data -/
def CallD (r : List V → Hp → VK → Prop) (f : List PyData → (PyData → Prop) → Prop) : Prop := ∀ g H ds vs k Q, Same g H → DPs g ds vs → f ds k → OutD g H k Q → r vs H Q
def dB (f : List PyData → (PyData → Prop) → Prop) (w : EA) (ρ : Ev) (P : PyData → Ev → Prop) : Prop := w ρ fun ds ρ1 => f ds fun d => P d ρ1
section
variable {X : Cx} {e : Expr} {es : List Expr} {p pos : Pos} {x : Str}
theorem lB {r : List V → Hp → VK → Prop} {f : List PyData → (PyData → Prop) → Prop} {w : EA} (hf : CallD r f) {σ : St} {H : Hp} {Q : VK} (h : lE (dB f w) σ H Q) : tCB r (lA w) σ H Q := by
  obtain ⟨fr, g, hs, ρ, P, W, h, k⟩ := h
  exact ⟨fr, g, hs, ρ, _, W, h, fun ds ρ1 vs g1 hs1 H1 h1 s1 W1 r1 => hf g1 H1 ds vs _ Q W1.sg r1 h1 (W1.out s1 k)⟩
theorem de_blt {id : String} {r : List V → Hp → VK → Prop} {f : List PyData → (PyData → Prop) → Prop} {w : EA} (hc : CallR X (.builtin id) r) (hf : CallD r f) (hm : X.mg x = none) (hv : bootBuiltins x = some (.builtin id)) (ha : PA X (e :: es) (lA w)) (hg : Gl X x := by rfl)
    (hn : x ≠ "__name__" := by decide) (hdb : (x == ("__debug__" : Str)) = false := by decide) (he : starEach (e :: es) X.env = (false, eval e X.env) :: starEach es X.env := by rfl) (hpl : (backTo pos (starEach es X.env)).any (·.1) = false := by rfl) :
    PE X (.Call (.Name x p) (e :: es) [] pos) (lE (dB f w)) := pe_imp (pe_callB hc hg hm hv ha hn hdb he hpl) fun _ _ _ h => lB hf h
theorem de_bltT {T : String} {r : List V → Hp → VK → Prop} {f : List PyData → (PyData → Prop) → Prop} {w : EA} (hc : CallR X (.type T) r) (hf : CallD r f) (hm : X.mg x = none) (hv : bootBuiltins x = some (.type T)) (ha : PA X (e :: es) (lA w)) (hg : Gl X x := by rfl)
    (hn : x ≠ "__name__" := by decide) (hdb : (x == ("__debug__" : Str)) = false := by decide) (he : starEach (e :: es) X.env = (false, eval e X.env) :: starEach es X.env := by rfl) (hpl : (backTo pos (starEach es X.env)).any (·.1) = false := by rfl) :
    PE X (.Call (.Name x p) (e :: es) [] pos) (lE (dB f w)) := pe_imp (pe_callTy hc hg hm hv ha hn hdb he hpl) fun _ _ _ h => lB hf h
end
@[simp] def fLen : List PyData → (PyData → Prop) → Prop
  | [.list ds], k => k (.int (ds.length : Nat))
  | [.tuple ds], k => k (.int (ds.length : Nat))
  | [.str z], k => z.length ≤ sizeLine ∧ k (.int (z.length : Nat))
  | _, _ => False
theorem cd_len (K : PySem.W.Frag) : CallD (fun xs H Q => ∃ x n, xs = [x] ∧ LenV K x H n ∧ Q (.int n) H) fLen := by
  intro g H ds vs k Q s r h o
  match ds, h with
  | [.list ds], h =>
    obtain ⟨v, e, a, us, ev, ha, ru⟩ := dps_one r
    exact ⟨v, us.length, e, by rw [ev]; exact .inl ⟨us, SqL.of (s _ _ ha), rfl⟩, by rw [ru.length]; exact o.old _ _ h rfl⟩
  | [.tuple ds], h =>
    obtain ⟨v, e, a, us, ev, ha, ru⟩ := dps_one r
    exact ⟨v, us.length, e, by rw [ev]; exact .inr ⟨us, SqT.of (s _ _ ha), rfl⟩, by rw [ru.length]; exact o.old _ _ h rfl⟩
  | [.str z], h =>
    obtain ⟨v, e, ev, _⟩ := dps_one r
    exact ⟨v, z.length, e, by rw [ev]; exact ⟨h.1, rfl⟩, o.old _ _ h.2 rfl⟩
@[simp] def fInt : List PyData → (PyData → Prop) → Prop
  | [.int i], k => k (.int i)
  | [.bool b], k => k (.int (if b then 1 else 0))
  | [.str z], k => ∃ n, PySem.intText? z = some n ∧ z.length ≤ 640 ∧ k (.int n)
  | _, _ => False
theorem dps_none {g : Hp} {us : List V} (h : DPs g [] us) : us = [] := h
theorem op_intAll {X : Cx} : CallR X (.type "int") (fun xs H Q => ((∃ i, xs = [.int i] ∧ Q (.int i) H) ∨ ∃ k, xs = [.bl k] ∧ Q (.int (if k then 1 else 0)) H) ∨ (∃ a n, xs = [.str a] ∧ PySem.intText? a = some n ∧ a.length ≤ 640 ∧ Q (.int n) H)) :=
  CallR.or call_int1 call_int_str
theorem cd_int : CallD (fun xs H Q => ((∃ i, xs = [V.int i] ∧ Q (.int i) H) ∨ ∃ k, xs = [.bl k] ∧ Q (.int (if k then 1 else 0)) H) ∨ (∃ a n, xs = [.str a] ∧ PySem.intText? a = some n ∧ a.length ≤ 640 ∧ Q (.int n) H)) fInt := by
  intro g H ds vs k Q s r h o
  match ds, h with
  | [.int i], h =>
    obtain ⟨v, e, ev⟩ := dps_one r
    have ev : v = .int i := ev
    exact .inl (.inl ⟨i, by rw [e, ev], o.old _ _ h rfl⟩)
  | [.bool b], h =>
    obtain ⟨v, e, ev⟩ := dps_one r
    have ev : v = .bl b := ev
    exact .inl (.inr ⟨b, by rw [e, ev], o.old _ _ h rfl⟩)
  | [.str z], h =>
    obtain ⟨v, e, ev, _⟩ := dps_one r
    obtain ⟨n, h1, h2, h3⟩ := h
    exact .inr ⟨z, n, by rw [e, ev], h1, h2, o.old _ _ h3 rfl⟩
/-- tuple(x): of a list a new one, of a tuple itself -/
@[simp] def fTup : List PyData → (PyData → Prop) → Prop
  | [.list ds], k => k (.tuple ds)
  | [.tuple ds], k => k (.tuple ds)
  | _, _ => False
theorem cd_tup (K : PySem.W.Frag) : CallD (fun xs H Q => ∃ p ys, xs = [.ref p] ∧ ((SqL K H p ys ∧ ∀ l, H l = none → Q (.ref l) (upd H l (.tup ys))) ∨ (SqT K H p ys ∧ Q (.ref p) H))) fTup := by
  intro g H ds vs k Q s r h o
  match ds, h with
  | [.list ds], h =>
    obtain ⟨v, e, a, us, ev, ha, ru⟩ := dps_one r
    refine ⟨a, us, by rw [e, ev], .inl ⟨SqL.of (s _ _ ha), fun l hl => ?_⟩⟩
    exact o.new _ l _ h hl ⟨l, us, rfl, upd_same, ru.mono (Same.new (none_of s hl))⟩
  | [.tuple ds], h =>
    obtain ⟨v, e, a, us, ev, ha, ru⟩ := dps_one r
    exact ⟨a, us, by rw [e, ev], .inr ⟨SqT.of (s _ _ ha), o.old _ _ h ⟨a, us, rfl, ha, ru⟩⟩⟩
@[simp] def fMin2 : List PyData → (PyData → Prop) → Prop
  | [.int i, .int j], k => k (.int (if j < i then j else i))
  | _, _ => False
@[simp] def fMax2 : List PyData → (PyData → Prop) → Prop
  | [.int i, .int j], k => k (.int (if j > i then j else i))
  | _, _ => False
theorem dps_two {g : Hp} {i j : Int} {us : List V} (h : DPs g [.int i, .int j] us) : us = [.int i, .int j] := by
  obtain ⟨v, r, e, dv, h⟩ := h
  obtain ⟨u, e2, du⟩ := dps_one h
  have dv : v = .int i := dv
  have du : u = .int j := du
  rw [e, e2, dv, du]
theorem cd_min2 : CallD (fun xs H Q => ∃ i j, xs = [V.int i, .int j] ∧ Q (.int (if j < i then j else i)) H) fMin2 := by
  intro g H ds vs k Q s r h o
  match ds, h with
  | [.int i, .int j], h => exact ⟨i, j, dps_two r, o.old _ _ h rfl⟩
theorem cd_max2 : CallD (fun xs H Q => ∃ i j, xs = [V.int i, .int j] ∧ Q (.int (if j > i then j else i)) H) fMax2 := by
  intro g H ds vs k Q s r h o
  match ds, h with
  | [.int i, .int j], h => exact ⟨i, j, dps_two r, o.old _ _ h rfl⟩
def asInts : List PyData → Option (List Int)
  | [] => some []
  | .int i :: r => (asInts r).map (i :: ·)
  | _ => none
def asBools : List PyData → Option (List Bool)
  | [] => some []
  | .bool i :: r => (asBools r).map (i :: ·)
  | _ => none
theorem asInts_eq : ∀ {ds : List PyData} {ns : List Int}, asInts ds = some ns → ds = ns.map .int
  | [], _, h => by cases h; rfl
  | .int i :: r, ns, h => by
    obtain ⟨m, h1, h2⟩ := Option.map_eq_some_iff.mp (show (asInts r).map (i :: ·) = some ns from h)
    rw [← h2, asInts_eq h1] <;> rfl
theorem asBools_eq : ∀ {ds : List PyData} {ns : List Bool}, asBools ds = some ns → ds = ns.map .bool
  | [], _, h => by cases h; rfl
  | .bool i :: r, ns, h => by
    obtain ⟨m, h1, h2⟩ := Option.map_eq_some_iff.mp (show (asBools r).map (i :: ·) = some ns from h)
    rw [← h2, asBools_eq h1] <;> rfl
theorem asInts_map : ∀ ns : List Int, asInts (ns.map .int) = some ns
  | [] => rfl
  | n :: ns => by
    show (asInts (ns.map .int)).map (n :: ·) = _
    rw [asInts_map ns] <;> rfl
theorem asBools_map : ∀ ns : List Bool, asBools (ns.map .bool) = some ns
  | [] => rfl
  | n :: ns => by
    show (asBools (ns.map .bool)).map (n :: ·) = _
    rw [asBools_map ns] <;> rfl
@[simp] def fSum : List PyData → (PyData → Prop) → Prop
  | [.list ds], k => ∃ ns, asInts ds = some ns ∧ k (.int ns.sum)
  | _, _ => False
@[simp] def fAll : List PyData → (PyData → Prop) → Prop
  | [.list ds], k => ∃ bs, asBools ds = some bs ∧ k (.bool (bs.all id))
  | _, _ => False
@[simp] def fAny : List PyData → (PyData → Prop) → Prop
  | [.list ds], k => ∃ bs, asBools ds = some bs ∧ k (.bool (bs.any id))
  | _, _ => False
theorem cd_sum (K : PySem.W.Frag) : CallD (rSum K) fSum := by
  intro g H ds vs k Q s r h o
  match ds, h with
  | [.list ds], h =>
    obtain ⟨v, e, a, us, ev, ha, ru⟩ := dps_one r
    obtain ⟨ns, h1, h2⟩ := h
    rw [asInts_eq h1] at ru
    rw [ru.ints] at ha
    exact ⟨a, ns, by rw [e, ev], SqL.of (s _ _ ha), o.old _ _ h2 rfl⟩
theorem cd_all (K : PySem.W.Frag) : CallD (rAll K) fAll := by
  intro g H ds vs k Q s r h o
  match ds, h with
  | [.list ds], h =>
    obtain ⟨v, e, a, us, ev, ha, ru⟩ := dps_one r
    obtain ⟨ns, h1, h2⟩ := h
    rw [asBools_eq h1] at ru
    rw [ru.bls] at ha
    exact ⟨a, ns, by rw [e, ev], SqL.of (s _ _ ha), o.old _ _ h2 rfl⟩
theorem cd_any (K : PySem.W.Frag) : CallD (rAny K) fAny := by
  intro g H ds vs k Q s r h o
  match ds, h with
  | [.list ds], h =>
    obtain ⟨v, e, a, us, ev, ha, ru⟩ := dps_one r
    obtain ⟨ns, h1, h2⟩ := h
    rw [asBools_eq h1] at ru
    rw [ru.bls] at ha
    exact ⟨a, ns, by rw [e, ev], SqL.of (s _ _ ha), o.old _ _ h2 rfl⟩

/-! ### isinstance -/
def tyName : PyData → String
  | .none => "NoneType"
  | .bool _ => "bool"
  | .int _ => "int"
  | .str _ => "str"
  | .list _ => "list"
  | .tuple _ => "tuple"
  | .dict _ => "dict"
@[simp] def isInt : PyData → Bool
  | .int _ => true
  | .bool _ => true
  | _ => false
@[simp] def isBl : PyData → Bool
  | .bool _ => true
  | _ => false
@[simp] def isStr : PyData → Bool
  | .str _ => true
  | _ => false
@[simp] def isTup : PyData → Bool
  | .tuple _ => true
  | _ => false
@[simp] def isLst : PyData → Bool
  | .list _ => true
  | _ => false
theorem kit_int : ∀ d : PyData, kitB (tyName d) "int" = some (isInt d)
  | .none => (by decide +kernel : kitB "NoneType" "int" = some false)
  | .bool _ => (by decide +kernel : kitB "bool" "int" = some true)
  | .int _ => (by decide +kernel : kitB "int" "int" = some true)
  | .str _ => (by decide +kernel : kitB "str" "int" = some false)
  | .list _ => (by decide +kernel : kitB "list" "int" = some false)
  | .tuple _ => (by decide +kernel : kitB "tuple" "int" = some false)
  | .dict _ => (by decide +kernel : kitB "dict" "int" = some false)
theorem kit_bl : ∀ d : PyData, kitB (tyName d) "bool" = some (isBl d)
  | .none => (by decide +kernel : kitB "NoneType" "bool" = some false)
  | .bool _ => (by decide +kernel : kitB "bool" "bool" = some true)
  | .int _ => (by decide +kernel : kitB "int" "bool" = some false)
  | .str _ => (by decide +kernel : kitB "str" "bool" = some false)
  | .list _ => (by decide +kernel : kitB "list" "bool" = some false)
  | .tuple _ => (by decide +kernel : kitB "tuple" "bool" = some false)
  | .dict _ => (by decide +kernel : kitB "dict" "bool" = some false)
theorem kit_str : ∀ d : PyData, kitB (tyName d) "str" = some (isStr d)
  | .none => (by decide +kernel : kitB "NoneType" "str" = some false)
  | .bool _ => (by decide +kernel : kitB "bool" "str" = some false)
  | .int _ => (by decide +kernel : kitB "int" "str" = some false)
  | .str _ => (by decide +kernel : kitB "str" "str" = some true)
  | .list _ => (by decide +kernel : kitB "list" "str" = some false)
  | .tuple _ => (by decide +kernel : kitB "tuple" "str" = some false)
  | .dict _ => (by decide +kernel : kitB "dict" "str" = some false)
theorem kit_tup : ∀ d : PyData, kitB (tyName d) "tuple" = some (isTup d)
  | .none => (by decide +kernel : kitB "NoneType" "tuple" = some false)
  | .bool _ => (by decide +kernel : kitB "bool" "tuple" = some false)
  | .int _ => (by decide +kernel : kitB "int" "tuple" = some false)
  | .str _ => (by decide +kernel : kitB "str" "tuple" = some false)
  | .list _ => (by decide +kernel : kitB "list" "tuple" = some false)
  | .tuple _ => (by decide +kernel : kitB "tuple" "tuple" = some true)
  | .dict _ => (by decide +kernel : kitB "dict" "tuple" = some false)
theorem kit_lst : ∀ d : PyData, kitB (tyName d) "list" = some (isLst d)
  | .none => (by decide +kernel : kitB "NoneType" "list" = some false)
  | .bool _ => (by decide +kernel : kitB "bool" "list" = some false)
  | .int _ => (by decide +kernel : kitB "int" "list" = some false)
  | .str _ => (by decide +kernel : kitB "str" "list" = some false)
  | .list _ => (by decide +kernel : kitB "list" "list" = some true)
  | .tuple _ => (by decide +kernel : kitB "tuple" "list" = some false)
  | .dict _ => (by decide +kernel : kitB "dict" "list" = some false)
theorem DP.ty {K : PySem.W.Frag} {g H : Hp} (s : Same g H) : ∀ {d : PyData} {v : V}, DP g d v → TyX K H v (.type (tyName d))
  | .none, _, h => by
    have e : _ = V.non := h
    rw [e]; exact .base .non
  | .bool b, _, h => by
    have e : _ = V.bl b := h
    rw [e]; exact .base (.bl b)
  | .int i, _, h => by
    have e : _ = V.int i := h
    rw [e]; exact .base (.int i)
  | .str x, _, h => by
    rw [h.1]; exact .base (.str x)
  | .list _, _, ⟨a, vs, e, k, r⟩ => by
    rw [e]; exact .base (.lst (s _ _ k))
  | .tuple _, _, ⟨a, vs, e, k, r⟩ => by
    rw [e]; exact .base (.tup (s _ _ k))
  | .dict _, _, h => h.elim
def dIsi (f : PyData → Bool) (w : ET) (ρ : Ev) (P : PyData → Ev → Prop) : Prop := w ρ fun d ρ' => P (.bool (f d)) ρ'
section
variable {X : Cx} {e : Expr} {p pos tp : Pos} {x : Str} {w : ET}
theorem de_isi {T : String} {f : PyData → Bool} (hT : ∀ d : PyData, kitB (tyName d) T = some (f d)) (hm : X.mg "isinstance" = none) (hmT : X.mg x = none) (hv : bootBuiltins x = some (.type T)) (he : PE X e (lE w)) (hg : Gl X "isinstance" := by rfl) (hgT : Gl X x := by rfl) (hi : bootBuiltins "isinstance" = some (.builtin "isinstance") := by decide +kernel)
    (hn : x ≠ "__name__" := by decide) (hd : (x == ("__debug__" : Str)) = false := by decide) (hs : starEach [e, .Name x tp] X.env = (false, eval e X.env) :: starEach [.Name x tp] X.env := by rfl) (hs2 : starEach [.Name x tp] X.env = (false, eval (.Name x tp) X.env) :: starEach [] X.env := by rfl)
    (hpl : (backTo pos (starEach [.Name x tp] X.env)).any (·.1) = false := by rfl) : PE X (.Call (.Name "isinstance" p) [e, .Name x tp] [] pos) (lE (dIsi f w)) := by
  refine pe_imp (pe_callB call_isi hg hm hi (pa_cons he (pa_cons (pe_bltn (v := .ty T) hgT hmT hv rfl hn hd) pa_nil hs2) hs) (by decide) (by decide) hs hpl) fun σ H Q h => ?_
  obtain ⟨fr, g, hs, ρ, P, W, h, k⟩ := h
  refine ⟨fr, g, hs, ρ, _, W, h, fun d ρ' v g' hs' H' h' s' W' d' => ?_⟩
  exact ⟨v, .ty T, _, .type T, f d, rfl, .ty T, d'.ty W'.sg, kit_ty (hT d), k _ ρ' _ g' hs' H' h' s' W' rfl⟩
end

/-! ### new lists: list(x), sorted(x) -/
def CallL (r : List V → Hp → VK → Prop) (f : List PyData → (List PyData → Prop) → Prop) : Prop := ∀ g H ds vs k Q, Same g H → DPs g ds vs → f ds k → (∀ out p us, k out → H p = none → DPs g out us → Q (.ref p) (upd H p (.lst us))) → r vs H Q
def dBL (f : List PyData → (List PyData → Prop) → Prop) (w : EA) (ρ : Ev) (P : SV → Ev → Prop) : Prop := w ρ fun ds ρ1 => f ds fun out => ∀ a, P (.lst a out) ρ1
section
variable {X : Cx} {e : Expr} {es : List Expr} {p pos : Pos} {x : Str}
theorem lBL {r : List V → Hp → VK → Prop} {f : List PyData → (List PyData → Prop) → Prop} {w : EA} (hf : CallL r f) {σ : St} {H : Hp} {Q : VK} (h : lO (dBL f w) σ H Q) : tCB r (lA w) σ H Q := by
  obtain ⟨fr, g, hs, ρ, P, W, h, k⟩ := h
  refine ⟨fr, g, hs, ρ, _, W, h, fun ds ρ1 vs g1 hs1 H1 h1 s1 W1 r1 => hf g1 H1 ds vs _ Q W1.sg r1 h1 fun out p us ho hp ru => ?_⟩
  exact k _ ρ1 _ g1 hs1 (one p (.lst us)) _ (ho p) s1 (W1.grow (Same.new hp)) ⟨rfl, us, one_same, ru⟩ (W1.apart1 hp)
theorem do_blt {id : String} {r : List V → Hp → VK → Prop} {f : List PyData → (List PyData → Prop) → Prop} {w : EA} (hc : CallR X (.builtin id) r) (hf : CallL r f) (hm : X.mg x = none) (hv : bootBuiltins x = some (.builtin id)) (ha : PA X (e :: es) (lA w)) (hg : Gl X x := by rfl)
    (hn : x ≠ "__name__" := by decide) (hdb : (x == ("__debug__" : Str)) = false := by decide) (he : starEach (e :: es) X.env = (false, eval e X.env) :: starEach es X.env := by rfl) (hpl : (backTo pos (starEach es X.env)).any (·.1) = false := by rfl) :
    PE X (.Call (.Name x p) (e :: es) [] pos) (lO (dBL f w)) := pe_imp (pe_callB hc hg hm hv ha hn hdb he hpl) fun _ _ _ h => lBL hf h
theorem do_bltT {T : String} {r : List V → Hp → VK → Prop} {f : List PyData → (List PyData → Prop) → Prop} {w : EA} (hc : CallR X (.type T) r) (hf : CallL r f) (hm : X.mg x = none) (hv : bootBuiltins x = some (.type T)) (ha : PA X (e :: es) (lA w)) (hg : Gl X x := by rfl)
    (hn : x ≠ "__name__" := by decide) (hdb : (x == ("__debug__" : Str)) = false := by decide) (he : starEach (e :: es) X.env = (false, eval e X.env) :: starEach es X.env := by rfl) (hpl : (backTo pos (starEach es X.env)).any (·.1) = false := by rfl) :
    PE X (.Call (.Name x p) (e :: es) [] pos) (lO (dBL f w)) := pe_imp (pe_callTy hc hg hm hv ha hn hdb he hpl) fun _ _ _ h => lBL hf h
end
@[simp] def fList : List PyData → (List PyData → Prop) → Prop
  | [.list ds], k => k ds
  | [.tuple ds], k => k ds
  | _, _ => False
theorem cl_list (K : PySem.W.Frag) : CallL (fun xs H Q => ∃ p ys, xs = [.ref p] ∧ (SqL K H p ys ∨ SqT K H p ys) ∧ ∀ l, H l = none → Q (.ref l) (upd H l (.lst ys))) fList := by
  intro g H ds vs k Q s r h o
  match ds, h with
  | [.list ds], h =>
    obtain ⟨v, e, a, us, ev, ha, ru⟩ := dps_one r
    exact ⟨a, us, by rw [e, ev], .inl (SqL.of (s _ _ ha)), fun l hl => o _ l us h hl ru⟩
  | [.tuple ds], h =>
    obtain ⟨v, e, a, us, ev, ha, ru⟩ := dps_one r
    exact ⟨a, us, by rw [e, ev], .inr (SqT.of (s _ _ ha)), fun l hl => o _ l us h hl ru⟩
/-- the stable order of alike data -/
def dle (a b : PyData) : Bool := !PySem.W.dataLt b a
def sortD (ds : List PyData) : List PyData := ds.mergeSort dle
def rSortedD (K : PySem.W.Frag) : List V → Hp → VK → Prop := fun vs H Q => ∃ (g : Hp) (a : Addr) (xs : List V) (ds : List PyData), vs = [.ref a] ∧ Same g H ∧ SqL K H a xs ∧ DPs g ds xs ∧ PySem.W.AllAlike ds ∧ PySem.W.Sortable ds ∧ PyData.depthAll ds ≤ 8 ∧
  ∀ p us, H p = none → DPs g (sortD ds) us → Q (.ref p) (upd H p (.lst us))
theorem depth_all {ds : List PyData} {n : Nat} (h : PyData.depthAll ds ≤ n) : ∀ d ∈ ds, d.depth ≤ n := fun d hd => by
  induction ds with
  | nil => cases hd
  | cons x xs ih =>
    have e : PyData.depthAll (x :: xs) = max x.depth (PyData.depthAll xs) := by simp [PyData.depthAll]
    rw [e] at h
    rcases List.mem_cons.mp hd with rfl | z
    · exact Nat.le_trans (Nat.le_max_left _ _) h
    · exact ih (Nat.le_trans (Nat.le_max_right _ _) h) z
theorem each_of {g : Hp} : ∀ {ds : List PyData} {xs : List V} {its : List Value}, DPs g ds xs → Vals xs its → PySem.W.EachIs (fun v d => ∃ x, RelV x v ∧ DP g d x) its ds
  | [], _, _, h, r => by
    have z : _ = [] := h
    rw [z] at r
    cases r
    exact .nil
  | _ :: _, _, _, ⟨v, r', e, dv, t⟩, r => by
    rw [e] at r
    cases r with
    | cons h1 h2 => exact .cons ⟨v, h1, dv⟩ (each_of t h2)
theorem each_to {g : Hp} : ∀ {ds : List PyData} {its : List Value}, PySem.W.EachIs (fun v d => ∃ x, RelV x v ∧ DP g d x) its ds → ∃ xs, Vals xs its ∧ DPs g ds xs
  | _, _, .nil => ⟨[], .nil, rfl⟩
  | _, _, .cons h t => by
    obtain ⟨x, h1, h2⟩ := h
    obtain ⟨xs, h3, h4⟩ := each_to t
    exact ⟨x :: xs, .cons h1 h3, x, xs, rfl, h2, h4⟩
theorem cr_sortedD {X : Cx} (hu : X.A.units + 64 < cLine) : CallR X (.builtin "sorted") (rSortedD X.K) := by
  intro pins s σ H vs us Q I r h
  obtain ⟨g, a, xs, ds, rfl, sg, hs, rd, al, so, dp, q⟩ := h
  obtain ⟨its, rv, hl, hz⟩ := I.list hs
  rw [Vals.ref1 r]
  have E := each_of rd rv
  have ER : PySem.W.EachIs (fun v b => ∃ as, Reads s.heap v (id b) as) its ds := E.mono fun v d ⟨x, h1, h2⟩ => Dp.reads I d x v (h2.dp sg) h1
  refine PySem.W.sorted_data (enc := id) hl.isList E ER (by rw [List.map_id]; exact al) (by rw [List.map_id]; exact so) (by rw [← rd.length]; exact hz) (fun b hb => by have := depth_all dp b hb; show X.A.units + 2 + b.depth < cLine; omega) fun out hlen ho => ?_
  obtain ⟨ys, rys, dys⟩ := each_to ho
  obtain ⟨ep, he'⟩ := PyProof.Rows.sortedAll_at s.heap its out.toArray
  have hlen2 : ys.length ≤ sizeLine := by
    rw [rys.length, hlen, ← rd.length]
    exact hz
  exact ⟨.ref _, upd H (s.heap.objs.size + 1) (.lst ys), I.laid (t' := s.toks) (fun _ _ => PyProof.Rows.sortedAll_old) (Nat.le_succ _) ⟨hlen2, out, ep, rys, he'⟩, rfl, q _ ys (I.hok.fresh (Nat.le_succ _)) dys⟩
end Fb
namespace Fb
open PySem PySem.Spec PyProof.Rows L2
set_option autoImplicit false

/-! ### enumerate, zip over lists, tuples, texts -/
inductive Sr where
  | l (a : Addr)
  | t (a : Addr)
  | s (z : Str) (k : Tok)
def Sr.val : Sr → Value
  | .l a => .ref a
  | .t a => .ref a
  | .s z k => .str z k
def Sr.fp : Sr → List Addr
  | .l a => [a]
  | .t a => [a]
  | .s _ _ => []
def Sr.ob : Sr → Obj
  | .l a => { cls := .type "list_iterator", data := .fields #[.ref a, .int 0 0] }
  | .t a => { cls := .type "tuple_iterator", data := .fields #[.ref a, .int 0 0] }
  | .s z k => { cls := .type (strIterType z), data := .fields #[.str z k, .int 0 0] }
def Sr.Is (K : PySem.W.Frag) (H : Hp) : Sr → List V → Prop
  | .l a, xs => SqL K H a xs
  | .t a, xs => SqT K H a xs
  | .s z _, xs => xs = z.cps.toList.map fun c => .str ⟨#[c]⟩
def Sr.It (it : Addr) (i : Nat) (h : Heap) : Sr → Prop
  | .l a => h.IsListIter it a i
  | .t a => h.IsTupleIter it a i
  | .s z k => h.IsStrIter it (strIterType z) z k i
theorem Sr.free (S : Sr) : S.ob.isFreed = false := by cases S <;> rfl
theorem Sr.it0 {S : Sr} {it : Addr} {h : Heap} (e : h.get? it = some S.ob) : S.It it 0 h := by
  cases S with
  | l a => exact ⟨_, e, rfl, rfl⟩
  | t a => exact ⟨_, e, rfl, rfl⟩
  | s z k => exact ⟨_, e, rfl, rfl⟩
theorem Sr.itAt {S : Sr} {it : Addr} {i : Nat} {h h' : Heap} (st : S.It it i h) (k : ∀ o, h.get? it = some o → h'.get? it = some o) : S.It it i h' := by
  cases S with
  | l a =>
    have st : h.IsListIter it a i := st
    exact st.at k
  | t a =>
    have st : h.IsTupleIter it a i := st
    exact st.at k
  | s z q =>
    obtain ⟨o, e, r⟩ := st
    exact ⟨o, k o e, r⟩
theorem Sr.itObj {S : Sr} {it : Addr} {i : Nat} {h : Heap} (st : S.It it i h) : ∃ o, h.get? it = some o ∧ ∀ v, o.data ≠ .cell v := by
  cases S with
  | l a => obtain ⟨o, e, _, d⟩ := st; exact ⟨o, e, fun v q => by rw [d] at q; cases q⟩
  | t a => obtain ⟨o, e, _, d⟩ := st; exact ⟨o, e, fun v q => by rw [d] at q; cases q⟩
  | s z q => obtain ⟨o, e, _, d⟩ := st; exact ⟨o, e, fun v q => by rw [d] at q; cases q⟩
theorem Sr.inj {X : Cx} {pins : List (Addr × Obj)} {σ : L2.St} {H : Hp} {s : Shared} {S : Sr} {xs ys : List V} (I : Inv X pins σ H s) (h : S.Is X.K H xs) (h2 : S.Is X.K H ys) : xs = ys := by
  cases S with
  | l a => exact I.list_inj h h2
  | t a =>
    obtain ⟨u, r, p, _⟩ := I.tuple h
    obtain ⟨u2, r2, p2, _⟩ := I.tuple h2
    have e : u.toArray = u2.toArray := by
      obtain ⟨o, e1, c1, n, d1⟩ := p
      obtain ⟨o2, e2, c2, n2, d2⟩ := p2
      rw [e1] at e2
      cases e2
      rw [d1] at d2
      cases d2
      rfl
    have e : u = u2 := by simpa using e
    subst e
    exact r.inj r2
  | s z k =>
    have h : xs = _ := h
    have h2 : ys = _ := h2
    rw [h, h2]
theorem Sr.draws {X : Cx} {pins : List (Addr × Obj)} {σ : L2.St} {H : Hp} {s : Shared} {S : Sr} {xs : List V} {it : Addr} {A : Around} (I : Inv X pins σ H s) (h : S.Is X.K H xs) (hd : A.handled = none) (hne : it ∉ S.fp) :
    ∃ (P : Nat → Value → Prop) (St : Nat → Heap → Prop), Draws X.prog X.w A it (it :: S.fp) xs.length P St ∧ (∀ i v x, P i v → xs[i]? = some x → RelV x v) ∧ (∀ i, S.It it i s.heap → St i s.heap) ∧ ∀ i h', St i h' → S.It it i h' := by
  cases S with
  | l a =>
    obtain ⟨its, rv, p, _⟩ := I.list h
    have D := Draws.list (prog := X.prog) (w := X.w) hd it a (fun z => hne (by simp [Sr.fp, z])) its.toArray
    rw [show its.toArray.size = xs.length by rw [rv.length]; simp] at D
    refine ⟨_, _, D, fun i v x hp hx => ?_, fun i st => ⟨st, p.isList⟩, fun i h' st => st.1⟩
    · obtain ⟨u, hu, ru⟩ := rv.get hx
      have hp : its.toArray[i]? = some v := hp
      have e : its[i]? = some v := by simpa using hp
      rw [hu] at e
      cases e
      exact ru
  | t a =>
    obtain ⟨its, rv, p, _⟩ := I.tuple h
    have D := Draws.tuple (prog := X.prog) (w := X.w) hd it a (fun z => hne (by simp [Sr.fp, z])) its.toArray
    rw [show its.toArray.size = xs.length by rw [rv.length]; simp] at D
    refine ⟨_, _, D, fun i v x hp hx => ?_, fun i st => ⟨st, p⟩, fun i h' st => st.1⟩
    · obtain ⟨u, hu, ru⟩ := rv.get hx
      have hp : its.toArray[i]? = some v := hp
      have e : its[i]? = some v := by simpa using hp
      rw [hu] at e
      cases e
      exact ru
  | s z k =>
    have h : xs = _ := h
    have D := Draws.text (prog := X.prog) (w := X.w) hd it z k
    rw [show z.cps.size = xs.length by rw [h]; simp] at D
    refine ⟨_, _, D, fun i v x hp hx => ?_, fun i st => st, fun i h' st => st⟩
    · obtain ⟨c, u, hc, ev⟩ := hp
      rw [h, List.getElem?_map, Array.getElem?_toList, hc] at hx
      cases hx
      exact ⟨u, ev⟩
/-- what stands at each turn -/
def ItE (K : PySem.W.Frag) (S : Sr) : L2.It :=
  ⟨fun i H => ∃ (xs : List V) (x : V), S.Is K H xs ∧ xs[i]? = some x, fun i H v H' => ∃ T x, v = .ref T ∧ H T = none ∧ H' = upd H T (.tup [.int (i : Nat), x]) ∧ ∀ xs, S.Is K H xs → xs[i]? = some x, fun i H => ∃ xs : List V, S.Is K H xs ∧ xs.length = i⟩
theorem turn_enumS {P : Program} {w : World} {K : PySem.W.Frag} {elts : List Expr} {kk : Nat} {tpos : Pos} (S : Sr) (e it : Addr) (hne : e ≠ it) (hef : e ∉ S.fp) (hif : it ∉ S.fp) :
    Turn P w K (.Tuple elts kk tpos) (ItE K S) [e, it] e (fun i h => (∃ old, IsEnum h e it ((i : Nat) : Int) old) ∧ S.It it i h) where
  mem := by simp
  obj := fun i h st b hb => by
    obtain ⟨⟨old, he⟩, hi⟩ := st
    have e' : b = e ∨ b = it := by simpa using hb
    rcases e' with z | z
    · rw [z]; exact ⟨_, he, fun v q => nomatch q⟩
    · rw [z]; exact Sr.itObj hi
  keep := fun i h h' st k => let ⟨⟨old, he⟩, hi⟩ := st; ⟨⟨old, k e (by simp) _ he⟩, Sr.itAt hi fun o q => k it (by simp) o q⟩
  item := by
    intro X hP hw hK hc i pins s σ H E I hf st hg
    subst hP hw hK
    obtain ⟨⟨old, he⟩, hit⟩ := st
    obtain ⟨xs, x, hq, hx⟩ := hg
    obtain ⟨Pv, Sv, D, dr, st1, st2⟩ := Sr.draws (A := X.A.in1) (it := it) I hq (I.ok.hd hc) hif
    have hel : e < s.heap.objs.size := Heap.lt_size he
    have hil : it < s.heap.objs.size := by obtain ⟨_, q, _⟩ := Sr.itObj hit; exact Heap.lt_size q
    have hlt : i < xs.length := (List.getElem?_eq_some_iff.mp hx).1
    refine wpAny_pyNext_enum_itemC D he (st1 i hit) hlt hne (by simp [hne, hef]) fun u h' tk hP ho hit' hT hsz hk => ?_
    have ru := dr i u x hP hx
    refine ⟨_, rfl, wpAny_letOwnedTupleGo_enum (s := { s with heap := h', toks := tk + 1 }) ho fun h'' he' sb => ?_⟩
    have hT2 : h''.get? s.heap.objs.size = some { cls := .type "tuple", data := .seq #[.int i tk, u] } := (sb.2 _ (Nat.ne_of_gt hel)).trans hT
    have new : ObjOk X.prog X.w (upd H s.heap.objs.size (.tup [.int (i : Nat), x])) h'' s.heap.objs.size (.tup [.int (i : Nat), x]) :=
      ⟨by show 2 ≤ sizeLine; decide, [.int i tk, u], .cons ⟨_, rfl⟩ (.cons ru .nil), ⟨_, hT2, rfl, _, rfl⟩⟩
    have I1 : Inv X pins σ (upd H s.heap.objs.size (.tup [.int (i : Nat), x])) { s with heap := h'', toks := tk + 1 } :=
      I.turnedNew (ch := [e, it]) (fun b ob hb q => (sb.2 b (fun z => hb (by simp [z]))).trans (hk b ob (fun z => hb (by simp [z])) (fun z => hb (by simp [z])) q)) hf (Nat.le_refl _) new
    refine ⟨.ref s.heap.objs.size, _, I1, rfl, ⟨_, x, rfl, I.hok.fresh (Nat.le_refl _), rfl, fun ys hy => by rw [Sr.inj I hy hq]; exact hx⟩, ⟨⟨u, ?_⟩, Sr.itAt (st2 _ _ hit') fun o q => (sb.2 it (Ne.symm hne)).trans q⟩, fun b hb => ?_⟩
    · have e1 : ((i + 1 : Nat) : Int) = (i : Int) + 1 := by omega
      rw [e1]; exact he'
    · have hb' : b < s.heap.objs.size := by
        have e' : b = e ∨ b = it := by simpa using hb
        rcases e' with z | z
        · rw [z]; exact hel
        · rw [z]; exact hil
      rw [upd_ne (Nat.ne_of_lt hb')]
      exact (hf b hb).1
  done := by
    intro X hP hw hK hc i pins s σ H E I hf st hg
    subst hP hw hK
    obtain ⟨⟨old, he⟩, hit⟩ := st
    obtain ⟨xs, hq, hx⟩ := hg
    obtain ⟨Pv, Sv, D, dr, st1, st2⟩ := Sr.draws (A := X.A.in1) (it := it) I hq (I.ok.hd hc) hif
    obtain ⟨f0, f1, f2, f3, f4, f5⟩ := hf it (by simp)
    exact wpAny_pyNext_enum_endD D he (by rw [hx]; exact st1 i hit) fun h' eb => ⟨rfl, I.turned (t' := s.toks) (fun b o hb q => eb b o hb q) f0 f1 f3 f4 f5⟩
  self := fun A i s Q E st h => let ⟨⟨_, he⟩, _⟩ := st; wpAny_pyIter_enum he h
theorem meets_enum1 {v : Value} {o : Obj} {H : Heap → Prop} (B : Begins v o H) :
    PySem.Meets (Builtin.«enumerate.__new__» ⟨[.type "enumerate", v], []⟩) (fun _ R s => H s.heap ∧
      R (.ok (.ret (.ref (s.heap.push o).objs.size))) { s with heap := (s.heap.push o).push { cls := .type "enumerate", data := .fields #[.none, .bool false, .ref s.heap.objs.size, rawInt 0, .none, .none] } }) :=
  .of_wp fun prog w A R s h => by
    obtain ⟨hp, g, d, tk, os⟩ := s; obtain ⟨h1, h⟩ := h
    have hsub := sub_enumerate
    have q1 : ∀ {A' : Around} {E : Value → Shared → Prop} {Q : Value → Shared → Prop}, Q (.ref hp.objs.size) ⟨hp.push o, g, d, tk, os⟩ → wpAny (model prog w) A' (pyIter v) Q E ⟨hp, g, d, tk, os⟩ :=
      fun q => B.iter prog w _ _ ⟨hp, g, d, tk, os⟩ _ h1 q
    wp_walk using q1
    refine wpAny_stack_any fun st => wpAny_pure ?_
    split
    · rename_i c _ _ _ _ _
      cases (c == Value.type "enumerate")
      · wp_walk using q1
        exact ⟨_, rfl, h⟩
      · wp_walk using q1
        exact ⟨_, rfl, h⟩
    · wp_walk using q1
      exact ⟨_, rfl, h⟩
def ItZ (K : PySem.W.Frag) (S S2 : Sr) : L2.It :=
  ⟨fun i H => ∃ (xs ys : List V) (x y : V), S.Is K H xs ∧ S2.Is K H ys ∧ xs[i]? = some x ∧ ys[i]? = some y,
    fun i H v H' => ∃ T x y, v = .ref T ∧ H T = none ∧ H' = upd H T (.tup [x, y]) ∧ (∀ xs, S.Is K H xs → xs[i]? = some x) ∧ ∀ ys, S2.Is K H ys → ys[i]? = some y,
    fun i H => ∃ xs ys : List V, S.Is K H xs ∧ S2.Is K H ys ∧ i ≤ xs.length ∧ i ≤ ys.length ∧ (i = xs.length ∨ i = ys.length)⟩
theorem turn_zipS {P : Program} {w : World} {K : PySem.W.Frag} {elts : List Expr} {kk : Nat} {tpos : Pos} {S S2 : Sr} {z TI TO i1 i2 : Addr} (D : ZipSep2 z TI TO i1 i2 (i1 :: S.fp) (i2 :: S2.fp)) (n1 : i1 ∉ S.fp) (n2 : i2 ∉ S2.fp) :
    Turn P w K (.Tuple elts kk tpos) (ItZ K S S2) [z, TI, TO, i1, i2] z (fun i h => IsZip h z TI TO .none ∧ IsTupOf2 h TI (.ref i1) (.ref i2) ∧ (∃ x y, IsTupOf2 h TO x y) ∧ S.It i1 i h ∧ S2.It i2 i h) where
  mem := by simp
  obj := fun i h st c hc => by
    obtain ⟨hz, hTI, ⟨x, y, hTO⟩, h1, h2⟩ := st
    have e' : c = z ∨ c = TI ∨ c = TO ∨ c = i1 ∨ c = i2 := by simpa using hc
    rcases e' with q | q | q | q | q
    · rw [q]; exact ⟨_, hz, fun v q => nomatch q⟩
    · rw [q]; exact ⟨_, hTI, fun v q => nomatch q⟩
    · rw [q]; exact ⟨_, hTO, fun v q => nomatch q⟩
    · rw [q]; exact Sr.itObj h1
    · rw [q]; exact Sr.itObj h2
  keep := fun i h h' st k => by
    obtain ⟨hz, hTI, ⟨x, y, hTO⟩, h1, h2⟩ := st
    exact ⟨k z (by simp) _ hz, k TI (by simp) _ hTI, ⟨x, y, k TO (by simp) _ hTO⟩, Sr.itAt h1 fun o q => k i1 (by simp) o q, Sr.itAt h2 fun o q => k i2 (by simp) o q⟩
  item := by
    intro X hP hw hK hc i pins s σ H E I hf st hg
    subst hP hw hK
    obtain ⟨hz, hTI, ⟨x0, y0, hTO⟩, h1, h2⟩ := st
    obtain ⟨xs, ys, x, y, hqx, hqy, hx, hy⟩ := hg
    obtain ⟨P1, S1', D1, dr1, st1, st1'⟩ := Sr.draws (A := X.A.in1) (it := i1) I hqx (I.ok.hd hc) n1
    obtain ⟨P2, S2', D2, dr2, st2, st2'⟩ := Sr.draws (A := X.A.in1) (it := i2) I hqy (I.ok.hd hc) n2
    have hzl : z < s.heap.objs.size := Heap.lt_size hz
    refine wpAny_pyNext_zipD2_item D D1 D2 hz hTI hTO (st1 i h1) (st2 i h2) (List.getElem?_eq_some_iff.mp hx).1 (List.getElem?_eq_some_iff.mp hy).1 fun u u2 h' tk p1 p2 z' TO' h1' h2' hT hsz hk => ?_
    have ru := dr1 i u x p1 hx
    have ru2 := dr2 i u2 y p2 hy
    refine ⟨_, rfl, wpAny_letOwnedTupleGo_zip (s := { s with heap := h', toks := tk }) z' fun h'' z'' sb => ?_⟩
    have hT2 : h''.get? s.heap.objs.size = some { cls := .type "tuple", data := .seq #[u, u2] } := (sb.2 _ (Nat.ne_of_gt hzl)).trans hT
    have new : ObjOk X.prog X.w (upd H s.heap.objs.size (.tup [x, y])) h'' s.heap.objs.size (.tup [x, y]) :=
      ⟨by show 2 ≤ sizeLine; decide, [u, u2], .cons ru (.cons ru2 .nil), ⟨_, hT2, rfl, _, rfl⟩⟩
    have I1 : Inv X pins σ (upd H s.heap.objs.size (.tup [x, y])) { s with heap := h'', toks := tk } :=
      I.turnedNew (t' := tk) (ch := [z, TI, TO, i1, i2]) (fun c o hb q => (sb.2 c (fun q' => hb (by simp [q']))).trans (hk c o (fun q' => hb (by simp [q'])) (fun q' => hb (by simp [q'])) (fun q' => hb (by simp [q'])) (fun q' => hb (by simp [q'])) q)) hf (Nat.le_refl _) new
    refine ⟨.ref s.heap.objs.size, _, I1, rfl, ⟨_, x, y, rfl, I.hok.fresh (Nat.le_refl _), rfl, fun l hl => by rw [Sr.inj I hl hqx]; exact hx, fun l hl => by rw [Sr.inj I hl hqy]; exact hy⟩, ⟨z'', ?_, ⟨u, u2, ?_⟩, ?_, ?_⟩, fun c hcm => ?_⟩
    · exact (sb.2 _ D.TIz).trans (hk _ _ D.TIz D.TITO D.TIi1 D.TIi2 hTI)
    · exact (sb.2 _ D.TOz).trans TO'
    · exact Sr.itAt (st1' _ _ h1') fun o q => (sb.2 _ (Ne.symm D.zi1)).trans q
    · exact Sr.itAt (st2' _ _ h2') fun o q => (sb.2 _ (Ne.symm D.zi2)).trans q
    · have hlt : c < s.heap.objs.size := by
        have e' : c = z ∨ c = TI ∨ c = TO ∨ c = i1 ∨ c = i2 := by simpa using hcm
        rcases e' with q | q | q | q | q
        · rw [q]; exact hzl
        · rw [q]; exact Heap.lt_size hTI
        · rw [q]; exact Heap.lt_size hTO
        · rw [q]; obtain ⟨_, e1, _⟩ := Sr.itObj h1; exact Heap.lt_size e1
        · rw [q]; obtain ⟨_, e2, _⟩ := Sr.itObj h2; exact Heap.lt_size e2
      rw [upd_ne (Nat.ne_of_lt hlt)]
      exact (hf c hcm).1
  done := by
    intro X hP hw hK hc i pins s σ H E I hf st hg
    subst hP hw hK
    obtain ⟨hz, hTI, ⟨x0, y0, hTO⟩, h1, h2⟩ := st
    obtain ⟨xs, ys, hqx, hqy, l1, l2, hend⟩ := hg
    obtain ⟨P1, S1', D1, dr1, st1, st1'⟩ := Sr.draws (A := X.A.in1) (it := i1) I hqx (I.ok.hd hc) n1
    obtain ⟨P2, S2', D2, dr2, st2, st2'⟩ := Sr.draws (A := X.A.in1) (it := i2) I hqy (I.ok.hd hc) n2
    exact wpAny_pyNext_zipD2_end D D1 D2 hz hTI hTO (st1 i h1) (st2 i h2) l1 l2 hend fun h' tk hk => ⟨rfl, I.turnedL (t' := tk) (ch := [z, TI, TO, i1, i2]) (fun c o hb q =>
      hk c o (fun q' => hb (by simp [q'])) (fun q' => hb (by simp [q'])) (fun q' => hb (by simp [q'])) (fun q' => hb (by simp [q'])) q) hf⟩
  self := fun A i s Q E st h => wpAny_pyIter_zip st.1 h

/-! ### as data -/
theorem Sr.fpk {S : Sr} : ∀ b ∈ S.fp, (S = .l b ∨ S = .t b) := by
  intro b hb
  cases S with
  | l a =>
    have e : b = a := by simpa [Sr.fp] using hb
    exact .inl (by rw [e])
  | t a =>
    have e : b = a := by simpa [Sr.fp] using hb
    exact .inr (by rw [e])
  | s z k => cases hb
theorem Sr.of {X : Cx} {pins : List (Addr × Obj)} {σ : L2.St} {H g : Hp} {s : Shared} {d : PyData} {v : V} {u : Value} {ds : List PyData} (I : Inv X pins σ H s) (sg : Same g H) (dv : DP g d v) (e : itemsD d = some ds) (r : RelV v u) :
    ∃ (S : Sr) (xs : List V) (Hh : Heap → Prop), S.val = u ∧ DPs g ds xs ∧ (∀ H', Same g H' → S.Is X.K H' xs) ∧ Begins S.val S.ob Hh ∧ Hh s.heap ∧ ∀ b ∈ S.fp, b < s.heap.objs.size := by
  cases d <;> cases e
  · obtain ⟨ev, ok⟩ := dv
    rw [ev] at r
    obtain ⟨t, rfl⟩ := r
    refine ⟨.s _ t, _, _, rfl, ?_, fun H' _ => rfl, begins_text _ t, trivial, fun b hb => by cases hb⟩
    rename_i z
    have go : ∀ l : List Nat, (∀ c ∈ l, c ∈ z.cps.toList) → DPs g (l.map fun c => .str ⟨#[c]⟩) (l.map fun c => .str ⟨#[c]⟩) := fun l => by
      induction l with
      | nil => exact fun _ => rfl
      | cons c l ih => exact fun hl => ⟨_, _, rfl, ⟨rfl, by
          have m := Array.all_eq_true_iff_forall_mem.mp ok c (Array.mem_toList_iff.mp (hl c (List.mem_cons_self ..)))
          show (#[c].all _) = true
          simpa using m⟩, ih fun b hb => hl b (List.mem_cons_of_mem _ hb)⟩
    exact go _ fun c hc => hc
  · obtain ⟨a, vs, ev, ga, ra⟩ := dv
    rw [ev] at r
    obtain rfl : u = Value.ref a := r
    obtain ⟨its, rv, p, _⟩ := I.list (SqL.of (sg _ _ ga))
    exact ⟨.l a, vs, _, rfl, ra, fun H' s' => SqL.of (s' _ _ ga), begins_list a its.toArray, p.isList, fun b hb => by
      have e : b = a := by simpa [Sr.fp] using hb
      rw [e]
      exact p.lt⟩
  · obtain ⟨a, vs, ev, ga, ra⟩ := dv
    rw [ev] at r
    obtain rfl : u = Value.ref a := r
    obtain ⟨its, rv, p, _⟩ := I.tuple (SqT.of (sg _ _ ga))
    exact ⟨.t a, vs, _, rfl, ra, fun H' s' => SqT.of (s' _ _ ga), begins_tuple a its.toArray, p, fun b hb => by
      have e : b = a := by simpa [Sr.fp] using hb
      rw [e]
      obtain ⟨o, q, _⟩ := p
      exact Heap.lt_size q⟩
def enumD (ds : List PyData) : List PyData := ds.zipIdx.map fun p => .tuple [.int (p.2 : Nat), p.1]
def zipD (ds es : List PyData) : List PyData := (ds.zip es).map fun p => .tuple [p.1, p.2]
theorem enumD_get {ds : List PyData} {i : Nat} {d : PyData} (h : ds[i]? = some d) : (enumD ds)[i]? = some (.tuple [.int (i : Nat), d]) := by
  unfold enumD
  rw [List.getElem?_map, List.getElem?_zipIdx, h]
  simp
theorem enumD_len {ds : List PyData} : (enumD ds).length = ds.length := by unfold enumD; simp
theorem zipD_get {ds es : List PyData} {i : Nat} {d e : PyData} (h : ds[i]? = some d) (h2 : es[i]? = some e) : (zipD ds es)[i]? = some (.tuple [d, e]) := by
  unfold zipD
  rw [List.getElem?_map, (List.getElem?_zip_eq_some (z := (d, e))).mpr ⟨h, h2⟩]
  rfl
theorem zipD_len {ds es : List PyData} : (zipD ds es).length = min ds.length es.length := by unfold zipD; simp
variable [Tb]
def dEnum (w : ET) (ρ : Ev) (P : List PyData → Ev → Prop) : Prop := w ρ fun d ρ' => ∃ ds, itemsD d = some ds ∧ P (enumD ds) ρ'
def dZip (wa wb : ET) (ρ : Ev) (P : List PyData → Ev → Prop) : Prop := wa ρ fun d ρ1 => wb ρ1 fun e ρ2 => ∃ ds es, itemsD d = some ds ∧ itemsD e = some es ∧ P (zipD ds es) ρ2
theorem walk_enumS {K : PySem.W.Frag} {g : Hp} {S : Sr} {xs : List V} {ds : List PyData} (r : DPs g ds xs) (hS : ∀ H', Same g H' → S.Is K H' xs) : Walk (ItE K S) (enumD ds).length (fun H => Same g H) (Yd g (enumD ds)) := by
  refine ⟨fun i H hi s => ?_, fun H s => ⟨xs, hS H s, by rw [r.length, enumD_len]⟩, fun i H x H' hi s y => ?_⟩
  · have hl : i < xs.length := by rw [r.length, ← enumD_len]; exact hi
    exact ⟨xs, _, hS H s, List.getElem?_eq_getElem hl⟩
  · obtain ⟨T, v, ex, hT, eH, hx⟩ := y
    obtain ⟨d, h1, h2⟩ := r.get' (hx xs (hS H s))
    refine ⟨_, enumD_get h1, .inr ⟨T, _, rfl, hT, eH, fun g2 s2 hg => ?_⟩⟩
    exact ⟨T, _, ex, upd_same, _, _, rfl, rfl, _, _, rfl, h2.mono (s2.trans (Same.new hg)), rfl⟩
theorem walk_zipS {K : PySem.W.Frag} {g : Hp} {S S2 : Sr} {xs ys : List V} {ds es : List PyData} (r : DPs g ds xs) (r2 : DPs g es ys) (hS : ∀ H', Same g H' → S.Is K H' xs) (hS2 : ∀ H', Same g H' → S2.Is K H' ys) : Walk (ItZ K S S2) (zipD ds es).length (fun H => Same g H) (Yd g (zipD ds es)) := by
  refine ⟨fun i H hi s => ?_, fun H s => ⟨xs, ys, hS H s, hS2 H s, ?_⟩, fun i H x H' hi s y => ?_⟩
  · rw [zipD_len] at hi
    have hl : i < xs.length := by rw [r.length]; omega
    have hl2 : i < ys.length := by rw [r2.length]; omega
    exact ⟨xs, ys, _, _, hS H s, hS2 H s, List.getElem?_eq_getElem hl, List.getElem?_eq_getElem hl2⟩
  · rw [zipD_len, r.length, r2.length]
    omega
  · obtain ⟨T, v, v2, ex, hT, eH, hx, hy⟩ := y
    obtain ⟨d, h1, h2⟩ := r.get' (hx xs (hS H s))
    obtain ⟨e, h3, h4⟩ := r2.get' (hy ys (hS2 H s))
    refine ⟨_, zipD_get h1 h3, .inr ⟨T, _, rfl, hT, eH, fun g2 s2 hg => ?_⟩⟩
    exact ⟨T, _, ex, upd_same, _, _, rfl, h2.mono (s2.trans (Same.new hg)), _, _, rfl, h4.mono (s2.trans (Same.new hg)), rfl⟩
section
variable {X : Cx} {e e2 : Expr} {w wa wb : ET} {p pos tpos : Pos} {elts : List Expr} {kk : Nat}
theorem di_enum (hm : X.mg "enumerate" = none) (he : PE X e (lE w)) (hg : Gl X "enumerate" := by rfl) (hs : starEach [e] X.env = [(false, eval e X.env)] := by rfl) :
    PI X (.Tuple elts kk tpos) (.Call (.Name "enumerate" p) [e] [] pos) (lI (dEnum w)) := by
  refine ⟨fun pins s σ H R I h => ?_⟩
  obtain ⟨fr, g, hS, ρ, P, W, h, k⟩ := h
  refine Call_ (ld_blt I hg hm boot_enumerate (PyProof.Rows.callWith_type1 (thn ((pa_cons he pa_nil hs).run pos pins s σ H (fun vs H1 => ∃ v d ds ρ' g' hs', vs = [v] ∧ itemsD d = some ds ∧ P (enumD ds) ρ' ∧ Same g g' ∧ Own fr g' hs' ρ' σ H1 ∧ DP g' d v) I ?_) fun us s1 ⟨vs, H1, I1, r1, q1⟩ => ?_) hs rfl))
  · refine ⟨fr, g, hS, ρ, _, W, h, fun d ρ' v g' hs' H' h' s' W' d' => ?_⟩
    obtain ⟨ds, e1, h'⟩ := h'
    exact ⟨v, d, ds, ρ', g', hs', rfl, e1, h', s', W', d'⟩
  · obtain ⟨v, d, ds, ρ', g', hs', ev, ed, hP, s', W', d'⟩ := q1
    subst ev
    cases r1 with
    | cons r rr =>
      cases rr
      obtain ⟨S, xs, Hh, eS, rS, isS, B, hb, hf⟩ := Sr.of I1 W'.sg d' ed r
      subst eS
      refine callType_new F.called_enumerate (by decide) (F.typeCall_enumerate_1 _) (F.newCall_enumerate_1 _) (fun obj => F.args_object_init_2 obj _) F.entry_enumerate_new (meets_enum1 B) ⟨hb, ?_⟩
      have hz : (s1.heap.push S.ob).objs.size = s1.heap.objs.size + 1 := Heap.size_push ..
      show _ ∧ _
      rw [hz]
      have he : IsEnum ((s1.heap.push S.ob).push { cls := .type "enumerate", data := .fields #[.none, .bool false, .ref s1.heap.objs.size, rawInt 0, .none, .none] }) (s1.heap.objs.size + 1) s1.heap.objs.size 0 .none := by
        have := Heap.get?_push_size (s1.heap.push S.ob) (o := { cls := .type "enumerate", data := .fields #[.none, .bool false, .ref s1.heap.objs.size, rawInt 0, .none, .none] }) rfl
        rw [hz] at this; exact this
      refine ⟨⟨_, he, rfl⟩, wpAny_pyIter_enum he ?_⟩
      have hk : ∀ b o, s1.heap.get? b = some o → ((s1.heap.push S.ob).push { cls := .type "enumerate", data := .fields #[.none, .bool false, .ref s1.heap.objs.size, rawInt 0, .none, .none] }).get? b = some o := fun b o x => Heap.get?_push_of_some _ (Heap.get?_push_of_some _ x)
      have I2 := I1.kept (t' := s1.toks) hk
      refine ⟨s1.heap.objs.size + 1, [s1.heap.objs.size + 1, s1.heap.objs.size], _, _, H1, rfl, I2, turn_enumS S (s1.heap.objs.size + 1) s1.heap.objs.size (Nat.succ_ne_self _) (fun z => ?_) (fun z => absurd (hf _ z) (Nat.lt_irrefl _)),
        ⟨⟨.none, he⟩, Sr.it0 (Heap.get?_push_of_some _ (Heap.get?_push_size _ S.free))⟩, fun b hb => ?_, k _ ρ' g' hs' H1 _ hP s' W' (walk_enumS rS isS)⟩
      · have q : s1.heap.objs.size + 1 < s1.heap.objs.size := hf _ z
        omega
      · have e' : b = s1.heap.objs.size + 1 ∨ b = s1.heap.objs.size := by simpa using hb
        have hle : s1.heap.objs.size ≤ b := by
          rcases e' with z | z
          · rw [z]; exact Nat.le_add_right _ _
          · rw [z]; exact Nat.le_refl _
        exact I1.fpOk hle (I1.hok.fresh hle)
theorem di_zip (hm : X.mg "zip" = none) (ha : PE X e (lE wa)) (hb : PE X e2 (lE wb)) (hg : Gl X "zip" := by rfl) (hs : starEach [e, e2] X.env = (false, eval e X.env) :: starEach [e2] X.env := by rfl) (hs2 : starEach [e2] X.env = (false, eval e2 X.env) :: starEach [] X.env := by rfl)
    (hpl : (backTo pos (starEach [e2] X.env)).any (·.1) = false := by rfl) :
    PI X (.Tuple elts kk tpos) (.Call (.Name "zip" p) [e, e2] [] pos) (lI (dZip wa wb)) := by
  refine ⟨fun pins s σ H R I h => ?_⟩
  obtain ⟨fr, g, hS, ρ, P, W, h, k⟩ := h
  refine Call_ (ld_blt I hg hm PyProof.Rows.boot_zip (PyProof.Rows.callWith_type1 (thn ((pa_cons ha (pa_cons hb pa_nil hs2) hs).run pos pins s σ H (fun vs H1 => ∃ v v2 d d2 ds es ρ' g' hs', vs = [v, v2] ∧ itemsD d = some ds ∧ itemsD d2 = some es ∧ P (zipD ds es) ρ' ∧ Same g g' ∧ Own fr g' hs' ρ' σ H1 ∧ DP g' d v ∧ DP g' d2 v2) I ?_) fun us s1 ⟨vs, H1, I1, r1, q1⟩ => ?_) hs hpl))
  · refine ⟨fr, g, hS, ρ, _, W, h, fun d ρ1 v g1 hs1 H1 h1 s1 W1 d1 => ⟨fr, g1, hs1, ρ1, _, W1, h1, fun d2 ρ2 v2 g2 hs2 H2 h2 s2 W2 d2' => ?_⟩⟩
    obtain ⟨ds, es, e1, e2, h'⟩ := h2
    exact ⟨v, v2, d, d2, ds, es, ρ2, g2, hs2, rfl, e1, e2, h', s1.trans s2, W2, d1.mono s2, d2'⟩
  · obtain ⟨v, v2, d, d2, ds, es, ρ', g', hs', ev, ed, ed2, hP, s', W', d', d2'⟩ := q1
    subst ev
    cases r1 with
    | cons r rr =>
      cases rr with
      | cons r' rr =>
        cases rr
        obtain ⟨S, xs, Hh, eS, rS, isS, B, hb, hf⟩ := Sr.of I1 W'.sg d' ed r
        obtain ⟨S2, ys, Hh2, eS2, rS2, isS2, B2, hb2, hf2⟩ := Sr.of I1 W'.sg d2' ed2 r'
        subst eS eS2
        refine zip_begins2 B B2 hb hb2 fun h' hz hTI hTO h1 h2 hsz hk => wpAny_pyIter_zip hz ?_
        have I2 : Inv X pins σ H1 { s1 with heap := h' } := I1.kept (t' := s1.toks) hk
        refine ⟨s1.heap.objs.size + 4, [s1.heap.objs.size + 4, s1.heap.objs.size + 2, s1.heap.objs.size + 3, s1.heap.objs.size, s1.heap.objs.size + 1], _, _, H1, rfl, I2, turn_zipS (zip_sep2 hf hf2) (fun z => absurd (hf _ z) (Nat.lt_irrefl _)) (fun z => ?_), ⟨hz, hTI, ⟨_, _, hTO⟩, Sr.it0 h1, Sr.it0 h2⟩, fun c hcm => ?_, k _ ρ' g' hs' H1 _ hP s' W' (walk_zipS rS rS2 isS isS2)⟩
        · have q : s1.heap.objs.size + 1 < s1.heap.objs.size := hf2 _ z
          omega
        · have e' : c = s1.heap.objs.size + 4 ∨ c = s1.heap.objs.size + 2 ∨ c = s1.heap.objs.size + 3 ∨ c = s1.heap.objs.size ∨ c = s1.heap.objs.size + 1 := by simpa using hcm
          have hle : s1.heap.objs.size ≤ c := by
            rcases e' with z | z | z | z | z
            · rw [z]; exact Nat.le_add_right _ _
            · rw [z]; exact Nat.le_add_right _ _
            · rw [z]; exact Nat.le_add_right _ _
            · rw [z]; exact Nat.le_refl _
            · rw [z]; exact Nat.le_add_right _ _
          exact I1.fpOk hle (I1.hok.fresh hle)
end
end Fb
namespace Fb
open PySem L2
set_option autoImplicit false
variable [Tb]

/-! ### data as a result -/
def dDat (w : ET) (ρ : Ev) (P : SV → Ev → Prop) : Prop := w ρ fun d ρ' => P (.dat d) ρ'
theorem do_dat {X : Cx} {e : Expr} {w : ET} (h : PE X e (lE w)) : PE X e (lO (dDat w)) := pe_imp h fun σ H Q h => by
  obtain ⟨fr, g, hs, ρ, P, W, h, k⟩ := h
  exact ⟨fr, g, hs, ρ, _, W, h, fun d ρ' v g' hs' H' h' s' W' d' => k _ ρ' v g' hs' nil H' h' s' W' d' apart_nil⟩

/-! ### several results side by side -/
inductive Rs : Hp → Hp → Prts → Hp → List SV → List V → Prop where
  | nil {fr g : Hp} {hs : Prts} {H : Hp} : Rs fr g hs H [] []
  | cons {fr g : Hp} {hs : Prts} {H ht : Hp} {r : SV} {v : V} {rs : List SV} {vs : List V} : Rep g r v ht → Apart fr g hs ht H → Rs (uni fr ht) g hs H rs vs → Rs fr g hs H (r :: rs) (v :: vs)
abbrev EM := Ev → (List SV → Ev → Prop) → Prop
def lM (w : EM) : TA := fun σ H Q => ∃ fr g hs ρ P, Own fr g hs ρ σ H ∧ w ρ P ∧ ∀ rs ρ' vs g' hs' H', P rs ρ' → Same g g' → Own fr g' hs' ρ' σ H' → Rs fr g' hs' H' rs vs → Q vs H'
def mNil (ρ : Ev) (P : List SV → Ev → Prop) : Prop := P [] ρ
def mCons (w : EO) (wr : EM) (ρ : Ev) (P : List SV → Ev → Prop) : Prop := w ρ fun r ρ1 => wr ρ1 fun rs ρ2 => P (r :: rs) ρ2
theorem Own.frame {fr g : Hp} {hs : Prts} {ρ : Ev} {σ : St} {H ht : Hp} (W : Own fr g hs ρ σ H) (A : Apart fr g hs ht H) : Own (uni fr ht) g hs ρ σ H :=
  ⟨W.len, fun a o e => (uni_some e).elim (W.sf a o) (A.s a o), fun a o e => (uni_some e).elim (W.df a o) fun z => (A.n a o z).2, W.sg, W.sh, W.dg, W.dh, W.rep, W.tb, fun a o e => (uni_some e).elim (W.nf a o) (A.d a o), W.ng, W.nh⟩
theorem Own.unframe {fr g : Hp} {hs : Prts} {ρ : Ev} {σ : St} {H ht : Hp} (W : Own (uni fr ht) g hs ρ σ H) (n : ∀ a o, ht a = some o → fr a = none) (d : ∀ a o, ht a = some o → ord o = true) : Own fr g hs ρ σ H ∧ Apart fr g hs ht H :=
  ⟨⟨W.len, fun a o e => W.sf a o (uni_l a o e), fun a o e => W.df a o (uni_l a o e), W.sg, W.sh, W.dg, W.dh, W.rep, W.tb, fun a o e => W.nf a o (uni_l a o e), W.ng, W.nh⟩,
    ⟨fun a o e => W.sf a o (uni_r n a o e), fun a o e => ⟨n a o e, W.df a o (uni_r n a o e)⟩, d⟩⟩
section
variable {X : Cx} {e : Expr} {es : List Expr} {pos : Pos}
theorem dm_nil : PA X [] (lM mNil) := pa_imp pa_nil fun σ H Q h => by
  obtain ⟨fr, g, hs, ρ, P, W, h, k⟩ := h
  exact k [] ρ [] g hs H h (Same.refl g) W .nil
theorem dm_cons {w : EO} {wr : EM} (h : PE X e (lO w)) (hr : PA X es (lM wr)) (hs : starEach (e :: es) X.env = (false, eval e X.env) :: starEach es X.env := by rfl) : PA X (e :: es) (lM (mCons w wr)) :=
  pa_imp (pa_cons h hr hs) fun σ H Q h => by
    obtain ⟨fr, g, hs, ρ, P, W, h, k⟩ := h
    refine ⟨fr, g, hs, ρ, _, W, h, fun r ρ1 v g1 hs1 ht H1 h1 s1 W1 r1 A1 => ⟨uni fr ht, g1, hs1, ρ1, _, W1.frame A1, h1, fun rs ρ2 vs g2 hs2 H2 h2 s2 W2 q2 => ?_⟩⟩
    obtain ⟨W3, A3⟩ := W2.unframe (fun a o e => (A1.n a o e).1) A1.d
    exact k _ ρ2 _ g2 hs2 H2 h2 (s1.trans s2) W3 (.cons (r1.mono s2) A3 q2)
end
theorem Rs.toSlot {fr g : Hp} {hs : Prts} {H ht : Hp} {i : Nat} (fr0 : Hp) (hfr : ∀ a o, fr0 a = some o → fr a = some o) : ∀ {rs : List SV} {vs : List V}, (∀ a o, ht a = some o → fr a = some o) → Rs fr g hs H rs vs → Rs fr0 g (setH hs i ht) H rs vs
  | _, _, _, .nil => .nil
  | r :: rs, v :: vs, hh, .cons (ht := h2) R A T => by
    refine .cons R ⟨A.s, fun a u e => ⟨?_, (A.n a u e).2.1, fun j => ?_⟩, A.d⟩ (Rs.toSlot (fr := uni fr h2) (uni fr0 h2) (fun a o e => ?_) (fun a o e => ?_) T)
    · cases q : fr0 a with
      | none => rfl
      | some o =>
        have z := (A.n a u e).1
        rw [hfr a o q] at z
        cases z
    · by_cases q : j = i
      · rw [q, setH_same]
        cases q2 : ht a with
        | none => rfl
        | some o =>
          have z := (A.n a u e).1
          rw [hh a o q2] at z
          cases z
      · rw [setH_ne q]
        exact (A.n a u e).2.2 j
    · rcases uni_some e with z | z
      · exact uni_l _ _ (hfr a o z)
      · exact uni_r (fun b o z => (A.n b o z).1) _ _ z
    · exact uni_l _ _ (hh a o e)
@[simp] def setRs : List Nat → List SV → Ev → Ev
  | i :: is, r :: rs, ρ => setRs is rs (ρ.set i (some r))
  | _, _, ρ => ρ
def setVs : List Nat → List V → St → St
  | i :: is, v :: vs, σ => setVs is vs (σ.set i (some v))
  | _, _, σ => σ
theorem Own.setRs {fr g : Hp} {H : Hp} : ∀ {is : List Nat} {rs : List SV} {vs : List V} {hs : Prts} {ρ : Ev} {σ : St}, Own fr g hs ρ σ H → Rs fr g hs H rs vs → ∃ hs', Own fr g hs' (setRs is rs ρ) (setVs is vs σ) H
  | [], rs, vs, hs, ρ, σ, W, T => by
    refine ⟨hs, ?_⟩
    cases T <;> exact W
  | i :: is, _, _, hs, ρ, σ, W, .nil => ⟨hs, W⟩
  | i :: is, _, _, hs, ρ, σ, W, .cons (ht := ht) R A T =>
    Own.setRs (is := is) (W.setO R A) (Rs.toSlot (i := i) fr (fun a o e => uni_l a o e) (fun a o e => uni_r (fun b o z => (A.n b o z).1) a o e) T)
theorem Rs.len {fr g : Hp} {hs : Prts} {H : Hp} {rs : List SV} {vs : List V} (h : Rs fr g hs H rs vs) : vs.length = rs.length := by
  induction h with
  | nil => rfl
  | cons _ _ _ ih => rw [List.length_cons, List.length_cons, ih]
def dPar (is : List Nat) (w : EM) (T : Edn) (ρ : Ev) : Prop := w ρ fun rs ρ' => rs.length = is.length ∧ T.nx (Fb.setRs is rs ρ')
section
variable {X : Cx} {K : PySem.W.Frag} {E : XK} {a b c : Expr} {pos px py pz pt pt2 : Pos} {x y z : Str} {w : EM}
theorem ds_par (i j : Nat) {kt k2 : Nat} (ha : PA X [a, b] (lM w)) (hN : X.N.Nodup) (hij : i ≠ j := by decide) (hi : X.N[i]? = some x := by rfl) (hj : X.N[j]? = some y := by rfl) (hc : X.calm = true := by rfl) (hx : X.env.scope.names.lookup x = some .local := by rfl) (hy : X.env.scope.names.lookup y = some .local := by rfl)
    (hw : swappedStores [.Tuple [.Name x px, .Name y py] kt pt] (.Tuple [a, b] k2 pt2) X.env = pure (some [x, y]) := by rfl) (hs : swapsWithSole [.Tuple [.Name x px, .Name y py] kt pt] (.Tuple [a, b] k2 pt2) pos.line X.env = pure false := by rfl) :
    PS X (.Assign [.Tuple [.Name x px, .Name y py] kt pt] (.Tuple [a, b] k2 pt2) pos) (lS K E (dPar [i, j] w)) := ps_imp (ps_par hc hN hi hj hij hx hy ha hw hs) fun D σ H h => by
  obtain ⟨fr, g, hs, ρ, T, W, h, m⟩ := h
  refine ⟨fr, g, hs, ρ, _, W, h, fun rs ρ' vs g' hs' H' h' s' W' R' => ?_⟩
  obtain ⟨hl, h'⟩ := h'
  obtain ⟨hs2, W2⟩ := W'.setRs (is := [i, j]) R'
  have lv := R'.len.trans hl
  match vs, lv with
  | [v, u], _ => exact ⟨v, u, rfl, m.nx _ _ g' hs2 H' h' s' W2⟩
theorem ds_par3 (i j l : Nat) {kt k2 : Nat} (ha : PA X [a, b, c] (lM w)) (hN : X.N.Nodup) (hij : i ≠ j := by decide) (hil : i ≠ l := by decide) (hjl : j ≠ l := by decide) (hi : X.N[i]? = some x := by rfl) (hj : X.N[j]? = some y := by rfl) (hl : X.N[l]? = some z := by rfl) (hc : X.calm = true := by rfl)
    (hx : X.env.scope.names.lookup x = some .local := by rfl) (hy : X.env.scope.names.lookup y = some .local := by rfl) (hz : X.env.scope.names.lookup z = some .local := by rfl)
    (hw : swappedStores [.Tuple [.Name x px, .Name y py, .Name z pz] kt pt] (.Tuple [a, b, c] k2 pt2) X.env = pure (some [x, y, z]) := by rfl) (hs : swapsWithSole [.Tuple [.Name x px, .Name y py, .Name z pz] kt pt] (.Tuple [a, b, c] k2 pt2) pos.line X.env = pure false := by rfl) :
    PS X (.Assign [.Tuple [.Name x px, .Name y py, .Name z pz] kt pt] (.Tuple [a, b, c] k2 pt2) pos) (lS K E (dPar [i, j, l] w)) := ps_imp (L2.ps_par3 hc hN hi hj hl hij hil hjl hx hy hz ha hw hs) fun D σ H h => by
  obtain ⟨fr, g, hs, ρ, T, W, h, m⟩ := h
  refine ⟨fr, g, hs, ρ, _, W, h, fun rs ρ' vs g' hs' H' h' s' W' R' => ?_⟩
  obtain ⟨hl, h'⟩ := h'
  obtain ⟨hs2, W2⟩ := W'.setRs (is := [i, j, l]) R'
  have lv := R'.len.trans hl
  match vs, lv with
  | [v, u, t], _ => exact ⟨v, u, t, rfl, m.nx _ _ g' hs2 H' h' s' W2⟩
/-- a target of several names, from data -/
def dAsg (b : TB) (w : ET) (T : Edn) (ρ : Ev) : Prop := w ρ fun d ρ' => b d ρ' fun ρ2 => T.nx ρ2
theorem ds_asg {tg e : Expr} {w : ET} {js : List Nat} {b : TB} (he : PE X e (lE w)) (hg : PG X tg (lG js b)) (hs : swapsWithSole [tg] e pos.line X.env = pure false := by rfl) (hw : swappedStores [tg] e X.env = pure none := by rfl) (h1 : (assignEach [tg] X.env).map (·.2) = [assign tg X.env] := by rfl) : PS X (.Assign [tg] e pos) (lS K E (dAsg b w)) :=
  ps_imp (ps_asg he hg hs hw h1) fun D σ H h => by
    obtain ⟨fr, g, hs, ρ, T, W, h, m⟩ := h
    exact ⟨fr, g, hs, ρ, _, W, h, fun d ρ' v g' hs' H' h' s' W' d' => ⟨fr, g', hs', ρ', d, _, W', d', h', fun ρ2 σ2 h2 W2 _ => m.nx ρ2 σ2 g' hs' H' h2 s' W2⟩⟩
end
end Fb
namespace Fb
open PySem L2
set_option autoImplicit false
variable [Tb]

/-! ### name op= e -/
section
variable {X : Cx} {K : PySem.W.Frag} {E : XK} {pos p1 p2 p3 apos cpos : Pos} {e f k o : Expr} {es : List Expr} {w wk wv wx : ET} {x : Str}
theorem ds_aug {op : Operator} {f : Int → Int → Int} (ho : PIp X op (ipI f)) (i : Nat) (he : PE X e (lE w)) (hN : X.N.Nodup) (hi : X.N[i]? = some x := by rfl) (hx : Loc X.env.scope x := by first | exact Or.inl rfl | exact Or.inr rfl)
    (hf : X.fn x = true ∨ X.env.scope.names.lookup x = some .local := by first | exact .inl rfl | exact .inr rfl | assumption) : PS X (.AugAssign (.Name x p1) op e pos) (lS K E (dAug f i w)) := ps_imp (ps_aug hN hi hx he ho hf) fun D σ H h => by
  obtain ⟨fr, g, hs, ρ, T, W, h, m⟩ := h
  obtain ⟨n, e0, h⟩ := h
  obtain ⟨v, hv, dv⟩ := W.dat e0
  have dv : v = .int n := dv
  refine ⟨v, hv, fr, g, hs, ρ, _, W, h, fun d ρ1 v1 g1 hs1 H1 h1 s1 W1 d1 => ?_⟩
  obtain ⟨j, ed, h1⟩ := h1
  subst ed
  have d1 : v1 = .int j := d1
  exact ⟨n, j, dv, d1, m.nx _ _ g1 hs1 H1 h1 s1 (W1.setD (d := .int (f n j)) (v := .int (f n j)) rfl)⟩
/-- name[k] op= e, a dict of numbers -/
theorem ds_augD {op : Operator} {f : Int → Int → Int} (ho : InOp X op fun x y H Q => ∃ i j, x = .int i ∧ y = .int j ∧ Q (.int (f i j)) H) (i : Nat) (hu : X.A.units + 1 < cLine) (hk : PE X k (lE wk)) (he : PE X e (lE wv)) (hN : X.N[i]? = some x := by rfl) (hv : Vis X.env.scope x := by first | exact Or.inl rfl | exact Or.inr (Or.inl rfl) | exact Or.inr (Or.inr rfl)) (hd : (x == ("__debug__" : Str)) = false := by decide)
    (hcd : (x == ("__classdict__" : Str)) = false := by decide) (ha : ∀ ov iv new, augStore k ov iv new = (do holding [new, ov, iv] (setItem ov iv new); release [new, ov, iv] []; pure .next) := by intros; rfl) : PS X (.AugAssign (.Subscript (.Name x p1) k p2) op e pos) (lS K E (dAugD f i wk wv)) := by
  refine ps_imp (ps_daug hu (pe_var (i := i) hN hv hd hcd) hk he ho ha) fun D σ H h => ?_
  obtain ⟨fr, g, hs, ρ, T, W, h, m⟩ := h
  obtain ⟨⟨sv, e0⟩, h⟩ := h
  obtain ⟨v, hv, _⟩ := W.at e0
  refine ⟨v, hv, fr, g, hs, ρ, _, W, h, fun k' ρ1 v1 g1 hs1 H1 h1 s1 W1 d1 => ?_⟩
  obtain ⟨a, kvs, key, n, e1, ek, el, h1⟩ := h1
  obtain ⟨hv1, vs, hH, hh, r⟩ := W1.dic e1
  rw [hv] at hv1
  cases hv1
  obtain ⟨u, e2, du⟩ := (r.look (k := key)).1 _ el
  have du : u = .int n := du
  refine ⟨a, u, rfl, by rw [keyD_kV d1 ek, ← e2]; exact DGet.k hH, fr, g1, hs1, ρ1, _, W1, h1, fun d ρ2 v2 g2 hs2 H2 h2 s2 W2 d2 => ?_⟩
  obtain ⟨j, ed, kvs2, e3, hl, h2⟩ := h2
  subst ed
  have d2 : v2 = .int j := d2
  obtain ⟨hv2, vs2, hH2, hh2, r2⟩ := W2.dic e3
  refine ⟨n, j, du, d2, _, by rw [keyD_kV d1 ek]; exact DPut.k hH2 (by rw [r2.length]; exact hl), m.nx _ _ _ _ _ h2 (s1.trans s2) (W2.store hh2 hv ⟨rfl, _, upd_same, r2.put (d := .int (f n j)) rfl⟩)⟩

/-! ### k in name, a dict; in a list of one's own -/
def dInN (neg : Bool) (i : Nat) (wk : ET) (ρ : Ev) (P : PyData → Ev → Prop) : Prop := wk ρ fun k ρ1 => (∃ a kvs key, slot ρ1 i = some (.dic a kvs) ∧ keyD k = some key ∧ P (.bool (xor neg (lookD kvs key).isSome)) ρ1)
theorem pc_dict_in (hu : X.A.units + 1 < cLine) (i : Nat) (hk : PE X k (lE wk)) (hN : X.N[i]? = some x := by rfl) (hv : Vis X.env.scope x := by first | exact Or.inl rfl | exact Or.inr (Or.inl rfl) | exact Or.inr (Or.inr rfl)) (hd : (x == ("__debug__" : Str)) = false := by decide)
    (hcd : (x == ("__classdict__" : Str)) = false := by decide) : PC X .In k (.Name x p1) (lE (dInN false i wk)) := by
  have h0 := pc_din hu hk (pe_var (X := X) (i := i) (pos := p1) hN hv hd hcd)
  refine ⟨fun pins s σ H Q I h => h0.run pins s σ H Q I ?_⟩
  obtain ⟨fr, g, hs, ρ, P, W, h, k⟩ := h
  refine ⟨fr, g, hs, ρ, _, W, h, fun k' ρ1 v1 g1 hs1 H1 h1 s1 W1 d1 => ?_⟩
  obtain ⟨a, kvs, key, e1, ek, h1⟩ := h1
  obtain ⟨hv1, vs, hH, hh, r⟩ := W1.dic e1
  refine ⟨_, hv1, a, _, rfl, by rw [keyD_kV d1 ek]; exact DGet.k hH, ?_⟩
  rw [r.has]
  rw [Bool.false_xor] at h1
  exact k _ _ _ _ _ _ h1 s1 W1 rfl
theorem pc_dict_ni (hu : X.A.units + 1 < cLine) (i : Nat) (hk : PE X k (lE wk)) (hN : X.N[i]? = some x := by rfl) (hv : Vis X.env.scope x := by first | exact Or.inl rfl | exact Or.inr (Or.inl rfl) | exact Or.inr (Or.inr rfl)) (hd : (x == ("__debug__" : Str)) = false := by decide)
    (hcd : (x == ("__classdict__" : Str)) = false := by decide) : PC X .NotIn k (.Name x p1) (lE (dInN true i wk)) := by
  have h0 := pc_dnotin hu hk (pe_var (X := X) (i := i) (pos := p1) hN hv hd hcd)
  refine ⟨fun pins s σ H Q I h => h0.run pins s σ H Q I ?_⟩
  obtain ⟨fr, g, hs, ρ, P, W, h, k⟩ := h
  refine ⟨fr, g, hs, ρ, _, W, h, fun k' ρ1 v1 g1 hs1 H1 h1 s1 W1 d1 => ?_⟩
  obtain ⟨a, kvs, key, e1, ek, h1⟩ := h1
  obtain ⟨hv1, vs, hH, hh, r⟩ := W1.dic e1
  refine ⟨_, hv1, a, _, rfl, by rw [keyD_kV d1 ek]; exact DGet.k hH, ?_⟩
  rw [r.has]
  rw [Bool.true_xor] at h1
  exact k _ _ _ _ _ _ h1 s1 W1 rfl
theorem de_inD (i : Nat) (hu : X.A.units + 1 < cLine) (hk : PE X k (lE wk)) (hN : X.N[i]? = some x := by rfl) (hv : Vis X.env.scope x := by first | exact Or.inl rfl | exact Or.inr (Or.inl rfl) | exact Or.inr (Or.inr rfl)) (hd : (x == ("__debug__" : Str)) = false := by decide)
    (hcd : (x == ("__classdict__" : Str)) = false := by decide) (hm : behindInMarks .In (.Name x p1) = false := by rfl) : PE X (.Compare k [.In] [.Name x p1] pos) (lE (dInN false i wk)) := pe_cmp (pc_dict_in hu i hk hN hv hd hcd) hm
theorem de_niD (i : Nat) (hu : X.A.units + 1 < cLine) (hk : PE X k (lE wk)) (hN : X.N[i]? = some x := by rfl) (hv : Vis X.env.scope x := by first | exact Or.inl rfl | exact Or.inr (Or.inl rfl) | exact Or.inr (Or.inr rfl)) (hd : (x == ("__debug__" : Str)) = false := by decide)
    (hcd : (x == ("__classdict__" : Str)) = false := by decide) (hm : behindInMarks .NotIn (.Name x p1) = false := by rfl) : PE X (.Compare k [.NotIn] [.Name x p1] pos) (lE (dInN true i wk)) := pe_cmp (pc_dict_ni hu i hk hN hv hd hcd) hm
theorem dt_inD (i : Nat) (hu : X.A.units + 1 < cLine) (hk : PE X k (lE wk)) (hN : X.N[i]? = some x := by rfl) (hv : Vis X.env.scope x := by first | exact Or.inl rfl | exact Or.inr (Or.inl rfl) | exact Or.inr (Or.inr rfl)) (hd : (x == ("__debug__" : Str)) = false := by decide)
    (hcd : (x == ("__classdict__" : Str)) = false := by decide) (hm : behindInMarks .In (.Name x p1) = false := by rfl) : PT X (.Compare k [.In] [.Name x p1] pos) (lT (dTst (dInN false i wk))) := pt_imp (pt_cmp (pc_dict_in hu i hk hN hv hd hcd) hm) fun _ _ _ h => lT_tst h
theorem dt_niD (i : Nat) (hu : X.A.units + 1 < cLine) (hk : PE X k (lE wk)) (hN : X.N[i]? = some x := by rfl) (hv : Vis X.env.scope x := by first | exact Or.inl rfl | exact Or.inr (Or.inl rfl) | exact Or.inr (Or.inr rfl)) (hd : (x == ("__debug__" : Str)) = false := by decide)
    (hcd : (x == ("__classdict__" : Str)) = false := by decide) (hm : behindInMarks .NotIn (.Name x p1) = false := by rfl) : PT X (.Compare k [.NotIn] [.Name x p1] pos) (lT (dTst (dInN true i wk))) := pt_imp (pt_cmp (pc_dict_ni hu i hk hN hv hd hcd) hm) fun _ _ _ h => lT_tst h

/-! ### name.get(k, x), name.pop(k): a dict -/
def dGet2 (i : Nat) (wk wx : ET) (ρ : Ev) (P : PyData → Ev → Prop) : Prop := (∃ a kvs, slot ρ i = some (.dic a kvs)) ∧ wk ρ fun k ρ1 => wx ρ1 fun z ρ2 => ∃ a kvs key, slot ρ2 i = some (.dic a kvs) ∧ keyD k = some key ∧ P ((lookD kvs key).getD z) ρ2
def dPopD (i : Nat) (wk : ET) (ρ : Ev) (P : PyData → Ev → Prop) : Prop := (∃ a kvs, slot ρ i = some (.dic a kvs)) ∧ wk ρ fun k ρ1 => ∃ a kvs key d, slot ρ1 i = some (.dic a kvs) ∧ keyD k = some key ∧ lookD kvs key = some d ∧ P d (ρ1.set i (some (.dic a (dropD kvs key))))
theorem isD_k {H : Hp} {a : Addr} {vs : List (Key × V)} (h : H a = some (.dK vs)) : IsD H a := .inl ⟨vs, .inl h⟩
theorem de_get2 (i : Nat) (hu : X.A.units + 1 < cLine) (hk : PE X k (lE wk)) (hx : PE X f (lE wx)) (hN : X.N[i]? = some x := by rfl) (hv : Vis X.env.scope x := by first | exact Or.inl rfl | exact Or.inr (Or.inl rfl) | exact Or.inr (Or.inr rfl)) (hd : (x == ("__debug__" : Str)) = false := by decide)
    (hcd : (x == ("__classdict__" : Str)) = false := by decide) (mb : attributeBase (.Name x p1) "get" X.env (eval (.Name x p1) X.env) = eval (.Name x p1) X.env := by rfl)
    (mf : ((backTo cpos (starEach [k, f] X.env)).all (fun x => !x.1) && (backToKw cpos (keywordEach [] X.env)).all (fun x => x.1.isSome) && decide (([k, f] : List Expr).length + ([] : List Keyword).length + (if ([] : List Keyword).isEmpty then 0 else 1) < 30)) = true := by rfl)
    (ml : (apos.endLine == cpos.line) = true := by rfl) (mt : backTo cpos (starEach [k, f] X.env) = [(false, eval k X.env), (false, eval f X.env)] := by rfl) :
    PE X (.Call (.Attribute (.Name x p1) "get" apos) [k, f] [] cpos) (lE (dGet2 i wk wx)) := by
  refine pe_imp (pe_dget2 hu (pe_var (i := i) hN hv hd hcd) hk hx ⟨mb, mf, ml, mt⟩) fun σ H Q h => ?_
  obtain ⟨fr, g, hs, ρ, P, W, h, k⟩ := h
  obtain ⟨⟨a, kvs, e0⟩, h⟩ := h
  obtain ⟨hv0, vs0, hH0, _, _⟩ := W.dic e0
  refine ⟨_, hv0, a, rfl, isD_k hH0, fr, g, hs, ρ, _, W, h, fun k' ρ1 v1 g1 hs1 H1 h1 s1 W1 d1 => ⟨fr, g1, hs1, ρ1, _, W1, h1, fun z ρ2 v2 g2 hs2 H2 h2 s2 W2 d2 => ?_⟩⟩
  obtain ⟨a', kvs', key, e1, ek, h2⟩ := h2
  obtain ⟨hv1, vs, hH, hh, r⟩ := W2.dic e1
  rw [hv0] at hv1
  cases hv1
  refine ⟨_, by rw [keyD_kV d1 ek]; exact DGet.k hH, k _ _ _ _ _ _ h2 (s1.trans s2) W2 ?_⟩
  obtain ⟨i1, i2⟩ := r.look (k := key)
  cases q : lookD kvs' key with
  | none => rw [i2 q]; exact d2
  | some d =>
    obtain ⟨u, e2, du⟩ := i1 d q
    rw [e2]
    exact du
theorem de_popD (i : Nat) (hk : PE X k (lE wk)) (hN : X.N[i]? = some x := by rfl) (hv : Vis X.env.scope x := by first | exact Or.inl rfl | exact Or.inr (Or.inl rfl) | exact Or.inr (Or.inr rfl)) (hd : (x == ("__debug__" : Str)) = false := by decide)
    (hcd : (x == ("__classdict__" : Str)) = false := by decide) (mb : attributeBase (.Name x p1) "pop" X.env (eval (.Name x p1) X.env) = eval (.Name x p1) X.env := by rfl)
    (mf : ((backTo cpos (starEach [k] X.env)).all (fun x => !x.1) && (backToKw cpos (keywordEach [] X.env)).all (fun x => x.1.isSome) && decide (([k] : List Expr).length + ([] : List Keyword).length + (if ([] : List Keyword).isEmpty then 0 else 1) < 30)) = true := by rfl)
    (ml : (apos.endLine == cpos.line) = true := by rfl) (mt : backTo cpos (starEach [k] X.env) = [(false, eval k X.env)] := by rfl) :
    PE X (.Call (.Attribute (.Name x p1) "pop" apos) [k] [] cpos) (lE (dPopD i wk)) := by
  refine pe_imp (pe_dpop1 (pe_var (i := i) hN hv hd hcd) hk ⟨mb, mf, ml, mt⟩) fun σ H Q h => ?_
  obtain ⟨fr, g, hs, ρ, P, W, h, k⟩ := h
  obtain ⟨⟨a, kvs, e0⟩, h⟩ := h
  obtain ⟨hv0, vs0, hH0, _, _⟩ := W.dic e0
  refine ⟨_, hv0, a, rfl, isD_k hH0, fr, g, hs, ρ, _, W, h, fun k' ρ1 v1 g1 hs1 H1 h1 s1 W1 d1 => ?_⟩
  obtain ⟨a', kvs', key, d, e1, ek, el, h1⟩ := h1
  obtain ⟨hv1, vs, hH, hh, r⟩ := W1.dic e1
  rw [hv0] at hv1
  cases hv1
  obtain ⟨u, e2, du⟩ := (r.look (k := key)).1 d el
  exact ⟨vs, key, u, hH, keyD_kV d1 ek, e2, k _ _ _ _ _ _ h1 s1 (W1.store hh hv0 ⟨rfl, _, upd_same, r.drop⟩) du⟩

/-! ### -e -/
def dNeg (w : ET) (ρ : Ev) (P : PyData → Ev → Prop) : Prop := w ρ fun d ρ1 => ∃ n, d = .int n ∧ P (.int (-n)) ρ1
theorem de_neg (h : PE X e (lE w)) : PE X (.UnaryOp .USub e pos) (lE (dNeg w)) := pe_imp (pe_un un_neg h) fun σ H Q h => by
  obtain ⟨fr, g, hs, ρ, P, W, h, k⟩ := h
  refine ⟨fr, g, hs, ρ, _, W, h, fun d ρ1 v1 g1 hs1 H1 h1 s1 W1 d1 => ?_⟩
  obtain ⟨n, ed, h1⟩ := h1
  subst ed
  exact ⟨n, d1, k _ _ _ _ _ _ h1 s1 W1 rfl⟩

/-! ### e[lo:hi] -/
abbrev EP := Ev → (Option Int → Ev → Prop) → Prop
def lP (w : EP) : L2.TO := fun σ H Q => ∃ fr g hs ρ P, Own fr g hs ρ σ H ∧ w ρ P ∧ ∀ i ρ' g' hs' H', P i ρ' → Same g g' → Own fr g' hs' ρ' σ H' → Q i H'
def pNone (ρ : Ev) (P : Option Int → Ev → Prop) : Prop := P none ρ
def pSome (w : ET) (ρ : Ev) (P : Option Int → Ev → Prop) : Prop := w ρ fun d ρ1 => ∃ n, d = .int n ∧ P (some n) ρ1
theorem po_imp {e : Option Expr} {t t' : L2.TO} (h : PO X e t) (i : ∀ σ H Q, t' σ H Q → t σ H Q) : PO X e t' := ⟨fun pins s σ H Q I hw => h.run pins s σ H Q I (i σ H Q hw)⟩
theorem dpo_none : PO X none (lP pNone) := po_imp po_none fun σ H Q h => by
  obtain ⟨fr, g, hs, ρ, P, W, h, k⟩ := h
  exact k none ρ g hs H h (Same.refl g) W
theorem dpo_some (h : PE X e (lE w)) : PO X (some e) (lP (pSome w)) := po_imp (po_some h) fun σ H Q h => by
  obtain ⟨fr, g, hs, ρ, P, W, h, k⟩ := h
  refine ⟨fr, g, hs, ρ, _, W, h, fun d ρ1 v1 g1 hs1 H1 h1 s1 W1 d1 => ?_⟩
  obtain ⟨n, ed, h1⟩ := h1
  subst ed
  exact ⟨n, d1, k _ _ _ _ _ h1 s1 W1⟩
/-- xs[lo:hi] -/
def cutD {α : Type} (xs : List α) (lo hi : Option Int) : List α := (xs.drop (HT.sIx xs.length 0 lo)).take (HT.sIx xs.length xs.length hi - HT.sIx xs.length 0 lo)
@[simp] def wSl : PyData → Option Int → Option Int → (PyData → Prop) → Prop
  | .list ds, lo, hi, k => k (.list (cutD ds lo hi))
  | .tuple ds, lo, hi, k => k (.tuple (cutD ds lo hi))
  | .str z, lo, hi, k => z.length ≤ sizeLine ∧ k (.str (cutS z lo hi))
  | _, _, _, _ => False
def dSl (w : ET) (wl wh : EP) (ρ : Ev) (P : PyData → Ev → Prop) : Prop := w ρ fun d ρ1 => wl ρ1 fun lo ρ2 => wh ρ2 fun hi ρ3 => wSl d lo hi fun z => P z ρ3
def rSlAll (K : PySem.W.Frag) : V → Option Int → Option Int → Hp → VK → Prop := fun x lo hi H Q => rSlL K x lo hi H Q ∨ rSlA K x lo hi H Q ∨ rSlS x lo hi H Q
theorem sl_all : SlR X (rSlAll X.K) := fun pins s σ H x v vl vu lo hi sl Q I rx hs pl pu h => h.elim (sl_list pins s σ H x v vl vu lo hi sl Q I rx hs pl pu) fun h => h.elim (sl_tupA pins s σ H x v vl vu lo hi sl Q I rx hs pl pu) (sl_str pins s σ H x v vl vu lo hi sl Q I rx hs pl pu)
theorem DPs.cut {g : Hp} {ds : List PyData} {vs : List V} {lo hi : Option Int} (h : DPs g ds vs) : DPs g (cutD ds lo hi) (cutV vs lo hi) := by
  unfold cutD cutV
  rw [h.length]
  exact (h.drop _).take _
@[simp] theorem cut_tail {α : Type} {x : α} {xs : List α} : cutD (x :: xs) (some 1) none = xs := by
  unfold cutD
  have e : HT.sIx (x :: xs).length 0 (some 1) = 1 := by
    show (if (1 : Int) < 0 then ((1 : Int) + ((x :: xs).length : Int)).toNat else min (1 : Int).toNat (x :: xs).length) = 1
    rw [if_neg (by decide), List.length_cons]
    show min 1 (xs.length + 1) = 1
    omega
  rw [e]
  show ((x :: xs).drop 1).take ((x :: xs).length - 1) = xs
  simp
theorem cut_all {α : Type} {xs : List α} {lo hi : Option Int} (h : HT.sIx xs.length 0 lo = 0 ∧ HT.sIx xs.length xs.length hi = xs.length) : cutD xs lo hi = xs := by
  unfold cutD
  rw [h.1, h.2]
  simp
theorem strOk_cut {z : Str} {lo hi : Option Int} (h : PyData.strOk z = true) : PyData.strOk (cutS z lo hi) = true := by
  unfold PyData.strOk at *
  rw [Array.all_eq_true_iff_forall_mem] at *
  intro c hc
  refine h c ?_
  unfold cutS at hc
  have hc : c ∈ ((z.cps.toList.drop (HT.sIx z.length 0 lo)).take (HT.sIx z.length z.length hi - HT.sIx z.length 0 lo)).toArray := hc
  rw [List.mem_toArray] at hc
  exact Array.mem_toList_iff.mp (List.mem_of_mem_drop (List.mem_of_mem_take hc))
theorem de_sl {lo hi : Option Expr} {wl wh : EP} (he : PE X e (lE w)) (hl : PO X lo (lP wl)) (hh : PO X hi (lP wh)) : PE X (.Subscript e (.Slice lo hi none p2) pos) (lE (dSl w wl wh)) := pe_imp (pe_slice sl_all he hl hh) fun σ H Q h => by
  obtain ⟨fr, g, hs, ρ, P, W, h, k⟩ := h
  refine ⟨fr, g, hs, ρ, _, W, h, fun d ρ1 v1 g1 hs1 H1 h1 s1 W1 d1 => ⟨fr, g1, hs1, ρ1, _, W1, h1, fun i ρ2 g2 hs2 H2 h2 s2 W2 => ⟨fr, g2, hs2, ρ2, _, W2, h2, fun j ρ3 g3 hs3 H3 h3 s3 W3 => ?_⟩⟩⟩
  have d3 := d1.mono (s2.trans s3)
  have o := W3.out ((s1.trans s2).trans s3) k
  cases d with
  | list ds =>
    obtain ⟨a, vs, ev, ha, r⟩ := d3
    refine .inl ⟨a, vs, ev, SqL.of (W3.sg _ _ ha), fun p hp => ?_⟩
    exact o.new _ p _ h3 hp ⟨p, _, rfl, upd_same, (r.mono (Same.new (none_of W3.sg hp))).cut⟩
  | tuple ds =>
    obtain ⟨a, vs, ev, ha, r⟩ := d3
    refine .inr (.inl ⟨a, vs, ev, SqT.of (W3.sg _ _ ha), fun z => ?_, fun _ p hp => ?_⟩)
    · rw [r.length] at z
      have h3 : P (.tuple (cutD ds i j)) ρ3 := h3
      rw [cut_all z] at h3
      exact o.old _ _ h3 ⟨a, vs, rfl, ha, r⟩
    · exact o.new _ p _ h3 hp ⟨p, _, rfl, upd_same, (r.mono (Same.new (none_of W3.sg hp))).cut⟩
  | str z => exact .inr (.inr ⟨z, d3.1, h3.1, o.old _ _ h3.2 ⟨rfl, strOk_cut d3.2⟩⟩)
  | none => exact h3.elim
  | bool b => exact h3.elim
  | int b => exact h3.elim
  | dict b => exact h3.elim

/-! ### a list of one's own compared, not frozen -/
def dOwnL (i : Nat) (f : PyData → PyData → PyData → Prop) (w : ET) : ET := fun ρ P => (∃ a ds, slot ρ i = some (.lst a ds)) ∧ w ρ fun d ρ1 => ∃ a ds z, slot ρ1 i = some (.lst a ds) ∧ f (.list ds) d z ∧ P z ρ1
end
end Fb
namespace Fb
open PySem L2
set_option autoImplicit false
variable [Tb]

/-! ### a class of refusals, raised with one text -/
structure RfC (K : PySem.W.Frag) (mg : Str → Option Value) (x : Str) : Prop where
  glo : mg x = some (.ref (He.ga K x))
  exc : PySem.W.excIn K (He.ga K x) [.type "ValueError", .type "Exception", .type "BaseException", .type "object"] "ValueError.__new__" = true
  kp : PySem.W.keepIn K (.ref (He.ga K x)) = true
  sub : PySem.W.subIn K (.ref (He.ga K x)) (.type "BaseException") = some true
  ty : PySem.W.typeIn K (.ref (He.ga K x)) = some (.type "type")
/-- what X lets out is what E takes -/
abbrev Lets (X : Cx) (E : XK) : Prop := Takes X (fun cls d _ H => E cls d H)
def dRaise (x : Str) (T : Edn) (ρ : Ev) : Prop := T.rx ⟨x, none⟩ ρ
section
variable {X : Cx} {E : XK} {x m : Str} {j : Nat} {p p2 p3 pos : Pos}
theorem ds_raise (R : RfC X.K X.mg x) (tk : Lets X E) (hc : X.calm = true := by rfl) (hg : Gl X x := by rfl) (hdb : (x == ("__debug__" : Str)) = false := by decide) : PS X (.Raise (some (.Call (.Name x p) [.Constant (.str m) j p2] [] p3)) none pos) (lS X.K E (dRaise x)) :=
  ps_imp (ps_raise hc tk (pmk_own PySem.F.excBase_ValueError R.exc R.glo R.kp (raises_own R.sub R.ty) hg hdb)) fun D σ H h => by
    obtain ⟨fr, g, hs, ρ, T, W, h, mt⟩ := h
    exact mt.rx _ ρ σ _ _ g hs H h (Same.refl g) W ⟨rfl, rfl⟩
end

/-! ### expressions that may refuse -/
abbrev EX := Ev → (SV → Ev → Prop) → (Rf → Ev → Prop) → Prop
def lX (K : PySem.W.Frag) (E : XK) (w : EX) : TE := fun σ H Q => ∃ fr g hs ρ P Pe, Own fr g hs ρ σ H ∧ w ρ P Pe ∧ (∀ r ρ' v g' hs' ht H', P r ρ' → Same g g' → Own fr g' hs' ρ' σ H' → Rep g' r v ht → Apart fr g' hs' ht H' → Q v H') ∧
  ∀ x ρ' cls d g' hs' H', Pe x ρ' → Same g g' → Own fr g' hs' ρ' σ H' → Throws K x cls d H' → E cls d H'
/-- no refusal is looked for -/
def noX (w : EX) (ρ : Ev) (P : SV → Ev → Prop) : Prop := w ρ P fun _ _ => False
def dExpX (w : EX) (T : Edn) (ρ : Ev) : Prop := w ρ (fun _ ρ' => T.nx ρ') T.rx
def dSetX (i : Nat) (w : EX) (T : Edn) (ρ : Ev) : Prop := w ρ (fun r ρ' => T.nx (ρ'.set i (some r))) T.rx
def dRetX (w : EX) (T : Edn) (ρ : Ev) : Prop := w ρ T.rt T.rx
section
variable {X : Cx} {K : PySem.W.Frag} {E : XK} {e : Expr} {pos : Pos} {w : EX}
theorem do_noX (h : PE X e (lX K (fun _ _ _ => False) w)) : PE X e (lO (noX w)) := pe_imp h fun σ H Q h => by
  obtain ⟨fr, g, hs, ρ, P, W, h, k⟩ := h
  exact ⟨fr, g, hs, ρ, P, _, W, h, k, fun _ _ _ _ _ _ _ z => z.elim⟩
theorem ds_expX (h : PE X e (lX K E w)) (hs : swapsWith e none pos.line X.env = pure false := by rfl) : PS X (.Expr e pos) (lS K E (dExpX w)) := ps_imp (ps_expr h hs) fun D σ H h => by
  obtain ⟨fr, g, hs, ρ, T, W, h, m⟩ := h
  exact ⟨fr, g, hs, ρ, _, _, W, h, fun r ρ' v g' hs' ht H' h' s' W' _ _ => m.nx ρ' σ g' hs' H' h' s' W', fun x ρ' cls d g' hs' H' h' s' W' t => m.rx x ρ' σ cls d g' hs' H' h' s' W' t⟩
theorem ds_setX (i : Nat) {x : Str} {pos' : Pos} (he : PE X e (lX K E w)) (hN : X.N.Nodup) (hi : X.N[i]? = some x := by rfl) (hx : Loc X.env.scope x := by first | exact Or.inl rfl | exact Or.inr rfl)
    (hs : swapsWith e (some (.Name x pos')) pos.line X.env = pure false := by rfl) (hf : X.fn x = true ∨ X.env.scope.names.lookup x = some .local := by first | exact .inl rfl | exact .inr rfl | assumption) : PS X (.Assign [.Name x pos'] e pos) (lS K E (dSetX i w)) :=
  ps_imp (ps_set hN hi hx he hs hf) fun D σ H h => by
    obtain ⟨fr, g, hs, ρ, T, W, h, m⟩ := h
    exact ⟨fr, g, hs, ρ, _, _, W, h, fun r ρ' v g' hs' ht H' h' s' W' r' A' => m.nx _ _ g' _ H' h' s' (W'.setO r' A'), fun x ρ' cls d g' hs' H' h' s' W' t => m.rx x ρ' σ cls d g' hs' H' h' s' W' t⟩
theorem ds_retX (he : PE X e (lX K E w)) : PS X (.Return (some e) pos) (lS K E (dRetX w)) := ps_imp (ps_ret he) fun D σ H h => by
  obtain ⟨fr, g, hs, ρ, T, W, h, m⟩ := h
  exact ⟨fr, g, hs, ρ, _, _, W, h, fun r ρ' v g' hs' ht H' h' s' W' r' A' => m.rt _ ρ' σ v g' hs' ht H' h' s' W' r' A', fun x ρ' cls d g' hs' H' h' s' W' t => m.rx x ρ' σ cls d g' hs' H' h' s' W' t⟩
end

/-! ### defs that may refuse -/
abbrev FX := List SV → (SV → List SV → Prop) → (Rf → List SV → Prop) → Prop
def spX (K : PySem.W.Frag) (n : Nat) (P : FX) : Sp := fun vs H Q E => ∃ fr g hs as Pq Pe, as.length = n ∧ Own fr g hs (as.map some) (vs.map some) H ∧ P as Pq Pe ∧
  (∀ r as' v g' hs' ht H', Pq r as' → Same g g' → Own fr g' hs' (as'.map some) (vs.map some) H' → Rep g' r v ht → Apart fr g' hs' ht H' → Q v H') ∧
  ∀ x as' cls d g' hs' H', Pe x as' → Same g g' → Own fr g' hs' (as'.map some) (vs.map some) H' → Throws K x cls d H' → E cls d H'
theorem spX_len {K : PySem.W.Frag} {n : Nat} {P : FX} (vs : List V) (H : Hp) (Q : VK) (E : XK) (h : spX K n P vs H Q E) : vs.length = n := by
  obtain ⟨fr, g, hs, as, Pq, Pe, hl, W, _⟩ := h
  have e := W.len
  rw [List.length_map, List.length_map] at e
  omega
section
variable {P : Program} {w : World} {K : PySem.W.Frag} {mg : Str → Option Value} {base : Heap} {x qual : Str} {st : Stmt} {f : Addr} {fd : FuncData} {N ps : List Str} {k : Nat}
theorem lets_def {cdv : Value} {A : Around} {outer : List PySem.Env} {s : Shared} {H : Hp} {E : XK} {sc : Scope} : Lets (cxOf (L2.CX P w) P w K mg base N qual sc f cdv A outer s H E) E := takes_of rfl rfl rfl rfl
theorem fn_x {kws : List (Str × V)} {S : FX} (F : FunS K x qual st kws f fd) (sc : FnScope N ps (defScope st)) {v : SE}
    (hb : ∀ (cdv : Value) (A : Around) (outer : List PySem.Env) (s : Shared) (H : Hp) (E : XK), fd.code = cdv → Room k (A.deeper (PyProof.Rows.envOfC qual (defScope st) s.heap.objs.size f cdv)) → Lets (cxOf (L2.CX P w) P w K mg base N qual (defScope st) f cdv A outer s H E) E → PSs (cxOf (L2.CX P w) P w K mg base N qual (defScope st) f cdv A outer s H E) (defBody st) (lS K E v))
    (hw : ∀ as Pq Pe, as.length = ps.length → S as Pq Pe → v { nx := fun ρ => ends as ρ (Pq (.dat .none)), rt := fun r ρ => ends as ρ (Pq r), rx := fun x ρ => ends as ρ (Pe x) } (startD N as)) : FnOk P w K mg base (L2.CX P w) (k + 1) f fd ps (spX K ps.length S) := by
  refine F.okC sc spX_len (fun cdv A outer s H vs Q E hc hr h => ⟨_, hb cdv A outer s H E hc hr lets_def, ?_⟩)
  obtain ⟨fr, g, hs, as, Pq, Pe, hl, W, hS, kq, ke⟩ := h
  refine ⟨fr, g, hs, _, _, W.begin N, hw as Pq Pe hl hS, fun ρ' σ' g' hs' H' h s W' => ?_, fun r ρ' σ' u g' hs' ht H' h s W' R' A' => ?_, fun _ _ _ _ _ h => h.elim, fun _ _ _ _ _ h => h.elim, fun x ρ' σ' cls d g' hs' H' h s W' t => ?_⟩
  · obtain ⟨as', hq, hf⟩ := Fin.of h
    obtain ⟨hs2, W2, A2⟩ := W.fin (N := N) (hsA := hs) s W' (apart_nil (H := H')) hf fun _ _ _ => trivial
    exact kq _ _ _ g' hs2 nil H' hq s W2 rfl A2
  · obtain ⟨as', hq, hf⟩ := Fin.of h
    obtain ⟨hs2, W2, A2⟩ := W.fin (N := N) (hsA := hs) s W' A' hf fun _ _ _ => trivial
    exact kq _ _ _ g' hs2 ht H' hq s W2 R' A2
  · obtain ⟨as', hq, hf⟩ := Fin.of h
    obtain ⟨hs2, W2, A2⟩ := W.fin (N := N) (hsA := hs) s W' (apart_nil (H := H')) hf fun _ _ _ => trivial
    exact ke _ _ _ _ g' hs2 H' hq s W2 t
end
/-- a call told with its refusals -/
def dCallX (n : Nat) (P : FX) (w : EK) (ρ : Ev) (Q : SV → Ev → Prop) (Qe : Rf → Ev → Prop) : Prop := w ρ fun ks ρ1 => ks.length = n ∧ ndB ks = true ∧ withArgs ρ1 ks fun as => P as (fun r as' => Q r (back ks as' ρ1)) fun x as' => Qe x (back ks as' ρ1)
theorem lX_call {K : PySem.W.Frag} {n : Nat} {P : FX} {w : EK} {σ : St} {H : Hp} {Q : VK} {E : XK} (h : lX K E (dCallX n P w) σ H Q) : lK w σ H fun vs H1 => spX K n P (vs ++ []) H1 Q E := by
  obtain ⟨fr, g, hs, ρ, Pq, Pe, W, h, k, ke⟩ := h
  refine ⟨fr, g, hs, ρ, _, W, h, fun ks ρ1 vs g1 hs1 H1 h1 s1 W1 A1 => ?_⟩
  obtain ⟨hn, nd, h1⟩ := h1
  obtain ⟨as, h1, hl, hk⟩ := withArgs_is h1
  obtain ⟨frc, hsc, Wc, bk⟩ := W1.pass nd A1 hl hk
  rw [List.append_nil]
  refine ⟨frc, g1, hsc, as, _, _, hl.trans hn, Wc, h1, fun r as' v g' hs' ht H' hq s' W' r' A' => ?_, fun x as' cls d g' hs' H' hq s' W' t => ?_⟩
  · obtain ⟨hs2, W2, A2⟩ := bk g' hs' as' ht H' s' W' A'
    exact k r _ v g' hs2 ht H' hq (s1.trans s') W2 r' A2
  · obtain ⟨hs2, W2, A2⟩ := bk g' hs' as' nil H' s' W' apart_nil
    exact ke x _ cls d g' hs2 H' hq (s1.trans s') W2 t
section
variable {X : Cx} {k : Nat} {x : Str} {ps : List Str} {e : Expr} {es : List Expr} {p pos : Pos}
theorem dx_call {P : FX} {w : EK} {E : XK} (D : DefOk X (L2.CX X.prog X.w) k x ps (spX X.K ps.length P)) (hr : Room k X.A) (hx : Passes (L2.CX X.prog X.w) X E) (ha : PA X (e :: es) (lK w)) (hg : Gl X x := by rfl) (hdb : (x == ("__debug__" : Str)) = false := by decide)
    (he : starEach (e :: es) X.env = (false, eval e X.env) :: starEach es X.env := by rfl) (hpl : (backTo pos (starEach es X.env)).any (·.1) = false := by rfl) : PE X (.Call (.Name x p) (e :: es) [] pos) (lX X.K E (dCallX ps.length P w)) := by
  obtain ⟨f, fd, hm, hk, F, hb⟩ := D.ex
  exact pe_imp (pe_call (dvs := []) F hr hg hm hk hb .nil hx ha hdb he hpl) fun _ _ _ h => lX_call h
theorem lets_pass {E : XK} (tk : Lets X E) : Passes (L2.CX X.prog X.w) X E := passes_call tk fun _ _ _ _ h => h
end

/-! ### methods -/
/-- an instance of the class at C, by its own part -/
def InstO (C a : Addr) (m : Str) (o : Ow) : Prop := ∀ g h, o.P g h → ∃ dx fs, h a = some (.ins C dx fs) ∧ fs.lookup m = none
structure MetOk (X : Cx) (CX : CXT) (k : Nat) (c m : Str) (ps : List Str) (sp : Sp) : Prop where
  cls : Cls X.K (He.ga X.K c)
  ex : ∃ (f : Addr) (fd : FuncData), Meth X.K (He.ga X.K c) m f ∧ FnOk X.prog X.w X.K X.mg X.base CX k f fd ps sp ∧ Binds X.K fd ps []
def dMetX (C : Addr) (m : Str) (i n : Nat) (P : FX) (w : EK) (ρ : Ev) (Q : SV → Ev → Prop) (Qe : Rf → Ev → Prop) : Prop := (∃ a o, slot ρ i = some (.obj a o) ∧ InstO C a m o) ∧ w ρ fun ks ρ1 => (.inl i :: ks).length = n ∧ ndB (.inl i :: ks) = true ∧ withArgs ρ1 (.inl i :: ks) fun as => P as (fun r as' => Q r (back (.inl i :: ks) as' ρ1)) fun x as' => Qe x (back (.inl i :: ks) as' ρ1)
def dMet (C : Addr) (m : Str) (i n : Nat) (P : FS) (w : EK) (ρ : Ev) (Q : SV → Ev → Prop) : Prop := (∃ a o, slot ρ i = some (.obj a o) ∧ InstO C a m o) ∧ w ρ fun ks ρ1 => (.inl i :: ks).length = n ∧ ndB (.inl i :: ks) = true ∧ withArgs ρ1 (.inl i :: ks) fun as => P as (fun r as' => Q r (back (.inl i :: ks) as' ρ1))
theorem lX_met {K : PySem.W.Frag} {C : Addr} {m : Str} {i n : Nat} {P : FX} {w : EK} {σ : St} {H : Hp} {Q : VK} {E : XK} (h : lX K E (dMetX C m i n P w) σ H Q) : tMeth C m (spX K n P) [] E (tVar i) (lK w) σ H Q := by
  obtain ⟨fr, g, hs, ρ, Pq, Pe, W, h, k, ke⟩ := h
  obtain ⟨⟨a, o, e0, hI⟩, h⟩ := h
  obtain ⟨v, hv, ev, ho⟩ := W.at e0
  obtain ⟨dx, fs, hi, hl⟩ := hI _ _ ho
  refine ⟨v, hv, a, dx, fs, ev, W.sh i _ _ hi, hl, fr, g, hs, ρ, _, W, h, fun ks ρ1 vs g1 hs1 H1 h1 s1 W1 A1 => ?_⟩
  obtain ⟨hn, nd, h1⟩ := h1
  obtain ⟨as, h1, hl, hk⟩ := withArgs_is h1
  obtain ⟨frc, hsc, Wc, bk⟩ := W1.pass nd (ArgsAre.cons (k := .inl i) hv A1) hl hk
  rw [List.append_nil]
  refine ⟨frc, g1, hsc, as, _, _, hl.trans hn, Wc, h1, fun r as' v g' hs' ht H' hq s' W' r' A' => ?_, fun x as' cls d g' hs' H' hq s' W' t => ?_⟩
  · obtain ⟨hs2, W2, A2⟩ := bk g' hs' as' ht H' s' W' A'
    exact k r _ v g' hs2 ht H' hq (s1.trans s') W2 r' A2
  · obtain ⟨hs2, W2, A2⟩ := bk g' hs' as' nil H' s' W' apart_nil
    exact ke x _ cls d g' hs2 H' hq (s1.trans s') W2 t
theorem lO_met {C : Addr} {m : Str} {i n : Nat} {P : FS} {w : EK} {σ : St} {H : Hp} {Q : VK} {E : XK} (h : lO (dMet C m i n P w) σ H Q) : tMeth C m (spL n P) [] E (tVar i) (lK w) σ H Q := by
  obtain ⟨fr, g, hs, ρ, Pq, W, h, k⟩ := h
  obtain ⟨⟨a, o, e0, hI⟩, h⟩ := h
  obtain ⟨v, hv, ev, ho⟩ := W.at e0
  obtain ⟨dx, fs, hi, hl⟩ := hI _ _ ho
  refine ⟨v, hv, a, dx, fs, ev, W.sh i _ _ hi, hl, fr, g, hs, ρ, _, W, h, fun ks ρ1 vs g1 hs1 H1 h1 s1 W1 A1 => ?_⟩
  obtain ⟨hn, nd, h1⟩ := h1
  obtain ⟨as, h1, hl, hk⟩ := withArgs_is h1
  obtain ⟨frc, hsc, Wc, bk⟩ := W1.pass nd (ArgsAre.cons (k := .inl i) hv A1) hl hk
  rw [List.append_nil]
  refine ⟨frc, g1, hsc, as, _, hl.trans hn, Wc, h1, fun r as' v g' hs' ht H' hq s' W' r' A' => ?_⟩
  obtain ⟨hs2, W2, A2⟩ := bk g' hs' as' ht H' s' W' A'
  exact k r _ v g' hs2 ht H' hq (s1.trans s') W2 r' A2
section
variable {X : Cx} {k : Nat} {x c m : Str} {ps : List Str} {e : Expr} {es : List Expr} {p1 pos apos : Pos}
theorem dx_met {K : PySem.W.Frag} {P : FX} {w : EK} {E : XK} (i : Nat) (D : MetOk X (L2.CX X.prog X.w) k c m ps (spX X.K ps.length P)) (hr : Room k X.A) (hx : Passes (L2.CX X.prog X.w) X E) (ha : PA X (e :: es) (lK w)) (hN : X.N[i]? = some x := by rfl) (hv : Vis X.env.scope x := by first | exact Or.inl rfl | exact Or.inr (Or.inl rfl) | exact Or.inr (Or.inr rfl))
    (hd : (x == ("__debug__" : Str)) = false := by decide) (hcd : (x == ("__classdict__" : Str)) = false := by decide) (he : starEach (e :: es) X.env = (false, eval e X.env) :: starEach es X.env := by rfl) (hpl : (backTo pos (starEach es X.env)).any (·.1) = false := by rfl) {pl : Sem Bool}
    (ht : eval (.Call (.Attribute (.Name x p1) m apos) (e :: es) [] pos) X.env = (do
      let ov ← eval (.Name x p1) X.env
      standAt apos.atName
      let (f, first) ← holding [ov] (getMethod ov m pl)
      callWith pos f first (backTo pos (starEach (e :: es) X.env)) (backToKw pos (keywordEach [] X.env))) := by rfl) (hK : X.K = K := by rfl) :
    PE X (.Call (.Attribute (.Name x p1) m apos) (e :: es) [] pos) (lX X.K E (dMetX (He.ga K c) m i ps.length P w)) := by
  subst hK
  obtain ⟨f, fd, hm, F, hb⟩ := D.ex
  exact pe_imp (pe_meth (pl := pl) (dvs := []) (pe_var (i := i) hN hv hd hcd) D.cls hm F hr hb .nil hx ha he hpl ht) fun _ _ _ h => lX_met h
theorem do_met {K : PySem.W.Frag} {P : FS} {w : EK} (i : Nat) (D : MetOk X CX0 k c m ps (spL ps.length P)) (hr : Room k X.A) (ha : PA X (e :: es) (lK w)) (hN : X.N[i]? = some x := by rfl) (hv : Vis X.env.scope x := by first | exact Or.inl rfl | exact Or.inr (Or.inl rfl) | exact Or.inr (Or.inr rfl))
    (hd : (x == ("__debug__" : Str)) = false := by decide) (hcd : (x == ("__classdict__" : Str)) = false := by decide) (he : starEach (e :: es) X.env = (false, eval e X.env) :: starEach es X.env := by rfl) (hpl : (backTo pos (starEach es X.env)).any (·.1) = false := by rfl) {pl : Sem Bool}
    (ht : eval (.Call (.Attribute (.Name x p1) m apos) (e :: es) [] pos) X.env = (do
      let ov ← eval (.Name x p1) X.env
      standAt apos.atName
      let (f, first) ← holding [ov] (getMethod ov m pl)
      callWith pos f first (backTo pos (starEach (e :: es) X.env)) (backToKw pos (keywordEach [] X.env))) := by rfl) (hK : X.K = K := by rfl) :
    PE X (.Call (.Attribute (.Name x p1) m apos) (e :: es) [] pos) (lO (dMet (He.ga K c) m i ps.length P w)) := by
  subst hK
  obtain ⟨f, fd, hm, F, hb⟩ := D.ex
  exact pe_imp (pe_meth (pl := pl) (dvs := []) (pe_var (i := i) hN hv hd hcd) D.cls hm F hr hb .nil pass0 ha he hpl ht) fun _ _ _ h => lO_met h
theorem ka_nil0 : PA X [] (lK kNil) := ka_nil
theorem dx_met0 {K : PySem.W.Frag} {P : FX} {E : XK} (i : Nat) (D : MetOk X (L2.CX X.prog X.w) k c m ps (spX X.K ps.length P)) (hr : Room k X.A) (hx : Passes (L2.CX X.prog X.w) X E) (hN : X.N[i]? = some x := by rfl) (hv : Vis X.env.scope x := by first | exact Or.inl rfl | exact Or.inr (Or.inl rfl) | exact Or.inr (Or.inr rfl))
    (hd : (x == ("__debug__" : Str)) = false := by decide) (hcd : (x == ("__classdict__" : Str)) = false := by decide) {pl : Sem Bool}
    (ht : eval (.Call (.Attribute (.Name x p1) m apos) [] [] pos) X.env = (do
      let ov ← eval (.Name x p1) X.env
      standAt apos.atName
      let (f, first) ← holding [ov] (getMethod ov m pl)
      callWith pos f first (backTo pos (starEach [] X.env)) (backToKw pos (keywordEach [] X.env))) := by rfl) (hK : X.K = K := by rfl) :
    PE X (.Call (.Attribute (.Name x p1) m apos) [] [] pos) (lX X.K E (dMetX (He.ga K c) m i ps.length P kNil)) := by
  subst hK
  obtain ⟨f, fd, hm, F, hb⟩ := D.ex
  refine pe_imp (pe_meth0 (pl := pl) (dvs := []) (pe_var (i := i) hN hv hd hcd) D.cls hm F hr hb .nil hx ht) fun _ _ _ h => ?_
  obtain ⟨v, hv, a, dx, fs, ev, ha, hl, h⟩ := lX_met h
  obtain ⟨fr, g, hs, ρ, P', W, h, k⟩ := h
  exact ⟨v, hv, a, dx, fs, ev, ha, hl, k [] ρ [] g hs _ h (Same.refl g) W .nil⟩
theorem do_met0 {K : PySem.W.Frag} {P : FS} (i : Nat) (D : MetOk X CX0 k c m ps (spL ps.length P)) (hr : Room k X.A) (hN : X.N[i]? = some x := by rfl) (hv : Vis X.env.scope x := by first | exact Or.inl rfl | exact Or.inr (Or.inl rfl) | exact Or.inr (Or.inr rfl))
    (hd : (x == ("__debug__" : Str)) = false := by decide) (hcd : (x == ("__classdict__" : Str)) = false := by decide) {pl : Sem Bool}
    (ht : eval (.Call (.Attribute (.Name x p1) m apos) [] [] pos) X.env = (do
      let ov ← eval (.Name x p1) X.env
      standAt apos.atName
      let (f, first) ← holding [ov] (getMethod ov m pl)
      callWith pos f first (backTo pos (starEach [] X.env)) (backToKw pos (keywordEach [] X.env))) := by rfl) (hK : X.K = K := by rfl) :
    PE X (.Call (.Attribute (.Name x p1) m apos) [] [] pos) (lO (dMet (He.ga K c) m i ps.length P kNil)) := by
  subst hK
  obtain ⟨f, fd, hm, F, hb⟩ := D.ex
  refine pe_imp (pe_meth0 (pl := pl) (dvs := []) (pe_var (i := i) hN hv hd hcd) D.cls hm F hr hb .nil pass0 ht) fun _ _ _ h => ?_
  obtain ⟨v, hv, a, dx, fs, ev, ha, hl, h⟩ := lO_met (E := E0) h
  obtain ⟨fr, g, hs, ρ, P', W, h, k⟩ := h
  exact ⟨v, hv, a, dx, fs, ev, ha, hl, k [] ρ [] g hs _ h (Same.refl g) W .nil⟩
end
end Fb
namespace Fb
open PySem L2
set_option autoImplicit false
variable [Tb]

/-! ### a book as it stands -/
abbrev cBook (K : PySem.W.Frag) : Addr := He.ga K "Book"
abbrev cDebt (K : PySem.W.Frag) : Addr := He.ga K "Debt"
def dbF (d : Db) : List (Str × V) := [("debtor", .int d.debtor), ("creditor", .int d.creditor), ("kind", .str d.kind), ("born", .int d.born), ("passed", .int d.passed)]
def DbP (K : PySem.W.Frag) (h : Hp) (d : Db) : Prop := (∃ dx, h d.spot = some (.ins (cDebt K) dx (dbF d))) ∧ PyData.strOk d.kind = true
def dbK (l : List (Int × Db)) : List (Key × V) := l.map fun p => (.inl p.1, .ref p.2.spot)
def bkF (vf : V) (B : Bk) : List (Str × V) := [("folk", vf), ("life", .int B.life), ("hops", .int B.hops), ("open_debts", .ref B.dD), ("fresh", .int B.fresh), ("tick_now", .int B.tick), ("story", .ref B.dS)]
structure BkP (K : PySem.W.Frag) (a : Addr) (B : Bk) (g h : Hp) (dx : Addr) (vf : V) (sv : List V) : Prop where
  ins : h a = some (.ins (cBook K) dx (bkF vf B))
  folk : DP g (.tuple (B.folk.map .str)) vf
  dic : h B.dD = some (.dK (dbK B.debts))
  dbs : ∀ p ∈ B.debts, DbP K h p.2
  lst : h B.dS = some (.lst sv)
  sto : DPs g B.story sv
  nd : (B.debts.map (·.2.spot)).Nodup
  up : (B.debts.map (·.1)).Pairwise (· < ·)
def bkO (K : PySem.W.Frag) (a : Addr) (B : Bk) : Ow := ⟨.book B, fun g h => ∃ dx vf sv, BkP K a B g h dx vf sv, fun g g' h s ⟨dx, vf, sv, b⟩ => ⟨dx, vf, sv, b.ins, b.folk.mono s, b.dic, b.dbs, b.lst, b.sto.mono s, b.nd, b.up⟩⟩
def bk (K : PySem.W.Frag) (a : Addr) (B : Bk) : SV := .obj a (bkO K a B)
@[simp] theorem bk_inj {K : PySem.W.Frag} {a a' : Addr} {B B' : Bk} : (bk K a B = bk K a' B') ↔ (a = a' ∧ B = B') := by
  refine ⟨fun h => ?_, fun ⟨h1, h2⟩ => by rw [h1, h2]⟩
  obtain ⟨h1, h2⟩ := SV.obj.inj h
  have h3 : Tg.book B = Tg.book B' := congrArg Ow.tag h2
  exact ⟨h1, Tg.book.inj h3⟩
@[simp] theorem bk_bare {K : PySem.W.Frag} {a p : Addr} {B : Bk} : (bk K a B = bare p) ↔ False := ⟨fun h => (nomatch (show Tg.book B = Tg.no from congrArg Ow.tag (SV.obj.inj h).2)), fun h => h.elim⟩
@[simp] theorem bare_bk {K : PySem.W.Frag} {a p : Addr} {B : Bk} : (bare p = bk K a B) ↔ False := ⟨fun h => bk_bare.mp h.symm, fun h => h.elim⟩
@[simp] theorem bk_dat {K : PySem.W.Frag} {a : Addr} {B : Bk} {d : PyData} : (bk K a B = .dat d) ↔ False := ⟨fun h => (nomatch h), fun h => h.elim⟩
@[simp] theorem dat_bk {K : PySem.W.Frag} {a : Addr} {B : Bk} {d : PyData} : (SV.dat d = bk K a B) ↔ False := ⟨fun h => (nomatch h), fun h => h.elim⟩
@[simp] theorem bk_obj {K : PySem.W.Frag} {a b : Addr} {B : Bk} {o : Ow} : (bk K a B = .obj b o) ↔ (a = b ∧ bkO K a B = o) := ⟨fun h => SV.obj.inj h, fun ⟨h1, h2⟩ => by rw [← h1, ← h2]; rfl⟩
@[simp] theorem ends_bk {K : PySem.W.Frag} {a b : Addr} {B B' : Bk} {as : List SV} {ρ : Ev} {k : List SV → Prop} : ends (bk K a B :: as) (some (bk K b B') :: ρ) k = (a = b ∧ ends as ρ fun r => k (bk K b B' :: r)) := rfl
theorem bk_inst {K : PySem.W.Frag} {a : Addr} {B : Bk} {m : Str} (h : ∀ vf, (bkF vf B).lookup m = none := by intros; rfl) : InstO (cBook K) a m (bkO K a B) := fun g hp b => by
  obtain ⟨dx, vf, sv, b⟩ := b
  exact ⟨dx, _, b.ins, h vf⟩
theorem Own.atBk {fr g : Hp} {hs : Prts} {ρ : Ev} {σ : St} {H : Hp} {i : Nat} {K : PySem.W.Frag} {a : Addr} {B : Bk} (W : Own fr g hs ρ σ H) (h : slot ρ i = some (bk K a B)) : σ[i]? = some (some (.ref a)) ∧ ∃ dx vf sv, BkP K a B g (hs i) dx vf sv := by
  obtain ⟨v, h1, ev, b⟩ := W.at h
  exact ⟨by rw [h1, ev], b⟩
/-- the attributes that hold data -/
inductive Bf where
  | folk | life | hops | fresh | tick
def Bf.name : Bf → Str
  | .folk => "folk"
  | .life => "life"
  | .hops => "hops"
  | .fresh => "fresh"
  | .tick => "tick_now"
@[simp] def Bf.get (B : Bk) : Bf → PyData
  | .folk => .tuple (B.folk.map .str)
  | .life => .int B.life
  | .hops => .int B.hops
  | .fresh => .int B.fresh
  | .tick => .int B.tick
/-- what the written part says of the two classes -/
structure BkC (K : PySem.W.Frag) : Prop where
  book : Cls K (cBook K)
  debt : Cls K (cDebt K)
  nB : ∀ f ∈ (["folk", "life", "hops", "open_debts", "fresh", "tick_now", "story"] : List Str), NoAttr K (cBook K) f
  nD : ∀ f ∈ (["debtor", "creditor", "kind", "born", "passed"] : List Str), NoAttr K (cDebt K) f
def dBf (K : PySem.W.Frag) (f : Bf) (i : Nat) (ρ : Ev) (P : PyData → Ev → Prop) : Prop := ∃ a B, slot ρ i = some (bk K a B) ∧ P (f.get B) ρ
section
variable {X : Cx} {x : Str} {p1 p2 pos : Pos}
theorem bf_get {vf : V} {B : Bk} (f : Bf) : ∃ v, (bkF vf B).lookup f.name = some v ∧ ((f = .folk ∧ v = vf) ∨ (f ≠ .folk ∧ ∀ g, DP g (f.get B) v)) := by
  cases f
  · exact ⟨_, rfl, .inl ⟨rfl, rfl⟩⟩
  · exact ⟨_, rfl, .inr ⟨(fun z => by cases z), fun _ => rfl⟩⟩
  · exact ⟨_, rfl, .inr ⟨(fun z => by cases z), fun _ => rfl⟩⟩
  · exact ⟨_, rfl, .inr ⟨(fun z => by cases z), fun _ => rfl⟩⟩
  · exact ⟨_, rfl, .inr ⟨(fun z => by cases z), fun _ => rfl⟩⟩
theorem bf_no (C : BkC X.K) (f : Bf) : NoAttr X.K (cBook X.K) f.name := by
  cases f <;> exact C.nB _ (by decide)
/-- self.f -/
theorem de_bf {K : PySem.W.Frag} (C : BkC K) (f : Bf) (i : Nat) (hN : X.N[i]? = some x := by rfl) (hv : Vis X.env.scope x := by first | exact Or.inl rfl | exact Or.inr (Or.inl rfl) | exact Or.inr (Or.inr rfl)) (hd : (x == ("__debug__" : Str)) = false := by decide)
    (hcd : (x == ("__classdict__" : Str)) = false := by decide) (hb : attributeBase (.Name x p1) f.name X.env (eval (.Name x p1) X.env) = eval (.Name x p1) X.env := by rfl) (hK : X.K = K := by rfl) : PE X (.Attribute (.Name x p1) f.name pos) (lE (dBf K f i)) := by
  subst hK
  exact pe_imp (pe_fld (pe_var (i := i) hN hv hd hcd) hb) fun σ H Q h => by
      obtain ⟨fr, g, hs, ρ, P, W, h, k⟩ := h
      obtain ⟨a, B, e0, h⟩ := h
      obtain ⟨hv, dx, vf, sv, b⟩ := W.atBk e0
      obtain ⟨v, e1, e2⟩ := bf_get (vf := vf) (B := B) f
      refine ⟨_, hv, a, cBook X.K, dx, _, v, rfl, W.sh i _ _ b.ins, C.book, bf_no C f, e1, k _ ρ v g hs H h (Same.refl g) W ?_⟩
      rcases e2 with ⟨e3, e4⟩ | ⟨_, e4⟩
      · subst e3
        rw [e4]
        exact b.folk
      · exact e4 g
/-- self.f += e: fresh, tick_now -/
@[simp] def bkAug (B : Bk) (n : Int) : Bf → Bk
  | .fresh => { B with fresh := B.fresh + n }
  | .tick => { B with tick := B.tick + n }
  | _ => B
def dBaug (K : PySem.W.Frag) (f : Bf) (i : Nat) (n : Int) (T : Edn) (ρ : Ev) : Prop := ∃ a B, slot ρ i = some (bk K a B) ∧ T.nx (ρ.set i (some (bk K a (bkAug B n f))))
end

theorem put_fresh {vf : V} {B : Bk} {n : Int} : putF "fresh" (.int n) (bkF vf B) = bkF vf { B with fresh := n } := by rfl
theorem put_tick {vf : V} {B : Bk} {n : Int} : putF "tick_now" (.int n) (bkF vf B) = bkF vf { B with tick := n } := by rfl
theorem put_cred {d : Db} {n : Int} : putF "creditor" (.int n) (dbF d) = dbF { d with creditor := n } := by rfl
theorem put_pass {d : Db} {n : Int} : putF "passed" (.int n) (dbF d) = dbF { d with passed := n } := by rfl

/-! ### what is stored -/
theorem Own.storeQ {fr g : Hp} {hs : Prts} {ρ : Ev} {σ : St} {H : Hp} {i : Nat} {q : Addr} {v : V} {o o' : HO} {sv : SV} (W : Own fr g hs ρ σ H) (ho : hs i q = some o) (hv : σ[i]? = some (some v)) (r : Rep g sv v (upd (hs i) q o')) (hd : ord o' = true := by rfl) :
    Own fr g (setH hs i (upd (hs i) q o')) (ρ.set i (some sv)) σ (upd H q o') := by
  refine W.chg (fun b u e => ?_) (fun b u e n => ?_) (fun b u e => ?_) hv ⟨_, rfl, r⟩ (fun b u e => ?_)
  · by_cases z : b = q
    · rw [z, upd_same] at e ⊢
      exact e
    · rw [upd_ne z] at e ⊢
      exact W.sh i _ _ e
  · have z : b ≠ q := fun z => by
      rw [z, ho] at n
      cases n
    rw [upd_ne z]
    exact e
  · by_cases z : b = q
    · rw [z]
      exact .inl ⟨o, ho⟩
    · rw [upd_ne z] at e
      exact .inl ⟨u, e⟩
  · by_cases z : b = q
    · rw [z, upd_same] at e
      cases e
      exact hd
    · rw [upd_ne z] at e
      exact W.nh i b u e
def dbGet (l : List (Int × Db)) (n : Int) : Option Db := (l.find? fun p => decide (p.1 = n)).map (·.2)
theorem dbK_get (n : Int) : ∀ l : List (Int × Db), valV (dbK l) (.inl n) = (dbGet l n).map fun d => .ref d.spot
  | [] => rfl
  | p :: l => by
    have ih := dbK_get n l
    unfold valV dbGet dbK at *
    rw [List.map_cons, List.find?_cons, List.find?_cons]
    by_cases q : p.1 = n
    · simp [q]
    · have q' : ¬ ((Sum.inl p.1 : Key) = Sum.inl n) := fun z => q (Sum.inl.inj z)
      simp only [q', q, decide_false]
      exact ih
theorem dbGet_mem {l : List (Int × Db)} {n : Int} {d : Db} (h : dbGet l n = some d) : (n, d) ∈ l := by
  unfold dbGet at h
  obtain ⟨p, h1, h2⟩ := Option.map_eq_some_iff.mp h
  have e : p.1 = n := by
    have z := List.find?_some h1
    simpa using z
  have m := List.mem_of_find?_eq_some h1
  rw [← h2, ← e]
  exact m
def dbDrop (l : List (Int × Db)) (n : Int) : List (Int × Db) := l.filter fun p => decide (p.1 ≠ n)
theorem dbK_drop (n : Int) : ∀ l : List (Int × Db), dropK (dbK l) (.inl n) = dbK (dbDrop l n)
  | [] => rfl
  | p :: l => by
    have ih := dbK_drop n l
    unfold dropK dbDrop dbK at *
    rw [List.map_cons, List.filter_cons, List.filter_cons]
    by_cases q : p.1 = n
    · simp only [q, ne_eq, not_true, decide_false, Bool.false_eq_true, if_false]
      simpa using ih
    · have q' : ¬ ((Sum.inl p.1 : Key) = Sum.inl n) := fun z => q (Sum.inl.inj z)
      simp only [ne_eq, q', q, not_false_eq_true, decide_true, if_true, List.map_cons]
      rw [ih]
theorem dbK_app {n : Int} {d : Db} {l : List (Int × Db)} (h : ∀ p ∈ l, p.1 ≠ n) : putK (dbK l) (.inl n) (.ref d.spot) = dbK (l ++ [(n, d)]) := by
  unfold putK
  rw [if_neg]
  · unfold dbK
    simp
  · intro z
    obtain ⟨kv, h1, h2⟩ := List.any_eq_true.mp z
    unfold dbK at h1
    obtain ⟨p, h3, h4⟩ := List.mem_map.mp h1
    have e := of_decide_eq_true h2
    rw [← h4] at e
    exact h p h3 (Sum.inl.inj e)
def dbSet (l : List (Int × Db)) (n : Int) (d : Db) : List (Int × Db) := l.map fun p => if p.1 = n then (p.1, d) else p
theorem dbSet_keys (l : List (Int × Db)) (n : Int) (d : Db) : (dbSet l n d).map (·.1) = l.map (·.1) := by
  unfold dbSet
  rw [List.map_map]
  refine List.map_congr_left fun p _ => ?_
  show (if p.1 = n then (p.1, d) else p).1 = p.1
  split <;> rfl
theorem keys_one {l : List (Int × Db)} (up : (l.map (·.1)).Pairwise (· < ·)) {n : Int} {d e : Db} (h : (n, d) ∈ l) (h2 : (n, e) ∈ l) : d = e := by
  induction l with
  | nil => cases h
  | cons p l ih =>
    rw [List.map_cons, List.pairwise_cons] at up
    rcases List.mem_cons.mp h with q | q <;> rcases List.mem_cons.mp h2 with q2 | q2
    · rw [← q] at q2
      exact (Prod.mk.inj q2).2.symm
    · have z := up.1 n (List.mem_map.mpr ⟨_, q2, rfl⟩)
      rw [← q] at z
      exact absurd z (Int.lt_irrefl _)
    · have z := up.1 n (List.mem_map.mpr ⟨_, q, rfl⟩)
      rw [← q2] at z
      exact absurd z (Int.lt_irrefl _)
    · exact ih up.2 q q2
theorem spots_one {l : List (Int × Db)} (nd : (l.map (·.2.spot)).Nodup) {p q : Int × Db} (h : p ∈ l) (h2 : q ∈ l) (e : p.2.spot = q.2.spot) : p = q := by
  induction l with
  | nil => cases h
  | cons r l ih =>
    rw [List.map_cons, List.nodup_cons] at nd
    rcases List.mem_cons.mp h with z | z <;> rcases List.mem_cons.mp h2 with z2 | z2
    · rw [z, z2]
    · exact absurd (List.mem_map.mpr ⟨q, z2, by rw [← e, z]⟩) nd.1
    · exact absurd (List.mem_map.mpr ⟨p, z, by rw [e, z2]⟩) nd.1
    · exact ih nd.2 z z2
theorem dbSet_spots {l : List (Int × Db)} (up : (l.map (·.1)).Pairwise (· < ·)) {n : Int} {d d' : Db} (h : (n, d) ∈ l) (e : d'.spot = d.spot) : (dbSet l n d').map (·.2.spot) = l.map (·.2.spot) := by
  unfold dbSet
  rw [List.map_map]
  refine List.map_congr_left fun p hp => ?_
  show (if p.1 = n then (p.1, d') else p).2.spot = p.2.spot
  split
  · rename_i q
    obtain ⟨m, dm⟩ := p
    have q : m = n := q
    subst q
    show d'.spot = dm.spot
    rw [keys_one up hp h, e]
  · rfl
theorem dbSet_kvs {l : List (Int × Db)} (up : (l.map (·.1)).Pairwise (· < ·)) {n : Int} {d d' : Db} (h : (n, d) ∈ l) (e : d'.spot = d.spot) : dbK (dbSet l n d') = dbK l := by
  unfold dbSet dbK
  rw [List.map_map]
  refine List.map_congr_left fun p hp => ?_
  show (Sum.inl (if p.1 = n then (p.1, d') else p).1, V.ref (if p.1 = n then (p.1, d') else p).2.spot) = _
  split
  · rename_i q
    obtain ⟨m, dm⟩ := p
    have q : m = n := q
    subst q
    show (Sum.inl m, V.ref d'.spot) = (Sum.inl m, V.ref dm.spot)
    rw [keys_one up hp h, e]
  · rfl
section
variable {K : PySem.W.Frag} {a : Addr} {B : Bk} {g h : Hp} {dx : Addr} {vf : V} {sv : List V}
theorem BkP.dIns (b : BkP K a B g h dx vf sv) : B.dD ≠ a := fun z => by
  have e := b.dic
  rw [z, b.ins] at e
  cases e
theorem BkP.sIns (b : BkP K a B g h dx vf sv) : B.dS ≠ a := fun z => by
  have e := b.lst
  rw [z, b.ins] at e
  cases e
theorem BkP.sDic (b : BkP K a B g h dx vf sv) : B.dS ≠ B.dD := fun z => by
  have e := b.lst
  rw [z, b.dic] at e
  cases e
theorem DbP.spotD (b : BkP K a B g h dx vf sv) {d : Db} (k : DbP K h d) : d.spot ≠ B.dD := fun z => by
  obtain ⟨⟨_, e⟩, _⟩ := k
  rw [z, b.dic] at e
  cases e
theorem DbP.spotS (b : BkP K a B g h dx vf sv) {d : Db} (k : DbP K h d) : d.spot ≠ B.dS := fun z => by
  obtain ⟨⟨_, e⟩, _⟩ := k
  rw [z, b.lst] at e
  cases e
theorem DbP.spotI (ne : cBook K ≠ cDebt K) (b : BkP K a B g h dx vf sv) {d : Db} (k : DbP K h d) : d.spot ≠ a := fun z => by
  obtain ⟨⟨_, e⟩, _⟩ := k
  rw [z, b.ins] at e
  exact ne (HO.ins.inj (Option.some.inj e)).1
theorem DbP.off {d : Db} {q : Addr} {o : HO} (k : DbP K h d) (n : d.spot ≠ q) : DbP K (upd h q o) d := by
  obtain ⟨⟨dx, e⟩, s⟩ := k
  exact ⟨⟨dx, by rw [upd_ne n]; exact e⟩, s⟩
/-- the instance's own fields -/
theorem BkP.fld (ne : cBook K ≠ cDebt K) (b : BkP K a B g h dx vf sv) {B' : Bk} (e1 : B'.folk = B.folk) (e2 : B'.debts = B.debts) (e3 : B'.story = B.story) (e4 : B'.dD = B.dD) (e5 : B'.dS = B.dS) (dx' : Addr) : BkP K a B' g (upd h a (.ins (cBook K) dx' (bkF vf B'))) dx' vf sv :=
  ⟨upd_same, by rw [e1]; exact b.folk, by rw [e4, upd_ne b.dIns, e2]; exact b.dic, fun p hp => (b.dbs p (by rw [← e2]; exact hp)).off (DbP.spotI ne b (b.dbs p (by rw [← e2]; exact hp))), by rw [e5, upd_ne b.sIns]; exact b.lst, by rw [e3]; exact b.sto, by rw [e2]; exact b.nd, by rw [e2]; exact b.up⟩
theorem BkP.drop (b : BkP K a B g h dx vf sv) (n : Int) : BkP K a { B with debts := dbDrop B.debts n } g (upd h B.dD (.dK (dropK (dbK B.debts) (.inl n)))) dx vf sv := by
  have sub : (dbDrop B.debts n).Sublist B.debts := List.filter_sublist
  refine ⟨by rw [upd_ne (Ne.symm b.dIns)]; exact b.ins, b.folk, by rw [upd_same, dbK_drop], fun p hp => (b.dbs p (sub.subset hp)).off (DbP.spotD b (b.dbs p (sub.subset hp))), by rw [upd_ne b.sDic]; exact b.lst, b.sto, List.Nodup.sublist (sub.map _) b.nd, List.Pairwise.sublist (sub.map _) b.up⟩
theorem BkP.tell (b : BkP K a B g h dx vf sv) {d : PyData} {v : V} (r : DP g d v) : BkP K a { B with story := B.story ++ [d] } g (upd h B.dS (.lst (sv ++ [v]))) dx vf (sv ++ [v]) :=
  ⟨by rw [upd_ne (Ne.symm b.sIns)]; exact b.ins, b.folk, by rw [upd_ne (Ne.symm b.sDic)]; exact b.dic, fun p hp => (b.dbs p hp).off (DbP.spotS b (b.dbs p hp)), upd_same, b.sto.snoc r, b.nd, b.up⟩
theorem BkP.debt (ne : cBook K ≠ cDebt K) (b : BkP K a B g h dx vf sv) {n : Int} {d d' : Db} (hm : (n, d) ∈ B.debts) (e : d'.spot = d.spot) (ok : PyData.strOk d'.kind = true) (dy : Addr) : BkP K a { B with debts := dbSet B.debts n d' } g (upd h d.spot (.ins (cDebt K) dy (dbF d'))) dx vf sv := by
  have kd := b.dbs _ hm
  refine ⟨by rw [upd_ne (Ne.symm (DbP.spotI ne b kd))]; exact b.ins, b.folk, by rw [upd_ne (Ne.symm (DbP.spotD b kd)), dbSet_kvs b.up hm e]; exact b.dic, fun p hp => ?_, by rw [upd_ne (Ne.symm (DbP.spotS b kd))]; exact b.lst, b.sto, by rw [dbSet_spots b.up hm e]; exact b.nd, by rw [dbSet_keys]; exact b.up⟩
  unfold dbSet at hp
  obtain ⟨q, hq, ep⟩ := List.mem_map.mp hp
  by_cases z : q.1 = n
  · rw [if_pos z] at ep
    rw [← ep]
    exact ⟨⟨dy, by rw [e, upd_same]⟩, ok⟩
  · rw [if_neg z] at ep
    rw [← ep]
    refine (b.dbs q hq).off fun y => z ?_
    rw [spots_one b.nd hq hm y]
end
end Fb
namespace Fb
open PySem L2
set_option autoImplicit false
variable [Tb]

theorem Own.bkSet {fr g : Hp} {hs : Prts} {ρ : Ev} {σ : St} {H : Hp} {i : Nat} {K : PySem.W.Frag} {a q : Addr} {o o' : HO} {B' : Bk} {dx : Addr} {vf : V} {sv : List V} (W : Own fr g hs ρ σ H) (ho : hs i q = some o) (hv : σ[i]? = some (some (.ref a)))
    (b : BkP K a B' g (upd (hs i) q o') dx vf sv) (hd : ord o' = true := by rfl) : Own fr g (setH hs i (upd (hs i) q o')) (ρ.set i (some (bk K a B'))) σ (upd H q o') := W.storeQ ho hv ⟨rfl, dx, vf, sv, b⟩ hd
structure BkK (K : PySem.W.Frag) : Prop extends BkC K where
  ne : cBook K ≠ cDebt K
section
variable {X : Cx} {E : XK} {x y : Str} {p1 p2 p3 pos apos cpos tpos : Pos} {e k : Expr} {w wk wv : ET} {wo : EO}
/-- self.f += n (fresh, tick_now) -/
theorem ds_baug {K : PySem.W.Frag} (C : BkK K) (f : Bf) (hf : f = .fresh ∨ f = .tick) (i : Nat) {n : Int} {j : Nat} (hN : X.N[i]? = some x := by rfl) (hv : Vis X.env.scope x := by first | exact Or.inl rfl | exact Or.inr (Or.inl rfl) | exact Or.inr (Or.inr rfl)) (hd : (x == ("__debug__" : Str)) = false := by decide)
    (hcd : (x == ("__classdict__" : Str)) = false := by decide) (hK : X.K = K := by rfl) : PS X (.AugAssign (.Attribute (.Name x p1) f.name p2) .Add (.Constant (.int n) j p3) pos) (lS K E (dBaug K f i n)) := by
  subst hK
  exact ps_imp (ps_fldaug (pe_var (i := i) hN hv hd hcd) pe_int in_add) fun D σ H h => by
    obtain ⟨fr, g, hs, ρ, T, W, h, m⟩ := h
    obtain ⟨a, B, e0, h⟩ := h
    obtain ⟨hv, dx, vf, sv, b⟩ := W.atBk e0
    rcases hf with rfl | rfl
    · refine ⟨_, hv, a, cBook X.K, dx, _, _, rfl, W.sh i _ _ b.ins, C.book, bf_no C.toBkC .fresh, rfl, ?_⟩
      have W2 := W.bkSet b.ins hv (b.fld C.ne (B' := bkAug B n .fresh) rfl rfl rfl rfl rfl dx)
      refine ⟨_, n, rfl, rfl, dx, _, W.sh i _ _ b.ins, by unfold bkF; simp, ?_⟩
      rw [show putF (Bf.name .fresh) (.int (B.fresh + n)) (bkF vf B) = bkF vf (bkAug B n .fresh) from put_fresh]
      exact m.nx _ _ g _ _ h (Same.refl g) W2
    · refine ⟨_, hv, a, cBook X.K, dx, _, _, rfl, W.sh i _ _ b.ins, C.book, bf_no C.toBkC .tick, rfl, ?_⟩
      have W2 := W.bkSet b.ins hv (b.fld C.ne (B' := bkAug B n .tick) rfl rfl rfl rfl rfl dx)
      refine ⟨_, n, rfl, rfl, dx, _, W.sh i _ _ b.ins, by unfold bkF; simp, ?_⟩
      rw [show putF (Bf.name .tick) (.int (B.tick + n)) (bkF vf B) = bkF vf (bkAug B n .tick) from put_tick]
      exact m.nx _ _ g _ _ h (Same.refl g) W2
/-- self.open_debts: where the dict stands -/
theorem Own.bkD {fr g : Hp} {hs : Prts} {ρ : Ev} {σ : St} {H : Hp} {i : Nat} {K : PySem.W.Frag} {a : Addr} {B : Bk} (C : BkK K) (W : Own fr g hs ρ σ H) (h : slot ρ i = some (bk K a B)) : ∃ dx vf sv, BkP K a B g (hs i) dx vf sv ∧ ∀ Q : VK, Q (.ref B.dD) H → tFld K (tVar i) "open_debts" σ H Q := by
  obtain ⟨hv, dx, vf, sv, b⟩ := W.atBk h
  exact ⟨dx, vf, sv, b, fun Q q => ⟨_, hv, a, cBook K, dx, _, _, rfl, W.sh i _ _ b.ins, C.book, C.nB _ (by decide), rfl, q⟩⟩
theorem Own.bkS {fr g : Hp} {hs : Prts} {ρ : Ev} {σ : St} {H : Hp} {i : Nat} {K : PySem.W.Frag} {a : Addr} {B : Bk} (C : BkK K) (W : Own fr g hs ρ σ H) (h : slot ρ i = some (bk K a B)) : ∃ dx vf sv, BkP K a B g (hs i) dx vf sv ∧ ∀ Q : VK, Q (.ref B.dS) H → tFld K (tVar i) "story" σ H Q := by
  obtain ⟨hv, dx, vf, sv, b⟩ := W.atBk h
  exact ⟨dx, vf, sv, b, fun Q q => ⟨_, hv, a, cBook K, dx, _, _, rfl, W.sh i _ _ b.ins, C.book, C.nB _ (by decide), rfl, q⟩⟩
/-! ### the dict of debts -/
def dBIn (K : PySem.W.Frag) (neg : Bool) (i : Nat) (wk : ET) (ρ : Ev) (P : PyData → Ev → Prop) : Prop := wk ρ fun k ρ1 => ∃ a B n, slot ρ1 i = some (bk K a B) ∧ k = .int n ∧ P (.bool (xor neg (dbGet B.debts n).isSome)) ρ1
theorem pc_bin {K : PySem.W.Frag} (C : BkK K) (hu : X.A.units + 1 < cLine) (i : Nat) (hk : PE X k (lE wk)) (hN : X.N[i]? = some x := by rfl) (hv : Vis X.env.scope x := by first | exact Or.inl rfl | exact Or.inr (Or.inl rfl) | exact Or.inr (Or.inr rfl)) (hd : (x == ("__debug__" : Str)) = false := by decide)
    (hcd : (x == ("__classdict__" : Str)) = false := by decide) (hb : attributeBase (.Name x p1) "open_debts" X.env (eval (.Name x p1) X.env) = eval (.Name x p1) X.env := by rfl) (hK : X.K = K := by rfl) : PC X .NotIn k (.Attribute (.Name x p1) "open_debts" p2) (lE (dBIn K true i wk)) := by
  subst hK
  have h0 := pc_dnotin hu hk (pe_fld (pos := p2) (f := "open_debts") (pe_var (X := X) (i := i) (pos := p1) hN hv hd hcd) hb)
  refine ⟨fun pins s σ H Q I h => h0.run pins s σ H Q I ?_⟩
  obtain ⟨fr, g, hs, ρ, P, W, h, k⟩ := h
  refine ⟨fr, g, hs, ρ, _, W, h, fun k' ρ1 v1 g1 hs1 H1 h1 s1 W1 d1 => ?_⟩
  obtain ⟨a, B, n, e1, ek, h1⟩ := h1
  subst ek
  have d1 : v1 = .int n := d1
  obtain ⟨dx, vf, sv, b, go⟩ := W1.bkD C e1
  refine go _ ⟨B.dD, _, rfl, by rw [d1]; exact DGet.k (k := .inl n) (W1.sh i _ _ b.dic), ?_⟩
  rw [dbK_get, Option.isSome_map]
  rw [Bool.true_xor] at h1
  exact k _ _ _ _ _ _ h1 s1 W1 rfl
theorem de_bni {K : PySem.W.Frag} (C : BkK K) (hu : X.A.units + 1 < cLine) (i : Nat) (hk : PE X k (lE wk)) (hN : X.N[i]? = some x := by rfl) (hv : Vis X.env.scope x := by first | exact Or.inl rfl | exact Or.inr (Or.inl rfl) | exact Or.inr (Or.inr rfl)) (hd : (x == ("__debug__" : Str)) = false := by decide)
    (hcd : (x == ("__classdict__" : Str)) = false := by decide) (hb : attributeBase (.Name x p1) "open_debts" X.env (eval (.Name x p1) X.env) = eval (.Name x p1) X.env := by rfl) (hm : behindInMarks .NotIn (.Attribute (.Name x p1) "open_debts" p2) = false := by rfl) (hK : X.K = K := by rfl) :
    PE X (.Compare k [.NotIn] [.Attribute (.Name x p1) "open_debts" p2] pos) (lE (dBIn K true i wk)) := by
  subst hK
  exact pe_cmp (pc_bin C hu i hk hN hv hd hcd hb) hm
theorem dt_bni {K : PySem.W.Frag} (C : BkK K) (hu : X.A.units + 1 < cLine) (i : Nat) (hk : PE X k (lE wk)) (hN : X.N[i]? = some x := by rfl) (hv : Vis X.env.scope x := by first | exact Or.inl rfl | exact Or.inr (Or.inl rfl) | exact Or.inr (Or.inr rfl)) (hd : (x == ("__debug__" : Str)) = false := by decide)
    (hcd : (x == ("__classdict__" : Str)) = false := by decide) (hb : attributeBase (.Name x p1) "open_debts" X.env (eval (.Name x p1) X.env) = eval (.Name x p1) X.env := by rfl) (hm : behindInMarks .NotIn (.Attribute (.Name x p1) "open_debts" p2) = false := by rfl) (hK : X.K = K := by rfl) :
    PT X (.Compare k [.NotIn] [.Attribute (.Name x p1) "open_debts" p2] pos) (lT (dTst (dBIn K true i wk))) := by
  subst hK
  exact pt_imp (pt_cmp (pc_bin C hu i hk hN hv hd hcd hb) hm) fun _ _ _ h => lT_tst h
/-- self.open_debts[e] -/
def dBGet (K : PySem.W.Frag) (i : Nat) (wk : ET) (ρ : Ev) (P : SV → Ev → Prop) : Prop := ∃ a B, slot ρ i = some (bk K a B) ∧ wk ρ fun k ρ1 => ∃ n d, slot ρ1 i = some (bk K a B) ∧ k = .int n ∧ dbGet B.debts n = some d ∧ P (bare d.spot) ρ1
theorem do_bGet {K : PySem.W.Frag} (C : BkK K) (hu : X.A.units + 1 < cLine) (i : Nat) (hk : PE X k (lE wk)) (hN : X.N[i]? = some x := by rfl) (hv : Vis X.env.scope x := by first | exact Or.inl rfl | exact Or.inr (Or.inl rfl) | exact Or.inr (Or.inr rfl)) (hd : (x == ("__debug__" : Str)) = false := by decide)
    (hcd : (x == ("__classdict__" : Str)) = false := by decide) (hb : attributeBase (.Name x p1) "open_debts" X.env (eval (.Name x p1) X.env) = eval (.Name x p1) X.env := by rfl) (hn : NoSl k := by exact fun _ _ => rfl) (hK : X.K = K := by rfl) :
    PE X (.Subscript (.Attribute (.Name x p1) "open_debts" p2) k pos) (lO (dBGet K i wk)) := by
  subst hK
  exact pe_imp (pe_dget hu (pe_fld (pos := p2) (f := "open_debts") (pe_var (i := i) hN hv hd hcd) hb) hk hn) fun σ H Q h => by
    obtain ⟨fr, g, hs, ρ, P, W, h, k⟩ := h
    obtain ⟨a, B, e0, h⟩ := h
    obtain ⟨dx, vf, sv, b, go⟩ := W.bkD C e0
    refine go _ ⟨fr, g, hs, ρ, _, W, h, fun k' ρ1 v1 g1 hs1 H1 h1 s1 W1 d1 => ?_⟩
    obtain ⟨n, d, e1, ek, ed, h1⟩ := h1
    subst ek
    have d1 : v1 = .int n := d1
    obtain ⟨dx', vf', sv', b', _⟩ := W1.bkD C e1
    have hD := W1.sh i _ _ b'.dic
    refine ⟨B.dD, .ref d.spot, rfl, ?_, k _ _ _ g1 hs1 nil H1 h1 s1 W1 ⟨rfl, trivial⟩ apart_nil⟩
    have q : valV (dbK B.debts) (.inl n) = some (V.ref d.spot) := by rw [dbK_get, ed] <;> rfl
    rw [← q, d1]
    exact DGet.k (k := .inl n) hD
/-- self.open_debts.pop(e), dropped -/
def dBPop (K : PySem.W.Frag) (i : Nat) (wk : ET) (T : Edn) (ρ : Ev) : Prop := ∃ a B, slot ρ i = some (bk K a B) ∧ wk ρ fun k ρ1 => ∃ n d, slot ρ1 i = some (bk K a B) ∧ k = .int n ∧ dbGet B.debts n = some d ∧ T.nx (ρ1.set i (some (bk K a { B with debts := dbDrop B.debts n })))
theorem ds_bPop {K : PySem.W.Frag} (C : BkK K) (i : Nat) (hk : PE X k (lE wk)) (hN : X.N[i]? = some x := by rfl) (hv : Vis X.env.scope x := by first | exact Or.inl rfl | exact Or.inr (Or.inl rfl) | exact Or.inr (Or.inr rfl)) (hd : (x == ("__debug__" : Str)) = false := by decide)
    (hcd : (x == ("__classdict__" : Str)) = false := by decide) (hb : attributeBase (.Name x p1) "open_debts" X.env (eval (.Name x p1) X.env) = eval (.Name x p1) X.env := by rfl)
    (mb : attributeBase (.Attribute (.Name x p1) "open_debts" p2) "pop" X.env (eval (.Attribute (.Name x p1) "open_debts" p2) X.env) = eval (.Attribute (.Name x p1) "open_debts" p2) X.env := by rfl)
    (mf : ((backTo cpos (starEach [k] X.env)).all (fun x => !x.1) && (backToKw cpos (keywordEach [] X.env)).all (fun x => x.1.isSome) && decide (([k] : List Expr).length + ([] : List Keyword).length + (if ([] : List Keyword).isEmpty then 0 else 1) < 30)) = true := by rfl)
    (ml : (apos.endLine == cpos.line) = true := by rfl) (mt : backTo cpos (starEach [k] X.env) = [(false, eval k X.env)] := by rfl) (hs : swapsWith (.Call (.Attribute (.Attribute (.Name x p1) "open_debts" p2) "pop" apos) [k] [] cpos) none pos.line X.env = pure false := by rfl) (hK : X.K = K := by rfl) :
    PS X (.Expr (.Call (.Attribute (.Attribute (.Name x p1) "open_debts" p2) "pop" apos) [k] [] cpos) pos) (lS K E (dBPop K i wk)) := by
  subst hK
  exact ps_imp (ps_expr (pe_dpop1 (pe_fld (pos := p2) (f := "open_debts") (pe_var (i := i) hN hv hd hcd) hb) hk ⟨mb, mf, ml, mt⟩) hs) fun D σ H h => by
      obtain ⟨fr, g, hs, ρ, T, W, h, m⟩ := h
      obtain ⟨a, B, e0, h⟩ := h
      obtain ⟨dx, vf, sv, b, go⟩ := W.bkD C e0
      show tDPop1 _ _ σ H _
      unfold tDPop1
      refine go _ ?_
      refine ⟨B.dD, rfl, isD_k (W.sh i _ _ b.dic), fr, g, hs, ρ, _, W, h, fun k' ρ1 v1 g1 hs1 H1 h1 s1 W1 d1 => ?_⟩
      obtain ⟨n, d, e1, ek, ed, h1⟩ := h1
      subst ek
      have d1 : v1 = .int n := d1
      obtain ⟨hv1, dx', vf', sv', b'⟩ := W1.atBk e1
      exact ⟨dbK B.debts, .inl n, .ref d.spot, W1.sh i _ _ b'.dic, d1, by rw [dbK_get, ed] <;> rfl, m.nx _ _ g1 _ _ h1 s1 (W1.bkSet b'.dic hv1 (b'.drop n))⟩
/-- self.story.append(e) -/
def dBTell (K : PySem.W.Frag) (i : Nat) (w : ET) (T : Edn) (ρ : Ev) : Prop := ∃ a B, slot ρ i = some (bk K a B) ∧ w ρ fun d ρ1 => slot ρ1 i = some (bk K a B) ∧ B.story.length < sizeLine ∧ T.nx (ρ1.set i (some (bk K a { B with story := B.story ++ [d] })))
theorem ds_bTell {K : PySem.W.Frag} (C : BkK K) (i : Nat) (he : PE X e (lE w)) (hN : X.N[i]? = some x := by rfl) (hv : Vis X.env.scope x := by first | exact Or.inl rfl | exact Or.inr (Or.inl rfl) | exact Or.inr (Or.inr rfl)) (hd : (x == ("__debug__" : Str)) = false := by decide)
    (hcd : (x == ("__classdict__" : Str)) = false := by decide) (hb : attributeBase (.Name x p1) "story" X.env (eval (.Name x p1) X.env) = eval (.Name x p1) X.env := by rfl)
    (mb : attributeBase (.Attribute (.Name x p1) "story" p2) "append" X.env (eval (.Attribute (.Name x p1) "story" p2) X.env) = eval (.Attribute (.Name x p1) "story" p2) X.env := by rfl)
    (mf : ((backTo cpos (starEach [e] X.env)).all (fun x => !x.1) && (backToKw cpos (keywordEach [] X.env)).all (fun x => x.1.isSome) && decide (([e] : List Expr).length + ([] : List Keyword).length + (if ([] : List Keyword).isEmpty then 0 else 1) < 30)) = true := by rfl)
    (ml : (apos.endLine == cpos.line) = true := by rfl) (mt : starEach [e] X.env = (false, eval e X.env) :: starEach [] X.env := by rfl) (hp : (backTo cpos (starEach [] X.env)).any (·.1) = false := by rfl) (hs : swapsWith (.Call (.Attribute (.Attribute (.Name x p1) "story" p2) "append" apos) [e] [] cpos) none pos.line X.env = pure false := by rfl) (hK : X.K = K := by rfl) :
    PS X (.Expr (.Call (.Attribute (.Attribute (.Name x p1) "story" p2) "append" apos) [e] [] cpos) pos) (lS K E (dBTell K i w)) := by
  subst hK
  exact ps_imp (ps_expr (pe_bm PySem.F.plainAttrs_list PySem.F.slot_list_append PySem.F.type_list_append mt_append (pe_fld (pos := p2) (f := "story") (pe_var (i := i) hN hv hd hcd) hb) (pa_cons he pa_nil mt) mb mf ml mt hp) hs) fun D σ H h => by
      obtain ⟨fr, g, hs, ρ, T, W, h, m⟩ := h
      obtain ⟨a, B, e0, h⟩ := h
      obtain ⟨dx, vf, sv, b, go⟩ := W.bkS C e0
      show tBM X.K "list" rAppend _ _ σ H _
      unfold tBM
      refine go _ ?_
      refine ⟨.inl ⟨rfl, sv, SqL.of (W.sh i _ _ b.lst)⟩, fr, g, hs, ρ, _, W, h, fun d ρ1 v1 g1 hs1 H1 h1 s1 W1 d1 => ?_⟩
      obtain ⟨e1, hl, h1⟩ := h1
      obtain ⟨hv1, dx', vf', sv', b'⟩ := W1.atBk e1
      exact ⟨B.dS, sv', v1, rfl, rfl, W1.sh i _ _ b'.lst, by rw [b'.sto.length]; exact hl, m.nx _ _ g1 _ _ h1 s1 (W1.bkSet b'.lst hv1 (b'.tell d1))⟩
  
/-! ### a debt by its reference -/
def dRef (j : Nat) (ρ : Ev) (P : SV → Ev → Prop) : Prop := ∃ p, slot ρ j = some (bare p) ∧ P (bare p) ρ
theorem do_ref (j : Nat) (hN : X.N[j]? = some x := by rfl) (hv : Vis X.env.scope x := by first | exact Or.inl rfl | exact Or.inr (Or.inl rfl) | exact Or.inr (Or.inr rfl)) (hd : (x == ("__debug__" : Str)) = false := by decide)
    (hcd : (x == ("__classdict__" : Str)) = false := by decide) : PE X (.Name x pos) (lO (dRef j)) := pe_imp (pe_var (i := j) hN hv hd hcd) fun σ H Q h => by
  obtain ⟨fr, g, hs, ρ, P, W, h, k⟩ := h
  obtain ⟨p, e, h⟩ := h
  obtain ⟨v, h1, ev, _⟩ := W.at e
  exact ⟨v, h1, k _ ρ v g hs nil H h (Same.refl g) W ⟨ev, trivial⟩ apart_nil⟩
inductive Df where
  | debtor | creditor | kind | born | passed
def Df.name : Df → Str
  | .debtor => "debtor"
  | .creditor => "creditor"
  | .kind => "kind"
  | .born => "born"
  | .passed => "passed"
@[simp] def Df.get (d : Db) : Df → PyData
  | .debtor => .int d.debtor
  | .creditor => .int d.creditor
  | .kind => .str d.kind
  | .born => .int d.born
  | .passed => .int d.passed
theorem df_get (d : Db) (ok : PyData.strOk d.kind = true) (f : Df) : ∃ v, (dbF d).lookup f.name = some v ∧ ∀ g, DP g (f.get d) v := by
  cases f
  · exact ⟨_, rfl, fun _ => rfl⟩
  · exact ⟨_, rfl, fun _ => rfl⟩
  · exact ⟨_, rfl, fun _ => ⟨rfl, ok⟩⟩
  · exact ⟨_, rfl, fun _ => rfl⟩
  · exact ⟨_, rfl, fun _ => rfl⟩
theorem df_no {K : PySem.W.Frag} (C : BkC K) (f : Df) : NoAttr K (cDebt K) f.name := by
  cases f <;> exact C.nD _ (by decide)
/-- e.f, e a debt of the book in slot i -/
def dDf (K : PySem.W.Frag) (f : Df) (i : Nat) (wo : EO) (ρ : Ev) (P : PyData → Ev → Prop) : Prop := wo ρ fun r ρ1 => ∃ a B n d, slot ρ1 i = some (bk K a B) ∧ (n, d) ∈ B.debts ∧ r = bare d.spot ∧ P (f.get d) ρ1
theorem de_df {K : PySem.W.Frag} (C : BkC K) (f : Df) (i : Nat) (he : PE X e (lO wo)) (hb : attributeBase e f.name X.env (eval e X.env) = eval e X.env := by rfl) (hK : X.K = K := by rfl) : PE X (.Attribute e f.name pos) (lE (dDf K f i wo)) := by
  subst hK
  exact pe_imp (pe_fld he hb) fun σ H Q h => by
      obtain ⟨fr, g, hs, ρ, P, W, h, k⟩ := h
      refine ⟨fr, g, hs, ρ, _, W, h, fun r ρ1 v g1 hs1 ht H1 h1 s1 W1 r1 A1 => ?_⟩
      obtain ⟨a, B, n, d, e0, hm, er, h1⟩ := h1
      subst er
      obtain ⟨hv, dx, vf, sv, b⟩ := W1.atBk e0
      obtain ⟨⟨dy, hd⟩, ok⟩ := b.dbs _ hm
      obtain ⟨u, e1, e2⟩ := df_get d ok f
      exact ⟨d.spot, cDebt X.K, dy, _, u, r1.1, W1.sh i _ _ hd, C.debt, df_no C f, e1, k _ _ u g1 hs1 H1 h1 s1 W1 (e2 g1)⟩
/-- name.creditor = e -/
def dDset (K : PySem.W.Frag) (i j : Nat) (w : ET) (T : Edn) (ρ : Ev) : Prop := w ρ fun z ρ1 => ∃ a B n d m, slot ρ1 i = some (bk K a B) ∧ (n, d) ∈ B.debts ∧ slot ρ1 j = some (bare d.spot) ∧ z = .int m ∧ T.nx (ρ1.set i (some (bk K a { B with debts := dbSet B.debts n { d with creditor := m } })))
theorem ds_dset {K : PySem.W.Frag} (C : BkK K) (i j : Nat) (he : PE X e (lE w)) (hN : X.N[j]? = some x := by rfl) (hv : Vis X.env.scope x := by first | exact Or.inl rfl | exact Or.inr (Or.inl rfl) | exact Or.inr (Or.inr rfl)) (hd : (x == ("__debug__" : Str)) = false := by decide)
    (hcd : (x == ("__classdict__" : Str)) = false := by decide) (hs : swapsWith e (some (.Attribute (.Name x p1) "creditor" p2)) pos.line X.env = pure false := by rfl) (hK : X.K = K := by rfl) : PS X (.Assign [.Attribute (.Name x p1) "creditor" p2] e pos) (lS K E (dDset K i j w)) := by
  subst hK
  exact ps_imp (ps_fld (pe_var (i := j) hN hv hd hcd) he hs) fun D σ H h => by
      obtain ⟨fr, g, hs, ρ, T, W, h, mt⟩ := h
      refine ⟨fr, g, hs, ρ, _, W, h, fun z ρ1 v g1 hs1 H1 h1 s1 W1 d1 => ?_⟩
      obtain ⟨a, B, n, d, m, e0, hm, ej, ez, h1⟩ := h1
      subst ez
      have d1 : v = .int m := d1
      obtain ⟨hv, dx, vf, sv, b⟩ := W1.atBk e0
      obtain ⟨vj, hj, evj, _⟩ := W1.at ej
      obtain ⟨⟨dy, hd⟩, ok⟩ := b.dbs _ hm
      have W2 := W1.bkSet hd hv (b.debt C.ne (d' := { d with creditor := m }) hm rfl ok dy)
      refine ⟨_, hj, d.spot, cDebt X.K, dy, _, evj, W1.sh i _ _ hd, C.debt, df_no C.toBkC .creditor, by unfold dbF; simp, ?_⟩
      rw [d1, put_cred]
      exact mt.nx _ _ g1 _ _ h1 s1 W2
/-- name.passed += n -/
def dDaug (K : PySem.W.Frag) (i j : Nat) (m : Int) (T : Edn) (ρ : Ev) : Prop := ∃ a B n d, slot ρ i = some (bk K a B) ∧ (n, d) ∈ B.debts ∧ slot ρ j = some (bare d.spot) ∧ T.nx (ρ.set i (some (bk K a { B with debts := dbSet B.debts n { d with passed := d.passed + m } })))
theorem ds_daug {K : PySem.W.Frag} (C : BkK K) (i j : Nat) {m : Int} {l : Nat} (hN : X.N[j]? = some x := by rfl) (hv : Vis X.env.scope x := by first | exact Or.inl rfl | exact Or.inr (Or.inl rfl) | exact Or.inr (Or.inr rfl)) (hd : (x == ("__debug__" : Str)) = false := by decide)
    (hcd : (x == ("__classdict__" : Str)) = false := by decide) (hK : X.K = K := by rfl) : PS X (.AugAssign (.Attribute (.Name x p1) "passed" p2) .Add (.Constant (.int m) l p3) pos) (lS K E (dDaug K i j m)) := by
  subst hK
  exact ps_imp (ps_fldaug (pe_var (i := j) hN hv hd hcd) pe_int in_add) fun D σ H h => by
    obtain ⟨fr, g, hs, ρ, T, W, h, mt⟩ := h
    obtain ⟨a, B, n, d, e0, hm, ej, h⟩ := h
    obtain ⟨hv, dx, vf, sv, b⟩ := W.atBk e0
    obtain ⟨vj, hj, evj, _⟩ := W.at ej
    obtain ⟨⟨dy, hd⟩, ok⟩ := b.dbs _ hm
    have W2 := W.bkSet hd hv (b.debt C.ne (d' := { d with passed := d.passed + m }) hm rfl ok dy)
    refine ⟨_, hj, d.spot, cDebt X.K, dy, _, _, evj, W.sh i _ _ hd, C.debt, df_no C.toBkC .passed, rfl, d.passed, m, rfl, rfl, dy, _, W.sh i _ _ hd, by unfold dbF; simp, ?_⟩
    rw [put_pass]
    exact mt.nx _ _ g _ _ h (Same.refl g) W2
end
end Fb
namespace Fb
open PySem L2
set_option autoImplicit false
variable [Tb]

/-- what stands apart joins a slot's own part -/
theorem Own.join {fr g : Hp} {hs : Prts} {ρ : Ev} {σ : St} {H ht : Hp} (W : Own fr g hs ρ σ H) (A : Apart fr g hs ht H) {i : Nat} {a : Addr} (hv : σ[i]? = some (some (.ref a))) : Own fr g (setH hs i (uni (hs i) ht)) (ρ.set i (some (bare a))) σ H := by
  have n0 : ∀ {h : Hp} {b : Addr} {o : HO}, h b = some o → (∀ c u, ht c = some u → h c = none) → ht b = none := fun {h b o} e n => by
    cases q : ht b with
    | none => rfl
    | some u =>
      rw [n b u q] at e
      cases e
  refine ⟨by rw [List.length_set]; exact W.len, W.sf, fun b u e => ⟨(W.df b u e).1, fun j => ?_⟩, W.sg, fun j => ?_, fun j b u e => ?_, fun j l b u jl e => ?_, fun j sv e => ?_, W.tb, W.nf, W.ng, fun j b u e => ?_⟩
  · by_cases q : j = i
    · rw [q, setH_same]
      exact uni_none ((W.df b u e).2 i) (n0 e fun c u z => (A.n c u z).1)
    · rw [setH_ne q]
      exact (W.df b u e).2 j
  · by_cases q : j = i
    · rw [q, setH_same]
      exact fun b u e => (uni_some e).elim (W.sh i b u) (A.s b u)
    · rw [setH_ne q]
      exact W.sh j
  · by_cases q : j = i
    · rw [q, setH_same] at e
      exact (uni_some e).elim (W.dg i b u) fun z => (A.n b u z).2.1
    · rw [setH_ne q] at e
      exact W.dg j b u e
  · by_cases q : j = i
    · rw [q, setH_same] at e
      have ql : l ≠ i := fun z => jl (q.trans z.symm)
      rw [setH_ne ql]
      exact (uni_some e).elim (W.dh i l b u (Ne.symm ql)) fun z => (A.n b u z).2.2 l
    · rw [setH_ne q] at e
      by_cases ql : l = i
      · rw [ql, setH_same]
        exact uni_none (W.dh j i b u q e) (n0 e fun c u z => (A.n c u z).2.2 j)
      · rw [setH_ne ql]
        exact W.dh j l b u jl e
  · by_cases q : j = i
    · subst q
      by_cases l : j < ρ.length
      · rw [List.getElem?_set_self l] at e
        cases e
        exact ⟨.ref a, hv, rfl, trivial⟩
      · rw [List.getElem?_eq_none (by rw [List.length_set]; omega)] at e
        cases e
    · rw [List.getElem?_set_ne (Ne.symm q)] at e
      obtain ⟨u, h1, h2⟩ := W.rep j sv e
      exact ⟨u, h1, by rw [setH_ne q]; exact h2⟩
  · by_cases q : j = i
    · rw [q, setH_same] at e
      exact (uni_some e).elim (W.nh i b u) (A.d b u)
    · rw [setH_ne q] at e
      exact W.nh j b u e
/-- Debt(..): its fields -/
def spDebt (K : PySem.W.Frag) : Sp := fun vs H Q _ => ∃ x dx d c k b, vs = [.ref x, .int d, .int c, .str k, .int b] ∧ H x = some (.ins (cDebt K) dx []) ∧ ∀ H', H' x = some (.ins (cDebt K) dx (dbF ⟨d, c, k, b, 0, x⟩)) → (∀ y, y ≠ x → H' y = H y) → Q .non H'
theorem spDebt_len {K : PySem.W.Frag} (vs : List V) (H : Hp) (Q : VK) (E : XK) (h : spDebt K vs H Q E) : vs.length = 5 := by
  obtain ⟨x, dx, d, c, k, b, e, _⟩ := h
  rw [e]
  rfl
def tDebtI (K : PySem.W.Frag) : TS := tSeq (sFld K (tVar 0) (tVar 1) "debtor") (tSeq (sFld K (tVar 0) (tVar 2) "creditor") (tSeq (sFld K (tVar 0) (tVar 3) "kind") (tSeq (sFld K (tVar 0) (tVar 4) "born") (sFld K (tVar 0) (tC (.int 0)) "passed"))))
theorem putF_lt {f : Str} {v : V} : ∀ {fs : List (Str × V)} {n : Nat}, fs.length < n → (putF f v fs).length < n + 1
  | [], n, h => by
    show 1 < n + 1
    have h : 0 < n := h
    omega
  | (g, x) :: r, n, h => by
    unfold putF
    by_cases q : g = f
    · rw [if_pos q]
      have h : r.length + 1 < n := h
      show r.length + 1 < n + 1
      omega
    · rw [if_neg q]
      match n, h with
      | n + 1, h => exact Nat.succ_lt_succ (putF_lt (Nat.lt_of_succ_lt_succ h))
theorem nil_lt : ([] : List (Str × V)).length < 1 := by decide
theorem debt_init {K : PySem.W.Frag} (C : BkC K) (vs : List V) (H : Hp) (Q : VK) (E : XK) (h : spDebt K vs H Q E) : tDebtI K { nx := fun _ H' => Q .non H', rt := Q } (L2.start ["self", "debtor", "creditor", "kind", "born"] vs) H := by
  obtain ⟨x, dx, d, c, k, b, e, hx, q⟩ := h
  subst e
  refine ⟨_, rfl, _, rfl, x, cDebt K, dx, [], rfl, hx, C.debt, C.nD _ (by decide), by decide, ?_⟩
  refine ⟨_, rfl, _, rfl, x, cDebt K, dx, _, rfl, upd_same, C.debt, C.nD _ (by decide), Nat.lt_of_lt_of_le (putF_lt nil_lt) (by decide), ?_⟩
  refine ⟨_, rfl, _, rfl, x, cDebt K, dx, _, rfl, upd_same, C.debt, C.nD _ (by decide), Nat.lt_of_lt_of_le (putF_lt (putF_lt nil_lt)) (by decide), ?_⟩
  refine ⟨_, rfl, _, rfl, x, cDebt K, dx, _, rfl, upd_same, C.debt, C.nD _ (by decide), Nat.lt_of_lt_of_le (putF_lt (putF_lt (putF_lt nil_lt))) (by decide), ?_⟩
  refine ⟨_, rfl, x, cDebt K, dx, _, rfl, upd_same, C.debt, C.nD _ (by decide), Nat.lt_of_lt_of_le (putF_lt (putF_lt (putF_lt (putF_lt nil_lt)))) (by decide), ?_⟩
  refine q _ ?_ fun y hy => ?_
  · rw [upd_same]
    rfl
  · rw [upd_ne hy, upd_ne hy, upd_ne hy, upd_ne hy, upd_ne hy]
theorem dbUp {l : List (Int × Db)} {n : Int} {d : Db} (up : (l.map (·.1)).Pairwise (· < ·)) (h : ∀ p ∈ l, p.1 < n) : ((l ++ [(n, d)]).map (·.1)).Pairwise (· < ·) := by
  rw [List.map_append, List.pairwise_append]
  refine ⟨up, List.pairwise_singleton _ _, fun x hx y hy => ?_⟩
  obtain ⟨p, hp, e⟩ := List.mem_map.mp hx
  have hy : y = n := by simpa using hy
  rw [hy, ← e]
  exact h p hp
/-- self.open_debts[e] = Debt(..) -/
def dBNew (K : PySem.W.Frag) (i : Nat) (wk : ET) (wa : EA) (T : Edn) (ρ : Ev) : Prop := wa ρ fun ds ρ1 => ∃ a B d c k b, slot ρ1 i = some (bk K a B) ∧ ds = [.int d, .int c, .str k, .int b] ∧ wk ρ1 fun z ρ2 => ∃ n, z = .int n ∧ slot ρ2 i = some (bk K a B) ∧ (∀ p ∈ B.debts, p.1 < n) ∧ B.debts.length < sizeLine ∧
  ∀ x, T.nx (ρ2.set i (some (bk K a { B with debts := B.debts ++ [(n, ⟨d, c, k, b, 0, x⟩)] })))
section
variable {X : Cx} {E : XK} {x : Str} {p p1 p2 p3 pos pos2 : Pos} {e k : Expr} {es : List Expr} {wk : ET} {wa : EA} {kk : Nat} {f : Addr} {fd : FuncData}
theorem ds_bNew {K : PySem.W.Frag} (C : BkK K) (hu : X.A.units + 1 < cLine) (i : Nat) (M : Mk K (cDebt K) f) (F : FnOk X.prog X.w K X.mg X.base CX0 kk f fd ["self", "debtor", "creditor", "kind", "born"] (spDebt K)) (hb : Binds K fd ["self", "debtor", "creditor", "kind", "born"] []) (hr : Room (kk + 1) X.A) (hm : X.mg "Debt" = some (.ref (cDebt K)))
    (hk : PE X k (lE wk)) (ha : PA X (e :: es) (lA wa)) (hg : Gl X "Debt" := by rfl) (hN : X.N[i]? = some x := by rfl) (hv : Vis X.env.scope x := by first | exact Or.inl rfl | exact Or.inr (Or.inl rfl) | exact Or.inr (Or.inr rfl)) (hd : (x == ("__debug__" : Str)) = false := by decide)
    (hcd : (x == ("__classdict__" : Str)) = false := by decide) (hbs : attributeBase (.Name x p1) "open_debts" X.env (eval (.Name x p1) X.env) = eval (.Name x p1) X.env := by rfl)
    (hst : starEach (e :: es) X.env = (false, eval e X.env) :: starEach es X.env := by rfl) (hpl : (backTo pos2 (starEach es X.env)).any (·.1) = false := by rfl)
    (hs : swapsWith (.Call (.Name "Debt" p) (e :: es) [] pos2) (some (.Subscript (.Attribute (.Name x p1) "open_debts" p2) k p3)) pos.line X.env = pure false := by rfl) (hK : X.K = K := by rfl) :
    PS X (.Assign [.Subscript (.Attribute (.Name x p1) "open_debts" p2) k p3] (.Call (.Name "Debt" p) (e :: es) [] pos2) pos) (lS K E (dBNew K i wk wa)) := by
  subst hK
  exact ps_imp (ps_dput hu (pe_fld (pos := p2) (f := "open_debts") (pe_var (i := i) hN hv hd hcd) hbs) hk (pe_make (dvs := []) (E := E0) M F hr hg hm hb .nil pass0 ha (by decide) hst hpl) hs) fun D σ H h => by
      obtain ⟨fr, g, hs, ρ, T, W, h, m⟩ := h
      refine ⟨fr, g, hs, ρ, _, W, h, fun ds ρ1 vs g1 hs1 H1 h1 s1 W1 r1 q dq hq hdq hne => ?_⟩
      obtain ⟨a, B, d, c, kd, b0, e0, eds, h1⟩ := h1
      subst eds
      obtain ⟨v1, r2, ev1, d1, t1⟩ := r1
      obtain ⟨v2, r3, ev2, d2, t2⟩ := t1
      obtain ⟨v3, r4, ev3, d3, t3⟩ := t2
      obtain ⟨v4, ev4, d4⟩ := dps_one t3
      have d1 : v1 = .int d := d1
      have d2 : v2 = .int c := d2
      have d4 : v4 = .int b0 := d4
      subst d1 d2 d4 ev4 ev3 ev2 ev1
      obtain ⟨d3, ok⟩ := d3
      subst d3
      refine ⟨q, dq, d, c, kd, b0, rfl, upd_same, fun H2 e1 e2 => ⟨rfl, ?_⟩⟩
      have sm : Same H1 H2 := fun y u ey => by
        have n1 : y ≠ q := ne_of_none ey hq
        have n2 : y ≠ dq := ne_of_none ey hdq
        rw [e2 y n1, upd_ne n1, upd_ne n2]
        exact ey
      have W2 : Own (uni fr (one q (.ins (cDebt X.K) dq (dbF ⟨d, c, kd, b0, 0, q⟩)))) g1 hs1 ρ1 σ H2 := by
        have A : Apart fr g1 hs1 (one q (.ins (cDebt X.K) dq (dbF ⟨d, c, kd, b0, 0, q⟩))) H2 := ⟨fun y u ey => by
            obtain ⟨rfl, rfl⟩ := one_eq ey
            exact e1, fun y u ey => by
            obtain ⟨rfl, rfl⟩ := one_eq ey
            exact ⟨none_of W1.sf hq, none_of W1.sg hq, fun j => none_of (W1.sh j) hq⟩, fun y u ey => by
            obtain ⟨rfl, rfl⟩ := one_eq ey
            rfl⟩
        exact (W1.grow sm).frame A
      have frq : fr q = none := none_of W1.sf hq
      obtain ⟨dx, vf, sv, b, go⟩ := W2.bkD C e0
      refine go _ ⟨_, g1, hs1, ρ1, _, W2, h1, fun z ρ2 v g2 hs2 H3 h3 s3 W3 dz => ?_⟩
      obtain ⟨n, ez, e3, hlt, hl, h3⟩ := h3
      subst ez
      have dz : v = .int n := dz
      obtain ⟨W4, A4, hq3⟩ := W3.outF frq
      obtain ⟨hv4, dx', vf', sv', b'⟩ := W4.atBk e3
      have W5 := W4.join A4 hv4
      have nq : hs2 i q = none := (A4.n q _ one_same).2.2 i
      have uq : ∀ {y u}, hs2 i y = some u → uni (hs2 i) (one q (.ins (cDebt X.K) dq (dbF ⟨d, c, kd, b0, 0, q⟩))) y = some u := fun {y u} e => uni_l _ _ e
      have qD : q ≠ B.dD := fun z => by
        rw [z, b'.dic] at nq
        cases nq
      have qq : uni (hs2 i) (one q (.ins (cDebt X.K) dq (dbF ⟨d, c, kd, b0, 0, q⟩))) q = some (.ins (cDebt X.K) dq (dbF ⟨d, c, kd, b0, 0, q⟩)) := uni_r (fun y u e => (A4.n y u e).2.2 i) _ _ one_same
      have b5 : BkP X.K a { B with debts := B.debts ++ [(n, ⟨d, c, kd, b0, 0, q⟩)] } g2 (upd (uni (hs2 i) (one q (.ins (cDebt X.K) dq (dbF ⟨d, c, kd, b0, 0, q⟩)))) B.dD (.dK (putK (dbK B.debts) (.inl n) (.ref q)))) dx' vf' sv' := by
        refine ⟨by rw [upd_ne (Ne.symm b'.dIns)]; exact uq b'.ins, b'.folk, by rw [upd_same]; exact congrArg (fun l => some (HO.dK l)) (dbK_app (d := ⟨d, c, kd, b0, 0, q⟩) fun p hp => Int.ne_of_lt (hlt p hp)), fun p hp => ?_, by rw [upd_ne b'.sDic]; exact uq b'.lst, b'.sto, ?_, dbUp b'.up hlt⟩
        · rcases List.mem_append.mp hp with hp | hp
          · obtain ⟨⟨dy, hy⟩, oky⟩ := b'.dbs p hp
            exact ⟨⟨dy, by rw [upd_ne (DbP.spotD b' (b'.dbs p hp))]; exact uq hy⟩, oky⟩
          · have hp : p = (n, ⟨d, c, kd, b0, 0, q⟩) := by simpa using hp
            subst hp
            exact ⟨⟨dq, by rw [upd_ne qD]; exact qq⟩, ok⟩
        · show ((B.debts ++ [(n, (⟨d, c, kd, b0, 0, q⟩ : Db))]).map (·.2.spot)).Nodup
          rw [List.map_append, List.nodup_append]
          refine ⟨b'.nd, by simp, fun y hy z hz e => ?_⟩
          obtain ⟨p, hp, ep⟩ := List.mem_map.mp hy
          have hz : z = q := by simpa using hz
          obtain ⟨⟨dy, hy2⟩, _⟩ := b'.dbs p hp
          rw [ep, e, hz, nq] at hy2
          cases hy2
      have hl2 : (dbK B.debts).length < sizeLine := by unfold dbK; rw [List.length_map]; exact hl
      refine ⟨B.dD, _, rfl, by rw [dz]; exact DPut.k (k := .inl n) (W4.sh i _ _ b'.dic) hl2, ?_⟩
      have W6 := W5.storeQ (i := i) (sv := bk X.K a { B with debts := B.debts ++ [(n, ⟨d, c, kd, b0, 0, q⟩)] }) (by rw [setH_same]; exact uq b'.dic) hv4 ⟨rfl, dx', vf', sv', by rw [setH_same]; exact b5⟩
      rw [List.set_set] at W6
      exact m.nx _ _ g2 _ _ (h3 q) (s1.trans s3) W6
end
end Fb
namespace Fb
open PySem L2
set_option autoImplicit false
variable [Tb]

/-! ### the debts that are gone: a list told by walking the dict -/
def goneOf (B : Bk) (l : List (Int × Db)) : List PyData := (l.filter fun p => decide (p.2.born + B.life ≤ B.tick)).map fun p => .int p.1
def dBGone (K : PySem.W.Frag) (i jn jd : Nat) (ρ : Ev) (P : SV → Ev → Prop) : Prop := ∃ a B, slot ρ i = some (bk K a B) ∧ jn < ρ.length ∧ jd < ρ.length ∧ B.debts.length ≤ sizeLine ∧ ∀ l, P (.lst l (goneOf B B.debts)) ρ
def tGone (K : PySem.W.Frag) (i jd : Nat) : TT := tB (tLe (tAdd (tFld K (tVar jd) "born") (tFld K (tVar i) "life")) (tFld K (tVar i) "tick_now"))
theorem goneOf_snoc {B : Bk} {l : List (Int × Db)} {j : Nat} {p : Int × Db} (h : l[j]? = some p) : goneOf B (l.take (j + 1)) = if p.2.born + B.life ≤ B.tick then goneOf B (l.take j) ++ [.int p.1] else goneOf B (l.take j) := by
  unfold goneOf
  rw [List.take_add_one, h, Option.toList_some, List.filter_append, List.map_append]
  by_cases q : p.2.born + B.life ≤ B.tick
  · rw [if_pos q, List.filter_cons, if_pos (decide_eq_true q)]
    rfl
  · rw [if_neg q, List.filter_cons, if_neg (by simp only [decide_eq_true_eq]; exact q)]
    exact List.append_nil _
theorem goneOf_len {B : Bk} {l : List (Int × Db)} : (goneOf B l).length ≤ l.length := by
  unfold goneOf
  rw [List.length_map]
  exact List.length_filter_le _ _
section
variable {X : Cx} {x : Str} {p1 p2 apos cpos pos tpos : Pos} {elt : Expr} {ifs elts : List Expr} {kk : Nat} {scope : Scope} {own : List (Str × Nat)}
theorem lBGone {K : PySem.W.Frag} (C : BkK K) {i jn jd : Nat} {vs : List Nat} {σ : St} {H : Hp} {Q : VK} (hvs : vs = [jn, jd]) (hij : i ≠ jn ∧ i ≠ jd ∧ jn ≠ jd) (h : lO (dBGone K i jn jd) σ H Q) :
    tLockE (tLc (iItems (tFld K (tVar i) "open_debts")) (gTup K 2 (gNames [jn, jd])) (tGone K i jd) (tVar jn) vs) σ H Q := by
  obtain ⟨fr, g, hs, ρ, P, W, h, k⟩ := h
  obtain ⟨a, B, e0, ljn, ljd, hz, h⟩ := h
  obtain ⟨hv, dx, vf, sv, b⟩ := W.atBk e0
  have hD : H B.dD = some (.dK (dbK B.debts)) := W.sh i _ _ b.dic
  refine ⟨B.dD, .dK (dbK B.debts), hD, trivial, fun od => ?_⟩
  have off : ∀ {c u}, c ≠ B.dD → H c = some u → upd H B.dD (.frz od (.dK (dbK B.debts))) c = some u := fun {c u} n e => by rw [upd_ne n]; exact e
  have fa : ∀ {H2 : Hp}, Same (upd H B.dD (.frz od (.dK (dbK B.debts)))) H2 → H2 a = some (.ins (cBook K) dx (bkF vf B)) := fun s => s _ _ (off (Ne.symm b.dIns) (W.sh i _ _ b.ins))
  refine ⟨_, hv, a, cBook K, dx, _, _, rfl, off (Ne.symm b.dIns) (W.sh i _ _ b.ins), C.book, C.nB _ (by decide), rfl, B.dD, od, dbK B.debts, rfl, upd_same, fun L hL => ?_⟩
  have nLD : L ≠ B.dD := fun z => by
    rw [z, upd_same] at hL
    cases hL
  have hL0 : H L = none := by
    rw [upd_ne nLD] at hL
    exact hL
  have lenK : (dbK B.debts).length = B.debts.length := by unfold dbK; rw [List.length_map]
  refine lc_it walk_items (fun j H2 => Same (upd H B.dD (.frz od (.dK (dbK B.debts)))) H2 ∧ ∃ acc, H2 L = some (.lst acc) ∧ DPs nil (goneOf B (B.debts.take j)) acc) ⟨Same.new hL, [], upd_same, by simp [goneOf, DPs]⟩
    (fun j H2 _ p => p.1 _ _ upd_same) (fun j y H2 H3 hj p yd => ?_) fun H2 p => ?_
  · obtain ⟨s2, acc, hacc, racc⟩ := p
    obtain ⟨T, yk, yv, ey, hT, eH, hk1, hk2⟩ := yd
    rw [lenK] at hj
    have hp : B.debts[j]? = some B.debts[j] := List.getElem?_eq_getElem hj
    have hkv : (dbK B.debts)[j]? = some (.inl B.debts[j].1, .ref B.debts[j].2.spot) := by unfold dbK; rw [List.getElem?_map, hp]; rfl
    have hk1 : (dbK B.debts)[j]?.map (fun kv => kV kv.1) = some yk := hk1
    have hk2 : (dbK B.debts)[j]?.map Prod.snd = some yv := hk2
    rw [hkv] at hk1 hk2
    cases hk1
    cases hk2
    subst ey eH
    have s3 : Same (upd H B.dD (.frz od (.dK (dbK B.debts)))) (upd H2 T (.tup [.int B.debts[j].1, .ref B.debts[j].2.spot])) := s2.trans (Same.new hT)
    have hvs' : wipe σ vs = (σ.set jd none).set jn none := by rw [hvs] <;> rfl
    refine ⟨T, _, rfl, SqT.of upd_same, rfl, _, _, rfl, _, _, rfl, rfl, ?_⟩
    have hlen := W.len
    have li : i < σ.length := (List.getElem?_eq_some_iff.mp hv).1
    obtain ⟨⟨dy, hdy⟩, okd⟩ := b.dbs _ (List.getElem_mem hj)
    have hm := b.dbs _ (List.getElem_mem hj)
    have spD := DbP.spotD b hm
    have h3a := fa s3
    have h3d : (upd H2 T (.tup [.int B.debts[j].1, .ref B.debts[j].2.spot])) B.debts[j].2.spot = some (.ins (cDebt K) dy (dbF B.debts[j].2)) := s3 _ _ (off spD (W.sh i _ _ hdy))
    have hvs0 : wipe σ vs = wipe σ [jn, jd] := by rw [hvs]
    have q1 : i ∉ [jn, jd] := by simp [hij.1, hij.2.1]
    have hσi : (((wipe σ vs).set jn (some (.int B.debts[j].1))).set jd (some (.ref B.debts[j].2.spot)))[i]? = some (some (.ref a)) := by
      rw [List.getElem?_set_ne (Ne.symm hij.2.1), List.getElem?_set_ne (Ne.symm hij.1), hvs0, wipe_keep q1]
      exact hv
    refine ⟨?_, ?_⟩
    · rw [hvs]
      refine wipe_chg (js := [jn, jd]) ⟨by simp, fun c hc => ?_⟩ fun c hc => hc
      rw [List.getElem?_set_ne fun z => hc (by rw [z]; simp), List.getElem?_set_ne fun z => hc (by rw [z]; simp)]
    · have hlw : (wipe σ vs).length = ρ.length := by rw [wipe_length, hlen]
      have hσd : (((wipe σ vs).set jn (some (.int B.debts[j].1))).set jd (some (.ref B.debts[j].2.spot)))[jd]? = some (some (.ref B.debts[j].2.spot)) := by
        rw [List.getElem?_set_self (by rw [List.length_set, hlw]; exact ljd)]
      have hσn : (((wipe σ vs).set jn (some (.int B.debts[j].1))).set jd (some (.ref B.debts[j].2.spot)))[jn]? = some (some (.int B.debts[j].1)) := by
        rw [List.getElem?_set_ne (Ne.symm hij.2.2), List.getElem?_set_self (by rw [hlw]; exact ljn)]
      refine ⟨_, hσd, _, cDebt K, dy, _, _, rfl, h3d, C.debt, C.nD _ (by decide), rfl, _, hσi, a, cBook K, dx, _, _, rfl, h3a, C.book, C.nB _ (by decide), rfl, _, _, rfl, rfl, _, hσi, a, cBook K, dx, _, _, rfl, h3a, C.book, C.nB _ (by decide), rfl, _, _, rfl, rfl, _, rfl, ?_⟩
      have hT2 : T ≠ L := fun z => by
        rw [z, hacc] at hT
        cases hT
      have hacc3 : (upd H2 T (.tup [.int B.debts[j].1, .ref B.debts[j].2.spot])) L = some (.lst acc) := by
        rw [upd_ne (Ne.symm hT2)]
        exact hacc
      have sL : ∀ o, Same (upd H B.dD (.frz od (.dK (dbK B.debts)))) (upd (upd H2 T (.tup [.int B.debts[j].1, .ref B.debts[j].2.spot])) L o) := fun o => s3.past hL
      show if decide (B.debts[j].2.born + B.life ≤ B.tick) = true then _ else _
      by_cases q : B.debts[j].2.born + B.life ≤ B.tick
      · rw [if_pos (decide_eq_true q)]
        refine ⟨_, hσn, acc, hacc3, ?_, sL _, _, upd_same, ?_⟩
        · rw [racc.length]
          exact Nat.lt_of_le_of_lt (Nat.le_trans goneOf_len (by rw [List.length_take]; exact Nat.min_le_left _ _)) (Nat.lt_of_lt_of_le hj hz)
        · rw [goneOf_snoc hp, if_pos q]
          exact racc.snoc (d := .int B.debts[j].1) rfl
      · rw [if_neg (by simp only [decide_eq_true_eq]; exact q)]
        refine ⟨s3, acc, hacc3, ?_⟩
        rw [goneOf_snoc hp, if_neg q]
        exact racc
  · obtain ⟨s2, acc, hacc, racc⟩ := p
    rw [lenK, List.take_length] at racc
    refine ⟨s2 _ _ upd_same, ?_⟩
    have sf : Same H (upd H2 B.dD (.dK (dbK B.debts))) := fun c u e => by
      by_cases z : c = B.dD
      · rw [z, upd_same]
        rw [z, hD] at e
        exact e
      · rw [upd_ne z]
        exact s2 _ _ (off z e)
    refine k _ ρ _ g hs (one L (.lst acc)) _ (h L) (Same.refl g) (W.grow sf) ⟨rfl, acc, one_same, racc.mono fun c u e => by cases e⟩ ⟨fun c u e => ?_, fun c u e => ?_, fun c u e => ?_⟩
    · obtain ⟨rfl, rfl⟩ := one_eq e
      rw [upd_ne nLD]
      exact hacc
    · obtain ⟨rfl, rfl⟩ := one_eq e
      exact ⟨none_of W.sf hL0, none_of W.sg hL0, fun j => none_of (W.sh j) hL0⟩
    · obtain ⟨rfl, rfl⟩ := one_eq e
      rfl
theorem do_bGone {K : PySem.W.Frag} (C : BkK K) (i jn jd : Nat) (hN : X.N.Nodup) (ok : blkC X.N X.env.scope scope own = true) (hvs : own.map (·.2) = [jn, jd]) (hij : i ≠ jn ∧ i ≠ jd ∧ jn ≠ jd)
    (hg : ∀ (s : Shared) (H : Hp) (C : Addr) (cl : List (Str × Addr)) (fp : List Addr), PG (X.blk s H scope (compEnvC scope cl C X.env) fp) (.Tuple elts kk tpos) (gTup X.K 2 (gNames [jn, jd])))
    (ht : ∀ (s : Shared) (H : Hp) (C : Addr) (cl : List (Str × Addr)) (fp : List Addr), PTs (X.blk s H scope (compEnvC scope cl C X.env) fp) ifs (tGone X.K i jd))
    (he : ∀ (s : Shared) (H : Hp) (C : Addr) (cl : List (Str × Addr)) (fp : List Addr), PE (X.blk s H scope (compEnvC scope cl C X.env) fp) elt (tVar jn))
    (hNi : X.N[i]? = some x := by rfl) (hv : Vis X.env.scope x := by first | exact Or.inl rfl | exact Or.inr (Or.inl rfl) | exact Or.inr (Or.inr rfl)) (hd : (x == ("__debug__" : Str)) = false := by decide)
    (hcd : (x == ("__classdict__" : Str)) = false := by decide) (hb : attributeBase (.Name x p1) "open_debts" X.env (eval (.Name x p1) X.env) = eval (.Name x p1) X.env := by rfl)
    (hbase : attributeBase (.Attribute (.Name x p1) "open_debts" p2) "items" X.env (eval (.Attribute (.Name x p1) "open_debts" p2) X.env) = eval (.Attribute (.Name x p1) "open_debts" p2) X.env := by rfl) (hline : (apos.endLine == cpos.line) = true := by rfl)
    (hc : X.calm = true := by rfl)
    (hs0 : ∀ z, foldedSetIterable (.Call (.Attribute (.Attribute (.Name x p1) "open_debts" p2) "items" apos) [] [] cpos) X.env z = pure z := by intro _; rfl) (hK : X.K = K := by rfl) :
    PE X (.ListComp elt [⟨.Tuple elts kk tpos, .Call (.Attribute (.Attribute (.Name x p1) "open_debts" p2) "items" apos) [] [] cpos, ifs, 0⟩] scope pos) (lO (dBGone K i jn jd)) := by
  subst hK
  exact pe_imp (pe_lock (pe_lc hc hN (pi_items (pe_fld (pos := p2) (f := "open_debts") (pe_var (i := i) hNi hv hd hcd) hb) hbase hline) (blkOk_by ok) hg ht he hs0)) fun σ H Q h => lBGone C hvs hij h
theorem ds_bGone {K : PySem.W.Frag} {E : XK} {y : Str} {py spos : Pos} (C : BkK K) (t i jn jd : Nat) (hN : X.N.Nodup) (ok : blkC X.N X.env.scope scope own = true) (hvs : own.map (·.2) = [jn, jd]) (hij : i ≠ jn ∧ i ≠ jd ∧ jn ≠ jd)
    (hg : ∀ (s : Shared) (H : Hp) (C : Addr) (cl : List (Str × Addr)) (fp : List Addr), PG (X.blk s H scope (compEnvC scope cl C X.env) fp) (.Tuple elts kk tpos) (gTup X.K 2 (gNames [jn, jd])))
    (ht : ∀ (s : Shared) (H : Hp) (C : Addr) (cl : List (Str × Addr)) (fp : List Addr), PTs (X.blk s H scope (compEnvC scope cl C X.env) fp) ifs (tGone X.K i jd))
    (he : ∀ (s : Shared) (H : Hp) (C : Addr) (cl : List (Str × Addr)) (fp : List Addr), PE (X.blk s H scope (compEnvC scope cl C X.env) fp) elt (tVar jn))
    (hNi : X.N[i]? = some x := by rfl) (hv : Vis X.env.scope x := by first | exact Or.inl rfl | exact Or.inr (Or.inl rfl) | exact Or.inr (Or.inr rfl)) (hd : (x == ("__debug__" : Str)) = false := by decide)
    (hcd : (x == ("__classdict__" : Str)) = false := by decide) (hb : attributeBase (.Name x p1) "open_debts" X.env (eval (.Name x p1) X.env) = eval (.Name x p1) X.env := by rfl)
    (hbase : attributeBase (.Attribute (.Name x p1) "open_debts" p2) "items" X.env (eval (.Attribute (.Name x p1) "open_debts" p2) X.env) = eval (.Attribute (.Name x p1) "open_debts" p2) X.env := by rfl) (hline : (apos.endLine == cpos.line) = true := by rfl)
    (hc : X.calm = true := by rfl)
    (hs0 : ∀ z, foldedSetIterable (.Call (.Attribute (.Attribute (.Name x p1) "open_debts" p2) "items" apos) [] [] cpos) X.env z = pure z := by intro _; rfl) (hK : X.K = K := by rfl) (hy : X.N[t]? = some y := by rfl) (hyl : X.env.scope.names.lookup y = some .local := by rfl)
    (hsw : swapsWith (.ListComp elt [⟨.Tuple elts kk tpos, .Call (.Attribute (.Attribute (.Name x p1) "open_debts" p2) "items" apos) [] [] cpos, ifs, 0⟩] scope pos) (some (.Name y py)) spos.line X.env = pure true := by rfl) :
    PS X (.Assign [.Name y py] (.ListComp elt [⟨.Tuple elts kk tpos, .Call (.Attribute (.Attribute (.Name x p1) "open_debts" p2) "items" apos) [] [] cpos, ifs, 0⟩] scope pos) spos) (lS K E (dSetO t (dBGone K i jn jd))) := by
  subst hK
  exact ps_imp (ps_lock (ps_setLc (i := t) hc hN hy hyl hsw (pi_items (pe_fld (pos := p2) (f := "open_debts") (pe_var (i := i) hNi hv hd hcd) hb) hbase hline) (blkOk_by ok) hg ht he hs0)) fun D σ H h => by
    obtain ⟨fr, g, hs, ρ, T, W, h, m⟩ := h
    exact lBGone C hvs hij (Q := fun v H' => gName t v σ H' D.nx) ⟨fr, g, hs, ρ, _, W, h, fun r ρ' v g' hs' ht H' h' s' W' r' A' => m.nx _ _ g' _ H' h' s' (W'.setO r' A')⟩

end
end Fb
namespace Fb
open PySem L2
set_option autoImplicit false
variable [Tb]

/-! ### a book's methods called -/
theorem lX_imp {K : PySem.W.Frag} {E : XK} {w w' : EX} (h : ∀ ρ Q Qe, w' ρ Q Qe → w ρ Q Qe) {σ : St} {H : Hp} {Q : VK} (q : lX K E w' σ H Q) : lX K E w σ H Q := by
  obtain ⟨fr, g, hs, ρ, P, Pe, W, hw, k⟩ := q
  exact ⟨fr, g, hs, ρ, P, Pe, W, h _ _ _ hw, k⟩
theorem lO_imp {w w' : EO} (h : ∀ ρ Q, w' ρ Q → w ρ Q) {σ : St} {H : Hp} {Q : VK} (q : lO w' σ H Q) : lO w σ H Q := by
  obtain ⟨fr, g, hs, ρ, P, W, hw, k⟩ := q
  exact ⟨fr, g, hs, ρ, P, W, h _ _ hw, k⟩
def dMetXB (K : PySem.W.Frag) (i n : Nat) (P : FX) (w : EK) (ρ : Ev) (Q : SV → Ev → Prop) (Qe : Rf → Ev → Prop) : Prop := (∃ a B, slot ρ i = some (bk K a B)) ∧ w ρ fun ks ρ1 => (.inl i :: ks).length = n ∧ ndB (.inl i :: ks) = true ∧ withArgs ρ1 (.inl i :: ks) fun as => P as (fun r as' => Q r (back (.inl i :: ks) as' ρ1)) fun x as' => Qe x (back (.inl i :: ks) as' ρ1)
def dMetB (K : PySem.W.Frag) (i n : Nat) (P : FS) (w : EK) (ρ : Ev) (Q : SV → Ev → Prop) : Prop := (∃ a B, slot ρ i = some (bk K a B)) ∧ w ρ fun ks ρ1 => (.inl i :: ks).length = n ∧ ndB (.inl i :: ks) = true ∧ withArgs ρ1 (.inl i :: ks) fun as => P as (fun r as' => Q r (back (.inl i :: ks) as' ρ1))
theorem metB {K : PySem.W.Frag} {m : Str} {i n : Nat} {P : FS} {w : EK} (hm : ∀ (vf : V) (B : Bk), (bkF vf B).lookup m = none) (ρ : Ev) (Q : SV → Ev → Prop) (h : dMetB K i n P w ρ Q) : dMet (cBook K) m i n P w ρ Q := by
  obtain ⟨⟨a, B, e⟩, h⟩ := h
  exact ⟨⟨a, _, e, bk_inst fun vf => hm vf B⟩, h⟩
theorem metXB {K : PySem.W.Frag} {m : Str} {i n : Nat} {P : FX} {w : EK} (hm : ∀ (vf : V) (B : Bk), (bkF vf B).lookup m = none) (ρ : Ev) (Q : SV → Ev → Prop) (Qe : Rf → Ev → Prop) (h : dMetXB K i n P w ρ Q Qe) : dMetX (cBook K) m i n P w ρ Q Qe := by
  obtain ⟨⟨a, B, e⟩, h⟩ := h
  exact ⟨⟨a, _, e, bk_inst fun vf => hm vf B⟩, h⟩
section
variable {X : Cx} {k : Nat} {x m : Str} {ps : List Str} {e : Expr} {es : List Expr} {p1 pos apos : Pos}
theorem dx_metB {K : PySem.W.Frag} {P : FX} {w : EK} {E : XK} (i : Nat) (D : MetOk X (L2.CX X.prog X.w) k "Book" m ps (spX X.K ps.length P)) (hr : Room k X.A) (hx : Passes (L2.CX X.prog X.w) X E) (ha : PA X (e :: es) (lK w)) (hm : ∀ (vf : V) (B : Bk), (bkF vf B).lookup m = none := by intros; rfl) (hN : X.N[i]? = some x := by rfl) (hv : Vis X.env.scope x := by first | exact Or.inl rfl | exact Or.inr (Or.inl rfl) | exact Or.inr (Or.inr rfl))
    (hd : (x == ("__debug__" : Str)) = false := by decide) (hcd : (x == ("__classdict__" : Str)) = false := by decide) (he : starEach (e :: es) X.env = (false, eval e X.env) :: starEach es X.env := by rfl) (hpl : (backTo pos (starEach es X.env)).any (·.1) = false := by rfl) {pl : Sem Bool}
    (ht : eval (.Call (.Attribute (.Name x p1) m apos) (e :: es) [] pos) X.env = (do
      let ov ← eval (.Name x p1) X.env
      standAt apos.atName
      let (f, first) ← holding [ov] (getMethod ov m pl)
      callWith pos f first (backTo pos (starEach (e :: es) X.env)) (backToKw pos (keywordEach [] X.env))) := by rfl) (hK : X.K = K := by rfl) :
    PE X (.Call (.Attribute (.Name x p1) m apos) (e :: es) [] pos) (lX X.K E (dMetXB K i ps.length P w)) := by
  subst hK
  exact pe_imp (dx_met i D hr hx ha hN hv hd hcd he hpl ht) fun _ _ _ h => lX_imp (metXB hm) h
theorem do_metB {K : PySem.W.Frag} {P : FS} {w : EK} (i : Nat) (D : MetOk X CX0 k "Book" m ps (spL ps.length P)) (hr : Room k X.A) (ha : PA X (e :: es) (lK w)) (hm : ∀ (vf : V) (B : Bk), (bkF vf B).lookup m = none := by intros; rfl) (hN : X.N[i]? = some x := by rfl) (hv : Vis X.env.scope x := by first | exact Or.inl rfl | exact Or.inr (Or.inl rfl) | exact Or.inr (Or.inr rfl))
    (hd : (x == ("__debug__" : Str)) = false := by decide) (hcd : (x == ("__classdict__" : Str)) = false := by decide) (he : starEach (e :: es) X.env = (false, eval e X.env) :: starEach es X.env := by rfl) (hpl : (backTo pos (starEach es X.env)).any (·.1) = false := by rfl) {pl : Sem Bool}
    (ht : eval (.Call (.Attribute (.Name x p1) m apos) (e :: es) [] pos) X.env = (do
      let ov ← eval (.Name x p1) X.env
      standAt apos.atName
      let (f, first) ← holding [ov] (getMethod ov m pl)
      callWith pos f first (backTo pos (starEach (e :: es) X.env)) (backToKw pos (keywordEach [] X.env))) := by rfl) (hK : X.K = K := by rfl) :
    PE X (.Call (.Attribute (.Name x p1) m apos) (e :: es) [] pos) (lO (dMetB K i ps.length P w)) := by
  subst hK
  exact pe_imp (do_met i D hr ha hN hv hd hcd he hpl ht) fun _ _ _ h => lO_imp (metB hm) h
theorem dx_met0B {K : PySem.W.Frag} {P : FX} {E : XK} (i : Nat) (D : MetOk X (L2.CX X.prog X.w) k "Book" m ps (spX X.K ps.length P)) (hr : Room k X.A) (hx : Passes (L2.CX X.prog X.w) X E) (hm : ∀ (vf : V) (B : Bk), (bkF vf B).lookup m = none := by intros; rfl) (hN : X.N[i]? = some x := by rfl) (hv : Vis X.env.scope x := by first | exact Or.inl rfl | exact Or.inr (Or.inl rfl) | exact Or.inr (Or.inr rfl))
    (hd : (x == ("__debug__" : Str)) = false := by decide) (hcd : (x == ("__classdict__" : Str)) = false := by decide) {pl : Sem Bool}
    (ht : eval (.Call (.Attribute (.Name x p1) m apos) [] [] pos) X.env = (do
      let ov ← eval (.Name x p1) X.env
      standAt apos.atName
      let (f, first) ← holding [ov] (getMethod ov m pl)
      callWith pos f first (backTo pos (starEach [] X.env)) (backToKw pos (keywordEach [] X.env))) := by rfl) (hK : X.K = K := by rfl) :
    PE X (.Call (.Attribute (.Name x p1) m apos) [] [] pos) (lX X.K E (dMetXB K i ps.length P kNil)) := by
  subst hK
  exact pe_imp (dx_met0 i D hr hx hN hv hd hcd ht) fun _ _ _ h => lX_imp (metXB hm) h
theorem do_met0B {K : PySem.W.Frag} {P : FS} (i : Nat) (D : MetOk X CX0 k "Book" m ps (spL ps.length P)) (hr : Room k X.A) (hm : ∀ (vf : V) (B : Bk), (bkF vf B).lookup m = none := by intros; rfl) (hN : X.N[i]? = some x := by rfl) (hv : Vis X.env.scope x := by first | exact Or.inl rfl | exact Or.inr (Or.inl rfl) | exact Or.inr (Or.inr rfl))
    (hd : (x == ("__debug__" : Str)) = false := by decide) (hcd : (x == ("__classdict__" : Str)) = false := by decide) {pl : Sem Bool}
    (ht : eval (.Call (.Attribute (.Name x p1) m apos) [] [] pos) X.env = (do
      let ov ← eval (.Name x p1) X.env
      standAt apos.atName
      let (f, first) ← holding [ov] (getMethod ov m pl)
      callWith pos f first (backTo pos (starEach [] X.env)) (backToKw pos (keywordEach [] X.env))) := by rfl) (hK : X.K = K := by rfl) :
    PE X (.Call (.Attribute (.Name x p1) m apos) [] [] pos) (lO (dMetB K i ps.length P kNil)) := by
  subst hK
  exact pe_imp (do_met0 i D hr hN hv hd hcd ht) fun _ _ _ h => lO_imp (metB hm) h
end
end Fb
namespace Fb
open PySem PySem.Spec PyProof.Rows L2
set_option autoImplicit false

/-! ### sorted(d.items(), key=f), the keys rising as they stand -/
theorem le_ints {n m : Int} {β : Type} {k : β → PyData} {a b : β} (ha : k a = .int n) (hb : k b = .int m) (h : n ≤ m) : PySem.W.dataLe false k a b = true := by
  show (!PySem.W.dataLt (k b) (k a)) = true
  rw [ha, hb, PySem.W.dataLt_int, decide_eq_false (by omega)]
  rfl
theorem each_refs : ∀ {out : List Value} {as : List Addr} {ns : List Int}, PySem.W.EachIs (fun v (b : Addr × Int) => v = Value.ref b.1) out (as.zip ns) → ns.length = as.length → out = as.map Value.ref
  | [], as, ns, q, e => by
    have z := q.length
    rw [List.length_zip, e, Nat.min_self] at z
    have z : 0 = as.length := z
    have z2 : as = [] := List.eq_nil_of_length_eq_zero z.symm
    subst z2
    rfl
  | v :: out, as, ns, q, e => by
    cases as with
    | nil =>
      have z := q.length
      simp at z
    | cons a as =>
      cases ns with
      | nil => cases e
      | cons n ns =>
        cases q with
        | cons q1 q2 =>
          have q1 : v = Value.ref a := q1
          rw [q1, each_refs q2 (Nat.succ.inj e)]
          rfl
section
variable {prog : Program} {w : World} {A : Around} {E : Value → Shared → Prop} {s : Shared} {r d : Addr} {ep : Nat} {Kt : Type} [DecidableEq Kt] {knd : PySem.KeyKind prog w Kt} {kvs : List (Kt × Value)} {f : Addr}
theorem sorted_view {Q : Value → Shared → Prop} (ns : List Int) (hh : A.handled = none) (hv : s.heap.IsItemsView r d) (hm : s.heap.DictAt knd d kvs ep) (hn : kvs.length ≤ sizeLine) (hl : ns.length = kvs.length) (up : ns.Pairwise (· < ·)) (hu : A.units + 3 < cLine)
    (turn : ∀ (h : Heap) (tk : Nat) (t : Addr) (n : Int) (k x : Value), (∀ b o, s.heap.get? b = some o → h.get? b = some o) → h.get? t = some { cls := .type "tuple", data := .seq #[k, x] } → (∃ j : Nat, ns[j]? = some n ∧ ∃ q, kvs[j]? = some (q, x) ∧ knd.is q k = true) →
      wpAny (model prog w) A.in1.in1 (call (.ref f) [.ref t]) (PySem.W.KeyPure (.int n) { s with heap := h, toks := tk }) (fun _ _ => False) { s with heap := h, toks := tk })
    (h : ∀ (h1 h' : Heap) (tk c : Nat) (as : List Addr), (∀ b o, s.heap.get? b = some o → h1.get? b = some o) → (∀ b o, h1.get? b = some o → h'.get? b = some o) → as.length = kvs.length → PySem.W.KdxG knd kvs s.heap.objs.size h1 as →
      h'.get? h1.objs.size = some (seqObj "list" (as.map Value.ref).toArray c) → Q (.ref h1.objs.size) { s with heap := h', toks := tk }) :
    wpAny (model prog w) A (call (.builtin "sorted") [.ref r] [(Str.ofString "key", .ref f)]) Q E s := by
  refine call_function_entry_kw kind_sorted plain_sorted entry_sorted (PyProof.Rows.ksk_s1 _ _) ?_
  unfold Builtin.«sorted»
  refine wpAny_bind (m := checkCount "sorted" 1 1 _) (wpAny_pure ?_)
  refine wpAny_bind (PySem.W.kdx_collect (knd := knd) (kvs := kvs) (ep := ep) (by first | exact hh | (show A.in1.handled = none; exact hh)) hv hm hn fun h1 tk1 as k1 la G1 => ?_)
  have lz : (as.map Value.ref).length ≤ sizeLine := by rw [List.length_map, la]; exact hn
  refine wpAny_bind (wpAny_newList ?_ lz)
  have hp : (h1.push (seqObj "list" (as.map Value.ref).toArray 0)).get? h1.objs.size = some (seqObj "list" (as.map Value.ref).toArray 0) := Heap.get?_push_size _ rfl
  refine wpAny_bind (wpAny_holding (wpAny_call_entry_kw PyProof.Rows.slot_list_sort ⟨_, hp, rfl⟩ PyProof.Rows.entry_list_sort ?body (PyProof.Rows.ksk_l1 _ _)))
  case body =>
    show wpAny (model prog w) A.in1.in1 (Builtin.«list.sort» ⟨[.ref h1.objs.size], [(Str.ofString "key", .ref f)]⟩) _ _ _
    rw [ksk_t1]
    have lz2 : ns.length = (as.map Value.ref).length := by rw [hl, List.length_map, la]
    have k2 : ∀ b o, s.heap.get? b = some o → (h1.push (seqObj "list" (as.map Value.ref).toArray 0)).get? b = some o := fun b o e => Heap.get?_push_of_some _ (k1 b o e)
    have nP : ∀ b o, h1.get? b = some o → b ≠ h1.objs.size := fun b o e => Nat.ne_of_lt (Heap.lt_size e)
    have up' : ∀ {g : Heap}, PySem.W.KeepsBut h1.objs.size (h1.push (seqObj "list" (as.map Value.ref).toArray 0)) g → ∀ b o, h1.get? b = some o → g.get? b = some o := fun {g} kp b o e => kp b o (nP b o e) (Heap.get?_push_of_some _ e)
    refine PySem.W.keyH_tree (kz := ns.map PyData.int) (s := { s with heap := h1.push (seqObj "list" (as.map Value.ref).toArray 0), toks := tk1 }) hp (by rw [List.length_map]; exact lz2) lz (PySem.W.AllAlike.of fun _ _ => rfl) (PySem.W.Sortable.others fun _ => ⟨(by intro z; cases z), fun xs z => by cases z⟩)
      (fun z hz => ?_) (fun i v k hv hk g tk kp => ?_) fun h' tk out c kp hD ko => ?_
    · obtain ⟨n, _, e⟩ := List.mem_map.mp hz
      rw [← e]
      show A.units + 2 + 0 < cLine
      omega
    · rw [List.getElem?_map] at hv hk
      obtain ⟨t, ht, ev⟩ := Option.map_eq_some_iff.mp hv
      obtain ⟨n, hn', ek⟩ := Option.map_eq_some_iff.mp hk
      subst ev ek
      obtain ⟨key, q, x, f1, f2, f3⟩ := G1.pairs i t ht
      exact turn g tk t n key x (fun b o e => up' kp b o (k1 b o e)) (up' kp _ _ f3) ⟨i, hn', q, f1, f2⟩
    · have eo : out = as.map Value.ref := by
        have R : PySem.W.EachIs (fun v (b : Addr × Int) => v = .ref b.1) (as.map Value.ref) (as.zip ns) := by
          have go : ∀ (as : List Addr) (ns : List Int), ns.length = as.length → PySem.W.EachIs (fun v (b : Addr × Int) => v = Value.ref b.1) (as.map Value.ref) (as.zip ns) := fun as => by
            induction as with
            | nil => exact fun _ _ => .nil
            | cons a as ih => exact fun ns e => match ns, e with
              | n :: ns, e => .cons rfl (ih ns (Nat.succ.inj e))
          exact go as ns (by rw [lz2, List.length_map])
        have ez : (as.zip ns).map (fun b => PyData.int b.2) = ns.map PyData.int := by
          show (as.zip ns).map (PyData.int ∘ Prod.snd) = _
          rw [← List.map_map, List.map_snd_zip (by rw [hl, la]; exact Nat.le_refl _)]
        have E := PySem.W.keyedOut_each (rev := false) (bs := as.zip ns) (fun b => PyData.int b.2) (by rw [ez]; exact ko) R
        have so : (as.zip ns).mergeSort (PySem.W.dataLe false fun b => PyData.int b.2) = as.zip ns := by
          refine List.mergeSort_of_pairwise ?_
          have up2 : ((as.zip ns).map Prod.snd).Pairwise (· < ·) := by
            rw [List.map_snd_zip (by rw [hl, la]; exact Nat.le_refl _)]
            exact up
          rw [List.pairwise_map] at up2
          exact up2.imp fun {a b} q => le_ints (k := fun b : Addr × Int => PyData.int b.2) rfl rfl (Int.le_of_lt q)
        rw [so] at E
        exact each_refs E (by rw [lz2, List.length_map])
      rw [eo] at hD
      exact ⟨_, rfl, wpAny_pure ⟨_, rfl, h h1 h' tk c as k1 (fun b o e => up' kp b o e) la G1 hD⟩⟩
end
end Fb
namespace Fb
open PySem PySem.Spec PyProof.Rows L2
set_option autoImplicit false

/-! ### the key: x[0] of a pair -/
theorem key_turn {prog : Program} {w : World} {A : Around} {s : Shared} {f t c' : Addr} {q x : Str} {params : Arguments} {scope : Scope} {cl : List (Str × Addr)} {pm ctv key v : Value} {n : Int} {k : Nat} {a1 a2 a3 : Pos} (hroom : A.depth < recursionLimit) (hlim : s.heap.NoLimit)
    (hf : s.heap.get? f = some (PySem.W.kla_obj "<lambda>" q params (.Subscript (.Name x a1) (.Constant (.int 0) k a2) a3) scope cl pm c' ctv)) (hcd : s.heap.CodeRec (.ref c') q) (hbind : ∀ u, bindArgs (PySem.W.kla_fn "<lambda>" q params (.Subscript (.Name x a1) (.Constant (.int 0) k a2) a3) scope cl pm (.ref c') ctv) ⟨[u], []⟩ = pure [(x, u)])
    (hk : scope.kind = .function) (hco : scope.isCoroutine = false) (hgen : scope.isGenerator = false) (hcell : ∀ y ∈ scope.names, y.2 ≠ .cell) (hx : scope.names.lookup x = some .local) (hdb : (x == ("__debug__" : Str)) = false) (ht : s.heap.get? t = some { cls := .type "tuple", data := .seq #[key, v] }) (hn : RelV (.int n) key) :
    wpAny (model prog w) A (call (.ref f) [.ref t]) (PySem.W.KeyPure (.int n) s) (fun _ _ => False) s := by
  obtain ⟨tk0, rfl⟩ := hn
  have rc : codeAny (model prog w) A (.call (.ref f) ⟨[.ref t], []⟩) (fun r s' => ∃ u, r = .ok (.ret u) ∧ PySem.W.KeyPure (.int n) s u s') s := by
    refine PySem.W.kla_callFunE hroom hf rfl hco hgen rfl hcd ?_
    rw [hbind]
    refine wpAny_pure (wpAny_newFunctionEnv hcell (fun y hy => by
      have e : y = (x, .ref t) := by simpa using hy
      rw [e]
      exact hx) (fun h₁ hns hsb => ⟨hlim.fresh _ hsb, ?_⟩) hk)
    have kp : ∀ b o, s.heap.get? b = some o → h₁.get? b = some o := fun b o e => hsb.extBut b o (Nat.ne_of_lt (Heap.lt_size e)) (Heap.get?_push_of_some _ e)
    refine PySem.W.kla_codeExpr (Subscript_ ?_)
    refine wpAny_Name (wpAny_loadName_local (v := .ref t) hk hx hns ?_ ?_) hdb
    · show (([(x, Value.ref t)] : List (Str × Value)).reverse.lookup x) = some (.ref t)
      simp
    · refine wpAny_Constant_int ?_
      have pl : IsTup h₁ t #[.int n tk0, v] := ⟨_, kp _ _ ht, rfl, _, rfl⟩
      exact subscriptTail_builtinR (x := .int n tk0) pl.typeIs slot_tuple_getitem.lookup
        (PyProof.Rows.getItem_tuple (j := 0) (Q := fun r s' => r = .int n tk0 ∧ ∃ u, (Except.ok (Flow.ret r) : Result) = .ok (.ret u) ∧ PySem.W.KeyPure (.int n) s u s') pl (by decide) (by decide) (by rfl) (by rfl) ⟨rfl, _, rfl, h₁, _, rfl, kp, .int n tk0⟩)
  refine wpAny_call (codeAny_mono rc fun r s' hq => ?_)
  obtain ⟨u, e, q⟩ := hq
  subst e
  exact q

/-! ### the new tuples tracked -/
theorem tups_laid {X : Cx} {pins : List (Addr × Obj)} {σ : L2.St} {H : Hp} {s : Shared} {h' : Heap} {tk : Nat} {kvs : List (Key × V)} {vs : List (Key × Value)} {as : List Addr} (I : Inv X pins σ H s) (kv : KV kvs vs)
    (hk : ∀ b o, s.heap.get? b = some o → h'.get? b = some o) (hl : as.length = vs.length) (hG : PySem.W.KdxG (mixKind X.prog X.w) vs s.heap.objs.size h' as) :
    ∃ H' : Hp, (∀ b o, H b = some o → H' b = some o) ∧ (∀ t ∈ as, H t = none) ∧ (∀ b, b ∉ as → H' b = H b) ∧ Paired (fun (t : Addr) (q : Key × V) => H' t = some (.tup [kV q.1, q.2])) as kvs ∧ Inv X pins σ H' { s with heap := h', toks := tk } := by
  have lk : kvs.length = vs.length := Paired.length kv
  have nd : as.Nodup := List.Pairwise.imp (fun {a b} (h : a < b) => Nat.ne_of_lt h) hG.rise
  have new : ∀ t ∈ as, H t = none := fun t ht => I.hok.fresh (Nat.le_of_lt (hG.above t ht))
  have atP := LiI.putT_at as kvs H (by omega) nd
  have off : ∀ b, b ∉ as → LiI.putT H as kvs b = H b := fun b h1 => LiI.putT_off as kvs _ h1
  have low : ∀ b o, s.heap.get? b = some o → b ∉ as := fun b o e z => absurd (Heap.lt_size e) (Nat.not_lt.mpr (Nat.le_of_lt (hG.above b z)))
  have kp : ∀ b u, H b = some u → (LiI.putT H as kvs) b = some u := fun b u e => by
    rw [off b (fun z => by rw [new b z] at e; cases e)]
    exact e
  refine ⟨LiI.putT H as kvs, kp, new, off, atP, ?_⟩
  refine I.call' (ch := []) rfl ⟨fun b o q _ _ _ => hk b o q, fun b o q _ _ _ => ⟨o.slots, hk b o q⟩, fun b o q n _ => ?_, fun b o q _ => ⟨o, hk b o q⟩, fun b xs q => kp b _ q, fun b o u q => kp b _ q, fun b ps q => ⟨#[], by rw [kp b _ q]; simp⟩⟩ (fun b u q => ?_) I.bare fun b z => by simp at z
  · rw [off b (low b o q)]
    exact n
  · by_cases hb : b ∈ as
    · obtain ⟨j, pk, e1, e2, e3⟩ := LiI.paired_ix atP hb
      rw [e3] at q
      cases q
      obtain ⟨key, k, x, f1, f2, f3⟩ := hG.pairs j b e1
      obtain ⟨qv, g1, g2, g3⟩ := LiI.paired_get kv e2
      rw [f1] at g1
      cases g1
      have rk : RelV (kV pk.1) key := by
        rw [g2]
        exact relV_key (show keyIs k key = true from f2)
      exact ⟨by show 2 ≤ sizeLine; decide, [key, x], .cons rk (.cons g3 .nil), ⟨_, f3, rfl, _, rfl⟩⟩
    · rw [off b hb] at q
      exact (I.hok b u q).stay (fun d v _ y => hk d v y) (fun d y => kp d _ y) fun d xs y => kp d _ y
/-- what a def that makes lambdas is asked -/
structure LamK [Tb] (X : Cx) (c P : Addr) : Prop where
  tb : LamX.TabB X.base X.mg c P
  code : X.env.code = .ref c
  mem : (P, X.env.qual ++ "<lambda>") ∈ Tb.T
  uniq : ∀ p ∈ Tb.T, p.1 = P → p.2 = X.env.qual ++ "<lambda>"
theorem code_at {K : PySem.W.Frag} {x qual : Str} {params : Arguments} {body : List Stmt} {scope : Scope} {dvs : List V} {kws : List (Str × V)} {p : Str × Option Str} {fd : FuncData} (F : FunD K x qual params body scope dvs kws (He.fAd K p) fd) : fd.code = .ref (He.codeOf K p) := by
  obtain ⟨oc, od, dV, kV, doc, pm, an, cdv, ct, osl, rfl, lk, hcd, _, _⟩ := F.ex
  obtain ⟨c, ec⟩ := He.codeIn_ref hcd
  subst ec
  rw [He.codeOf_eq lk rfl] <;> rfl
variable [Tb]
/-- a lambda is made: the tables grow -/
theorem Own.extN {fr g : Hp} {hs : Prts} {ρ : Ev} {σ : L2.St} {H H' : Hp} (W : Own fr g hs ρ σ H) (e : LamX.ExtN H H') (t : LamX.Tabs Tb.T H') : Own fr g hs ρ σ H' := by
  have nt : ∀ {o : HO}, ord o = true → ∀ ps, o ≠ .tbl ps := fun {o} h ps z => by
    rw [z] at h
    cases h
  exact ⟨W.len, fun a o q => e a o (W.sf a o q) (nt (W.nf a o q)), W.df, fun a o q => e a o (W.sg a o q) (nt (W.ng a o q)), fun i a o q => e a o (W.sh i a o q) (nt (W.nh i a o q)), W.dg, W.dh, W.rep, t, W.nf, W.ng, W.nh⟩
def dBSorted (K : PySem.W.Frag) (i : Nat) (ρ : Ev) (P : List (PyData × Addr) → Ev → Prop) : Prop := ∃ a B, slot ρ i = some (bk K a B) ∧ B.debts.length ≤ sizeLine ∧ P (B.debts.map fun p => (.int p.1, p.2.spot)) ρ
theorem frz_more {fr g : Hp} {hs : Prts} {ρ : Ev} {σ : L2.St} {H H' : Hp} (W : Own fr g hs ρ σ H) {ht : Hp} (s : Same H H') (sh : Same ht H') (n : ∀ a o, ht a = some o → H a = none) (d : ∀ a o, ht a = some o → ord o = true) : Same g (uni g ht) ∧ Own fr (uni g ht) hs ρ σ H' :=
  ⟨uni_l, (W.grow s).absorb ⟨sh, fun a o e => ⟨none_of W.sf (n a o e), none_of W.sg (n a o e), fun i => none_of (W.sh i) (n a o e)⟩, d⟩⟩
section
variable {X : Cx} {tg : Expr} {x y : Str} {p p1 p2 a1 a2 a3 apos cpos lpos kpos pos : Pos} {params : Arguments} {scope : Scope} {kk : Nat} {c P0 : Addr}
theorem paired_pairs {H' : Hp} : ∀ {as : List Addr} {l : List (Int × Db)}, Paired (fun (t : Addr) (q : Key × V) => H' t = some (.tup [kV q.1, q.2])) as (dbK l) → ∀ {i : Nat} {t : Addr}, as[i]? = some t → ∃ p, l[i]? = some p ∧ H' t = some (.tup [.int p.1, .ref p.2.spot])
  | [], [], _, i, t, e => by simp at e
  | a :: as, p :: l, .cons h r, 0, t, e => by
    simp at e
    subst e
    exact ⟨p, rfl, h⟩
  | a :: as, p :: l, .cons h r, i + 1, t, e => by
    rw [List.getElem?_cons_succ] at e ⊢
    exact paired_pairs r e
theorem kv_ints : ∀ {l : List (Int × Db)} {vs : List (Key × Value)} {j : Nat} {q : Key} {u : Value}, KV (dbK l) vs → vs[j]? = some (q, u) → ∃ p, l[j]? = some p ∧ q = .inl p.1
  | [], [], j, q, u, _, e => by simp at e
  | p :: l, v :: vs, 0, q, u, .cons h r, e => by
    simp at e
    subst e
    exact ⟨p, rfl, h.1.symm⟩
  | p :: l, v :: vs, j + 1, q, u, .cons h r, e => by
    rw [List.getElem?_cons_succ] at e ⊢
    exact kv_ints r e
theorem di_bSorted {K : PySem.W.Frag} (C : BkK K) (L : LamK X c P0) (hr : Room 0 X.A) (i : Nat) (hm : X.mg "sorted" = none) (hdef : defaultsOf params X.env = ([], []))
    (hbind : ∀ (q : Str) (cl : List (Str × Addr)) (pm cv ctv u : Value), bindArgs (PySem.W.kla_fn "<lambda>" q params (.Subscript (.Name y a1) (.Constant (.int 0) kk a2) a3) scope cl pm cv ctv) ⟨[u], []⟩ = pure [(y, u)])
    (hk : scope.kind = .function) (hco : scope.isCoroutine = false) (hgen : scope.isGenerator = false) (hcell : ∀ z ∈ scope.names, z.2 ≠ .cell) (hfree : ∀ z ∈ scope.names, z.2 ≠ .free) (hx : scope.names.lookup y = some .local) (hdb : (y == ("__debug__" : Str)) = false := by decide)
    (hg : Gl X "sorted" := by rfl) (hNi : X.N[i]? = some x := by rfl) (hv : Vis X.env.scope x := by first | exact Or.inl rfl | exact Or.inr (Or.inl rfl) | exact Or.inr (Or.inr rfl)) (hd : (x == ("__debug__" : Str)) = false := by decide)
    (hcd : (x == ("__classdict__" : Str)) = false := by decide) (hb : attributeBase (.Name x p1) "open_debts" X.env (eval (.Name x p1) X.env) = eval (.Name x p1) X.env := by rfl)
    (hbase : attributeBase (.Attribute (.Name x p1) "open_debts" p2) "items" X.env (eval (.Attribute (.Name x p1) "open_debts" p2) X.env) = eval (.Attribute (.Name x p1) "open_debts" p2) X.env := by rfl) (hline : (apos.endLine == cpos.line) = true := by rfl) (hc : X.calm = true := by rfl)
    (hs : starEach [.Call (.Attribute (.Attribute (.Name x p1) "open_debts" p2) "items" apos) [] [] cpos] X.env = (false, eval (.Call (.Attribute (.Attribute (.Name x p1) "open_debts" p2) "items" apos) [] [] cpos) X.env) :: starEach [] X.env := by rfl) (hK : X.K = K := by rfl) :
    PI X tg (.Call (.Name "sorted" p) [.Call (.Attribute (.Attribute (.Name x p1) "open_debts" p2) "items" apos) [] [] cpos] [⟨some "key", .Lambda params (.Subscript (.Name y a1) (.Constant (.int 0) kk a2) a3) scope lpos, kpos⟩] pos) (lI (dBSorted K i)) := by
  subst hK
  refine ⟨fun pins s σ H R I h => ?_⟩
  obtain ⟨fr, g, hS, ρ, P, W, h, k⟩ := h
  obtain ⟨a, B, e0, hz, h⟩ := h
  obtain ⟨dx, vf, sv, b, go⟩ := W.bkD C e0
  have hD : H B.dD = some (.dK (dbK B.debts)) := W.sh i _ _ b.dic
  refine wpAny_Call_Name_kw (ld_blt I hg hm boot_sorted ?_)
  refine PyProof.Rows.callWith_kw ?_ (by rw [hs]; rfl) (by rw [hs]; rfl) rfl rfl
  rw [hs]
  show wpAny _ _ (spliced ((false, eval (.Call (.Attribute (.Attribute (.Name x p1) "open_debts" p2) "items" apos) [] [] cpos) X.env) :: backTo pos (starEach [] X.env))) _ _ s
  refine Calls.spliced_cons ?_
  refine wpAny_Call_method (T := "dict") (id := "dict.items") hbase rfl hline F.plainAttrs_dict F.slot_dict_items F.type_dict_items (thn ((pe_fld (pos := p2) (f := "open_debts") (pe_var (pos := p1) (i := i) hNi hv hd hcd) hb).run pins s σ H (fun v H1 => v = .ref B.dD ∧ H1 = H) I (go _ ⟨rfl, rfl⟩)) fun u s1 ⟨z, H1, I1, rx, ex, eH⟩ => ?_)
  subst ex eH
  obtain rfl : u = Value.ref B.dD := rx
  obtain ⟨hz1, hs0, vs, kv, hdo⟩ := I1.hok B.dD _ hD
  have lk : (dbK B.debts).length = vs.length := Paired.length kv
  have I2 := ClX.pin_new (t' := s1.toks) (o := { cls := .type "dict_items", data := .fields #[.ref B.dD] }) (h' := s1.heap.push { cls := .type "dict_items", data := .fields #[.ref B.dD] }) I1 (fun b ob q => Heap.get?_push_of_some _ q) (Nat.le_refl _) (Heap.get?_push_size _ rfl) (fun v q => by cases q)
  refine ⟨hdo.typeIs, hdo.mapOf.noDict, ?_⟩
  show wpAny _ _ (callWith cpos (.builtin "dict.items") [.ref B.dD] [] []) _ X.xe s1
  refine method_meetsIn F.slot_dict_items F.entry_dict_items rfl (PySem.evalArgs_none ⟨rfl, hdo.typeIs, F.args_dict_items_1 _, _, meets_dict_items (mixKind X.prog X.w) B.dD hs0, ⟨vs, hdo⟩, ?_⟩)
  refine Calls.spliced_nil ?_
  show wpAny _ _ (evalAll ((do let v ← eval (.Lambda params (.Subscript (.Name y a1) (.Constant (.int 0) kk a2) a3) scope lpos) X.env; standAt pos; pure v) :: [])) _ _ _
  refine wpAny_evalAll_cons (wpAny_bind (LamX.lam_make2 I2 L.tb L.code L.mem L.uniq W.tb hdef (fun z hz e => absurd e (hfree z hz)) fun f c' pm ctv H2 s2 I3 eN T2 hf hfn hfr hco2 => wpAny_bind (wpAny_standAt (wpAny_pure ?_))))
  refine wpAny_pure ?_
  have pv := I3.pin _ (List.mem_append_right _ List.mem_cons_self)
  have I4 : Inv X pins σ H2 s2 := I3.pins_of fun r hr => I3.pin r (List.mem_append_right _ (List.mem_cons_of_mem _ hr))
  have W2 : Own fr g hS ρ σ H2 := W.extN eN T2
  have hD2 : H2 B.dD = some (.dK (dbK B.debts)) := W2.sh i _ _ b.dic
  obtain ⟨hz2, hs2, vs2, kv2, hdo2⟩ := I4.hok B.dD _ hD2
  obtain ⟨ep, hat⟩ := hdo2.dictAt
  have lk2 : (dbK B.debts).length = vs2.length := Paired.length kv2
  have lenK : (dbK B.debts).length = B.debts.length := by unfold dbK; rw [List.length_map]
  obtain ⟨⟨oc, cvs, ct, hoc, hdc, hvc⟩, _, _⟩ := I4.hok c' _ hco2
  refine sorted_view (knd := mixKind X.prog X.w) (kvs := vs2) (ep := ep) (B.debts.map (·.1)) (I4.ok.hd hc) ⟨_, pv.1, rfl, rfl⟩ hat (by omega) (by rw [List.length_map]; omega) b.up (by have := hr.un; omega) (fun h tk t n key v kp ht hj => ?_) fun h1 h' tk c1 as k1 k2 la G1 hp => ?_
  · obtain ⟨j, hn, q, hq, hqk⟩ := hj
    rw [List.getElem?_map] at hn
    obtain ⟨pd, hpd, epd⟩ := Option.map_eq_some_iff.mp hn
    obtain ⟨pd2, hpd2, eq2⟩ := kv_ints kv2 hq
    rw [hpd] at hpd2
    cases hpd2
    have rk : RelV (.int n) key := by
      have z := relV_key (show keyIs q key = true from hqk)
      rw [eq2, epd] at z
      exact z
    exact key_turn (s := { s2 with heap := h, toks := tk }) (by have := hr.dp; show X.A.depth < recursionLimit; omega) (I4.nolimit.keeps kp) (kp _ _ hf) ⟨c', oc, cvs, ct, rfl, kp _ _ hoc, hdc, hvc⟩ (fun u => hbind _ _ _ _ _ u) hk hco hgen hcell hx hdb ht rk
  · obtain ⟨H3, e1, e2, e3, e4, I5⟩ := tups_laid (tk := tk) I4 kv2 k1 la G1
    have nT : ∀ t ∈ as, t ≠ h1.objs.size := fun t ht => by
      obtain ⟨j, hj⟩ := List.mem_iff_getElem?.mp ht
      obtain ⟨_, _, _, _, _, ez⟩ := G1.pairs j t hj
      exact Nat.ne_of_lt (Heap.lt_size ez)
    have H3n : H3 h1.objs.size = none := I5.hok.fresh (Nat.le_refl _)
    have lz : as.length ≤ sizeLine := by omega
    have I6 : Inv X pins σ (upd H3 h1.objs.size (.lst (as.map V.ref))) { s2 with heap := h', toks := tk } := I5.laid (t' := tk) (a := h1.objs.size) (o := .lst (as.map V.ref)) (h' := h') k2 (Nat.le_refl _) ⟨by rw [List.length_map]; exact lz, as.map Value.ref, c1, LiI.vals_refs as, hp⟩
    classical
    let ht : Hp := fun q => if q = h1.objs.size then some (.lst (as.map V.ref)) else if q ∈ as then H3 q else none
    have htp : ht h1.objs.size = some (.lst (as.map V.ref)) := if_pos rfl
    have hta : ∀ t ∈ as, ht t = H3 t := fun t ht' => by
      show (if t = h1.objs.size then some (HO.lst (as.map V.ref)) else if t ∈ as then H3 t else none) = H3 t
      rw [if_neg (nT t ht'), if_pos ht']
    have hts : ∀ {q o}, ht q = some o → (q = h1.objs.size ∧ o = .lst (as.map V.ref)) ∨ (q ∈ as ∧ H3 q = some o) := fun {q o} e => by
      have e : (if q = h1.objs.size then some (HO.lst (as.map V.ref)) else if q ∈ as then H3 q else none) = some o := e
      by_cases z : q = h1.objs.size
      · rw [if_pos z] at e
        cases e
        exact .inl ⟨z, rfl⟩
      · rw [if_neg z] at e
        by_cases z2 : q ∈ as
        · rw [if_pos z2] at e
          exact .inr ⟨z2, e⟩
        · rw [if_neg z2] at e
          cases e
    have s6 : Same H2 (upd H3 h1.objs.size (.lst (as.map V.ref))) := fun q o e => Same.new H3n q o (e1 q o e)
    obtain ⟨sg, W6⟩ := frz_more (ht := ht) W2 s6 (fun q o e => by
        rcases hts e with ⟨z1, z2⟩ | ⟨z1, z2⟩
        · rw [z1, z2, upd_same]
        · rw [upd_ne (nT q z1)]
          exact z2) (fun q o e => by
        rcases hts e with ⟨z1, z2⟩ | ⟨z1, z2⟩
        · rw [z1]
          cases z : H2 h1.objs.size with
          | none => rfl
          | some o2 =>
            rw [e1 _ _ z] at H3n
            cases H3n
        · exact e2 q z1) (fun q o e => by
        rcases hts e with ⟨z1, z2⟩ | ⟨z1, z2⟩
        · rw [z2]
          rfl
        · obtain ⟨j, hj⟩ := List.mem_iff_getElem?.mp z1
          obtain ⟨pd, _, ez⟩ := paired_pairs e4 hj
          rw [z2] at ez
          cases ez
          rfl)
    obtain ⟨its, rv, pl, _⟩ := I6.list (SqL.of (a := h1.objs.size) (xs := as.map V.ref) upd_same)
    refine wpAny_pyIter_list pl.isList ?_
    refine ⟨h'.objs.size, [h'.objs.size], _, _, _, rfl, I6.kept (t' := tk) fun b o e => Heap.get?_push_of_some _ e, turn_list h1.objs.size _, ⟨_, Heap.get?_push_size _ rfl, rfl, rfl⟩, fun b hb => ?_, k _ ρ _ hS _ (Itl X.K h1.objs.size) h sg W6 ?_⟩
    · have e : b = h'.objs.size := by simpa using hb
      subst e
      exact I6.fpOk (Nat.le_refl _) (I6.hok.fresh (Nat.le_refl _))
    · have la2 : (B.debts.map fun p => ((.int p.1, p.2.spot) : PyData × Addr)).length = (as.map V.ref).length := by
        rw [List.length_map, List.length_map]
        omega
      rw [la2]
      have gp : ∀ q o, ht q = some o → uni g ht q = some o := uni_r fun q o e => by
        rcases hts e with ⟨z1, _⟩ | ⟨z1, _⟩
        · rw [z1]
          refine none_of W2.sg ?_
          cases z : H2 h1.objs.size with
          | none => rfl
          | some o2 =>
            rw [e1 _ _ z] at H3n
            cases H3n
        · exact none_of W2.sg (e2 q z1)
      refine (walk_list (K := X.K) (a := h1.objs.size) (xs := as.map V.ref)).mono (fun H hs => SqL.of (hs _ _ (gp _ _ htp))) fun j H x H2 _ _ yy => ?_
      obtain ⟨e, yy⟩ := yy
      rw [List.getElem?_map] at yy
      obtain ⟨t, ht1, ex⟩ := Option.map_eq_some_iff.mp yy
      obtain ⟨pd, hpd, ep⟩ := paired_pairs e4 ht1
      exact ⟨(.int pd.1, pd.2.spot), by rw [List.getElem?_map, hpd]; rfl, .inl ⟨e, t, .int pd.1, ex.symm, gp _ _ (by rw [hta t (List.mem_of_getElem? ht1)]; exact ep), rfl⟩⟩
end
end Fb
namespace Fb
open PySem L2
set_option autoImplicit false
variable [Tb]

/-! ### one slot more, one less -/
def shiftH (h : Hp) (hs : Prts) : Prts
  | 0 => h
  | i + 1 => hs i
theorem Own.cons {fr g : Hp} {hs : Prts} {ρ : Ev} {σ : St} {H h : Hp} {sv : SV} {v : V} (W : Own fr g hs ρ σ H) (A : Apart fr g hs h H) (r : Rep g sv v h) : Own fr g (shiftH h hs) (some sv :: ρ) (some v :: σ) H := by
  have n0 : ∀ {k : Hp} {b : Addr} {o : HO}, k b = some o → (∀ c u, h c = some u → k c = none) → h b = none := fun {k b o} e n => by
    cases q : h b with
    | none => rfl
    | some u =>
      rw [n b u q] at e
      cases e
  refine ⟨by rw [List.length_cons, List.length_cons, W.len], W.sf, fun a o e => ⟨(W.df a o e).1, fun i => ?_⟩, W.sg, fun i => ?_, fun i a o e => ?_, fun i j a o ij e => ?_, fun i tv e => ?_, W.tb, W.nf, W.ng, fun i a o e => ?_⟩
  · match i with
    | 0 => exact n0 e fun c u z => (A.n c u z).1
    | i + 1 => exact (W.df a o e).2 i
  · match i with
    | 0 => exact A.s
    | i + 1 => exact W.sh i
  · match i, e with
    | 0, e => exact (A.n a o e).2.1
    | i + 1, e => exact W.dg i a o e
  · match i, j, ij, e with
    | 0, 0, ij, _ => exact absurd rfl ij
    | 0, j + 1, _, e => exact (A.n a o e).2.2 j
    | i + 1, 0, _, e => exact n0 (k := hs i) e fun c u z => (A.n c u z).2.2 i
    | i + 1, j + 1, ij, e => exact W.dh i j a o (fun z => ij (by rw [z])) e
  · match i, e with
    | 0, e =>
      simp at e
      subst e
      exact ⟨v, rfl, r⟩
    | i + 1, e =>
      rw [List.getElem?_cons_succ] at e
      obtain ⟨u, h1, h2⟩ := W.rep i tv e
      exact ⟨u, by rw [List.getElem?_cons_succ]; exact h1, h2⟩
  · match i, e with
    | 0, e => exact A.d a o e
    | i + 1, e => exact W.nh i a o e
theorem Own.uncons {fr g : Hp} {hs : Prts} {ρ : Ev} {σ : St} {H : Hp} {sv : SV} {v : V} (W : Own fr g hs (some sv :: ρ) (some v :: σ) H) : Own fr g (fun i => hs (i + 1)) ρ σ H ∧ Apart fr g (fun i => hs (i + 1)) (hs 0) H ∧ Rep g sv v (hs 0) := by
  have no : ∀ {k : Hp} {a : Addr} {o : HO}, hs 0 a = some o → (∀ u, k a = some u → hs 0 a = none) → k a = none := fun {k a o} e n => by
    cases q : k a with
    | none => rfl
    | some u =>
      rw [n u q] at e
      cases e
  refine ⟨⟨by simpa using W.len, W.sf, fun a o e => ⟨(W.df a o e).1, fun i => (W.df a o e).2 (i + 1)⟩, W.sg, fun i => W.sh (i + 1), fun i => W.dg (i + 1), fun i j a o ij e => W.dh (i + 1) (j + 1) a o (fun z => ij (Nat.succ.inj z)) e, fun i tv e => ?_, W.tb, W.nf, W.ng, fun i => W.nh (i + 1)⟩,
    ⟨W.sh 0, fun a o e => ⟨no e fun u z => (W.df a u z).2 0, W.dg 0 a o e, fun i => W.dh 0 (i + 1) a o (by omega) e⟩, W.nh 0⟩, ?_⟩
  · obtain ⟨u, h1, h2⟩ := W.rep (i + 1) tv (by rw [List.getElem?_cons_succ]; exact e)
    exact ⟨u, by rw [List.getElem?_cons_succ] at h1; exact h1, h2⟩
  · obtain ⟨u, h1, h2⟩ := W.rep 0 sv rfl
    simp at h1
    rw [h1]
    exact h2

/-! ### a book is made -/
/-- an instance just made -/
def newO (C a : Addr) : Ow := ⟨.new C, fun _ h => ∃ dx, h a = some (.ins C dx []), fun _ _ _ _ h => h⟩
def newV (C a : Addr) : SV := .obj a (newO C a)
@[simp] theorem newV_inj {C a b : Addr} : (newV C a = newV C b) ↔ (a = b) := ⟨fun h => (SV.obj.inj h).1, fun h => by rw [h]⟩
@[simp] theorem ends_new {K : PySem.W.Frag} {C a b : Addr} {B : Bk} {as : List SV} {ρ : Ev} {k : List SV → Prop} : ends (newV C a :: as) (some (bk K b B) :: ρ) k = (a = b ∧ ends as ρ fun r => k (bk K b B :: r)) := rfl
def bk0 (fs : List Str) (l h : Int) (D S : Addr) : Bk := ⟨fs, l, h, [], 0, 0, [], D, S⟩
def dBkInit (K : PySem.W.Frag) (T : Edn) (ρ : Ev) : Prop := ∃ x fs l h, slot ρ 0 = some (newV (cBook K) x) ∧ slot ρ 1 = some (.dat (.tuple (fs.map .str))) ∧ slot ρ 2 = some (.dat (.int l)) ∧ slot ρ 3 = some (.dat (.int h)) ∧ ∀ D S, T.nx (ρ.set 0 (some (bk K x (bk0 fs l h D S))))
abbrev tBkInit (K : PySem.W.Frag) (td tl : TE) : TS := tSeq (sFld K (tVar 0) (tVar 1) "folk") (tSeq (sFld K (tVar 0) (tVar 2) "life") (tSeq (sFld K (tVar 0) (tVar 3) "hops") (tSeq (sFld K (tVar 0) td "open_debts") (tSeq (sFld K (tVar 0) (tC (.int 0)) "fresh")
  (tSeq (sFld K (tVar 0) (tC (.int 0)) "tick_now") (sFld K (tVar 0) tl "story"))))))

section
variable {X : Cx} {E : XK}
theorem upd2_same {H : Hp} {a : Addr} {o o2 : HO} : upd (upd H a o) a o2 = upd H a o2 := by
  funext b
  by_cases q : b = a
  · rw [q, upd_same, upd_same]
  · rw [upd_ne q, upd_ne q, upd_ne q]
theorem dss_bkInit {K : PySem.W.Frag} (C : BkK K) {ss : List Stmt} (h : PSs X ss (tBkInit X.K tDNewK (tLst tNil))) (hK : X.K = K := by rfl) : PSs X ss (lS K E (dBkInit K)) := by
  subst hK
  exact pss_imp h fun Dn σ H h => by
    obtain ⟨fr, g, hs, ρ, T, W, h, m⟩ := h
    obtain ⟨x, fs, l, ho, e0, e1, e2, e3, h⟩ := h
    obtain ⟨v0, h0, ev0, dx, hx⟩ := W.at e0
    obtain ⟨v1, h1, d1⟩ := W.dat e1
    obtain ⟨v2, h2, d2⟩ := W.dat e2
    obtain ⟨v3, h3, d3⟩ := W.dat e3
    have d2 : v2 = .int l := d2
    have d3 : v3 = .int ho := d3
    subst ev0 d2 d3
    have nA : ∀ f ∈ (["folk", "life", "hops", "open_debts", "fresh", "tick_now", "story"] : List Str), NoAttr X.K (cBook X.K) f := C.nB
    refine ⟨_, h1, _, h0, x, cBook X.K, dx, [], rfl, W.sh 0 _ _ hx, C.book, nA _ (by decide), by decide, ?_⟩
    refine ⟨_, h2, _, h0, x, cBook X.K, dx, _, rfl, upd_same, C.book, nA _ (by decide), Nat.lt_of_lt_of_le (putF_lt nil_lt) (by decide), ?_⟩
    refine ⟨_, h3, _, h0, x, cBook X.K, dx, _, rfl, upd_same, C.book, nA _ (by decide), Nat.lt_of_lt_of_le (putF_lt (putF_lt nil_lt)) (by decide), ?_⟩
    refine fun D hD => ?_
    rw [upd2_same, upd2_same] at hD
    have xD : x ≠ D := fun z => by
      rw [← z, upd_same] at hD
      cases hD
    have HD : H D = none := by
      rw [upd_ne (Ne.symm xD)] at hD
      exact hD
    refine ⟨_, h0, x, cBook X.K, dx, _, rfl, by rw [upd_ne xD, upd_same], C.book, nA _ (by decide), Nat.lt_of_lt_of_le (putF_lt (putF_lt (putF_lt nil_lt))) (by decide), ?_⟩
    refine ⟨_, h0, x, cBook X.K, dx, _, rfl, upd_same, C.book, nA _ (by decide), Nat.lt_of_lt_of_le (putF_lt (putF_lt (putF_lt (putF_lt nil_lt)))) (by decide), ?_⟩
    refine ⟨_, h0, x, cBook X.K, dx, _, rfl, upd_same, C.book, nA _ (by decide), Nat.lt_of_lt_of_le (putF_lt (putF_lt (putF_lt (putF_lt (putF_lt nil_lt))))) (by decide), ?_⟩
    refine ⟨by decide, fun S hS => ?_⟩
    have xS : x ≠ S := fun z => by
      rw [← z, upd_same] at hS
      cases hS
    have DS : D ≠ S := fun z => by
      rw [← z, upd_ne (Ne.symm xD), upd_ne (Ne.symm xD), upd_ne (Ne.symm xD), upd_same] at hS
      cases hS
    have HS : H S = none := by
      rw [upd_ne (Ne.symm xS), upd_ne (Ne.symm xS), upd_ne (Ne.symm xS), upd_ne (Ne.symm DS), upd_ne (Ne.symm xS), upd_ne (Ne.symm xS), upd_ne (Ne.symm xS)] at hS
      exact hS
    refine ⟨_, h0, x, cBook X.K, dx, _, rfl, by rw [upd_ne xS, upd_same], C.book, nA _ (by decide), Nat.lt_of_lt_of_le (putF_lt (putF_lt (putF_lt (putF_lt (putF_lt (putF_lt nil_lt)))))) (by decide), ?_⟩
    let hp : Hp := upd (upd (upd (hs 0) x (.ins (cBook X.K) dx (bkF v1 (bk0 fs l ho D S)))) D (.dK [])) S (.lst [])
    have nx : x ≠ D ∧ x ≠ S ∧ D ≠ S := ⟨xD, xS, DS⟩
    have b : BkP X.K x (bk0 fs l ho D S) g hp dx v1 [] := ⟨by
        show upd (upd (upd (hs 0) x _) D _) S _ x = _
        rw [upd_ne xS, upd_ne xD, upd_same], d1, by
        show upd (upd (upd (hs 0) x _) D _) S _ D = _
        rw [upd_ne DS, upd_same]
        rfl, (fun p hp => by cases hp), upd_same, rfl, List.nodup_nil, List.Pairwise.nil⟩
    have fin : ∀ {H' : Hp}, H' x = some (.ins (cBook X.K) dx (bkF v1 (bk0 fs l ho D S))) → H' D = some (.dK []) → H' S = some (.lst []) → (∀ y, y ≠ x → y ≠ D → y ≠ S → H' y = H y) → Dn.nx σ H' := fun {H'} f1 f2 f3 f4 => by
      refine m.nx _ _ g _ H' (h D S) (Same.refl g) (W.chg (h' := hp) (fun q u e => ?_) (fun q u e n => ?_) (fun q u e => ?_) h0 ⟨_, rfl, rfl, dx, v1, [], b⟩ (fun q u e => ?_))
      · have e : upd (upd (upd (hs 0) x _) D _) S _ q = some u := e
        by_cases z1 : q = S
        · rw [z1, upd_same] at e
          rw [z1, f3, e]
        · rw [upd_ne z1] at e
          by_cases z2 : q = D
          · rw [z2, upd_same] at e
            rw [z2, f2, e]
          · rw [upd_ne z2] at e
            by_cases z3 : q = x
            · rw [z3, upd_same] at e
              rw [z3, f1, e]
            · rw [upd_ne z3] at e
              rw [f4 q z3 z2 z1]
              exact W.sh 0 _ _ e
      · have z3 : q ≠ x := fun z => by
          rw [z, hx] at n
          cases n
        rw [f4 q z3 (ne_of_none e HD) (ne_of_none e HS)]
        exact e
      · have e : upd (upd (upd (hs 0) x _) D _) S _ q = some u := e
        by_cases z1 : q = S
        · rw [z1]
          exact .inr HS
        · rw [upd_ne z1] at e
          by_cases z2 : q = D
          · rw [z2]
            exact .inr HD
          · rw [upd_ne z2] at e
            by_cases z3 : q = x
            · rw [z3]
              exact .inl ⟨_, hx⟩
            · rw [upd_ne z3] at e
              exact .inl ⟨u, e⟩
      · have e : upd (upd (upd (hs 0) x _) D _) S _ q = some u := e
        by_cases z1 : q = S
        · rw [z1, upd_same] at e
          cases e
          rfl
        · rw [upd_ne z1] at e
          by_cases z2 : q = D
          · rw [z2, upd_same] at e
            cases e
            rfl
          · rw [upd_ne z2] at e
            by_cases z3 : q = x
            · rw [z3, upd_same] at e
              cases e
              rfl
            · rw [upd_ne z3] at e
              exact W.nh 0 q u e
    refine fin ?_ ?_ ?_ fun y y1 y2 y3 => ?_
    · rw [upd_same]
      rfl
    · rw [upd_ne (Ne.symm xD), upd_ne DS, upd_ne (Ne.symm xD), upd_ne (Ne.symm xD), upd_ne (Ne.symm xD), upd_same]
    · rw [upd_ne (Ne.symm xS), upd_same]
    · rw [upd_ne y1, upd_ne y3, upd_ne y1, upd_ne y1, upd_ne y1, upd_ne y2, upd_ne y1, upd_ne y1, upd_ne y1]
end

def bookI (K : PySem.W.Frag) (ok : List Str → Int → Int → Prop) : FX := fun as Pq _ => ∃ x fs l h, as = [newV (cBook K) x, .dat (.tuple (fs.map .str)), .dat (.int l), .dat (.int h)] ∧ ok fs l h ∧ ∀ D S, Pq (.dat .none) [bk K x (bk0 fs l h D S), .dat (.tuple (fs.map .str)), .dat (.int l), .dat (.int h)]
def dBook (K : PySem.W.Frag) (ok : List Str → Int → Int → Prop) (we w1 w2 : ET) (ρ : Ev) (P : SV → Ev → Prop) : Prop := we ρ fun d ρ1 => w1 ρ1 fun d1 ρ2 => w2 ρ2 fun d2 ρ3 => ∃ fs l h, d = .tuple (fs.map .str) ∧ d1 = .int l ∧ d2 = .int h ∧ ok fs l h ∧ ∀ x D S, P (bk K x (bk0 fs l h D S)) ρ3
section
variable {X : Cx} {p q1 q2 pos : Pos} {e e1 e2 : Expr} {we w1 w2 : ET} {ok : List Str → Int → Int → Prop} {f : Addr} {fd : FuncData} {kk : Nat}
theorem do_book {K : PySem.W.Frag} (M : Mk K (cBook K) f) (F : FnOk X.prog X.w K X.mg X.base (L2.CX X.prog X.w) kk f fd ["self", "folk", "life", "hops"] (spX K 4 (bookI K ok))) (hb : KBn K fd ["self", "folk", "life", "hops"] 2 ["life", "hops"] (fun us ws => us ++ ws) (fun vs zs => vs ++ zs)) (hr : Room (kk + 1) X.A) (hm : X.mg "Book" = some (.ref (cBook K)))
    (he : PE X e (lE we)) (h1 : PE X e1 (lE w1)) (h2 : PE X e2 (lE w2)) (hg : Gl X "Book" := by rfl)
    (hs : starEach [e] X.env = (false, eval e X.env) :: starEach [] X.env := by rfl)
    (hall : (backToKw pos (keywordEach [⟨some "life", e1, q1⟩, ⟨some "hops", e2, q2⟩] X.env)).all (·.1.isSome) = true := by rfl) (hks : (backToKw pos (keywordEach [⟨some "life", e1, q1⟩, ⟨some "hops", e2, q2⟩] X.env)).filterMap (·.1) = (["life", "hops"] : List Str) := by rfl)
    (hpl : ((backTo pos (starEach [e] X.env)).any (·.1) || (backToKw pos (keywordEach [⟨some "life", e1, q1⟩, ⟨some "hops", e2, q2⟩] X.env)).any (·.1.isNone)) = false := by rfl) (hK : X.K = K := by rfl) :
    PE X (.Call (.Name "Book" p) [e] [⟨some "life", e1, q1⟩, ⟨some "hops", e2, q2⟩] pos) (lO (dBook K ok we w1 w2)) := by
  subst hK
  exact pe_imp (pe_makeK (n := 1) (ks := (["life", "hops"] : List Str)) (E := E0) M F hr hg hm hb passL (pa_cons he pa_nil hs) (pk_cons h1 (pk_cons h2 pk_nil)) hall hks (by decide) hs hpl) fun σ H Q h => by
      obtain ⟨fr, g, hs, ρ, P, W, h, k⟩ := h
      refine ⟨fr, g, hs, ρ, _, W, h, fun d ρ1 v g1 hs1 H1 h1 s1 W1 d1 => ⟨fr, g1, hs1, ρ1, _, W1, h1, fun dl ρ2 v1 g2 hs2 H2 h2 s2 W2 d2 => ⟨fr, g2, hs2, ρ2, _, W2, h2, fun dh ρ3 v2 g3 hs3 H3 h3 s3 W3 d3 => ⟨rfl, rfl, fun x dx nx ndx ne => ?_⟩⟩⟩⟩
      obtain ⟨fs, l, ho, ed, el, eh, hok, h3⟩ := h3
      subst ed el eh
      have sm : Same H3 (upd (upd H3 dx (.own x)) x (.ins (cBook X.K) dx [])) := fun a o e => by
        rw [upd_ne (ne_of_none e nx), upd_ne (ne_of_none e ndx)]
        exact e
      have A4 : ArgsAre g3 σ (([.tuple (fs.map .str), .int l, .int ho] : List PyData).map .inr) [v, v1, v2] := DPs.args ⟨v, _, rfl, d1.mono (s2.trans s3), v1, _, rfl, d2.mono s3, v2, _, rfl, d3, rfl⟩
      obtain ⟨frc, hsc, Wc, bkc⟩ := W3.pass (as := ([.tuple (fs.map .str), .int l, .int ho] : List PyData).map .dat) (ndB_data _) A4 rfl fun j sv e => by
        rw [List.getElem?_map] at e
        obtain ⟨z, z1, z2⟩ := Option.map_eq_some_iff.mp e
        exact ⟨.inr z, by rw [List.getElem?_map, z1]; rfl, .inr ⟨z, rfl, z2.symm⟩⟩
      have hxx : (upd (upd H3 dx (.own x)) x (.ins (cBook X.K) dx [])) x = some (.ins (cBook X.K) dx []) := upd_same
      have An : Apart frc g3 hsc (one x (.ins (cBook X.K) dx [])) (upd (upd H3 dx (.own x)) x (.ins (cBook X.K) dx [])) := ⟨fun a o e => by
          obtain ⟨rfl, rfl⟩ := one_eq e
          exact hxx, fun a o e => by
          obtain ⟨rfl, rfl⟩ := one_eq e
          exact ⟨none_of Wc.sf nx, none_of Wc.sg nx, fun i => none_of (Wc.sh i) nx⟩, fun a o e => by
          obtain ⟨rfl, rfl⟩ := one_eq e
          rfl⟩
      have W5 := (Wc.grow sm).cons An (sv := newV (cBook X.K) x) (v := .ref x) ⟨rfl, dx, one_same⟩
      refine ⟨frc, g3, _, [newV (cBook X.K) x, .dat (.tuple (fs.map .str)), .dat (.int l), .dat (.int ho)], fun r as' => r = .dat .none ∧ ∃ D S, as' = [bk X.K x (bk0 fs l ho D S), .dat (.tuple (fs.map .str)), .dat (.int l), .dat (.int ho)], fun _ _ => False, rfl, W5, ⟨x, fs, l, ho, rfl, hok, fun D S => ⟨rfl, D, S, rfl⟩⟩, fun r as' v' g' hs' ht H' hq s' W' r' A' => ?_, fun _ _ _ _ _ _ _ z => z.elim⟩
      obtain ⟨er, D, S, ea⟩ := hq
      subst er ea
      have r' : v' = .non := r'
      obtain ⟨W6, A6, R6⟩ := W'.uncons
      obtain ⟨hs7, W7, A7⟩ := bkc g' _ (([.tuple (fs.map .str), .int l, .int ho] : List PyData).map .dat) (hs' 0) H' s' W6 A6
      rw [back_data] at W7
      exact ⟨r', k _ ρ3 (.ref x) g' hs7 (hs' 0) H' (h3 x D S) (((s1.trans s2).trans s3).trans s') W7 R6 A7⟩
end
end Fb
namespace Fb
open PySem L2
set_option autoImplicit false
variable [Tb]

/-! ### the box of a script: its numbers, what they stir -/
def stir (acc c : Int) : Int := (acc * 48271 + c * 69621 + 11) % 2147483647
def smallBits (ns : List Int) : Prop := ∀ z ∈ ns, Builtin.Int.intBits z ≤ 1048576
structure BoxP (a : Addr) (h : Hp) (S : Addr) (ns : List Int) (s : Int) : Prop where
  out : h a = some (.lst [.ref S, .int s])
  inn : h S = some (.lst (ns.map V.int))
  lo : 0 ≤ s
  hi : s < 2147483647
  bits : smallBits ns
  len : ns.length ≤ 63
def boxO (a : Addr) : Ow := ⟨.box, fun _ h => ∃ S ns s, BoxP a h S ns s, fun _ _ _ _ h => h⟩
def box (a : Addr) : SV := .obj a (boxO a)
@[simp] theorem ends_box {a b : Addr} {as : List SV} {ρ : Ev} {k : List SV → Prop} : ends (box a :: as) (some (box b) :: ρ) k = (a = b ∧ ends as ρ fun r => k (box b :: r)) := rfl
@[simp] theorem box_inj {a b : Addr} : (box a = box b) ↔ (a = b) := ⟨fun h => (SV.obj.inj h).1, fun h => by rw [h]⟩
theorem Own.atBox {fr g : Hp} {hs : Prts} {ρ : Ev} {σ : St} {H : Hp} {i : Nat} {a : Addr} (W : Own fr g hs ρ σ H) (h : slot ρ i = some (box a)) : σ[i]? = some (some (.ref a)) ∧ ∃ S ns s, BoxP a (hs i) S ns s := by
  obtain ⟨v, h1, ev, b⟩ := W.at h
  exact ⟨by rw [h1, ev], b⟩
theorem bits_small {i : Int} {n : Nat} (h : i.natAbs < 2 ^ n) : Builtin.Int.intBits i ≤ n := PyProof.Rows.intBits_le h
theorem mul_okL {i : Int} {n : Nat} {j : Int} {m : Nat} (h : Builtin.Int.intBits i ≤ n) (h2 : Builtin.Int.intBits j ≤ m) (l : n + m ≤ 134217728) : CMulX i j := by
  unfold CMulX
  omega
theorem bits_seed {s : Int} (h : 0 ≤ s) (h2 : s < 2147483647) : Builtin.Int.intBits s ≤ 31 := bits_small (by omega)
/-- a figure by a small number: no more bits -/
theorem bits_div {f m : Int} {n : Nat} (h : Builtin.Int.intBits f ≤ n) (hm : 0 < m) : Builtin.Int.intBits (f / m) ≤ n := by
  unfold Builtin.Int.intBits at *
  by_cases z : f / m = 0
  · simp [z]
  · have z1 : ¬ ((f / m) == 0) = true := by simpa using z
    rw [if_neg z1]
    have f0 : f ≠ 0 := fun e => z (by rw [e]; simp)
    have z2 : ¬ (f == 0) = true := by simpa using f0
    rw [if_neg z2] at h
    have le : (f / m).natAbs ≤ f.natAbs := by
      rcases Int.lt_or_le f 0 with q | q
      · have h1 : f ≤ f / m := by
          have := Int.ediv_mul_le f (Int.ne_of_gt hm)
          have h2 : (f / m) ≤ 0 := by
            have := Int.ediv_neg_of_neg_of_pos q hm
            omega
          have h3 : f < (f / m + 1) * m := Int.lt_ediv_add_one_mul_self f hm
          have h4 : (f / m + 1) * m ≤ (f / m + 1) * 1 := Int.mul_le_mul_of_nonpos_left (by omega) (by have := Int.ediv_neg_of_neg_of_pos q hm; omega)
          omega
        have h2 : f / m < 0 := Int.ediv_neg_of_neg_of_pos q hm
        omega
      · have h1 : f / m ≤ f := Int.ediv_le_self m q
        have h2 : 0 ≤ f / m := Int.ediv_nonneg q (Int.le_of_lt hm)
        omega
    have hf : f.natAbs < 2 ^ (f.natAbs.log2 + 1) := Nat.lt_log2_self
    have a0 : (f / m).natAbs ≠ 0 := by omega
    have := (Nat.log2_lt a0).mpr (Nat.lt_of_le_of_lt le hf)
    omega
/-- a def read by hand -/
theorem fn_raw {P : Program} {w : World} {K : PySem.W.Frag} {mg : Str → Option Value} {base : Heap} {x qual : Str} {st : Stmt} {f : Addr} {fd : FuncData} {N ps : List Str} {k : Nat} {kws : List (Str × V)} {sp : Sp} (F : FunS K x qual st kws f fd) (sc : FnScope N ps (defScope st)) {t : TS} (len : ∀ vs H Q E, sp vs H Q E → vs.length = ps.length)
    (hb : ∀ (cdv : Value) (A : Around) (outer : List PySem.Env) (s : Shared) (H : Hp) (E : XK), fd.code = cdv → Room k (A.deeper (PyProof.Rows.envOfC qual (defScope st) s.heap.objs.size f cdv)) → PSs (cxOf CX0 P w K mg base N qual (defScope st) f cdv A outer s H E).nox (defBody st) t)
    (hw : ∀ vs H Q E, sp vs H Q E → t { nx := fun _ H' => Q .non H', rt := Q } (L2.start N vs) H) : FnOk P w K mg base CX0 (k + 1) f fd ps sp :=
  F.okC sc len fun cdv A outer s H vs Q E hc hr h => ⟨_, (hb cdv A outer s H E hc hr).nox, hw vs H Q E h⟩

/-! ### a number is taken -/
def takeF : FS := fun as Q => ∃ a many, as = [box a, .dat (.int many)] ∧ 0 < many ∧ many < 1073741824 ∧ ∀ r, 0 ≤ r → r < many → Q (.dat (.int r)) as
abbrev rModA : R2 := rI (fun _ j => 0 < j) fun i j => .int (i % j)
abbrev rDivA : R2 := rI CDiv fun i j => .int (i / j)
abbrev rMulA : R2 := rI CMulX fun i j => .int (i * j)
abbrev rIntA : List V → Hp → VK → Prop := fun xs H Q => ((∃ i, xs = [.int i] ∧ Q (.int i) H) ∨ ∃ k, xs = [.bl k] ∧ Q (.int (if k then 1 else 0)) H) ∨ (∃ a n, xs = [.str a] ∧ PySem.intText? a = some n ∧ a.length ≤ 640 ∧ Q (.int n) H)
abbrev tIx (K : PySem.W.Frag) (t : TE) (j : Int) : TE := tOp (rIx K) t (tC (.int j))
abbrev tTake (K : PySem.W.Frag) : TS := tSeq (tIfS (tTest (tOp (rEqDp K) (tIx K (tVar 0) 0) (tLst tNil)))
    (tSeq (tAsg (tOp rModA (tCB rIntA (tCons (tOp rMulA (tIx K (tVar 0) 1) (tC (.int 48271))) tNil)) (tC (.int 2147483647))) (gSub (tVar 0) (tC (.int 1)) rSetL))
      (tRet (tOp rModA (tCB rIntA (tCons (tOp rDivA (tIx K (tVar 0) 1) (tC (.int 7))) tNil)) (tVar 1)))) tNext)
  (tSeq (tAsg (tIx K (tIx K (tVar 0) 0) 0) (gName 2))
    (tSeq (tAsg (tOp rDivA (tVar 2) (tVar 1)) (gSub (tIx K (tVar 0) 0) (tC (.int 0)) rSetL))
      (tSeq (tIfS (tOr (tTest (tOp rEq (tIx K (tIx K (tVar 0) 0) 0) (tC (.int 0)))) (tTest (tOp rEq (tIx K (tIx K (tVar 0) 0) 0) (tUn (rU fun i => V.int (-i)) (tC (.int 1))))))
          (tDrop (tBM K "list" rPopAt (tIx K (tVar 0) 0) (tCons (tC (.int 0)) tNil))) tNext)
        (tRet (tOp rModA (tVar 2) (tVar 1))))))
theorem ix_go {K : PySem.W.Frag} {t : TE} {σ : St} {H : Hp} {Q : VK} {a : Addr} {xs : List V} {j : Int} {v : V} (h : ∀ R : VK, R (.ref a) H → t σ H R) (ha : H a = some (.lst xs)) (e : atI xs j = some v) (q : Q v H) : tIx K t j σ H Q := h _ (.inl ⟨a, xs, j, v, rfl, rfl, SqL.of ha, e, q⟩)
theorem ix_zero {n : Nat} : ixN (n + 1) 0 = some 0 := by
  unfold ixN
  rw [if_pos (by decide), if_pos (by omega)]
  rfl
theorem at_zero {α : Type} {x : α} {xs : List α} : atI (x :: xs) 0 = some x := by
  unfold atI
  rw [List.length_cons, ix_zero]
  rfl
theorem seq_zero {n : Nat} : seqIndex? 0 (n + 1) = some 0 := by
  unfold seqIndex?
  simp
theorem var_go {σ : St} {H : Hp} {i : Nat} {v : V} (h : σ[i]? = some (some v)) (R : VK) (r : R v H) : tVar i σ H R := ⟨v, h, r⟩
theorem take_run {K : PySem.W.Frag} {vs : List V} {H : Hp} {Q : VK} {E : XK} (h : spL 2 takeF vs H Q E) : tTake K { nx := fun _ H' => Q .non H', rt := Q } (L2.start ["_law_box", "_law_many", "_law_figure"] vs) H := by
  obtain ⟨fr, g, hs, as, Pq, hl, W, ⟨a, many, eas, m0, m1, hq⟩, k⟩ := h
  subst eas
  match vs, W with
  | [v0, v1], W =>
    have e0 : slot ([box a, .dat (.int many)].map some) 0 = some (box a) := rfl
    obtain ⟨hv, S, ns, s, b⟩ := W.atBox e0
    obtain ⟨u1, hu1, d1⟩ := W.dat (i := 1) (d := .int many) rfl
    simp at hv hu1
    have d1 : u1 = .int many := d1
    subst hv hu1 d1
    have ha : H a = some (.lst [.ref S, .int s]) := W.sh 0 _ _ b.out
    have hS : H S = some (.lst (ns.map V.int)) := W.sh 0 _ _ b.inn
    have aS : a ≠ S := fun z => by
      rw [← z, ha] at hS
      cases ns with
      | nil => cases hS
      | cons n ns => cases hS
    have s0 : ∀ {x : Option V}, ([some (V.ref a), some (V.int many), x] : St)[0]? = some (some (.ref a)) := rfl
    have s1 : ∀ {x : Option V}, ([some (V.ref a), some (V.int many), x] : St)[1]? = some (some (.int many)) := rfl
    show tTake K _ [some (V.ref a), some (V.int many), none] H
    refine ix_go (var_go s0) ha (v := .ref S) rfl ?_
    refine ⟨by decide, fun p hp => ?_⟩
    have W1 := W.grow (Same.new (o := .lst []) hp)
    have ha1 : upd H p (.lst []) a = some (.lst [.ref S, .int s]) := Same.new hp _ _ ha
    have hS1 : upd H p (.lst []) S = some (.lst (ns.map V.int)) := Same.new hp _ _ hS
    refine ⟨.list (ns.map .int), .list [], Dp.lst (SqL.of hS1) (DPs.dp (g := nil) (fun _ _ e => by cases e) (DPs.of_ints ns)), Dp.lst (SqL.of upd_same) .nil, DPs.lay (g := nil) (DPs.of_ints ns), rfl, Nat.le_trans (Nat.min_le_right _ _) (by decide), ?_⟩
    cases ns with
    | nil =>
      refine ⟨true, rfl, ?_⟩
      show (if true = true then _ else _ : Prop)
      rw [if_pos rfl]
      have bs := bits_seed b.lo b.hi
      have sr : 0 ≤ s * 48271 % 2147483647 ∧ s * 48271 % 2147483647 < 2147483647 := ⟨Int.emod_nonneg _ (by decide), Int.emod_lt_of_pos _ (by decide)⟩
      refine ix_go (var_go s0) ha1 (v := .int s) rfl ⟨s, 48271, rfl, rfl, mul_okL bs (bits_small (n := 16) (by decide)) (by decide), .inl (.inl ⟨_, rfl, _, _, rfl, rfl, (by show (0 : Int) < 2147483647; decide), ?_⟩)⟩
      refine ⟨_, s0, a, _, 1, 1, rfl, rfl, ha1, rfl, ?_⟩
      have W2 := W1.storeQ (i := 0) (q := a) (o' := .lst [.ref S, .int (s * 48271 % 2147483647)]) (sv := box a) b.out rfl ⟨rfl, S, [], s * 48271 % 2147483647, upd_same, by rw [upd_ne (Ne.symm aS)]; exact b.inn, sr.1, sr.2, b.bits, b.len⟩
      refine ix_go (var_go s0) (a := a) upd_same (v := .int (s * 48271 % 2147483647)) rfl ⟨_, 7, rfl, rfl, ⟨by decide, by decide⟩, .inl (.inl ⟨_, rfl, _, s1, _, _, rfl, rfl, m0, ?_⟩)⟩
      exact k _ _ _ g _ nil _ (hq _ (Int.emod_nonneg _ (by omega)) (Int.emod_lt_of_pos _ m0)) (Same.refl g) W2 rfl apart_nil
    | cons f r =>
      refine ⟨false, rfl, ?_⟩
      show (if false = true then _ else _ : Prop)
      rw [if_neg (by decide)]
      show tSeq _ _ _ [some (V.ref a), some (V.int many), none] (upd H p (.lst []))
      refine ix_go (fun R r0 => ix_go (var_go s0) ha1 (v := .ref S) rfl r0) hS1 (v := .int f) at_zero ?_
      refine ⟨.int f, rfl, .int many, rfl, f, many, rfl, rfl, ⟨m0, m1⟩, ?_⟩
      refine ix_go (var_go rfl) ha1 (v := .ref S) rfl ?_
      refine ⟨S, _, 0, 0, rfl, rfl, hS1, ix_zero, ?_⟩
      have fb : Builtin.Int.intBits (f / many) ≤ 1048576 := bits_div (b.bits f (List.mem_cons_self ..)) m0
      have W2 := W1.storeQ (i := 0) (q := S) (o' := .lst (((f / many) :: r).map V.int)) (sv := box a) b.inn rfl ⟨rfl, S, (f / many) :: r, s, by rw [upd_ne aS]; exact b.out, upd_same, b.lo, b.hi, fun z hz => (List.mem_cons.mp hz).elim (fun e => by rw [e]; exact fb) (fun e => b.bits z (List.mem_cons_of_mem _ e)), b.len⟩
      have ha2 : upd (upd H p (.lst [])) S (.lst (((f / many) :: r).map V.int)) a = some (.lst [.ref S, .int s]) := by
        rw [upd_ne aS]
        exact ha1
      have hS2 : upd (upd H p (.lst [])) S (.lst (((f / many) :: r).map V.int)) S = some (.lst (((f / many) :: r).map V.int)) := upd_same
      have fin : ∀ {H3 : Hp} {hs3 : Prts}, Own fr g hs3 [some (box a), some (.dat (.int many))] [some (.ref a), some (.int many)] H3 → tRet (tOp rModA (tVar 2) (tVar 1)) { nx := fun _ H' => Q .non H', rt := Q } [some (V.ref a), some (V.int many), some (.int f)] H3 := fun {H3 hs3} W3 =>
        ⟨.int f, rfl, .int many, rfl, f, many, rfl, rfl, m0, k _ _ _ g hs3 nil _ (hq _ (Int.emod_nonneg _ (by omega)) (Int.emod_lt_of_pos _ m0)) (Same.refl g) W3 rfl apart_nil⟩
      have pop : tDrop (tBM K "list" rPopAt (tIx K (tVar 0) 0) (tCons (tC (.int 0)) tNil)) { nx := fun σ' H' => tRet (tOp rModA (tVar 2) (tVar 1)) { nx := fun _ H' => Q .non H', rt := Q } σ' H', rt := Q } [some (V.ref a), some (V.int many), some (.int f)] (upd (upd H p (.lst [])) S (.lst (((f / many) :: r).map V.int))) := by
        refine ix_go (var_go rfl) ha2 (v := .ref S) rfl ⟨.inl ⟨rfl, _, SqL.of hS2⟩, S, _, 0, 0, _, rfl, rfl, hS2, by decide, by decide, seq_zero, rfl, ?_⟩
        have W3 := W2.storeQ (i := 0) (q := S) (o' := .lst (r.map V.int)) (sv := box a) (by rw [setH_same]; exact upd_same) rfl ⟨rfl, S, r, s, by rw [setH_same, upd_ne aS, upd_ne aS]; exact b.out, upd_same, b.lo, b.hi, fun z hz => b.bits z (List.mem_cons_of_mem _ hz), Nat.le_trans (Nat.le_succ _) b.len⟩
        exact fin W3
      refine ix_go (fun R r0 => ix_go (var_go rfl) ha2 (v := .ref S) rfl r0) hS2 (v := .int (f / many)) at_zero ⟨rfl, _, rfl, ?_⟩
      by_cases q1 : V.int (f / many) = V.int 0
      · show (if decide (V.int (f / many) = V.int 0) = true then _ else _ : Prop)
        rw [if_pos (decide_eq_true q1)]
        show (if true = true then _ else _ : Prop)
        rw [if_pos rfl]
        exact pop
      · show (if decide (V.int (f / many) = V.int 0) = true then _ else _ : Prop)
        rw [if_neg (by simp only [decide_eq_true_eq]; exact q1)]
        refine ix_go (fun R r0 => ix_go (var_go rfl) ha2 (v := .ref S) rfl r0) hS2 (v := .int (f / many)) at_zero ⟨1, rfl, rfl, _, rfl, ?_⟩
        by_cases q2 : V.int (f / many) = V.int (-1)
        · show (if decide (V.int (f / many) = V.int (-1)) = true then _ else _ : Prop)
          rw [if_pos (decide_eq_true q2)]
          exact pop
        · show (if decide (V.int (f / many) = V.int (-1)) = true then _ else _ : Prop)
          rw [if_neg (by simp only [decide_eq_true_eq]; exact q2)]
          exact fin W2

/-! ### the box is made of the script -/
def spBegun (K : PySem.W.Frag) : Sp := fun vs H Q _ => ∃ (a : Addr) (ns : List Int), vs = [.ref a] ∧ SqL K H a (ns.map V.int) ∧ ns.length ≤ 63 ∧ smallBits ns ∧ ∀ S p s, H S = none → H p = none → S ≠ p → 0 ≤ s → s < 2147483647 → Q (.ref p) (upd (upd H S (.lst (ns.map V.int))) p (.lst [.ref S, .int s]))
theorem spBegun_len {K : PySem.W.Frag} (vs : List V) (H : Hp) (Q : VK) (E : XK) (h : spBegun K vs H Q E) : vs.length = 1 := by
  obtain ⟨a, ns, e, _⟩ := h
  rw [e]
  rfl
abbrev rAddA : R2 := rI0 fun i j => .int (i + j)
abbrev rListA (K : PySem.W.Frag) : List V → Hp → VK → Prop := fun xs H Q => ∃ p ys, xs = [.ref p] ∧ (SqL K H p ys ∨ SqT K H p ys) ∧ ∀ l, H l = none → Q (.ref l) (upd H l (.lst ys))
abbrev tBegun (K : PySem.W.Frag) : TS := tSeq (tAsg (tC (.int 0)) (gName 1))
  (tSeq (tFor (iList K (tVar 0)) (gName 2) (tAsg (tOp rModA (tCB rIntA (tCons (tOp rAddA (tOp rAddA (tOp rMulA (tVar 1) (tC (.int 48271))) (tOp rMulA (tVar 2) (tC (.int 69621)))) (tC (.int 11))) tNil)) (tC (.int 2147483647))) (gName 1)))
    (tRet (tLst (tCons (tCB (rListA K) (tCons (tVar 0) tNil)) (tCons (tOp rMulA (tVar 1) (tCB rIntA (tCons (tOp (rI0 fun i j => .bl (decide (j < i))) (tCB (rLen K) (tCons (tVar 0) tNil)) (tC (.int 2))) tNil))) tNil)))))
theorem begun_run {K : PySem.W.Frag} {vs : List V} {H : Hp} {Q : VK} {E : XK} (h : spBegun K vs H Q E) : tBegun K { nx := fun _ H' => Q .non H', rt := Q } (L2.start ["_law_script", "_law_stirred", "_law_cell"] vs) H := by
  obtain ⟨a, ns, e, hS, hl, hb, hq⟩ := h
  subst e
  refine ⟨_, rfl, a, rfl, ⟨_, hS⟩, ?_⟩
  refine for_it (walk_list (K := K) (a := a) (xs := ns.map V.int)) (fun i σ H' => H' = H ∧ ∃ (z : Int) (x : Option V), 0 ≤ z ∧ z < 2147483647 ∧ σ = [some (.ref a), some (.int z), x]) ⟨rfl, 0, none, by decide, by decide, rfl⟩ (fun i σ H' _ p => by rw [p.1]; exact hS) (fun i x σ H1 H2 hi p y => ?_) fun σ H' p => ?_
  · obtain ⟨e1, z, x0, z0, z1, e2⟩ := p
    obtain ⟨e3, y⟩ := y
    subst e1 e2 e3
    rw [List.getElem?_map] at y
    obtain ⟨c, hc, ec⟩ := Option.map_eq_some_iff.mp y
    subst ec
    have cb : Builtin.Int.intBits c ≤ 1048576 := hb c (List.mem_of_getElem? hc)
    refine ⟨.int z, rfl, _, _, rfl, rfl, mul_okL (bits_seed z0 z1) (bits_small (n := 16) (by decide)) (by decide), .int c, rfl, _, _, rfl, rfl, mul_okL cb (bits_small (n := 17) (by decide)) (by decide), _, _, rfl, rfl, _, _, rfl, rfl, .inl (.inl ⟨_, rfl, _, _, rfl, rfl, (by show (0 : Int) < 2147483647; decide), ?_⟩)⟩
    exact ⟨rfl, _, some (.int c), Int.emod_nonneg _ (by decide), Int.emod_lt_of_pos _ (by decide), rfl⟩
  · obtain ⟨e1, z, x0, z0, z1, e2⟩ := p
    subst e1 e2
    refine ⟨_, rfl, a, _, rfl, .inl hS, fun S nS => ?_⟩
    have hS' : SqL K (upd H' S (.lst (ns.map V.int))) a (ns.map V.int) := by
      rcases hS with (h | ⟨o, h⟩) | h
      · exact .inl (.inl (Same.new nS _ _ h))
      · exact .inl (.inr ⟨o, Same.new nS _ _ h⟩)
      · exact .inr h
    refine ⟨.int z, rfl, _, rfl, .ref a, (ns.map V.int).length, rfl, .inl ⟨_, hS', rfl⟩, _, 2, rfl, rfl, .inl (.inr ⟨_, rfl, z, _, rfl, rfl, mul_okL (n := 31) (m := 1) (bits_seed z0 z1) ?_ (by decide), by show 2 ≤ sizeLine; decide, fun p np => ?_⟩)⟩
    · split <;> exact bits_small (by decide)
    · have nSp : S ≠ p := fun z => by
        rw [← z, upd_same] at np
        cases np
      refine hq S p _ nS (by rw [upd_ne (Ne.symm nSp)] at np; exact np) nSp ?_ ?_
      · split
        · omega
        · omega
      · split
        · omega
        · omega
end Fb
namespace Fb
open PySem L2
set_option autoImplicit false
variable [Tb]

theorem _root_.L2.Room.u65 {k : Nat} {A : Around} (r : Room k A) : A.units + 65 < cLine := by have := r.un; omega
theorem _root_.L2.Room.u64 {k : Nat} {A : Around} (r : Room k A) : A.units + 64 < cLine := by have := r.un; omega
theorem _root_.L2.Room.u1 {k : Nat} {A : Around} (r : Room k A) : A.units + 1 < cLine := by have := r.un; omega
/-! ### what is known of the top -/
/-- a def by its name -/
abbrev DefE (P : Program) (w : World) (K : PySem.W.Frag) (mg : Str → Option Value) (base : Heap) (CX : CXT) (k : Nat) (x : Str) (ps : List Str) (sp : Sp) : Prop :=
  ∃ (f : Addr) (fd : FuncData), mg x = some (.ref f) ∧ PySem.W.keepIn K (.ref f) = true ∧ FnOk P w K mg base CX k f fd ps sp ∧ Binds K fd ps []
abbrev MetE (P : Program) (w : World) (K : PySem.W.Frag) (mg : Str → Option Value) (base : Heap) (CX : CXT) (k : Nat) (c m : Str) (ps : List Str) (sp : Sp) : Prop :=
  ∃ (f : Addr) (fd : FuncData), Meth K (He.ga K c) m f ∧ FnOk P w K mg base CX k f fd ps sp ∧ Binds K fd ps []
theorem de_gS {X : Cx} {x z : Str} {pos : Pos} (h : ∃ t, X.mg x = some (.str z t)) (hz : PyData.strOk z = true := by decide +kernel) (hg : Gl X x := by rfl) (hd : (x == ("__debug__" : Str)) = false := by decide) : PE X (.Name x pos) (lE (dC (.str z))) := by
  obtain ⟨t, hm⟩ := h
  exact de_globS hm hz hg hd
theorem de_gI {X : Cx} {x : Str} {i : Int} {pos : Pos} (h : ∃ t, X.mg x = some (.int i t)) (hg : Gl X x := by rfl) (hd : (x == ("__debug__" : Str)) = false := by decide) : PE X (.Name x pos) (lE (dC (.int i))) := by
  obtain ⟨t, hm⟩ := h
  exact de_globI hm hg hd
structure Frees (mg : Str → Option Value) : Prop where
  len : mg "len" = none
  isinstance : mg "isinstance" = none
  int : mg "int" = none
  bool : mg "bool" = none
  str : mg "str" = none
  tuple : mg "tuple" = none
  list : mg "list" = none
  range : mg "range" = none
  all : mg "all" = none
  any : mg "any" = none
  sum : mg "sum" = none
  min : mg "min" = none
  max : mg "max" = none
  sorted : mg "sorted" = none
  enumerate : mg "enumerate" = none
  zip : mg "zip" = none
structure Consts (mg : Str → Option Value) : Prop where
  KINDS : ∃ t, mg "KINDS" = some (.str "abc" t)
  ANY : ∃ t, mg "ANY" = some (.str "" t)
  LEAST_FOLK : ∃ t, mg "LEAST_FOLK" = some (.int 2 t)
  MOST_FOLK : ∃ t, mg "MOST_FOLK" = some (.int 6 t)
  MOST_LIFE : ∃ t, mg "MOST_LIFE" = some (.int 99 t)
  MOST_HOPS : ∃ t, mg "MOST_HOPS" = some (.int 9 t)
  DONE : ∃ t, mg "DONE" = some (.str "done" t)
  PAY : ∃ t, mg "PAY" = some (.str "pay" t)
  PASS : ∃ t, mg "PASS" = some (.str "pass" t)
  TICK : ∃ t, mg "TICK" = some (.str "tick" t)
  ASK : ∃ t, mg "ASK" = some (.str "ask" t)
  CLEAR : ∃ t, mg "CLEAR" = some (.str "clear" t)
structure Refs (K : PySem.W.Frag) (mg : Str → Option Value) : Prop where
  BadCount : RfC K mg "BadCount"
  BadKind : RfC K mg "BadKind"
  NoOne : RfC K mg "NoOne"
  NoDebt : RfC K mg "NoDebt"
  Cannot : RfC K mg "Cannot"
  Worn : RfC K mg "Worn"
  NoChain : RfC K mg "NoChain"
/-- all that the defs ask of the top -/
structure Top (K : PySem.W.Frag) (mg : Str → Option Value) : Prop where
  T : Frees mg
  c : Consts mg
  R : Refs K mg
  C : BkK K
/-! ### what the folk's checks tell -/
def kinds : Str := "abc"
def isNum (d : PyData) (lo hi : Int) : Bool := match d with
  | .int i => decide (lo ≤ i ∧ i ≤ hi)
  | _ => false
@[simp] theorem isNum_i {i lo hi : Int} : isNum (.int i) lo hi = decide (lo ≤ i ∧ i ≤ hi) := rfl
@[simp] theorem isNum_n {lo hi : Int} : isNum .none lo hi = false := rfl
@[simp] theorem isNum_b {b : Bool} {lo hi : Int} : isNum (.bool b) lo hi = false := rfl
@[simp] theorem isNum_s {z : Str} {lo hi : Int} : isNum (.str z) lo hi = false := rfl
@[simp] theorem isNum_l {z : List PyData} {lo hi : Int} : isNum (.list z) lo hi = false := rfl
@[simp] theorem isNum_t {z : List PyData} {lo hi : Int} : isNum (.tuple z) lo hi = false := rfl
def isKind (d : PyData) : Bool := match d with
  | .str z => decide (z.length = 1) && subStr z kinds
  | _ => false
def chars (z : Str) : List PyData := z.cps.toList.map fun c => .str ⟨#[c]⟩
def strLt (a b : PyData) : Bool := match a, b with
  | .str x, .str y => decide (x.cps.toList < y.cps.toList)
  | _, _ => false
def sOf : PyData → Str
  | .str x => x
  | _ => ""
def pairLt : PyData → Bool
  | .tuple [a, b] => strLt a b
  | _ => false
def isSkillS (z : Str) : Bool := ((chars z).all fun d => subStr (sOf d) kinds) && (zipD (chars z) (chars (cutS z (some 1) none))).all pairLt
def okFolk (fs : List Str) : Prop := 2 ≤ fs.length ∧ fs.length ≤ 6 ∧ ∀ s ∈ fs, isSkillS s = true ∧ s.length ≤ 3 ∧ PyData.strOk s = true
def pNum : PF := fun ds k => ∃ d lo hi, ds = [d, .int lo, .int hi] ∧ k (.dat (.bool (isNum d lo hi)))
def pSkill : PF := fun ds k => ∃ z, ds = [.str z] ∧ z.length ≤ sizeLine ∧ k (.dat (.bool (isSkillS z)))
def xCounts : FX := fun as Pq Pe => ∃ d e, as = [.dat d, .dat e] ∧ if (isNum d 1 99 && isNum e 0 9) = true then Pq (.dat .none) as else Pe ⟨"BadCount", none⟩ as
def xKind : FX := fun as Pq Pe => ∃ d, as = [.dat d] ∧ (∀ z, d = .str z → z.length ≤ sizeLine) ∧ if isKind d = true then Pq (.dat .none) as else Pe ⟨"BadKind", none⟩ as
def xOne : FX := fun as Pq Pe => ∃ ds d, as = [.dat (.tuple ds), .dat d] ∧ if isNum d 0 (ds.length - 1) = true then Pq (.dat .none) as else Pe ⟨"NoOne", none⟩ as
def xFolk : FX := fun as Pq _ => ∃ fs, as = [.dat (.tuple (fs.map .str))] ∧ okFolk fs ∧ Pq (.dat .none) as
end Fb
namespace Fb
open PySem L2
set_option autoImplicit false
variable [Tb]

/-! ### comprehensions and loops whose slots come back as they were -/
@[simp] def cyc {α : Type} (b : TBa α) (wt : ETb) (we : ET) (vs : List Nat) (ρ0 : Ev) (d : α) (R : Option PyData → Ev → Prop) : Prop :=
  b d ρ0 fun ρ3 => wt ρ3 fun c ρ4 => if c = true then we ρ4 fun y ρ5 => R (some y) (wipeD ρ5 vs) else R none (wipeD ρ4 vs)
theorem dLc_go {α : Type} {b : TBa α} {wt : ETb} {we : ET} {vs : List Nat} {ρ1 : Ev} {P : SV → Ev → Prop} {ds : List α} (p : α → Bool) (f : α → PyData) (hz : ds.length ≤ sizeLine)
    (step : ∀ d ∈ ds, ∀ R : Option PyData → Ev → Prop, R (if p d = true then some (f d) else none) (wipeD ρ1 vs) → cyc b wt we vs (wipeD ρ1 vs) d R)
    (h : ∀ a, P (.lst a ((ds.filter p).map f)) (wipeD (wipeD ρ1 vs) vs)) : dLcK b wt we vs P ds ρ1 := by
  refine ⟨hz, fun i acc ρ' => acc = ((ds.take i).filter p).map f ∧ ρ' = wipeD ρ1 vs, ⟨by simp, rfl⟩, fun i d acc ρ2 hd hI => ?_, fun acc ρ2 hI a => ?_⟩
  · obtain ⟨e1, e2⟩ := hI
    subst e2
    have q := step d (List.mem_of_getElem? hd) (fun o ρ' => (match o with | some y => acc ++ [y] | none => acc) = ((ds.take (i + 1)).filter p).map f ∧ ρ' = wipeD ρ1 vs) ⟨by
      rw [List.take_add_one, hd, Option.toList_some, List.filter_append, List.map_append, ← e1]
      by_cases z : p d = true
      · rw [if_pos z, List.filter_cons, if_pos z]
        rfl
      · rw [if_neg z, List.filter_cons, if_neg z]
        simp, rfl⟩
    exact q
  · obtain ⟨e1, e2⟩ := hI
    subst e2
    rw [e1, List.take_length]
    exact h a
theorem dLc_any {α : Type} {b : TBa α} {we : ET} {vs : List Nat} {ρ1 : Ev} {P : SV → Ev → Prop} {ds : List α} (G : PyData → Prop) (hz : ds.length ≤ sizeLine)
    (step : ∀ d ∈ ds, ∀ R : Option PyData → Ev → Prop, (∀ y, G y → R (some y) (wipeD ρ1 vs)) → cyc b dYes we vs (wipeD ρ1 vs) d R)
    (h : ∀ a acc, acc.length = ds.length → (∀ y ∈ acc, G y) → P (.lst a acc) (wipeD (wipeD ρ1 vs) vs)) : dLcK b dYes we vs P ds ρ1 := by
  refine ⟨hz, fun i acc ρ' => acc.length = i ∧ (∀ y ∈ acc, G y) ∧ ρ' = wipeD ρ1 vs, ⟨rfl, (fun y hy => by cases hy), rfl⟩, fun i d acc ρ2 hd hI => ?_, fun acc ρ2 hI a => ?_⟩
  · obtain ⟨e1, e3, e2⟩ := hI
    subst e2
    have q := step d (List.mem_of_getElem? hd) (fun o ρ' => (match o with | some y => acc ++ [y] | none => acc).length = i + 1 ∧ (∀ y ∈ (match o with | some y => acc ++ [y] | none => acc), G y) ∧ ρ' = wipeD ρ1 vs) fun y gy => ⟨by
      show (acc ++ [y]).length = i + 1
      rw [List.length_append, e1]
      rfl, fun z hz => by
      have hz : z ∈ acc ++ [y] := hz
      rcases List.mem_append.mp hz with hz | hz
      · exact e3 z hz
      · have e : z = y := by simpa using hz
        rw [e]
        exact gy, rfl⟩
    exact q
  · obtain ⟨e1, e3, e2⟩ := hI
    subst e2
    exact h a acc e1 e3
/-- a for whose body leaves a property of the slots -/
theorem dFor_go {α : Type} {b : TBa α} {w : SE} {T : Edn} {ρ1 : Ev} {ds : List α} (W : Nat → Ev → Prop) (h0 : W 0 ρ1)
    (step : ∀ i d ρ2, ds[i]? = some d → W i ρ2 → b d ρ2 fun ρ3 => w { T with nx := W (i + 1), ct := W (i + 1), bk := T.nx } ρ3) (h : ∀ ρ2, W ds.length ρ2 → T.nx ρ2) : dForK b w T ds ρ1 := ⟨W, h0, step, h⟩
/-- what holds between two statements -/
theorem dSeq_cut {w u : SE} {T : Edn} {ρ : Ev} (G : Ev → Prop) (h1 : ∀ U : Ev → Prop, (∀ ρ', G ρ' → U ρ') → w { T with nx := U } ρ) (h2 : ∀ ρ', G ρ' → u T ρ') : dSeq w u T ρ := h1 (u T) h2
theorem dIf_test {t : ETb} {w u : SE} {T : Edn} {ρ : Ev} (b : Bool) (h : ∀ P : Bool → Ev → Prop, P b ρ → t ρ P) (k : if b = true then w T ρ else u T ρ) : dIf t w u T ρ := h _ k
theorem dIf_yes {t : ETb} {w u : SE} {T : Edn} {ρ : Ev} (h : ∀ P : Bool → Ev → Prop, P true ρ → t ρ P) (k : w T ρ) : dIf t w u T ρ := h _ k
theorem dIf_no {t : ETb} {w u : SE} {T : Edn} {ρ : Ev} (h : ∀ P : Bool → Ev → Prop, P false ρ → t ρ P) (k : u T ρ) : dIf t w u T ρ := h _ k
theorem dIf_noE {t : ETb} {w u : SE} {T : Edn} {ρ : Ev} (ρ' : Ev) (h : ∀ P : Bool → Ev → Prop, P false ρ' → t ρ P) (k : u T ρ') : dIf t w u T ρ := h _ k
theorem rngD_get {n i : Nat} {d : PyData} (h : (rngD 0 n)[i]? = some d) : d = .int (i : Nat) ∧ i < n := by
  unfold rngD at h
  rw [List.getElem?_map] at h
  obtain ⟨j, h1, h2⟩ := Option.map_eq_some_iff.mp h
  have hl : i < n := by
    have := (List.getElem?_eq_some_iff.mp h1).1
    simpa using this
  rw [List.getElem?_range hl] at h1
  cases h1
  refine ⟨?_, hl⟩
  rw [← h2]
  simp
theorem rngD_len {n : Nat} : (rngD 0 n).length = n := by unfold rngD; rw [List.length_map, List.length_range]
theorem asBools_f {α : Type} (f : α → Bool) : ∀ ds : List α, asBools (ds.map fun d => .bool (f d)) = some (ds.map f)
  | [] => rfl
  | d :: ds => by
    show (asBools (ds.map fun d => .bool (f d))).map (f d :: ·) = _
    rw [asBools_f f ds]
    rfl
theorem filter_all {α : Type} (ds : List α) : ds.filter (fun _ => true) = ds := List.filter_eq_self.mpr fun _ _ => rfl
theorem eqv_int {a b : Int} : PyData.eqv (.int a) (.int b) = decide (a = b) := by
  simp [PyData.eqv]
  rfl
theorem any_int {m : Int} {l : List Int} : anyEq (.int m) (l.map .int) = true ↔ m ∈ l := by
  unfold anyEq
  rw [List.any_eq_true]
  constructor
  · rintro ⟨d, h1, h2⟩
    obtain ⟨k, hk, rfl⟩ := List.mem_map.mp h1
    rw [eqv_int] at h2
    rw [← of_decide_eq_true h2]
    exact hk
  · exact fun h => ⟨.int m, List.mem_map.mpr ⟨m, h, rfl⟩, by rw [eqv_int]; exact decide_eq_true rfl⟩
theorem any_intF {m : Int} {l : List Int} : anyEq (.int m) (l.map .int) = decide (m ∈ l) := by
  by_cases q : m ∈ l
  · rw [any_int.mpr q, decide_eq_true q]
  · cases e : anyEq (.int m) (l.map .int) with
    | true => exact absurd (any_int.mp e) q
    | false => rw [decide_eq_false q]
theorem depth_le1 {a : Int} {d : PyData} : min d.depth (PyData.int a).depth ≤ 64 := Nat.le_trans (Nat.min_le_right _ _) (by simp [PyData.depth])
end Fb
namespace Fb
open PySem PySem.Spec PyProof.Rows L2
set_option autoImplicit false

/-! ### list.count of data -/
def rCountD (K : PySem.W.Frag) : V → List V → Hp → VK → Prop := fun x xs H Q => ∃ (g : Hp) (d : PyData) (y : V) (ds : List PyData), xs = [y] ∧ Same g H ∧ DP g (.list ds) x ∧ DP g d y ∧ min (PyData.depthAll ds) d.depth ≤ 64 ∧ Q (.int (ds.countP fun z => PyData.eqv z d : Nat)) H
section
variable {X : Cx}
theorem mt_countD (hu : X.A.units + 65 < cLine) : MtR X "list.count" (rCountD X.K) := by
  intro pins s σ H x xs v us Q I rx rxs h
  obtain ⟨g, d, y, ds, rfl, sg, hl, hy, dep, q⟩ := h
  obtain ⟨a, vs, ex, ga, ra⟩ := hl
  subst ex
  cases rx
  obtain ⟨uy, rfl, ry⟩ := rxs.one
  obtain ⟨bs, r1⟩ := Dp.reads I d y uy (hy.dp sg) ry
  obtain ⟨its, rv, ⟨⟨cls, dd, data, sls⟩, n, ho, hc, hdn, hdt⟩, hlen⟩ := I.list (SqL.of (sg _ _ ga))
  simp only at hc hdt
  subst hc hdt
  obtain ⟨as, h4⟩ := Dp.readsAll I ds _ its (ra.dp sg) rv
  have hmap : its.map (SeqAt.readOf s.heap) = ds := SeqAt.readsAll_map ds its as ra.lay h4
  have hroom : X.A.units + 1 + min (PyData.depthAll ds) d.depth < cLine := by omega
  refine call_meets PySem.F.slot_list_count ⟨_, ho, rfl⟩ PySem.F.entry_list_count (PySem.F.args_list_count_2 _ _)
    (SeqAt.list_countAt a its.toArray n dd sls uy (fun u => PyData.eqv (SeqAt.readOf s.heap u) d)) ⟨ho, SeqAt.items_eqAt (vs := its.toArray) (show ReadsAll s.heap its.toArray.toList ds as from h4) r1 ra.lay hy.lay hroom, ?_⟩
  refine ⟨.int (ds.countP fun z => PyData.eqv z d : Nat), H, I.tok _, ⟨s.toks, ?_⟩, q⟩
  have ec : its.toArray.toList.countP (fun u => PyData.eqv (SeqAt.readOf s.heap u) d) = ds.countP fun z => PyData.eqv z d := by
    show its.countP ((fun z => PyData.eqv z d) ∘ SeqAt.readOf s.heap) = _
    rw [← List.countP_map, hmap]
  show Value.int ((its.toArray.toList.countP (fun u => PyData.eqv (SeqAt.readOf s.heap u) d) : Nat) : Int) s.toks = Value.int ((ds.countP fun z => PyData.eqv z d : Nat) : Int) s.toks
  rw [ec]
/-! ### list.index of data -/
def rIndexDD (K : PySem.W.Frag) : V → List V → Hp → VK → Prop := fun x xs H Q => ∃ (g : Hp) (d : PyData) (y : V) (ds : List PyData) (j : Nat) (z : PyData), xs = [y] ∧ Same g H ∧ DP g (.list ds) x ∧ DP g d y ∧ min (PyData.depthAll ds) d.depth ≤ 64 ∧
  ds[j]? = some z ∧ PyData.eqv z d = true ∧ (∀ (m : Nat) (z' : PyData), m < j → ds[m]? = some z' → PyData.eqv z' d = false) ∧ Q (.int (j : Nat)) H
theorem mt_indexDD (hu : X.A.units + 65 < cLine) : MtR X "list.index" (rIndexDD X.K) := by
  intro pins s σ H x xs v us Q I rx rxs h
  obtain ⟨g, d, y, ds, j, z, rfl, sg, hl, hy, dep, hz, hzj, hno, q⟩ := h
  obtain ⟨a, vs, ex, ga, ra⟩ := hl
  subst ex
  cases rx
  obtain ⟨uy, rfl, ry⟩ := rxs.one
  obtain ⟨bs, r1⟩ := Dp.reads I d y uy (hy.dp sg) ry
  obtain ⟨its, rv, ⟨⟨cls, dd, data, sls⟩, n, ho, hc, hdn, hdt⟩, hlen⟩ := I.list (SqL.of (sg _ _ ga))
  simp only at hc hdt
  subst hc hdt
  obtain ⟨as, h4⟩ := Dp.readsAll I ds _ its (ra.dp sg) rv
  have hn : its.length = ds.length := SeqAt.ReadsAll.length ds its as h4
  have hmap : its.map (SeqAt.readOf s.heap) = ds := SeqAt.readsAll_map ds its as ra.lay h4
  have hvl := rv.length
  have hsl := sizeLine_eq
  obtain ⟨hjd, _⟩ := List.getElem?_eq_some_iff.mp hz
  have hj : j < its.toArray.size := by simp; omega
  have hroom : X.A.units + 1 + min (PyData.depthAll ds) d.depth < cLine := by omega
  have at_ : ∀ (m : Nat) (hm : m < its.toArray.size) (z' : PyData), ds[m]? = some z' → SeqAt.readOf s.heap its.toArray[m] = z' := by
    intro m hm z' hz'
    have hml : m < its.length := by simpa using hm
    rw [← hmap, List.getElem?_map, List.getElem?_eq_getElem hml] at hz'
    have e1 : SeqAt.readOf s.heap its[m] = z' := Option.some.inj (show some (SeqAt.readOf s.heap its[m]) = some z' from hz')
    simpa using e1
  refine call_meets PySem.F.slot_list_index ⟨_, ho, rfl⟩ PySem.F.entry_list_index (PySem.F.args_list_index_2 _ _)
    (SeqAt.list_indexAt a its.toArray n dd sls uy (fun u => PyData.eqv (SeqAt.readOf s.heap u) d) j hj (by omega) ?_ ?_) ⟨ho, SeqAt.items_eqAt (vs := its.toArray) (show ReadsAll s.heap its.toArray.toList ds as from h4) r1 ra.lay hy.lay hroom, ?_⟩
  · show PyData.eqv (SeqAt.readOf s.heap its.toArray[j]) d = true
    rw [at_ j hj z hz]
    exact hzj
  · intro m hm hmj
    have hmd : m < ds.length := by omega
    have hz' : ds[m]? = some ds[m] := List.getElem?_eq_getElem hmd
    show PyData.eqv (SeqAt.readOf s.heap its.toArray[m]) d = false
    rw [at_ m hm _ hz']
    exact hno m _ hmj hz'
  · exact ⟨.int (j : Nat), H, I.tok _, ⟨_, rfl⟩, q⟩
end
/-! ### methods of data -/
abbrev FL := List PyData → List PyData → (PyData → Prop) → Prop
abbrev FT := Str → List PyData → (PyData → Prop) → Prop
def MdL (r : V → List V → Hp → VK → Prop) (f : FL) : Prop := ∀ g H xs v ds vs k Q, Same g H → DP g (.list xs) v → DPs g ds vs → f xs ds k → OutD g H k Q → r v vs H Q
def MdS (r : V → List V → Hp → VK → Prop) (f : FT) : Prop := ∀ g H x v ds vs k Q, Same g H → DP g (.str x) v → DPs g ds vs → f x ds k → OutD g H k Q → r v vs H Q
variable [Tb]
def dML (f : FL) (w : ET) (wa : EA) (ρ : Ev) (P : PyData → Ev → Prop) : Prop := w ρ fun d ρ1 => ∃ xs, d = .list xs ∧ wa ρ1 fun ds ρ2 => f xs ds fun z => P z ρ2
def dMS (f : FT) (w : ET) (wa : EA) (ρ : Ev) (P : PyData → Ev → Prop) : Prop := w ρ fun d ρ1 => ∃ x, d = .str x ∧ wa ρ1 fun ds ρ2 => f x ds fun z => P z ρ2
section
variable {X : Cx} {o e : Expr} {es : List Expr} {pos apos cpos : Pos} {w : ET} {wa : EA} {name : Str} {id : String} {r : V → List V → Hp → VK → Prop}
theorem de_mL {f : FL} (slt : Slot "list" name id) (hty : typeOf (.builtin id) = pure (.type "method_descriptor")) (hm : MtR X id r) (hf : MdL r f) (ho : PE X o (lE w)) (ha : PA X (e :: es) (lA wa))
    (hbase : attributeBase o name X.env (eval o X.env) = eval o X.env := by rfl)
    (hfew : ((backTo cpos (starEach (e :: es) X.env)).all (fun x => !x.1) && (backToKw cpos (keywordEach [] X.env)).all (fun x => x.1.isSome)
      && decide ((e :: es).length + ([] : List Keyword).length + (if ([] : List Keyword).isEmpty then 0 else 1) < 30)) = true := by rfl)
    (hline : (apos.endLine == cpos.line) = true := by rfl) (hs : starEach (e :: es) X.env = (false, eval e X.env) :: starEach es X.env := by rfl) (hplain : (backTo cpos (starEach es X.env)).any (·.1) = false := by rfl) :
    PE X (.Call (.Attribute o name apos) (e :: es) [] cpos) (lE (dML f w wa)) := by
  refine pe_imp (pe_bm PySem.F.plainAttrs_list slt hty hm ho ha hbase hfew hline hs hplain) fun σ H Q h => ?_
  obtain ⟨fr, g, hs, ρ, P, W, h, k⟩ := h
  refine ⟨fr, g, hs, ρ, _, W, h, fun d ρ1 v g1 hs1 H1 h1 s1 W1 d1 => ?_⟩
  obtain ⟨xs, ed, h1⟩ := h1
  subst ed
  have d1' := d1
  obtain ⟨a, vs, ev, ga, ra⟩ := d1'
  refine ⟨by rw [ev]; exact .inl ⟨rfl, vs, SqL.of (W1.sg _ _ ga)⟩, fr, g1, hs1, ρ1, _, W1, h1, fun ds ρ2 us g2 hs2 H2 h2 s2 W2 d2 => ?_⟩
  exact hf g2 H2 xs v ds us _ Q W2.sg (d1.mono s2) d2 h2 (W2.out (s1.trans s2) k)
theorem de_mS {f : FT} (slt : Slot "str" name id) (hty : typeOf (.builtin id) = pure (.type "method_descriptor")) (hm : MtR X id r) (hf : MdS r f) (ho : PE X o (lE w)) (ha : PA X (e :: es) (lA wa))
    (hbase : attributeBase o name X.env (eval o X.env) = eval o X.env := by rfl)
    (hfew : ((backTo cpos (starEach (e :: es) X.env)).all (fun x => !x.1) && (backToKw cpos (keywordEach [] X.env)).all (fun x => x.1.isSome)
      && decide ((e :: es).length + ([] : List Keyword).length + (if ([] : List Keyword).isEmpty then 0 else 1) < 30)) = true := by rfl)
    (hline : (apos.endLine == cpos.line) = true := by rfl) (hs : starEach (e :: es) X.env = (false, eval e X.env) :: starEach es X.env := by rfl) (hplain : (backTo cpos (starEach es X.env)).any (·.1) = false := by rfl) :
    PE X (.Call (.Attribute o name apos) (e :: es) [] cpos) (lE (dMS f w wa)) := by
  refine pe_imp (pe_bm PySem.F.plainAttrs_str slt hty hm ho ha hbase hfew hline hs hplain) fun σ H Q h => ?_
  obtain ⟨fr, g, hs, ρ, P, W, h, k⟩ := h
  refine ⟨fr, g, hs, ρ, _, W, h, fun d ρ1 v g1 hs1 H1 h1 s1 W1 d1 => ?_⟩
  obtain ⟨x, ed, h1⟩ := h1
  subst ed
  refine ⟨by rw [d1.1]; rfl, fr, g1, hs1, ρ1, _, W1, h1, fun ds ρ2 us g2 hs2 H2 h2 s2 W2 d2 => ?_⟩
  exact hf g2 H2 x v ds us _ Q W2.sg (d1.mono s2) d2 h2 (W2.out (s1.trans s2) k)
end
@[simp] def fCount : FL := fun xs ds k => ∃ d, ds = [d] ∧ min (PyData.depthAll xs) d.depth ≤ 64 ∧ k (.int (xs.countP fun z => PyData.eqv z d : Nat))
theorem md_count (K : PySem.W.Frag) : MdL (rCountD K) fCount := fun g H xs v ds vs k Q s d r h o => by
  obtain ⟨d', e, dep, h⟩ := h
  subst e
  obtain ⟨u, e, du⟩ := dps_one r
  exact ⟨g, d', u, xs, e, s, d, du, dep, o.old _ _ h rfl⟩
/-- the first place of an equal one -/
def firstEq (d : PyData) (xs : List PyData) : Option Nat := xs.findIdx? fun z => PyData.eqv z d
@[simp] def fIndex : FL := fun xs ds k => ∃ d j, ds = [d] ∧ min (PyData.depthAll xs) d.depth ≤ 64 ∧ firstEq d xs = some j ∧ k (.int (j : Nat))
theorem md_index (K : PySem.W.Frag) : MdL (rIndexDD K) fIndex := fun g H xs v ds vs k Q s d r h o => by
  obtain ⟨d', j, e, dep, hj, h⟩ := h
  subst e
  obtain ⟨u, e, du⟩ := dps_one r
  unfold firstEq at hj
  obtain ⟨hl, h1, h2⟩ := List.findIdx?_eq_some_iff_getElem.mp hj
  exact ⟨g, d', u, xs, j, xs[j], e, s, d, du, dep, List.getElem?_eq_getElem hl, h1, fun m z hm hz => by
    obtain ⟨hl2, e2⟩ := List.getElem?_eq_some_iff.mp hz
    have q := h2 m hm
    rw [e2] at q
    simpa using q, o.old _ _ h rfl⟩
end Fb
namespace Fb
open PySem PySem.Spec PyProof.Rows L2
set_option autoImplicit false
variable [Tb]

/-! ### refusals, their classes -/
def errs : List Str := ["BadCount", "BadFolk", "BadKind", "BadLog", "BadText", "Cannot", "NoChain", "NoDebt", "NoOne", "Worn"]
def sEq (x y : Str) : Bool := decide (x = y)
structure RfX (K : PySem.W.Frag) (mg : Str → Option Value) : Prop where
  glo : ∀ x ∈ errs, mg x = some (.ref (He.ga K x))
  fav : mg "FavourError" = some (.ref (He.ga K "FavourError"))
  val : mg "ValueError" = none
  exc : ∀ x ∈ errs, ExcC K (He.ga K x)
  kit : ∀ x ∈ errs, ∀ y ∈ errs, PySem.W.kitOne K (.ref (He.ga K x)) (.ref (He.ga K y)) = some (sEq x y)
  ve : ∀ x ∈ errs, PySem.W.kitOne K (.ref (He.ga K x)) (.type "ValueError") = some true
  exm : ∀ x ∈ errs, PySem.W.exmOne K (.ref (He.ga K x)) (.ref (He.ga K "FavourError")) = some true
/-- a refusal that is told by its class alone -/
def plainRf (x : Rf) : Prop := x.cls ∈ errs ∧ x.num = none
/-! ### isinstance(e, C) in the suite -/
def dIsE (i : Nat) (a : Addr) (b : Bool) (ρ : Ev) (P : PyData → Ev → Prop) : Prop := slot ρ i = some (bare a) ∧ P (.bool b) ρ
section
variable {X : Cx} {a : Addr} {oe : Obj} {pn : List (Addr × Obj)} {n y : Str} {p p1 p2 pos : Pos} {D : Addr}
theorem de_isE {C : Addr} {b : Bool} (T : ExcC X.K D) (hz : Zc (.ref D) none oe) (hf : ∃ vs, oe.data = .fields vs) (i : Nat) (hk : PySem.W.kitOne X.K (.ref D) (.ref C) = some b) (hy : X.mg y = some (.ref C)) (hm : X.mg "isinstance" = none)
    (hN : X.N[i]? = some n := by rfl) (hv : Vis X.env.scope n := by first | exact Or.inl rfl | exact Or.inr (Or.inl rfl) | exact Or.inr (Or.inr rfl)) (hd : (n == ("__debug__" : Str)) = false := by decide) (hcd : (n == ("__classdict__" : Str)) = false := by decide)
    (hgy : Gl X y := by rfl) (hdy : (y == ("__debug__" : Str)) = false := by decide) (hg : Gl X "isinstance" := by rfl) (hi : bootBuiltins "isinstance" = some (.builtin "isinstance") := by decide +kernel)
    (hs : starEach [.Name n p1, .Name y p2] X.env = (false, eval (.Name n p1) X.env) :: starEach [.Name y p2] X.env := by rfl) (hs2 : starEach [.Name y p2] X.env = (false, eval (.Name y p2) X.env) :: starEach [] X.env := by rfl)
    (hpl : (backTo pos (starEach [.Name y p2] X.env)).any (·.1) = false := by rfl) : PE (X.suite a ((a, oe) :: pn)) (.Call (.Name "isinstance" p) [.Name n p1, .Name y p2] [] pos) (lE (dIsE i a b)) := by
  refine pe_imp (pe_callB (call_isE T hz hf) hg hm hi (pa_cons (pe_var (i := i) hN hv hd hcd) (pa_cons (pe_glob hgy hy (v := .ref C) (r := rfl) hdy) pa_nil hs2) hs) (by decide) (by decide) hs hpl) fun σ H Q h => ?_
  obtain ⟨fr, g, hs, ρ, P, W, ⟨e, h⟩, k⟩ := h
  obtain ⟨v, hv, ev, _⟩ := W.at e
  subst ev
  exact ⟨_, hv, .ref C, .ref C, b, rfl, fun u hu => hu, hk, k _ ρ _ g hs H h (Same.refl g) W rfl⟩
theorem de_isEv {b : Bool} (T : ExcC X.K D) (hz : Zc (.ref D) none oe) (hf : ∃ vs, oe.data = .fields vs) (i : Nat) (hk : PySem.W.kitOne X.K (.ref D) (.type "ValueError") = some b) (hy : X.mg "ValueError" = none) (hm : X.mg "isinstance" = none)
    (hN : X.N[i]? = some n := by rfl) (hv : Vis X.env.scope n := by first | exact Or.inl rfl | exact Or.inr (Or.inl rfl) | exact Or.inr (Or.inr rfl)) (hd : (n == ("__debug__" : Str)) = false := by decide) (hcd : (n == ("__classdict__" : Str)) = false := by decide)
    (hgy : Gl X "ValueError" := by rfl) (hvy : bootBuiltins "ValueError" = some (.type "ValueError") := by decide +kernel) (hg : Gl X "isinstance" := by rfl) (hi : bootBuiltins "isinstance" = some (.builtin "isinstance") := by decide +kernel)
    (hs : starEach [.Name n p1, .Name "ValueError" p2] X.env = (false, eval (.Name n p1) X.env) :: starEach [.Name "ValueError" p2] X.env := by rfl) (hs2 : starEach [.Name "ValueError" p2] X.env = (false, eval (.Name "ValueError" p2) X.env) :: starEach [] X.env := by rfl)
    (hpl : (backTo pos (starEach [.Name "ValueError" p2] X.env)).any (·.1) = false := by rfl) : PE (X.suite a ((a, oe) :: pn)) (.Call (.Name "isinstance" p) [.Name n p1, .Name "ValueError" p2] [] pos) (lE (dIsE i a b)) := by
  refine pe_imp (pe_callB (call_isE T hz hf) hg hm hi (pa_cons (pe_var (i := i) hN hv hd hcd) (pa_cons (pe_bltn (v := .ty "ValueError") hgy hy hvy rfl (by decide) (by decide)) pa_nil hs2) hs) (by decide) (by decide) hs hpl) fun σ H Q h => ?_
  obtain ⟨fr, g, hs, ρ, P, W, ⟨e, h⟩, k⟩ := h
  obtain ⟨v, hv, ev, _⟩ := W.at e
  subst ev
  exact ⟨_, hv, .ty "ValueError", .type "ValueError", b, rfl, fun u hu => hu, hk, k _ ρ _ g hs H h (Same.refl g) W rfl⟩
end
/-- an expression that is never reached -/
theorem de_never {X : Cx} {e : Expr} : PE X e (lE fun _ _ => False) := ⟨fun pins s σ H Q I ⟨fr, g, hs, ρ, P, W, h, k⟩ => h.elim⟩
/-- a reading that may lean on the slots' number -/
theorem pss_len {X : Cx} {ss : List Stmt} {t : TS} {n : Nat} (hn : X.N.length = n) (h : PSs X ss t) : PSs X ss (fun D σ H => σ.length = n → t D σ H) := ⟨fun pins s σ H D I hw => h.run pins s σ H D I (hw (I.len.trans hn))⟩
/-- a reading told by one of several -/
theorem pss_ex {X : Cx} {ss : List Stmt} {α : Type} {A : α → Prop} {t : α → TS} (h : ∀ x, A x → PSs X ss (t x)) : PSs X ss (fun D σ H => ∃ x, A x ∧ t x D σ H) := ⟨fun pins s σ H D I ⟨x, hx, hw⟩ => (h x hx).run pins s σ H D I hw⟩
/-! ### what is told of a refusal -/
/-- what of the heap is no table -/
def ordH (H : Hp) : Hp := fun a => match H a with
  | some o => if ord o = true then some o else none
  | none => none
theorem ordH_some {H : Hp} {a : Addr} {o : HO} (h : ordH H a = some o) : H a = some o ∧ ord o = true := by
  unfold ordH at h
  cases q : H a with
  | none =>
    rw [q] at h
    cases h
  | some u =>
    rw [q] at h
    have h : (if ord u = true then some u else none) = some o := h
    by_cases z : ord u = true
    · rw [if_pos z] at h
      cases h
      exact ⟨rfl, z⟩
    · rw [if_neg z] at h
      cases h
theorem ordH_of {H : Hp} {a : Addr} {o : HO} (h : H a = some o) (z : ord o = true) : ordH H a = some o := by
  unfold ordH
  rw [h]
  exact if_pos z
/-- the data that is told, for the refusal x -/
def TTold (K : PySem.W.Frag) (f : Rf → Option PyData) : (XK → Hp → VK → Prop) → Hp → VK → Prop := fun tl H Q =>
  tl (fun cls d H' => ∃ x z, f x = some z ∧ Throws K x cls d H' ∧ LamX.Tabs Tb.T H' ∧ ∀ H'' g v, Same (ordH H') H'' → LamX.Tabs Tb.T H'' → Same g H'' → (∀ a o, g a = some o → ordH H' a = none ∧ ord o = true) → DP g z v → Q v H'') H Q
/-- the def that calls what it got, at the caller X's state -/
structure ToldE (P : Program) (w : World) (K : PySem.W.Frag) (mg : Str → Option Value) (base : Heap) (f : Rf → Option PyData) : Prop where
  ex : ∃ (g : Addr) (fd : FuncData) (params : Arguments) (body : List Stmt) (scope : Scope) (Ng : List Str) (a : Str), FunD K "_law_told" "_law_told" params body scope [] [] g fd ∧ mg "_law_told" = some (.ref g) ∧ L2.Binds K fd [a] [] ∧ FnScope Ng [a] scope ∧ Ng[0]? = some a ∧ Vis scope a ∧ ((a == ("__debug__" : Str)) = false ∧ (a == ("__classdict__" : Str)) = false) ∧
    ∀ (X : Cx) (q : Str), X.prog = P → X.w = w → X.K = K → X.mg = mg → X.base = base → Room 1 X.A → LamX.GivesTo X Ng "_law_told" scope g fd.code body a q (TTold K f)
def dTold (f : Rf → Option PyData) (w : EX) (ρ : Ev) (P : SV → Ev → Prop) : Prop := w ρ P fun x ρ' => ∃ z, f x = some z ∧ P (.dat z) ρ'
theorem Own.more {fr g : Hp} {hs : Prts} {ρ : Ev} {σ : L2.St} {H H' : Hp} (W : Own fr g hs ρ σ H) (s : Same (ordH H) H') (t : LamX.Tabs Tb.T H') : Own fr g hs ρ σ H' :=
  ⟨W.len, fun a o q => s a o (ordH_of (W.sf a o q) (W.nf a o q)), W.df, fun a o q => s a o (ordH_of (W.sg a o q) (W.ng a o q)), fun i a o q => s a o (ordH_of (W.sh i a o q) (W.nh i a o q)), W.dg, W.dh, W.rep, t, W.nf, W.ng, W.nh⟩
theorem lO_told {K : PySem.W.Frag} {f : Rf → Option PyData} {w : EX} {σ : L2.St} {H : Hp} {Q : VK} (h : lO (dTold f w) σ H Q) : LamX.tLam Tb.T (TTold K f) (fun E => lX K E w) σ H Q := by
  obtain ⟨fr, g, hs, ρ, P, W, h, k⟩ := h
  refine ⟨W.tb, fun H1 e t => ⟨fr, g, hs, ρ, P, _, W.extN e t, h, k, fun x ρ' cls d g' hs' H' hx s' W' th => ?_⟩⟩
  obtain ⟨z, fz, hP⟩ := hx
  refine ⟨x, z, fz, th, W'.tb, fun H'' gt v s2 t2 st nt dz => ?_⟩
  have W2 := W'.more s2 t2
  have A : Apart fr g' hs' gt H'' := ⟨st, fun a o e => by
    obtain ⟨e1, e2⟩ := nt a o e
    have no : ∀ {hh : Hp}, (∀ u, hh a = some u → ordH H' a = some u) → hh a = none := fun {hh} z => by
      cases q : hh a with
      | none => rfl
      | some u =>
        rw [z u q] at e1
        cases e1
    exact ⟨no fun u q => ordH_of (W'.sf a u q) (W'.nf a u q), no fun u q => ordH_of (W'.sg a u q) (W'.ng a u q), fun i => no fun u q => ordH_of (W'.sh i a u q) (W'.nh i a u q)⟩, fun a o e => (nt a o e).2⟩
  have W3 := W2.absorb A
  exact k _ ρ' v (uni g' gt) hs' nil H'' hP (s'.trans uni_l) W3 (DP.mono (uni_r fun a o e => (A.n a o e).2.1) dz) apart_nil
theorem ex2 {α : Type} {A B : α → Prop} {w : α} (h1 : A w) (h2 : B w) : ∃ w, A w ∧ B w := ⟨w, h1, h2⟩
/-- the one except clause's suite -/
def suiteOf : List Stmt → List Stmt
  | [.Try _ [.ExceptHandler _ _ s _] _ _ _] => s
  | _ => []
/-- told by the class's name, 0 -/
def errs1 : List Str := ["BadCount", "BadKind", "Cannot", "NoChain", "NoDebt", "NoOne", "Worn"]
theorem errs_of {x : Str} (h : x ∈ errs1) : x ∈ errs := by
  simp [errs1] at h
  simp [errs]
  rcases h with h | h | h | h | h | h | h <;> simp [h]
def told1 (x : Rf) : Option PyData := if x.cls ∈ errs1 ∧ x.num = none then some (.tuple [.str x.cls, .int 0]) else none
/-- what a refusal's word is -/
def rfD (x : Str) : PyData := .tuple [.str x, .int 0]
@[simp] theorem told1_BadCount : told1 ⟨"BadCount", none⟩ = some (rfD "BadCount") := by simp [told1, errs1, rfD]
@[simp] theorem told1_BadKind : told1 ⟨"BadKind", none⟩ = some (rfD "BadKind") := by simp [told1, errs1, rfD]
@[simp] theorem told1_Cannot : told1 ⟨"Cannot", none⟩ = some (rfD "Cannot") := by simp [told1, errs1, rfD]
@[simp] theorem told1_NoChain : told1 ⟨"NoChain", none⟩ = some (rfD "NoChain") := by simp [told1, errs1, rfD]
@[simp] theorem told1_NoDebt : told1 ⟨"NoDebt", none⟩ = some (rfD "NoDebt") := by simp [told1, errs1, rfD]
@[simp] theorem told1_NoOne : told1 ⟨"NoOne", none⟩ = some (rfD "NoOne") := by simp [told1, errs1, rfD]
@[simp] theorem told1_Worn : told1 ⟨"Worn", none⟩ = some (rfD "Worn") := by simp [told1, errs1, rfD]
section
variable {X : Cx} {params : Arguments} {body : Expr} {scope : Scope} {p lpos pos : Pos} {c0 P0 : Addr} {k : Nat} {w : EX} {f : Rf → Option PyData}
theorem do_told {K : PySem.W.Frag} (D : ToldE X.prog X.w X.K X.mg X.base f) (L : LamK X c0 P0) (hr : Room (k + 2) X.A) (LS : LamX.LamS X.env.scope scope)
    (hbody : ∀ (A : Around) (outer : List PySem.Env) (s : Shared) (H : Hp) (E : XK) (fa c' : Addr), Room k (A.deeper (LamX.lamEnv X scope s.heap.objs.size fa c')) → PE (LamX.lamCx X A outer s H E scope fa c') body (lX K E w))
    (hg : Gl X "_law_told" := by rfl) (hdef : defaultsOf params X.env = ([], []) := by rfl)
    (hbind : ∀ (q : Str) (cl : List (Str × Addr)) (pm cv ctv : Value), bindArgs (PySem.W.kla_fn "<lambda>" q params body scope cl pm cv ctv) ⟨[], []⟩ = pure [] := by intros; rfl) (hK : X.K = K := by rfl) :
    PE X (.Call (.Name "_law_told" p) [.Lambda params body scope lpos] [] pos) (lO (dTold f w)) := by
  subst hK
  obtain ⟨g, fd, pg, bg, sg, Ng, a, F, hm, hb, Sg, hNg, hva, hda, G⟩ := D.ex
  have hG := G X (X.env.qual ++ "<lambda>") rfl rfl rfl rfl rfl (hr.mono (by omega))
  obtain ⟨oc, od, dV, kV, doc, pm, an, cdv, ct, osl, rfl, lk, hcd, _, _⟩ := F.ex
  exact pe_imp (LamX.pe_lamcall (T := Tb.T) hg hm F.kp lk hcd hb Sg hNg hva hG L.tb L.code L.mem L.uniq hr LS hdef hbind hbody (by decide) hda.1 hda.2) fun _ _ _ h => lO_told h
end
end Fb
namespace Fb
open PySem L2
set_option autoImplicit false
variable [Tb]

/-! ### readings read from the head -/
def sAny (ρ : Ev) (i : Nat) (k : SV → Prop) : Prop := ∃ sv, slot ρ i = some sv ∧ k sv
def sBk (K : PySem.W.Frag) (ρ : Ev) (i : Nat) (k : Addr → Bk → Prop) : Prop := ∃ a B, slot ρ i = some (bk K a B) ∧ k a B
def sRef (ρ : Ev) (i : Nat) (k : Addr → Prop) : Prop := ∃ p, slot ρ i = some (bare p) ∧ k p
def sLst (ρ : Ev) (i : Nat) (k : Addr → List PyData → Prop) : Prop := ∃ a ds, slot ρ i = some (.lst a ds) ∧ k a ds
def sDic (ρ : Ev) (i : Nat) (k : Addr → List (Key × PyData) → Prop) : Prop := ∃ a kvs, slot ρ i = some (.dic a kvs) ∧ k a kvs
def sDicA (ρ : Ev) (i : Nat) (a : Addr) (k : List (Key × PyData) → Prop) : Prop := ∃ kvs, slot ρ i = some (.dic a kvs) ∧ k kvs
def bK (d : PyData) (k : Bool → Prop) : Prop := ∃ b, d = .bool b ∧ k b
def iK (d : PyData) (k : Int → Prop) : Prop := ∃ b, d = .int b ∧ k b
def strK (d : PyData) (k : Str → Prop) : Prop := ∃ b, d = .str b ∧ k b
def tK (d : PyData) (k : List PyData → Prop) : Prop := ∃ b, d = .tuple b ∧ k b
def lstK (d : PyData) (k : List PyData → Prop) : Prop := ∃ b, d = .list b ∧ k b
def i1K (ds : List PyData) (k : Int → Prop) : Prop := ∃ j, ds = [.int j] ∧ k j
def i2K (ds : List PyData) (k : Int → Int → Prop) : Prop := ∃ i j, ds = [.int i, .int j] ∧ k i j
def frozK (r : SV) (k : PyData → Prop) : Prop := ∃ d, froz r = some d ∧ k d
def itemsK (d : PyData) (k : List PyData → Prop) : Prop := ∃ ds, itemsD d = some ds ∧ k ds
def keyK (d : PyData) (k : Key → Prop) : Prop := ∃ key, keyD d = some key ∧ k key
def atK {α : Type} (xs : List α) (i : Int) (k : α → Prop) : Prop := ∃ d, atI xs i = some d ∧ k d
def ixK (n : Nat) (j : Int) (k : Nat → Prop) : Prop := ∃ m, ixN n j = some m ∧ k m
def lookK (kvs : List (Key × PyData)) (key : Key) (k : PyData → Prop) : Prop := ∃ d, lookD kvs key = some d ∧ k d
def lookI (kvs : List (Key × PyData)) (key : Key) (k : Int → Prop) : Prop := ∃ m, lookD kvs key = some (.int m) ∧ k m
def someK {α : Type} (o : Option α) (k : α → Prop) : Prop := ∃ z, o = some z ∧ k z
def vVar (sv : SV) (i : Nat) (ρ : Ev) (P : PyData → Ev → Prop) : Prop := match sv with
  | .dat d => P d ρ
  | .lst _ ds => P (.list ds) (ρ.set i (some (.dat (.list ds))))
  | _ => False
def vInt (sv : SV) (k : Int → Prop) : Prop := ∃ m, sv = .dat (.int m) ∧ k m
section
variable {ρ r : Ev} {i : Nat} {x : Option SV} {sv : SV} {K : PySem.W.Frag} {a : Addr} {B : Bk}
@[simp ↓] theorem sAny_0 {k : SV → Prop} : sAny (some sv :: r) 0 k = k sv := by simp [sAny]
@[simp ↓] theorem sAny_s {k : SV → Prop} : sAny (x :: r) (i + 1) k = sAny r i k := rfl
@[simp ↓] theorem sBk_0 {k : Addr → Bk → Prop} : sBk K (some (bk K a B) :: r) 0 k = k a B := by simp [sBk]
@[simp ↓] theorem sBk_s {k : Addr → Bk → Prop} : sBk K (x :: r) (i + 1) k = sBk K r i k := rfl
@[simp ↓] theorem sRef_0 {k : Addr → Prop} : sRef (some (bare a) :: r) 0 k = k a := by simp [sRef]
@[simp ↓] theorem sRef_s {k : Addr → Prop} : sRef (x :: r) (i + 1) k = sRef r i k := rfl
@[simp ↓] theorem sLst_0 {ds : List PyData} {k : Addr → List PyData → Prop} : sLst (some (.lst a ds) :: r) 0 k = k a ds := by simp [sLst]
@[simp ↓] theorem sLst_s {k : Addr → List PyData → Prop} : sLst (x :: r) (i + 1) k = sLst r i k := rfl
@[simp ↓] theorem sDic_0 {ds : List (Key × PyData)} {k : Addr → List (Key × PyData) → Prop} : sDic (some (.dic a ds) :: r) 0 k = k a ds := by simp [sDic]
@[simp ↓] theorem sDic_s {k : Addr → List (Key × PyData) → Prop} : sDic (x :: r) (i + 1) k = sDic r i k := rfl
@[simp ↓] theorem sDicA_0 {ds : List (Key × PyData)} {k : List (Key × PyData) → Prop} : sDicA (some (.dic a ds) :: r) 0 a k = k ds := by simp [sDicA]
@[simp ↓] theorem sDicA_s {k : List (Key × PyData) → Prop} : sDicA (x :: r) (i + 1) a k = sDicA r i a k := rfl
@[simp ↓] theorem vVar_d {d : PyData} {P : PyData → Ev → Prop} : vVar (.dat d) i ρ P = P d ρ := rfl
@[simp ↓] theorem vVar_l {ds : List PyData} {P : PyData → Ev → Prop} : vVar (.lst a ds) i ρ P = P (.list ds) (ρ.set i (some (.dat (.list ds)))) := rfl
@[simp ↓] theorem vInt_i {m : Int} {k : Int → Prop} : vInt (.dat (.int m)) k = k m := by simp [vInt]
@[simp ↓] theorem bK_b {b : Bool} {k : Bool → Prop} : bK (.bool b) k = k b := by simp [bK]
@[simp ↓] theorem iK_i {b : Int} {k : Int → Prop} : iK (.int b) k = k b := by simp [iK]
@[simp ↓] theorem strK_s {b : Str} {k : Str → Prop} : strK (.str b) k = k b := by simp [strK]
@[simp ↓] theorem tK_t {b : List PyData} {k : List PyData → Prop} : tK (.tuple b) k = k b := by simp [tK]
@[simp ↓] theorem lstK_l {b : List PyData} {k : List PyData → Prop} : lstK (.list b) k = k b := by simp [lstK]
@[simp ↓] theorem i1K_i {j : Int} {k : Int → Prop} : i1K [.int j] k = k j := by simp [i1K]
@[simp ↓] theorem i2K_i {n j : Int} {k : Int → Int → Prop} : i2K [.int n, .int j] k = k n j := by simp [i2K]
@[simp ↓] theorem frozK_d {d : PyData} {k : PyData → Prop} : frozK (.dat d) k = k d := by simp [frozK]
@[simp ↓] theorem frozK_l {ds : List PyData} {k : PyData → Prop} : frozK (.lst a ds) k = k (.list ds) := by simp [frozK]
@[simp ↓] theorem itemsK_l {ds : List PyData} {k : List PyData → Prop} : itemsK (.list ds) k = k ds := by simp [itemsK]
@[simp ↓] theorem itemsK_t {ds : List PyData} {k : List PyData → Prop} : itemsK (.tuple ds) k = k ds := by simp [itemsK]
@[simp ↓] theorem itemsK_s {z : Str} {k : List PyData → Prop} : itemsK (.str z) k = k (z.cps.toList.map fun c => .str ⟨#[c]⟩) := by simp [itemsK]
@[simp ↓] theorem keyK_i {b : Int} {k : Key → Prop} : keyK (.int b) k = k (.inl b) := by simp [keyK]
@[simp ↓] theorem keyK_s {b : Str} {k : Key → Prop} : keyK (.str b) k = k (.inr b) := by simp [keyK]
@[simp ↓] theorem atK_0 {α : Type} {x : α} {xs : List α} {k : α → Prop} : atK (x :: xs) 0 k = k x := by simp [atK]
@[simp ↓] theorem atK_1 {α : Type} {x y : α} {xs : List α} {k : α → Prop} : atK (x :: y :: xs) 1 k = k y := by simp [atK]
@[simp ↓] theorem atK_2 {α : Type} {x y z : α} {xs : List α} {k : α → Prop} : atK (x :: y :: z :: xs) 2 k = k z := by simp [atK]
@[simp ↓] theorem atK_3 {α : Type} {x y z u : α} {xs : List α} {k : α → Prop} : atK (x :: y :: z :: u :: xs) 3 k = k u := by simp [atK]
@[simp ↓] theorem atK_4 {α : Type} {x y z u v : α} {xs : List α} {k : α → Prop} : atK (x :: y :: z :: u :: v :: xs) 4 k = k v := by simp [atK]
@[simp ↓] theorem atK_5 {α : Type} {x y z u v w : α} {xs : List α} {k : α → Prop} : atK (x :: y :: z :: u :: v :: w :: xs) 5 k = k w := by simp [atK]
@[simp ↓] theorem someK_s {α : Type} {z : α} {k : α → Prop} : someK (some z) k = k z := by simp [someK]
/- what is left over -/
@[simp] theorem bK_eq {d : PyData} {k : Bool → Prop} : bK d k = ∃ b, d = .bool b ∧ k b := rfl
@[simp] theorem iK_eq {d : PyData} {k : Int → Prop} : iK d k = ∃ b, d = .int b ∧ k b := rfl
@[simp] theorem strK_eq {d : PyData} {k : Str → Prop} : strK d k = ∃ b, d = .str b ∧ k b := rfl
@[simp] theorem tK_eq {d : PyData} {k : List PyData → Prop} : tK d k = ∃ b, d = .tuple b ∧ k b := rfl
@[simp] theorem lstK_eq {d : PyData} {k : List PyData → Prop} : lstK d k = ∃ b, d = .list b ∧ k b := rfl
@[simp] theorem i1K_eq {ds : List PyData} {k : Int → Prop} : i1K ds k = ∃ j, ds = [.int j] ∧ k j := rfl
@[simp] theorem i2K_eq {ds : List PyData} {k : Int → Int → Prop} : i2K ds k = ∃ i j, ds = [.int i, .int j] ∧ k i j := rfl
@[simp] theorem frozK_eq {r : SV} {k : PyData → Prop} : frozK r k = ∃ d, froz r = some d ∧ k d := rfl
@[simp] theorem itemsK_eq {d : PyData} {k : List PyData → Prop} : itemsK d k = ∃ ds, itemsD d = some ds ∧ k ds := rfl
@[simp] theorem keyK_eq {d : PyData} {k : Key → Prop} : keyK d k = ∃ key, keyD d = some key ∧ k key := rfl
@[simp] theorem atK_eq {α : Type} {xs : List α} {i : Int} {k : α → Prop} : atK xs i k = ∃ d, atI xs i = some d ∧ k d := rfl
@[simp] theorem ixK_eq {n : Nat} {j : Int} {k : Nat → Prop} : ixK n j k = ∃ m, ixN n j = some m ∧ k m := rfl
@[simp] theorem lookK_eq {kvs : List (Key × PyData)} {key : Key} {k : PyData → Prop} : lookK kvs key k = ∃ d, lookD kvs key = some d ∧ k d := rfl
@[simp] theorem lookI_eq {kvs : List (Key × PyData)} {key : Key} {k : Int → Prop} : lookI kvs key k = ∃ m, lookD kvs key = some (.int m) ∧ k m := rfl
@[simp] theorem vInt_eq {sv : SV} {k : Int → Prop} : vInt sv k = ∃ m, sv = .dat (.int m) ∧ k m := rfl
@[simp] theorem someK_eq {α : Type} {o : Option α} {k : α → Prop} : someK o k = ∃ z, o = some z ∧ k z := rfl
@[simp] theorem sAny_eq {k : SV → Prop} : sAny ρ i k = ∃ sv, slot ρ i = some sv ∧ k sv := rfl
@[simp] theorem sBk_eq {k : Addr → Bk → Prop} : sBk K ρ i k = ∃ a B, slot ρ i = some (bk K a B) ∧ k a B := rfl
@[simp] theorem sRef_eq {k : Addr → Prop} : sRef ρ i k = ∃ p, slot ρ i = some (bare p) ∧ k p := rfl
@[simp] theorem sLst_eq {k : Addr → List PyData → Prop} : sLst ρ i k = ∃ a ds, slot ρ i = some (.lst a ds) ∧ k a ds := rfl
@[simp] theorem sDic_eq {k : Addr → List (Key × PyData) → Prop} : sDic ρ i k = ∃ a kvs, slot ρ i = some (.dic a kvs) ∧ k a kvs := rfl
@[simp] theorem sDicA_eq {k : List (Key × PyData) → Prop} : sDicA ρ i a k = ∃ kvs, slot ρ i = some (.dic a kvs) ∧ k kvs := rfl
end
section
variable {k : PyData → Prop}
@[simp ↓] theorem wAdd_i {i j : Int} : wAdd (.int i) (.int j) k = k (.int (i + j)) := rfl
@[simp ↓] theorem wAdd_s {x y : Str} : wAdd (.str x) (.str y) k = (x.length + y.length ≤ sizeLine ∧ k (.str (x ++ y))) := rfl
@[simp ↓] theorem wAdd_l {xs ys : List PyData} : wAdd (.list xs) (.list ys) k = (xs.length + ys.length ≤ sizeLine ∧ k (.list (xs ++ ys))) := rfl
@[simp ↓] theorem wAdd_t {xs ys : List PyData} : wAdd (.tuple xs) (.tuple ys) k = (xs.length + ys.length ≤ sizeLine ∧ k (.tuple (xs ++ ys))) := rfl
@[simp ↓] theorem wSub_i {i j : Int} : wSub (.int i) (.int j) k = k (.int (i - j)) := rfl
@[simp ↓] theorem wMul_i {i j : Int} : wMul (.int i) (.int j) k = (CMulX i j ∧ k (.int (i * j))) := rfl
@[simp ↓] theorem wFdiv_i {i j : Int} : wFdiv (.int i) (.int j) k = ((0 < j ∧ j < 1073741824) ∧ k (.int (i / j))) := rfl
@[simp ↓] theorem wMod_i {i j : Int} : wMod (.int i) (.int j) k = (0 < j ∧ k (.int (i % j))) := rfl
@[simp ↓] theorem wEq_r {x y : PyData} : wEq x y k = (min x.depth y.depth ≤ 64 ∧ k (.bool (PyData.eqv x y))) := rfl
@[simp ↓] theorem wNe_r {x y : PyData} : wNe x y k = (min x.depth y.depth ≤ 64 ∧ k (.bool (!PyData.eqv x y))) := rfl
@[simp ↓] theorem wCm_i {p : Int → Int → Bool} {f : List Nat → List Nat → Bool} {i j : Int} : wCm p f (.int i) (.int j) k = k (.bool (p i j)) := rfl
@[simp ↓] theorem wCm_s {p : Int → Int → Bool} {f : List Nat → List Nat → Bool} {x y : Str} : wCm p f (.str x) (.str y) k = k (.bool (f x.cps.toList y.cps.toList)) := rfl
@[simp ↓] theorem wIn_l {neg : Bool} {d : PyData} {ds : List PyData} : wIn neg d (.list ds) k = (min (PyData.depthAll ds) d.depth ≤ 64 ∧ k (.bool (xor neg (anyEq d ds)))) := by cases d <;> rfl
@[simp ↓] theorem wIn_t {neg : Bool} {d : PyData} {ds : List PyData} : wIn neg d (.tuple ds) k = (min (PyData.depthAll ds) d.depth ≤ 64 ∧ k (.bool (xor neg (anyEq d ds)))) := by cases d <;> rfl
@[simp ↓] theorem wIn_s {neg : Bool} {x y : Str} : wIn neg (.str x) (.str y) k = k (.bool (xor neg (subStr x y))) := rfl
@[simp ↓] theorem wIsN_n {neg : Bool} {x : PyData} : wIsN neg x .none k = k (.bool (xor neg (isNone x))) := by simp [wIsN]
@[simp ↓] theorem wIx_l {ds : List PyData} {i : Int} : wIx (.list ds) (.int i) k = atK ds i k := rfl
@[simp ↓] theorem wIx_t {ds : List PyData} {i : Int} : wIx (.tuple ds) (.int i) k = atK ds i k := rfl
@[simp ↓] theorem wIx_s {z : Str} {i : Int} : wIx (.str z) (.int i) k = (z.length ≤ sizeLine ∧ atK z.cps.toList i fun c => k (.str ⟨#[c]⟩)) := rfl
@[simp ↓] theorem wSl_l {ds : List PyData} {lo hi : Option Int} : wSl (.list ds) lo hi k = k (.list (cutD ds lo hi)) := rfl
@[simp ↓] theorem wSl_t {ds : List PyData} {lo hi : Option Int} : wSl (.tuple ds) lo hi k = k (.tuple (cutD ds lo hi)) := rfl
@[simp ↓] theorem wSl_s {z : Str} {lo hi : Option Int} : wSl (.str z) lo hi k = (z.length ≤ sizeLine ∧ k (.str (cutS z lo hi))) := rfl
@[simp ↓] theorem fLen_l {ds : List PyData} : fLen [.list ds] k = k (.int (ds.length : Nat)) := rfl
@[simp ↓] theorem fLen_t {ds : List PyData} : fLen [.tuple ds] k = k (.int (ds.length : Nat)) := rfl
@[simp ↓] theorem fLen_s {z : Str} : fLen [.str z] k = (z.length ≤ sizeLine ∧ k (.int (z.length : Nat))) := rfl
@[simp ↓] theorem fInt_i {i : Int} : fInt [.int i] k = k (.int i) := rfl
@[simp ↓] theorem fInt_b {b : Bool} : fInt [.bool b] k = k (.int (if b then 1 else 0)) := rfl
@[simp ↓] theorem fTup_l {ds : List PyData} : fTup [.list ds] k = k (.tuple ds) := rfl
@[simp ↓] theorem fTup_t {ds : List PyData} : fTup [.tuple ds] k = k (.tuple ds) := rfl
@[simp ↓] theorem fSum_l {ds : List PyData} : fSum [.list ds] k = someK (asInts ds) fun ns => k (.int ns.sum) := rfl
@[simp ↓] theorem fAll_l {ds : List PyData} : fAll [.list ds] k = someK (asBools ds) fun bs => k (.bool (bs.all id)) := rfl
@[simp ↓] theorem fAny_l {ds : List PyData} : fAny [.list ds] k = someK (asBools ds) fun bs => k (.bool (bs.any id)) := rfl
end
section
variable {K : PySem.W.Frag} {i j : Nat} {wk w w1 w2 we : ET} {wa : EA} {wo : EO} {ρ : Ev} {T : Edn} {P : PyData → Ev → Prop} {Po : SV → Ev → Prop}
@[simp ↓] theorem r_dBGet : dBGet K i wk ρ Po = sBk K ρ i fun a B => wk ρ fun k ρ1 => slot ρ1 i = some (bk K a B) ∧ iK k fun n => someK (dbGet B.debts n) fun d => Po (bare d.spot) ρ1 := by simp [dBGet, sBk, iK, someK]
@[simp ↓] theorem r_dBPop : dBPop K i wk T ρ = sBk K ρ i fun a B => wk ρ fun k ρ1 => slot ρ1 i = some (bk K a B) ∧ iK k fun n => someK (dbGet B.debts n) fun _ => T.nx (ρ1.set i (some (bk K a { B with debts := dbDrop B.debts n }))) := by simp [dBPop, sBk, iK, someK]
@[simp ↓] theorem r_dBTell : dBTell K i w T ρ = sBk K ρ i fun a B => w ρ fun d ρ1 => slot ρ1 i = some (bk K a B) ∧ B.story.length < sizeLine ∧ T.nx (ρ1.set i (some (bk K a { B with story := B.story ++ [d] }))) := rfl
@[simp ↓] theorem r_dDf {f : Df} : dDf K f i wo ρ P = wo ρ fun r ρ1 => sBk K ρ1 i fun a B => ∃ n d, (n, d) ∈ B.debts ∧ r = bare d.spot ∧ P (f.get d) ρ1 := by simp [dDf, sBk]
@[simp ↓] theorem r_dDset : dDset K i j w T ρ = w ρ fun z ρ1 => sBk K ρ1 i fun a B => ∃ n d m, (n, d) ∈ B.debts ∧ slot ρ1 j = some (bare d.spot) ∧ z = .int m ∧ T.nx (ρ1.set i (some (bk K a { B with debts := dbSet B.debts n { d with creditor := m } }))) := by simp [dDset, sBk]
@[simp ↓] theorem r_dDaug {m : Int} : dDaug K i j m T ρ = sBk K ρ i fun a B => ∃ n d, (n, d) ∈ B.debts ∧ slot ρ j = some (bare d.spot) ∧ T.nx (ρ.set i (some (bk K a { B with debts := dbSet B.debts n { d with passed := d.passed + m } }))) := by simp [dDaug, sBk]
@[simp] theorem r_dBNew : dBNew K i wk wa T ρ = wa ρ fun ds ρ1 => ∃ a B d c k b, slot ρ1 i = some (bk K a B) ∧ ds = [.int d, .int c, .str k, .int b] ∧ wk ρ1 fun z ρ2 => ∃ n, z = .int n ∧ slot ρ2 i = some (bk K a B) ∧ (∀ p ∈ B.debts, p.1 < n) ∧ B.debts.length < sizeLine ∧
  ∀ x, T.nx (ρ2.set i (some (bk K a { B with debts := B.debts ++ [(n, ⟨d, c, k, b, 0, x⟩)] }))) := rfl
@[simp ↓] theorem r_dBook {ok : List Str → Int → Int → Prop} : dBook K ok we w1 w2 ρ Po = we ρ fun d ρ1 => w1 ρ1 fun d1 ρ2 => w2 ρ2 fun d2 ρ3 => ∃ fs, d = .tuple (fs.map .str) ∧ iK d1 fun l => iK d2 fun h => ok fs l h ∧ ∀ x D S, Po (bk K x (bk0 fs l h D S)) ρ3 := by simp [dBook, iK]
@[simp ↓] theorem r_dTold {f : Rf → Option PyData} {w : EX} : dTold f w ρ Po = w ρ Po fun x ρ' => someK (f x) fun z => Po (.dat z) ρ' := rfl
@[simp] theorem r_dBkInit : dBkInit K T ρ = ∃ x fs l h, slot ρ 0 = some (newV (cBook K) x) ∧ slot ρ 1 = some (.dat (.tuple (fs.map .str))) ∧ slot ρ 2 = some (.dat (.int l)) ∧ slot ρ 3 = some (.dat (.int h)) ∧ ∀ D S, T.nx (ρ.set 0 (some (bk K x (bk0 fs l h D S)))) := rfl
end
@[simp ↓] theorem r_dVar {i : Nat} {ρ : Ev} {P : PyData → Ev → Prop} : dVar i ρ P = sAny ρ i fun sv => vVar sv i ρ P := by
  unfold dVar sAny
  cases q : slot ρ i with
  | none => simp
  | some sv => cases sv <;> simp [vVar]
@[simp ↓] theorem r_dAug {f : Int → Int → Int} {i : Nat} {w : ET} {T : Edn} {ρ : Ev} : dAug f i w T ρ = sAny ρ i fun sv => vInt sv fun m => w ρ fun d ρ1 => iK d fun n => T.nx (ρ1.set i (some (.dat (.int (f m n))))) := by
  refine propext ⟨fun ⟨m, h1, h2⟩ => ⟨_, h1, m, rfl, h2⟩, fun ⟨sv, h1, m, h2, h3⟩ => ⟨m, by rw [h1, h2], h3⟩⟩
/-- n[k] of a dict, of a list, a tuple or a text -/
def sSub (ρ : Ev) (i : Nat) (kd kx : Prop) : Prop := ∃ sv, slot ρ i = some sv ∧ match sv with
  | .dic _ _ => kd
  | _ => kx
@[simp ↓] theorem sSub_d {a : Addr} {kvs : List (Key × PyData)} {r : Ev} {kd kx : Prop} : sSub (some (.dic a kvs) :: r) 0 kd kx = kd := by simp [sSub]
@[simp ↓] theorem sSub_l {a : Addr} {ds : List PyData} {r : Ev} {kd kx : Prop} : sSub (some (.lst a ds) :: r) 0 kd kx = kx := by simp [sSub]
@[simp ↓] theorem sSub_t {d : PyData} {r : Ev} {kd kx : Prop} : sSub (some (.dat d) :: r) 0 kd kx = kx := by simp [sSub]
@[simp ↓] theorem sSub_s {x : Option SV} {i : Nat} {r : Ev} {kd kx : Prop} : sSub (x :: r) (i + 1) kd kx = sSub r i kd kx := rfl
def ixS (sv : SV) (k : PyData) (q : PyData → Prop) : Prop := ixOf sv k q
@[simp ↓] theorem ixS_l {a : Addr} {ds : List PyData} {j : Int} {q : PyData → Prop} : ixS (.lst a ds) (.int j) q = atK ds j q := by simp [ixS, atK]
@[simp ↓] theorem ixS_d {d k : PyData} {q : PyData → Prop} : ixS (.dat d) k q = wIx d k q := rfl
@[simp ↓] theorem r_dSub {i : Nat} {wk : ET} {ρ : Ev} {P : PyData → Ev → Prop} : dSub i wk ρ P = sSub ρ i (wk ρ fun k ρ1 => sDic ρ1 i fun _ kvs => keyK k fun key => lookK kvs key fun d => P d ρ1) (wk ρ fun k ρ1 => sAny ρ1 i fun sv => ixS sv k fun d => P d ρ1) := by
  unfold dSub sSub
  cases q : slot ρ i with
  | none => simp
  | some sv => cases sv <;> simp [sDic, keyK, lookK, sAny, ixS]

@[simp ↓] theorem r_dC {d : PyData} {ρ : Ev} {P : PyData → Ev → Prop} : dC d ρ P = (P d ρ) := rfl
@[simp ↓] theorem r_d2 {wr : PyData → PyData → (PyData → Prop) → Prop} {wa wb : ET} {ρ : Ev} {P : PyData → Ev → Prop} : d2 wr wa wb ρ P = (wa ρ fun x ρ1 => wb ρ1 fun y ρ2 => wr x y fun z => P z ρ2) := rfl
@[simp ↓] theorem r_dAnd {t u : ETb} {ρ : Ev} {P : Bool → Ev → Prop} : dAnd t u ρ P = (t ρ fun c ρ1 => if c = true then u ρ1 P else P false ρ1) := rfl
@[simp ↓] theorem r_dOr {t u : ETb} {ρ : Ev} {P : Bool → Ev → Prop} : dOr t u ρ P = (t ρ fun c ρ1 => if c = true then P true ρ1 else u ρ1 P) := rfl
@[simp ↓] theorem r_dNot {t : ETb} {ρ : Ev} {P : Bool → Ev → Prop} : dNot t ρ P = (t ρ fun c ρ1 => P (!c) ρ1) := rfl
@[simp ↓] theorem r_dIfE {t : ETb} {wa wb : ET} {ρ : Ev} {P : PyData → Ev → Prop} : dIfE t wa wb ρ P = (t ρ fun c ρ1 => if c = true then wa ρ1 P else wb ρ1 P) := rfl
@[simp ↓] theorem r_dNil {ρ : Ev} {P : List PyData → Ev → Prop} : dNil ρ P = (P [] ρ) := rfl
@[simp ↓] theorem r_dCons {w : ET} {wr : EA} {ρ : Ev} {P : List PyData → Ev → Prop} : dCons w wr ρ P = (w ρ fun d ρ1 => wr ρ1 fun ds ρ2 => P (d :: ds) ρ2) := rfl
@[simp ↓] theorem r_dTup {w : EA} {ρ : Ev} {P : PyData → Ev → Prop} : dTup w ρ P = (w ρ fun ds ρ1 => ds.length ≤ sizeLine ∧ P (.tuple ds) ρ1) := rfl
@[simp ↓] theorem r_dLst {w : EA} {ρ : Ev} {P : SV → Ev → Prop} : dLst w ρ P = (w ρ fun ds ρ1 => ds.length ≤ sizeLine ∧ ∀ a, P (.lst a ds) ρ1) := rfl
@[simp ↓] theorem r_dDict0 {ρ : Ev} {P : SV → Ev → Prop} : dDict0 ρ P = (∀ a, P (.dic a []) ρ) := rfl
@[simp ↓] theorem r_kNil {ρ : Ev} {P : AK → Ev → Prop} : kNil ρ P = (P [] ρ) := rfl
@[simp ↓] theorem r_kDat {w : ET} {wr : EK} {ρ : Ev} {P : AK → Ev → Prop} : kDat w wr ρ P = (w ρ fun d ρ1 => wr ρ1 fun ks ρ2 => P (.inr d :: ks) ρ2) := rfl
@[simp ↓] theorem r_dSeq {w u : SE} {T : Edn} {ρ : Ev} : dSeq w u T ρ = (w { T with nx := u T } ρ) := rfl
@[simp ↓] theorem r_dSkip {T : Edn} {ρ : Ev} : dSkip T ρ = (T.nx ρ) := rfl
@[simp ↓] theorem r_dExp {w : EO} {T : Edn} {ρ : Ev} : dExp w T ρ = (w ρ fun _ ρ' => T.nx ρ') := rfl
@[simp ↓] theorem r_dSet {i : Nat} {w : ET} {T : Edn} {ρ : Ev} : dSet i w T ρ = (w ρ fun d ρ' => T.nx (ρ'.set i (some (.dat d)))) := rfl
@[simp ↓] theorem r_dSetO {i : Nat} {w : EO} {T : Edn} {ρ : Ev} : dSetO i w T ρ = (w ρ fun r ρ' => T.nx (ρ'.set i (some r))) := rfl
@[simp ↓] theorem r_dRet {w : ET} {T : Edn} {ρ : Ev} : dRet w T ρ = (w ρ fun d ρ' => T.rt (.dat d) ρ') := rfl
@[simp ↓] theorem r_dRetO {w : EO} {T : Edn} {ρ : Ev} : dRetO w T ρ = (w ρ fun r ρ' => T.rt r ρ') := rfl
@[simp ↓] theorem r_dRetN {T : Edn} {ρ : Ev} : dRetN T ρ = (T.rt (.dat .none) ρ) := rfl
@[simp ↓] theorem r_dIf {t : ETb} {w u : SE} {T : Edn} {ρ : Ev} : dIf t w u T ρ = (t ρ fun b ρ' => if b = true then w T ρ' else u T ρ') := rfl
@[simp ↓] theorem r_dExpE {w : ET} {T : Edn} {ρ : Ev} : dExpE w T ρ = (w ρ fun _ ρ' => T.nx ρ') := rfl
@[simp ↓] theorem r_bN {i : Nat} {d : PyData} {ρ : Ev} {k : Ev → Prop} : bN i d ρ k = (k (ρ.set i (some (.dat d)))) := rfl
@[simp ↓] theorem r_bP {i j : Nat} {x : (PyData × Addr)} {ρ : Ev} {k : Ev → Prop} : bP i j x ρ k = (k ((ρ.set i (some (.dat x.1))).set j (some (bare x.2)))) := rfl
@[simp ↓] theorem r_dFor {α : Type} {wi : EIa α} {b : TBa α} {w : SE} {T : Edn} {ρ : Ev} : dFor wi b w T ρ = (wi ρ fun ds ρ1 => dForK b w T ds ρ1) := rfl
@[simp ↓] theorem r_dYes {ρ : Ev} {P : Bool → Ev → Prop} : dYes ρ P = (P true ρ) := rfl
@[simp ↓] theorem r_dLc {α : Type} {wi : EIa α} {b : TBa α} {wt : ETb} {we : ET} {vs : List Nat} {ρ : Ev} {P : SV → Ev → Prop} : dLc wi b wt we vs ρ P = (wi ρ fun ds ρ1 => dLcK b wt we vs P ds ρ1) := rfl
@[simp ↓] theorem r_dDc {α : Type} {wi : EIa α} {b : TBa α} {wt : ETb} {wk wv : ET} {vs : List Nat} {ρ : Ev} {P : SV → Ev → Prop} : dDc wi b wt wk wv vs ρ P = (wi ρ fun ds ρ1 => dDcK b wt wk wv vs P ds ρ1) := rfl
@[simp ↓] theorem r_dCall1 {n : Nat} {P : FS} {w : EK} {ρ : Ev} {Q : SV → Ev → Prop} : dCall1 n P w ρ Q = (w ρ fun ks ρ1 => ks.length = n ∧ ndB ks = true ∧ withArgs ρ1 ks fun as => P as fun r as' => Q r (back ks as' ρ1)) := rfl
@[simp ↓] theorem r_dCallP {n : Nat} {f : PF} {w : EA} {ρ : Ev} {Q : SV → Ev → Prop} : dCallP n f w ρ Q = (w ρ fun ds ρ1 => ds.length = n ∧ f ds fun r => Q r ρ1) := rfl
@[simp ↓] theorem r_dB {f : List PyData → (PyData → Prop) → Prop} {w : EA} {ρ : Ev} {P : PyData → Ev → Prop} : dB f w ρ P = (w ρ fun ds ρ1 => f ds fun d => P d ρ1) := rfl
@[simp ↓] theorem r_dIsi {f : PyData → Bool} {w : ET} {ρ : Ev} {P : PyData → Ev → Prop} : dIsi f w ρ P = (w ρ fun d ρ' => P (.bool (f d)) ρ') := rfl
@[simp ↓] theorem r_dBL {f : List PyData → (List PyData → Prop) → Prop} {w : EA} {ρ : Ev} {P : SV → Ev → Prop} : dBL f w ρ P = (w ρ fun ds ρ1 => f ds fun out => ∀ a, P (.lst a out) ρ1) := rfl
@[simp ↓] theorem r_dDat {w : ET} {ρ : Ev} {P : SV → Ev → Prop} : dDat w ρ P = (w ρ fun d ρ' => P (.dat d) ρ') := rfl
@[simp ↓] theorem r_mNil {ρ : Ev} {P : List SV → Ev → Prop} : mNil ρ P = (P [] ρ) := rfl
@[simp ↓] theorem r_mCons {w : EO} {wr : EM} {ρ : Ev} {P : List SV → Ev → Prop} : mCons w wr ρ P = (w ρ fun r ρ1 => wr ρ1 fun rs ρ2 => P (r :: rs) ρ2) := rfl
@[simp ↓] theorem r_dPar {is : List Nat} {w : EM} {T : Edn} {ρ : Ev} : dPar is w T ρ = (w ρ fun rs ρ' => rs.length = is.length ∧ T.nx (Fb.setRs is rs ρ')) := rfl
@[simp ↓] theorem r_dAsg {b : TB} {w : ET} {T : Edn} {ρ : Ev} : dAsg b w T ρ = (w ρ fun d ρ' => b d ρ' fun ρ2 => T.nx ρ2) := rfl
@[simp ↓] theorem r_pNone {ρ : Ev} {P : Option Int → Ev → Prop} : pNone ρ P = (P none ρ) := rfl
@[simp ↓] theorem r_dSl {w : ET} {wl wh : EP} {ρ : Ev} {P : PyData → Ev → Prop} : dSl w wl wh ρ P = (w ρ fun d ρ1 => wl ρ1 fun lo ρ2 => wh ρ2 fun hi ρ3 => wSl d lo hi fun z => P z ρ3) := rfl
@[simp ↓] theorem r_dRaise {x : Str} {T : Edn} {ρ : Ev} : dRaise x T ρ = (T.rx ⟨x, none⟩ ρ) := rfl
@[simp ↓] theorem r_noX {w : EX} {ρ : Ev} {P : SV → Ev → Prop} : noX w ρ P = (w ρ P fun _ _ => False) := rfl
@[simp ↓] theorem r_dExpX {w : EX} {T : Edn} {ρ : Ev} : dExpX w T ρ = (w ρ (fun _ ρ' => T.nx ρ') T.rx) := rfl
@[simp ↓] theorem r_dSetX {i : Nat} {w : EX} {T : Edn} {ρ : Ev} : dSetX i w T ρ = (w ρ (fun r ρ' => T.nx (ρ'.set i (some r))) T.rx) := rfl
@[simp ↓] theorem r_dRetX {w : EX} {T : Edn} {ρ : Ev} : dRetX w T ρ = (w ρ T.rt T.rx) := rfl
@[simp ↓] theorem r_dCallX {n : Nat} {P : FX} {w : EK} {ρ : Ev} {Q : SV → Ev → Prop} {Qe : Rf → Ev → Prop} : dCallX n P w ρ Q Qe = (w ρ fun ks ρ1 => ks.length = n ∧ ndB ks = true ∧ withArgs ρ1 ks fun as => P as (fun r as' => Q r (back ks as' ρ1)) fun x as' => Qe x (back ks as' ρ1)) := rfl
@[simp ↓] theorem r_dIsE {i : Nat} {a : Addr} {b : Bool} {ρ : Ev} {P : PyData → Ev → Prop} : dIsE i a b ρ P = (slot ρ i = some (bare a) ∧ P (.bool b) ρ) := rfl
@[simp ↓] theorem r_dTst {w : ET} {ρ : Ev} {P : Bool → Ev → Prop} : (dTst w ρ P) = (w ρ fun d ρ' => bK d fun b => P b ρ') := by
  first | rfl | simp [dTst, sAny, sLst, sDic, sDicA, sBk, sRef, bK, iK, strK, tK, lstK, i1K, i2K, frozK, itemsK, keyK, ixK, lookK, lookI, vInt, vVar]
@[simp ↓] theorem r_dAndV {wa wb : ET} {ρ : Ev} {P : PyData → Ev → Prop} : (dAndV wa wb ρ P) = (wa ρ fun x ρ1 => bK x fun c => if c = true then wb ρ1 P else P (.bool false) ρ1) := by
  first | rfl | simp [dAndV, sAny, sLst, sDic, sDicA, sBk, sRef, bK, iK, strK, tK, lstK, i1K, i2K, frozK, itemsK, keyK, ixK, lookK, lookI, vInt, vVar]
@[simp ↓] theorem r_dOrV {wa wb : ET} {ρ : Ev} {P : PyData → Ev → Prop} : (dOrV wa wb ρ P) = (wa ρ fun x ρ1 => bK x fun c => if c = true then P (.bool true) ρ1 else wb ρ1 P) := by
  first | rfl | simp [dOrV, sAny, sLst, sDic, sDicA, sBk, sRef, bK, iK, strK, tK, lstK, i1K, i2K, frozK, itemsK, keyK, ixK, lookK, lookI, vInt, vVar]
@[simp ↓] theorem r_dNotV {wa : ET} {ρ : Ev} {P : PyData → Ev → Prop} : (dNotV wa ρ P) = (wa ρ fun x ρ1 => bK x fun c => P (.bool (!c)) ρ1) := by
  first | rfl | simp [dNotV, sAny, sLst, sDic, sDicA, sBk, sRef, bK, iK, strK, tK, lstK, i1K, i2K, frozK, itemsK, keyK, ixK, lookK, lookI, vInt, vVar]
@[simp ↓] theorem r_dChain {wr wr' : PyData → PyData → (PyData → Prop) → Prop} {wa wb wc : ET} {ρ : Ev} {P : PyData → Ev → Prop} : (dChain wr wr' wa wb wc ρ P) = (wa ρ fun x ρ1 => wb ρ1 fun y ρ2 => wr x y fun z => bK z fun c => if c = true then wc ρ2 fun y2 ρ3 => wr' y y2 fun z => P z ρ3 else P (.bool false) ρ2) := by
  first | rfl | simp [dChain, sAny, sLst, sDic, sDicA, sBk, sRef, bK, iK, strK, tK, lstK, i1K, i2K, frozK, itemsK, keyK, ixK, lookK, lookI, vInt, vVar]
@[simp ↓] theorem r_dFroz {w : EO} {ρ : Ev} {P : PyData → Ev → Prop} : (dFroz w ρ P) = (w ρ fun r ρ' => frozK r fun d => P d ρ') := by
  first | rfl | simp [dFroz, sAny, sLst, sDic, sDicA, sBk, sRef, bK, iK, strK, tK, lstK, i1K, i2K, frozK, itemsK, keyK, ixK, lookK, lookI, vInt, vVar]
@[simp ↓] theorem r_kObj {i : Nat} {wr : EK} {ρ : Ev} {P : AK → Ev → Prop} : (kObj i wr ρ P) = (sAny ρ i fun _ => wr ρ fun ks ρ1 => P (.inl i :: ks) ρ1) := by
  first | rfl | simp [kObj, sAny, sLst, sDic, sDicA, sBk, sRef, bK, iK, strK, tK, lstK, i1K, i2K, frozK, itemsK, keyK, ixK, lookK, lookI, vInt, vVar]
@[simp ↓] theorem r_dTake {i : Nat} {ρ : Ev} {P : SV → Ev → Prop} : (dTake i ρ P) = (sAny ρ i fun sv => P sv (ρ.set i none)) := by
  first | rfl | simp [dTake, sAny, sLst, sDic, sDicA, sBk, sRef, bK, iK, strK, tK, lstK, i1K, i2K, frozK, itemsK, keyK, ixK, lookK, lookI, vInt, vVar]
@[simp ↓] theorem r_dLM {f : LF} {i : Nat} {w : EA} {ρ : Ev} {P : PyData → Ev → Prop} : (dLM f i w ρ P) = (sLst ρ i fun _ _ => w ρ fun args ρ1 => sLst ρ1 i fun a ds => f ds args fun res ds' => P res (ρ1.set i (some (.lst a ds')))) := by
  first | rfl | simp [dLM, sAny, sLst, sDic, sDicA, sBk, sRef, bK, iK, strK, tK, lstK, i1K, i2K, frozK, itemsK, keyK, ixK, lookK, lookI, vInt, vVar]
@[simp ↓] theorem r_dPut {i : Nat} {wk wv : ET} {T : Edn} {ρ : Ev} : (dPut i wk wv T ρ) = (sAny ρ i fun _ => wv ρ fun d ρ1 => wk ρ1 fun k ρ2 => sDic ρ2 i fun a kvs => keyK k fun key => kvs.length < sizeLine ∧ T.nx (ρ2.set i (some (.dic a (putD kvs key d))))) := by
  first | rfl | simp [dPut, sAny, sLst, sDic, sDicA, sBk, sRef, bK, iK, strK, tK, lstK, i1K, i2K, frozK, itemsK, keyK, ixK, lookK, lookI, vInt, vVar]
@[simp ↓] theorem r_dPutL {i : Nat} {wk wv : ET} {T : Edn} {ρ : Ev} : (dPutL i wk wv T ρ) = (sAny ρ i fun _ => wv ρ fun d ρ1 => wk ρ1 fun k ρ2 => sLst ρ2 i fun a ds => iK k fun j => ixK ds.length j fun n => T.nx (ρ2.set i (some (.lst a (ds.set n d))))) := by
  first | rfl | simp [dPutL, sAny, sLst, sDic, sDicA, sBk, sRef, bK, iK, strK, tK, lstK, i1K, i2K, frozK, itemsK, keyK, ixK, lookK, lookI, vInt, vVar]
@[simp ↓] theorem r_dAugD {f : Int → Int → Int} {i : Nat} {wk wv : ET} {T : Edn} {ρ : Ev} : (dAugD f i wk wv T ρ) = (sAny ρ i fun _ => wk ρ fun k ρ1 => sDic ρ1 i fun a kvs => keyK k fun key => lookI kvs key fun m => wv ρ1 fun d ρ2 => iK d fun n => sDicA ρ2 i a fun kvs2 => kvs2.length < sizeLine ∧ T.nx (ρ2.set i (some (.dic a (putD kvs2 key (.int (f m n))))))) := by
  first | rfl | simp [dAugD, sAny, sLst, sDic, sDicA, sBk, sRef, bK, iK, strK, tK, lstK, i1K, i2K, frozK, itemsK, keyK, ixK, lookK, lookI, vInt, vVar]
@[simp ↓] theorem r_bT {js : List Nat} {d : PyData} {ρ : Ev} {k : Ev → Prop} : (bT js d ρ k) = (tK d fun ds => ds.length = js.length ∧ k (setAll js ds ρ)) := by
  first | rfl | simp [bT, sAny, sLst, sDic, sDicA, sBk, sRef, bK, iK, strK, tK, lstK, i1K, i2K, frozK, itemsK, keyK, ixK, lookK, lookI, vInt, vVar]
@[simp ↓] theorem r_dIt {w : ET} {ρ : Ev} {P : List PyData → Ev → Prop} : (dIt w ρ P) = (w ρ fun d ρ' => itemsK d fun ds => P ds ρ') := by
  first | rfl | simp [dIt, sAny, sLst, sDic, sDicA, sBk, sRef, bK, iK, strK, tK, lstK, i1K, i2K, frozK, itemsK, keyK, ixK, lookK, lookI, vInt, vVar]
@[simp ↓] theorem r_dRng1 {w : EA} {ρ : Ev} {P : List PyData → Ev → Prop} : (dRng1 w ρ P) = (w ρ fun ds ρ' => i1K ds fun j => -(2 ^ 62) ≤ j ∧ j < 2 ^ 62 ∧ P (rngD 0 j.toNat) ρ') := by
  first | rfl | simp [dRng1, sAny, sLst, sDic, sDicA, sBk, sRef, bK, iK, strK, tK, lstK, i1K, i2K, frozK, itemsK, keyK, ixK, lookK, lookI, vInt, vVar]
@[simp ↓] theorem r_dRng2 {w : EA} {ρ : Ev} {P : List PyData → Ev → Prop} : (dRng2 w ρ P) = (w ρ fun ds ρ' => i2K ds fun i j => (-(2 ^ 62) ≤ i ∧ i < 2 ^ 62 ∧ -(2 ^ 62) ≤ j ∧ j < 2 ^ 62) ∧ P (rngD i (j - i).toNat) ρ') := by
  first | rfl | simp [dRng2, sAny, sLst, sDic, sDicA, sBk, sRef, bK, iK, strK, tK, lstK, i1K, i2K, frozK, itemsK, keyK, ixK, lookK, lookI, vInt, vVar]
@[simp ↓] theorem r_dEnum {w : ET} {ρ : Ev} {P : List PyData → Ev → Prop} : (dEnum w ρ P) = (w ρ fun d ρ' => itemsK d fun ds => P (enumD ds) ρ') := by
  first | rfl | simp [dEnum, sAny, sLst, sDic, sDicA, sBk, sRef, bK, iK, strK, tK, lstK, i1K, i2K, frozK, itemsK, keyK, ixK, lookK, lookI, vInt, vVar]
@[simp ↓] theorem r_dZip {wa wb : ET} {ρ : Ev} {P : List PyData → Ev → Prop} : (dZip wa wb ρ P) = (wa ρ fun d ρ1 => wb ρ1 fun e ρ2 => itemsK d fun ds => itemsK e fun es => P (zipD ds es) ρ2) := by
  first | rfl | simp [dZip, sAny, sLst, sDic, sDicA, sBk, sRef, bK, iK, strK, tK, lstK, i1K, i2K, frozK, itemsK, keyK, ixK, lookK, lookI, vInt, vVar]
@[simp ↓] theorem r_dInN {neg : Bool} {i : Nat} {wk : ET} {ρ : Ev} {P : PyData → Ev → Prop} : (dInN neg i wk ρ P) = (wk ρ fun k ρ1 => sDic ρ1 i fun a kvs => keyK k fun key => P (.bool (xor neg (lookD kvs key).isSome)) ρ1) := by
  first | rfl | simp [dInN, sAny, sLst, sDic, sDicA, sBk, sRef, bK, iK, strK, tK, lstK, i1K, i2K, frozK, itemsK, keyK, ixK, lookK, lookI, vInt, vVar]
@[simp ↓] theorem r_dGet2 {i : Nat} {wk wx : ET} {ρ : Ev} {P : PyData → Ev → Prop} : (dGet2 i wk wx ρ P) = (sDic ρ i fun _ _ => wk ρ fun k ρ1 => wx ρ1 fun z ρ2 => sDic ρ2 i fun a kvs => keyK k fun key => P ((lookD kvs key).getD z) ρ2) := by
  first | rfl | simp [dGet2, sAny, sLst, sDic, sDicA, sBk, sRef, bK, iK, strK, tK, lstK, i1K, i2K, frozK, itemsK, keyK, ixK, lookK, lookI, vInt, vVar]
@[simp ↓] theorem r_dPopD {i : Nat} {wk : ET} {ρ : Ev} {P : PyData → Ev → Prop} : (dPopD i wk ρ P) = (sDic ρ i fun _ _ => wk ρ fun k ρ1 => sDic ρ1 i fun a kvs => keyK k fun key => lookK kvs key fun d => P d (ρ1.set i (some (.dic a (dropD kvs key))))) := by
  first | rfl | simp [dPopD, sAny, sLst, sDic, sDicA, sBk, sRef, bK, iK, strK, tK, lstK, i1K, i2K, frozK, itemsK, keyK, ixK, lookK, lookI, vInt, vVar]
@[simp ↓] theorem r_dNeg {w : ET} {ρ : Ev} {P : PyData → Ev → Prop} : (dNeg w ρ P) = (w ρ fun d ρ1 => iK d fun n => P (.int (-n)) ρ1) := by
  first | rfl | simp [dNeg, sAny, sLst, sDic, sDicA, sBk, sRef, bK, iK, strK, tK, lstK, i1K, i2K, frozK, itemsK, keyK, ixK, lookK, lookI, vInt, vVar]
@[simp ↓] theorem r_pSome {w : ET} {ρ : Ev} {P : Option Int → Ev → Prop} : (pSome w ρ P) = (w ρ fun d ρ1 => iK d fun n => P (some n) ρ1) := by
  first | rfl | simp [pSome, sAny, sLst, sDic, sDicA, sBk, sRef, bK, iK, strK, tK, lstK, i1K, i2K, frozK, itemsK, keyK, ixK, lookK, lookI, vInt, vVar]
@[simp ↓] theorem r_dBf {K : PySem.W.Frag} {f : Bf} {i : Nat} {ρ : Ev} {P : PyData → Ev → Prop} : (dBf K f i ρ P) = (sBk K ρ i fun a B => P (f.get B) ρ) := by
  first | rfl | simp [dBf, sAny, sLst, sDic, sDicA, sBk, sRef, bK, iK, strK, tK, lstK, i1K, i2K, frozK, itemsK, keyK, ixK, lookK, lookI, vInt, vVar]
@[simp ↓] theorem r_dBaug {K : PySem.W.Frag} {f : Bf} {i : Nat} {n : Int} {T : Edn} {ρ : Ev} : (dBaug K f i n T ρ) = (sBk K ρ i fun a B => T.nx (ρ.set i (some (bk K a (bkAug B n f))))) := by
  first | rfl | simp [dBaug, sAny, sLst, sDic, sDicA, sBk, sRef, bK, iK, strK, tK, lstK, i1K, i2K, frozK, itemsK, keyK, ixK, lookK, lookI, vInt, vVar]
@[simp ↓] theorem r_dBIn {K : PySem.W.Frag} {neg : Bool} {i : Nat} {wk : ET} {ρ : Ev} {P : PyData → Ev → Prop} : (dBIn K neg i wk ρ P) = (wk ρ fun k ρ1 => sBk K ρ1 i fun a B => iK k fun n => P (.bool (xor neg (dbGet B.debts n).isSome)) ρ1) := by
  first | rfl | simp [dBIn, sAny, sLst, sDic, sDicA, sBk, sRef, bK, iK, strK, tK, lstK, i1K, i2K, frozK, itemsK, keyK, ixK, lookK, lookI, vInt, vVar]
@[simp ↓] theorem r_dRef {j : Nat} {ρ : Ev} {P : SV → Ev → Prop} : (dRef j ρ P) = (sRef ρ j fun p => P (bare p) ρ) := by
  first | rfl | simp [dRef, sAny, sLst, sDic, sDicA, sBk, sRef, bK, iK, strK, tK, lstK, i1K, i2K, frozK, itemsK, keyK, ixK, lookK, lookI, vInt, vVar]
@[simp ↓] theorem r_dBGone {K : PySem.W.Frag} {i jn jd : Nat} {ρ : Ev} {P : SV → Ev → Prop} : (dBGone K i jn jd ρ P) = (sBk K ρ i fun a B => jn < ρ.length ∧ jd < ρ.length ∧ B.debts.length ≤ sizeLine ∧ ∀ l, P (.lst l (goneOf B B.debts)) ρ) := by
  first | rfl | simp [dBGone, sAny, sLst, sDic, sDicA, sBk, sRef, bK, iK, strK, tK, lstK, i1K, i2K, frozK, itemsK, keyK, ixK, lookK, lookI, vInt, vVar]
@[simp ↓] theorem r_dMetXB {K : PySem.W.Frag} {i n : Nat} {P : FX} {w : EK} {ρ : Ev} {Q : SV → Ev → Prop} {Qe : Rf → Ev → Prop} : (dMetXB K i n P w ρ Q Qe) = (sBk K ρ i fun _ _ => w ρ fun ks ρ1 => (.inl i :: ks).length = n ∧ ndB (.inl i :: ks) = true ∧ withArgs ρ1 (.inl i :: ks) fun as => P as (fun r as' => Q r (back (.inl i :: ks) as' ρ1)) fun x as' => Qe x (back (.inl i :: ks) as' ρ1)) := by
  first | rfl | simp [dMetXB, sAny, sLst, sDic, sDicA, sBk, sRef, bK, iK, strK, tK, lstK, i1K, i2K, frozK, itemsK, keyK, ixK, lookK, lookI, vInt, vVar]
@[simp ↓] theorem r_dMetB {K : PySem.W.Frag} {i n : Nat} {P : FS} {w : EK} {ρ : Ev} {Q : SV → Ev → Prop} : (dMetB K i n P w ρ Q) = (sBk K ρ i fun _ _ => w ρ fun ks ρ1 => (.inl i :: ks).length = n ∧ ndB (.inl i :: ks) = true ∧ withArgs ρ1 (.inl i :: ks) fun as => P as (fun r as' => Q r (back (.inl i :: ks) as' ρ1))) := by
  first | rfl | simp [dMetB, sAny, sLst, sDic, sDicA, sBk, sRef, bK, iK, strK, tK, lstK, i1K, i2K, frozK, itemsK, keyK, ixK, lookK, lookI, vInt, vVar]
@[simp ↓] theorem r_dBSorted {K : PySem.W.Frag} {i : Nat} {ρ : Ev} {P : List (PyData × Addr) → Ev → Prop} : (dBSorted K i ρ P) = (sBk K ρ i fun a B => B.debts.length ≤ sizeLine ∧ P (B.debts.map fun p => (.int p.1, p.2.spot)) ρ) := by
  first | rfl | simp [dBSorted, sAny, sLst, sDic, sDicA, sBk, sRef, bK, iK, strK, tK, lstK, i1K, i2K, frozK, itemsK, keyK, ixK, lookK, lookI, vInt, vVar]
@[simp ↓] theorem r_dML {f : FL} {w : ET} {wa : EA} {ρ : Ev} {P : PyData → Ev → Prop} : (dML f w wa ρ P) = (w ρ fun d ρ1 => lstK d fun xs => wa ρ1 fun ds ρ2 => f xs ds fun z => P z ρ2) := by
  first | rfl | simp [dML, sAny, sLst, sDic, sDicA, sBk, sRef, bK, iK, strK, tK, lstK, i1K, i2K, frozK, itemsK, keyK, ixK, lookK, lookI, vInt, vVar]
@[simp ↓] theorem r_dMS {f : FT} {w : ET} {wa : EA} {ρ : Ev} {P : PyData → Ev → Prop} : (dMS f w wa ρ P) = (w ρ fun d ρ1 => strK d fun x => wa ρ1 fun ds ρ2 => f x ds fun z => P z ρ2) := by
  first | rfl | simp [dMS, sAny, sLst, sDic, sDicA, sBk, sRef, bK, iK, strK, tK, lstK, i1K, i2K, frozK, itemsK, keyK, ixK, lookK, lookI, vInt, vVar]
end Fb
namespace Fb
open PySem L2
set_option autoImplicit false
variable [Tb]

@[simp] theorem nbeq {m n : Nat} : Nat.beq m n = decide (m = n) := by
  by_cases q : m = n
  · rw [q, Nat.beq_refl, decide_eq_true rfl]
  · rw [decide_eq_false q]
    cases e : Nat.beq m n with
    | false => rfl
    | true => exact absurd (Nat.eq_of_beq_eq_true e) q
@[simp] theorem anyEq_nil {d : PyData} : anyEq d [] = false := rfl
@[simp] theorem anyEq_cons {d x : PyData} {xs : List PyData} : anyEq d (x :: xs) = (PyData.eqv x d || anyEq d xs) := rfl
@[simp] def fSorted : List PyData → (List PyData → Prop) → Prop
  | [.list ds], k => PySem.W.AllAlike ds ∧ PySem.W.Sortable ds ∧ PyData.depthAll ds ≤ 8 ∧ k (sortD ds)
  | _, _ => False
theorem cl_sorted (K : PySem.W.Frag) : CallL (rSortedD K) fSorted := by
  intro g H ds vs k Q s r h o
  match ds, h with
  | [.list ds], h =>
    obtain ⟨v, e, a, us, ev, ha, ru⟩ := dps_one r
    exact ⟨g, a, us, ds, by rw [e, ev], s, SqL.of (s _ _ ha), ru, h.1, h.2.1, h.2.2.1, fun p us' hp dp => o _ p us' h.2.2.2 hp dp⟩

/-- a def that is asked nothing -/
theorem fn_none {P : Program} {w : World} {K : PySem.W.Frag} {mg : Str → Option Value} {base : Heap} {CX : CXT} {f : Addr} {fd : FuncData} {ps : List Str} {sp : Sp} {k : Nat} (h : ∀ vs H Q E, ¬ sp vs H Q E) : FnOk P w K mg base CX k f fd ps sp :=
  ⟨fun vs H Q E hsp => (h vs H Q E hsp).elim, fun A outer s H args us vs Q E hr e0 hb r hsp => (h vs H Q E hsp).elim⟩
/-- data of so many storeys at the most -/
def szD : Nat → PyData → Prop
  | 0, .list _ => False
  | 0, .tuple _ => False
  | _, .dict _ => False
  | n + 1, .list ds => ds.length < 4611686018427387904 ∧ ∀ d ∈ ds, szD n d
  | n + 1, .tuple ds => ds.length < 4611686018427387904 ∧ ∀ d ∈ ds, szD n d
  | _, _ => True
theorem szD_depth : ∀ {n : Nat} {d : PyData}, szD n d → d.depth ≤ n
  | n, .none, _ => Nat.zero_le n
  | n, .bool _, _ => Nat.zero_le n
  | n, .int _, _ => Nat.zero_le n
  | n, .str _, _ => Nat.zero_le n
  | 0, .list _, h => h.elim
  | 0, .tuple _, h => h.elim
  | 0, .dict _, h => h.elim
  | n + 1, .dict _, h => h.elim
  | n + 1, .list ds, h => by
    have go : ∀ l : List PyData, (∀ d ∈ l, szD n d) → PyData.depthAll l ≤ n := fun l => by
      induction l with
      | nil => exact fun _ => Nat.zero_le _
      | cons x l ih => exact fun hl => Nat.max_le.mpr ⟨szD_depth (hl x (List.mem_cons_self ..)), ih fun d hd => hl d (List.mem_cons_of_mem _ hd)⟩
    have := go ds h.2
    show PyData.depthAll ds + 1 ≤ n + 1
    omega
  | n + 1, .tuple ds, h => by
    have go : ∀ l : List PyData, (∀ d ∈ l, szD n d) → PyData.depthAll l ≤ n := fun l => by
      induction l with
      | nil => exact fun _ => Nat.zero_le _
      | cons x l ih => exact fun hl => Nat.max_le.mpr ⟨szD_depth (hl x (List.mem_cons_self ..)), ih fun d hd => hl d (List.mem_cons_of_mem _ hd)⟩
    have := go ds h.2
    show PyData.depthAll ds + 1 ≤ n + 1
    omega
theorem szD_eqv : ∀ {n : Nat} {d : PyData}, szD n d → PyData.eqv d d = true
  | n, .none, _ => by simp
  | n, .bool _, _ => by simp
  | n, .int _, _ => by simp
  | n, .str _, _ => by simp
  | 0, .list _, h => h.elim
  | 0, .tuple _, h => h.elim
  | 0, .dict _, h => h.elim
  | n + 1, .dict _, h => h.elim
  | n + 1, .list ds, h => by
    have go : ∀ l : List PyData, (∀ d ∈ l, szD n d) → PyData.eqvAll l l = true := fun l => by
      induction l with
      | nil => exact fun _ => by simp
      | cons x l ih => exact fun hl => by rw [eqvA_cc, szD_eqv (hl x (List.mem_cons_self ..)), ih fun d hd => hl d (List.mem_cons_of_mem _ hd)]; rfl
    rw [eqv_ll]
    exact go ds h.2
  | n + 1, .tuple ds, h => by
    have go : ∀ l : List PyData, (∀ d ∈ l, szD n d) → PyData.eqvAll l l = true := fun l => by
      induction l with
      | nil => exact fun _ => by simp
      | cons x l ih => exact fun hl => by rw [eqvA_cc, szD_eqv (hl x (List.mem_cons_self ..)), ih fun d hd => hl d (List.mem_cons_of_mem _ hd)]; rfl
    rw [eqv_tt]
    exact go ds h.2
theorem szD_ints {n : Nat} {l : List Int} (h : l.length < 4611686018427387904) : szD (n + 1) (.list (l.map .int)) := ⟨by rw [List.length_map]; exact h, fun d hd => by
  obtain ⟨k, _, rfl⟩ := List.mem_map.mp hd
  unfold szD
  cases n <;> exact trivial⟩
theorem eqv_ints {l : List Int} : PyData.eqvAll (l.map .int) (l.map .int) = true := by
  induction l with
  | nil => simp
  | cons x l ih => rw [List.map_cons, eqvA_cc, ih]; simp
theorem depth_ints {l : List Int} : PyData.depthAll (l.map .int) = 0 := by
  induction l with
  | nil => simp
  | cons x l ih => rw [List.map_cons, depthA_cons, ih]; simp
@[simp] theorem cut_4 {α : Type} {a b c d : α} {xs : List α} : cutD (a :: b :: c :: d :: xs) none (some 4) = [a, b, c, d] := by
  unfold cutD
  have e : HT.sIx (a :: b :: c :: d :: xs).length (a :: b :: c :: d :: xs).length (some 4) = 4 := by
    show (if (4 : Int) < 0 then ((4 : Int) + ((a :: b :: c :: d :: xs).length : Int)).toNat else min (4 : Int).toNat (a :: b :: c :: d :: xs).length) = 4
    rw [if_neg (by decide)]
    simp only [List.length_cons]
    show min 4 (xs.length + 1 + 1 + 1 + 1) = 4
    omega
  rw [e]
  rfl
theorem alike0 {k : SV → Prop} {K : List PyData → (SV → Prop) → Prop} (h : False) : False := h
/-- two of the same are alike -/
def pAlike : Nat → PF
  | 0 => fun _ _ => False
  | n + 1 => fun ds k => ∃ d, ds = [d, d] ∧ szD n d ∧ n ≤ 60 ∧ k (.dat (.bool true))
theorem isNum_int {d : PyData} {lo hi : Int} (h : isNum d lo hi = true) : ∃ i, d = .int i ∧ lo ≤ i ∧ i ≤ hi := by
  cases d <;> simp [isNum] at h
  exact ⟨_, rfl, h.1, h.2⟩
theorem sub_one {c : Nat} {s : Str} : subStr ⟨#[c]⟩ s = decide (c ∈ s.cps.toList) := PySem.StrLaws.found_one s c
theorem isKind_abc {z : Str} (h : isKind (.str z) = true) : z ∈ (["", "a", "b", "c"] : List Str) := by
  simp [isKind] at h
  obtain ⟨h1, h2⟩ := h
  obtain ⟨⟨l⟩⟩ := z
  match l, h1, h2 with
  | [c], _, h2 =>
    have h2 : subStr ⟨#[c]⟩ kinds = true := h2
    rw [sub_one] at h2
    have m : c = 97 ∨ c = 98 ∨ c = 99 := by simpa using (show c ∈ [97, 98, 99] from of_decide_eq_true h2)
    rcases m with rfl | rfl | rfl <;> decide
theorem isKind_str {d : PyData} (h : isKind d = true) : ∃ z, d = .str z ∧ z.length = 1 := by
  cases d <;> simp [isKind] at h
  exact ⟨_, rfl, h.1⟩
/-! ### what the book's methods do -/
structure GoodBk (B : Bk) : Prop where
  folk : okFolk B.folk
  new : ∀ p ∈ B.debts, p.1 < B.fresh
  dl : B.debts.length < 100000
  sl : B.story.length < 100000
  kd : ∀ p ∈ B.debts, p.2.kind ∈ (["", "a", "b", "c"] : List Str)
def folkD (B : Bk) : PyData := .tuple (B.folk.map .str)
def xTwo (K : PySem.W.Frag) : FX := fun as Pq Pe => ∃ a B d e, as = [bk K a B, .dat d, .dat e] ∧ min d.depth e.depth ≤ 64 ∧
  if (isNum d 0 (B.folk.length - 1) && (isNum e 0 (B.folk.length - 1) && !PyData.eqv d e)) = true then Pq (.dat .none) as else Pe ⟨"NoOne", none⟩ as
def xDebt (K : PySem.W.Frag) : FX := fun as Pq Pe => ∃ a B d, as = [bk K a B, .dat d] ∧ match d with
  | .int n => (match dbGet B.debts n with | some x => Pq (bare x.spot) as | none => Pe ⟨"NoDebt", none⟩ as)
  | _ => Pe ⟨"NoDebt", none⟩ as
/-- a favour: i does it for j -/
def debtOf (B : Bk) (i j : Int) (z : Str) (p : Addr) : Db := ⟨j, i, if subStr z ((B.folk[j.toNat]?).getD "") = true then z else "", B.tick, 0, p⟩
def doneB (B : Bk) (i j : Int) (z : Str) (p : Addr) : Bk := { B with fresh := B.fresh + 1, debts := B.debts ++ [(B.fresh, debtOf B i j z p)], story := B.story ++ [.tuple [.str "done", .int i, .int j, .str z]] }
def xDone (K : PySem.W.Frag) : FX := fun as Pq Pe => ∃ a B d e k, as = [bk K a B, .dat d, .dat e, .dat k] ∧ GoodBk B ∧ min d.depth e.depth ≤ 64 ∧ (∀ z, k = .str z → z.length ≤ sizeLine ∧ PyData.strOk z = true) ∧
  if (isNum d 0 (B.folk.length - 1) && (isNum e 0 (B.folk.length - 1) && !PyData.eqv d e)) = true then
    if isKind k = true then ∀ i j z, d = .int i → e = .int j → k = .str z → if subStr z ((B.folk[i.toNat]?).getD "") = true then ∀ p, Pq (.dat (.int B.fresh)) [bk K a (doneB B i j z p), .dat d, .dat e, .dat k] else Pe ⟨"Cannot", none⟩ as
    else Pe ⟨"BadKind", none⟩ as
  else Pe ⟨"NoOne", none⟩ as
def passB (B : Bk) (n : Int) (d : Db) (t : Int) : Bk := { B with debts := dbSet B.debts n { d with creditor := t, passed := d.passed + 1 }, story := B.story ++ [.tuple [.str "pass", .int n, .int t]] }
def xPass (K : PySem.W.Frag) : FX := fun as Pq Pe => ∃ a B dn dt, as = [bk K a B, .dat dn, .dat dt] ∧ GoodBk B ∧ dt.depth ≤ 64 ∧
  match dn with
  | .int n => (match dbGet B.debts n with
    | some d => (if isNum dt 0 (B.folk.length - 1) = true then ∀ t, dt = .int t → if (decide (d.debtor = t) || decide (d.creditor = t)) = true then Pe ⟨"NoOne", none⟩ as else if d.passed = B.hops then Pe ⟨"Worn", none⟩ as else Pq (.dat .none) [bk K a (passB B n d t), .dat dn, .dat dt]
      else Pe ⟨"NoOne", none⟩ as)
    | none => Pe ⟨"NoDebt", none⟩ as)
  | _ => Pe ⟨"NoDebt", none⟩ as
def goneAt (B : Bk) : List Int := (B.debts.filter fun p => decide (p.2.born + B.life ≤ B.tick + 1)).map (·.1)
def tickB (B : Bk) : Bk := { B with tick := B.tick + 1, debts := B.debts.filter fun p => !decide (p.2.born + B.life ≤ B.tick + 1), story := B.story ++ [.tuple [.str "tick"]] }
def fTick (K : PySem.W.Frag) : FS := fun as Pq => ∃ a B, as = [bk K a B] ∧ GoodBk B ∧ (B.debts.map (·.1)).Pairwise (· < ·) ∧ ∀ l, Pq (.lst l ((goneAt B).map .int)) [bk K a (tickB B)]
def fNow (K : PySem.W.Frag) : FS := fun as Pq => ∃ a B, as = [bk K a B] ∧ Pq (.dat (.int B.tick)) as
def rowOf (B : Bk) (p : Int × Db) : PyData := .tuple [.int p.1, .int p.2.debtor, .int p.2.creditor, .str p.2.kind, .int (p.2.born + B.life), .int (B.hops - p.2.passed)]
def rowsOf (B : Bk) : List PyData := B.debts.map (rowOf B)
def fDebts (K : PySem.W.Frag) : FS := fun as Pq => ∃ a B, as = [bk K a B] ∧ GoodBk B ∧ ∀ l, Pq (.lst l (rowsOf B)) as
theorem rows_depth {B : Bk} : PyData.depthAll (rowsOf B) ≤ 1 := by
  unfold rowsOf
  induction B.debts with
  | nil => simp
  | cons x l ih =>
    rw [List.map_cons, depthA_cons]
    exact Nat.max_le.mpr ⟨by simp [rowOf], ih⟩
theorem rows_szD {B : Bk} (h : B.debts.length < 100000) {n : Nat} : szD (n + 2) (.list (rowsOf B)) := ⟨by unfold rowsOf; rw [List.length_map]; omega, fun d hd => by
  obtain ⟨p, _, rfl⟩ := List.mem_map.mp hd
  refine ⟨by show 6 < 4611686018427387904; decide, fun d hd => ?_⟩
  have : d = .int p.1 ∨ d = .int p.2.debtor ∨ d = .int p.2.creditor ∨ d = .str p.2.kind ∨ d = .int (p.2.born + B.life) ∨ d = .int (B.hops - p.2.passed) := by simpa using hd
  unfold szD
  rcases this with rfl | rfl | rfl | rfl | rfl | rfl <;> cases n <;> exact trivial⟩
theorem rows_eqv {B : Bk} (h : B.debts.length < 100000) : PyData.eqvAll (rowsOf B) (rowsOf B) = true := by
  have := szD_eqv (rows_szD (n := 0) h)
  rwa [eqv_ll] at this
def rNum : PyData → Int
  | .tuple (.int n :: _) => n
  | _ => 0
theorem rows_num {B : Bk} : (rowsOf B).map (fun d => PyData.int (rNum d)) = (B.debts.map (·.1)).map .int := by
  unfold rowsOf
  rw [List.map_map, List.map_map]
  rfl
def okBook (fs : List Str) (l h : Int) : Prop := okFolk fs ∧ 1 ≤ l ∧ l ≤ 99 ∧ 0 ≤ h ∧ h ≤ 9
/-! ### what the law draws -/
def skills : List Str := ["", "a", "b", "c", "ab", "ac", "bc", "abc"]
theorem skills_ok : ∀ s ∈ skills, isSkillS s = true ∧ s.length ≤ 3 ∧ PyData.strOk s = true := by decide +kernel
def fPeople : FS := fun as Pq => ∃ a, as = [box a] ∧ ∀ fs, okFolk fs → Pq (.dat (.tuple (fs.map .str))) as
theorem as_strs {p : Str → Prop} : ∀ {l : List PyData}, (∀ d ∈ l, ∃ s, d = .str s ∧ p s) → ∃ fs : List Str, l = fs.map .str ∧ ∀ s ∈ fs, p s
  | [], _ => ⟨[], rfl, fun s h => by cases h⟩
  | d :: l, h => by
    obtain ⟨s, e, hs⟩ := h d (List.mem_cons_self ..)
    obtain ⟨fs, e2, hf⟩ := as_strs fun x hx => h x (List.mem_cons_of_mem _ hx)
    refine ⟨s :: fs, by rw [e, e2] <;> rfl, fun t ht => ?_⟩
    rcases List.mem_cons.mp ht with z | z
    · rw [z]
      exact hs
    · exact hf t z
theorem at_lt {α : Type} {xs : List α} {r : Int} (h0 : 0 ≤ r) (h1 : r < xs.length) : ∃ d, atI xs r = some d ∧ d ∈ xs := by
  have hl : r.toNat < xs.length := by omega
  have e : r = (r.toNat : Int) := by omega
  have z : atI xs (r.toNat : Int) = some xs[r.toNat] := atI_nat (List.getElem?_eq_getElem hl)
  rw [← e] at z
  exact ⟨_, z, List.getElem_mem hl⟩
theorem str_len1 {c : Nat} : ((⟨#[c]⟩ : Str)).length = 1 := rfl
theorem abc_at {r : Int} (h0 : 0 ≤ r) (h1 : r < 3) : ∃ c, atI ("abc" : Str).cps.toList r = some c ∧ isKind (.str ⟨#[c]⟩) = true ∧ PyData.strOk ⟨#[c]⟩ = true := by
  have : r = 0 ∨ r = 1 ∨ r = 2 := by omega
  rcases this with rfl | rfl | rfl
  · exact ⟨97, by decide +kernel, by decide +kernel, by decide +kernel⟩
  · exact ⟨98, by decide +kernel, by decide +kernel, by decide +kernel⟩
  · exact ⟨99, by decide +kernel, by decide +kernel, by decide +kernel⟩
/-- a sign of a skill -/
theorem skill_at {s : Str} (h : isSkillS s = true) (ok : PyData.strOk s = true) {c : Nat} (hc : c ∈ s.cps.toList) : isKind (.str ⟨#[c]⟩) = true ∧ PyData.strOk ⟨#[c]⟩ = true := by
  unfold isSkillS at h
  have h := (Bool.and_eq_true_iff.mp h).1
  have q := List.all_eq_true.mp h (.str ⟨#[c]⟩) (List.mem_map.mpr ⟨c, hc, rfl⟩)
  have one : isKind (.str ⟨#[c]⟩) = true := by
    have e : (⟨#[c]⟩ : Str).length = 1 := rfl
    unfold isKind
    rw [Bool.and_eq_true_iff]
    exact ⟨decide_eq_true e, q⟩
  refine ⟨one, ?_⟩
  unfold PyData.strOk at *
  have m := Array.all_eq_true_iff_forall_mem.mp ok c (Array.mem_toList_iff.mp hc)
  show (#[c].all _) = true
  simpa using m
theorem kinds0_ok : ∀ z ∈ (["", "a", "b", "c"] : List Str), (z = "" ∨ isKind (.str z) = true ∧ PyData.strOk z = true ∧ z.length = 1) ∧ PyData.strOk z = true ∧ z.length ≤ 1 := by decide +kernel
theorem kinds0_at (z : Str) (h : z ∈ (["", "a", "b", "c"] : List Str)) {c : Nat} (hc : c ∈ z.cps.toList) : isKind (.str ⟨#[c]⟩) = true ∧ PyData.strOk ⟨#[c]⟩ = true := by
  have go : ∀ z ∈ (["", "a", "b", "c"] : List Str), isSkillS z = true ∧ PyData.strOk z = true := by decide +kernel
  exact skill_at (go z h).1 (go z h).2 hc
theorem app_at {x y : Str} {r : Int} (h0 : 0 ≤ r) (h1 : r < x.length + y.length) : ∃ c, atI (x ++ y).cps.toList r = some c ∧ (c ∈ x.cps.toList ∨ c ∈ y.cps.toList) := by
  have e : (x ++ y).cps.toList = x.cps.toList ++ y.cps.toList := by
    show (x.cps ++ y.cps).toList = _
    exact Array.toList_append
  have l : ((x.cps.toList ++ y.cps.toList).length : Int) = x.length + y.length := by
    rw [List.length_append]
    simp [Str.length]
  rw [e]
  obtain ⟨d, h2, h3⟩ := at_lt (xs := x.cps.toList ++ y.cps.toList) h0 (by omega)
  exact ⟨d, h2, List.mem_append.mp h3⟩
theorem app_left {x y : Str} {r : Int} (h0 : 0 ≤ r) (h1 : r < x.length) : ∃ c, atI (x ++ y).cps.toList r = some c ∧ c ∈ x.cps.toList := by
  have e : (x ++ y).cps.toList = x.cps.toList ++ y.cps.toList := by
    show (x.cps ++ y.cps).toList = _
    exact Array.toList_append
  have hl : r.toNat < x.cps.toList.length := by
    simp [Str.length] at h1 ⊢
    omega
  have er : r = (r.toNat : Int) := by omega
  rw [e, er]
  refine ⟨x.cps.toList[r.toNat], atI_nat ?_, List.getElem_mem hl⟩
  rw [List.getElem?_append_left hl, List.getElem?_eq_getElem hl]
/-- a deed that is drawn, n folk -/
def isDeed (n : Int) (d : PyData) : Prop :=
  (∃ i j z, d = .tuple [.str "done", .int i, .int j, .str z] ∧ 0 ≤ i ∧ i < n ∧ 0 ≤ j ∧ j < n ∧ isKind (.str z) = true ∧ PyData.strOk z = true) ∨
  (∃ m z, d = .tuple [.str "pay", .int m, .str z] ∧ isKind (.str z) = true ∧ PyData.strOk z = true) ∨
  (∃ m i, d = .tuple [.str "pass", .int m, .int i] ∧ 0 ≤ i ∧ i < n) ∨
  d = .tuple [.str "tick"] ∨
  (∃ i z, d = .tuple [.str "ask", .int i, .str z] ∧ 0 ≤ i ∧ i < n ∧ isKind (.str z) = true ∧ PyData.strOk z = true) ∨
  (∃ z, d = .tuple [.str "clear", .str z] ∧ (z = "" ∨ isKind (.str z) = true ∧ PyData.strOk z = true))
def fDeed (K : PySem.W.Frag) : FS := fun as Pq => ∃ a b B fs, as = [box a, .dat (.tuple (fs.map .str)), bk K b B] ∧ okFolk fs ∧ GoodBk B ∧ ∀ d, isDeed fs.length d → Pq (.dat d) as
theorem xDone_at {K : PySem.W.Frag} {a : Addr} {B : Bk} {i j : Int} {z : Str} {Pq : SV → List SV → Prop} {Pe : Rf → List SV → Prop} (G : GoodBk B) (i0 : 0 ≤ i) (i1 : i < B.folk.length) (j0 : 0 ≤ j) (j1 : j < B.folk.length) (hk : isKind (.str z) = true) (ok : PyData.strOk z = true)
    (h : if i = j then Pe ⟨"NoOne", none⟩ [bk K a B, .dat (.int i), .dat (.int j), .dat (.str z)] else if subStr z ((B.folk[i.toNat]?).getD "") = true then ∀ p, Pq (.dat (.int B.fresh)) [bk K a (doneB B i j z p), .dat (.int i), .dat (.int j), .dat (.str z)] else Pe ⟨"Cannot", none⟩ [bk K a B, .dat (.int i), .dat (.int j), .dat (.str z)]) :
    xDone K [bk K a B, .dat (.int i), .dat (.int j), .dat (.str z)] Pq Pe := by
  refine ⟨a, B, _, _, _, rfl, G, by simp, fun y hy => ?_, ?_⟩
  · cases hy
    obtain ⟨_, e, l⟩ := isKind_str hk
    cases e
    exact ⟨by rw [l]; decide, ok⟩
  · rw [hk]
    simp
    by_cases q : i = j
    · rw [if_pos q] at h
      rw [if_neg (by omega)]
      exact h
    · rw [if_neg q] at h
      rw [if_pos (by omega)]
      exact h
/-- what a favour done, a debt passed on tell; n folk -/
def fDo2 (K : PySem.W.Frag) : FS := fun as Pq => ∃ b B d, as = [bk K b B, .dat d] ∧ GoodBk B ∧
  ((∃ i j z, d = .tuple [.str "done", .int i, .int j, .str z] ∧ 0 ≤ i ∧ i < B.folk.length ∧ 0 ≤ j ∧ j < B.folk.length ∧ isKind (.str z) = true ∧ PyData.strOk z = true ∧
    if i = j then Pq (.dat (rfD "NoOne")) as else if subStr z ((B.folk[i.toNat]?).getD "") = true then ∀ p, Pq (.dat (.int B.fresh)) [bk K b (doneB B i j z p), .dat d] else Pq (.dat (rfD "Cannot")) as) ∨
   (∃ m t, d = .tuple [.str "pass", .int m, .int t] ∧ 0 ≤ t ∧ t < B.folk.length ∧ match dbGet B.debts m with
    | none => Pq (.dat (rfD "NoDebt")) as
    | some x => if x.debtor = t ∨ x.creditor = t then Pq (.dat (rfD "NoOne")) as else if x.passed = B.hops then Pq (.dat (rfD "Worn")) as else Pq (.dat .none) [bk K b (passB B m x t), .dat d]))
/-- how Debt is made -/
structure MkDebt (P : Program) (w : World) (K : PySem.W.Frag) (mg : Str → Option Value) (base : Heap) (f : Addr) (fd : FuncData) : Prop where
  made : Mk K (cDebt K) f
  fn : FnOk P w K mg base CX0 1 f fd ["self", "debtor", "creditor", "kind", "born"] (spDebt K)
  bd : Binds K fd ["self", "debtor", "creditor", "kind", "born"] []
  glo : mg "Debt" = some (.ref (cDebt K))
theorem fin_obj {a : Addr} {o o' : Ow} (ds : List PyData) {rest : Ev} : Fin (.obj a o :: ds.map .dat) (.obj a o' :: ds.map .dat) (some (.obj a o') :: rest) := ⟨by simp, fun i sv sv' e e' => by
  cases i with
  | zero =>
    simp at e e'
    subst e e'
    exact .inr ⟨rfl, rfl⟩
  | succ i =>
    rw [List.getElem?_cons_succ] at e e'
    rw [e] at e'
    cases e'
    rw [List.getElem?_map] at e
    obtain ⟨d, _, ed⟩ := Option.map_eq_some_iff.mp e
    exact .inl ⟨rfl, d, ed.symm⟩⟩
theorem fin1 {K : PySem.W.Frag} {a : Addr} {B B' : Bk} {rest : Ev} : Fin [bk K a B] [bk K a B'] (some (bk K a B') :: rest) := fin_obj []
theorem fin2 {K : PySem.W.Frag} {a : Addr} {B B' : Bk} {rest : Ev} {d : PyData} : Fin [bk K a B, .dat d] [bk K a B', .dat d] (some (bk K a B') :: rest) := fin_obj [d]
theorem fin3 {K : PySem.W.Frag} {a : Addr} {B B' : Bk} {rest : Ev} {d e : PyData} : Fin [bk K a B, .dat d, .dat e] [bk K a B', .dat d, .dat e] (some (bk K a B') :: rest) := fin_obj [d, e]
theorem fin4 {K : PySem.W.Frag} {a : Addr} {B B' : Bk} {rest : Ev} {d e k : PyData} : Fin [bk K a B, .dat d, .dat e, .dat k] [bk K a B', .dat d, .dat e, .dat k] (some (bk K a B') :: rest) := fin_obj [d, e, k]
theorem good_dl {B : Bk} (G : GoodBk B) : B.debts.length < sizeLine := Nat.lt_of_lt_of_le G.dl (by decide)
theorem good_sl {B : Bk} (G : GoodBk B) : B.story.length < sizeLine := Nat.lt_of_lt_of_le G.sl (by decide)
theorem at_folk {fs : List Str} {i : Int} (h0 : 0 ≤ i) (h1 : i ≤ fs.length - 1) : atI (fs.map PyData.str) i = some (.str ((fs[i.toNat]?).getD "")) := by
  have hl : i.toNat < fs.length := by omega
  unfold atI ixN
  rw [if_pos h0, List.length_map, if_pos (by omega)]
  show (fs.map PyData.str)[i.toNat]? = _
  rw [List.getElem?_map, List.getElem?_eq_getElem hl]
  rfl
theorem dbSet_mem {l : List (Int × Db)} {n : Int} {d d' : Db} (h : (n, d) ∈ l) : (n, d') ∈ dbSet l n d' := by
  unfold dbSet
  refine List.mem_map.mpr ⟨(n, d), h, ?_⟩
  rw [if_pos rfl]
theorem dbSet_set {l : List (Int × Db)} {n : Int} {d d' : Db} : dbSet (dbSet l n d) n d' = dbSet l n d' := by
  unfold dbSet
  rw [List.map_map]
  refine List.map_congr_left fun p _ => ?_
  by_cases q : p.1 = n
  · simp [Function.comp, q]
  · simp [Function.comp, q]
theorem spot_bare {d : Db} {x : Addr} (h : d.spot = x) : bare d.spot = bare x := by rw [h]
/-- a favour done or a debt passed on: what is told, what the book then is -/
def DidDone (B : Bk) (i j : Int) (z : Str) (r : PyData) (B' : Bk) : Prop :=
  if i = j then r = rfD "NoOne" ∧ B' = B else if subStr z ((B.folk[i.toNat]?).getD "") = true then r = .int B.fresh ∧ ∃ p, B' = doneB B i j z p else r = rfD "Cannot" ∧ B' = B
def DidPass (B : Bk) (m t : Int) (r : PyData) (B' : Bk) : Prop := match dbGet B.debts m with
  | none => r = rfD "NoDebt" ∧ B' = B
  | some x => if x.debtor = t ∨ x.creditor = t then r = rfD "NoOne" ∧ B' = B else if x.passed = B.hops then r = rfD "Worn" ∧ B' = B else r = .none ∧ B' = passB B m x t
theorem do2_done {K : PySem.W.Frag} {b : Addr} {B : Bk} {i j : Int} {z : Str} {Pq : SV → List SV → Prop} (G : GoodBk B) (i0 : 0 ≤ i) (i1 : i < B.folk.length) (j0 : 0 ≤ j) (j1 : j < B.folk.length) (hk : isKind (.str z) = true) (ok : PyData.strOk z = true)
    (h : ∀ r B', DidDone B i j z r B' → Pq (.dat r) [bk K b B', .dat (.tuple [.str "done", .int i, .int j, .str z])]) : fDo2 K [bk K b B, .dat (.tuple [.str "done", .int i, .int j, .str z])] Pq := by
  refine ⟨b, B, _, rfl, G, .inl ⟨i, j, z, rfl, i0, i1, j0, j1, hk, ok, ?_⟩⟩
  by_cases q : i = j
  · rw [if_pos q]
    exact h _ _ (by unfold DidDone; rw [if_pos q]; exact ⟨rfl, rfl⟩)
  · rw [if_neg q]
    by_cases q2 : subStr z ((B.folk[i.toNat]?).getD "") = true
    · rw [if_pos q2]
      exact fun p => h _ _ (by unfold DidDone; rw [if_neg q, if_pos q2]; exact ⟨rfl, p, rfl⟩)
    · rw [if_neg q2]
      exact h _ _ (by unfold DidDone; rw [if_neg q, if_neg q2]; exact ⟨rfl, rfl⟩)
theorem do2_pass {K : PySem.W.Frag} {b : Addr} {B : Bk} {m t : Int} {Pq : SV → List SV → Prop} (G : GoodBk B) (t0 : 0 ≤ t) (t1 : t < B.folk.length)
    (h : ∀ r B', DidPass B m t r B' → Pq (.dat r) [bk K b B', .dat (.tuple [.str "pass", .int m, .int t])]) : fDo2 K [bk K b B, .dat (.tuple [.str "pass", .int m, .int t])] Pq := by
  refine ⟨b, B, _, rfl, G, .inr ⟨m, t, rfl, t0, t1, ?_⟩⟩
  unfold DidPass at h
  cases e : dbGet B.debts m with
  | none =>
    rw [e] at h
    exact h _ _ ⟨rfl, rfl⟩
  | some x =>
    rw [e] at h
    by_cases q : x.debtor = t ∨ x.creditor = t
    · simp only [if_pos q] at h ⊢
      exact h _ _ ⟨rfl, rfl⟩
    · by_cases q2 : x.passed = B.hops
      · simp only [if_neg q, if_pos q2] at h ⊢
        exact h _ _ ⟨rfl, rfl⟩
      · simp only [if_neg q, if_neg q2] at h ⊢
        exact h _ _ ⟨rfl, rfl⟩
end Fb
namespace Fb
open PySem L2
set_option autoImplicit false
variable [Tb]

/-! ### sorted(d), d a dict by numbers -/
def sortI (ns : List Int) : List Int := ns.mergeSort fun a b => decide (a ≤ b)
theorem sortI_up {ns : List Int} (h : ns.Pairwise (· < ·)) : sortI ns = ns := List.mergeSort_of_pairwise (h.imp fun {a b} q => decide_eq_true (Int.le_of_lt q))
theorem sorted_one {ys ns : List Int} (hp : ys.Perm ns) (hs : ys.Pairwise (· ≤ ·)) : ys = sortI ns := by
  have h2 : (sortI ns).Pairwise (· ≤ ·) := (List.pairwise_mergeSort (le := fun a b : Int => decide (a ≤ b)) (fun a b c h1 h2 => decide_eq_true (Int.le_trans (of_decide_eq_true h1) (of_decide_eq_true h2))) (fun a b => by simp; omega) ns).imp fun {a b} q => of_decide_eq_true q
  exact List.Perm.eq_of_pairwise (le := fun a b : Int => a ≤ b) (fun a b _ _ h1 h2 => Int.le_antisymm h1 h2) hs h2 (hp.trans (List.mergeSort_perm ns _).symm)
def dSortedD (i : Nat) (ρ : Ev) (P : SV → Ev → Prop) : Prop := ∃ a kvs ns, slot ρ i = some (.dic a kvs) ∧ kvs.map (·.1) = ns.map Sum.inl ∧ ns.length < 64 ∧ ∀ l, P (.lst l ((sortI ns).map .int)) ρ
@[simp ↓] theorem r_dSortedD {i : Nat} {ρ : Ev} {P : SV → Ev → Prop} : dSortedD i ρ P = sDic ρ i fun _ kvs => ∃ ns : List Int, kvs.map (·.1) = ns.map Sum.inl ∧ ns.length < 64 ∧ ∀ l, P (.lst l ((sortI ns).map .int)) ρ := by simp [dSortedD, sDic]
theorem do_sortedD {X : Cx} {x : Str} {p p1 pos : Pos} (i : Nat) (hm : X.mg "sorted" = none) (hc : X.calm = true := by rfl) (hN : X.N[i]? = some x := by rfl) (hv : Vis X.env.scope x := by first | exact Or.inl rfl | exact Or.inr (Or.inl rfl) | exact Or.inr (Or.inr rfl)) (hd : (x == ("__debug__" : Str)) = false := by decide)
    (hcd : (x == ("__classdict__" : Str)) = false := by decide) (hg : Gl X "sorted" := by rfl) (hb : bootBuiltins "sorted" = some (.builtin "sorted") := by decide +kernel)
    (he : starEach [.Name x p1] X.env = (false, eval (.Name x p1) X.env) :: starEach [] X.env := by rfl) (hpl : (backTo pos (starEach [] X.env)).any (·.1) = false := by rfl) :
    PE X (.Call (.Name "sorted" p) [.Name x p1] [] pos) (lO (dSortedD i)) := pe_imp (pe_callB (call_sortedDI hc) hg hm hb (pa_cons (pe_var (i := i) hN hv hd hcd) pa_nil he) (by decide) (by decide) he hpl) fun σ H Q h => by
  obtain ⟨fr, g, hs, ρ, P, W, h, k⟩ := h
  obtain ⟨a, kvs, ns, e, ek, hl, h⟩ := h
  obtain ⟨hv, vs, hH, _, r⟩ := W.dic e
  refine ⟨_, hv, a, vs, ns, rfl, .inl hH, by rw [r.1]; exact ek, hl, fun ys p hp hs' np => ?_⟩
  rw [sorted_one hp hs']
  exact k _ ρ (.ref p) g hs (one p (.lst ((sortI ns).map V.int))) _ (h p) (Same.refl g) (W.grow (Same.new np)) ⟨rfl, _, one_same, DPs.of_ints _⟩ (W.apart1 np)
/-! ### a, b = x, y where a name is a cell: by a tuple -/
theorem Rs.grow {fr g : Hp} {hs : Prts} {H H' : Hp} {rs : List SV} {vs : List V} (h : Rs fr g hs H rs vs) (s : Same H H') : Rs fr g hs H' rs vs := by
  induction h with
  | nil => exact .nil
  | cons R A _ ih => exact .cons R ⟨fun a o e => s a o (A.s a o e), A.n, A.d⟩ (ih s)
theorem gNames_set {H : Hp} {Q : St → Hp → Prop} : ∀ {is : List Nat} {vs : List V} {σ : St}, vs.length = is.length → Q (setVs is vs σ) H → gNames is vs σ H Q
  | [], [], σ, _, q => ⟨rfl, q⟩
  | i :: is, v :: vs, σ, hl, q => ⟨v, vs, rfl, gNames_set (is := is) (vs := vs) (Nat.succ.inj hl) q⟩
theorem ds_parC {X : Cx} {K : PySem.W.Frag} {E : XK} {pos pt pt2 : Pos} {es tgs : List Expr} {kt k2 : Nat} {w : EM} (is : List Nat) (ha : PA X es (lM w)) (hg : GNs X tgs is) (hsz : is.length ≤ sizeLine := by decide) (e : PG X (.Tuple tgs kt pt) (gTup X.K is.length (gNames is)) := by exact pg_tup rfl (GNs.pgs (by assumption)))
    (hs : swapsWithSole [.Tuple tgs kt pt] (.Tuple es k2 pt2) pos.line X.env = pure false := by rfl) (hw : swappedStores [.Tuple tgs kt pt] (.Tuple es k2 pt2) X.env = pure none := by rfl) (h1 : (assignEach [.Tuple tgs kt pt] X.env).map (·.2) = [assign (.Tuple tgs kt pt) X.env] := by rfl) :
    PS X (.Assign [.Tuple tgs kt pt] (.Tuple es k2 pt2) pos) (lS K E (dPar is w)) := ps_imp (ps_asg (pe_tup ha) e hs hw h1) fun D σ H h => by
  obtain ⟨fr, g, hs, ρ, T, W, h, m⟩ := h
  refine ⟨fr, g, hs, ρ, _, W, h, fun rs ρ' vs g' hs' H' h' s' W' R' => ?_⟩
  obtain ⟨hl, h'⟩ := h'
  have lv := R'.len.trans hl
  refine ⟨by rw [lv]; exact hsz, fun p np => ⟨p, vs, rfl, SqT.of upd_same, lv, gNames_set lv ?_⟩⟩
  obtain ⟨hs2, W2⟩ := (W'.grow (Same.new np)).setRs (is := is) (R'.grow (Same.new np))
  exact m.nx _ _ g' hs2 _ h' s' W2
/-! ### name = [comprehension], on one line -/
section
variable {X : Cx} {K : PySem.W.Frag} {E : XK} {tg iter elt : Expr} {ifs : List Expr} {pos spos py : Pos} {scope : Scope} {y : Str}
theorem ds_setLc {own : List (Str × Nat)} {α : Type} [IRel α] {wi : EIa α} {js : List Nat} {b : TBa α} {wt : ETb} {we : ET} (t : Nat) (hN : X.N.Nodup) (hi : PI X tg iter (lI wi)) (ok : blkC X.N X.env.scope scope own = true)
    (hg : ∀ (s : Shared) (H : Hp) (C : Addr) (cl : List (Str × Addr)) (fp : List Addr), PG (X.blk s H scope (compEnvC scope cl C X.env) fp) tg (lG js b)) (ht : ∀ (s : Shared) (H : Hp) (C : Addr) (cl : List (Str × Addr)) (fp : List Addr), PTs (X.blk s H scope (compEnvC scope cl C X.env) fp) ifs (lT wt))
    (he : ∀ (s : Shared) (H : Hp) (C : Addr) (cl : List (Str × Addr)) (fp : List Addr), PE (X.blk s H scope (compEnvC scope cl C X.env) fp) elt (lE we)) (hj : ∀ j ∈ js, j ∈ own.map (·.2) := by decide) (hc : X.calm = true := by rfl) (hs : ∀ x, foldedSetIterable iter X.env x = pure x := by intro _; rfl)
    (hy : X.N[t]? = some y := by rfl) (hyl : X.env.scope.names.lookup y = some .local := by rfl)
    (hsw : swapsWith (.ListComp elt [⟨tg, iter, ifs, 0⟩] scope pos) (some (.Name y py)) spos.line X.env = pure true := by rfl) :
    PS X (.Assign [.Name y py] (.ListComp elt [⟨tg, iter, ifs, 0⟩] scope pos) spos) (lS K E (dSet t (dFroz (dLc wi b wt we (own.map (·.2)))))) := ps_imp (ps_setLc (i := t) hc hN hy hyl hsw hi (blkOk_by ok) hg ht he hs) fun D σ H h => by
  obtain ⟨fr, g, hs, ρ, T, W, h, m⟩ := h
  exact lLc hj (Q := fun v H' => gName t v σ H' D.nx) ⟨fr, g, hs, ρ, _, W, h, fun r ρ' v g' hs' ht H' h' s' W' r' A' => by
    obtain ⟨d, ed, h'⟩ := h'
    exact m.nx _ _ (uni g' ht) hs' H' h' (s'.trans uni_l) ((W'.absorb A').setD (r'.froz A' ed))⟩
end
/-- how Book is made -/
structure MkBook (P : Program) (w : World) (K : PySem.W.Frag) (mg : Str → Option Value) (base : Heap) (f : Addr) (fd : FuncData) : Prop where
  made : Mk K (cBook K) f
  fn : FnOk P w K mg base (L2.CX P w) 3 f fd ["self", "folk", "life", "hops"] (spX K 4 (bookI K okBook))
  kb : KBn K fd ["self", "folk", "life", "hops"] 2 ["life", "hops"] (fun us ws => us ++ ws) (fun vs zs => vs ++ zs)
  glo : mg "Book" = some (.ref (cBook K))
/-! ### the law itself: it gets the script, makes the box, and answers True -/
def spLaw (K : PySem.W.Frag) : Sp := fun vs H Q _ => ∃ (a : Addr) (ns : List Int), vs = [.ref a] ∧ SqL K H a (ns.map V.int) ∧ ns.length ≤ 63 ∧ smallBits ns ∧ LamX.Tabs Tb.T H ∧ ∀ H', Q (.bl true) H'
theorem spLaw_len {K : PySem.W.Frag} (vs : List V) (H : Hp) (Q : VK) (E : XK) (h : spLaw K vs H Q E) : vs.length = 1 := by
  obtain ⟨a, ns, e, _⟩ := h
  rw [e]
  rfl
abbrev tBox (K : PySem.W.Frag) (i : Nat) : TS := tAsg (tCall (spBegun K) [] E0 (tCons (tVar 0) tNil)) (gName i)
section
variable {P : Program} {w : World} {K : PySem.W.Frag} {mg : Str → Option Value} {base : Heap} {st : Stmt} {f : Addr} {fd : FuncData} {N : List Str} {k : Nat}
theorem law_fn {kws : List (Str × V)} (F : FunS K "law" "law" st kws f fd) (sc : FnScope N ["_law_script"] (defScope st)) (hN : 2 ≤ N.length) {v : SE}
    (hb : ∀ (cdv : Value) (A : Around) (outer : List PySem.Env) (s : Shared) (H : Hp) (E : XK), fd.code = cdv → Room k (A.deeper (PyProof.Rows.envOfC "law" (defScope st) s.heap.objs.size f cdv)) → PSs (cxOf CX0 P w K mg base N "law" (defScope st) f cdv A outer s H E).nox (defBody st) (tSeq (tBox K 1) (lS K E0 v)))
    (hw : ∀ p, v { nx := fun _ => False, rt := fun r _ => r = .dat (.bool true) } (none :: some (box p) :: List.replicate (N.length - 2) none)) : FnOk P w K mg base CX0 (k + 1) f fd ["_law_script"] (spLaw K) := by
  refine F.okC sc spLaw_len (fun cdv A outer s H vs Q E hc hr h => ⟨_, (hb cdv A outer s H E hc hr).nox, ?_⟩)
  obtain ⟨a, ns, e, hS, hl, hbits, ht, hq⟩ := h
  subst e
  have h0 : (L2.start N [V.ref a])[0]? = some (some (.ref a)) := by
    unfold L2.start
    simp
  refine ⟨_, h0, a, ns, rfl, hS, hl, hbits, fun S p s' nS np ne s0 s1 => ?_⟩
  have sm : Same H (upd (upd H S (.lst (ns.map V.int))) p (.lst [.ref S, .int s'])) := fun b o e => by
    rw [upd_ne (ne_of_none e np), upd_ne (ne_of_none e nS)]
    exact e
  let hbx : Hp := upd (one S (.lst (ns.map V.int))) p (.lst [.ref S, .int s'])
  have hbS : ∀ {b o}, hbx b = some o → upd (upd H S (.lst (ns.map V.int))) p (.lst [.ref S, .int s']) b = some o ∧ ord o = true := fun {b o} e => by
    have e : upd (one S (.lst (ns.map V.int))) p (.lst [.ref S, .int s']) b = some o := e
    by_cases q : b = p
    · rw [q, upd_same] at e ⊢
      cases e
      exact ⟨rfl, rfl⟩
    · rw [upd_ne q] at e ⊢
      obtain ⟨rfl, rfl⟩ := one_eq e
      exact ⟨upd_same, rfl⟩
  have hs1 : ∀ {j}, setH (fun _ => Fb.nil) 1 hbx j = if j = 1 then hbx else Fb.nil := fun {j} => rfl
  have hsj : ∀ {j b o}, setH (fun _ => Fb.nil) 1 hbx j b = some o → j = 1 ∧ hbx b = some o := fun {j b o} e => by
    rw [hs1] at e
    by_cases q : j = 1
    · rw [if_pos q] at e
      exact ⟨q, e⟩
    · rw [if_neg q] at e
      cases e
  have lens : (L2.start N [V.ref a]).length = N.length := by
    unfold L2.start
    simp
    omega
  refine ⟨fun _ => none, fun _ => none, setH (fun _ => Fb.nil) 1 hbx, none :: some (box p) :: List.replicate (N.length - 2) none, _, ⟨?_, fun b o e => (by cases e), fun b o e => (by cases e), fun b o e => (by cases e), fun j b o e => (hbS (hsj e).2).1, fun j b o e => rfl, fun j l b o jl e => ?_, fun j sv e => ?_, ht.ext sm, fun b o e => (by cases e), fun b o e => (by cases e), fun j b o e => (hbS (hsj e).2).2⟩, hw p, ⟨fun _ _ _ _ _ z => z.elim, fun r ρ' σ' u g' hs' htt H' er s'' W' R' A' => ?_, fun _ _ _ _ _ z => z.elim, fun _ _ _ _ _ z => z.elim, fun _ _ _ _ _ _ _ _ z => z.elim⟩⟩
  · rw [List.length_set, lens, List.length_cons, List.length_cons, List.length_replicate]
    omega
  · cases q : setH (fun _ => Fb.nil) 1 hbx l b with
    | none => rfl
    | some u => exact absurd ((hsj e).1.trans (hsj q).1.symm) jl
  · match j, e with
    | 0, e => simp at e
    | 1, e =>
      simp at e
      subst e
      refine ⟨.ref p, List.getElem?_set_self (by rw [lens]; omega), rfl, S, ns, s', ?_⟩
      rw [setH_same]
      refine ⟨?_, ?_, s0, s1, hbits, hl⟩
      · show upd (one S (.lst (ns.map V.int))) p (.lst [.ref S, .int s']) p = _
        rw [upd_same]
      · show upd (one S (.lst (ns.map V.int))) p (.lst [.ref S, .int s']) S = _
        rw [upd_ne ne, one_same]
    | j + 2, e =>
      simp at e
      rw [List.getElem?_replicate] at e
      split at e <;> cases e
  · subst er
    have e : u = .bl true := R'
    rw [e]
    exact hq H'
end
end Fb
namespace Fb
open PySem L2
set_option autoImplicit false
variable [Tb]

/-! ### k17: two books, a short life and a longer one -/
def strip (p : Int × Db) : Int × Int × Int × Str × Int × Int := (p.1, p.2.debtor, p.2.creditor, p.2.kind, p.2.born, p.2.passed)
def upTo (n : Nat) (q : Nat → Bool) : List Int := ((List.range n).filter q).map fun (k : Nat) => (k : Int)
theorem upTo_mem {n : Nat} {q : Nat → Bool} {m : Int} : m ∈ upTo n q ↔ ∃ k : Nat, k < n ∧ q k = true ∧ m = k := by
  unfold upTo
  simp only [List.mem_map, List.mem_filter, List.mem_range]
  constructor
  · rintro ⟨k, ⟨h1, h2⟩, h3⟩
    exact ⟨k, h1, h2, h3.symm⟩
  · rintro ⟨k, h1, h2, h3⟩
    exact ⟨k, ⟨h1, h2⟩, h3.symm⟩
theorem upTo_up {n : Nat} {q : Nat → Bool} : (upTo n q).Pairwise (· < ·) := by
  unfold upTo
  rw [List.pairwise_map]
  exact (List.Pairwise.sublist List.filter_sublist List.pairwise_lt_range).imp fun {a b} h => by omega
theorem upTo_len {n : Nat} {q : Nat → Bool} : (upTo n q).length ≤ n := by
  unfold upTo
  rw [List.length_map]
  exact Nat.le_trans (List.length_filter_le _ _) (by simp)
theorem upTo_congr {n : Nat} {q r : Nat → Bool} (h : ∀ k < n, q k = r k) : upTo n q = upTo n r := by
  unfold upTo
  rw [List.filter_congr fun k hk => h k (List.mem_range.mp hk)]
theorem upTo_succ {n : Nat} {q : Nat → Bool} : upTo (n + 1) q = upTo n q ++ if q n = true then [(n : Int)] else [] := by
  unfold upTo
  rw [List.range_succ, List.filter_append, List.map_append]
  by_cases h : q n = true <;> simp [h]
theorem upTo_filter {n : Nat} {q : Nat → Bool} {r : Int → Bool} : (upTo n q).filter r = upTo n fun k => q k && r k := by
  unfold upTo
  rw [List.filter_map, List.filter_filter]
  congr 1
  exact List.filter_congr fun k _ => by simp [Bool.and_comm]
structure I17 (fs : List Str) (h L M : Int) (c : Nat) (B W : Bk) (n : Nat) (born : Nat → Int) (gs : List Int) : Prop where
  bf : B.folk = fs
  wf : W.folk = fs
  bh : B.hops = h
  wh : W.hops = h
  bl : B.life = L
  wl : W.life = L + M
  tk : W.tick = B.tick
  fr : B.fresh = n
  wr : W.fresh = n
  nc : n ≤ c
  bs : B.story.length ≤ c
  ws : W.story.length ≤ c
  kd : ∀ p ∈ W.debts, p.2.kind ∈ (["", "a", "b", "c"] : List Str)
  wk : W.debts.map (·.1) = upTo n fun k => decide (B.tick < born k + (L + M))
  wb : ∀ p ∈ W.debts, p.2.born = born p.1.toNat
  st : B.debts.map strip = (W.debts.filter fun p => decide (B.tick < p.2.born + L)).map strip
  gg : ∀ g ∈ gs, ∃ k : Nat, k < n ∧ g = k
  gi : ∀ k : Nat, k < n → ((k : Int) ∈ gs ↔ born k + L ≤ B.tick)
  bt : ∀ k : Nat, k < n → born k ≤ B.tick
  mp : 0 < M
  lp : 0 < L
  gl : gs.length ≤ c * c
section
variable {fs : List Str} {h L M : Int} {c : Nat} {B W : Bk} {n : Nat} {born : Nat → Int} {gs : List Int}
theorem I17.keys (I : I17 fs h L M c B W n born gs) : B.debts.map (·.1) = upTo n fun k => decide (B.tick < born k + L) := by
  have e1 : B.debts.map (·.1) = (B.debts.map strip).map (·.1) := by rw [List.map_map]; rfl
  have e2 : (W.debts.filter fun p => decide (B.tick < p.2.born + L)).map (·.1) = (W.debts.map (·.1)).filter fun m => decide (B.tick < born m.toNat + L) := by
    rw [List.filter_map]
    congr 1
    exact List.filter_congr fun p hp => by
      show _ = decide (B.tick < born p.1.toNat + L)
      rw [I.wb p hp]
  rw [e1, I.st, List.map_map, show ((fun x : Int × Int × Int × Str × Int × Int => x.1) ∘ strip) = fun p : Int × Db => p.1 from rfl, e2, I.wk, upTo_filter]
  refine upTo_congr fun k hk => ?_
  have mp := I.mp
  by_cases q : B.tick < born k + L
  · simp [q]
    omega
  · simp [q]
theorem I17.ofStrip (I : I17 fs h L M c B W n born gs) {p : Int × Db} (hp : p ∈ B.debts) : ∃ q ∈ W.debts, strip q = strip p ∧ B.tick < q.2.born + L := by
  have m : strip p ∈ B.debts.map strip := List.mem_map.mpr ⟨p, hp, rfl⟩
  rw [I.st] at m
  obtain ⟨q, h1, h2⟩ := List.mem_map.mp m
  obtain ⟨h3, h4⟩ := List.mem_filter.mp h1
  exact ⟨q, h3, h2, of_decide_eq_true h4⟩
theorem I17.bup (I : I17 fs h L M c B W n born gs) : (B.debts.map (·.1)).Pairwise (· < ·) := by
  rw [I.keys]
  exact upTo_up
theorem I17.wup (I : I17 fs h L M c B W n born gs) : (W.debts.map (·.1)).Pairwise (· < ·) := by
  rw [I.wk]
  exact upTo_up
theorem I17.gb (I : I17 fs h L M c B W n born gs) (ok : okFolk fs) (hc : c < 1000) : GoodBk B := by
  refine ⟨by rw [I.bf]; exact ok, fun p hp => ?_, ?_, by have := I.bs; omega, fun p hp => ?_⟩
  · have m : p.1 ∈ B.debts.map (·.1) := List.mem_map.mpr ⟨p, hp, rfl⟩
    rw [I.keys] at m
    obtain ⟨k, h1, _, h2⟩ := upTo_mem.mp m
    rw [I.fr, h2]
    omega
  · have e := congrArg List.length I.keys
    rw [List.length_map] at e
    have := upTo_len (n := n) (q := fun k => decide (B.tick < born k + L))
    have := I.nc
    omega
  · obtain ⟨q, hq, e, _⟩ := I.ofStrip hp
    have z : q.2.kind = p.2.kind := by
      have := congrArg (fun s : Int × Int × Int × Str × Int × Int => s.2.2.2.1) e
      exact this
    rw [← z]
    exact I.kd q hq
theorem I17.gw (I : I17 fs h L M c B W n born gs) (ok : okFolk fs) (hc : c < 1000) : GoodBk W := by
  refine ⟨by rw [I.wf]; exact ok, fun p hp => ?_, ?_, by have := I.ws; omega, I.kd⟩
  · have m : p.1 ∈ W.debts.map (·.1) := List.mem_map.mpr ⟨p, hp, rfl⟩
    rw [I.wk] at m
    obtain ⟨k, h1, _, h2⟩ := upTo_mem.mp m
    rw [I.wr, h2]
    omega
  · have e := congrArg List.length I.wk
    rw [List.length_map] at e
    have := upTo_len (n := n) (q := fun k => decide (B.tick < born k + (L + M)))
    have := I.nc
    omega
theorem I17.bborn (I : I17 fs h L M c B W n born gs) {p : Int × Db} (hp : p ∈ B.debts) : ∃ k : Nat, k < n ∧ p.1 = k ∧ p.2.born = born k ∧ B.tick < born k + L := by
  have m : p.1 ∈ B.debts.map (·.1) := List.mem_map.mpr ⟨p, hp, rfl⟩
  rw [I.keys] at m
  obtain ⟨k, h1, h3, h2⟩ := upTo_mem.mp m
  obtain ⟨q, hq, e, _⟩ := I.ofStrip hp
  have e1 : q.1 = p.1 := congrArg (fun s : Int × Int × Int × Str × Int × Int => s.1) e
  have e2 : q.2.born = p.2.born := congrArg (fun s : Int × Int × Int × Str × Int × Int => s.2.2.2.2.1) e
  refine ⟨k, h1, h2, ?_, of_decide_eq_true h3⟩
  rw [← e2, I.wb q hq, e1, h2]
  simp
theorem I17.mono (I : I17 fs h L M c B W n born gs) {c' : Nat} (hc : c ≤ c') : I17 fs h L M c' B W n born gs :=
  ⟨I.bf, I.wf, I.bh, I.wh, I.bl, I.wl, I.tk, I.fr, I.wr, Nat.le_trans I.nc hc, Nat.le_trans I.bs hc, Nat.le_trans I.ws hc, I.kd, I.wk, I.wb, I.st, I.gg, I.gi, I.bt, I.mp, I.lp, Nat.le_trans I.gl (Nat.mul_le_mul hc hc)⟩
/-! a tick of both -/
def due17 (n : Nat) (born : Nat → Int) (L t : Int) : List Int := upTo n fun k => decide (born k + L = t + 1)
theorem filter_keys {l : List (Int × Db)} {r : Int → Bool} {r' : Int × Db → Bool} (h : ∀ p ∈ l, r' p = r p.1) : (l.filter r').map (·.1) = (l.map (·.1)).filter r := by
  rw [List.filter_map]
  congr 1
  exact List.filter_congr fun p hp => h p hp
theorem I17.gone (I : I17 fs h L M c B W n born gs) : goneAt B = due17 n born L B.tick := by
  unfold goneAt due17
  rw [filter_keys (r := fun m => decide (born m.toNat + L ≤ B.tick + 1)) (fun p hp => by
    obtain ⟨k, _, h2, h3, _⟩ := I.bborn hp
    rw [I.bl, h3, h2]
    simp), I.keys, upTo_filter]
  refine upTo_congr fun k hk => ?_
  simp
  by_cases q : born k + L = B.tick + 1
  · simp [q]
    omega
  · simp [q]
    omega
theorem I17.gl2 (I : I17 fs h L M c B W n born gs) : (gs ++ goneAt B).length ≤ (c + 1) * (c + 1) := by
  have h1 := I.gl
  have h2 : (goneAt B).length ≤ n := by
    rw [I.gone]
    exact upTo_len
  have h3 := I.nc
  have h4 : (c + 1) * (c + 1) = c * c + c + c + 1 := by
    rw [Nat.add_mul, Nat.mul_add]
    omega
  rw [List.length_append]
  omega
theorem I17.ticked (I : I17 fs h L M c B W n born gs) : I17 fs h L M (c + 1) (tickB B) (tickB W) n born (gs ++ goneAt B) := by
  have bs := I.bs
  have ws := I.ws
  have nc := I.nc
  refine ⟨I.bf, I.wf, I.bh, I.wh, I.bl, I.wl, by show W.tick + 1 = B.tick + 1; rw [I.tk], I.fr, I.wr, by omega, by show (B.story ++ [_]).length ≤ _; rw [List.length_append]; simp; omega, by show (W.story ++ [_]).length ≤ _; rw [List.length_append]; simp; omega,
    fun p hp => I.kd p (List.mem_filter.mp hp).1, ?_, fun p hp => I.wb p (List.mem_filter.mp hp).1, ?_, fun g hg => ?_, fun k hk => ?_, fun k hk => ?_, I.mp, I.lp, I.gl2⟩
  · show (W.debts.filter fun p => !decide (p.2.born + W.life ≤ W.tick + 1)).map (·.1) = upTo n fun k => decide (B.tick + 1 < born k + (L + M))
    rw [filter_keys (r := fun m => !decide (born m.toNat + (L + M) ≤ B.tick + 1)) (fun p hp => by rw [I.wb p hp, I.wl, I.tk]), I.wk, upTo_filter]
    refine upTo_congr fun k hk => ?_
    simp
    by_cases q : B.tick + 1 < born k + (L + M)
    · simp [q]
      omega
    · simp [q]
      omega
  · show (B.debts.filter fun p => !decide (p.2.born + B.life ≤ B.tick + 1)).map strip = ((W.debts.filter fun p => !decide (p.2.born + W.life ≤ W.tick + 1)).filter fun p => decide (B.tick + 1 < p.2.born + L)).map strip
    have e1 : (B.debts.filter fun p => !decide (p.2.born + B.life ≤ B.tick + 1)).map strip = (B.debts.map strip).filter fun s => !decide (s.2.2.2.2.1 + L ≤ B.tick + 1) := by
      rw [List.filter_map]
      congr 1
      exact List.filter_congr fun p hp => by
        rw [I.bl]
        rfl
    rw [e1, I.st, List.filter_map, List.filter_filter, List.filter_filter]
    congr 1
    refine List.filter_congr fun p hp => ?_
    have mp := I.mp
    rw [I.wl, I.tk]
    show (!decide (p.2.born + L ≤ B.tick + 1) && decide (B.tick < p.2.born + L)) = (decide (B.tick + 1 < p.2.born + L) && !decide (p.2.born + (L + M) ≤ B.tick + 1))
    by_cases q : B.tick + 1 < p.2.born + L
    · have q1 : ¬ p.2.born + L ≤ B.tick + 1 := by omega
      have q2 : B.tick < p.2.born + L := by omega
      have q3 : ¬ p.2.born + (L + M) ≤ B.tick + 1 := by omega
      simp [q, q1, q2, q3]
    · have q1 : p.2.born + L ≤ B.tick + 1 := by omega
      simp [q, q1]
  · rcases List.mem_append.mp hg with z | z
    · exact I.gg g z
    · rw [I.gone] at z
      obtain ⟨k, h1, _, h2⟩ := upTo_mem.mp z
      exact ⟨k, h1, h2⟩
  · show _ ↔ born k + L ≤ B.tick + 1
    rw [List.mem_append, I.gi k hk, I.gone]
    constructor
    · rintro (z | z)
      · omega
      · obtain ⟨k', _, h2, h3⟩ := upTo_mem.mp z
        have e : k = k' := by omega
        subst e
        have := of_decide_eq_true h2
        omega
    · intro z
      by_cases q : born k + L ≤ B.tick
      · exact .inl q
      · exact .inr (upTo_mem.mpr ⟨k, hk, decide_eq_true (by omega), rfl⟩)
  · have := I.bt k hk
    show born k ≤ B.tick + 1
    omega
/-! a favour done to both -/
def bornAt (n : Nat) (t : Int) (born : Nat → Int) : Nat → Int := fun k => if k = n then t else born k
theorem bornAt_ne {t : Int} {k : Nat} (h : k ≠ n) : bornAt n t born k = born k := if_neg h
theorem bornAt_eq {t : Int} : bornAt n t born n = t := if_pos rfl
theorem I17.did (I : I17 fs h L M c B W n born gs) {i j : Int} {z : Str} {p q : Addr} (hz : z ∈ (["", "a", "b", "c"] : List Str)) : I17 fs h L M (c + 1) (doneB B i j z p) (doneB W i j z q) (n + 1) (bornAt n B.tick born) gs := by
  have bs := I.bs
  have ws := I.ws
  have nc := I.nc
  have kz : ∀ x : Bk, (debtOf x i j z q).kind ∈ (["", "a", "b", "c"] : List Str) := fun x => by
    show (if subStr z ((x.folk[j.toNat]?).getD "") = true then z else "") ∈ _
    split
    · exact hz
    · decide
  have bn : ∀ k, k < n → bornAt n B.tick born k = born k := fun k hk => bornAt_ne (by omega)
  refine ⟨I.bf, I.wf, I.bh, I.wh, I.bl, I.wl, I.tk, by show B.fresh + 1 = _; rw [I.fr]; omega, by show W.fresh + 1 = _; rw [I.wr]; omega, by omega, by show (B.story ++ [_]).length ≤ _; rw [List.length_append]; simp; omega, by show (W.story ++ [_]).length ≤ _; rw [List.length_append]; simp; omega,
    fun x hx => ?_, ?_, fun x hx => ?_, ?_, fun g hg => ?_, fun k hk => ?_, fun k hk => ?_, I.mp, I.lp, Nat.le_trans I.gl (Nat.mul_le_mul (Nat.le_succ _) (Nat.le_succ _))⟩
  · have hx : x ∈ W.debts ++ [(W.fresh, debtOf W i j z q)] := hx
    rcases List.mem_append.mp hx with y | y
    · exact I.kd x y
    · have e : x = (W.fresh, debtOf W i j z q) := by simpa using y
      rw [e]
      exact kz W
  · show (W.debts ++ [(W.fresh, debtOf W i j z q)]).map (·.1) = upTo (n + 1) fun k => decide (B.tick < bornAt n B.tick born k + (L + M))
    have mp := I.mp
    have lp := I.lp
    rw [List.map_append, I.wk, upTo_succ, bornAt_eq, if_pos (decide_eq_true (by omega)), upTo_congr (n := n) (q := fun k => decide (B.tick < bornAt n B.tick born k + (L + M))) (r := fun k => decide (B.tick < born k + (L + M))) fun k hk => by rw [bn k hk]]
    show _ ++ [W.fresh] = _
    rw [I.wr]
  · have hx : x ∈ W.debts ++ [(W.fresh, debtOf W i j z q)] := hx
    rcases List.mem_append.mp hx with y | y
    · have m : x.1 ∈ W.debts.map (·.1) := List.mem_map.mpr ⟨x, y, rfl⟩
      rw [I.wk] at m
      obtain ⟨k, h1, _, h2⟩ := upTo_mem.mp m
      rw [I.wb x y, h2]
      simp
      rw [bn k h1]
    · have e : x = (W.fresh, debtOf W i j z q) := by simpa using y
      rw [e, show ((W.fresh, debtOf W i j z q) : Int × Db).1 = n from I.wr]
      show W.tick = _
      simp
      rw [bornAt_eq, I.tk]
  · show (B.debts ++ [(B.fresh, debtOf B i j z p)]).map strip = ((W.debts ++ [(W.fresh, debtOf W i j z q)]).filter fun x => decide (B.tick < x.2.born + L)).map strip
    have lp := I.lp
    have f1 : ([(W.fresh, debtOf W i j z q)].filter fun x : Int × Db => decide (B.tick < x.2.born + L)) = [(W.fresh, debtOf W i j z q)] := by
      rw [List.filter_cons, if_pos]
      · rfl
      · show decide (B.tick < W.tick + L) = true
        rw [I.tk]
        exact decide_eq_true (by omega)
    rw [List.filter_append, f1, List.map_append, List.map_append, I.st]
    congr 1
    show [strip (B.fresh, debtOf B i j z p)] = [strip (W.fresh, debtOf W i j z q)]
    unfold strip debtOf
    simp only [I.bf, I.wf, I.fr, I.wr, I.tk]
  · obtain ⟨k, h1, h2⟩ := I.gg g hg
    exact ⟨k, by omega, h2⟩
  · show _ ↔ bornAt n B.tick born k + L ≤ B.tick
    have lp := I.lp
    by_cases e : k = n
    · subst e
      rw [bornAt_eq]
      constructor
      · intro z
        obtain ⟨k', h1, h2⟩ := I.gg _ z
        omega
      · intro z
        omega
    · rw [bornAt_ne e]
      exact I.gi k (by omega)
  · show bornAt n B.tick born k ≤ B.tick
    by_cases e : k = n
    · subst e
      rw [bornAt_eq]
      exact Int.le_refl _
    · rw [bornAt_ne e]
      exact I.bt k (by omega)
/-! a debt passed on -/
theorem dbGet_none {l : List (Int × Db)} {m : Int} (e : dbGet l m = none) {p : Int × Db} (hp : p ∈ l) : p.1 ≠ m := fun z => by
  unfold dbGet at e
  rw [Option.map_eq_none_iff, List.find?_eq_none] at e
  exact e p hp (decide_eq_true z)
theorem dbGet_some {l : List (Int × Db)} {m : Int} {d : Db} (up : (l.map (·.1)).Pairwise (· < ·)) (h : (m, d) ∈ l) : dbGet l m = some d := by
  cases e : dbGet l m with
  | none => exact absurd rfl (dbGet_none e h)
  | some x => rw [keys_one up (dbGet_mem e) h]
/-- what both say of a debt that is not gone -/
theorem I17.same (I : I17 fs h L M c B W n born gs) {m : Int} (hm : m ∉ gs) : (dbGet B.debts m = none ∧ dbGet W.debts m = none) ∨ ∃ x y, dbGet B.debts m = some x ∧ dbGet W.debts m = some y ∧ strip (m, x) = strip (m, y) ∧ B.tick < y.born + L := by
  cases e : dbGet B.debts m with
  | some x =>
    obtain ⟨q, hq, e2, e3⟩ := I.ofStrip (dbGet_mem e)
    have e1 : q.1 = m := congrArg (fun s : Int × Int × Int × Str × Int × Int => s.1) e2
    obtain ⟨qm, y⟩ := q
    have e1 : qm = m := e1
    subst e1
    exact .inr ⟨x, y, rfl, dbGet_some I.wup hq, e2.symm, e3⟩
  | none =>
    refine .inl ⟨rfl, ?_⟩
    cases e2 : dbGet W.debts m with
    | none => rfl
    | some y =>
      have hq := dbGet_mem e2
      have mm : m ∈ W.debts.map (·.1) := List.mem_map.mpr ⟨_, hq, rfl⟩
      rw [I.wk] at mm
      obtain ⟨k, h1, _, h2⟩ := upTo_mem.mp mm
      have al : B.tick < born k + L := by
        have := (I.gi k h1)
        rw [← h2] at this
        by_cases z : born k + L ≤ B.tick
        · exact absurd (this.mpr z) hm
        · omega
      have yb : y.born = born k := by
        have := I.wb _ hq
        rw [show ((m, y) : Int × Db).1 = m from rfl, h2] at this
        simpa using this
      have inB : strip (m, y) ∈ B.debts.map strip := by
        rw [I.st]
        exact List.mem_map.mpr ⟨(m, y), List.mem_filter.mpr ⟨hq, decide_eq_true (by show B.tick < y.born + L; omega)⟩, rfl⟩
      obtain ⟨p, hp, ep⟩ := List.mem_map.mp inB
      have e1 : p.1 = m := congrArg (fun s : Int × Int × Int × Str × Int × Int => s.1) ep
      exact absurd e1 (dbGet_none e hp)
def setS (m t ps : Int) (s : Int × Int × Int × Str × Int × Int) : Int × Int × Int × Str × Int × Int := if s.1 = m then (s.1, s.2.1, t, s.2.2.2.1, s.2.2.2.2.1, ps) else s
theorem strip_set {l : List (Int × Db)} (up : (l.map (·.1)).Pairwise (· < ·)) {m t : Int} {d : Db} (hd : (m, d) ∈ l) : (dbSet l m { d with creditor := t, passed := d.passed + 1 }).map strip = (l.map strip).map (setS m t (d.passed + 1)) := by
  unfold dbSet
  rw [List.map_map, List.map_map]
  refine List.map_congr_left fun p hp => ?_
  show strip (if p.1 = m then (p.1, _) else p) = setS m t (d.passed + 1) (strip p)
  unfold setS
  by_cases e : p.1 = m
  · obtain ⟨pm, pd⟩ := p
    have e : pm = m := e
    subst e
    rw [keys_one up hp hd, if_pos (show (pm, d).1 = pm from rfl), if_pos (show (strip (pm, d)).1 = pm from rfl)]
    rfl
  · rw [if_neg e, if_neg (show ¬ (strip p).1 = m from e)]
theorem set_filter {l : List (Int × Db)} (up : (l.map (·.1)).Pairwise (· < ·)) {m : Int} {d d' : Db} (hd : (m, d) ∈ l) (eb : d'.born = d.born) {a : Int} : (dbSet l m d').filter (fun p => decide (a < p.2.born + L)) = dbSet (l.filter fun p => decide (a < p.2.born + L)) m d' := by
  unfold dbSet
  rw [List.filter_map]
  congr 1
  refine List.filter_congr fun p hp => ?_
  show decide (a < (if p.1 = m then (p.1, d') else p).2.born + L) = _
  split
  · rename_i e
    obtain ⟨pm, pd⟩ := p
    have e : pm = m := e
    subst e
    rw [keys_one up hp hd]
    show decide (a < d'.born + L) = decide (a < d.born + L)
    rw [eb]
  · rfl
theorem I17.passW' (I : I17 fs h L M c B W n born gs) {m t : Int} {y : Db} (hy : dbGet W.debts m = some y) {B' : Bk} (ebf : B'.folk = B.folk) (ebh : B'.hops = B.hops) (ebl : B'.life = B.life) (ebt : B'.tick = B.tick) (ebr : B'.fresh = B.fresh) (ebs : B'.story.length ≤ B.story.length + 1)
    (est : B'.debts.map strip = ((passB W m y t).debts.filter fun p => decide (B.tick < p.2.born + L)).map strip) : I17 fs h L M (c + 1) B' (passB W m y t) n born gs := by
  have bs := I.bs
  have ws := I.ws
  have nc := I.nc
  have hm := dbGet_mem hy
  refine ⟨by rw [ebf, I.bf], I.wf, by rw [ebh, I.bh], I.wh, by rw [ebl, I.bl], I.wl, by rw [ebt]; exact I.tk, by rw [ebr, I.fr], I.wr, by omega, by omega, by show (W.story ++ [_]).length ≤ _; rw [List.length_append]; simp; omega, fun x hx => ?_, ?_, fun x hx => ?_, by rw [ebt]; exact est, I.gg, by rw [ebt]; exact I.gi, by rw [ebt]; exact I.bt, I.mp, I.lp, Nat.le_trans I.gl (Nat.mul_le_mul (Nat.le_succ _) (Nat.le_succ _))⟩
  · have hx : x ∈ dbSet W.debts m _ := hx
    unfold dbSet at hx
    obtain ⟨q, hq, e⟩ := List.mem_map.mp hx
    split at e
    · rw [← e]
      exact I.kd (m, y) hm
    · rw [← e]
      exact I.kd q hq
  · show (dbSet W.debts m _).map (·.1) = _
    rw [dbSet_keys, I.wk, ebt]
  · have hx : x ∈ dbSet W.debts m _ := hx
    unfold dbSet at hx
    obtain ⟨q, hq, e⟩ := List.mem_map.mp hx
    split at e
    · rename_i e2
      rw [← e, e2]
      exact I.wb (m, y) hm
    · rw [← e]
      exact I.wb q hq
theorem I17.passW (I : I17 fs h L M c B W n born gs) {m t : Int} {y : Db} (hm : m ∈ gs) (hy : dbGet W.debts m = some y) : I17 fs h L M (c + 1) B (passB W m y t) n born gs := by
  refine I.passW' hy rfl rfl rfl rfl rfl (by omega) ?_
  have hq := dbGet_mem hy
  have mm : m ∈ W.debts.map (·.1) := List.mem_map.mpr ⟨_, hq, rfl⟩
  rw [I.wk] at mm
  obtain ⟨k, h1, _, h2⟩ := upTo_mem.mp mm
  have al : born k + L ≤ B.tick := (I.gi k h1).mp (by rw [← h2]; exact hm)
  have yb : y.born = born k := by
    have := I.wb _ hq
    rw [show ((m, y) : Int × Db).1 = m from rfl, h2] at this
    simpa using this
  show B.debts.map strip = ((dbSet W.debts m _).filter _).map strip
  rw [set_filter (d := y) (d' := { y with creditor := t, passed := y.passed + 1 }) I.wup hq rfl, I.st]
  congr 1
  unfold dbSet
  refine (List.map_id _).symm.trans (List.map_congr_left fun p hp => ?_)
  obtain ⟨h3, h4⟩ := List.mem_filter.mp hp
  show p = if p.1 = m then _ else p
  rw [if_neg]
  intro e
  obtain ⟨pm, pd⟩ := p
  have e : pm = m := e
  subst e
  rw [keys_one I.wup h3 hq] at h4
  have := of_decide_eq_true h4
  have : B.tick < y.born + L := this
  omega
theorem I17.passB (I : I17 fs h L M c B W n born gs) {m t : Int} {x y : Db} (hx : dbGet B.debts m = some x) (hy : dbGet W.debts m = some y) (es : strip (m, x) = strip (m, y)) (al : B.tick < y.born + L) : I17 fs h L M (c + 1) (Fb.passB B m x t) (Fb.passB W m y t) n born gs := by
  refine I.passW' hy rfl rfl rfl rfl rfl (by show (B.story ++ [_]).length ≤ _; rw [List.length_append]; simp) ?_
  have hq := dbGet_mem hy
  have hb := dbGet_mem hx
  have ep : x.passed = y.passed := congrArg (fun s : Int × Int × Int × Str × Int × Int => s.2.2.2.2.2) es
  show (dbSet B.debts m _).map strip = ((dbSet W.debts m _).filter _).map strip
  rw [set_filter (d := y) (d' := { y with creditor := t, passed := y.passed + 1 }) I.wup hq rfl, strip_set I.bup hb, strip_set (l := W.debts.filter _) (List.Pairwise.sublist (List.Sublist.map _ List.filter_sublist) I.wup) (List.mem_filter.mpr ⟨hq, decide_eq_true al⟩), I.st, ep]
end
/-! the dict of what began -/
def bg (n : Nat) (born : Nat → Int) : List (Key × PyData) := (List.range n).map fun (k : Nat) => (Sum.inl (k : Int), PyData.int (born k))
theorem bg_len {n : Nat} {born : Nat → Int} : (bg n born).length = n := by unfold bg; rw [List.length_map, List.length_range]
theorem bg_keys {n : Nat} {born : Nat → Int} : (bg n born).map (·.1) = ((List.range n).map fun (k : Nat) => (k : Int)).map Sum.inl := by
  unfold bg
  rw [List.map_map, List.map_map]
  rfl
theorem bg_up {n : Nat} : ((List.range n).map fun (k : Nat) => (k : Int)).Pairwise (· < ·) := by
  rw [List.pairwise_map]
  exact List.pairwise_lt_range.imp fun {a b} h => by omega
theorem find_range {n k : Nat} (h : k < n) {p : Nat → Bool} (hp : p k = true) (ho : ∀ j, p j = true → j = k) : (List.range n).find? p = some k := by
  cases e : (List.range n).find? p with
  | none => exact absurd hp (by simpa using List.find?_eq_none.mp e k (List.mem_range.mpr h))
  | some j => rw [ho j (List.find?_some e)]
theorem bg_look {n k : Nat} {born : Nat → Int} (h : k < n) : lookD (bg n born) (.inl (k : Int)) = some (.int (born k)) := by
  unfold lookD bg
  rw [List.find?_map, find_range h (k := k)]
  · rfl
  · show decide _ = true
    exact decide_eq_true rfl
  · intro j hj
    have : (Sum.inl (j : Int) : Key) = .inl (k : Int) := of_decide_eq_true hj
    have : (j : Int) = k := Sum.inl.inj this
    omega
theorem bg_put {n : Nat} {born : Nat → Int} {t : Int} : putD (bg n born) (.inl (n : Int)) (.int t) = bg (n + 1) (bornAt n t born) := by
  unfold putD
  rw [if_neg]
  · unfold bg
    rw [List.range_succ, List.map_append]
    congr 1
    · exact List.map_congr_left fun k hk => by rw [bornAt_ne (by have := List.mem_range.mp hk; omega)]
    · show _ = [((Sum.inl (n : Int) : Key), PyData.int (bornAt n t born n))]
      rw [bornAt_eq]
  · rw [List.any_eq_true]
    rintro ⟨x, h1, h2⟩
    obtain ⟨k, hk, e⟩ := List.mem_map.mp h1
    have h2 := of_decide_eq_true h2
    rw [← e] at h2
    have : (k : Int) = n := Sum.inl.inj h2
    have := List.mem_range.mp hk
    omega
/-- the slots between two turns -/
def st17 (K : PySem.W.Frag) (p : Addr) (fs : List Str) (h L M : Int) (a : Addr) (B : Bk) (b : Addr) (W : Bk) (d : Addr) (kvs : List (Key × PyData)) (gs : List Int) (c : Int) (x : Ev) : Ev :=
  none :: some (box p) :: some (.dat (.tuple (fs.map .str))) :: some (.dat (.int h)) :: some (.dat (.int L)) :: some (.dat (.int M)) :: some (bk K a B) :: some (bk K b W) :: some (.dic d kvs) :: some (.dat (.list (gs.map .int))) :: some (.dat (.int c)) :: x
theorem I17.start {fs : List Str} {h L M : Int} {D S D2 S2 : Addr} (lp : 0 < L) (mp : 0 < M) : I17 fs h L M 0 (bk0 fs L h D S) (bk0 fs (L + M) h D2 S2) 0 (fun _ => 0) [] :=
  ⟨rfl, rfl, rfl, rfl, rfl, rfl, rfl, rfl, rfl, Nat.le_refl _, Nat.le_refl _, Nat.le_refl _, (fun p hp => by cases hp), rfl, (fun p hp => by cases hp), rfl, (fun g hg => by cases hg), (fun k hk => by omega), (fun k hk => by omega), mp, lp, Nat.le_refl _⟩
theorem rows_ne {B : Bk} (h : B.debts ≠ []) : PyData.eqvAll (rowsOf B) [] = false := by
  unfold rowsOf
  cases e : B.debts with
  | nil => exact absurd e h
  | cons x xs => simp
theorem rows_no {B : Bk} (h : B.debts = []) : rowsOf B = [] := by
  unfold rowsOf
  rw [h]
  rfl
theorem gone_no {B : Bk} (h : B.debts = []) : goneAt B = [] := by
  unfold goneAt
  rw [h]
  rfl
theorem tick_no {B : Bk} (h : B.debts = []) : (tickB B).debts = [] := by
  unfold tickB
  show B.debts.filter _ = _
  rw [h]
  rfl
theorem len9 {α : Type} {x : List α} (h : x.length = 9) : ∃ a b c d e f g i j, x = [a, b, c, d, e, f, g, i, j] := by
  match x, h with
  | [a, b, c, d, e, f, g, i, j], _ => exact ⟨a, b, c, d, e, f, g, i, j, rfl⟩
section
variable {fs : List Str} {h L M : Int} {c : Nat} {B W : Bk} {n : Nat} {born : Nat → Int} {gs : List Int}
theorem I17.done17 (I : I17 fs h L M c B W n born gs) {i j : Int} {z : Str} {r r2 : PyData} {B' W' : Bk} (hz : z ∈ (["", "a", "b", "c"] : List Str)) (hW : DidDone W i j z r W') (hB : DidDone B i j z r2 B') :
    r2 = r ∧ szD 7 r ∧ ((isInt r = false ∧ I17 fs h L M (c + 1) B' W' n born gs) ∨ (r = .int n ∧ W'.tick = B.tick ∧ I17 fs h L M (c + 1) B' W' (n + 1) (bornAt n B.tick born) gs)) := by
  unfold DidDone at hW hB
  rw [I.wf] at hW
  rw [I.bf] at hB
  have sz : ∀ x : String, szD 7 (rfD x) := fun x => ⟨by show 2 < 4611686018427387904; decide, fun d hd => by
    have : d = .str (Str.ofString x) ∨ d = .int 0 := by simpa using hd
    rcases this with rfl | rfl <;> exact trivial⟩
  by_cases q : i = j
  · rw [if_pos q] at hW hB
    obtain ⟨rfl, rfl⟩ := hW
    obtain ⟨rfl, rfl⟩ := hB
    exact ⟨rfl, sz _, .inl ⟨rfl, I.mono (by omega)⟩⟩
  · rw [if_neg q] at hW hB
    by_cases q2 : subStr z ((fs[i.toNat]?).getD "") = true
    · rw [if_pos q2] at hW hB
      obtain ⟨rfl, p, rfl⟩ := hW
      obtain ⟨rfl, p', rfl⟩ := hB
      refine ⟨by rw [I.fr, I.wr], trivial, .inr ⟨by rw [I.wr], I.tk, I.did hz⟩⟩
    · rw [if_neg q2] at hW hB
      obtain ⟨rfl, rfl⟩ := hW
      obtain ⟨rfl, rfl⟩ := hB
      exact ⟨rfl, sz _, .inl ⟨rfl, I.mono (by omega)⟩⟩
theorem I17.pass17 (I : I17 fs h L M c B W n born gs) {m t : Int} {r : PyData} {W' : Bk} (hW : DidPass W m t r W') :
    szD 7 r ∧ isInt r = false ∧ (m ∈ gs → I17 fs h L M (c + 1) B W' n born gs) ∧ (m ∉ gs → ∀ r2 B', DidPass B m t r2 B' → r2 = r ∧ I17 fs h L M (c + 1) B' W' n born gs) := by
  have sz : ∀ x : String, szD 7 (rfD x) := fun x => ⟨by show 2 < 4611686018427387904; decide, fun d hd => by
    have : d = .str (Str.ofString x) ∨ d = .int 0 := by simpa using hd
    rcases this with rfl | rfl <;> exact trivial⟩
  unfold DidPass at hW ⊢
  refine ⟨?_, ?_, fun g => ?_, fun g r2 B' hB => ?_⟩
  · split at hW
    · rw [hW.1]
      exact sz _
    · split at hW
      · rw [hW.1]
        exact sz _
      · split at hW
        · rw [hW.1]
          exact sz _
        · rw [hW.1]
          exact trivial
  · split at hW
    · rw [hW.1]
      rfl
    · split at hW
      · rw [hW.1]
        rfl
      · split at hW
        · rw [hW.1]
          rfl
        · rw [hW.1]
          rfl
  · split at hW
    · rw [hW.2]
      exact I.mono (by omega)
    · split at hW
      · rw [hW.2]
        exact I.mono (by omega)
      · split at hW
        · rw [hW.2]
          exact I.mono (by omega)
        · rename_i e _ _
          rw [hW.2]
          exact I.passW g e
  · rcases I.same g with ⟨e1, e2⟩ | ⟨x, y, e1, e2, es, al⟩
    · rw [e1] at hB
      rw [e2] at hW
      rw [hB.1, hW.1, hB.2, hW.2]
      exact ⟨rfl, I.mono (by omega)⟩
    · rw [e1] at hB
      rw [e2] at hW
      have d1 : x.debtor = y.debtor := congrArg (fun s : Int × Int × Int × Str × Int × Int => s.2.1) es
      have d2 : x.creditor = y.creditor := congrArg (fun s : Int × Int × Int × Str × Int × Int => s.2.2.1) es
      have d3 : x.passed = y.passed := congrArg (fun s : Int × Int × Int × Str × Int × Int => s.2.2.2.2.2) es
      have d4 : W.hops = B.hops := by rw [I.wh, I.bh]
      simp only at hB hW
      rw [← d1, ← d2, ← d3, d4] at hW
      by_cases q : x.debtor = t ∨ x.creditor = t
      · rw [if_pos q] at hB hW
        rw [hB.1, hW.1, hB.2, hW.2]
        exact ⟨rfl, I.mono (by omega)⟩
      · rw [if_neg q] at hB hW
        by_cases q2 : x.passed = B.hops
        · rw [if_pos q2] at hB hW
          rw [hB.1, hW.1, hB.2, hW.2]
          exact ⟨rfl, I.mono (by omega)⟩
        · rw [if_neg q2] at hB hW
          rw [hB.1, hW.1, hB.2, hW.2]
          exact ⟨rfl, I.passB e1 e2 es al⟩
end
theorem sortI_range {n : Nat} : sortI ((List.range n).map fun (k : Nat) => (k : Int)) = (List.range n).map fun (k : Nat) => (k : Int) := sortI_up bg_up
def pDue (born : Nat → Int) (a : Int) : PyData → Bool
  | .int k => decide (born k.toNat = a)
  | _ => false
theorem I17.due {fs : List Str} {h L M : Int} {c : Nat} {B W : Bk} {n : Nat} {born : Nat → Int} {gs : List Int} (I : I17 fs h L M c B W n born gs) :
    ((sortI ((List.range n).map fun (k : Nat) => (k : Int))).map PyData.int).filter (pDue born (B.tick + 1 - L)) = (goneAt B).map .int := by
  rw [I.gone, sortI_range, List.filter_map, List.filter_map, due17, upTo]
  congr 2
  refine List.filter_congr fun k _ => ?_
  show decide (born (k : Int).toNat = B.tick + 1 - L) = decide (born k + L = B.tick + 1)
  exact decide_eq_decide.mpr ⟨fun q => by simp at q; omega, fun q => by simp; omega⟩
def pNot (gs : List Int) : PyData → Bool
  | .int k => !decide (k ∈ gs)
  | _ => false
section
variable {fs : List Str} {h L M : Int} {c : Nat} {B W : Bk} {n : Nat} {born : Nat → Int} {gs : List Int}
theorem I17.keep (I : I17 fs h L M c B W n born gs) : ((sortI ((List.range n).map fun (k : Nat) => (k : Int))).map PyData.int).filter (pNot gs) = (B.debts.map (·.1)).map .int := by
  rw [I.keys, sortI_range, List.filter_map, List.filter_map, upTo]
  congr 2
  refine List.filter_congr fun k hk => ?_
  show (!decide ((k : Int) ∈ gs)) = decide (B.tick < born k + L)
  have := I.gi k (List.mem_range.mp hk)
  by_cases q : B.tick < born k + L
  · rw [decide_eq_true q, decide_eq_false (fun z => by have := this.mp z; omega)]
    rfl
  · rw [decide_eq_false q, decide_eq_true (this.mpr (by omega))]
    rfl
def rowS (L h : Int) (s : Int × Int × Int × Str × Int × Int) : PyData := .tuple [.int s.1, .int s.2.1, .int s.2.2.1, .str s.2.2.2.1, .int (s.2.2.2.2.1 + L), .int (h - s.2.2.2.2.2)]
def pIn (ks : List Int) : PyData → Bool
  | .tuple (.int k :: _) => decide (k ∈ ks)
  | _ => false
def fLess (M : Int) : PyData → PyData
  | .tuple [a, b, c, d, .int e, f] => .tuple [a, b, c, d, .int (e - M), f]
  | x => x
theorem I17.rows (I : I17 fs h L M c B W n born gs) : ((rowsOf W).filter (pIn (B.debts.map (·.1)))).map (fLess M) = rowsOf B := by
  have e1 : rowsOf B = (B.debts.map strip).map (rowS L h) := by
    unfold rowsOf
    rw [List.map_map]
    refine List.map_congr_left fun p _ => ?_
    unfold rowOf
    rw [I.bl, I.bh]
    rfl
  have e2 : ((rowsOf W).filter (pIn (B.debts.map (·.1)))) = (W.debts.filter fun p => decide (B.tick < p.2.born + L)).map (rowOf W) := by
    unfold rowsOf
    rw [List.filter_map]
    congr 1
    refine List.filter_congr fun p hp => ?_
    show decide (p.1 ∈ B.debts.map (·.1)) = _
    refine decide_eq_decide.mpr ?_
    have m : p.1 ∈ W.debts.map (·.1) := List.mem_map.mpr ⟨p, hp, rfl⟩
    rw [I.wk] at m
    obtain ⟨k, h1, h2, h3⟩ := upTo_mem.mp m
    have eb := I.wb p hp
    rw [h3] at eb
    have eb : p.2.born = born k := by simpa using eb
    rw [I.keys, eb]
    constructor
    · intro z
      obtain ⟨k', _, h4, h5⟩ := upTo_mem.mp z
      have : k = k' := by omega
      subst this
      exact of_decide_eq_true h4
    · exact fun z => upTo_mem.mpr ⟨k, h1, decide_eq_true z, h3⟩
  rw [e1, e2, I.st, List.map_map, List.map_map]
  refine List.map_congr_left fun p _ => ?_
  show PyData.tuple [_, _, _, _, .int (p.2.born + W.life - M), .int (W.hops - p.2.passed)] = .tuple [_, _, _, _, .int (p.2.born + L), .int (h - p.2.passed)]
  rw [I.wl, I.wh, show p.2.born + (L + M) - M = p.2.born + L by omega]
  rfl
end
end Fb
namespace Fb
open PySem L2
set_option autoImplicit false

/-! ### what the head's facts give -/
def freeN : List Str := ["len", "isinstance", "int", "bool", "str", "tuple", "list", "range", "all", "any", "sum", "min", "max", "sorted", "enumerate", "zip", "ValueError"]
def rfN : List Str := ["BadCount", "BadKind", "NoOne", "NoDebt", "Cannot", "Worn", "NoChain"]
def fldB : List Str := ["folk", "life", "hops", "open_debts", "fresh", "tick_now", "story"]
def fldD : List Str := ["debtor", "creditor", "kind", "born", "passed"]
def faCon : List He.Fa := [.str "KINDS" "abc", .str "ANY" "", .int "LEAST_FOLK" 2, .int "MOST_FOLK" 6, .int "MOST_LIFE" 99, .int "MOST_HOPS" 9, .str "DONE" "done", .str "PAY" "pay", .str "PASS" "pass", .str "TICK" "tick", .str "ASK" "ask", .str "CLEAR" "clear", .glo "FavourError"]
def faBk : List He.Fa := [.cls "Book", .cls "Debt", .glo "Book", .glo "Debt", .mkr "Book", .mkr "Debt"]
def faLs : List (List He.Fa) := [freeN.map .free, faCon, errs.map .glo, rfN.map .exc, errs.map fun x => .exm x "FavourError" true, faBk, fldB.map (.noat "Book"), fldD.map (.noat "Debt")]
def faTop : List He.Fa := faLs.flatten
theorem fa_mem {i : Nat} {l : List He.Fa} {f : He.Fa} (hi : faLs[i]? = some l) (hf : f ∈ l) : f ∈ faTop := List.mem_flatten.mpr ⟨l, List.mem_of_getElem? hi, hf⟩
def excB (K : PySem.W.Frag) (D : Addr) : Bool := decide (PySem.W.findIn K (.ref D) "__getattribute__" = some (some (.builtin "BaseException.__getattribute__"))) && (decide (PySem.W.findIn K (.ref D) "__getattr__" = some none) && (decide (PySem.W.subIn K (.ref D) (.type "BaseException") = some true) &&
  (PySem.W.hasDictIn K D && (decide (PySem.W.findIn K (.ref D) "__class__" = some (some (.builtin "object.__class__"))) && (decide (PySem.W.specialIn K (.builtin "object.__class__") "__get__" = some (some (.builtin "getset_descriptor.__get__"))) &&
  (decide (PySem.W.takesIn K (.builtin "object.__class__") = some true) && decide (PySem.W.mroIn K D (.type "object") = some true)))))))
theorem excB_ok {K : PySem.W.Frag} {D : Addr} (h : excB K D = true) : ExcC K D := by
  obtain ⟨h1, h⟩ := He.ba h
  obtain ⟨h2, h⟩ := He.ba h
  obtain ⟨h3, h⟩ := He.ba h
  obtain ⟨h4, h⟩ := He.ba h
  obtain ⟨h5, h⟩ := He.ba h
  obtain ⟨h6, h⟩ := He.ba h
  obtain ⟨h7, h8⟩ := He.ba h
  exact ⟨of_decide_eq_true h1, of_decide_eq_true h2, of_decide_eq_true h3, h4, of_decide_eq_true h5, of_decide_eq_true h6, of_decide_eq_true h7, of_decide_eq_true h8⟩
def exTop (K : PySem.W.Frag) : Bool := decide (cBook K ≠ cDebt K) && (errs.all (fun x => excB K (He.ga K x)) && (errs.all (fun x => errs.all fun y => decide (PySem.W.kitOne K (.ref (He.ga K x)) (.ref (He.ga K y)) = some (sEq x y))) &&
  errs.all fun x => decide (PySem.W.kitOne K (.ref (He.ga K x)) (.type "ValueError") = some true)))
section
variable {K : PySem.W.Frag} {h : Heap} {mg : Str → Option Value}
theorem top_of (X : K.In h) (G : h.Ns mainGlobals mg) (c : ∀ f ∈ faTop, f.ok K = true) (e : exTop K = true) : Top K mg := by
  have fr : ∀ x ∈ freeN, mg x = none := fun x hx => He.free_ok X G (c _ (fa_mem (i := 0) rfl (List.mem_map.mpr ⟨x, hx, rfl⟩)))
  have rf : ∀ x ∈ rfN, RfC K mg x := fun x hx => by
    have hg : x ∈ errs := (by decide : ∀ x ∈ rfN, x ∈ errs) x hx
    obtain ⟨h1, h2, h3, h4⟩ := He.exc_ok (c (.exc x) (fa_mem (i := 3) rfl (List.mem_map.mpr ⟨x, hx, rfl⟩)))
    exact ⟨He.glo_ok X G (c (.glo x) (fa_mem (i := 2) rfl (List.mem_map.mpr ⟨x, hg, rfl⟩))), h1, h2, h3, h4⟩
  have cn : ∀ {i : Nat} {f : He.Fa}, faCon[i]? = some f → f.ok K = true := fun {i f} e => c _ (fa_mem (i := 1) rfl (List.mem_of_getElem? e))
  have bk : ∀ {i : Nat} {f : He.Fa}, faBk[i]? = some f → f.ok K = true := fun {i f} e => c _ (fa_mem (i := 5) rfl (List.mem_of_getElem? e))
  refine ⟨⟨fr _ (by decide), fr _ (by decide), fr _ (by decide), fr _ (by decide), fr _ (by decide), fr _ (by decide), fr _ (by decide), fr _ (by decide), fr _ (by decide), fr _ (by decide), fr _ (by decide), fr _ (by decide), fr _ (by decide), fr _ (by decide), fr _ (by decide), fr _ (by decide)⟩,
    ⟨He.str_ok X G (cn (i := 0) rfl), He.str_ok X G (cn (i := 1) rfl), He.int_ok X G (cn (i := 2) rfl), He.int_ok X G (cn (i := 3) rfl), He.int_ok X G (cn (i := 4) rfl), He.int_ok X G (cn (i := 5) rfl), He.str_ok X G (cn (i := 6) rfl), He.str_ok X G (cn (i := 7) rfl), He.str_ok X G (cn (i := 8) rfl), He.str_ok X G (cn (i := 9) rfl), He.str_ok X G (cn (i := 10) rfl), He.str_ok X G (cn (i := 11) rfl)⟩,
    ⟨rf _ (by decide), rf _ (by decide), rf _ (by decide), rf _ (by decide), rf _ (by decide), rf _ (by decide), rf _ (by decide)⟩, ?_⟩
  exact ⟨⟨He.cls_ok (bk (i := 0) rfl), He.cls_ok (bk (i := 1) rfl), fun f hf => He.noat_ok (c (.noat "Book" f) (fa_mem (i := 6) rfl (List.mem_map.mpr ⟨f, hf, rfl⟩))), fun f hf => He.noat_ok (c (.noat "Debt" f) (fa_mem (i := 7) rfl (List.mem_map.mpr ⟨f, hf, rfl⟩)))⟩, of_decide_eq_true (He.ba e).1⟩
theorem rfx_of (X : K.In h) (G : h.Ns mainGlobals mg) (c : ∀ f ∈ faTop, f.ok K = true) (e : exTop K = true) : RfX K mg := by
  obtain ⟨_, e⟩ := He.ba e
  obtain ⟨e1, e⟩ := He.ba e
  obtain ⟨e2, e3⟩ := He.ba e
  exact ⟨fun x hx => He.glo_ok X G (c (.glo x) (fa_mem (i := 2) rfl (List.mem_map.mpr ⟨x, hx, rfl⟩))), He.glo_ok X G (c (.glo "FavourError") (fa_mem (i := 1) rfl (List.mem_of_getElem? (i := 12) rfl))), He.free_ok X G (c (.free "ValueError") (fa_mem (i := 0) rfl (List.mem_map.mpr ⟨_, by decide, rfl⟩))),
    fun x hx => excB_ok (List.all_eq_true.mp e1 x hx), fun x hx y hy => of_decide_eq_true (List.all_eq_true.mp (List.all_eq_true.mp e2 x hx) y hy), fun x hx => of_decide_eq_true (List.all_eq_true.mp e3 x hx),
    fun x hx => He.exm_ok (c (.exm x "FavourError" true) (fa_mem (i := 4) rfl (List.mem_map.mpr ⟨x, hx, rfl⟩)))⟩
theorem mk_book (c : ∀ f ∈ faTop, f.ok K = true) : Mk K (cBook K) (He.fAd K ("Book", some "__init__")) := He.mkr_ok (c (.mkr "Book") (fa_mem (i := 5) rfl (List.mem_of_getElem? (i := 4) rfl)))
theorem mk_debt (c : ∀ f ∈ faTop, f.ok K = true) : Mk K (cDebt K) (He.fAd K ("Debt", some "__init__")) := He.mkr_ok (c (.mkr "Debt") (fa_mem (i := 5) rfl (List.mem_of_getElem? (i := 5) rfl)))
theorem glo_book (X : K.In h) (G : h.Ns mainGlobals mg) (c : ∀ f ∈ faTop, f.ok K = true) : mg "Book" = some (.ref (cBook K)) := He.glo_ok X G (c (.glo "Book") (fa_mem (i := 5) rfl (List.mem_of_getElem? (i := 2) rfl)))
theorem glo_debt (X : K.In h) (G : h.Ns mainGlobals mg) (c : ∀ f ∈ faTop, f.ok K = true) : mg "Debt" = some (.ref (cDebt K)) := He.glo_ok X G (c (.glo "Debt") (fa_mem (i := 5) rfl (List.mem_of_getElem? (i := 3) rfl)))
end
theorem _root_.L2.FunD.kbn {K : PySem.W.Frag} {x qual : Str} {params : Arguments} {body : List Stmt} {scope : Scope} {kws : List (Str × V)} {f : Addr} {fd : FuncData} {ps ks : List Str} {n : Nat} (F : FunD K x qual params body scope [] kws f fd)
    (h : ∀ (kV doc pm : Value) (an : Option Addr) (cdv ct : Value) (us ws : List Value), us.length = n → ws.length = ks.length → bindArgs (PySem.W.fnOf x qual params body scope .none kV doc pm an cdv ct) ⟨us, ks.zip ws⟩ = pure (ps.zip (us ++ ws))) :
    KBn K fd ps n ks (fun us ws => us ++ ws) (fun vs zs => vs ++ zs) := by
  obtain ⟨oc, od, dV, kV, doc, pm, an, cdv, ct, osl, rfl, lk, hcd, hD, hK⟩ := F.ex
  rcases hD with ⟨_, rfl⟩ | ⟨e, _⟩
  · exact ⟨fun s us ws _ l1 l2 => .of_eq (h kV doc pm an cdv ct us ws l1 l2), fun r1 r2 => r1.append r2⟩
  · exact absurd rfl e
/-- a def's code object -/
theorem code_def {K : PySem.W.Frag} {x qual : Str} {params : Arguments} {body : List Stmt} {scope : Scope} {dvs : List V} {kws : List (Str × V)} {p : Str × Option Str} {fd : FuncData} (F : FunD K x qual params body scope dvs kws (He.fAd K p) fd) : fd.code = .ref (He.codeOf K p) := by
  obtain ⟨oc, od, dV, kV, doc, pm, an, cdv, ct, osl, rfl, lk, hcd, hD, hK⟩ := F.ex
  obtain ⟨c, rfl⟩ := He.codeIn_ref hcd
  rw [He.codeOf_eq lk rfl]
/-- the tables of the defs that make lambdas -/
def tbOf (K : PySem.W.Frag) (l : List (Str × Option Str × Str)) : List (Addr × Str) := l.map fun q => ((He.cT K (q.1, q.2.1)).2, q.2.2)
def tbApart (K : PySem.W.Frag) (l : List (Str × Option Str × Str)) : Bool := decide (((l.map fun q => (He.cT K (q.1, q.2.1)).2)).Nodup)
theorem tb_uniq {α β : Type} {l : List (α × β)} (h : (l.map (·.1)).Nodup) {a : α} {b : β} (m : (a, b) ∈ l) : ∀ p ∈ l, p.1 = a → p.2 = b := by
  intro p hp e
  obtain ⟨i, hi, ei⟩ := List.mem_iff_getElem.mp m
  obtain ⟨j, hj, ej⟩ := List.mem_iff_getElem.mp hp
  have hj' : j < (l.map (·.1)).length := by rw [List.length_map]; exact hj
  have hi' : i < (l.map (·.1)).length := by rw [List.length_map]; exact hi
  have pw := List.pairwise_iff_getElem.mp h
  have key : ∀ {k : Nat} (hk : k < l.length) (hk' : k < (l.map (·.1)).length), (l.map (·.1))[k] = (l[k]).1 := fun hk hk' => by rw [List.getElem_map]
  have this : j = i := by
    rcases Nat.lt_trichotomy i j with z | z | z
    · exact absurd (by rw [key hi hi', key hj hj', ei, ej, e]) (pw i j hi' hj' z)
    · exact z.symm
    · exact absurd (by rw [key hi hi', key hj hj', ei, ej, e]) (pw j i hj' hi' z)
  subst this
  rw [← ej, ei]
end Fb
namespace Fb
open PySem
def top (i : Nat) : Stmt := PySem.Challenge.pw_favourbook_k17_whole_lives_and_ticks.main.body.getD i (.Pass ⟨0, 0, 0, 0⟩)
end Fb
namespace Fb
open PySem L2
set_option autoImplicit false
variable [Tb]
section
variable {P : Program} {w : World} {K : PySem.W.Frag} {mg : Str → Option Value} {base : Heap} {f : Addr} {fd : FuncData}
theorem sc_law_begun : FnScope ["_law_script", "_law_stirred", "_law_cell"] ["_law_script"] (defScope (top 43)) := ⟨rfl, rfl, rfl, by decide +kernel, rfl, by decide +kernel, by decide +kernel⟩
theorem ok_law_begun (Y : Top K mg)  (F : FunS K "_law_begun" "_law_begun" (top 43) [] f fd) : FnOk P w K mg base CX0 1 f fd ["_law_script"] (spBegun K) := by
  have sc := sc_law_begun
  obtain ⟨T, c, R, C⟩ := Y
  refine F.okC sc spBegun_len (fun cdv A outer s H vs Q E hc hr h => ⟨_, PSs.nox (pss_cons (ps_set (i := 1) sc.nd rfl (.inl rfl) pe_int)
      (pss_cons (ps_for PassesOwn.never rfl (pi_list (pe_var (i := 0) rfl (.inl rfl))) (pg_name (i := 2) sc.nd rfl (.inl rfl)) (pss_one (ps_set (i := 1) sc.nd rfl (.inl rfl) (pe_op op_mod (pe_callTy op_intAll rfl T.int (by decide +kernel) (pa_cons (pe_op op_add (pe_op op_add (pe_op op_mulX (pe_var (i := 1) rfl (.inl rfl)) pe_int) (pe_op op_mulX (pe_var (i := 2) rfl (.inl rfl)) pe_int)) pe_int) pa_nil)) pe_int))))
      (pss_one (ps_ret (pe_lst (pa_cons (pe_callTy call_list_of rfl T.list (by decide +kernel) (pa_cons (pe_var (i := 0) rfl (.inl rfl)) pa_nil)) (pa_cons (pe_op op_mulX (pe_var (i := 1) rfl (.inl rfl)) (pe_callTy op_intAll rfl T.int (by decide +kernel) (pa_cons (pe_cmpR op_gt (pe_callB call_len rfl T.len (by decide +kernel) (pa_cons (pe_var (i := 0) rfl (.inl rfl)) pa_nil)) pe_int (nomark _)) pa_nil))) pa_nil))))))), begun_run h⟩)
end
end Fb

namespace Fb
open PySem L2
set_option autoImplicit false
variable [Tb]
section
variable {P : Program} {w : World} {K : PySem.W.Frag} {mg : Str → Option Value} {base : Heap} {f : Addr} {fd : FuncData}
theorem sc_law_take : FnScope ["_law_box", "_law_many", "_law_figure"] ["_law_box", "_law_many"] (defScope (top 44)) := ⟨rfl, rfl, rfl, by decide +kernel, rfl, by decide +kernel, by decide +kernel⟩
theorem ok_law_take (Y : Top K mg)  (F : FunS K "_law_take" "_law_take" (top 44) [] f fd) : FnOk P w K mg base CX0 1 f fd ["_law_box", "_law_many"] (spL 2 takeF) := by
  have sc := sc_law_take
  obtain ⟨T, c, R, C⟩ := Y
  refine F.okC sc spL_len (fun cdv A outer s H vs Q E hc hr h => ⟨_, PSs.nox (pss_cons (ps_if (pt_cmpR (op_eqDp hr.units) (pe_ix ix_seq (pe_var (i := 0) rfl (.inl rfl)) pe_int (fun _ _ => rfl)) (pe_lst pa_nil) (nomark _)) (pss_cons (ps_asg (pe_op op_mod (pe_callTy op_intAll rfl T.int (by decide +kernel) (pa_cons (pe_op op_mulX (pe_ix ix_seq (pe_var (i := 0) rfl (.inl rfl)) pe_int (fun _ _ => rfl)) pe_int) pa_nil)) pe_int) (pg_sub (pe_var (i := 0) rfl (.inl rfl)) pe_int set_list (by intro _; rfl)))
      (pss_one (ps_ret (pe_op op_mod (pe_callTy op_intAll rfl T.int (by decide +kernel) (pa_cons (pe_op op_fdiv (pe_ix ix_seq (pe_var (i := 0) rfl (.inl rfl)) pe_int (fun _ _ => rfl)) pe_int) pa_nil)) (pe_var (i := 1) rfl (.inl rfl)))))) pss_nil)
      (pss_cons (ps_set (i := 2) sc.nd rfl (.inl rfl) (pe_ix ix_seq (pe_ix ix_seq (pe_var (i := 0) rfl (.inl rfl)) pe_int (fun _ _ => rfl)) pe_int (fun _ _ => rfl)))
      (pss_cons (ps_asg (pe_op op_fdiv (pe_var (i := 2) rfl (.inl rfl)) (pe_var (i := 1) rfl (.inl rfl))) (pg_sub (pe_ix ix_seq (pe_var (i := 0) rfl (.inl rfl)) pe_int (fun _ _ => rfl)) pe_int set_list (by intro _; rfl)))
      (pss_cons (ps_if (PW.pt (pw_or (pt_cmpR op_eq (pe_ix ix_seq (pe_ix ix_seq (pe_var (i := 0) rfl (.inl rfl)) pe_int (fun _ _ => rfl)) pe_int (fun _ _ => rfl)) pe_int (nomark _)) (pw_or1 (pt_cmpR op_eq (pe_ix ix_seq (pe_ix ix_seq (pe_var (i := 0) rfl (.inl rfl)) pe_int (fun _ _ => rfl)) pe_int (fun _ _ => rfl)) (pe_un un_neg pe_int) (nomark _))))) (pss_one (ps_expr (pe_bm PySem.F.plainAttrs_list PySem.F.slot_list_pop PySem.F.type_list_pop mt_popAt (pe_ix ix_seq (pe_var (i := 0) rfl (.inl rfl)) pe_int (fun _ _ => rfl)) (pa_cons pe_int pa_nil)) rfl)) pss_nil)
      (pss_one (ps_ret (pe_op op_mod (pe_var (i := 2) rfl (.inl rfl)) (pe_var (i := 1) rfl (.inl rfl))))))))), take_run h⟩)
end
end Fb

namespace Fb
open PySem L2
set_option autoImplicit false
variable [Tb]
section
variable {P : Program} {w : World} {K : PySem.W.Frag} {mg : Str → Option Value} {base : Heap} {f : Addr} {fd : FuncData}
theorem sc_law_people : FnScope ["_law_box", "_law_some", "_law_k"] ["_law_box"] (defScope (top 47)) := ⟨rfl, rfl, rfl, by decide +kernel, rfl, by decide +kernel, by decide +kernel⟩
theorem ok_law_people (Y : Top K mg) (D__law_take : DefE P w K mg base CX0 1 "_law_take" ["_law_box", "_law_many"] (spL 2 takeF)) (F : FunS K "_law_people" "_law_people" (top 47) [] f fd) : FnOk P w K mg base CX0 2 f fd ["_law_box"] (spL 1 fPeople) := by
  have sc := sc_law_people
  obtain ⟨T, c, R, C⟩ := Y
  refine fn_d F sc (fun cdv A outer s H E hc hr => (dss_cons (ds_set 1 (de_froz (do_lst (da_cons de_str (da_cons de_str (da_cons de_str (da_cons de_str (da_cons de_str (da_cons de_str (da_cons de_str (da_cons de_str da_nil)))))))))) sc.nd)
      (dss_one (ds_ret (de_bltT call_tuple_of (cd_tup _) T.tuple (by decide +kernel) (da_cons (de_froz (do_lc (own := [("_law_k", 2)]) sc.nd (di_rng1 T.range (da_cons (de_bin op_addAll (od_add _) de_int (de_froz (do_call ⟨D__law_take⟩ (hr.mono (by decide)) (ka_obj 0 (ka_dat (de_ix (de_froz (do_lst (da_cons de_int (da_cons de_int da_nil)))) (de_froz (do_call ⟨D__law_take⟩ (hr.mono (by decide)) (ka_obj 0 (ka_dat de_int ka_nil))))) ka_nil))))) da_nil)) (by kernel_rfl) (fun _ _ _ _ _ => (dg_name 2 sc.nd)) (fun _ _ _ _ _ => dts_nil) (fun _ _ _ _ _ => (de_ix (de_var 1) (de_froz (do_call ⟨D__law_take⟩ (hr.mono (by decide)) (ka_obj 0 (ka_dat de_int ka_nil)))))))) da_nil)))))) ?_
  rintro as Pq hl ⟨a, rfl, h⟩
  simp [takeF]
  intro r r0 r1
  obtain ⟨m, hm, hm1, hm2⟩ : ∃ m : Int, atI [PyData.int 3, .int 5] r = some (.int m) ∧ 3 ≤ m ∧ m ≤ 5 := by
    have : r = 0 ∨ r = 1 := by omega
    rcases this with rfl | rfl
    · exact ⟨3, rfl, by decide, by decide⟩
    · exact ⟨5, rfl, by decide, by decide⟩
  refine ⟨_, hm, m, rfl, by omega, by omega, fun n n0 n1 => ⟨by omega, by omega, ?_⟩⟩
  refine dLc_any (fun d => ∃ s, d = .str s ∧ s ∈ skills) (by rw [rngD_len]; exact Nat.le_trans (show (2 + n).toNat ≤ 12 by omega) (by decide)) (fun d hd R q => ?_) fun l acc hacc hG => ?_
  · simp [takeF]
    intro j j0 j1
    obtain ⟨y, hy, my⟩ := at_lt (xs := skills.map PyData.str) j0 (by simpa [skills] using j1)
    obtain ⟨s, hs, es⟩ := List.mem_map.mp my
    exact ⟨y, hy, q y ⟨s, es.symm, hs⟩⟩
  · obtain ⟨fs, ef, hf⟩ := as_strs hG
    subst ef
    rw [rngD_len, List.length_map] at hacc
    simp
    exact h fs ⟨by omega, by omega, fun s hs => skills_ok s (hf s hs)⟩
end
end Fb

namespace Fb
open PySem L2
set_option autoImplicit false
variable [Tb]
section
variable {P : Program} {w : World} {K : PySem.W.Frag} {mg : Str → Option Value} {base : Heap} {f : Addr} {fd : FuncData}
theorem sc_Book_debts : FnScope ["self", "found", "number", "debt", "left"] ["self"] (defScope (inClass (top 41) 8)) := ⟨rfl, rfl, rfl, by decide +kernel, rfl, by decide +kernel, by decide +kernel⟩
theorem ok_Book_debts {c0 P0 : Addr} (Y : Top K mg)  (tb : LamX.TabB base mg c0 P0) (hcd : fd.code = .ref c0) (mem : (P0, ("Book.debts.<locals>.<lambda>" : Str)) ∈ Tb.T) (uniq : ∀ p ∈ Tb.T, p.1 = P0 → p.2 = ("Book.debts.<locals>.<lambda>" : Str)) (F : FunS K "debts" "Book.debts" (inClass (top 41) 8) [] f fd) : FnOk P w K mg base CX0 1 f fd ["self"] (spL 1 (fDebts K)) := by
  have sc := sc_Book_debts
  obtain ⟨T, c, R, C⟩ := Y
  refine fn_d F sc (fun cdv A outer s H E hc hr => have L : LamK (cxOf CX0 P w K mg base ["self", "found", "number", "debt", "left"] "Book.debts" (defScope (inClass (top 41) 8)) f cdv A outer s H E).nox c0 P0 := ⟨tb, hc.symm.trans hcd, mem, uniq⟩; (dss_cons (ds_setO 1 (do_lst da_nil) sc.nd)
      (dss_cons (ds_for PassesOwn.never (di_bSorted C L (hr.mono (by decide)) 0 T.sorted rfl (fun _ _ _ _ _ _ => rfl) rfl rfl rfl (by decide +kernel) (by decide +kernel) rfl) (dg_pair (gn_cons 2 sc.nd (gn_cons 3 sc.nd .nil)) (pg_tup rfl (GNs.pgs (gn_cons 2 sc.nd (gn_cons 3 sc.nd .nil))))) (dss_cons (ds_set 4 (de_bin op_sub (od_sub) (de_bf C.toBkC .hops 0) (de_df C.toBkC .passed 0 (do_ref 3))) sc.nd)
        (dss_one (ds_expE (de_lm PySem.F.slot_list_append PySem.F.type_list_append mt_append lm_app 1 (da_cons (de_tup (da_cons (de_var 2) (da_cons (de_df C.toBkC .debtor 0 (do_ref 3)) (da_cons (de_df C.toBkC .creditor 0 (do_ref 3)) (da_cons (de_df C.toBkC .kind 0 (do_ref 3)) (da_cons (de_bin op_addAll (od_add _) (de_df C.toBkC .born 0 (do_ref 3)) (de_bf C.toBkC .life 0)) (da_cons (de_var 4) da_nil))))))) da_nil))))))
      (dss_one (ds_retO (do_take 1)))))) ?_
  rintro as Pq hl ⟨a, B, rfl, G, h⟩
  simp
  intro l
  refine ⟨Nat.le_of_lt (good_dl G), dFor_go (fun i ρ => ∃ x y z, ρ = [some (bk K a B), some (.lst l ((rowsOf B).take i)), x, y, z]) ⟨_, _, _, rfl⟩ (fun i d ρ2 hd hW => ?_) fun ρ2 hW => ?_⟩
  · obtain ⟨x, y, z, e⟩ := hW
    subst e
    have hi : i < B.debts.length := by
      have := (List.getElem?_eq_some_iff.mp hd).1
      rwa [List.length_map] at this
    have hp : B.debts[i]? = some B.debts[i] := List.getElem?_eq_getElem hi
    rw [List.getElem?_map, hp] at hd
    cases hd
    have hm := List.getElem_mem hi
    have hl0 : ((rowsOf B).take i).length < sizeLine := Nat.lt_of_le_of_lt (by rw [List.length_take]; exact Nat.min_le_left _ _) (Nat.lt_trans hi (Nat.lt_of_lt_of_le G.dl (by decide)))
    have hs : (rowsOf B).take (i + 1) = (rowsOf B).take i ++ [rowOf B B.debts[i]] := by
      rw [List.take_add_one, rowsOf, List.getElem?_map, hp]
      rfl
    simp
    refine ⟨_, _, hm, rfl, _, _, hm, rfl, _, _, hm, rfl, _, _, hm, rfl, _, _, hm, rfl, by rw [← List.length_take]; exact hl0, ?_⟩
    exact hs.symm
  · obtain ⟨x, y, z, e⟩ := hW
    subst e
    rw [List.length_map, show B.debts.length = (rowsOf B).length by simp [rowsOf], List.take_length]
    simp
    exact h l
end
end Fb

namespace Fb
open PySem L2
set_option autoImplicit false
variable [Tb]
section
variable {P : Program} {w : World} {K : PySem.W.Frag} {mg : Str → Option Value} {base : Heap} {f : Addr} {fd : FuncData}
theorem sc_law_deed : FnScope ["_law_box", "_law_people_here", "_law_book", "_law_way", "_law_one", "_law_rows", "_law_kind", "_law_row"] ["_law_box", "_law_people_here", "_law_book"] (defScope (top 48)) := ⟨rfl, rfl, rfl, by decide +kernel, rfl, by decide +kernel, by decide +kernel⟩
theorem ok_law_deed (Y : Top K mg) (D__law_take : DefE P w K mg base CX0 1 "_law_take" ["_law_box", "_law_many"] (spL 2 takeF)) (M_debts : MetE P w K mg base CX0 1 "Book" "debts" ["self"] (spL 1 (fDebts K))) (F : FunS K "_law_deed" "_law_deed" (top 48) [] f fd) : FnOk P w K mg base CX0 2 f fd ["_law_box", "_law_people_here", "_law_book"] (spL 3 (fDeed K)) := by
  have sc := sc_law_deed
  obtain ⟨T, c, R, C⟩ := Y
  refine fn_d F sc (fun cdv A outer s H E hc hr => (dss_cons (ds_par 3 4 (dm_cons (do_dat (de_froz (do_call ⟨D__law_take⟩ (hr.mono (by decide)) (ka_obj 0 (ka_dat de_int ka_nil))))) (dm_cons (do_dat (de_froz (do_call ⟨D__law_take⟩ (hr.mono (by decide)) (ka_obj 0 (ka_dat (de_blt call_len (cd_len _) T.len (by decide +kernel) (da_cons (de_var 1) da_nil)) ka_nil))))) dm_nil)) sc.nd)
      (dss_cons (ds_par 5 6 (dm_cons (do_dat (de_froz (do_met0B 2 ⟨C.book, M_debts⟩ (hr.mono (by decide))))) (dm_cons (do_dat (de_ix de_str (de_froz (do_call ⟨D__law_take⟩ (hr.mono (by decide)) (ka_obj 0 (ka_dat de_int ka_nil)))))) dm_nil)) sc.nd)
      (dss_cons (ds_set 7 (de_if (dt_cmpR (op_neDp hr.u64) (od_ne _) (de_var 5) (de_froz (do_lst da_nil)) (nomark _)) (de_ix (de_var 5) (de_froz (do_call ⟨D__law_take⟩ (hr.mono (by decide)) (ka_obj 0 (ka_dat (de_blt call_len (cd_len _) T.len (by decide +kernel) (da_cons (de_var 5) da_nil)) ka_nil))))) (de_tup (da_cons de_int (da_cons de_int (da_cons de_int (da_cons de_str (da_cons de_int (da_cons de_int da_nil)))))))) sc.nd)
      (dss_cons (ds_if (dt_cmpR (op_ltAll) (od_cm _ _) (de_var 3) de_int (nomark _)) (dss_cons (ds_set 6 (de_ix (de_bin op_addAll (od_add _) (de_ix (de_var 1) (de_var 4)) (de_var 6)) (de_froz (do_call ⟨D__law_take⟩ (hr.mono (by decide)) (ka_obj 0 (ka_dat (de_bin op_addAll (od_add _) (de_blt call_len (cd_len _) T.len (by decide +kernel) (da_cons (de_ix (de_var 1) (de_var 4)) da_nil)) (de_bltT op_intAll cd_int T.int (by decide +kernel) (da_cons (de_or (de_cmpR (op_eqDp hr.u64) (od_eq _) (de_froz (do_call ⟨D__law_take⟩ (hr.mono (by decide)) (ka_obj 0 (ka_dat de_int ka_nil)))) de_int (nomark _)) (de_one (de_cmpR (op_eqDp hr.u64) (od_eq _) (de_ix (de_var 1) (de_var 4)) de_str (nomark _)))) da_nil))) ka_nil))))) sc.nd)
        (dss_one (ds_ret (de_tup (da_cons de_str (da_cons (de_var 4) (da_cons (de_bin op_mod (od_mod) (de_bltT op_intAll cd_int T.int (by decide +kernel) (da_cons (de_bin op_addAll (od_add _) (de_var 4) (de_froz (do_call ⟨D__law_take⟩ (hr.mono (by decide)) (ka_obj 0 (ka_dat (de_blt call_len (cd_len _) T.len (by decide +kernel) (da_cons (de_var 1) da_nil)) ka_nil))))) da_nil)) (de_blt call_len (cd_len _) T.len (by decide +kernel) (da_cons (de_var 1) da_nil))) (da_cons (de_var 6) da_nil)))))))) dss_nil)
      (dss_cons (ds_if (dt_cmpR (op_eqDp hr.u64) (od_eq _) (de_var 3) de_int (nomark _)) (dss_one (ds_ret (de_tup (da_cons de_str (da_cons (de_ix (de_var 7) de_int) (da_cons (de_ix (de_bin op_addAll (od_add _) (de_ix (de_var 7) de_int) (de_var 6)) (de_froz (do_call ⟨D__law_take⟩ (hr.mono (by decide)) (ka_obj 0 (ka_dat (de_bin op_addAll (od_add _) (de_blt call_len (cd_len _) T.len (by decide +kernel) (da_cons (de_ix (de_var 7) de_int) da_nil)) de_int) ka_nil))))) da_nil)))))) dss_nil)
      (dss_cons (ds_if (dt_cmpR (op_ltAll) (od_cm _ _) (de_var 3) de_int (nomark _)) (dss_one (ds_ret (de_tup (da_cons de_str (da_cons (de_ix (de_var 7) de_int) (da_cons (de_var 4) da_nil)))))) dss_nil)
      (dss_cons (ds_if (dt_cmpR (op_eqDp hr.u64) (od_eq _) (de_var 3) de_int (nomark _)) (dss_one (ds_ret (de_tup (da_cons de_str da_nil)))) dss_nil)
      (dss_one (ds_ret (de_ix (de_froz (do_lst (da_cons (de_tup (da_cons de_str (da_cons (de_var 4) (da_cons (de_var 6) da_nil)))) (da_cons (de_tup (da_cons de_str (da_cons (de_ix (de_froz (do_lst (da_cons de_str (da_cons (de_var 6) da_nil)))) (de_froz (do_call ⟨D__law_take⟩ (hr.mono (by decide)) (ka_obj 0 (ka_dat de_int ka_nil))))) da_nil))) da_nil)))) (de_bin op_sub (od_sub) (de_var 3) de_int)))))))))))) ?_
  rintro as Pq hl ⟨a, b, B, fs, rfl, ok, G, h⟩
  have l6 := ok.2.1
  have l2 := ok.1
  refine dSeq_cut (fun ρ => ∃ r i : Int, 0 ≤ r ∧ r < 16 ∧ 0 ≤ i ∧ i < fs.length ∧ ρ = [some (box a), some (.dat (.tuple (fs.map .str))), some (bk K b B), some (.dat (.int r)), some (.dat (.int i)), none, none, none]) (fun U hU => ?_) ?_
  · simp [takeF]
    exact fun r r0 r1 => ⟨by omega, by omega, fun i i0 i1 => hU _ ⟨r, i, r0, r1, i0, i1, rfl⟩⟩
  rintro _ ⟨r, i, r0, r1, i0, i1, rfl⟩
  refine dSeq_cut (fun ρ => ∃ c, isKind (.str ⟨#[c]⟩) = true ∧ PyData.strOk ⟨#[c]⟩ = true ∧ ρ = [some (box a), some (.dat (.tuple (fs.map .str))), some (bk K b B), some (.dat (.int r)), some (.dat (.int i)), some (.dat (.list (rowsOf B))), some (.dat (.str ⟨#[c]⟩)), none]) (fun U hU => ?_) ?_
  · simp [takeF, fDebts]
    refine ⟨G, fun j j0 j1 => ⟨by decide, ?_⟩⟩
    obtain ⟨c, h1, h2, h3⟩ := abc_at j0 j1
    exact ⟨c, h1, hU _ ⟨c, h2, h3, rfl⟩⟩
  rintro _ ⟨c, hk, hko, rfl⟩
  refine dSeq_cut (fun ρ => ∃ x m z y1 y2 y3 y4, z ∈ (["", "a", "b", "c"] : List Str) ∧ ρ = [some (box a), some (.dat (.tuple (fs.map .str))), some (bk K b B), some (.dat (.int r)), some (.dat (.int i)), some x, some (.dat (.str ⟨#[c]⟩)), some (.dat (.tuple [.int m, y1, y2, .str z, y3, y4]))]) (fun U hU => ?_) ?_
  · simp [takeF]
    by_cases q : rowsOf B = []
    · rw [q]
      simp
      exact hU _ ⟨_, 0, "", _, _, _, _, by decide, rfl⟩
    · have ne : PyData.eqvAll (rowsOf B) [] = false := by
        cases e : rowsOf B with
        | nil => exact absurd e q
        | cons x xs => simp
      have pos : 0 < (rowsOf B).length := List.length_pos_iff.mpr q
      simp [ne]
      have hb : (rowsOf B).length < 100000 := by unfold rowsOf; rw [List.length_map]; exact G.dl
      refine ⟨pos, by omega, fun j j0 j1 => ?_⟩
      obtain ⟨d, h1, h2⟩ := at_lt j0 j1
      obtain ⟨p, hp, e⟩ := List.mem_map.mp h2
      exact ⟨d, h1, hU _ ⟨_, p.1, p.2.kind, _, _, _, _, G.kd p hp, by rw [← e] <;> rfl⟩⟩
  rintro _ ⟨x, m, z, y1, y2, y3, y4, hz, rfl⟩
  have zl := (kinds0_ok z hz).2.2
  refine dSeq_cut (fun ρ => 9 ≤ r ∧ ρ = [some (box a), some (.dat (.tuple (fs.map .str))), some (bk K b B), some (.dat (.int r)), some (.dat (.int i)), some x, some (.dat (.str ⟨#[c]⟩)), some (.dat (.tuple [.int m, y1, y2, .str z, y3, y4]))]) (fun U hU => ?_) ?_
  · have ha := at_folk i0 (by omega : i ≤ fs.length - 1)
    have hm : (fs[i.toNat]?).getD "" ∈ fs := by
      have hl : i.toNat < fs.length := by omega
      rw [List.getElem?_eq_getElem hl]
      exact List.getElem_mem hl
    generalize (fs[i.toNat]?).getD "" = s at ha hm
    have sk := ok.2.2 s hm
    refine dIf_test (decide (r < 9)) (fun P hP => by simpa using hP) ?_
    by_cases q : r < 9
    · rw [if_pos (decide_eq_true q)]
      refine dSeq_cut (fun ρ => ∃ c, isKind (.str ⟨#[c]⟩) = true ∧ PyData.strOk ⟨#[c]⟩ = true ∧ ρ = [some (box a), some (.dat (.tuple (fs.map .str))), some (bk K b B), some (.dat (.int r)), some (.dat (.int i)), some x, some (.dat (.str ⟨#[c]⟩)), some (.dat (.tuple [.int m, y1, y2, .str z, y3, y4]))]) (fun U hU => ?_) ?_
      · simp [ha, takeF]
        have e1 : s.length ≤ 3 := sk.2.1
        have sz : sizeLine ≥ 12 := by decide
        have el : (s ++ (⟨#[c]⟩ : Str)).length = s.length + 1 := by
          show (s.cps ++ #[c]).size = _
          simp [Str.length]
        refine ⟨by rw [str_len1]; omega, by omega, fun j j0 j1 => ?_⟩
        have fin : ∀ (e : Int), (e = 0 ∨ e = 1) → (s = "" → e = 1) → 0 < (s.length : Int) + e ∧ (s.length : Int) + e < 1073741824 ∧ ∀ r' : Int, 0 ≤ r' → r' < (s.length : Int) + e → (s ++ (⟨#[c]⟩ : Str)).length ≤ sizeLine ∧ ∃ c2, atI (s ++ (⟨#[c]⟩ : Str)).cps.toList r' = some c2 ∧ U [some (box a), some (.dat (.tuple (fs.map .str))), some (bk K b B), some (.dat (.int r)), some (.dat (.int i)), some x, some (.dat (.str ⟨#[c2]⟩)), some (.dat (.tuple [.int m, y1, y2, .str z, y3, y4]))] := by
          intro e h1 h2
          have s0 : s.length = 0 → s = "" := fun z => by
            obtain ⟨cps⟩ := s
            have z : cps.size = 0 := z
            rw [Array.eq_empty_of_size_eq_zero z] <;> rfl
          refine ⟨by rcases h1 with z | z <;> have := s0 <;> by_cases q2 : s.length = 0 <;> first | (have := h2 (s0 q2); omega) | omega, by omega, fun r' q0 q1 => ⟨by rw [el]; omega, ?_⟩⟩
          obtain ⟨c2, e2, m2⟩ := app_at (x := s) (y := ⟨#[c]⟩) q0 (by rw [str_len1]; omega)
          refine ⟨c2, e2, hU _ ⟨c2, ?_, ?_, rfl⟩⟩
          · rcases m2 with z | z
            · exact (skill_at sk.1 sk.2.2 z).1
            · have : c2 = c := by simpa using z
              rw [this]
              exact hk
          · rcases m2 with z | z
            · exact (skill_at sk.1 sk.2.2 z).2
            · have : c2 = c := by simpa using z
              rw [this]
              exact hko
        by_cases q2 : j = 0
        · rw [if_pos q2]
          exact (fin 1 (.inr rfl) fun _ => rfl).2
        · rw [if_neg q2]
          by_cases q3 : s = ""
          · rw [if_pos q3]
            exact fin 1 (.inr rfl) fun _ => rfl
          · rw [if_neg q3]
            exact fin 0 (.inl rfl) fun z => absurd z q3
      · rintro _ ⟨c, hk, hko, rfl⟩
        simp [takeF]
        exact ⟨by omega, by omega, fun j j0 j1 => ⟨by omega, h _ (.inl ⟨i, _, _, rfl, i0, i1, Int.emod_nonneg _ (by omega), Int.emod_lt_of_pos _ (by omega), hk, hko⟩)⟩⟩
    · rw [if_neg (by simpa using q)]
      simp
      exact hU _ ⟨by omega, rfl⟩
  rintro _ ⟨r9, rfl⟩
  simp [takeF]
  by_cases q1 : r = 9
  · rw [if_pos q1]
    have el : (z ++ (⟨#[c]⟩ : Str)).length = z.length + 1 := by
      show (z.cps ++ #[c]).size = _
      simp [Str.length]
    have sz : sizeLine ≥ 12 := by decide
    refine ⟨by rw [str_len1]; omega, by omega, by omega, fun j j0 j1 => ⟨by rw [el]; omega, ?_⟩⟩
    obtain ⟨c2, e2, m2⟩ := app_at (x := z) (y := ⟨#[c]⟩) j0 (by rw [str_len1]; omega)
    have kc : isKind (.str ⟨#[c2]⟩) = true ∧ PyData.strOk ⟨#[c2]⟩ = true := by
      rcases m2 with z1 | z1
      · exact kinds0_at z hz z1
      · have : c2 = c := by simpa using z1
        rw [this]
        exact ⟨hk, hko⟩
    exact ⟨c2, e2, h _ (.inr (.inl ⟨m, _, rfl, kc.1, kc.2⟩))⟩
  rw [if_neg q1]
  by_cases q2 : r < 13
  · rw [if_pos q2]
    exact h _ (.inr (.inr (.inl ⟨m, i, rfl, i0, i1⟩)))
  rw [if_neg q2]
  by_cases q3 : r = 13
  · rw [if_pos q3]
    exact h _ (.inr (.inr (.inr (.inl rfl))))
  rw [if_neg q3]
  intro j j0 j1
  have ej : j = 0 ∨ j = 1 := by omega
  have er : r = 14 ∨ r = 15 := by omega
  rcases ej with rfl | rfl <;> rcases er with rfl | rfl <;> simp
  · exact h _ (.inr (.inr (.inr (.inr (.inl ⟨i, _, rfl, i0, i1, hk, hko⟩)))))
  · exact h _ (.inr (.inr (.inr (.inr (.inr ⟨_, rfl, .inl rfl⟩)))))
  · exact h _ (.inr (.inr (.inr (.inr (.inl ⟨i, _, rfl, i0, i1, hk, hko⟩)))))
  · exact h _ (.inr (.inr (.inr (.inr (.inr ⟨_, rfl, .inr ⟨hk, hko⟩⟩)))))
end
end Fb

namespace Fb
open PySem L2
set_option autoImplicit false
variable [Tb]
section
variable {P : Program} {w : World} {K : PySem.W.Frag} {mg : Str → Option Value} {base : Heap} {f : Addr} {fd : FuncData}
theorem sc_Book_tick : FnScope ["self", "gone", "number", "debt"] ["self"] (defScope (inClass (top 41) 6)) := ⟨rfl, rfl, rfl, by decide +kernel, rfl, by decide +kernel, by decide +kernel⟩
theorem ok_Book_tick (Y : Top K mg)  (F : FunS K "tick" "Book.tick" (inClass (top 41) 6) [] f fd) : FnOk P w K mg base CX0 1 f fd ["self"] (spL 1 (fTick K)) := by
  have sc := sc_Book_tick
  obtain ⟨T, c, R, C⟩ := Y
  refine fn_d F sc (fun cdv A outer s H E hc hr => (dss_cons (ds_baug C .tick (.inr rfl) 0)
      (dss_cons (ds_bGone (own := [("number", 2), ("debt", 3)]) C 1 0 2 3 sc.nd (by kernel_rfl) rfl (by decide) (fun _ _ _ _ _ => (pg_tup rfl (GNs.pgs (gn_cons 2 sc.nd (gn_cons 3 sc.nd .nil))))) (fun _ _ _ _ _ => pts_one (pt_cmp (pc_le (pe_add (pe_fld (pe_var (i := 3) rfl (by first | exact Or.inl rfl | exact Or.inr (Or.inl rfl) | exact Or.inr (Or.inr rfl))) rfl) (pe_fld (pe_var (i := 0) rfl (by first | exact Or.inl rfl | exact Or.inr (Or.inl rfl) | exact Or.inr (Or.inr rfl))) rfl)) (pe_fld (pe_var (i := 0) rfl (by first | exact Or.inl rfl | exact Or.inr (Or.inl rfl) | exact Or.inr (Or.inr rfl))) rfl)))) (fun _ _ _ _ _ => (pe_var (i := 2) rfl (by first | exact Or.inl rfl | exact Or.inr (Or.inl rfl) | exact Or.inr (Or.inr rfl)))))
      (dss_cons (ds_for PassesOwn.never (di_any (de_var 1)) (dg_name 2 sc.nd) (dss_one (ds_bPop C 0 (de_var 2))))
      (dss_cons (ds_bTell C 0 (de_tup (da_cons (de_gS c.TICK) da_nil)))
      (dss_one (ds_retO (do_blt (cr_sortedD hr.u64) (cl_sorted _) T.sorted (by decide +kernel) (da_cons (de_var 1) da_nil))))))))) ?_
  rintro as Pq hl ⟨a, B, rfl, G, up, h⟩
  simp
  refine ⟨Nat.le_of_lt (good_dl G), ?_⟩
  have eg : goneOf (bkAug B 1 .tick) B.debts = (goneAt B).map .int := by
    simp [goneOf, goneAt, bkAug]
    rfl
  simp only [bkAug] at eg
  rw [eg]
  have gn : (goneAt B).Pairwise (· < ·) := List.Pairwise.sublist (List.Sublist.map _ List.filter_sublist) up
  refine dFor_go (fun i ρ => ∃ x y, ρ = [some (bk K a { bkAug B 1 .tick with debts := B.debts.filter fun p => !((goneAt B).take i).contains p.1 }), some (.dat (.list ((goneAt B).map .int))), x, y]) ⟨none, none, by rw [show (B.debts.filter fun p => !((goneAt B).take 0).contains p.1) = B.debts from List.filter_eq_self.mpr fun _ _ => by simp]; rfl⟩ (fun i d ρ2 hd hW => ?_) fun ρ2 hW => ?_
  · obtain ⟨x, y, e⟩ := hW
    subst e
    rw [List.getElem?_map] at hd
    obtain ⟨n, hn, e⟩ := Option.map_eq_some_iff.mp hd
    subst e
    have hi : i < (goneAt B).length := (List.getElem?_eq_some_iff.mp hn).1
    have nin : n ∉ (goneAt B).take i := fun z => by
      obtain ⟨j, hj, ej⟩ := List.mem_iff_getElem.mp z
      rw [List.length_take] at hj
      rw [List.getElem_take] at ej
      have := List.pairwise_iff_getElem.mp gn j i (by omega) hi (by omega)
      rw [ej, (List.getElem?_eq_some_iff.mp hn).2] at this
      omega
    have mem : n ∈ goneAt B := List.mem_of_getElem? hn
    simp
    refine ⟨?_, ?_⟩
    · obtain ⟨p, hp, e⟩ := List.mem_map.mp mem
      have hp := (List.mem_filter.mp hp).1
      cases q : dbGet (B.debts.filter fun p => !decide (p.1 ∈ (goneAt B).take i)) n with
      | some x => exact ⟨x, rfl⟩
      | none =>
        unfold dbGet at q
        rw [Option.map_eq_none_iff, List.find?_eq_none] at q
        exact absurd (decide_eq_true e) (q p (List.mem_filter.mpr ⟨hp, by rw [e]; simpa using nin⟩))
    · have ef : dbDrop (B.debts.filter fun p => !decide (p.1 ∈ (goneAt B).take i)) n = B.debts.filter fun p => !decide (p.1 ∈ (goneAt B).take (i + 1)) := by
        unfold dbDrop
        rw [List.filter_filter]
        refine List.filter_congr fun p _ => ?_
        rw [List.take_add_one, hn]
        simp [not_or]
        exact Bool.and_comm _ _
      rw [ef]
  · obtain ⟨x, y, e⟩ := hW
    subst e
    have so : sortD ((goneAt B).map PyData.int) = (goneAt B).map PyData.int := by
      refine List.mergeSort_of_pairwise ?_
      rw [List.pairwise_map]
      refine gn.imp fun {a b} q => ?_
      show (!PySem.W.dataLt (.int b) (.int a)) = true
      rw [PySem.W.dataLt_int, decide_eq_false (by omega)]
      rfl
    have dz : ∀ l : List Int, PyData.depthAll (l.map PyData.int) ≤ 1 := fun l => by
      induction l with
      | nil => decide
      | cons x l ih =>
        show max (PyData.depth (.int x)) (PyData.depthAll (l.map PyData.int)) ≤ 1
        exact Nat.max_le.mpr ⟨by simp [PyData.depth], ih⟩
    have et : tickB B = { bkAug B 1 .tick with debts := B.debts.filter fun p => !decide (p.1 ∈ goneAt B), story := B.story ++ [.tuple [.str "tick"]] } := by
      have ed : (B.debts.filter fun p => !decide (p.2.born + B.life ≤ B.tick + 1)) = B.debts.filter fun p => !decide (p.1 ∈ goneAt B) := by
        refine List.filter_congr fun p hp => ?_
        congr 1
        refine decide_eq_decide.mpr ⟨fun q => List.mem_map.mpr ⟨p, List.mem_filter.mpr ⟨hp, decide_eq_true q⟩, rfl⟩, fun q => ?_⟩
        obtain ⟨p', hp', e⟩ := List.mem_map.mp q
        obtain ⟨h1, h2⟩ := List.mem_filter.mp hp'
        have : p' = p := by
          obtain ⟨i, hi, ei⟩ := List.mem_iff_getElem.mp h1
          obtain ⟨j, hj, ej⟩ := List.mem_iff_getElem.mp hp
          have up := List.pairwise_map.mp up
          rcases Nat.lt_trichotomy i j with z | z | z
          · have := List.pairwise_iff_getElem.mp up i j hi hj z
            rw [ei, ej] at this
            omega
          · subst z
            rw [← ei, ← ej]
          · have := List.pairwise_iff_getElem.mp up j i hj hi z
            rw [ei, ej] at this
            omega
        rw [← this]
        exact of_decide_eq_true h2
      unfold tickB
      rw [ed]
      rfl
    simp
    refine ⟨good_sl G, PySem.W.AllAlike.of fun _ _ => rfl, PySem.W.Sortable.others fun _ => ⟨(by intro z; cases z), fun xs z => by cases z⟩, Nat.le_trans (dz _) (by decide), fun a2 => ?_⟩
    rw [so]
    have h := h a2
    rw [et] at h
    exact h
end
end Fb

namespace Fb
open PySem L2
set_option autoImplicit false
variable [Tb]
section
variable {P : Program} {w : World} {K : PySem.W.Frag} {mg : Str → Option Value} {base : Heap} {f : Addr} {fd : FuncData}
theorem sc_law_alike : FnScope ["_law_found", "_law_due", "_law_k"] ["_law_found", "_law_due"] (defScope (top 45)) := ⟨rfl, rfl, rfl, by decide +kernel, rfl, by decide +kernel, by decide +kernel⟩
theorem ok_law_alike (Y : Top K mg)  (F : FunS K "_law_alike" "_law_alike" (top 45) [] f fd) (hm : mg "_law_alike" = some (.ref f)) (hb : L2.Binds K fd ["_law_found", "_law_due"] []) : ∀ n, FnOk P w K mg base CX0 n f fd ["_law_found", "_law_due"] (spL 2 (fPure 2 (pAlike n))) := by
  have sc := sc_law_alike
  obtain ⟨T, c, R, C⟩ := Y
  intro n
  induction n with
  | zero => exact fn_none (fun vs H Q E ⟨_,_,_,_,_,_,_,⟨_,_,_,h⟩,_⟩ => h)
  | succ n ih =>
    have D__law_alike : DefE P w K mg base CX0 n "_law_alike" ["_law_found", "_law_due"] (spL 2 (fPure 2 (pAlike n))) := ⟨f, fd, hm, F.kp, ih, hb⟩
    refine fn_pure F sc (fun cdv A outer s H E hc hr => (dss_cons (ds_if (dt_cmpR (op_isN) (od_isN) (de_var 1) de_non (nomark _)) (dss_one (ds_ret (de_cmpR (op_isN) (od_isN) (de_var 0) de_non (nomark _)))) dss_nil)
      (dss_cons (ds_if (dt_val (de_isi kit_bl T.isinstance T.bool (by decide +kernel) (de_var 1))) (dss_one (ds_ret (de_and (de_isi kit_bl T.isinstance T.bool (by decide +kernel) (de_var 0)) (de_one (de_cmpR (op_eqDp hr.u64) (od_eq _) (de_var 0) (de_var 1) (nomark _)))))) dss_nil)
      (dss_cons (ds_if (dt_val (de_isi kit_int T.isinstance T.int (by decide +kernel) (de_var 1))) (dss_one (ds_ret (de_and (de_isi kit_int T.isinstance T.int (by decide +kernel) (de_var 0)) (de_and (de_not (de_isi kit_bl T.isinstance T.bool (by decide +kernel) (de_var 0))) (de_one (de_cmpR (op_eqDp hr.u64) (od_eq _) (de_var 0) (de_var 1) (nomark _))))))) dss_nil)
      (dss_cons (ds_if (dt_val (de_isi kit_str T.isinstance T.str (by decide +kernel) (de_var 1))) (dss_one (ds_ret (de_and (de_isi kit_str T.isinstance T.str (by decide +kernel) (de_var 0)) (de_one (de_cmpR (op_eqDp hr.u64) (od_eq _) (de_var 0) (de_var 1) (nomark _)))))) dss_nil)
      (dss_cons (ds_if (PW.pt (dw_or (dt_cmpR (op_neDp hr.u64) (od_ne _) (de_isi kit_tup T.isinstance T.tuple (by decide +kernel) (de_var 1)) (de_isi kit_tup T.isinstance T.tuple (by decide +kernel) (de_var 0)) (nomark _)) (dw_or1 (dt_cmpR (op_neDp hr.u64) (od_ne _) (de_isi kit_lst T.isinstance T.list (by decide +kernel) (de_var 1)) (de_isi kit_lst T.isinstance T.list (by decide +kernel) (de_var 0)) (nomark _))))) (dss_one (ds_ret de_bl)) dss_nil)
      (dss_cons (ds_if (dt_cmpR (op_neDp hr.u64) (od_ne _) (de_blt call_len (cd_len _) T.len (by decide +kernel) (da_cons (de_var 0) da_nil)) (de_blt call_len (cd_len _) T.len (by decide +kernel) (da_cons (de_var 1) da_nil)) (nomark _)) (dss_one (ds_ret de_bl)) dss_nil)
      (dss_cons (ds_for PassesOwn.never (di_rng1 T.range (da_cons (de_blt call_len (cd_len _) T.len (by decide +kernel) (da_cons (de_var 1) da_nil)) da_nil)) (dg_name 2 sc.nd) (dss_one (ds_if (dt_not (dt_val (de_froz (do_callP ⟨D__law_alike⟩ hr (da_cons (de_ix (de_var 0) (de_var 2)) (da_cons (de_ix (de_var 1) (de_var 2)) da_nil)))))) (dss_one (ds_ret de_bl)) dss_nil)))
      (dss_one (ds_ret de_bl)))))))))) ?_
    rintro ds k hl ⟨d, rfl, hd, hn, h⟩
    have dp := szD_depth hd
    match n, hd, hn with
    | 0, hd, hn => cases d <;> simp <;> first | exact h | exact hd.elim
    | n + 1, hd, hn =>
    cases d with
    | none => simp; exact h
    | bool b => simp; exact h
    | int b => simp; exact h
    | str b => simp; exact h
    | dict b => exact hd.elim
    | list xs =>
      simp
      refine ⟨by have := hd.1; omega, dFor_go (fun _ ρ => ∃ x, ρ = [some (.dat (.list xs)), some (.dat (.list xs)), x]) ⟨_, rfl⟩ (fun i d ρ2 hi hW => ?_) fun ρ2 hW => ?_⟩
      · obtain ⟨x, e⟩ := hW
        subst e
        obtain ⟨rfl, hl⟩ := rngD_get hi
        have ha : atI xs (i : Nat) = some xs[i] := atI_nat (List.getElem?_eq_getElem hl)
        simp [ha]
        exact ⟨_, rfl, hd.2 _ (List.getElem_mem hl), by omega, by simp⟩
      · obtain ⟨x, e⟩ := hW
        subst e
        simp
        exact h
    | tuple xs =>
      simp
      refine ⟨by have := hd.1; omega, dFor_go (fun _ ρ => ∃ x, ρ = [some (.dat (.tuple xs)), some (.dat (.tuple xs)), x]) ⟨_, rfl⟩ (fun i d ρ2 hi hW => ?_) fun ρ2 hW => ?_⟩
      · obtain ⟨x, e⟩ := hW
        subst e
        obtain ⟨rfl, hl⟩ := rngD_get hi
        have ha : atI xs (i : Nat) = some xs[i] := atI_nat (List.getElem?_eq_getElem hl)
        simp [ha]
        exact ⟨_, rfl, hd.2 _ (List.getElem_mem hl), by omega, by simp⟩
      · obtain ⟨x, e⟩ := hW
        subst e
        simp
        exact h
end
end Fb

namespace Fb
open PySem L2
set_option autoImplicit false
variable [Tb]
section
variable {P : Program} {w : World} {K : PySem.W.Frag} {mg : Str → Option Value} {base : Heap} {f : Addr} {fd : FuncData}
theorem sc_law_told : FnScope ["_law_work", "_law_kinds", "_law_words", "_law_word", "e"] ["_law_work"] (defScope (top 46)) := ⟨rfl, rfl, rfl, by decide +kernel, rfl, by decide +kernel, by decide +kernel⟩
theorem ok_law_told (Y : Top K mg) (RX : RfX K mg) (F : FunS K "_law_told" "_law_told" (top 46) [] f fd) (hm : mg "_law_told" = some (.ref f)) (hb : L2.Binds K fd ["_law_work"] []) : ToldE P w K mg base told1 := by
  have sc := sc_law_told
  obtain ⟨T, c, R, C⟩ := Y
  refine ⟨f, fd, _, _, _, ["_law_work", "_law_kinds", "_law_words", "_law_word", "e"], "_law_work", F, hm, hb, sc, rfl, .inl rfl, ⟨rfl, rfl⟩, fun X q hP hw hK hmg hbase hr0 => ?_⟩
  subst hP hw hK hmg hbase
  intro fa c' s H Q tl act hc h
  have hr : Room 0 (X.A.deeper (PyProof.Rows.envOfC "_law_told" (defScope (top 46)) s.heap.objs.size f fd.code)) := hr0.deeper _
  have SU : ∃ wS : Addr → Rf → SE, (∀ (a : Addr) (oe : Obj) (pn : List (Addr × Obj)) (x : Rf), x.cls ∈ errs → Zc (.ref (He.ga X.K x.cls)) none oe → (∃ vs, oe.data = .fields vs) →
      PSs ((cxOf CX0 X.prog X.w X.K X.mg X.base ["_law_work", "_law_kinds", "_law_words", "_law_word", "e"] "_law_told" (defScope (top 46)) f fd.code X.A X.stack s H E0).nox.suite a ((a, oe) :: pn)) (suiteOf (defBody (top 46))) (lS X.K E0 (wS a x))) ∧
      ∀ (a : Addr) (x : Rf) (T : Edn), x.cls ∈ errs1 → (∀ ρ, T.rt (.dat (.tuple [.str x.cls, .int 0])) ρ) → wS a x T [none, none, none, none, some (bare a)] :=
    ex2 (fun a oe pn x hx hz hf => (dss_cons (ds_set 1 (de_froz (do_lst (da_cons (de_isE (X := (cxOf CX0 X.prog X.w X.K X.mg X.base ["_law_work", "_law_kinds", "_law_words", "_law_word", "e"] "_law_told" (defScope (top 46)) f fd.code X.A X.stack s H E0).nox) (RX.exc x.cls hx) hz hf 4 (RX.kit x.cls hx "BadCount" (by decide)) (RX.glo "BadCount" (by decide)) T.isinstance) (da_cons (de_isE (X := (cxOf CX0 X.prog X.w X.K X.mg X.base ["_law_work", "_law_kinds", "_law_words", "_law_word", "e"] "_law_told" (defScope (top 46)) f fd.code X.A X.stack s H E0).nox) (RX.exc x.cls hx) hz hf 4 (RX.kit x.cls hx "BadFolk" (by decide)) (RX.glo "BadFolk" (by decide)) T.isinstance) (da_cons (de_isE (X := (cxOf CX0 X.prog X.w X.K X.mg X.base ["_law_work", "_law_kinds", "_law_words", "_law_word", "e"] "_law_told" (defScope (top 46)) f fd.code X.A X.stack s H E0).nox) (RX.exc x.cls hx) hz hf 4 (RX.kit x.cls hx "BadKind" (by decide)) (RX.glo "BadKind" (by decide)) T.isinstance) (da_cons (de_isE (X := (cxOf CX0 X.prog X.w X.K X.mg X.base ["_law_work", "_law_kinds", "_law_words", "_law_word", "e"] "_law_told" (defScope (top 46)) f fd.code X.A X.stack s H E0).nox) (RX.exc x.cls hx) hz hf 4 (RX.kit x.cls hx "BadLog" (by decide)) (RX.glo "BadLog" (by decide)) T.isinstance) da_nil)))))) sc.nd)
        (dss_cons (ds_set 1 (de_bin op_addAll (od_add _) (de_var 1) (de_froz (do_lst (da_cons (de_isE (X := (cxOf CX0 X.prog X.w X.K X.mg X.base ["_law_work", "_law_kinds", "_law_words", "_law_word", "e"] "_law_told" (defScope (top 46)) f fd.code X.A X.stack s H E0).nox) (RX.exc x.cls hx) hz hf 4 (RX.kit x.cls hx "BadText" (by decide)) (RX.glo "BadText" (by decide)) T.isinstance) (da_cons (de_isE (X := (cxOf CX0 X.prog X.w X.K X.mg X.base ["_law_work", "_law_kinds", "_law_words", "_law_word", "e"] "_law_told" (defScope (top 46)) f fd.code X.A X.stack s H E0).nox) (RX.exc x.cls hx) hz hf 4 (RX.kit x.cls hx "Cannot" (by decide)) (RX.glo "Cannot" (by decide)) T.isinstance) (da_cons (de_isE (X := (cxOf CX0 X.prog X.w X.K X.mg X.base ["_law_work", "_law_kinds", "_law_words", "_law_word", "e"] "_law_told" (defScope (top 46)) f fd.code X.A X.stack s H E0).nox) (RX.exc x.cls hx) hz hf 4 (RX.kit x.cls hx "NoChain" (by decide)) (RX.glo "NoChain" (by decide)) T.isinstance) (da_cons (de_isE (X := (cxOf CX0 X.prog X.w X.K X.mg X.base ["_law_work", "_law_kinds", "_law_words", "_law_word", "e"] "_law_told" (defScope (top 46)) f fd.code X.A X.stack s H E0).nox) (RX.exc x.cls hx) hz hf 4 (RX.kit x.cls hx "NoDebt" (by decide)) (RX.glo "NoDebt" (by decide)) T.isinstance) da_nil))))))) sc.nd)
        (dss_cons (ds_set 1 (de_bin op_addAll (od_add _) (de_var 1) (de_froz (do_lst (da_cons (de_isE (X := (cxOf CX0 X.prog X.w X.K X.mg X.base ["_law_work", "_law_kinds", "_law_words", "_law_word", "e"] "_law_told" (defScope (top 46)) f fd.code X.A X.stack s H E0).nox) (RX.exc x.cls hx) hz hf 4 (RX.kit x.cls hx "NoOne" (by decide)) (RX.glo "NoOne" (by decide)) T.isinstance) (da_cons (de_isE (X := (cxOf CX0 X.prog X.w X.K X.mg X.base ["_law_work", "_law_kinds", "_law_words", "_law_word", "e"] "_law_told" (defScope (top 46)) f fd.code X.A X.stack s H E0).nox) (RX.exc x.cls hx) hz hf 4 (RX.kit x.cls hx "Worn" (by decide)) (RX.glo "Worn" (by decide)) T.isinstance) da_nil))))) sc.nd)
        (dss_cons (ds_if (PW.pt (dw_or (dt_cmpR (op_neDp hr.u64) (od_ne _) (de_mL PySem.F.slot_list_count PySem.F.type_list_count (mt_countD hr.u65) (md_count _) (de_var 1) (da_cons de_bl da_nil)) de_int (nomark _)) (dw_or1 (dt_not (dt_val (de_isEv (X := (cxOf CX0 X.prog X.w X.K X.mg X.base ["_law_work", "_law_kinds", "_law_words", "_law_word", "e"] "_law_told" (defScope (top 46)) f fd.code X.A X.stack s H E0).nox) (RX.exc x.cls hx) hz hf 4 (RX.ve x.cls hx) RX.val T.isinstance)))))) (dss_one (ds_ret (de_tup (da_cons de_str (da_cons de_int da_nil))))) dss_nil)
        (dss_cons (ds_set 2 (de_froz (do_lst (da_cons de_str (da_cons de_str (da_cons de_str (da_cons de_str (da_cons de_str (da_cons de_str (da_cons de_str (da_cons de_str (da_cons de_str (da_cons de_str da_nil)))))))))))) sc.nd)
        (dss_cons (ds_set 3 (de_ix (de_var 2) (de_mL PySem.F.slot_list_index PySem.F.type_list_index (mt_indexDD hr.u65) (md_index _) (de_var 1) (da_cons de_bl da_nil))) sc.nd)
        (dss_cons (ds_if (dt_cmpR (op_inAll hr.u65) (od_in _ _) (de_var 3) (de_tup (da_cons de_str (da_cons de_str da_nil))) rfl) (dss_one (ds_ret (de_tup (da_cons (de_var 3) (da_cons de_never da_nil))))) dss_nil)
        (dss_one (ds_ret (de_tup (da_cons (de_var 3) (da_cons (de_if (dt_cmpR (op_eqDp hr.u64) (od_eq _) (de_var 3) de_str (nomark _)) de_never de_int) da_nil))))))))))))) (fun a x T hx hT => by
      obtain ⟨cls, num⟩ := x
      have hx : cls ∈ errs1 := hx
      simp only [errs1, List.mem_cons, List.not_mem_nil, or_false] at hx
      rcases hx with rfl | rfl | rfl | rfl | rfl | rfl | rfl
      · simp [-anyEq_cons, -anyEq_nil]
        rw [if_pos (by decide +kernel)]
        refine ⟨0, by decide +kernel, .str "BadCount", rfl, ?_⟩
        exact ⟨by decide +kernel, by decide +kernel, hT _⟩
      · simp [-anyEq_cons, -anyEq_nil]
        rw [if_pos (by decide +kernel)]
        refine ⟨2, by decide +kernel, .str "BadKind", rfl, ?_⟩
        exact ⟨by decide +kernel, by decide +kernel, hT _⟩
      · simp [-anyEq_cons, -anyEq_nil]
        rw [if_pos (by decide +kernel)]
        refine ⟨5, by decide +kernel, .str "Cannot", rfl, ?_⟩
        exact ⟨by decide +kernel, by decide +kernel, hT _⟩
      · simp [-anyEq_cons, -anyEq_nil]
        rw [if_pos (by decide +kernel)]
        refine ⟨6, by decide +kernel, .str "NoChain", rfl, ?_⟩
        exact ⟨by decide +kernel, by decide +kernel, hT _⟩
      · simp [-anyEq_cons, -anyEq_nil]
        rw [if_pos (by decide +kernel)]
        refine ⟨7, by decide +kernel, .str "NoDebt", rfl, ?_⟩
        exact ⟨by decide +kernel, by decide +kernel, hT _⟩
      · simp [-anyEq_cons, -anyEq_nil]
        rw [if_pos (by decide +kernel)]
        refine ⟨8, by decide +kernel, .str "NoOne", rfl, ?_⟩
        exact ⟨by decide +kernel, by decide +kernel, hT _⟩
      · simp [-anyEq_cons, -anyEq_nil]
        rw [if_pos (by decide +kernel)]
        refine ⟨9, by decide +kernel, .str "Worn", rfl, ?_⟩
        exact ⟨by decide +kernel, by decide +kernel, hT _⟩)
  obtain ⟨wS, S1, S2⟩ := SU
  refine ⟨_, pss_one (ps_try_as (X := (cxOf CX0 X.prog X.w X.K X.mg X.base ["_law_work", "_law_kinds", "_law_words", "_law_word", "e"] "_law_told" (defScope (top 46)) f fd.code X.A X.stack s H E0).nox) (c := .ref (He.ga X.K "FavourError")) (i := 4)
      (tb := fun W D σ H => ∃ Ech : XK, (∀ cls d σ' H', Ech cls d H' → W cls d σ' H') ∧ σ[0]? = some (some (.ref fa)) ∧ H c' = some (LamX.CodeO c' q) ∧ tl Ech H D.rt)
      (ts := fun a cls d D σ H => σ.length = 5 → ∃ x : Rf, (x.cls ∈ errs ∧ cls = .ref (He.ga X.K x.cls) ∧ d = none) ∧ lS X.K E0 (wS a x) D σ H)
      rfl rfl sc.nd rfl rfl ⟨rfl, rfl, .inl RX.fav⟩ LamX.takes0 (fun W pn xe tk _ => ?_) (fun a oe cls d pn hz hf => pss_len rfl (pss_ex (t := fun (x : Rf) D σ H => lS X.K E0 (wS a x) D σ H) fun x hx0 => ?_))), ?_⟩
  · refine ⟨fun pins s' σ H' D I h' => ?_⟩
    obtain ⟨Ech, hW, h1, h2, h3⟩ := h'
    exact (pss_one (ps_ret (act W pn xe Ech _ _ tk hW))).run pins s' σ H' D I ⟨h1, h2, h3⟩
  · obtain ⟨hx, rfl, rfl⟩ := hx0
    exact S1 a oe pn x hx hz hf
  · refine ⟨fun cls d H' => _, fun cls d σ' H' hh => ?_, rfl, hc, h⟩
    obtain ⟨x, z, fz, th, tb, kq⟩ := hh
    unfold told1 at fz
    by_cases hx : x.cls ∈ errs1 ∧ x.num = none
    · rw [if_pos hx] at fz
      cases fz
      obtain ⟨ec, ed⟩ := th
      rw [hx.2] at ed
      have ed : d = none := ed
      subst ec ed
      refine ⟨true, RX.exm _ (errs_of hx.1), fun _ a ha ln => ⟨x, ⟨errs_of hx.1, rfl, rfl⟩, ordH H', fun _ => none, fun _ => Fb.nil, [none, none, none, none, some (bare a)], _, ⟨ln.symm, fun b o e => (ordH_some e).1, fun b o e => ⟨rfl, fun _ => rfl⟩, fun b o e => (by cases e), fun i b o e => (by cases e), fun i b o e => (by cases e), fun i j b o _ e => (by cases e), fun i sv e => ?_, tb, fun b o e => (ordH_some e).2, fun b o e => (by cases e), fun i b o e => (by cases e)⟩,
        S2 a x ⟨fun _ => False, fun r _ => r = .dat (.tuple [.str x.cls, .int 0]), fun _ => False, fun _ => False, fun _ _ => False⟩ hx.1 (fun _ => rfl), ⟨fun _ _ _ _ _ z => z.elim, fun r ρ' σ2 v g' hs' ht H2 er s' W' R' A' => ?_, fun _ _ _ _ _ z => z.elim, fun _ _ _ _ _ z => z.elim, fun _ _ _ _ _ _ _ _ z => z.elim⟩⟩, fun z => by cases z⟩
      · match i, e with
        | 4, e =>
          simp at e
          subst e
          exact ⟨.ref a, List.getElem?_set_self (by rw [List.length_set] at ln; omega), rfl, trivial⟩
        | i + 5, e => simp at e
      · subst er
        refine kq H2 g' v W'.sf W'.tb W'.sg (fun b o e => ⟨?_, W'.ng b o e⟩) R'
        cases q : ordH H' b with
        | none => rfl
        | some u =>
          rw [(W'.df b u q).1] at e
          cases e
    · rw [if_neg hx] at fz
      cases fz
end
end Fb

namespace Fb
open PySem L2
set_option autoImplicit false
variable [Tb]
section
variable {P : Program} {w : World} {K : PySem.W.Frag} {mg : Str → Option Value} {base : Heap} {f : Addr} {fd : FuncData}
theorem sc_is_number : FnScope ["part", "low", "high"] ["part", "low", "high"] (defScope (top 26)) := ⟨rfl, rfl, rfl, by decide +kernel, rfl, by decide +kernel, by decide +kernel⟩
theorem ok_is_number (Y : Top K mg)  (F : FunS K "is_number" "is_number" (top 26) [] f fd) : FnOk P w K mg base CX0 1 f fd ["part", "low", "high"] (spL 3 (fPure 3 pNum)) := by
  have sc := sc_is_number
  obtain ⟨T, c, R, C⟩ := Y
  refine fn_pure F sc (fun cdv A outer s H E hc hr => (dss_one (ds_ret (de_and (de_isi kit_int T.isinstance T.int (by decide +kernel) (de_var 0)) (de_and (de_not (de_isi kit_bl T.isinstance T.bool (by decide +kernel) (de_var 0))) (de_one (de_chain (op_leAll) (od_cm _ _) (op_leAll) (od_cm _ _) (de_var 1) (de_var 0) (de_var 2)))))))) ?_
  rintro ds k hl ⟨d, lo, hi, rfl, h⟩
  cases d <;> simp only [dRet, dAndV, dIsi, dVar, dNotV, dChain, wCm, startD, slot, isInt, isBl, List.map, List.cons_append, PyData.bool.injEq, exists_eq_left', if_true, Bool.not_true, Bool.not_false, Bool.false_eq_true, if_false, Bool.true_eq_false, exists_eq_left] <;> try exact h
  rename_i i
  by_cases q : lo ≤ i
  · rw [if_pos (decide_eq_true q)]
    have e : isNum (.int i) lo hi = decide (i ≤ hi) := by
      unfold isNum
      simp [q]
    rw [e] at h
    exact h
  · rw [if_neg (by simp only [decide_eq_true_eq]; exact q)]
    have e : isNum (.int i) lo hi = false := by
      unfold isNum
      simp [q]
    rw [e] at h
    exact h
end
end Fb

namespace Fb
open PySem L2
set_option autoImplicit false
variable [Tb]
section
variable {P : Program} {w : World} {K : PySem.W.Frag} {mg : Str → Option Value} {base : Heap} {f : Addr} {fd : FuncData}
theorem sc_need_one : FnScope ["folk", "number"] ["folk", "number"] (defScope (top 31)) := ⟨rfl, rfl, rfl, by decide +kernel, rfl, by decide +kernel, by decide +kernel⟩
theorem ok_need_one (Y : Top K mg) (D_is_number : DefE P w K mg base CX0 1 "is_number" ["part", "low", "high"] (spL 3 (fPure 3 pNum))) (F : FunS K "need_one" "need_one" (top 31) [] f fd) : FnOk P w K mg base (L2.CX P w) 2 f fd ["folk", "number"] (spX K 2 xOne) := by
  have sc := sc_need_one
  obtain ⟨T, c, R, C⟩ := Y
  refine fn_x F sc (fun cdv A outer s H E hc hr lt => (dss_one (ds_if (dt_not (dt_val (de_froz (do_callP ⟨D_is_number⟩ (hr.mono (by decide)) (da_cons (de_var 1) (da_cons de_int (da_cons (de_bin op_sub (od_sub) (de_blt call_len (cd_len _) T.len (by decide +kernel) (da_cons (de_var 0) da_nil)) de_int) da_nil))))))) (dss_one (ds_raise R.NoOne lt)) dss_nil))) ?_
  rintro as Pq Pe hl ⟨ds, d, rfl, h⟩
  simp
  refine ⟨d, 0, ds.length - 1, rfl, ?_⟩
  cases q : isNum d 0 (ds.length - 1) <;> simp [q] at h ⊢ <;> exact h
end
end Fb

namespace Fb
open PySem L2
set_option autoImplicit false
variable [Tb]
section
variable {P : Program} {w : World} {K : PySem.W.Frag} {mg : Str → Option Value} {base : Heap} {f : Addr} {fd : FuncData}
theorem sc_Book_need_two : FnScope ["self", "one", "other"] ["self", "one", "other"] (defScope (inClass (top 41) 2)) := ⟨rfl, rfl, rfl, by decide +kernel, rfl, by decide +kernel, by decide +kernel⟩
theorem ok_Book_need_two (Y : Top K mg) (D_need_one : DefE P w K mg base (L2.CX P w) 2 "need_one" ["folk", "number"] (spX K 2 xOne)) (F : FunS K "need_two" "Book.need_two" (inClass (top 41) 2) [] f fd) : FnOk P w K mg base (L2.CX P w) 3 f fd ["self", "one", "other"] (spX K 3 (xTwo K)) := by
  have sc := sc_Book_need_two
  obtain ⟨T, c, R, C⟩ := Y
  refine fn_x F sc (fun cdv A outer s H E hc hr lt => (dss_cons (ds_expX (dx_call ⟨D_need_one⟩ (hr.mono (by decide)) (lets_pass lt) (ka_dat (de_bf C.toBkC .folk 0) (ka_dat (de_var 1) ka_nil))))
      (dss_cons (ds_expX (dx_call ⟨D_need_one⟩ (hr.mono (by decide)) (lets_pass lt) (ka_dat (de_bf C.toBkC .folk 0) (ka_dat (de_var 2) ka_nil))))
      (dss_one (ds_if (dt_cmpR (op_eqDp hr.u64) (od_eq _) (de_var 1) (de_var 2) (nomark _)) (dss_one (ds_raise R.NoOne lt)) dss_nil))))) ?_
  rintro as Pq Pe hl ⟨a, B, d, e, rfl, hd, h⟩
  simp [xOne]
  cases q1 : isNum d 0 (B.folk.length - 1) <;> simp [q1] at h ⊢ <;> try exact h
  cases q2 : isNum e 0 (B.folk.length - 1) <;> simp [q2] at h ⊢ <;> try exact h
  refine ⟨hd, ?_⟩
  cases q3 : PyData.eqv d e <;> simp [q3] at h ⊢ <;> exact h
end
end Fb

namespace Fb
open PySem L2
set_option autoImplicit false
variable [Tb]
section
variable {P : Program} {w : World} {K : PySem.W.Frag} {mg : Str → Option Value} {base : Heap} {f : Addr} {fd : FuncData}
theorem sc_need_kind : FnScope ["kind"] ["kind"] (defScope (top 30)) := ⟨rfl, rfl, rfl, by decide +kernel, rfl, by decide +kernel, by decide +kernel⟩
theorem ok_need_kind (Y : Top K mg)  (F : FunS K "need_kind" "need_kind" (top 30) [] f fd) : FnOk P w K mg base (L2.CX P w) 1 f fd ["kind"] (spX K 1 xKind) := by
  have sc := sc_need_kind
  obtain ⟨T, c, R, C⟩ := Y
  refine fn_x F sc (fun cdv A outer s H E hc hr lt => (dss_one (ds_if (PW.pt (dw_or (dt_not (dt_val (de_isi kit_str T.isinstance T.str (by decide +kernel) (de_var 0)))) (dw_or (dt_cmpR (op_neDp hr.u64) (od_ne _) (de_blt call_len (cd_len _) T.len (by decide +kernel) (da_cons (de_var 0) da_nil)) de_int (nomark _)) (dw_or1 (dt_cmpR (op_niAll hr.u65) (od_in _ _) (de_var 0) (de_gS c.KINDS) rfl))))) (dss_one (ds_raise R.BadKind lt)) dss_nil))) ?_
  rintro as Pq Pe hl ⟨d, rfl, hz, h⟩
  cases d <;> simp [isKind] at h ⊢ <;> try exact h
  rename_i z
  have hz := hz z rfl
  refine ⟨hz, ?_⟩
  have ek : ("abc" : Str) = kinds := rfl
  rw [ek]
  by_cases q1 : z.length = 1
  · have q1' : (z.length : Int) = 1 := by omega
    rw [if_pos q1']
    cases q2 : subStr z kinds <;> simp [q1, q2] at h ⊢ <;> exact h
  · rw [if_neg (fun z => q1 z.1)] at h
    rw [if_neg (by omega)]
    exact h
end
end Fb

namespace Fb
open PySem L2
set_option autoImplicit false
variable [Tb]
section
variable {P : Program} {w : World} {K : PySem.W.Frag} {mg : Str → Option Value} {base : Heap} {f : Addr} {fd : FuncData}
theorem sc_Debt___init__ : FnScope ["self", "debtor", "creditor", "kind", "born"] ["self", "debtor", "creditor", "kind", "born"] (defScope (inClass (top 40) 0)) := ⟨rfl, rfl, rfl, by decide +kernel, rfl, by decide +kernel, by decide +kernel⟩
theorem ok_Debt___init__ (Y : Top K mg)  (F : FunS K "__init__" "Debt.__init__" (inClass (top 40) 0) [] f fd) : FnOk P w K mg base CX0 1 f fd ["self", "debtor", "creditor", "kind", "born"] (spDebt K) := by
  have sc := sc_Debt___init__
  obtain ⟨T, c, R, C⟩ := Y
  refine F.okC sc spDebt_len (fun cdv A outer s H vs Q E hc hr h => ⟨_, PSs.nox (pss_cons (ps_fld (pe_var (i := 0) rfl (.inl rfl)) (pe_var (i := 1) rfl (.inl rfl)) rfl) (pss_cons (ps_fld (pe_var (i := 0) rfl (.inl rfl)) (pe_var (i := 2) rfl (.inl rfl)) rfl) (pss_cons (ps_fld (pe_var (i := 0) rfl (.inl rfl)) (pe_var (i := 3) rfl (.inl rfl)) rfl)
    (pss_cons (ps_fld (pe_var (i := 0) rfl (.inl rfl)) (pe_var (i := 4) rfl (.inl rfl)) rfl) (pss_one (ps_fld (pe_var (i := 0) rfl (.inl rfl)) pe_int rfl)))))), debt_init C.toBkC vs H Q E h⟩)
end
end Fb

namespace Fb
open PySem L2
set_option autoImplicit false
variable [Tb]
section
variable {P : Program} {w : World} {K : PySem.W.Frag} {mg : Str → Option Value} {base : Heap} {f : Addr} {fd : FuncData}
theorem sc_Book_done : FnScope ["self", "doer", "other", "kind", "number"] ["self", "doer", "other", "kind"] (defScope (inClass (top 41) 3)) := ⟨rfl, rfl, rfl, by decide +kernel, rfl, by decide +kernel, by decide +kernel⟩
theorem ok_Book_done {fD : Addr} {fdD : FuncData} (Y : Top K mg) (M_need_two : MetE P w K mg base (L2.CX P w) 3 "Book" "need_two" ["self", "one", "other"] (spX K 3 (xTwo K))) (D_need_kind : DefE P w K mg base (L2.CX P w) 1 "need_kind" ["kind"] (spX K 1 xKind)) (MD : MkDebt P w K mg base fD fdD) (F : FunS K "done" "Book.done" (inClass (top 41) 3) [] f fd) : FnOk P w K mg base (L2.CX P w) 4 f fd ["self", "doer", "other", "kind"] (spX K 4 (xDone K)) := by
  have sc := sc_Book_done
  obtain ⟨T, c, R, C⟩ := Y
  refine fn_x F sc (fun cdv A outer s H E hc hr lt => (dss_cons (ds_expX (dx_metB 0 ⟨C.book, M_need_two⟩ (hr.mono (by decide)) (lets_pass lt) (ka_dat (de_var 1) (ka_dat (de_var 2) ka_nil))))
      (dss_cons (ds_expX (dx_call ⟨D_need_kind⟩ (hr.mono (by decide)) (lets_pass lt) (ka_dat (de_var 3) ka_nil)))
      (dss_cons (ds_if (dt_cmpR (op_niAll hr.u65) (od_in _ _) (de_var 3) (de_ix (de_bf C.toBkC .folk 0) (de_var 1)) rfl) (dss_one (ds_raise R.Cannot lt)) dss_nil)
      (dss_cons (ds_set 4 (de_bf C.toBkC .fresh 0) sc.nd)
      (dss_cons (ds_baug C .fresh (.inl rfl) 0)
      (dss_cons (ds_bNew C hr.u1 0 MD.made MD.fn MD.bd (hr.mono (by decide)) MD.glo (de_var 4) (da_cons (de_var 2) (da_cons (de_var 1) (da_cons (de_if (dt_cmpR (op_inAll hr.u65) (od_in _ _) (de_var 3) (de_ix (de_bf C.toBkC .folk 0) (de_var 2)) rfl) (de_var 3) (de_gS c.ANY)) (da_cons (de_bf C.toBkC .tick 0) da_nil)))))
      (dss_cons (ds_bTell C 0 (de_tup (da_cons (de_gS c.DONE) (da_cons (de_var 1) (da_cons (de_var 2) (da_cons (de_var 3) da_nil))))))
      (dss_one (ds_ret (de_var 4))))))))))) ?_
  rintro as Pq Pe hl ⟨a, B, d, e, k, rfl, G, hd, hk, h⟩
  simp [xTwo, xKind]
  refine ⟨hd, ?_⟩
  by_cases q : (isNum d 0 (B.folk.length - 1) && (isNum e 0 (B.folk.length - 1) && !PyData.eqv d e)) = true
  · have c1 : isNum d 0 (B.folk.length - 1) = true ∧ isNum e 0 (B.folk.length - 1) = true ∧ PyData.eqv d e = false := by simpa using q
    rw [if_pos q] at h
    rw [if_pos c1]
    refine ⟨fun z hz => (hk z hz).1, ?_⟩
    by_cases qk : isKind k = true
    · rw [if_pos qk] at h ⊢
      obtain ⟨i, rfl, i0, i1⟩ := isNum_int c1.1
      obtain ⟨j, rfl, j0, j1⟩ := isNum_int c1.2.1
      obtain ⟨z, rfl, zl⟩ := isKind_str qk
      have h := h i j z rfl rfl rfl
      simp [at_folk i0 i1, at_folk j0 j1, good_dl G, good_sl G]
      have nw : ∀ (a : Int) (b : Db), (a, b) ∈ B.debts → a < B.fresh := fun m dm hm => G.new _ hm
      cases q2 : subStr z ((B.folk[i.toNat]?).getD "") <;> simp [q2] at h ⊢
      · exact h
      · cases q3 : subStr z ((B.folk[j.toNat]?).getD "") <;> simp [q3, doneB, debtOf] at h ⊢ <;> exact ⟨nw, h⟩
    · rw [if_neg qk] at h ⊢
      exact h
  · rw [if_neg q] at h
    have c1 : ¬ (isNum d 0 (B.folk.length - 1) = true ∧ isNum e 0 (B.folk.length - 1) = true ∧ PyData.eqv d e = false) := by simpa using q
    rw [if_neg c1]
    exact h
end
end Fb

namespace Fb
open PySem L2
set_option autoImplicit false
variable [Tb]
section
variable {P : Program} {w : World} {K : PySem.W.Frag} {mg : Str → Option Value} {base : Heap} {f : Addr} {fd : FuncData}
theorem sc_Book_debt : FnScope ["self", "number"] ["self", "number"] (defScope (inClass (top 41) 1)) := ⟨rfl, rfl, rfl, by decide +kernel, rfl, by decide +kernel, by decide +kernel⟩
theorem ok_Book_debt (Y : Top K mg)  (F : FunS K "debt" "Book.debt" (inClass (top 41) 1) [] f fd) : FnOk P w K mg base (L2.CX P w) 1 f fd ["self", "number"] (spX K 2 (xDebt K)) := by
  have sc := sc_Book_debt
  obtain ⟨T, c, R, C⟩ := Y
  refine fn_x F sc (fun cdv A outer s H E hc hr lt => (dss_cons (ds_if (PW.pt (dw_or (dt_not (dt_val (de_isi kit_int T.isinstance T.int (by decide +kernel) (de_var 1)))) (dw_or (dt_val (de_isi kit_bl T.isinstance T.bool (by decide +kernel) (de_var 1))) (dw_or1 (dt_bni C hr.u1 0 (de_var 1)))))) (dss_one (ds_raise R.NoDebt lt)) dss_nil)
      (dss_one (ds_retO (do_bGet C hr.u1 0 (de_var 1)))))) ?_
  rintro as Pq Pe hl ⟨a, B, d, rfl, h⟩
  cases d <;> simp at h ⊢ <;> try exact h
  rename_i n
  cases q : dbGet B.debts n <;> simp [q] at h ⊢ <;> exact h
end
end Fb

namespace Fb
open PySem L2
set_option autoImplicit false
variable [Tb]
section
variable {P : Program} {w : World} {K : PySem.W.Frag} {mg : Str → Option Value} {base : Heap} {f : Addr} {fd : FuncData}
theorem sc_Book_hand_on : FnScope ["self", "number", "to", "debt"] ["self", "number", "to"] (defScope (inClass (top 41) 5)) := ⟨rfl, rfl, rfl, by decide +kernel, rfl, by decide +kernel, by decide +kernel⟩
theorem ok_Book_hand_on (Y : Top K mg) (M_debt : MetE P w K mg base (L2.CX P w) 1 "Book" "debt" ["self", "number"] (spX K 2 (xDebt K))) (D_need_one : DefE P w K mg base (L2.CX P w) 2 "need_one" ["folk", "number"] (spX K 2 xOne)) (F : FunS K "hand_on" "Book.hand_on" (inClass (top 41) 5) [] f fd) : FnOk P w K mg base (L2.CX P w) 3 f fd ["self", "number", "to"] (spX K 3 (xPass K)) := by
  have sc := sc_Book_hand_on
  obtain ⟨T, c, R, C⟩ := Y
  refine fn_x F sc (fun cdv A outer s H E hc hr lt => (dss_cons (ds_setX 3 (dx_metB 0 ⟨C.book, M_debt⟩ (hr.mono (by decide)) (lets_pass lt) (ka_dat (de_var 1) ka_nil)) sc.nd)
      (dss_cons (ds_expX (dx_call ⟨D_need_one⟩ (hr.mono (by decide)) (lets_pass lt) (ka_dat (de_bf C.toBkC .folk 0) (ka_dat (de_var 2) ka_nil))))
      (dss_cons (ds_if (dt_cmpR (op_inAll hr.u65) (od_in _ _) (de_var 2) (de_tup (da_cons (de_df C.toBkC .debtor 0 (do_ref 3)) (da_cons (de_df C.toBkC .creditor 0 (do_ref 3)) da_nil))) rfl) (dss_one (ds_raise R.NoOne lt)) dss_nil)
      (dss_cons (ds_if (dt_cmpR (op_eqDp hr.u64) (od_eq _) (de_df C.toBkC .passed 0 (do_ref 3)) (de_bf C.toBkC .hops 0) (nomark _)) (dss_one (ds_raise R.Worn lt)) dss_nil)
      (dss_cons (ds_dset C 0 3 (de_var 2))
      (dss_cons (ds_daug C 0 3)
      (dss_one (ds_bTell C 0 (de_tup (da_cons (de_gS c.PASS) (da_cons (de_var 1) (da_cons (de_var 2) da_nil))))))))))))) ?_
  rintro as Pq Pe hl ⟨a, B, d, e, rfl, G, hd, h⟩
  simp [xDebt, xOne]
  cases d <;> simp at h ⊢ <;> try exact h
  rename_i n
  cases q : dbGet B.debts n <;> simp [q] at h ⊢ <;> try exact h
  rename_i x
  cases q1 : isNum e 0 (B.folk.length - 1) <;> simp [q1] at h ⊢ <;> try exact h
  obtain ⟨t, rfl, t0, t1⟩ := isNum_int q1
  have h := h t rfl
  refine ⟨n, x, dbGet_mem q, rfl, n, x, dbGet_mem q, rfl, ?_⟩
  simp [PyData.depth, PyData.depthAll, anyEq, eqv_int]
  split
  · rename_i q2
    rw [if_pos q2] at h
    exact h
  · rename_i q2
    rw [if_neg q2] at h
    refine ⟨n, x, dbGet_mem q, rfl, ?_⟩
    split
    · rename_i q3
      rw [if_pos q3] at h
      exact h
    · rename_i q3
      rw [if_neg q3] at h
      refine ⟨n, x, dbGet_mem q, rfl, n, _, dbSet_mem (dbGet_mem q), rfl, good_sl G, ?_⟩
      simp only [dbSet_set]
      exact h
end
end Fb

namespace Fb
open PySem L2
set_option autoImplicit false
variable [Tb]
section
variable {P : Program} {w : World} {K : PySem.W.Frag} {mg : Str → Option Value} {base : Heap} {f : Addr} {fd : FuncData}
theorem sc_law_do : FnScope ["_law_book", "_law_deed_here", "_law_word", "_law_rest"] ["_law_book", "_law_deed_here"] (defScope (top 49)) := ⟨rfl, rfl, rfl, by decide +kernel, rfl, by decide +kernel, by decide +kernel⟩
theorem ok_law_do {c0 P0 : Addr} (Y : Top K mg) (D_told : ToldE P w K mg base told1) (M_tick : MetE P w K mg base CX0 1 "Book" "tick" ["self"] (spL 1 (fTick K))) (M_done : MetE P w K mg base (L2.CX P w) 4 "Book" "done" ["self", "doer", "other", "kind"] (spX K 4 (xDone K))) (M_hand_on : MetE P w K mg base (L2.CX P w) 3 "Book" "hand_on" ["self", "number", "to"] (spX K 3 (xPass K))) (tb : LamX.TabB base mg c0 P0) (hcd : fd.code = .ref c0) (mem : (P0, ("_law_do.<locals>.<lambda>" : Str)) ∈ Tb.T) (uniq : ∀ p ∈ Tb.T, p.1 = P0 → p.2 = ("_law_do.<locals>.<lambda>" : Str)) (F : FunS K "_law_do" "_law_do" (top 49) [] f fd) : FnOk P w K mg base CX0 7 f fd ["_law_book", "_law_deed_here"] (spL 2 (fDo2 K)) := by
  have sc := sc_law_do
  obtain ⟨T, c, R, C⟩ := Y
  refine fn_d F sc (fun cdv A outer s H E hc hr => have L : LamK (cxOf CX0 P w K mg base ["_law_book", "_law_deed_here", "_law_word", "_law_rest"] "_law_do" (defScope (top 49)) f cdv A outer s H E).nox c0 P0 := ⟨tb, hc.symm.trans hcd, mem, uniq⟩; (dss_cons (ds_parC [2, 3] (dm_cons (do_dat (de_ix (de_var 1) de_int)) (dm_cons (do_dat (de_sl (de_var 1) (dpo_some de_int) dpo_none)) dm_nil)) (gn_cons 2 sc.nd (gn_cons 3 sc.nd .nil)) (e := pg_tup rfl (GNs.pgs (gn_cons 2 sc.nd (gn_cons 3 sc.nd .nil)))))
      (dss_cons (ds_if (dt_cmpR (op_eqDp hr.u64) (od_eq _) (de_var 2) de_str (nomark _)) (dss_one (ds_retO (do_told (k := 4) D_told L (hr.mono (by decide)) (LamX.lamS_by (by kernel_rfl)) (fun A outer s H E fa c' hr => (dx_metB 0 ⟨C.book, M_done⟩ (hr.mono (by decide)) (lets_pass (takes_of rfl rfl rfl rfl)) (ka_dat (de_ix (de_var 3) de_int) (ka_dat (de_ix (de_var 3) de_int) (ka_dat (de_ix (de_var 3) de_int) ka_nil)))))))) dss_nil)
      (dss_cons (ds_if (dt_cmpR (op_eqDp hr.u64) (od_eq _) (de_var 2) de_str (nomark _)) (dss_one ds_never) dss_nil)
      (dss_cons (ds_if (dt_cmpR (op_eqDp hr.u64) (od_eq _) (de_var 2) de_str (nomark _)) (dss_one (ds_retO (do_told (k := 3) D_told L (hr.mono (by decide)) (LamX.lamS_by (by kernel_rfl)) (fun A outer s H E fa c' hr => (dx_metB 0 ⟨C.book, M_hand_on⟩ (hr.mono (by decide)) (lets_pass (takes_of rfl rfl rfl rfl)) (ka_dat (de_ix (de_var 3) de_int) (ka_dat (de_ix (de_var 3) de_int) ka_nil))))))) dss_nil)
      (dss_cons (ds_if (dt_cmpR (op_eqDp hr.u64) (od_eq _) (de_var 2) de_str (nomark _)) (dss_one ds_never) dss_nil)
      (dss_one ds_never))))))) ?_
  rintro as Pq hl ⟨b, B, d, rfl, G, h⟩
  rcases h with ⟨i, j, z, rfl, i0, i1, j0, j1, hk, ok, h⟩ | ⟨m, t, rfl, t0, t1, h⟩
  · simp
    refine xDone_at G i0 i1 j0 j1 hk ok ?_
    by_cases q : i = j <;> simp [q] at h ⊢
    · exact h
    · by_cases q2 : subStr z ((B.folk[i.toNat]?).getD "") = true <;> simp [q2] at h ⊢ <;> exact h
  · simp [xPass]
    refine ⟨G, ?_⟩
    cases q : dbGet B.debts m <;> simp [q] at h ⊢
    · exact h
    · rw [if_pos (by omega)]
      rename_i x
      by_cases q2 : x.debtor = t ∨ x.creditor = t <;> simp [q2] at h ⊢
      · exact h
      · by_cases q3 : x.passed = B.hops <;> simp [q3] at h ⊢ <;> exact h
end
end Fb

namespace Fb
open PySem L2
set_option autoImplicit false
variable [Tb]
section
variable {P : Program} {w : World} {K : PySem.W.Frag} {mg : Str → Option Value} {base : Heap} {f : Addr} {fd : FuncData}
theorem sc_Book_now : FnScope ["self"] ["self"] (defScope (inClass (top 41) 7)) := ⟨rfl, rfl, rfl, by decide +kernel, rfl, by decide +kernel, by decide +kernel⟩
theorem ok_Book_now (Y : Top K mg)  (F : FunS K "now" "Book.now" (inClass (top 41) 7) [] f fd) : FnOk P w K mg base CX0 1 f fd ["self"] (spL 1 (fNow K)) := by
  have sc := sc_Book_now
  obtain ⟨T, c, R, C⟩ := Y
  refine fn_d F sc (fun cdv A outer s H E hc hr => (dss_one (ds_ret (de_bf C.toBkC .tick 0)))) ?_
  rintro as Pq hl ⟨a, B, rfl, h⟩
  simpa using h
end
end Fb

namespace Fb
open PySem L2
set_option autoImplicit false
variable [Tb]
section
variable {P : Program} {w : World} {K : PySem.W.Frag} {mg : Str → Option Value} {base : Heap} {f : Addr} {fd : FuncData}
theorem sc_is_skill : FnScope ["part", "one", "other", "sign"] ["part"] (defScope (top 27)) := ⟨rfl, rfl, rfl, by decide +kernel, rfl, by decide +kernel, by decide +kernel⟩
theorem ok_is_skill (Y : Top K mg)  (F : FunS K "is_skill" "is_skill" (top 27) [] f fd) : FnOk P w K mg base CX0 1 f fd ["part"] (spL 1 (fPure 1 pSkill)) := by
  have sc := sc_is_skill
  obtain ⟨T, c, R, C⟩ := Y
  refine fn_pure F sc (fun cdv A outer s H E hc hr => (dss_cons (ds_if (PW.pt (dw_or (dt_not (dt_val (de_isi kit_str T.isinstance T.str (by decide +kernel) (de_var 0)))) (dw_or1 (dt_not (dt_val (de_blt (cr_all rfl) (cd_all _) T.all (by decide +kernel) (da_cons (de_froz (do_lc (own := [("sign", 3)]) sc.nd (di_any (de_var 0)) (by kernel_rfl) (fun _ _ _ _ _ => (dg_name 3 sc.nd)) (fun _ _ _ _ _ => dts_nil) (fun _ _ _ _ _ => (de_cmpR (op_inAll hr.u65) (od_in _ _) (de_var 3) (de_gS c.KINDS) rfl)))) da_nil))))))) (dss_one (ds_ret de_bl)) dss_nil)
      (dss_one (ds_ret (de_blt (cr_all rfl) (cd_all _) T.all (by decide +kernel) (da_cons (de_froz (do_lc (own := [("one", 1), ("other", 2)]) sc.nd (di_zip T.zip (de_var 0) (de_sl (de_var 0) (dpo_some de_int) dpo_none)) (by kernel_rfl) (fun _ _ _ _ _ => (dg_tup (gn_cons 1 sc.nd (gn_cons 2 sc.nd .nil)) (pg_tup rfl (GNs.pgs (gn_cons 1 sc.nd (gn_cons 2 sc.nd .nil)))))) (fun _ _ _ _ _ => dts_nil) (fun _ _ _ _ _ => (de_cmpR (op_ltAll) (od_cm _ _) (de_var 1) (de_var 2) (nomark _))))) da_nil)))))) ?_
  rintro ds k hl ⟨z, rfl, hz, h⟩
  have hc : (chars z).length ≤ sizeLine := by unfold chars; rw [List.length_map, Array.length_toList]; exact hz
  have hzl : (zipD (chars z) (chars (cutS z (some 1) none))).length ≤ sizeLine := by rw [zipD_len]; exact Nat.le_trans (Nat.min_le_left _ _) hc
  simp
  refine dLc_go (fun _ => true) (fun d => .bool (subStr (sOf d) kinds)) hc (fun d hd R q => ?_) fun a => ?_
  · obtain ⟨ch, _, e⟩ := List.mem_map.mp hd
    subst e
    simp
    exact q
  · simp
    rw [filter_all, asBools_f]
    refine ⟨_, rfl, ?_⟩
    rw [← chars]
    by_cases q1 : ∀ x ∈ chars z, subStr (sOf x) kinds = true
    · have e1 : isSkillS z = (zipD (chars z) (chars (cutS z (some 1) none))).all pairLt := by
        unfold isSkillS
        rw [List.all_eq_true.mpr q1, Bool.true_and]
      refine .inr ⟨fun hm => ?_, hz, ?_⟩
      · obtain ⟨x, hx, e⟩ := List.mem_map.mp hm
        rw [q1 x hx] at e
        cases e
      · refine dLc_go (fun _ => true) (fun d => .bool (pairLt d)) hzl (fun d hd R q => ?_) fun a => ?_
        · unfold zipD chars at hd
          obtain ⟨⟨x, y⟩, hp, e⟩ := List.mem_map.mp hd
          obtain ⟨h1, h2⟩ := List.of_mem_zip hp
          obtain ⟨c1, _, z1⟩ := List.mem_map.mp h1
          obtain ⟨c2, _, z2⟩ := List.mem_map.mp h2
          subst z1 z2 e
          simp
          exact q
        · simp
          rw [filter_all, asBools_f]
          refine ⟨_, rfl, ?_⟩
          rw [e1] at h
          rw [List.all_map]
          exact h
    · have e2 : ((chars z).all fun d => subStr (sOf d) kinds) = false := by
        cases q : ((chars z).all fun d => subStr (sOf d) kinds) with
        | false => rfl
        | true => exact absurd (List.all_eq_true.mp q) q1
      have e1 : isSkillS z = false := by
        unfold isSkillS
        rw [e2, Bool.false_and]
      rw [e1] at h
      refine .inl ⟨?_, h⟩
      obtain ⟨x, hx, hx2⟩ := List.all_eq_false.mp e2
      exact List.mem_map.mpr ⟨x, hx, by simpa using hx2⟩
end
end Fb

namespace Fb
open PySem L2
set_option autoImplicit false
variable [Tb]
section
variable {P : Program} {w : World} {K : PySem.W.Frag} {mg : Str → Option Value} {base : Heap} {f : Addr} {fd : FuncData}
theorem sc_need_folk : FnScope ["folk", "number", "part"] ["folk"] (defScope (top 28)) := ⟨rfl, rfl, rfl, by decide +kernel, rfl, by decide +kernel, by decide +kernel⟩
theorem ok_need_folk (Y : Top K mg) (D_is_skill : DefE P w K mg base CX0 1 "is_skill" ["part"] (spL 1 (fPure 1 pSkill))) (F : FunS K "need_folk" "need_folk" (top 28) [] f fd) : FnOk P w K mg base (L2.CX P w) 2 f fd ["folk"] (spX K 1 xFolk) := by
  have sc := sc_need_folk
  obtain ⟨T, c, R, C⟩ := Y
  refine fn_x F sc (fun cdv A outer s H E hc hr lt => (dss_cons (ds_if (PW.pt (dw_or (dt_not (dt_val (de_isi kit_tup T.isinstance T.tuple (by decide +kernel) (de_var 0)))) (dw_or1 (dt_cmpR (op_ltAll) (od_cm _ _) (de_blt call_len (cd_len _) T.len (by decide +kernel) (da_cons (de_var 0) da_nil)) (de_gI c.LEAST_FOLK) (nomark _))))) (dss_one ds_never) dss_nil)
      (dss_one (ds_for (passes_of rfl) (di_enum T.enumerate (de_var 0)) (dg_tup (gn_cons 1 sc.nd (gn_cons 2 sc.nd .nil)) (pg_tup rfl (GNs.pgs (gn_cons 1 sc.nd (gn_cons 2 sc.nd .nil))))) (dss_one (ds_if (PW.pt (dw_or (dt_cmpR (op_geAll) (od_cm _ _) (de_var 1) (de_gI c.MOST_FOLK) (nomark _)) (dw_or1 (dt_not (dt_val (de_froz (do_callP ⟨D_is_skill⟩ (hr.mono (by decide)) (da_cons (de_var 2) da_nil)))))))) (dss_one ds_never) dss_nil)))))) ?_
  rintro as Pq Pe hl ⟨fs, rfl, ok, h⟩
  simp
  refine ⟨by have := ok.1; omega, ?_⟩
  refine dFor_go (fun _ ρ => ∃ x y, ρ = [some (.dat (.tuple (fs.map .str))), x, y]) ⟨_, _, rfl⟩ (fun i d ρ2 hd hW => ?_) fun ρ2 hW => ?_
  · obtain ⟨x, y, e⟩ := hW
    subst e
    have hi : i < fs.length := by
      have := (List.getElem?_eq_some_iff.mp hd).1
      rw [enumD_len, List.length_map] at this
      exact this
    have e1 : (fs.map PyData.str)[i]? = some (.str fs[i]) := by rw [List.getElem?_map, List.getElem?_eq_getElem hi]; rfl
    rw [enumD_get e1] at hd
    cases hd
    simp
    have hk := ok.2.2 fs[i] (List.getElem_mem hi)
    have hi6 : ¬ ((6 : Int) ≤ i) := by have := ok.2.1; omega
    refine ⟨by omega, fs[i], rfl, Nat.le_trans hk.2.1 (by decide), ?_⟩
    rw [hk.1]
  · exact h
end
end Fb

namespace Fb
open PySem L2
set_option autoImplicit false
variable [Tb]
section
variable {P : Program} {w : World} {K : PySem.W.Frag} {mg : Str → Option Value} {base : Heap} {f : Addr} {fd : FuncData}
theorem sc_need_counts : FnScope ["life", "hops"] ["life", "hops"] (defScope (top 29)) := ⟨rfl, rfl, rfl, by decide +kernel, rfl, by decide +kernel, by decide +kernel⟩
theorem ok_need_counts (Y : Top K mg) (D_is_number : DefE P w K mg base CX0 1 "is_number" ["part", "low", "high"] (spL 3 (fPure 3 pNum))) (F : FunS K "need_counts" "need_counts" (top 29) [] f fd) : FnOk P w K mg base (L2.CX P w) 2 f fd ["life", "hops"] (spX K 2 xCounts) := by
  have sc := sc_need_counts
  obtain ⟨T, c, R, C⟩ := Y
  refine fn_x F sc (fun cdv A outer s H E hc hr lt => (dss_one (ds_if (PW.pt (dw_or (dt_not (dt_val (de_froz (do_callP ⟨D_is_number⟩ (hr.mono (by decide)) (da_cons (de_var 0) (da_cons de_int (da_cons (de_gI c.MOST_LIFE) da_nil))))))) (dw_or1 (dt_not (dt_val (de_froz (do_callP ⟨D_is_number⟩ (hr.mono (by decide)) (da_cons (de_var 1) (da_cons de_int (da_cons (de_gI c.MOST_HOPS) da_nil)))))))))) (dss_one (ds_raise R.BadCount lt)) dss_nil))) ?_
  rintro as Pq Pe hl ⟨d, e, rfl, h⟩
  simp
  refine ⟨d, 1, 99, rfl, ?_⟩
  cases q1 : isNum d 1 99 <;> simp [q1] at h ⊢ <;> try exact h
  refine ⟨e, 0, 9, rfl, ?_⟩
  cases q2 : isNum e 0 9 <;> simp [q2] at h ⊢ <;> exact h
end
end Fb

namespace Fb
open PySem L2
set_option autoImplicit false
variable [Tb]
section
variable {P : Program} {w : World} {K : PySem.W.Frag} {mg : Str → Option Value} {base : Heap} {f : Addr} {fd : FuncData}
theorem sc_Book___init__ : FnScope ["self", "folk", "life", "hops"] ["self", "folk", "life", "hops"] (defScope (inClass (top 41) 0)) := ⟨rfl, rfl, rfl, by decide +kernel, rfl, by decide +kernel, by decide +kernel⟩
theorem ok_Book___init__ (Y : Top K mg) (D_need_folk : DefE P w K mg base (L2.CX P w) 2 "need_folk" ["folk"] (spX K 1 xFolk)) (D_need_counts : DefE P w K mg base (L2.CX P w) 2 "need_counts" ["life", "hops"] (spX K 2 xCounts)) (F : FunS K "__init__" "Book.__init__" (inClass (top 41) 0) [("life", .int 30), ("hops", .int 2)] f fd) : FnOk P w K mg base (L2.CX P w) 3 f fd ["self", "folk", "life", "hops"] (spX K 4 (bookI K okBook)) := by
  have sc := sc_Book___init__
  obtain ⟨T, c, R, C⟩ := Y
  refine fn_x F sc (fun cdv A outer s H E hc hr lt => (dss_cons (ds_expX (dx_call ⟨D_need_folk⟩ (hr.mono (by decide)) (lets_pass lt) (ka_dat (de_var 1) ka_nil))) (dss_cons (ds_expX (dx_call ⟨D_need_counts⟩ (hr.mono (by decide)) (lets_pass lt) (ka_dat (de_var 2) (ka_dat (de_var 3) ka_nil))))
    (dss_bkInit C (pss_cons (ps_fld (pe_var (i := 0) rfl (.inl rfl)) (pe_var (i := 1) rfl (.inl rfl)) rfl) (pss_cons (ps_fld (pe_var (i := 0) rfl (.inl rfl)) (pe_var (i := 2) rfl (.inl rfl)) rfl) (pss_cons (ps_fld (pe_var (i := 0) rfl (.inl rfl)) (pe_var (i := 3) rfl (.inl rfl)) rfl)
      (pss_cons (ps_fld (pe_var (i := 0) rfl (.inl rfl)) pe_dnewK rfl) (pss_cons (ps_fld (pe_var (i := 0) rfl (.inl rfl)) pe_int rfl) (pss_cons (ps_fld (pe_var (i := 0) rfl (.inl rfl)) pe_int rfl) (pss_one (ps_fld (pe_var (i := 0) rfl (.inl rfl)) (pe_lst pa_nil) rfl)))))))))))) ?_
  rintro as Pq Pe hl ⟨x, fs, l, h, rfl, ok, hq⟩
  simp [xFolk, xCounts]
  have o := ok.2
  exact ⟨fs, rfl, ok.1, by rw [if_pos (by omega)]; exact ⟨fs, rfl, fun D S => hq D S⟩⟩
end
end Fb

namespace Fb
open PySem L2
set_option autoImplicit false
variable [Tb]
section
variable {P : Program} {w : World} {K : PySem.W.Frag} {mg : Str → Option Value} {base : Heap} {f : Addr} {fd : FuncData}
theorem sc_law : FnScope ["_law_script", "_law_box", "_law_people_here", "_law_often", "_law_age", "_law_more", "_law_book", "_law_twin", "_law_began", "_law_gone", "_law_count", "_law_turn", "_law_deed_here", "_law_rows", "_law_others", "_law_there", "_law_due", "_law_told_here", "_law_row", "_law_number"] ["_law_script"] (defScope (top 50)) := ⟨rfl, rfl, rfl, by decide +kernel, rfl, by decide +kernel, by decide +kernel⟩
theorem ok_law {fB : Addr} {fdB : FuncData} (Y : Top K mg) (D__law_begun : DefE P w K mg base CX0 1 "_law_begun" ["_law_script"] (spBegun K)) (D__law_people : DefE P w K mg base CX0 2 "_law_people" ["_law_box"] (spL 1 fPeople)) (D__law_take : DefE P w K mg base CX0 1 "_law_take" ["_law_box", "_law_many"] (spL 2 takeF)) (D__law_deed : DefE P w K mg base CX0 2 "_law_deed" ["_law_box", "_law_people_here", "_law_book"] (spL 3 (fDeed K))) (M_debts : MetE P w K mg base CX0 1 "Book" "debts" ["self"] (spL 1 (fDebts K))) (M_tick : MetE P w K mg base CX0 1 "Book" "tick" ["self"] (spL 1 (fTick K))) (D__law_alike : ∀ n, DefE P w K mg base CX0 n "_law_alike" ["_law_found", "_law_due"] (spL 2 (fPure 2 (pAlike n)))) (D__law_do : DefE P w K mg base CX0 7 "_law_do" ["_law_book", "_law_deed_here"] (spL 2 (fDo2 K))) (M_now : MetE P w K mg base CX0 1 "Book" "now" ["self"] (spL 1 (fNow K))) (MB : MkBook P w K mg base fB fdB) (F : FunS K "law" "law" (top 50) [] f fd) : FnOk P w K mg base CX0 30 f fd ["_law_script"] (spLaw K) := by
  have sc := sc_law
  obtain ⟨T, c, R, C⟩ := Y
  obtain ⟨fBx, fdBx, hmBx, hkBx, FBx, hbBx⟩ := D__law_begun
  refine law_fn F sc (by decide) (fun cdv A outer s H E hc hr => pss_cons (ps_set (i := 1) sc.nd rfl (by first | exact .inl rfl | exact .inr rfl) (pe_call (dvs := []) (E := E0) FBx (hr.mono (by decide)) rfl hmBx hkBx hbBx .nil pass0 (pa_cons (pe_var (i := 0) rfl (.inl rfl)) pa_nil)) rfl (by first | exact .inl rfl | exact .inr rfl)) (dss_cons (ds_par 2 3 (dm_cons (do_dat (de_froz (do_call ⟨D__law_people⟩ (hr.mono (by decide)) (ka_obj 1 ka_nil)))) (dm_cons (do_dat (de_froz (do_call ⟨D__law_take⟩ (hr.mono (by decide)) (ka_obj 1 (ka_dat de_int ka_nil))))) dm_nil)) sc.nd)
      (dss_cons (ds_parC [4, 5] (dm_cons (do_dat (de_bin op_addAll (od_add _) de_int (de_froz (do_call ⟨D__law_take⟩ (hr.mono (by decide)) (ka_obj 1 (ka_dat de_int ka_nil)))))) (dm_cons (do_dat (de_bin op_addAll (od_add _) de_int (de_froz (do_call ⟨D__law_take⟩ (hr.mono (by decide)) (ka_obj 1 (ka_dat de_int ka_nil)))))) dm_nil)) (gn_cons 4 sc.nd (gn_cons 5 sc.nd .nil)) (e := pg_tup rfl (GNs.pgs (gn_cons 4 sc.nd (gn_cons 5 sc.nd .nil)))))
      (dss_cons (ds_parC [6, 7] (dm_cons (do_book MB.made MB.fn MB.kb (hr.mono (by decide)) MB.glo (de_var 2) (de_var 4) (de_var 3)) (dm_cons (do_book MB.made MB.fn MB.kb (hr.mono (by decide)) MB.glo (de_var 2) (de_bin op_addAll (od_add _) (de_var 4) (de_var 5)) (de_var 3)) dm_nil)) (gn_cons 6 sc.nd (gn_cons 7 sc.nd .nil)) (e := pg_tup rfl (GNs.pgs (gn_cons 6 sc.nd (gn_cons 7 sc.nd .nil)))))
      (dss_cons (ds_parC [8, 9, 10] (dm_cons do_dict0 (dm_cons (do_dat (de_froz (do_lst da_nil))) (dm_cons (do_dat de_int) dm_nil))) (gn_cons 8 sc.nd (gn_cons 9 sc.nd (gn_cons 10 sc.nd .nil))) (e := pg_tup rfl (GNs.pgs (gn_cons 8 sc.nd (gn_cons 9 sc.nd (gn_cons 10 sc.nd .nil))))))
      (dss_cons (ds_for PassesOwn.never (di_rng1 T.range (da_cons (de_froz (do_call ⟨D__law_take⟩ (hr.mono (by decide)) (ka_obj 1 (ka_dat de_int ka_nil)))) da_nil)) (dg_name 11 sc.nd) (dss_cons (ds_set 12 (de_froz (do_call ⟨D__law_deed⟩ (hr.mono (by decide)) (ka_obj 1 (ka_dat (de_var 2) (ka_obj 7 ka_nil))))) sc.nd)
        (dss_cons (ds_if (dt_cmpR (op_eqDp hr.u64) (od_eq _) (de_ix (de_var 12) de_int) de_str (nomark _)) (dss_cons (ds_setLc 16 (own := [("_law_number", 19)]) sc.nd (di_any (de_froz (do_sortedD 8 T.sorted))) (by kernel_rfl) (fun _ _ _ _ _ => (dg_name 19 sc.nd)) (fun _ _ _ _ _ => (dts_one (dt_cmpR (op_eqDp hr.u64) (od_eq _) (de_bin op_addAll (od_add _) (de_sub 8 hr.u1 (de_var 19)) (de_var 4)) (de_bin op_addAll (od_add _) (de_froz (do_met0B 6 ⟨C.book, M_now⟩ (hr.mono (by decide)))) de_int) (nomark _)))) (fun _ _ _ _ _ => (de_var 19)))
          (dss_cons (ds_if (dt_not (dt_val (de_froz (do_callP ⟨D__law_alike 8⟩ (hr.mono (by decide)) (da_cons (de_froz (do_met0B 6 ⟨C.book, M_tick⟩ (hr.mono (by decide)))) (da_cons (de_var 16) da_nil)))))) (dss_one (ds_ret de_bl)) dss_nil)
          (dss_cons (ds_exp (do_met0B 7 ⟨C.book, M_tick⟩ (hr.mono (by decide))))
          (dss_one (ds_set 9 (de_bin op_addAll (od_add _) (de_var 9) (de_var 16)) sc.nd))))) (dss_one (ds_if (dt_cmpR (op_inAll hr.u65) (od_in _ _) (de_ix (de_var 12) de_int) (de_tup (da_cons de_str (da_cons de_str da_nil))) rfl) (dss_cons (ds_set 17 (de_froz (do_call ⟨D__law_do⟩ (hr.mono (by decide)) (ka_obj 7 (ka_dat (de_var 12) ka_nil)))) sc.nd)
            (dss_cons (ds_if (PW.pt (dw_or (dt_cmpR (op_eqDp hr.u64) (od_eq _) (de_ix (de_var 12) de_int) de_str (nomark _)) (dw_or1 (dt_cmpR (op_niAll hr.u65) (od_in _ _) (de_ix (de_var 12) de_int) (de_var 9) rfl)))) (dss_one (ds_if (dt_not (dt_val (de_froz (do_callP ⟨D__law_alike 8⟩ (hr.mono (by decide)) (da_cons (de_froz (do_call ⟨D__law_do⟩ (hr.mono (by decide)) (ka_obj 6 (ka_dat (de_var 12) ka_nil)))) (da_cons (de_var 17) da_nil)))))) (dss_one (ds_ret de_bl)) dss_nil)) dss_nil)
            (dss_one (ds_if (PW.pt (dw_and (dt_cmpR (op_eqDp hr.u64) (od_eq _) (de_ix (de_var 12) de_int) de_str (nomark _)) (dw_and1 (dt_val (de_isi kit_int T.isinstance T.int (by decide +kernel) (de_var 17)))))) (dss_one (ds_put 8 hr.u1 (de_var 17) (de_froz (do_met0B 7 ⟨C.book, M_now⟩ (hr.mono (by decide)))))) dss_nil)))) dss_nil)))
        (dss_cons (ds_par 13 14 (dm_cons (do_dat (de_froz (do_met0B 6 ⟨C.book, M_debts⟩ (hr.mono (by decide))))) (dm_cons (do_dat (de_froz (do_met0B 7 ⟨C.book, M_debts⟩ (hr.mono (by decide))))) dm_nil)) sc.nd)
        (dss_cons (ds_set 15 (de_froz (do_lc (own := [("_law_row", 18)]) sc.nd (di_any (de_var 13)) (by kernel_rfl) (fun _ _ _ _ _ => (dg_name 18 sc.nd)) (fun _ _ _ _ _ => dts_nil) (fun _ _ _ _ _ => (de_ix (de_var 18) de_int)))) sc.nd)
        (dss_cons (ds_if (dt_cmpR (op_neDp hr.u64) (od_ne _) (de_var 15) (de_froz (do_lc (own := [("_law_number", 19)]) sc.nd (di_any (de_froz (do_sortedD 8 T.sorted))) (by kernel_rfl) (fun _ _ _ _ _ => (dg_name 19 sc.nd)) (fun _ _ _ _ _ => (dts_one (dt_cmpR (op_niAll hr.u65) (od_in _ _) (de_var 19) (de_var 9) rfl))) (fun _ _ _ _ _ => (de_var 19)))) (nomark _)) (dss_one (ds_ret de_bl)) dss_nil)
        (dss_cons (ds_if (dt_cmpR (op_neDp hr.u64) (od_ne _) (de_froz (do_lc (own := [("_law_row", 18)]) sc.nd (di_any (de_var 13)) (by kernel_rfl) (fun _ _ _ _ _ => (dg_name 18 sc.nd)) (fun _ _ _ _ _ => (dts_one (PW.pt (dw_or (dt_cmpR (op_neDp hr.u64) (od_ne _) (de_ix (de_var 18) de_int) (de_bin op_addAll (od_add _) (de_sub 8 hr.u1 (de_ix (de_var 18) de_int)) (de_var 4)) (nomark _)) (dw_or1 (dt_cmpR (op_leAll) (od_cm _ _) (de_ix (de_var 18) de_int) (de_froz (do_met0B 6 ⟨C.book, M_now⟩ (hr.mono (by decide)))) (nomark _))))))) (fun _ _ _ _ _ => (de_var 18)))) (de_froz (do_lst da_nil)) (nomark _)) (dss_one (ds_ret de_bl)) dss_nil)
        (dss_one (ds_if (dt_cmpR (op_neDp hr.u64) (od_ne _) (de_var 13) (de_froz (do_lc (own := [("_law_row", 18)]) sc.nd (di_any (de_var 14)) (by kernel_rfl) (fun _ _ _ _ _ => (dg_name 18 sc.nd)) (fun _ _ _ _ _ => (dts_one (dt_cmpR (op_inAll hr.u65) (od_in _ _) (de_ix (de_var 18) de_int) (de_var 15) rfl))) (fun _ _ _ _ _ => (de_bin op_addAll (od_add _) (de_sl (de_var 18) dpo_none (dpo_some de_int)) (de_tup (da_cons (de_bin op_sub (od_sub) (de_ix (de_var 18) de_int) (de_var 5)) (da_cons (de_ix (de_var 18) de_int) da_nil))))))) (nomark _)) (dss_one (ds_ret de_bl)) dss_nil)))))))))
      (dss_cons (ds_while PassesOwn.never (dt_cmpR (op_neDp hr.u64) (od_ne _) (de_froz (do_met0B 6 ⟨C.book, M_debts⟩ (hr.mono (by decide)))) (de_froz (do_lst da_nil)) (nomark _)) (dss_cons (ds_if (dt_cmpR (op_eqDp hr.u64) (od_eq _) (de_var 10) (de_var 4) (nomark _)) (dss_one (ds_ret de_bl)) dss_nil)
        (dss_cons (ds_exp (do_met0B 6 ⟨C.book, M_tick⟩ (hr.mono (by decide))))
        (dss_one (ds_set 10 (de_bin op_addAll (od_add _) (de_var 10) de_int) sc.nd)))))
      (dss_one (ds_ret (de_and (de_cmpR (op_eqDp hr.u64) (od_eq _) (de_froz (do_met0B 6 ⟨C.book, M_tick⟩ (hr.mono (by decide)))) (de_froz (do_lst da_nil)) (nomark _)) (de_one (de_cmpR (op_eqDp hr.u64) (od_eq _) (de_froz (do_met0B 6 ⟨C.book, M_debts⟩ (hr.mono (by decide)))) (de_froz (do_lst da_nil)) (nomark _))))))))))))) ?_
  intro p
  refine dSeq_cut (fun ρ => ∃ (fs : List Str) (h : Int), okFolk fs ∧ 0 ≤ h ∧ h < 3 ∧ ρ = none :: some (box p) :: some (.dat (.tuple (fs.map .str))) :: some (.dat (.int h)) :: List.replicate 16 none) (fun U hU => ?_) ?_
  · simp [fPeople, takeF]
    exact fun fs ok h h0 h1 => hU _ ⟨fs, h, ok, h0, h1, rfl⟩
  rintro _ ⟨fs, h, ok, h0, h1, rfl⟩
  simp only [List.replicate]
  refine dSeq_cut (fun ρ => ∃ L M : Int, 1 ≤ L ∧ L < 7 ∧ 1 ≤ M ∧ M < 41 ∧ ρ = none :: some (box p) :: some (.dat (.tuple (fs.map .str))) :: some (.dat (.int h)) :: some (.dat (.int L)) :: some (.dat (.int M)) :: List.replicate 14 none) (fun U hU => ?_) ?_
  · simp [fPeople, takeF]
    exact fun L L0 L1 M M0 M1 => hU _ ⟨1 + L, 1 + M, by omega, by omega, by omega, by omega, rfl⟩
  rintro _ ⟨L, M, L0, L1, M0, M1, rfl⟩
  simp only [List.replicate]
  refine dSeq_cut (fun ρ => ∃ a B b W, I17 fs h L M 0 B W 0 (fun _ => 0) [] ∧ B.debts = [] ∧ ρ = none :: some (box p) :: some (.dat (.tuple (fs.map .str))) :: some (.dat (.int h)) :: some (.dat (.int L)) :: some (.dat (.int M)) :: some (bk K a B) :: some (bk K b W) :: List.replicate 12 none) (fun U hU => ?_) ?_
  · simp
    exact ⟨fs, rfl, ⟨ok, by omega, by omega, by omega, by omega⟩, fun a D S => ⟨fs, rfl, ⟨ok, by omega, by omega, by omega, by omega⟩, fun b D2 S2 => hU _ ⟨a, _, b, _, I17.start (by omega) (by omega), rfl, rfl⟩⟩⟩
  rintro _ ⟨a, B, b, W, I, nd, rfl⟩
  simp only [List.replicate]
  refine dSeq_cut (fun ρ => ∃ d, ρ = st17 K p fs h L M a B b W d [] [] 0 (List.replicate 9 none)) (fun U hU => ?_) ?_
  · simp
    exact fun d => hU _ ⟨d, rfl⟩
  rintro _ ⟨d, rfl⟩
  simp only [List.replicate]
  refine dSeq_cut (fun ρ => ∃ n B W c born gs x, I17 fs h L M c B W n born gs ∧ c ≤ 60 ∧ x.length = 9 ∧ ρ = st17 K p fs h L M a B b W d (bg n born) gs 0 x) (fun U hU => ?_) ?_
  · simp [st17, takeF]
    intro r r0 r1
    refine ⟨by omega, by omega, dFor_go (fun i ρ => ∃ n B W born gs x, I17 fs h L M i B W n born gs ∧ x.length = 9 ∧ ρ = st17 K p fs h L M a B b W d (bg n born) gs 0 x) ⟨0, B, W, _, [], _, I, rfl, rfl⟩ (fun i e ρ2 he hW => ?_) fun ρ2 hW => by
      obtain ⟨n, B, W, born, gs, x, I, hx, e⟩ := hW
      rw [rngD_len] at I
      exact hU _ ⟨n, B, W, _, born, gs, x, I, by omega, hx, e⟩⟩
    obtain ⟨rfl, hi⟩ := rngD_get he
    obtain ⟨n, B, W, born, gs, x, I, hx, rfl⟩ := hW
    have i60 : i < 60 := by omega
    have nc := I.nc
    have GB := I.gb ok (by omega)
    have GW := I.gw ok (by omega)
    obtain ⟨x1, x2, x3, x4, x5, x6, x7, x8, x9, rfl⟩ := len9 hx
    simp only [r_bN, st17]
    refine dSeq_cut (fun ρ => ∃ dd, isDeed fs.length dd ∧ ρ = st17 K p fs h L M a B b W d (bg n born) gs 0 [some (.dat (.int i)), some (.dat dd), x3, x4, x5, x6, x7, x8, x9]) (fun U hU => ?_) ?_
    · simp [fDeed]
      exact ⟨_, _, fs, rfl, rfl, rfl, ok, GW, fun dd hd => hU _ ⟨dd, hd, rfl⟩⟩
    rintro _ ⟨dd, hd, rfl⟩
    refine dSeq_cut (fun ρ => ∃ n B W born gs x, I17 fs h L M (i + 1) B W n born gs ∧ x.length = 9 ∧ ρ = st17 K p fs h L M a B b W d (bg n born) gs 0 x) (fun U hU => ?_) ?_
    · rcases hd with ⟨i', j', z, rfl, i0, i1, j0, j1, hk, hko⟩ | ⟨m, z, rfl, hk, hko⟩ | ⟨m, i', rfl, i0, i1⟩ | rfl | ⟨i', z, rfl, i0, i1, hk, hko⟩ | ⟨z, rfl, hz⟩
      · refine dIf_no (fun P hP => by simpa [st17] using hP) (dIf_yes (fun P hP => by simpa [st17] using hP) ?_)
        refine dSeq_cut (fun ρ => ∃ r W', DidDone W i' j' z r W' ∧ ρ = st17 K p fs h L M a B b W' d (bg n born) gs 0 [some (.dat (.int i)), some (.dat (.tuple [.str "done", .int i', .int j', .str z])), x3, x4, x5, x6, some (.dat r), x8, x9]) (fun U hU => ?_) ?_
        · simp [st17]
          exact do2_done GW i0 (by rw [I.wf]; exact i1) j0 (by rw [I.wf]; exact j1) hk hko fun r W' hW => ⟨r, rfl, hU _ ⟨r, W', hW, rfl⟩⟩
        rintro _ ⟨r, W', hW, rfl⟩
        simp [-isInt, st17]
        refine do2_done GB i0 (by rw [I.bf]; exact i1) j0 (by rw [I.bf]; exact j1) hk hko fun r2 B' hB => ?_
        obtain ⟨rfl, hz, ha⟩ := I.done17 (isKind_abc hk) hW hB
        rcases ha with ⟨ni, I2⟩ | ⟨rfl, tk, I2⟩
        · simp [-isInt, pAlike, ni]
          exact ⟨hz, hU _ ⟨_, _, _, _, _, _, I2, rfl, rfl⟩⟩
        · simp [pAlike, fNow, tk, bg_put]
          exact ⟨hz, by rw [bg_len]; exact Nat.lt_of_lt_of_le (show n < 64 by omega) (by decide), hU _ ⟨_, _, _, _, _, _, I2, rfl, rfl⟩⟩
      · simp [st17]
        exact hU _ ⟨n, B, W, born, gs, _, I.mono (by omega), rfl, rfl⟩
      · refine dIf_no (fun P hP => by simpa [st17] using hP) (dIf_yes (fun P hP => by simpa [st17] using hP) ?_)
        refine dSeq_cut (fun ρ => ∃ r W', DidPass W m i' r W' ∧ ρ = st17 K p fs h L M a B b W' d (bg n born) gs 0 [some (.dat (.int i)), some (.dat (.tuple [.str "pass", .int m, .int i'])), x3, x4, x5, x6, some (.dat r), x8, x9]) (fun U hU => ?_) ?_
        · simp [st17]
          exact do2_pass GW i0 (by rw [I.wf]; exact i1) fun r W' hW => ⟨r, rfl, hU _ ⟨r, W', hW, rfl⟩⟩
        rintro _ ⟨r, W', hW, rfl⟩
        obtain ⟨hz, ni, hg, hg2⟩ := I.pass17 hW
        simp [st17]
        by_cases q : m ∈ gs
        · refine .inl ⟨any_int.mpr q, hU _ ⟨_, _, _, _, _, _, hg q, rfl, rfl⟩⟩
        · refine .inr ⟨by simpa [any_intF] using q, do2_pass GB i0 (by rw [I.bf]; exact i1) fun r2 B' hB => ?_⟩
          obtain ⟨rfl, I2⟩ := hg2 q _ _ hB
          simp [-isInt, pAlike, ni]
          exact ⟨hz, hU _ ⟨_, _, _, _, _, _, I2, rfl, rfl⟩⟩
      · refine dIf_yes (fun P hP => by simpa [st17] using hP) ?_
        refine dSeq_cut (fun ρ => ρ = st17 K p fs h L M a B b W d (bg n born) gs 0 [some (.dat (.int i)), some (.dat (.tuple [.str "tick"])), x3, x4, x5, some (.dat (.list ((goneAt B).map .int))), x7, x8, none]) (fun U hU => ?_) ?_
        · simp [st17]
          refine ⟨_, bg_keys, by rw [List.length_map, List.length_range]; omega, dLc_go (pDue born (B.tick + 1 - L)) id (by rw [List.length_map, sortI_range, List.length_map, List.length_range]; exact Nat.le_trans (show n ≤ 64 by omega) (by decide)) (fun e he R hR => ?_) fun l => ?_⟩
          · rw [sortI_range, List.map_map] at he
            obtain ⟨k, hk, rfl⟩ := List.mem_map.mp he
            have hk := List.mem_range.mp hk
            simp [bg_look hk, fNow, pDue] at hR ⊢
            by_cases q : born k + L = B.tick + 1
            · rw [if_pos q]
              rw [if_pos (by omega)] at hR
              exact hR
            · rw [if_neg q]
              rw [if_neg (by omega)] at hR
              exact hR
          · rw [I.due]
            simp
            exact hU _ rfl
        rintro _ rfl
        have gl := (I.ticked).gl
        have gl2 : (i + 1) * (i + 1) ≤ 100 * 100 := Nat.mul_le_mul (by omega) (by omega)
        rw [List.length_append] at gl
        simp [st17, fTick, pAlike]
        refine ⟨GB, I.bup, szD_ints (by omega), GW, I.wup, Nat.le_trans (show _ ≤ 10000 by omega) (by decide), ?_⟩
        rw [← List.map_append]
        exact hU _ ⟨_, _, _, _, _, _, I.ticked, rfl, rfl⟩
      · simp [st17]
        exact hU _ ⟨n, B, W, born, gs, _, I.mono (by omega), rfl, rfl⟩
      · simp [st17]
        exact hU _ ⟨n, B, W, born, gs, _, I.mono (by omega), rfl, rfl⟩
    rintro _ ⟨n, B, W, born, gs, x, I, hx, rfl⟩
    have nc := I.nc
    have GB := I.gb ok (by omega)
    have GW := I.gw ok (by omega)
    obtain ⟨x1, x2, x3, x4, x5, x6, x7, x8, x9, rfl⟩ := len9 hx
    refine dSeq_cut (fun ρ => ρ = st17 K p fs h L M a B b W d (bg n born) gs 0 [x1, x2, some (.dat (.list (rowsOf B))), some (.dat (.list (rowsOf W))), x5, x6, x7, x8, x9]) (fun U hU => ?_) ?_
    · simp [st17, fDebts]
      exact ⟨GB, GW, hU _ rfl⟩
    rintro _ rfl
    refine dSeq_cut (fun ρ => ρ = st17 K p fs h L M a B b W d (bg n born) gs 0 [x1, x2, some (.dat (.list (rowsOf B))), some (.dat (.list (rowsOf W))), some (.dat (.list ((B.debts.map (·.1)).map .int))), x6, x7, none, x9]) (fun U hU => ?_) ?_
    · simp [st17]
      refine dLc_go (fun _ => true) (fun d => .int (rNum d)) (by unfold rowsOf; rw [List.length_map]; exact Nat.le_of_lt (good_dl GB)) (fun e he R hR => ?_) fun l => ?_
      · obtain ⟨q, hq, rfl⟩ := List.mem_map.mp he
        simp [rowOf, rNum] at hR ⊢
        exact hR
      · rw [filter_all]
        simp
        rw [rows_num]
        exact hU _ rfl
    rintro _ rfl
    refine dSeq_cut (fun ρ => ∃ x, ρ = st17 K p fs h L M a B b W d (bg n born) gs 0 [x1, x2, some (.dat (.list (rowsOf B))), some (.dat (.list (rowsOf W))), some (.dat (.list ((B.debts.map (·.1)).map .int))), x6, x7, none, x]) (fun U hU => ?_) ?_
    · refine dIf_noE (st17 K p fs h L M a B b W d (bg n born) gs 0 [x1, x2, some (.dat (.list (rowsOf B))), some (.dat (.list (rowsOf W))), some (.dat (.list ((B.debts.map (·.1)).map .int))), x6, x7, none, none]) (fun P hP => ?_) (hU _ ⟨_, rfl⟩)
      simp [-List.map_map, st17]
      refine ⟨_, bg_keys, by rw [List.length_map, List.length_range]; omega, dLc_go (pNot gs) id (by rw [List.length_map, sortI_range, List.length_map, List.length_range]; exact Nat.le_trans (show n ≤ 64 by omega) (by decide)) (fun e he R hR => ?_) fun l => ?_⟩
      · rw [sortI_range, List.map_map] at he
        obtain ⟨k, hk, rfl⟩ := List.mem_map.mp he
        simp [pNot, any_intF, depth_ints] at hR ⊢
        by_cases q : (k : Int) ∈ gs
        · rw [if_pos q] at hR
          exact .inl ⟨q, hR⟩
        · rw [if_neg q] at hR
          exact .inr ⟨q, hR⟩
      · rw [I.keep]
        simp [-List.map_map, depth_ints, eqv_ints]
        exact hP
    rintro _ ⟨x, rfl⟩
    refine dSeq_cut (fun ρ => ∃ x y, ρ = st17 K p fs h L M a B b W d (bg n born) gs 0 [x1, x2, some (.dat (.list (rowsOf B))), some (.dat (.list (rowsOf W))), some (.dat (.list ((B.debts.map (·.1)).map .int))), x6, x7, y, x]) (fun U hU => ?_) ?_
    · refine dIf_noE (st17 K p fs h L M a B b W d (bg n born) gs 0 [x1, x2, some (.dat (.list (rowsOf B))), some (.dat (.list (rowsOf W))), some (.dat (.list ((B.debts.map (·.1)).map .int))), x6, x7, none, x]) (fun P hP => ?_) (hU _ ⟨_, _, rfl⟩)
      simp [-List.map_map, st17]
      refine dLc_go (fun _ => false) id (by unfold rowsOf; rw [List.length_map]; exact Nat.le_of_lt (good_dl GB)) (fun e he R hR => ?_) fun l => ?_
      · obtain ⟨q, hq, rfl⟩ := List.mem_map.mp he
        obtain ⟨k, h1, h2, h3, h4⟩ := I.bborn hq
        simp [-List.map_map, rowOf, h2, h3, I.bl, bg_look h1, fNow] at hR ⊢
        exact .inl ⟨h4, hR⟩
      · rw [List.filter_eq_nil_iff.mpr fun _ _ => Bool.false_ne_true]
        simp [-List.map_map]
        exact hP
    rintro _ ⟨x, y, rfl⟩
    refine dIf_noE (st17 K p fs h L M a B b W d (bg n born) gs 0 [x1, x2, some (.dat (.list (rowsOf B))), some (.dat (.list (rowsOf W))), some (.dat (.list ((B.debts.map (·.1)).map .int))), x6, x7, none, x]) (fun P hP => ?_) ?_
    · have ir := I.rows
      generalize B.debts.map (·.1) = ks at hP ir ⊢
      simp [-List.map_map, st17]
      refine dLc_go (pIn ks) (fLess M) (by unfold rowsOf; rw [List.length_map]; exact Nat.le_of_lt (good_dl GW)) (fun e he R hR => ?_) fun l => ?_
      · obtain ⟨q, hq, rfl⟩ := List.mem_map.mp he
        simp [rowOf, any_intF, pIn, fLess, depth_ints] at hR ⊢
        by_cases z : q.1 ∈ ks
        · rw [if_pos z] at hR
          exact .inr ⟨z, hR⟩
        · rw [if_neg z] at hR
          exact .inl ⟨z, hR⟩
      · rw [ir]
        simp [rows_eqv GB.dl]
        exact ⟨by have := rows_depth (B := B); omega, hP⟩
    · exact ⟨_, _, _, _, _, _, I, rfl, rfl⟩
  rintro _ ⟨n, B, W, c, born, gs, x, I, hc, hx, rfl⟩
  simp [st17]
  refine ⟨fun m ρ => ∃ (B' W' : Bk) (gs' : List Int) (q c' : Nat), I17 fs h L M c' B' W' n born gs' ∧ (∀ k < n, born k + q ≤ B'.tick) ∧ c' ≤ 60 + q ∧ (q : Int) ≤ L ∧ m = (L - q).toNat ∧ ρ = st17 K p fs h L M a B' b W d (bg n born) gs q x, ⟨_, B, W, gs, 0, c, I, (fun k hk => by have := I.bt k hk; omega), by omega, by omega, rfl, rfl⟩, ?_⟩
  rintro m _ ⟨B', W', gs', q, c', I, hb, hc', hq, em, rfl⟩
  have G := I.gb ok (by omega)
  by_cases nd : B'.debts = []
  · have G2 := (I.ticked).gb ok (by omega)
    simp [st17, fDebts, fTick, rows_no nd, gone_no nd, rows_no (tick_no nd)]
    exact ⟨G, I.bup, G2⟩
  · have nl : (q : Int) ≠ L := by
      obtain ⟨y, hy⟩ := List.exists_mem_of_ne_nil _ nd
      obtain ⟨k, h1, _, _, h2⟩ := I.bborn hy
      have := hb k h1
      omega
    simp [st17, fDebts, fTick, rows_ne nd, nl]
    exact ⟨G, I.bup, L.toNat - (q + 1), by omega, _, _, _, q + 1, _, I.ticked, fun k hk => by have := hb k hk; show born k + _ ≤ B'.tick + 1; omega, by omega, by omega, rfl, rfl, by omega⟩
end
end Fb
namespace Fb
open PySem PySem.Spec PyProof.Rows L2
set_option autoImplicit false
def d__law_begun : He.DefD := ⟨("_law_begun", none), "_law_begun", "_law_begun", defArgs (top 43), defBody (top 43), defScope (top 43), [], []⟩
def d__law_take : He.DefD := ⟨("_law_take", none), "_law_take", "_law_take", defArgs (top 44), defBody (top 44), defScope (top 44), [], []⟩
def d__law_people : He.DefD := ⟨("_law_people", none), "_law_people", "_law_people", defArgs (top 47), defBody (top 47), defScope (top 47), [], []⟩
def d_Book_debts : He.DefD := ⟨("Book", some "debts"), "debts", "Book.debts", defArgs (inClass (top 41) 8), defBody (inClass (top 41) 8), defScope (inClass (top 41) 8), [], []⟩
def d__law_deed : He.DefD := ⟨("_law_deed", none), "_law_deed", "_law_deed", defArgs (top 48), defBody (top 48), defScope (top 48), [], []⟩
def d_Book_tick : He.DefD := ⟨("Book", some "tick"), "tick", "Book.tick", defArgs (inClass (top 41) 6), defBody (inClass (top 41) 6), defScope (inClass (top 41) 6), [], []⟩
def d__law_alike : He.DefD := ⟨("_law_alike", none), "_law_alike", "_law_alike", defArgs (top 45), defBody (top 45), defScope (top 45), [], []⟩
def d__law_told : He.DefD := ⟨("_law_told", none), "_law_told", "_law_told", defArgs (top 46), defBody (top 46), defScope (top 46), [], []⟩
def d_is_number : He.DefD := ⟨("is_number", none), "is_number", "is_number", defArgs (top 26), defBody (top 26), defScope (top 26), [], []⟩
def d_need_one : He.DefD := ⟨("need_one", none), "need_one", "need_one", defArgs (top 31), defBody (top 31), defScope (top 31), [], []⟩
def d_Book_need_two : He.DefD := ⟨("Book", some "need_two"), "need_two", "Book.need_two", defArgs (inClass (top 41) 2), defBody (inClass (top 41) 2), defScope (inClass (top 41) 2), [], []⟩
def d_need_kind : He.DefD := ⟨("need_kind", none), "need_kind", "need_kind", defArgs (top 30), defBody (top 30), defScope (top 30), [], []⟩
def d_Debt___init__ : He.DefD := ⟨("Debt", some "__init__"), "__init__", "Debt.__init__", defArgs (inClass (top 40) 0), defBody (inClass (top 40) 0), defScope (inClass (top 40) 0), [], []⟩
def d_Book_done : He.DefD := ⟨("Book", some "done"), "done", "Book.done", defArgs (inClass (top 41) 3), defBody (inClass (top 41) 3), defScope (inClass (top 41) 3), [], []⟩
def d_Book_debt : He.DefD := ⟨("Book", some "debt"), "debt", "Book.debt", defArgs (inClass (top 41) 1), defBody (inClass (top 41) 1), defScope (inClass (top 41) 1), [], []⟩
def d_Book_hand_on : He.DefD := ⟨("Book", some "hand_on"), "hand_on", "Book.hand_on", defArgs (inClass (top 41) 5), defBody (inClass (top 41) 5), defScope (inClass (top 41) 5), [], []⟩
def d__law_do : He.DefD := ⟨("_law_do", none), "_law_do", "_law_do", defArgs (top 49), defBody (top 49), defScope (top 49), [], []⟩
def d_Book_now : He.DefD := ⟨("Book", some "now"), "now", "Book.now", defArgs (inClass (top 41) 7), defBody (inClass (top 41) 7), defScope (inClass (top 41) 7), [], []⟩
def d_is_skill : He.DefD := ⟨("is_skill", none), "is_skill", "is_skill", defArgs (top 27), defBody (top 27), defScope (top 27), [], []⟩
def d_need_folk : He.DefD := ⟨("need_folk", none), "need_folk", "need_folk", defArgs (top 28), defBody (top 28), defScope (top 28), [], []⟩
def d_need_counts : He.DefD := ⟨("need_counts", none), "need_counts", "need_counts", defArgs (top 29), defBody (top 29), defScope (top 29), [], []⟩
def d_Book___init__ : He.DefD := ⟨("Book", some "__init__"), "__init__", "Book.__init__", defArgs (inClass (top 41) 0), defBody (inClass (top 41) 0), defScope (inClass (top 41) 0), [], [("life", .int 30), ("hops", .int 2)]⟩
def d_law : He.DefD := ⟨("law", none), "law", "law", defArgs (top 50), defBody (top 50), defScope (top 50), [], []⟩
def fn : List He.DefD := [d__law_begun, d__law_take, d__law_people, d_Book_debts, d__law_deed, d_Book_tick, d__law_alike, d__law_told, d_is_number, d_need_one, d_Book_need_two, d_need_kind, d_Debt___init__, d_Book_done, d_Book_debt, d_Book_hand_on, d__law_do, d_Book_now, d_is_skill, d_need_folk, d_need_counts, d_Book___init__, d_law]
def loose_0 : List PySem.Str := ["_wall", "FavourError", "BadFolk", "BadLog", "BadText", "BadCount", "BadKind", "NoOne", "NoDebt", "Cannot", "Worn", "NoChain", "from_goals", "shortest", "differences", "Least", "closed_of", "KINDS", "ANY", "LEAST_FOLK", "MOST_FOLK", "MOST_LIFE", "MOST_HOPS", "is_number", "is_skill", "need_folk", "need_counts", "need_kind", "need_one", "able"]
def loose_1 : List PySem.Str := ["DONE", "PAY", "PASS", "TICK", "ASK", "CLEAR", "Debt", "Book", "_law_begun", "_law_take", "_law_alike", "_law_told", "_law_people", "_law_deed", "_law_do"]
def loose : List PySem.Str := loose_0 ++ loose_1
def tbN : List (Str × Option Str × Str) := [("Book", some "debts", "Book.debts.<locals>.<lambda>"), ("_law_do", none, "_law_do.<locals>.<lambda>")]
def tf : List He.Defn := tbN.map fun q => (q.1, q.2.1)
def faX : List He.Fa := [.glo "_law_begun", .glo "_law_take", .glo "_law_people", .meth "Book" "debts", .glo "_law_deed", .meth "Book" "tick", .glo "_law_alike", .glo "_law_told", .glo "is_number", .glo "need_one", .meth "Book" "need_two", .glo "need_kind", .meth "Book" "done", .meth "Book" "debt", .meth "Book" "hand_on", .glo "_law_do", .meth "Book" "now", .glo "is_skill", .glo "need_folk", .glo "need_counts", .glo "law"]
def fa : List He.Fa := faTop ++ faX
def ex (K : PySem.W.Frag) : Bool := exTop K && tbApart K tbN
abbrev R : PySem.W.OpenRow := PySem.W.OpenLaw.row PySem.Challenge.rw_favourbook_k17_whole_lives_and_ticks
abbrev hk : PySem.W.Hook := He.hookX 5 fa fn [] tf ex
def ob (s : PySem.W.SharedT) : He.AlX := He.obsX 5 fa fn [] tf ex (HandSHeadRun.getT s)
theorem ob_eq (s : PySem.W.SharedT) : ob s = hk.obs s.abs := He.obsX_eq (HandSHeadRun.getT_eq s)
theorem run (w : World) : HandSHeadRun.RunEq R (PySem.W.view R.prog [50]) hk ob 20000 loose w := by
  intro os
  kernel_rfl
section
variable {P : Program} {w : World} {K : PySem.W.Frag} {mg : Str → Option Value} {h : Heap}
theorem facts [tI : Tb] (X : K.In h) (G : h.Ns mainGlobals mg) (c : He.SaysD fa fn K) (e : ex K = true) (hT : tI.T = tbOf K tbN) :
    ∃ fd : FuncData, FunS K "law" "law" (top 50) [] (He.fAd K ("law", none)) fd ∧ ∀ base : Heap, (∀ p ∈ tf.map (He.cT K), LamX.TabB base mg p.1 p.2) → FnOk P w K mg base CX0 30 (He.fAd K ("law", none)) fd ["_law_script"] (spLaw K) := by
  have ct : ∀ f ∈ faTop, f.ok K = true := fun f hf => c.facts (List.mem_append_left _ hf)
  have cx : ∀ {i : Nat} {f : He.Fa}, faX[i]? = some f → f.ok K = true := fun {i f} e => c.facts (List.mem_append_right _ (List.mem_of_getElem? e))
  obtain ⟨e1, e2⟩ := He.ba e
  have Y : Top K mg := top_of X G ct e1
  have RX : RfX K mg := rfx_of X G ct e1
  have ap : ((tbOf K tbN).map (·.1)).Nodup := by
    have z := of_decide_eq_true e2
    unfold tbOf
    rw [List.map_map]
    exact z
  obtain ⟨fd0, G0⟩ := c.def_ 0 (d := d__law_begun) rfl
  have F0 : FunS K "_law_begun" "_law_begun" (top 43) [] (He.fAd K ("_law_begun", none)) fd0 := G0
  obtain ⟨fd1, G1⟩ := c.def_ 1 (d := d__law_take) rfl
  have F1 : FunS K "_law_take" "_law_take" (top 44) [] (He.fAd K ("_law_take", none)) fd1 := G1
  obtain ⟨fd2, G2⟩ := c.def_ 2 (d := d__law_people) rfl
  have F2 : FunS K "_law_people" "_law_people" (top 47) [] (He.fAd K ("_law_people", none)) fd2 := G2
  obtain ⟨fd3, G3⟩ := c.def_ 3 (d := d_Book_debts) rfl
  have F3 : FunS K "debts" "Book.debts" (inClass (top 41) 8) [] (He.fAd K ("Book", some "debts")) fd3 := G3
  obtain ⟨fd4, G4⟩ := c.def_ 4 (d := d__law_deed) rfl
  have F4 : FunS K "_law_deed" "_law_deed" (top 48) [] (He.fAd K ("_law_deed", none)) fd4 := G4
  obtain ⟨fd5, G5⟩ := c.def_ 5 (d := d_Book_tick) rfl
  have F5 : FunS K "tick" "Book.tick" (inClass (top 41) 6) [] (He.fAd K ("Book", some "tick")) fd5 := G5
  obtain ⟨fd6, G6⟩ := c.def_ 6 (d := d__law_alike) rfl
  have F6 : FunS K "_law_alike" "_law_alike" (top 45) [] (He.fAd K ("_law_alike", none)) fd6 := G6
  obtain ⟨fd7, G7⟩ := c.def_ 7 (d := d__law_told) rfl
  have F7 : FunS K "_law_told" "_law_told" (top 46) [] (He.fAd K ("_law_told", none)) fd7 := G7
  obtain ⟨fd8, G8⟩ := c.def_ 8 (d := d_is_number) rfl
  have F8 : FunS K "is_number" "is_number" (top 26) [] (He.fAd K ("is_number", none)) fd8 := G8
  obtain ⟨fd9, G9⟩ := c.def_ 9 (d := d_need_one) rfl
  have F9 : FunS K "need_one" "need_one" (top 31) [] (He.fAd K ("need_one", none)) fd9 := G9
  obtain ⟨fd10, G10⟩ := c.def_ 10 (d := d_Book_need_two) rfl
  have F10 : FunS K "need_two" "Book.need_two" (inClass (top 41) 2) [] (He.fAd K ("Book", some "need_two")) fd10 := G10
  obtain ⟨fd11, G11⟩ := c.def_ 11 (d := d_need_kind) rfl
  have F11 : FunS K "need_kind" "need_kind" (top 30) [] (He.fAd K ("need_kind", none)) fd11 := G11
  obtain ⟨fd12, G12⟩ := c.def_ 12 (d := d_Debt___init__) rfl
  have F12 : FunS K "__init__" "Debt.__init__" (inClass (top 40) 0) [] (He.fAd K ("Debt", some "__init__")) fd12 := G12
  obtain ⟨fd13, G13⟩ := c.def_ 13 (d := d_Book_done) rfl
  have F13 : FunS K "done" "Book.done" (inClass (top 41) 3) [] (He.fAd K ("Book", some "done")) fd13 := G13
  obtain ⟨fd14, G14⟩ := c.def_ 14 (d := d_Book_debt) rfl
  have F14 : FunS K "debt" "Book.debt" (inClass (top 41) 1) [] (He.fAd K ("Book", some "debt")) fd14 := G14
  obtain ⟨fd15, G15⟩ := c.def_ 15 (d := d_Book_hand_on) rfl
  have F15 : FunS K "hand_on" "Book.hand_on" (inClass (top 41) 5) [] (He.fAd K ("Book", some "hand_on")) fd15 := G15
  obtain ⟨fd16, G16⟩ := c.def_ 16 (d := d__law_do) rfl
  have F16 : FunS K "_law_do" "_law_do" (top 49) [] (He.fAd K ("_law_do", none)) fd16 := G16
  obtain ⟨fd17, G17⟩ := c.def_ 17 (d := d_Book_now) rfl
  have F17 : FunS K "now" "Book.now" (inClass (top 41) 7) [] (He.fAd K ("Book", some "now")) fd17 := G17
  obtain ⟨fd18, G18⟩ := c.def_ 18 (d := d_is_skill) rfl
  have F18 : FunS K "is_skill" "is_skill" (top 27) [] (He.fAd K ("is_skill", none)) fd18 := G18
  obtain ⟨fd19, G19⟩ := c.def_ 19 (d := d_need_folk) rfl
  have F19 : FunS K "need_folk" "need_folk" (top 28) [] (He.fAd K ("need_folk", none)) fd19 := G19
  obtain ⟨fd20, G20⟩ := c.def_ 20 (d := d_need_counts) rfl
  have F20 : FunS K "need_counts" "need_counts" (top 29) [] (He.fAd K ("need_counts", none)) fd20 := G20
  obtain ⟨fd21, G21⟩ := c.def_ 21 (d := d_Book___init__) rfl
  have F21 : FunS K "__init__" "Book.__init__" (inClass (top 41) 0) [("life", .int 30), ("hops", .int 2)] (He.fAd K ("Book", some "__init__")) fd21 := G21
  obtain ⟨fd22, G22⟩ := c.def_ 22 (d := d_law) rfl
  have F22 : FunS K "law" "law" (top 50) [] (He.fAd K ("law", none)) fd22 := G22
  refine ⟨fd22, F22, fun base htb => ?_⟩
  have o0 := ok_law_begun (P := P) (w := w) (base := base) Y F0
  have g0 := He.glo_ok X G (cx (i := 0) rfl)
  have D__law_begun : DefE P w K mg base CX0 1 "_law_begun" ["_law_script"] (spBegun K) := ⟨_, fd0, g0, F0.kp, o0, FunD.bindsN F0 fun _ _ _ _ _ _ us hl => match us, hl with | [_], _ => rfl⟩
  have o1 := ok_law_take (P := P) (w := w) (base := base) Y F1
  have g1 := He.glo_ok X G (cx (i := 1) rfl)
  have D__law_take : DefE P w K mg base CX0 1 "_law_take" ["_law_box", "_law_many"] (spL 2 takeF) := ⟨_, fd1, g1, F1.kp, o1, FunD.bindsN F1 fun _ _ _ _ _ _ us hl => match us, hl with | [_, _], _ => rfl⟩
  have o2 := ok_law_people (P := P) (w := w) (base := base) Y D__law_take F2
  have g2 := He.glo_ok X G (cx (i := 2) rfl)
  have D__law_people : DefE P w K mg base CX0 2 "_law_people" ["_law_box"] (spL 1 fPeople) := ⟨_, fd2, g2, F2.kp, o2, FunD.bindsN F2 fun _ _ _ _ _ _ us hl => match us, hl with | [_], _ => rfl⟩
  have m3 : ((He.cT K ("Book", some "debts")).2, ("Book.debts.<locals>.<lambda>" : Str)) ∈ tbOf K tbN := List.mem_of_getElem? (i := 0) rfl
  have o3 := ok_Book_debts (P := P) (w := w) (base := base) Y (htb _ (List.mem_of_getElem? (i := 0) rfl)) (code_def F3) (by rw [hT]; exact m3) (by rw [hT]; exact tb_uniq ap m3) F3
  have M_debts : MetE P w K mg base CX0 1 "Book" "debts" ["self"] (spL 1 (fDebts K)) := ⟨_, fd3, He.meth_ok (cx (i := 3) rfl), o3, FunD.bindsN F3 fun _ _ _ _ _ _ us hl => match us, hl with | [_], _ => rfl⟩
  have o4 := ok_law_deed (P := P) (w := w) (base := base) Y D__law_take M_debts F4
  have g4 := He.glo_ok X G (cx (i := 4) rfl)
  have D__law_deed : DefE P w K mg base CX0 2 "_law_deed" ["_law_box", "_law_people_here", "_law_book"] (spL 3 (fDeed K)) := ⟨_, fd4, g4, F4.kp, o4, FunD.bindsN F4 fun _ _ _ _ _ _ us hl => match us, hl with | [_, _, _], _ => rfl⟩
  have o5 := ok_Book_tick (P := P) (w := w) (base := base) Y F5
  have M_tick : MetE P w K mg base CX0 1 "Book" "tick" ["self"] (spL 1 (fTick K)) := ⟨_, fd5, He.meth_ok (cx (i := 5) rfl), o5, FunD.bindsN F5 fun _ _ _ _ _ _ us hl => match us, hl with | [_], _ => rfl⟩
  have g6 := He.glo_ok X G (cx (i := 6) rfl)
  have b6 : L2.Binds K fd6 ["_law_found", "_law_due"] [] := FunD.bindsN F6 fun _ _ _ _ _ _ us hl => match us, hl with | [_, _], _ => rfl
  have o6 := ok_law_alike (P := P) (w := w) (base := base) Y F6 g6 b6
  have D__law_alike : ∀ n, DefE P w K mg base CX0 n "_law_alike" ["_law_found", "_law_due"] (spL 2 (fPure 2 (pAlike n))) := fun n => ⟨_, fd6, g6, F6.kp, o6 n, b6⟩
  have g7 := He.glo_ok X G (cx (i := 7) rfl)
  have D_told := ok_law_told (P := P) (w := w) (base := base) Y RX F7 g7 (FunD.bindsN F7 fun _ _ _ _ _ _ us hl => match us, hl with | [_], _ => rfl)
  have o8 := ok_is_number (P := P) (w := w) (base := base) Y F8
  have g8 := He.glo_ok X G (cx (i := 8) rfl)
  have D_is_number : DefE P w K mg base CX0 1 "is_number" ["part", "low", "high"] (spL 3 (fPure 3 pNum)) := ⟨_, fd8, g8, F8.kp, o8, FunD.bindsN F8 fun _ _ _ _ _ _ us hl => match us, hl with | [_, _, _], _ => rfl⟩
  have o9 := ok_need_one (P := P) (w := w) (base := base) Y D_is_number F9
  have g9 := He.glo_ok X G (cx (i := 9) rfl)
  have D_need_one : DefE P w K mg base (L2.CX P w) 2 "need_one" ["folk", "number"] (spX K 2 xOne) := ⟨_, fd9, g9, F9.kp, o9, FunD.bindsN F9 fun _ _ _ _ _ _ us hl => match us, hl with | [_, _], _ => rfl⟩
  have o10 := ok_Book_need_two (P := P) (w := w) (base := base) Y D_need_one F10
  have M_need_two : MetE P w K mg base (L2.CX P w) 3 "Book" "need_two" ["self", "one", "other"] (spX K 3 (xTwo K)) := ⟨_, fd10, He.meth_ok (cx (i := 10) rfl), o10, FunD.bindsN F10 fun _ _ _ _ _ _ us hl => match us, hl with | [_, _, _], _ => rfl⟩
  have o11 := ok_need_kind (P := P) (w := w) (base := base) Y F11
  have g11 := He.glo_ok X G (cx (i := 11) rfl)
  have D_need_kind : DefE P w K mg base (L2.CX P w) 1 "need_kind" ["kind"] (spX K 1 xKind) := ⟨_, fd11, g11, F11.kp, o11, FunD.bindsN F11 fun _ _ _ _ _ _ us hl => match us, hl with | [_], _ => rfl⟩
  have o12 := ok_Debt___init__ (P := P) (w := w) (base := base) Y F12
  have MD : MkDebt P w K mg base _ fd12 := ⟨mk_debt ct, o12, FunD.bindsN F12 fun _ _ _ _ _ _ us hl => match us, hl with | [_, _, _, _, _], _ => rfl, glo_debt X G ct⟩
  have o13 := ok_Book_done (P := P) (w := w) (base := base) Y M_need_two D_need_kind MD F13
  have M_done : MetE P w K mg base (L2.CX P w) 4 "Book" "done" ["self", "doer", "other", "kind"] (spX K 4 (xDone K)) := ⟨_, fd13, He.meth_ok (cx (i := 12) rfl), o13, FunD.bindsN F13 fun _ _ _ _ _ _ us hl => match us, hl with | [_, _, _, _], _ => rfl⟩
  have o14 := ok_Book_debt (P := P) (w := w) (base := base) Y F14
  have M_debt : MetE P w K mg base (L2.CX P w) 1 "Book" "debt" ["self", "number"] (spX K 2 (xDebt K)) := ⟨_, fd14, He.meth_ok (cx (i := 13) rfl), o14, FunD.bindsN F14 fun _ _ _ _ _ _ us hl => match us, hl with | [_, _], _ => rfl⟩
  have o15 := ok_Book_hand_on (P := P) (w := w) (base := base) Y M_debt D_need_one F15
  have M_hand_on : MetE P w K mg base (L2.CX P w) 3 "Book" "hand_on" ["self", "number", "to"] (spX K 3 (xPass K)) := ⟨_, fd15, He.meth_ok (cx (i := 14) rfl), o15, FunD.bindsN F15 fun _ _ _ _ _ _ us hl => match us, hl with | [_, _, _], _ => rfl⟩
  have m16 : ((He.cT K ("_law_do", none)).2, ("_law_do.<locals>.<lambda>" : Str)) ∈ tbOf K tbN := List.mem_of_getElem? (i := 1) rfl
  have o16 := ok_law_do (P := P) (w := w) (base := base) Y D_told M_tick M_done M_hand_on (htb _ (List.mem_of_getElem? (i := 1) rfl)) (code_def F16) (by rw [hT]; exact m16) (by rw [hT]; exact tb_uniq ap m16) F16
  have g16 := He.glo_ok X G (cx (i := 15) rfl)
  have D__law_do : DefE P w K mg base CX0 7 "_law_do" ["_law_book", "_law_deed_here"] (spL 2 (fDo2 K)) := ⟨_, fd16, g16, F16.kp, o16, FunD.bindsN F16 fun _ _ _ _ _ _ us hl => match us, hl with | [_, _], _ => rfl⟩
  have o17 := ok_Book_now (P := P) (w := w) (base := base) Y F17
  have M_now : MetE P w K mg base CX0 1 "Book" "now" ["self"] (spL 1 (fNow K)) := ⟨_, fd17, He.meth_ok (cx (i := 16) rfl), o17, FunD.bindsN F17 fun _ _ _ _ _ _ us hl => match us, hl with | [_], _ => rfl⟩
  have o18 := ok_is_skill (P := P) (w := w) (base := base) Y F18
  have g18 := He.glo_ok X G (cx (i := 17) rfl)
  have D_is_skill : DefE P w K mg base CX0 1 "is_skill" ["part"] (spL 1 (fPure 1 pSkill)) := ⟨_, fd18, g18, F18.kp, o18, FunD.bindsN F18 fun _ _ _ _ _ _ us hl => match us, hl with | [_], _ => rfl⟩
  have o19 := ok_need_folk (P := P) (w := w) (base := base) Y D_is_skill F19
  have g19 := He.glo_ok X G (cx (i := 18) rfl)
  have D_need_folk : DefE P w K mg base (L2.CX P w) 2 "need_folk" ["folk"] (spX K 1 xFolk) := ⟨_, fd19, g19, F19.kp, o19, FunD.bindsN F19 fun _ _ _ _ _ _ us hl => match us, hl with | [_], _ => rfl⟩
  have o20 := ok_need_counts (P := P) (w := w) (base := base) Y D_is_number F20
  have g20 := He.glo_ok X G (cx (i := 19) rfl)
  have D_need_counts : DefE P w K mg base (L2.CX P w) 2 "need_counts" ["life", "hops"] (spX K 2 xCounts) := ⟨_, fd20, g20, F20.kp, o20, FunD.bindsN F20 fun _ _ _ _ _ _ us hl => match us, hl with | [_, _], _ => rfl⟩
  have o21 := ok_Book___init__ (P := P) (w := w) (base := base) Y D_need_folk D_need_counts F21
  have MB : MkBook P w K mg base _ fd21 := ⟨mk_book ct, o21, FunD.kbn F21 fun _ _ _ _ _ _ us ws h1 h2 => match us, ws, h1, h2 with | [_, _], [_, _], _, _ => rfl, glo_book X G ct⟩
  have o22 := ok_law (P := P) (w := w) (base := base) Y D__law_begun D__law_people D__law_take D__law_deed M_debts M_tick D__law_alike D__law_do M_now MB F22
  exact o22
end
end Fb
open PySem PySem.W PySem.Calls PyProof.Rows
theorem PySem.Challenge.cw_favourbook_k17_whole_lives_and_ticks_holds : PySem.Challenge.rw_favourbook_k17_whole_lives_and_ticks.Holds := by
  w_on; o_law
  refine HandSHeadRun.head_any (r := OpenLaw.row PySem.Challenge.rw_favourbook_k17_whole_lives_and_ticks) (q := view (OpenLaw.row PySem.Challenge.rw_favourbook_k17_whole_lives_and_ticks).prog [50]) (H := Fb.hk) (ob := Fb.ob) (M := 20000) (loose := Fb.loose) (d := HandSHeadRun.topDef (OpenLaw.row PySem.Challenge.rw_favourbook_k17_whole_lives_and_ticks).prog 50) (kwd := []) Fb.ob_eq
    (by kernel_rfl) (fun s => by kernel_rfl) Fb.run (by kernel_rfl) (by kernel_rfl) (by kernel_rfl) (by rfl) (by first | assumption | decide +kernel) (by decide +kernel) ⟨rfl, rfl, rfl, rfl, rfl, by decide +kernel⟩ ?hw ?hc
  case hw => w_witness2
  case hc =>
    refine LamX.walk_ofTsE (l := PySem.Challenge.rw_favourbook_k17_whole_lives_and_ticks) (n := 63) (k := 30) (x := "_law_script") (CX := fun _ => L2.CX0) rfl (by decide) (by kernel_rfl) ⟨rfl, by decide, by decide⟩ ?F (fun _ _ _ _ _ z => z)
    intro w mg fa h Yx G hmg0
    obtain ⟨K, KX, c⟩ := Yx
    have hmg : mg ("law" : PySem.Str) = some (.ref fa) := by
      have e : (HandSHeadRun.topDef (OpenLaw.row PySem.Challenge.rw_favourbook_k17_whole_lives_and_ticks).prog 50).name = ("law" : PySem.Str) := by kernel_rfl
      rw [← e]
      exact hmg0
    have cd := c.t.d
    letI tI : Fb.Tb := ⟨Fb.tbOf K Fb.tbN⟩
    obtain ⟨fd, F, hF⟩ := Fb.facts (P := (PySem.Challenge.rw_favourbook_k17_whole_lives_and_ticks).prog) (w := w) KX G cd c.more rfl
    have gl := He.glo_ok KX G (cd.facts (f := .glo "law") (List.mem_append_right _ (List.mem_of_getElem? (i := 20) rfl)))
    have ef : fa = He.fAd K ("law", none) := by
      have z := hmg.symm.trans gl
      cases z
      rfl
    subst ef
    refine ⟨K, KX, fd, Fb.tf.map (He.cT K), Fb.spLaw K, fun p hp => ?_, fun p hp => ?_, fun p hp => ?_, fun s u => ?_, fun H a ns hl hb ht hS => ?_, fun base _ _ htb => hF base htb⟩
    · obtain ⟨q, hq, rfl⟩ := List.mem_map.mp hp
      exact c.empty q hq
    · obtain ⟨q, hq, rfl⟩ := List.mem_map.mp hp
      exact c.out q hq
    · obtain ⟨q, hq, rfl⟩ := List.mem_map.mp hp
      exact PySem.W.codeHd_of_K KX (c.hd q hq)
    · exact L2.FunD.bindsA (ps := ["_law_script"]) F (fun _ _ _ _ _ _ us hl => match us, hl with | [_], _ => rfl) s [u] rfl
    · refine ⟨a, ns, rfl, hS, hl, hb, fun p hp => ?_, fun _ => rfl⟩
      obtain ⟨q, hq, rfl⟩ := List.mem_map.mp hp
      exact LamX.TabS.nil (ht (He.cT K (q.1, q.2.1)) (List.mem_map.mpr ⟨_, List.mem_map.mpr ⟨q, hq, rfl⟩, rfl⟩))

